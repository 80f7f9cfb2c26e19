import PyProof.Rows.All
import Wide.All
import OpenK.AllK
import Wide.FinOn
import HandS.ForMost
import HandS.IsInst
import HandS.Defaults
import HandS.HeadEnd
import HandS.HeadHook1
import HandS.HeadHook2
import HandS.HeadHook3
import HandS.HeadHook4
import HandS.Head0
import HandS.Head1
import HandS.Head2
import PySem.Challenge.RW_swornon_k00_words_of_a_row
set_option Elab.async false
set_option linter.all false
set_option maxRecDepth 100000
set_option maxHeartbeats 4000000
/-! VS: values as data trees over the hand layer. -/
namespace VS
open PySem PySem.Spec PyProof.Rows L2

/-- shared data: never changes -/
inductive D where
  | non | bl (b : Bool) | int (i : Int) | str (x : Str) | lst (xs : List D) | tup (xs : List D)
/-- a tree that is owned down to its shared leaves -/
inductive T where
  | sh (d : D) | lst (ts : List T) | tup (ts : List T)

mutual
def fz : T → D
  | .sh d => d
  | .lst ts => .lst (fzL ts)
  | .tup ts => .tup (fzL ts)
def fzL : List T → List D
  | [] => []
  | t :: ts => fz t :: fzL ts
end
theorem fzL_map (ts : List T) : fzL ts = ts.map fz := by
  induction ts with
  | nil => rfl
  | cons t ts ih => rw [fzL, ih]; rfl
/-- all children shared -/
def shAll : List T → Bool
  | [] => true
  | .sh _ :: ts => shAll ts
  | _ :: _ => false
def flat : T → Bool
  | .sh _ => true
  | .lst ts => shAll ts
  | .tup ts => shAll ts

section
variable (K : PySem.W.Frag) (G : Hp)
mutual
def Rep : V → D → Prop
  | v, .non => v = .non
  | v, .bl b => v = .bl b
  | v, .int i => v = .int i
  | v, .str x => v = .str x
  | v, .lst ds => ∃ a vs, v = .ref a ∧ SqL K G a vs ∧ Reps vs ds
  | v, .tup ds => ∃ a vs, v = .ref a ∧ SqT K G a vs ∧ Reps vs ds
def Reps : List V → List D → Prop
  | [], [] => True
  | v :: vs, d :: ds => Rep v d ∧ Reps vs ds
  | _, _ => False
end
end
section
variable (K : PySem.W.Frag) (G H : Hp)
mutual
def Own : V → T → List Addr → Prop
  | v, .sh d, fp => fp = [] ∧ Rep K G v d
  | v, .lst ts, fp => ∃ a vs f, v = .ref a ∧ fp = a :: f ∧ H a = some (.lst vs) ∧ Owns vs ts f
  | v, .tup ts, fp => ∃ a vs f, v = .ref a ∧ fp = a :: f ∧ H a = some (.tup vs) ∧ Owns vs ts f
def Owns : List V → List T → List Addr → Prop
  | [], [], fp => fp = []
  | v :: vs, t :: ts, fp => ∃ f g, fp = f ++ g ∧ Own v t f ∧ Owns vs ts g
  | _, _, _ => False
end
end

section
variable {K : PySem.W.Frag} {G G' H H' : Hp}
theorem Same.sqT {a : Addr} {xs : List V} (e : Same G G') (h : SqT K G a xs) : SqT K G' a xs := by
  rcases h with (h | ⟨o, h⟩) | h
  · exact .inl (.inl (e _ _ h))
  · exact .inl (.inr ⟨o, e _ _ h⟩)
  · exact .inr h
mutual
theorem Rep.mono (e : Same G G') : ∀ (d : D) (v : V), Rep K G v d → Rep K G' v d
  | .non, _, h => h
  | .bl _, _, h => h
  | .int _, _, h => h
  | .str _, _, h => h
  | .lst ds, v, h => by
    obtain ⟨a, vs, h1, h2, h3⟩ := h
    exact ⟨a, vs, h1, e.seq h2, Reps.mono e ds vs h3⟩
  | .tup ds, v, h => by
    obtain ⟨a, vs, h1, h2, h3⟩ := h
    exact ⟨a, vs, h1, Same.sqT e h2, Reps.mono e ds vs h3⟩
theorem Reps.mono (e : Same G G') : ∀ (ds : List D) (vs : List V), Reps K G vs ds → Reps K G' vs ds
  | [], [], _ => trivial
  | d :: ds, v :: vs, h => ⟨Rep.mono e d v h.1, Reps.mono e ds vs h.2⟩
  | [], _ :: _, h => h.elim
  | _ :: _, [], h => h.elim
end
theorem Reps.length : ∀ {ds : List D} {vs : List V}, Reps K G vs ds → vs.length = ds.length
  | [], [], _ => rfl
  | _ :: ds, _ :: vs, h => congrArg (· + 1) (Reps.length h.2)
  | [], _ :: _, h => h.elim
  | _ :: _, [], h => h.elim
theorem Owns.length : ∀ {ts : List T} {vs : List V} {fp : List Addr}, Owns K G H vs ts fp → vs.length = ts.length
  | [], [], _, _ => rfl
  | _ :: ts, _ :: vs, _, h => by
    obtain ⟨_, _, _, _, h⟩ := h
    exact congrArg (· + 1) (Owns.length h)
  | [], _ :: _, _, h => h.elim
  | _ :: _, [], _, h => h.elim
mutual
/-- every owned address is tracked -/
theorem Own.trk : ∀ {t : T} {v : V} {fp : List Addr}, Own K G H v t fp → ∀ a ∈ fp, H a ≠ none
  | .sh d, v, fp, h, a, ha => by rw [h.1] at ha; cases ha
  | .lst ts, v, fp, h, a, ha => by
    obtain ⟨b, vs, f, _, rfl, hb, h⟩ := h
    rcases List.mem_cons.mp ha with rfl | ha
    · rw [hb]; exact fun z => nomatch z
    · exact Owns.trk h a ha
  | .tup ts, v, fp, h, a, ha => by
    obtain ⟨b, vs, f, _, rfl, hb, h⟩ := h
    rcases List.mem_cons.mp ha with rfl | ha
    · rw [hb]; exact fun z => nomatch z
    · exact Owns.trk h a ha
theorem Owns.trk : ∀ {ts : List T} {vs : List V} {fp : List Addr}, Owns K G H vs ts fp → ∀ a ∈ fp, H a ≠ none
  | [], [], fp, h, a, ha => by rw [show fp = [] from h] at ha; cases ha
  | t :: ts, v :: vs, fp, h, a, ha => by
    obtain ⟨f, g, rfl, h1, h2⟩ := h
    rcases List.mem_append.mp ha with ha | ha
    · exact Own.trk h1 a ha
    · exact Owns.trk h2 a ha
  | [], _ :: _, _, h, _, _ => h.elim
  | _ :: _, [], _, h, _, _ => h.elim
end
mutual
/-- the owned addresses stand, what is shared stands -/
theorem Own.mono (e : Same G G') : ∀ {t : T} {v : V} {fp : List Addr}, (∀ a ∈ fp, H' a = H a) → Own K G H v t fp → Own K G' H' v t fp
  | .sh d, v, fp, _, h => ⟨h.1, Rep.mono e d v h.2⟩
  | .lst ts, v, fp, k, h => by
    obtain ⟨b, vs, f, h1, rfl, hb, h⟩ := h
    exact ⟨b, vs, f, h1, rfl, (k b List.mem_cons_self).trans hb, Owns.mono e (fun a ha => k a (List.mem_cons_of_mem _ ha)) h⟩
  | .tup ts, v, fp, k, h => by
    obtain ⟨b, vs, f, h1, rfl, hb, h⟩ := h
    exact ⟨b, vs, f, h1, rfl, (k b List.mem_cons_self).trans hb, Owns.mono e (fun a ha => k a (List.mem_cons_of_mem _ ha)) h⟩
theorem Owns.mono (e : Same G G') : ∀ {ts : List T} {vs : List V} {fp : List Addr}, (∀ a ∈ fp, H' a = H a) → Owns K G H vs ts fp → Owns K G' H' vs ts fp
  | [], [], fp, _, h => h
  | t :: ts, v :: vs, fp, k, h => by
    obtain ⟨f, g, rfl, h1, h2⟩ := h
    exact ⟨f, g, rfl, Own.mono e (fun a ha => k a (List.mem_append_left _ ha)) h1, Owns.mono e (fun a ha => k a (List.mem_append_right _ ha)) h2⟩
  | [], _ :: _, _, _, h => h.elim
  | _ :: _, [], _, _, h => h.elim
end
mutual
/-- frozen: the owned addresses are among the shared ones -/
theorem Own.fz (e : Same G G') : ∀ {t : T} {v : V} {fp : List Addr}, (∀ a ∈ fp, G' a = H a) → Own K G H v t fp → Rep K G' v (VS.fz t)
  | .sh d, v, fp, _, h => Rep.mono e d v h.2
  | .lst ts, v, fp, k, h => by
    obtain ⟨b, vs, f, h1, rfl, hb, h⟩ := h
    exact ⟨b, vs, h1, SqL.of ((k b List.mem_cons_self).trans hb), Owns.fz e (fun a ha => k a (List.mem_cons_of_mem _ ha)) h⟩
  | .tup ts, v, fp, k, h => by
    obtain ⟨b, vs, f, h1, rfl, hb, h⟩ := h
    exact ⟨b, vs, h1, SqT.of ((k b List.mem_cons_self).trans hb), Owns.fz e (fun a ha => k a (List.mem_cons_of_mem _ ha)) h⟩
theorem Owns.fz (e : Same G G') : ∀ {ts : List T} {vs : List V} {fp : List Addr}, (∀ a ∈ fp, G' a = H a) → Owns K G H vs ts fp → Reps K G' vs (fzL ts)
  | [], [], fp, _, h => trivial
  | t :: ts, v :: vs, fp, k, h => by
    obtain ⟨f, g, rfl, h1, h2⟩ := h
    exact ⟨Own.fz e (fun a ha => k a (List.mem_append_left _ ha)) h1, Owns.fz e (fun a ha => k a (List.mem_append_right _ ha)) h2⟩
  | [], _ :: _, _, _, h => h.elim
  | _ :: _, [], _, _, h => h.elim
end
end

/-! ### pairs: what is held -/
abbrev Ps := List (V × T)
def OwnP (K : PySem.W.Frag) (G H : Hp) : Ps → List Addr → Prop
  | [], fp => fp = []
  | p :: ps, fp => ∃ f g, fp = f ++ g ∧ Own K G H p.1 p.2 f ∧ OwnP K G H ps g
/-- more owned addresses own, whose content is not told -/
def AtA (K : PySem.W.Frag) (H : Hp) (own : List Addr) (ps : Ps) : Prop :=
  ∃ (G : Hp) (fp : List Addr), Same G H ∧ OwnP K G H ps fp ∧ (own ++ fp).Nodup ∧ (∀ a ∈ own ++ fp, G a = none) ∧ ∀ a ∈ own, H a ≠ none
def At (K : PySem.W.Frag) (H : Hp) (ps : Ps) : Prop := AtA K H [] ps

section
variable {K : PySem.W.Frag} {G G' H H' : Hp}
theorem OwnP.trk : ∀ {ps : Ps} {fp : List Addr}, OwnP K G H ps fp → ∀ a ∈ fp, H a ≠ none
  | [], fp, h, a, ha => by rw [show fp = [] from h] at ha; cases ha
  | p :: ps, fp, h, a, ha => by
    obtain ⟨f, g, rfl, h1, h2⟩ := h
    rcases List.mem_append.mp ha with ha | ha
    · exact h1.trk a ha
    · exact OwnP.trk h2 a ha
theorem OwnP.mono (e : Same G G') : ∀ {ps : Ps} {fp : List Addr}, (∀ a ∈ fp, H' a = H a) → OwnP K G H ps fp → OwnP K G' H' ps fp
  | [], fp, _, h => h
  | p :: ps, fp, k, h => by
    obtain ⟨f, g, rfl, h1, h2⟩ := h
    exact ⟨f, g, rfl, h1.mono e fun a ha => k a (List.mem_append_left _ ha), OwnP.mono e (fun a ha => k a (List.mem_append_right _ ha)) h2⟩
theorem OwnP.append : ∀ {ps qs : Ps} {f g : List Addr}, OwnP K G H ps f → OwnP K G H qs g → OwnP K G H (ps ++ qs) (f ++ g)
  | [], qs, f, g, h, h' => by rw [show f = [] from h]; exact h'
  | p :: ps, qs, f, g, h, h' => by
    obtain ⟨f1, f2, rfl, h1, h2⟩ := h
    exact ⟨f1, f2 ++ g, List.append_assoc .., h1, OwnP.append h2 h'⟩
theorem OwnP.split : ∀ {ps qs : Ps} {fp : List Addr}, OwnP K G H (ps ++ qs) fp → ∃ f g, fp = f ++ g ∧ OwnP K G H ps f ∧ OwnP K G H qs g
  | [], qs, fp, h => ⟨[], fp, rfl, rfl, h⟩
  | p :: ps, qs, fp, h => by
    obtain ⟨f1, f2, rfl, h1, h2⟩ := h
    obtain ⟨f3, f4, rfl, h3, h4⟩ := OwnP.split h2
    exact ⟨f1 ++ f3, f4, (List.append_assoc ..).symm, ⟨f1, f3, rfl, h1, h3⟩, h4⟩
theorem OwnP.perm {ps qs : Ps} (p : ps.Perm qs) : ∀ {fp : List Addr}, OwnP K G H ps fp → ∃ fp', fp.Perm fp' ∧ OwnP K G H qs fp' := by
  induction p with
  | nil => exact fun h => ⟨_, .refl _, h⟩
  | cons x _ ih =>
    intro fp h
    obtain ⟨f, g, rfl, h1, h2⟩ := h
    obtain ⟨g', p, h3⟩ := ih h2
    exact ⟨f ++ g', p.append_left f, f, g', rfl, h1, h3⟩
  | swap x y l =>
    intro fp h
    obtain ⟨f, g, rfl, h1, f2, g2, rfl, h2, h3⟩ := h
    refine ⟨f2 ++ (f ++ g2), ?_, f2, f ++ g2, rfl, h2, f, g2, rfl, h1, h3⟩
    rw [← List.append_assoc, ← List.append_assoc]
    exact List.perm_append_comm.append_right g2
  | trans _ _ ih1 ih2 =>
    intro fp h
    obtain ⟨f1, p1, h1⟩ := ih1 h
    obtain ⟨f2, p2, h2⟩ := ih2 h1
    exact ⟨f2, p1.trans p2, h2⟩
theorem Owns.toP : ∀ {ts : List T} {vs : List V} {fp : List Addr}, Owns K G H vs ts fp → OwnP K G H (vs.zip ts) fp
  | [], [], _, h => h
  | t :: ts, v :: vs, _, h => by
    obtain ⟨f, g, e, h1, h2⟩ := h
    exact ⟨f, g, e, h1, Owns.toP h2⟩
  | [], _ :: _, _, h => h.elim
  | _ :: _, [], _, h => h.elim
theorem OwnP.toS : ∀ {ts : List T} {vs : List V} {fp : List Addr}, vs.length = ts.length → OwnP K G H (vs.zip ts) fp → Owns K G H vs ts fp
  | [], [], _, _, h => h
  | t :: ts, v :: vs, _, l, h => by
    obtain ⟨f, g, e, h1, h2⟩ := h
    exact ⟨f, g, e, h1, OwnP.toS (Nat.succ.inj l) h2⟩
  | [], _ :: _, _, l, _ => nomatch l
  | _ :: _, [], _, l, _ => nomatch l
variable {own : List Addr} {ps qs : Ps}
theorem AtA.perm (h : AtA K H own ps) (p : ps.Perm qs) : AtA K H own qs := by
  obtain ⟨G, fp, s, o, n, g, x⟩ := h
  obtain ⟨fp', q, o'⟩ := o.perm p
  refine ⟨G, fp', s, o', ?_, fun a ha => g a ?_, x⟩
  · exact (q.append_left own).nodup_iff.mp n
  · exact (q.append_left own).mem_iff.mpr ha
theorem AtA.drop (h : AtA K H own (ps ++ qs)) : AtA K H own qs := by
  obtain ⟨G, fp, s, o, n, g, x⟩ := h
  obtain ⟨f1, f2, rfl, _, o2⟩ := o.split
  have sub : (own ++ f2).Sublist (own ++ (f1 ++ f2)) := List.Sublist.append_left (List.sublist_append_right f1 f2) own
  exact ⟨G, f2, s, o2, n.sublist sub, fun a ha => g a (sub.subset ha), x⟩
/-- one may be forgotten -/
theorem At.perm (h : At K H ps) (p : ps.Perm qs) : At K H qs := AtA.perm h p
theorem At.drop (h : At K H (ps ++ qs)) : At K H qs := AtA.drop h
theorem At.tail {p : V × T} (h : At K H (p :: ps)) : At K H ps := AtA.drop (ps := [p]) h
/-- a part of what is held -/
def Sub (qs ps : Ps) : Prop := ∃ l, ps.Perm (l ++ qs)
theorem Sub.refl : Sub ps ps := ⟨[], .refl _⟩
theorem Sub.of_perm (p : ps.Perm qs) : Sub qs ps := ⟨[], p⟩
theorem Sub.trans {rs : Ps} (a : Sub rs qs) (b : Sub qs ps) : Sub rs ps := by
  obtain ⟨l, p⟩ := a
  obtain ⟨m, q⟩ := b
  refine ⟨m ++ l, q.trans ?_⟩
  rw [List.append_assoc]
  exact p.append_left m
theorem Sub.cons {p : V × T} (a : Sub qs ps) : Sub (p :: qs) (p :: ps) := by
  obtain ⟨l, q⟩ := a
  exact ⟨l, (q.cons p).trans List.perm_middle.symm⟩
theorem Sub.skip {p : V × T} (a : Sub qs ps) : Sub qs (p :: ps) := by
  obtain ⟨l, q⟩ := a
  exact ⟨p :: l, q.cons p⟩
theorem Sub.append_right (a : Sub qs ps) (rs : Ps) : Sub (qs ++ rs) (ps ++ rs) := by
  obtain ⟨l, q⟩ := a
  refine ⟨l, ?_⟩
  rw [← List.append_assoc]
  exact q.append_right rs
theorem Sub.append_left (rs : Ps) (a : Sub qs ps) : Sub (rs ++ qs) (rs ++ ps) := by
  induction rs with
  | nil => exact a
  | cons r rs ih => exact ih.cons
theorem AtA.sub (h : AtA K H own ps) (s : Sub qs ps) : AtA K H own qs := by
  obtain ⟨l, p⟩ := s
  exact (h.perm p).drop
theorem At.sub (h : At K H ps) (s : Sub qs ps) : At K H qs := AtA.sub h s

/-- shared data may be doubled -/
theorem At.dup {v : V} {d : D} (h : At K H ((v, .sh d) :: ps)) : At K H ((v, .sh d) :: (v, .sh d) :: ps) := by
  obtain ⟨G, fp, s, ⟨f, g, rfl, ⟨rfl, o1⟩, o2⟩, n, e, x⟩ := h
  exact ⟨G, [] ++ ([] ++ g), s, ⟨[], _, rfl, ⟨rfl, o1⟩, [], g, rfl, ⟨rfl, o1⟩, o2⟩, n, e, x⟩
/-- a scalar -/
def scalD : D → Bool
  | .lst _ => false
  | .tup _ => false
  | _ => true
theorem At.new {v : V} {d : D} (h : At K H ps) (r : ∀ G, Rep K G v d) : At K H ((v, .sh d) :: ps) := by
  obtain ⟨G, fp, s, o, n, e, x⟩ := h
  exact ⟨G, fp, s, ⟨[], fp, rfl, ⟨rfl, r G⟩, o⟩, n, e, x⟩
/-- what is held of shared data, at the heap -/
theorem At.rep {v : V} {d : D} (h : At K H ((v, .sh d) :: ps)) : Rep K H v d := by
  obtain ⟨G, fp, s, ⟨f, g, rfl, ⟨rfl, o1⟩, o2⟩, n, e, x⟩ := h
  exact Rep.mono s d v o1
/-- the children of shared data -/
theorem At.kids {v : V} {ds : List D} (h : At K H ((v, .sh (.lst ds)) :: ps)) : ∃ a vs, v = .ref a ∧ SqL K H a vs ∧ vs.length = ds.length ∧ At K H (vs.zip (ds.map .sh) ++ ps) := by
  obtain ⟨G, fp, s, ⟨f, g, rfl, ⟨rfl, a, vs, rfl, q, r⟩, o2⟩, n, e, x⟩ := h
  have all : ∀ (ds : List D) (vs : List V), Reps K G vs ds → OwnP K G H (vs.zip (ds.map T.sh)) [] := by
    intro ds
    induction ds with
    | nil => intro vs _; cases vs <;> rfl
    | cons d ds ih =>
      intro vs r
      cases vs with
      | nil => rfl
      | cons v vs => exact ⟨[], [], rfl, ⟨rfl, r.1⟩, ih vs r.2⟩
  exact ⟨a, vs, rfl, s.seq q, r.length, G, g, s, (all ds vs r).append o2, n, e, x⟩
theorem At.kidsT {v : V} {ds : List D} (h : At K H ((v, .sh (.tup ds)) :: ps)) : ∃ a vs, v = .ref a ∧ SqT K H a vs ∧ vs.length = ds.length ∧ At K H (vs.zip (ds.map .sh) ++ ps) := by
  obtain ⟨G, fp, s, ⟨f, g, rfl, ⟨rfl, a, vs, rfl, q, r⟩, o2⟩, n, e, x⟩ := h
  have all : ∀ (ds : List D) (vs : List V), Reps K G vs ds → OwnP K G H (vs.zip (ds.map T.sh)) [] := by
    intro ds
    induction ds with
    | nil => intro vs _; cases vs <;> rfl
    | cons d ds ih =>
      intro vs r
      cases vs with
      | nil => rfl
      | cons v vs => exact ⟨[], [], rfl, ⟨rfl, r.1⟩, ih vs r.2⟩
  exact ⟨a, vs, rfl, Same.sqT s q, r.length, G, g, s, (all ds vs r).append o2, n, e, x⟩
/-- frozen -/
theorem At.freeze {v : V} {t : T} (h : At K H ((v, t) :: ps)) : At K H ((v, .sh (fz t)) :: ps) := by
  obtain ⟨G, fp, s, ⟨f, g, rfl, o1, o2⟩, n, e, x⟩ := h
  have nd : (f ++ g).Nodup := n
  have e0 : ∀ a ∈ f ++ g, G a = none := e
  let G' : Hp := fun a => if a ∈ f then H a else G a
  have s1 : Same G G' := fun a o q => by
    show (if a ∈ f then H a else G a) = some o
    by_cases ha : a ∈ f
    · rw [if_pos ha]; exact s a o q
    · rw [if_neg ha]; exact q
  have s2 : Same G' H := fun a o q => by
    have q' : (if a ∈ f then H a else G a) = some o := q
    by_cases ha : a ∈ f
    · rw [if_pos ha] at q'; exact q'
    · rw [if_neg ha] at q'; exact s a o q'
  have r := o1.fz s1 fun a ha => (if_pos ha : (if a ∈ f then H a else G a) = H a)
  refine ⟨G', g, s2, ⟨[], g, rfl, ⟨rfl, r⟩, o2.mono s1 fun _ _ => rfl⟩, (List.nodup_append.mp nd).2.1, fun a ha => ?_, fun a ha => nomatch ha⟩
  have ha : a ∈ g := ha
  have hf : a ∉ f := fun z => (List.nodup_append.mp nd).2.2 a z a ha rfl
  show (if a ∈ f then H a else G a) = none
  rw [if_neg hf]
  exact e0 a (List.mem_append_right _ ha)
/-- a new object of owned children -/
theorem At.newL {vs : List V} {ts : List T} {p : Addr} (h : At K H (vs.zip ts ++ ps)) (l : vs.length = ts.length) (hp : H p = none) : At K (upd H p (.lst vs)) ((.ref p, .lst ts) :: ps) := by
  obtain ⟨G, fp, s, o, n, e, x⟩ := h
  obtain ⟨f, g, rfl, o1, o2⟩ := o.split
  have np : ∀ a ∈ f ++ g, a ≠ p := fun a ha z => by
    subst z
    rcases List.mem_append.mp ha with ha | ha
    · exact o1.trk a ha hp
    · exact o2.trk a ha hp
  have k : ∀ a ∈ f ++ g, upd H p (.lst vs) a = H a := fun a ha => upd_ne (np a ha)
  have gp : G p = none := s.free hp
  refine ⟨G, (p :: f) ++ g, s.trans fun b o q => by rw [upd_ne (ne_of_none q hp)]; exact q, ⟨p :: f, g, rfl, ⟨p, vs, f, rfl, rfl, upd_same, (o1.toS l).mono (Same.refl _) fun a ha => k a (List.mem_append_left _ ha)⟩, o2.mono (Same.refl _) fun a ha => k a (List.mem_append_right _ ha)⟩,
    ?_, fun a ha => ?_, fun a ha => nomatch ha⟩
  · show (p :: (f ++ g)).Nodup
    exact List.nodup_cons.mpr ⟨fun z => np p z rfl, n⟩
  · have ha : a ∈ p :: (f ++ g) := ha
    rcases List.mem_cons.mp ha with rfl | ha
    · exact gp
    · exact e a ha
theorem At.newT {vs : List V} {ts : List T} {p : Addr} (h : At K H (vs.zip ts ++ ps)) (l : vs.length = ts.length) (hp : H p = none) : At K (upd H p (.tup vs)) ((.ref p, .tup ts) :: ps) := by
  obtain ⟨G, fp, s, o, n, e, x⟩ := h
  obtain ⟨f, g, rfl, o1, o2⟩ := o.split
  have np : ∀ a ∈ f ++ g, a ≠ p := fun a ha z => by
    subst z
    rcases List.mem_append.mp ha with ha | ha
    · exact o1.trk a ha hp
    · exact o2.trk a ha hp
  have k : ∀ a ∈ f ++ g, upd H p (.tup vs) a = H a := fun a ha => upd_ne (np a ha)
  have gp : G p = none := s.free hp
  refine ⟨G, (p :: f) ++ g, s.trans fun b o q => by rw [upd_ne (ne_of_none q hp)]; exact q, ⟨p :: f, g, rfl, ⟨p, vs, f, rfl, rfl, upd_same, (o1.toS l).mono (Same.refl _) fun a ha => k a (List.mem_append_left _ ha)⟩, o2.mono (Same.refl _) fun a ha => k a (List.mem_append_right _ ha)⟩,
    ?_, fun a ha => ?_, fun a ha => nomatch ha⟩
  · show (p :: (f ++ g)).Nodup
    exact List.nodup_cons.mpr ⟨fun z => np p z rfl, n⟩
  · have ha : a ∈ p :: (f ++ g) := ha
    rcases List.mem_cons.mp ha with rfl | ha
    · exact gp
    · exact e a ha
/-- an owned list opened: its address, its children -/
theorem At.open {v : V} {ts : List T} (h : At K H ((v, .lst ts) :: ps)) : ∃ a vs, v = .ref a ∧ H a = some (.lst vs) ∧ vs.length = ts.length ∧ AtA K H [a] (vs.zip ts ++ ps) := by
  obtain ⟨G, fp, s, ⟨f, g, rfl, ⟨a, vs, f', rfl, rfl, ha, o1⟩, o2⟩, n, e, x⟩ := h
  refine ⟨a, vs, rfl, ha, o1.length, G, f' ++ g, s, o1.toP.append o2, n, e, fun b hb => ?_⟩
  rw [List.mem_singleton.mp hb, ha]
  exact fun z => nomatch z
theorem At.openT {v : V} {ts : List T} (h : At K H ((v, .tup ts) :: ps)) : ∃ a vs, v = .ref a ∧ H a = some (.tup vs) ∧ vs.length = ts.length ∧ AtA K H [a] (vs.zip ts ++ ps) := by
  obtain ⟨G, fp, s, ⟨f, g, rfl, ⟨a, vs, f', rfl, rfl, ha, o1⟩, o2⟩, n, e, x⟩ := h
  refine ⟨a, vs, rfl, ha, o1.length, G, f' ++ g, s, o1.toP.append o2, n, e, fun b hb => ?_⟩
  rw [List.mem_singleton.mp hb, ha]
  exact fun z => nomatch z
/-- .. and closed again -/
theorem AtA.closeL {a : Addr} {vs : List V} {ts : List T} (h : AtA K H [a] (vs.zip ts ++ ps)) (l : vs.length = ts.length) : At K (upd H a (.lst vs)) ((.ref a, .lst ts) :: ps) := by
  obtain ⟨G, fp, s, o, n, e, x⟩ := h
  obtain ⟨f, g, rfl, o1, o2⟩ := o.split
  have n' : (a :: (f ++ g)).Nodup := n
  have np : ∀ b ∈ f ++ g, b ≠ a := fun b hb z => by
    subst z
    exact (List.nodup_cons.mp n').1 hb
  have k : ∀ b ∈ f ++ g, upd H a (.lst vs) b = H b := fun b hb => upd_ne (np b hb)
  have ga : G a = none := e a (List.mem_cons_self)
  refine ⟨G, (a :: f) ++ g, fun b o q => ?_, ⟨a :: f, g, rfl, ⟨a, vs, f, rfl, rfl, upd_same, (o1.toS l).mono (Same.refl _) fun b hb => k b (List.mem_append_left _ hb)⟩, o2.mono (Same.refl _) fun b hb => k b (List.mem_append_right _ hb)⟩, n', e, fun b hb => nomatch hb⟩
  rw [upd_ne (ne_of_none q ga)]
  exact s b o q
theorem AtA.closed {a : Addr} {vs : List V} {ts : List T} (h : AtA K H [a] (vs.zip ts ++ ps)) (l : vs.length = ts.length) (ha : H a = some (.lst vs)) : At K H ((.ref a, .lst ts) :: ps) := by
  have q := h.closeL l
  have e : upd H a (.lst vs) = H := by
    funext b
    by_cases hb : b = a
    · rw [hb, upd_same, ha]
    · rw [upd_ne hb]
  rw [e] at q
  exact q
/-- forget the address -/
theorem AtA.at {own : List Addr} (h : AtA K H own ps) : At K H ps := by
  obtain ⟨G, fp, s, o, n, e, x⟩ := h
  exact ⟨G, fp, s, o, (List.nodup_append.mp n).2.1, fun a ha => e a (List.mem_append_right _ ha), fun a ha => nomatch ha⟩
end
end VS
/-! VS: the judgements; names, constants, operators. -/
namespace VS
open PySem PySem.Spec PyProof.Rows L2

abbrev St := L2.St
abbrev Sto := List (Option T)
def Fit : St → Sto → Prop
  | [], [] => True
  | some _ :: σ, _ :: S => Fit σ S
  | none :: σ, none :: S => Fit σ S
  | _, _ => False
def prs : St → Sto → Ps
  | some v :: σ, some t :: S => (v, t) :: prs σ S
  | _ :: σ, _ :: S => prs σ S
  | _, _ => []
theorem Fit.length : ∀ {σ : St} {S : Sto}, Fit σ S → σ.length = S.length
  | [], [], _ => rfl
  | some _ :: σ, _ :: S, h => congrArg (· + 1) (Fit.length (σ := σ) (S := S) h)
  | none :: σ, none :: S, h => congrArg (· + 1) (Fit.length (σ := σ) (S := S) h)
  | none :: _, some _ :: _, h => h.elim
  | [], _ :: _, h => h.elim
  | some _ :: _, [], h => h.elim
  | none :: _, [], h => h.elim
/-- a slot's tree is taken -/
theorem Fit.take : ∀ {σ : St} {S : Sto} {i : Nat} {t : T}, Fit σ S → S[i]? = some (some t) → ∃ v, σ[i]? = some (some v) ∧ (prs σ S).Perm ((v, t) :: prs σ (S.set i none)) ∧ Fit σ (S.set i none)
  | [], [], i, t, _, h => by simp at h
  | some v :: σ, o :: S, 0, t, f, h => by
    have h' : o = some t := by simpa using h
    subst h'
    exact ⟨v, rfl, .refl _, f⟩
  | none :: σ, none :: S, 0, t, f, h => by simp at h
  | some v :: σ, some u :: S, i + 1, t, f, h => by
    obtain ⟨w, h1, h2, h3⟩ := Fit.take (σ := σ) (S := S) (i := i) f (by simpa using h)
    exact ⟨w, by simpa using h1, (h2.cons _).trans (.swap ..), h3⟩
  | some v :: σ, none :: S, i + 1, t, f, h => by
    obtain ⟨w, h1, h2, h3⟩ := Fit.take (σ := σ) (S := S) (i := i) f (by simpa using h)
    exact ⟨w, by simpa using h1, h2, h3⟩
  | none :: σ, none :: S, i + 1, t, f, h => by
    obtain ⟨w, h1, h2, h3⟩ := Fit.take (σ := σ) (S := S) (i := i) f (by simpa using h)
    exact ⟨w, by simpa using h1, h2, h3⟩
  | none :: _, some _ :: _, _, _, f, _ => f.elim
  | [], _ :: _, _, _, f, _ => f.elim
  | some _ :: _, [], _, _, f, _ => f.elim
  | none :: _, [], _, _, f, _ => f.elim
/-- a slot is stored -/
theorem Fit.put : ∀ {σ : St} {S : Sto} {i : Nat} {v : V} {t : T}, Fit σ S → i < S.length → Sub (prs (σ.set i (some v)) (S.set i (some t))) ((v, t) :: prs σ S) ∧ Fit (σ.set i (some v)) (S.set i (some t))
  | [], [], i, v, t, _, h => by simp at h
  | some w :: σ, some u :: S, 0, v, t, f, h => ⟨(Sub.refl.skip).cons, f⟩
  | some w :: σ, none :: S, 0, v, t, f, h => ⟨Sub.refl, f⟩
  | none :: σ, none :: S, 0, v, t, f, h => ⟨Sub.refl, f⟩
  | some w :: σ, some u :: S, i + 1, v, t, f, h => by
    obtain ⟨h1, h2⟩ := Fit.put (σ := σ) (S := S) (i := i) (v := v) (t := t) f (by simpa using h)
    exact ⟨(h1.cons).trans (Sub.of_perm (.swap ..)), h2⟩
  | some w :: σ, none :: S, i + 1, v, t, f, h => Fit.put (σ := σ) (S := S) (i := i) (v := v) (t := t) f (by simpa using h)
  | none :: σ, none :: S, i + 1, v, t, f, h => Fit.put (σ := σ) (S := S) (i := i) (v := v) (t := t) f (by simpa using h)
  | none :: _, some _ :: _, _, _, _, f, _ => f.elim
  | [], _ :: _, _, _, _, f, _ => f.elim
  | some _ :: _, [], _, _, _, f, _ => f.elim
  | none :: _, [], _, _, _, f, _ => f.elim
theorem set_at {α : Type} : ∀ {σ : List α} {i : Nat} {o : α}, σ[i]? = some o → σ.set i o = σ
  | [], _, _, h => by simp at h
  | x :: σ, 0, o, h => by
    have e : x = o := by simpa using h
    rw [e] <;> rfl
  | x :: σ, i + 1, o, h => by
    rw [List.set_cons_succ, set_at (by simpa using h)]
/-- .. the same value again -/
theorem Fit.back {σ : St} {S : Sto} {i : Nat} {v : V} {t : T} (f : Fit σ S) (h : σ[i]? = some (some v)) : Sub (prs σ (S.set i (some t))) ((v, t) :: prs σ S) ∧ Fit σ (S.set i (some t)) := by
  have hi : i < S.length := by
    rw [← f.length]
    exact (List.getElem?_eq_some_iff.mp h).1
  have q := f.put (v := v) (t := t) hi
  rw [set_at h] at q
  exact q
/-- a slot is forgotten -/
theorem Fit.forget : ∀ {σ : St} {S : Sto} (i : Nat), Fit σ S → Sub (prs σ (S.set i none)) (prs σ S) ∧ Fit σ (S.set i none)
  | [], [], i, f => ⟨Sub.refl, f⟩
  | some w :: σ, some u :: S, 0, f => ⟨Sub.refl.skip, f⟩
  | some w :: σ, none :: S, 0, f => ⟨Sub.refl, f⟩
  | none :: σ, none :: S, 0, f => ⟨Sub.refl, f⟩
  | some w :: σ, some u :: S, i + 1, f => by
    obtain ⟨h1, h2⟩ := Fit.forget (σ := σ) (S := S) i f
    exact ⟨h1.cons, h2⟩
  | some w :: σ, none :: S, i + 1, f => Fit.forget (σ := σ) (S := S) i f
  | none :: σ, none :: S, i + 1, f => Fit.forget (σ := σ) (S := S) i f
  | none :: _, some _ :: _, _, f => f.elim
  | [], _ :: _, _, f => f.elim
  | some _ :: _, [], _, f => f.elim
  | none :: _, [], _, f => f.elim

/-- the state: the slots' trees, and what is held besides -/
def AtS (K : PySem.W.Frag) (H : Hp) (σ : St) (S : Sto) (fr : Ps) : Prop := Fit σ S ∧ At K H (prs σ S ++ fr)
section
variable {K : PySem.W.Frag} {G H H' : Hp} {σ : St} {S : Sto} {fr ps : Ps}
theorem AtS.front (h : AtS K H σ S fr) : At K H (fr ++ prs σ S) := h.2.perm List.perm_append_comm
theorem AtS.of (f : Fit σ S) (h : At K H (fr ++ prs σ S)) : AtS K H σ S fr := ⟨f, h.perm List.perm_append_comm⟩
theorem AtS.sub (h : AtS K H σ S ps) (s : Sub fr ps) : AtS K H σ S fr := ⟨h.1, h.2.sub (s.append_left _)⟩
theorem AtS.drop1 {p : V × T} (h : AtS K H σ S (p :: fr)) : AtS K H σ S fr := h.sub Sub.refl.skip
/-- what a slot shows -/
theorem AtS.see {i : Nat} {t : T} (h : AtS K H σ S fr) (hi : S[i]? = some (some t)) : ∃ v, σ[i]? = some (some v) ∧ Rep K H v (fz t) := by
  obtain ⟨v, h1, p, _⟩ := h.1.take hi
  have a : At K H ((v, t) :: (prs σ (S.set i none) ++ fr)) := h.2.perm (p.append_right fr)
  exact ⟨v, h1, a.freeze.rep⟩
theorem AtS.take {i : Nat} {t : T} (h : AtS K H σ S fr) (hi : S[i]? = some (some t)) : ∃ v, σ[i]? = some (some v) ∧ AtS K H σ (S.set i none) ((v, t) :: fr) := by
  obtain ⟨v, h1, p, f⟩ := h.1.take hi
  exact ⟨v, h1, f, (h.2.perm (p.append_right fr)).perm List.perm_middle.symm⟩
theorem AtS.put {i : Nat} {v : V} {t : T} (h : AtS K H σ S ((v, t) :: fr)) (hi : i < S.length) : AtS K H (σ.set i (some v)) (S.set i (some t)) fr := by
  obtain ⟨s, f⟩ := h.1.put (v := v) (t := t) hi
  exact ⟨f, (h.2.perm List.perm_middle).sub (s.append_right fr)⟩
theorem AtS.back {i : Nat} {v : V} {t : T} (h : AtS K H σ S ((v, t) :: fr)) (hi : σ[i]? = some (some v)) : AtS K H σ (S.set i (some t)) fr := by
  obtain ⟨s, f⟩ := h.1.back (t := t) hi
  exact ⟨f, (h.2.perm List.perm_middle).sub (s.append_right fr)⟩
theorem AtS.forget (i : Nat) (h : AtS K H σ S fr) : AtS K H σ (S.set i none) fr := by
  obtain ⟨s, f⟩ := h.1.forget i
  exact ⟨f, h.2.sub (s.append_right fr)⟩
/-- a held tree at the front, by the rules of At -/
theorem AtS.at1 {p : V × T} (h : AtS K H σ S (p :: fr)) : At K H (p :: (fr ++ prs σ S)) := h.front
theorem AtS.dup {v : V} {d : D} (h : AtS K H σ S ((v, .sh d) :: fr)) : AtS K H σ S ((v, .sh d) :: (v, .sh d) :: fr) := AtS.of h.1 h.at1.dup
theorem AtS.freeze {v : V} {t : T} (h : AtS K H σ S ((v, t) :: fr)) : AtS K H σ S ((v, .sh (fz t)) :: fr) := AtS.of h.1 h.at1.freeze
theorem AtS.new {v : V} {d : D} (h : AtS K H σ S fr) (r : ∀ G, Rep K G v d) : AtS K H σ S ((v, .sh d) :: fr) := AtS.of h.1 (h.front.new r)
theorem AtS.rep {v : V} {t : T} (h : AtS K H σ S ((v, t) :: fr)) : Rep K H v (fz t) := h.freeze.at1.rep
theorem AtS.perm (h : AtS K H σ S ps) (p : ps.Perm fr) : AtS K H σ S fr := h.sub (Sub.of_perm p)
end

/-! ### the judgements -/
abbrev ME := Sto → Option (T × Sto)
abbrev MT := Sto → Option (Bool × Sto)
abbrev MA := Sto → Option (List T × Sto)
abbrev MP := Sto → Option D
abbrev MB := Sto → Option Bool
theorem PE.imp {X : Cx} {e : Expr} {t t' : TE} (h : PE X e t) (i : ∀ σ H Q, t' σ H Q → t σ H Q) : PE X e t' := ⟨fun pins s σ H Q I q => h.run pins s σ H Q I (i σ H Q q)⟩
theorem PT.imp {X : Cx} {e : Expr} {t t' : TT} (h : PT X e t) (i : ∀ σ H Q, t' σ H Q → t σ H Q) : PT X e t' := ⟨fun pins s σ H Q I q => h.run pins s σ H Q I (i σ H Q q)⟩
theorem PA.imp {X : Cx} {e : List Expr} {t t' : TA} (h : PA X e t) (i : ∀ σ H Q, t' σ H Q → t σ H Q) : PA X e t' := ⟨fun pos pins s σ H Q I q => h.run pos pins s σ H Q I (i σ H Q q)⟩
theorem PS.imp {X : Cx} {e : Stmt} {t t' : TS} (h : PS X e t) (i : ∀ D σ H, t' D σ H → t D σ H) : PS X e t' := ⟨fun pins s σ H D I q => h.run pins s σ H D I (i D σ H q)⟩
theorem PSs.imp {X : Cx} {e : List Stmt} {t t' : TS} (h : PSs X e t) (i : ∀ D σ H, t' D σ H → t D σ H) : PSs X e t' := ⟨fun pins s σ H D I q => h.run pins s σ H D I (i D σ H q)⟩

/-- pure: nothing changes; the value's view -/
def tP (K : PySem.W.Frag) (m : MP) : TE := fun σ H Q => ∃ S fr d, AtS K H σ S fr ∧ m S = some d ∧ ∀ v, Rep K H v d → Q v H
def tPB (K : PySem.W.Frag) (m : MB) : TT := fun σ H Q => ∃ S fr b, AtS K H σ S fr ∧ m S = some b ∧ Q b H
def tPA (K : PySem.W.Frag) (m : Sto → Option (List D)) : TA := fun σ H Q => ∃ S fr ds, AtS K H σ S fr ∧ m S = some ds ∧ ∀ vs, Reps K H vs ds → Q vs H
def tV (K : PySem.W.Frag) (m : ME) : TE := fun σ H Q => ∃ S fr t S', AtS K H σ S fr ∧ m S = some (t, S') ∧ ∀ v H', AtS K H' σ S' ((v, t) :: fr) → Q v H'
def tVT (K : PySem.W.Frag) (m : MT) : TT := fun σ H Q => ∃ S fr b S', AtS K H σ S fr ∧ m S = some (b, S') ∧ ∀ H', AtS K H' σ S' fr → Q b H'
def tVA (K : PySem.W.Frag) (m : MA) : TA := fun σ H Q => ∃ S fr ts S', AtS K H σ S fr ∧ m S = some (ts, S') ∧ ∀ vs H', vs.length = ts.length → AtS K H' σ S' (vs.zip ts ++ fr) → Q vs H'
abbrev VP (X : Cx) (e : Expr) (m : MP) : Prop := PE X e (tP X.K m)
abbrev VPB (X : Cx) (e : Expr) (m : MB) : Prop := PT X e (tPB X.K m)
abbrev VPA (X : Cx) (e : List Expr) (m : Sto → Option (List D)) : Prop := PA X e (tPA X.K m)
abbrev VE (X : Cx) (e : Expr) (m : ME) : Prop := PE X e (tV X.K m)
abbrev VT (X : Cx) (e : Expr) (m : MT) : Prop := PT X e (tVT X.K m)
abbrev VA (X : Cx) (e : List Expr) (m : MA) : Prop := PA X e (tVA X.K m)

section
variable {X : Cx} {e a b c : Expr} {es : List Expr} {pos : Pos}
/-! ### constants, names -/
def pC (d : D) : MP := fun _ => some d
theorem vp_int {i : Int} {j} : VP X (.Constant (.int i) j pos) (pC (.int i)) := PE.imp pe_int fun σ H Q ⟨S, fr, d, h, e, q⟩ => by cases e; exact q _ rfl
theorem vp_bl {i : Bool} {j} : VP X (.Constant (.bool i) j pos) (pC (.bl i)) := PE.imp pe_bl fun σ H Q ⟨S, fr, d, h, e, q⟩ => by cases e; exact q _ rfl
theorem vp_non {j} : VP X (.Constant .none j pos) (pC .non) := PE.imp pe_non fun σ H Q ⟨S, fr, d, h, e, q⟩ => by cases e; exact q _ rfl
theorem vp_str {i : Str} {j} : VP X (.Constant (.str i) j pos) (pC (.str i)) := PE.imp pe_str fun σ H Q ⟨S, fr, d, h, e, q⟩ => by cases e; exact q _ rfl
def pV (i : Nat) : MP := fun S => match S[i]? with
  | some (some t) => some (fz t)
  | _ => none
theorem pV_some {i : Nat} {S : Sto} {d : D} (h : pV i S = some d) : ∃ t, S[i]? = some (some t) ∧ d = fz t := by
  unfold pV at h
  split at h
  · rename_i t e
    exact ⟨t, e, (Option.some.inj h).symm⟩
  · cases h
theorem vp_var (i : Nat) {x : Str} (hN : X.N[i]? = some x := by rfl) (hv : Vis X.env.scope x := by first | exact Or.inl rfl | exact Or.inr (Or.inl rfl) | exact Or.inr (Or.inr rfl)) (hd : (x == ("__debug__" : Str)) = false := by decide)
    (hcd : (x == ("__classdict__" : Str)) = false := by decide) : VP X (.Name x pos) (pV i) := PE.imp (pe_var hN hv hd hcd) fun σ H Q ⟨S, fr, d, h, e, q⟩ => by
  obtain ⟨t, h1, rfl⟩ := pV_some e
  obtain ⟨v, h2, r⟩ := h.see h1
  exact ⟨v, h2, q v r⟩
/-- a module's constant -/
theorem vp_glob {x : Str} {d : D} {v : V} {u : Value} (hg : Gl X x) (hm : X.mg x = some u) (r : RelV v u) (rd : ∀ G, Rep X.K G v d) (hd : (x == ("__debug__" : Str)) = false := by decide) : VP X (.Name x pos) (pC d) :=
  PE.imp (pe_glob hg hm r hd) fun σ H Q ⟨S, fr, d, h, e, q⟩ => by cases e; exact q _ (rd H)

/-! ### pure expressions by their operators -/
def p2 (g : D → D → Option D) (ma mb : MP) : MP := fun S => (ma S).bind fun x => (mb S).bind fun y => g x y
def p1 (g : D → Option D) (ma : MP) : MP := fun S => (ma S).bind g
def rD (K : PySem.W.Frag) (g : D → D → Option D) : R2 := fun x y H Q => ∃ dx dy d, Rep K H x dx ∧ Rep K H y dy ∧ g dx dy = some d ∧ ∀ z, Rep K H z d → Q z H
theorem p2_some {g : D → D → Option D} {ma mb : MP} {S : Sto} {d : D} (h : p2 g ma mb S = some d) : ∃ x y, ma S = some x ∧ mb S = some y ∧ g x y = some d := by
  obtain ⟨x, h1, h⟩ := Option.bind_eq_some_iff.mp h
  obtain ⟨y, h2, h⟩ := Option.bind_eq_some_iff.mp h
  exact ⟨x, y, h1, h2, h⟩
theorem t2_imp {g : D → D → Option D} {ma mb : MP} {σ : St} {H : Hp} {Q : VK} (h : tP X.K (p2 g ma mb) σ H Q) : tP X.K ma σ H fun x H1 => tP X.K mb σ H1 fun y H2 => rD X.K g x y H2 Q := by
  obtain ⟨S, fr, d, h, e, q⟩ := h
  obtain ⟨x, y, h1, h2, h3⟩ := p2_some e
  exact ⟨S, fr, x, h, h1, fun v r1 => ⟨S, fr, y, h, h2, fun u r2 => ⟨x, y, d, r1, r2, h3, q⟩⟩⟩
theorem vp_op {op : Operator} {g : D → D → Option D} {ma mb : MP} (ho : OpR X (binaryOp op) (rD X.K g)) (ha : VP X a ma) (hb : VP X b mb) : VP X (.BinOp a op b pos) (p2 g ma mb) :=
  PE.imp (pe_op ho ha hb) fun σ H Q h => t2_imp h
theorem vp_cmp {op : CmpOp} {g : D → D → Option D} {ma mb : MP} (ho : OpR X (compareOp op) (rD X.K g)) (ha : VP X a ma) (hb : VP X b mb) (hm : behindInMarks op b = false := by first | exact nobehind _ (by decide) (by decide) | rfl) : VP X (.Compare a [op] [b] pos) (p2 g ma mb) :=
  PE.imp (pe_cmpR ho ha hb hm) fun σ H Q h => t2_imp h
/-- a data that is a truth value -/
def asB : D → Option Bool
  | .bl b => some b
  | _ => none
def pB (m : MP) : MB := fun S => (m S).bind asB
theorem asB_some {d : D} {b : Bool} (h : asB d = some b) : d = .bl b := by
  cases d <;> first | cases h | skip
  rfl
theorem vb_cmp {op : CmpOp} {g : D → D → Option D} {ma mb : MP} (ho : OpR X (compareOp op) (rD X.K g)) (ha : VP X a ma) (hb : VP X b mb) (hm : behindInMarks op b = false := by first | exact nobehind _ (by decide) (by decide) | rfl) : VPB X (.Compare a [op] [b] pos) (pB (p2 g ma mb)) :=
  PT.imp (pt_cmpR ho ha hb hm) fun σ H Q ⟨S, fr, c, h, e, q⟩ => by
    obtain ⟨d, e1, e2⟩ := Option.bind_eq_some_iff.mp e
    have e3 := asB_some e2
    subst e3
    exact t2_imp ⟨S, fr, _, h, e1, fun v r => ⟨c, r, q⟩⟩
theorem vb_val {m : MP} (h : VP X e m) (he : ∀ whole, isTrue e X.env whole = (do let v ← whole; standAt e.pos; holding [v] (truthy v)) := by intro _; rfl) : VPB X e (pB m) :=
  PT.imp (pt_val h he) fun σ H Q ⟨S, fr, c, h, e, q⟩ => by
    obtain ⟨d, e1, e2⟩ := Option.bind_eq_some_iff.mp e
    have e3 := asB_some e2
    subst e3
    exact ⟨S, fr, _, h, e1, fun v r => ⟨c, r, q⟩⟩
/-- and, or, not as tests -/
def bAnd (p q : MB) : MB := fun S => (p S).bind fun x => if x = true then q S else some false
def bOr (p q : MB) : MB := fun S => (p S).bind fun x => if x = true then some true else q S
def bNot (p : MB) : MB := fun S => (p S).bind fun x => some (!x)
/-- whatever the whole is -/
def VWB (X : Cx) (e : Expr) (m : MB) : Prop := PW X e (tPB X.K m)
theorem PW.imp {t t' : TT} (h : PW X e t) (i : ∀ σ H Q, t' σ H Q → t σ H Q) : PW X e t' := ⟨fun wh pins s σ H Q I q => h.run wh pins s σ H Q I (i σ H Q q)⟩
theorem vw_and1 {p : MB} (h : VPB X a p) : VWB X (.BoolOp .And [a] pos) p := pw_and1 h
theorem vw_or1 {p : MB} (h : VPB X a p) : VWB X (.BoolOp .Or [a] pos) p := pw_or1 h
theorem vw_and {p q : MB} (h : VPB X a p) (h2 : VWB X (.BoolOp .And (b :: es) pos) q) : VWB X (.BoolOp .And (a :: b :: es) pos) (bAnd p q) := PW.imp (pw_and h h2) fun σ H Q ⟨S, fr, c, h, e, k⟩ => by
  obtain ⟨x, e1, e2⟩ := Option.bind_eq_some_iff.mp e
  refine ⟨S, fr, x, h, e1, ?_⟩
  cases x with
  | true => exact iteT ⟨S, fr, c, h, by simpa using e2, k⟩
  | false =>
    have z : false = c := by simpa using e2
    subst z
    exact iteF k
theorem vw_or {p q : MB} (h : VPB X a p) (h2 : VWB X (.BoolOp .Or (b :: es) pos) q) : VWB X (.BoolOp .Or (a :: b :: es) pos) (bOr p q) := PW.imp (pw_or h h2) fun σ H Q ⟨S, fr, c, h, e, k⟩ => by
  obtain ⟨x, e1, e2⟩ := Option.bind_eq_some_iff.mp e
  refine ⟨S, fr, x, h, e1, ?_⟩
  cases x with
  | false => exact iteF ⟨S, fr, c, h, by simpa using e2, k⟩
  | true =>
    have z : true = c := by simpa using e2
    subst z
    exact iteT k
theorem vb_w {p : MB} (h : VWB X e p) : VPB X e p := PW.pt h
theorem vb_not {p : MB} (h : VPB X a p) : VPB X (.UnaryOp .Not a pos) (bNot p) := PT.imp (pt_not h) fun σ H Q ⟨S, fr, c, h, e, k⟩ => by
  obtain ⟨x, e1, e2⟩ := Option.bind_eq_some_iff.mp e
  have z : (!x) = c := by simpa using e2
  subst z
  exact ⟨S, fr, x, h, e1, k⟩
/-- as values -/
def pAnd (p q : MP) : MP := fun S => (p S).bind fun x => (asB x).bind fun x => if x = true then q S else some (.bl false)
def pOr (p q : MP) : MP := fun S => (p S).bind fun x => (asB x).bind fun x => if x = true then some (.bl true) else q S
def pNot (p : MP) : MP := fun S => (p S).bind fun x => (asB x).bind fun x => some (.bl (!x))
theorem vp_one {op} {p : MP} (h : VP X a p) : VP X (.BoolOp op [a] pos) p := pe_one h
theorem vp_and {p q : MP} (h : VP X a p) (h2 : VP X (.BoolOp .And (b :: es) pos) q) : VP X (.BoolOp .And (a :: b :: es) pos) (pAnd p q) := PE.imp (pe_and h h2) fun σ H Q ⟨S, fr, c, h, e, k⟩ => by
  obtain ⟨x, e1, e2⟩ := Option.bind_eq_some_iff.mp e
  obtain ⟨y, e3, e4⟩ := Option.bind_eq_some_iff.mp e2
  have e5 := asB_some e3
  subst e5
  refine ⟨S, fr, _, h, e1, fun v r => ⟨y, r, ?_⟩⟩
  cases y with
  | true => exact iteT ⟨S, fr, c, h, by simpa using e4, k⟩
  | false =>
    have z : D.bl false = c := by simpa using e4
    subst z
    exact iteF (k _ rfl)
theorem vp_or {p q : MP} (h : VP X a p) (h2 : VP X (.BoolOp .Or (b :: es) pos) q) : VP X (.BoolOp .Or (a :: b :: es) pos) (pOr p q) := PE.imp (pe_or h h2) fun σ H Q ⟨S, fr, c, h, e, k⟩ => by
  obtain ⟨x, e1, e2⟩ := Option.bind_eq_some_iff.mp e
  obtain ⟨y, e3, e4⟩ := Option.bind_eq_some_iff.mp e2
  have e5 := asB_some e3
  subst e5
  refine ⟨S, fr, _, h, e1, fun v r => ⟨y, r, ?_⟩⟩
  cases y with
  | false => exact iteF ⟨S, fr, c, h, by simpa using e4, k⟩
  | true =>
    have z : D.bl true = c := by simpa using e4
    subst z
    exact iteT (k _ rfl)
theorem vp_not {p : MP} (h : VP X a p) : VP X (.UnaryOp .Not a pos) (pNot p) := PE.imp (pe_not h) fun σ H Q ⟨S, fr, c, h, e, k⟩ => by
  obtain ⟨x, e1, e2⟩ := Option.bind_eq_some_iff.mp e
  obtain ⟨y, e3, e4⟩ := Option.bind_eq_some_iff.mp e2
  have e5 := asB_some e3
  subst e5
  have z : D.bl (!y) = c := by simpa using e4
  subst z
  exact ⟨S, fr, _, h, e1, fun v r => ⟨y, r, k _ rfl⟩⟩
def pIf (t : MB) (p q : MP) : MP := fun S => (t S).bind fun x => if x = true then p S else q S
theorem vp_if {t : MB} {p q : MP} (ht : VPB X c t) (h1 : VP X a p) (h2 : VP X b q) : VP X (.IfExp c a b pos) (pIf t p q) := PE.imp (pe_ifExp ht h1 h2) fun σ H Q ⟨S, fr, d, h, e, k⟩ => by
  obtain ⟨x, e1, e2⟩ := Option.bind_eq_some_iff.mp e
  refine ⟨S, fr, x, h, e1, ?_⟩
  cases x with
  | true => exact iteT ⟨S, fr, d, h, by simpa using e2, k⟩
  | false => exact iteF ⟨S, fr, d, h, by simpa using e2, k⟩
/-- a < b < c -/
def pChain (g g' : D → D → Option D) (ma mb mc : MP) : MP := fun S => (ma S).bind fun x => (mb S).bind fun y => (g x y).bind fun z => (asB z).bind fun k => if k = true then (mc S).bind fun w => g' y w else some (.bl false)
theorem chain_imp {g g' : D → D → Option D} {ma mb mc : MP} {σ : St} {H : Hp} {Q : VK} (h : tP X.K (pChain g g' ma mb mc) σ H Q) : tChain (rD X.K g) (rD X.K g') (tP X.K ma) (tP X.K mb) (tP X.K mc) σ H Q := by
  obtain ⟨S, fr, d, h, e, q⟩ := h
  obtain ⟨x, h1, e⟩ := Option.bind_eq_some_iff.mp e
  obtain ⟨y, h2, e⟩ := Option.bind_eq_some_iff.mp e
  obtain ⟨z, h3, e⟩ := Option.bind_eq_some_iff.mp e
  obtain ⟨k, h4, e⟩ := Option.bind_eq_some_iff.mp e
  have e5 := asB_some h4
  subst e5
  refine ⟨S, fr, x, h, h1, fun v r1 => ⟨S, fr, y, h, h2, fun u r2 => ⟨x, y, _, r1, r2, h3, fun w r3 => ⟨k, r3, ?_⟩⟩⟩⟩
  cases k with
  | true =>
    obtain ⟨w', h5, e6⟩ := Option.bind_eq_some_iff.mp (show ((mc S).bind fun w => g' y w) = some d by simpa [asB] using e)
    exact iteT ⟨S, fr, w', h, h5, fun v' r4 => ⟨y, w', d, r2, r4, e6, q⟩⟩
  | false =>
    have z : D.bl false = d := by simpa [asB] using e
    subst z
    exact iteF (q _ rfl)
theorem vp_chain {op op' : CmpOp} {g g' : D → D → Option D} {ma mb mc : MP} (ho : OpR X (compareOp op) (rD X.K g)) (ho' : OpR X (compareOp op') (rD X.K g')) (ha : VP X a ma) (hb : VP X b mb) (hc : VP X c mc)
    (hm : lastMarks [op, op'] [b, c] = false := by with_unfolding_all rfl) : VP X (.Compare a [op, op'] [b, c] pos) (pChain g g' ma mb mc) := PE.imp (pe_chain ho ho' ha hb hc hm) fun σ H Q h => chain_imp h
theorem vb_chain {op op' : CmpOp} {g g' : D → D → Option D} {ma mb mc : MP} (ho : OpR X (compareOp op) (rD X.K g)) (ho' : OpR X (compareOp op') (rD X.K g')) (ha : VP X a ma) (hb : VP X b mb) (hc : VP X c mc)
    (hm : lastMarks [op, op'] [b, c] = false := by with_unfolding_all rfl) : VPB X (.Compare a [op, op'] [b, c] pos) (pB (pChain g g' ma mb mc)) := PT.imp (pt_chain ho ho' ha hb hc hm) fun σ H Q ⟨S, fr, c, h, e, q⟩ => by
    obtain ⟨d, e1, e2⟩ := Option.bind_eq_some_iff.mp e
    have e3 := asB_some e2
    subst e3
    exact chain_imp ⟨S, fr, _, h, e1, fun v r => ⟨c, r, q⟩⟩
end
end VS
/-! VS: the operators on data, and that the model computes them. -/
namespace VS
open PySem PySem.Spec PyProof.Rows L2

/-! ### data -/
def lenOk (x : Str) : Bool := decide (x.length ≤ sizeLine)
theorem lenOk_iff {x : Str} : lenOk x = true ↔ x.length ≤ sizeLine := by unfold lenOk; exact decide_eq_true_iff
def small64 (i : Int) : Bool := decide (-(2 ^ 64) < i ∧ i < 2 ^ 64)
def dAdd : D → D → Option D
  | .int i, .int j => some (.int (i + j))
  | .str x, .str y => if x.length + y.length ≤ sizeLine then some (.str (x ++ y)) else none
  | _, _ => none
def dSub : D → D → Option D
  | .int i, .int j => some (.int (i - j))
  | _, _ => none
def dMul : D → D → Option D
  | .int i, .int j => if (small64 i || small64 j) = true then some (.int (i * j)) else none
  | .str x, .int n => if 0 ≤ n ∧ n ≤ 1000000 ∧ x.length ≤ 1 then some (.str (Txt.mul x n)) else none
  | _, _ => none
def dDiv : D → D → Option D
  | .int i, .int j => if j ≠ 0 ∧ j.natAbs < 1073741824 then some (.int (i.fdiv j)) else none
  | _, _ => none
def dMod : D → D → Option D
  | .int i, .int j => if j ≠ 0 then some (.int (i.fmod j)) else none
  | _, _ => none
def dPow : D → D → Option D
  | .int i, .int j => if 0 ≤ j ∧ j ≤ 1000000 ∧ i.natAbs < 2 ^ 64 then some (.int (i ^ j.toNat)) else none
  | _, _ => none
def dCmp (p : Int → Int → Bool) : D → D → Option D
  | .int i, .int j => some (.bl (p i j))
  | _, _ => none
def dLt : D → D → Option D := dCmp fun i j => decide (i < j)
def dLe : D → D → Option D := dCmp fun i j => decide (i ≤ j)
def dGt : D → D → Option D := dCmp fun i j => decide (j < i)
def dGe : D → D → Option D := dCmp fun i j => decide (j ≤ i)
mutual
def py : D → PyData
  | .non => .none
  | .bl b => .bool b
  | .int i => .int i
  | .str x => .str x
  | .lst xs => .list (pyL xs)
  | .tup xs => .tuple (pyL xs)
def pyL : List D → List PyData
  | [] => []
  | d :: ds => py d :: pyL ds
end
/-- == of data -/
def deq (x y : D) : Bool := PyData.eqv (py x) (py y)
def okD (x : D) : Bool := SeqAt.shaped (py x)
def sc : D → Bool
  | .lst _ => false
  | .tup _ => false
  | _ => true
/-- two scalars that == tells apart by their kinds (no truth value beside a number) -/
def sc2 : D → D → Bool
  | .bl _, .int _ => false
  | .int _, .bl _ => false
  | x, y => sc x && sc y
def dEq (x y : D) : Option D := if sc2 x y = true then some (.bl (deq x y)) else if (okD x && okD y) = true then some (.bl (deq x y)) else none
def dNe (x y : D) : Option D := if sc2 x y = true then some (.bl (!deq x y)) else if (okD x && okD y) = true then some (.bl (!deq x y)) else none
def isNonD : D → Bool
  | .non => true
  | _ => false
def dIsN : D → D → Option D
  | x, .non => some (.bl (isNonD x))
  | _, _ => none
def dIsNotN : D → D → Option D
  | x, .non => some (.bl (!isNonD x))
  | _, _ => none
def items : D → Option (List D)
  | .lst xs => some xs
  | .tup xs => some xs
  | _ => none
/-- the sign of a text of one sign -/
def sign1 (x : Str) : Option Nat := match x.cps.toList with
  | [c] => some c
  | _ => none
def dIn (x y : D) : Option D := match x, y with
  | .str a, .str b => (sign1 a).map fun c => .bl (decide (c ∈ b.cps.toList))
  | x, y => (items y).bind fun ds => if (sc x && ds.all sc) = true then some (.bl (ds.any fun d => deq d x)) else none
def dNot (o : Option D) : Option D := o.bind fun d => match d with
  | .bl b => some (.bl (!b))
  | _ => none
def dNotIn (x y : D) : Option D := dNot (dIn x y)
def dIx (x y : D) : Option D := match y with
  | .int i => match x with
    | .str z => if lenOk z = true then (atI z.cps.toList i).map fun c => .str ⟨#[c]⟩ else none
    | .lst xs => atI xs i
    | .tup xs => atI xs i
    | _ => none
  | _ => none

section
variable {K : PySem.W.Frag} {H : Hp}
theorem Reps.get : ∀ {ds : List D} {vs : List V} {i : Nat} {d : D}, Reps K H vs ds → ds[i]? = some d → ∃ v, vs[i]? = some v ∧ Rep K H v d
  | [], _, _, _, _, h => by simp at h
  | _ :: _, [], _, _, h, _ => h.elim
  | e :: ds, v :: vs, 0, d, h, h' => by
    have z : e = d := by simpa using h'
    subst z
    exact ⟨v, rfl, h.1⟩
  | e :: ds, v :: vs, i + 1, d, h, h' => by
    obtain ⟨u, h1, h2⟩ := Reps.get (i := i) h.2 (by simpa using h')
    exact ⟨u, by simpa using h1, h2⟩
theorem Reps.atI {ds : List D} {vs : List V} {i : Int} {d : D} (r : Reps K H vs ds) (h : L2.atI ds i = some d) : ∃ v, L2.atI vs i = some v ∧ Rep K H v d := by
  obtain ⟨j, h1, h2⟩ := Option.bind_eq_some_iff.mp h
  obtain ⟨v, h3, h4⟩ := r.get h2
  refine ⟨v, ?_, h4⟩
  unfold L2.atI
  rw [r.length, h1]
  exact h3
mutual
theorem Rep.dp : ∀ {d : D} {v : V}, Rep K H v d → Dp K H v (py d)
  | .non, v, h => by rw [show v = .non from h]; exact .non
  | .bl b, v, h => by rw [show v = .bl b from h]; exact .bl b
  | .int i, v, h => by rw [show v = .int i from h]; exact .int i
  | .str x, v, h => by rw [show v = .str x from h]; exact .str x
  | .lst ds, v, h => by
    obtain ⟨a, vs, rfl, q, r⟩ := h
    exact .lst q (Reps.dp r)
  | .tup ds, v, h => by
    obtain ⟨a, vs, rfl, q, r⟩ := h
    exact .tup q (Reps.dp r)
theorem Reps.dp : ∀ {ds : List D} {vs : List V}, Reps K H vs ds → DpAll K H vs (pyL ds)
  | [], [], _ => .nil
  | d :: ds, v :: vs, h => .cons (Rep.dp h.1) (Reps.dp h.2)
  | [], _ :: _, h => h.elim
  | _ :: _, [], h => h.elim
end
theorem Rep.scal {x y : D} {v u : V} (h : sc2 x y = true) (rv : Rep K H v x) (ru : Rep K H u y) : scal v u = true ∧ decide (v = u) = deq x y := by
  cases x with
  | non =>
    rw [show v = .non from rv]
    cases y with
    | non => rw [show u = .non from ru]; exact ⟨rfl, rfl⟩
    | bl b => rw [show u = .bl b from ru]; exact ⟨rfl, rfl⟩
    | int j => rw [show u = .int j from ru]; exact ⟨rfl, rfl⟩
    | str z => rw [show u = .str z from ru]; exact ⟨rfl, rfl⟩
    | _ => cases h
  | bl a =>
    rw [show v = .bl a from rv]
    cases y with
    | non => rw [show u = .non from ru]; exact ⟨rfl, rfl⟩
    | bl b =>
      rw [show u = .bl b from ru]
      refine ⟨rfl, ?_⟩
      show decide (V.bl a = V.bl b) = (a == b)
      cases a <;> cases b <;> rfl
    | str z => rw [show u = .str z from ru]; exact ⟨rfl, rfl⟩
    | _ => cases h
  | int a =>
    rw [show v = .int a from rv]
    cases y with
    | non => rw [show u = .non from ru]; exact ⟨rfl, rfl⟩
    | int b =>
      rw [show u = .int b from ru]
      refine ⟨rfl, ?_⟩
      show decide (V.int a = V.int b) = (a == b)
      exact dec_int
    | str z => rw [show u = .str z from ru]; exact ⟨rfl, rfl⟩
    | _ => cases h
  | str a =>
    rw [show v = .str a from rv]
    cases y with
    | non => rw [show u = .non from ru]; exact ⟨rfl, rfl⟩
    | bl b => rw [show u = .bl b from ru]; exact ⟨rfl, rfl⟩
    | int j => rw [show u = .int j from ru]; exact ⟨rfl, rfl⟩
    | str b =>
      rw [show u = .str b from ru]
      refine ⟨rfl, ?_⟩
      show decide (V.str a = V.str b) = (a == b)
      rw [Bool.eq_iff_iff]
      simp
    | _ => cases h
  | lst _ => cases y <;> cases h
  | tup _ => cases y <;> cases h
theorem Rep.flat {x : D} {v : V} (h : sc x = true) (rv : Rep K H v x) : flatV v = true := by
  cases x with
  | non => rw [show v = .non from rv]; rfl
  | bl b => rw [show v = .bl b from rv]; rfl
  | int b => rw [show v = .int b from rv]; rfl
  | str b => rw [show v = .str b from rv]; rfl
  | _ => cases h
theorem Rep.eqV {x y : D} {v u : V} (h : sc x = true) (h' : sc y = true) (rv : Rep K H v x) (ru : Rep K H u y) : L2.eqV v u = deq x y := by
  cases x with
  | non =>
    rw [show v = .non from rv]
    cases y with
    | non => rw [show u = .non from ru]; rfl
    | bl b => rw [show u = .bl b from ru]; rfl
    | int b => rw [show u = .int b from ru]; rfl
    | str b => rw [show u = .str b from ru]; rfl
    | _ => cases h'
  | bl a =>
    rw [show v = .bl a from rv]
    cases y with
    | non => rw [show u = .non from ru]; rfl
    | bl b => rw [show u = .bl b from ru]; rfl
    | int b => rw [show u = .int b from ru]; rfl
    | str b => rw [show u = .str b from ru]; rfl
    | _ => cases h'
  | int a =>
    rw [show v = .int a from rv]
    cases y with
    | non => rw [show u = .non from ru]; rfl
    | bl b => rw [show u = .bl b from ru]; rfl
    | int b => rw [show u = .int b from ru]; rfl
    | str b => rw [show u = .str b from ru]; rfl
    | _ => cases h'
  | str a =>
    rw [show v = .str a from rv]
    cases y with
    | non => rw [show u = .non from ru]; rfl
    | bl b => rw [show u = .bl b from ru]; rfl
    | int b => rw [show u = .int b from ru]; rfl
    | str b => rw [show u = .str b from ru]; rfl
    | _ => cases h'
  | lst _ => cases h
  | tup _ => cases h
theorem Reps.flat : ∀ {ds : List D} {vs : List V}, Reps K H vs ds → ds.all sc = true → vs.all flatV = true
  | [], [], _, _ => rfl
  | d :: ds, v :: vs, h, q => by
    rw [List.all_cons, Bool.and_eq_true] at q ⊢
    exact ⟨Rep.flat q.1 h.1, Reps.flat h.2 q.2⟩
  | [], _ :: _, h, _ => h.elim
  | _ :: _, [], h, _ => h.elim
theorem Reps.inV {x : D} {v : V} (hx : sc x = true) (rv : Rep K H v x) : ∀ {ds : List D} {vs : List V}, Reps K H vs ds → ds.all sc = true → L2.inV v vs = ds.any fun d => deq d x
  | [], [], _, _ => rfl
  | d :: ds, u :: vs, h, q => by
    rw [List.all_cons, Bool.and_eq_true] at q
    show (L2.eqV u v || L2.inV v vs) = (deq d x || ds.any fun d => deq d x)
    rw [Rep.eqV q.1 hx h.1 rv, Reps.inV hx rv h.2 q.2]
  | [], _ :: _, h, _ => h.elim
  | _ :: _, [], h, _ => h.elim
theorem Rep.ref {ds : List D} {d : D} {v : V} (h : items d = some ds) (r : Rep K H v d) : ∃ a vs, v = .ref a ∧ (SqL K H a vs ∨ SqT K H a vs) ∧ Reps K H vs ds := by
  cases d with
  | lst xs =>
    have z : xs = ds := by simpa [items] using h
    subst z
    obtain ⟨a, vs, e, q, k⟩ := r
    exact ⟨a, vs, e, .inl q, k⟩
  | tup xs =>
    have z : xs = ds := by simpa [items] using h
    subst z
    obtain ⟨a, vs, e, q, k⟩ := r
    exact ⟨a, vs, e, .inr q, k⟩
  | _ => cases h
end

/-! ### the model computes them -/
section
variable {X : Cx}
theorem od_add : OpR X (binaryOp .Add) (rD X.K dAdd) := by
  intro pins s σ H x y v u Q I rx ry ⟨dx, dy, d, r1, r2, e, q⟩
  cases dx with
  | int i =>
    cases dy with
    | int j =>
      have z : D.int (i + j) = d := by simpa [dAdd] using e
      subst z
      rw [show x = .int i from r1] at rx
      rw [show y = .int j from r2] at ry
      exact op_add pins s σ H _ _ v u Q I rx ry ⟨i, j, rfl, rfl, q _ rfl⟩
    | _ => cases e
  | str i =>
    cases dy with
    | str j =>
      simp only [dAdd] at e
      split at e
      · rename_i hl
        have z : D.str (i ++ j) = d := by simpa using e
        subst z
        rw [show x = .str i from r1] at rx
        rw [show y = .str j from r2] at ry
        exact op_add_str pins s σ H _ _ v u Q I rx ry ⟨i, j, rfl, rfl, hl, q _ rfl⟩
      · cases e
    | _ => cases e
  | _ => cases dy <;> cases e
theorem od_sub : OpR X (binaryOp .Sub) (rD X.K dSub) := by
  intro pins s σ H x y v u Q I rx ry ⟨dx, dy, d, r1, r2, e, q⟩
  cases dx with
  | int i =>
    cases dy with
    | int j =>
      have z : D.int (i - j) = d := by simpa [dSub] using e
      subst z
      rw [show x = .int i from r1] at rx
      rw [show y = .int j from r2] at ry
      exact op_sub pins s σ H _ _ v u Q I rx ry ⟨i, j, rfl, rfl, q _ rfl⟩
    | _ => cases e
  | _ => cases dy <;> cases e
theorem od_mul : OpR X (binaryOp .Mult) (rD X.K dMul) := by
  intro pins s σ H x y v u Q I rx ry ⟨dx, dy, d, r1, r2, e, q⟩
  cases dx with
  | int i =>
    cases dy with
    | int j =>
      simp only [dMul] at e
      split at e
      · rename_i hl
        have z : D.int (i * j) = d := by simpa using e
        subst z
        rw [show x = .int i from r1] at rx
        rw [show y = .int j from r2] at ry
        refine op_mul pins s σ H _ _ v u Q I rx ry ⟨i, j, rfl, rfl, ?_, q _ rfl⟩
        rcases Bool.or_eq_true_iff.mp hl with h | h
        · exact .inl (of_decide_eq_true h)
        · exact .inr (of_decide_eq_true h)
      · cases e
    | _ => cases e
  | str i =>
    cases dy with
    | int n =>
      simp only [dMul] at e
      split at e
      · rename_i hl
        have z : D.str (Txt.mul i n) = d := by simpa using e
        subst z
        rw [show x = .str i from r1] at rx
        rw [show y = .int n from r2] at ry
        obtain ⟨t, rfl⟩ := rx
        obtain ⟨t', rfl⟩ := ry
        obtain ⟨h1, h2, h3⟩ := hl
        refine PySem.SB.mul ⟨?_, fun h4 _ => ?_, fun h4 _ => ?_⟩ fun t' k => ⟨.str _, H, I.tok _, ⟨_, rfl⟩, q _ rfl⟩
        · rw [Bool.or_eq_false_iff]
          exact ⟨decide_eq_false (by omega), decide_eq_false (by omega)⟩
        · have : (1 : Int) ≤ (2 ^ 63 - 1) / n := by
            have h5 : 0 < n := by omega
            rw [Int.le_ediv_iff_mul_le h5]
            omega
          omega
        · have h5 : i.length * n.toNat ≤ 1 * 1000000 := Nat.mul_le_mul h3 (by omega)
          have : ¬ sizeLine < i.length * n.toNat := by
            have : (1000000 : Nat) ≤ sizeLine := by decide
            omega
          first
            | exact decide_eq_false this
            | (unfold tooLong; exact decide_eq_false this)
            | (unfold tooLong; simp; omega)
      · cases e
    | _ => cases e
  | _ => cases dy <;> cases e
theorem od_div : OpR X (binaryOp .FloorDiv) (rD X.K dDiv) := by
  intro pins s σ H x y v u Q I rx ry ⟨dx, dy, d, r1, r2, e, q⟩
  cases dx with
  | int i =>
    cases dy with
    | int j =>
      simp only [dDiv] at e
      split at e
      · rename_i hl
        have z : D.int (i.fdiv j) = d := by simpa using e
        subst z
        rw [show x = .int i from r1] at rx
        rw [show y = .int j from r2] at ry
        exact op_fdivN pins s σ H _ _ v u Q I rx ry ⟨i, j, rfl, rfl, hl, q _ rfl⟩
      · cases e
    | _ => cases e
  | _ => cases dy <;> cases e
theorem od_mod : OpR X (binaryOp .Mod) (rD X.K dMod) := by
  intro pins s σ H x y v u Q I rx ry ⟨dx, dy, d, r1, r2, e, q⟩
  cases dx with
  | int i =>
    cases dy with
    | int j =>
      simp only [dMod] at e
      split at e
      · rename_i hl
        have z : D.int (i.fmod j) = d := by simpa using e
        subst z
        rw [show x = .int i from r1] at rx
        rw [show y = .int j from r2] at ry
        exact op_modN pins s σ H _ _ v u Q I rx ry ⟨i, j, rfl, rfl, hl, q _ rfl⟩
      · cases e
    | _ => cases e
  | _ => cases dy <;> cases e
theorem od_pow : OpR X (binaryOp .Pow) (rD X.K dPow) := by
  intro pins s σ H x y v u Q I rx ry ⟨dx, dy, d, r1, r2, e, q⟩
  cases dx with
  | int i =>
    cases dy with
    | int j =>
      simp only [dPow] at e
      split at e
      · rename_i hl
        have z : D.int (i ^ j.toNat) = d := by simpa using e
        subst z
        rw [show x = .int i from r1] at rx
        rw [show y = .int j from r2] at ry
        exact op_pow pins s σ H _ _ v u Q I rx ry ⟨i, j, rfl, rfl, hl, q _ rfl⟩
      · cases e
    | _ => cases e
  | _ => cases dy <;> cases e
theorem od_cmp {op : CmpOp} {p : Int → Int → Bool} (ho : OpR X (compareOp op) (rI0 fun i j => .bl (p i j))) : OpR X (compareOp op) (rD X.K (dCmp p)) := by
  intro pins s σ H x y v u Q I rx ry ⟨dx, dy, d, r1, r2, e, q⟩
  cases dx with
  | int i =>
    cases dy with
    | int j =>
      have z : D.bl (p i j) = d := by simpa [dCmp] using e
      subst z
      rw [show x = .int i from r1] at rx
      rw [show y = .int j from r2] at ry
      exact ho pins s σ H _ _ v u Q I rx ry ⟨i, j, rfl, rfl, q _ rfl⟩
    | _ => cases e
  | _ => cases dy <;> cases e
theorem od_lt : OpR X (compareOp .Lt) (rD X.K dLt) := od_cmp op_lt
theorem od_le : OpR X (compareOp .LtE) (rD X.K dLe) := od_cmp op_le
theorem od_gt : OpR X (compareOp .Gt) (rD X.K dGt) := od_cmp op_gt
theorem od_ge : OpR X (compareOp .GtE) (rD X.K dGe) := od_cmp op_ge
theorem od_eq (hu : X.A.units + 64 < cLine) : OpR X (compareOp .Eq) (rD X.K dEq) := by
  intro pins s σ H x y v u Q I rx ry ⟨dx, dy, d, r1, r2, e, q⟩
  unfold dEq at e
  split at e
  · rename_i hs
    have z : D.bl (deq dx dy) = d := by simpa using e
    subst z
    obtain ⟨h1, h2⟩ := Rep.scal hs r1 r2
    exact op_eq pins s σ H _ _ v u Q I rx ry ⟨h1, by rw [h2]; exact q _ rfl⟩
  · split at e
    · rename_i hs
      have z : D.bl (deq dx dy) = d := by simpa using e
      subst z
      obtain ⟨h1, h2⟩ := Bool.and_eq_true_iff.mp hs
      exact op_eqD hu pins s σ H _ _ v u Q I rx ry ⟨_, _, r1.dp, r2.dp, h1, h2, q _ rfl⟩
    · cases e
theorem od_ne (hu : X.A.units + 64 < cLine) : OpR X (compareOp .NotEq) (rD X.K dNe) := by
  intro pins s σ H x y v u Q I rx ry ⟨dx, dy, d, r1, r2, e, q⟩
  unfold dNe at e
  split at e
  · rename_i hs
    have z : D.bl (!deq dx dy) = d := by simpa using e
    subst z
    obtain ⟨h1, h2⟩ := Rep.scal hs r1 r2
    exact op_ne pins s σ H _ _ v u Q I rx ry ⟨h1, by rw [h2]; exact q _ rfl⟩
  · split at e
    · rename_i hs
      have z : D.bl (!deq dx dy) = d := by simpa using e
      subst z
      obtain ⟨h1, h2⟩ := Bool.and_eq_true_iff.mp hs
      exact op_neD hu pins s σ H _ _ v u Q I rx ry ⟨_, _, r1.dp, r2.dp, h1, h2, q _ rfl⟩
    · cases e
theorem Rep.isNon {K : PySem.W.Frag} {H : Hp} {d : D} {x : V} (r : Rep K H x d) : decide (x = .non) = isNonD d := by
  cases d with
  | non => rw [show x = .non from r]; rfl
  | bl b => rw [show x = .bl b from r]; rfl
  | int b => rw [show x = .int b from r]; rfl
  | str b => rw [show x = .str b from r]; rfl
  | lst b => obtain ⟨a, vs, rfl, _⟩ := r; rfl
  | tup b => obtain ⟨a, vs, rfl, _⟩ := r; rfl
theorem od_isN : OpR X (compareOp .Is) (rD X.K dIsN) := by
  intro pins s σ H x y v u Q I rx ry ⟨dx, dy, d, r1, r2, e, q⟩
  cases dy with
  | non =>
    have z : D.bl (isNonD dx) = d := by simpa [dIsN] using e
    subst z
    exact op_isN pins s σ H _ _ v u Q I rx ry ⟨r2, by rw [r1.isNon]; exact q _ rfl⟩
  | _ => cases e
theorem od_notN : OpR X (compareOp .IsNot) (rD X.K dIsNotN) := by
  intro pins s σ H x y v u Q I rx ry ⟨dx, dy, d, r1, r2, e, q⟩
  cases dy with
  | non =>
    have z : D.bl (!isNonD dx) = d := by simpa [dIsNotN] using e
    subst z
    exact op_notN pins s σ H _ _ v u Q I rx ry ⟨r2, by rw [r1.isNon]; exact q _ rfl⟩
  | _ => cases e
theorem sign1_some {x : Str} {c : Nat} (h : sign1 x = some c) : x = ⟨#[c]⟩ := by
  unfold sign1 at h
  split at h
  · rename_i c' e
    have z : c' = c := by simpa using h
    subst z
    cases x with
    | mk cps =>
      have e2 : cps = [c'].toArray := by rw [← e, Array.toArray_toList]
      rw [e2]
  · cases h
theorem dIn_seq {x y : D} {d : D} (h : dIn x y = some d) : (∃ a b c, x = .str a ∧ y = .str b ∧ sign1 a = some c ∧ d = .bl (decide (c ∈ b.cps.toList))) ∨ ∃ ds, items y = some ds ∧ sc x = true ∧ ds.all sc = true ∧ d = .bl (ds.any fun z => deq z x) := by
  unfold dIn at h
  split at h
  · obtain ⟨c, h1, h2⟩ := Option.map_eq_some_iff.mp h
    exact .inl ⟨_, _, c, rfl, rfl, h1, h2.symm⟩
  · obtain ⟨ds, h1, h2⟩ := Option.bind_eq_some_iff.mp h
    split at h2
    · rename_i hs
      obtain ⟨h3, h4⟩ := Bool.and_eq_true_iff.mp hs
      exact .inr ⟨ds, h1, h3, h4, (Option.some.inj h2).symm⟩
    · cases h2
theorem od_in : OpR X (compareOp .In) (rD X.K dIn) := by
  intro pins s σ H x y v u Q I rx ry ⟨dx, dy, d, r1, r2, e, q⟩
  rcases dIn_seq e with ⟨a, b, c, rfl, rfl, h1, rfl⟩ | ⟨ds, h1, h2, h3, rfl⟩
  · rw [show x = .str a from r1, sign1_some h1] at rx
    rw [show y = .str b from r2] at ry
    exact op_in_sign pins s σ H _ _ v u Q I rx ry ⟨c, b, rfl, rfl, q _ rfl⟩
  · obtain ⟨p, vs, rfl, k, rs⟩ := r2.ref h1
    refine op_in_seq pins s σ H _ _ v u Q I rx ry ⟨p, vs, rfl, k, r1.flat h2, rs.flat h3, ?_⟩
    rw [if_neg Bool.false_ne_true, Reps.inV h2 r1 rs h3]
    exact q _ rfl
theorem od_notIn : OpR X (compareOp .NotIn) (rD X.K dNotIn) := by
  intro pins s σ H x y v u Q I rx ry ⟨dx, dy, d, r1, r2, e, q⟩
  obtain ⟨d0, e, e'⟩ := Option.bind_eq_some_iff.mp e
  rcases dIn_seq e with ⟨a, b, c, rfl, rfl, h1, rfl⟩ | ⟨ds, h1, h2, h3, rfl⟩
  · have z := Option.some.inj e'
    subst z
    rw [show x = .str a from r1, sign1_some h1] at rx
    rw [show y = .str b from r2] at ry
    exact op_notIn_sign pins s σ H _ _ v u Q I rx ry ⟨c, b, rfl, rfl, q _ rfl⟩
  · have z := Option.some.inj e'
    subst z
    obtain ⟨p, vs, rfl, k, rs⟩ := r2.ref h1
    refine op_notIn_seq pins s σ H _ _ v u Q I rx ry ⟨p, vs, rfl, k, r1.flat h2, rs.flat h3, ?_⟩
    rw [if_pos rfl, Reps.inV h2 r1 rs h3]
    exact q _ rfl
theorem od_ix : IxR X (rD X.K dIx) := by
  intro value slice pins s σ H x y v u Q I rx ry ⟨dx, dy, d, r1, r2, e, q⟩ hs
  cases dy with
  | int i =>
    rw [show y = .int i from r2] at ry
    cases dx with
    | str z =>
      rw [show x = .str z from r1] at rx
      unfold dIx at e
      simp only at e
      split at e
      · rename_i hl
        obtain ⟨c, h1, h2⟩ := Option.map_eq_some_iff.mp e
        subst h2
        exact ix_str value slice pins s σ H _ _ v u Q I rx ry ⟨z, i, c, rfl, rfl, lenOk_iff.mp hl, h1, q _ rfl⟩ hs
      · cases e
    | lst ds =>
      obtain ⟨a, vs, rfl, k, rs⟩ := r1
      obtain ⟨w, h1, h2⟩ := rs.atI (show L2.atI ds i = some d from e)
      exact ix_list value slice pins s σ H _ _ v u Q I rx ry ⟨a, vs, i, w, rfl, rfl, k, h1, q _ h2⟩ hs
    | tup ds =>
      obtain ⟨a, vs, rfl, k, rs⟩ := r1
      obtain ⟨w, h1, h2⟩ := rs.atI (show L2.atI ds i = some d from e)
      exact ix_tup value slice pins s σ H _ _ v u Q I rx ry ⟨a, vs, i, w, rfl, rfl, k, h1, q _ h2⟩ hs
    | _ => cases e
  | _ => cases dx <;> cases e
/-- o[i] -/
theorem vp_ix {a b : Expr} {pos : Pos} {ma mb : MP} (ha : VP X a ma) (hb : VP X b mb) (hs : PlainIx b := by exact fun _ _ => rfl) : VP X (.Subscript a b pos) (p2 dIx ma mb) := PE.imp (pe_ix od_ix ha hb hs) fun σ H Q h => t2_imp h
def dNeg : D → Option D
  | .int i => some (.int (-i))
  | _ => none
theorem vp_neg {a : Expr} {pos : Pos} {ma : MP} (ha : VP X a ma) : VP X (.UnaryOp .USub a pos) (p1 dNeg ma) := PE.imp (pe_un un_neg ha) fun σ H Q ⟨S, fr, d, h, e, q⟩ => by
  obtain ⟨x, e1, e2⟩ := Option.bind_eq_some_iff.mp e
  refine ⟨S, fr, x, h, e1, fun v r => ?_⟩
  cases x with
  | int i =>
    have z : D.int (-i) = d := by simpa [dNeg] using e2
    subst z
    exact ⟨i, r, q _ rfl⟩
  | _ => cases e2

/-! ### built-in functions -/
def rC (K : PySem.W.Frag) (g : List D → Option D) : List V → Hp → VK → Prop := fun vs H Q => ∃ ds d, Reps K H vs ds ∧ g ds = some d ∧ ∀ z, Rep K H z d → Q z H
theorem vpa_nil : VPA X [] (fun _ => some []) := PA.imp pa_nil fun σ H Q ⟨S, fr, ds, h, e, q⟩ => by
  cases e
  exact q [] trivial
def paCons (m : MP) (r : Sto → Option (List D)) : Sto → Option (List D) := fun S => (m S).bind fun x => (r S).bind fun xs => some (x :: xs)
theorem vpa_cons {e : Expr} {es : List Expr} {m : MP} {r : Sto → Option (List D)} (h : VP X e m) (hr : VPA X es r) (hs : starEach (e :: es) X.env = (false, eval e X.env) :: starEach es X.env := by rfl) : VPA X (e :: es) (paCons m r) :=
  PA.imp (pa_cons h hr hs) fun σ H Q ⟨S, fr, ds, h, e, q⟩ => by
    obtain ⟨x, e1, e⟩ := Option.bind_eq_some_iff.mp e
    obtain ⟨xs, e2, e⟩ := Option.bind_eq_some_iff.mp e
    cases e
    exact ⟨S, fr, x, h, e1, fun v r1 => ⟨S, fr, xs, h, e2, fun vs r2 => q (v :: vs) ⟨r1, r2⟩⟩⟩
def pCall (g : List D → Option D) (m : Sto → Option (List D)) : MP := fun S => (m S).bind g
theorem call_imp {g : List D → Option D} {m : Sto → Option (List D)} {σ : St} {H : Hp} {Q : VK} (h : tP X.K (pCall g m) σ H Q) : tCB (rC X.K g) (tPA X.K m) σ H Q := by
  obtain ⟨S, fr, d, h, e, q⟩ := h
  obtain ⟨ds, e1, e2⟩ := Option.bind_eq_some_iff.mp e
  exact ⟨S, fr, ds, h, e1, fun vs r => ⟨ds, d, r, e2, q⟩⟩
/-- f(e, ..), f a built-in function; a built-in class -/
theorem vp_callB {x : Str} {p pos : Pos} {e : Expr} {es : List Expr} {id : String} {g : List D → Option D} {m : Sto → Option (List D)} (hc : CallR X (.builtin id) (rC X.K g)) (hm : X.mg x = none) (hv : bootBuiltins x = some (.builtin id)) (ha : VPA X (e :: es) m) (hg : Gl X x := by rfl) (hn : x ≠ "__name__" := by decide)
    (hdb : (x == ("__debug__" : Str)) = false := by decide) (he : starEach (e :: es) X.env = (false, eval e X.env) :: starEach es X.env := by rfl) (hpl : (backTo pos (starEach es X.env)).any (·.1) = false := by rfl) : VP X (.Call (.Name x p) (e :: es) [] pos) (pCall g m) :=
  PE.imp (pe_callB hc hg hm hv ha hn hdb he hpl) fun σ H Q h => call_imp h
theorem vp_callTy {x : Str} {p pos : Pos} {e : Expr} {es : List Expr} {T : String} {g : List D → Option D} {m : Sto → Option (List D)} (hc : CallR X (.type T) (rC X.K g)) (hm : X.mg x = none) (hv : bootBuiltins x = some (.type T)) (ha : VPA X (e :: es) m) (hg : Gl X x := by rfl) (hn : x ≠ "__name__" := by decide)
    (hdb : (x == ("__debug__" : Str)) = false := by decide) (he : starEach (e :: es) X.env = (false, eval e X.env) :: starEach es X.env := by rfl) (hpl : (backTo pos (starEach es X.env)).any (·.1) = false := by rfl) : VP X (.Call (.Name x p) (e :: es) [] pos) (pCall g m) :=
  PE.imp (pe_callTy hc hg hm hv ha hn hdb he hpl) fun σ H Q h => call_imp h
def dLen : List D → Option D
  | [.str x] => if lenOk x = true then some (.int x.length) else none
  | [.lst xs] => some (.int xs.length)
  | [.tup xs] => some (.int xs.length)
  | _ => none
def dInt : List D → Option D
  | [.int i] => some (.int i)
  | [.bl k] => some (.int (if k then 1 else 0))
  | _ => none
def dAbs : List D → Option D
  | [.int i] => some (.int (if i < 0 then -i else i))
  | _ => none
def dMax2 : List D → Option D
  | [.int i, .int j] => some (.int (if j > i then j else i))
  | _ => none
def dMin2 : List D → Option D
  | [.int i, .int j] => some (.int (if j < i then j else i))
  | _ => none
/-- one, two values -/
theorem Reps.one {K : PySem.W.Frag} {H : Hp} {vs : List V} {d : D} (r : Reps K H vs [d]) : ∃ v, vs = [v] ∧ Rep K H v d := by
  cases vs with
  | nil => exact r.elim
  | cons v vs =>
    cases vs with
    | nil => exact ⟨v, rfl, r.1⟩
    | cons _ _ => exact r.2.elim
theorem Reps.two {K : PySem.W.Frag} {H : Hp} {vs : List V} {d e : D} (r : Reps K H vs [d, e]) : ∃ v u, vs = [v, u] ∧ Rep K H v d ∧ Rep K H u e := by
  cases vs with
  | nil => exact r.elim
  | cons v vs =>
    obtain ⟨u, rfl, q⟩ := Reps.one r.2
    exact ⟨v, u, rfl, r.1, q⟩
theorem od_len : CallR X (.builtin "len") (rC X.K dLen) := by
  intro pins s σ H xs us Q I rx ⟨ds, d, r, e, q⟩
  unfold dLen at e
  split at e
  · split at e
    · rename_i hl
      have z := Option.some.inj e
      subst z
      obtain ⟨v, rfl, r1⟩ := r.one
      exact call_len pins s σ H _ us Q I rx ⟨v, _, rfl, by rw [show v = .str _ from r1]; exact ⟨lenOk_iff.mp hl, rfl⟩, q _ rfl⟩
    · cases e
  · have z := Option.some.inj e
    subst z
    obtain ⟨v, rfl, a, vs, rfl, k, rs⟩ := r.one
    exact call_len pins s σ H _ us Q I rx ⟨_, _, rfl, .inl ⟨vs, k, rs.length.symm⟩, q _ rfl⟩
  · have z := Option.some.inj e
    subst z
    obtain ⟨v, rfl, a, vs, rfl, k, rs⟩ := r.one
    exact call_len pins s σ H _ us Q I rx ⟨_, _, rfl, .inr ⟨vs, k, rs.length.symm⟩, q _ rfl⟩
  · cases e
theorem od_int : CallR X (.type "int") (rC X.K dInt) := by
  intro pins s σ H xs us Q I rx ⟨ds, d, r, e, q⟩
  unfold dInt at e
  split at e
  · have z := Option.some.inj e
    subst z
    obtain ⟨v, rfl, r1⟩ := r.one
    exact call_int1 pins s σ H _ us Q I rx (.inl ⟨_, by rw [show v = _ from r1], q _ rfl⟩)
  · have z := Option.some.inj e
    subst z
    obtain ⟨v, rfl, r1⟩ := r.one
    exact call_int1 pins s σ H _ us Q I rx (.inr ⟨_, by rw [show v = _ from r1], q _ rfl⟩)
  · cases e
theorem od_abs : CallR X (.builtin "abs") (rC X.K dAbs) := by
  intro pins s σ H xs us Q I rx ⟨ds, d, r, e, q⟩
  unfold dAbs at e
  split at e
  · have z := Option.some.inj e
    subst z
    obtain ⟨v, rfl, r1⟩ := r.one
    exact call_abs pins s σ H _ us Q I rx ⟨_, by rw [show v = _ from r1], q _ rfl⟩
  · cases e
theorem od_max2 (hc : X.calm = true) : CallR X (.builtin "max") (rC X.K dMax2) := by
  intro pins s σ H xs us Q I rx ⟨ds, d, r, e, q⟩
  unfold dMax2 at e
  split at e
  · have z := Option.some.inj e
    subst z
    obtain ⟨v, u, rfl, r1, r2⟩ := r.two
    exact call_max2 hc pins s σ H _ us Q I rx ⟨_, _, by rw [show v = _ from r1, show u = _ from r2], q _ rfl⟩
  · cases e
theorem od_min2 (hc : X.calm = true) : CallR X (.builtin "min") (rC X.K dMin2) := by
  intro pins s σ H xs us Q I rx ⟨ds, d, r, e, q⟩
  unfold dMin2 at e
  split at e
  · have z := Option.some.inj e
    subst z
    obtain ⟨v, u, rfl, r1, r2⟩ := r.two
    exact call_min2 hc pins s σ H _ us Q I rx ⟨_, _, by rw [show v = _ from r1, show u = _ from r2], q _ rfl⟩
  · cases e
/-- isinstance(e, T), T a built-in class -/
def tyD : D → String
  | .non => "NoneType"
  | .bl _ => "bool"
  | .int _ => "int"
  | .str _ => "str"
  | .lst _ => "list"
  | .tup _ => "tuple"
def dIsi (T : String) (d : D) : Option D := (kitB (tyD d) T).map .bl
theorem Rep.tyX {K : PySem.W.Frag} {H : Hp} {d : D} {v : V} (r : Rep K H v d) : TyX K H v (.type (tyD d)) := by
  cases d with
  | non => rw [show v = .non from r]; exact .base .non
  | bl b => rw [show v = .bl b from r]; exact .base (.bl b)
  | int b => rw [show v = .int b from r]; exact .base (.int b)
  | str b => rw [show v = .str b from r]; exact .base (.str b)
  | lst ds =>
    obtain ⟨a, vs, rfl, q, _⟩ := r
    rcases q with (q | ⟨o, q⟩) | ⟨o, its, n, h1, h2, _⟩
    · exact .base (.lst q)
    · exact .base (.frz q)
    · exact .kList h1 h2
  | tup ds =>
    obtain ⟨a, vs, rfl, q, _⟩ := r
    rcases q with (q | ⟨o, q⟩) | ⟨o, its, n, h1, h2, _⟩
    · exact .base (.tup q)
    · exact .fTuple q
    · exact .kTuple h1 h2
theorem vp_isi {x : Str} {T : String} {p1 p2 pos : Pos} {e : Expr} {m : MP} (hm : X.mg "isinstance" = none) (hmT : X.mg x = none) (hvT : bootBuiltins x = some (.type T)) (he : VP X e m) (hv : bootBuiltins "isinstance" = some (.builtin "isinstance") := by decide +kernel) (hg : Gl X "isinstance" := by rfl) (hgT : Gl X x := by rfl)
    (hnT : x ≠ "__name__" := by decide) (hdT : (x == ("__debug__" : Str)) = false := by decide) (hs : starEach [e, .Name x p1] X.env = (false, eval e X.env) :: starEach [.Name x p1] X.env := by rfl) (hs2 : starEach [.Name x p1] X.env = (false, eval (.Name x p1) X.env) :: starEach [] X.env := by rfl)
    (hpl : (backTo pos (starEach [.Name x p1] X.env)).any (·.1) = false := by rfl) : VP X (.Call (.Name "isinstance" p2) [e, .Name x p1] [] pos) (VS.p1 (dIsi T) m) :=
  PE.imp (pe_callB call_isi hg hm hv (pa_cons he (pa_cons (pe_bltn hgT hmT hvT (v := .ty T) rfl hnT hdT) pa_nil hs2) hs) (by decide) (by decide) hs hpl) fun σ H Q ⟨S, fr, d, h, e, q⟩ => by
    obtain ⟨y, e1, e2⟩ := Option.bind_eq_some_iff.mp e
    obtain ⟨b, e3, rfl⟩ := Option.map_eq_some_iff.mp e2
    exact ⟨S, fr, y, h, e1, fun v r => ⟨v, .ty T, _, _, b, rfl, .ty T, r.tyX, kit_ty e3, q _ rfl⟩⟩
/-- a text's slice -/
def oPart (o : Option MP) : Sto → Option (Option Int) := fun S => match o with
  | none => some none
  | some m => (m S).bind fun d => match d with
    | .int i => some (some i)
    | _ => none
def tPO (K : PySem.W.Frag) (m : Sto → Option (Option Int)) : TO := fun σ H Q => ∃ S fr o, AtS K H σ S fr ∧ m S = some o ∧ Q o H
theorem PO.imp {e : Option Expr} {t t' : TO} (h : PO X e t) (i : ∀ σ H Q, t' σ H Q → t σ H Q) : PO X e t' := ⟨fun pins s σ H Q I q => h.run pins s σ H Q I (i σ H Q q)⟩
theorem vo_none : PO X none (tPO X.K (oPart none)) := PO.imp po_none fun σ H Q ⟨S, fr, o, h, e, q⟩ => by cases e; exact q
theorem vo_some {e : Expr} {m : MP} (he : VP X e m) : PO X (some e) (tPO X.K (oPart (some m))) := PO.imp (po_some he) fun σ H Q ⟨S, fr, o, h, e, q⟩ => by
  obtain ⟨d, e1, e2⟩ := Option.bind_eq_some_iff.mp e
  cases d with
  | int i =>
    have z : some i = o := by simpa using e2
    subst z
    exact ⟨S, fr, _, h, e1, fun v r => ⟨i, r, q⟩⟩
  | _ => cases e2
def dSlS (lo hi : Option Int) : D → Option D
  | .str z => if lenOk z = true then some (.str (cutS z lo hi)) else none
  | _ => none
def pSlS (m : MP) (l h : Sto → Option (Option Int)) : MP := fun S => (m S).bind fun d => (l S).bind fun lo => (h S).bind fun hi => dSlS lo hi d
theorem vp_slS {e : Expr} {lo hi : Option Expr} {m : MP} {l h : Sto → Option (Option Int)} {pos p2 : Pos} (he : VP X e m) (hl : PO X lo (tPO X.K l)) (hh : PO X hi (tPO X.K h)) : VP X (.Subscript e (.Slice lo hi none p2) pos) (pSlS m l h) :=
  PE.imp (pe_slice sl_str he hl hh) fun σ H Q ⟨S, fr, d, h0, e, q⟩ => by
    obtain ⟨x, e1, e⟩ := Option.bind_eq_some_iff.mp e
    obtain ⟨lo', e2, e⟩ := Option.bind_eq_some_iff.mp e
    obtain ⟨hi', e3, e⟩ := Option.bind_eq_some_iff.mp e
    refine ⟨S, fr, x, h0, e1, fun v r => ⟨S, fr, lo', h0, e2, S, fr, hi', h0, e3, ?_⟩⟩
    cases x with
    | str z =>
      unfold dSlS at e
      simp only at e
      split at e
      · rename_i hz
        have w := Option.some.inj e
        subst w
        exact ⟨z, r, lenOk_iff.mp hz, q _ rfl⟩
      · cases e
    | _ => cases e
end
end VS
/-! VS: expressions that make or take. -/
namespace VS
open PySem PySem.Spec PyProof.Rows L2

section
variable {K : PySem.W.Frag} {H : Hp} {σ : St} {S : Sto} {fr ps : Ps}
theorem scRep {d : D} {v : V} (h : sc d = true) (r : Rep K H v d) : ∀ G, Rep K G v d := fun G => by
  cases d with
  | lst _ => cases h
  | tup _ => cases h
  | _ => exact r
theorem AtS.two {p q : V × T} (h : AtS K H σ S (p :: q :: fr)) : AtS K H σ S (q :: p :: fr) := h.perm (.swap ..)
/-- two trees' views -/
theorem AtS.reps2 {v u : V} {t t' : T} (h : AtS K H σ S ((u, t') :: (v, t) :: fr)) : Rep K H v (fz t) ∧ Rep K H u (fz t') := ⟨h.two.rep, h.rep⟩
theorem AtS.drops (qs : Ps) (h : AtS K H σ S (qs ++ fr)) : AtS K H σ S fr := h.sub ⟨qs, .refl _⟩
end

section
variable {X : Cx} {e a b c : Expr} {es : List Expr} {pos : Pos}
/-! ### lifts, names -/
def ofP (m : MP) : ME := fun S => (m S).bind fun d => if sc d = true then some (.sh d, S) else none
theorem ve_p {m : MP} (h : VP X e m) : VE X e (ofP m) := PE.imp h fun σ H Q ⟨S, fr, t, S', h, e, q⟩ => by
  obtain ⟨d, e1, e2⟩ := Option.bind_eq_some_iff.mp e
  split at e2
  · rename_i hs
    cases e2
    exact ⟨_, fr, _, h, e1, fun v r => q v H (h.new (scRep hs r))⟩
  · cases e2
def ofB (m : MB) : MT := fun S => (m S).bind fun b => some (b, S)
theorem vt_p {m : MB} (h : VPB X e m) : VT X e (ofB m) := PT.imp h fun σ H Q ⟨S, fr, b, S', h, e, q⟩ => by
  obtain ⟨d, e1, e2⟩ := Option.bind_eq_some_iff.mp e
  obtain ⟨rfl, rfl⟩ : d = b ∧ S = S' := by simpa using e2
  exact ⟨S, fr, d, h, e1, q H h⟩
def eVar (i : Nat) : ME := fun S => match S[i]? with
  | some (some (.sh d)) => some (.sh d, S)
  | some (some t) => some (.sh (fz t), S.set i (some (.sh (fz t))))
  | _ => none
theorem eVar_some {i : Nat} {S S' : Sto} {t : T} (h : eVar i S = some (t, S')) : ∃ u, S[i]? = some (some u) ∧ t = .sh (fz u) ∧ S' = S.set i (some (.sh (fz u))) := by
  unfold eVar at h
  split at h
  · rename_i d e
    cases h
    exact ⟨_, e, rfl, (set_at e).symm⟩
  · rename_i u _ e
    cases h
    exact ⟨u, e, rfl, rfl⟩
  · cases h
theorem ve_var (i : Nat) {x : Str} (hN : X.N[i]? = some x := by rfl) (hv : Vis X.env.scope x := by first | exact Or.inl rfl | exact Or.inr (Or.inl rfl) | exact Or.inr (Or.inr rfl)) (hd : (x == ("__debug__" : Str)) = false := by decide)
    (hcd : (x == ("__classdict__" : Str)) = false := by decide) : VE X (.Name x pos) (eVar i) := PE.imp (pe_var hN hv hd hcd) fun σ H Q ⟨S, fr, t, S', h, e, q⟩ => by
  obtain ⟨u, e1, rfl, rfl⟩ := eVar_some e
  obtain ⟨v, h1, h2⟩ := h.take e1
  refine ⟨v, h1, q v H ?_⟩
  have k := (h2.freeze.dup).back (i := i) h1
  rw [List.set_set] at k
  exact k
def eMov (i : Nat) : ME := fun S => match S[i]? with
  | some (some t) => some (t, S.set i none)
  | _ => none
theorem ve_mov (i : Nat) {x : Str} (hN : X.N[i]? = some x := by rfl) (hv : Vis X.env.scope x := by first | exact Or.inl rfl | exact Or.inr (Or.inl rfl) | exact Or.inr (Or.inr rfl)) (hd : (x == ("__debug__" : Str)) = false := by decide)
    (hcd : (x == ("__classdict__" : Str)) = false := by decide) : VE X (.Name x pos) (eMov i) := PE.imp (pe_var hN hv hd hcd) fun σ H Q ⟨S, fr, t, S', h, e, q⟩ => by
  unfold eMov at e
  split at e
  · rename_i u e1
    cases e
    obtain ⟨v, h1, h2⟩ := h.take e1
    exact ⟨v, h1, q v H h2⟩
  · cases e
def eC (d : D) : ME := fun S => some (.sh d, S)
theorem ve_glob {x : Str} {d : D} {v : V} {u : Value} (hg : Gl X x) (hm : X.mg x = some u) (r : RelV v u) (rd : ∀ G, Rep X.K G v d) (hd : (x == ("__debug__" : Str)) = false := by decide) : VE X (.Name x pos) (eC d) :=
  PE.imp (pe_glob hg hm r hd) fun σ H Q ⟨S, fr, t, S', h, e, q⟩ => by cases e; exact q _ _ (h.new rd)

/-! ### operators, one side not pure -/
def sD (o : Option D) (S : Sto) : Option (T × Sto) := o.bind fun d => if sc d = true then some (.sh d, S) else none
theorem sD_some {o : Option D} {S S' : Sto} {t : T} (h : sD o S = some (t, S')) : ∃ d, o = some d ∧ sc d = true ∧ t = .sh d ∧ S' = S := by
  obtain ⟨d, e1, e2⟩ := Option.bind_eq_some_iff.mp h
  split at e2
  · rename_i hs
    cases e2
    exact ⟨d, e1, hs, rfl, rfl⟩
  · cases e2
def e2 (g : D → D → Option D) (ma mb : ME) : ME := fun S => (ma S).bind fun p => (mb p.2).bind fun q => sD (g (fz p.1) (fz q.1)) q.2
theorem e2_imp {g : D → D → Option D} {ma mb : ME} {σ : St} {H : Hp} {Q : VK} (h : tV X.K (e2 g ma mb) σ H Q) : tV X.K ma σ H fun x H1 => tV X.K mb σ H1 fun y H2 => rD X.K g x y H2 Q := by
  obtain ⟨S, fr, t, S', h, e, q⟩ := h
  obtain ⟨⟨ta, S1⟩, e1, e⟩ := Option.bind_eq_some_iff.mp e
  obtain ⟨⟨tb, S2⟩, e2, e⟩ := Option.bind_eq_some_iff.mp e
  obtain ⟨d, e3, hs, rfl, rfl⟩ := sD_some e
  refine ⟨S, fr, ta, S1, h, e1, fun v H1 h1 => ⟨S1, (v, ta) :: fr, tb, _, h1, e2, fun u H2 h2 => ?_⟩⟩
  obtain ⟨r1, r2⟩ := h2.reps2
  exact ⟨fz ta, fz tb, d, r1, r2, e3, fun z rz => q z H2 ((h2.drops [_, _]).new (scRep hs rz))⟩
theorem ve_op {op : Operator} {g : D → D → Option D} {ma mb : ME} (ho : OpR X (binaryOp op) (rD X.K g)) (ha : VE X a ma) (hb : VE X b mb) : VE X (.BinOp a op b pos) (e2 g ma mb) := PE.imp (pe_op ho ha hb) fun σ H Q h => e2_imp h
theorem ve_cmp {op : CmpOp} {g : D → D → Option D} {ma mb : ME} (ho : OpR X (compareOp op) (rD X.K g)) (ha : VE X a ma) (hb : VE X b mb) (hm : behindInMarks op b = false := by first | exact nobehind _ (by decide) (by decide) | rfl) : VE X (.Compare a [op] [b] pos) (e2 g ma mb) :=
  PE.imp (pe_cmpR ho ha hb hm) fun σ H Q h => e2_imp h
/-- a tree that is a truth value -/
def qB (m : ME) : MT := fun S => (m S).bind fun p => (asB (fz p.1)).bind fun b => some (b, p.2)
theorem qB_imp {m : ME} {σ : St} {H : Hp} {Q : Bool → Hp → Prop} {te : TE} (hi : ∀ Q, tV X.K m σ H Q → te σ H Q) (h : tVT X.K (qB m) σ H Q) : te σ H fun x H1 => ∃ k, x = .bl k ∧ Q k H1 := by
  obtain ⟨S, fr, b, S', h, e, q⟩ := h
  obtain ⟨⟨t, S1⟩, e1, e⟩ := Option.bind_eq_some_iff.mp e
  obtain ⟨b', e2, e⟩ := Option.bind_eq_some_iff.mp e
  cases e
  refine hi _ ⟨S, fr, t, _, h, e1, fun v H1 h1 => ⟨_, ?_, q H1 h1.drop1⟩⟩
  have r := h1.rep
  rw [asB_some e2] at r
  exact r
theorem vt_cmp {op : CmpOp} {g : D → D → Option D} {ma mb : ME} (ho : OpR X (compareOp op) (rD X.K g)) (ha : VE X a ma) (hb : VE X b mb) (hm : behindInMarks op b = false := by first | exact nobehind _ (by decide) (by decide) | rfl) : VT X (.Compare a [op] [b] pos) (qB (e2 g ma mb)) :=
  PT.imp (pt_cmpR ho ha hb hm) fun σ H Q h => qB_imp (fun Q h => e2_imp h) h
theorem vt_val {m : ME} (h : VE X e m) (he : ∀ whole, isTrue e X.env whole = (do let v ← whole; standAt e.pos; holding [v] (truthy v)) := by intro _; rfl) : VT X e (qB m) :=
  PT.imp (pt_val h he) fun σ H Q h => qB_imp (te := tV X.K m) (fun Q h => h) h
def qAnd (p q : MT) : MT := fun S => (p S).bind fun x => if x.1 = true then q x.2 else some (false, x.2)
def qOr (p q : MT) : MT := fun S => (p S).bind fun x => if x.1 = true then some (true, x.2) else q x.2
def qNot (p : MT) : MT := fun S => (p S).bind fun x => some (!x.1, x.2)
def VW (X : Cx) (e : Expr) (m : MT) : Prop := PW X e (tVT X.K m)
theorem vwt_and1 {p : MT} (h : VT X a p) : VW X (.BoolOp .And [a] pos) p := pw_and1 h
theorem vwt_or1 {p : MT} (h : VT X a p) : VW X (.BoolOp .Or [a] pos) p := pw_or1 h
theorem vwt_and {p q : MT} (h : VT X a p) (h2 : VW X (.BoolOp .And (b :: es) pos) q) : VW X (.BoolOp .And (a :: b :: es) pos) (qAnd p q) := PW.imp (pw_and h h2) fun σ H Q ⟨S, fr, c, S', h, e, k⟩ => by
  obtain ⟨⟨x, S1⟩, e1, e2⟩ := Option.bind_eq_some_iff.mp e
  refine ⟨S, fr, x, S1, h, e1, fun H1 h1 => ?_⟩
  cases x with
  | true => exact iteT ⟨S1, fr, c, S', h1, by simpa using e2, k⟩
  | false =>
    have z : (false, S1) = (c, S') := by simpa using e2
    cases z
    exact iteF (k _ h1)
theorem vwt_or {p q : MT} (h : VT X a p) (h2 : VW X (.BoolOp .Or (b :: es) pos) q) : VW X (.BoolOp .Or (a :: b :: es) pos) (qOr p q) := PW.imp (pw_or h h2) fun σ H Q ⟨S, fr, c, S', h, e, k⟩ => by
  obtain ⟨⟨x, S1⟩, e1, e2⟩ := Option.bind_eq_some_iff.mp e
  refine ⟨S, fr, x, S1, h, e1, fun H1 h1 => ?_⟩
  cases x with
  | false => exact iteF ⟨S1, fr, c, S', h1, by simpa using e2, k⟩
  | true =>
    have z : (true, S1) = (c, S') := by simpa using e2
    cases z
    exact iteT (k _ h1)
theorem vt_w {p : MT} (h : VW X e p) : VT X e p := PW.pt h
theorem vt_not {p : MT} (h : VT X a p) : VT X (.UnaryOp .Not a pos) (qNot p) := PT.imp (pt_not h) fun σ H Q ⟨S, fr, c, S', h, e, k⟩ => by
  obtain ⟨⟨x, S1⟩, e1, e2⟩ := Option.bind_eq_some_iff.mp e
  have z : (!x, S1) = (c, S') := by simpa using e2
  cases z
  exact ⟨S, fr, _, _, h, e1, k⟩
def eIf (t : MT) (p q : ME) : ME := fun S => (t S).bind fun x => if x.1 = true then p x.2 else q x.2
theorem ve_if {t : MT} {p q : ME} (ht : VT X c t) (h1 : VE X a p) (h2 : VE X b q) : VE X (.IfExp c a b pos) (eIf t p q) := PE.imp (pe_ifExp ht h1 h2) fun σ H Q ⟨S, fr, d, S', h, e, k⟩ => by
  obtain ⟨⟨x, S1⟩, e1, e2⟩ := Option.bind_eq_some_iff.mp e
  refine ⟨S, fr, x, S1, h, e1, fun H1 h1 => ?_⟩
  cases x with
  | true => exact iteT ⟨S1, fr, d, S', h1, by simpa using e2, k⟩
  | false => exact iteF ⟨S1, fr, d, S', h1, by simpa using e2, k⟩

/-! ### children -/
/-- the child at i -/
def kid (t : T) (i : Int) : Option T := match t with
  | .sh (.lst ds) => (atI ds i).map .sh
  | .sh (.tup ds) => (atI ds i).map .sh
  | .sh (.str z) => if lenOk z = true then (atI z.cps.toList i).map fun c => .sh (.str ⟨#[c]⟩) else none
  | .sh _ => none
  | .lst ts => atI ts i
  | .tup ts => atI ts i
def isSh : T → Bool
  | .sh _ => true
  | _ => false
theorem isSh_eq {t : T} (h : isSh t = true) : t = .sh (fz t) := by
  cases t with
  | sh d => rfl
  | _ => cases h
theorem Owns.get {K : PySem.W.Frag} {G H : Hp} : ∀ {ts : List T} {vs : List V} {fp : List Addr} {i : Nat} {t : T}, Owns K G H vs ts fp → ts[i]? = some t → ∃ v f, vs[i]? = some v ∧ Own K G H v t f
  | [], _, _, _, _, _, h => by simp at h
  | _ :: _, [], _, _, _, h, _ => h.elim
  | u :: ts, v :: vs, fp, 0, t, h, h' => by
    have z : u = t := by simpa using h'
    subst z
    obtain ⟨f, g, _, h1, _⟩ := h
    exact ⟨v, f, rfl, h1⟩
  | u :: ts, v :: vs, fp, i + 1, t, h, h' => by
    obtain ⟨f, g, _, _, h2⟩ := h
    obtain ⟨w, f', h3, h4⟩ := Owns.get (i := i) h2 (by simpa using h')
    exact ⟨w, f', by simpa using h3, h4⟩
theorem Owns.atI {K : PySem.W.Frag} {G H : Hp} {ts : List T} {vs : List V} {fp : List Addr} {i : Int} {t : T} (h : Owns K G H vs ts fp) (h' : L2.atI ts i = some t) : ∃ v f, L2.atI vs i = some v ∧ Own K G H v t f := by
  obtain ⟨j, h1, h2⟩ := Option.bind_eq_some_iff.mp h'
  obtain ⟨v, f, h3, h4⟩ := h.get h2
  refine ⟨v, f, ?_, h4⟩
  unfold L2.atI
  rw [h.length, h1]
  exact h3
/-- what reading a place of a value asks -/
def IxAt (K : PySem.W.Frag) (H : Hp) (x : V) (i : Int) (w : V) : Prop :=
  (∃ a vs, x = .ref a ∧ (SqL K H a vs ∨ SqT K H a vs) ∧ atI vs i = some w) ∨ ∃ z c, x = .str z ∧ z.length ≤ sizeLine ∧ atI z.cps.toList i = some c ∧ w = .str ⟨#[c]⟩
theorem IxAt.rIx {K : PySem.W.Frag} {H : Hp} {x : V} {i : Int} {w : V} {Q : VK} (h : IxAt K H x i w) (q : Q w H) : L2.rIx K x (.int i) H Q := by
  rcases h with ⟨a, vs, rfl, (k | k), e⟩ | ⟨z, c, rfl, l, e, rfl⟩
  · exact .inl ⟨a, vs, i, w, rfl, rfl, k, e, q⟩
  · exact .inr (.inl ⟨a, vs, i, w, rfl, rfl, k, e, q⟩)
  · exact .inr (.inr ⟨z, i, c, rfl, rfl, l, e, q⟩)
/-- a shared child is read, the tree stays -/
theorem At.peek {K : PySem.W.Frag} {H : Hp} {v : V} {t : T} {i : Int} {d : D} {ps : Ps} (h : At K H ((v, t) :: ps)) (e : kid t i = some (.sh d)) : ∃ w, IxAt K H v i w ∧ At K H ((w, .sh d) :: (v, t) :: ps) := by
  cases t with
  | sh d0 =>
    obtain ⟨G, fp, s, ⟨f, g, rfl, ⟨rfl, o1⟩, o2⟩, n, e0, x⟩ := h
    cases d0 with
    | lst ds =>
      obtain ⟨a, vs, rfl, k, rs⟩ := o1
      obtain ⟨d', e1, e2⟩ := Option.map_eq_some_iff.mp (show (L2.atI ds i).map T.sh = some (.sh d) from e)
      cases e2
      obtain ⟨w, e3, rw'⟩ := rs.atI e1
      exact ⟨w, .inl ⟨a, vs, rfl, .inl (s.seq k), e3⟩, G, _, s, ⟨[], _, rfl, ⟨rfl, rw'⟩, [], g, rfl, ⟨rfl, a, vs, rfl, k, rs⟩, o2⟩, n, e0, x⟩
    | tup ds =>
      obtain ⟨a, vs, rfl, k, rs⟩ := o1
      obtain ⟨d', e1, e2⟩ := Option.map_eq_some_iff.mp (show (L2.atI ds i).map T.sh = some (.sh d) from e)
      cases e2
      obtain ⟨w, e3, rw'⟩ := rs.atI e1
      exact ⟨w, .inl ⟨a, vs, rfl, .inr (Same.sqT s k), e3⟩, G, _, s, ⟨[], _, rfl, ⟨rfl, rw'⟩, [], g, rfl, ⟨rfl, a, vs, rfl, k, rs⟩, o2⟩, n, e0, x⟩
    | str z =>
      unfold kid at e
      simp only at e
      split at e
      · rename_i hl
        obtain ⟨c, e1, e2⟩ := Option.map_eq_some_iff.mp e
        cases e2
        exact ⟨.str ⟨#[c]⟩, .inr ⟨z, c, o1, lenOk_iff.mp hl, e1, rfl⟩, G, _, s, ⟨[], _, rfl, ⟨rfl, rfl⟩, [], g, rfl, ⟨rfl, o1⟩, o2⟩, n, e0, x⟩
      · cases e
    | _ => cases e
  | lst ts =>
    obtain ⟨G, fp, s, ⟨f, g, rfl, o1, o2⟩, n, e0, x⟩ := h
    obtain ⟨a, vs, f', rfl, rfl, ha, os⟩ := id o1
    obtain ⟨w, f2, e3, rw'⟩ := os.atI (show L2.atI ts i = some (.sh d) from e)
    exact ⟨w, .inl ⟨a, vs, rfl, .inl (.of ha), e3⟩, G, _, s, ⟨[], _, rfl, ⟨rfl, rw'.2⟩, _, g, rfl, o1, o2⟩, n, e0, x⟩
  | tup ts =>
    obtain ⟨G, fp, s, ⟨f, g, rfl, o1, o2⟩, n, e0, x⟩ := h
    obtain ⟨a, vs, f', rfl, rfl, ha, os⟩ := id o1
    obtain ⟨w, f2, e3, rw'⟩ := os.atI (show L2.atI ts i = some (.sh d) from e)
    exact ⟨w, .inl ⟨a, vs, rfl, .inr (.of ha), e3⟩, G, _, s, ⟨[], _, rfl, ⟨rfl, rw'.2⟩, _, g, rfl, o1, o2⟩, n, e0, x⟩
/-- o[i], o a value of its own -/
def eIx (ma mb : ME) : ME := fun S => (ma S).bind fun p => (mb p.2).bind fun q => match fz q.1 with
  | .int i => (kid p.1 i).bind fun t => if isSh t = true then some (t, q.2) else none
  | _ => none
theorem ve_ix {ma mb : ME} (ha : VE X a ma) (hb : VE X b mb) (hs : PlainIx b := by exact fun _ _ => rfl) : VE X (.Subscript a b pos) (eIx ma mb) := PE.imp (pe_ix ix_seq ha hb hs) fun σ H Q ⟨S, fr, t, S', h, e, q⟩ => by
  obtain ⟨⟨ta, S1⟩, e1, e⟩ := Option.bind_eq_some_iff.mp e
  obtain ⟨⟨tb, S2⟩, e2, e⟩ := Option.bind_eq_some_iff.mp e
  refine ⟨S, fr, ta, S1, h, e1, fun v H1 h1 => ⟨S1, (v, ta) :: fr, tb, S2, h1, e2, fun u H2 h2 => ?_⟩⟩
  simp only at e
  split at e
  · rename_i i ei
    obtain ⟨t', e3, e⟩ := Option.bind_eq_some_iff.mp e
    split at e
    · rename_i hsh
      obtain ⟨rfl, rfl⟩ : t' = t ∧ S2 = S' := by simpa using e
      have ru := h2.rep
      rw [ei] at ru
      rw [isSh_eq hsh] at e3 q
      obtain ⟨w, ix, k⟩ := At.peek (h2.drop1.at1) e3
      rw [show u = .int i from ru]
      exact ix.rIx (q w H2 ((AtS.of h2.1 k : AtS X.K H2 σ S2 ((w, .sh (fz t')) :: (v, ta) :: fr)).sub (Sub.refl.skip.cons)))
    · cases e
  · cases e
/-- x[i], x a name -/
def eIxN (j : Nat) (mb : ME) : ME := fun S => match S[j]? with
  | some (some _) => (mb S).bind fun q => match q.2[j]? with
    | some (some t0) => (match fz q.1 with
      | .int i => (kid t0 i).bind fun t => if isSh t = true then some (t, q.2) else none
      | _ => none)
    | _ => none
  | _ => none
theorem ve_ixN (j : Nat) {x : Str} {px : Pos} {mb : ME} (hb : VE X b mb) (hs : PlainIx b := by exact fun _ _ => rfl) (hN : X.N[j]? = some x := by rfl) (hv : Vis X.env.scope x := by first | exact Or.inl rfl | exact Or.inr (Or.inl rfl) | exact Or.inr (Or.inr rfl)) (hd : (x == ("__debug__" : Str)) = false := by decide)
    (hcd : (x == ("__classdict__" : Str)) = false := by decide) : VE X (.Subscript (.Name x px) b pos) (eIxN j mb) := PE.imp (pe_ix ix_seq (pe_var hN hv hd hcd) hb hs) fun σ H Q ⟨S, fr, t, S', h, e, q⟩ => by
  unfold eIxN at e
  split at e
  · rename_i t1 e0
    obtain ⟨⟨tb, S2⟩, e2, e⟩ := Option.bind_eq_some_iff.mp e
    obtain ⟨v, hv, _⟩ := h.take e0
    refine ⟨v, hv, S, fr, tb, S2, h, e2, fun u H2 h2 => ?_⟩
    simp only at e
    split at e
    · rename_i t0 e4
      split at e
      · rename_i i ei
        obtain ⟨t', e3, e⟩ := Option.bind_eq_some_iff.mp e
        split at e
        · rename_i hsh
          obtain ⟨rfl, rfl⟩ : t' = t ∧ S2 = S' := by simpa using e
          have ru := h2.rep
          rw [ei] at ru
          rw [isSh_eq hsh] at e3 q
          obtain ⟨v', hv', k⟩ := h2.take e4
          rw [hv] at hv'
          cases hv'
          obtain ⟨w, ix, k2⟩ := At.peek k.at1 e3
          rw [show u = .int i from ru]
          have k3 : AtS X.K H2 σ (S2.set j none) ((v, t0) :: (w, .sh (fz t')) :: fr) := (AtS.of k.1 k2 : AtS X.K H2 σ (S2.set j none) ((w, .sh (fz t')) :: (v, t0) :: (u, tb) :: fr)).sub ⟨[(u, tb)], (List.Perm.swap ..).trans (List.perm_middle (l₁ := [(v, t0), (w, T.sh (fz t'))]))⟩
          have k4 := k3.back hv
          rw [List.set_set, set_at e4] at k4
          exact ix.rIx (q w H2 k4)
        · cases e
      · cases e
    · cases e
  · cases e

/-! ### argument lists -/
/-- which of the values are those of moved slots -/
def Mvd (σ : St) : List (Option Nat) → List V → Prop
  | [], [] => True
  | some i :: ms, v :: vs => σ[i]? = some (some v) ∧ Mvd σ ms vs
  | none :: ms, _ :: vs => Mvd σ ms vs
  | _, _ => False
def tVA' (K : PySem.W.Frag) (ms : List (Option Nat)) (m : MA) : TA := fun σ H Q => ∃ S fr ts S', AtS K H σ S fr ∧ m S = some (ts, S') ∧ ∀ vs H', Mvd σ ms vs → vs.length = ts.length → AtS K H' σ S' (vs.zip ts ++ fr) → Q vs H'
abbrev VM (X : Cx) (es : List Expr) (ms : List (Option Nat)) (m : MA) : Prop := PA X es (tVA' X.K ms m)
def aNil : MA := fun S => some ([], S)
theorem va_nil : VM X [] [] aNil := PA.imp pa_nil fun σ H Q ⟨S, fr, ts, S', h, e, q⟩ => by
  cases e
  exact q [] H trivial rfl h
def aCons (m : ME) (r : MA) : MA := fun S => (m S).bind fun p => (r p.2).bind fun q => some (p.1 :: q.1, q.2)
theorem va_cons {ms : List (Option Nat)} {m : ME} {r : MA} (h : VE X e m) (hr : VM X es ms r) (hs : starEach (e :: es) X.env = (false, eval e X.env) :: starEach es X.env := by rfl) : VM X (e :: es) (none :: ms) (aCons m r) :=
  PA.imp (pa_cons h hr hs) fun σ H Q ⟨S, fr, ts, S', h, e, q⟩ => by
    obtain ⟨⟨t, S1⟩, e1, e⟩ := Option.bind_eq_some_iff.mp e
    obtain ⟨⟨us, S2⟩, e2, e⟩ := Option.bind_eq_some_iff.mp e
    cases e
    refine ⟨S, fr, t, S1, h, e1, fun v H1 h1 => ⟨S1, (v, t) :: fr, us, S2, h1, e2, fun vs H2 m2 l2 h2 => q (v :: vs) H2 m2 (congrArg (· + 1) l2) (h2.perm List.perm_middle)⟩⟩
/-- a name, its tree taken when all the others are reckoned -/
def aMv (i : Nat) (r : MA) : MA := fun S => match S[i]? with
  | some (some _) => (r S).bind fun q => match q.2[i]? with
    | some (some t) => some (t :: q.1, q.2.set i none)
    | _ => none
  | _ => none
theorem va_mv (i : Nat) {x : Str} {ms : List (Option Nat)} {r : MA} (hr : VM X es ms r) (hN : X.N[i]? = some x := by rfl) (hv : Vis X.env.scope x := by first | exact Or.inl rfl | exact Or.inr (Or.inl rfl) | exact Or.inr (Or.inr rfl)) (hd : (x == ("__debug__" : Str)) = false := by decide)
    (hcd : (x == ("__classdict__" : Str)) = false := by decide) (hs : starEach (.Name x pos :: es) X.env = (false, eval (.Name x pos) X.env) :: starEach es X.env := by rfl) : VM X (.Name x pos :: es) (some i :: ms) (aMv i r) :=
  PA.imp (pa_cons (pe_var hN hv hd hcd) hr hs) fun σ H Q ⟨S, fr, ts, S', h, e, q⟩ => by
    unfold aMv at e
    split at e
    · rename_i t1 e0
      obtain ⟨⟨us, S2⟩, e2, e⟩ := Option.bind_eq_some_iff.mp e
      simp only at e
      split at e
      · rename_i t e3
        cases e
        obtain ⟨v, hv, _⟩ := h.take e0
        refine ⟨v, hv, S, fr, us, S2, h, e2, fun vs H2 m2 l2 h2 => ?_⟩
        obtain ⟨v', hv', k⟩ := h2.take e3
        rw [hv] at hv'
        cases hv'
        exact q (v :: vs) H2 ⟨hv, m2⟩ (congrArg (· + 1) l2) k
      · cases e
    · cases e

/-! ### calls of defs -/
/-- what a def computes: the result, what the arguments have become -/
abbrev Fn := List T → Option (T × List (Option T))
def spV (K : PySem.W.Frag) (n : Nat) (m : Fn) : Sp := fun vs H Q _ => ∃ ts fr r ts', vs.length = n ∧ ts.length = n ∧ At K H (vs.zip ts ++ fr) ∧ m ts = some (r, ts') ∧ ts'.length = n ∧ ∀ v H', At K H' ((v, r) :: prs (vs.map some) ts' ++ fr) → Q v H'
structure Good (P : Program) (w : World) (K : PySem.W.Frag) (mg : Str → Option Value) (base : Heap) (x : Str) (k : Nat) (ps : List Str) (m : Fn) : Prop where
  ex : ∃ f fd, mg x = some (.ref f) ∧ PySem.W.keepIn K (.ref f) = true ∧ Binds K fd ps [] ∧ FnOk P w K mg base CX0 k f fd ps (spV K ps.length m)
def putB : List (Option Nat) → List (Option T) → Sto → Sto
  | some i :: ms, some t :: ts, S => putB ms ts (S.set i (some t))
  | _ :: ms, _ :: ts, S => putB ms ts S
  | _, _, S => S
theorem AtS.putB {K : PySem.W.Frag} {H : Hp} {σ : St} {fr : Ps} : ∀ {ms : List (Option Nat)} {vs : List V} {ts : List (Option T)} {S : Sto}, Mvd σ ms vs → AtS K H σ S (prs (vs.map some) ts ++ fr) → AtS K H σ (VS.putB ms ts S) fr
  | [], [], ts, S, _, h => by
    cases ts <;> exact h
  | some i :: ms, v :: vs, [], S, _, h => h
  | none :: ms, v :: vs, [], S, _, h => h
  | some i :: ms, v :: vs, some t :: ts, S, m, h => AtS.putB (ms := ms) (vs := vs) (ts := ts) m.2 (AtS.back (show AtS K H σ S ((v, t) :: (prs (vs.map some) ts ++ fr)) from h) m.1)
  | some i :: ms, v :: vs, none :: ts, S, m, h => AtS.putB (ms := ms) (vs := vs) (ts := ts) m.2 h
  | none :: ms, v :: vs, some t :: ts, S, m, h => AtS.putB (ms := ms) (vs := vs) (ts := ts) m (AtS.drop1 (show AtS K H σ S ((v, t) :: (prs (vs.map some) ts ++ fr)) from h))
  | none :: ms, v :: vs, none :: ts, S, m, h => AtS.putB (ms := ms) (vs := vs) (ts := ts) m h
  | [], _ :: _, _, _, m, _ => m.elim
  | some _ :: _, [], _, _, m, _ => m.elim
  | none :: _, [], _, _, m, _ => m.elim
theorem Mvd.length {σ : St} : ∀ {ms : List (Option Nat)} {vs : List V}, Mvd σ ms vs → ms.length = vs.length
  | [], [], _ => rfl
  | some _ :: ms, _ :: vs, h => congrArg (· + 1) (Mvd.length h.2)
  | none :: ms, _ :: vs, h => congrArg (· + 1) (Mvd.length (ms := ms) (vs := vs) h)
  | [], _ :: _, h => h.elim
  | some _ :: _, [], h => h.elim
  | none :: _, [], h => h.elim
def eCall (f : Fn) (ms : List (Option Nat)) (ma : MA) : ME := fun S => (ma S).bind fun p => (f p.1).bind fun r => if r.2.length = ms.length then some (r.1, putB ms r.2 p.2) else none
theorem call_imp' {f : Fn} {ms : List (Option Nat)} {ma : MA} {n : Nat} {σ : St} {H : Hp} {Q : VK} (hn : ms.length = n) (h : tV X.K (eCall f ms ma) σ H Q) : tCall (spV X.K n f) [] E0 (tVA' X.K ms ma) σ H Q := by
  obtain ⟨S, fr, t, S', h, e, q⟩ := h
  obtain ⟨⟨ts, S1⟩, e1, e⟩ := Option.bind_eq_some_iff.mp e
  obtain ⟨⟨r, ts'⟩, e2, e⟩ := Option.bind_eq_some_iff.mp e
  simp only at e
  split at e
  · rename_i hl
    obtain ⟨rfl, rfl⟩ : r = t ∧ putB ms ts' S1 = S' := by simpa using e
    refine ⟨S, fr, ts, S1, h, e1, fun vs H1 mv l1 h1 => ?_⟩
    have l2 := mv.length
    show spV X.K n f (vs ++ []) H1 Q E0
    rw [List.append_nil]
    refine ⟨ts, fr ++ prs σ S1, r, ts', l2.symm.trans hn, l1.symm.trans (l2.symm.trans hn), ?_, e2, hl.trans hn, fun v H2 h2 => q v H2 ?_⟩
    · have k := h1.front
      rw [List.append_assoc] at k
      exact k
    · have k : AtS X.K H2 σ S1 ((v, r) :: (prs (vs.map some) ts' ++ fr)) := AtS.of h1.1 (by
        have z : (v, r) :: prs (vs.map some) ts' ++ (fr ++ prs σ S1) = (v, r) :: (prs (vs.map some) ts' ++ fr) ++ prs σ S1 := by simp
        rw [← z]
        exact h2)
      exact AtS.putB (fr := (v, r) :: fr) mv (k.perm List.perm_middle.symm)
  · cases e
theorem ve_call {x : Str} {k : Nat} {ps : List Str} {f : Fn} {ms : List (Option Nat)} {ma : MA} {p : Pos} (F : Good X.prog X.w X.K X.mg X.base x k ps f) (hr : Room k X.A) (ha : VM X (e :: es) ms ma) (hn : ms.length = ps.length := by rfl) (hx : X.xe = fun _ _ => False := by rfl) (hg : Gl X x := by rfl)
    (hdb : (x == ("__debug__" : Str)) = false := by decide) (he : starEach (e :: es) X.env = (false, eval e X.env) :: starEach es X.env := by rfl) (hpl : (backTo pos (starEach es X.env)).any (·.1) = false := by rfl) : VE X (.Call (.Name x p) (e :: es) [] pos) (eCall f ms ma) := by
  obtain ⟨a, fd, hm, hk, hb, F⟩ := F.ex
  exact PE.imp (pe_call F hr hg hm hk hb .nil pass0 ha hdb he hpl) fun σ H Q h => call_imp' hn h
theorem ve_call0 {x : Str} {k : Nat} {f : Fn} {p : Pos} (F : Good X.prog X.w X.K X.mg X.base x k [] f) (hr : Room k X.A) (hg : Gl X x := by rfl) (hdb : (x == ("__debug__" : Str)) = false := by decide) : VE X (.Call (.Name x p) [] [] pos) (eCall f [] aNil) := by
  obtain ⟨a, fd, hm, hk, hb, F⟩ := F.ex
  refine PE.imp (pe_call0 F hr hg hm hk hb .nil pass0 hdb) fun σ H Q h => ?_
  have k := call_imp' (n := 0) rfl h
  obtain ⟨S, fr, ts, S', h1, e, q⟩ := k
  cases e
  exact q [] H trivial rfl h1

/-! ### displays -/
theorem AtS.kidsAt {K : PySem.W.Frag} {H : Hp} {σ : St} {S : Sto} {fr : Ps} {vs : List V} {ts : List T} (h : AtS K H σ S (vs.zip ts ++ fr)) : At K H (vs.zip ts ++ (fr ++ prs σ S)) := by
  have k := h.front
  rw [List.append_assoc] at k
  exact k
def eLst (ma : MA) : ME := fun S => (ma S).bind fun p => if p.1.length ≤ 1000 then some (.lst p.1, p.2) else none
theorem le1000 {n : Nat} (h : n ≤ 1000) : n ≤ sizeLine := Nat.le_trans h (by decide)
theorem ve_lst {ms : List (Option Nat)} {ma : MA} (ha : VM X es ms ma) : VE X (.List es pos) (eLst ma) := PE.imp (pe_lst ha) fun σ H Q ⟨S, fr, t, S', h, e, q⟩ => by
  obtain ⟨⟨ts, S1⟩, e1, e⟩ := Option.bind_eq_some_iff.mp e
  split at e
  · rename_i hl
    cases e
    exact ⟨S, fr, ts, S1, h, e1, fun vs H1 _ l1 h1 => ⟨by rw [l1]; exact le1000 hl, fun p hp => q _ _ (AtS.of h1.1 (h1.kidsAt.newL l1 hp))⟩⟩
  · cases e
/-- a tuple of shared children is shared -/
def mkTup (ts : List T) : T := if shAll ts = true then .sh (.tup (fzL ts)) else .tup ts
def eTup (ma : MA) : ME := fun S => (ma S).bind fun p => if p.1.length ≤ 1000 then some (mkTup p.1, p.2) else none
theorem ve_tup {ms : List (Option Nat)} {ma : MA} {x1} (ha : VM X es ms ma) : VE X (.Tuple es x1 pos) (eTup ma) := PE.imp (pe_tup ha) fun σ H Q ⟨S, fr, t, S', h, e, q⟩ => by
  obtain ⟨⟨ts, S1⟩, e1, e⟩ := Option.bind_eq_some_iff.mp e
  split at e
  · rename_i hl
    cases e
    refine ⟨S, fr, ts, S1, h, e1, fun vs H1 _ l1 h1 => ⟨by rw [l1]; exact le1000 hl, fun p hp => q _ _ ?_⟩⟩
    have k : AtS X.K _ σ S1 ((.ref p, .tup ts) :: fr) := AtS.of h1.1 (h1.kidsAt.newT l1 hp)
    unfold mkTup
    split
    · exact k.freeze
    · exact k
  · cases e
end
end VS
/-! VS: lists put together, statements, loops, comprehensions, defs. -/
namespace VS
open PySem PySem.Spec PyProof.Rows L2

/-! ### lists put together -/
section
variable {K : PySem.W.Frag} {H : Hp} {σ : St} {S : Sto} {fr ps : Ps}
def kidsL : T → Option (List T)
  | .lst ts => some ts
  | .sh (.lst ds) => some (ds.map .sh)
  | _ => none
theorem At.unl {v : V} {t : T} {ts : List T} (h : At K H ((v, t) :: ps)) (e : kidsL t = some ts) : ∃ a vs, v = .ref a ∧ SqL K H a vs ∧ vs.length = ts.length ∧ At K H (vs.zip ts ++ ps) := by
  cases t with
  | lst us =>
    have z : us = ts := by simpa [kidsL] using e
    subst z
    obtain ⟨a, vs, h1, h2, h3, h4⟩ := h.open
    exact ⟨a, vs, h1, .of h2, h3, h4.at⟩
  | sh d =>
    cases d with
    | lst ds =>
      have z : ds.map T.sh = ts := by simpa [kidsL] using e
      subst z
      obtain ⟨a, vs, h1, h2, h3, h4⟩ := h.kids
      exact ⟨a, vs, h1, h2, by rw [List.length_map]; exact h3, h4⟩
    | _ => cases e
  | _ => cases e
theorem At.append {v : V} {a : Addr} {t : T} {ts : List T} (h : At K H ((v, t) :: (.ref a, .lst ts) :: ps)) : ∃ vs, H a = some (.lst vs) ∧ vs.length = ts.length ∧ At K (upd H a (.lst (vs ++ [v]))) ((.ref a, .lst (ts ++ [t])) :: ps) := by
  obtain ⟨b, vs, h1, h2, h3, h4⟩ := (h.perm (.swap ..)).open
  cases h1
  refine ⟨vs, h2, h3, AtA.closeL ?_ (by simp [h3])⟩
  refine h4.perm ?_
  rw [List.zip_append h3]
  simp only [List.zip_cons_cons, List.zip_nil_right, List.append_assoc]
  exact .refl _
theorem At.setAt {v : V} {a : Addr} {t : T} {ts : List T} {j : Nat} (h : At K H ((v, t) :: (.ref a, .lst ts) :: ps)) (hj : j < ts.length) : ∃ vs, H a = some (.lst vs) ∧ vs.length = ts.length ∧ At K (upd H a (.lst (vs.set j v))) ((.ref a, .lst (ts.set j t)) :: ps) := by
  obtain ⟨b, vs, h1, h2, h3, h4⟩ := (h.perm (.swap ..)).open
  cases h1
  refine ⟨vs, h2, h3, AtA.closeL ?_ (by simp [h3])⟩
  have z : ∀ (j : Nat) (vs : List V) (ts : List T), j < ts.length → vs.length = ts.length → Sub ((vs.set j v).zip (ts.set j t)) ((v, t) :: vs.zip ts) := by
    intro j
    induction j with
    | zero =>
      intro vs ts h l
      cases vs with
      | nil => cases ts <;> simp at h l
      | cons w vs =>
        cases ts with
        | nil => simp at h
        | cons u ts => exact (Sub.refl.skip).cons
    | succ j ih =>
      intro vs ts h l
      cases vs with
      | nil => cases ts <;> simp at h l
      | cons w vs =>
        cases ts with
        | nil => simp at h
        | cons u ts => exact ((ih vs ts (by simpa using h) (by simpa using l)).cons).trans (Sub.of_perm (.swap ..))
  refine (h4.perm (qs := (v, t) :: vs.zip ts ++ ps) (List.perm_middle)).sub ((z j vs ts hj h3).append_right ps)
end

section
variable {X : Cx} {e a b c : Expr} {es : List Expr} {pos : Pos}
/-- two trees in, one out -/
def rT (K : PySem.W.Frag) (g : T → T → Option T) : R2 := fun x y H Q => ∃ tx ty ps t, At K H ((y, ty) :: (x, tx) :: ps) ∧ g tx ty = some t ∧ ∀ z H', At K H' ((z, t) :: ps) → Q z H'
def e2T (g : T → T → Option T) (ma mb : ME) : ME := fun S => (ma S).bind fun p => (mb p.2).bind fun q => (g p.1 q.1).bind fun t => some (t, q.2)
theorem ve_opT {op : Operator} {g : T → T → Option T} {ma mb : ME} (ho : OpR X (binaryOp op) (rT X.K g)) (ha : VE X a ma) (hb : VE X b mb) : VE X (.BinOp a op b pos) (e2T g ma mb) := PE.imp (pe_op ho ha hb) fun σ H Q ⟨S, fr, t, S', h, e, q⟩ => by
  obtain ⟨⟨ta, S1⟩, e1, e⟩ := Option.bind_eq_some_iff.mp e
  obtain ⟨⟨tb, S2⟩, e2, e⟩ := Option.bind_eq_some_iff.mp e
  obtain ⟨t', e3, e⟩ := Option.bind_eq_some_iff.mp e
  obtain ⟨rfl, rfl⟩ : t' = t ∧ S2 = S' := by simpa using e
  refine ⟨S, fr, ta, S1, h, e1, fun v H1 h1 => ⟨S1, (v, ta) :: fr, tb, _, h1, e2, fun u H2 h2 => ?_⟩⟩
  exact ⟨ta, tb, fr ++ prs σ S2, t', h2.front, e3, fun z H3 h3 => q z H3 (AtS.of h2.1 h3)⟩
def addT (x y : T) : Option T := match kidsL x, kidsL y with
  | some xs, some ys => if xs.length + ys.length ≤ sizeLine then some (.lst (xs ++ ys)) else none
  | _, _ => (dAdd (fz x) (fz y)).map .sh
theorem op_catSq : OpR X (binaryOp .Add) (fun x y H Q => ∃ l b xs zs, x = .ref l ∧ y = .ref b ∧ SqL X.K H l xs ∧ SqL X.K H b zs ∧ xs.length + zs.length ≤ sizeLine ∧ ∀ p, H p = none → Q (.ref p) (upd H p (.lst (xs ++ zs)))) := by
  intro pins s σ H x y v u Q I rx ry h
  obtain ⟨l, b, xs, zs, rfl, rfl, hH, hB, hz, q⟩ := h
  cases rx
  cases ry
  obtain ⟨its, r, ⟨⟨cls, dd, data, sl⟩, n, ho, hc, hdd, hd⟩, _⟩ := I.list hH
  obtain ⟨its2, r2, ⟨⟨cls2, dd2, data2, sl2⟩, n2, ho2, hc2, hdd2, hd2⟩, _⟩ := I.list hB
  simp only at hc hd hc2 hd2
  subst hc hd hc2 hd2
  have e : its.toArray ++ its2.toArray = (its ++ its2).toArray := by simp
  have e1 := r.length
  have e2 := r2.length
  refine concat_meets ⟨_, ho, rfl⟩ ⟨_, ho2, rfl⟩ noFill_list_add seq_list_add PySem.F.slot_list_add PySem.F.entry_list_add (PySem.F.args_list_add_2 _ _) (list_addW l b its.toArray its2.toArray n n2 dd dd2 sl sl2 (by rw [List.size_toArray, List.size_toArray]; omega)) ⟨ho, ho2, ?_⟩
  rw [e]
  exact ⟨.ref _, _, I.lnew (t' := s.toks) (r.append r2) (by rw [List.length_append]; omega), rfl, q _ I.fresh⟩
theorem dAdd_sc {x y d : D} (h : dAdd x y = some d) : sc d = true := by
  cases x with
  | int i =>
    cases y with
    | int j =>
      have z : D.int (i + j) = d := by simpa [dAdd] using h
      subst z
      rfl
    | _ => cases h
  | str i =>
    cases y with
    | str j =>
      simp only [dAdd] at h
      split at h
      · have z := Option.some.inj h
        subst z
        rfl
      · cases h
    | _ => cases h
  | _ => cases y <;> cases h
theorem ot_add : OpR X (binaryOp .Add) (rT X.K addT) := by
  intro pins s σ H x y v u Q I rx ry ⟨tx, ty, ps, t, h, e, q⟩
  unfold addT at e
  split at e
  · rename_i xs ys ex ey
    split at e
    · rename_i hl
      have z := Option.some.inj e
      subst z
      obtain ⟨b, vs2, rfl, k2, l2, h2⟩ := h.unl ey
      obtain ⟨a, vs1, rfl, k1, l1, h3⟩ := (h2.perm (qs := (x, tx) :: (vs2.zip ys ++ ps)) List.perm_middle).unl ex
      refine op_catSq pins s σ H _ _ v u Q I rx ry ⟨a, b, vs1, vs2, rfl, rfl, k1, k2, by rw [l1, l2]; exact hl, fun p hp => q _ _ (At.newL ?_ (by simp [l1, l2]) hp)⟩
      rw [List.zip_append l1, List.append_assoc]
      exact h3
    · cases e
  · obtain ⟨d, e1, e2⟩ := Option.map_eq_some_iff.mp e
    subst e2
    have r2 : Rep X.K H y (fz ty) := h.freeze.rep
    have r1 : Rep X.K H x (fz tx) := (h.perm (.swap ..)).freeze.rep
    exact od_add pins s σ H x y v u Q I rx ry ⟨_, _, d, r1, r2, e1, fun z rz => q z H ((h.tail.tail).new (scRep (dAdd_sc e1) rz))⟩
/-- list(e) -/
def eList (ma : MA) : ME := fun S => (ma S).bind fun p => match p.1 with
  | [t] => (items (fz t)).bind fun ds => some (.lst (ds.map .sh), p.2)
  | _ => none
theorem ve_list {m : MA} {ms : List (Option Nat)} {p : Pos} (ha : VM X [e] ms m) (hm : X.mg "list" = none) (hv : bootBuiltins "list" = some (.type "list") := by decide +kernel) (hg : Gl X "list" := by rfl)
    (he : starEach [e] X.env = (false, eval e X.env) :: starEach [] X.env := by rfl) (hpl : (backTo pos (starEach [] X.env)).any (·.1) = false := by rfl) : VE X (.Call (.Name "list" p) [e] [] pos) (eList m) :=
  PE.imp (pe_callTy call_list_of hg hm hv ha (by decide) (by decide) he hpl) fun σ H Q ⟨S, fr, t, S', h, e, q⟩ => by
    obtain ⟨⟨ts, S1⟩, e1, e⟩ := Option.bind_eq_some_iff.mp e
    refine ⟨S, fr, ts, S1, h, e1, fun vs H1 _ l1 h1 => ?_⟩
    simp only at e
    split at e
    · rename_i t0
      obtain ⟨ds, e2, e⟩ := Option.bind_eq_some_iff.mp e
      obtain ⟨rfl, rfl⟩ : T.lst (ds.map .sh) = t ∧ S1 = S' := by simpa using e
      cases vs with
      | nil => simp at l1
      | cons v vs =>
        cases vs with
        | cons _ _ => simp at l1
        | nil =>
          have h2 : AtS X.K H1 σ S1 ((v, .sh (fz t0)) :: fr) := AtS.freeze h1
          have fin : ∀ (a : Addr) (us : List V), us.length = ds.length → At X.K H1 (us.zip (ds.map T.sh) ++ (fr ++ prs σ S1)) → ∀ l, H1 l = none → Q (.ref l) (upd H1 l (.lst us)) := fun a us l2 k l hl => q _ _ (AtS.of h2.1 (k.newL (by rw [List.length_map]; exact l2) hl))
          cases hd : fz t0 with
          | lst xs =>
            rw [hd] at h2 e2
            have z : xs = ds := by simpa [items] using e2
            subst z
            obtain ⟨a, us, rfl, k, l2, h3⟩ := h2.at1.kids
            exact ⟨a, us, rfl, .inl k, fin a us l2 h3⟩
          | tup xs =>
            rw [hd] at h2 e2
            have z : xs = ds := by simpa [items] using e2
            subst z
            obtain ⟨a, us, rfl, k, l2, h3⟩ := h2.at1.kidsT
            exact ⟨a, us, rfl, .inr k, fin a us l2 h3⟩
          | _ =>
            rw [hd] at e2
            cases e2
    · cases e
/-- sep.join(e) -/
def strsD : List D → Option (List Str)
  | [] => some []
  | .str x :: ds => (strsD ds).map (x :: ·)
  | _ :: _ => none
def joinD (x y : D) : Option D := match x with
  | .str a => (items y).bind fun ds => (strsD ds).bind fun ys => if (ys.map (·.length)).sum + ys.length * a.length ≤ 16777216 then some (.str (Txt.join a ys)) else none
  | _ => none
theorem strsD_vals {K : PySem.W.Frag} {H : Hp} : ∀ {ds : List D} {vs : List V} {ys : List Str}, strsD ds = some ys → Reps K H vs ds → vs = ys.map V.str
  | [], [], ys, h, _ => by
    have z : ys = [] := by simpa [strsD] using h.symm
    rw [z] <;> rfl
  | d :: ds, v :: vs, ys, h, r => by
    cases d with
    | str x =>
      obtain ⟨zs, h1, h2⟩ := Option.map_eq_some_iff.mp (show (strsD ds).map (x :: ·) = some ys from h)
      subst h2
      rw [strsD_vals h1 r.2, show v = .str x from r.1] <;> rfl
    | _ => cases h
  | [], _ :: _, _, _, h => h.elim
  | _ :: _, [], _, _, h => h.elim
def e2M (g : D → D → Option D) (ma mb : ME) : ME := fun S => (ma S).bind fun p => (mb p.2).bind fun q => sD (g (fz p.1) (fz q.1)) q.2
theorem ve_join {apos : Pos} {ma mb : ME} (ha : VE X a ma) (hb : VE X b mb) (hs : starEach [b] X.env = [(false, eval b X.env)] := by rfl) (hbase : attributeBase a "join" X.env (eval a X.env) = eval a X.env := by rfl) (hline : (apos.endLine == pos.line) = true := by rfl) :
    VE X (.Call (.Attribute a "join" apos) [b] [] pos) (e2M joinD ma mb) := PE.imp (pe_join ha hb hs hbase hline) fun σ H Q ⟨S, fr, t, S', h, e, q⟩ => by
  obtain ⟨⟨ta, S1⟩, e1, e⟩ := Option.bind_eq_some_iff.mp e
  obtain ⟨⟨tb, S2⟩, e2, e⟩ := Option.bind_eq_some_iff.mp e
  obtain ⟨d, e3, hs, rfl, rfl⟩ := sD_some e
  have e4 : joinD (fz ta) (fz tb) = some d := e3
  cases hta : fz ta with
  | str x =>
    rw [hta] at e4
    obtain ⟨ds, e5, e6⟩ := Option.bind_eq_some_iff.mp (show ((items (fz tb)).bind fun ds => (strsD ds).bind fun ys => if (ys.map (·.length)).sum + ys.length * x.length ≤ 16777216 then some (.str (Txt.join x ys)) else none) = some d from e4)
    obtain ⟨ys, e7, e8⟩ := Option.bind_eq_some_iff.mp e6
    split at e8
    · rename_i hl
      have z := Option.some.inj e8
      subst z
      refine ⟨S, fr, ta, S1, h, e1, fun v H1 h1 => ⟨?_, S1, (v, ta) :: fr, tb, _, h1, e2, fun u H2 h2 => ?_⟩⟩
      · have r := h1.rep
        rw [hta] at r
        exact ⟨x, r⟩
      · obtain ⟨r1, r2⟩ := h2.reps2
        rw [hta] at r1
        obtain ⟨p, vs, rfl, k, rs⟩ := r2.ref e5
        have ev := strsD_vals e7 rs
        subst ev
        exact ⟨x, p, ys, r1, rfl, k, hl, q _ _ ((h2.drops [_, _]).new fun _ => rfl)⟩
    · cases e8
  | _ =>
    rw [hta] at e4
    cases e4
end

/-! ### statements -/
inductive Fl where
  | nx (S : Sto) | bk (S : Sto) | ct (S : Sto) | rt (t : T) (S : Sto)
abbrev MS := Sto → Option Fl
/-- slots outside as are as they were -/
structure Keep (as : List Nat) (σ σ' : St) : Prop where
  len : σ'.length = σ.length
  at_ : ∀ i, i ∉ as → σ'[i]? = σ[i]?
theorem Keep.refl {as : List Nat} {σ : St} : Keep as σ σ := ⟨rfl, fun _ _ => rfl⟩
theorem Keep.trans {as bs : List Nat} {σ σ1 σ2 : St} (h : Keep as σ σ1) (k : Keep bs σ1 σ2) : Keep (as ++ bs) σ σ2 := ⟨k.1.trans h.1, fun i hi => (k.2 i fun z => hi (List.mem_append_right _ z)).trans (h.2 i fun z => hi (List.mem_append_left _ z))⟩
theorem Keep.mono {as bs : List Nat} {σ σ1 : St} (h : Keep as σ σ1) (k : ∀ i ∈ as, i ∈ bs) : Keep bs σ σ1 := ⟨h.1, fun i hi => h.2 i fun z => hi (k i z)⟩
theorem Keep.set {i : Nat} {σ : St} {o : Option V} : Keep [i] σ (σ.set i o) := ⟨List.length_set .., fun j hj => List.getElem?_set_ne fun z => hj (by simp [z])⟩
def FlOk (K : PySem.W.Frag) (as : List Nat) (D : Ends) (σ : St) (fr : Ps) : Fl → Prop
  | .nx S => ∀ σ' H', Keep as σ σ' → AtS K H' σ' S fr → D.nx σ' H'
  | .bk S => ∀ σ' H', Keep as σ σ' → AtS K H' σ' S fr → D.bk σ' H'
  | .ct S => ∀ σ' H', Keep as σ σ' → AtS K H' σ' S fr → D.ct σ' H'
  | .rt t S => ∀ σ' v H', Keep as σ σ' → AtS K H' σ' S ((v, t) :: fr) → D.rt v H'
def tSt (K : PySem.W.Frag) (as : List Nat) (m : MS) : TS := fun D σ H => ∃ S fr f, AtS K H σ S fr ∧ m S = some f ∧ FlOk K as D σ fr f
abbrev VS (X : Cx) (as : List Nat) (st : Stmt) (m : MS) : Prop := PS X st (tSt X.K as m)
abbrev VSs (X : Cx) (as : List Nat) (st : List Stmt) (m : MS) : Prop := PSs X st (tSt X.K as m)
theorem FlOk.mono {K : PySem.W.Frag} {as bs : List Nat} {D : Ends} {σ : St} {fr : Ps} {f : Fl} (h : FlOk K bs D σ fr f) (k : ∀ i ∈ as, i ∈ bs) : FlOk K as D σ fr f := by
  cases f with
  | nx S => exact fun σ' H' q => h σ' H' (q.mono k)
  | bk S => exact fun σ' H' q => h σ' H' (q.mono k)
  | ct S => exact fun σ' H' q => h σ' H' (q.mono k)
  | rt t S => exact fun σ' v H' q => h σ' v H' (q.mono k)
/-- behind a first part -/
theorem FlOk.after {K : PySem.W.Frag} {as bs : List Nat} {D : Ends} {σ σ1 : St} {fr : Ps} {f : Fl} (h : FlOk K (as ++ bs) D σ fr f) (k : Keep as σ σ1) : FlOk K bs D σ1 fr f := by
  cases f with
  | nx S => exact fun σ' H' q => h σ' H' (k.trans q)
  | bk S => exact fun σ' H' q => h σ' H' (k.trans q)
  | ct S => exact fun σ' H' q => h σ' H' (k.trans q)
  | rt t S => exact fun σ' v H' q => h σ' v H' (k.trans q)
section
variable {X : Cx} {e a b c : Expr} {es : List Expr} {pos : Pos} {st : Stmt} {sts : List Stmt} {as bs : List Nat} {m m' : MS}
def sNext : MS := fun S => some (.nx S)
theorem vss_nil : VSs X [] [] sNext := PSs.imp pss_nil fun D σ H ⟨S, fr, f, h, e, q⟩ => by
  cases e
  exact q σ H .refl h
def sSeq (m m' : MS) : MS := fun S => (m S).bind fun f => match f with
  | .nx S1 => m' S1
  | f => some f
theorem vss_cons (h1 : VS X as st m) (h2 : VSs X bs sts m') : VSs X (as ++ bs) (st :: sts) (sSeq m m') := PSs.imp (pss_cons h1 h2) fun D σ H ⟨S, fr, f, h, e, q⟩ => by
  obtain ⟨f1, e1, e2⟩ := Option.bind_eq_some_iff.mp e
  refine ⟨S, fr, f1, h, e1, ?_⟩
  cases f1 with
  | nx S1 => exact fun σ' H' k h' => ⟨S1, fr, f, h', e2, q.after k⟩
  | bk S1 =>
    cases e2
    exact FlOk.mono (f := .bk S1) q fun i hi => List.mem_append_left _ hi
  | ct S1 =>
    cases e2
    exact FlOk.mono (f := .ct S1) q fun i hi => List.mem_append_left _ hi
  | rt t S1 =>
    cases e2
    exact FlOk.mono (f := .rt t S1) q fun i hi => List.mem_append_left _ hi
theorem vss_one (h : VS X as st m) : VSs X as [st] m := pss_one h
theorem vs_pass : VS X [] (.Pass pos) sNext := PS.imp ps_pass fun D σ H ⟨S, fr, f, h, e, q⟩ => by
  cases e
  exact q σ H .refl h
def sBreak : MS := fun S => some (.bk S)
def sCont : MS := fun S => some (.ct S)
theorem vs_break : VS X [] (.Break pos) sBreak := PS.imp ps_break fun D σ H ⟨S, fr, f, h, e, q⟩ => by
  cases e
  exact q σ H .refl h
theorem vs_continue : VS X [] (.Continue pos) sCont := PS.imp ps_continue fun D σ H ⟨S, fr, f, h, e, q⟩ => by
  cases e
  exact q σ H .refl h
def sRet (m : ME) : MS := fun S => (m S).bind fun p => some (.rt p.1 p.2)
theorem vs_ret {m : ME} (he : VE X e m) : VS X [] (.Return (some e) pos) (sRet m) := PS.imp (ps_ret he) fun D σ H ⟨S, fr, f, h, e, q⟩ => by
  obtain ⟨⟨t, S1⟩, e1, e2⟩ := Option.bind_eq_some_iff.mp e
  cases e2
  exact ⟨S, fr, t, S1, h, e1, fun v H' h' => q σ v H' .refl h'⟩
def sRetN : MS := fun S => some (.rt (.sh .non) S)
theorem vs_retN : VS X [] (.Return none pos) sRetN := PS.imp ps_retN fun D σ H ⟨S, fr, f, h, e, q⟩ => by
  cases e
  exact q σ _ H .refl (h.new fun _ => rfl)
def sIf (t : MT) (m m' : MS) : MS := fun S => (t S).bind fun x => if x.1 = true then m x.2 else m' x.2
theorem vs_if {t : MT} {s1 s2 : List Stmt} (hc : VT X c t) (h1 : VSs X as s1 m) (h2 : VSs X bs s2 m') : VS X (as ++ bs) (.If c s1 s2 pos) (sIf t m m') := PS.imp (ps_if hc h1 h2) fun D σ H ⟨S, fr, f, h, e, q⟩ => by
  obtain ⟨⟨x, S1⟩, e1, e2⟩ := Option.bind_eq_some_iff.mp e
  refine ⟨S, fr, x, S1, h, e1, fun H1 h1 => ?_⟩
  cases x with
  | true => exact iteT ⟨S1, fr, f, h1, by simpa using e2, q.mono fun i hi => List.mem_append_left _ hi⟩
  | false => exact iteF ⟨S1, fr, f, h1, by simpa using e2, q.mono fun i hi => List.mem_append_right _ hi⟩
/-- a statement never reached -/
def sNever : MS := fun _ => none
theorem vs_never : VS X [] st sNever := PS.imp ps_never fun D σ H ⟨S, fr, f, h, e, q⟩ => nomatch e
def sDrop (m : ME) : MS := fun S => (m S).bind fun p => some (.nx p.2)
theorem vs_expr {m : ME} (he : VE X e m) (hs : swapsWith e none pos.line X.env = pure false := by rfl) : VS X [] (.Expr e pos) (sDrop m) := PS.imp (ps_expr he hs) fun D σ H ⟨S, fr, f, h, e, q⟩ => by
  obtain ⟨⟨t, S1⟩, e1, e2⟩ := Option.bind_eq_some_iff.mp e
  cases e2
  exact ⟨S, fr, t, S1, h, e1, fun v H' h' => q σ H' .refl h'.drop1⟩

/-! ### targets -/
def putS (i : Nat) (t : T) (S : Sto) : Option Sto := if i < S.length then some (S.set i (some t)) else none
theorem putS_some {i : Nat} {t : T} {S S' : Sto} (h : putS i t S = some S') : i < S.length ∧ S' = S.set i (some t) := by
  unfold putS at h
  split at h
  · rename_i hi
    exact ⟨hi, (Option.some.inj h).symm⟩
  · cases h
def gV (K : PySem.W.Frag) (as : List Nat) (g : T → Sto → Option Sto) : TG := fun v σ H Q => ∃ S fr t S', AtS K H σ S ((v, t) :: fr) ∧ g t S = some S' ∧ ∀ σ', Keep as σ σ' → AtS K H σ' S' fr → Q σ' H
theorem PG.imp {tg : Expr} {t t' : TG} (h : PG X tg t) (i : ∀ v σ H Q, t' v σ H Q → t v σ H Q) : PG X tg t' := ⟨fun pins s σ H v u Q I r q => h.run pins s σ H v u Q I r (i v σ H Q q)⟩
abbrev VG (X : Cx) (as : List Nat) (tg : Expr) (g : T → Sto → Option Sto) : Prop := PG X tg (gV X.K as g)
theorem vg_name (i : Nat) {x : Str} (hN : X.N.Nodup) (hi : X.N[i]? = some x := by rfl) (hx : Loc X.env.scope x := by first | exact Or.inl rfl | exact Or.inr rfl) (hf : X.fn x = true ∨ X.env.scope.names.lookup x = some .local := by first | exact .inl rfl | exact .inr rfl | assumption) : VG X [i] (.Name x pos) (putS i) :=
  PG.imp (pg_name hN hi hx hf) fun v σ H Q ⟨S, fr, t, S', h, e, q⟩ => by
    obtain ⟨hi, rfl⟩ := putS_some e
    exact q _ .set (h.put hi)
def sAsg (m : ME) (g : T → Sto → Option Sto) : MS := fun S => (m S).bind fun p => (g p.1 p.2).bind fun S' => some (.nx S')
theorem vs_asg {tg : Expr} {me : ME} {g : T → Sto → Option Sto} (he : VE X e me) (hg : VG X as tg g) (hs : swapsWithSole [tg] e pos.line X.env = pure false := by rfl) (hw : swappedStores [tg] e X.env = pure none := by rfl)
    (h1 : (assignEach [tg] X.env).map (·.2) = [assign tg X.env] := by rfl) : VS X as (.Assign [tg] e pos) (sAsg me g) := PS.imp (ps_asg he hg hs hw h1) fun D σ H ⟨S, fr, f, h, e, q⟩ => by
  obtain ⟨⟨t, S1⟩, e1, e⟩ := Option.bind_eq_some_iff.mp e
  obtain ⟨S2, e2, e⟩ := Option.bind_eq_some_iff.mp e
  cases e
  exact ⟨S, fr, t, S1, h, e1, fun v H' h' => ⟨S1, fr, t, S2, h', e2, fun σ' k h2 => q σ' H' k h2⟩⟩
theorem vs_set (i : Nat) {x : Str} {px : Pos} {me : ME} (hN : X.N.Nodup) (he : VE X e me) (hi : X.N[i]? = some x := by rfl) (hx : Loc X.env.scope x := by first | exact Or.inl rfl | exact Or.inr rfl) (hs : swapsWith e (some (.Name x px)) pos.line X.env = pure false := by rfl)
    (hf : X.fn x = true ∨ X.env.scope.names.lookup x = some .local := by first | exact .inl rfl | exact .inr rfl | assumption) : VS X [i] (.Assign [.Name x px] e pos) (sAsg me (putS i)) := PS.imp (ps_set hN hi hx he hs hf) fun D σ H ⟨S, fr, f, h, e, q⟩ => by
  obtain ⟨⟨t, S1⟩, e1, e⟩ := Option.bind_eq_some_iff.mp e
  obtain ⟨S2, e2, e⟩ := Option.bind_eq_some_iff.mp e
  cases e
  refine ⟨S, fr, t, S1, h, e1, fun v H' h' => ?_⟩
  obtain ⟨hi, rfl⟩ := putS_some e2
  exact q _ H' .set (h'.put hi)
/-- several targets -/
def gVs (K : PySem.W.Frag) (as : List Nat) (g : List T → Sto → Option Sto) : TGs := fun vs σ H Q => ∃ S fr ts S', vs.length = ts.length ∧ AtS K H σ S (vs.zip ts ++ fr) ∧ g ts S = some S' ∧ ∀ σ', Keep as σ σ' → AtS K H σ' S' fr → Q σ' H
theorem PGs.imp {tg : List Expr} {t t' : TGs} (h : PGs X tg t) (i : ∀ v σ H Q, t' v σ H Q → t v σ H Q) : PGs X tg t' := ⟨fun pins s σ H v u Q I r q => h.run pins s σ H v u Q I r (i v σ H Q q)⟩
abbrev VGs (X : Cx) (as : List Nat) (tg : List Expr) (g : List T → Sto → Option Sto) : Prop := PGs X tg (gVs X.K as g)
def gsNil : List T → Sto → Option Sto
  | [], S => some S
  | _, _ => none
def gsCons (g : T → Sto → Option Sto) (r : List T → Sto → Option Sto) : List T → Sto → Option Sto
  | t :: ts, S => (g t S).bind fun S1 => r ts S1
  | [], _ => none
theorem vgs_nil : VGs X [] [] gsNil := PGs.imp pgs_nil fun vs σ H Q ⟨S, fr, ts, S', l, h, e, q⟩ => by
  cases ts with
  | nil =>
    cases e
    cases vs with
    | nil => exact ⟨rfl, q σ .refl h⟩
    | cons _ _ => simp at l
  | cons _ _ => cases e
theorem vgs_cons {g : T → Sto → Option Sto} {r : List T → Sto → Option Sto} (h1 : VG X as e g) (h2 : VGs X bs es r) (hs : (assignEach (e :: es) X.env).map (·.2) = assign e X.env :: (assignEach es X.env).map (·.2) := by rfl) : VGs X (as ++ bs) (e :: es) (gsCons g r) :=
  PGs.imp (pgs_cons h1 h2 hs) fun vs σ H Q ⟨S, fr, ts, S', l, h, e, q⟩ => by
    cases ts with
    | nil => cases e
    | cons t ts =>
      cases vs with
      | nil => simp at l
      | cons v vs =>
        obtain ⟨S1, e1, e2⟩ := Option.bind_eq_some_iff.mp e
        exact ⟨v, vs, rfl, S, vs.zip ts ++ fr, t, S1, h, e1, fun σ1 k1 h3 => ⟨S1, fr, ts, S', Nat.succ.inj l, h3, e2, fun σ2 k2 h4 => q σ2 (k1.trans k2) h4⟩⟩
/-- the children of a tuple -/
def kidsTu : T → Option (List T)
  | .tup ts => some ts
  | .sh (.tup ds) => some (ds.map .sh)
  | _ => none
theorem At.unt {K : PySem.W.Frag} {H : Hp} {ps : Ps} {v : V} {t : T} {ts : List T} (h : At K H ((v, t) :: ps)) (e : kidsTu t = some ts) : ∃ a vs, v = .ref a ∧ SqT K H a vs ∧ vs.length = ts.length ∧ At K H (vs.zip ts ++ ps) := by
  cases t with
  | tup us =>
    have z : us = ts := by simpa [kidsTu] using e
    subst z
    obtain ⟨a, vs, h1, h2, h3, h4⟩ := h.openT
    exact ⟨a, vs, h1, .of h2, h3, h4.at⟩
  | sh d =>
    cases d with
    | tup ds =>
      have z : ds.map T.sh = ts := by simpa [kidsTu] using e
      subst z
      obtain ⟨a, vs, h1, h2, h3, h4⟩ := h.kidsT
      exact ⟨a, vs, h1, h2, by rw [List.length_map]; exact h3, h4⟩
    | _ => cases e
  | _ => cases e
def gTupS (n : Nat) (r : List T → Sto → Option Sto) : T → Sto → Option Sto := fun t S => (kidsTu t).bind fun ts => if ts.length = n then r ts S else none
theorem vg_tup {k : Nat} {n : Nat} {r : List T → Sto → Option Sto} (hc : X.calm = true) (h : VGs X as es r) (hn : (assignEach es X.env).length = n := by rfl) (hst : (assignEach es X.env).findIdx? (·.1) = none := by rfl) : VG X as (.Tuple es k pos) (gTupS n r) :=
  PG.imp (pg_tup hc h hn hst) fun v σ H Q ⟨S, fr, t, S', h, e, q⟩ => by
    obtain ⟨ts, e1, e⟩ := Option.bind_eq_some_iff.mp e
    split at e
    · rename_i hl
      obtain ⟨a, vs, rfl, k1, l1, h1⟩ := h.at1.unt e1
      refine ⟨a, vs, rfl, k1, l1.trans hl, S, fr, ts, S', l1, AtS.of h.1 ?_, e, q⟩
      rw [List.append_assoc]
      exact h1
    · cases e
/-- x[k] = e -/
def sSetI (j : Nat) (mv mk : ME) : MS := fun S => (mv S).bind fun p => match p.2[j]? with
  | some (some _) => (mk p.2).bind fun q => (match q.2[j]?, fz q.1 with
    | some (some (.lst ts)), .int i => (ixN ts.length i).bind fun n => some (.nx (q.2.set j (some (.lst (ts.set n p.1)))))
    | _, _ => none)
  | _ => none
theorem vs_setI (j : Nat) {x : Str} {px ps : Pos} {mv mk : ME} (hv : VE X e mv) (hk : VE X b mk) (ha : ∀ v, assign (.Subscript (.Name x px) b ps) X.env v = (do
      let ov ← holding [v] (eval (.Name x px) X.env)
      let iv ← holding [v, ov] (eval b X.env)
      standAt ps
      holding [v, ov, iv] (setItem ov iv v)
      release [v, ov, iv] []) := by intro _; rfl) (hN : X.N[j]? = some x := by rfl) (hvs : Vis X.env.scope x := by first | exact Or.inl rfl | exact Or.inr (Or.inl rfl) | exact Or.inr (Or.inr rfl)) (hd : (x == ("__debug__" : Str)) = false := by decide)
    (hcd : (x == ("__classdict__" : Str)) = false := by decide) (hs : swapsWithSole [.Subscript (.Name x px) b ps] e pos.line X.env = pure false := by rfl) (hw : swappedStores [.Subscript (.Name x px) b ps] e X.env = pure none := by rfl)
    (h1 : (assignEach [.Subscript (.Name x px) b ps] X.env).map (·.2) = [assign (.Subscript (.Name x px) b ps) X.env] := by rfl) : VS X [] (.Assign [.Subscript (.Name x px) b ps] e pos) (sSetI j mv mk) :=
  PS.imp (ps_asg hv (pg_sub (pe_var hN hvs hd hcd) hk set_list ha) hs hw h1) fun D σ H ⟨S, fr, f, h, e, q⟩ => by
    obtain ⟨⟨t, S1⟩, e1, e⟩ := Option.bind_eq_some_iff.mp e
    simp only at e
    split at e
    · rename_i t1 e0
      obtain ⟨⟨tk, S2⟩, e2, e⟩ := Option.bind_eq_some_iff.mp e
      simp only at e
      split at e
      · rename_i ts i e3 e4
        obtain ⟨n, e5, e⟩ := Option.bind_eq_some_iff.mp e
        cases e
        refine ⟨S, fr, t, S1, h, e1, fun v H1 h1 => ?_⟩
        obtain ⟨o, ho, _⟩ := h1.take e0
        refine ⟨o, ho, S1, (v, t) :: fr, tk, S2, h1, e2, fun u H2 h2 => ?_⟩
        have ru := h2.rep
        rw [e4] at ru
        obtain ⟨o', ho', k⟩ := h2.take e3
        rw [ho] at ho'
        cases ho'
        have k1 : AtS X.K H2 σ (S2.set j none) ((v, t) :: (o, .lst ts) :: fr) := k.sub ⟨[(u, tk)], (List.Perm.swap ..).trans ((List.Perm.swap ..).cons _)⟩
        have hn := (ixN_seq e5).2.1
        obtain ⟨a, _, ra, _⟩ := k1.drop1.at1.open
        subst ra
        obtain ⟨vs, ha, l, k2⟩ := k1.at1.setAt hn
        refine ⟨a, vs, i, n, rfl, ru, ha, by rw [l]; exact e5, ?_⟩
        have k3 := (AtS.of k1.1 k2 : AtS X.K _ σ (S2.set j none) ((.ref a, .lst (ts.set n t)) :: fr)).back ho
        rw [List.set_set] at k3
        exact q σ _ .refl k3
      · cases e
    · cases e
/-- x.append(e) -/
def sApp (j : Nat) (me : ME) : MS := fun S => match S[j]? with
  | some (some (.lst _)) => (me S).bind fun p => (match p.2[j]? with
    | some (some (.lst ts)) => if ts.length < sizeLine then some (.nx (p.2.set j (some (.lst (ts ++ [p.1]))))) else none
    | _ => none)
  | _ => none
theorem vs_append (j : Nat) {x : Str} {px apos cpos : Pos} {me : ME} (he : VE X e me) (hN : X.N[j]? = some x := by rfl) (hvs : Vis X.env.scope x := by first | exact Or.inl rfl | exact Or.inr (Or.inl rfl) | exact Or.inr (Or.inr rfl)) (hd : (x == ("__debug__" : Str)) = false := by decide)
    (hcd : (x == ("__classdict__" : Str)) = false := by decide) (hs2 : swapsWith (.Call (.Attribute (.Name x px) "append" apos) [e] [] cpos) none pos.line X.env = pure false := by rfl)
    (hbase : attributeBase (.Name x px) "append" X.env (eval (.Name x px) X.env) = eval (.Name x px) X.env := by rfl)
    (hfew : ((backTo cpos (starEach [e] X.env)).all (fun x => !x.1) && (backToKw cpos (keywordEach [] X.env)).all (fun x => x.1.isSome)
      && decide (([e] : List Expr).length + ([] : List Keyword).length + (if ([] : List Keyword).isEmpty then 0 else 1) < 30)) = true := by rfl)
    (hline : (apos.endLine == cpos.line) = true := by rfl) (hs : starEach [e] X.env = (false, eval e X.env) :: starEach [] X.env := by rfl) (hplain : (backTo cpos (starEach [] X.env)).any (·.1) = false := by rfl) :
    VS X [] (.Expr (.Call (.Attribute (.Name x px) "append" apos) [e] [] cpos) pos) (sApp j me) :=
  PS.imp (ps_expr (pe_bm PySem.F.plainAttrs_list PySem.F.slot_list_append PySem.F.type_list_append mt_append (pe_var hN hvs hd hcd) (pa_cons he pa_nil hs) hbase hfew hline hs hplain) hs2) fun D σ H ⟨S, fr, f, h, e, q⟩ => by
    unfold sApp at e
    split at e
    · rename_i ts0 e0
      obtain ⟨⟨t, S1⟩, e1, e⟩ := Option.bind_eq_some_iff.mp e
      simp only at e
      split at e
      · rename_i ts e2
        split at e
        · rename_i hl
          cases e
          obtain ⟨o, ho, k0⟩ := h.take e0
          obtain ⟨a0, vs0, ra0, ha0, _⟩ := k0.at1.open
          subst ra0
          refine ⟨.ref a0, ho, .inl ⟨rfl, vs0, .of ha0⟩, S, fr, t, S1, h, e1, fun v H1 h1 => ?_⟩
          obtain ⟨o', ho', k⟩ := h1.take e2
          rw [ho] at ho'
          cases ho'
          obtain ⟨vs, ha, l, k2⟩ := k.two.at1.append
          refine ⟨a0, vs, v, rfl, rfl, ha, by rw [l]; exact hl, ?_⟩
          have k3 := (AtS.of k.1 k2 : AtS X.K _ σ (S1.set j none) ((.ref a0, .lst (ts ++ [t])) :: fr)).back ho
          rw [List.set_set] at k3
          exact q σ _ .refl k3
        · cases e
      · cases e
    · cases e
/-- x += e (ints; texts) -/
def sAug (g : D → D → Option D) (j : Nat) (me : ME) : MS := fun S => match S[j]? with
  | some (some (.sh d0)) => (me S).bind fun p => (g d0 (fz p.1)).bind fun d => if sc d = true then (putS j (.sh d) p.2).bind fun S2 => some (.nx S2) else none
  | _ => none
def rAug (K : PySem.W.Frag) (g : D → D → Option D) : TIp := fun x y H Q => ∃ dx dy d, Rep K H x dx ∧ Rep K H y dy ∧ g dx dy = some d ∧ ∀ z, Rep K H z d → Q z H
theorem vs_aug (j : Nat) {x : Str} {px : Pos} {op : Operator} {g : D → D → Option D} {me : ME} (hN : X.N.Nodup) (ho : PIp X op (rAug X.K g)) (he : VE X e me) (hi : X.N[j]? = some x := by rfl) (hx : Loc X.env.scope x := by first | exact Or.inl rfl | exact Or.inr rfl)
    (hf : X.fn x = true ∨ X.env.scope.names.lookup x = some .local := by first | exact .inl rfl | exact .inr rfl | assumption) (hsc0 : ∀ d0 d d1, g d0 d = some d1 → sc d0 = true := by intro d0 d d1 h; cases d0 <;> cases d <;> first | rfl | cases h) : VS X [j] (.AugAssign (.Name x px) op e pos) (sAug g j me) :=
  PS.imp (ps_aug hN hi hx he ho hf) fun D σ H ⟨S, fr, f, h, e, q⟩ => by
    unfold sAug at e
    split at e
    · rename_i d0 e0
      obtain ⟨⟨t, S1⟩, e1, e⟩ := Option.bind_eq_some_iff.mp e
      obtain ⟨d, e2, e⟩ := Option.bind_eq_some_iff.mp e
      split at e
      · rename_i hs
        obtain ⟨S2, e3, e⟩ := Option.bind_eq_some_iff.mp e
        cases e
        obtain ⟨v0, hv0, r0⟩ := h.see e0
        refine ⟨v0, hv0, S, fr, t, S1, h, e1, fun u H1 h1 => ?_⟩
        refine ⟨d0, fz t, d, scRep (hsc0 _ _ _ e2) r0 _, h1.rep, e2, fun z rz => ?_⟩
        obtain ⟨hi, rfl⟩ := putS_some e3
        exact q _ H1 .set ((h1.drop1.new (scRep hs rz)).put hi)
      · cases e
    · cases e
theorem oa_add : PIp X .Add (rAug X.K fun x y => match x, y with | .int i, .int j => some (.int (i + j)) | _, _ => none) := by
  intro pins s σ H x y v u Q I rx ry ⟨dx, dy, d, r1, r2, e, q⟩
  cases dx with
  | int i =>
    cases dy with
    | int j =>
      have z : D.int (i + j) = d := by simpa using e
      subst z
      rw [show x = .int i from r1] at rx
      rw [show y = .int j from r2] at ry
      exact ip_add pins s σ H _ _ v u Q I rx ry ⟨i, j, rfl, rfl, q _ rfl⟩
    | _ => cases e
  | _ => cases dy <;> cases e

/-! ### loops -/
def mWhile (t : MT) (b : MS) : Nat → MS
  | 0, _ => none
  | n + 1, S => (t S).bind fun x => if x.1 = true then (b x.2).bind fun f => (match f with
    | .nx S2 => mWhile t b n S2
    | .ct S2 => mWhile t b n S2
    | .bk S2 => some (.nx S2)
    | .rt r S2 => some (.rt r S2)) else some (.nx x.2)
theorem Keep.add {as : List Nat} {σ σ1 σ2 : St} (h : Keep as σ σ1) (k : Keep as σ1 σ2) : Keep as σ σ2 := ⟨k.1.trans h.1, fun i hi => (k.2 i hi).trans (h.2 i hi)⟩
theorem vs_while {t : MT} {n : Nat} (hp : PassesOwn (model X.prog X.w) X.A X.env X.xe) (hc : VT X c t) (hb : VSs X as sts m) : VS X as (.While c sts [] pos) (mWhile t m n) := PS.imp (ps_while hp hc hb) fun D σ H ⟨S, fr, f, h, e, q⟩ => by
  refine ⟨fun k σ1 H1 => ∃ S1, AtS X.K H1 σ1 S1 fr ∧ Keep as σ σ1 ∧ mWhile t m k S1 = some f, ⟨n, S, h, .refl, e⟩, ?_⟩
  rintro k σ1 H1 ⟨S1, h1, k1, e1⟩
  cases k with
  | zero => cases e1
  | succ k =>
    obtain ⟨⟨x, S2⟩, e2, e3⟩ := Option.bind_eq_some_iff.mp e1
    refine ⟨S1, fr, x, S2, h1, e2, fun H2 h2 => ?_⟩
    cases x with
    | true =>
      obtain ⟨f1, e4, e5⟩ := Option.bind_eq_some_iff.mp (show ((m S2).bind _) = some f by simpa using e3)
      refine iteT ⟨fun σ3 H3 => ∃ S3, AtS X.K H3 σ3 S3 fr ∧ Keep as σ σ3 ∧ mWhile t m k S3 = some f, fun σ3 H3 hn => ⟨k, Nat.lt_succ_self k, hn⟩, S2, fr, f1, h2, e4, ?_⟩
      cases f1 with
      | nx S3 => exact fun σ3 H3 k3 h3 => ⟨S3, h3, k1.add k3, e5⟩
      | ct S3 => exact fun σ3 H3 k3 h3 => ⟨S3, h3, k1.add k3, e5⟩
      | bk S3 =>
        cases e5
        exact fun σ3 H3 k3 h3 => q σ3 H3 (k1.add k3) h3
      | rt r S3 =>
        cases e5
        exact fun σ3 v H3 k3 h3 => q σ3 v H3 (k1.add k3) h3
    | false =>
      have z : some (Fl.nx S2) = some f := by simpa using e3
      cases z
      exact iteF (q σ1 H2 k1 h2)
/-- what is walked: its items; what is held for it meanwhile -/
structure Feeds (K : PySem.W.Frag) (J : It) (hold : Ps) (ds : List D) : Prop where
  go : ∀ (H : Hp) (ps : Ps), At K H (hold ++ ps) → ∀ i d, ds[i]? = some d → J.go i H ∧ ∀ x H', J.yld i H x H' → H' = H ∧ At K H ((x, .sh d) :: (hold ++ ps))
  stop : ∀ (H : Hp) (ps : Ps), At K H (hold ++ ps) → ∀ i, ds.length ≤ i → J.stop i H
abbrev MI := Sto → Option (List D × Sto)
def iV (K : PySem.W.Frag) (mi : MI) : TI := fun σ H R => ∃ S fr ds S', AtS K H σ S fr ∧ mi S = some (ds, S') ∧ ∀ J H' hold, Feeds K J hold ds → AtS K H' σ S' (hold ++ fr) → R J H'
theorem PI.imp {tg it : Expr} {t t' : TI} (h : PI X tg it t) (i : ∀ σ H R, t' σ H R → t σ H R) : PI X tg it t' := ⟨fun pins s σ H R I q => h.run pins s σ H R I (i σ H R q)⟩
abbrev VI (X : Cx) (tg it : Expr) (mi : MI) : Prop := PI X tg it (iV X.K mi)
theorem feeds_list {K : PySem.W.Frag} {a : Addr} {ds : List D} : Feeds K (Itl K a) [(.ref a, .sh (.lst ds))] ds where
  go := fun H ps h i d hi => by
    obtain ⟨G, fp, s, ⟨f, g, rfl, ⟨rfl, b, ws, e10, q2, rs2⟩, o2⟩, n, e0, x0⟩ := (h : At K H ((.ref a, .sh (.lst ds)) :: ps))
    cases e10
    obtain ⟨u, e11, r2⟩ := rs2.get hi
    refine ⟨⟨ws, u, s.seq q2, e11⟩, fun x H' ⟨e6, y⟩ => ⟨e6, ?_⟩⟩
    have e12 := y ws (s.seq q2)
    rw [e11] at e12
    cases e12
    exact ⟨G, _, s, ⟨[], _, rfl, ⟨rfl, r2⟩, [], g, rfl, ⟨rfl, _, ws, rfl, q2, rs2⟩, o2⟩, n, e0, x0⟩
  stop := fun H ps h i hi => by
    obtain ⟨a', vs, e, k, l, h2⟩ := (h : At K H ((.ref a, .sh (.lst ds)) :: ps)).kids
    cases e
    exact ⟨vs, k, by rw [l]; exact hi⟩
theorem feeds_tup {K : PySem.W.Frag} {a : Addr} {ds : List D} : Feeds K (Itt K a) [(.ref a, .sh (.tup ds))] ds where
  go := fun H ps h i d hi => by
    obtain ⟨G, fp, s, ⟨f, g, rfl, ⟨rfl, b, ws, e10, q2, rs2⟩, o2⟩, n, e0, x0⟩ := (h : At K H ((.ref a, .sh (.tup ds)) :: ps))
    cases e10
    obtain ⟨u, e11, r2⟩ := rs2.get hi
    refine ⟨⟨ws, u, Same.sqT s q2, e11⟩, fun x H' ⟨e6, y⟩ => ⟨e6, ?_⟩⟩
    have e12 := y ws (Same.sqT s q2)
    rw [e11] at e12
    cases e12
    exact ⟨G, _, s, ⟨[], _, rfl, ⟨rfl, r2⟩, [], g, rfl, ⟨rfl, _, ws, rfl, q2, rs2⟩, o2⟩, n, e0, x0⟩
  stop := fun H ps h i hi => by
    obtain ⟨a', vs, e, k, l, h2⟩ := (h : At K H ((.ref a, .sh (.tup ds)) :: ps)).kidsT
    cases e
    exact ⟨vs, k, by rw [l]; exact hi⟩
/-- over a list -/
def iList' (me : ME) : MI := fun S => (me S).bind fun p => match fz p.1 with
  | .lst ds => some (ds, p.2)
  | _ => none
theorem vi_list {tg : Expr} {me : ME} (he : VE X e me) : VI X tg e (iList' me) := PI.imp (pi_list he) fun σ H R ⟨S, fr, ds, S', h, e, q⟩ => by
  obtain ⟨⟨t, S1⟩, e1, e⟩ := Option.bind_eq_some_iff.mp e
  refine ⟨S, fr, t, S1, h, e1, fun v H1 h1 => ?_⟩
  simp only at e
  split at e
  · rename_i ds' e2
    obtain ⟨rfl, rfl⟩ : ds' = ds ∧ S1 = S' := by simpa using e
    have h2 := h1.freeze
    rw [e2] at h2
    obtain ⟨a, vs, rfl, k, l, _⟩ := h2.at1.kids
    exact ⟨a, rfl, ⟨vs, k⟩, q _ H1 [(.ref a, .sh (.lst ds'))] feeds_list h2⟩
  · cases e
/-- over a tuple -/
def iTup' (me : ME) : MI := fun S => (me S).bind fun p => match fz p.1 with
  | .tup ds => some (ds, p.2)
  | _ => none
theorem vi_tup {tg : Expr} {me : ME} (he : VE X e me) : VI X tg e (iTup' me) := PI.imp (pi_tup he) fun σ H R ⟨S, fr, ds, S', h, e, q⟩ => by
  obtain ⟨⟨t, S1⟩, e1, e⟩ := Option.bind_eq_some_iff.mp e
  refine ⟨S, fr, t, S1, h, e1, fun v H1 h1 => ?_⟩
  simp only at e
  split at e
  · rename_i ds' e2
    obtain ⟨rfl, rfl⟩ : ds' = ds ∧ S1 = S' := by simpa using e
    have h2 := h1.freeze
    rw [e2] at h2
    obtain ⟨a, vs, rfl, k, l, _⟩ := h2.at1.kidsT
    exact ⟨a, rfl, ⟨vs, k⟩, q _ H1 [(.ref a, .sh (.tup ds'))] feeds_tup h2⟩
  · cases e
/-- over a text -/
def signs (x : Str) : List D := x.cps.toList.map fun c => .str ⟨#[c]⟩
theorem feeds_str {K : PySem.W.Frag} {x : Str} : Feeds K (Its x) [] (signs x) where
  go := fun H ps h i d hi => by
    unfold signs at hi
    rw [List.getElem?_map] at hi
    obtain ⟨c, e1, rfl⟩ := Option.map_eq_some_iff.mp hi
    have e2 : x.cps[i]? = some c := by rw [← Array.getElem?_toList]; exact e1
    have hlt : i < x.cps.size := (Array.getElem?_eq_some_iff.mp e2).1
    refine ⟨hlt, fun v H' ⟨e6, c', e7, e8⟩ => ⟨e6, ?_⟩⟩
    rw [e2] at e7
    cases e7
    subst e8
    exact h.new fun _ => rfl
  stop := fun H ps h i hi => by
    show x.cps.size ≤ i
    unfold signs at hi
    rw [List.length_map, Array.length_toList] at hi
    exact hi
def iStr' (m : MP) : MI := fun S => (m S).bind fun d => match d with
  | .str x => some (signs x, S)
  | _ => none
theorem vi_str {tg : Expr} {m : MP} (he : VP X e m) : VI X tg e (iStr' m) := PI.imp (pi_str he) fun σ H R ⟨S, fr, ds, S', h, e, q⟩ => by
  obtain ⟨d, e1, e⟩ := Option.bind_eq_some_iff.mp e
  refine ⟨S, fr, d, h, e1, fun v r => ?_⟩
  split at e
  · rename_i x
    obtain ⟨rfl, rfl⟩ : signs x = ds ∧ S = S' := by simpa using e
    exact ⟨x, r, q _ H [] feeds_str h⟩
  · cases e
/-- over a range -/
def rngD (lo : Int) (n : Nat) : List D := (List.range n).map fun i => .int (lo + (i : Nat))
theorem feeds_rng {K : PySem.W.Frag} {lo : Int} {n : Nat} : Feeds K (Itr lo n) [] (rngD lo n) where
  go := fun H ps h i d hi => by
    unfold rngD at hi
    rw [List.getElem?_map] at hi
    obtain ⟨j, e1, rfl⟩ := Option.map_eq_some_iff.mp hi
    obtain ⟨hlt, e2⟩ := List.getElem?_eq_some_iff.mp e1
    rw [List.getElem_range] at e2
    subst e2
    refine ⟨(show i < n by simpa using hlt), fun v H' ⟨e6, e7⟩ => ⟨e6, ?_⟩⟩
    subst e7
    exact h.new fun _ => rfl
  stop := fun H ps h i hi => by
    show n ≤ i
    unfold rngD at hi
    rw [List.length_map, List.length_range] at hi
    exact hi
def near (i : Int) : Bool := decide (-(2 ^ 62) ≤ i ∧ i < 2 ^ 62)
def iRng1' (m : Sto → Option (List D)) : MI := fun S => (m S).bind fun ds => match ds with
  | [.int j] => if near j = true then some (rngD 0 j.toNat, S) else none
  | _ => none
def iRng2' (m : Sto → Option (List D)) : MI := fun S => (m S).bind fun ds => match ds with
  | [.int i, .int j] => if (near i && near j) = true then some (rngD i (j - i).toNat, S) else none
  | _ => none
theorem vi_range1 {tg : Expr} {p : Pos} {m : Sto → Option (List D)} (hm : X.mg "range" = none) (ha : VPA X [a] m) (hg : Gl X "range" := by rfl) (hs : starEach [a] X.env = [(false, eval a X.env)] := by rfl) : VI X tg (.Call (.Name "range" p) [a] [] pos) (iRng1' m) := PI.imp (pi_range1 hg hm ha hs) fun σ H R ⟨S, fr, ds, S', h, e, q⟩ => by
  obtain ⟨xs, e1, e⟩ := Option.bind_eq_some_iff.mp e
  refine ⟨S, fr, xs, h, e1, fun vs r => ?_⟩
  split at e
  · rename_i j
    split at e
    · rename_i hn
      obtain ⟨rfl, rfl⟩ : rngD 0 j.toNat = ds ∧ S = S' := by simpa using e
      obtain ⟨v, rfl, r1⟩ := r.one
      have z : v = .int j := r1
      subst z
      have hn := of_decide_eq_true hn
      exact ⟨j, rfl, hn.1, hn.2, q _ H [] feeds_rng h⟩
    · cases e
  · cases e
theorem vi_range2 {tg : Expr} {p : Pos} {m : Sto → Option (List D)} (hm : X.mg "range" = none) (ha : VPA X [a, b] m) (hg : Gl X "range" := by rfl) (hs : starEach [a, b] X.env = [(false, eval a X.env), (false, eval b X.env)] := by rfl) (hs2 : starEach [b] X.env = [(false, eval b X.env)] := by rfl) :
    VI X tg (.Call (.Name "range" p) [a, b] [] pos) (iRng2' m) := PI.imp (pi_range2 hg hm ha hs hs2) fun σ H R ⟨S, fr, ds, S', h, e, q⟩ => by
  obtain ⟨xs, e1, e⟩ := Option.bind_eq_some_iff.mp e
  refine ⟨S, fr, xs, h, e1, fun vs r => ?_⟩
  split at e
  · rename_i i j
    split at e
    · rename_i hn
      obtain ⟨rfl, rfl⟩ : rngD i (j - i).toNat = ds ∧ S = S' := by simpa using e
      obtain ⟨v, u, rfl, r1, r2⟩ := r.two
      have z : v = .int i := r1
      subst z
      have z : u = .int j := r2
      subst z
      obtain ⟨h1, h2⟩ := Bool.and_eq_true_iff.mp hn
      have h1 := of_decide_eq_true h1
      have h2 := of_decide_eq_true h2
      exact ⟨i, j, rfl, ⟨h1.1, h1.2, h2.1, h2.2⟩, q _ H [] feeds_rng h⟩
    · cases e
  · cases e

/-- the loop -/
def loopF (g : T → Sto → Option Sto) (b : MS) : List D → MS
  | [], S => some (.nx S)
  | d :: ds, S => (g (.sh d) S).bind fun S1 => (b S1).bind fun f => match f with
    | .nx S2 => loopF g b ds S2
    | .ct S2 => loopF g b ds S2
    | .bk S2 => some (.nx S2)
    | .rt r S2 => some (.rt r S2)
def mFor (mi : MI) (g : T → Sto → Option Sto) (b : MS) : MS := fun S => (mi S).bind fun p => loopF g b p.1 p.2
theorem FlOk.hold {K : PySem.W.Frag} {as : List Nat} {D : Ends} {σ : St} {fr : Ps} {f : Fl} (hold : Ps) (h : FlOk K as D σ fr f) : FlOk K as D σ (hold ++ fr) f := by
  cases f with
  | nx S => exact fun σ' H' k h' => h σ' H' k (h'.drops hold)
  | bk S => exact fun σ' H' k h' => h σ' H' k (h'.drops hold)
  | ct S => exact fun σ' H' k h' => h σ' H' k (h'.drops hold)
  | rt t S => exact fun σ' v H' k h' => h σ' v H' k (h'.sub ⟨hold, (List.perm_middle (l₁ := hold)).symm⟩)
theorem vs_for {tg it : Expr} {mi : MI} {g : T → Sto → Option Sto} (hp : PassesOwn (model X.prog X.w) X.A X.env X.xe) (hc : X.calm = true) (hi : VI X tg it mi) (hg : VG X as tg g) (hb : VSs X bs sts m) (hs : ∀ x, foldedSetIterable it X.env x = pure x := by intro _; rfl) :
    VS X (as ++ bs) (.For tg it sts [] pos) (mFor mi g m) := PS.imp (ps_for hp hc hi hg hb hs) fun D σ H ⟨S, fr, f, h, e, q⟩ => by
  obtain ⟨⟨ds, S1⟩, e1, e2⟩ := Option.bind_eq_some_iff.mp e
  refine ⟨S, fr, ds, S1, h, e1, fun J H1 hold F h1 => ?_⟩
  refine ⟨fun i k σ1 H1 => ∃ S1, k = ds.length - i ∧ i ≤ ds.length ∧ AtS X.K H1 σ1 S1 (hold ++ fr) ∧ Keep (as ++ bs) σ σ1 ∧ loopF g m (ds.drop i) S1 = some f, ⟨ds.length, S1, by simp, Nat.zero_le _, h1, .refl, e2⟩, ?_⟩
  rintro i k σ1 H1 ⟨S2, rfl, hi, h2, k2, e3⟩
  have hat : At X.K H1 (hold ++ (fr ++ prs σ1 S2)) := by
    have z := h2.front
    rw [List.append_assoc] at z
    exact z
  by_cases hlt : i < ds.length
  · have hd : ds[i]? = some ds[i] := List.getElem?_eq_getElem hlt
    obtain ⟨go, yl⟩ := F.go H1 _ hat i _ hd
    rw [List.drop_eq_getElem_cons hlt] at e3
    obtain ⟨S3, e4, e5⟩ := Option.bind_eq_some_iff.mp e3
    obtain ⟨f1, e6, e7⟩ := Option.bind_eq_some_iff.mp e5
    refine .inr ⟨go, fun σ3 H3 => ∃ S3, AtS X.K H3 σ3 S3 (hold ++ fr) ∧ Keep (as ++ bs) σ σ3 ∧ loopF g m (ds.drop (i + 1)) S3 = some f, fun σ3 H3 ⟨S4, a1, a2, a3⟩ => ⟨ds.length - (i + 1), by omega, S4, rfl, hlt, a1, a2, a3⟩, fun x H' y => ?_⟩
    obtain ⟨rfl, h3⟩ := yl x H' y
    have h4 : AtS X.K H' σ1 S2 ((x, .sh ds[i]) :: (hold ++ fr)) := AtS.of h2.1 (by
      have z : (x, T.sh ds[i]) :: (hold ++ fr) ++ prs σ1 S2 = (x, T.sh ds[i]) :: (hold ++ (fr ++ prs σ1 S2)) := by simp
      rw [z]
      exact h3)
    refine ⟨S2, hold ++ fr, _, S3, h4, e4, fun σ2 k3 h5 => ⟨S3, hold ++ fr, f1, h5, e6, ?_⟩⟩
    have kk : ∀ {σ4 : St}, Keep bs σ2 σ4 → Keep (as ++ bs) σ σ4 := fun k4 => k2.add (k3.trans k4)
    cases f1 with
    | nx S4 => exact fun σ4 H4 k4 h6 => ⟨S4, h6, kk k4, e7⟩
    | ct S4 => exact fun σ4 H4 k4 h6 => ⟨S4, h6, kk k4, e7⟩
    | bk S4 =>
      cases e7
      exact fun σ4 H4 k4 h6 => FlOk.hold (f := .nx S4) hold q σ4 H4 (kk k4) h6
    | rt r S4 =>
      cases e7
      exact fun σ4 v H4 k4 h6 => FlOk.hold (f := .rt r S4) hold q σ4 v H4 (kk k4) h6
  · have e8 : i = ds.length := by omega
    subst e8
    rw [List.drop_length] at e3
    cases e3
    exact .inl ⟨F.stop H1 _ hat _ (Nat.le_refl _), FlOk.hold (f := .nx S2) hold q σ1 H1 k2 h2⟩
end

/-! ### comprehensions -/
section
variable {K : PySem.W.Frag} {H : Hp} {σ : St} {S : Sto} {fr : Ps}
def wipeS (S : Sto) : List Nat → Sto
  | [] => S
  | v :: vs => (wipeS S vs).set v none
theorem prs_wipe1 : ∀ {σ : St} {S : Sto} (i : Nat), Fit σ S → Sub (prs (σ.set i none) (S.set i none)) (prs σ S) ∧ Fit (σ.set i none) (S.set i none)
  | [], [], i, f => ⟨Sub.refl, f⟩
  | some w :: σ, some u :: S, 0, f => ⟨Sub.refl.skip, f⟩
  | some w :: σ, none :: S, 0, f => ⟨Sub.refl, f⟩
  | none :: σ, none :: S, 0, f => ⟨Sub.refl, f⟩
  | some w :: σ, some u :: S, i + 1, f => by
    obtain ⟨h1, h2⟩ := prs_wipe1 (σ := σ) (S := S) i f
    exact ⟨h1.cons, h2⟩
  | some w :: σ, none :: S, i + 1, f => prs_wipe1 (σ := σ) (S := S) i f
  | none :: σ, none :: S, i + 1, f => prs_wipe1 (σ := σ) (S := S) i f
  | none :: _, some _ :: _, _, f => f.elim
  | [], _ :: _, _, f => f.elim
  | some _ :: _, [], _, f => f.elim
  | none :: _, [], _, f => f.elim
theorem AtS.wipe (h : AtS K H σ S fr) : ∀ vs : List Nat, AtS K H (L2.wipe σ vs) (wipeS S vs) fr
  | [] => h
  | v :: vs => by
    have k := AtS.wipe h vs
    obtain ⟨s, f⟩ := prs_wipe1 v k.1
    exact ⟨f, k.2.sub (s.append_right fr)⟩
/-- what is held in the wiped frame is held in the frame -/
theorem prs_unwipe1 : ∀ {σ : St} {S : Sto} (i : Nat), Fit (σ.set i none) (S.set i none) → prs (σ.set i none) (S.set i none) = prs σ (S.set i none) ∧ Fit σ (S.set i none)
  | [], [], i, f => ⟨rfl, f⟩
  | w :: σ, u :: S, 0, f => by
    cases w <;> exact ⟨rfl, f⟩
  | w :: σ, u :: S, i + 1, f => by
    cases w with
    | none =>
      cases u with
      | none => exact prs_unwipe1 (σ := σ) (S := S) i f
      | some u => exact f.elim
    | some w =>
      cases u with
      | none => exact prs_unwipe1 (σ := σ) (S := S) i f
      | some u =>
        obtain ⟨h1, h2⟩ := prs_unwipe1 (σ := σ) (S := S) i f
        exact ⟨congrArg ((w, u) :: ·) h1, h2⟩
  | [], _ :: _, 0, f => f.elim
  | [], _ :: _, _ + 1, f => f.elim
  | none :: _, [], 0, f => f.elim
  | some _ :: _, [], 0, f => f.elim
  | none :: _, [], _ + 1, f => f.elim
  | some _ :: _, [], _ + 1, f => f.elim
theorem AtS.unwipe : ∀ {vs : List Nat} {σ : St} {S : Sto}, AtS K H (L2.wipe σ vs) (wipeS S vs) fr → AtS K H σ (wipeS S vs) fr := by
  intro vs
  induction vs with
  | nil => exact fun h => h
  | cons v vs ih =>
    intro σ S h
    obtain ⟨f, a⟩ := h
    obtain ⟨e, f2⟩ := prs_unwipe1 (σ := L2.wipe σ vs) (S := wipeS S vs) v f
    have a2 : At K H (prs (L2.wipe σ vs) ((wipeS S vs).set v none) ++ fr) := by
      rw [← e]
      exact a
    -- move the store of v inwards
    have comm : ∀ (vs : List Nat) (S : Sto), (wipeS S vs).set v none = wipeS (S.set v none) vs := by
      intro vs
      induction vs with
      | nil => exact fun _ => rfl
      | cons u us ih2 =>
        intro S
        show ((wipeS S us).set u none).set v none = (wipeS (S.set v none) us).set u none
        rw [← ih2]
        by_cases huv : u = v
        · rw [huv]
        · rw [List.set_comm _ _ huv]
    have h3 : AtS K H (L2.wipe σ vs) (wipeS (S.set v none) vs) fr := by
      rw [← comm]
      exact ⟨f2, a2⟩
    have h4 := ih h3
    show AtS K H σ ((wipeS S vs).set v none) fr
    rw [comm]
    exact h4
end
section
variable {X : Cx} {e a b c : Expr} {es : List Expr} {pos : Pos}
def lcGo (g : T → Sto → Option Sto) (tt : MT) (te : ME) (own : List Nat) : List D → Sto → List T → Option (List T × Sto)
  | [], S, acc => some (acc, S)
  | d :: ds, S, acc => (g (.sh d) S).bind fun S1 => (tt S1).bind fun q => if q.1 = true then (te q.2).bind fun r => if acc.length < sizeLine then lcGo g tt te own ds (wipeS r.2 own) (acc ++ [r.1]) else none
    else lcGo g tt te own ds (wipeS q.2 own) acc
def eLc (mi : MI) (g : T → Sto → Option Sto) (tt : MT) (te : ME) (own : List Nat) : ME := fun S => (mi S).bind fun p => (lcGo g tt te own p.1 (wipeS p.2 own) []).bind fun r => some (.lst r.1, r.2)
def qYes : MT := fun S => some (true, S)
abbrev VTs (X : Cx) (ifs : List Expr) (m : MT) : Prop := PTs X ifs (tVT X.K m)
theorem PTs.imp {e : List Expr} {t t' : TT} (h : PTs X e t) (i : ∀ σ H Q, t' σ H Q → t σ H Q) : PTs X e t' := ⟨fun pins s σ H Q I q => h.run pins s σ H Q I (i σ H Q q)⟩
theorem vts_nil : VTs X [] qYes := PTs.imp pts_nil fun σ H Q ⟨S, fr, b, S', h, e, q⟩ => by
  cases e
  exact q H h
theorem vts_one {m : MT} (h : VT X c m) : VTs X [c] m := pts_one h
theorem lc_imp {mi : MI} {g : T → Sto → Option Sto} {tt : MT} {te : ME} {as own : List Nat} {σ : St} {H : Hp} {Q : VK} (hw : ∀ i ∈ as, i ∈ own) (h : tV X.K (eLc mi g tt te own) σ H Q) : tLc (iV X.K mi) (gV X.K as g) (tVT X.K tt) (tV X.K te) own σ H Q := by
  obtain ⟨S, fr, t, S', h, e, q⟩ := h
  obtain ⟨⟨ds, S1⟩, e1, e⟩ := Option.bind_eq_some_iff.mp e
  obtain ⟨⟨out, S2⟩, e2, e⟩ := Option.bind_eq_some_iff.mp e
  obtain ⟨rfl, rfl⟩ : T.lst out = t ∧ S2 = S' := by simpa using e
  refine ⟨S, fr, ds, S1, h, e1, fun J H1 hold F h1 D hD => ?_⟩
  -- the state between two turns
  refine ⟨fun i k H2 => ∃ S3 acc, k = ds.length - i ∧ i ≤ ds.length ∧ AtS X.K H2 (L2.wipe σ own) (wipeS S3 own) ((.ref D, .lst acc) :: (hold ++ fr)) ∧ lcGo g tt te own (ds.drop i) (wipeS S3 own) acc = some (out, S2), ⟨ds.length, S1, [], by simp, Nat.zero_le _, ?_, e2⟩, ?_⟩
  · have k := AtS.wipe (AtS.of h1.1 (At.newL (vs := []) (ts := []) h1.front rfl hD) : AtS X.K _ σ S1 ((.ref D, .lst []) :: (hold ++ fr))) own
    exact k
  · rintro i k H2 ⟨S3, acc, rfl, hi, h2, e3⟩
    have hat : At X.K H2 (hold ++ (fr ++ ((.ref D, .lst acc) :: prs (L2.wipe σ own) (wipeS S3 own)))) := by
      refine h2.front.perm ?_
      have z : (V.ref D, T.lst acc) :: (hold ++ fr) ++ prs (L2.wipe σ own) (wipeS S3 own) = (V.ref D, T.lst acc) :: ((hold ++ fr) ++ prs (L2.wipe σ own) (wipeS S3 own)) := rfl
      rw [z, ← List.append_assoc]
      exact List.perm_middle.symm
    by_cases hlt : i < ds.length
    · have hd : ds[i]? = some ds[i] := List.getElem?_eq_getElem hlt
      obtain ⟨go, yl⟩ := F.go H2 _ hat i _ hd
      rw [List.drop_eq_getElem_cons hlt] at e3
      obtain ⟨S4, e4, e5⟩ := Option.bind_eq_some_iff.mp e3
      obtain ⟨⟨b, S5⟩, e6, e7⟩ := Option.bind_eq_some_iff.mp e5
      refine .inr ⟨go, fun H3 => ∃ S6 acc', AtS X.K H3 (L2.wipe σ own) (wipeS S6 own) ((.ref D, .lst acc') :: (hold ++ fr)) ∧ lcGo g tt te own (ds.drop (i + 1)) (wipeS S6 own) acc' = some (out, S2),
        fun H3 ⟨S6, acc', a1, a2⟩ => ⟨ds.length - (i + 1), by omega, S6, acc', rfl, hlt, a1, a2⟩, fun x H' y => ?_⟩
      obtain ⟨rfl, h3⟩ := yl x H' y
      have h4 : AtS X.K H' (L2.wipe σ own) (wipeS S3 own) ((x, .sh ds[i]) :: (.ref D, .lst acc) :: (hold ++ fr)) := AtS.of h2.1 (by
        refine h3.perm ?_
        have z : hold ++ (fr ++ (V.ref D, T.lst acc) :: prs (L2.wipe σ own) (wipeS S3 own)) = (hold ++ fr) ++ (V.ref D, T.lst acc) :: prs (L2.wipe σ own) (wipeS S3 own) := by simp
        rw [z]
        exact (List.perm_middle).cons _)
      refine ⟨wipeS S3 own, (.ref D, .lst acc) :: (hold ++ fr), _, S4, h4, e4, fun σ2 k3 h5 => ?_⟩
      have ew : L2.wipe σ2 own = L2.wipe σ own := by
        have wl : ∀ (vs : List Nat) (τ : St), (L2.wipe τ vs).length = τ.length := fun vs τ => wipe_length τ vs
        apply List.ext_getElem?
        intro j
        have wm : ∀ (vs : List Nat) (τ : St), j ∈ vs → (L2.wipe τ vs)[j]? = if j < τ.length then some none else none := by
          intro vs
          induction vs with
          | nil => intro τ hj; cases hj
          | cons u us ih =>
            intro τ hj
            show ((L2.wipe τ us).set u none)[j]? = _
            rw [List.getElem?_set, wl]
            by_cases huj : u = j
            · rw [if_pos huj, huj]
            · rw [if_neg huj]
              rcases List.mem_cons.mp hj with z | z
              · exact absurd z.symm huj
              · exact ih τ z
        have wn : ∀ (vs : List Nat) (τ : St), j ∉ vs → (L2.wipe τ vs)[j]? = τ[j]? := by
          intro vs
          induction vs with
          | nil => intro τ _; rfl
          | cons u us ih =>
            intro τ hj
            show ((L2.wipe τ us).set u none)[j]? = _
            rw [List.getElem?_set_ne fun z => hj (by simp [z])]
            exact ih τ fun z => hj (List.mem_cons_of_mem _ z)
        have hl2 : σ2.length = σ.length := k3.1.trans (wl own σ)
        by_cases hj : j ∈ own
        · rw [wm own σ2 hj, wm own σ hj, hl2]
        · rw [wn own σ2 hj, wn own σ hj]
          have z := k3.2 j fun z => hj (hw j z)
          rw [z]
          exact wn own σ hj
      refine ⟨ew, S4, (.ref D, .lst acc) :: (hold ++ fr), b, S5, h5, e6, fun H3 h6 => ?_⟩
      cases b with
      | true =>
        obtain ⟨⟨tr, S6⟩, e8, e9⟩ := Option.bind_eq_some_iff.mp (show ((te S5).bind _) = some (out, S2) by simpa using e7)
        simp only at e9
        split at e9
        · rename_i hl
          refine iteT ⟨S5, (.ref D, .lst acc) :: (hold ++ fr), tr, S6, h6, e8, fun y' H4 h7 => ?_⟩
          obtain ⟨vs, ha, l, k2⟩ := h7.at1.append
          refine ⟨vs, ha, by rw [l]; exact hl, S6, acc ++ [tr], ?_, e9⟩
          have k3 := AtS.wipe (AtS.of h7.1 k2 : AtS X.K _ σ2 S6 ((.ref D, .lst (acc ++ [tr])) :: (hold ++ fr))) own
          rw [ew] at k3
          exact k3
        · cases e9
      | false =>
        refine iteF ⟨S5, acc, ?_, by simpa using e7⟩
        have k3 := AtS.wipe h6 own
        rw [ew] at k3
        exact k3
    · have e8 : i = ds.length := by omega
      subst e8
      rw [List.drop_length] at e3
      obtain ⟨rfl, rfl⟩ : acc = out ∧ wipeS S3 own = S2 := by simpa [lcGo] using e3
      refine .inl ⟨F.stop H2 _ hat _ (Nat.le_refl _), q _ _ ?_⟩
      have k := h2.unwipe
      exact k.sub ⟨hold, (List.perm_middle (l₁ := hold)).symm⟩
theorem ve_lc {elt tg it : Expr} {ifs : List Expr} {scope : Scope} (own : List (Str × Nat)) {mi : MI} {g : T → Sto → Option Sto} {tt : MT} {te : ME} {as : List Nat} (hc : X.calm = true) (hN : X.N.Nodup) (hi : VI X tg it mi) (ok : BlkOk X.N X.env.scope scope own)
    (hg : ∀ (s : Shared) (H : Hp) (C : Addr) (cl : List (Str × Addr)) (fp : List Addr), VG (X.blk s H scope (compEnvC scope cl C X.env) fp) as tg g) (ht : ∀ (s : Shared) (H : Hp) (C : Addr) (cl : List (Str × Addr)) (fp : List Addr), VTs (X.blk s H scope (compEnvC scope cl C X.env) fp) ifs tt)
    (he : ∀ (s : Shared) (H : Hp) (C : Addr) (cl : List (Str × Addr)) (fp : List Addr), VE (X.blk s H scope (compEnvC scope cl C X.env) fp) elt te) (hw : as = own.map (·.2) := by rfl) (hs : ∀ x, foldedSetIterable it X.env x = pure x := by intro _; rfl) :
    VE X (.ListComp elt [⟨tg, it, ifs, 0⟩] scope pos) (eLc mi g tt te (own.map (·.2))) := PE.imp (pe_lc hc hN hi ok hg ht he hs) fun σ H Q h => lc_imp (fun i hi => by rw [← hw]; exact hi) h
theorem vs_setLc (i : Nat) {y : Str} {py : Pos} {elt tg it : Expr} {ifs : List Expr} {scope : Scope} (own : List (Str × Nat)) {spos : Pos} {mi : MI} {g : T → Sto → Option Sto} {tt : MT} {te : ME} {as : List Nat} (hc : X.calm = true) (hN : X.N.Nodup) (hsw : swapsWith (.ListComp elt [⟨tg, it, ifs, 0⟩] scope pos) (some (.Name y py)) spos.line X.env = pure true) (hi : VI X tg it mi) (ok : BlkOk X.N X.env.scope scope own)
    (hg : ∀ (s : Shared) (H : Hp) (C : Addr) (cl : List (Str × Addr)) (fp : List Addr), VG (X.blk s H scope (compEnvC scope cl C X.env) fp) as tg g) (ht : ∀ (s : Shared) (H : Hp) (C : Addr) (cl : List (Str × Addr)) (fp : List Addr), VTs (X.blk s H scope (compEnvC scope cl C X.env) fp) ifs tt)
    (he : ∀ (s : Shared) (H : Hp) (C : Addr) (cl : List (Str × Addr)) (fp : List Addr), VE (X.blk s H scope (compEnvC scope cl C X.env) fp) elt te) (hw : as = own.map (·.2) := by rfl) (hy : X.N[i]? = some y := by rfl) (hyl : X.env.scope.names.lookup y = some .local := by rfl) (hs : ∀ x, foldedSetIterable it X.env x = pure x := by intro _; rfl) :
    VS X [i] (.Assign [.Name y py] (.ListComp elt [⟨tg, it, ifs, 0⟩] scope pos) spos) (sAsg (eLc mi g tt te (own.map (·.2))) (putS i)) := PS.imp (ps_setLc hc hN hy hyl hsw hi ok hg ht he hs) fun D σ H ⟨S, fr, f, h, e, q⟩ => by
  obtain ⟨⟨t, S1⟩, e1, e⟩ := Option.bind_eq_some_iff.mp e
  obtain ⟨S2, e2, e⟩ := Option.bind_eq_some_iff.mp e
  cases e
  obtain ⟨hi, rfl⟩ := putS_some e2
  exact lc_imp (fun i hi => by rw [← hw]; exact hi) ⟨S, fr, t, S1, h, e1, fun v H' h' => q _ H' .set (h'.put hi)⟩
end

/-! ### a def -/
/-- the arguments at the entry: those that are stored to are shared first -/
def entry (as : List Nat) : Nat → List T → List T
  | _, [] => []
  | i, t :: ts => (if i ∈ as then .sh (fz t) else t) :: entry as (i + 1) ts
/-- what the arguments have become -/
def outs (as : List Nat) (S : Sto) : Nat → List T → List (Option T)
  | _, [] => []
  | i, t :: ts => (if i ∈ as then some (.sh (fz t)) else (S[i]?).getD none) :: outs as S (i + 1) ts
def mkFn (np ns : Nat) (as : List Nat) (b : MS) : Fn := fun ts => if ts.length = np then (b ((entry as 0 ts).map some ++ List.replicate (ns - np) none)).bind fun f => match f with
  | .nx S => some (.sh .non, outs as S 0 ts)
  | .rt t S => some (t, outs as S 0 ts)
  | _ => none else none
theorem outs_length (as : List Nat) (S : Sto) : ∀ (i : Nat) (ts : List T), (outs as S i ts).length = ts.length
  | _, [] => rfl
  | i, _ :: ts => congrArg (· + 1) (outs_length as S (i + 1) ts)
theorem entry_length (as : List Nat) : ∀ (i : Nat) (ts : List T), (entry as i ts).length = ts.length
  | _, [] => rfl
  | i, _ :: ts => congrArg (· + 1) (entry_length as (i + 1) ts)
section
variable {K : PySem.W.Frag} {H : Hp}
/-- the shared ones doubled -/
def dbl (as : List Nat) : Nat → List V → List T → Ps
  | i, v :: vs, t :: ts => if i ∈ as then (v, .sh (fz t)) :: dbl as (i + 1) vs ts else dbl as (i + 1) vs ts
  | _, _, _ => []
theorem At.entryA (as : List Nat) : ∀ {vs : List V} {ts : List T} {ps : Ps} (i : Nat), At K H (vs.zip ts ++ ps) → At K H (vs.zip (entry as i ts) ++ (dbl as i vs ts ++ ps))
  | [], ts, ps, i, h => h
  | v :: vs, [], ps, i, h => h
  | v :: vs, t :: ts, ps, i, h => by
    have h0 : At K H ((v, t) :: (vs.zip ts ++ ps)) := h
    show At K H ((v, if i ∈ as then T.sh (fz t) else t) :: (vs.zip (entry as (i + 1) ts) ++ ((if i ∈ as then (v, T.sh (fz t)) :: dbl as (i + 1) vs ts else dbl as (i + 1) vs ts) ++ ps)))
    by_cases hi : i ∈ as
    · rw [if_pos hi, if_pos hi]
      have h1 : At K H ((v, .sh (fz t)) :: (v, .sh (fz t)) :: (vs.zip ts ++ ps)) := h0.freeze.dup
      have h2 : At K H (vs.zip ts ++ ((v, .sh (fz t)) :: (v, .sh (fz t)) :: ps)) := h1.perm (by
        refine ((List.perm_middle (l₁ := vs.zip ts) (a := (v, T.sh (fz t))) (l₂ := ps)).symm.cons _).trans ?_
        exact (List.perm_middle (l₁ := vs.zip ts)).symm)
      have h3 := At.entryA as (i + 1) h2
      refine h3.perm ?_
      -- bring one copy to the front, one behind
      have p1 : (vs.zip (VS.entry as (i + 1) ts) ++ (dbl as (i + 1) vs ts ++ (v, T.sh (fz t)) :: (v, T.sh (fz t)) :: ps)).Perm (vs.zip (VS.entry as (i + 1) ts) ++ ((v, T.sh (fz t)) :: (v, T.sh (fz t)) :: (dbl as (i + 1) vs ts ++ ps))) := by
        refine List.Perm.append_left _ ?_
        refine (List.perm_middle).trans (List.Perm.cons _ ?_)
        exact List.perm_middle
      exact p1.trans List.perm_middle
    · rw [if_neg hi, if_neg hi]
      have h2 : At K H (vs.zip ts ++ ((v, t) :: ps)) := h0.perm (List.perm_middle (l₁ := vs.zip ts)).symm
      have h3 := At.entryA as (i + 1) h2
      refine h3.perm ?_
      have p1 : (vs.zip (VS.entry as (i + 1) ts) ++ (dbl as (i + 1) vs ts ++ (v, t) :: ps)).Perm (vs.zip (VS.entry as (i + 1) ts) ++ ((v, t) :: (dbl as (i + 1) vs ts ++ ps))) := List.Perm.append_left _ List.perm_middle
      exact p1.trans List.perm_middle
theorem prs_map : ∀ {vs : List V} {ts : List T}, prs (vs.map some) (ts.map some) = vs.zip ts
  | [], ts => by cases ts <;> rfl
  | _ :: _, [] => rfl
  | v :: vs, t :: ts => congrArg ((v, t) :: ·) (prs_map (vs := vs) (ts := ts))
theorem prs_start : ∀ {vs : List V} {ts : List T} {n : Nat}, vs.length = ts.length → prs (vs.map some ++ List.replicate n none) (ts.map some ++ List.replicate n none) = vs.zip ts ∧ Fit (vs.map some ++ List.replicate n none) (ts.map some ++ List.replicate n none)
  | [], [], n, _ => by
    induction n with
    | zero => exact ⟨rfl, trivial⟩
    | succ n ih => exact ih
  | v :: vs, t :: ts, n, h => by
    obtain ⟨h1, h2⟩ := prs_start (vs := vs) (ts := ts) (n := n) (Nat.succ.inj h)
    exact ⟨congrArg ((v, t) :: ·) h1, h2⟩
  | [], _ :: _, _, h => nomatch h
  | _ :: _, [], _, h => nomatch h
/-- behind the body: the arguments as they have become -/
theorem prs_outs (as : List Nat) : ∀ {vs : List V} {ts : List T} {σ : St} {S S0 : Sto} (i : Nat), vs.length = ts.length → (∀ j, (S[j]?).getD none = (S0[i + j]?).getD none) → (∀ j v, vs[j]? = some v → i + j ∉ as → σ[j]? = some (some v)) →
    Sub (prs (vs.map some) (outs as S0 i ts)) (prs σ S ++ dbl as i vs ts)
  | [], [], σ, S, S0, i, _, _, _ => ⟨prs σ S, by simp [dbl, prs]⟩
  | v :: vs, t :: ts, σ, S, S0, i, l, hS, hk => by
    have ih := fun (σ' : St) (S' : Sto) (a : ∀ j, (S'[j]?).getD none = (S0[i + 1 + j]?).getD none) (b : ∀ j v, vs[j]? = some v → i + 1 + j ∉ as → σ'[j]? = some (some v)) => prs_outs as (vs := vs) (ts := ts) (σ := σ') (S := S') (S0 := S0) (i + 1) (Nat.succ.inj l) a b
    have hS' : ∀ j, ((S.drop 1)[j]?).getD none = (S0[i + 1 + j]?).getD none := fun j => by
      rw [List.getElem?_drop, hS (1 + j)]
      congr 2
      omega
    have hk' : ∀ j w, vs[j]? = some w → i + 1 + j ∉ as → (σ.drop 1)[j]? = some (some w) := fun j w h1 h2 => by
      rw [List.getElem?_drop, Nat.add_comm]
      have z : i + (j + 1) = i + 1 + j := by omega
      exact hk (j + 1) w (by simpa using h1) (by rw [z]; exact h2)
    have q := ih (σ.drop 1) (S.drop 1) hS' hk'
    have tl : Sub (prs (σ.drop 1) (S.drop 1)) (prs σ S) := by
      cases σ with
      | nil => exact Sub.refl
      | cons o σ =>
        cases S with
        | nil =>
          cases o <;> cases σ with
          | nil => exact Sub.refl
          | cons o2 σ => cases o2 <;> exact Sub.refl
        | cons u S =>
          cases o <;> cases u
          · exact Sub.refl
          · exact Sub.refl
          · exact Sub.refl
          · exact Sub.refl.skip
    by_cases hi : i ∈ as
    · have e1 : outs as S0 i (t :: ts) = some (.sh (fz t)) :: outs as S0 (i + 1) ts := by
        show (if i ∈ as then _ else _) :: _ = _
        rw [if_pos hi]
      have e2 : dbl as i (v :: vs) (t :: ts) = (v, .sh (fz t)) :: dbl as (i + 1) vs ts := by
        show (if i ∈ as then _ else _) = _
        rw [if_pos hi]
      rw [e1, e2]
      show Sub ((v, .sh (fz t)) :: prs (vs.map some) (outs as S0 (i + 1) ts)) _
      exact ((q.trans (tl.append_right _)).cons).trans (Sub.of_perm List.perm_middle)
    · have e1 : outs as S0 i (t :: ts) = (S0[i]?).getD none :: outs as S0 (i + 1) ts := by
        show (if i ∈ as then _ else _) :: _ = _
        rw [if_neg hi]
      have e2 : dbl as i (v :: vs) (t :: ts) = dbl as (i + 1) vs ts := by
        show (if i ∈ as then _ else _) = _
        rw [if_neg hi]
      rw [e1, e2]
      have h0 := hS 0
      have hv := hk 0 v rfl hi
      cases σ with
      | nil => simp at hv
      | cons o σ =>
        have ho : o = some v := by simpa using hv
        subst ho
        cases S with
        | nil =>
          have z : (S0[i]?).getD none = none := by
            have : (S0[i + 0]?).getD none = none := by rw [← h0]; rfl
            simpa using this
          rw [z]
          show Sub (prs (vs.map some) (outs as S0 (i + 1) ts)) _
          exact q.trans (tl.append_right _)
        | cons u S =>
          have z : (S0[i]?).getD none = u := by
            have : (S0[i + 0]?).getD none = u := by rw [← h0]; rfl
            simpa using this
          rw [z]
          cases u with
          | none =>
            show Sub (prs (vs.map some) (outs as S0 (i + 1) ts)) _
            exact q
          | some u =>
            show Sub ((v, u) :: prs (vs.map some) (outs as S0 (i + 1) ts)) ((v, u) :: (prs σ S ++ dbl as (i + 1) vs ts))
            exact q.cons
  | [], _ :: _, _, _, _, _, l, _, _ => nomatch l
  | _ :: _, [], _, _, _, _, l, _, _ => nomatch l
end
section
variable {P : Program} {w : World} {K : PySem.W.Frag} {mg : Str → Option Value} {base : Heap}
/-- THE RULE of a def -/
theorem Good.mk' {x : Str} {st : Stmt} {f : Addr} {fd : FuncData} {N ps : List Str} {k : Nat} {as : List Nat} {b : MS} (F : Fun K x x st f fd) (hm : mg x = some (.ref f)) (hbd : Binds K fd ps []) (S : FnScope N ps (defScope st))
    (hb : ∀ (cdv : Value) (A : Around) (outer : List Env) (s : Shared) (H : Hp) (E : XK), Room k (A.deeper (envOfC x (defScope st) s.heap.objs.size f cdv)) → VSs (cxOf CX0 P w K mg base N x (defScope st) f cdv A outer s H E).nox as (defBody st) b) :
    Good P w K mg base x (k + 1) ps (mkFn ps.length N.length as b) := by
  refine ⟨f, fd, hm, F.kp, hbd, F.ok S (fun vs H Q E ⟨_, _, _, _, h, _⟩ => h) fun cdv A outer s H vs Q E hr hsp => ⟨_, hb cdv A outer s H E hr, ?_⟩⟩
  obtain ⟨ts, fr, r, ts', l1, l2, h, e, l3, q⟩ := hsp
  have hpl : ps.length ≤ N.length := by
    have := congrArg List.length S.pre
    rw [List.length_take] at this
    omega
  unfold mkFn at e
  rw [if_pos l2] at e
  obtain ⟨fl, e1, e2⟩ := Option.bind_eq_some_iff.mp e
  have h1 := At.entryA as 0 h
  have lz : vs.length = (entry as 0 ts).length := by rw [entry_length, l1, l2]
  obtain ⟨p1, p2⟩ := prs_start (n := N.length - ps.length) lz
  have hst : L2.start N vs = vs.map some ++ List.replicate (N.length - ps.length) none := by
    unfold L2.start
    rw [l1]
  rw [hst]
  refine ⟨(entry as 0 ts).map some ++ List.replicate (N.length - ps.length) none, dbl as 0 vs ts ++ fr, fl, ⟨p2, by rw [p1]; exact h1⟩, e1, ?_⟩
  have fin : ∀ (σ' : St) (v : V) (H' : Hp) (S' : Sto) (t : T), Keep as (vs.map some ++ List.replicate (N.length - ps.length) none) σ' → AtS K H' σ' S' ((v, t) :: (dbl as 0 vs ts ++ fr)) → ts' = outs as S' 0 ts → r = t → Q v H' := fun σ' v H' S' t kp h2 e3 e4 => by
    subst e3 e4
    refine q v H' ?_
    have s1 := prs_outs as (vs := vs) (ts := ts) (σ := σ') (S := S') (S0 := S') 0 (l1.trans l2.symm) (fun j => by rw [Nat.zero_add]) (fun j u h3 h4 => by
      rw [kp.2 j (by simpa using h4)]
      rw [List.getElem?_append_left (by rw [List.length_map]; exact (List.getElem?_eq_some_iff.mp h3).1), List.getElem?_map, h3] <;> rfl)
    refine h2.2.sub ?_
    show Sub ((v, r) :: (prs (vs.map some) (outs as S' 0 ts) ++ fr)) (prs σ' S' ++ (v, r) :: (dbl as 0 vs ts ++ fr))
    refine Sub.trans (qs := (v, r) :: (prs σ' S' ++ (dbl as 0 vs ts ++ fr))) ?_ (Sub.of_perm List.perm_middle)
    refine Sub.cons ?_
    rw [← List.append_assoc]
    exact s1.append_right fr
  cases fl with
  | nx S' =>
    cases e2
    exact fun σ' H' kp h2 => fin σ' .non H' S' (.sh .non) kp (h2.new fun _ => rfl) rfl rfl
  | rt t S' =>
    obtain ⟨rfl, rfl⟩ : t = r ∧ outs as S' 0 ts = ts' := by simpa using e2
    exact fun σ' v H' kp h2 => fin σ' v H' S' t kp h2 rfl rfl
  | bk S' => cases e2
  | ct S' => cases e2
end
end VS
/-! VS: the top's facts, the end of a law. -/
namespace VS
open PySem PySem.Spec PyProof.Rows L2

/-- a constant of the module -/
def Cst (K : PySem.W.Frag) (mg : Str → Option Value) (x : Str) (d : D) : Prop := ∃ v u, mg x = some u ∧ RelV v u ∧ ∀ G, Rep K G v d
/-- a def of the module -/
def Def (K : PySem.W.Frag) (mg : Str → Option Value) (x : Str) (st : Stmt) : Prop := ∃ f fd, FunD K x x (defArgs st) (defBody st) (defScope st) [] [] f fd ∧ mg x = some (.ref f)
section
variable {X : Cx} {pos : Pos}
theorem vp_cst {x : Str} {d : D} (c : Cst X.K X.mg x d) (hg : Gl X x := by rfl) (hd : (x == ("__debug__" : Str)) = false := by decide) : VP X (.Name x pos) (pC d) := by
  obtain ⟨v, u, hm, r, rd⟩ := c
  exact vp_glob hg hm r rd hd
theorem ve_cst {x : Str} {d : D} (c : Cst X.K X.mg x d) (hg : Gl X x := by rfl) (hd : (x == ("__debug__" : Str)) = false := by decide) : VE X (.Name x pos) (eC d) := by
  obtain ⟨v, u, hm, r, rd⟩ := c
  exact ve_glob hg hm r rd hd
end
section
variable {K : PySem.W.Frag} {h : Heap} {mg : Str → Option Value}
theorem cst_str (X : K.In h) (G : h.Ns mainGlobals mg) {x z : Str} (c : (He.Fa.str x z).ok K = true) : Cst K mg x (.str z) := by
  obtain ⟨t, e⟩ := He.str_ok X G c
  exact ⟨.str z, _, e, ⟨t, rfl⟩, fun _ => rfl⟩
theorem cst_int (X : K.In h) (G : h.Ns mainGlobals mg) {x : Str} {i : Int} (c : (He.Fa.int x i).ok K = true) : Cst K mg x (.int i) := by
  obtain ⟨t, e⟩ := He.int_ok X G c
  exact ⟨.int i, _, e, ⟨t, rfl⟩, fun _ => rfl⟩
/-- scalars as the head's data -/
def dvD : D → He.Dv
  | .non => .non
  | .bl b => .bl b
  | .int i => .int i
  | .str x => .str x
  | _ => .non
theorem reps_dv {G : Hp} : ∀ {ds : List D}, ds.all sc = true → Reps K G ((ds.map dvD).map (He.Dv.v K)) ds
  | [], _ => trivial
  | d :: ds, q => by
    rw [List.all_cons, Bool.and_eq_true] at q
    refine ⟨?_, reps_dv q.2⟩
    cases d with
    | lst _ => cases q.1
    | tup _ => cases q.1
    | _ => rfl
theorem cst_tup (X : K.In h) (G : h.Ns mainGlobals mg) {x : Str} {ds : List D} (c : (He.Fa.glo x).ok K = true) (t : He.tupB K x (ds.map dvD) = true) (hs : ds.all sc = true) : Cst K mg x (.tup ds) :=
  ⟨.ref (He.ga K x), _, He.glo_ok X G c, rfl, fun H => ⟨_, _, rfl, He.tupB_ok t H, reps_dv hs⟩⟩
theorem def_of (X : K.In h) (G : h.Ns mainGlobals mg) {x : Str} {st : Stmt} (c : (He.Fa.glo x).ok K = true) (d : ∃ fd, FunD K x x (defArgs st) (defBody st) (defScope st) [] [] (He.ga K x) fd) : Def K mg x st := by
  obtain ⟨fd, F⟩ := d
  exact ⟨_, fd, F, He.glo_ok X G c⟩
end
theorem PSs.weak {X : Cx} {as bs : List Nat} {st : List Stmt} {m : MS} (h : VSs X as st m) (k : ∀ i ∈ as, i ∈ bs) : VSs X bs st m := PSs.imp h fun D σ H ⟨S, fr, f, h, e, q⟩ => ⟨S, fr, f, h, e, q.mono k⟩
section
variable {P : Program} {w : World} {K : PySem.W.Frag} {mg : Str → Option Value} {base : Heap}
theorem defOk {x : Str} {st : Stmt} {f : Addr} {fd : FuncData} {N ps : List Str} {k : Nat} {as : List Nat} (asP : List Nat) {b : MS} (F : FunD K x x (defArgs st) (defBody st) (defScope st) [] [] f fd) (S : FnScope N ps (defScope st))
    (hb : ∀ (cdv : Value) (A : Around) (outer : List Env) (s : Shared) (H : Hp) (E : XK), Room k (A.deeper (envOfC x (defScope st) s.heap.objs.size f cdv)) → VSs (cxOf CX0 P w K mg base N x (defScope st) f cdv A outer s H E).nox as (defBody st) b) (hsub : ∀ i, i < ps.length → i ∈ as → i ∈ asP) :
    FnOk P w K mg base CX0 (k + 1) f fd ps (spV K ps.length (mkFn ps.length N.length asP b)) := by
  refine F.ok S (fun vs H Q E ⟨_, _, _, _, h, _⟩ => h) fun cdv A outer s H vs Q E hr hsp => ⟨_, PSs.nox (hb cdv A outer s H E hr), ?_⟩
  obtain ⟨ts, fr, r, ts', l1, l2, h, e, l3, q⟩ := hsp
  have hpl : ps.length ≤ N.length := by
    have := congrArg List.length S.pre
    rw [List.length_take] at this
    omega
  unfold mkFn at e
  rw [if_pos l2] at e
  obtain ⟨fl, e1, e2⟩ := Option.bind_eq_some_iff.mp e
  have h1 := At.entryA asP 0 h
  have lz : vs.length = (entry asP 0 ts).length := by rw [entry_length, l1, l2]
  obtain ⟨p1, p2⟩ := prs_start (n := N.length - ps.length) lz
  have hst : L2.start N vs = vs.map some ++ List.replicate (N.length - ps.length) none := by
    unfold L2.start
    rw [l1]
  rw [hst]
  refine ⟨(entry asP 0 ts).map some ++ List.replicate (N.length - ps.length) none, dbl asP 0 vs ts ++ fr, fl, ⟨p2, by rw [p1]; exact h1⟩, e1, ?_⟩
  have fin : ∀ (σ' : St) (v : V) (H' : Hp) (S' : Sto) (t : T), Keep as (vs.map some ++ List.replicate (N.length - ps.length) none) σ' → AtS K H' σ' S' ((v, t) :: (dbl asP 0 vs ts ++ fr)) → ts' = outs asP S' 0 ts → r = t → Q v H' := fun σ' v H' S' t kp h2 e3 e4 => by
    subst e3 e4
    refine q v H' ?_
    have s1 := prs_outs asP (vs := vs) (ts := ts) (σ := σ') (S := S') (S0 := S') 0 (l1.trans l2.symm) (fun j => by rw [Nat.zero_add]) (fun j u h3 h4 => by
      have hj : j < vs.length := (List.getElem?_eq_some_iff.mp h3).1
      rw [kp.2 j (fun z => h4 (by rw [Nat.zero_add]; exact hsub j (by omega) z))]
      rw [List.getElem?_append_left (by rw [List.length_map]; exact hj), List.getElem?_map, h3] <;> rfl)
    refine h2.2.sub ?_
    show Sub ((v, r) :: (prs (vs.map some) (outs asP S' 0 ts) ++ fr)) (prs σ' S' ++ (v, r) :: (dbl asP 0 vs ts ++ fr))
    refine Sub.trans (qs := (v, r) :: (prs σ' S' ++ (dbl asP 0 vs ts ++ fr))) ?_ (Sub.of_perm List.perm_middle)
    refine Sub.cons ?_
    rw [← List.append_assoc]
    exact s1.append_right fr
  cases fl with
  | nx S' =>
    cases e2
    exact fun σ' H' kp h2 => fin σ' .non H' S' (.sh .non) kp (h2.new fun _ => rfl) rfl rfl
  | rt t S' =>
    obtain ⟨rfl, rfl⟩ : t = r ∧ outs asP S' 0 ts = ts' := by simpa using e2
    exact fun σ' v H' kp h2 => fin σ' v H' S' t kp h2 rfl rfl
  | bk S' => cases e2
  | ct S' => cases e2
theorem Good.mkD {x : Str} {st : Stmt} {f : Addr} {fd : FuncData} {N ps : List Str} {k : Nat} {as : List Nat} (asP : List Nat) {b : MS} (F : FunD K x x (defArgs st) (defBody st) (defScope st) [] [] f fd) (hm : mg x = some (.ref f)) (hbd : Binds K fd ps []) (S : FnScope N ps (defScope st))
    (hb : ∀ (cdv : Value) (A : Around) (outer : List Env) (s : Shared) (H : Hp) (E : XK), Room k (A.deeper (envOfC x (defScope st) s.heap.objs.size f cdv)) → VSs (cxOf CX0 P w K mg base N x (defScope st) f cdv A outer s H E).nox as (defBody st) b) (hsub : ∀ i, i < ps.length → i ∈ as → i ∈ asP) :
    Good P w K mg base x (k + 1) ps (mkFn ps.length N.length asP b) := ⟨f, fd, hm, F.kp, hbd, defOk asP F S hb hsub⟩
end
/-- the script, and what is wanted of the law -/
theorem Reps.ints {K : PySem.W.Frag} {H : Hp} : ∀ (ns : List Int), Reps K H (ns.map V.int) (ns.map D.int)
  | [] => trivial
  | _ :: ns => ⟨rfl, Reps.ints ns⟩
theorem spV_law {K : PySem.W.Frag} {m : Fn} {H : Hp} {a : Addr} {ns : List Int} {E : XK} (hS : SqL K H a (ns.map V.int)) (h : ∃ ts', m [.sh (.lst (ns.map .int))] = some (.sh (.bl true), ts') ∧ ts'.length = 1) : spV K 1 m [.ref a] H (fun v _ => v = .bl true) E := by
  obtain ⟨ts', e, l⟩ := h
  refine ⟨[.sh (.lst (ns.map .int))], [], _, ts', rfl, rfl, ?_, e, l, fun v H' k => ?_⟩
  · exact ⟨H, [], Same.refl H, ⟨[], [], rfl, ⟨rfl, a, _, rfl, hS, Reps.ints ns⟩, rfl⟩, List.nodup_nil, (by intro b hb; cases hb), (by intro b hb; cases hb)⟩
  · exact (show At K H' ((v, .sh (.bl true)) :: _) from k).rep
end VS
/-! VS: more rules. -/
namespace VS
open PySem PySem.Spec PyProof.Rows L2
section
variable {X : Cx} {e a b c : Expr} {es : List Expr} {pos : Pos}
/-- f(e), one value, a scalar back -/
def eC1 (g : List D → Option D) (m : ME) : ME := fun S => (m S).bind fun p => sD (g [fz p.1]) p.2
theorem eC1_imp {g : List D → Option D} {m : ME} {σ : St} {H : Hp} {Q : VK} (h : tV X.K (eC1 g m) σ H Q) : tCB (rC X.K g) (tCons (tV X.K m) tNil) σ H Q := by
  obtain ⟨S, fr, t, S', h, e, q⟩ := h
  obtain ⟨⟨t0, S1⟩, e1, e⟩ := Option.bind_eq_some_iff.mp e
  obtain ⟨d, e2, hs, rfl, rfl⟩ := sD_some e
  exact ⟨S, fr, t0, _, h, e1, fun v H1 h1 => ⟨[fz t0], d, ⟨h1.rep, trivial⟩, e2, fun z rz => q z H1 (h1.drop1.new (scRep hs rz))⟩⟩
theorem ve_callB1 {x : Str} {p : Pos} {id : String} {g : List D → Option D} {m : ME} (hc : CallR X (.builtin id) (rC X.K g)) (hm : X.mg x = none) (hv : bootBuiltins x = some (.builtin id)) (ha : VE X e m) (hg : Gl X x := by rfl) (hn : x ≠ "__name__" := by decide)
    (hdb : (x == ("__debug__" : Str)) = false := by decide) (he : starEach [e] X.env = (false, eval e X.env) :: starEach [] X.env := by rfl) (hpl : (backTo pos (starEach [] X.env)).any (·.1) = false := by rfl) : VE X (.Call (.Name x p) [e] [] pos) (eC1 g m) :=
  PE.imp (pe_callB hc hg hm hv (pa_cons ha pa_nil he) hn hdb he hpl) fun σ H Q h => eC1_imp h
theorem ve_callTy1 {x : Str} {p : Pos} {T : String} {g : List D → Option D} {m : ME} (hc : CallR X (.type T) (rC X.K g)) (hm : X.mg x = none) (hv : bootBuiltins x = some (.type T)) (ha : VE X e m) (hg : Gl X x := by rfl) (hn : x ≠ "__name__" := by decide)
    (hdb : (x == ("__debug__" : Str)) = false := by decide) (he : starEach [e] X.env = (false, eval e X.env) :: starEach [] X.env := by rfl) (hpl : (backTo pos (starEach [] X.env)).any (·.1) = false := by rfl) : VE X (.Call (.Name x p) [e] [] pos) (eC1 g m) :=
  PE.imp (pe_callTy hc hg hm hv (pa_cons ha pa_nil he) hn hdb he hpl) fun σ H Q h => eC1_imp h
/-- range(e), range(a, b) of no pure things -/
def iRng1E (m : ME) : MI := fun S => (m S).bind fun p => match fz p.1 with
  | .int j => if near j = true then some (rngD 0 j.toNat, p.2) else none
  | _ => none
theorem vi_range1E {tg : Expr} {p : Pos} {m : ME} (hm : X.mg "range" = none) (ha : VE X a m) (hg : Gl X "range" := by rfl) (hs : starEach [a] X.env = [(false, eval a X.env)] := by rfl) : VI X tg (.Call (.Name "range" p) [a] [] pos) (iRng1E m) := PI.imp (pi_range1 hg hm (pa_cons ha pa_nil hs) hs) fun σ H R ⟨S, fr, ds, S', h, e, q⟩ => by
  obtain ⟨⟨t, S1⟩, e1, e⟩ := Option.bind_eq_some_iff.mp e
  refine ⟨S, fr, t, S1, h, e1, fun v H1 h1 => ?_⟩
  simp only at e
  split at e
  · rename_i j ej
    split at e
    · rename_i hn
      obtain ⟨rfl, rfl⟩ : rngD 0 j.toNat = ds ∧ S1 = S' := by simpa using e
      have r := h1.rep
      rw [ej] at r
      have hn := of_decide_eq_true hn
      exact ⟨j, by rw [show v = .int j from r], hn.1, hn.2, q _ H1 [] feeds_rng h1.drop1⟩
    · cases e
  · cases e
def dAddI : D → D → Option D
  | .int i, .int j => some (.int (i + j))
  | _, _ => none
theorem oa_addI : PIp X .Add (rAug X.K dAddI) := by
  intro pins s σ H x y v u Q I rx ry ⟨dx, dy, d, r1, r2, e, q⟩
  cases dx with
  | int i =>
    cases dy with
    | int j =>
      have z : D.int (i + j) = d := by simpa [dAddI] using e
      subst z
      rw [show x = .int i from r1] at rx
      rw [show y = .int j from r2] at ry
      exact ip_add pins s σ H _ _ v u Q I rx ry ⟨i, j, rfl, rfl, q _ rfl⟩
    | _ => cases e
  | _ => cases dy <;> cases e
theorem addI_sc (d0 d d1 : D) (h : dAddI d0 d = some d1) : sc d0 = true := by
  cases d0 <;> cases d <;> first | rfl | cases h
end
/-- the turns that a while may make -/
def fuel : Nat := 1000000000
/-! ### a value that is shared from now on -/
def eFz (m : ME) : ME := fun S => (m S).bind fun p => some (.sh (fz p.1), p.2)
theorem ve_fz {m : ME} (h : VE X e m) : VE X e (eFz m) := PE.imp h fun σ H Q ⟨S, fr, t, S', h, e, q⟩ => by
  obtain ⟨⟨u, S1⟩, e1, e2⟩ := Option.bind_eq_some_iff.mp e
  cases e2
  exact ⟨S, fr, u, _, h, e1, fun v H1 h1 => q v H1 h1.freeze⟩
end VS
/-! The functions, reckoned with. -/
namespace VS
open PySem PySem.Spec PyProof.Rows L2
/-! ### steps -/
theorem sSeq_nx {m m' : MS} {S S1 : Sto} (h : m S = some (.nx S1)) : sSeq m m' S = m' S1 := by unfold sSeq; rw [h]; rfl
theorem sSeq_rt {m m' : MS} {S S1 : Sto} {t : T} (h : m S = some (.rt t S1)) : sSeq m m' S = some (.rt t S1) := by unfold sSeq; rw [h]; rfl
theorem sSeq_ct {m m' : MS} {S S1 : Sto} (h : m S = some (.ct S1)) : sSeq m m' S = some (.ct S1) := by unfold sSeq; rw [h]; rfl
theorem sSeq_bk {m m' : MS} {S S1 : Sto} (h : m S = some (.bk S1)) : sSeq m m' S = some (.bk S1) := by unfold sSeq; rw [h]; rfl
theorem sIf_t {q : MT} {m m' : MS} {S S1 : Sto} (h : q S = some (true, S1)) : sIf q m m' S = m S1 := by unfold sIf; rw [h]; rfl
theorem sIf_f {q : MT} {m m' : MS} {S S1 : Sto} (h : q S = some (false, S1)) : sIf q m m' S = m' S1 := by unfold sIf; rw [h]; rfl
theorem while_mono {t : MT} {b : MS} : ∀ {n k : Nat} {S : Sto} {f : Fl}, mWhile t b n S = some f → n ≤ k → mWhile t b k S = some f
  | 0, _, _, _, h, _ => by cases h
  | n + 1, 0, _, _, _, l => by omega
  | n + 1, k + 1, S, f, h, l => by
    obtain ⟨⟨x, S2⟩, e2, e3⟩ := Option.bind_eq_some_iff.mp (show (t S).bind _ = some f from h)
    show (t S).bind _ = some f
    rw [e2]
    show (if x = true then _ else _) = some f
    have e3' : (if x = true then _ else _) = some f := e3
    cases x with
    | false => exact e3'
    | true =>
      rw [if_pos rfl] at e3' ⊢
      obtain ⟨f1, e4, e5⟩ := Option.bind_eq_some_iff.mp e3'
      rw [e4]
      cases f1 with
      | nx S3 => exact while_mono (n := n) (k := k) e5 (by omega)
      | ct S3 => exact while_mono (n := n) (k := k) e5 (by omega)
      | bk S3 => exact e5
      | rt r S3 => exact e5
theorem while_t {t : MT} {b : MS} {n : Nat} {S S1 S2 : Sto} (h : t S = some (true, S1)) (h2 : b S1 = some (.nx S2)) : mWhile t b (n + 1) S = mWhile t b n S2 := by
  show (t S).bind _ = _
  rw [h]
  show (b S1).bind _ = _
  rw [h2]
  rfl
theorem while_f {t : MT} {b : MS} {n : Nat} {S S1 : Sto} (h : t S = some (false, S1)) : mWhile t b (n + 1) S = some (.nx S1) := by
  show (t S).bind _ = _
  rw [h]
  rfl
theorem loop_nil {g : T → Sto → Option Sto} {b : MS} {S : Sto} : loopF g b [] S = some (.nx S) := rfl
theorem loop_nx {g : T → Sto → Option Sto} {b : MS} {d : D} {ds : List D} {S S1 S2 : Sto} (h : g (.sh d) S = some S1) (h2 : b S1 = some (.nx S2)) : loopF g b (d :: ds) S = loopF g b ds S2 := by
  show (g (.sh d) S).bind _ = _
  rw [h]
  show (b S1).bind _ = _
  rw [h2]
  rfl
theorem loop_ct {g : T → Sto → Option Sto} {b : MS} {d : D} {ds : List D} {S S1 S2 : Sto} (h : g (.sh d) S = some S1) (h2 : b S1 = some (.ct S2)) : loopF g b (d :: ds) S = loopF g b ds S2 := by
  show (g (.sh d) S).bind _ = _
  rw [h]
  show (b S1).bind _ = _
  rw [h2]
  rfl
theorem loop_bk {g : T → Sto → Option Sto} {b : MS} {d : D} {ds : List D} {S S1 S2 : Sto} (h : g (.sh d) S = some S1) (h2 : b S1 = some (.bk S2)) : loopF g b (d :: ds) S = some (.nx S2) := by
  show (g (.sh d) S).bind _ = _
  rw [h]
  show (b S1).bind _ = _
  rw [h2]
  rfl
theorem loop_rt {g : T → Sto → Option Sto} {b : MS} {d : D} {ds : List D} {S S1 S2 : Sto} {t : T} (h : g (.sh d) S = some S1) (h2 : b S1 = some (.rt t S2)) : loopF g b (d :: ds) S = some (.rt t S2) := by
  show (g (.sh d) S).bind _ = _
  rw [h]
  show (b S1).bind _ = _
  rw [h2]
  rfl
theorem sizeLine_val : sizeLine = 16777216 := by decide
/-! ### == on data -/
@[simp] theorem deq_int (i j : Int) : deq (.int i) (.int j) = (i == j) := rfl
@[simp] theorem deq_str (i j : Str) : deq (.str i) (.str j) = (i == j) := rfl
@[simp] theorem deq_bl (i j : Bool) : deq (.bl i) (.bl j) = (i == j) := rfl
@[simp] theorem sc2_int (i j : Int) : sc2 (.int i) (.int j) = true := rfl
@[simp] theorem sc2_str (i j : Str) : sc2 (.str i) (.str j) = true := rfl
@[simp] theorem sc2_bl (i j : Bool) : sc2 (.bl i) (.bl j) = true := rfl
@[simp] theorem sc_int (i : Int) : sc (.int i) = true := rfl
@[simp] theorem sc_str (i : Str) : sc (.str i) = true := rfl
@[simp] theorem sc_bl (i : Bool) : sc (.bl i) = true := rfl
@[simp] theorem sc_non : sc .non = true := rfl
/-- texts by their signs -/
abbrev tx (l : List Nat) : Str := ⟨l.toArray⟩
theorem tx_eta (x : Str) : tx x.cps.toList = x := by cases x; rfl
@[simp] theorem tx_len (l : List Nat) : (tx l).length = l.length := by show l.toArray.size = _; simp
@[simp] theorem tx_app (l m : List Nat) : tx l ++ tx m = tx (l ++ m) := by
  show (⟨l.toArray ++ m.toArray⟩ : Str) = _
  simp
theorem tx_inj {l m : List Nat} (h : tx l = tx m) : l = m := by
  have := congrArg (fun x => x.cps.toList) h
  simpa using this
@[simp] theorem tx_beq (l m : List Nat) : (tx l == tx m) = (l == m) := by
  rw [Bool.eq_iff_iff]
  simp only [beq_iff_eq]
  exact ⟨tx_inj, fun h => by rw [h]⟩
theorem atI_pos {α : Type} {xs : List α} {j : Nat} : L2.atI xs (j : Int) = xs[j]? := by
  unfold L2.atI ixN
  rw [if_pos (by omega)]
  by_cases h : j < xs.length
  · rw [if_pos (by omega)]
    simp
  · rw [if_neg (by omega)]
    simp
    omega
end VS
namespace VS
open PySem PySem.Spec PyProof.Rows L2
theorem lenOk_tx {l : List Nat} (h : l.length ≤ 10000000) : lenOk (tx l) = true := lenOk_iff.mpr (by rw [tx_len, sizeLine_val]; omega)
theorem dLen_tx {l : List Nat} (h : l.length ≤ 10000000) : dLen [.str (tx l)] = some (.int (l.length : Nat)) := by
  show (if lenOk (tx l) = true then some (D.int ((tx l).length : Nat)) else none) = _
  rw [if_pos (lenOk_tx h), tx_len]
theorem dIx_tx {l : List Nat} {j c : Nat} (h : l.length ≤ 10000000) (e : l[j]? = some c) : dIx (.str (tx l)) (.int (j : Nat)) = some (.str (tx [c])) := by
  show (if lenOk (tx l) = true then (L2.atI (tx l).cps.toList ((j : Nat) : Int)).map (fun c => D.str ⟨#[c]⟩) else none) = _
  rw [if_pos (lenOk_tx h), atI_pos, show (tx l).cps.toList = l by simp, e]
  rfl
@[simp] theorem sign1_tx {c : Nat} : sign1 (tx [c]) = some c := rfl
@[simp] theorem dIn_tx {c : Nat} {l : List Nat} : dIn (.str (tx [c])) (.str (tx l)) = some (.bl (decide (c ∈ l))) := by
  rw [dIn]
  rfl
@[simp] theorem dNotIn_tx {c : Nat} {l : List Nat} : dNotIn (.str (tx [c])) (.str (tx l)) = some (.bl (!decide (c ∈ l))) := by
  unfold dNotIn dNot
  rw [dIn_tx]
  rfl
theorem cutS_tx {l : List Nat} {a b : Nat} : cutS (tx l) (some (a : Nat)) (some (b : Nat)) = tx ((l.drop a).take (b - a)) := by
  unfold cutS
  rw [HT.sIx_nat, HT.sIx_nat, tx_len, show (tx l).cps.toList = l by simp]
  congr 2
  by_cases h : a ≤ l.length
  · rw [Nat.min_eq_left h]
    by_cases h2 : b ≤ l.length
    · rw [Nat.min_eq_left h2]
    · rw [Nat.min_eq_right (by omega), List.take_of_length_le (by rw [List.length_drop]; omega), List.take_of_length_le (by rw [List.length_drop]; omega)]
  · have e : min a l.length = l.length := Nat.min_eq_right (by omega)
    rw [e, List.drop_eq_nil_of_le (Nat.le_refl _), List.drop_eq_nil_of_le (by omega)]
    simp
theorem dSl_tx {l : List Nat} {a b : Nat} (h : l.length ≤ 10000000) : dSlS (some (a : Nat)) (some (b : Nat)) (.str (tx l)) = some (.str (tx ((l.drop a).take (b - a)))) := by
  show (if lenOk (tx l) = true then _ else _) = _
  rw [if_pos (lenOk_tx h), cutS_tx]
theorem mFor_of {mi : MI} {g : T → Sto → Option Sto} {b : MS} {S S1 : Sto} {ds : List D} (h : mi S = some (ds, S1)) : mFor mi g b S = loopF g b ds S1 := by
  unfold mFor
  rw [h]
  rfl
theorem near_nat {n : Nat} (h : n ≤ 1000000) : near (n : Int) = true := decide_eq_true ⟨by omega, by omega⟩
theorem iRng1_go {m : Sto → Option (List D)} {S : Sto} {j : Int} (h : m S = some [.int j]) (hn : near j = true) : iRng1' m S = some (rngD 0 j.toNat, S) := by
  unfold iRng1'
  rw [h]
  exact if_pos hn
theorem iRng2_go {m : Sto → Option (List D)} {S : Sto} {i j : Int} (h : m S = some [.int i, .int j]) (hn : near i = true) (hn2 : near j = true) : iRng2' m S = some (rngD i (j - i).toNat, S) := by
  unfold iRng2'
  rw [h]
  exact if_pos (by rw [hn, hn2]; rfl)
theorem iRng1_of {m : Sto → Option (List D)} {S : Sto} {n : Nat} (h : m S = some [.int (n : Nat)]) (hn : n ≤ 1000000) : iRng1' m S = some (rngD 0 n, S) := by
  rw [iRng1_go h (near_nat hn), Int.toNat_natCast]
theorem iRng2_of {m : Sto → Option (List D)} {S : Sto} {a b : Nat} (h : m S = some [.int (a : Nat), .int (b : Nat)]) (ha : a ≤ 1000000) (hb : b ≤ 1000000) : iRng2' m S = some (rngD (a : Nat) (b - a), S) := by
  rw [iRng2_go h (near_nat ha) (near_nat hb), show ((b : Int) - (a : Int)).toNat = b - a by omega]
/-- trees in slots -/
abbrev tS (l : List Nat) : T := .sh (.str (tx l))
abbrev tI (i : Nat) : T := .sh (.int (i : Int))
abbrev tZ (i : Int) : T := .sh (.int i)
abbrev tN : T := .sh .non
abbrev tBl (b : Bool) : T := .sh (.bl b)
@[simp] theorem fz_sh (d : D) : fz (.sh d) = d := rfl
@[simp] theorem fz_lst (ts : List T) : fz (.lst ts) = .lst (ts.map fz) := by rw [fz, fzL_map]
@[simp] theorem fz_tup (ts : List T) : fz (.tup ts) = .tup (ts.map fz) := by rw [fz, fzL_map]
theorem str_of {s : String} {l : List Nat} (h : s.toList.map Char.toNat = l) : Str.ofString s = tx l := by
  rw [Str.ofString_eq_toList, h]
end VS
namespace VS
open PySem PySem.Spec PyProof.Rows L2
@[simp] theorem asB_bl (b : Bool) : asB (.bl b) = some b := rfl
theorem rng_cons (a : Int) (n : Nat) : rngD a (n + 1) = .int a :: rngD (a + 1) n := by
  unfold rngD
  rw [List.range_succ_eq_map, List.map_cons, List.map_map]
  congr 1
  · simp
  · apply List.map_congr_left
    intro i _
    show D.int _ = D.int _
    congr 1
    show a + ((i + 1 : Nat) : Int) = a + 1 + (i : Int)
    omega
theorem rng_zero (a : Int) : rngD a 0 = [] := rfl
/-! ### numbers drawn from a script -/
abbrev drTail : MS := (sSeq (sAsg (ofP (p2 dMod (pCall dInt (paCons (p2 dAdd (p2 dAdd (p2 dMul (pV 2) (pC (.int 48271))) (p2 dMul (pV 5) (pC (.int 69621)))) (pC (.int 11))) ((fun _ => some [])))) (pC (.int 2147483647)))) (putS 7)) (sSeq (sAsg (ofP (p2 dMod (pCall dInt (paCons (p2 dAdd (p2 dDiv (p2 dMul (pV 7) (pV 7)) (pC (.int 4096))) (pV 7)) ((fun _ => some [])))) (pC (.int 2147483629)))) (putS 7)) (sApp 4 (ofP (p2 dMod (pCall dInt (paCons (p2 dAdd (p2 dDiv (p2 dMul (pV 7) (pV 7)) (pC (.int 4096))) (p2 dMul (pV 5) (pC (.int 7919)))) ((fun _ => some [])))) (pC (.int 2147483629))))))) 
abbrev drBody : MS := (sSeq (sAsg (eVar 5) (putS 2)) (sSeq (sIf (ofB (pB (p2 dGt (pCall dLen (paCons (pV 0) ((fun _ => some [])))) (pC (.int 0))))) (sSeq (sAsg (ofP (p2 dMod (pV 5) (pCall dLen (paCons (pV 0) ((fun _ => some [])))))) (putS 6)) (sSeq (sAsg (ofP (pCall dInt (paCons (p2 dIx (pV 0) (pV 6)) ((fun _ => some []))))) (putS 2)) (sIf (ofB (bAnd (pB (p2 dGe (pV 2) (p2 dPow (pC (.int 10)) (pC (.int 18))))) (pB (p2 dGt (p2 dIx (pV 3) (pV 6)) (pC (.int 0)))))) (sSeq (sApp 4 (ofP (p2 dMod (pCall dInt (paCons (p2 dIx (pV 3) (pV 6)) ((fun _ => some [])))) (pC (.int 1000003))))) (sSeq (sSetI 3 (ofP (p2 dDiv (pCall dInt (paCons (p2 dIx (pV 3) (pV 6)) ((fun _ => some [])))) (pC (.int 1000003)))) (eVar 6)) (sCont))) (sNext)))) (sNext)) drTail))
abbrev drLc : ME := (eLc (iList' (eVar 0)) (putS 2) (qYes) (ofP (pCall dAbs (paCons (pCall dInt (paCons (pV 2) ((fun _ => some [])))) ((fun _ => some []))))) [2])
def drF : MS := sSeq (sAsg drLc (putS 3)) (sSeq (sAsg (eLst (aNil)) (putS 4)) (sSeq (mFor (iRng1' (paCons (pV 1) ((fun _ => some [])))) (putS 5) drBody) (sRet (eMov 4))))
def fDraws : Fn := mkFn 2 8 [] drF
theorem fm_lo (a : Int) {b : Int} (h : 0 < b) : 0 ≤ a.fmod b := Int.fmod_nonneg_of_pos a h
theorem fm_hi (a : Int) {b : Int} (h : 0 < b) : a.fmod b < b := Int.fmod_lt_of_pos a h
theorem small_of {i : Int} (h1 : 0 ≤ i) (h2 : i < 2147483648) : small64 i = true := by
  unfold small64
  exact decide_eq_true (by omega)
abbrev drS (ns rs ds : List Int) (m : Int) (o2 : Option T) (o5 o6 o7 : Option T) : Sto := [some (.sh (.lst (ns.map .int))), some (tZ m), o2, some (.lst (rs.map tZ)), some (.lst (ds.map tZ)), o5, o6, o7]
theorem dMul_r {i j : Int} (h : small64 j = true) : dMul (.int i) (.int j) = some (.int (i * j)) := by
  show (if (small64 i || small64 j) = true then _ else _) = _
  rw [if_pos (by rw [h, Bool.or_true])]
theorem dMod_of {i j : Int} (h : 0 < j) : dMod (.int i) (.int j) = some (.int (i.fmod j)) := if_pos (Int.ne_of_gt h)
theorem dDiv_of {i j : Int} (h : j ≠ 0) (h2 : j.natAbs < 1073741824) : dDiv (.int i) (.int j) = some (.int (i.fdiv j)) := if_pos ⟨h, h2⟩
@[simp] theorem dAdd_ii {i j : Int} : dAdd (.int i) (.int j) = some (.int (i + j)) := rfl
@[simp] theorem dSub_ii {i j : Int} : dSub (.int i) (.int j) = some (.int (i - j)) := rfl
@[simp] theorem dInt_i {i : Int} : dInt [.int i] = some (.int i) := rfl
theorem p2_of {g : D → D → Option D} {ma mb : MP} {S : Sto} {x y z : D} (h1 : ma S = some x) (h2 : mb S = some y) (h3 : g x y = some z) : p2 g ma mb S = some z := by
  unfold p2
  rw [h1, Option.bind_some, h2, Option.bind_some, h3]
theorem pc1_of {g : List D → Option D} {ma : MP} {S : Sto} {x z : D} (h1 : ma S = some x) (h3 : g [x] = some z) : pCall g (paCons ma fun _ => some []) S = some z := by
  unfold pCall paCons
  rw [h1, Option.bind_some, Option.bind_some, Option.bind_some, h3]
theorem pB_of {m : MP} {S : Sto} {b : Bool} (h : m S = some (.bl b)) : pB m S = some b := by
  unfold pB
  rw [h, Option.bind_some]
  rfl
theorem ofB_of {m : MB} {S : Sto} {b : Bool} (h : m S = some b) : ofB m S = some (b, S) := by
  unfold ofB
  rw [h, Option.bind_some]
theorem sApp_of {j : Nat} {me : ME} {S S1 : Sto} {t : T} {ts us : List T} (h0 : S[j]? = some (some (.lst us))) (h : me S = some (t, S1)) (h2 : S1[j]? = some (some (.lst ts))) (h3 : ts.length < sizeLine) : sApp j me S = some (.nx (S1.set j (some (.lst (ts ++ [t]))))) := by
  unfold sApp
  rw [h0]
  show (me S).bind _ = _
  rw [h, Option.bind_some]
  simp only [h2]
  rw [if_pos h3]
theorem sAsg_of {m : ME} {g : T → Sto → Option Sto} {S S1 S2 : Sto} {t : T} (h : m S = some (t, S1)) (h2 : g t S1 = some S2) : sAsg m g S = some (.nx S2) := by
  unfold sAsg
  rw [h, Option.bind_some, h2, Option.bind_some]
theorem ofP_of {m : MP} {S : Sto} {d : D} (h : m S = some d) (hs : sc d = true) : ofP m S = some (.sh d, S) := by
  unfold ofP
  rw [h, Option.bind_some, if_pos hs]
theorem sSetI_of {j : Nat} {mv mk : ME} {S S1 S2 : Sto} {t : T} {i : Int} {ts : List T} {w : T} {n : Nat} (h : mv S = some (t, S1)) (h1 : S1[j]? = some (some w)) (h2 : mk S1 = some (.sh (.int i), S2)) (h3 : S2[j]? = some (some (.lst ts))) (h4 : ixN ts.length i = some n) : sSetI j mv mk S = some (.nx (S2.set j (some (.lst (ts.set n t))))) := by
  unfold sSetI
  rw [h, Option.bind_some]
  simp only [h1]
  rw [h2, Option.bind_some]
  simp only [h3]
  show (ixN ts.length i).bind _ = _
  rw [h4, Option.bind_some]
theorem dr_tail {ns rs ds : List Int} {m : Int} {c : Int} {k : Nat} {o6 o7 : Option T} (hd : ds.length ≤ 1000000) :
    ∃ d o7', 0 ≤ d ∧ drTail (drS ns rs ds m (some (tZ c)) (some (tI k)) o6 o7) = some (.nx (drS ns rs (ds ++ [d]) m (some (tZ c)) (some (tI k)) o6 o7')) := by
  have hwn : ds.length < sizeLine := by rw [sizeLine_val]; omega
  have p1 : (0 : Int) < 2147483647 := by omega
  have p2' : (0 : Int) < 2147483629 := by omega
  have s1 (i : Int) := dMul_r (i := i) (j := 48271) (small_of (by omega) (by omega))
  have s2 (i : Int) := dMul_r (i := i) (j := 69621) (small_of (by omega) (by omega))
  have s3 (i : Int) := dMul_r (i := i) (j := 7919) (small_of (by omega) (by omega))
  have v1 (i : Int) := dMod_of (i := i) p1
  have v2 (i : Int) := dMod_of (i := i) p2'
  have v3 (i : Int) := dDiv_of (i := i) (j := 4096) (by omega) (by decide)
  have b1 := fm_lo (c * 48271 + (k : Int) * 69621 + 11) p1
  have b2 := fm_hi (c * 48271 + (k : Int) * 69621 + 11) p1
  generalize e1 : (c * 48271 + (k : Int) * 69621 + 11).fmod 2147483647 = m1 at b1 b2
  have l1 (i : Int) := dMul_r (i := i) (j := m1) (small_of b1 (by omega))
  have b3 := fm_lo ((m1 * m1).fdiv 4096 + m1) p2'
  have b4 := fm_hi ((m1 * m1).fdiv 4096 + m1) p2'
  generalize e2 : ((m1 * m1).fdiv 4096 + m1).fmod 2147483629 = m2 at b3 b4
  have l2 (i : Int) := dMul_r (i := i) (j := m2) (small_of b3 (by omega))
  refine ⟨((m2 * m2).fdiv 4096 + (k : Int) * 7919).fmod 2147483629, some (tZ m2), fm_lo _ p2', ?_⟩
  have n1 : (sAsg (ofP (p2 dMod (pCall dInt (paCons (p2 dAdd (p2 dAdd (p2 dMul (pV 2) (pC (.int 48271))) (p2 dMul (pV 5) (pC (.int 69621)))) (pC (.int 11))) ((fun _ => some [])))) (pC (.int 2147483647)))) (putS 7)) (drS ns rs ds m (some (tZ c)) (some (tI k)) o6 o7) = some (.nx (drS ns rs ds m (some (tZ c)) (some (tI k)) o6 (some (tZ m1)))) := by
    exact sAsg_of (ofP_of (p2_of (pc1_of (p2_of (p2_of (p2_of rfl rfl (s1 _)) (p2_of rfl rfl (s2 _)) rfl) rfl rfl) rfl) rfl ((v1 _).trans (by rw [e1]))) (sc_int m1)) rfl
  have n2 : (sAsg (ofP (p2 dMod (pCall dInt (paCons (p2 dAdd (p2 dDiv (p2 dMul (pV 7) (pV 7)) (pC (.int 4096))) (pV 7)) ((fun _ => some [])))) (pC (.int 2147483629)))) (putS 7)) (drS ns rs ds m (some (tZ c)) (some (tI k)) o6 (some (tZ m1))) = some (.nx (drS ns rs ds m (some (tZ c)) (some (tI k)) o6 (some (tZ m2)))) := by
    exact sAsg_of (ofP_of (p2_of (pc1_of (p2_of (p2_of (p2_of rfl rfl (l1 _)) rfl (v3 _)) rfl rfl) rfl) rfl ((v2 _).trans (by rw [e2]))) (sc_int m2)) rfl
  rw [drTail, sSeq_nx n1, sSeq_nx n2, sApp_of (t := tZ (((m2 * m2).fdiv 4096 + (k : Int) * 7919).fmod 2147483629)) (S1 := drS ns rs ds m (some (tZ c)) (some (tI k)) o6 (some (tZ m2))) (ts := ds.map tZ) (us := ds.map tZ) rfl
    (ofP_of (p2_of (pc1_of (p2_of (p2_of (p2_of rfl rfl (l2 _)) rfl (v3 _)) (p2_of rfl rfl (s3 _)) rfl) rfl) rfl (v2 _)) rfl) rfl (by rw [List.length_map]; exact hwn)]
  have mm : ∀ x, (ds ++ [x]).map tZ = ds.map tZ ++ [tZ x] := fun x => by rw [List.map_append]; rfl
  unfold drS
  rw [mm]
  rfl
theorem dr_body {ns rs ds : List Int} {m : Int} {k : Nat} {o2 o6 o7 : Option T} (hr : rs.length = ns.length) (hd : ds.length ≤ 1000000) :
    ∃ rs' d o2' o6' o7', 0 ≤ d ∧ rs'.length = ns.length ∧ (drBody (drS ns rs ds m o2 (some (tI k)) o6 o7) = some (.nx (drS ns rs' (ds ++ [d]) m o2' (some (tI k)) o6' o7')) ∨ drBody (drS ns rs ds m o2 (some (tI k)) o6 o7) = some (.ct (drS ns rs' (ds ++ [d]) m o2' (some (tI k)) o6' o7'))) := by
  have hwn : ds.length < sizeLine := by rw [sizeLine_val]; omega
  have n0 : (sAsg (eVar 5) (putS 2)) (drS ns rs ds m o2 (some (tI k)) o6 o7) = some (.nx (drS ns rs ds m (some (tI k)) (some (tI k)) o6 o7)) := by
    simp [sAsg, eVar, putS]
  have ln : dLen [.lst (ns.map .int)] = some (.int (ns.length : Nat)) := by
    show some (D.int ((ns.map D.int).length : Nat)) = _
    rw [List.length_map]
  by_cases h0 : ns.length = 0
  · obtain ⟨d, o7', p, e⟩ := dr_tail (ns := ns) (rs := rs) (m := m) (c := k) (k := k) (o6 := o6) (o7 := o7) hd
    refine ⟨rs, d, some (tI k), o6, o7', p, hr, .inl ?_⟩
    rw [drBody, sSeq_nx n0, sSeq_nx (S1 := drS ns rs ds m (some (tI k)) (some (tI k)) o6 o7)]
    · exact e
    · rw [sIf_f (S1 := drS ns rs ds m (some (tI k)) (some (tI k)) o6 o7)]
      · rfl
      · simp only [ofB, pB, p2, pV, pC, pCall, paCons, List.getElem?_cons_zero, Option.bind_some, fz_sh, ln, h0, dGt, dCmp, asB_bl]
        rfl
  · have hn : 0 < ns.length := by omega
    have hk : k % ns.length < ns.length := Nat.mod_lt _ hn
    have t1 : (ofB (pB (p2 dGt (pCall dLen (paCons (pV 0) ((fun _ => some [])))) (pC (.int 0))))) (drS ns rs ds m (some (tI k)) (some (tI k)) o6 o7) = some (true, drS ns rs ds m (some (tI k)) (some (tI k)) o6 o7) := by
      have z : (0 : Int) < (ns.length : Int) := by omega
      simp only [ofB, pB, p2, pV, pC, pCall, paCons, List.getElem?_cons_zero, Option.bind_some, fz_sh, ln, dGt, dCmp, asB_bl, z, decide_true]
    have n1 : (sAsg (ofP (p2 dMod (pV 5) (pCall dLen (paCons (pV 0) ((fun _ => some [])))))) (putS 6)) (drS ns rs ds m (some (tI k)) (some (tI k)) o6 o7) = some (.nx (drS ns rs ds m (some (tI k)) (some (tI k)) (some (tI (k % ns.length))) o7)) := by
      have z : (ns.length : Int) ≠ 0 := by omega
      have y : (k : Int).fmod (ns.length : Int) = ((k % ns.length : Nat) : Int) := by
        rw [Int.fmod_eq_emod_of_nonneg _ (by omega)]
        rfl
      simp only [sAsg, ofP, p2, pV, pCall, paCons, List.getElem?_cons_zero, List.getElem?_cons_succ, Option.bind_some, fz_sh, ln, dMod, if_pos z, y, sc_int, if_true]
      rfl
    have i1 : dIx (.lst (ns.map .int)) (.int (k % ns.length : Nat)) = some (.int ns[k % ns.length]) := by
      show L2.atI (ns.map D.int) _ = _
      rw [atI_pos, List.getElem?_map, List.getElem?_eq_getElem hk]
      rfl
    have hk2 : k % ns.length < rs.length := by omega
    have i2 : dIx (.lst (rs.map .int)) (.int (k % ns.length : Nat)) = some (.int rs[k % ns.length]) := by
      show L2.atI (rs.map D.int) _ = _
      rw [atI_pos, List.getElem?_map, List.getElem?_eq_getElem hk2]
      rfl
    have n2 : (sAsg (ofP (pCall dInt (paCons (p2 dIx (pV 0) (pV 6)) ((fun _ => some []))))) (putS 2)) (drS ns rs ds m (some (tI k)) (some (tI k)) (some (tI (k % ns.length))) o7) = some (.nx (drS ns rs ds m (some (tZ ns[k % ns.length])) (some (tI k)) (some (tI (k % ns.length))) o7)) := by
      simp only [sAsg, ofP, p2, pV, pCall, paCons, List.getElem?_cons_zero, List.getElem?_cons_succ, Option.bind_some, fz_sh, i1, dInt, sc_int, if_true]
      rfl
    have fzr : fz (.lst (rs.map tZ)) = .lst (rs.map .int) := by
      rw [fz_lst, List.map_map]
      rfl
    have pw : dPow (.int 10) (.int 18) = some (.int 1000000000000000000) := by kernel_rfl
    have t2 : (ofB (bAnd (pB (p2 dGe (pV 2) (p2 dPow (pC (.int 10)) (pC (.int 18))))) (pB (p2 dGt (p2 dIx (pV 3) (pV 6)) (pC (.int 0)))))) (drS ns rs ds m (some (tZ ns[k % ns.length])) (some (tI k)) (some (tI (k % ns.length))) o7) = some (decide (1000000000000000000 ≤ ns[k % ns.length]) && decide (0 < rs[k % ns.length]), drS ns rs ds m (some (tZ ns[k % ns.length])) (some (tI k)) (some (tI (k % ns.length))) o7) := by
      simp only [ofB, bAnd, pB, p2, pV, pC, List.getElem?_cons_zero, List.getElem?_cons_succ, Option.bind_some, fz_sh, fzr, i2, pw, dGe, dGt, dCmp, asB_bl]
      by_cases z : 1000000000000000000 ≤ ns[k % ns.length]
      · simp [z]
      · simp [z]
    by_cases hc : (decide (1000000000000000000 ≤ ns[k % ns.length]) && decide (0 < rs[k % ns.length])) = true
    · rw [hc] at t2
      refine ⟨rs.set (k % ns.length) (rs[k % ns.length].fdiv 1000003), rs[k % ns.length].fmod 1000003, some (tZ ns[k % ns.length]), some (tI (k % ns.length)), o7, fm_lo _ (by decide), by rw [List.length_set]; exact hr, .inr ?_⟩
      have n3 : (sApp 4 (ofP (p2 dMod (pCall dInt (paCons (p2 dIx (pV 3) (pV 6)) ((fun _ => some [])))) (pC (.int 1000003))))) (drS ns rs ds m (some (tZ ns[k % ns.length])) (some (tI k)) (some (tI (k % ns.length))) o7) = some (.nx (drS ns rs (ds ++ [rs[k % ns.length].fmod 1000003]) m (some (tZ ns[k % ns.length])) (some (tI k)) (some (tI (k % ns.length))) o7)) := by
        have y : ds.length < 16777216 := by omega
        simp only [sApp, ofP, p2, pV, pC, pCall, paCons, List.getElem?_cons_zero, List.getElem?_cons_succ, Option.bind_some, fz_sh, fzr, i2, dInt, dMod, sc_int]
        simp [hwn]
      have ix : ixN (rs.map tZ).length ((k % ns.length : Nat) : Int) = some (k % ns.length) := by
        unfold ixN
        rw [List.length_map, if_pos (by omega), if_pos (by omega), Int.toNat_natCast]
      have n4 : (sSetI 3 (ofP (p2 dDiv (pCall dInt (paCons (p2 dIx (pV 3) (pV 6)) ((fun _ => some [])))) (pC (.int 1000003)))) (eVar 6)) (drS ns rs (ds ++ [rs[k % ns.length].fmod 1000003]) m (some (tZ ns[k % ns.length])) (some (tI k)) (some (tI (k % ns.length))) o7) = some (.nx (drS ns (rs.set (k % ns.length) (rs[k % ns.length].fdiv 1000003)) (ds ++ [rs[k % ns.length].fmod 1000003]) m (some (tZ ns[k % ns.length])) (some (tI k)) (some (tI (k % ns.length))) o7)) := by
        rw [sSetI_of (j := 3) (w := .lst (rs.map tZ)) (S1 := drS ns rs (ds ++ [rs[k % ns.length].fmod 1000003]) m (some (tZ ns[k % ns.length])) (some (tI k)) (some (tI (k % ns.length))) o7) (ofP_of (p2_of (pc1_of (p2_of (y := .int (k % ns.length : Nat)) (x := .lst (rs.map .int)) (congrArg some fzr) rfl i2) rfl) rfl (dDiv_of (by omega) (by decide))) rfl) rfl rfl rfl ix]
        unfold drS
        rw [List.map_set]
        rfl
      rw [drBody, sSeq_nx n0, sSeq_ct (S1 := drS ns (rs.set (k % ns.length) (rs[k % ns.length].fdiv 1000003)) (ds ++ [rs[k % ns.length].fmod 1000003]) m (some (tZ ns[k % ns.length])) (some (tI k)) (some (tI (k % ns.length))) o7)]
      rw [sIf_t t1, sSeq_nx n1, sSeq_nx n2, sIf_t t2, sSeq_nx n3, sSeq_nx n4]
      rfl
    · rw [Bool.not_eq_true] at hc
      rw [hc] at t2
      obtain ⟨d, o7', p, e⟩ := dr_tail (ns := ns) (rs := rs) (m := m) (c := ns[k % ns.length]) (k := k) (o6 := some (tI (k % ns.length))) (o7 := o7) hd
      refine ⟨rs, d, some (tZ ns[k % ns.length]), some (tI (k % ns.length)), o7', p, hr, .inl ?_⟩
      rw [drBody, sSeq_nx n0, sSeq_nx (S1 := drS ns rs ds m (some (tZ ns[k % ns.length])) (some (tI k)) (some (tI (k % ns.length))) o7)]
      · exact e
      · rw [sIf_t t1, sSeq_nx n1, sSeq_nx n2, sIf_f t2]
        rfl
theorem dr_loop {ns : List Int} {m : Int} : ∀ (n k : Nat) (rs ds : List Int) (o2 o5 o6 o7 : Option T), rs.length = ns.length → ds.length + n ≤ 1000000 → (∀ d ∈ ds, 0 ≤ d) →
    ∃ rs' ds' o2' o5' o6' o7', ds'.length = ds.length + n ∧ (∀ d ∈ ds', 0 ≤ d) ∧ loopF (putS 5) drBody (rngD (k : Nat) n) (drS ns rs ds m o2 o5 o6 o7) = some (.nx (drS ns rs' ds' m o2' o5' o6' o7'))
  | 0, k, rs, ds, o2, o5, o6, o7, hr, hd, hp => ⟨rs, ds, o2, o5, o6, o7, rfl, hp, rfl⟩
  | n + 1, k, rs, ds, o2, o5, o6, o7, hr, hd, hp => by
    obtain ⟨rs1, d, a2, a6, a7, p, hr1, h⟩ := dr_body (ns := ns) (rs := rs) (ds := ds) (m := m) (k := k) (o2 := o2) (o6 := o6) (o7 := o7) hr (by omega)
    obtain ⟨rs', ds', b2, b5, b6, b7, h1, h2, h3⟩ := dr_loop (ns := ns) (m := m) n (k + 1) rs1 (ds ++ [d]) a2 (some (tI k)) a6 a7 hr1 (by rw [List.length_append, List.length_singleton]; omega) (fun x hx => by
      rcases List.mem_append.mp hx with hx | hx
      · exact hp x hx
      · rw [List.mem_singleton.mp hx]; exact p)
    refine ⟨rs', ds', b2, b5, b6, b7, by rw [h1, List.length_append, List.length_singleton]; omega, h2, ?_⟩
    rw [rng_cons]
    rcases h with h | h
    · exact (loop_nx (S1 := drS ns rs ds m o2 (some (tI k)) o6 o7) rfl h).trans h3
    · exact (loop_ct (S1 := drS ns rs ds m o2 (some (tI k)) o6 o7) rfl h).trans h3
theorem dr_lc {ns : List Int} {m : Int} : ∀ (l : List Int) (acc : List Int), acc.length + l.length ≤ 16777215 → 
    ∃ rs : List Int, rs.length = acc.length + l.length ∧ lcGo (putS 2) qYes (ofP (pCall dAbs (paCons (pCall dInt (paCons (pV 2) ((fun _ => some [])))) ((fun _ => some []))))) [2] (l.map .int) [some (.sh (.lst (ns.map .int))), some (tZ m), none, none, none, none, none, none] (acc.map tZ) = some (rs.map tZ, [some (.sh (.lst (ns.map .int))), some (tZ m), none, none, none, none, none, none])
  | [], acc, _ => ⟨acc, rfl, rfl⟩
  | i :: l, acc, h => by
    rw [List.length_cons] at h
    obtain ⟨rs, h1, h2⟩ := dr_lc l (acc ++ [if i < 0 then -i else i]) (by rw [List.length_append, List.length_singleton]; omega)
    refine ⟨rs, by rw [h1, List.length_append, List.length_singleton, List.length_cons]; omega, ?_⟩
    have hs : acc.length < sizeLine := by rw [sizeLine_val]; omega
    rw [← h2, List.map_cons, lcGo]
    simp [putS, qYes, ofP, pCall, paCons, pV, dInt, dAbs, hs, wipeS]
theorem draws_eq {ns : List Int} {m : Nat} (hn : ns.length ≤ 1000000) (hm : m ≤ 1000000) : ∃ ds : List Int, ds.length = m ∧ (∀ d ∈ ds, 0 ≤ d) ∧ fDraws [.sh (.lst (ns.map .int)), tI m] = some (.lst (ds.map tZ), [some (.sh (.lst (ns.map .int))), some (tI m)]) := by
  obtain ⟨rs, h1, h2⟩ := dr_lc (ns := ns) (m := m) ns [] (by simp; omega)
  obtain ⟨rs', ds, o2, o5, o6, o7, h3, h4, h5⟩ := dr_loop (ns := ns) (m := m) m 0 rs [] none none none none (by simpa using h1) (by simpa using hm) (by simp)
  refine ⟨ds, by simpa using h3, h4, ?_⟩
  have e1 : (sAsg drLc (putS 3)) [some (.sh (.lst (ns.map .int))), some (tI m), none, none, none, none, none, none] = some (.nx [some (.sh (.lst (ns.map .int))), some (tI m), none, some (.lst (rs.map tZ)), none, none, none, none]) := by
    simp [sAsg, drLc, eLc, iList', eVar, wipeS]
    rw [show lcGo _ _ _ _ _ _ [] = _ from h2]
    simp [putS]
  have e2 : (sAsg (eLst (aNil)) (putS 4)) [some (.sh (.lst (ns.map .int))), some (tI m), none, some (.lst (rs.map tZ)), none, none, none, none] = some (.nx (drS ns rs [] m none none none none)) := rfl
  have ei : (iRng1' (paCons (pV 1) ((fun _ => some [])))) (drS ns rs [] m none none none none) = some (rngD 0 m, drS ns rs [] m none none none none) :=
    iRng1_of (by simp [paCons, pV]) hm
  show (drF [some (.sh (.lst (ns.map .int))), some (tI m), none, none, none, none, none, none]).bind _ = _
  rw [drF, sSeq_nx e1, sSeq_nx e2, sSeq_nx ((mFor_of ei).trans h5)]
  rfl
/-! ### the hand -/
def fTakeB : MS := (sSeq (sAsg (eIxN 0 (ofP (pC (.int 1)))) (putS 2)) (sSeq (sSetI 0 (ofP (p2 dAdd (pV 2) (pC (.int 1)))) (ofP (pC (.int 1)))) (sSeq (sAsg (eIxN 0 (ofP (pC (.int 0)))) (putS 3)) (sSeq (sIf (ofB (pB (p2 dGe (pV 2) (pCall dLen (paCons (pV 3) ((fun _ => some []))))))) (sRet (ofP (pC (.int 0)))) (sNext)) (sRet (ofP (p2 dMod (p2 dDiv (pCall dInt (paCons (p2 dIx (pV 3) (pV 2)) ((fun _ => some [])))) (pC (.int 7))) (pV 1))))))))
def fTake : Fn := mkFn 2 4 [] fTakeB
/-- a hand: numbers drawn and a place -/
abbrev hand (ds : List Int) (j : Nat) : T := .lst [.sh (.lst (ds.map .int)), tI j]
theorem take_eq {ds : List Int} {j m : Nat} (hm : 0 < m) : ∃ i : Nat, i < m ∧ fTake [hand ds j, tI m] = some (tI i, [some (hand ds (j + 1)), some (tI m)]) := by
  have ln : dLen [.lst (ds.map .int)] = some (.int (ds.length : Nat)) := by
    show some (D.int ((ds.map D.int).length : Nat)) = _
    rw [List.length_map]
  have n1 : (sAsg (eIxN 0 (ofP (pC (.int 1)))) (putS 2)) [some (hand ds j), some (tI m), none, none] = some (.nx [some (hand ds j), some (tI m), some (tI j), none]) := rfl
  have n2 : (sSetI 0 (ofP (p2 dAdd (pV 2) (pC (.int 1)))) (ofP (pC (.int 1)))) [some (hand ds j), some (tI m), some (tI j), none] = some (.nx [some (hand ds (j + 1)), some (tI m), some (tI j), none]) := rfl
  have n3 : (sAsg (eIxN 0 (ofP (pC (.int 0)))) (putS 3)) [some (hand ds (j + 1)), some (tI m), some (tI j), none] = some (.nx [some (hand ds (j + 1)), some (tI m), some (tI j), some (.sh (.lst (ds.map .int)))]) := rfl
  have t1 : (ofB (pB (p2 dGe (pV 2) (pCall dLen (paCons (pV 3) ((fun _ => some []))))))) [some (hand ds (j + 1)), some (tI m), some (tI j), some (.sh (.lst (ds.map .int)))] = some (decide (ds.length ≤ j), [some (hand ds (j + 1)), some (tI m), some (tI j), some (.sh (.lst (ds.map .int)))]) := by
    have z : ((ds.length : Int) ≤ (j : Int)) = (ds.length ≤ j) := propext (by omega)
    simp only [ofB, pB, p2, pV, pCall, paCons, List.getElem?_cons_zero, List.getElem?_cons_succ, Option.bind_some, fz_sh, ln, dGe, dCmp, asB_bl, z]
  by_cases h : ds.length ≤ j
  · refine ⟨0, hm, ?_⟩
    rw [decide_eq_true h] at t1
    show (fTakeB [some (hand ds j), some (tI m), none, none]).bind _ = _
    rw [fTakeB, sSeq_nx n1, sSeq_nx n2, sSeq_nx n3, sSeq_rt (t := tI 0) (S1 := [some (hand ds (j + 1)), some (tI m), some (tI j), some (.sh (.lst (ds.map .int)))]) (by rw [sIf_t t1]; rfl)]
    rfl
  · have h2 : j < ds.length := by omega
    rw [decide_eq_false h] at t1
    have i1 : dIx (.lst (ds.map .int)) (.int (j : Nat)) = some (.int ds[j]) := by
      show L2.atI (ds.map D.int) _ = _
      rw [atI_pos, List.getElem?_map, List.getElem?_eq_getElem h2]
      rfl
    have z : (0 : Int) < (m : Int) := by omega
    have y := fm_lo (ds[j].fdiv 7) z
    have y2 := fm_hi (ds[j].fdiv 7) z
    refine ⟨((ds[j].fdiv 7).fmod m).toNat, by omega, ?_⟩
    have e : (((((ds[j].fdiv 7).fmod m).toNat : Nat)) : Int) = (ds[j].fdiv 7).fmod m := Int.toNat_of_nonneg y
    have e2 : (sRet (ofP (p2 dMod (p2 dDiv (pCall dInt (paCons (p2 dIx (pV 3) (pV 2)) ((fun _ => some [])))) (pC (.int 7))) (pV 1)))) [some (hand ds (j + 1)), some (tI m), some (tI j), some (.sh (.lst (ds.map .int)))] = some (.rt (tI ((ds[j].fdiv 7).fmod m).toNat) [some (hand ds (j + 1)), some (tI m), some (tI j), some (.sh (.lst (ds.map .int)))]) := by
      unfold sRet
      rw [ofP_of (p2_of (p2_of (pc1_of (p2_of rfl rfl i1) rfl) rfl (dDiv_of (by omega) (by decide))) rfl (dMod_of z)) rfl, Option.bind_some]
      unfold tI
      rw [e]
    show (fTakeB [some (hand ds j), some (tI m), none, none]).bind _ = _
    rw [fTakeB, sSeq_nx n1, sSeq_nx n2, sSeq_nx n3, sSeq_nx (S1 := [some (hand ds (j + 1)), some (tI m), some (tI j), some (.sh (.lst (ds.map .int)))]) (by rw [sIf_f t1]; rfl), e2]
    rfl
end VS
namespace VS
open PySem PySem.Spec PyProof.Rows L2
theorem mkFn_rt {np ns : Nat} {as : List Nat} {b : MS} {ts : List T} {S S' : Sto} {t : T} (hl : ts.length = np) (hS : (entry as 0 ts).map some ++ List.replicate (ns - np) none = S) (h : b S = some (.rt t S')) : mkFn np ns as b ts = some (t, outs as S' 0 ts) := by
  unfold mkFn
  rw [if_pos hl, hS, h]
  rfl
theorem mkFn_nx {np ns : Nat} {as : List Nat} {b : MS} {ts : List T} {S S' : Sto} (hl : ts.length = np) (hS : (entry as 0 ts).map some ++ List.replicate (ns - np) none = S) (h : b S = some (.nx S')) : mkFn np ns as b ts = some (.sh .non, outs as S' 0 ts) := by
  unfold mkFn
  rw [if_pos hl, hS, h]
  rfl
theorem txtJoin (sep : Str) (l : List Str) : Txt.join sep l = Str.join sep l := StrLaws.glued_eq_join sep l
theorem sEMP0 : Str.ofString "" = tx [] := by decide +kernel
theorem join_flat : ∀ ls : List (List Nat), Txt.join (tx []) (ls.map tx) = tx ls.flatten
  | [] => by rw [txtJoin]; rfl
  | [a] => by rw [txtJoin]; show tx a = tx (a ++ []); rw [List.append_nil]
  | a :: b :: ls => by
    have ih := join_flat (b :: ls)
    rw [txtJoin] at ih ⊢
    show tx a ++ tx [] ++ Str.join (tx []) ((b :: ls).map tx) = _
    have e : tx a ++ tx [] = tx a := by rw [tx_app, List.append_nil]
    rw [ih, e]
    exact tx_app _ _
theorem flat_one : ∀ r : List Nat, (r.map fun c => [c]).flatten = r
  | [] => rfl
  | a :: r => by
    rw [List.map_cons, List.flatten_cons, flat_one r]
    rfl
theorem lc_step {g : T → Sto → Option Sto} {tt : MT} {te : ME} {own : List Nat} {d : D} {l : List D} {S S1 S2 S3 : Sto} {acc : List T} {t : T} (h1 : g (.sh d) S = some S1) (h2 : tt S1 = some (true, S2)) (h3 : te S2 = some (t, S3)) (h4 : acc.length < sizeLine) : lcGo g tt te own (d :: l) S acc = lcGo g tt te own l (wipeS S3 own) (acc ++ [t]) := by
  rw [lcGo, h1, Option.bind_some, h2, Option.bind_some]
  show (if true = true then _ else _) = _
  rw [if_pos rfl, h3, Option.bind_some, if_pos h4]
theorem lc_skip {g : T → Sto → Option Sto} {tt : MT} {te : ME} {own : List Nat} {d : D} {l : List D} {S S1 S2 : Sto} {acc : List T} (h1 : g (.sh d) S = some S1) (h2 : tt S1 = some (false, S2)) : lcGo g tt te own (d :: l) S acc = lcGo g tt te own l (wipeS S2 own) acc := by
  rw [lcGo, h1, Option.bind_some, h2, Option.bind_some]
  show (if false = true then _ else _) = _
  rw [if_neg (by decide)]
theorem strsD_map : ∀ ls : List (List Nat), strsD (ls.map fun l => D.str (tx l)) = some (ls.map tx)
  | [] => rfl
  | a :: ls => by
    show (strsD (ls.map fun l => D.str (tx l))).map _ = _
    rw [strsD_map ls]
    rfl
theorem joinD_flat {ls : List (List Nat)} (h : ls.flatten.length ≤ 10000000) : joinD (.str (tx [])) (.lst (ls.map fun l => .str (tx l))) = some (.str (tx ls.flatten)) := by
  have e : ((ls.map tx).map (·.length)).sum = ls.flatten.length := by
    rw [List.length_flatten, List.map_map]
    congr 1
  show ((strsD (ls.map fun l => D.str (tx l))).bind _) = _
  rw [strsD_map, Option.bind_some, e, tx_len, if_pos (by rw [List.length_nil, Nat.mul_zero]; omega), join_flat]
theorem fz_lst_tS (ls : List (List Nat)) : fz (.lst (ls.map tS)) = .lst (ls.map fun l => .str (tx l)) := by
  rw [fz_lst, List.map_map]
  rfl
theorem fz_lst_tZ (ls : List Int) : fz (.lst (ls.map tZ)) = .lst (ls.map .int) := by
  rw [fz_lst, List.map_map]
  rfl
theorem kid_tx {l : List Nat} {i c : Nat} (h : l.length ≤ 10000000) (e : l[i]? = some c) : kid (tS l) (i : Nat) = some (tS [c]) := by
  show (if lenOk (tx l) = true then _ else none) = _
  rw [if_pos (lenOk_tx h), atI_pos, show (tx l).cps.toList = l by simp, e]
  rfl
/-- one number taken from a hand in a slot -/
theorem take_c {S : Sto} {s j m : Nat} {ds : List Int} {me : ME} (h : S[s]? = some (some (hand ds j))) (hm : 0 < m) (e : me S = some (tI m, S)) :
    ∃ i, i < m ∧ eCall fTake [some s, none] (aMv s (aCons me aNil)) S = some (tI i, S.set s (some (hand ds (j + 1)))) := by
  obtain ⟨i, hi, ht⟩ := take_eq (ds := ds) (j := j) hm
  refine ⟨i, hi, ?_⟩
  have a1 : aMv s (aCons me aNil) S = some ([hand ds j, tI m], S.set s none) := by
    unfold aMv aCons aNil
    simp only [h, e, Option.bind_some]
  unfold eCall
  rw [a1, Option.bind_some]
  simp only [ht, Option.bind_some]
  show some (_, (S.set s none).set s (some (hand ds (j + 1)))) = _
  rw [List.set_set]
theorem take_c2 {S : Sto} {s s2 j m : Nat} {ds : List Int} (h : S[s]? = some (some (hand ds j))) (h2 : S[s2]? = some (some (tI m))) (hne : s ≠ s2) (hm : 0 < m) :
    ∃ i, i < m ∧ eCall fTake [some s, some s2] (aMv s (aMv s2 aNil)) S = some (tI i, S.set s (some (hand ds (j + 1)))) := by
  obtain ⟨i, hi, ht⟩ := take_eq (ds := ds) (j := j) hm
  refine ⟨i, hi, ?_⟩
  have e : (S.set s2 none)[s]? = some (some (hand ds j)) := by rw [List.getElem?_set_ne (Ne.symm hne), h]
  have a1 : aMv s (aMv s2 aNil) S = some ([hand ds j, tI m], (S.set s2 none).set s none) := by
    unfold aMv aNil
    simp only [h, h2, e, Option.bind_some]
  unfold eCall
  rw [a1, Option.bind_some]
  simp only [ht, Option.bind_some]
  show some (_, ((((S.set s2 none).set s none).set s (some (hand ds (j + 1))))).set s2 (some (tI m))) = _
  rw [List.set_set, List.set_comm _ _ hne, List.set_set]
  rw [set_at h2]

/-- a text of chosen length -/
def fRunB : MS := sRet (e2M joinD (ofP (pC (.str ""))) (eLc (iRng1E (e2 dAdd (ofP (pC (.int 1))) (eCall fTake [some 0, some 2] (aMv 0 (aMv 2 (aNil)))))) (putS 3) (qYes) (eIxN 1 (eCall fTake [some 0, none] (aMv 0 (aCons (ofP (pCall dLen (paCons (pV 1) ((fun _ => some []))))) (aNil))))) [3]))
def fRun : Fn := mkFn 3 4 [] fRunB
theorem run_lc {cs : List Nat} {u : T} {ds : List Int} (hc : 0 < cs.length) (hl : cs.length ≤ 10000000) : ∀ (l : List D) (j : Nat) (acc : List Nat), acc.length + l.length ≤ 16777215 →
    ∃ (r : List Nat) (j' : Nat), r.length = acc.length + l.length ∧ lcGo (putS 3) qYes (eIxN 1 (eCall fTake [some 0, none] (aMv 0 (aCons (ofP (pCall dLen (paCons (pV 1) ((fun _ => some []))))) (aNil))))) [3] l [some (hand ds j), some (tS cs), some u, none] (acc.map fun c => tS [c]) = some (r.map fun c => tS [c], [some (hand ds j'), some (tS cs), some u, none])
  | [], j, acc, h => ⟨acc, j, rfl, rfl⟩
  | d :: l, j, acc, h => by
    rw [List.length_cons] at h
    obtain ⟨i, hi, e⟩ := take_c (S := [some (hand ds j), some (tS cs), some u, some (.sh d)]) (s := 0) (j := j) (m := cs.length) (ds := ds) (me := ofP (pCall dLen (paCons (pV 1) ((fun _ => some []))))) rfl hc (ofP_of (pc1_of rfl (dLen_tx hl)) rfl)
    have hk := kid_tx hl (List.getElem?_eq_getElem hi)
    obtain ⟨r, j', h1, h2⟩ := run_lc (u := u) (ds := ds) hc hl l (j + 1) (acc ++ [cs[i]]) (by rw [List.length_append, List.length_singleton]; omega)
    refine ⟨r, j', by rw [h1, List.length_append, List.length_singleton, List.length_cons]; omega, ?_⟩
    have hs : (acc.map fun c => tS [c]).length < sizeLine := by rw [List.length_map, sizeLine_val]; omega
    have e1 : eIxN 1 (eCall fTake [some 0, none] (aMv 0 (aCons (ofP (pCall dLen (paCons (pV 1) ((fun _ => some []))))) (aNil)))) [some (hand ds j), some (tS cs), some u, some (.sh d)] = some (tS [cs[i]], [some (hand ds (j + 1)), some (tS cs), some u, some (.sh d)]) := by
      unfold eIxN
      simp only [List.getElem?_cons_zero, List.getElem?_cons_succ, e, Option.bind_some, fz_sh, List.set_cons_zero, hk, isSh, if_true]
    rw [lc_step (S1 := [some (hand ds j), some (tS cs), some u, some (.sh d)]) rfl rfl e1 hs, ← h2, List.map_append]
    rfl
theorem run_eq {cs : List Nat} {ds : List Int} {j most : Nat} (hc : 0 < cs.length) (hl : cs.length ≤ 10000000) (h0 : 0 < most) (hm : most ≤ 1000000) :
    ∃ (r : List Nat) (j' : Nat), 0 < r.length ∧ r.length ≤ most ∧ fRun [hand ds j, tS cs, tI most] = some (tS r, [some (hand ds j'), some (tS cs), some (tI most)]) := by
  obtain ⟨i, hi, e⟩ := take_c2 (S := [some (hand ds j), some (tS cs), some (tI most), none]) (s := 0) (s2 := 2) (j := j) (m := most) (ds := ds) rfl rfl (by decide) h0
  obtain ⟨r, j', h1, h2⟩ := run_lc (u := tI most) (ds := ds) hc hl (rngD 0 (1 + i)) (j + 1) [] (by unfold rngD; rw [List.length_map, List.length_range]; simp; omega)
  have hr : r.length = 1 + i := by
    rw [h1]
    unfold rngD
    rw [List.length_map, List.length_range]
    simp
  refine ⟨r, j', by omega, by omega, ?_⟩
  have e1 : (e2 dAdd (ofP (pC (.int 1))) (eCall fTake [some 0, some 2] (aMv 0 (aMv 2 (aNil))))) [some (hand ds j), some (tS cs), some (tI most), none] = some (tI (1 + i), [some (hand ds (j + 1)), some (tS cs), some (tI most), none]) := by
    unfold e2
    rw [show ofP (pC (.int 1)) [some (hand ds j), some (tS cs), some (tI most), none] = some (tI 1, [some (hand ds j), some (tS cs), some (tI most), none]) from rfl, Option.bind_some, e]
    rfl
  have e2 : iRng1E (e2 dAdd (ofP (pC (.int 1))) (eCall fTake [some 0, some 2] (aMv 0 (aMv 2 (aNil))))) [some (hand ds j), some (tS cs), some (tI most), none] = some (rngD 0 (1 + i), [some (hand ds (j + 1)), some (tS cs), some (tI most), none]) := by
    unfold iRng1E
    rw [e1, Option.bind_some]
    exact (if_pos (near_nat (by omega))).trans (by rw [Int.toNat_natCast])
  have e4 := flat_one r
  have e3 := joinD_flat (ls := r.map fun c => [c]) (by rw [e4]; omega)
  rw [e4, List.map_map] at e3
  have e5 : (eLc (iRng1E (VS.e2 dAdd (ofP (pC (.int 1))) (eCall fTake [some 0, some 2] (aMv 0 (aMv 2 (aNil)))))) (putS 3) (qYes) (eIxN 1 (eCall fTake [some 0, none] (aMv 0 (aCons (ofP (pCall dLen (paCons (pV 1) ((fun _ => some []))))) (aNil))))) [3]) [some (hand ds j), some (tS cs), some (tI most), none] = some (.lst (r.map fun c => tS [c]), [some (hand ds j'), some (tS cs), some (tI most), none]) := by
    unfold eLc
    rw [e2, Option.bind_some]
    show (lcGo _ _ _ _ _ [some (hand ds (j + 1)), some (tS cs), some (tI most), none] []).bind _ = _
    rw [show ([] : List T) = [].map fun c => tS [c] from rfl, h2, Option.bind_some]
  show (fRunB [some (hand ds j), some (tS cs), some (tI most), none]).bind _ = _
  unfold fRunB sRet e2M
  rw [show ofP (pC (.str "")) [some (hand ds j), some (tS cs), some (tI most), none] = some (tS [], [some (hand ds j), some (tS cs), some (tI most), none]) by rw [sEMP0]; rfl, Option.bind_some, e5, Option.bind_some, fz_lst, List.map_map]
  rw [show (fz ∘ fun c => tS [c]) = ((fun l => D.str (tx l)) ∘ fun c => [c]) from rfl]
  show ((sD (joinD (.str (tx [])) _) _).bind _).bind _ = _
  rw [e3]
  rfl
end VS
namespace VS
open PySem PySem.Spec PyProof.Rows L2
/-! ### reckoning step by step -/
theorem eCall_of {f : Fn} {ms : List (Option Nat)} {ma : MA} {S S1 : Sto} {ts : List T} {r : T} {ts' : List (Option T)} (h1 : ma S = some (ts, S1)) (h2 : f ts = some (r, ts')) (h3 : ts'.length = ms.length) : eCall f ms ma S = some (r, putB ms ts' S1) := by
  unfold eCall
  rw [h1, Option.bind_some]
  simp only [h2, Option.bind_some]
  rw [if_pos h3]
theorem e2_of {g : D → D → Option D} {ma mb : ME} {S S1 S2 : Sto} {t u : T} {d : D} (h1 : ma S = some (t, S1)) (h2 : mb S1 = some (u, S2)) (h3 : g (fz t) (fz u) = some d) (h4 : sc d = true) : e2 g ma mb S = some (.sh d, S2) := by
  unfold e2
  rw [h1, Option.bind_some]
  simp only [h2, Option.bind_some, h3]
  unfold sD
  rw [Option.bind_some, if_pos h4]
theorem e2M_of {g : D → D → Option D} {ma mb : ME} {S S1 S2 : Sto} {t u : T} {d : D} (h1 : ma S = some (t, S1)) (h2 : mb S1 = some (u, S2)) (h3 : g (fz t) (fz u) = some d) (h4 : sc d = true) : e2M g ma mb S = some (.sh d, S2) := by
  unfold e2M
  rw [h1, Option.bind_some]
  simp only [h2, Option.bind_some, h3]
  unfold sD
  rw [Option.bind_some, if_pos h4]
theorem e2T_of {g : T → T → Option T} {ma mb : ME} {S S1 S2 : Sto} {t u v : T} (h1 : ma S = some (t, S1)) (h2 : mb S1 = some (u, S2)) (h3 : g t u = some v) : e2T g ma mb S = some (v, S2) := by
  unfold e2T
  rw [h1, Option.bind_some]
  simp only [h2, Option.bind_some, h3]
theorem aCons_of {m : ME} {r : MA} {S S1 S2 : Sto} {t : T} {ts : List T} (h1 : m S = some (t, S1)) (h2 : r S1 = some (ts, S2)) : aCons m r S = some (t :: ts, S2) := by
  unfold aCons
  rw [h1, Option.bind_some]
  simp only [h2, Option.bind_some]
theorem aMv_of {i : Nat} {r : MA} {S S2 : Sto} {u t : T} {ts : List T} (h0 : S[i]? = some (some u)) (h1 : r S = some (ts, S2)) (h2 : S2[i]? = some (some t)) : aMv i r S = some (t :: ts, S2.set i none) := by
  unfold aMv
  simp only [h0, h1, Option.bind_some, h2]
theorem eFz_of {m : ME} {S S1 : Sto} {t : T} (h : m S = some (t, S1)) : eFz m S = some (.sh (fz t), S1) := by
  unfold eFz
  rw [h]
  rfl
theorem eLst_of {ma : MA} {S S1 : Sto} {ts : List T} (h : ma S = some (ts, S1)) (hl : ts.length ≤ 1000) : eLst ma S = some (.lst ts, S1) := by
  unfold eLst
  rw [h, Option.bind_some, if_pos hl]
theorem qB_of {m : ME} {S S1 : Sto} {b : Bool} (h : m S = some (.sh (.bl b), S1)) : qB m S = some (b, S1) := by
  unfold qB
  rw [h]
  rfl
theorem qNot_of {p : MT} {S S1 : Sto} {b : Bool} (h : p S = some (b, S1)) : qNot p S = some (!b, S1) := by
  unfold qNot
  rw [h]
  rfl
theorem sq_yes {q : MT} {m r : MS} {S S1 S' : Sto} {t : T} (h : q S = some (true, S1)) (h2 : m S1 = some (.rt t S')) : sSeq (sIf q m sNext) r S = some (.rt t S') := sSeq_rt (by rw [sIf_t h, h2])
theorem sq_no {q : MT} {m r : MS} {S S1 : Sto} (h : q S = some (false, S1)) : sSeq (sIf q m sNext) r S = r S1 := by
  rw [sSeq_nx (S1 := S1)]
  rw [sIf_f h]
  rfl
theorem sRet_of {me : ME} {S S' : Sto} {t : T} (h : me S = some (t, S')) : sRet me S = some (.rt t S') := by
  unfold sRet
  rw [h]
  rfl
theorem eIx_of {ma mb : ME} {S S1 S2 : Sto} {t u : T} {i : Int} {d : D} (h1 : ma S = some (t, S1)) (h2 : mb S1 = some (u, S2)) (h3 : fz u = .int i) (h4 : kid t i = some (.sh d)) : eIx ma mb S = some (.sh d, S2) := by
  unfold eIx
  rw [h1, Option.bind_some]
  simp only [h2, Option.bind_some, h3, h4]
  rfl
theorem eIxN_of {j : Nat} {mb : ME} {S S2 : Sto} {t0 t u : T} {i : Int} {d : D} (h0 : S[j]? = some (some t0)) (h2 : mb S = some (u, S2)) (h1 : S2[j]? = some (some t)) (h3 : fz u = .int i) (h4 : kid t i = some (.sh d)) : eIxN j mb S = some (.sh d, S2) := by
  unfold eIxN
  simp only [h0, h2, Option.bind_some, h1, h3, h4]
  rfl
theorem mForE_of {me : ME} {g : T → Sto → Option Sto} {b : MS} {S S1 : Sto} {t : T} {ds : List D} (h : me S = some (t, S1)) (h2 : fz t = .lst ds) : mFor (iList' me) g b S = loopF g b ds S1 := by
  refine mFor_of ?_
  unfold iList'
  rw [h, Option.bind_some]
  simp only [h2]
theorem iRng1E_of {m : ME} {S S1 : Sto} {n : Nat} (h : m S = some (tI n, S1)) (hn : n ≤ 1000000) : iRng1E m S = some (rngD 0 n, S1) := by
  unfold iRng1E
  rw [h, Option.bind_some]
  exact (if_pos (near_nat hn)).trans (by rw [Int.toNat_natCast])
theorem eVar_of {i : Nat} {S : Sto} {t : T} (h : S[i]? = some (some t)) : eVar i S = some (.sh (fz t), S.set i (some (.sh (fz t)))) := by
  unfold eVar
  rw [h]
  cases t with
  | sh d => rw [fz_sh, set_at h]
  | _ => rfl
theorem kid_lst {ts : List T} {i : Nat} {t : T} (h : ts[i]? = some t) : kid (.lst ts) (i : Nat) = some t := by
  show L2.atI ts _ = _
  rw [atI_pos, h]
end VS
namespace K00
open PySem PySem.Spec PyProof.Rows L2 VS
def topS (i : Nat) : Stmt := PySem.Challenge.pw_swornon_k00_words_of_a_row.main.body.getD i (.Pass ⟨0, 0, 0, 0⟩)
abbrev st_behind_run : Stmt := topS 7
abbrev st_sign_at : Stmt := topS 8
abbrev st_behind_word : Stmt := topS 9
abbrev st_split_row : Stmt := topS 10
abbrev st_is_name : Stmt := topS 11
abbrev st_is_number : Stmt := topS 12
abbrev st_f_law_draws : Stmt := topS 14
abbrev st_f_law_take : Stmt := topS 15
abbrev st_f_law_letters : Stmt := topS 16
abbrev st_f_law_reserved : Stmt := topS 17
abbrev st_f_law_is_name : Stmt := topS 18
abbrev st_f_law_is_number : Stmt := topS 19
abbrev st_f_law_run_of : Stmt := topS 20
abbrev st_f_law_piece : Stmt := topS 21
abbrev st_f_law_end_of : Stmt := topS 22
abbrev st_f_law_words : Stmt := topS 23
abbrev st_f_law_is_right : Stmt := topS 24
abbrev st_law : Stmt := topS 25
/-! ### the defs as functions -/
def b_behind_run : MS := sSeq (sAsg (eVar 1) (putS 3)) (sSeq (mWhile (ofB (bAnd (pB (p2 dLt (pV 3) (pCall dLen (paCons (pV 0) ((fun _ => some [])))))) (pB (p2 dIn (p2 dIx (pV 0) (pV 3)) (pV 2))))) (sAug dAddI 3 (ofP (pC (.int 1)))) fuel) (sRet (eMov 3)))
def behind_run : Fn := mkFn 3 4 [] b_behind_run
def b_sign_at : MS := sSeq (mFor (iTup' (eC (.tup [.str "<=", .str ">=", .str "==", .str "!=", .str "<", .str ">", .str "=", .str "+", .str "-", .str "(", .str ")", .str "[", .str "]", .str ",", .str ":"]))) (putS 2) (sIf (ofB (pB (p2 dEq (pSlS (pV 0) (oPart (some (pV 1))) (oPart (some (p2 dAdd (pV 1) (pCall dLen (paCons (pV 2) ((fun _ => some [])))))))) (pV 2)))) (sRet (eMov 2)) (sNext))) (sRet (ofP (pC (.str ""))))
def sign_at : Fn := mkFn 2 3 [] b_sign_at
def b_behind_word : MS := sSeq (sIf (ofB (pB (p2 dIn (p2 dIx (pV 0) (pV 1)) (pC (.str "abcdefghijklmnopqrstuvwxyz"))))) (sRet (eCall behind_run [some 0, some 1, none] (aMv 0 (aMv 1 (aCons (ofP (pC (.str "abcdefghijklmnopqrstuvwxyz"))) (aNil)))))) (sNext)) (sSeq (sIf (ofB (pB (p2 dIn (p2 dIx (pV 0) (pV 1)) (pC (.str "0123456789"))))) (sRet (eCall behind_run [some 0, some 1, none] (aMv 0 (aMv 1 (aCons (ofP (pC (.str "0123456789"))) (aNil)))))) (sNext)) (sRet (e2 dAdd (eVar 1) (eC1 dLen (eCall sign_at [some 0, some 1] (aMv 0 (aMv 1 (aNil))))))))
def behind_word : Fn := mkFn 2 2 [] b_behind_word
def b_split_row : MS := sSeq (sAsg (eLst (aNil)) (putS 1)) (sSeq (sAsg (eCall behind_run [some 0, none, none] (aMv 0 (aCons (ofP (pC (.int 0))) (aCons (ofP (pC (.str " "))) (aNil))))) (putS 2)) (sSeq (mWhile (ofB (pB (p2 dLt (pV 2) (pCall dLen (paCons (pV 0) ((fun _ => some []))))))) (sSeq (sAsg (eCall behind_word [some 0, some 2] (aMv 0 (aMv 2 (aNil)))) (putS 3)) (sSeq (sIf (ofB (pB (p2 dEq (pV 3) (pV 2)))) (sRet (ofP (pC .non))) (sNext)) (sSeq (sApp 1 (ofP (pSlS (pV 0) (oPart (some (pV 2))) (oPart (some (pV 3)))))) (sAsg (eCall behind_run [some 0, some 3, none] (aMv 0 (aMv 3 (aCons (ofP (pC (.str " "))) (aNil))))) (putS 2))))) fuel) (sRet (eMov 1))))
def split_row : Fn := mkFn 1 4 [] b_split_row
def b_is_name : MS := sSeq (sIf (ofB (bOr (pB (p2 dIn (pV 0) (pC (.tup [.str "proc", .str "list", .str "needs", .str "gives", .str "keeps", .str "falls", .str "from", .str "to", .str "let", .str "while", .str "if", .str "else", .str "end", .str "choose", .str "check", .str "call", .str "swap", .str "return", .str "skip", .str "and", .str "or", .str "not", .str "all", .str "sorted", .str "below", .str "either", .str "len", .str "old", .str "moves", .str "result"])))) (bNot (pB (pChain dLe dLe (pC (.int 1)) (pCall dLen (paCons (pV 0) ((fun _ => some [])))) (pC (.int 12))))))) (sRet (ofP (pC (.bl false)))) (sNext)) (sRet (e2 dEq (eCall behind_run [some 0, none, none] (aMv 0 (aCons (ofP (pC (.int 0))) (aCons (ofP (pC (.str "abcdefghijklmnopqrstuvwxyz"))) (aNil))))) (ofP (pCall dLen (paCons (pV 0) ((fun _ => some [])))))))
def is_name : Fn := mkFn 1 1 [] b_is_name
def b_is_number : MS := sSeq (sIf (ofB (bOr (bNot (pB (pChain dLe dLe (pC (.int 1)) (pCall dLen (paCons (pV 0) ((fun _ => some [])))) (pC (.int 10))))) (bAnd (pB (p2 dEq (p2 dIx (pV 0) (pC (.int 0))) (pC (.str "0")))) (pB (p2 dNe (pV 0) (pC (.str "0"))))))) (sRet (ofP (pC (.bl false)))) (sNext)) (sRet (e2 dEq (eCall behind_run [some 0, none, none] (aMv 0 (aCons (ofP (pC (.int 0))) (aCons (ofP (pC (.str "0123456789"))) (aNil))))) (ofP (pCall dLen (paCons (pV 0) ((fun _ => some [])))))))
def is_number : Fn := mkFn 1 1 [] b_is_number
def b_f_law_draws : MS := sSeq (sAsg (eLc (iList' (eVar 0)) (putS 2) (qYes) (ofP (pCall dAbs (paCons (pCall dInt (paCons (pV 2) ((fun _ => some [])))) ((fun _ => some []))))) [2]) (putS 3)) (sSeq (sAsg (eLst (aNil)) (putS 4)) (sSeq (mFor (iRng1' (paCons (pV 1) ((fun _ => some [])))) (putS 5) (sSeq (sAsg (eVar 5) (putS 2)) (sSeq (sIf (ofB (pB (p2 dGt (pCall dLen (paCons (pV 0) ((fun _ => some [])))) (pC (.int 0))))) (sSeq (sAsg (ofP (p2 dMod (pV 5) (pCall dLen (paCons (pV 0) ((fun _ => some [])))))) (putS 6)) (sSeq (sAsg (ofP (pCall dInt (paCons (p2 dIx (pV 0) (pV 6)) ((fun _ => some []))))) (putS 2)) (sIf (ofB (bAnd (pB (p2 dGe (pV 2) (p2 dPow (pC (.int 10)) (pC (.int 18))))) (pB (p2 dGt (p2 dIx (pV 3) (pV 6)) (pC (.int 0)))))) (sSeq (sApp 4 (ofP (p2 dMod (pCall dInt (paCons (p2 dIx (pV 3) (pV 6)) ((fun _ => some [])))) (pC (.int 1000003))))) (sSeq (sSetI 3 (ofP (p2 dDiv (pCall dInt (paCons (p2 dIx (pV 3) (pV 6)) ((fun _ => some [])))) (pC (.int 1000003)))) (eVar 6)) (sCont))) (sNext)))) (sNext)) (sSeq (sAsg (ofP (p2 dMod (pCall dInt (paCons (p2 dAdd (p2 dAdd (p2 dMul (pV 2) (pC (.int 48271))) (p2 dMul (pV 5) (pC (.int 69621)))) (pC (.int 11))) ((fun _ => some [])))) (pC (.int 2147483647)))) (putS 7)) (sSeq (sAsg (ofP (p2 dMod (pCall dInt (paCons (p2 dAdd (p2 dDiv (p2 dMul (pV 7) (pV 7)) (pC (.int 4096))) (pV 7)) ((fun _ => some [])))) (pC (.int 2147483629)))) (putS 7)) (sApp 4 (ofP (p2 dMod (pCall dInt (paCons (p2 dAdd (p2 dDiv (p2 dMul (pV 7) (pV 7)) (pC (.int 4096))) (p2 dMul (pV 5) (pC (.int 7919)))) ((fun _ => some [])))) (pC (.int 2147483629)))))))))) (sRet (eMov 4))))
def f_law_draws : Fn := mkFn 2 8 [] b_f_law_draws
def b_f_law_take : MS := sSeq (sAsg (eIxN 0 (ofP (pC (.int 1)))) (putS 2)) (sSeq (sSetI 0 (ofP (p2 dAdd (pV 2) (pC (.int 1)))) (ofP (pC (.int 1)))) (sSeq (sAsg (eIxN 0 (ofP (pC (.int 0)))) (putS 3)) (sSeq (sIf (ofB (pB (p2 dGe (pV 2) (pCall dLen (paCons (pV 3) ((fun _ => some []))))))) (sRet (ofP (pC (.int 0)))) (sNext)) (sRet (ofP (p2 dMod (p2 dDiv (pCall dInt (paCons (p2 dIx (pV 3) (pV 2)) ((fun _ => some [])))) (pC (.int 7))) (pV 1)))))))
def f_law_take : Fn := mkFn 2 4 [] b_f_law_take
def b_f_law_letters : MS := sRet (ofP (pC (.str "abcdefghijklmnopqrstuvwxyz")))
def f_law_letters : Fn := mkFn 0 0 [] b_f_law_letters
def b_f_law_reserved : MS := sSeq (sAsg (eLst (aCons (ofP (pC (.str "proc"))) (aCons (ofP (pC (.str "list"))) (aCons (ofP (pC (.str "needs"))) (aCons (ofP (pC (.str "gives"))) (aCons (ofP (pC (.str "keeps"))) (aCons (ofP (pC (.str "falls"))) (aCons (ofP (pC (.str "from"))) (aCons (ofP (pC (.str "to"))) (aCons (ofP (pC (.str "let"))) (aCons (ofP (pC (.str "while"))) (aCons (ofP (pC (.str "if"))) (aCons (ofP (pC (.str "else"))) (aCons (ofP (pC (.str "end"))) (aNil))))))))))))))) (putS 0)) (sSeq (sAsg (e2T addT (eVar 0) (eLst (aCons (ofP (pC (.str "choose"))) (aCons (ofP (pC (.str "check"))) (aCons (ofP (pC (.str "call"))) (aCons (ofP (pC (.str "swap"))) (aCons (ofP (pC (.str "return"))) (aCons (ofP (pC (.str "skip"))) (aCons (ofP (pC (.str "or"))) (aCons (ofP (pC (.str "and"))) (aCons (ofP (pC (.str "not"))) (aCons (ofP (pC (.str "all"))) (aCons (ofP (pC (.str "sorted"))) (aCons (ofP (pC (.str "below"))) (aNil))))))))))))))) (putS 0)) (sRet (e2T addT (eVar 0) (eLst (aCons (ofP (pC (.str "either"))) (aCons (ofP (pC (.str "len"))) (aCons (ofP (pC (.str "old"))) (aCons (ofP (pC (.str "moves"))) (aCons (ofP (pC (.str "result"))) (aNil))))))))))
def f_law_reserved : Fn := mkFn 0 1 [] b_f_law_reserved
def b_f_law_is_name : MS := sSeq (sIf (qOr (ofB (pB (p2 dLt (pCall dLen (paCons (pV 0) ((fun _ => some [])))) (pC (.int 1))))) (qOr (ofB (pB (p2 dGt (pCall dLen (paCons (pV 0) ((fun _ => some [])))) (pC (.int 12))))) (qB (e2 dIn (eVar 0) (eCall f_law_reserved [] aNil))))) (sRet (ofP (pC (.bl false)))) (sNext)) (sSeq (mFor (iStr' (pV 0)) (putS 1) (sIf (qB (e2 dNotIn (eVar 1) (eCall f_law_letters [] aNil))) (sRet (ofP (pC (.bl false)))) (sNext))) (sRet (ofP (pC (.bl true)))))
def f_law_is_name : Fn := mkFn 1 2 [] b_f_law_is_name
def b_f_law_is_number : MS := sSeq (sIf (ofB (bOr (pB (p2 dLt (pCall dLen (paCons (pV 0) ((fun _ => some [])))) (pC (.int 1)))) (bOr (pB (p2 dGt (pCall dLen (paCons (pV 0) ((fun _ => some [])))) (pC (.int 10)))) (bAnd (pB (p2 dGt (pCall dLen (paCons (pV 0) ((fun _ => some [])))) (pC (.int 1)))) (pB (p2 dEq (p2 dIx (pV 0) (pC (.int 0))) (pC (.str "0")))))))) (sRet (ofP (pC (.bl false)))) (sNext)) (sSeq (mFor (iStr' (pV 0)) (putS 1) (sIf (ofB (pB (p2 dNotIn (pV 1) (pC (.str "0123456789"))))) (sRet (ofP (pC (.bl false)))) (sNext))) (sRet (ofP (pC (.bl true)))))
def f_law_is_number : Fn := mkFn 1 2 [] b_f_law_is_number
def b_f_law_run_of : MS := sRet (e2M joinD (ofP (pC (.str ""))) (eLc (iRng1E (e2 dAdd (ofP (pC (.int 1))) (eCall f_law_take [some 0, some 2] (aMv 0 (aMv 2 (aNil)))))) (putS 3) (qYes) (eIxN 1 (eCall f_law_take [some 0, none] (aMv 0 (aCons (ofP (pCall dLen (paCons (pV 1) ((fun _ => some []))))) (aNil))))) [3]))
def f_law_run_of : Fn := mkFn 3 4 [] b_f_law_run_of
def b_f_law_piece : MS := sSeq (sAsg (eLst (aCons (ofP (pC (.str "<="))) (aCons (ofP (pC (.str ">="))) (aCons (ofP (pC (.str "=="))) (aCons (ofP (pC (.str "!="))) (aCons (ofP (pC (.str "<"))) (aCons (ofP (pC (.str ">"))) (aCons (ofP (pC (.str "="))) (aCons (ofP (pC (.str "+"))) (aCons (ofP (pC (.str "-"))) (aCons (ofP (pC (.str "("))) (aCons (ofP (pC (.str ")"))) (aCons (ofP (pC (.str "["))) (aCons (ofP (pC (.str "]"))) (aCons (ofP (pC (.str ","))) (aCons (ofP (pC (.str ":"))) (aNil))))))))))))))))) (putS 1)) (sSeq (sAsg (ofP (pC (.str "ABCDEFGHIJKLMNOPQRSTUVWXYZ!\"#$&'*./;?@\\^_`{|}~\n\t"))) (putS 2)) (sSeq (sAsg (eCall f_law_take [some 0, none] (aMv 0 (aCons (ofP (pC (.int 12))) (aNil)))) (putS 3)) (sSeq (sIf (ofB (pB (p2 dEq (pV 3) (pC (.int 0))))) (sRet (e2 dMul (ofP (pC (.str " "))) (e2 dAdd (ofP (pC (.int 1))) (eCall f_law_take [some 0, none] (aMv 0 (aCons (ofP (pC (.int 3))) (aNil))))))) (sNext)) (sSeq (sIf (ofB (pB (p2 dEq (pV 3) (pC (.int 1))))) (sRet (eIx (eCall f_law_reserved [] aNil) (eCall f_law_take [some 0, none] (aMv 0 (aCons (ofP (pC (.int 30))) (aNil)))))) (sNext)) (sSeq (sIf (ofB (pB (p2 dEq (pV 3) (pC (.int 2))))) (sRet (eCall f_law_run_of [some 0, none, none] (aMv 0 (aCons (eCall f_law_letters [] aNil) (aCons (ofP (pC (.int 14))) (aNil)))))) (sNext)) (sSeq (sIf (ofB (pB (p2 dEq (pV 3) (pC (.int 3))))) (sRet (eCall f_law_run_of [some 0, none, none] (aMv 0 (aCons (ofP (pC (.str "0123456789"))) (aCons (ofP (pC (.int 12))) (aNil)))))) (sNext)) (sSeq (sIf (ofB (pB (p2 dLt (pV 3) (pC (.int 6))))) (sRet (eIxN 1 (eCall f_law_take [some 0, none] (aMv 0 (aCons (ofP (pC (.int 15))) (aNil)))))) (sNext)) (sSeq (sIf (ofB (pB (p2 dEq (pV 3) (pC (.int 6))))) (sRet (eIxN 2 (eCall f_law_take [some 0, none] (aMv 0 (aCons (ofP (pCall dLen (paCons (pV 2) ((fun _ => some []))))) (aNil)))))) (sNext)) (sRet (eCall f_law_run_of [some 0, none, none] (aMv 0 (aCons (e2 dAdd (eCall f_law_letters [] aNil) (ofP (pC (.str "0123456789 <>=+-()[],:")))) (aCons (ofP (pC (.int 2))) (aNil))))))))))))))
def f_law_piece : Fn := mkFn 1 4 [] b_f_law_piece
def b_f_law_end_of : MS := sSeq (mFor (iRng2' (paCons (pV 1) (paCons (pCall dLen (paCons (pV 0) ((fun _ => some [])))) ((fun _ => some []))))) (putS 3) (sIf (ofB (pB (p2 dNotIn (p2 dIx (pV 0) (pV 3)) (pV 2)))) (sRet (eMov 3)) (sNext))) (sRet (ofP (pCall dLen (paCons (pV 0) ((fun _ => some []))))))
def f_law_end_of : Fn := mkFn 3 4 [] b_f_law_end_of
def b_f_law_words : MS := sSeq (sAsg (eLst (aNil)) (putS 1)) (sSeq (sAsg (ofP (pC (.int 0))) (putS 2)) (sSeq (mFor (iRng1' (paCons (pCall dLen (paCons (pV 0) ((fun _ => some [])))) ((fun _ => some [])))) (putS 3) (sSeq (sIf (ofB (pB (p2 dGe (pV 2) (pCall dLen (paCons (pV 0) ((fun _ => some []))))))) (sBreak) (sNext)) (sSeq (sAsg (ofP (p2 dAdd (pV 2) (pC (.int 1)))) (putS 4)) (sSeq (sIf (qB (e2 dIn (eIxN 0 (eVar 2)) (eCall f_law_letters [] aNil))) (sAsg (eCall f_law_end_of [some 0, some 2, none] (aMv 0 (aMv 2 (aCons (eCall f_law_letters [] aNil) (aNil))))) (putS 4)) (sIf (ofB (pB (p2 dIn (p2 dIx (pV 0) (pV 2)) (pC (.str "0123456789"))))) (sAsg (eCall f_law_end_of [some 0, some 2, none] (aMv 0 (aMv 2 (aCons (ofP (pC (.str "0123456789"))) (aNil))))) (putS 4)) (sIf (qB (e2 dIn (ofP (pSlS (pV 0) (oPart (some (pV 2))) (oPart (some (p2 dAdd (pV 2) (pC (.int 2))))))) (eLst (aCons (ofP (pC (.str "<="))) (aCons (ofP (pC (.str ">="))) (aCons (ofP (pC (.str "=="))) (aCons (ofP (pC (.str "!="))) (aNil)))))))) (sAsg (ofP (p2 dAdd (pV 2) (pC (.int 2)))) (putS 4)) (sIf (ofB (pB (p2 dNotIn (p2 dIx (pV 0) (pV 2)) (pC (.str "<>=+-()[],: "))))) (sRet (ofP (pC .non))) (sNext))))) (sSeq (sIf (ofB (pB (p2 dNe (p2 dIx (pV 0) (pV 2)) (pC (.str " "))))) (sApp 1 (ofP (pSlS (pV 0) (oPart (some (pV 2))) (oPart (some (pV 4)))))) (sNext)) (sAsg (eVar 4) (putS 2))))))) (sRet (eMov 1))))
def f_law_words : Fn := mkFn 1 5 [] b_f_law_words
def b_f_law_is_right : MS := sSeq (sIf (ofB (pB (p2 dIsN (pV 1) (pC .non)))) (sRet (ofP (p2 dIsN (pV 0) (pC .non)))) (sNext)) (sSeq (sIf (ofB (bOr (bNot (pB (p1 (dIsi "list") (pV 0)))) (pB (p2 dNe (pCall dLen (paCons (pV 0) ((fun _ => some [])))) (pCall dLen (paCons (pV 1) ((fun _ => some [])))))))) (sRet (ofP (pC (.bl false)))) (sNext)) (sSeq (mFor (iRng1' (paCons (pCall dLen (paCons (pV 1) ((fun _ => some [])))) ((fun _ => some [])))) (putS 2) (sIf (ofB (bOr (bNot (pB (p1 (dIsi "str") (p2 dIx (pV 0) (pV 2))))) (pB (p2 dNe (p2 dIx (pV 0) (pV 2)) (p2 dIx (pV 1) (pV 2)))))) (sRet (ofP (pC (.bl false)))) (sNext))) (sRet (ofP (pC (.bl true))))))
def f_law_is_right : Fn := mkFn 2 3 [] b_f_law_is_right
def b_law : MS := sSeq (sAsg (eLst (aCons (eFz (eCall f_law_draws [some 0, none] (aMv 0 (aCons (ofP (pC (.int 400))) (aNil))))) (aCons (ofP (pC (.int 0))) (aNil)))) (putS 1)) (sSeq (sAsg (eLst (aNil)) (putS 2)) (sSeq (mFor (iRng1E (eCall f_law_take [some 1, none] (aMv 1 (aCons (ofP (pC (.int 16))) (aNil))))) (putS 3) (sApp 2 (eCall f_law_piece [some 1] (aMv 1 (aNil))))) (sSeq (sAsg (e2M joinD (ofP (pC (.str ""))) (eVar 2)) (putS 4)) (sSeq (sAsg (eCall f_law_words [some 4] (aMv 4 (aNil))) (putS 5)) (sSeq (sAsg (eCall split_row [some 4] (aMv 4 (aNil))) (putS 6)) (sSeq (sIf (qNot (qB (eCall f_law_is_right [some 6, some 5] (aMv 6 (aMv 5 (aNil)))))) (sRet (ofP (pC (.bl false)))) (sNext)) (sSeq (sAsg (eLst (aCons (eVar 4) (aCons (ofP (pC (.str ""))) (aCons (eIx (eCall f_law_reserved [] aNil) (eCall f_law_take [some 1, none] (aMv 1 (aCons (ofP (pC (.int 30))) (aNil))))) (aCons (eFz (eCall f_law_piece [some 1] (aMv 1 (aNil)))) (aCons (e2T addT (eCall f_law_piece [some 1] (aMv 1 (aNil))) (eCall f_law_piece [some 1] (aMv 1 (aNil)))) (aNil))))))) (putS 7)) (sSeq (sApp 7 (eIx (eLst (aCons (ofP (pC (.str "0"))) (aCons (ofP (pC (.str "00"))) (aCons (ofP (pC (.str "01"))) (aCons (ofP (pC (.str "1234567890"))) (aCons (ofP (pC (.str "12345678901"))) (aCons (ofP (pC (.str "abcdefghijkl"))) (aCons (ofP (pC (.str "abcdefghijklm"))) (aNil))))))))) (eCall f_law_take [some 1, none] (aMv 1 (aCons (ofP (pC (.int 7))) (aNil)))))) (sSeq (sIf (ofB (pB (p2 dIsNotN (pV 5) (pC .non)))) (sSeq (sApp 6 (ofP (pC (.str "x")))) (sAsg (e2T addT (eVar 7) (eVar 5)) (putS 7))) (sNext)) (sSeq (mFor (iList' (eLst (aCons (eVar 4) (aCons (e2 dAdd (e2 dAdd (e2 dMul (ofP (pC (.str " "))) (eCall f_law_take [some 1, none] (aMv 1 (aCons (ofP (pC (.int 9))) (aNil))))) (eVar 4)) (ofP (pC (.str "  ")))) (aNil))))) (putS 8) (sIf (qNot (qB (eCall f_law_is_right [none, some 5] (aCons (eCall split_row [some 8] (aMv 8 (aNil))) (aMv 5 (aNil)))))) (sRet (ofP (pC (.bl false)))) (sNext))) (sSeq (mFor (iList' (eVar 7)) (putS 9) (sSeq (sAsg (eLst (aCons (eFz (eCall is_name [some 9] (aMv 9 (aNil)))) (aCons (eFz (eCall is_number [some 9] (aMv 9 (aNil)))) (aNil)))) (putS 10)) (sSeq (sIf (ofB (bOr (bNot (pB (p1 (dIsi "bool") (p2 dIx (pV 10) (pC (.int 0)))))) (bNot (pB (p1 (dIsi "bool") (p2 dIx (pV 10) (pC (.int 1)))))))) (sRet (ofP (pC (.bl false)))) (sNext)) (sIf (qB (e2 dNe (eVar 10) (eLst (aCons (eFz (eCall f_law_is_name [some 9] (aMv 9 (aNil)))) (aCons (eFz (eCall f_law_is_number [some 9] (aMv 9 (aNil)))) (aNil)))))) (sRet (ofP (pC (.bl false)))) (sNext))))) (sRet (ofP (pC (.bl true)))))))))))))))
def law : Fn := mkFn 1 11 [] b_law
/-! ### what the top has written -/
structure Tx (K : PySem.W.Frag) (mg : Str → Option Value) : Prop where
  n_abs : mg "abs" = none
  n_bool : mg "bool" = none
  n_int : mg "int" = none
  n_isinstance : mg "isinstance" = none
  n_len : mg "len" = none
  n_list : mg "list" = none
  n_range : mg "range" = none
  n_str : mg "str" = none
  c_SIGNS : Cst K mg "SIGNS" (.tup [.str "<=", .str ">=", .str "==", .str "!=", .str "<", .str ">", .str "=", .str "+", .str "-", .str "(", .str ")", .str "[", .str "]", .str ",", .str ":"])
  c_FIGURES : Cst K mg "FIGURES" (.str "0123456789")
  c_LETTERS : Cst K mg "LETTERS" (.str "abcdefghijklmnopqrstuvwxyz")
  c_RESERVED : Cst K mg "RESERVED" (.tup [.str "proc", .str "list", .str "needs", .str "gives", .str "keeps", .str "falls", .str "from", .str "to", .str "let", .str "while", .str "if", .str "else", .str "end", .str "choose", .str "check", .str "call", .str "swap", .str "return", .str "skip", .str "and", .str "or", .str "not", .str "all", .str "sorted", .str "below", .str "either", .str "len", .str "old", .str "moves", .str "result"])
  c_MOST_LETTERS : Cst K mg "MOST_LETTERS" (.int 12)
  c_MOST_FIGURES : Cst K mg "MOST_FIGURES" (.int 10)
  d_behind_run : Def K mg "behind_run" st_behind_run
  d_sign_at : Def K mg "sign_at" st_sign_at
  d_behind_word : Def K mg "behind_word" st_behind_word
  d_split_row : Def K mg "split_row" st_split_row
  d_is_name : Def K mg "is_name" st_is_name
  d_is_number : Def K mg "is_number" st_is_number
  d_f_law_draws : Def K mg "_law_draws" st_f_law_draws
  d_f_law_take : Def K mg "_law_take" st_f_law_take
  d_f_law_letters : Def K mg "_law_letters" st_f_law_letters
  d_f_law_reserved : Def K mg "_law_reserved" st_f_law_reserved
  d_f_law_is_name : Def K mg "_law_is_name" st_f_law_is_name
  d_f_law_is_number : Def K mg "_law_is_number" st_f_law_is_number
  d_f_law_run_of : Def K mg "_law_run_of" st_f_law_run_of
  d_f_law_piece : Def K mg "_law_piece" st_f_law_piece
  d_f_law_end_of : Def K mg "_law_end_of" st_f_law_end_of
  d_f_law_words : Def K mg "_law_words" st_f_law_words
  d_f_law_is_right : Def K mg "_law_is_right" st_f_law_is_right
  d_law : Def K mg "law" st_law
section
variable {P : Program} {w : World} {K : PySem.W.Frag} {mg : Str → Option Value} {base : Heap}
theorem sc_behind_run : FnScope ["text", "start", "signs", "end"] ["text", "start", "signs"] (defScope st_behind_run) := ⟨rfl, rfl, rfl, by decide +kernel, rfl, by decide +kernel, by decide +kernel⟩
theorem good_behind_run (T : Tx K mg) : Good P w K mg base "behind_run" 1 ["text", "start", "signs"] behind_run := by
  obtain ⟨f, fd, F, hm⟩ := T.d_behind_run
  exact Good.mkD (N := ["text", "start", "signs", "end"]) (k := 0) [] F hm (F.bindsN (ps := ["text", "start", "signs"]) fun _ _ _ _ _ _ us hl => match us, hl with | [_, _, _], _ => rfl) sc_behind_run (fun cdv A outer s H E hr =>
    (vss_cons (vs_set 3 sc_behind_run.nd (ve_var 1)) (vss_cons (vs_while PassesOwn.never (vt_p (vb_w (vw_and (vb_cmp od_lt (vp_var 3) (vp_callB od_len T.n_len boot_len (vpa_cons (vp_var 0) vpa_nil))) (vw_and1 (vb_cmp od_in (vp_ix (vp_var 0) (vp_var 3)) (vp_var 2)))))) (vss_one (vs_aug 3 sc_behind_run.nd oa_addI (ve_p vp_int) (hsc0 := addI_sc)))) (vss_one (vs_ret (ve_mov 3)))))) (by decide)
theorem sc_sign_at : FnScope ["text", "start", "sign"] ["text", "start"] (defScope st_sign_at) := ⟨rfl, rfl, rfl, by decide +kernel, rfl, by decide +kernel, by decide +kernel⟩
theorem good_sign_at (T : Tx K mg) : Good P w K mg base "sign_at" 1 ["text", "start"] sign_at := by
  obtain ⟨f, fd, F, hm⟩ := T.d_sign_at
  exact Good.mkD (N := ["text", "start", "sign"]) (k := 0) [] F hm (F.bindsN (ps := ["text", "start"]) fun _ _ _ _ _ _ us hl => match us, hl with | [_, _], _ => rfl) sc_sign_at (fun cdv A outer s H E hr =>
    (vss_cons (vs_for PassesOwn.never rfl (vi_tup (ve_cst T.c_SIGNS)) (vg_name 2 sc_sign_at.nd) (vss_one (vs_if (vt_p (vb_cmp (od_eq hr.units) (vp_slS (vp_var 0) (vo_some (vp_var 1)) (vo_some (vp_op od_add (vp_var 1) (vp_callB od_len T.n_len boot_len (vpa_cons (vp_var 2) vpa_nil))))) (vp_var 2))) (vss_one (vs_ret (ve_mov 2))) vss_nil))) (vss_one (vs_ret (ve_p vp_str))))) (by decide)
theorem sc_behind_word : FnScope ["text", "start"] ["text", "start"] (defScope st_behind_word) := ⟨rfl, rfl, rfl, by decide +kernel, rfl, by decide +kernel, by decide +kernel⟩
theorem good_behind_word (T : Tx K mg) : Good P w K mg base "behind_word" 2 ["text", "start"] behind_word := by
  obtain ⟨f, fd, F, hm⟩ := T.d_behind_word
  have G_sign_at := good_sign_at (P := P) (w := w) (base := base) T
  have G_behind_run := good_behind_run (P := P) (w := w) (base := base) T
  exact Good.mkD (N := ["text", "start"]) (k := 1) [] F hm (F.bindsN (ps := ["text", "start"]) fun _ _ _ _ _ _ us hl => match us, hl with | [_, _], _ => rfl) sc_behind_word (fun cdv A outer s H E hr =>
    (vss_cons (vs_if (vt_p (vb_cmp od_in (vp_ix (vp_var 0) (vp_var 1)) (vp_cst T.c_LETTERS))) (vss_one (vs_ret (ve_call (G_behind_run) (hr.mono (by decide)) (va_mv 0 (va_mv 1 (va_cons (ve_p (vp_cst T.c_LETTERS)) va_nil)))))) vss_nil) (vss_cons (vs_if (vt_p (vb_cmp od_in (vp_ix (vp_var 0) (vp_var 1)) (vp_cst T.c_FIGURES))) (vss_one (vs_ret (ve_call (G_behind_run) (hr.mono (by decide)) (va_mv 0 (va_mv 1 (va_cons (ve_p (vp_cst T.c_FIGURES)) va_nil)))))) vss_nil) (vss_one (vs_ret (ve_op od_add (ve_var 1) (ve_callB1 od_len T.n_len boot_len (ve_call (G_sign_at) (hr.mono (by decide)) (va_mv 0 (va_mv 1 va_nil)))))))))) (by decide)
theorem sc_split_row : FnScope ["text", "words", "start", "end"] ["text"] (defScope st_split_row) := ⟨rfl, rfl, rfl, by decide +kernel, rfl, by decide +kernel, by decide +kernel⟩
theorem good_split_row (T : Tx K mg) : Good P w K mg base "split_row" 3 ["text"] split_row := by
  obtain ⟨f, fd, F, hm⟩ := T.d_split_row
  have G_behind_run := good_behind_run (P := P) (w := w) (base := base) T
  have G_behind_word := good_behind_word (P := P) (w := w) (base := base) T
  exact Good.mkD (N := ["text", "words", "start", "end"]) (k := 2) [] F hm (F.bindsN (ps := ["text"]) fun _ _ _ _ _ _ us hl => match us, hl with | [_], _ => rfl) sc_split_row (fun cdv A outer s H E hr =>
    (vss_cons (vs_set 1 sc_split_row.nd (ve_lst va_nil)) (vss_cons (vs_set 2 sc_split_row.nd (ve_call (G_behind_run) (hr.mono (by decide)) (va_mv 0 (va_cons (ve_p vp_int) (va_cons (ve_p vp_str) va_nil))))) (vss_cons (vs_while PassesOwn.never (vt_p (vb_cmp od_lt (vp_var 2) (vp_callB od_len T.n_len boot_len (vpa_cons (vp_var 0) vpa_nil)))) (vss_cons (vs_set 3 sc_split_row.nd (ve_call (G_behind_word) (hr.mono (by decide)) (va_mv 0 (va_mv 2 va_nil)))) (vss_cons (vs_if (vt_p (vb_cmp (od_eq hr.units) (vp_var 3) (vp_var 2))) (vss_one (vs_ret (ve_p vp_non))) vss_nil) (vss_cons (vs_append 1 (ve_p (vp_slS (vp_var 0) (vo_some (vp_var 2)) (vo_some (vp_var 3))))) (vss_one (vs_set 2 sc_split_row.nd (ve_call (G_behind_run) (hr.mono (by decide)) (va_mv 0 (va_mv 3 (va_cons (ve_p vp_str) va_nil)))))))))) (vss_one (vs_ret (ve_mov 1))))))) (by decide)
theorem sc_is_name : FnScope ["word"] ["word"] (defScope st_is_name) := ⟨rfl, rfl, rfl, by decide +kernel, rfl, by decide +kernel, by decide +kernel⟩
theorem good_is_name (T : Tx K mg) : Good P w K mg base "is_name" 2 ["word"] is_name := by
  obtain ⟨f, fd, F, hm⟩ := T.d_is_name
  have G_behind_run := good_behind_run (P := P) (w := w) (base := base) T
  exact Good.mkD (N := ["word"]) (k := 1) [] F hm (F.bindsN (ps := ["word"]) fun _ _ _ _ _ _ us hl => match us, hl with | [_], _ => rfl) sc_is_name (fun cdv A outer s H E hr =>
    (vss_cons (vs_if (vt_p (vb_w (vw_or (vb_cmp od_in (vp_var 0) (vp_cst T.c_RESERVED)) (vw_or1 (vb_not (vb_chain od_le od_le vp_int (vp_callB od_len T.n_len boot_len (vpa_cons (vp_var 0) vpa_nil)) (vp_cst T.c_MOST_LETTERS))))))) (vss_one (vs_ret (ve_p vp_bl))) vss_nil) (vss_one (vs_ret (ve_cmp (od_eq hr.units) (ve_call (G_behind_run) (hr.mono (by decide)) (va_mv 0 (va_cons (ve_p vp_int) (va_cons (ve_p (vp_cst T.c_LETTERS)) va_nil)))) (ve_p (vp_callB od_len T.n_len boot_len (vpa_cons (vp_var 0) vpa_nil)))))))) (by decide)
theorem sc_is_number : FnScope ["word"] ["word"] (defScope st_is_number) := ⟨rfl, rfl, rfl, by decide +kernel, rfl, by decide +kernel, by decide +kernel⟩
theorem good_is_number (T : Tx K mg) : Good P w K mg base "is_number" 2 ["word"] is_number := by
  obtain ⟨f, fd, F, hm⟩ := T.d_is_number
  have G_behind_run := good_behind_run (P := P) (w := w) (base := base) T
  exact Good.mkD (N := ["word"]) (k := 1) [] F hm (F.bindsN (ps := ["word"]) fun _ _ _ _ _ _ us hl => match us, hl with | [_], _ => rfl) sc_is_number (fun cdv A outer s H E hr =>
    (vss_cons (vs_if (vt_p (vb_w (vw_or (vb_not (vb_chain od_le od_le vp_int (vp_callB od_len T.n_len boot_len (vpa_cons (vp_var 0) vpa_nil)) (vp_cst T.c_MOST_FIGURES))) (vw_or1 (vb_w (vw_and (vb_cmp (od_eq hr.units) (vp_ix (vp_var 0) vp_int) vp_str) (vw_and1 (vb_cmp (od_ne hr.units) (vp_var 0) vp_str)))))))) (vss_one (vs_ret (ve_p vp_bl))) vss_nil) (vss_one (vs_ret (ve_cmp (od_eq hr.units) (ve_call (G_behind_run) (hr.mono (by decide)) (va_mv 0 (va_cons (ve_p vp_int) (va_cons (ve_p (vp_cst T.c_FIGURES)) va_nil)))) (ve_p (vp_callB od_len T.n_len boot_len (vpa_cons (vp_var 0) vpa_nil)))))))) (by decide)
theorem sc_f_law_draws : FnScope ["script", "many", "cell", "rests", "draws", "k", "at", "mixed"] ["script", "many"] (defScope st_f_law_draws) := ⟨rfl, rfl, rfl, by decide +kernel, rfl, by decide +kernel, by decide +kernel⟩
theorem good_f_law_draws (T : Tx K mg) : Good P w K mg base "_law_draws" 1 ["script", "many"] f_law_draws := by
  obtain ⟨f, fd, F, hm⟩ := T.d_f_law_draws
  exact Good.mkD (N := ["script", "many", "cell", "rests", "draws", "k", "at", "mixed"]) (k := 0) [] F hm (F.bindsN (ps := ["script", "many"]) fun _ _ _ _ _ _ us hl => match us, hl with | [_, _], _ => rfl) sc_f_law_draws (fun cdv A outer s H E hr =>
    (vss_cons (vs_setLc 3 [("cell", 2)] rfl sc_f_law_draws.nd (sw_true rfl rfl rfl (by decide +kernel)) (vi_list (ve_var 0)) (blkOk_by (N := ["script", "many", "cell", "rests", "draws", "k", "at", "mixed"]) (sc := defScope st_f_law_draws) (by decide +kernel)) (fun _ _ _ _ _ => (vg_name 2 sc_f_law_draws.nd)) (fun _ _ _ _ _ => vts_nil) (fun _ _ _ _ _ => (ve_p (vp_callB od_abs T.n_abs (by decide +kernel) (vpa_cons (vp_callTy od_int T.n_int (by decide +kernel) (vpa_cons (vp_var 2) vpa_nil)) vpa_nil))))) (vss_cons (vs_set 4 sc_f_law_draws.nd (ve_lst va_nil)) (vss_cons (vs_for PassesOwn.never rfl (vi_range1 T.n_range (vpa_cons (vp_var 1) vpa_nil)) (vg_name 5 sc_f_law_draws.nd) (vss_cons (vs_set 2 sc_f_law_draws.nd (ve_var 5)) (vss_cons (vs_if (vt_p (vb_cmp od_gt (vp_callB od_len T.n_len boot_len (vpa_cons (vp_var 0) vpa_nil)) vp_int)) (vss_cons (vs_set 6 sc_f_law_draws.nd (ve_p (vp_op od_mod (vp_var 5) (vp_callB od_len T.n_len boot_len (vpa_cons (vp_var 0) vpa_nil))))) (vss_cons (vs_set 2 sc_f_law_draws.nd (ve_p (vp_callTy od_int T.n_int (by decide +kernel) (vpa_cons (vp_ix (vp_var 0) (vp_var 6)) vpa_nil)))) (vss_one (vs_if (vt_p (vb_w (vw_and (vb_cmp od_ge (vp_var 2) (vp_op od_pow vp_int vp_int)) (vw_and1 (vb_cmp od_gt (vp_ix (vp_var 3) (vp_var 6)) vp_int))))) (vss_cons (vs_append 4 (ve_p (vp_op od_mod (vp_callTy od_int T.n_int (by decide +kernel) (vpa_cons (vp_ix (vp_var 3) (vp_var 6)) vpa_nil)) vp_int))) (vss_cons (vs_setI 3 (ve_p (vp_op od_div (vp_callTy od_int T.n_int (by decide +kernel) (vpa_cons (vp_ix (vp_var 3) (vp_var 6)) vpa_nil)) vp_int)) (ve_var 6)) (vss_one vs_continue))) vss_nil)))) vss_nil) (vss_cons (vs_set 7 sc_f_law_draws.nd (ve_p (vp_op od_mod (vp_callTy od_int T.n_int (by decide +kernel) (vpa_cons (vp_op od_add (vp_op od_add (vp_op od_mul (vp_var 2) vp_int) (vp_op od_mul (vp_var 5) vp_int)) vp_int) vpa_nil)) vp_int))) (vss_cons (vs_set 7 sc_f_law_draws.nd (ve_p (vp_op od_mod (vp_callTy od_int T.n_int (by decide +kernel) (vpa_cons (vp_op od_add (vp_op od_div (vp_op od_mul (vp_var 7) (vp_var 7)) vp_int) (vp_var 7)) vpa_nil)) vp_int))) (vss_one (vs_append 4 (ve_p (vp_op od_mod (vp_callTy od_int T.n_int (by decide +kernel) (vpa_cons (vp_op od_add (vp_op od_div (vp_op od_mul (vp_var 7) (vp_var 7)) vp_int) (vp_op od_mul (vp_var 5) vp_int)) vpa_nil)) vp_int))))))))) (vss_one (vs_ret (ve_mov 4))))))) (by decide)
theorem sc_f_law_take : FnScope ["hand", "many", "at", "draws"] ["hand", "many"] (defScope st_f_law_take) := ⟨rfl, rfl, rfl, by decide +kernel, rfl, by decide +kernel, by decide +kernel⟩
theorem good_f_law_take (T : Tx K mg) : Good P w K mg base "_law_take" 1 ["hand", "many"] f_law_take := by
  obtain ⟨f, fd, F, hm⟩ := T.d_f_law_take
  exact Good.mkD (N := ["hand", "many", "at", "draws"]) (k := 0) [] F hm (F.bindsN (ps := ["hand", "many"]) fun _ _ _ _ _ _ us hl => match us, hl with | [_, _], _ => rfl) sc_f_law_take (fun cdv A outer s H E hr =>
    (vss_cons (vs_set 2 sc_f_law_take.nd (ve_ixN 0 (ve_p vp_int))) (vss_cons (vs_setI 0 (ve_p (vp_op od_add (vp_var 2) vp_int)) (ve_p vp_int)) (vss_cons (vs_set 3 sc_f_law_take.nd (ve_ixN 0 (ve_p vp_int))) (vss_cons (vs_if (vt_p (vb_cmp od_ge (vp_var 2) (vp_callB od_len T.n_len boot_len (vpa_cons (vp_var 3) vpa_nil)))) (vss_one (vs_ret (ve_p vp_int))) vss_nil) (vss_one (vs_ret (ve_p (vp_op od_mod (vp_op od_div (vp_callTy od_int T.n_int (by decide +kernel) (vpa_cons (vp_ix (vp_var 3) (vp_var 2)) vpa_nil)) vp_int) (vp_var 1)))))))))) (by decide)
theorem sc_f_law_letters : FnScope [] [] (defScope st_f_law_letters) := ⟨rfl, rfl, rfl, by decide +kernel, rfl, by decide +kernel, by decide +kernel⟩
theorem good_f_law_letters (T : Tx K mg) : Good P w K mg base "_law_letters" 1 [] f_law_letters := by
  obtain ⟨f, fd, F, hm⟩ := T.d_f_law_letters
  exact Good.mkD (N := []) (k := 0) [] F hm (F.bindsN (ps := []) fun _ _ _ _ _ _ us hl => match us, hl with | [], _ => rfl) sc_f_law_letters (fun cdv A outer s H E hr =>
    (vss_one (vs_ret (ve_p vp_str)))) (by decide)
theorem sc_f_law_reserved : FnScope ["words"] [] (defScope st_f_law_reserved) := ⟨rfl, rfl, rfl, by decide +kernel, rfl, by decide +kernel, by decide +kernel⟩
theorem good_f_law_reserved (T : Tx K mg) : Good P w K mg base "_law_reserved" 1 [] f_law_reserved := by
  obtain ⟨f, fd, F, hm⟩ := T.d_f_law_reserved
  exact Good.mkD (N := ["words"]) (k := 0) [] F hm (F.bindsN (ps := []) fun _ _ _ _ _ _ us hl => match us, hl with | [], _ => rfl) sc_f_law_reserved (fun cdv A outer s H E hr =>
    (vss_cons (vs_set 0 sc_f_law_reserved.nd (ve_lst (va_cons (ve_p vp_str) (va_cons (ve_p vp_str) (va_cons (ve_p vp_str) (va_cons (ve_p vp_str) (va_cons (ve_p vp_str) (va_cons (ve_p vp_str) (va_cons (ve_p vp_str) (va_cons (ve_p vp_str) (va_cons (ve_p vp_str) (va_cons (ve_p vp_str) (va_cons (ve_p vp_str) (va_cons (ve_p vp_str) (va_cons (ve_p vp_str) va_nil))))))))))))))) (vss_cons (vs_set 0 sc_f_law_reserved.nd (ve_opT ot_add (ve_var 0) (ve_lst (va_cons (ve_p vp_str) (va_cons (ve_p vp_str) (va_cons (ve_p vp_str) (va_cons (ve_p vp_str) (va_cons (ve_p vp_str) (va_cons (ve_p vp_str) (va_cons (ve_p vp_str) (va_cons (ve_p vp_str) (va_cons (ve_p vp_str) (va_cons (ve_p vp_str) (va_cons (ve_p vp_str) (va_cons (ve_p vp_str) va_nil))))))))))))))) (vss_one (vs_ret (ve_opT ot_add (ve_var 0) (ve_lst (va_cons (ve_p vp_str) (va_cons (ve_p vp_str) (va_cons (ve_p vp_str) (va_cons (ve_p vp_str) (va_cons (ve_p vp_str) va_nil)))))))))))) (by decide)
theorem sc_f_law_is_name : FnScope ["word", "char"] ["word"] (defScope st_f_law_is_name) := ⟨rfl, rfl, rfl, by decide +kernel, rfl, by decide +kernel, by decide +kernel⟩
theorem good_f_law_is_name (T : Tx K mg) : Good P w K mg base "_law_is_name" 2 ["word"] f_law_is_name := by
  obtain ⟨f, fd, F, hm⟩ := T.d_f_law_is_name
  have G_f_law_letters := good_f_law_letters (P := P) (w := w) (base := base) T
  have G_f_law_reserved := good_f_law_reserved (P := P) (w := w) (base := base) T
  exact Good.mkD (N := ["word", "char"]) (k := 1) [] F hm (F.bindsN (ps := ["word"]) fun _ _ _ _ _ _ us hl => match us, hl with | [_], _ => rfl) sc_f_law_is_name (fun cdv A outer s H E hr =>
    (vss_cons (vs_if (vt_w (vwt_or (vt_p (vb_cmp od_lt (vp_callB od_len T.n_len boot_len (vpa_cons (vp_var 0) vpa_nil)) vp_int)) (vwt_or (vt_p (vb_cmp od_gt (vp_callB od_len T.n_len boot_len (vpa_cons (vp_var 0) vpa_nil)) vp_int)) (vwt_or1 (vt_cmp od_in (ve_var 0) (ve_call0 (G_f_law_reserved) (hr.mono (by decide)))))))) (vss_one (vs_ret (ve_p vp_bl))) vss_nil) (vss_cons (vs_for PassesOwn.never rfl (vi_str (vp_var 0)) (vg_name 1 sc_f_law_is_name.nd) (vss_one (vs_if (vt_cmp od_notIn (ve_var 1) (ve_call0 (G_f_law_letters) (hr.mono (by decide)))) (vss_one (vs_ret (ve_p vp_bl))) vss_nil))) (vss_one (vs_ret (ve_p vp_bl)))))) (by decide)
theorem sc_f_law_is_number : FnScope ["word", "char"] ["word"] (defScope st_f_law_is_number) := ⟨rfl, rfl, rfl, by decide +kernel, rfl, by decide +kernel, by decide +kernel⟩
theorem good_f_law_is_number (T : Tx K mg) : Good P w K mg base "_law_is_number" 1 ["word"] f_law_is_number := by
  obtain ⟨f, fd, F, hm⟩ := T.d_f_law_is_number
  exact Good.mkD (N := ["word", "char"]) (k := 0) [] F hm (F.bindsN (ps := ["word"]) fun _ _ _ _ _ _ us hl => match us, hl with | [_], _ => rfl) sc_f_law_is_number (fun cdv A outer s H E hr =>
    (vss_cons (vs_if (vt_p (vb_w (vw_or (vb_cmp od_lt (vp_callB od_len T.n_len boot_len (vpa_cons (vp_var 0) vpa_nil)) vp_int) (vw_or (vb_cmp od_gt (vp_callB od_len T.n_len boot_len (vpa_cons (vp_var 0) vpa_nil)) vp_int) (vw_or1 (vb_w (vw_and (vb_cmp od_gt (vp_callB od_len T.n_len boot_len (vpa_cons (vp_var 0) vpa_nil)) vp_int) (vw_and1 (vb_cmp (od_eq hr.units) (vp_ix (vp_var 0) vp_int) vp_str))))))))) (vss_one (vs_ret (ve_p vp_bl))) vss_nil) (vss_cons (vs_for PassesOwn.never rfl (vi_str (vp_var 0)) (vg_name 1 sc_f_law_is_number.nd) (vss_one (vs_if (vt_p (vb_cmp od_notIn (vp_var 1) vp_str)) (vss_one (vs_ret (ve_p vp_bl))) vss_nil))) (vss_one (vs_ret (ve_p vp_bl)))))) (by decide)
theorem sc_f_law_run_of : FnScope ["hand", "chars", "most", "k"] ["hand", "chars", "most"] (defScope st_f_law_run_of) := ⟨rfl, rfl, rfl, by decide +kernel, rfl, by decide +kernel, by decide +kernel⟩
theorem good_f_law_run_of (T : Tx K mg) : Good P w K mg base "_law_run_of" 2 ["hand", "chars", "most"] f_law_run_of := by
  obtain ⟨f, fd, F, hm⟩ := T.d_f_law_run_of
  have G_f_law_take := good_f_law_take (P := P) (w := w) (base := base) T
  exact Good.mkD (N := ["hand", "chars", "most", "k"]) (k := 1) [] F hm (F.bindsN (ps := ["hand", "chars", "most"]) fun _ _ _ _ _ _ us hl => match us, hl with | [_, _, _], _ => rfl) sc_f_law_run_of (fun cdv A outer s H E hr =>
    (vss_one (vs_ret (ve_join (ve_p vp_str) (ve_lc [("k", 3)] rfl sc_f_law_run_of.nd (vi_range1E T.n_range (ve_op od_add (ve_p vp_int) (ve_call (G_f_law_take) (hr.mono (by decide)) (va_mv 0 (va_mv 2 va_nil))))) (blkOk_by (N := ["hand", "chars", "most", "k"]) (sc := defScope st_f_law_run_of) (by decide +kernel)) (fun _ _ _ _ _ => (vg_name 3 sc_f_law_run_of.nd)) (fun _ _ _ _ _ => vts_nil) (fun _ _ _ _ _ => (ve_ixN 1 (ve_call (G_f_law_take) (hr.mono (by decide)) (va_mv 0 (va_cons (ve_p (vp_callB od_len T.n_len boot_len (vpa_cons (vp_var 1) vpa_nil))) va_nil)))))))))) (by decide)
theorem sc_f_law_piece : FnScope ["hand", "signs", "foreign", "kind"] ["hand"] (defScope st_f_law_piece) := ⟨rfl, rfl, rfl, by decide +kernel, rfl, by decide +kernel, by decide +kernel⟩
theorem good_f_law_piece (T : Tx K mg) : Good P w K mg base "_law_piece" 3 ["hand"] f_law_piece := by
  obtain ⟨f, fd, F, hm⟩ := T.d_f_law_piece
  have G_f_law_run_of := good_f_law_run_of (P := P) (w := w) (base := base) T
  have G_f_law_letters := good_f_law_letters (P := P) (w := w) (base := base) T
  have G_f_law_take := good_f_law_take (P := P) (w := w) (base := base) T
  have G_f_law_reserved := good_f_law_reserved (P := P) (w := w) (base := base) T
  exact Good.mkD (N := ["hand", "signs", "foreign", "kind"]) (k := 2) [] F hm (F.bindsN (ps := ["hand"]) fun _ _ _ _ _ _ us hl => match us, hl with | [_], _ => rfl) sc_f_law_piece (fun cdv A outer s H E hr =>
    (vss_cons (vs_set 1 sc_f_law_piece.nd (ve_lst (va_cons (ve_p vp_str) (va_cons (ve_p vp_str) (va_cons (ve_p vp_str) (va_cons (ve_p vp_str) (va_cons (ve_p vp_str) (va_cons (ve_p vp_str) (va_cons (ve_p vp_str) (va_cons (ve_p vp_str) (va_cons (ve_p vp_str) (va_cons (ve_p vp_str) (va_cons (ve_p vp_str) (va_cons (ve_p vp_str) (va_cons (ve_p vp_str) (va_cons (ve_p vp_str) (va_cons (ve_p vp_str) va_nil))))))))))))))))) (vss_cons (vs_set 2 sc_f_law_piece.nd (ve_p vp_str)) (vss_cons (vs_set 3 sc_f_law_piece.nd (ve_call (G_f_law_take) (hr.mono (by decide)) (va_mv 0 (va_cons (ve_p vp_int) va_nil)))) (vss_cons (vs_if (vt_p (vb_cmp (od_eq hr.units) (vp_var 3) vp_int)) (vss_one (vs_ret (ve_op od_mul (ve_p vp_str) (ve_op od_add (ve_p vp_int) (ve_call (G_f_law_take) (hr.mono (by decide)) (va_mv 0 (va_cons (ve_p vp_int) va_nil))))))) vss_nil) (vss_cons (vs_if (vt_p (vb_cmp (od_eq hr.units) (vp_var 3) vp_int)) (vss_one (vs_ret (ve_ix (ve_call0 (G_f_law_reserved) (hr.mono (by decide))) (ve_call (G_f_law_take) (hr.mono (by decide)) (va_mv 0 (va_cons (ve_p vp_int) va_nil)))))) vss_nil) (vss_cons (vs_if (vt_p (vb_cmp (od_eq hr.units) (vp_var 3) vp_int)) (vss_one (vs_ret (ve_call (G_f_law_run_of) (hr.mono (by decide)) (va_mv 0 (va_cons (ve_call0 (G_f_law_letters) (hr.mono (by decide))) (va_cons (ve_p vp_int) va_nil)))))) vss_nil) (vss_cons (vs_if (vt_p (vb_cmp (od_eq hr.units) (vp_var 3) vp_int)) (vss_one (vs_ret (ve_call (G_f_law_run_of) (hr.mono (by decide)) (va_mv 0 (va_cons (ve_p vp_str) (va_cons (ve_p vp_int) va_nil)))))) vss_nil) (vss_cons (vs_if (vt_p (vb_cmp od_lt (vp_var 3) vp_int)) (vss_one (vs_ret (ve_ixN 1 (ve_call (G_f_law_take) (hr.mono (by decide)) (va_mv 0 (va_cons (ve_p vp_int) va_nil)))))) vss_nil) (vss_cons (vs_if (vt_p (vb_cmp (od_eq hr.units) (vp_var 3) vp_int)) (vss_one (vs_ret (ve_ixN 2 (ve_call (G_f_law_take) (hr.mono (by decide)) (va_mv 0 (va_cons (ve_p (vp_callB od_len T.n_len boot_len (vpa_cons (vp_var 2) vpa_nil))) va_nil)))))) vss_nil) (vss_one (vs_ret (ve_call (G_f_law_run_of) (hr.mono (by decide)) (va_mv 0 (va_cons (ve_op od_add (ve_call0 (G_f_law_letters) (hr.mono (by decide))) (ve_p vp_str)) (va_cons (ve_p vp_int) va_nil)))))))))))))))) (by decide)
theorem sc_f_law_end_of : FnScope ["text", "at", "chars", "k"] ["text", "at", "chars"] (defScope st_f_law_end_of) := ⟨rfl, rfl, rfl, by decide +kernel, rfl, by decide +kernel, by decide +kernel⟩
theorem good_f_law_end_of (T : Tx K mg) : Good P w K mg base "_law_end_of" 1 ["text", "at", "chars"] f_law_end_of := by
  obtain ⟨f, fd, F, hm⟩ := T.d_f_law_end_of
  exact Good.mkD (N := ["text", "at", "chars", "k"]) (k := 0) [] F hm (F.bindsN (ps := ["text", "at", "chars"]) fun _ _ _ _ _ _ us hl => match us, hl with | [_, _, _], _ => rfl) sc_f_law_end_of (fun cdv A outer s H E hr =>
    (vss_cons (vs_for PassesOwn.never rfl (vi_range2 T.n_range (vpa_cons (vp_var 1) (vpa_cons (vp_callB od_len T.n_len boot_len (vpa_cons (vp_var 0) vpa_nil)) vpa_nil))) (vg_name 3 sc_f_law_end_of.nd) (vss_one (vs_if (vt_p (vb_cmp od_notIn (vp_ix (vp_var 0) (vp_var 3)) (vp_var 2))) (vss_one (vs_ret (ve_mov 3))) vss_nil))) (vss_one (vs_ret (ve_p (vp_callB od_len T.n_len boot_len (vpa_cons (vp_var 0) vpa_nil))))))) (by decide)
theorem sc_f_law_words : FnScope ["text", "words", "at", "step", "end"] ["text"] (defScope st_f_law_words) := ⟨rfl, rfl, rfl, by decide +kernel, rfl, by decide +kernel, by decide +kernel⟩
theorem good_f_law_words (T : Tx K mg) : Good P w K mg base "_law_words" 2 ["text"] f_law_words := by
  obtain ⟨f, fd, F, hm⟩ := T.d_f_law_words
  have G_f_law_letters := good_f_law_letters (P := P) (w := w) (base := base) T
  have G_f_law_end_of := good_f_law_end_of (P := P) (w := w) (base := base) T
  exact Good.mkD (N := ["text", "words", "at", "step", "end"]) (k := 1) [] F hm (F.bindsN (ps := ["text"]) fun _ _ _ _ _ _ us hl => match us, hl with | [_], _ => rfl) sc_f_law_words (fun cdv A outer s H E hr =>
    (vss_cons (vs_set 1 sc_f_law_words.nd (ve_lst va_nil)) (vss_cons (vs_set 2 sc_f_law_words.nd (ve_p vp_int)) (vss_cons (vs_for PassesOwn.never rfl (vi_range1 T.n_range (vpa_cons (vp_callB od_len T.n_len boot_len (vpa_cons (vp_var 0) vpa_nil)) vpa_nil)) (vg_name 3 sc_f_law_words.nd) (vss_cons (vs_if (vt_p (vb_cmp od_ge (vp_var 2) (vp_callB od_len T.n_len boot_len (vpa_cons (vp_var 0) vpa_nil)))) (vss_one vs_break) vss_nil) (vss_cons (vs_set 4 sc_f_law_words.nd (ve_p (vp_op od_add (vp_var 2) vp_int))) (vss_cons (vs_if (vt_cmp od_in (ve_ixN 0 (ve_var 2)) (ve_call0 (G_f_law_letters) (hr.mono (by decide)))) (vss_one (vs_set 4 sc_f_law_words.nd (ve_call (G_f_law_end_of) (hr.mono (by decide)) (va_mv 0 (va_mv 2 (va_cons (ve_call0 (G_f_law_letters) (hr.mono (by decide))) va_nil)))))) (vss_one (vs_if (vt_p (vb_cmp od_in (vp_ix (vp_var 0) (vp_var 2)) vp_str)) (vss_one (vs_set 4 sc_f_law_words.nd (ve_call (G_f_law_end_of) (hr.mono (by decide)) (va_mv 0 (va_mv 2 (va_cons (ve_p vp_str) va_nil)))))) (vss_one (vs_if (vt_cmp od_in (ve_p (vp_slS (vp_var 0) (vo_some (vp_var 2)) (vo_some (vp_op od_add (vp_var 2) vp_int)))) (ve_lst (va_cons (ve_p vp_str) (va_cons (ve_p vp_str) (va_cons (ve_p vp_str) (va_cons (ve_p vp_str) va_nil)))))) (vss_one (vs_set 4 sc_f_law_words.nd (ve_p (vp_op od_add (vp_var 2) vp_int)))) (vss_one (vs_if (vt_p (vb_cmp od_notIn (vp_ix (vp_var 0) (vp_var 2)) vp_str)) (vss_one (vs_ret (ve_p vp_non))) vss_nil))))))) (vss_cons (vs_if (vt_p (vb_cmp (od_ne hr.units) (vp_ix (vp_var 0) (vp_var 2)) vp_str)) (vss_one (vs_append 1 (ve_p (vp_slS (vp_var 0) (vo_some (vp_var 2)) (vo_some (vp_var 4)))))) vss_nil) (vss_one (vs_set 2 sc_f_law_words.nd (ve_var 4)))))))) (vss_one (vs_ret (ve_mov 1))))))) (by decide)
theorem sc_f_law_is_right : FnScope ["found", "expected", "at"] ["found", "expected"] (defScope st_f_law_is_right) := ⟨rfl, rfl, rfl, by decide +kernel, rfl, by decide +kernel, by decide +kernel⟩
theorem good_f_law_is_right (T : Tx K mg) : Good P w K mg base "_law_is_right" 1 ["found", "expected"] f_law_is_right := by
  obtain ⟨f, fd, F, hm⟩ := T.d_f_law_is_right
  exact Good.mkD (N := ["found", "expected", "at"]) (k := 0) [] F hm (F.bindsN (ps := ["found", "expected"]) fun _ _ _ _ _ _ us hl => match us, hl with | [_, _], _ => rfl) sc_f_law_is_right (fun cdv A outer s H E hr =>
    (vss_cons (vs_if (vt_p (vb_cmp od_isN (vp_var 1) vp_non)) (vss_one (vs_ret (ve_p (vp_cmp od_isN (vp_var 0) vp_non)))) vss_nil) (vss_cons (vs_if (vt_p (vb_w (vw_or (vb_not (vb_val (vp_isi T.n_isinstance T.n_list boot_list (vp_var 0)))) (vw_or1 (vb_cmp (od_ne hr.units) (vp_callB od_len T.n_len boot_len (vpa_cons (vp_var 0) vpa_nil)) (vp_callB od_len T.n_len boot_len (vpa_cons (vp_var 1) vpa_nil))))))) (vss_one (vs_ret (ve_p vp_bl))) vss_nil) (vss_cons (vs_for PassesOwn.never rfl (vi_range1 T.n_range (vpa_cons (vp_callB od_len T.n_len boot_len (vpa_cons (vp_var 1) vpa_nil)) vpa_nil)) (vg_name 2 sc_f_law_is_right.nd) (vss_one (vs_if (vt_p (vb_w (vw_or (vb_not (vb_val (vp_isi T.n_isinstance T.n_str boot_str (vp_ix (vp_var 0) (vp_var 2))))) (vw_or1 (vb_cmp (od_ne hr.units) (vp_ix (vp_var 0) (vp_var 2)) (vp_ix (vp_var 1) (vp_var 2))))))) (vss_one (vs_ret (ve_p vp_bl))) vss_nil))) (vss_one (vs_ret (ve_p vp_bl))))))) (by decide)
theorem sc_law : FnScope ["script", "hand", "pieces", "k", "text", "expected", "found", "odd", "again", "word", "answers"] ["script"] (defScope st_law) := ⟨rfl, rfl, rfl, by decide +kernel, rfl, by decide +kernel, by decide +kernel⟩
theorem good_law (T : Tx K mg) {f : Addr} {fd : FuncData} (F : FunD K "law" "law" (defArgs st_law) (defBody st_law) (defScope st_law) [] [] f fd) : FnOk P w K mg base CX0 4 f fd ["script"] (spV K 1 law) := by
  have G_f_law_is_number := good_f_law_is_number (P := P) (w := w) (base := base) T
  have G_f_law_is_name := good_f_law_is_name (P := P) (w := w) (base := base) T
  have G_is_number := good_is_number (P := P) (w := w) (base := base) T
  have G_is_name := good_is_name (P := P) (w := w) (base := base) T
  have G_f_law_take := good_f_law_take (P := P) (w := w) (base := base) T
  have G_f_law_is_right := good_f_law_is_right (P := P) (w := w) (base := base) T
  have G_split_row := good_split_row (P := P) (w := w) (base := base) T
  have G_f_law_piece := good_f_law_piece (P := P) (w := w) (base := base) T
  have G_f_law_reserved := good_f_law_reserved (P := P) (w := w) (base := base) T
  have G_f_law_words := good_f_law_words (P := P) (w := w) (base := base) T
  have G_f_law_draws := good_f_law_draws (P := P) (w := w) (base := base) T
  exact defOk (N := ["script", "hand", "pieces", "k", "text", "expected", "found", "odd", "again", "word", "answers"]) (k := 3) [] F sc_law (fun cdv A outer s H E hr =>
    (vss_cons (vs_set 1 sc_law.nd (ve_lst (va_cons (ve_fz (ve_call (G_f_law_draws) (hr.mono (by decide)) (va_mv 0 (va_cons (ve_p vp_int) va_nil)))) (va_cons (ve_p vp_int) va_nil)))) (vss_cons (vs_set 2 sc_law.nd (ve_lst va_nil)) (vss_cons (vs_for PassesOwn.never rfl (vi_range1E T.n_range (ve_call (G_f_law_take) (hr.mono (by decide)) (va_mv 1 (va_cons (ve_p vp_int) va_nil)))) (vg_name 3 sc_law.nd) (vss_one (vs_append 2 (ve_call (G_f_law_piece) (hr.mono (by decide)) (va_mv 1 va_nil))))) (vss_cons (vs_set 4 sc_law.nd (ve_join (ve_p vp_str) (ve_var 2))) (vss_cons (vs_set 5 sc_law.nd (ve_call (G_f_law_words) (hr.mono (by decide)) (va_mv 4 va_nil))) (vss_cons (vs_set 6 sc_law.nd (ve_call (G_split_row) (hr.mono (by decide)) (va_mv 4 va_nil))) (vss_cons (vs_if (vt_not (vt_val (ve_call (G_f_law_is_right) (hr.mono (by decide)) (va_mv 6 (va_mv 5 va_nil))))) (vss_one (vs_ret (ve_p vp_bl))) vss_nil) (vss_cons (vs_set 7 sc_law.nd (ve_lst (va_cons (ve_var 4) (va_cons (ve_p vp_str) (va_cons (ve_ix (ve_call0 (G_f_law_reserved) (hr.mono (by decide))) (ve_call (G_f_law_take) (hr.mono (by decide)) (va_mv 1 (va_cons (ve_p vp_int) va_nil)))) (va_cons (ve_fz (ve_call (G_f_law_piece) (hr.mono (by decide)) (va_mv 1 va_nil))) (va_cons (ve_opT ot_add (ve_call (G_f_law_piece) (hr.mono (by decide)) (va_mv 1 va_nil)) (ve_call (G_f_law_piece) (hr.mono (by decide)) (va_mv 1 va_nil))) va_nil))))))) (vss_cons (vs_append 7 (ve_ix (ve_lst (va_cons (ve_p vp_str) (va_cons (ve_p vp_str) (va_cons (ve_p vp_str) (va_cons (ve_p vp_str) (va_cons (ve_p vp_str) (va_cons (ve_p vp_str) (va_cons (ve_p vp_str) va_nil)))))))) (ve_call (G_f_law_take) (hr.mono (by decide)) (va_mv 1 (va_cons (ve_p vp_int) va_nil))))) (vss_cons (vs_if (vt_p (vb_cmp od_notN (vp_var 5) vp_non)) (vss_cons (vs_append 6 (ve_p vp_str)) (vss_one (vs_set 7 sc_law.nd (ve_opT ot_add (ve_var 7) (ve_var 5))))) vss_nil) (vss_cons (vs_for PassesOwn.never rfl (vi_list (ve_lst (va_cons (ve_var 4) (va_cons (ve_op od_add (ve_op od_add (ve_op od_mul (ve_p vp_str) (ve_call (G_f_law_take) (hr.mono (by decide)) (va_mv 1 (va_cons (ve_p vp_int) va_nil)))) (ve_var 4)) (ve_p vp_str)) va_nil)))) (vg_name 8 sc_law.nd) (vss_one (vs_if (vt_not (vt_val (ve_call (G_f_law_is_right) (hr.mono (by decide)) (va_cons (ve_call (G_split_row) (hr.mono (by decide)) (va_mv 8 va_nil)) (va_mv 5 va_nil))))) (vss_one (vs_ret (ve_p vp_bl))) vss_nil))) (vss_cons (vs_for PassesOwn.never rfl (vi_list (ve_var 7)) (vg_name 9 sc_law.nd) (vss_cons (vs_set 10 sc_law.nd (ve_lst (va_cons (ve_fz (ve_call (G_is_name) (hr.mono (by decide)) (va_mv 9 va_nil))) (va_cons (ve_fz (ve_call (G_is_number) (hr.mono (by decide)) (va_mv 9 va_nil))) va_nil)))) (vss_cons (vs_if (vt_p (vb_w (vw_or (vb_not (vb_val (vp_isi T.n_isinstance T.n_bool boot_bool (vp_ix (vp_var 10) vp_int)))) (vw_or1 (vb_not (vb_val (vp_isi T.n_isinstance T.n_bool boot_bool (vp_ix (vp_var 10) vp_int)))))))) (vss_one (vs_ret (ve_p vp_bl))) vss_nil) (vss_one (vs_if (vt_cmp (od_ne hr.units) (ve_var 10) (ve_lst (va_cons (ve_fz (ve_call (G_f_law_is_name) (hr.mono (by decide)) (va_mv 9 va_nil))) (va_cons (ve_fz (ve_call (G_f_law_is_number) (hr.mono (by decide)) (va_mv 9 va_nil))) va_nil)))) (vss_one (vs_ret (ve_p vp_bl))) vss_nil))))) (vss_one (vs_ret (ve_p vp_bl)))))))))))))))) (by decide)
end
/-! ### the head -/
def fa : List He.Fa := [.glo "behind_run", .glo "sign_at", .glo "behind_word", .glo "split_row", .glo "is_name", .glo "is_number", .glo "_law_draws", .glo "_law_take", .glo "_law_letters", .glo "_law_reserved", .glo "_law_is_name", .glo "_law_is_number", .glo "_law_run_of", .glo "_law_piece", .glo "_law_end_of", .glo "_law_words", .glo "_law_is_right", .glo "law", .free "abs", .free "bool", .free "int", .free "isinstance", .free "len", .free "list", .free "range", .free "str", .glo "SIGNS", .str "FIGURES" "0123456789", .str "LETTERS" "abcdefghijklmnopqrstuvwxyz", .glo "RESERVED", .int "MOST_LETTERS" 12, .int "MOST_FIGURES" 10]
def dd_behind_run : He.DefD := ⟨("behind_run", none), "behind_run", "behind_run", defArgs st_behind_run, defBody st_behind_run, defScope st_behind_run, [], []⟩
def dd_sign_at : He.DefD := ⟨("sign_at", none), "sign_at", "sign_at", defArgs st_sign_at, defBody st_sign_at, defScope st_sign_at, [], []⟩
def dd_behind_word : He.DefD := ⟨("behind_word", none), "behind_word", "behind_word", defArgs st_behind_word, defBody st_behind_word, defScope st_behind_word, [], []⟩
def dd_split_row : He.DefD := ⟨("split_row", none), "split_row", "split_row", defArgs st_split_row, defBody st_split_row, defScope st_split_row, [], []⟩
def dd_is_name : He.DefD := ⟨("is_name", none), "is_name", "is_name", defArgs st_is_name, defBody st_is_name, defScope st_is_name, [], []⟩
def dd_is_number : He.DefD := ⟨("is_number", none), "is_number", "is_number", defArgs st_is_number, defBody st_is_number, defScope st_is_number, [], []⟩
def dd_f_law_draws : He.DefD := ⟨("_law_draws", none), "_law_draws", "_law_draws", defArgs st_f_law_draws, defBody st_f_law_draws, defScope st_f_law_draws, [], []⟩
def dd_f_law_take : He.DefD := ⟨("_law_take", none), "_law_take", "_law_take", defArgs st_f_law_take, defBody st_f_law_take, defScope st_f_law_take, [], []⟩
def dd_f_law_letters : He.DefD := ⟨("_law_letters", none), "_law_letters", "_law_letters", defArgs st_f_law_letters, defBody st_f_law_letters, defScope st_f_law_letters, [], []⟩
def dd_f_law_reserved : He.DefD := ⟨("_law_reserved", none), "_law_reserved", "_law_reserved", defArgs st_f_law_reserved, defBody st_f_law_reserved, defScope st_f_law_reserved, [], []⟩
def dd_f_law_is_name : He.DefD := ⟨("_law_is_name", none), "_law_is_name", "_law_is_name", defArgs st_f_law_is_name, defBody st_f_law_is_name, defScope st_f_law_is_name, [], []⟩
def dd_f_law_is_number : He.DefD := ⟨("_law_is_number", none), "_law_is_number", "_law_is_number", defArgs st_f_law_is_number, defBody st_f_law_is_number, defScope st_f_law_is_number, [], []⟩
def dd_f_law_run_of : He.DefD := ⟨("_law_run_of", none), "_law_run_of", "_law_run_of", defArgs st_f_law_run_of, defBody st_f_law_run_of, defScope st_f_law_run_of, [], []⟩
def dd_f_law_piece : He.DefD := ⟨("_law_piece", none), "_law_piece", "_law_piece", defArgs st_f_law_piece, defBody st_f_law_piece, defScope st_f_law_piece, [], []⟩
def dd_f_law_end_of : He.DefD := ⟨("_law_end_of", none), "_law_end_of", "_law_end_of", defArgs st_f_law_end_of, defBody st_f_law_end_of, defScope st_f_law_end_of, [], []⟩
def dd_f_law_words : He.DefD := ⟨("_law_words", none), "_law_words", "_law_words", defArgs st_f_law_words, defBody st_f_law_words, defScope st_f_law_words, [], []⟩
def dd_f_law_is_right : He.DefD := ⟨("_law_is_right", none), "_law_is_right", "_law_is_right", defArgs st_f_law_is_right, defBody st_f_law_is_right, defScope st_f_law_is_right, [], []⟩
def dd_law : He.DefD := ⟨("law", none), "law", "law", defArgs st_law, defBody st_law, defScope st_law, [], []⟩
def fn : List He.DefD := [dd_behind_run, dd_sign_at, dd_behind_word, dd_split_row, dd_is_name, dd_is_number, dd_f_law_draws, dd_f_law_take, dd_f_law_letters, dd_f_law_reserved, dd_f_law_is_name, dd_f_law_is_number, dd_f_law_run_of, dd_f_law_piece, dd_f_law_end_of, dd_f_law_words, dd_f_law_is_right, dd_law]
def cs_SIGNS : List D := [.str "<=", .str ">=", .str "==", .str "!=", .str "<", .str ">", .str "=", .str "+", .str "-", .str "(", .str ")", .str "[", .str "]", .str ",", .str ":"]
def cs_RESERVED : List D := [.str "proc", .str "list", .str "needs", .str "gives", .str "keeps", .str "falls", .str "from", .str "to", .str "let", .str "while", .str "if", .str "else", .str "end", .str "choose", .str "check", .str "call", .str "swap", .str "return", .str "skip", .str "and", .str "or", .str "not", .str "all", .str "sorted", .str "below", .str "either", .str "len", .str "old", .str "moves", .str "result"]
def ex (K : PySem.W.Frag) : Bool := He.tupB K "SIGNS" (cs_SIGNS.map dvD) && He.tupB K "RESERVED" (cs_RESERVED.map dvD)
abbrev R : PySem.W.OpenRow := PySem.W.OpenLaw.row PySem.Challenge.rw_swornon_k00_words_of_a_row
abbrev hk : PySem.W.Hook := He.hookX 4 fa fn [] [] ex
def ob (s : PySem.W.SharedT) : He.AlX := He.obsX 4 fa fn [] [] ex (HandSHeadRun.getT s)
theorem ob_eq (s : PySem.W.SharedT) : ob s = hk.obs s.abs := He.obsX_eq (HandSHeadRun.getT_eq s)
def loose : List Str := (["LETTERS", "FIGURES", "SIGNS", "RESERVED", "MOST_LETTERS", "MOST_FIGURES", "behind_run", "sign_at", "behind_word", "split_row", "is_name", "is_number", "_law_draws", "_law_take", "_law_letters", "_law_reserved", "_law_is_name", "_law_is_number", "_law_run_of", "_law_piece", "_law_end_of", "_law_words", "_law_is_right"] : List Str)
theorem run (w : World) : HandSHeadRun.RunEq R (PySem.W.view R.prog [25]) hk ob 4000 loose w := by
  intro os
  kernel_rfl
theorem facts {w : World} {K : PySem.W.Frag} {h : Heap} {mg : Str → Option Value} (X : K.In h) (G : h.Ns mainGlobals mg) (c : He.SaysX fa fn [] [] ex w h K) : Tx K mg := by
  have cd := c.t.d
  have ce := c.more
  unfold ex at ce
  simp only [Bool.and_eq_true] at ce
  obtain ⟨e0, e1⟩ := ce
  exact ⟨He.free_ok X G (cd.fact 18 (f := .free "abs") rfl),
    He.free_ok X G (cd.fact 19 (f := .free "bool") rfl),
    He.free_ok X G (cd.fact 20 (f := .free "int") rfl),
    He.free_ok X G (cd.fact 21 (f := .free "isinstance") rfl),
    He.free_ok X G (cd.fact 22 (f := .free "len") rfl),
    He.free_ok X G (cd.fact 23 (f := .free "list") rfl),
    He.free_ok X G (cd.fact 24 (f := .free "range") rfl),
    He.free_ok X G (cd.fact 25 (f := .free "str") rfl),
    cst_tup X G (cd.fact 26 (f := .glo "SIGNS") rfl) e0 (by rfl),
    cst_str X G (cd.fact 27 (f := .str "FIGURES" "0123456789") rfl),
    cst_str X G (cd.fact 28 (f := .str "LETTERS" "abcdefghijklmnopqrstuvwxyz") rfl),
    cst_tup X G (cd.fact 29 (f := .glo "RESERVED") rfl) e1 (by rfl),
    cst_int X G (cd.fact 30 (f := .int "MOST_LETTERS" 12) rfl),
    cst_int X G (cd.fact 31 (f := .int "MOST_FIGURES" 10) rfl),
    def_of X G (cd.fact 0 (f := .glo "behind_run") rfl) (cd.def_ 0 (d := dd_behind_run) rfl),
    def_of X G (cd.fact 1 (f := .glo "sign_at") rfl) (cd.def_ 1 (d := dd_sign_at) rfl),
    def_of X G (cd.fact 2 (f := .glo "behind_word") rfl) (cd.def_ 2 (d := dd_behind_word) rfl),
    def_of X G (cd.fact 3 (f := .glo "split_row") rfl) (cd.def_ 3 (d := dd_split_row) rfl),
    def_of X G (cd.fact 4 (f := .glo "is_name") rfl) (cd.def_ 4 (d := dd_is_name) rfl),
    def_of X G (cd.fact 5 (f := .glo "is_number") rfl) (cd.def_ 5 (d := dd_is_number) rfl),
    def_of X G (cd.fact 6 (f := .glo "_law_draws") rfl) (cd.def_ 6 (d := dd_f_law_draws) rfl),
    def_of X G (cd.fact 7 (f := .glo "_law_take") rfl) (cd.def_ 7 (d := dd_f_law_take) rfl),
    def_of X G (cd.fact 8 (f := .glo "_law_letters") rfl) (cd.def_ 8 (d := dd_f_law_letters) rfl),
    def_of X G (cd.fact 9 (f := .glo "_law_reserved") rfl) (cd.def_ 9 (d := dd_f_law_reserved) rfl),
    def_of X G (cd.fact 10 (f := .glo "_law_is_name") rfl) (cd.def_ 10 (d := dd_f_law_is_name) rfl),
    def_of X G (cd.fact 11 (f := .glo "_law_is_number") rfl) (cd.def_ 11 (d := dd_f_law_is_number) rfl),
    def_of X G (cd.fact 12 (f := .glo "_law_run_of") rfl) (cd.def_ 12 (d := dd_f_law_run_of) rfl),
    def_of X G (cd.fact 13 (f := .glo "_law_piece") rfl) (cd.def_ 13 (d := dd_f_law_piece) rfl),
    def_of X G (cd.fact 14 (f := .glo "_law_end_of") rfl) (cd.def_ 14 (d := dd_f_law_end_of) rfl),
    def_of X G (cd.fact 15 (f := .glo "_law_words") rfl) (cd.def_ 15 (d := dd_f_law_words) rfl),
    def_of X G (cd.fact 16 (f := .glo "_law_is_right") rfl) (cd.def_ 16 (d := dd_f_law_is_right) rfl),
    def_of X G (cd.fact 17 (f := .glo "law") rfl) (cd.def_ 17 (d := dd_law) rfl)⟩
end K00
namespace K00
open VS
/-! ### the words of a text -/
def tw (g : List Nat) : List Nat → Nat
  | [] => 0
  | c :: l => if c ∈ g then tw g l + 1 else 0
theorem tw_le (g : List Nat) : ∀ l, tw g l ≤ l.length
  | [] => Nat.le_refl _
  | c :: l => by
    unfold tw
    split
    · exact Nat.succ_le_succ (tw_le g l)
    · exact Nat.zero_le _
theorem tw_cons (g : List Nat) (c : Nat) (l : List Nat) : tw g (c :: l) = if c ∈ g then tw g l + 1 else 0 := rfl
def LET : List Nat := [97, 98, 99, 100, 101, 102, 103, 104, 105, 106, 107, 108, 109, 110, 111, 112, 113, 114, 115, 116, 117, 118, 119, 120, 121, 122]
def FIG : List Nat := [48, 49, 50, 51, 52, 53, 54, 55, 56, 57]
def SG1 : List Nat := [60, 62, 61, 43, 45, 40, 41, 91, 93, 44, 58]
/-- two signs that are one word -/
def two : List Nat → Bool
  | a :: b :: _ => (a == 60 || a == 62 || a == 61 || a == 33) && b == 61
  | _ => false
def sg : List Nat → Nat
  | [] => 0
  | a :: l => if two (a :: l) = true then 2 else if a ∈ SG1 then 1 else 0
def wl : List Nat → Nat
  | [] => 0
  | c :: r => if c ∈ LET then tw LET (c :: r) else if c ∈ FIG then tw FIG (c :: r) else sg (c :: r)
theorem sg_cons (a : Nat) (l : List Nat) : sg (a :: l) = if two (a :: l) = true then 2 else if a ∈ SG1 then 1 else 0 := rfl
theorem wl_cons (c : Nat) (r : List Nat) : wl (c :: r) = if c ∈ LET then tw LET (c :: r) else if c ∈ FIG then tw FIG (c :: r) else sg (c :: r) := rfl
theorem two_len {l : List Nat} (h : two l = true) : 2 ≤ l.length := by
  match l, h with
  | a :: b :: r, _ => simp
theorem sg_le (l : List Nat) : sg l ≤ l.length := by
  match l with
  | [] => exact Nat.le_refl _
  | a :: r =>
    rw [sg_cons]
    by_cases h : two (a :: r) = true
    · rw [if_pos h]
      exact two_len h
    · rw [if_neg h]
      split <;> simp
theorem wl_le (l : List Nat) : wl l ≤ l.length := by
  match l with
  | [] => exact Nat.le_refl _
  | c :: r =>
    rw [wl_cons]
    split
    · exact tw_le _ _
    · split
      · exact tw_le _ _
      · exact sg_le _
def W : Nat → List Nat → Option (List (List Nat))
  | _, [] => some []
  | 0, _ :: _ => none
  | n + 1, c :: r => if c = 32 then W n r else if wl (c :: r) = 0 then none else (W n ((c :: r).drop (wl (c :: r)))).map ((c :: r).take (wl (c :: r)) :: ·)
theorem W_succ (n c : Nat) (r : List Nat) : W (n + 1) (c :: r) = if c = 32 then W n r else if wl (c :: r) = 0 then none else (W n ((c :: r).drop (wl (c :: r)))).map ((c :: r).take (wl (c :: r)) :: ·) := rfl
theorem W_fuel : ∀ (n m : Nat) (l : List Nat), l.length ≤ n → l.length ≤ m → W n l = W m l
  | n, m, [], _, _ => by cases n <;> cases m <;> rfl
  | 0, m, c :: r, h, _ => by simp at h
  | n + 1, 0, c :: r, _, h => by simp at h
  | n + 1, m + 1, c :: r, h1, h2 => by
    rw [W_succ, W_succ]
    by_cases hc : c = 32
    · rw [if_pos hc, if_pos hc]
      exact W_fuel n m r (by simpa using h1) (by simpa using h2)
    · rw [if_neg hc, if_neg hc]
      by_cases hw : wl (c :: r) = 0
      · rw [if_pos hw, if_pos hw]
      · rw [if_neg hw, if_neg hw]
        rw [W_fuel n m ((c :: r).drop (wl (c :: r)))]
        · rw [List.length_drop]; simp only [List.length_cons] at h1 ⊢; omega
        · rw [List.length_drop]; simp only [List.length_cons] at h2 ⊢; omega
def Wd (l : List Nat) : Option (List (List Nat)) := W l.length l
theorem Wd_nil : Wd [] = some [] := rfl
theorem Wd_sp (r : List Nat) : Wd (32 :: r) = Wd r := by
  unfold Wd
  show W (r.length + 1) (32 :: r) = _
  rw [W_succ, if_pos rfl]
theorem Wd_cons {c : Nat} {r : List Nat} (h : c ≠ 32) : Wd (c :: r) = if wl (c :: r) = 0 then none else (Wd ((c :: r).drop (wl (c :: r)))).map ((c :: r).take (wl (c :: r)) :: ·) := by
  unfold Wd
  show W (r.length + 1) (c :: r) = _
  rw [W_succ, if_neg h]
  by_cases hw : wl (c :: r) = 0
  · rw [if_pos hw, if_pos hw]
  · rw [if_neg hw, if_neg hw, W_fuel r.length _ ((c :: r).drop (wl (c :: r))) _ (Nat.le_refl _)]
    rw [List.length_drop]
    simp only [List.length_cons]
    omega
/-- spaces ahead -/
theorem Wd_drop_sp : ∀ l : List Nat, Wd (l.drop (tw [32] l)) = Wd l
  | [] => rfl
  | c :: l => by
    rw [tw_cons]
    by_cases h : c ∈ [32]
    · have hc : c = 32 := by simpa using h
      rw [if_pos h, hc, Wd_sp, List.drop_succ_cons, Wd_drop_sp l]
    · rw [if_neg h]
      rfl
theorem tw_head {l : List Nat} {c : Nat} {r : List Nat} (h : l.drop (tw [32] l) = c :: r) : c ≠ 32 := by
  induction l with
  | nil => simp [tw] at h
  | cons a l ih =>
    rw [tw_cons] at h
    by_cases ha : a ∈ [32]
    · rw [if_pos ha, List.drop_succ_cons] at h
      exact ih h
    · rw [if_neg ha] at h
      have hz : a = c := by
        have : a :: l = c :: r := h
        exact (List.cons.inj this).1
      rw [← hz]
      simpa using ha
theorem Wd_pre : ∀ (n : Nat) (l : List Nat), Wd (List.replicate n 32 ++ l) = Wd l
  | 0, l => rfl
  | n + 1, l => by
    rw [List.replicate_succ, List.cons_append, Wd_sp, Wd_pre n l]
/-- a space behind -/
theorem tw_snoc {g : List Nat} (hg : 32 ∉ g) : ∀ l : List Nat, tw g (l ++ [32]) = tw g l
  | [] => by
    show (if 32 ∈ g then _ else _) = _
    rw [if_neg hg]
    rfl
  | c :: l => by
    rw [List.cons_append, tw_cons, tw_cons, tw_snoc hg l]
theorem two_snoc (l : List Nat) : two (l ++ [32]) = two l := by
  match l with
  | [] => rfl
  | [a] => simp [two]
  | a :: b :: r => rfl
theorem wl_snoc {c : Nat} {r : List Nat} : wl (c :: r ++ [32]) = wl (c :: r) := by
  show wl (c :: (r ++ [32])) = _
  rw [wl_cons, wl_cons]
  by_cases h1 : c ∈ LET
  · rw [if_pos h1, if_pos h1]
    exact tw_snoc (by decide) (c :: r)
  · rw [if_neg h1, if_neg h1]
    by_cases h2 : c ∈ FIG
    · rw [if_pos h2, if_pos h2]
      exact tw_snoc (by decide) (c :: r)
    · rw [if_neg h2, if_neg h2]
      have e := two_snoc (c :: r)
      rw [sg_cons, sg_cons, show c :: (r ++ [32]) = c :: r ++ [32] from rfl, e]
theorem Wd_snoc : ∀ (n : Nat) (l : List Nat), l.length ≤ n → Wd (l ++ [32]) = Wd l
  | n, [], _ => Wd_sp []
  | 0, c :: r, h => by simp at h
  | n + 1, c :: r, h => by
    by_cases hc : c = 32
    · rw [hc, List.cons_append, Wd_sp, Wd_sp]
      exact Wd_snoc n r (by simpa using h)
    · rw [List.cons_append, Wd_cons hc, Wd_cons hc, ← List.cons_append, wl_snoc]
      by_cases hw : wl (c :: r) = 0
      · rw [if_pos hw, if_pos hw]
      · rw [if_neg hw, if_neg hw]
        have hle := wl_le (c :: r)
        rw [List.drop_append_of_le_length hle, List.take_append_of_le_length hle, Wd_snoc n]
        rw [List.length_drop]
        simp only [List.length_cons] at h ⊢
        omega
theorem Wd_post (l : List Nat) : Wd (l ++ [32, 32]) = Wd l := by
  rw [show l ++ [32, 32] = (l ++ [32]) ++ [32] by simp, Wd_snoc _ _ (Nat.le_refl _), Wd_snoc _ _ (Nat.le_refl _)]
end K00
namespace K00
open PySem PySem.Spec PyProof.Rows L2 VS
theorem sLET : Str.ofString "abcdefghijklmnopqrstuvwxyz" = tx LET := by decide +kernel
theorem sFIG : Str.ofString "0123456789" = tx FIG := by decide +kernel
theorem sSP : Str.ofString " " = tx [32] := by decide +kernel
theorem sEMP : Str.ofString "" = tx [] := by decide +kernel
/-! ### behind_run -/
abbrev qBr : MT := ofB (bAnd (pB (p2 dLt (pV 3) (pCall dLen (paCons (pV 0) ((fun _ => some [])))))) (pB (p2 dIn (p2 dIx (pV 0) (pV 3)) (pV 2))))
theorem br_loop {x g : List Nat} {u : T} (hx : x.length ≤ 1000000) : ∀ (n e : Nat), x.length - e < n → e ≤ x.length →
    mWhile qBr (sAug dAddI 3 (ofP (pC (.int 1)))) n [some (tS x), some u, some (tS g), some (tI e)] = some (.nx [some (tS x), some u, some (tS g), some (tI (e + tw g (x.drop e)))])
  | 0, e, h, _ => by omega
  | n + 1, e, h, he => by
    have hl := dLen_tx (l := x) (by omega)
    by_cases h1 : e < x.length
    · have hc : x[e]? = some x[e] := List.getElem?_eq_getElem h1
      have hd : x.drop e = x[e] :: x.drop (e + 1) := List.drop_eq_getElem_cons h1
      have hi := dIx_tx (by omega) hc
      by_cases h2 : x[e] ∈ g
      · rw [while_t (S1 := [some (tS x), some u, some (tS g), some (tI e)]) (S2 := [some (tS x), some u, some (tS g), some (tI (e + 1 : Nat))])]
        · rw [br_loop hx n (e + 1) (by omega) (by omega), hd, tw_cons, if_pos h2]
          congr 8
          omega
        · simp [ofB, bAnd, pB, p2, pV, pCall, paCons, dLt, dCmp, asB, hl, hi, h1, h2]
        · simp [sAug, ofP, pC, dAddI, putS]
      · rw [while_f (S1 := [some (tS x), some u, some (tS g), some (tI e)])]
        · rw [hd, tw_cons, if_neg h2]
          rfl
        · simp [ofB, bAnd, pB, p2, pV, pCall, paCons, dLt, dCmp, asB, hl, hi, h1, h2]
    · have e0 : x.drop e = [] := List.drop_eq_nil_of_le (by omega)
      rw [while_f (S1 := [some (tS x), some u, some (tS g), some (tI e)])]
      · rw [e0]
        rfl
      · simp [ofB, bAnd, pB, p2, pV, pCall, paCons, dLt, dCmp, asB, hl, h1]
theorem behind_run_eq {x g : List Nat} {s : Nat} (hx : x.length ≤ 1000000) (hs : s ≤ x.length) : behind_run [tS x, tI s, tS g] = some (tI (s + tw g (x.drop s)), [some (tS x), some (tI s), some (tS g)]) := by
  have hl : mWhile qBr (sAug dAddI 3 (ofP (pC (.int 1)))) fuel [some (tS x), some (tI s), some (tS g), some (tI s)] = _ := br_loop (u := tI s) hx fuel s (by unfold fuel; omega) hs
  simp [behind_run, mkFn, b_behind_run, entry, sSeq, sAsg, eVar, putS, hl, sRet, eMov, outs]
/-! ### sign_at -/
def SGS : List (List Nat) := [[60, 61], [62, 61], [61, 61], [33, 61], [60], [62], [61], [43], [45], [40], [41], [91], [93], [44], [58]]
theorem sSGS : ([.str "<=", .str ">=", .str "==", .str "!=", .str "<", .str ">", .str "=", .str "+", .str "-", .str "(", .str ")", .str "[", .str "]", .str ",", .str ":"] : List D) = SGS.map fun l => .str (tx l) := by
  have h : ∀ (s : String) (l : List Nat), Str.ofString s = tx l → D.str s = .str (tx l) := fun s l e => by rw [← e]
  unfold SGS
  simp only [List.map_cons, List.map_nil]
  rw [h "<=" [60, 61] (by decide +kernel), h ">=" [62, 61] (by decide +kernel), h "==" [61, 61] (by decide +kernel), h "!=" [33, 61] (by decide +kernel), h "<" [60] (by decide +kernel), h ">" [62] (by decide +kernel), h "=" [61] (by decide +kernel),
    h "+" [43] (by decide +kernel), h "-" [45] (by decide +kernel), h "(" [40] (by decide +kernel), h ")" [41] (by decide +kernel), h "[" [91] (by decide +kernel), h "]" [93] (by decide +kernel), h "," [44] (by decide +kernel), h ":" [58] (by decide +kernel)]
/-- the first of the signs that stands at the front -/
def fst : List (List Nat) → List Nat → List Nat
  | [], _ => []
  | g :: gs, l => if l.take g.length = g then g else fst gs l
abbrev bSg : MS := sIf (ofB (pB (p2 dEq (pSlS (pV 0) (oPart (some (pV 1))) (oPart (some (p2 dAdd (pV 1) (pCall dLen (paCons (pV 2) ((fun _ => some [])))))))) (pV 2)))) (sRet (eMov 2)) (sNext)
theorem sg_loop {x : List Nat} {s : Nat} (hx : x.length ≤ 1000000) : ∀ (gs : List (List Nat)) (o : Option T), (∀ g ∈ gs, g ≠ [] ∧ g.length ≤ 2) →
    (fst gs (x.drop s) = [] → ∃ o', loopF (putS 2) bSg (gs.map fun l => .str (tx l)) [some (tS x), some (tI s), o] = some (.nx [some (tS x), some (tI s), o'])) ∧
    (fst gs (x.drop s) ≠ [] → loopF (putS 2) bSg (gs.map fun l => .str (tx l)) [some (tS x), some (tI s), o] = some (.rt (tS (fst gs (x.drop s))) [some (tS x), some (tI s), none]))
  | [], o, _ => ⟨fun _ => ⟨o, rfl⟩, fun h => absurd rfl h⟩
  | g :: gs, o, h => by
    obtain ⟨g0, g2⟩ := h g List.mem_cons_self
    have ih := sg_loop (s := s) hx gs (some (tS g)) fun g' hg => h g' (List.mem_cons_of_mem _ hg)
    have e1 : putS 2 (.sh (.str (tx g))) [some (tS x), some (tI s), o] = some [some (tS x), some (tI s), some (tS g)] := rfl
    have hl := dLen_tx (l := g) (by omega)
    have hsl := dSl_tx (l := x) (a := s) (b := s + g.length) (by omega)
    rw [Nat.add_sub_cancel_left] at hsl
    have ha : ((s : Int) + (g.length : Int)) = ((s + g.length : Nat) : Int) := by omega
    have hq : (ofB (pB (p2 dEq (pSlS (pV 0) (oPart (some (pV 1))) (oPart (some (p2 dAdd (pV 1) (pCall dLen (paCons (pV 2) ((fun _ => some [])))))))) (pV 2)))) [some (tS x), some (tI s), some (tS g)] =
        some (decide ((x.drop s).take g.length = g), [some (tS x), some (tI s), some (tS g)]) := by
      simp [-Int.natCast_add, ofB, pB, p2, pSlS, oPart, pV, pCall, paCons, dAdd, hl, ha, hsl, dEq, asB]
      rw [Bool.eq_iff_iff]
      simp
    have e3 : fst (g :: gs) (x.drop s) = if (x.drop s).take g.length = g then g else fst gs (x.drop s) := rfl
    by_cases hg : (x.drop s).take g.length = g
    · rw [e3, if_pos hg]
      refine ⟨fun z => absurd z g0, fun _ => ?_⟩
      rw [decide_eq_true hg] at hq
      refine loop_rt e1 ?_
      rw [bSg, sIf_t hq]
      rfl
    · rw [e3, if_neg hg]
      rw [decide_eq_false hg] at hq
      have e4 : loopF (putS 2) bSg ((g :: gs).map fun l => .str (tx l)) [some (tS x), some (tI s), o] = loopF (putS 2) bSg (gs.map fun l => .str (tx l)) [some (tS x), some (tI s), some (tS g)] := loop_nx e1 (by rw [bSg, sIf_f hq]; rfl)
      rw [e4]
      exact ih
theorem fst_sg (l : List Nat) : (fst SGS l).length = sg l := by
  match l with
  | [] => rfl
  | [a] =>
    by_cases h : a ∈ SG1
    · have h' : a = 60 ∨ a = 62 ∨ a = 61 ∨ a = 43 ∨ a = 45 ∨ a = 40 ∨ a = 41 ∨ a = 91 ∨ a = 93 ∨ a = 44 ∨ a = 58 := by simpa [SG1] using h
      rcases h' with rfl | rfl | rfl | rfl | rfl | rfl | rfl | rfl | rfl | rfl | rfl <;> decide
    · have h' : ¬ a = 60 ∧ ¬ a = 62 ∧ ¬ a = 61 ∧ ¬ a = 43 ∧ ¬ a = 45 ∧ ¬ a = 40 ∧ ¬ a = 41 ∧ ¬ a = 91 ∧ ¬ a = 93 ∧ ¬ a = 44 ∧ ¬ a = 58 := by simpa [SG1, not_or] using h
      obtain ⟨h1, h2, h3, h4, h5, h6, h7, h8, h9, h10, h11⟩ := h'
      rw [sg_cons, if_neg h]
      simp [SGS, fst, two, h1, h2, h3, h4, h5, h6, h7, h8, h9, h10, h11]
  | a :: b :: r =>
    rw [sg_cons]
    by_cases hb : b = 61
    · subst hb
      by_cases ha : a = 60 ∨ a = 62 ∨ a = 61 ∨ a = 33
      · rcases ha with rfl | rfl | rfl | rfl <;> simp [SGS, fst, two]
      · obtain ⟨h1, h2, h3, h12⟩ : ¬ a = 60 ∧ ¬ a = 62 ∧ ¬ a = 61 ∧ ¬ a = 33 := by simpa [not_or] using ha
        by_cases h : a ∈ SG1
        · have h' : a = 60 ∨ a = 62 ∨ a = 61 ∨ a = 43 ∨ a = 45 ∨ a = 40 ∨ a = 41 ∨ a = 91 ∨ a = 93 ∨ a = 44 ∨ a = 58 := by simpa [SG1] using h
          rw [if_pos h]
          rcases h' with rfl | rfl | rfl | rfl | rfl | rfl | rfl | rfl | rfl | rfl | rfl <;> simp [SGS, fst, two] at h1 h2 h3 ⊢
        · have h' : ¬ a = 60 ∧ ¬ a = 62 ∧ ¬ a = 61 ∧ ¬ a = 43 ∧ ¬ a = 45 ∧ ¬ a = 40 ∧ ¬ a = 41 ∧ ¬ a = 91 ∧ ¬ a = 93 ∧ ¬ a = 44 ∧ ¬ a = 58 := by simpa [SG1, not_or] using h
          obtain ⟨_, _, _, h4, h5, h6, h7, h8, h9, h10, h11⟩ := h'
          rw [if_neg h]
          simp [SGS, fst, two, h1, h2, h3, h4, h5, h6, h7, h8, h9, h10, h11, h12]
    · have ht : two (a :: b :: r) = false := by simp [two, hb]
      rw [ht, if_neg Bool.false_ne_true]
      by_cases h : a ∈ SG1
      · have h' : a = 60 ∨ a = 62 ∨ a = 61 ∨ a = 43 ∨ a = 45 ∨ a = 40 ∨ a = 41 ∨ a = 91 ∨ a = 93 ∨ a = 44 ∨ a = 58 := by simpa [SG1] using h
        rw [if_pos h]
        rcases h' with rfl | rfl | rfl | rfl | rfl | rfl | rfl | rfl | rfl | rfl | rfl <;> simp [SGS, fst, hb]
      · have h' : ¬ a = 60 ∧ ¬ a = 62 ∧ ¬ a = 61 ∧ ¬ a = 43 ∧ ¬ a = 45 ∧ ¬ a = 40 ∧ ¬ a = 41 ∧ ¬ a = 91 ∧ ¬ a = 93 ∧ ¬ a = 44 ∧ ¬ a = 58 := by simpa [SG1, not_or] using h
        obtain ⟨h1, h2, h3, h4, h5, h6, h7, h8, h9, h10, h11⟩ := h'
        rw [if_neg h]
        simp [SGS, fst, hb, h1, h2, h3, h4, h5, h6, h7, h8, h9, h10, h11]
theorem sign_at_eq {x : List Nat} {s : Nat} (hx : x.length ≤ 1000000) : sign_at [tS x, tI s] = some (tS (fst SGS (x.drop s)), [some (tS x), some (tI s)]) := by
  obtain ⟨h1, h2⟩ := sg_loop (s := s) hx SGS none (by decide)
  by_cases h : fst SGS (x.drop s) = []
  · obtain ⟨o', e⟩ := h1 h
    rw [h]
    simp [sign_at, mkFn, b_sign_at, entry, sSeq, mFor, iTup', eC, sSGS, e, sRet, ofP, pC, outs, sEMP]
  · simp [sign_at, mkFn, b_sign_at, entry, sSeq, mFor, iTup', eC, sSGS, h2 h, outs]
/-! ### behind_word -/
theorem behind_word_eq {x : List Nat} {s c : Nat} {r : List Nat} (hx : x.length ≤ 1000000) (hd : x.drop s = c :: r) : behind_word [tS x, tI s] = some (tI (s + wl (x.drop s)), [some (tS x), some (tI s)]) := by
  have hs : s < x.length := by
    refine Nat.lt_of_not_le fun h => ?_
    rw [List.drop_eq_nil_of_le h] at hd
    cases hd
  have hc : x[s]? = some c := by
    have : (x.drop s)[0]? = some c := by rw [hd]; rfl
    rw [List.getElem?_drop] at this
    simpa using this
  have hi := dIx_tx (l := x) (by omega) hc
  have b1 := behind_run_eq (g := LET) hx (Nat.le_of_lt hs)
  have b2 := behind_run_eq (g := FIG) hx (Nat.le_of_lt hs)
  have b3 := sign_at_eq (s := s) hx
  have hl := dLen_tx (l := fst SGS (x.drop s)) (by rw [fst_sg]; have := sg_le (x.drop s); rw [List.length_drop] at this; omega)
  rw [fst_sg] at hl
  rw [hd, wl_cons, ← hd]
  by_cases h1 : c ∈ LET
  · simp [behind_word, mkFn, b_behind_word, entry, sSeq, sIf, ofB, pB, p2, pV, pC, hi, sLET, asB, h1, sRet, eCall, aMv, aCons, aNil, ofP, b1, putB, outs]
  · by_cases h2 : c ∈ FIG
    · simp [behind_word, mkFn, b_behind_word, entry, sSeq, sIf, ofB, pB, p2, pV, pC, hi, sLET, sFIG, asB, h1, h2, sRet, eCall, aMv, aCons, aNil, ofP, b2, putB, outs, sNext]
    · simp [behind_word, mkFn, b_behind_word, entry, sSeq, sIf, ofB, pB, p2, pV, pC, hi, sLET, sFIG, asB, h1, h2, sRet, eCall, aMv, aCons, aNil, ofP, b3, putB, outs, sNext, e2, eVar, eC1, hl, sD, dAdd]
end K00
namespace K00
open PySem PySem.Spec PyProof.Rows L2 VS
/-! ### split_row -/
abbrev qSr : MT := ofB (pB (p2 dLt (pV 2) (pCall dLen (paCons (pV 0) ((fun _ => some []))))))
abbrev bSr : MS := (sSeq (sAsg (eCall behind_word [some 0, some 2] (aMv 0 (aMv 2 (aNil)))) (putS 3)) (sSeq (sIf (ofB (pB (p2 dEq (pV 3) (pV 2)))) (sRet (ofP (pC .non))) (sNext)) (sSeq (sApp 1 (ofP (pSlS (pV 0) (oPart (some (pV 2))) (oPart (some (pV 3)))))) (sAsg (eCall behind_run [some 0, some 3, none] (aMv 0 (aMv 3 (aCons (ofP (pC (.str " "))) (aNil))))) (putS 2)))))
theorem take_add {α : Type} (l : List α) (a b : Nat) : (l.drop a).take (a + b - a) = (l.drop a).take b := by rw [Nat.add_sub_cancel_left]
theorem len_drop {l : List Nat} {a c : Nat} {r : List Nat} (h : l.drop a = c :: r) : a < l.length := by
  refine Nat.lt_of_not_le fun z => ?_
  rw [List.drop_eq_nil_of_le z] at h
  cases h
theorem sr_loop {x : List Nat} (hx : x.length ≤ 1000000) : ∀ (n s : Nat) (ws : List (List Nat)) (o : Option T), x.length - s < n → s ≤ x.length → ws.length ≤ s → (∀ c r, x.drop s = c :: r → c ≠ 32) →
    (∀ vs, Wd (x.drop s) = some vs → ∃ u o', mWhile qSr bSr n [some (tS x), some (.lst (ws.map tS)), some (tI s), o] = some (.nx [some (tS x), some (.lst ((ws ++ vs).map tS)), u, o'])) ∧
    (Wd (x.drop s) = none → ∃ S', mWhile qSr bSr n [some (tS x), some (.lst (ws.map tS)), some (tI s), o] = some (.rt tN (some (tS x) :: S')))
  | 0, s, ws, o, h, _, _, _ => by omega
  | n + 1, s, ws, o, h, hs, hw, hsp => by
    have hl := dLen_tx (l := x) (by omega)
    cases hd : x.drop s with
    | nil =>
      have h1 : ¬ s < x.length := fun z => by
        have := congrArg List.length hd
        rw [List.length_drop, List.length_nil] at this
        omega
      refine ⟨fun vs hv => ?_, fun hv => nomatch hv⟩
      cases hv
      refine ⟨some (tI s), o, ?_⟩
      rw [while_f (S1 := [some (tS x), some (.lst (ws.map tS)), some (tI s), o])]
      · simp
      · simp [ofB, pB, p2, pV, pCall, paCons, dLt, dCmp, asB, hl, h1]
    | cons c r =>
      have h1 : s < x.length := len_drop hd
      have hc := hsp c r hd
      have bw := behind_word_eq hx hd
      have hq : qSr [some (tS x), some (.lst (ws.map tS)), some (tI s), o] = some (true, [some (tS x), some (.lst (ws.map tS)), some (tI s), o]) := by
        simp [ofB, pB, p2, pV, pCall, paCons, dLt, dCmp, asB, hl, h1]
      have e1 : (sAsg (eCall behind_word [some 0, some 2] (aMv 0 (aMv 2 (aNil)))) (putS 3)) [some (tS x), some (.lst (ws.map tS)), some (tI s), o] = some (.nx [some (tS x), some (.lst (ws.map tS)), some (tI s), some (tI (s + wl (x.drop s)))]) := by
        simp [sAsg, eCall, aMv, aNil, bw, putB, putS]
      rw [Wd_cons hc]
      by_cases hk : wl (c :: r) = 0
      · rw [if_pos hk]
        refine ⟨fun vs hv => (nomatch hv), fun _ => ?_⟩
        rw [hd, hk] at e1
        refine ⟨[some (.lst (ws.map tS)), some (tI s), some (tI s)], ?_⟩
        show (qSr _).bind _ = _
        rw [hq]
        show (bSr _).bind _ = _
        rw [bSr, sSeq_nx e1]
        have e2 : (ofB (pB (p2 dEq (pV 3) (pV 2)))) [some (tS x), some (.lst (ws.map tS)), some (tI s), some (tI (s + 0))] = some (true, [some (tS x), some (.lst (ws.map tS)), some (tI s), some (tI (s + 0))]) := by
          simp [ofB, pB, p2, pV, dEq, asB]
        rw [sSeq_rt (t := tN) (S1 := [some (tS x), some (.lst (ws.map tS)), some (tI s), some (tI (s + 0))]) (by rw [sIf_t e2]; rfl)]
        rfl
      · rw [if_neg hk]
        have hwl := wl_le (c :: r)
        have hlen : (c :: r).length = x.length - s := by rw [← hd, List.length_drop]
        have e2 : (ofB (pB (p2 dEq (pV 3) (pV 2)))) [some (tS x), some (.lst (ws.map tS)), some (tI s), some (tI (s + wl (x.drop s)))] = some (false, [some (tS x), some (.lst (ws.map tS)), some (tI s), some (tI (s + wl (x.drop s)))]) := by
          rw [hd]
          simp [ofB, pB, p2, pV, dEq, asB]
          omega
        have hsl := dSl_tx (l := x) (a := s) (b := s + wl (x.drop s)) (by omega)
        rw [take_add] at hsl
        have hwn : ws.length < sizeLine := by rw [sizeLine_val]; omega
        have e3 : (sApp 1 (ofP (pSlS (pV 0) (oPart (some (pV 2))) (oPart (some (pV 3)))))) [some (tS x), some (.lst (ws.map tS)), some (tI s), some (tI (s + wl (x.drop s)))] =
            some (.nx [some (tS x), some (.lst ((ws ++ [(x.drop s).take (wl (x.drop s))]).map tS)), some (tI s), some (tI (s + wl (x.drop s)))]) := by
          simp [-Int.natCast_add, sApp, ofP, pSlS, oPart, pV, hsl, hwn]
        have br := behind_run_eq (x := x) (g := [32]) (s := s + wl (x.drop s)) hx (by rw [hd]; omega)
        have e4 : (sAsg (eCall behind_run [some 0, some 3, none] (aMv 0 (aMv 3 (aCons (ofP (pC (.str " "))) (aNil))))) (putS 2)) [some (tS x), some (.lst ((ws ++ [(x.drop s).take (wl (x.drop s))]).map tS)), some (tI s), some (tI (s + wl (x.drop s)))] =
            some (.nx [some (tS x), some (.lst ((ws ++ [(x.drop s).take (wl (x.drop s))]).map tS)), some (tI (s + wl (x.drop s) + tw [32] (x.drop (s + wl (x.drop s))))), some (tI (s + wl (x.drop s)))]) := by
          simp only [sAsg, eCall, aMv, aNil, aCons, ofP, pC, sSP, List.getElem?_cons_zero, List.getElem?_cons_succ, Option.bind_some, sc_str, if_pos, List.set_cons_zero, List.set_cons_succ, br]
          rfl
        have eb : bSr [some (tS x), some (.lst (ws.map tS)), some (tI s), o] = some (.nx [some (tS x), some (.lst ((ws ++ [(x.drop s).take (wl (x.drop s))]).map tS)), some (tI (s + wl (x.drop s) + tw [32] (x.drop (s + wl (x.drop s))))), some (tI (s + wl (x.drop s)))]) := by
          rw [bSr, sSeq_nx e1, sSeq_nx (by rw [sIf_f e2]; rfl), sSeq_nx e3, e4]
        rw [while_t hq eb]
        have tl := tw_le [32] (x.drop (s + wl (x.drop s)))
        rw [List.length_drop] at tl
        have e0 : x.drop (s + wl (x.drop s)) = (c :: r).drop (wl (c :: r)) := by rw [← hd, List.drop_drop]
        have edr : x.drop (s + wl (x.drop s) + tw [32] (x.drop (s + wl (x.drop s)))) = ((c :: r).drop (wl (c :: r))).drop (tw [32] ((c :: r).drop (wl (c :: r)))) := by
          rw [← List.drop_drop, e0]
        have hk' : wl (x.drop s) ≠ 0 := by rw [hd]; exact hk
        have ih := sr_loop hx n (s + wl (x.drop s) + tw [32] (x.drop (s + wl (x.drop s)))) (ws ++ [(x.drop s).take (wl (x.drop s))]) (some (tI (s + wl (x.drop s)))) (by omega) (by rw [hd] at tl ⊢; omega) (by rw [List.length_append, List.length_singleton]; omega)
          (fun c' r' h' => by rw [edr] at h'; exact tw_head h')
        rw [edr, Wd_drop_sp] at ih
        refine ⟨fun vs hv => ?_, fun hv => ?_⟩
        · obtain ⟨us, h5, h6⟩ := Option.map_eq_some_iff.mp hv
          obtain ⟨u, o', e5⟩ := ih.1 us h5
          refine ⟨u, o', ?_⟩
          rw [e5, ← h6, hd]
          simp
        · have h5 : Wd ((c :: r).drop (wl (c :: r))) = none := by
            cases h6 : Wd ((c :: r).drop (wl (c :: r))) with
            | none => rfl
            | some us =>
              rw [h6] at hv
              cases hv
          exact ih.2 h5
/-- a result as a tree -/
def rowT : Option (List (List Nat)) → T
  | none => tN
  | some vs => .lst (vs.map tS)
theorem split_row_eq {x : List Nat} (hx : x.length ≤ 1000000) : split_row [tS x] = some (rowT (Wd x), [some (tS x)]) := by
  have br := behind_run_eq (x := x) (g := [32]) (s := 0) hx (Nat.zero_le _)
  rw [Nat.zero_add, List.drop_zero] at br
  have tl := tw_le [32] x
  have L := sr_loop hx fuel (tw [32] x) [] none (by unfold fuel; omega) tl (Nat.zero_le _) (fun c r h => tw_head h)
  rw [Wd_drop_sp] at L
  simp only [List.map_nil, List.nil_append] at L
  have e1 : (sAsg (eLst (aNil)) (putS 1)) [some (tS x), none, none, none] = some (.nx [some (tS x), some (.lst []), none, none]) := rfl
  have e2 : (sAsg (eCall behind_run [some 0, none, none] (aMv 0 (aCons (ofP (pC (.int 0))) (aCons (ofP (pC (.str " "))) (aNil))))) (putS 2)) [some (tS x), some (.lst []), none, none] = some (.nx [some (tS x), some (.lst []), some (tI (tw [32] x)), none]) := by
    simp only [sAsg, eCall, aMv, aNil, aCons, ofP, pC, sSP, List.getElem?_cons_zero, List.getElem?_cons_succ, Option.bind_some, sc_str, sc_int, if_pos, List.set_cons_zero, List.set_cons_succ]
    rw [show (T.sh (.int 0)) = tI 0 from rfl, br]
    rfl
  show (b_split_row [some (tS x), none, none, none]).bind _ = _
  rw [b_split_row, sSeq_nx e1, sSeq_nx e2]
  cases hw : Wd x with
  | some vs =>
    obtain ⟨u, o', e3⟩ := L.1 vs hw
    rw [sSeq_nx e3]
    rfl
  | none =>
    obtain ⟨S', e3⟩ := L.2 hw
    rw [sSeq_rt e3]
    rfl
end K00
namespace K00
open PySem PySem.Spec PyProof.Rows L2 VS
theorem letters_eq : f_law_letters [] = some (tS LET, []) := by
  simp [f_law_letters, mkFn, b_f_law_letters, sRet, ofP, pC, outs, sLET, entry]
/-! ### _law_end_of -/
theorem rng_cons (a : Int) (n : Nat) : rngD a (n + 1) = .int a :: rngD (a + 1) n := by
  unfold rngD
  rw [List.range_succ_eq_map, List.map_cons, List.map_map]
  congr 1
  · simp
  · apply List.map_congr_left
    intro i _
    show D.int _ = D.int _
    congr 1
    show a + ((i + 1 : Nat) : Int) = a + 1 + (i : Int)
    omega
theorem rng_zero (a : Int) : rngD a 0 = [] := rfl
abbrev bEo : MS := (sIf (ofB (pB (p2 dNotIn (p2 dIx (pV 0) (pV 3)) (pV 2)))) (sRet (eMov 3)) (sNext))
theorem eo_loop {x g : List Nat} {u : T} (hx : x.length ≤ 1000000) : ∀ (n a : Nat) (o : Option T), a + n = x.length →
    (a + tw g (x.drop a) = x.length → ∃ o', loopF (putS 3) bEo (rngD (a : Nat) n) [some (tS x), some u, some (tS g), o] = some (.nx [some (tS x), some u, some (tS g), o'])) ∧
    (a + tw g (x.drop a) < x.length → loopF (putS 3) bEo (rngD (a : Nat) n) [some (tS x), some u, some (tS g), o] = some (.rt (tI (a + tw g (x.drop a))) [some (tS x), some u, some (tS g), none]))
  | 0, a, o, h => ⟨fun _ => ⟨o, rfl⟩, fun z => by omega⟩
  | n + 1, a, o, h => by
    have h1 : a < x.length := by omega
    have hc : x[a]? = some x[a] := List.getElem?_eq_getElem h1
    have hd : x.drop a = x[a] :: x.drop (a + 1) := List.drop_eq_getElem_cons h1
    have hi := dIx_tx (by omega) hc
    have ih := eo_loop (g := g) (u := u) hx n (a + 1) (some (tI a)) (by omega)
    rw [rng_cons, hd, tw_cons]
    by_cases h2 : x[a] ∈ g
    · have e1 : loopF (putS 3) bEo (.int (a : Nat) :: rngD ((a : Nat) + 1) n) [some (tS x), some u, some (tS g), o] = loopF (putS 3) bEo (rngD ((a + 1 : Nat)) n) [some (tS x), some u, some (tS g), some (tI a)] := by
        refine loop_nx (S1 := [some (tS x), some u, some (tS g), some (tI a)]) rfl ?_
        rw [bEo, sIf_f (S1 := [some (tS x), some u, some (tS g), some (tI a)])]
        · rfl
        · simp [ofB, pB, p2, pV, hi, asB, h2]
      rw [if_pos h2, e1, show a + (tw g (x.drop (a + 1)) + 1) = a + 1 + tw g (x.drop (a + 1)) by omega]
      exact ih
    · rw [if_neg h2]
      refine ⟨fun z => by omega, fun _ => ?_⟩
      refine loop_rt (S1 := [some (tS x), some u, some (tS g), some (tI a)]) rfl ?_
      rw [bEo, sIf_t (S1 := [some (tS x), some u, some (tS g), some (tI a)])]
      · rfl
      · simp [ofB, pB, p2, pV, hi, asB, h2]
theorem end_of_eq {x g : List Nat} {a : Nat} (hx : x.length ≤ 1000000) (ha : a ≤ x.length) : f_law_end_of [tS x, tI a, tS g] = some (tI (a + tw g (x.drop a)), [some (tS x), some (tI a), some (tS g)]) := by
  have hl := dLen_tx (l := x) (by omega)
  have tl := tw_le g (x.drop a)
  rw [List.length_drop] at tl
  obtain ⟨L1, L2⟩ := eo_loop (g := g) (u := tI a) hx (x.length - a) a none (by omega)
  have ei : (iRng2' (paCons (pV 1) (paCons (pCall dLen (paCons (pV 0) ((fun _ => some [])))) ((fun _ => some []))))) [some (tS x), some (tI a), some (tS g), none] = some (rngD (a : Nat) (x.length - a), [some (tS x), some (tI a), some (tS g), none]) :=
    iRng2_of (by simp [paCons, pV, pCall, hl]) (by omega) hx
  show (b_f_law_end_of [some (tS x), some (tI a), some (tS g), none]).bind _ = _
  by_cases h : a + tw g (x.drop a) < x.length
  · rw [b_f_law_end_of, sSeq_rt ((mFor_of ei).trans (L2 h))]
    rfl
  · obtain ⟨o', e⟩ := L1 (by omega)
    have : a + tw g (x.drop a) = x.length := by omega
    rw [b_f_law_end_of, sSeq_nx ((mFor_of ei).trans e), this]
    simp [sRet, ofP, pCall, paCons, pV, hl, outs]
/-! ### _law_words -/
abbrev bLw : MS := (sSeq (sIf (ofB (pB (p2 dGe (pV 2) (pCall dLen (paCons (pV 0) ((fun _ => some []))))))) (sBreak) (sNext)) (sSeq (sAsg (ofP (p2 dAdd (pV 2) (pC (.int 1)))) (putS 4)) (sSeq (sIf (qB (e2 dIn (eIxN 0 (eVar 2)) (eCall f_law_letters [] aNil))) (sAsg (eCall f_law_end_of [some 0, some 2, none] (aMv 0 (aMv 2 (aCons (eCall f_law_letters [] aNil) (aNil))))) (putS 4)) (sIf (ofB (pB (p2 dIn (p2 dIx (pV 0) (pV 2)) (pC (.str "0123456789"))))) (sAsg (eCall f_law_end_of [some 0, some 2, none] (aMv 0 (aMv 2 (aCons (ofP (pC (.str "0123456789"))) (aNil))))) (putS 4)) (sIf (qB (e2 dIn (ofP (pSlS (pV 0) (oPart (some (pV 2))) (oPart (some (p2 dAdd (pV 2) (pC (.int 2))))))) (eLst (aCons (ofP (pC (.str "<="))) (aCons (ofP (pC (.str ">="))) (aCons (ofP (pC (.str "=="))) (aCons (ofP (pC (.str "!="))) (aNil)))))))) (sAsg (ofP (p2 dAdd (pV 2) (pC (.int 2)))) (putS 4)) (sIf (ofB (pB (p2 dNotIn (p2 dIx (pV 0) (pV 2)) (pC (.str "<>=+-()[],: "))))) (sRet (ofP (pC .non))) (sNext))))) (sSeq (sIf (ofB (pB (p2 dNe (p2 dIx (pV 0) (pV 2)) (pC (.str " "))))) (sApp 1 (ofP (pSlS (pV 0) (oPart (some (pV 2))) (oPart (some (pV 4)))))) (sNext)) (sAsg (eVar 4) (putS 2))))))
theorem sLE : Str.ofString "<=" = tx [60, 61] := by decide +kernel
theorem sGE : Str.ofString ">=" = tx [62, 61] := by decide +kernel
theorem sEQ : Str.ofString "==" = tx [61, 61] := by decide +kernel
theorem sNE : Str.ofString "!=" = tx [33, 61] := by decide +kernel
theorem sSG : Str.ofString "<>=+-()[],: " = tx (SG1 ++ [32]) := by decide +kernel
theorem two_take {x : List Nat} {a : Nat} {c : Nat} {r : List Nat} (hd : x.drop a = c :: r) : ([[60, 61], [62, 61], [61, 61], [33, 61]].any fun l => l == (x.drop a).take 2) = two (c :: r) := by
  rw [hd]
  match r with
  | [] => simp [two]
  | b :: r =>
    rw [Bool.eq_iff_iff]
    simp [two]
    constructor
    · rintro (⟨rfl, rfl⟩ | ⟨rfl, rfl⟩ | ⟨rfl, rfl⟩ | ⟨rfl, rfl⟩) <;> simp
    · rintro ⟨(((h | h) | h) | h), rfl⟩ <;> simp [h]
/-- one turn -/
theorem lw_turn {x : List Nat} (hx : x.length ≤ 1000000) {a c : Nat} {r : List Nat} (hd : x.drop a = c :: r) (ws : List (List Nat)) (hw : ws.length ≤ a) (u o : Option T) :
    (c = 32 → ∃ o', bLw [some (tS x), some (.lst (ws.map tS)), some (tI a), u, o] = some (.nx [some (tS x), some (.lst (ws.map tS)), some (tI (a + 1)), u, o'])) ∧
    (c ≠ 32 → wl (c :: r) ≠ 0 → ∃ o', bLw [some (tS x), some (.lst (ws.map tS)), some (tI a), u, o] = some (.nx [some (tS x), some (.lst ((ws ++ [(c :: r).take (wl (c :: r))]).map tS)), some (tI (a + wl (c :: r))), u, o'])) ∧
    (c ≠ 32 → wl (c :: r) = 0 → ∃ S', bLw [some (tS x), some (.lst (ws.map tS)), some (tI a), u, o] = some (.rt tN (some (tS x) :: S'))) := by
  have h1 : a < x.length := len_drop hd
  have hc : x[a]? = some c := by
    have : (x.drop a)[0]? = some c := by rw [hd]; rfl
    rw [List.getElem?_drop] at this
    simpa using this
  have hl := dLen_tx (l := x) (by omega)
  have hi := dIx_tx (by omega) hc
  have n0 : (sIf (ofB (pB (p2 dGe (pV 2) (pCall dLen (paCons (pV 0) ((fun _ => some []))))))) (sBreak) (sNext)) [some (tS x), some (.lst (ws.map tS)), some (tI a), u, o] = some (.nx [some (tS x), some (.lst (ws.map tS)), some (tI a), u, o]) := by
    have z : ¬ ((x.length : Int) ≤ (a : Int)) := by omega
    rw [sIf_f (S1 := [some (tS x), some (.lst (ws.map tS)), some (tI a), u, o])]
    · rfl
    · simp [ofB, pB, p2, pV, pCall, paCons, dGe, dCmp, asB, hl, z]
  have n1 : (sAsg (ofP (p2 dAdd (pV 2) (pC (.int 1)))) (putS 4)) [some (tS x), some (.lst (ws.map tS)), some (tI a), u, o] = some (.nx [some (tS x), some (.lst (ws.map tS)), some (tI a), u, some (tI (a + 1))]) := by
    simp [sAsg, ofP, p2, pV, pC, dAdd, putS]
  -- the tail
  have tail : ∀ (k : Nat), (sSeq (sIf (ofB (pB (p2 dNe (p2 dIx (pV 0) (pV 2)) (pC (.str " "))))) (sApp 1 (ofP (pSlS (pV 0) (oPart (some (pV 2))) (oPart (some (pV 4)))))) (sNext)) (sAsg (eVar 4) (putS 2))) [some (tS x), some (.lst (ws.map tS)), some (tI a), u, some (tI (a + k))] =
      some (.nx [some (tS x), some (.lst ((if c = 32 then ws else ws ++ [(x.drop a).take k]).map tS)), some (tI (a + k)), u, some (tI (a + k))]) := fun k => by
    have hsl := dSl_tx (l := x) (a := a) (b := a + k) (by omega)
    rw [take_add] at hsl
    have hwn : ws.length < sizeLine := by rw [sizeLine_val]; omega
    by_cases h : c = 32
    · rw [if_pos h, sSeq_nx (S1 := [some (tS x), some (.lst (ws.map tS)), some (tI a), u, some (tI (a + k))])]
      · rfl
      · rw [sIf_f (S1 := [some (tS x), some (.lst (ws.map tS)), some (tI a), u, some (tI (a + k))])]
        · rfl
        · simp [ofB, pB, p2, pV, pC, hi, sSP, dNe, asB, h]
    · rw [if_neg h, sSeq_nx (S1 := [some (tS x), some (.lst ((ws ++ [(x.drop a).take k]).map tS)), some (tI a), u, some (tI (a + k))])]
      · rfl
      · rw [sIf_t (S1 := [some (tS x), some (.lst (ws.map tS)), some (tI a), u, some (tI (a + k))])]
        · simp [-Int.natCast_add, sApp, ofP, pSlS, oPart, pV, hsl, hwn]
        · simp [ofB, pB, p2, pV, pC, hi, sSP, dNe, asB, h]
  have head : ∀ {m : MS} {f : Option Fl}, (m [some (tS x), some (.lst (ws.map tS)), some (tI a), u, some (tI (a + 1))]) = f → (sSeq (sIf (ofB (pB (p2 dGe (pV 2) (pCall dLen (paCons (pV 0) ((fun _ => some []))))))) (sBreak) (sNext)) (sSeq (sAsg (ofP (p2 dAdd (pV 2) (pC (.int 1)))) (putS 4)) m)) [some (tS x), some (.lst (ws.map tS)), some (tI a), u, o] = f := fun {m f} h => by
    rw [sSeq_nx n0, sSeq_nx n1, h]
  -- is it a letter
  have q1 : (qB (e2 dIn (eIxN 0 (eVar 2)) (eCall f_law_letters [] aNil))) [some (tS x), some (.lst (ws.map tS)), some (tI a), u, some (tI (a + 1))] = some (decide (c ∈ LET), [some (tS x), some (.lst (ws.map tS)), some (tI a), u, some (tI (a + 1))]) := by
    have hk : kid (tS x) (a : Int) = some (tS [c]) := by
      show (if lenOk (tx x) = true then _ else none) = _
      rw [if_pos (lenOk_tx (by omega)), atI_pos, show (tx x).cps.toList = x by simp, hc]
      rfl
    simp [qB, e2, eIxN, eVar, hk, isSh, eCall, aNil, letters_eq, sD, asB, putB]
  have q2 : (ofB (pB (p2 dIn (p2 dIx (pV 0) (pV 2)) (pC (.str "0123456789"))))) [some (tS x), some (.lst (ws.map tS)), some (tI a), u, some (tI (a + 1))] = some (decide (c ∈ FIG), [some (tS x), some (.lst (ws.map tS)), some (tI a), u, some (tI (a + 1))]) := by
    simp [ofB, pB, p2, pV, pC, hi, sFIG, asB]
  have q3 : (qB (e2 dIn (ofP (pSlS (pV 0) (oPart (some (pV 2))) (oPart (some (p2 dAdd (pV 2) (pC (.int 2))))))) (eLst (aCons (ofP (pC (.str "<="))) (aCons (ofP (pC (.str ">="))) (aCons (ofP (pC (.str "=="))) (aCons (ofP (pC (.str "!="))) (aNil)))))))) [some (tS x), some (.lst (ws.map tS)), some (tI a), u, some (tI (a + 1))] =
      some (two (c :: r), [some (tS x), some (.lst (ws.map tS)), some (tI a), u, some (tI (a + 1))]) := by
    have hsl := dSl_tx (l := x) (a := a) (b := a + 2) (by omega)
    rw [take_add] at hsl
    have ha : ((a : Int) + 2) = ((a + 2 : Nat) : Int) := by omega
    have h3 : dIn (.str (tx ((x.drop a).take 2))) (.lst [.str (tx [60, 61]), .str (tx [62, 61]), .str (tx [61, 61]), .str (tx [33, 61])]) = some (.bl (two (c :: r))) := by
      rw [← two_take hd]
      unfold dIn
      simp [items]
    simp [-Int.natCast_add, qB, e2, ofP, pSlS, oPart, pV, p2, pC, dAdd, ha, hsl, eLst, aCons, aNil, sLE, sGE, sEQ, sNE, h3, sD, asB]
  have q4 : (ofB (pB (p2 dNotIn (p2 dIx (pV 0) (pV 2)) (pC (.str "<>=+-()[],: "))))) [some (tS x), some (.lst (ws.map tS)), some (tI a), u, some (tI (a + 1))] = some (!decide (c ∈ SG1 ++ [32]), [some (tS x), some (.lst (ws.map tS)), some (tI a), u, some (tI (a + 1))]) := by
    simp only [ofB, pB, p2, pV, pC, hi, sSG, asB, List.getElem?_cons_zero, List.getElem?_cons_succ, Option.bind_some, fz_sh, dNotIn_tx]
  have en := fun (g : List Nat) => end_of_eq (g := g) (x := x) (a := a) hx (Nat.le_of_lt h1)
  -- all ways: where the word ends
  have mid : ∀ (k : Nat), (sIf (qB (e2 dIn (eIxN 0 (eVar 2)) (eCall f_law_letters [] aNil))) (sAsg (eCall f_law_end_of [some 0, some 2, none] (aMv 0 (aMv 2 (aCons (eCall f_law_letters [] aNil) (aNil))))) (putS 4)) (sIf (ofB (pB (p2 dIn (p2 dIx (pV 0) (pV 2)) (pC (.str "0123456789"))))) (sAsg (eCall f_law_end_of [some 0, some 2, none] (aMv 0 (aMv 2 (aCons (ofP (pC (.str "0123456789"))) (aNil))))) (putS 4)) (sIf (qB (e2 dIn (ofP (pSlS (pV 0) (oPart (some (pV 2))) (oPart (some (p2 dAdd (pV 2) (pC (.int 2))))))) (eLst (aCons (ofP (pC (.str "<="))) (aCons (ofP (pC (.str ">="))) (aCons (ofP (pC (.str "=="))) (aCons (ofP (pC (.str "!="))) (aNil)))))))) (sAsg (ofP (p2 dAdd (pV 2) (pC (.int 2)))) (putS 4)) (sIf (ofB (pB (p2 dNotIn (p2 dIx (pV 0) (pV 2)) (pC (.str "<>=+-()[],: "))))) (sRet (ofP (pC .non))) (sNext))))) [some (tS x), some (.lst (ws.map tS)), some (tI a), u, some (tI (a + 1))] = some (.nx [some (tS x), some (.lst (ws.map tS)), some (tI a), u, some (tI (a + k))]) →
      bLw [some (tS x), some (.lst (ws.map tS)), some (tI a), u, o] = some (.nx [some (tS x), some (.lst ((if c = 32 then ws else ws ++ [(x.drop a).take k]).map tS)), some (tI (a + k)), u, some (tI (a + k))]) := fun k h => head (by rw [sSeq_nx h, tail k])
  by_cases c1 : c ∈ LET
  · have c32 : c ≠ 32 := by rintro rfl; revert c1; decide
    rw [decide_eq_true c1] at q1
    have m1 := mid (tw LET (x.drop a)) (by
      rw [sIf_t q1]
      simp [sAsg, eCall, aMv, aCons, aNil, letters_eq, en, putB, putS])
    have ew : wl (c :: r) = tw LET (x.drop a) := by rw [wl_cons, if_pos c1, hd]
    refine ⟨fun z => absurd z c32, fun _ _ => ⟨some (tI (a + tw LET (x.drop a))), ?_⟩, fun _ z => ?_⟩
    · rw [m1, if_neg c32, ew, hd]
    · rw [wl_cons, if_pos c1, tw_cons, if_pos c1] at z
      omega
  · rw [decide_eq_false c1] at q1
    by_cases c2 : c ∈ FIG
    · have c32 : c ≠ 32 := by rintro rfl; revert c2; decide
      rw [decide_eq_true c2] at q2
      have m1 := mid (tw FIG (x.drop a)) (by
        rw [sIf_f q1, sIf_t q2]
        simp [sAsg, eCall, aMv, aCons, aNil, ofP, pC, sFIG, en, putB, putS])
      have ew : wl (c :: r) = tw FIG (x.drop a) := by rw [wl_cons, if_neg c1, if_pos c2, hd]
      refine ⟨fun z => absurd z c32, fun _ _ => ⟨some (tI (a + tw FIG (x.drop a))), ?_⟩, fun _ z => ?_⟩
      · rw [m1, if_neg c32, ew, hd]
      · rw [wl_cons, if_neg c1, if_pos c2, tw_cons, if_pos c2] at z
        omega
    · rw [decide_eq_false c2] at q2
      have ew : wl (c :: r) = sg (c :: r) := by rw [wl_cons, if_neg c1, if_neg c2]
      by_cases c3 : two (c :: r) = true
      · have c32 : c ≠ 32 := by
          rintro rfl
          cases r with
          | nil => cases c3
          | cons b r => simp [two] at c3
        rw [c3] at q3
        have m1 := mid 2 (by
          rw [sIf_f q1, sIf_f q2, sIf_t q3]
          simp [sAsg, ofP, p2, pV, pC, dAdd, putS])
        have es : sg (c :: r) = 2 := by rw [sg_cons, if_pos c3]
        refine ⟨fun z => absurd z c32, fun _ _ => ⟨some (tI (a + 2)), ?_⟩, fun _ z => ?_⟩
        · rw [m1, if_neg c32, ew, es, hd]
        · rw [ew, es] at z
          cases z
      · have c3' : two (c :: r) = false := by simpa using c3
        rw [c3'] at q3
        by_cases c4 : c ∈ SG1 ++ [32]
        · rw [decide_eq_true c4] at q4
          have m1 := mid 1 (by
            rw [sIf_f q1, sIf_f q2, sIf_f q3, sIf_f q4]
            rfl)
          refine ⟨fun z => ⟨_, by rw [m1, if_pos z]⟩, fun c32 _ => ⟨some (tI (a + 1)), ?_⟩, fun c32 z => ?_⟩
          · have c5 : c ∈ SG1 := by
              rcases List.mem_append.mp c4 with h | h
              · exact h
              · exact absurd (by simpa using h) c32
            have es : sg (c :: r) = 1 := by rw [sg_cons, if_neg c3, if_pos c5]
            rw [m1, if_neg c32, ew, es, hd]
          · have c5 : c ∈ SG1 := by
              rcases List.mem_append.mp c4 with h | h
              · exact h
              · exact absurd (by simpa using h) c32
            rw [ew, sg_cons, if_neg c3, if_pos c5] at z
            cases z
        · rw [decide_eq_false c4] at q4
          have c5 : c ∉ SG1 := fun h => c4 (List.mem_append_left _ h)
          have c32 : c ≠ 32 := fun h => c4 (by rw [h]; exact List.mem_append_right _ (by simp))
          have es : sg (c :: r) = 0 := by rw [sg_cons, if_neg c3, if_neg c5]
          refine ⟨fun z => absurd z c32, fun _ z => absurd (ew.trans es) z, fun _ _ => ⟨[some (.lst (ws.map tS)), some (tI a), u, some (tI (a + 1))], ?_⟩⟩
          refine head ?_
          rw [sSeq_rt (t := tN) (S1 := [some (tS x), some (.lst (ws.map tS)), some (tI a), u, some (tI (a + 1))])]
          rw [sIf_f q1, sIf_f q2, sIf_f q3, sIf_t q4]
          rfl
end K00
namespace K00
open PySem PySem.Spec PyProof.Rows L2 VS
theorem lw_loop {x : List Nat} (hx : x.length ≤ 1000000) : ∀ (n : Nat) (k : Int) (a : Nat) (ws : List (List Nat)) (u o : Option T), a ≤ x.length → x.length - a ≤ n → ws.length ≤ a →
    (∀ vs, Wd (x.drop a) = some vs → ∃ S', loopF (putS 3) bLw (rngD k n) [some (tS x), some (.lst (ws.map tS)), some (tI a), u, o] = some (.nx (some (tS x) :: some (.lst ((ws ++ vs).map tS)) :: S'))) ∧
    (Wd (x.drop a) = none → ∃ S', loopF (putS 3) bLw (rngD k n) [some (tS x), some (.lst (ws.map tS)), some (tI a), u, o] = some (.rt tN (some (tS x) :: S')))
  | 0, k, a, ws, u, o, h1, h2, h3 => by
    rw [List.drop_eq_nil_of_le (by omega), Wd_nil]
    refine ⟨fun vs hv => ?_, fun hv => nomatch hv⟩
    cases hv
    exact ⟨[some (tI a), u, o], by rw [List.append_nil]; rfl⟩
  | n + 1, k, a, ws, u, o, h1, h2, h3 => by
    rw [rng_cons]
    cases hd : x.drop a with
    | nil =>
      rw [Wd_nil]
      refine ⟨fun vs hv => ?_, fun hv => nomatch hv⟩
      cases hv
      have e : a = x.length := by
        have := congrArg List.length hd
        rw [List.length_drop, List.length_nil] at this
        omega
      have hl := dLen_tx (l := x) (by omega)
      refine ⟨[some (tI a), some (tZ k), o], ?_⟩
      rw [loop_bk (S1 := [some (tS x), some (.lst (ws.map tS)), some (tI a), some (tZ k), o]) rfl (S2 := [some (tS x), some (.lst (ws.map tS)), some (tI a), some (tZ k), o]), List.append_nil]
      rw [bLw, sSeq_bk]
      rw [sIf_t (S1 := [some (tS x), some (.lst (ws.map tS)), some (tI a), some (tZ k), o])]
      · rfl
      · simp [ofB, pB, p2, pV, pCall, paCons, dGe, dCmp, asB, hl, e]
    | cons c r =>
      obtain ⟨t1, t2, t3⟩ := lw_turn hx hd ws h3 (some (tZ k)) o
      have hlt := len_drop hd
      by_cases hc : c = 32
      · obtain ⟨o', e⟩ := t1 hc
        rw [loop_nx (S1 := [some (tS x), some (.lst (ws.map tS)), some (tI a), some (tZ k), o]) rfl e]
        have ih := lw_loop hx n (k + 1) (a + 1) ws (some (tZ k)) o' (by omega) (by omega) (by omega)
        have e2 : x.drop (a + 1) = r := by
          rw [← List.drop_drop, hd]
          rfl
        rw [e2] at ih
        rw [hc, Wd_sp]
        exact ih
      · rw [Wd_cons hc]
        by_cases hk : wl (c :: r) = 0
        · rw [if_pos hk]
          refine ⟨fun vs hv => (nomatch hv), fun _ => ?_⟩
          obtain ⟨S', e⟩ := t3 hc hk
          exact ⟨S', loop_rt (S1 := [some (tS x), some (.lst (ws.map tS)), some (tI a), some (tZ k), o]) rfl e⟩
        · rw [if_neg hk]
          obtain ⟨o', e⟩ := t2 hc hk
          have hwl := wl_le (c :: r)
          have hlen : (c :: r).length = x.length - a := by rw [← hd, List.length_drop]
          have e1 : loopF (putS 3) bLw (.int k :: rngD (k + 1) n) [some (tS x), some (.lst (ws.map tS)), some (tI a), u, o] = loopF (putS 3) bLw (rngD (k + 1) n) [some (tS x), some (.lst ((ws ++ [(c :: r).take (wl (c :: r))]).map tS)), some (tI (a + wl (c :: r))), some (tZ k), o'] :=
            loop_nx (S1 := [some (tS x), some (.lst (ws.map tS)), some (tI a), some (tZ k), o]) rfl e
          rw [e1]
          have ih := lw_loop hx n (k + 1) (a + wl (c :: r)) (ws ++ [(c :: r).take (wl (c :: r))]) (some (tZ k)) o' (by omega) (by omega) (by rw [List.length_append, List.length_singleton]; omega)
          have e2 : x.drop (a + wl (c :: r)) = (c :: r).drop (wl (c :: r)) := by
            rw [← List.drop_drop, hd]
          rw [e2] at ih
          refine ⟨fun vs hv => ?_, fun hv => ?_⟩
          · obtain ⟨us, h5, h6⟩ := Option.map_eq_some_iff.mp hv
            obtain ⟨S', e5⟩ := ih.1 us h5
            refine ⟨S', ?_⟩
            rw [show ws ++ vs = ws ++ [(c :: r).take (wl (c :: r))] ++ us by rw [← h6]; simp]
            exact e5
          · have h5 : Wd ((c :: r).drop (wl (c :: r))) = none := by
              cases h6 : Wd ((c :: r).drop (wl (c :: r))) with
              | none => rfl
              | some us =>
                rw [h6] at hv
                cases hv
            exact ih.2 h5
theorem words_eq {x : List Nat} (hx : x.length ≤ 1000000) : f_law_words [tS x] = some (rowT (Wd x), [some (tS x)]) := by
  have L := lw_loop hx x.length 0 0 [] none none (Nat.zero_le _) (Nat.le_refl _) (Nat.le_refl _)
  rw [List.drop_zero] at L
  simp only [List.map_nil, List.nil_append] at L
  have hl := dLen_tx (l := x) (by omega)
  have e1 : (sAsg (eLst (aNil)) (putS 1)) [some (tS x), none, none, none, none] = some (.nx [some (tS x), some (.lst []), none, none, none]) := rfl
  have e2 : (sAsg (ofP (pC (.int 0))) (putS 2)) [some (tS x), some (.lst []), none, none, none] = some (.nx [some (tS x), some (.lst []), some (tI 0), none, none]) := rfl
  have ei : (iRng1' (paCons (pCall dLen (paCons (pV 0) ((fun _ => some [])))) ((fun _ => some [])))) [some (tS x), some (.lst []), some (tI 0), none, none] = some (rngD 0 x.length, [some (tS x), some (.lst []), some (tI 0), none, none]) :=
    iRng1_of (by simp [paCons, pV, pCall, hl]) hx
  show (b_f_law_words [some (tS x), none, none, none, none]).bind _ = _
  rw [b_f_law_words, sSeq_nx e1, sSeq_nx e2]
  cases hw : Wd x with
  | none =>
    obtain ⟨S', e⟩ := L.2 hw
    rw [sSeq_rt ((mFor_of ei).trans e)]
    rfl
  | some vs =>
    obtain ⟨S', e⟩ := L.1 vs hw
    rw [sSeq_nx ((mFor_of ei).trans e)]
    rfl
/-! ### _law_is_right -/
@[simp] theorem isiStr (z : Str) : dIsi "str" (.str z) = some (.bl true) := by rfl
@[simp] theorem isiList (z : List D) : dIsi "list" (.lst z) = some (.bl true) := by rfl
@[simp] theorem isiBool (z : Bool) : dIsi "bool" (.bl z) = some (.bl true) := by rfl
theorem right_none : f_law_is_right [tN, tN] = some (tBl true, [some tN, some tN]) := rfl
theorem ir_loop {t u : T} (l : List D) (ht : fz t = .lst l) (hu : fz u = .lst l) (hl : l.length ≤ 1000000) (hs : ∀ d ∈ l, ∃ z, d = .str z) : ∀ (n k : Nat) (o : Option T), k + n = l.length →
    ∃ o', loopF (putS 2) (sIf (ofB (bOr (bNot (pB (p1 (dIsi "str") (p2 dIx (pV 0) (pV 2))))) (pB (p2 dNe (p2 dIx (pV 0) (pV 2)) (p2 dIx (pV 1) (pV 2)))))) (sRet (ofP (pC (.bl false)))) (sNext)) (rngD (k : Nat) n) [some t, some u, o] = some (.nx [some t, some u, o'])
  | 0, k, o, h => ⟨o, rfl⟩
  | n + 1, k, o, h => by
    obtain ⟨z, hz⟩ := hs l[k] (List.getElem_mem _)
    have e : dIx (.lst l) (.int (k : Nat)) = some (.str z) := by
      show L2.atI l _ = _
      rw [atI_pos, List.getElem?_eq_getElem (by omega), hz]
    obtain ⟨o', ih⟩ := ir_loop l ht hu hl hs n (k + 1) (some (tI k)) (by omega)
    refine ⟨o', ?_⟩
    rw [rng_cons, loop_nx (S1 := [some t, some u, some (tI k)]) (S2 := [some t, some u, some (tI k)]) rfl, ← ih]
    · rfl
    · rw [sIf_f (S1 := [some t, some u, some (tI k)])]
      · rfl
      · simp [ofB, bOr, bNot, pB, p1, p2, pV, e, ht, hu, dNe, dEq, dNot, asB]
theorem right_lst {t u : T} (l : List D) (ht : fz t = .lst l) (hu : fz u = .lst l) (hl : l.length ≤ 1000000) (hs : ∀ d ∈ l, ∃ z, d = .str z) : f_law_is_right [t, u] = some (tBl true, [some t, some u]) := by
  obtain ⟨o', L⟩ := ir_loop l ht hu hl hs l.length 0 none (by omega)
  have ln : dLen [.lst l] = some (.int (l.length : Nat)) := rfl
  have ei : (iRng1' (paCons (pCall dLen (paCons (pV 1) ((fun _ => some [])))) ((fun _ => some [])))) [some t, some u, none] = some (rngD 0 l.length, [some t, some u, none]) :=
    iRng1_of (by simp [paCons, pV, pCall, ln, hu]) hl
  show (b_f_law_is_right [some t, some u, none]).bind _ = _
  rw [b_f_law_is_right, sSeq_nx (S1 := [some t, some u, none]), sSeq_nx (S1 := [some t, some u, none]), sSeq_nx ((mFor_of ei).trans L)]
  · rfl
  · rw [sIf_f (S1 := [some t, some u, none])]
    · rfl
    · simp only [ofB, bOr, bNot, pB, p1, p2, pV, pCall, paCons, ln, dNe, deq_int, sc2_int, dNot, asB, isiList, List.getElem?_cons_zero, List.getElem?_cons_succ, Option.bind_some, ht, hu, if_true, beq_self_eq_true, Bool.not_true, Bool.false_eq_true, if_false]
  · rw [sIf_f (S1 := [some t, some u, none])]
    · rfl
    · simp [ofB, pB, p2, pV, pC, dIsN, isNonD, hu, asB]
/-! ### is_name, is_number -/
def RES : List D := [.str "proc", .str "list", .str "needs", .str "gives", .str "keeps", .str "falls", .str "from", .str "to", .str "let", .str "while", .str "if", .str "else", .str "end", .str "choose", .str "check", .str "call", .str "swap", .str "return", .str "skip", .str "and", .str "or", .str "not", .str "all", .str "sorted", .str "below", .str "either", .str "len", .str "old", .str "moves", .str "result"]
def RES2 : List D := [.str "proc", .str "list", .str "needs", .str "gives", .str "keeps", .str "falls", .str "from", .str "to", .str "let", .str "while", .str "if", .str "else", .str "end", .str "choose", .str "check", .str "call", .str "swap", .str "return", .str "skip", .str "or", .str "and", .str "not", .str "all", .str "sorted", .str "below", .str "either", .str "len", .str "old", .str "moves", .str "result"]
theorem reserved_eq : f_law_reserved [] = some (.lst (RES2.map .sh), []) := by kernel_rfl
theorem any_swap {α : Type} (A B : List α) (a b : α) (p : α → Bool) : (A ++ a :: b :: B).any p = (A ++ b :: a :: B).any p := by
  simp [List.any_append, List.any_cons, Bool.or_left_comm]
theorem sc_str_fun (z : Str) : sc (.str z) = true := rfl
theorem in_res (z : Str) : dIn (.str z) (.tup RES) = some (.bl (RES2.any fun d => deq d (.str z))) ∧ dIn (.str z) (.lst RES2) = some (.bl (RES2.any fun d => deq d (.str z))) := by
  have e : (RES.any fun d => deq d (.str z)) = RES2.any fun d => deq d (.str z) := any_swap (RES.take 19) (RES2.drop 21) (.str "and") (.str "or") _
  rw [← e]
  refine ⟨?_, ?_⟩
  · rfl
  · rw [e]
    rfl
end K00
namespace K00
open PySem PySem.Spec PyProof.Rows L2 VS
theorem tw_all (g : List Nat) : ∀ l : List Nat, tw g l = l.length ↔ ∀ c ∈ l, c ∈ g
  | [] => by simp [tw]
  | c :: l => by
    rw [tw_cons]
    by_cases h : c ∈ g
    · rw [if_pos h, List.length_cons, List.forall_mem_cons, ← tw_all g l]
      simp [h]
    · rw [if_neg h]
      simp [h]
theorem ch_loop {x g : List Nat} {q : MT} (hq : ∀ c, q [some (tS x), some (tS [c])] = some (!decide (c ∈ g), [some (tS x), some (tS [c])])) : ∀ (l : List Nat) (o : Option T),
    ((∀ c ∈ l, c ∈ g) → ∃ o', loopF (putS 1) (sIf q (sRet (ofP (pC (.bl false)))) (sNext)) (l.map fun c => .str (tx [c])) [some (tS x), o] = some (.nx [some (tS x), o'])) ∧
    ((¬ ∀ c ∈ l, c ∈ g) → ∃ o', loopF (putS 1) (sIf q (sRet (ofP (pC (.bl false)))) (sNext)) (l.map fun c => .str (tx [c])) [some (tS x), o] = some (.rt (tBl false) [some (tS x), o']))
  | [], o => ⟨fun _ => ⟨o, rfl⟩, fun h => absurd (by simp) h⟩
  | c :: l, o => by
    by_cases h : c ∈ g
    · have e : loopF (putS 1) (sIf q (sRet (ofP (pC (.bl false)))) (sNext)) ((c :: l).map fun c => .str (tx [c])) [some (tS x), o] = loopF (putS 1) (sIf q (sRet (ofP (pC (.bl false)))) (sNext)) (l.map fun c => .str (tx [c])) [some (tS x), some (tS [c])] :=
        loop_nx (S1 := [some (tS x), some (tS [c])]) rfl (by rw [sIf_f (by rw [hq, decide_eq_true h]; rfl)]; rfl)
      rw [e, List.forall_mem_cons]
      have ih := ch_loop hq l (some (tS [c]))
      simp only [h, true_and]
      exact ih
    · refine ⟨fun z => absurd (z c List.mem_cons_self) h, fun _ => ⟨some (tS [c]), ?_⟩⟩
      exact loop_rt (S1 := [some (tS x), some (tS [c])]) rfl (by rw [sIf_t (by rw [hq, decide_eq_false h]; rfl)]; rfl)
theorem signs_tx (l : List Nat) : VS.signs (tx l) = l.map fun c => D.str (tx [c]) := by
  unfold VS.signs
  simp
/-- a loop over all signs, then true -/
theorem all_eq {x g : List Nat} {q : MT} (hq : ∀ c, q [some (tS x), some (tS [c])] = some (!decide (c ∈ g), [some (tS x), some (tS [c])])) :
    ∃ S', sSeq (mFor (iStr' (pV 0)) (putS 1) (sIf q (sRet (ofP (pC (.bl false)))) (sNext))) (sRet (ofP (pC (.bl true)))) [some (tS x), none] = some (.rt (tBl (decide (tw g x = x.length))) (some (tS x) :: S')) := by
  obtain ⟨h1, h2⟩ := ch_loop hq x none
  have e : mFor (iStr' (pV 0)) (putS 1) (sIf q (sRet (ofP (pC (.bl false)))) (sNext)) [some (tS x), none] = loopF (putS 1) (sIf q (sRet (ofP (pC (.bl false)))) (sNext)) (x.map fun c => .str (tx [c])) [some (tS x), none] :=
    mFor_of (by simp [iStr', pV, signs_tx])
  by_cases h : ∀ c ∈ x, c ∈ g
  · obtain ⟨o', e1⟩ := h1 h
    refine ⟨[o'], ?_⟩
    rw [sSeq_nx (e.trans e1), decide_eq_true ((tw_all g x).mpr h)]
    rfl
  · obtain ⟨o', e1⟩ := h2 h
    refine ⟨[o'], ?_⟩
    rw [sSeq_rt (e.trans e1), decide_eq_false fun z => h ((tw_all g x).mp z)]
def res (w : List Nat) : Bool := RES2.any fun d => deq d (.str (tx w))
def nm (w : List Nat) : Bool := !res w && decide (1 ≤ w.length) && decide (w.length ≤ 12) && decide (tw LET w = w.length)
def nb (w : List Nat) : Bool := decide (1 ≤ w.length) && decide (w.length ≤ 10) && !(decide (1 < w.length) && decide (w[0]? = some 48)) && decide (tw FIG w = w.length)
theorem law_name_eq {w : List Nat} (hw : w.length ≤ 1000000) : f_law_is_name [tS w] = some (tBl (nm w), [some (tS w)]) := by
  have hl := dLen_tx (l := w) (by omega)
  have hr := (in_res (tx w)).2
  have i1 : ((w.length : Int) < 1) = (w.length < 1) := propext (by omega)
  have i2 : ((12 : Int) < (w.length : Int)) = (12 < w.length) := propext (by omega)
  have q1 : (qOr (ofB (pB (p2 dLt (pCall dLen (paCons (pV 0) ((fun _ => some [])))) (pC (.int 1))))) (qOr (ofB (pB (p2 dGt (pCall dLen (paCons (pV 0) ((fun _ => some [])))) (pC (.int 12))))) (qB (e2 dIn (eVar 0) (eCall f_law_reserved [] aNil))))) [some (tS w), none] = some (decide (w.length < 1) || decide (12 < w.length) || res w, [some (tS w), none]) := by
    simp only [qOr, ofB, pB, p2, pV, pCall, paCons, hl, pC, List.getElem?_cons_zero, List.getElem?_cons_succ, Option.bind_some, fz_sh, dLt, dGt, dCmp, asB, qB, e2, eVar, eCall, aNil, reserved_eq, sD, fz_lst, List.map_map, i1, i2]
    by_cases h1 : w.length < 1
    · simp [h1]
    · by_cases h2 : 12 < w.length
      · simp [h1, h2]
      · have e : (fz ∘ T.sh) = id := rfl
        simp [h1, h2, e, hr, res, asB, putB]
  show (b_f_law_is_name [some (tS w), none]).bind _ = _
  rw [b_f_law_is_name]
  by_cases h : (decide (w.length < 1) || decide (12 < w.length) || res w) = true
  · rw [h] at q1
    rw [sSeq_rt (t := tBl false) (S1 := [some (tS w), none]) (by rw [sIf_t q1]; rfl)]
    have : nm w = false := by
      unfold nm
      simp only [Bool.or_eq_true, decide_eq_true_eq] at h
      rcases h with (h | h) | h
      · simp; omega
      · simp; omega
      · simp [h]
    rw [this]
    rfl
  · rw [Bool.not_eq_true] at h
    rw [h] at q1
    rw [sSeq_nx (S1 := [some (tS w), none]) (by rw [sIf_f q1]; rfl)]
    obtain ⟨S', e⟩ := all_eq (x := w) (g := LET) (q := qB (e2 dNotIn (eVar 1) (eCall f_law_letters [] aNil))) fun c => by
      simp [qB, e2, eVar, eCall, aNil, letters_eq, sD, putB, asB]
    rw [e]
    have : nm w = decide (tw LET w = w.length) := by
      unfold nm
      simp only [Bool.or_eq_false_iff, decide_eq_false_iff_not] at h
      simp [h.2, show 1 ≤ w.length by omega, show w.length ≤ 12 by omega]
    rw [this]
    rfl
theorem law_number_eq {w : List Nat} (hw : w.length ≤ 1000000) : f_law_is_number [tS w] = some (tBl (nb w), [some (tS w)]) := by
  have hl := dLen_tx (l := w) (by omega)
  have i1 : ((w.length : Int) < 1) = (w.length < 1) := propext (by omega)
  have i2 : ((10 : Int) < (w.length : Int)) = (10 < w.length) := propext (by omega)
  have i3 : ((1 : Int) < (w.length : Int)) = (1 < w.length) := propext (by omega)
  have q1 : (ofB (bOr (pB (p2 dLt (pCall dLen (paCons (pV 0) ((fun _ => some [])))) (pC (.int 1)))) (bOr (pB (p2 dGt (pCall dLen (paCons (pV 0) ((fun _ => some [])))) (pC (.int 10)))) (bAnd (pB (p2 dGt (pCall dLen (paCons (pV 0) ((fun _ => some [])))) (pC (.int 1)))) (pB (p2 dEq (p2 dIx (pV 0) (pC (.int 0))) (pC (.str "0")))))))) [some (tS w), none] = some (decide (w.length < 1) || decide (10 < w.length) || (decide (1 < w.length) && decide (w[0]? = some 48)), [some (tS w), none]) := by
    simp only [bOr, bAnd, ofB, pB, p2, pV, pCall, paCons, hl, pC, List.getElem?_cons_zero, List.getElem?_cons_succ, Option.bind_some, fz_sh, dLt, dGt, dCmp, asB, i1, i2, i3]
    by_cases h1 : w.length < 1
    · simp [h1]
    · have hc : w[0]? = some w[0] := List.getElem?_eq_getElem (by omega)
      have hi := dIx_tx (by omega) hc
      have s0 : Str.ofString "0" = tx [48] := by decide +kernel
      by_cases h2 : 10 < w.length
      · simp [h1, h2]
      · have e : (fz ∘ T.sh) = id := rfl
        rw [show (D.int 0) = D.int ((0 : Nat) : Int) from rfl, hi]
        by_cases h3 : 1 < w.length
        · simp [h1, h2, h3, s0, dEq, asB, hc, Bool.beq_eq_decide_eq]
        · simp [h1, h2, h3]
  show (b_f_law_is_number [some (tS w), none]).bind _ = _
  rw [b_f_law_is_number]
  by_cases h : (decide (w.length < 1) || decide (10 < w.length) || (decide (1 < w.length) && decide (w[0]? = some 48))) = true
  · rw [h] at q1
    rw [sSeq_rt (t := tBl false) (S1 := [some (tS w), none]) (by rw [sIf_t q1]; rfl)]
    have : nb w = false := by
      unfold nb
      rw [Bool.or_eq_true, Bool.or_eq_true, decide_eq_true_eq, decide_eq_true_eq] at h
      rcases h with (h | h) | h
      · simp; omega
      · simp; omega
      · rw [h]; simp
    rw [this]
    rfl
  · rw [Bool.not_eq_true] at h
    rw [h] at q1
    rw [sSeq_nx (S1 := [some (tS w), none]) (by rw [sIf_f q1]; rfl)]
    obtain ⟨S', e⟩ := all_eq (x := w) (g := FIG) (q := ofB (pB (p2 dNotIn (pV 1) (pC (.str "0123456789"))))) fun c => by
      simp [ofB, pB, p2, pV, pC, sFIG, asB]
    rw [e]
    have : nb w = decide (tw FIG w = w.length) := by
      unfold nb
      rw [Bool.or_eq_false_iff, Bool.or_eq_false_iff, decide_eq_false_iff_not, decide_eq_false_iff_not] at h
      rw [h.2]
      simp [show 1 ≤ w.length by omega, show w.length ≤ 10 by omega]
    rw [this]
    rfl
end K00
namespace K00
open PySem PySem.Spec PyProof.Rows L2 VS
@[simp] theorem asB_bl (b : Bool) : asB (.bl b) = some b := rfl
theorem is_name_eq {w : List Nat} (hw : w.length ≤ 1000000) : is_name [tS w] = some (tBl (nm w), [some (tS w)]) := by
  have hl := dLen_tx (l := w) (by omega)
  have hr := (in_res (tx w)).1
  rw [RES] at hr
  have i1 : ((1 : Int) ≤ (w.length : Int)) = (1 ≤ w.length) := propext (by omega)
  have i2 : ((w.length : Int) ≤ 12) = (w.length ≤ 12) := propext (by omega)
  have q1 : (ofB (bOr (pB (p2 dIn (pV 0) (pC (.tup [.str "proc", .str "list", .str "needs", .str "gives", .str "keeps", .str "falls", .str "from", .str "to", .str "let", .str "while", .str "if", .str "else", .str "end", .str "choose", .str "check", .str "call", .str "swap", .str "return", .str "skip", .str "and", .str "or", .str "not", .str "all", .str "sorted", .str "below", .str "either", .str "len", .str "old", .str "moves", .str "result"])))) (bNot (pB (pChain dLe dLe (pC (.int 1)) (pCall dLen (paCons (pV 0) ((fun _ => some [])))) (pC (.int 12))))))) [some (tS w)] = some (res w || !(decide (1 ≤ w.length) && decide (w.length ≤ 12)), [some (tS w)]) := by
    simp only [ofB, bOr, bNot, pB, p2, pV, pChain, pCall, paCons, hl, pC, List.getElem?_cons_zero, List.getElem?_cons_succ, Option.bind_some, fz_sh, hr, asB, dLe, dCmp, i1, i2]
    by_cases h1 : res w = true
    · unfold res at h1 ⊢
      rw [h1]
      rfl
    · rw [Bool.not_eq_true] at h1
      unfold res at h1 ⊢
      rw [h1]
      by_cases h2 : 1 ≤ w.length <;> simp [h2]
  show (b_is_name [some (tS w)]).bind _ = _
  rw [b_is_name]
  by_cases h : (res w || !(decide (1 ≤ w.length) && decide (w.length ≤ 12))) = true
  · rw [h] at q1
    rw [sSeq_rt (t := tBl false) (S1 := [some (tS w)]) (by rw [sIf_t q1]; rfl)]
    have : nm w = false := by
      unfold nm
      rw [Bool.or_eq_true] at h
      rcases h with h | h
      · simp [h]
      · simp only [Bool.not_eq_true', Bool.and_eq_false_iff] at h
        rcases h with h | h <;> simp [h]
    rw [this]
    rfl
  · rw [Bool.not_eq_true] at h
    rw [h] at q1
    rw [sSeq_nx (S1 := [some (tS w)]) (by rw [sIf_f q1]; rfl)]
    rw [Bool.or_eq_false_iff] at h
    have e : nm w = decide (tw LET w = w.length) := by
      unfold nm
      have h2 := h.2
      simp only [Bool.not_eq_false', Bool.and_eq_true] at h2
      rw [h.1, h2.1, h2.2]
      rfl
    have br := behind_run_eq (x := w) (g := LET) (s := 0) hw (Nat.zero_le _)
    rw [Nat.zero_add, List.drop_zero] at br
    rw [e]
    simp only [sRet, e2, eCall, aMv, aCons, aNil, ofP, pC, pCall, paCons, pV, hl, sLET, List.getElem?_cons_zero, Option.bind_some, sc_int, sc_str, if_true, List.set_cons_zero]
    rw [show (T.sh (.int 0)) = tI 0 from rfl, br]
    simp [putB, sD, dEq, outs, hl]
    rw [Bool.eq_iff_iff]
    simp
    omega
theorem is_number_eq {w : List Nat} (hw : w.length ≤ 1000000) : is_number [tS w] = some (tBl (nb w), [some (tS w)]) := by
  have hl := dLen_tx (l := w) (by omega)
  have i1 : ((1 : Int) ≤ (w.length : Int)) = (1 ≤ w.length) := propext (by omega)
  have i2 : ((w.length : Int) ≤ 10) = (w.length ≤ 10) := propext (by omega)
  have s0 : Str.ofString "0" = tx [48] := by decide +kernel
  have q1 : (ofB (bOr (bNot (pB (pChain dLe dLe (pC (.int 1)) (pCall dLen (paCons (pV 0) ((fun _ => some [])))) (pC (.int 10))))) (bAnd (pB (p2 dEq (p2 dIx (pV 0) (pC (.int 0))) (pC (.str "0")))) (pB (p2 dNe (pV 0) (pC (.str "0"))))))) [some (tS w)] = some (!(decide (1 ≤ w.length) && decide (w.length ≤ 10)) || (decide (1 < w.length) && decide (w[0]? = some 48)), [some (tS w)]) := by
    simp only [ofB, bOr, bAnd, bNot, pB, p2, pV, pChain, pCall, paCons, hl, pC, List.getElem?_cons_zero, List.getElem?_cons_succ, Option.bind_some, fz_sh, asB, dLe, dCmp, i1, i2]
    by_cases h1 : 1 ≤ w.length
    · have hc : w[0]? = some w[0] := List.getElem?_eq_getElem (by omega)
      have hi := dIx_tx (by omega) hc
      rw [show (D.int 0) = D.int ((0 : Nat) : Int) from rfl, hi, s0]
      by_cases h2 : w.length ≤ 10
      · by_cases h3 : w[0] = 48
        · have e : (w == [48]) = decide (w.length = 1) := by
            match w, h1 with
            | [c], _ =>
              simp at h3
              simp [h3]
            | c :: b :: r, _ => simp
          have z : (!decide (w.length = 1)) = decide (1 < w.length) := by
            by_cases y : w.length = 1
            · simp [y]
            · simp [y]; omega
          simp [h1, h2, h3, dEq, dNe, asB, hc, e]
          simpa using z
        · simp [h1, h2, h3, dEq, dNe, asB, hc]
      · simp [h1, h2]
    · simp [h1]
  show (b_is_number [some (tS w)]).bind _ = _
  rw [b_is_number]
  by_cases h : (!(decide (1 ≤ w.length) && decide (w.length ≤ 10)) || (decide (1 < w.length) && decide (w[0]? = some 48))) = true
  · rw [h] at q1
    rw [sSeq_rt (t := tBl false) (S1 := [some (tS w)]) (by rw [sIf_t q1]; rfl)]
    have : nb w = false := by
      unfold nb
      rw [Bool.or_eq_true] at h
      rcases h with h | h
      · rw [Bool.not_eq_true'] at h
        rw [h]
        rfl
      · rw [h]; simp
    rw [this]
    rfl
  · rw [Bool.not_eq_true] at h
    rw [h] at q1
    rw [sSeq_nx (S1 := [some (tS w)]) (by rw [sIf_f q1]; rfl)]
    rw [Bool.or_eq_false_iff] at h
    have e : nb w = decide (tw FIG w = w.length) := by
      unfold nb
      have h2 := h.1
      rw [Bool.not_eq_false'] at h2
      rw [h.2, h2]
      rfl
    have br := behind_run_eq (x := w) (g := FIG) (s := 0) hw (Nat.zero_le _)
    rw [Nat.zero_add, List.drop_zero] at br
    rw [e]
    simp only [sRet, e2, eCall, aMv, aCons, aNil, ofP, pC, pCall, paCons, pV, hl, sFIG, List.getElem?_cons_zero, Option.bind_some, sc_int, sc_str, if_true, List.set_cons_zero]
    rw [show (T.sh (.int 0)) = tI 0 from rfl, br]
    simp [putB, sD, dEq, outs, hl]
    rw [Bool.eq_iff_iff]
    simp
    omega
end K00
namespace VS
open PySem PySem.Spec PyProof.Rows L2
theorem fold_rep (c : Nat) : ∀ (n : Nat) (a : Array Nat), (List.replicate n #[c]).foldl (· ++ ·) a = a ++ (List.replicate n c).toArray
  | 0, a => by simp
  | n + 1, a => by
    rw [List.replicate_succ, List.foldl_cons, fold_rep c n]
    apply Array.ext'
    simp [List.replicate_succ]
theorem mul_tx1 (c n : Nat) : Txt.mul (tx [c]) (n : Int) = tx (List.replicate n c) := by
  unfold Txt.mul
  by_cases h : (n : Int) < 1
  · rw [if_pos h, show n = 0 by omega]
    rfl
  · rw [if_neg h]
    by_cases h1 : n = 1
    · rw [if_pos (by rw [h1]; rfl), h1]
      rfl
    · rw [if_neg, Int.toNat_natCast]
      · congr 1
        rw [show (tx [c]).cps = #[c] from rfl, fold_rep]
        apply Array.ext'
        simp
      · simp
        omega
theorem dMul_tx1 {c n : Nat} (h : n ≤ 1000000) : dMul (.str (tx [c])) (.int (n : Nat)) = some (.str (tx (List.replicate n c))) := by
  show (if 0 ≤ (n : Int) ∧ (n : Int) ≤ 1000000 ∧ (tx [c]).length ≤ 1 then some (D.str (Txt.mul (tx [c]) n)) else none) = _
  rw [if_pos ⟨by omega, by omega, Nat.le_refl 1⟩, mul_tx1]
theorem dAdd_tx {l m : List Nat} (h : l.length + m.length ≤ 10000000) : dAdd (.str (tx l)) (.str (tx m)) = some (.str (tx (l ++ m))) := by
  show (if (tx l).length + (tx m).length ≤ sizeLine then some (D.str (tx l ++ tx m)) else none) = _
  rw [tx_len, tx_len, if_pos (by rw [sizeLine_val]; omega), tx_app]
/-- short texts -/
def shortT (n : Nat) (ts : List T) : Bool := ts.all fun t => match t with
  | .sh (.str z) => decide (z.length ≤ n)
  | _ => false
theorem short_at {n i : Nat} {ts : List T} (h : shortT n ts = true) (hi : i < ts.length) : ∃ p : List Nat, ts[i]? = some (tS p) ∧ p.length ≤ n := by
  have e := List.getElem?_eq_getElem hi
  have k := List.all_eq_true.mp h _ (List.getElem_mem hi)
  split at k
  · rename_i z ez
    refine ⟨z.cps.toList, ?_, ?_⟩
    · rw [e, ez, tS, tx_eta]
    · exact of_decide_eq_true k
  · cases k
end VS
namespace K00
open PySem PySem.Spec PyProof.Rows L2 VS
theorem take_def : f_law_take = fTake := rfl
theorem draws_def : f_law_draws = fDraws := rfl
theorem run_def : f_law_run_of = fRun := rfl
def FOR : List Nat := (Str.ofString "ABCDEFGHIJKLMNOPQRSTUVWXYZ!\"#$&'*./;?@\\^_`{|}~\n\t").cps.toList
theorem sFOR : Str.ofString "ABCDEFGHIJKLMNOPQRSTUVWXYZ!\"#$&'*./;?@\\^_`{|}~\n\t" = tx FOR := (tx_eta _).symm
theorem FOR_pos : 0 < FOR.length := by decide +kernel
theorem FOR_le : FOR.length ≤ 10000000 := by decide +kernel
abbrev PS : List T := [.sh (.str "<="), .sh (.str ">="), .sh (.str "=="), .sh (.str "!="), .sh (.str "<"), .sh (.str ">"), .sh (.str "="), .sh (.str "+"), .sh (.str "-"), .sh (.str "("), .sh (.str ")"), .sh (.str "["), .sh (.str "]"), .sh (.str ","), .sh (.str ":")]
theorem res_short : shortT 14 (RES2.map .sh) = true := by decide +kernel
theorem res_len : (RES2.map T.sh).length = 30 := rfl
theorem ps_short : shortT 14 PS = true := by decide +kernel
theorem res_at {S S' : Sto} {i : Nat} {me : ME} (hi : i < 30) (h : me S = some (tI i, S')) : ∃ p : List Nat, p.length ≤ 14 ∧ eIx (eCall f_law_reserved [] aNil) me S = some (tS p, S') := by
  obtain ⟨p, h1, h2⟩ := short_at res_short (i := i) (by rw [res_len]; exact hi)
  refine ⟨p, h2, ?_⟩
  have e : eCall f_law_reserved [] aNil S = some (.lst (RES2.map .sh), S) := by
    unfold eCall aNil
    rw [Option.bind_some, reserved_eq]
    rfl
  unfold eIx
  rw [e, Option.bind_some]
  simp only [h, Option.bind_some, fz_sh]
  have k : kid (.lst (RES2.map .sh)) (i : Nat) = some (tS p) := by
    show L2.atI (RES2.map T.sh) _ = _
    rw [atI_pos, h1]
  rw [k]
  rfl
theorem piece_eq {ds : List Int} {j : Nat} : ∃ (p : List Nat) (j' : Nat), p.length ≤ 14 ∧ f_law_piece [hand ds j] = some (tS p, [some (hand ds j')]) := by
  suffices h : ∃ (p : List Nat) (j' : Nat) (S' : Sto), p.length ≤ 14 ∧ b_f_law_piece [some (hand ds j), none, none, none] = some (.rt (tS p) (some (hand ds j') :: S')) by
    obtain ⟨p, j', S', h1, h2⟩ := h
    refine ⟨p, j', h1, ?_⟩
    unfold f_law_piece
    rw [mkFn_rt (np := 1) (ns := 4) (as := []) (ts := [hand ds j]) (S := [some (hand ds j), none, none, none]) rfl rfl h2]
    rfl
  have s1 : (sAsg (eLst (aCons (ofP (pC (.str "<="))) (aCons (ofP (pC (.str ">="))) (aCons (ofP (pC (.str "=="))) (aCons (ofP (pC (.str "!="))) (aCons (ofP (pC (.str "<"))) (aCons (ofP (pC (.str ">"))) (aCons (ofP (pC (.str "="))) (aCons (ofP (pC (.str "+"))) (aCons (ofP (pC (.str "-"))) (aCons (ofP (pC (.str "("))) (aCons (ofP (pC (.str ")"))) (aCons (ofP (pC (.str "["))) (aCons (ofP (pC (.str "]"))) (aCons (ofP (pC (.str ","))) (aCons (ofP (pC (.str ":"))) (aNil))))))))))))))))) (putS 1)) [some (hand ds j), none, none, none] = some (.nx [some (hand ds j), some (.lst PS), none, none]) := by
    simp [sAsg, eLst, aCons, aNil, ofP, pC, putS]
  have s2 : (sAsg (ofP (pC (.str "ABCDEFGHIJKLMNOPQRSTUVWXYZ!\"#$&'*./;?@\\^_`{|}~\n\t"))) (putS 2)) [some (hand ds j), some (.lst PS), none, none] = some (.nx [some (hand ds j), some (.lst PS), some (tS FOR), none]) := by
    rw [sFOR]
    rfl
  obtain ⟨k, hk, e⟩ := take_c (S := [some (hand ds j), some (.lst PS), some (tS FOR), none]) (s := 0) (j := j) (m := 12) (ds := ds) (me := ofP (pC (.int 12))) rfl (by decide) rfl
  have s3 : (sAsg (eCall f_law_take [some 0, none] (aMv 0 (aCons (ofP (pC (.int 12))) (aNil)))) (putS 3)) [some (hand ds j), some (.lst PS), some (tS FOR), none] = some (.nx [some (hand ds (j + 1)), some (.lst PS), some (tS FOR), some (tI k)]) := sAsg_of e rfl
  rw [b_f_law_piece, sSeq_nx s1, sSeq_nx s2, sSeq_nx s3]
  generalize j + 1 = j
  have tst : ∀ n : Int, (ofB (pB (p2 dEq (pV 3) (pC (.int n))))) [some (hand ds j), some (.lst PS), some (tS FOR), some (tI k)] = some (decide ((k : Int) = n), [some (hand ds j), some (.lst PS), some (tS FOR), some (tI k)]) := fun n => by
    refine ofB_of (pB_of (p2_of rfl rfl ?_))
    show some (D.bl ((k : Int) == n)) = _
    congr 2
  have yes : ∀ {n : Int}, (k : Int) = n → (ofB (pB (p2 dEq (pV 3) (pC (.int n))))) [some (hand ds j), some (.lst PS), some (tS FOR), some (tI k)] = some (true, [some (hand ds j), some (.lst PS), some (tS FOR), some (tI k)]) := fun {n} h => by rw [tst, decide_eq_true h]
  have no : ∀ {n : Int}, (k : Int) ≠ n → (ofB (pB (p2 dEq (pV 3) (pC (.int n))))) [some (hand ds j), some (.lst PS), some (tS FOR), some (tI k)] = some (false, [some (hand ds j), some (.lst PS), some (tS FOR), some (tI k)]) := fun {n} h => by rw [tst, decide_eq_false h]
  have tk : ∀ {m : Nat} (me : ME), 0 < m → me [some (hand ds j), some (.lst PS), some (tS FOR), some (tI k)] = some (tI m, [some (hand ds j), some (.lst PS), some (tS FOR), some (tI k)]) → ∃ i, i < m ∧ eCall fTake [some 0, none] (aMv 0 (aCons me aNil)) [some (hand ds j), some (.lst PS), some (tS FOR), some (tI k)] = some (tI i, [some (hand ds (j + 1)), some (.lst PS), some (tS FOR), some (tI k)]) :=
    fun me h1 h2 => take_c (s := 0) rfl h1 h2
  have rn : ∀ {cs : List Nat} {most : Nat} {me : ME} {S' : Sto}, 0 < cs.length → cs.length ≤ 10000000 → 0 < most → most ≤ 14 → me [some (hand ds j), some (.lst PS), some (tS FOR), some (tI k)] = some (tS cs, [some (hand ds j), some (.lst PS), some (tS FOR), some (tI k)]) →
      ∃ (p : List Nat) (j' : Nat), p.length ≤ 14 ∧ eCall fRun [some 0, none, none] (aMv 0 (aCons me (aCons (ofP (pC (.int (most : Nat)))) aNil))) [some (hand ds j), some (.lst PS), some (tS FOR), some (tI k)] = some (tS p, [some (hand ds j'), some (.lst PS), some (tS FOR), some (tI k)]) := fun {cs most me S'} h1 h2 h3 h4 h5 => by
    obtain ⟨r, j', r1, r2, r3⟩ := run_eq (ds := ds) (j := j) h1 h2 h3 (by omega : most ≤ 1000000)
    refine ⟨r, j', by omega, ?_⟩
    have a1 : aMv 0 (aCons me (aCons (ofP (pC (.int (most : Nat)))) aNil)) [some (hand ds j), some (.lst PS), some (tS FOR), some (tI k)] = some ([hand ds j, tS cs, tI most], [none, some (.lst PS), some (tS FOR), some (tI k)]) := by
      unfold aMv aCons aNil
      simp only [List.getElem?_cons_zero, h5, Option.bind_some]
      rfl
    unfold eCall
    rw [a1, Option.bind_some]
    simp only [r3, Option.bind_some]
    rfl
  have lt6 : (ofB (pB (p2 dLt (pV 3) (pC (.int 6))))) [some (hand ds j), some (.lst PS), some (tS FOR), some (tI k)] = some (decide (k < 6), [some (hand ds j), some (.lst PS), some (tS FOR), some (tI k)]) := by
    refine ofB_of (pB_of (p2_of rfl rfl ?_))
    show some (D.bl (decide ((k : Int) < 6))) = _
    congr 2
    rw [Bool.eq_iff_iff]
    simp
    omega
  have kidL : ∀ {i : Nat}, i < 15 → ∃ p : List Nat, p.length ≤ 14 ∧ kid (.lst PS) (i : Nat) = some (tS p) := fun {i} hi => by
    obtain ⟨p, h1, h2⟩ := short_at ps_short (i := i) hi
    exact ⟨p, h2, by show L2.atI PS _ = _; rw [atI_pos, h1]⟩
  by_cases k0 : (k : Int) = 0
  · obtain ⟨i, hi, e⟩ := tk (m := 3) (ofP (pC (.int 3))) (by decide) rfl
    refine ⟨List.replicate (1 + i) 32, j + 1, [some (.lst PS), some (tS FOR), some (tI k)], by rw [List.length_replicate]; omega, sq_yes (yes k0) (sRet_of ?_)⟩
    have e1 : e2 dAdd (ofP (pC (.int 1))) (eCall f_law_take [some 0, none] (aMv 0 (aCons (ofP (pC (.int 3))) (aNil)))) [some (hand ds j), some (.lst PS), some (tS FOR), some (tI k)] = some (tI (1 + i), [some (hand ds (j + 1)), some (.lst PS), some (tS FOR), some (tI k)]) := by
      rw [take_def]
      unfold e2
      rw [show ofP (pC (.int 1)) [some (hand ds j), some (.lst PS), some (tS FOR), some (tI k)] = some (tI 1, [some (hand ds j), some (.lst PS), some (tS FOR), some (tI k)]) from rfl, Option.bind_some, e]
      rfl
    unfold e2 at e1 ⊢
    rw [show ofP (pC (.str " ")) [some (hand ds j), some (.lst PS), some (tS FOR), some (tI k)] = some (tS [32], [some (hand ds j), some (.lst PS), some (tS FOR), some (tI k)]) by rw [sSP]; rfl, Option.bind_some, e1, Option.bind_some]
    show sD (dMul (.str (tx [32])) (.int ((1 + i : Nat) : Int))) _ = _
    rw [dMul_tx1 (by omega)]
    rfl
  rw [sq_no (no k0)]
  by_cases k1 : (k : Int) = 1
  · obtain ⟨i, hi, e⟩ := tk (m := 30) (ofP (pC (.int 30))) (by decide) rfl
    obtain ⟨p, h1, h2⟩ := res_at hi e
    exact ⟨p, j + 1, _, h1, sq_yes (yes k1) (sRet_of h2)⟩
  rw [sq_no (no k1)]
  by_cases k2 : (k : Int) = 2
  · obtain ⟨p, j', h1, h2⟩ := rn (cs := LET) (most := 14) (me := eCall f_law_letters [] aNil) (S' := []) (by decide) (by decide) (by decide) (by decide) (by
      unfold eCall aNil
      rw [Option.bind_some, letters_eq]
      rfl)
    exact ⟨p, j', _, h1, sq_yes (yes k2) (sRet_of h2)⟩
  rw [sq_no (no k2)]
  by_cases k3 : (k : Int) = 3
  · obtain ⟨p, j', h1, h2⟩ := rn (cs := FIG) (most := 12) (me := ofP (pC (.str "0123456789"))) (S' := []) (by decide) (by decide) (by decide) (by decide) (by
      rw [sFIG]
      rfl)
    exact ⟨p, j', _, h1, sq_yes (yes k3) (sRet_of h2)⟩
  rw [sq_no (no k3)]
  by_cases k5 : k < 6
  · obtain ⟨i, hi, e⟩ := tk (m := 15) (ofP (pC (.int 15))) (by decide) rfl
    obtain ⟨p, h1, h2⟩ := kidL hi
    rw [decide_eq_true k5] at lt6
    refine ⟨p, j + 1, [some (.lst PS), some (tS FOR), some (tI k)], h1, sq_yes lt6 (sRet_of ?_)⟩
    rw [take_def]
    unfold eIxN
    simp only [List.getElem?_cons_zero, List.getElem?_cons_succ, e, Option.bind_some, List.set_cons_zero, fz_sh, h2]
    rfl
  rw [decide_eq_false k5] at lt6
  rw [sq_no lt6]
  by_cases k6 : (k : Int) = 6
  · obtain ⟨i, hi, e⟩ := tk (m := FOR.length) (ofP (pCall dLen (paCons (pV 2) ((fun _ => some []))))) FOR_pos (ofP_of (pc1_of rfl (dLen_tx FOR_le)) rfl)
    have h2 := kid_tx FOR_le (List.getElem?_eq_getElem hi)
    refine ⟨[FOR[i]], j + 1, [some (.lst PS), some (tS FOR), some (tI k)], by simp, sq_yes (yes k6) (sRet_of ?_)⟩
    rw [take_def]
    unfold eIxN
    simp only [List.getElem?_cons_zero, List.getElem?_cons_succ, e, Option.bind_some, List.set_cons_zero, fz_sh, h2]
    rfl
  rw [sq_no (no k6)]
  have sAL : ∃ cs : List Nat, 0 < cs.length ∧ cs.length ≤ 10000000 ∧ e2 dAdd (eCall f_law_letters [] aNil) (ofP (pC (.str "0123456789 <>=+-()[],:"))) [some (hand ds j), some (.lst PS), some (tS FOR), some (tI k)] = some (tS cs, [some (hand ds j), some (.lst PS), some (tS FOR), some (tI k)]) := by
    have ll : LET.length + (Str.ofString "0123456789 <>=+-()[],:").cps.toList.length ≤ 10000000 := by decide +kernel
    refine ⟨LET ++ (Str.ofString "0123456789 <>=+-()[],:").cps.toList, by decide +kernel, by rw [List.length_append]; exact ll, ?_⟩
    have e1 : eCall f_law_letters [] aNil [some (hand ds j), some (.lst PS), some (tS FOR), some (tI k)] = some (tS LET, [some (hand ds j), some (.lst PS), some (tS FOR), some (tI k)]) := by
      unfold eCall aNil
      rw [Option.bind_some, letters_eq]
      rfl
    unfold e2
    rw [e1, Option.bind_some]
    rw [← tx_eta (Str.ofString "0123456789 <>=+-()[],:")]
    generalize (Str.ofString "0123456789 <>=+-()[],:").cps.toList = z at ll ⊢
    show sD (dAdd (.str (tx LET)) (.str (tx z))) _ = _
    rw [dAdd_tx ll]
    rfl
  obtain ⟨cs, c1, c2, c3⟩ := sAL
  obtain ⟨p, j', h1, h2⟩ := rn (cs := cs) (most := 2) (S' := []) c1 c2 (by decide) (by decide) c3
  exact ⟨p, j', _, h1, sRet_of h2⟩
end K00
namespace K00
open PySem PySem.Spec PyProof.Rows L2 VS
/-! ### the words of a text are few and short -/
theorem W_small : ∀ (n : Nat) (l : List Nat) (vs : List (List Nat)), W n l = some vs → vs.length ≤ l.length ∧ ∀ v ∈ vs, v.length ≤ l.length
  | n, [], vs, h => by
    have e : vs = [] := by cases n <;> (cases h; rfl)
    rw [e]
    exact ⟨Nat.le_refl _, fun v hv => nomatch hv⟩
  | 0, c :: r, vs, h => nomatch h
  | n + 1, c :: r, vs, h => by
    rw [W_succ] at h
    by_cases hc : c = 32
    · rw [if_pos hc] at h
      obtain ⟨h1, h2⟩ := W_small n r vs h
      exact ⟨by rw [List.length_cons]; omega, fun v hv => by have := h2 v hv; rw [List.length_cons]; omega⟩
    · rw [if_neg hc] at h
      by_cases hw : wl (c :: r) = 0
      · rw [if_pos hw] at h
        cases h
      · rw [if_neg hw] at h
        obtain ⟨us, h1, rfl⟩ := Option.map_eq_some_iff.mp h
        obtain ⟨h2, h3⟩ := W_small n _ us h1
        have hle := wl_le (c :: r)
        rw [List.length_drop] at h2 h3
        refine ⟨by rw [List.length_cons]; omega, fun v hv => ?_⟩
        rcases List.mem_cons.mp hv with rfl | hv
        · rw [List.length_take]
          omega
        · have := h3 v hv
          omega
theorem Wd_small {l : List Nat} {vs : List (List Nat)} (h : Wd l = some vs) : vs.length ≤ l.length ∧ ∀ v ∈ vs, v.length ≤ l.length := W_small _ _ _ h
theorem right_row {t u : T} {l : List Nat} (hl : l.length ≤ 1000000) (ht : fz t = fz (rowT (Wd l))) (hu : fz u = fz (rowT (Wd l))) : f_law_is_right [t, u] = some (tBl true, [some t, some u]) := by
  cases h : Wd l with
  | none =>
    rw [h] at ht hu
    have e1 : fz t = .non := ht
    have e2 : fz u = .non := hu
    rw [show f_law_is_right [t, u] = mkFn 2 3 [] b_f_law_is_right [t, u] from rfl, mkFn_rt (np := 2) (ns := 3) (as := []) (ts := [t, u]) (S := [some t, some u, none]) (S' := [some t, some u, none]) (t := tBl true) rfl rfl]
    · rfl
    · rw [b_f_law_is_right]
      refine sq_yes (S1 := [some t, some u, none]) ?_ ?_
      · refine ofB_of (pB_of (p2_of (x := .non) (y := .non) (congrArg some e2) rfl rfl))
      · exact sRet_of (ofP_of (p2_of (x := .non) (y := .non) (congrArg some e1) rfl rfl) rfl)
  | some vs =>
    rw [h] at ht hu
    have e : fz (rowT (some vs)) = .lst (vs.map fun l => .str (tx l)) := fz_lst_tS vs
    rw [e] at ht hu
    refine right_lst _ ht hu ?_ ?_
    · rw [List.length_map]
      have := (Wd_small h).1
      omega
    · intro d hd
      obtain ⟨v, _, rfl⟩ := List.mem_map.mp hd
      exact ⟨_, rfl⟩
/-! ### the law, part by part -/
abbrev Sp (sc : T) (h : T) (o2 o3 o4 o5 o6 o7 o8 o9 o10 : Option T) : Sto := [some sc, some h, o2, o3, o4, o5, o6, o7, o8, o9, o10]
theorem piece_c {S : Sto} {s j : Nat} {ds : List Int} (h : S[s]? = some (some (hand ds j))) : ∃ (p : List Nat) (j' : Nat), p.length ≤ 14 ∧ eCall f_law_piece [some s] (aMv s aNil) S = some (tS p, S.set s (some (hand ds j'))) := by
  obtain ⟨p, j', h1, h2⟩ := piece_eq (ds := ds) (j := j)
  refine ⟨p, j', h1, ?_⟩
  rw [eCall_of (aMv_of h rfl h) h2 rfl]
  show some (_, (S.set s none).set s _) = _
  rw [List.set_set]
theorem pieces_loop {sc : T} {ds : List Int} : ∀ (n : Nat) (k : Int) (ps : List (List Nat)) (j : Nat) (o3 : Option T), ps.length + n ≤ 1000 → (∀ p ∈ ps, p.length ≤ 14) →
    ∃ (ps' : List (List Nat)) (j' : Nat) (o3' : Option T), ps'.length = ps.length + n ∧ (∀ p ∈ ps', p.length ≤ 14) ∧
      loopF (putS 3) (sApp 2 (eCall f_law_piece [some 1] (aMv 1 (aNil)))) (rngD k n) (Sp sc (hand ds j) (some (.lst (ps.map tS))) o3 none none none none none none none) = some (.nx (Sp sc (hand ds j') (some (.lst (ps'.map tS))) o3' none none none none none none none))
  | 0, k, ps, j, o3, h, hp => ⟨ps, j, o3, rfl, hp, rfl⟩
  | n + 1, k, ps, j, o3, h, hp => by
    obtain ⟨p, j1, h1, h2⟩ := piece_c (S := Sp sc (hand ds j) (some (.lst (ps.map tS))) (some (tZ k)) none none none none none none none) (s := 1) (j := j) (ds := ds) rfl
    obtain ⟨ps', j', o3', g1, g2, g3⟩ := pieces_loop (sc := sc) (ds := ds) n (k + 1) (ps ++ [p]) j1 (some (tZ k)) (by rw [List.length_append, List.length_singleton]; omega) (fun q hq => by
      rcases List.mem_append.mp hq with hq | hq
      · exact hp q hq
      · rw [List.mem_singleton.mp hq]; exact h1)
    refine ⟨ps', j', o3', by rw [g1, List.length_append, List.length_singleton]; omega, g2, ?_⟩
    have hs : (ps.map tS).length < sizeLine := by rw [List.length_map, sizeLine_val]; omega
    have e := sApp_of (j := 2) (S := Sp sc (hand ds j) (some (.lst (ps.map tS))) (some (tZ k)) none none none none none none none) rfl h2 rfl hs
    rw [rng_cons, loop_nx (S1 := Sp sc (hand ds j) (some (.lst (ps.map tS))) (some (tZ k)) none none none none none none none) rfl e, ← g3, List.map_append]
    rfl
theorem flat_le : ∀ (ps : List (List Nat)) (n : Nat), (∀ p ∈ ps, p.length ≤ n) → ps.flatten.length ≤ ps.length * n
  | [], n, _ => by simp
  | p :: ps, n, h => by
    have := flat_le ps n (fun q hq => h q (List.mem_cons_of_mem _ hq))
    have h1 := h p List.mem_cons_self
    rw [List.flatten_cons, List.length_append, List.length_cons, Nat.succ_mul]
    omega
/-- the first part: the hand, the text -/
theorem part1 {ns : List Int} (hn : ns.length ≤ 1000000) : ∃ (ds : List Int) (x : List Nat) (j : Nat) (o2 o3 : Option T), x.length ≤ 300 ∧
    ∀ r : MS, (sSeq (sAsg (eLst (aCons (eFz (eCall f_law_draws [some 0, none] (aMv 0 (aCons (ofP (pC (.int 400))) (aNil))))) (aCons (ofP (pC (.int 0))) (aNil)))) (putS 1)) (sSeq (sAsg (eLst (aNil)) (putS 2)) (sSeq (mFor (iRng1E (eCall f_law_take [some 1, none] (aMv 1 (aCons (ofP (pC (.int 16))) (aNil))))) (putS 3) (sApp 2 (eCall f_law_piece [some 1] (aMv 1 (aNil))))) (sSeq (sAsg (e2M joinD (ofP (pC (.str ""))) (eVar 2)) (putS 4)) r)))) [some (.sh (.lst (ns.map .int))), none, none, none, none, none, none, none, none, none, none] =
      r (Sp (.sh (.lst (ns.map .int))) (hand ds j) o2 o3 (some (tS x)) none none none none none none) := by
  obtain ⟨ds, d1, d2, d3⟩ := draws_eq (ns := ns) (m := 400) hn (by decide)
  have n1 : (sAsg (eLst (aCons (eFz (eCall f_law_draws [some 0, none] (aMv 0 (aCons (ofP (pC (.int 400))) (aNil))))) (aCons (ofP (pC (.int 0))) (aNil)))) (putS 1)) [some (.sh (.lst (ns.map .int))), none, none, none, none, none, none, none, none, none, none] = some (.nx (Sp (.sh (.lst (ns.map .int))) (hand ds 0) none none none none none none none none none)) := by
    rw [draws_def]
    refine sAsg_of (S1 := [some (.sh (.lst (ns.map .int))), none, none, none, none, none, none, none, none, none, none]) (t := hand ds 0) (eLst_of (ts := [.sh (.lst (ds.map .int)), tI 0]) (aCons_of ?_ rfl) (by simp)) rfl
    rw [eFz_of (eCall_of (aMv_of rfl rfl rfl) d3 rfl), fz_lst_tZ]
    rfl
  have n2 : (sAsg (eLst (aNil)) (putS 2)) (Sp (.sh (.lst (ns.map .int))) (hand ds 0) none none none none none none none none none) = some (.nx (Sp (.sh (.lst (ns.map .int))) (hand ds 0) (some (.lst [])) none none none none none none none none)) := rfl
  obtain ⟨k, hk, e⟩ := take_c (S := Sp (.sh (.lst (ns.map .int))) (hand ds 0) (some (.lst [])) none none none none none none none none) (s := 1) (j := 0) (m := 16) (ds := ds) (me := ofP (pC (.int 16))) rfl (by decide) rfl
  obtain ⟨ps, j, o3, p1, p2, p3⟩ := pieces_loop (sc := .sh (.lst (ns.map .int))) (ds := ds) k 0 [] 1 none (by simp; omega) (by simp)
  have n3 : (mFor (iRng1E (eCall f_law_take [some 1, none] (aMv 1 (aCons (ofP (pC (.int 16))) (aNil))))) (putS 3) (sApp 2 (eCall f_law_piece [some 1] (aMv 1 (aNil))))) (Sp (.sh (.lst (ns.map .int))) (hand ds 0) (some (.lst [])) none none none none none none none none) = some (.nx (Sp (.sh (.lst (ns.map .int))) (hand ds j) (some (.lst (ps.map tS))) o3 none none none none none none none)) :=
    (mFor_of (iRng1E_of e (by omega))).trans p3
  have hf := flat_le ps 14 p2
  have hx : ps.flatten.length ≤ 300 := by
    rw [p1] at hf
    simp at hf ⊢
    omega
  have n4 : (sAsg (e2M joinD (ofP (pC (.str ""))) (eVar 2)) (putS 4)) (Sp (.sh (.lst (ns.map .int))) (hand ds j) (some (.lst (ps.map tS))) o3 none none none none none none none) = some (.nx (Sp (.sh (.lst (ns.map .int))) (hand ds j) (some (.sh (fz (.lst (ps.map tS))))) o3 (some (tS ps.flatten)) none none none none none none)) := by
    refine sAsg_of (S1 := Sp (.sh (.lst (ns.map .int))) (hand ds j) (some (.sh (fz (.lst (ps.map tS))))) o3 none none none none none none none) (t := tS ps.flatten) (e2M_of (t := tS []) (S1 := Sp (.sh (.lst (ns.map .int))) (hand ds j) (some (.lst (ps.map tS))) o3 none none none none none none none) ?_ (eVar_of rfl) ?_ rfl) rfl
    · rw [sEMP]
      rfl
    · rw [fz_sh, fz_sh, fz_lst_tS, joinD_flat (by omega)]
  exact ⟨ds, ps.flatten, j, _, o3, hx, fun r => by rw [sSeq_nx n1, sSeq_nx n2, sSeq_nx n3, sSeq_nx n4]⟩
end K00
namespace K00
open PySem PySem.Spec PyProof.Rows L2 VS
/-- the second part: words and rows -/
theorem part2 {sc h : T} {x : List Nat} {o2 o3 : Option T} (hx : x.length ≤ 1000000) : ∀ r : MS,
    (sSeq (sAsg (eCall f_law_words [some 4] (aMv 4 (aNil))) (putS 5)) (sSeq (sAsg (eCall split_row [some 4] (aMv 4 (aNil))) (putS 6)) (sSeq (sIf (qNot (qB (eCall f_law_is_right [some 6, some 5] (aMv 6 (aMv 5 (aNil)))))) (sRet (ofP (pC (.bl false)))) (sNext)) r))) (Sp sc h o2 o3 (some (tS x)) none none none none none none) =
      r (Sp sc h o2 o3 (some (tS x)) (some (rowT (Wd x))) (some (rowT (Wd x))) none none none none) := fun r => by
  have n1 : (sAsg (eCall f_law_words [some 4] (aMv 4 (aNil))) (putS 5)) (Sp sc h o2 o3 (some (tS x)) none none none none none none) = some (.nx (Sp sc h o2 o3 (some (tS x)) (some (rowT (Wd x))) none none none none none)) :=
    sAsg_of (eCall_of (aMv_of rfl rfl rfl) (words_eq hx) rfl) rfl
  have n2 : (sAsg (eCall split_row [some 4] (aMv 4 (aNil))) (putS 6)) (Sp sc h o2 o3 (some (tS x)) (some (rowT (Wd x))) none none none none none) = some (.nx (Sp sc h o2 o3 (some (tS x)) (some (rowT (Wd x))) (some (rowT (Wd x))) none none none none)) :=
    sAsg_of (eCall_of (aMv_of rfl rfl rfl) (split_row_eq hx) rfl) rfl
  have n3 : (qNot (qB (eCall f_law_is_right [some 6, some 5] (aMv 6 (aMv 5 (aNil)))))) (Sp sc h o2 o3 (some (tS x)) (some (rowT (Wd x))) (some (rowT (Wd x))) none none none none) = some (false, Sp sc h o2 o3 (some (tS x)) (some (rowT (Wd x))) (some (rowT (Wd x))) none none none none) :=
    qNot_of (b := true) (qB_of (eCall_of (f := f_law_is_right) (ms := [some 6, some 5]) (ts := [rowT (Wd x), rowT (Wd x)]) (S1 := Sp sc h o2 o3 (some (tS x)) none none none none none none) (r := tBl true) (ts' := [some (rowT (Wd x)), some (rowT (Wd x))]) (aMv_of (S2 := Sp sc h o2 o3 (some (tS x)) none (some (rowT (Wd x))) none none none none) (u := rowT (Wd x)) (t := rowT (Wd x)) rfl (aMv_of (S2 := Sp sc h o2 o3 (some (tS x)) (some (rowT (Wd x))) (some (rowT (Wd x))) none none none none) (u := rowT (Wd x)) (t := rowT (Wd x)) rfl rfl rfl) rfl) (right_row (t := rowT (Wd x)) (u := rowT (Wd x)) hx rfl rfl) rfl))
  rw [sSeq_nx n1, sSeq_nx n2, sq_no n3]
abbrev ODD : List T := [.sh (.str "0"), .sh (.str "00"), .sh (.str "01"), .sh (.str "1234567890"), .sh (.str "12345678901"), .sh (.str "abcdefghijkl"), .sh (.str "abcdefghijklm")]
theorem odd_short : shortT 14 ODD = true := by decide +kernel
/-- the third part: odd words -/
theorem part3 {sc : T} {ds : List Int} {j : Nat} {x : List Nat} {o2 o3 o5 o6 : Option T} (hx : x.length ≤ 300) : ∃ (ws : List (List Nat)) (j' : Nat), ws.length ≤ 6 ∧ (∀ w ∈ ws, w.length ≤ 300) ∧ ∀ r : MS,
    (sSeq (sAsg (eLst (aCons (eVar 4) (aCons (ofP (pC (.str ""))) (aCons (eIx (eCall f_law_reserved [] aNil) (eCall f_law_take [some 1, none] (aMv 1 (aCons (ofP (pC (.int 30))) (aNil))))) (aCons (eFz (eCall f_law_piece [some 1] (aMv 1 (aNil)))) (aCons (e2T addT (eCall f_law_piece [some 1] (aMv 1 (aNil))) (eCall f_law_piece [some 1] (aMv 1 (aNil)))) (aNil))))))) (putS 7)) (sSeq (sApp 7 (eIx (eLst (aCons (ofP (pC (.str "0"))) (aCons (ofP (pC (.str "00"))) (aCons (ofP (pC (.str "01"))) (aCons (ofP (pC (.str "1234567890"))) (aCons (ofP (pC (.str "12345678901"))) (aCons (ofP (pC (.str "abcdefghijkl"))) (aCons (ofP (pC (.str "abcdefghijklm"))) (aNil))))))))) (eCall f_law_take [some 1, none] (aMv 1 (aCons (ofP (pC (.int 7))) (aNil)))))) r)) (Sp sc (hand ds j) o2 o3 (some (tS x)) o5 o6 none none none none) =
      r (Sp sc (hand ds j') o2 o3 (some (tS x)) o5 o6 (some (.lst (ws.map tS))) none none none) := by
  obtain ⟨i, hi, e1⟩ := take_c (S := Sp sc (hand ds j) o2 o3 (some (tS x)) o5 o6 none none none none) (s := 1) (j := j) (m := 30) (ds := ds) (me := ofP (pC (.int 30))) rfl (by decide) rfl
  obtain ⟨p1, h1, e2⟩ := res_at hi e1
  obtain ⟨p2, j2, h2, e3⟩ := piece_c (S := Sp sc (hand ds (j + 1)) o2 o3 (some (tS x)) o5 o6 none none none none) (s := 1) (j := j + 1) (ds := ds) rfl
  obtain ⟨p3, j3, h3, e4⟩ := piece_c (S := Sp sc (hand ds j2) o2 o3 (some (tS x)) o5 o6 none none none none) (s := 1) (j := j2) (ds := ds) rfl
  obtain ⟨p4, j4, h4, e5⟩ := piece_c (S := Sp sc (hand ds j3) o2 o3 (some (tS x)) o5 o6 none none none none) (s := 1) (j := j3) (ds := ds) rfl
  obtain ⟨i7, hi7, e7⟩ := take_c (S := Sp sc (hand ds j4) o2 o3 (some (tS x)) o5 o6 (some (.lst ([x, [], p1, p2, p3 ++ p4].map tS))) none none none) (s := 1) (j := j4) (m := 7) (ds := ds) (me := ofP (pC (.int 7))) rfl (by decide) rfl
  obtain ⟨p7, h7, h7l⟩ := short_at odd_short (i := i7) hi7
  refine ⟨[x, [], p1, p2, p3 ++ p4, p7], j4 + 1, by simp, ?_, fun r => ?_⟩
  · intro w hw
    simp only [List.mem_cons, List.not_mem_nil, or_false] at hw
    rcases hw with rfl | rfl | rfl | rfl | rfl | rfl
    · exact hx
    · simp
    · omega
    · omega
    · rw [List.length_append]; omega
    · omega
  · have ea : e2T addT (eCall f_law_piece [some 1] (aMv 1 (aNil))) (eCall f_law_piece [some 1] (aMv 1 (aNil))) (Sp sc (hand ds j2) o2 o3 (some (tS x)) o5 o6 none none none none) = some (tS (p3 ++ p4), Sp sc (hand ds j4) o2 o3 (some (tS x)) o5 o6 none none none none) := by
      refine e2T_of e4 e5 ?_
      show (dAdd (.str (tx p3)) (.str (tx p4))).map T.sh = _
      rw [dAdd_tx (by omega)]
      rfl
    have n1 : (sAsg (eLst (aCons (eVar 4) (aCons (ofP (pC (.str ""))) (aCons (eIx (eCall f_law_reserved [] aNil) (eCall f_law_take [some 1, none] (aMv 1 (aCons (ofP (pC (.int 30))) (aNil))))) (aCons (eFz (eCall f_law_piece [some 1] (aMv 1 (aNil)))) (aCons (e2T addT (eCall f_law_piece [some 1] (aMv 1 (aNil))) (eCall f_law_piece [some 1] (aMv 1 (aNil)))) (aNil))))))) (putS 7)) (Sp sc (hand ds j) o2 o3 (some (tS x)) o5 o6 none none none none) = some (.nx (Sp sc (hand ds j4) o2 o3 (some (tS x)) o5 o6 (some (.lst ([x, [], p1, p2, p3 ++ p4].map tS))) none none none)) := by
      rw [take_def, sEMP]
      refine sAsg_of (t := .lst ([x, [], p1, p2, p3 ++ p4].map tS)) (S1 := Sp sc (hand ds j4) o2 o3 (some (tS x)) o5 o6 none none none none) (eLst_of (aCons_of (S1 := Sp sc (hand ds j) o2 o3 (some (tS x)) o5 o6 none none none none) rfl (aCons_of (S1 := Sp sc (hand ds j) o2 o3 (some (tS x)) o5 o6 none none none none) rfl (aCons_of e2 (aCons_of (eFz_of e3) (aCons_of ea rfl))))) (by simp)) rfl
    have eo : eLst (aCons (ofP (pC (.str "0"))) (aCons (ofP (pC (.str "00"))) (aCons (ofP (pC (.str "01"))) (aCons (ofP (pC (.str "1234567890"))) (aCons (ofP (pC (.str "12345678901"))) (aCons (ofP (pC (.str "abcdefghijkl"))) (aCons (ofP (pC (.str "abcdefghijklm"))) (aNil)))))))) (Sp sc (hand ds j4) o2 o3 (some (tS x)) o5 o6 (some (.lst ([x, [], p1, p2, p3 ++ p4].map tS))) none none none) = some (.lst ODD, Sp sc (hand ds j4) o2 o3 (some (tS x)) o5 o6 (some (.lst ([x, [], p1, p2, p3 ++ p4].map tS))) none none none) := by
      simp [eLst, aCons, aNil, ofP, pC]
    have n2 : (sApp 7 (eIx (eLst (aCons (ofP (pC (.str "0"))) (aCons (ofP (pC (.str "00"))) (aCons (ofP (pC (.str "01"))) (aCons (ofP (pC (.str "1234567890"))) (aCons (ofP (pC (.str "12345678901"))) (aCons (ofP (pC (.str "abcdefghijkl"))) (aCons (ofP (pC (.str "abcdefghijklm"))) (aNil))))))))) (eCall f_law_take [some 1, none] (aMv 1 (aCons (ofP (pC (.int 7))) (aNil)))))) (Sp sc (hand ds j4) o2 o3 (some (tS x)) o5 o6 (some (.lst ([x, [], p1, p2, p3 ++ p4].map tS))) none none none) = some (.nx (Sp sc (hand ds (j4 + 1)) o2 o3 (some (tS x)) o5 o6 (some (.lst ([x, [], p1, p2, p3 ++ p4, p7].map tS))) none none none)) := by
      rw [take_def]
      exact sApp_of (t := tS p7) (S1 := Sp sc (hand ds (j4 + 1)) o2 o3 (some (tS x)) o5 o6 (some (.lst ([x, [], p1, p2, p3 ++ p4].map tS))) none none none) (us := [x, [], p1, p2, p3 ++ p4].map tS) (ts := [x, [], p1, p2, p3 ++ p4].map tS) rfl (eIx_of eo e7 rfl (kid_lst h7)) rfl (by rw [sizeLine_val]; simp)
    rw [sSeq_nx n1, sSeq_nx n2]
/-- the fourth part: the words found are odd words too -/
theorem part4 {sc h : T} {x : List Nat} {ws : List (List Nat)} {o2 o3 : Option T} (hx : x.length ≤ 300) (hw : ws.length ≤ 6) (hs : ∀ w ∈ ws, w.length ≤ 300) : ∃ (us : List (List Nat)) (t t6 t7 : T), fz t = fz (rowT (Wd x)) ∧ fz t7 = .lst (us.map fun l => .str (tx l)) ∧ (∀ w ∈ us, w.length ≤ 300) ∧ ∀ r : MS,
    (sSeq (sIf (ofB (pB (p2 dIsNotN (pV 5) (pC .non)))) (sSeq (sApp 6 (ofP (pC (.str "x")))) (sAsg (e2T addT (eVar 7) (eVar 5)) (putS 7))) (sNext)) r) (Sp sc h o2 o3 (some (tS x)) (some (rowT (Wd x))) (some (rowT (Wd x))) (some (.lst (ws.map tS))) none none none) =
      r (Sp sc h o2 o3 (some (tS x)) (some t) (some t6) (some t7) none none none) := by
  cases e : Wd x with
  | none =>
    refine ⟨ws, tN, tN, .lst (ws.map tS), rfl, fz_lst_tS ws, hs, fun r => ?_⟩
    have q : (ofB (pB (p2 dIsNotN (pV 5) (pC .non)))) (Sp sc h o2 o3 (some (tS x)) (some tN) (some tN) (some (.lst (ws.map tS))) none none none) = some (false, Sp sc h o2 o3 (some (tS x)) (some tN) (some tN) (some (.lst (ws.map tS))) none none none) :=
      ofB_of (pB_of (p2_of rfl rfl rfl))
    exact sq_no q
  | some vs =>
    obtain ⟨v1, v2⟩ := Wd_small e
    refine ⟨ws ++ vs, .sh (fz (.lst (vs.map tS))), .lst (vs.map tS ++ [.sh (.str "x")]), .lst ((ws ++ vs).map tS), rfl, fz_lst_tS _, ?_, fun r => ?_⟩
    · intro w hw
      rcases List.mem_append.mp hw with hw | hw
      · exact hs w hw
      · have := v2 w hw
        omega
    · have q : (ofB (pB (p2 dIsNotN (pV 5) (pC .non)))) (Sp sc h o2 o3 (some (tS x)) (some (rowT (some vs))) (some (rowT (some vs))) (some (.lst (ws.map tS))) none none none) = some (true, Sp sc h o2 o3 (some (tS x)) (some (rowT (some vs))) (some (rowT (some vs))) (some (.lst (ws.map tS))) none none none) :=
        ofB_of (pB_of (p2_of (x := .lst ((vs.map tS).map fz)) (congrArg some (fz_lst _)) rfl rfl))
      have n1 : sApp 6 (ofP (pC (.str "x"))) (Sp sc h o2 o3 (some (tS x)) (some (rowT (some vs))) (some (rowT (some vs))) (some (.lst (ws.map tS))) none none none) = some (.nx (Sp sc h o2 o3 (some (tS x)) (some (rowT (some vs))) (some (.lst (vs.map tS ++ [.sh (.str "x")]))) (some (.lst (ws.map tS))) none none none)) :=
        sApp_of (S := Sp sc h o2 o3 (some (tS x)) (some (rowT (some vs))) (some (rowT (some vs))) (some (.lst (ws.map tS))) none none none) (S1 := Sp sc h o2 o3 (some (tS x)) (some (rowT (some vs))) (some (rowT (some vs))) (some (.lst (ws.map tS))) none none none) (t := T.sh (.str "x")) (us := vs.map tS) (ts := vs.map tS) rfl rfl rfl (by rw [List.length_map, sizeLine_val]; omega)
      have k1 : kidsL (.sh (fz (.lst (ws.map tS)))) = some (ws.map tS) := by
        rw [fz_lst_tS]
        show some ((ws.map fun l => D.str (tx l)).map T.sh) = _
        rw [List.map_map]
        rfl
      have k2 : kidsL (.sh (fz (.lst (vs.map tS)))) = some (vs.map tS) := by
        rw [fz_lst_tS]
        show some ((vs.map fun l => D.str (tx l)).map T.sh) = _
        rw [List.map_map]
        rfl
      have n2 : (sAsg (e2T addT (eVar 7) (eVar 5)) (putS 7)) (Sp sc h o2 o3 (some (tS x)) (some (rowT (some vs))) (some (.lst (vs.map tS ++ [.sh (.str "x")]))) (some (.lst (ws.map tS))) none none none) = some (.nx (Sp sc h o2 o3 (some (tS x)) (some (.sh (fz (.lst (vs.map tS))))) (some (.lst (vs.map tS ++ [.sh (.str "x")]))) (some (.lst ((ws ++ vs).map tS))) none none none)) := by
        refine sAsg_of (t := .lst ((ws ++ vs).map tS)) (S1 := Sp sc h o2 o3 (some (tS x)) (some (.sh (fz (.lst (vs.map tS))))) (some (.lst (vs.map tS ++ [.sh (.str "x")]))) (some (.sh (fz (.lst (ws.map tS))))) none none none) (e2T_of (eVar_of rfl) (eVar_of rfl) ?_) rfl
        show addT (.sh (fz (.lst (ws.map tS)))) (.sh (fz (.lst (vs.map tS)))) = _
        unfold addT
        simp only [k1, k2]
        rw [if_pos (by rw [List.length_map, List.length_map, sizeLine_val]; omega), List.map_append]
      rw [sSeq_nx (S1 := Sp sc h o2 o3 (some (tS x)) (some (.sh (fz (.lst (vs.map tS))))) (some (.lst (vs.map tS ++ [.sh (.str "x")]))) (some (.lst ((ws ++ vs).map tS))) none none none)]
      rw [sIf_t q, sSeq_nx n1, n2]
end K00
namespace K00
open PySem PySem.Spec PyProof.Rows L2 VS
/-- the fifth part: the text again, with spaces about it -/
theorem part5 {sc : T} {ds : List Int} {j : Nat} {x : List Nat} {o2 o3 : Option T} {t t6 t7 : T} (hx : x.length ≤ 300) (ht : fz t = fz (rowT (Wd x))) : ∃ (j' : Nat) (o8 : Option T), ∀ r : MS,
    (sSeq (mFor (iList' (eLst (aCons (eVar 4) (aCons (e2 dAdd (e2 dAdd (e2 dMul (ofP (pC (.str " "))) (eCall f_law_take [some 1, none] (aMv 1 (aCons (ofP (pC (.int 9))) (aNil))))) (eVar 4)) (ofP (pC (.str "  ")))) (aNil))))) (putS 8) (sIf (qNot (qB (eCall f_law_is_right [none, some 5] (aCons (eCall split_row [some 8] (aMv 8 (aNil))) (aMv 5 (aNil)))))) (sRet (ofP (pC (.bl false)))) (sNext))) r) (Sp sc (hand ds j) o2 o3 (some (tS x)) (some t) (some t6) (some t7) none none none) =
      r (Sp sc (hand ds j') o2 o3 (some (tS x)) (some t) (some t6) (some t7) o8 none none) := by
  obtain ⟨n, hn, e1⟩ := take_c (S := Sp sc (hand ds j) o2 o3 (some (tS x)) (some t) (some t6) (some t7) none none none) (s := 1) (j := j) (m := 9) (ds := ds) (me := ofP (pC (.int 9))) rfl (by decide) rfl
  have s2 : Str.ofString "  " = tx [32, 32] := by decide +kernel
  have el : (eLst (aCons (eVar 4) (aCons (e2 dAdd (e2 dAdd (e2 dMul (ofP (pC (.str " "))) (eCall f_law_take [some 1, none] (aMv 1 (aCons (ofP (pC (.int 9))) (aNil))))) (eVar 4)) (ofP (pC (.str "  ")))) (aNil)))) (Sp sc (hand ds j) o2 o3 (some (tS x)) (some t) (some t6) (some t7) none none none) = some (.lst [tS x, tS (List.replicate n 32 ++ x ++ [32, 32])], Sp sc (hand ds (j + 1)) o2 o3 (some (tS x)) (some t) (some t6) (some t7) none none none) := by
    rw [sSP, s2, take_def]
    refine eLst_of (aCons_of (S1 := Sp sc (hand ds j) o2 o3 (some (tS x)) (some t) (some t6) (some t7) none none none) rfl (aCons_of (t := tS (List.replicate n 32 ++ x ++ [32, 32])) (S1 := Sp sc (hand ds (j + 1)) o2 o3 (some (tS x)) (some t) (some t6) (some t7) none none none) ?_ rfl)) (by simp)
    refine e2_of (t := tS (List.replicate n 32 ++ x)) (u := tS [32, 32]) (S1 := Sp sc (hand ds (j + 1)) o2 o3 (some (tS x)) (some t) (some t6) (some t7) none none none) ?_ rfl (dAdd_tx (by simp; omega)) rfl
    refine e2_of (t := tS (List.replicate n 32)) (u := tS x) (S1 := Sp sc (hand ds (j + 1)) o2 o3 (some (tS x)) (some t) (some t6) (some t7) none none none) ?_ rfl (dAdd_tx (by simp; omega)) rfl
    exact e2_of (t := tS [32]) (u := tI n) (S1 := Sp sc (hand ds j) o2 o3 (some (tS x)) (some t) (some t6) (some t7) none none none) rfl e1 (dMul_tx1 (by omega)) rfl
  have turn : ∀ (y : List Nat) (o8 : Option T), y.length ≤ 1000 → Wd y = Wd x → (sIf (qNot (qB (eCall f_law_is_right [none, some 5] (aCons (eCall split_row [some 8] (aMv 8 (aNil))) (aMv 5 (aNil)))))) (sRet (ofP (pC (.bl false)))) (sNext)) (Sp sc (hand ds (j + 1)) o2 o3 (some (tS x)) (some t) (some t6) (some t7) (some (tS y)) none none) = some (.nx (Sp sc (hand ds (j + 1)) o2 o3 (some (tS x)) (some t) (some t6) (some t7) (some (tS y)) none none)) := fun y o8 hy hw => by
    have q : (qNot (qB (eCall f_law_is_right [none, some 5] (aCons (eCall split_row [some 8] (aMv 8 (aNil))) (aMv 5 (aNil)))))) (Sp sc (hand ds (j + 1)) o2 o3 (some (tS x)) (some t) (some t6) (some t7) (some (tS y)) none none) = some (false, Sp sc (hand ds (j + 1)) o2 o3 (some (tS x)) (some t) (some t6) (some t7) (some (tS y)) none none) := by
      refine qNot_of (b := true) (qB_of (eCall_of (f := f_law_is_right) (ms := [none, some 5]) (ts := [rowT (Wd y), t]) (S1 := Sp sc (hand ds (j + 1)) o2 o3 (some (tS x)) none (some t6) (some t7) (some (tS y)) none none) (r := tBl true) (ts' := [some (rowT (Wd y)), some t]) (aCons_of (S1 := Sp sc (hand ds (j + 1)) o2 o3 (some (tS x)) (some t) (some t6) (some t7) (some (tS y)) none none) ?_ (aMv_of (S2 := Sp sc (hand ds (j + 1)) o2 o3 (some (tS x)) (some t) (some t6) (some t7) (some (tS y)) none none) (u := t) (t := t) rfl rfl rfl)) (right_row (l := y) (by omega) rfl (by rw [ht, hw])) rfl))
      exact eCall_of (f := split_row) (ms := [some 8]) (ts := [tS y]) (S1 := Sp sc (hand ds (j + 1)) o2 o3 (some (tS x)) (some t) (some t6) (some t7) none none none) (r := rowT (Wd y)) (ts' := [some (tS y)]) (aMv_of (S2 := Sp sc (hand ds (j + 1)) o2 o3 (some (tS x)) (some t) (some t6) (some t7) (some (tS y)) none none) (u := tS y) (t := tS y) rfl rfl rfl) (split_row_eq (by omega)) rfl
    rw [sIf_f q]
    rfl
  refine ⟨j + 1, some (tS (List.replicate n 32 ++ x ++ [32, 32])), fun r => ?_⟩
  have hw : Wd (List.replicate n 32 ++ x ++ [32, 32]) = Wd x := by rw [Wd_post, Wd_pre]
  have f : fz (.lst [tS x, tS (List.replicate n 32 ++ x ++ [32, 32])]) = .lst [.str (tx x), .str (tx (List.replicate n 32 ++ x ++ [32, 32]))] := by
    rw [fz_lst]
    rfl
  rw [sSeq_nx (S1 := Sp sc (hand ds (j + 1)) o2 o3 (some (tS x)) (some t) (some t6) (some t7) (some (tS (List.replicate n 32 ++ x ++ [32, 32]))) none none)]
  rw [mForE_of el f]
  rw [loop_nx (S1 := Sp sc (hand ds (j + 1)) o2 o3 (some (tS x)) (some t) (some t6) (some t7) (some (tS x)) none none) rfl (turn x none (by omega) rfl)]
  rw [loop_nx (S1 := Sp sc (hand ds (j + 1)) o2 o3 (some (tS x)) (some t) (some t6) (some t7) (some (tS (List.replicate n 32 ++ x ++ [32, 32]))) none none) rfl (turn (List.replicate n 32 ++ x ++ [32, 32]) none (by simp; omega) hw)]
  rfl
abbrev bOd : MS := (sSeq (sAsg (eLst (aCons (eFz (eCall is_name [some 9] (aMv 9 (aNil)))) (aCons (eFz (eCall is_number [some 9] (aMv 9 (aNil)))) (aNil)))) (putS 10)) (sSeq (sIf (ofB (bOr (bNot (pB (p1 (dIsi "bool") (p2 dIx (pV 10) (pC (.int 0)))))) (bNot (pB (p1 (dIsi "bool") (p2 dIx (pV 10) (pC (.int 1)))))))) (sRet (ofP (pC (.bl false)))) (sNext)) (sIf (qB (e2 dNe (eVar 10) (eLst (aCons (eFz (eCall f_law_is_name [some 9] (aMv 9 (aNil)))) (aCons (eFz (eCall f_law_is_number [some 9] (aMv 9 (aNil)))) (aNil)))))) (sRet (ofP (pC (.bl false)))) (sNext))))
theorem odd_turn {sc h : T} {o2 o3 o4 o5 o6 o7 o8 o10 : Option T} {w : List Nat} (hw : w.length ≤ 300) : ∃ o10', bOd (Sp sc h o2 o3 o4 o5 o6 o7 o8 (some (tS w)) o10) = some (.nx (Sp sc h o2 o3 o4 o5 o6 o7 o8 (some (tS w)) o10')) := by
  have c1 {o} : eFz (eCall is_name [some 9] (aMv 9 (aNil))) (Sp sc h o2 o3 o4 o5 o6 o7 o8 (some (tS w)) o) = some (tBl (nm w), Sp sc h o2 o3 o4 o5 o6 o7 o8 (some (tS w)) o) := eFz_of (t := tBl (nm w)) (eCall_of (S1 := Sp sc h o2 o3 o4 o5 o6 o7 o8 none o) (ts := [tS w]) (aMv_of (S2 := Sp sc h o2 o3 o4 o5 o6 o7 o8 (some (tS w)) o) (u := tS w) (t := tS w) rfl rfl rfl) (is_name_eq (by omega)) rfl)
  have c2 {o} : eFz (eCall is_number [some 9] (aMv 9 (aNil))) (Sp sc h o2 o3 o4 o5 o6 o7 o8 (some (tS w)) o) = some (tBl (nb w), Sp sc h o2 o3 o4 o5 o6 o7 o8 (some (tS w)) o) := eFz_of (t := tBl (nb w)) (eCall_of (S1 := Sp sc h o2 o3 o4 o5 o6 o7 o8 none o) (ts := [tS w]) (aMv_of (S2 := Sp sc h o2 o3 o4 o5 o6 o7 o8 (some (tS w)) o) (u := tS w) (t := tS w) rfl rfl rfl) (is_number_eq (by omega)) rfl)
  have c3 {o} : eFz (eCall f_law_is_name [some 9] (aMv 9 (aNil))) (Sp sc h o2 o3 o4 o5 o6 o7 o8 (some (tS w)) o) = some (tBl (nm w), Sp sc h o2 o3 o4 o5 o6 o7 o8 (some (tS w)) o) := eFz_of (t := tBl (nm w)) (eCall_of (S1 := Sp sc h o2 o3 o4 o5 o6 o7 o8 none o) (ts := [tS w]) (aMv_of (S2 := Sp sc h o2 o3 o4 o5 o6 o7 o8 (some (tS w)) o) (u := tS w) (t := tS w) rfl rfl rfl) (law_name_eq (by omega)) rfl)
  have c4 {o} : eFz (eCall f_law_is_number [some 9] (aMv 9 (aNil))) (Sp sc h o2 o3 o4 o5 o6 o7 o8 (some (tS w)) o) = some (tBl (nb w), Sp sc h o2 o3 o4 o5 o6 o7 o8 (some (tS w)) o) := eFz_of (t := tBl (nb w)) (eCall_of (S1 := Sp sc h o2 o3 o4 o5 o6 o7 o8 none o) (ts := [tS w]) (aMv_of (S2 := Sp sc h o2 o3 o4 o5 o6 o7 o8 (some (tS w)) o) (u := tS w) (t := tS w) rfl rfl rfl) (law_number_eq (by omega)) rfl)
  have n1 : (sAsg (eLst (aCons (eFz (eCall is_name [some 9] (aMv 9 (aNil)))) (aCons (eFz (eCall is_number [some 9] (aMv 9 (aNil)))) (aNil)))) (putS 10)) (Sp sc h o2 o3 o4 o5 o6 o7 o8 (some (tS w)) o10) = some (.nx (Sp sc h o2 o3 o4 o5 o6 o7 o8 (some (tS w)) (some (.lst [tBl (nm w), tBl (nb w)])))) :=
    sAsg_of (eLst_of (aCons_of c1 (aCons_of c2 rfl)) (by simp)) rfl
  have f : fz (.lst [tBl (nm w), tBl (nb w)]) = .lst [.bl (nm w), .bl (nb w)] := by
    rw [fz_lst]
    rfl
  refine ⟨some (.sh (fz (.lst [tBl (nm w), tBl (nb w)]))), ?_⟩
  have q1 : (ofB (bOr (bNot (pB (p1 (dIsi "bool") (p2 dIx (pV 10) (pC (.int 0)))))) (bNot (pB (p1 (dIsi "bool") (p2 dIx (pV 10) (pC (.int 1)))))))) (Sp sc h o2 o3 o4 o5 o6 o7 o8 (some (tS w)) (some (.lst [tBl (nm w), tBl (nb w)]))) = some (false, Sp sc h o2 o3 o4 o5 o6 o7 o8 (some (tS w)) (some (.lst [tBl (nm w), tBl (nb w)]))) := by
    have i0 : dIx (.lst [.bl (nm w), .bl (nb w)]) (.int 0) = some (.bl (nm w)) := rfl
    have i1 : dIx (.lst [.bl (nm w), .bl (nb w)]) (.int 1) = some (.bl (nb w)) := rfl
    simp [ofB, bOr, bNot, pB, p1, p2, pV, pC, i0, i1, asB]
  have q2 : (qB (e2 dNe (eVar 10) (eLst (aCons (eFz (eCall f_law_is_name [some 9] (aMv 9 (aNil)))) (aCons (eFz (eCall f_law_is_number [some 9] (aMv 9 (aNil)))) (aNil)))))) (Sp sc h o2 o3 o4 o5 o6 o7 o8 (some (tS w)) (some (.lst [tBl (nm w), tBl (nb w)]))) = some (false, Sp sc h o2 o3 o4 o5 o6 o7 o8 (some (tS w)) (some (.sh (fz (.lst [tBl (nm w), tBl (nb w)]))))) := by
    refine qB_of (e2_of (t := .sh (fz (.lst [tBl (nm w), tBl (nb w)]))) (u := .lst [tBl (nm w), tBl (nb w)]) (S1 := Sp sc h o2 o3 o4 o5 o6 o7 o8 (some (tS w)) (some (.sh (fz (.lst [tBl (nm w), tBl (nb w)]))))) (eVar_of rfl) (eLst_of (aCons_of c3 (aCons_of c4 rfl)) (by simp)) ?_ rfl)
    rw [fz_sh, f]
    cases nm w <;> cases nb w <;> rfl
  rw [bOd, sSeq_nx n1, sq_no q1, sIf_f q2]
  rfl
theorem odd_loop {sc h : T} {o2 o3 o4 o5 o6 o7 o8 : Option T} : ∀ (us : List (List Nat)) (o9 o10 : Option T), (∀ w ∈ us, w.length ≤ 300) →
    ∃ o9' o10', loopF (putS 9) bOd (us.map fun l => .str (tx l)) (Sp sc h o2 o3 o4 o5 o6 o7 o8 o9 o10) = some (.nx (Sp sc h o2 o3 o4 o5 o6 o7 o8 o9' o10'))
  | [], o9, o10, _ => ⟨o9, o10, rfl⟩
  | w :: us, o9, o10, hs => by
    obtain ⟨o10', e⟩ := odd_turn (sc := sc) (h := h) (o2 := o2) (o3 := o3) (o4 := o4) (o5 := o5) (o6 := o6) (o7 := o7) (o8 := o8) (o10 := o10) (hs w List.mem_cons_self)
    obtain ⟨o9', o10'', e2⟩ := odd_loop us (some (tS w)) o10' (fun v hv => hs v (List.mem_cons_of_mem _ hv))
    refine ⟨o9', o10'', ?_⟩
    rw [← e2]
    exact loop_nx (S1 := Sp sc h o2 o3 o4 o5 o6 o7 o8 (some (tS w)) o10) rfl e
theorem law_true (ns : List Int) (hl : ns.length ≤ 63) : ∃ ts', law [.sh (.lst (ns.map .int))] = some (.sh (.bl true), ts') ∧ ts'.length = 1 := by
  obtain ⟨ds, x, j, o2, o3, hx, P1⟩ := part1 (ns := ns) (by omega)
  obtain ⟨ws, j2, w1, w2, P3⟩ := part3 (sc := .sh (.lst (ns.map .int))) (ds := ds) (j := j) (o2 := o2) (o3 := o3) (o5 := some (rowT (Wd x))) (o6 := some (rowT (Wd x))) hx
  obtain ⟨us, t, t6, t7, ht, ht7, hu, P4⟩ := part4 (sc := .sh (.lst (ns.map .int))) (h := hand ds j2) (o2 := o2) (o3 := o3) hx w1 w2
  obtain ⟨j3, o8, P5⟩ := part5 (sc := .sh (.lst (ns.map .int))) (ds := ds) (j := j2) (o2 := o2) (o3 := o3) (t := t) (t6 := t6) (t7 := t7) hx ht
  obtain ⟨o9, o10, e6⟩ := odd_loop (sc := .sh (.lst (ns.map .int))) (h := hand ds j3) (o2 := o2) (o3 := o3) (o4 := some (tS x)) (o5 := some t) (o6 := some t6) (o7 := some (.sh (fz t7))) (o8 := o8) us none none hu
  have n6 : mFor (iList' (eVar 7)) (putS 9) bOd (Sp (.sh (.lst (ns.map .int))) (hand ds j3) o2 o3 (some (tS x)) (some t) (some t6) (some t7) o8 none none) = some (.nx (Sp (.sh (.lst (ns.map .int))) (hand ds j3) o2 o3 (some (tS x)) (some t) (some t6) (some (.sh (fz t7))) o8 o9 o10)) := by
    rw [mForE_of (t := .sh (fz t7)) (S1 := Sp (.sh (.lst (ns.map .int))) (hand ds j3) o2 o3 (some (tS x)) (some t) (some t6) (some (.sh (fz t7))) o8 none none) (eVar_of rfl) ht7, e6]
  refine ⟨[some (.sh (.lst (ns.map .int)))], ?_, rfl⟩
  have e : b_law [some (.sh (.lst (ns.map .int))), none, none, none, none, none, none, none, none, none, none] = some (.rt (tBl true) (Sp (.sh (.lst (ns.map .int))) (hand ds j3) o2 o3 (some (tS x)) (some t) (some t6) (some (.sh (fz t7))) o8 o9 o10)) := by
    rw [b_law, P1, part2 (by omega), P3, P4, P5, sSeq_nx n6]
    rfl
  unfold law
  rw [mkFn_rt (np := 1) (ns := 11) (as := []) (ts := [.sh (.lst (ns.map .int))]) (S := [some (.sh (.lst (ns.map .int))), none, none, none, none, none, none, none, none, none, none]) rfl rfl e]
  rfl
end K00
set_option maxHeartbeats 0
open PySem PySem.W PySem.Calls PyProof.Rows
theorem PySem.Challenge.cw_swornon_k00_words_of_a_row_holds : PySem.Challenge.rw_swornon_k00_words_of_a_row.Holds := by
  w_on; o_law
  refine HandSHeadRun.head_any (r := OpenLaw.row PySem.Challenge.rw_swornon_k00_words_of_a_row) (q := view (OpenLaw.row PySem.Challenge.rw_swornon_k00_words_of_a_row).prog [25]) (H := K00.hk) (ob := K00.ob) (M := 4000) (loose := K00.loose) (d := HandSHeadRun.topDef (OpenLaw.row PySem.Challenge.rw_swornon_k00_words_of_a_row).prog 25) (kwd := []) K00.ob_eq
    (by kernel_rfl) (fun s => by kernel_rfl) K00.run (by kernel_rfl) (by kernel_rfl) (by kernel_rfl) (by rfl) (by first | assumption | decide +kernel) (by decide +kernel) ⟨rfl, rfl, rfl, rfl, rfl, by decide +kernel⟩ ?hw ?hc
  case hw => w_witness2
  case hc =>
    refine L2.walk_ofE (l := PySem.Challenge.rw_swornon_k00_words_of_a_row) (n := 63) (k := 4) (x := "script") (CX := L2.CX0) rfl (by decide) (by kernel_rfl) ⟨rfl, by decide, by decide⟩ ?F (fun _ _ _ _ z => z)
    intro w mg fa h Y G hmg0
    obtain ⟨K, KX, c⟩ := Y
    have hmg : mg ("law" : PySem.Str) = some (.ref fa) := by
      have e : (HandSHeadRun.topDef (OpenLaw.row PySem.Challenge.rw_swornon_k00_words_of_a_row).prog 25).name = ("law" : PySem.Str) := by kernel_rfl
      rw [← e]
      exact hmg0
    have T := K00.facts KX G c
    obtain ⟨f0, fd, F, hm⟩ := T.d_law
    have ef : f0 = fa := by
      rw [hmg] at hm
      exact (PySem.Value.ref.inj (Option.some.inj hm)).symm
    subst ef
    have b := L2.FunD.bindsA (ps := ["script"]) F fun _ _ _ _ _ _ us hl => match us, hl with | [_], _ => rfl
    refine ⟨K, fd, VS.spV K 1 K00.law, KX, fun s v => b s [v] rfl, fun H a ns hl _ hS => VS.spV_law hS (K00.law_true ns hl), fun base _ _ => ?_⟩
    exact K00.good_law (P := (PySem.Challenge.rw_swornon_k00_words_of_a_row).prog) (w := w) (base := base) T F
