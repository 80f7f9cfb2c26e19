import PyProof.Rows.All
import Wide.All
import OpenK.AllK
import Wide.FinOn
import HandS.ForMost
import HandS.IsInst
import HandS.Defaults
import HandS.HeadEnd
import HandS.EndBits
import HandS.HeadHook1
import HandS.HeadHook2
import HandS.HeadHook3
import HandS.HeadHook4
import HandS.RaiseMore
import HandS.Style
import HandS.Head0
import HandS.Head1
import HandS.Head2
import PyProof.ReprLen
import PySem.Challenge.RW_swornon_k11_chains_and_rings
set_option Elab.async false
set_option linter.all false
set_option maxRecDepth 100000
set_option maxHeartbeats 4000000
/-! VS: values as data trees over the hand layer. -/
namespace VS
open PySem PySem.Spec PyProof.Rows L2

/-- shared data: never changes -/
inductive D where
  | non | bl (b : Bool) | int (i : Int) | str (x : Str) | lst (xs : List D) | tup (xs : List D)
/-- a tree that is owned down to its shared leaves -/
inductive T where
  | sh (d : D) | lst (ts : List T) | tup (ts : List T)

mutual
def fz : T → D
  | .sh d => d
  | .lst ts => .lst (fzL ts)
  | .tup ts => .tup (fzL ts)
def fzL : List T → List D
  | [] => []
  | t :: ts => fz t :: fzL ts
end
theorem fzL_map (ts : List T) : fzL ts = ts.map fz := by
  induction ts with
  | nil => rfl
  | cons t ts ih => rw [fzL, ih]; rfl
/-- all children shared -/
def shAll : List T → Bool
  | [] => true
  | .sh _ :: ts => shAll ts
  | _ :: _ => false
def flat : T → Bool
  | .sh _ => true
  | .lst ts => shAll ts
  | .tup ts => shAll ts

section
variable (K : PySem.W.Frag) (G : Hp)
mutual
def Rep : V → D → Prop
  | v, .non => v = .non
  | v, .bl b => v = .bl b
  | v, .int i => v = .int i
  | v, .str x => v = .str x
  | v, .lst ds => ∃ a vs, v = .ref a ∧ SqL K G a vs ∧ Reps vs ds
  | v, .tup ds => ∃ a vs, v = .ref a ∧ SqT K G a vs ∧ Reps vs ds
def Reps : List V → List D → Prop
  | [], [] => True
  | v :: vs, d :: ds => Rep v d ∧ Reps vs ds
  | _, _ => False
end
end
section
variable (K : PySem.W.Frag) (G H : Hp)
mutual
def Own : V → T → List Addr → Prop
  | v, .sh d, fp => fp = [] ∧ Rep K G v d
  | v, .lst ts, fp => ∃ a vs f, v = .ref a ∧ fp = a :: f ∧ H a = some (.lst vs) ∧ Owns vs ts f
  | v, .tup ts, fp => ∃ a vs f, v = .ref a ∧ fp = a :: f ∧ H a = some (.tup vs) ∧ Owns vs ts f
def Owns : List V → List T → List Addr → Prop
  | [], [], fp => fp = []
  | v :: vs, t :: ts, fp => ∃ f g, fp = f ++ g ∧ Own v t f ∧ Owns vs ts g
  | _, _, _ => False
end
end

section
variable {K : PySem.W.Frag} {G G' H H' : Hp}
theorem Same.sqT {a : Addr} {xs : List V} (e : Same G G') (h : SqT K G a xs) : SqT K G' a xs := by
  rcases h with (h | ⟨o, h⟩) | h
  · exact .inl (.inl (e _ _ h))
  · exact .inl (.inr ⟨o, e _ _ h⟩)
  · exact .inr h
mutual
theorem Rep.mono (e : Same G G') : ∀ (d : D) (v : V), Rep K G v d → Rep K G' v d
  | .non, _, h => h
  | .bl _, _, h => h
  | .int _, _, h => h
  | .str _, _, h => h
  | .lst ds, v, h => by
    obtain ⟨a, vs, h1, h2, h3⟩ := h
    exact ⟨a, vs, h1, e.seq h2, Reps.mono e ds vs h3⟩
  | .tup ds, v, h => by
    obtain ⟨a, vs, h1, h2, h3⟩ := h
    exact ⟨a, vs, h1, Same.sqT e h2, Reps.mono e ds vs h3⟩
theorem Reps.mono (e : Same G G') : ∀ (ds : List D) (vs : List V), Reps K G vs ds → Reps K G' vs ds
  | [], [], _ => trivial
  | d :: ds, v :: vs, h => ⟨Rep.mono e d v h.1, Reps.mono e ds vs h.2⟩
  | [], _ :: _, h => h.elim
  | _ :: _, [], h => h.elim
end
theorem Reps.length : ∀ {ds : List D} {vs : List V}, Reps K G vs ds → vs.length = ds.length
  | [], [], _ => rfl
  | _ :: ds, _ :: vs, h => congrArg (· + 1) (Reps.length h.2)
  | [], _ :: _, h => h.elim
  | _ :: _, [], h => h.elim
theorem Owns.length : ∀ {ts : List T} {vs : List V} {fp : List Addr}, Owns K G H vs ts fp → vs.length = ts.length
  | [], [], _, _ => rfl
  | _ :: ts, _ :: vs, _, h => by
    obtain ⟨_, _, _, _, h⟩ := h
    exact congrArg (· + 1) (Owns.length h)
  | [], _ :: _, _, h => h.elim
  | _ :: _, [], _, h => h.elim
mutual
/-- every owned address is tracked -/
theorem Own.trk : ∀ {t : T} {v : V} {fp : List Addr}, Own K G H v t fp → ∀ a ∈ fp, H a ≠ none
  | .sh d, v, fp, h, a, ha => by rw [h.1] at ha; cases ha
  | .lst ts, v, fp, h, a, ha => by
    obtain ⟨b, vs, f, _, rfl, hb, h⟩ := h
    rcases List.mem_cons.mp ha with rfl | ha
    · rw [hb]; exact fun z => nomatch z
    · exact Owns.trk h a ha
  | .tup ts, v, fp, h, a, ha => by
    obtain ⟨b, vs, f, _, rfl, hb, h⟩ := h
    rcases List.mem_cons.mp ha with rfl | ha
    · rw [hb]; exact fun z => nomatch z
    · exact Owns.trk h a ha
theorem Owns.trk : ∀ {ts : List T} {vs : List V} {fp : List Addr}, Owns K G H vs ts fp → ∀ a ∈ fp, H a ≠ none
  | [], [], fp, h, a, ha => by rw [show fp = [] from h] at ha; cases ha
  | t :: ts, v :: vs, fp, h, a, ha => by
    obtain ⟨f, g, rfl, h1, h2⟩ := h
    rcases List.mem_append.mp ha with ha | ha
    · exact Own.trk h1 a ha
    · exact Owns.trk h2 a ha
  | [], _ :: _, _, h, _, _ => h.elim
  | _ :: _, [], _, h, _, _ => h.elim
end
mutual
/-- the owned addresses stand, what is shared stands -/
theorem Own.mono (e : Same G G') : ∀ {t : T} {v : V} {fp : List Addr}, (∀ a ∈ fp, H' a = H a) → Own K G H v t fp → Own K G' H' v t fp
  | .sh d, v, fp, _, h => ⟨h.1, Rep.mono e d v h.2⟩
  | .lst ts, v, fp, k, h => by
    obtain ⟨b, vs, f, h1, rfl, hb, h⟩ := h
    exact ⟨b, vs, f, h1, rfl, (k b List.mem_cons_self).trans hb, Owns.mono e (fun a ha => k a (List.mem_cons_of_mem _ ha)) h⟩
  | .tup ts, v, fp, k, h => by
    obtain ⟨b, vs, f, h1, rfl, hb, h⟩ := h
    exact ⟨b, vs, f, h1, rfl, (k b List.mem_cons_self).trans hb, Owns.mono e (fun a ha => k a (List.mem_cons_of_mem _ ha)) h⟩
theorem Owns.mono (e : Same G G') : ∀ {ts : List T} {vs : List V} {fp : List Addr}, (∀ a ∈ fp, H' a = H a) → Owns K G H vs ts fp → Owns K G' H' vs ts fp
  | [], [], fp, _, h => h
  | t :: ts, v :: vs, fp, k, h => by
    obtain ⟨f, g, rfl, h1, h2⟩ := h
    exact ⟨f, g, rfl, Own.mono e (fun a ha => k a (List.mem_append_left _ ha)) h1, Owns.mono e (fun a ha => k a (List.mem_append_right _ ha)) h2⟩
  | [], _ :: _, _, _, h => h.elim
  | _ :: _, [], _, _, h => h.elim
end
mutual
/-- frozen: the owned addresses are among the shared ones -/
theorem Own.fz (e : Same G G') : ∀ {t : T} {v : V} {fp : List Addr}, (∀ a ∈ fp, G' a = H a) → Own K G H v t fp → Rep K G' v (VS.fz t)
  | .sh d, v, fp, _, h => Rep.mono e d v h.2
  | .lst ts, v, fp, k, h => by
    obtain ⟨b, vs, f, h1, rfl, hb, h⟩ := h
    exact ⟨b, vs, h1, SqL.of ((k b List.mem_cons_self).trans hb), Owns.fz e (fun a ha => k a (List.mem_cons_of_mem _ ha)) h⟩
  | .tup ts, v, fp, k, h => by
    obtain ⟨b, vs, f, h1, rfl, hb, h⟩ := h
    exact ⟨b, vs, h1, SqT.of ((k b List.mem_cons_self).trans hb), Owns.fz e (fun a ha => k a (List.mem_cons_of_mem _ ha)) h⟩
theorem Owns.fz (e : Same G G') : ∀ {ts : List T} {vs : List V} {fp : List Addr}, (∀ a ∈ fp, G' a = H a) → Owns K G H vs ts fp → Reps K G' vs (fzL ts)
  | [], [], fp, _, h => trivial
  | t :: ts, v :: vs, fp, k, h => by
    obtain ⟨f, g, rfl, h1, h2⟩ := h
    exact ⟨Own.fz e (fun a ha => k a (List.mem_append_left _ ha)) h1, Owns.fz e (fun a ha => k a (List.mem_append_right _ ha)) h2⟩
  | [], _ :: _, _, _, h => h.elim
  | _ :: _, [], _, _, h => h.elim
end
end

/-! ### pairs: what is held -/
abbrev Ps := List (V × T)
def OwnP (K : PySem.W.Frag) (G H : Hp) : Ps → List Addr → Prop
  | [], fp => fp = []
  | p :: ps, fp => ∃ f g, fp = f ++ g ∧ Own K G H p.1 p.2 f ∧ OwnP K G H ps g
/-- more owned addresses own, whose content is not told -/
def AtA (K : PySem.W.Frag) (H : Hp) (own : List Addr) (ps : Ps) : Prop :=
  ∃ (G : Hp) (fp : List Addr), Same G H ∧ OwnP K G H ps fp ∧ (own ++ fp).Nodup ∧ (∀ a ∈ own ++ fp, G a = none) ∧ ∀ a ∈ own, H a ≠ none
def At (K : PySem.W.Frag) (H : Hp) (ps : Ps) : Prop := AtA K H [] ps

section
variable {K : PySem.W.Frag} {G G' H H' : Hp}
theorem OwnP.trk : ∀ {ps : Ps} {fp : List Addr}, OwnP K G H ps fp → ∀ a ∈ fp, H a ≠ none
  | [], fp, h, a, ha => by rw [show fp = [] from h] at ha; cases ha
  | p :: ps, fp, h, a, ha => by
    obtain ⟨f, g, rfl, h1, h2⟩ := h
    rcases List.mem_append.mp ha with ha | ha
    · exact h1.trk a ha
    · exact OwnP.trk h2 a ha
theorem OwnP.mono (e : Same G G') : ∀ {ps : Ps} {fp : List Addr}, (∀ a ∈ fp, H' a = H a) → OwnP K G H ps fp → OwnP K G' H' ps fp
  | [], fp, _, h => h
  | p :: ps, fp, k, h => by
    obtain ⟨f, g, rfl, h1, h2⟩ := h
    exact ⟨f, g, rfl, h1.mono e fun a ha => k a (List.mem_append_left _ ha), OwnP.mono e (fun a ha => k a (List.mem_append_right _ ha)) h2⟩
theorem OwnP.append : ∀ {ps qs : Ps} {f g : List Addr}, OwnP K G H ps f → OwnP K G H qs g → OwnP K G H (ps ++ qs) (f ++ g)
  | [], qs, f, g, h, h' => by rw [show f = [] from h]; exact h'
  | p :: ps, qs, f, g, h, h' => by
    obtain ⟨f1, f2, rfl, h1, h2⟩ := h
    exact ⟨f1, f2 ++ g, List.append_assoc .., h1, OwnP.append h2 h'⟩
theorem OwnP.split : ∀ {ps qs : Ps} {fp : List Addr}, OwnP K G H (ps ++ qs) fp → ∃ f g, fp = f ++ g ∧ OwnP K G H ps f ∧ OwnP K G H qs g
  | [], qs, fp, h => ⟨[], fp, rfl, rfl, h⟩
  | p :: ps, qs, fp, h => by
    obtain ⟨f1, f2, rfl, h1, h2⟩ := h
    obtain ⟨f3, f4, rfl, h3, h4⟩ := OwnP.split h2
    exact ⟨f1 ++ f3, f4, (List.append_assoc ..).symm, ⟨f1, f3, rfl, h1, h3⟩, h4⟩
theorem OwnP.perm {ps qs : Ps} (p : ps.Perm qs) : ∀ {fp : List Addr}, OwnP K G H ps fp → ∃ fp', fp.Perm fp' ∧ OwnP K G H qs fp' := by
  induction p with
  | nil => exact fun h => ⟨_, .refl _, h⟩
  | cons x _ ih =>
    intro fp h
    obtain ⟨f, g, rfl, h1, h2⟩ := h
    obtain ⟨g', p, h3⟩ := ih h2
    exact ⟨f ++ g', p.append_left f, f, g', rfl, h1, h3⟩
  | swap x y l =>
    intro fp h
    obtain ⟨f, g, rfl, h1, f2, g2, rfl, h2, h3⟩ := h
    refine ⟨f2 ++ (f ++ g2), ?_, f2, f ++ g2, rfl, h2, f, g2, rfl, h1, h3⟩
    rw [← List.append_assoc, ← List.append_assoc]
    exact List.perm_append_comm.append_right g2
  | trans _ _ ih1 ih2 =>
    intro fp h
    obtain ⟨f1, p1, h1⟩ := ih1 h
    obtain ⟨f2, p2, h2⟩ := ih2 h1
    exact ⟨f2, p1.trans p2, h2⟩
theorem Owns.toP : ∀ {ts : List T} {vs : List V} {fp : List Addr}, Owns K G H vs ts fp → OwnP K G H (vs.zip ts) fp
  | [], [], _, h => h
  | t :: ts, v :: vs, _, h => by
    obtain ⟨f, g, e, h1, h2⟩ := h
    exact ⟨f, g, e, h1, Owns.toP h2⟩
  | [], _ :: _, _, h => h.elim
  | _ :: _, [], _, h => h.elim
theorem OwnP.toS : ∀ {ts : List T} {vs : List V} {fp : List Addr}, vs.length = ts.length → OwnP K G H (vs.zip ts) fp → Owns K G H vs ts fp
  | [], [], _, _, h => h
  | t :: ts, v :: vs, _, l, h => by
    obtain ⟨f, g, e, h1, h2⟩ := h
    exact ⟨f, g, e, h1, OwnP.toS (Nat.succ.inj l) h2⟩
  | [], _ :: _, _, l, _ => nomatch l
  | _ :: _, [], _, l, _ => nomatch l
variable {own : List Addr} {ps qs : Ps}
theorem AtA.perm (h : AtA K H own ps) (p : ps.Perm qs) : AtA K H own qs := by
  obtain ⟨G, fp, s, o, n, g, x⟩ := h
  obtain ⟨fp', q, o'⟩ := o.perm p
  refine ⟨G, fp', s, o', ?_, fun a ha => g a ?_, x⟩
  · exact (q.append_left own).nodup_iff.mp n
  · exact (q.append_left own).mem_iff.mpr ha
theorem AtA.drop (h : AtA K H own (ps ++ qs)) : AtA K H own qs := by
  obtain ⟨G, fp, s, o, n, g, x⟩ := h
  obtain ⟨f1, f2, rfl, _, o2⟩ := o.split
  have sub : (own ++ f2).Sublist (own ++ (f1 ++ f2)) := List.Sublist.append_left (List.sublist_append_right f1 f2) own
  exact ⟨G, f2, s, o2, n.sublist sub, fun a ha => g a (sub.subset ha), x⟩
/-- one may be forgotten -/
theorem At.perm (h : At K H ps) (p : ps.Perm qs) : At K H qs := AtA.perm h p
theorem At.drop (h : At K H (ps ++ qs)) : At K H qs := AtA.drop h
theorem At.tail {p : V × T} (h : At K H (p :: ps)) : At K H ps := AtA.drop (ps := [p]) h
/-- a part of what is held -/
def Sub (qs ps : Ps) : Prop := ∃ l, ps.Perm (l ++ qs)
theorem Sub.refl : Sub ps ps := ⟨[], .refl _⟩
theorem Sub.of_perm (p : ps.Perm qs) : Sub qs ps := ⟨[], p⟩
theorem Sub.trans {rs : Ps} (a : Sub rs qs) (b : Sub qs ps) : Sub rs ps := by
  obtain ⟨l, p⟩ := a
  obtain ⟨m, q⟩ := b
  refine ⟨m ++ l, q.trans ?_⟩
  rw [List.append_assoc]
  exact p.append_left m
theorem Sub.cons {p : V × T} (a : Sub qs ps) : Sub (p :: qs) (p :: ps) := by
  obtain ⟨l, q⟩ := a
  exact ⟨l, (q.cons p).trans List.perm_middle.symm⟩
theorem Sub.skip {p : V × T} (a : Sub qs ps) : Sub qs (p :: ps) := by
  obtain ⟨l, q⟩ := a
  exact ⟨p :: l, q.cons p⟩
theorem Sub.append_right (a : Sub qs ps) (rs : Ps) : Sub (qs ++ rs) (ps ++ rs) := by
  obtain ⟨l, q⟩ := a
  refine ⟨l, ?_⟩
  rw [← List.append_assoc]
  exact q.append_right rs
theorem Sub.append_left (rs : Ps) (a : Sub qs ps) : Sub (rs ++ qs) (rs ++ ps) := by
  induction rs with
  | nil => exact a
  | cons r rs ih => exact ih.cons
theorem AtA.sub (h : AtA K H own ps) (s : Sub qs ps) : AtA K H own qs := by
  obtain ⟨l, p⟩ := s
  exact (h.perm p).drop
theorem At.sub (h : At K H ps) (s : Sub qs ps) : At K H qs := AtA.sub h s

/-- shared data may be doubled -/
theorem At.dup {v : V} {d : D} (h : At K H ((v, .sh d) :: ps)) : At K H ((v, .sh d) :: (v, .sh d) :: ps) := by
  obtain ⟨G, fp, s, ⟨f, g, rfl, ⟨rfl, o1⟩, o2⟩, n, e, x⟩ := h
  exact ⟨G, [] ++ ([] ++ g), s, ⟨[], _, rfl, ⟨rfl, o1⟩, [], g, rfl, ⟨rfl, o1⟩, o2⟩, n, e, x⟩
/-- a scalar -/
def scalD : D → Bool
  | .lst _ => false
  | .tup _ => false
  | _ => true
theorem At.new {v : V} {d : D} (h : At K H ps) (r : ∀ G, Rep K G v d) : At K H ((v, .sh d) :: ps) := by
  obtain ⟨G, fp, s, o, n, e, x⟩ := h
  exact ⟨G, fp, s, ⟨[], fp, rfl, ⟨rfl, r G⟩, o⟩, n, e, x⟩
/-- what is held of shared data, at the heap -/
theorem At.rep {v : V} {d : D} (h : At K H ((v, .sh d) :: ps)) : Rep K H v d := by
  obtain ⟨G, fp, s, ⟨f, g, rfl, ⟨rfl, o1⟩, o2⟩, n, e, x⟩ := h
  exact Rep.mono s d v o1
/-- the children of shared data -/
theorem At.kids {v : V} {ds : List D} (h : At K H ((v, .sh (.lst ds)) :: ps)) : ∃ a vs, v = .ref a ∧ SqL K H a vs ∧ vs.length = ds.length ∧ At K H (vs.zip (ds.map .sh) ++ ps) := by
  obtain ⟨G, fp, s, ⟨f, g, rfl, ⟨rfl, a, vs, rfl, q, r⟩, o2⟩, n, e, x⟩ := h
  have all : ∀ (ds : List D) (vs : List V), Reps K G vs ds → OwnP K G H (vs.zip (ds.map T.sh)) [] := by
    intro ds
    induction ds with
    | nil => intro vs _; cases vs <;> rfl
    | cons d ds ih =>
      intro vs r
      cases vs with
      | nil => rfl
      | cons v vs => exact ⟨[], [], rfl, ⟨rfl, r.1⟩, ih vs r.2⟩
  exact ⟨a, vs, rfl, s.seq q, r.length, G, g, s, (all ds vs r).append o2, n, e, x⟩
theorem At.kidsT {v : V} {ds : List D} (h : At K H ((v, .sh (.tup ds)) :: ps)) : ∃ a vs, v = .ref a ∧ SqT K H a vs ∧ vs.length = ds.length ∧ At K H (vs.zip (ds.map .sh) ++ ps) := by
  obtain ⟨G, fp, s, ⟨f, g, rfl, ⟨rfl, a, vs, rfl, q, r⟩, o2⟩, n, e, x⟩ := h
  have all : ∀ (ds : List D) (vs : List V), Reps K G vs ds → OwnP K G H (vs.zip (ds.map T.sh)) [] := by
    intro ds
    induction ds with
    | nil => intro vs _; cases vs <;> rfl
    | cons d ds ih =>
      intro vs r
      cases vs with
      | nil => rfl
      | cons v vs => exact ⟨[], [], rfl, ⟨rfl, r.1⟩, ih vs r.2⟩
  exact ⟨a, vs, rfl, Same.sqT s q, r.length, G, g, s, (all ds vs r).append o2, n, e, x⟩
/-- frozen -/
theorem At.freeze {v : V} {t : T} (h : At K H ((v, t) :: ps)) : At K H ((v, .sh (fz t)) :: ps) := by
  obtain ⟨G, fp, s, ⟨f, g, rfl, o1, o2⟩, n, e, x⟩ := h
  have nd : (f ++ g).Nodup := n
  have e0 : ∀ a ∈ f ++ g, G a = none := e
  let G' : Hp := fun a => if a ∈ f then H a else G a
  have s1 : Same G G' := fun a o q => by
    show (if a ∈ f then H a else G a) = some o
    by_cases ha : a ∈ f
    · rw [if_pos ha]; exact s a o q
    · rw [if_neg ha]; exact q
  have s2 : Same G' H := fun a o q => by
    have q' : (if a ∈ f then H a else G a) = some o := q
    by_cases ha : a ∈ f
    · rw [if_pos ha] at q'; exact q'
    · rw [if_neg ha] at q'; exact s a o q'
  have r := o1.fz s1 fun a ha => (if_pos ha : (if a ∈ f then H a else G a) = H a)
  refine ⟨G', g, s2, ⟨[], g, rfl, ⟨rfl, r⟩, o2.mono s1 fun _ _ => rfl⟩, (List.nodup_append.mp nd).2.1, fun a ha => ?_, fun a ha => nomatch ha⟩
  have ha : a ∈ g := ha
  have hf : a ∉ f := fun z => (List.nodup_append.mp nd).2.2 a z a ha rfl
  show (if a ∈ f then H a else G a) = none
  rw [if_neg hf]
  exact e0 a (List.mem_append_right _ ha)
/-- a new object of owned children -/
theorem At.newL {vs : List V} {ts : List T} {p : Addr} (h : At K H (vs.zip ts ++ ps)) (l : vs.length = ts.length) (hp : H p = none) : At K (upd H p (.lst vs)) ((.ref p, .lst ts) :: ps) := by
  obtain ⟨G, fp, s, o, n, e, x⟩ := h
  obtain ⟨f, g, rfl, o1, o2⟩ := o.split
  have np : ∀ a ∈ f ++ g, a ≠ p := fun a ha z => by
    subst z
    rcases List.mem_append.mp ha with ha | ha
    · exact o1.trk a ha hp
    · exact o2.trk a ha hp
  have k : ∀ a ∈ f ++ g, upd H p (.lst vs) a = H a := fun a ha => upd_ne (np a ha)
  have gp : G p = none := s.free hp
  refine ⟨G, (p :: f) ++ g, s.trans fun b o q => by rw [upd_ne (ne_of_none q hp)]; exact q, ⟨p :: f, g, rfl, ⟨p, vs, f, rfl, rfl, upd_same, (o1.toS l).mono (Same.refl _) fun a ha => k a (List.mem_append_left _ ha)⟩, o2.mono (Same.refl _) fun a ha => k a (List.mem_append_right _ ha)⟩,
    ?_, fun a ha => ?_, fun a ha => nomatch ha⟩
  · show (p :: (f ++ g)).Nodup
    exact List.nodup_cons.mpr ⟨fun z => np p z rfl, n⟩
  · have ha : a ∈ p :: (f ++ g) := ha
    rcases List.mem_cons.mp ha with rfl | ha
    · exact gp
    · exact e a ha
theorem At.newT {vs : List V} {ts : List T} {p : Addr} (h : At K H (vs.zip ts ++ ps)) (l : vs.length = ts.length) (hp : H p = none) : At K (upd H p (.tup vs)) ((.ref p, .tup ts) :: ps) := by
  obtain ⟨G, fp, s, o, n, e, x⟩ := h
  obtain ⟨f, g, rfl, o1, o2⟩ := o.split
  have np : ∀ a ∈ f ++ g, a ≠ p := fun a ha z => by
    subst z
    rcases List.mem_append.mp ha with ha | ha
    · exact o1.trk a ha hp
    · exact o2.trk a ha hp
  have k : ∀ a ∈ f ++ g, upd H p (.tup vs) a = H a := fun a ha => upd_ne (np a ha)
  have gp : G p = none := s.free hp
  refine ⟨G, (p :: f) ++ g, s.trans fun b o q => by rw [upd_ne (ne_of_none q hp)]; exact q, ⟨p :: f, g, rfl, ⟨p, vs, f, rfl, rfl, upd_same, (o1.toS l).mono (Same.refl _) fun a ha => k a (List.mem_append_left _ ha)⟩, o2.mono (Same.refl _) fun a ha => k a (List.mem_append_right _ ha)⟩,
    ?_, fun a ha => ?_, fun a ha => nomatch ha⟩
  · show (p :: (f ++ g)).Nodup
    exact List.nodup_cons.mpr ⟨fun z => np p z rfl, n⟩
  · have ha : a ∈ p :: (f ++ g) := ha
    rcases List.mem_cons.mp ha with rfl | ha
    · exact gp
    · exact e a ha
/-- an owned list opened: its address, its children -/
theorem At.open {v : V} {ts : List T} (h : At K H ((v, .lst ts) :: ps)) : ∃ a vs, v = .ref a ∧ H a = some (.lst vs) ∧ vs.length = ts.length ∧ AtA K H [a] (vs.zip ts ++ ps) := by
  obtain ⟨G, fp, s, ⟨f, g, rfl, ⟨a, vs, f', rfl, rfl, ha, o1⟩, o2⟩, n, e, x⟩ := h
  refine ⟨a, vs, rfl, ha, o1.length, G, f' ++ g, s, o1.toP.append o2, n, e, fun b hb => ?_⟩
  rw [List.mem_singleton.mp hb, ha]
  exact fun z => nomatch z
theorem At.openT {v : V} {ts : List T} (h : At K H ((v, .tup ts) :: ps)) : ∃ a vs, v = .ref a ∧ H a = some (.tup vs) ∧ vs.length = ts.length ∧ AtA K H [a] (vs.zip ts ++ ps) := by
  obtain ⟨G, fp, s, ⟨f, g, rfl, ⟨a, vs, f', rfl, rfl, ha, o1⟩, o2⟩, n, e, x⟩ := h
  refine ⟨a, vs, rfl, ha, o1.length, G, f' ++ g, s, o1.toP.append o2, n, e, fun b hb => ?_⟩
  rw [List.mem_singleton.mp hb, ha]
  exact fun z => nomatch z
/-- .. and closed again -/
theorem AtA.closeL {a : Addr} {vs : List V} {ts : List T} (h : AtA K H [a] (vs.zip ts ++ ps)) (l : vs.length = ts.length) : At K (upd H a (.lst vs)) ((.ref a, .lst ts) :: ps) := by
  obtain ⟨G, fp, s, o, n, e, x⟩ := h
  obtain ⟨f, g, rfl, o1, o2⟩ := o.split
  have n' : (a :: (f ++ g)).Nodup := n
  have np : ∀ b ∈ f ++ g, b ≠ a := fun b hb z => by
    subst z
    exact (List.nodup_cons.mp n').1 hb
  have k : ∀ b ∈ f ++ g, upd H a (.lst vs) b = H b := fun b hb => upd_ne (np b hb)
  have ga : G a = none := e a (List.mem_cons_self)
  refine ⟨G, (a :: f) ++ g, fun b o q => ?_, ⟨a :: f, g, rfl, ⟨a, vs, f, rfl, rfl, upd_same, (o1.toS l).mono (Same.refl _) fun b hb => k b (List.mem_append_left _ hb)⟩, o2.mono (Same.refl _) fun b hb => k b (List.mem_append_right _ hb)⟩, n', e, fun b hb => nomatch hb⟩
  rw [upd_ne (ne_of_none q ga)]
  exact s b o q
theorem AtA.closed {a : Addr} {vs : List V} {ts : List T} (h : AtA K H [a] (vs.zip ts ++ ps)) (l : vs.length = ts.length) (ha : H a = some (.lst vs)) : At K H ((.ref a, .lst ts) :: ps) := by
  have q := h.closeL l
  have e : upd H a (.lst vs) = H := by
    funext b
    by_cases hb : b = a
    · rw [hb, upd_same, ha]
    · rw [upd_ne hb]
  rw [e] at q
  exact q
/-- forget the address -/
theorem AtA.at {own : List Addr} (h : AtA K H own ps) : At K H ps := by
  obtain ⟨G, fp, s, o, n, e, x⟩ := h
  exact ⟨G, fp, s, o, (List.nodup_append.mp n).2.1, fun a ha => e a (List.mem_append_right _ ha), fun a ha => nomatch ha⟩
end
end VS
/-! VS: the judgements; names, constants, operators. -/
namespace VS
open PySem PySem.Spec PyProof.Rows L2

abbrev St := L2.St
abbrev Sto := List (Option T)
def Fit : St → Sto → Prop
  | [], [] => True
  | some _ :: σ, _ :: S => Fit σ S
  | none :: σ, none :: S => Fit σ S
  | _, _ => False
def prs : St → Sto → Ps
  | some v :: σ, some t :: S => (v, t) :: prs σ S
  | _ :: σ, _ :: S => prs σ S
  | _, _ => []
theorem Fit.length : ∀ {σ : St} {S : Sto}, Fit σ S → σ.length = S.length
  | [], [], _ => rfl
  | some _ :: σ, _ :: S, h => congrArg (· + 1) (Fit.length (σ := σ) (S := S) h)
  | none :: σ, none :: S, h => congrArg (· + 1) (Fit.length (σ := σ) (S := S) h)
  | none :: _, some _ :: _, h => h.elim
  | [], _ :: _, h => h.elim
  | some _ :: _, [], h => h.elim
  | none :: _, [], h => h.elim
/-- a slot's tree is taken -/
theorem Fit.take : ∀ {σ : St} {S : Sto} {i : Nat} {t : T}, Fit σ S → S[i]? = some (some t) → ∃ v, σ[i]? = some (some v) ∧ (prs σ S).Perm ((v, t) :: prs σ (S.set i none)) ∧ Fit σ (S.set i none)
  | [], [], i, t, _, h => by simp at h
  | some v :: σ, o :: S, 0, t, f, h => by
    have h' : o = some t := by simpa using h
    subst h'
    exact ⟨v, rfl, .refl _, f⟩
  | none :: σ, none :: S, 0, t, f, h => by simp at h
  | some v :: σ, some u :: S, i + 1, t, f, h => by
    obtain ⟨w, h1, h2, h3⟩ := Fit.take (σ := σ) (S := S) (i := i) f (by simpa using h)
    exact ⟨w, by simpa using h1, (h2.cons _).trans (.swap ..), h3⟩
  | some v :: σ, none :: S, i + 1, t, f, h => by
    obtain ⟨w, h1, h2, h3⟩ := Fit.take (σ := σ) (S := S) (i := i) f (by simpa using h)
    exact ⟨w, by simpa using h1, h2, h3⟩
  | none :: σ, none :: S, i + 1, t, f, h => by
    obtain ⟨w, h1, h2, h3⟩ := Fit.take (σ := σ) (S := S) (i := i) f (by simpa using h)
    exact ⟨w, by simpa using h1, h2, h3⟩
  | none :: _, some _ :: _, _, _, f, _ => f.elim
  | [], _ :: _, _, _, f, _ => f.elim
  | some _ :: _, [], _, _, f, _ => f.elim
  | none :: _, [], _, _, f, _ => f.elim
/-- a slot is stored -/
theorem Fit.put : ∀ {σ : St} {S : Sto} {i : Nat} {v : V} {t : T}, Fit σ S → i < S.length → Sub (prs (σ.set i (some v)) (S.set i (some t))) ((v, t) :: prs σ S) ∧ Fit (σ.set i (some v)) (S.set i (some t))
  | [], [], i, v, t, _, h => by simp at h
  | some w :: σ, some u :: S, 0, v, t, f, h => ⟨(Sub.refl.skip).cons, f⟩
  | some w :: σ, none :: S, 0, v, t, f, h => ⟨Sub.refl, f⟩
  | none :: σ, none :: S, 0, v, t, f, h => ⟨Sub.refl, f⟩
  | some w :: σ, some u :: S, i + 1, v, t, f, h => by
    obtain ⟨h1, h2⟩ := Fit.put (σ := σ) (S := S) (i := i) (v := v) (t := t) f (by simpa using h)
    exact ⟨(h1.cons).trans (Sub.of_perm (.swap ..)), h2⟩
  | some w :: σ, none :: S, i + 1, v, t, f, h => Fit.put (σ := σ) (S := S) (i := i) (v := v) (t := t) f (by simpa using h)
  | none :: σ, none :: S, i + 1, v, t, f, h => Fit.put (σ := σ) (S := S) (i := i) (v := v) (t := t) f (by simpa using h)
  | none :: _, some _ :: _, _, _, _, f, _ => f.elim
  | [], _ :: _, _, _, _, f, _ => f.elim
  | some _ :: _, [], _, _, _, f, _ => f.elim
  | none :: _, [], _, _, _, f, _ => f.elim
theorem set_at {α : Type} : ∀ {σ : List α} {i : Nat} {o : α}, σ[i]? = some o → σ.set i o = σ
  | [], _, _, h => by simp at h
  | x :: σ, 0, o, h => by
    have e : x = o := by simpa using h
    rw [e] <;> rfl
  | x :: σ, i + 1, o, h => by
    rw [List.set_cons_succ, set_at (by simpa using h)]
/-- .. the same value again -/
theorem Fit.back {σ : St} {S : Sto} {i : Nat} {v : V} {t : T} (f : Fit σ S) (h : σ[i]? = some (some v)) : Sub (prs σ (S.set i (some t))) ((v, t) :: prs σ S) ∧ Fit σ (S.set i (some t)) := by
  have hi : i < S.length := by
    rw [← f.length]
    exact (List.getElem?_eq_some_iff.mp h).1
  have q := f.put (v := v) (t := t) hi
  rw [set_at h] at q
  exact q
/-- a slot is forgotten -/
theorem Fit.forget : ∀ {σ : St} {S : Sto} (i : Nat), Fit σ S → Sub (prs σ (S.set i none)) (prs σ S) ∧ Fit σ (S.set i none)
  | [], [], i, f => ⟨Sub.refl, f⟩
  | some w :: σ, some u :: S, 0, f => ⟨Sub.refl.skip, f⟩
  | some w :: σ, none :: S, 0, f => ⟨Sub.refl, f⟩
  | none :: σ, none :: S, 0, f => ⟨Sub.refl, f⟩
  | some w :: σ, some u :: S, i + 1, f => by
    obtain ⟨h1, h2⟩ := Fit.forget (σ := σ) (S := S) i f
    exact ⟨h1.cons, h2⟩
  | some w :: σ, none :: S, i + 1, f => Fit.forget (σ := σ) (S := S) i f
  | none :: σ, none :: S, i + 1, f => Fit.forget (σ := σ) (S := S) i f
  | none :: _, some _ :: _, _, f => f.elim
  | [], _ :: _, _, f => f.elim
  | some _ :: _, [], _, f => f.elim
  | none :: _, [], _, f => f.elim

/-- the state: the slots' trees, and what is held besides -/
def AtS (K : PySem.W.Frag) (H : Hp) (σ : St) (S : Sto) (fr : Ps) : Prop := Fit σ S ∧ At K H (prs σ S ++ fr)
section
variable {K : PySem.W.Frag} {G H H' : Hp} {σ : St} {S : Sto} {fr ps : Ps}
theorem AtS.front (h : AtS K H σ S fr) : At K H (fr ++ prs σ S) := h.2.perm List.perm_append_comm
theorem AtS.of (f : Fit σ S) (h : At K H (fr ++ prs σ S)) : AtS K H σ S fr := ⟨f, h.perm List.perm_append_comm⟩
theorem AtS.sub (h : AtS K H σ S ps) (s : Sub fr ps) : AtS K H σ S fr := ⟨h.1, h.2.sub (s.append_left _)⟩
theorem AtS.drop1 {p : V × T} (h : AtS K H σ S (p :: fr)) : AtS K H σ S fr := h.sub Sub.refl.skip
/-- what a slot shows -/
theorem AtS.see {i : Nat} {t : T} (h : AtS K H σ S fr) (hi : S[i]? = some (some t)) : ∃ v, σ[i]? = some (some v) ∧ Rep K H v (fz t) := by
  obtain ⟨v, h1, p, _⟩ := h.1.take hi
  have a : At K H ((v, t) :: (prs σ (S.set i none) ++ fr)) := h.2.perm (p.append_right fr)
  exact ⟨v, h1, a.freeze.rep⟩
theorem AtS.take {i : Nat} {t : T} (h : AtS K H σ S fr) (hi : S[i]? = some (some t)) : ∃ v, σ[i]? = some (some v) ∧ AtS K H σ (S.set i none) ((v, t) :: fr) := by
  obtain ⟨v, h1, p, f⟩ := h.1.take hi
  exact ⟨v, h1, f, (h.2.perm (p.append_right fr)).perm List.perm_middle.symm⟩
theorem AtS.put {i : Nat} {v : V} {t : T} (h : AtS K H σ S ((v, t) :: fr)) (hi : i < S.length) : AtS K H (σ.set i (some v)) (S.set i (some t)) fr := by
  obtain ⟨s, f⟩ := h.1.put (v := v) (t := t) hi
  exact ⟨f, (h.2.perm List.perm_middle).sub (s.append_right fr)⟩
theorem AtS.back {i : Nat} {v : V} {t : T} (h : AtS K H σ S ((v, t) :: fr)) (hi : σ[i]? = some (some v)) : AtS K H σ (S.set i (some t)) fr := by
  obtain ⟨s, f⟩ := h.1.back (t := t) hi
  exact ⟨f, (h.2.perm List.perm_middle).sub (s.append_right fr)⟩
theorem AtS.forget (i : Nat) (h : AtS K H σ S fr) : AtS K H σ (S.set i none) fr := by
  obtain ⟨s, f⟩ := h.1.forget i
  exact ⟨f, h.2.sub (s.append_right fr)⟩
/-- a held tree at the front, by the rules of At -/
theorem AtS.at1 {p : V × T} (h : AtS K H σ S (p :: fr)) : At K H (p :: (fr ++ prs σ S)) := h.front
theorem AtS.dup {v : V} {d : D} (h : AtS K H σ S ((v, .sh d) :: fr)) : AtS K H σ S ((v, .sh d) :: (v, .sh d) :: fr) := AtS.of h.1 h.at1.dup
theorem AtS.freeze {v : V} {t : T} (h : AtS K H σ S ((v, t) :: fr)) : AtS K H σ S ((v, .sh (fz t)) :: fr) := AtS.of h.1 h.at1.freeze
theorem AtS.new {v : V} {d : D} (h : AtS K H σ S fr) (r : ∀ G, Rep K G v d) : AtS K H σ S ((v, .sh d) :: fr) := AtS.of h.1 (h.front.new r)
theorem AtS.rep {v : V} {t : T} (h : AtS K H σ S ((v, t) :: fr)) : Rep K H v (fz t) := h.freeze.at1.rep
theorem AtS.perm (h : AtS K H σ S ps) (p : ps.Perm fr) : AtS K H σ S fr := h.sub (Sub.of_perm p)
end

/-! ### the judgements -/
abbrev ME := Sto → Option (T × Sto)
abbrev MT := Sto → Option (Bool × Sto)
abbrev MA := Sto → Option (List T × Sto)
abbrev MP := Sto → Option D
abbrev MB := Sto → Option Bool
theorem PE.imp {X : Cx} {e : Expr} {t t' : TE} (h : PE X e t) (i : ∀ σ H Q, t' σ H Q → t σ H Q) : PE X e t' := ⟨fun pins s σ H Q I q => h.run pins s σ H Q I (i σ H Q q)⟩
theorem PT.imp {X : Cx} {e : Expr} {t t' : TT} (h : PT X e t) (i : ∀ σ H Q, t' σ H Q → t σ H Q) : PT X e t' := ⟨fun pins s σ H Q I q => h.run pins s σ H Q I (i σ H Q q)⟩
theorem PA.imp {X : Cx} {e : List Expr} {t t' : TA} (h : PA X e t) (i : ∀ σ H Q, t' σ H Q → t σ H Q) : PA X e t' := ⟨fun pos pins s σ H Q I q => h.run pos pins s σ H Q I (i σ H Q q)⟩
theorem PS.imp {X : Cx} {e : Stmt} {t t' : TS} (h : PS X e t) (i : ∀ D σ H, t' D σ H → t D σ H) : PS X e t' := ⟨fun pins s σ H D I q => h.run pins s σ H D I (i D σ H q)⟩
theorem PSs.imp {X : Cx} {e : List Stmt} {t t' : TS} (h : PSs X e t) (i : ∀ D σ H, t' D σ H → t D σ H) : PSs X e t' := ⟨fun pins s σ H D I q => h.run pins s σ H D I (i D σ H q)⟩

/-- pure: nothing changes; the value's view -/
def tP (K : PySem.W.Frag) (m : MP) : TE := fun σ H Q => ∃ S fr d, AtS K H σ S fr ∧ m S = some d ∧ ∀ v, Rep K H v d → Q v H
def tPB (K : PySem.W.Frag) (m : MB) : TT := fun σ H Q => ∃ S fr b, AtS K H σ S fr ∧ m S = some b ∧ Q b H
def tPA (K : PySem.W.Frag) (m : Sto → Option (List D)) : TA := fun σ H Q => ∃ S fr ds, AtS K H σ S fr ∧ m S = some ds ∧ ∀ vs, Reps K H vs ds → Q vs H
def tV (K : PySem.W.Frag) (m : ME) : TE := fun σ H Q => ∃ S fr t S', AtS K H σ S fr ∧ m S = some (t, S') ∧ ∀ v H', AtS K H' σ S' ((v, t) :: fr) → Q v H'
def tVT (K : PySem.W.Frag) (m : MT) : TT := fun σ H Q => ∃ S fr b S', AtS K H σ S fr ∧ m S = some (b, S') ∧ ∀ H', AtS K H' σ S' fr → Q b H'
def tVA (K : PySem.W.Frag) (m : MA) : TA := fun σ H Q => ∃ S fr ts S', AtS K H σ S fr ∧ m S = some (ts, S') ∧ ∀ vs H', vs.length = ts.length → AtS K H' σ S' (vs.zip ts ++ fr) → Q vs H'
abbrev VP (X : Cx) (e : Expr) (m : MP) : Prop := PE X e (tP X.K m)
abbrev VPB (X : Cx) (e : Expr) (m : MB) : Prop := PT X e (tPB X.K m)
abbrev VPA (X : Cx) (e : List Expr) (m : Sto → Option (List D)) : Prop := PA X e (tPA X.K m)
abbrev VE (X : Cx) (e : Expr) (m : ME) : Prop := PE X e (tV X.K m)
abbrev VT (X : Cx) (e : Expr) (m : MT) : Prop := PT X e (tVT X.K m)
abbrev VA (X : Cx) (e : List Expr) (m : MA) : Prop := PA X e (tVA X.K m)

section
variable {X : Cx} {e a b c : Expr} {es : List Expr} {pos : Pos}
/-! ### constants, names -/
def pC (d : D) : MP := fun _ => some d
theorem vp_int {i : Int} {j} : VP X (.Constant (.int i) j pos) (pC (.int i)) := PE.imp pe_int fun σ H Q ⟨S, fr, d, h, e, q⟩ => by cases e; exact q _ rfl
theorem vp_bl {i : Bool} {j} : VP X (.Constant (.bool i) j pos) (pC (.bl i)) := PE.imp pe_bl fun σ H Q ⟨S, fr, d, h, e, q⟩ => by cases e; exact q _ rfl
theorem vp_non {j} : VP X (.Constant .none j pos) (pC .non) := PE.imp pe_non fun σ H Q ⟨S, fr, d, h, e, q⟩ => by cases e; exact q _ rfl
theorem vp_str {i : Str} {j} : VP X (.Constant (.str i) j pos) (pC (.str i)) := PE.imp pe_str fun σ H Q ⟨S, fr, d, h, e, q⟩ => by cases e; exact q _ rfl
def pV (i : Nat) : MP := fun S => match S[i]? with
  | some (some t) => some (fz t)
  | _ => none
theorem pV_some {i : Nat} {S : Sto} {d : D} (h : pV i S = some d) : ∃ t, S[i]? = some (some t) ∧ d = fz t := by
  unfold pV at h
  split at h
  · rename_i t e
    exact ⟨t, e, (Option.some.inj h).symm⟩
  · cases h
theorem vp_var (i : Nat) {x : Str} (hN : X.N[i]? = some x := by rfl) (hv : Vis X.env.scope x := by first | exact Or.inl rfl | exact Or.inr (Or.inl rfl) | exact Or.inr (Or.inr rfl)) (hd : (x == ("__debug__" : Str)) = false := by decide)
    (hcd : (x == ("__classdict__" : Str)) = false := by decide) : VP X (.Name x pos) (pV i) := PE.imp (pe_var hN hv hd hcd) fun σ H Q ⟨S, fr, d, h, e, q⟩ => by
  obtain ⟨t, h1, rfl⟩ := pV_some e
  obtain ⟨v, h2, r⟩ := h.see h1
  exact ⟨v, h2, q v r⟩
/-- a module's constant -/
theorem vp_glob {x : Str} {d : D} {v : V} {u : Value} (hg : Gl X x) (hm : X.mg x = some u) (r : RelV v u) (rd : ∀ G, Rep X.K G v d) (hd : (x == ("__debug__" : Str)) = false := by decide) : VP X (.Name x pos) (pC d) :=
  PE.imp (pe_glob hg hm r hd) fun σ H Q ⟨S, fr, d, h, e, q⟩ => by cases e; exact q _ (rd H)

/-! ### pure expressions by their operators -/
def p2 (g : D → D → Option D) (ma mb : MP) : MP := fun S => (ma S).bind fun x => (mb S).bind fun y => g x y
def p1 (g : D → Option D) (ma : MP) : MP := fun S => (ma S).bind g
def rD (K : PySem.W.Frag) (g : D → D → Option D) : R2 := fun x y H Q => ∃ dx dy d, Rep K H x dx ∧ Rep K H y dy ∧ g dx dy = some d ∧ ∀ z, Rep K H z d → Q z H
theorem p2_some {g : D → D → Option D} {ma mb : MP} {S : Sto} {d : D} (h : p2 g ma mb S = some d) : ∃ x y, ma S = some x ∧ mb S = some y ∧ g x y = some d := by
  obtain ⟨x, h1, h⟩ := Option.bind_eq_some_iff.mp h
  obtain ⟨y, h2, h⟩ := Option.bind_eq_some_iff.mp h
  exact ⟨x, y, h1, h2, h⟩
theorem t2_imp {g : D → D → Option D} {ma mb : MP} {σ : St} {H : Hp} {Q : VK} (h : tP X.K (p2 g ma mb) σ H Q) : tP X.K ma σ H fun x H1 => tP X.K mb σ H1 fun y H2 => rD X.K g x y H2 Q := by
  obtain ⟨S, fr, d, h, e, q⟩ := h
  obtain ⟨x, y, h1, h2, h3⟩ := p2_some e
  exact ⟨S, fr, x, h, h1, fun v r1 => ⟨S, fr, y, h, h2, fun u r2 => ⟨x, y, d, r1, r2, h3, q⟩⟩⟩
theorem vp_op {op : Operator} {g : D → D → Option D} {ma mb : MP} (ho : OpR X (binaryOp op) (rD X.K g)) (ha : VP X a ma) (hb : VP X b mb) : VP X (.BinOp a op b pos) (p2 g ma mb) :=
  PE.imp (pe_op ho ha hb) fun σ H Q h => t2_imp h
theorem vp_cmp {op : CmpOp} {g : D → D → Option D} {ma mb : MP} (ho : OpR X (compareOp op) (rD X.K g)) (ha : VP X a ma) (hb : VP X b mb) (hm : behindInMarks op b = false := by first | exact nobehind _ (by decide) (by decide) | rfl) : VP X (.Compare a [op] [b] pos) (p2 g ma mb) :=
  PE.imp (pe_cmpR ho ha hb hm) fun σ H Q h => t2_imp h
/-- a data that is a truth value -/
def asB : D → Option Bool
  | .bl b => some b
  | _ => none
def pB (m : MP) : MB := fun S => (m S).bind asB
theorem asB_some {d : D} {b : Bool} (h : asB d = some b) : d = .bl b := by
  cases d <;> first | cases h | skip
  rfl
theorem vb_cmp {op : CmpOp} {g : D → D → Option D} {ma mb : MP} (ho : OpR X (compareOp op) (rD X.K g)) (ha : VP X a ma) (hb : VP X b mb) (hm : behindInMarks op b = false := by first | exact nobehind _ (by decide) (by decide) | rfl) : VPB X (.Compare a [op] [b] pos) (pB (p2 g ma mb)) :=
  PT.imp (pt_cmpR ho ha hb hm) fun σ H Q ⟨S, fr, c, h, e, q⟩ => by
    obtain ⟨d, e1, e2⟩ := Option.bind_eq_some_iff.mp e
    have e3 := asB_some e2
    subst e3
    exact t2_imp ⟨S, fr, _, h, e1, fun v r => ⟨c, r, q⟩⟩
theorem vb_val {m : MP} (h : VP X e m) (he : ∀ whole, isTrue e X.env whole = (do let v ← whole; standAt e.pos; holding [v] (truthy v)) := by intro _; rfl) : VPB X e (pB m) :=
  PT.imp (pt_val h he) fun σ H Q ⟨S, fr, c, h, e, q⟩ => by
    obtain ⟨d, e1, e2⟩ := Option.bind_eq_some_iff.mp e
    have e3 := asB_some e2
    subst e3
    exact ⟨S, fr, _, h, e1, fun v r => ⟨c, r, q⟩⟩
/-- and, or, not as tests -/
def bAnd (p q : MB) : MB := fun S => (p S).bind fun x => if x = true then q S else some false
def bOr (p q : MB) : MB := fun S => (p S).bind fun x => if x = true then some true else q S
def bNot (p : MB) : MB := fun S => (p S).bind fun x => some (!x)
/-- whatever the whole is -/
def VWB (X : Cx) (e : Expr) (m : MB) : Prop := PW X e (tPB X.K m)
theorem PW.imp {t t' : TT} (h : PW X e t) (i : ∀ σ H Q, t' σ H Q → t σ H Q) : PW X e t' := ⟨fun wh pins s σ H Q I q => h.run wh pins s σ H Q I (i σ H Q q)⟩
theorem vw_and1 {p : MB} (h : VPB X a p) : VWB X (.BoolOp .And [a] pos) p := pw_and1 h
theorem vw_or1 {p : MB} (h : VPB X a p) : VWB X (.BoolOp .Or [a] pos) p := pw_or1 h
theorem vw_and {p q : MB} (h : VPB X a p) (h2 : VWB X (.BoolOp .And (b :: es) pos) q) : VWB X (.BoolOp .And (a :: b :: es) pos) (bAnd p q) := PW.imp (pw_and h h2) fun σ H Q ⟨S, fr, c, h, e, k⟩ => by
  obtain ⟨x, e1, e2⟩ := Option.bind_eq_some_iff.mp e
  refine ⟨S, fr, x, h, e1, ?_⟩
  cases x with
  | true => exact iteT ⟨S, fr, c, h, by simpa using e2, k⟩
  | false =>
    have z : false = c := by simpa using e2
    subst z
    exact iteF k
theorem vw_or {p q : MB} (h : VPB X a p) (h2 : VWB X (.BoolOp .Or (b :: es) pos) q) : VWB X (.BoolOp .Or (a :: b :: es) pos) (bOr p q) := PW.imp (pw_or h h2) fun σ H Q ⟨S, fr, c, h, e, k⟩ => by
  obtain ⟨x, e1, e2⟩ := Option.bind_eq_some_iff.mp e
  refine ⟨S, fr, x, h, e1, ?_⟩
  cases x with
  | false => exact iteF ⟨S, fr, c, h, by simpa using e2, k⟩
  | true =>
    have z : true = c := by simpa using e2
    subst z
    exact iteT k
theorem vb_w {p : MB} (h : VWB X e p) : VPB X e p := PW.pt h
theorem vb_not {p : MB} (h : VPB X a p) : VPB X (.UnaryOp .Not a pos) (bNot p) := PT.imp (pt_not h) fun σ H Q ⟨S, fr, c, h, e, k⟩ => by
  obtain ⟨x, e1, e2⟩ := Option.bind_eq_some_iff.mp e
  have z : (!x) = c := by simpa using e2
  subst z
  exact ⟨S, fr, x, h, e1, k⟩
/-- as values -/
def pAnd (p q : MP) : MP := fun S => (p S).bind fun x => (asB x).bind fun x => if x = true then q S else some (.bl false)
def pOr (p q : MP) : MP := fun S => (p S).bind fun x => (asB x).bind fun x => if x = true then some (.bl true) else q S
def pNot (p : MP) : MP := fun S => (p S).bind fun x => (asB x).bind fun x => some (.bl (!x))
theorem vp_one {op} {p : MP} (h : VP X a p) : VP X (.BoolOp op [a] pos) p := pe_one h
theorem vp_and {p q : MP} (h : VP X a p) (h2 : VP X (.BoolOp .And (b :: es) pos) q) : VP X (.BoolOp .And (a :: b :: es) pos) (pAnd p q) := PE.imp (pe_and h h2) fun σ H Q ⟨S, fr, c, h, e, k⟩ => by
  obtain ⟨x, e1, e2⟩ := Option.bind_eq_some_iff.mp e
  obtain ⟨y, e3, e4⟩ := Option.bind_eq_some_iff.mp e2
  have e5 := asB_some e3
  subst e5
  refine ⟨S, fr, _, h, e1, fun v r => ⟨y, r, ?_⟩⟩
  cases y with
  | true => exact iteT ⟨S, fr, c, h, by simpa using e4, k⟩
  | false =>
    have z : D.bl false = c := by simpa using e4
    subst z
    exact iteF (k _ rfl)
theorem vp_or {p q : MP} (h : VP X a p) (h2 : VP X (.BoolOp .Or (b :: es) pos) q) : VP X (.BoolOp .Or (a :: b :: es) pos) (pOr p q) := PE.imp (pe_or h h2) fun σ H Q ⟨S, fr, c, h, e, k⟩ => by
  obtain ⟨x, e1, e2⟩ := Option.bind_eq_some_iff.mp e
  obtain ⟨y, e3, e4⟩ := Option.bind_eq_some_iff.mp e2
  have e5 := asB_some e3
  subst e5
  refine ⟨S, fr, _, h, e1, fun v r => ⟨y, r, ?_⟩⟩
  cases y with
  | false => exact iteF ⟨S, fr, c, h, by simpa using e4, k⟩
  | true =>
    have z : D.bl true = c := by simpa using e4
    subst z
    exact iteT (k _ rfl)
theorem vp_not {p : MP} (h : VP X a p) : VP X (.UnaryOp .Not a pos) (pNot p) := PE.imp (pe_not h) fun σ H Q ⟨S, fr, c, h, e, k⟩ => by
  obtain ⟨x, e1, e2⟩ := Option.bind_eq_some_iff.mp e
  obtain ⟨y, e3, e4⟩ := Option.bind_eq_some_iff.mp e2
  have e5 := asB_some e3
  subst e5
  have z : D.bl (!y) = c := by simpa using e4
  subst z
  exact ⟨S, fr, _, h, e1, fun v r => ⟨y, r, k _ rfl⟩⟩
def pIf (t : MB) (p q : MP) : MP := fun S => (t S).bind fun x => if x = true then p S else q S
theorem vp_if {t : MB} {p q : MP} (ht : VPB X c t) (h1 : VP X a p) (h2 : VP X b q) : VP X (.IfExp c a b pos) (pIf t p q) := PE.imp (pe_ifExp ht h1 h2) fun σ H Q ⟨S, fr, d, h, e, k⟩ => by
  obtain ⟨x, e1, e2⟩ := Option.bind_eq_some_iff.mp e
  refine ⟨S, fr, x, h, e1, ?_⟩
  cases x with
  | true => exact iteT ⟨S, fr, d, h, by simpa using e2, k⟩
  | false => exact iteF ⟨S, fr, d, h, by simpa using e2, k⟩
/-- a < b < c -/
def pChain (g g' : D → D → Option D) (ma mb mc : MP) : MP := fun S => (ma S).bind fun x => (mb S).bind fun y => (g x y).bind fun z => (asB z).bind fun k => if k = true then (mc S).bind fun w => g' y w else some (.bl false)
theorem chain_imp {g g' : D → D → Option D} {ma mb mc : MP} {σ : St} {H : Hp} {Q : VK} (h : tP X.K (pChain g g' ma mb mc) σ H Q) : tChain (rD X.K g) (rD X.K g') (tP X.K ma) (tP X.K mb) (tP X.K mc) σ H Q := by
  obtain ⟨S, fr, d, h, e, q⟩ := h
  obtain ⟨x, h1, e⟩ := Option.bind_eq_some_iff.mp e
  obtain ⟨y, h2, e⟩ := Option.bind_eq_some_iff.mp e
  obtain ⟨z, h3, e⟩ := Option.bind_eq_some_iff.mp e
  obtain ⟨k, h4, e⟩ := Option.bind_eq_some_iff.mp e
  have e5 := asB_some h4
  subst e5
  refine ⟨S, fr, x, h, h1, fun v r1 => ⟨S, fr, y, h, h2, fun u r2 => ⟨x, y, _, r1, r2, h3, fun w r3 => ⟨k, r3, ?_⟩⟩⟩⟩
  cases k with
  | true =>
    obtain ⟨w', h5, e6⟩ := Option.bind_eq_some_iff.mp (show ((mc S).bind fun w => g' y w) = some d by simpa [asB] using e)
    exact iteT ⟨S, fr, w', h, h5, fun v' r4 => ⟨y, w', d, r2, r4, e6, q⟩⟩
  | false =>
    have z : D.bl false = d := by simpa [asB] using e
    subst z
    exact iteF (q _ rfl)
theorem vp_chain {op op' : CmpOp} {g g' : D → D → Option D} {ma mb mc : MP} (ho : OpR X (compareOp op) (rD X.K g)) (ho' : OpR X (compareOp op') (rD X.K g')) (ha : VP X a ma) (hb : VP X b mb) (hc : VP X c mc)
    (hm : lastMarks [op, op'] [b, c] = false := by with_unfolding_all rfl) : VP X (.Compare a [op, op'] [b, c] pos) (pChain g g' ma mb mc) := PE.imp (pe_chain ho ho' ha hb hc hm) fun σ H Q h => chain_imp h
theorem vb_chain {op op' : CmpOp} {g g' : D → D → Option D} {ma mb mc : MP} (ho : OpR X (compareOp op) (rD X.K g)) (ho' : OpR X (compareOp op') (rD X.K g')) (ha : VP X a ma) (hb : VP X b mb) (hc : VP X c mc)
    (hm : lastMarks [op, op'] [b, c] = false := by with_unfolding_all rfl) : VPB X (.Compare a [op, op'] [b, c] pos) (pB (pChain g g' ma mb mc)) := PT.imp (pt_chain ho ho' ha hb hc hm) fun σ H Q ⟨S, fr, c, h, e, q⟩ => by
    obtain ⟨d, e1, e2⟩ := Option.bind_eq_some_iff.mp e
    have e3 := asB_some e2
    subst e3
    exact chain_imp ⟨S, fr, _, h, e1, fun v r => ⟨c, r, q⟩⟩
end
end VS
/-! VS: the operators on data, and that the model computes them. -/
namespace VS
open PySem PySem.Spec PyProof.Rows L2

/-! ### data -/
def lenOk (x : Str) : Bool := decide (x.length ≤ sizeLine)
theorem lenOk_iff {x : Str} : lenOk x = true ↔ x.length ≤ sizeLine := by unfold lenOk; exact decide_eq_true_iff
def small64 (i : Int) : Bool := decide (-(2 ^ 64) < i ∧ i < 2 ^ 64)
def dAdd : D → D → Option D
  | .int i, .int j => some (.int (i + j))
  | .str x, .str y => if x.length + y.length ≤ sizeLine then some (.str (x ++ y)) else none
  | _, _ => none
def dSub : D → D → Option D
  | .int i, .int j => some (.int (i - j))
  | _, _ => none
def dMul : D → D → Option D
  | .int i, .int j => if (small64 i || small64 j) = true then some (.int (i * j)) else none
  | .str x, .int n => if 0 ≤ n ∧ n ≤ 1000000 ∧ x.length ≤ 1 then some (.str (Txt.mul x n)) else none
  | _, _ => none
def dDiv : D → D → Option D
  | .int i, .int j => if j ≠ 0 ∧ j.natAbs.log2 < 9000 then some (.int (i.fdiv j)) else none
  | _, _ => none
def dMod : D → D → Option D
  | .int i, .int j => if j ≠ 0 then some (.int (i.fmod j)) else none
  | _, _ => none
def dPow : D → D → Option D
  | .int i, .int j => if 0 ≤ j ∧ j ≤ 1000000 ∧ i.natAbs < 2 ^ 64 then some (.int (i ^ j.toNat)) else none
  | _, _ => none
def dCmp (p : Int → Int → Bool) : D → D → Option D
  | .int i, .int j => some (.bl (p i j))
  | _, _ => none
def dLt : D → D → Option D := dCmp fun i j => decide (i < j)
def dLe : D → D → Option D := dCmp fun i j => decide (i ≤ j)
def dGt : D → D → Option D := dCmp fun i j => decide (j < i)
def dGe : D → D → Option D := dCmp fun i j => decide (j ≤ i)
mutual
def py : D → PyData
  | .non => .none
  | .bl b => .bool b
  | .int i => .int i
  | .str x => .str x
  | .lst xs => .list (pyL xs)
  | .tup xs => .tuple (pyL xs)
def pyL : List D → List PyData
  | [] => []
  | d :: ds => py d :: pyL ds
end
/-- == of data -/
def deq (x y : D) : Bool := PyData.eqv (py x) (py y)
def okD (x : D) : Bool := SeqAt.shaped (py x)
def sc : D → Bool
  | .lst _ => false
  | .tup _ => false
  | _ => true
/-- two scalars that == tells apart by their kinds (no truth value beside a number) -/
def sc2 : D → D → Bool
  | .bl _, .int _ => false
  | .int _, .bl _ => false
  | x, y => sc x && sc y
def dEq (x y : D) : Option D := if sc2 x y = true then some (.bl (deq x y)) else if (okD x && okD y) = true then some (.bl (deq x y)) else none
def dNe (x y : D) : Option D := if sc2 x y = true then some (.bl (!deq x y)) else if (okD x && okD y) = true then some (.bl (!deq x y)) else none
def isNonD : D → Bool
  | .non => true
  | _ => false
def dIsN : D → D → Option D
  | x, .non => some (.bl (isNonD x))
  | _, _ => none
def dIsNotN : D → D → Option D
  | x, .non => some (.bl (!isNonD x))
  | _, _ => none
def items : D → Option (List D)
  | .lst xs => some xs
  | .tup xs => some xs
  | _ => none
/-- the sign of a text of one sign -/
def sign1 (x : Str) : Option Nat := match x.cps.toList with
  | [c] => some c
  | _ => none
def dIn (x y : D) : Option D := match x, y with
  | .str a, .str b => (sign1 a).map fun c => .bl (decide (c ∈ b.cps.toList))
  | x, y => (items y).bind fun ds => if (sc x && ds.all sc) = true then some (.bl (ds.any fun d => deq d x)) else none
def dNot (o : Option D) : Option D := o.bind fun d => match d with
  | .bl b => some (.bl (!b))
  | _ => none
def dNotIn (x y : D) : Option D := dNot (dIn x y)
def dIx (x y : D) : Option D := match y with
  | .int i => match x with
    | .str z => if lenOk z = true then (atI z.cps.toList i).map fun c => .str ⟨#[c]⟩ else none
    | .lst xs => atI xs i
    | .tup xs => atI xs i
    | _ => none
  | _ => none

section
variable {K : PySem.W.Frag} {H : Hp}
theorem Reps.get : ∀ {ds : List D} {vs : List V} {i : Nat} {d : D}, Reps K H vs ds → ds[i]? = some d → ∃ v, vs[i]? = some v ∧ Rep K H v d
  | [], _, _, _, _, h => by simp at h
  | _ :: _, [], _, _, h, _ => h.elim
  | e :: ds, v :: vs, 0, d, h, h' => by
    have z : e = d := by simpa using h'
    subst z
    exact ⟨v, rfl, h.1⟩
  | e :: ds, v :: vs, i + 1, d, h, h' => by
    obtain ⟨u, h1, h2⟩ := Reps.get (i := i) h.2 (by simpa using h')
    exact ⟨u, by simpa using h1, h2⟩
theorem Reps.atI {ds : List D} {vs : List V} {i : Int} {d : D} (r : Reps K H vs ds) (h : L2.atI ds i = some d) : ∃ v, L2.atI vs i = some v ∧ Rep K H v d := by
  obtain ⟨j, h1, h2⟩ := Option.bind_eq_some_iff.mp h
  obtain ⟨v, h3, h4⟩ := r.get h2
  refine ⟨v, ?_, h4⟩
  unfold L2.atI
  rw [r.length, h1]
  exact h3
mutual
theorem Rep.dp : ∀ {d : D} {v : V}, Rep K H v d → Dp K H v (py d)
  | .non, v, h => by rw [show v = .non from h]; exact .non
  | .bl b, v, h => by rw [show v = .bl b from h]; exact .bl b
  | .int i, v, h => by rw [show v = .int i from h]; exact .int i
  | .str x, v, h => by rw [show v = .str x from h]; exact .str x
  | .lst ds, v, h => by
    obtain ⟨a, vs, rfl, q, r⟩ := h
    exact .lst q (Reps.dp r)
  | .tup ds, v, h => by
    obtain ⟨a, vs, rfl, q, r⟩ := h
    exact .tup q (Reps.dp r)
theorem Reps.dp : ∀ {ds : List D} {vs : List V}, Reps K H vs ds → DpAll K H vs (pyL ds)
  | [], [], _ => .nil
  | d :: ds, v :: vs, h => .cons (Rep.dp h.1) (Reps.dp h.2)
  | [], _ :: _, h => h.elim
  | _ :: _, [], h => h.elim
end
theorem Rep.scal {x y : D} {v u : V} (h : sc2 x y = true) (rv : Rep K H v x) (ru : Rep K H u y) : scal v u = true ∧ decide (v = u) = deq x y := by
  cases x with
  | non =>
    rw [show v = .non from rv]
    cases y with
    | non => rw [show u = .non from ru]; exact ⟨rfl, rfl⟩
    | bl b => rw [show u = .bl b from ru]; exact ⟨rfl, rfl⟩
    | int j => rw [show u = .int j from ru]; exact ⟨rfl, rfl⟩
    | str z => rw [show u = .str z from ru]; exact ⟨rfl, rfl⟩
    | _ => cases h
  | bl a =>
    rw [show v = .bl a from rv]
    cases y with
    | non => rw [show u = .non from ru]; exact ⟨rfl, rfl⟩
    | bl b =>
      rw [show u = .bl b from ru]
      refine ⟨rfl, ?_⟩
      show decide (V.bl a = V.bl b) = (a == b)
      cases a <;> cases b <;> rfl
    | str z => rw [show u = .str z from ru]; exact ⟨rfl, rfl⟩
    | _ => cases h
  | int a =>
    rw [show v = .int a from rv]
    cases y with
    | non => rw [show u = .non from ru]; exact ⟨rfl, rfl⟩
    | int b =>
      rw [show u = .int b from ru]
      refine ⟨rfl, ?_⟩
      show decide (V.int a = V.int b) = (a == b)
      exact dec_int
    | str z => rw [show u = .str z from ru]; exact ⟨rfl, rfl⟩
    | _ => cases h
  | str a =>
    rw [show v = .str a from rv]
    cases y with
    | non => rw [show u = .non from ru]; exact ⟨rfl, rfl⟩
    | bl b => rw [show u = .bl b from ru]; exact ⟨rfl, rfl⟩
    | int j => rw [show u = .int j from ru]; exact ⟨rfl, rfl⟩
    | str b =>
      rw [show u = .str b from ru]
      refine ⟨rfl, ?_⟩
      show decide (V.str a = V.str b) = (a == b)
      rw [Bool.eq_iff_iff]
      simp
    | _ => cases h
  | lst _ => cases y <;> cases h
  | tup _ => cases y <;> cases h
theorem Rep.flat {x : D} {v : V} (h : sc x = true) (rv : Rep K H v x) : flatV v = true := by
  cases x with
  | non => rw [show v = .non from rv]; rfl
  | bl b => rw [show v = .bl b from rv]; rfl
  | int b => rw [show v = .int b from rv]; rfl
  | str b => rw [show v = .str b from rv]; rfl
  | _ => cases h
theorem Rep.eqV {x y : D} {v u : V} (h : sc x = true) (h' : sc y = true) (rv : Rep K H v x) (ru : Rep K H u y) : L2.eqV v u = deq x y := by
  cases x with
  | non =>
    rw [show v = .non from rv]
    cases y with
    | non => rw [show u = .non from ru]; rfl
    | bl b => rw [show u = .bl b from ru]; rfl
    | int b => rw [show u = .int b from ru]; rfl
    | str b => rw [show u = .str b from ru]; rfl
    | _ => cases h'
  | bl a =>
    rw [show v = .bl a from rv]
    cases y with
    | non => rw [show u = .non from ru]; rfl
    | bl b => rw [show u = .bl b from ru]; rfl
    | int b => rw [show u = .int b from ru]; rfl
    | str b => rw [show u = .str b from ru]; rfl
    | _ => cases h'
  | int a =>
    rw [show v = .int a from rv]
    cases y with
    | non => rw [show u = .non from ru]; rfl
    | bl b => rw [show u = .bl b from ru]; rfl
    | int b => rw [show u = .int b from ru]; rfl
    | str b => rw [show u = .str b from ru]; rfl
    | _ => cases h'
  | str a =>
    rw [show v = .str a from rv]
    cases y with
    | non => rw [show u = .non from ru]; rfl
    | bl b => rw [show u = .bl b from ru]; rfl
    | int b => rw [show u = .int b from ru]; rfl
    | str b => rw [show u = .str b from ru]; rfl
    | _ => cases h'
  | lst _ => cases h
  | tup _ => cases h
theorem Reps.flat : ∀ {ds : List D} {vs : List V}, Reps K H vs ds → ds.all sc = true → vs.all flatV = true
  | [], [], _, _ => rfl
  | d :: ds, v :: vs, h, q => by
    rw [List.all_cons, Bool.and_eq_true] at q ⊢
    exact ⟨Rep.flat q.1 h.1, Reps.flat h.2 q.2⟩
  | [], _ :: _, h, _ => h.elim
  | _ :: _, [], h, _ => h.elim
theorem Reps.inV {x : D} {v : V} (hx : sc x = true) (rv : Rep K H v x) : ∀ {ds : List D} {vs : List V}, Reps K H vs ds → ds.all sc = true → L2.inV v vs = ds.any fun d => deq d x
  | [], [], _, _ => rfl
  | d :: ds, u :: vs, h, q => by
    rw [List.all_cons, Bool.and_eq_true] at q
    show (L2.eqV u v || L2.inV v vs) = (deq d x || ds.any fun d => deq d x)
    rw [Rep.eqV q.1 hx h.1 rv, Reps.inV hx rv h.2 q.2]
  | [], _ :: _, h, _ => h.elim
  | _ :: _, [], h, _ => h.elim
theorem Rep.ref {ds : List D} {d : D} {v : V} (h : items d = some ds) (r : Rep K H v d) : ∃ a vs, v = .ref a ∧ (SqL K H a vs ∨ SqT K H a vs) ∧ Reps K H vs ds := by
  cases d with
  | lst xs =>
    have z : xs = ds := by simpa [items] using h
    subst z
    obtain ⟨a, vs, e, q, k⟩ := r
    exact ⟨a, vs, e, .inl q, k⟩
  | tup xs =>
    have z : xs = ds := by simpa [items] using h
    subst z
    obtain ⟨a, vs, e, q, k⟩ := r
    exact ⟨a, vs, e, .inr q, k⟩
  | _ => cases h
end

/-! ### the model computes them -/
section
variable {X : Cx}
theorem od_add : OpR X (binaryOp .Add) (rD X.K dAdd) := by
  intro pins s σ H x y v u Q I rx ry ⟨dx, dy, d, r1, r2, e, q⟩
  cases dx with
  | int i =>
    cases dy with
    | int j =>
      have z : D.int (i + j) = d := by simpa [dAdd] using e
      subst z
      rw [show x = .int i from r1] at rx
      rw [show y = .int j from r2] at ry
      exact op_add pins s σ H _ _ v u Q I rx ry ⟨i, j, rfl, rfl, q _ rfl⟩
    | _ => cases e
  | str i =>
    cases dy with
    | str j =>
      simp only [dAdd] at e
      split at e
      · rename_i hl
        have z : D.str (i ++ j) = d := by simpa using e
        subst z
        rw [show x = .str i from r1] at rx
        rw [show y = .str j from r2] at ry
        exact op_add_str pins s σ H _ _ v u Q I rx ry ⟨i, j, rfl, rfl, hl, q _ rfl⟩
      · cases e
    | _ => cases e
  | _ => cases dy <;> cases e
theorem od_sub : OpR X (binaryOp .Sub) (rD X.K dSub) := by
  intro pins s σ H x y v u Q I rx ry ⟨dx, dy, d, r1, r2, e, q⟩
  cases dx with
  | int i =>
    cases dy with
    | int j =>
      have z : D.int (i - j) = d := by simpa [dSub] using e
      subst z
      rw [show x = .int i from r1] at rx
      rw [show y = .int j from r2] at ry
      exact op_sub pins s σ H _ _ v u Q I rx ry ⟨i, j, rfl, rfl, q _ rfl⟩
    | _ => cases e
  | _ => cases dy <;> cases e
theorem od_mul : OpR X (binaryOp .Mult) (rD X.K dMul) := by
  intro pins s σ H x y v u Q I rx ry ⟨dx, dy, d, r1, r2, e, q⟩
  cases dx with
  | int i =>
    cases dy with
    | int j =>
      simp only [dMul] at e
      split at e
      · rename_i hl
        have z : D.int (i * j) = d := by simpa using e
        subst z
        rw [show x = .int i from r1] at rx
        rw [show y = .int j from r2] at ry
        refine op_mul pins s σ H _ _ v u Q I rx ry ⟨i, j, rfl, rfl, ?_, q _ rfl⟩
        rcases Bool.or_eq_true_iff.mp hl with h | h
        · exact .inl (of_decide_eq_true h)
        · exact .inr (of_decide_eq_true h)
      · cases e
    | _ => cases e
  | str i =>
    cases dy with
    | int n =>
      simp only [dMul] at e
      split at e
      · rename_i hl
        have z : D.str (Txt.mul i n) = d := by simpa using e
        subst z
        rw [show x = .str i from r1] at rx
        rw [show y = .int n from r2] at ry
        obtain ⟨t, rfl⟩ := rx
        obtain ⟨t', rfl⟩ := ry
        obtain ⟨h1, h2, h3⟩ := hl
        refine PySem.SB.mul ⟨?_, fun h4 _ => ?_, fun h4 _ => ?_⟩ fun t' k => ⟨.str _, H, I.tok _, ⟨_, rfl⟩, q _ rfl⟩
        · rw [Bool.or_eq_false_iff]
          exact ⟨decide_eq_false (by omega), decide_eq_false (by omega)⟩
        · have : (1 : Int) ≤ (2 ^ 63 - 1) / n := by
            have h5 : 0 < n := by omega
            rw [Int.le_ediv_iff_mul_le h5]
            omega
          omega
        · have h5 : i.length * n.toNat ≤ 1 * 1000000 := Nat.mul_le_mul h3 (by omega)
          have : ¬ sizeLine < i.length * n.toNat := by
            have : (1000000 : Nat) ≤ sizeLine := by decide
            omega
          first
            | exact decide_eq_false this
            | (unfold tooLong; exact decide_eq_false this)
            | (unfold tooLong; simp; omega)
      · cases e
    | _ => cases e
  | _ => cases dy <;> cases e
theorem op_divB : OpR X (binaryOp .FloorDiv) (rI (fun _ j => j ≠ 0 ∧ j.natAbs.log2 < 9000) fun i j => .int (i.fdiv j)) :=
  opI fun _ _ _ _ _ _ _ c q => floordiv_int c.1 q (.inl (PyProof.noPylong_of_log2 c.2))
theorem od_div : OpR X (binaryOp .FloorDiv) (rD X.K dDiv) := by
  intro pins s σ H x y v u Q I rx ry ⟨dx, dy, d, r1, r2, e, q⟩
  cases dx with
  | int i =>
    cases dy with
    | int j =>
      simp only [dDiv] at e
      split at e
      · rename_i hl
        have z : D.int (i.fdiv j) = d := by simpa using e
        subst z
        rw [show x = .int i from r1] at rx
        rw [show y = .int j from r2] at ry
        exact op_divB pins s σ H _ _ v u Q I rx ry ⟨i, j, rfl, rfl, hl, q _ rfl⟩
      · cases e
    | _ => cases e
  | _ => cases dy <;> cases e
theorem od_mod : OpR X (binaryOp .Mod) (rD X.K dMod) := by
  intro pins s σ H x y v u Q I rx ry ⟨dx, dy, d, r1, r2, e, q⟩
  cases dx with
  | int i =>
    cases dy with
    | int j =>
      simp only [dMod] at e
      split at e
      · rename_i hl
        have z : D.int (i.fmod j) = d := by simpa using e
        subst z
        rw [show x = .int i from r1] at rx
        rw [show y = .int j from r2] at ry
        exact op_modN pins s σ H _ _ v u Q I rx ry ⟨i, j, rfl, rfl, hl, q _ rfl⟩
      · cases e
    | _ => cases e
  | _ => cases dy <;> cases e
theorem od_pow : OpR X (binaryOp .Pow) (rD X.K dPow) := by
  intro pins s σ H x y v u Q I rx ry ⟨dx, dy, d, r1, r2, e, q⟩
  cases dx with
  | int i =>
    cases dy with
    | int j =>
      simp only [dPow] at e
      split at e
      · rename_i hl
        have z : D.int (i ^ j.toNat) = d := by simpa using e
        subst z
        rw [show x = .int i from r1] at rx
        rw [show y = .int j from r2] at ry
        exact op_pow pins s σ H _ _ v u Q I rx ry ⟨i, j, rfl, rfl, hl, q _ rfl⟩
      · cases e
    | _ => cases e
  | _ => cases dy <;> cases e
theorem od_cmp {op : CmpOp} {p : Int → Int → Bool} (ho : OpR X (compareOp op) (rI0 fun i j => .bl (p i j))) : OpR X (compareOp op) (rD X.K (dCmp p)) := by
  intro pins s σ H x y v u Q I rx ry ⟨dx, dy, d, r1, r2, e, q⟩
  cases dx with
  | int i =>
    cases dy with
    | int j =>
      have z : D.bl (p i j) = d := by simpa [dCmp] using e
      subst z
      rw [show x = .int i from r1] at rx
      rw [show y = .int j from r2] at ry
      exact ho pins s σ H _ _ v u Q I rx ry ⟨i, j, rfl, rfl, q _ rfl⟩
    | _ => cases e
  | _ => cases dy <;> cases e
theorem od_lt : OpR X (compareOp .Lt) (rD X.K dLt) := od_cmp op_lt
theorem od_le : OpR X (compareOp .LtE) (rD X.K dLe) := od_cmp op_le
theorem od_gt : OpR X (compareOp .Gt) (rD X.K dGt) := od_cmp op_gt
theorem od_ge : OpR X (compareOp .GtE) (rD X.K dGe) := od_cmp op_ge
theorem od_eq (hu : X.A.units + 64 < cLine) : OpR X (compareOp .Eq) (rD X.K dEq) := by
  intro pins s σ H x y v u Q I rx ry ⟨dx, dy, d, r1, r2, e, q⟩
  unfold dEq at e
  split at e
  · rename_i hs
    have z : D.bl (deq dx dy) = d := by simpa using e
    subst z
    obtain ⟨h1, h2⟩ := Rep.scal hs r1 r2
    exact op_eq pins s σ H _ _ v u Q I rx ry ⟨h1, by rw [h2]; exact q _ rfl⟩
  · split at e
    · rename_i hs
      have z : D.bl (deq dx dy) = d := by simpa using e
      subst z
      obtain ⟨h1, h2⟩ := Bool.and_eq_true_iff.mp hs
      exact op_eqD hu pins s σ H _ _ v u Q I rx ry ⟨_, _, r1.dp, r2.dp, h1, h2, q _ rfl⟩
    · cases e
theorem od_ne (hu : X.A.units + 64 < cLine) : OpR X (compareOp .NotEq) (rD X.K dNe) := by
  intro pins s σ H x y v u Q I rx ry ⟨dx, dy, d, r1, r2, e, q⟩
  unfold dNe at e
  split at e
  · rename_i hs
    have z : D.bl (!deq dx dy) = d := by simpa using e
    subst z
    obtain ⟨h1, h2⟩ := Rep.scal hs r1 r2
    exact op_ne pins s σ H _ _ v u Q I rx ry ⟨h1, by rw [h2]; exact q _ rfl⟩
  · split at e
    · rename_i hs
      have z : D.bl (!deq dx dy) = d := by simpa using e
      subst z
      obtain ⟨h1, h2⟩ := Bool.and_eq_true_iff.mp hs
      exact op_neD hu pins s σ H _ _ v u Q I rx ry ⟨_, _, r1.dp, r2.dp, h1, h2, q _ rfl⟩
    · cases e
theorem Rep.isNon {K : PySem.W.Frag} {H : Hp} {d : D} {x : V} (r : Rep K H x d) : decide (x = .non) = isNonD d := by
  cases d with
  | non => rw [show x = .non from r]; rfl
  | bl b => rw [show x = .bl b from r]; rfl
  | int b => rw [show x = .int b from r]; rfl
  | str b => rw [show x = .str b from r]; rfl
  | lst b => obtain ⟨a, vs, rfl, _⟩ := r; rfl
  | tup b => obtain ⟨a, vs, rfl, _⟩ := r; rfl
theorem od_isN : OpR X (compareOp .Is) (rD X.K dIsN) := by
  intro pins s σ H x y v u Q I rx ry ⟨dx, dy, d, r1, r2, e, q⟩
  cases dy with
  | non =>
    have z : D.bl (isNonD dx) = d := by simpa [dIsN] using e
    subst z
    exact op_isN pins s σ H _ _ v u Q I rx ry ⟨r2, by rw [r1.isNon]; exact q _ rfl⟩
  | _ => cases e
theorem od_notN : OpR X (compareOp .IsNot) (rD X.K dIsNotN) := by
  intro pins s σ H x y v u Q I rx ry ⟨dx, dy, d, r1, r2, e, q⟩
  cases dy with
  | non =>
    have z : D.bl (!isNonD dx) = d := by simpa [dIsNotN] using e
    subst z
    exact op_notN pins s σ H _ _ v u Q I rx ry ⟨r2, by rw [r1.isNon]; exact q _ rfl⟩
  | _ => cases e
theorem sign1_some {x : Str} {c : Nat} (h : sign1 x = some c) : x = ⟨#[c]⟩ := by
  unfold sign1 at h
  split at h
  · rename_i c' e
    have z : c' = c := by simpa using h
    subst z
    cases x with
    | mk cps =>
      have e2 : cps = [c'].toArray := by rw [← e, Array.toArray_toList]
      rw [e2]
  · cases h
theorem dIn_seq {x y : D} {d : D} (h : dIn x y = some d) : (∃ a b c, x = .str a ∧ y = .str b ∧ sign1 a = some c ∧ d = .bl (decide (c ∈ b.cps.toList))) ∨ ∃ ds, items y = some ds ∧ sc x = true ∧ ds.all sc = true ∧ d = .bl (ds.any fun z => deq z x) := by
  unfold dIn at h
  split at h
  · obtain ⟨c, h1, h2⟩ := Option.map_eq_some_iff.mp h
    exact .inl ⟨_, _, c, rfl, rfl, h1, h2.symm⟩
  · obtain ⟨ds, h1, h2⟩ := Option.bind_eq_some_iff.mp h
    split at h2
    · rename_i hs
      obtain ⟨h3, h4⟩ := Bool.and_eq_true_iff.mp hs
      exact .inr ⟨ds, h1, h3, h4, (Option.some.inj h2).symm⟩
    · cases h2
theorem od_in : OpR X (compareOp .In) (rD X.K dIn) := by
  intro pins s σ H x y v u Q I rx ry ⟨dx, dy, d, r1, r2, e, q⟩
  rcases dIn_seq e with ⟨a, b, c, rfl, rfl, h1, rfl⟩ | ⟨ds, h1, h2, h3, rfl⟩
  · rw [show x = .str a from r1, sign1_some h1] at rx
    rw [show y = .str b from r2] at ry
    exact op_in_sign pins s σ H _ _ v u Q I rx ry ⟨c, b, rfl, rfl, q _ rfl⟩
  · obtain ⟨p, vs, rfl, k, rs⟩ := r2.ref h1
    refine op_in_seq pins s σ H _ _ v u Q I rx ry ⟨p, vs, rfl, k, r1.flat h2, rs.flat h3, ?_⟩
    rw [if_neg Bool.false_ne_true, Reps.inV h2 r1 rs h3]
    exact q _ rfl
theorem od_notIn : OpR X (compareOp .NotIn) (rD X.K dNotIn) := by
  intro pins s σ H x y v u Q I rx ry ⟨dx, dy, d, r1, r2, e, q⟩
  obtain ⟨d0, e, e'⟩ := Option.bind_eq_some_iff.mp e
  rcases dIn_seq e with ⟨a, b, c, rfl, rfl, h1, rfl⟩ | ⟨ds, h1, h2, h3, rfl⟩
  · have z := Option.some.inj e'
    subst z
    rw [show x = .str a from r1, sign1_some h1] at rx
    rw [show y = .str b from r2] at ry
    exact op_notIn_sign pins s σ H _ _ v u Q I rx ry ⟨c, b, rfl, rfl, q _ rfl⟩
  · have z := Option.some.inj e'
    subst z
    obtain ⟨p, vs, rfl, k, rs⟩ := r2.ref h1
    refine op_notIn_seq pins s σ H _ _ v u Q I rx ry ⟨p, vs, rfl, k, r1.flat h2, rs.flat h3, ?_⟩
    rw [if_pos rfl, Reps.inV h2 r1 rs h3]
    exact q _ rfl
theorem od_ix : IxR X (rD X.K dIx) := by
  intro value slice pins s σ H x y v u Q I rx ry ⟨dx, dy, d, r1, r2, e, q⟩ hs
  cases dy with
  | int i =>
    rw [show y = .int i from r2] at ry
    cases dx with
    | str z =>
      rw [show x = .str z from r1] at rx
      unfold dIx at e
      simp only at e
      split at e
      · rename_i hl
        obtain ⟨c, h1, h2⟩ := Option.map_eq_some_iff.mp e
        subst h2
        exact ix_str value slice pins s σ H _ _ v u Q I rx ry ⟨z, i, c, rfl, rfl, lenOk_iff.mp hl, h1, q _ rfl⟩ hs
      · cases e
    | lst ds =>
      obtain ⟨a, vs, rfl, k, rs⟩ := r1
      obtain ⟨w, h1, h2⟩ := rs.atI (show L2.atI ds i = some d from e)
      exact ix_list value slice pins s σ H _ _ v u Q I rx ry ⟨a, vs, i, w, rfl, rfl, k, h1, q _ h2⟩ hs
    | tup ds =>
      obtain ⟨a, vs, rfl, k, rs⟩ := r1
      obtain ⟨w, h1, h2⟩ := rs.atI (show L2.atI ds i = some d from e)
      exact ix_tup value slice pins s σ H _ _ v u Q I rx ry ⟨a, vs, i, w, rfl, rfl, k, h1, q _ h2⟩ hs
    | _ => cases e
  | _ => cases dx <;> cases e
/-- o[i] -/
theorem vp_ix {a b : Expr} {pos : Pos} {ma mb : MP} (ha : VP X a ma) (hb : VP X b mb) (hs : PlainIx b := by exact fun _ _ => rfl) : VP X (.Subscript a b pos) (p2 dIx ma mb) := PE.imp (pe_ix od_ix ha hb hs) fun σ H Q h => t2_imp h
def dNeg : D → Option D
  | .int i => some (.int (-i))
  | _ => none
theorem vp_neg {a : Expr} {pos : Pos} {ma : MP} (ha : VP X a ma) : VP X (.UnaryOp .USub a pos) (p1 dNeg ma) := PE.imp (pe_un un_neg ha) fun σ H Q ⟨S, fr, d, h, e, q⟩ => by
  obtain ⟨x, e1, e2⟩ := Option.bind_eq_some_iff.mp e
  refine ⟨S, fr, x, h, e1, fun v r => ?_⟩
  cases x with
  | int i =>
    have z : D.int (-i) = d := by simpa [dNeg] using e2
    subst z
    exact ⟨i, r, q _ rfl⟩
  | _ => cases e2

/-! ### built-in functions -/
def rC (K : PySem.W.Frag) (g : List D → Option D) : List V → Hp → VK → Prop := fun vs H Q => ∃ ds d, Reps K H vs ds ∧ g ds = some d ∧ ∀ z, Rep K H z d → Q z H
theorem vpa_nil : VPA X [] (fun _ => some []) := PA.imp pa_nil fun σ H Q ⟨S, fr, ds, h, e, q⟩ => by
  cases e
  exact q [] trivial
def paCons (m : MP) (r : Sto → Option (List D)) : Sto → Option (List D) := fun S => (m S).bind fun x => (r S).bind fun xs => some (x :: xs)
theorem vpa_cons {e : Expr} {es : List Expr} {m : MP} {r : Sto → Option (List D)} (h : VP X e m) (hr : VPA X es r) (hs : starEach (e :: es) X.env = (false, eval e X.env) :: starEach es X.env := by rfl) : VPA X (e :: es) (paCons m r) :=
  PA.imp (pa_cons h hr hs) fun σ H Q ⟨S, fr, ds, h, e, q⟩ => by
    obtain ⟨x, e1, e⟩ := Option.bind_eq_some_iff.mp e
    obtain ⟨xs, e2, e⟩ := Option.bind_eq_some_iff.mp e
    cases e
    exact ⟨S, fr, x, h, e1, fun v r1 => ⟨S, fr, xs, h, e2, fun vs r2 => q (v :: vs) ⟨r1, r2⟩⟩⟩
def pCall (g : List D → Option D) (m : Sto → Option (List D)) : MP := fun S => (m S).bind g
theorem call_imp {g : List D → Option D} {m : Sto → Option (List D)} {σ : St} {H : Hp} {Q : VK} (h : tP X.K (pCall g m) σ H Q) : tCB (rC X.K g) (tPA X.K m) σ H Q := by
  obtain ⟨S, fr, d, h, e, q⟩ := h
  obtain ⟨ds, e1, e2⟩ := Option.bind_eq_some_iff.mp e
  exact ⟨S, fr, ds, h, e1, fun vs r => ⟨ds, d, r, e2, q⟩⟩
/-- f(e, ..), f a built-in function; a built-in class -/
theorem vp_callB {x : Str} {p pos : Pos} {e : Expr} {es : List Expr} {id : String} {g : List D → Option D} {m : Sto → Option (List D)} (hc : CallR X (.builtin id) (rC X.K g)) (hm : X.mg x = none) (hv : bootBuiltins x = some (.builtin id)) (ha : VPA X (e :: es) m) (hg : Gl X x := by rfl) (hn : x ≠ "__name__" := by decide)
    (hdb : (x == ("__debug__" : Str)) = false := by decide) (he : starEach (e :: es) X.env = (false, eval e X.env) :: starEach es X.env := by rfl) (hpl : (backTo pos (starEach es X.env)).any (·.1) = false := by rfl) : VP X (.Call (.Name x p) (e :: es) [] pos) (pCall g m) :=
  PE.imp (pe_callB hc hg hm hv ha hn hdb he hpl) fun σ H Q h => call_imp h
theorem vp_callTy {x : Str} {p pos : Pos} {e : Expr} {es : List Expr} {T : String} {g : List D → Option D} {m : Sto → Option (List D)} (hc : CallR X (.type T) (rC X.K g)) (hm : X.mg x = none) (hv : bootBuiltins x = some (.type T)) (ha : VPA X (e :: es) m) (hg : Gl X x := by rfl) (hn : x ≠ "__name__" := by decide)
    (hdb : (x == ("__debug__" : Str)) = false := by decide) (he : starEach (e :: es) X.env = (false, eval e X.env) :: starEach es X.env := by rfl) (hpl : (backTo pos (starEach es X.env)).any (·.1) = false := by rfl) : VP X (.Call (.Name x p) (e :: es) [] pos) (pCall g m) :=
  PE.imp (pe_callTy hc hg hm hv ha hn hdb he hpl) fun σ H Q h => call_imp h
def dLen : List D → Option D
  | [.str x] => if lenOk x = true then some (.int x.length) else none
  | [.lst xs] => some (.int xs.length)
  | [.tup xs] => some (.int xs.length)
  | _ => none
def dInt : List D → Option D
  | [.int i] => some (.int i)
  | [.bl k] => some (.int (if k then 1 else 0))
  | _ => none
def dAbs : List D → Option D
  | [.int i] => some (.int (if i < 0 then -i else i))
  | _ => none
def dMax2 : List D → Option D
  | [.int i, .int j] => some (.int (if j > i then j else i))
  | _ => none
def dMin2 : List D → Option D
  | [.int i, .int j] => some (.int (if j < i then j else i))
  | _ => none
/-- one, two values -/
theorem Reps.one {K : PySem.W.Frag} {H : Hp} {vs : List V} {d : D} (r : Reps K H vs [d]) : ∃ v, vs = [v] ∧ Rep K H v d := by
  cases vs with
  | nil => exact r.elim
  | cons v vs =>
    cases vs with
    | nil => exact ⟨v, rfl, r.1⟩
    | cons _ _ => exact r.2.elim
theorem Reps.two {K : PySem.W.Frag} {H : Hp} {vs : List V} {d e : D} (r : Reps K H vs [d, e]) : ∃ v u, vs = [v, u] ∧ Rep K H v d ∧ Rep K H u e := by
  cases vs with
  | nil => exact r.elim
  | cons v vs =>
    obtain ⟨u, rfl, q⟩ := Reps.one r.2
    exact ⟨v, u, rfl, r.1, q⟩
theorem od_len : CallR X (.builtin "len") (rC X.K dLen) := by
  intro pins s σ H xs us Q I rx ⟨ds, d, r, e, q⟩
  unfold dLen at e
  split at e
  · split at e
    · rename_i hl
      have z := Option.some.inj e
      subst z
      obtain ⟨v, rfl, r1⟩ := r.one
      exact call_len pins s σ H _ us Q I rx ⟨v, _, rfl, by rw [show v = .str _ from r1]; exact ⟨lenOk_iff.mp hl, rfl⟩, q _ rfl⟩
    · cases e
  · have z := Option.some.inj e
    subst z
    obtain ⟨v, rfl, a, vs, rfl, k, rs⟩ := r.one
    exact call_len pins s σ H _ us Q I rx ⟨_, _, rfl, .inl ⟨vs, k, rs.length.symm⟩, q _ rfl⟩
  · have z := Option.some.inj e
    subst z
    obtain ⟨v, rfl, a, vs, rfl, k, rs⟩ := r.one
    exact call_len pins s σ H _ us Q I rx ⟨_, _, rfl, .inr ⟨vs, k, rs.length.symm⟩, q _ rfl⟩
  · cases e
theorem od_int : CallR X (.type "int") (rC X.K dInt) := by
  intro pins s σ H xs us Q I rx ⟨ds, d, r, e, q⟩
  unfold dInt at e
  split at e
  · have z := Option.some.inj e
    subst z
    obtain ⟨v, rfl, r1⟩ := r.one
    exact call_int1 pins s σ H _ us Q I rx (.inl ⟨_, by rw [show v = _ from r1], q _ rfl⟩)
  · have z := Option.some.inj e
    subst z
    obtain ⟨v, rfl, r1⟩ := r.one
    exact call_int1 pins s σ H _ us Q I rx (.inr ⟨_, by rw [show v = _ from r1], q _ rfl⟩)
  · cases e
theorem od_abs : CallR X (.builtin "abs") (rC X.K dAbs) := by
  intro pins s σ H xs us Q I rx ⟨ds, d, r, e, q⟩
  unfold dAbs at e
  split at e
  · have z := Option.some.inj e
    subst z
    obtain ⟨v, rfl, r1⟩ := r.one
    exact call_abs pins s σ H _ us Q I rx ⟨_, by rw [show v = _ from r1], q _ rfl⟩
  · cases e
theorem od_max2 (hc : X.calm = true) : CallR X (.builtin "max") (rC X.K dMax2) := by
  intro pins s σ H xs us Q I rx ⟨ds, d, r, e, q⟩
  unfold dMax2 at e
  split at e
  · have z := Option.some.inj e
    subst z
    obtain ⟨v, u, rfl, r1, r2⟩ := r.two
    exact call_max2 hc pins s σ H _ us Q I rx ⟨_, _, by rw [show v = _ from r1, show u = _ from r2], q _ rfl⟩
  · cases e
theorem od_min2 (hc : X.calm = true) : CallR X (.builtin "min") (rC X.K dMin2) := by
  intro pins s σ H xs us Q I rx ⟨ds, d, r, e, q⟩
  unfold dMin2 at e
  split at e
  · have z := Option.some.inj e
    subst z
    obtain ⟨v, u, rfl, r1, r2⟩ := r.two
    exact call_min2 hc pins s σ H _ us Q I rx ⟨_, _, by rw [show v = _ from r1, show u = _ from r2], q _ rfl⟩
  · cases e
/-- isinstance(e, T), T a built-in class -/
def tyD : D → String
  | .non => "NoneType"
  | .bl _ => "bool"
  | .int _ => "int"
  | .str _ => "str"
  | .lst _ => "list"
  | .tup _ => "tuple"
def dIsi (T : String) (d : D) : Option D := (kitB (tyD d) T).map .bl
theorem Rep.tyX {K : PySem.W.Frag} {H : Hp} {d : D} {v : V} (r : Rep K H v d) : TyX K H v (.type (tyD d)) := by
  cases d with
  | non => rw [show v = .non from r]; exact .base .non
  | bl b => rw [show v = .bl b from r]; exact .base (.bl b)
  | int b => rw [show v = .int b from r]; exact .base (.int b)
  | str b => rw [show v = .str b from r]; exact .base (.str b)
  | lst ds =>
    obtain ⟨a, vs, rfl, q, _⟩ := r
    rcases q with (q | ⟨o, q⟩) | ⟨o, its, n, h1, h2, _⟩
    · exact .base (.lst q)
    · exact .base (.frz q)
    · exact .kList h1 h2
  | tup ds =>
    obtain ⟨a, vs, rfl, q, _⟩ := r
    rcases q with (q | ⟨o, q⟩) | ⟨o, its, n, h1, h2, _⟩
    · exact .base (.tup q)
    · exact .fTuple q
    · exact .kTuple h1 h2
theorem vp_isi {x : Str} {T : String} {p1 p2 pos : Pos} {e : Expr} {m : MP} (hm : X.mg "isinstance" = none) (hmT : X.mg x = none) (hvT : bootBuiltins x = some (.type T)) (he : VP X e m) (hv : bootBuiltins "isinstance" = some (.builtin "isinstance") := by decide +kernel) (hg : Gl X "isinstance" := by rfl) (hgT : Gl X x := by rfl)
    (hnT : x ≠ "__name__" := by decide) (hdT : (x == ("__debug__" : Str)) = false := by decide) (hs : starEach [e, .Name x p1] X.env = (false, eval e X.env) :: starEach [.Name x p1] X.env := by rfl) (hs2 : starEach [.Name x p1] X.env = (false, eval (.Name x p1) X.env) :: starEach [] X.env := by rfl)
    (hpl : (backTo pos (starEach [.Name x p1] X.env)).any (·.1) = false := by rfl) : VP X (.Call (.Name "isinstance" p2) [e, .Name x p1] [] pos) (VS.p1 (dIsi T) m) :=
  PE.imp (pe_callB call_isi hg hm hv (pa_cons he (pa_cons (pe_bltn hgT hmT hvT (v := .ty T) rfl hnT hdT) pa_nil hs2) hs) (by decide) (by decide) hs hpl) fun σ H Q ⟨S, fr, d, h, e, q⟩ => by
    obtain ⟨y, e1, e2⟩ := Option.bind_eq_some_iff.mp e
    obtain ⟨b, e3, rfl⟩ := Option.map_eq_some_iff.mp e2
    exact ⟨S, fr, y, h, e1, fun v r => ⟨v, .ty T, _, _, b, rfl, .ty T, r.tyX, kit_ty e3, q _ rfl⟩⟩
/-- a text's slice -/
def oPart (o : Option MP) : Sto → Option (Option Int) := fun S => match o with
  | none => some none
  | some m => (m S).bind fun d => match d with
    | .int i => some (some i)
    | _ => none
def tPO (K : PySem.W.Frag) (m : Sto → Option (Option Int)) : TO := fun σ H Q => ∃ S fr o, AtS K H σ S fr ∧ m S = some o ∧ Q o H
theorem PO.imp {e : Option Expr} {t t' : TO} (h : PO X e t) (i : ∀ σ H Q, t' σ H Q → t σ H Q) : PO X e t' := ⟨fun pins s σ H Q I q => h.run pins s σ H Q I (i σ H Q q)⟩
theorem vo_none : PO X none (tPO X.K (oPart none)) := PO.imp po_none fun σ H Q ⟨S, fr, o, h, e, q⟩ => by cases e; exact q
theorem vo_some {e : Expr} {m : MP} (he : VP X e m) : PO X (some e) (tPO X.K (oPart (some m))) := PO.imp (po_some he) fun σ H Q ⟨S, fr, o, h, e, q⟩ => by
  obtain ⟨d, e1, e2⟩ := Option.bind_eq_some_iff.mp e
  cases d with
  | int i =>
    have z : some i = o := by simpa using e2
    subst z
    exact ⟨S, fr, _, h, e1, fun v r => ⟨i, r, q⟩⟩
  | _ => cases e2
def dSlS (lo hi : Option Int) : D → Option D
  | .str z => if lenOk z = true then some (.str (cutS z lo hi)) else none
  | _ => none
def pSlS (m : MP) (l h : Sto → Option (Option Int)) : MP := fun S => (m S).bind fun d => (l S).bind fun lo => (h S).bind fun hi => dSlS lo hi d
theorem vp_slS {e : Expr} {lo hi : Option Expr} {m : MP} {l h : Sto → Option (Option Int)} {pos p2 : Pos} (he : VP X e m) (hl : PO X lo (tPO X.K l)) (hh : PO X hi (tPO X.K h)) : VP X (.Subscript e (.Slice lo hi none p2) pos) (pSlS m l h) :=
  PE.imp (pe_slice sl_str he hl hh) fun σ H Q ⟨S, fr, d, h0, e, q⟩ => by
    obtain ⟨x, e1, e⟩ := Option.bind_eq_some_iff.mp e
    obtain ⟨lo', e2, e⟩ := Option.bind_eq_some_iff.mp e
    obtain ⟨hi', e3, e⟩ := Option.bind_eq_some_iff.mp e
    refine ⟨S, fr, x, h0, e1, fun v r => ⟨S, fr, lo', h0, e2, S, fr, hi', h0, e3, ?_⟩⟩
    cases x with
    | str z =>
      unfold dSlS at e
      simp only at e
      split at e
      · rename_i hz
        have w := Option.some.inj e
        subst w
        exact ⟨z, r, lenOk_iff.mp hz, q _ rfl⟩
      · cases e
    | _ => cases e
end
end VS
namespace VS
open PySem PySem.Spec PyProof.Rows L2
/-! ### promises of a def where nothing is being shown (no guard is open) -/
structure RoomG (n : Nat) (B : Around) : Prop where
  room : Room n B
  free : B.guards = some []
theorem RoomG.mono {m n : Nat} {B : Around} (g : RoomG n B) (le : m ≤ n) : RoomG m B := ⟨g.room.mono le, g.free⟩
theorem RoomG.deep {n : Nat} {B : Around} (g : RoomG (n + 1) B) (ev : Env) : RoomG n (B.deeper ev) := ⟨g.room.deeper ev, g.free⟩
theorem RoomG.units {n : Nat} {B : Around} (g : RoomG n B) : B.units + 64 < cLine := g.room.units
theorem room_caller {n : Nat} (h : Room n callerA) : RoomG n callerA := ⟨h, rfl⟩
structure FnG (P : Program) (w : World) (K : PySem.W.Frag) (mg : Str → Option Value) (base : Heap) (n : Nat) (g : Addr) (fd : FuncData) (ps : List Str) (sp : Sp) : Prop where
  size : ∀ ws G R X0, sp ws G R X0 → ws.length = ps.length
  go : ∀ (B : Around) (stk : List Env) (z : Shared) (G : Hp) (ar : Args) (us : List Value) (ws : List V) (R : VK) (X0 : XK), RoomG n B → Env0 P w K mg base B stk z G → BindsTo z fd ar (ps.zip us) → Vals ws us → sp ws G R X0 →
    codeAny (model P w) B (.call (.ref g) ar) (CR CX0 stk P w G z R X0) z
section
variable {P : Program} {w : World} {K : PySem.W.Frag} {mg : Str → Option Value} {base : Heap}
theorem FnG.up {m n : Nat} {g : Addr} {fd : FuncData} {ps : List Str} {sp : Sp} (F : FnG P w K mg base m g fd ps sp) (le : m ≤ n) : FnG P w K mg base n g fd ps sp :=
  ⟨F.size, fun B stk z G ar us ws R X0 room => F.go B stk z G ar us ws R X0 (room.mono le)⟩
/-- the promise from the body -/
theorem FnG.of {x : Str} {st : Stmt} {f : Addr} {fd : FuncData} {N ps : List Str} {n : Nat} {sp : Sp} (F : FunD K x x (defArgs st) (defBody st) (defScope st) [] [] f fd) (S : FnScope N ps (defScope st)) (size : ∀ ws G R X0, sp ws G R X0 → ws.length = ps.length)
    (body : ∀ (cdv : Value) (B : Around) (stk : List Env) (z : Shared) (G : Hp) (ws : List V) (R : VK) (X0 : XK), RoomG n (B.deeper (envOfC x (defScope st) z.heap.objs.size f cdv)) → sp ws G R X0 →
      ∃ t, PSs (cxOf CX0 P w K mg base N x (defScope st) f cdv B stk z G X0) (defBody st) t ∧ t { nx := fun _ G' => R .non G', rt := R } (L2.start N ws) G) : FnG P w K mg base (n + 1) f fd ps sp := by
  obtain ⟨oc, od, dV, kV, dc, pm, an, cdv, ct, osl, rfl, inK, isCode, _, _⟩ := F.ex
  refine ⟨size, fun B stk z G ar us ws R X0 room ev bnd rel want => ?_⟩
  have many := size _ _ _ _ want
  have keep := fun b o e => (ev.bs b o e).1
  have inZ : K.In z.heap := ev.mod.kin.keeps keep
  have noLim : z.heap.NoLimit := ev.mod.nolimit.keeps keep
  have kinds : ∀ y ∈ ps.zip us, (defScope st).names.lookup y.1 = some .local ∨ ((defScope st).names.lookup y.1 = some .cell ∧ ((cellsFrom (z.heap.objs.size + 1) (defScope st).names []).lookup y.1).isSome = true) := by
    rintro ⟨nm, v⟩ hy
    exact (S.par nm (List.of_mem_zip hy).1).imp id fun q => ⟨q, PySem.W.cellsFrom_some _ _ _ (.inl q)⟩
  refine codeAny_call_function room.room.depth (inZ _ _ inK) rfl S.co S.gen rfl (PySem.W.codeRec_of inZ isCode) (bnd _ _ _ _ (wpAny_newFunctionEnv_cells S.kind kinds ?_))
  rintro env rfl s1 made
  refine ⟨noLim.keeps made.toInCall.keep, codeAny_func ?_⟩
  obtain ⟨t, run, good⟩ := body cdv B stk z G ws R X0 (room.deep _) want
  have I := inv_start (x := made) (CX := CX0) (E := X0) S room.room.hd ev many rel
  refine wpAny_mono (run.run [] s1 (L2.start N ws) G _ I good) ?_ fun _ _ h => h
  have back : ∀ (σ' : St) (G' : Hp) (v : V) (u : Value) (z' : Shared), Inv (cxOf CX0 P w K mg base N x (defScope st) f cdv B stk z G X0) [] σ' G' z' → RelV v u → R v G' → CE stk P w G z R u z' :=
    fun σ' G' v u z' J rv q => ⟨v, G', J.os, J.bare, J.base, J.hok, rv, q⟩
  rintro (_ | _ | _ | u) z' hz
  · obtain ⟨σ', G', J, q⟩ := hz
    exact back σ' G' .non .none z' J rfl q
  · obtain ⟨_, _, _, q⟩ := hz
    exact q.elim
  · obtain ⟨_, _, _, q⟩ := hz
    exact q.elim
  · obtain ⟨v, σ', G', J, rv, q⟩ := hz
    exact back σ' G' v u z' J rv q
end
section
variable {X : Cx} {n : Nat} {g : Addr} {fd : FuncData} {ps : List Str} {sp : Sp} {y : Str} {p pos : Pos} {e : Expr} {es : List Expr} {t : TA}
/-- such a def is called -/
theorem FnG.runs {pins : List (Addr × Obj)} {σ : St} {H : Hp} {s : Shared} {Q : VK} {us : List Value} {vs : List V} (F : FnG X.prog X.w X.K X.mg X.base n g fd ps sp) (room : RoomG n X.A) (bnd : Binds X.K fd ps []) (I : Inv X pins σ H s) (rel : Vals vs us) (want : sp vs H Q E0) :
    wpAny (model X.prog X.w) X.A (call (.ref g) us) (EP X pins σ Q) X.xe s := by
  have many : us.length = ps.length := rel.length.symm.trans (F.size _ _ _ _ want)
  have b2 := bnd s us I.kIn (by rw [List.append_nil]; exact many)
  rw [List.append_nil] at b2
  refine wpAny_call (codeAny_mono (F.go X.A X.stack s H ⟨us, []⟩ us vs Q E0 room I.env0 b2 rel want) ?_)
  rintro (_ | _ | _ | _ | u) z' hz
  all_goals first | exact I.after hz | exact False.elim hz
theorem pe_callG (F : FnG X.prog X.w X.K X.mg X.base n g fd ps sp) (room : RoomG n X.A) (gl : Gl X y) (at_ : X.mg y = some (.ref g)) (kp : PySem.W.keepIn X.K (.ref g) = true) (bnd : Binds X.K fd ps []) (args : PA X (e :: es) t)
    (hdb : (y == ("__debug__" : Str)) = false := by decide) (he : starEach (e :: es) X.env = (false, eval e X.env) :: starEach es X.env := by rfl) (hpl : (backTo pos (starEach es X.env)).any (·.1) = false := by rfl) :
    PE X (.Call (.Name y p) (e :: es) [] pos) (tCall sp [] E0 t) := by
  constructor
  intro pins s σ H Q I want
  refine wpAny_Call_Name_kw (ld_glob I gl at_ ?_ hdb)
  refine PySem.W.callWith_K (h₀ := X.base) I.ok.mod.kin kp (thn (args.run pos pins s σ H _ I want) ?_) he hpl
  rintro us s1 ⟨vs, H1, I1, rel, q⟩
  rw [List.append_nil] at q
  exact ⟨I1.kIn, F.runs room bnd I1 rel q⟩
theorem pe_callG0 (F : FnG X.prog X.w X.K X.mg X.base n g fd ps sp) (room : RoomG n X.A) (gl : Gl X y) (at_ : X.mg y = some (.ref g)) (kp : PySem.W.keepIn X.K (.ref g) = true) (bnd : Binds X.K fd ps [])
    (hdb : (y == ("__debug__" : Str)) = false := by decide) : PE X (.Call (.Name y p) [] [] pos) (tCall sp [] E0 tNil) := by
  constructor
  intro pins s σ H Q I want
  refine wpAny_Call_Name_kw (ld_glob I gl at_ ?_ hdb)
  exact PySem.W.callWith_K0 I.kIn kp (F.runs (us := []) room bnd I .nil want)
end
end VS
namespace VS
open PySem PySem.Spec PyProof.Rows L2
/-! ### a law's end over such a promise -/
section
variable {P : Program} {w : World} {K : PySem.W.Frag} {mg mb : Str → Option Value} {n : Nat} {g a : Addr} {fd : FuncData} {x : Str} {sp : Sp} {z : Shared} {us : List Value} {ns : List Int}
/-- the script is a list of whole numbers at a -/
abbrev ScriptAt (z : Shared) (a : Addr) (us : List Value) : Prop := z.heap.get? a = some ⟨.type "list", none, .seq us.toArray 0, #[]⟩
abbrev LawEnd (P : Program) (w : World) (g a : Addr) (z : Shared) : Prop := codeAny (model P w) callerA (.call (.ref g) ⟨[.ref a], []⟩) (fun r z' => r = .ok (.ret (.bool true)) ∧ OldK z.heap z'.heap ∧ z'.os = z.os ∧ AllBare z'.gens) z
theorem end_core (hg : z.gens = #[]) (room : Room n callerA) (F : ∀ base : Heap, K.In base → base.Ns mainGlobals mg → FnG P w K mg base n g fd [x] sp)
    (bnd : ∀ (s : Shared) (u : Value), BindsTo s fd ⟨[u], []⟩ [(x, u)]) {G : Hp} (want : sp [.ref a] G (fun v _ => v = .bl true) fun _ _ _ => False) (only : Only G) (ok : HOk P w G z.heap)
    (base_in : L2.Mod K mg (hidT z.heap G)) : LawEnd P w g a z := by
  have ev : Env0 P w K mg (hidT z.heap G) callerA [] z G :=
    { frames := rfl, mod := base_in, bs := fun _ _ e => of_hidT e, bsz := Nat.le_of_eq (hidT_size _ _), funs := trivial, frf := fun b hb => absurd (show b ∈ ([] : List Addr) from hb) List.not_mem_nil, hok := ok, bare := .of_eq hg }
  have go := (F _ base_in.kin base_in.glob).go callerA [] z G ⟨[.ref a], []⟩ [.ref a] [.ref a] _ _ (room_caller room) ev (bnd z (.ref a)) (.cons rfl .nil) want
  refine codeAny_mono go ?_
  rintro (e | _ | _ | _ | u) z' hz
  · exact False.elim hz
  · exact False.elim hz
  · exact False.elim hz
  · exact False.elim hz
  · obtain ⟨v, G', os, bare, un, ok', rel, is⟩ := hz
    obtain rfl : v = .bl true := is
    obtain rfl : u = Value.bool true := rel
    refine ⟨rfl, OldK.of_keep ?_, os, bare⟩
    intro b o at_
    rcases only b with no | ⟨ob, xs, yes⟩
    · exact un.keep b o at_ no (fun h => absurd (show b ∈ ([] : List Addr) from h) List.not_mem_nil) (by simp)
    · have was := (ok b _ yes).1
      have is := (ok' b _ (un.frzs b ob _ yes)).1
      rw [at_] at was
      cases was
      exact is
/-- what is hidden of the heap holds no dict -/
theorem mod_hid {G : Hp} (hm : L2.Mod K mg z.heap) (all : ∀ b, G b ≠ none → b = a) (at_ : ScriptAt z a us) (out : G a ≠ none → K.lookup a = none) : L2.Mod K mg (hidT z.heap G) := by
  have seen : ∀ b o, z.heap.get? b = some o → (b = a → G a ≠ none → False) → (hidT z.heap G).get? b = some o := fun b o e no =>
    hidT_get e (Classical.byContradiction fun h => no (all b h) (by rw [← all b h]; exact h))
  have dicts : ∀ b o es ep, z.heap.get? b = some o → o.data = .dict es ep → (hidT z.heap G).get? b = some o := fun b o es ep e isD => seen b o e fun eq _ => by
    rw [eq, at_] at e
    cases e
    cases (show Data.seq _ _ = Data.dict es ep from isD)
  have ns : ∀ b m, z.heap.Ns b m → (hidT z.heap G).Ns b m := by
    rintro b m ⟨o, es, ep, e, d, r⟩
    exact ⟨o, es, ep, dicts b o es ep e d, d, r⟩
  obtain ⟨k, gl, ⟨mb, nb, hb⟩, ⟨mc, h1, h2⟩⟩ := hm
  refine ⟨fun b o e => seen b o (k b o e) fun eq no => ?_, ns _ _ gl, ⟨mb, ns _ _ nb, hb⟩, ⟨mc, ns _ _ h1, h2⟩⟩
  rw [eq, out no] at e
  cases e
theorem end_run (hm : L2.Mod K mg z.heap) (hg : z.gens = #[]) (at_ : ScriptAt z a us) (are : IntsAre us ns) (few : ns.length ≤ sizeLine) (room : Room n callerA) (F : ∀ base : Heap, K.In base → base.Ns mainGlobals mg → FnG P w K mg base n g fd [x] sp)
    (bnd : ∀ (s : Shared) (u : Value), BindsTo s fd ⟨[u], []⟩ [(x, u)]) (want : ∀ G : Hp, Only G → SqL K G a (ns.map V.int) → sp [.ref a] G (fun v _ => v = .bl true) fun _ _ _ => False) : LawEnd P w g a z := by
  have rel := vals_ints are
  cases q : K.lookup a with
  | some o =>
    have e := hm.kin a o q
    rw [at_] at e
    cases e
    have only : Only fun _ => none := fun _ => .inl rfl
    refine end_core hg room F bnd (want _ only (.inr ⟨_, us.toArray, _, q, rfl, rfl, rfl, ?_, ?_⟩)) only (fun b u h => (Option.some_ne_none u h.symm).elim) (mod_hid hm (fun b h => absurd rfl h) at_ fun h => absurd rfl h)
    · rw [List.size_toArray, are.length]
      exact few
    · exact rel
  | none =>
    have only : Only fun b => if b = a then some (.frz ⟨.type "list", none, .seq us.toArray 0, #[]⟩ (.lst (ns.map V.int))) else none := fun b => by
      by_cases h : b = a
      · exact .inr ⟨_, _, if_pos h⟩
      · exact .inl (if_neg h)
    refine end_core hg room F bnd (want _ only (.inl (.inr ⟨_, if_pos rfl⟩))) only (fun b u h => ?_) (mod_hid hm (fun b h => ?_) at_ fun _ => q)
    · by_cases h2 : b = a
      · have e := (if_pos h2).symm.trans h
        cases e
        rw [h2]
        exact ⟨at_, by rw [List.length_map]; exact few, us, _, rel, at_⟩
      · have e := (if_neg h2).symm.trans h
        cases e
    · by_cases h2 : b = a
      · exact h2
      · exact absurd (if_neg h2) h
end
end VS
namespace VS
open PySem PySem.Spec PyProof.Rows L2
theorem walk_ofG {l : PySem.W.OpenLaw} {n k : Nat} {q : Program} {loose : List Str} {XP : (Str → Option Value) → Heap → Prop} {YP : World → Heap → Prop} {d : DefRec} {x : Str} (most : l.most = some n) (few : n ≤ sizeLine) (plain : d.params.defaults = []) (room : Room k callerA)
    (F : ∀ (w : World) (mg : Str → Option Value) (g : Addr) (h : Heap), YP w h → h.Ns mainGlobals mg → mg d.name = some (.ref g) →
      ∃ (K : PySem.W.Frag) (fd : FuncData) (sp : Sp), K.In h ∧ (∀ (s : Shared) (u : Value), BindsTo s fd ⟨[u], []⟩ [(x, u)]) ∧
        (∀ (G : Hp) (a : Addr) (ns : List Int), ns.length ≤ n → (∀ i ∈ ns, Builtin.Int.intBits i ≤ 1048576) → Only G → SqL K G a (ns.map V.int) → sp [.ref a] G (fun v _ => v = .bl true) fun _ _ _ => False) ∧
        ∀ base : Heap, K.In base → base.Ns mainGlobals mg → FnG l.prog w K mg base k g fd [x] sp) :
    PySem.W.WalkO q loose XP YP l.row.toRowW d [] (fun f vs => PySem.call f vs) := by
  refine Att.attach_callB most plain ?_
  intro w z0 z mg mb g o pm cd doc a us ns gr Y at_g is_f code at_mg at_a are many bits none_open
  obtain ⟨K, fd, sp, inK, bnd, want, run⟩ := F w mg g _ Y gr.T.g at_mg
  exact end_run ⟨inK, gr.T.g, ⟨mb, gr.T.b, gr.T.builtins⟩, gr.T.nolimit⟩ none_open at_a are (Nat.le_trans many few) room run bnd fun G o s => want G a ns many bits o s
end VS
/-! VS: expressions that make or take. -/
namespace VS
open PySem PySem.Spec PyProof.Rows L2

section
variable {K : PySem.W.Frag} {H : Hp} {σ : St} {S : Sto} {fr ps : Ps}
theorem scRep {d : D} {v : V} (h : sc d = true) (r : Rep K H v d) : ∀ G, Rep K G v d := fun G => by
  cases d with
  | lst _ => cases h
  | tup _ => cases h
  | _ => exact r
theorem AtS.two {p q : V × T} (h : AtS K H σ S (p :: q :: fr)) : AtS K H σ S (q :: p :: fr) := h.perm (.swap ..)
/-- two trees' views -/
theorem AtS.reps2 {v u : V} {t t' : T} (h : AtS K H σ S ((u, t') :: (v, t) :: fr)) : Rep K H v (fz t) ∧ Rep K H u (fz t') := ⟨h.two.rep, h.rep⟩
theorem AtS.drops (qs : Ps) (h : AtS K H σ S (qs ++ fr)) : AtS K H σ S fr := h.sub ⟨qs, .refl _⟩
end

section
variable {X : Cx} {e a b c : Expr} {es : List Expr} {pos : Pos}
/-! ### lifts, names -/
def ofP (m : MP) : ME := fun S => (m S).bind fun d => if sc d = true then some (.sh d, S) else none
theorem ve_p {m : MP} (h : VP X e m) : VE X e (ofP m) := PE.imp h fun σ H Q ⟨S, fr, t, S', h, e, q⟩ => by
  obtain ⟨d, e1, e2⟩ := Option.bind_eq_some_iff.mp e
  split at e2
  · rename_i hs
    cases e2
    exact ⟨_, fr, _, h, e1, fun v r => q v H (h.new (scRep hs r))⟩
  · cases e2
def ofB (m : MB) : MT := fun S => (m S).bind fun b => some (b, S)
theorem vt_p {m : MB} (h : VPB X e m) : VT X e (ofB m) := PT.imp h fun σ H Q ⟨S, fr, b, S', h, e, q⟩ => by
  obtain ⟨d, e1, e2⟩ := Option.bind_eq_some_iff.mp e
  obtain ⟨rfl, rfl⟩ : d = b ∧ S = S' := by simpa using e2
  exact ⟨S, fr, d, h, e1, q H h⟩
def eVar (i : Nat) : ME := fun S => match S[i]? with
  | some (some (.sh d)) => some (.sh d, S)
  | some (some t) => some (.sh (fz t), S.set i (some (.sh (fz t))))
  | _ => none
theorem eVar_some {i : Nat} {S S' : Sto} {t : T} (h : eVar i S = some (t, S')) : ∃ u, S[i]? = some (some u) ∧ t = .sh (fz u) ∧ S' = S.set i (some (.sh (fz u))) := by
  unfold eVar at h
  split at h
  · rename_i d e
    cases h
    exact ⟨_, e, rfl, (set_at e).symm⟩
  · rename_i u _ e
    cases h
    exact ⟨u, e, rfl, rfl⟩
  · cases h
theorem ve_var (i : Nat) {x : Str} (hN : X.N[i]? = some x := by rfl) (hv : Vis X.env.scope x := by first | exact Or.inl rfl | exact Or.inr (Or.inl rfl) | exact Or.inr (Or.inr rfl)) (hd : (x == ("__debug__" : Str)) = false := by decide)
    (hcd : (x == ("__classdict__" : Str)) = false := by decide) : VE X (.Name x pos) (eVar i) := PE.imp (pe_var hN hv hd hcd) fun σ H Q ⟨S, fr, t, S', h, e, q⟩ => by
  obtain ⟨u, e1, rfl, rfl⟩ := eVar_some e
  obtain ⟨v, h1, h2⟩ := h.take e1
  refine ⟨v, h1, q v H ?_⟩
  have k := (h2.freeze.dup).back (i := i) h1
  rw [List.set_set] at k
  exact k
def eMov (i : Nat) : ME := fun S => match S[i]? with
  | some (some t) => some (t, S.set i none)
  | _ => none
theorem ve_mov (i : Nat) {x : Str} (hN : X.N[i]? = some x := by rfl) (hv : Vis X.env.scope x := by first | exact Or.inl rfl | exact Or.inr (Or.inl rfl) | exact Or.inr (Or.inr rfl)) (hd : (x == ("__debug__" : Str)) = false := by decide)
    (hcd : (x == ("__classdict__" : Str)) = false := by decide) : VE X (.Name x pos) (eMov i) := PE.imp (pe_var hN hv hd hcd) fun σ H Q ⟨S, fr, t, S', h, e, q⟩ => by
  unfold eMov at e
  split at e
  · rename_i u e1
    cases e
    obtain ⟨v, h1, h2⟩ := h.take e1
    exact ⟨v, h1, q v H h2⟩
  · cases e
def eC (d : D) : ME := fun S => some (.sh d, S)
theorem ve_glob {x : Str} {d : D} {v : V} {u : Value} (hg : Gl X x) (hm : X.mg x = some u) (r : RelV v u) (rd : ∀ G, Rep X.K G v d) (hd : (x == ("__debug__" : Str)) = false := by decide) : VE X (.Name x pos) (eC d) :=
  PE.imp (pe_glob hg hm r hd) fun σ H Q ⟨S, fr, t, S', h, e, q⟩ => by cases e; exact q _ _ (h.new rd)

/-! ### operators, one side not pure -/
def sD (o : Option D) (S : Sto) : Option (T × Sto) := o.bind fun d => if sc d = true then some (.sh d, S) else none
theorem sD_some {o : Option D} {S S' : Sto} {t : T} (h : sD o S = some (t, S')) : ∃ d, o = some d ∧ sc d = true ∧ t = .sh d ∧ S' = S := by
  obtain ⟨d, e1, e2⟩ := Option.bind_eq_some_iff.mp h
  split at e2
  · rename_i hs
    cases e2
    exact ⟨d, e1, hs, rfl, rfl⟩
  · cases e2
def e2 (g : D → D → Option D) (ma mb : ME) : ME := fun S => (ma S).bind fun p => (mb p.2).bind fun q => sD (g (fz p.1) (fz q.1)) q.2
theorem e2_imp {g : D → D → Option D} {ma mb : ME} {σ : St} {H : Hp} {Q : VK} (h : tV X.K (e2 g ma mb) σ H Q) : tV X.K ma σ H fun x H1 => tV X.K mb σ H1 fun y H2 => rD X.K g x y H2 Q := by
  obtain ⟨S, fr, t, S', h, e, q⟩ := h
  obtain ⟨⟨ta, S1⟩, e1, e⟩ := Option.bind_eq_some_iff.mp e
  obtain ⟨⟨tb, S2⟩, e2, e⟩ := Option.bind_eq_some_iff.mp e
  obtain ⟨d, e3, hs, rfl, rfl⟩ := sD_some e
  refine ⟨S, fr, ta, S1, h, e1, fun v H1 h1 => ⟨S1, (v, ta) :: fr, tb, _, h1, e2, fun u H2 h2 => ?_⟩⟩
  obtain ⟨r1, r2⟩ := h2.reps2
  exact ⟨fz ta, fz tb, d, r1, r2, e3, fun z rz => q z H2 ((h2.drops [_, _]).new (scRep hs rz))⟩
theorem ve_op {op : Operator} {g : D → D → Option D} {ma mb : ME} (ho : OpR X (binaryOp op) (rD X.K g)) (ha : VE X a ma) (hb : VE X b mb) : VE X (.BinOp a op b pos) (e2 g ma mb) := PE.imp (pe_op ho ha hb) fun σ H Q h => e2_imp h
theorem ve_cmp {op : CmpOp} {g : D → D → Option D} {ma mb : ME} (ho : OpR X (compareOp op) (rD X.K g)) (ha : VE X a ma) (hb : VE X b mb) (hm : behindInMarks op b = false := by first | exact nobehind _ (by decide) (by decide) | rfl) : VE X (.Compare a [op] [b] pos) (e2 g ma mb) :=
  PE.imp (pe_cmpR ho ha hb hm) fun σ H Q h => e2_imp h
/-- a tree that is a truth value -/
def qB (m : ME) : MT := fun S => (m S).bind fun p => (asB (fz p.1)).bind fun b => some (b, p.2)
theorem qB_imp {m : ME} {σ : St} {H : Hp} {Q : Bool → Hp → Prop} {te : TE} (hi : ∀ Q, tV X.K m σ H Q → te σ H Q) (h : tVT X.K (qB m) σ H Q) : te σ H fun x H1 => ∃ k, x = .bl k ∧ Q k H1 := by
  obtain ⟨S, fr, b, S', h, e, q⟩ := h
  obtain ⟨⟨t, S1⟩, e1, e⟩ := Option.bind_eq_some_iff.mp e
  obtain ⟨b', e2, e⟩ := Option.bind_eq_some_iff.mp e
  cases e
  refine hi _ ⟨S, fr, t, _, h, e1, fun v H1 h1 => ⟨_, ?_, q H1 h1.drop1⟩⟩
  have r := h1.rep
  rw [asB_some e2] at r
  exact r
theorem vt_cmp {op : CmpOp} {g : D → D → Option D} {ma mb : ME} (ho : OpR X (compareOp op) (rD X.K g)) (ha : VE X a ma) (hb : VE X b mb) (hm : behindInMarks op b = false := by first | exact nobehind _ (by decide) (by decide) | rfl) : VT X (.Compare a [op] [b] pos) (qB (e2 g ma mb)) :=
  PT.imp (pt_cmpR ho ha hb hm) fun σ H Q h => qB_imp (fun Q h => e2_imp h) h
theorem vt_val {m : ME} (h : VE X e m) (he : ∀ whole, isTrue e X.env whole = (do let v ← whole; standAt e.pos; holding [v] (truthy v)) := by intro _; rfl) : VT X e (qB m) :=
  PT.imp (pt_val h he) fun σ H Q h => qB_imp (te := tV X.K m) (fun Q h => h) h
def qAnd (p q : MT) : MT := fun S => (p S).bind fun x => if x.1 = true then q x.2 else some (false, x.2)
def qOr (p q : MT) : MT := fun S => (p S).bind fun x => if x.1 = true then some (true, x.2) else q x.2
def qNot (p : MT) : MT := fun S => (p S).bind fun x => some (!x.1, x.2)
def VW (X : Cx) (e : Expr) (m : MT) : Prop := PW X e (tVT X.K m)
theorem vwt_and1 {p : MT} (h : VT X a p) : VW X (.BoolOp .And [a] pos) p := pw_and1 h
theorem vwt_or1 {p : MT} (h : VT X a p) : VW X (.BoolOp .Or [a] pos) p := pw_or1 h
theorem vwt_and {p q : MT} (h : VT X a p) (h2 : VW X (.BoolOp .And (b :: es) pos) q) : VW X (.BoolOp .And (a :: b :: es) pos) (qAnd p q) := PW.imp (pw_and h h2) fun σ H Q ⟨S, fr, c, S', h, e, k⟩ => by
  obtain ⟨⟨x, S1⟩, e1, e2⟩ := Option.bind_eq_some_iff.mp e
  refine ⟨S, fr, x, S1, h, e1, fun H1 h1 => ?_⟩
  cases x with
  | true => exact iteT ⟨S1, fr, c, S', h1, by simpa using e2, k⟩
  | false =>
    have z : (false, S1) = (c, S') := by simpa using e2
    cases z
    exact iteF (k _ h1)
theorem vwt_or {p q : MT} (h : VT X a p) (h2 : VW X (.BoolOp .Or (b :: es) pos) q) : VW X (.BoolOp .Or (a :: b :: es) pos) (qOr p q) := PW.imp (pw_or h h2) fun σ H Q ⟨S, fr, c, S', h, e, k⟩ => by
  obtain ⟨⟨x, S1⟩, e1, e2⟩ := Option.bind_eq_some_iff.mp e
  refine ⟨S, fr, x, S1, h, e1, fun H1 h1 => ?_⟩
  cases x with
  | false => exact iteF ⟨S1, fr, c, S', h1, by simpa using e2, k⟩
  | true =>
    have z : (true, S1) = (c, S') := by simpa using e2
    cases z
    exact iteT (k _ h1)
theorem vt_w {p : MT} (h : VW X e p) : VT X e p := PW.pt h
theorem vt_not {p : MT} (h : VT X a p) : VT X (.UnaryOp .Not a pos) (qNot p) := PT.imp (pt_not h) fun σ H Q ⟨S, fr, c, S', h, e, k⟩ => by
  obtain ⟨⟨x, S1⟩, e1, e2⟩ := Option.bind_eq_some_iff.mp e
  have z : (!x, S1) = (c, S') := by simpa using e2
  cases z
  exact ⟨S, fr, _, _, h, e1, k⟩
def eIf (t : MT) (p q : ME) : ME := fun S => (t S).bind fun x => if x.1 = true then p x.2 else q x.2
theorem ve_if {t : MT} {p q : ME} (ht : VT X c t) (h1 : VE X a p) (h2 : VE X b q) : VE X (.IfExp c a b pos) (eIf t p q) := PE.imp (pe_ifExp ht h1 h2) fun σ H Q ⟨S, fr, d, S', h, e, k⟩ => by
  obtain ⟨⟨x, S1⟩, e1, e2⟩ := Option.bind_eq_some_iff.mp e
  refine ⟨S, fr, x, S1, h, e1, fun H1 h1 => ?_⟩
  cases x with
  | true => exact iteT ⟨S1, fr, d, S', h1, by simpa using e2, k⟩
  | false => exact iteF ⟨S1, fr, d, S', h1, by simpa using e2, k⟩

/-! ### children -/
/-- the child at i -/
def kid (t : T) (i : Int) : Option T := match t with
  | .sh (.lst ds) => (atI ds i).map .sh
  | .sh (.tup ds) => (atI ds i).map .sh
  | .sh (.str z) => if lenOk z = true then (atI z.cps.toList i).map fun c => .sh (.str ⟨#[c]⟩) else none
  | .sh _ => none
  | .lst ts => atI ts i
  | .tup ts => atI ts i
def isSh : T → Bool
  | .sh _ => true
  | _ => false
theorem isSh_eq {t : T} (h : isSh t = true) : t = .sh (fz t) := by
  cases t with
  | sh d => rfl
  | _ => cases h
theorem Owns.get {K : PySem.W.Frag} {G H : Hp} : ∀ {ts : List T} {vs : List V} {fp : List Addr} {i : Nat} {t : T}, Owns K G H vs ts fp → ts[i]? = some t → ∃ v f, vs[i]? = some v ∧ Own K G H v t f
  | [], _, _, _, _, _, h => by simp at h
  | _ :: _, [], _, _, _, h, _ => h.elim
  | u :: ts, v :: vs, fp, 0, t, h, h' => by
    have z : u = t := by simpa using h'
    subst z
    obtain ⟨f, g, _, h1, _⟩ := h
    exact ⟨v, f, rfl, h1⟩
  | u :: ts, v :: vs, fp, i + 1, t, h, h' => by
    obtain ⟨f, g, _, _, h2⟩ := h
    obtain ⟨w, f', h3, h4⟩ := Owns.get (i := i) h2 (by simpa using h')
    exact ⟨w, f', by simpa using h3, h4⟩
theorem Owns.atI {K : PySem.W.Frag} {G H : Hp} {ts : List T} {vs : List V} {fp : List Addr} {i : Int} {t : T} (h : Owns K G H vs ts fp) (h' : L2.atI ts i = some t) : ∃ v f, L2.atI vs i = some v ∧ Own K G H v t f := by
  obtain ⟨j, h1, h2⟩ := Option.bind_eq_some_iff.mp h'
  obtain ⟨v, f, h3, h4⟩ := h.get h2
  refine ⟨v, f, ?_, h4⟩
  unfold L2.atI
  rw [h.length, h1]
  exact h3
/-- what reading a place of a value asks -/
def IxAt (K : PySem.W.Frag) (H : Hp) (x : V) (i : Int) (w : V) : Prop :=
  (∃ a vs, x = .ref a ∧ (SqL K H a vs ∨ SqT K H a vs) ∧ atI vs i = some w) ∨ ∃ z c, x = .str z ∧ z.length ≤ sizeLine ∧ atI z.cps.toList i = some c ∧ w = .str ⟨#[c]⟩
theorem IxAt.rIx {K : PySem.W.Frag} {H : Hp} {x : V} {i : Int} {w : V} {Q : VK} (h : IxAt K H x i w) (q : Q w H) : L2.rIx K x (.int i) H Q := by
  rcases h with ⟨a, vs, rfl, (k | k), e⟩ | ⟨z, c, rfl, l, e, rfl⟩
  · exact .inl ⟨a, vs, i, w, rfl, rfl, k, e, q⟩
  · exact .inr (.inl ⟨a, vs, i, w, rfl, rfl, k, e, q⟩)
  · exact .inr (.inr ⟨z, i, c, rfl, rfl, l, e, q⟩)
/-- a shared child is read, the tree stays -/
theorem At.peek {K : PySem.W.Frag} {H : Hp} {v : V} {t : T} {i : Int} {d : D} {ps : Ps} (h : At K H ((v, t) :: ps)) (e : kid t i = some (.sh d)) : ∃ w, IxAt K H v i w ∧ At K H ((w, .sh d) :: (v, t) :: ps) := by
  cases t with
  | sh d0 =>
    obtain ⟨G, fp, s, ⟨f, g, rfl, ⟨rfl, o1⟩, o2⟩, n, e0, x⟩ := h
    cases d0 with
    | lst ds =>
      obtain ⟨a, vs, rfl, k, rs⟩ := o1
      obtain ⟨d', e1, e2⟩ := Option.map_eq_some_iff.mp (show (L2.atI ds i).map T.sh = some (.sh d) from e)
      cases e2
      obtain ⟨w, e3, rw'⟩ := rs.atI e1
      exact ⟨w, .inl ⟨a, vs, rfl, .inl (s.seq k), e3⟩, G, _, s, ⟨[], _, rfl, ⟨rfl, rw'⟩, [], g, rfl, ⟨rfl, a, vs, rfl, k, rs⟩, o2⟩, n, e0, x⟩
    | tup ds =>
      obtain ⟨a, vs, rfl, k, rs⟩ := o1
      obtain ⟨d', e1, e2⟩ := Option.map_eq_some_iff.mp (show (L2.atI ds i).map T.sh = some (.sh d) from e)
      cases e2
      obtain ⟨w, e3, rw'⟩ := rs.atI e1
      exact ⟨w, .inl ⟨a, vs, rfl, .inr (Same.sqT s k), e3⟩, G, _, s, ⟨[], _, rfl, ⟨rfl, rw'⟩, [], g, rfl, ⟨rfl, a, vs, rfl, k, rs⟩, o2⟩, n, e0, x⟩
    | str z =>
      unfold kid at e
      simp only at e
      split at e
      · rename_i hl
        obtain ⟨c, e1, e2⟩ := Option.map_eq_some_iff.mp e
        cases e2
        exact ⟨.str ⟨#[c]⟩, .inr ⟨z, c, o1, lenOk_iff.mp hl, e1, rfl⟩, G, _, s, ⟨[], _, rfl, ⟨rfl, rfl⟩, [], g, rfl, ⟨rfl, o1⟩, o2⟩, n, e0, x⟩
      · cases e
    | _ => cases e
  | lst ts =>
    obtain ⟨G, fp, s, ⟨f, g, rfl, o1, o2⟩, n, e0, x⟩ := h
    obtain ⟨a, vs, f', rfl, rfl, ha, os⟩ := id o1
    obtain ⟨w, f2, e3, rw'⟩ := os.atI (show L2.atI ts i = some (.sh d) from e)
    exact ⟨w, .inl ⟨a, vs, rfl, .inl (.of ha), e3⟩, G, _, s, ⟨[], _, rfl, ⟨rfl, rw'.2⟩, _, g, rfl, o1, o2⟩, n, e0, x⟩
  | tup ts =>
    obtain ⟨G, fp, s, ⟨f, g, rfl, o1, o2⟩, n, e0, x⟩ := h
    obtain ⟨a, vs, f', rfl, rfl, ha, os⟩ := id o1
    obtain ⟨w, f2, e3, rw'⟩ := os.atI (show L2.atI ts i = some (.sh d) from e)
    exact ⟨w, .inl ⟨a, vs, rfl, .inr (.of ha), e3⟩, G, _, s, ⟨[], _, rfl, ⟨rfl, rw'.2⟩, _, g, rfl, o1, o2⟩, n, e0, x⟩
/-- o[i], o a value of its own -/
def eIx (ma mb : ME) : ME := fun S => (ma S).bind fun p => (mb p.2).bind fun q => match fz q.1 with
  | .int i => (kid p.1 i).bind fun t => if isSh t = true then some (t, q.2) else none
  | _ => none
theorem ve_ix {ma mb : ME} (ha : VE X a ma) (hb : VE X b mb) (hs : PlainIx b := by exact fun _ _ => rfl) : VE X (.Subscript a b pos) (eIx ma mb) := PE.imp (pe_ix ix_seq ha hb hs) fun σ H Q ⟨S, fr, t, S', h, e, q⟩ => by
  obtain ⟨⟨ta, S1⟩, e1, e⟩ := Option.bind_eq_some_iff.mp e
  obtain ⟨⟨tb, S2⟩, e2, e⟩ := Option.bind_eq_some_iff.mp e
  refine ⟨S, fr, ta, S1, h, e1, fun v H1 h1 => ⟨S1, (v, ta) :: fr, tb, S2, h1, e2, fun u H2 h2 => ?_⟩⟩
  simp only at e
  split at e
  · rename_i i ei
    obtain ⟨t', e3, e⟩ := Option.bind_eq_some_iff.mp e
    split at e
    · rename_i hsh
      obtain ⟨rfl, rfl⟩ : t' = t ∧ S2 = S' := by simpa using e
      have ru := h2.rep
      rw [ei] at ru
      rw [isSh_eq hsh] at e3 q
      obtain ⟨w, ix, k⟩ := At.peek (h2.drop1.at1) e3
      rw [show u = .int i from ru]
      exact ix.rIx (q w H2 ((AtS.of h2.1 k : AtS X.K H2 σ S2 ((w, .sh (fz t')) :: (v, ta) :: fr)).sub (Sub.refl.skip.cons)))
    · cases e
  · cases e
/-- x[i], x a name -/
def eIxN (j : Nat) (mb : ME) : ME := fun S => match S[j]? with
  | some (some _) => (mb S).bind fun q => match q.2[j]? with
    | some (some t0) => (match fz q.1 with
      | .int i => (kid t0 i).bind fun t => if isSh t = true then some (t, q.2) else none
      | _ => none)
    | _ => none
  | _ => none
theorem ve_ixN (j : Nat) {x : Str} {px : Pos} {mb : ME} (hb : VE X b mb) (hs : PlainIx b := by exact fun _ _ => rfl) (hN : X.N[j]? = some x := by rfl) (hv : Vis X.env.scope x := by first | exact Or.inl rfl | exact Or.inr (Or.inl rfl) | exact Or.inr (Or.inr rfl)) (hd : (x == ("__debug__" : Str)) = false := by decide)
    (hcd : (x == ("__classdict__" : Str)) = false := by decide) : VE X (.Subscript (.Name x px) b pos) (eIxN j mb) := PE.imp (pe_ix ix_seq (pe_var hN hv hd hcd) hb hs) fun σ H Q ⟨S, fr, t, S', h, e, q⟩ => by
  unfold eIxN at e
  split at e
  · rename_i t1 e0
    obtain ⟨⟨tb, S2⟩, e2, e⟩ := Option.bind_eq_some_iff.mp e
    obtain ⟨v, hv, _⟩ := h.take e0
    refine ⟨v, hv, S, fr, tb, S2, h, e2, fun u H2 h2 => ?_⟩
    simp only at e
    split at e
    · rename_i t0 e4
      split at e
      · rename_i i ei
        obtain ⟨t', e3, e⟩ := Option.bind_eq_some_iff.mp e
        split at e
        · rename_i hsh
          obtain ⟨rfl, rfl⟩ : t' = t ∧ S2 = S' := by simpa using e
          have ru := h2.rep
          rw [ei] at ru
          rw [isSh_eq hsh] at e3 q
          obtain ⟨v', hv', k⟩ := h2.take e4
          rw [hv] at hv'
          cases hv'
          obtain ⟨w, ix, k2⟩ := At.peek k.at1 e3
          rw [show u = .int i from ru]
          have k3 : AtS X.K H2 σ (S2.set j none) ((v, t0) :: (w, .sh (fz t')) :: fr) := (AtS.of k.1 k2 : AtS X.K H2 σ (S2.set j none) ((w, .sh (fz t')) :: (v, t0) :: (u, tb) :: fr)).sub ⟨[(u, tb)], (List.Perm.swap ..).trans (List.perm_middle (l₁ := [(v, t0), (w, T.sh (fz t'))]))⟩
          have k4 := k3.back hv
          rw [List.set_set, set_at e4] at k4
          exact ix.rIx (q w H2 k4)
        · cases e
      · cases e
    · cases e
  · cases e

/-! ### argument lists -/
/-- which of the values are those of moved slots -/
def Mvd (σ : St) : List (Option Nat) → List V → Prop
  | [], [] => True
  | some i :: ms, v :: vs => σ[i]? = some (some v) ∧ Mvd σ ms vs
  | none :: ms, _ :: vs => Mvd σ ms vs
  | _, _ => False
def tVA' (K : PySem.W.Frag) (ms : List (Option Nat)) (m : MA) : TA := fun σ H Q => ∃ S fr ts S', AtS K H σ S fr ∧ m S = some (ts, S') ∧ ∀ vs H', Mvd σ ms vs → vs.length = ts.length → AtS K H' σ S' (vs.zip ts ++ fr) → Q vs H'
abbrev VM (X : Cx) (es : List Expr) (ms : List (Option Nat)) (m : MA) : Prop := PA X es (tVA' X.K ms m)
def aNil : MA := fun S => some ([], S)
theorem va_nil : VM X [] [] aNil := PA.imp pa_nil fun σ H Q ⟨S, fr, ts, S', h, e, q⟩ => by
  cases e
  exact q [] H trivial rfl h
def aCons (m : ME) (r : MA) : MA := fun S => (m S).bind fun p => (r p.2).bind fun q => some (p.1 :: q.1, q.2)
theorem va_cons {ms : List (Option Nat)} {m : ME} {r : MA} (h : VE X e m) (hr : VM X es ms r) (hs : starEach (e :: es) X.env = (false, eval e X.env) :: starEach es X.env := by rfl) : VM X (e :: es) (none :: ms) (aCons m r) :=
  PA.imp (pa_cons h hr hs) fun σ H Q ⟨S, fr, ts, S', h, e, q⟩ => by
    obtain ⟨⟨t, S1⟩, e1, e⟩ := Option.bind_eq_some_iff.mp e
    obtain ⟨⟨us, S2⟩, e2, e⟩ := Option.bind_eq_some_iff.mp e
    cases e
    refine ⟨S, fr, t, S1, h, e1, fun v H1 h1 => ⟨S1, (v, t) :: fr, us, S2, h1, e2, fun vs H2 m2 l2 h2 => q (v :: vs) H2 m2 (congrArg (· + 1) l2) (h2.perm List.perm_middle)⟩⟩
/-- a name, its tree taken when all the others are reckoned -/
def aMv (i : Nat) (r : MA) : MA := fun S => match S[i]? with
  | some (some _) => (r S).bind fun q => match q.2[i]? with
    | some (some t) => some (t :: q.1, q.2.set i none)
    | _ => none
  | _ => none
theorem va_mv (i : Nat) {x : Str} {ms : List (Option Nat)} {r : MA} (hr : VM X es ms r) (hN : X.N[i]? = some x := by rfl) (hv : Vis X.env.scope x := by first | exact Or.inl rfl | exact Or.inr (Or.inl rfl) | exact Or.inr (Or.inr rfl)) (hd : (x == ("__debug__" : Str)) = false := by decide)
    (hcd : (x == ("__classdict__" : Str)) = false := by decide) (hs : starEach (.Name x pos :: es) X.env = (false, eval (.Name x pos) X.env) :: starEach es X.env := by rfl) : VM X (.Name x pos :: es) (some i :: ms) (aMv i r) :=
  PA.imp (pa_cons (pe_var hN hv hd hcd) hr hs) fun σ H Q ⟨S, fr, ts, S', h, e, q⟩ => by
    unfold aMv at e
    split at e
    · rename_i t1 e0
      obtain ⟨⟨us, S2⟩, e2, e⟩ := Option.bind_eq_some_iff.mp e
      simp only at e
      split at e
      · rename_i t e3
        cases e
        obtain ⟨v, hv, _⟩ := h.take e0
        refine ⟨v, hv, S, fr, us, S2, h, e2, fun vs H2 m2 l2 h2 => ?_⟩
        obtain ⟨v', hv', k⟩ := h2.take e3
        rw [hv] at hv'
        cases hv'
        exact q (v :: vs) H2 ⟨hv, m2⟩ (congrArg (· + 1) l2) k
      · cases e
    · cases e

/-! ### calls of defs -/
/-- what a def computes: the result, what the arguments have become -/
abbrev Fn := List T → Option (T × List (Option T))
def spV (K : PySem.W.Frag) (n : Nat) (m : Fn) : Sp := fun vs H Q _ => ∃ ts fr r ts', vs.length = n ∧ ts.length = n ∧ At K H (vs.zip ts ++ fr) ∧ m ts = some (r, ts') ∧ ts'.length = n ∧ ∀ v H', At K H' ((v, r) :: prs (vs.map some) ts' ++ fr) → Q v H'
structure Good (P : Program) (w : World) (K : PySem.W.Frag) (mg : Str → Option Value) (base : Heap) (x : Str) (k : Nat) (ps : List Str) (m : Fn) : Prop where
  ex : ∃ f fd, mg x = some (.ref f) ∧ PySem.W.keepIn K (.ref f) = true ∧ Binds K fd ps [] ∧ FnG P w K mg base k f fd ps (spV K ps.length m)
def putB : List (Option Nat) → List (Option T) → Sto → Sto
  | some i :: ms, some t :: ts, S => putB ms ts (S.set i (some t))
  | _ :: ms, _ :: ts, S => putB ms ts S
  | _, _, S => S
theorem AtS.putB {K : PySem.W.Frag} {H : Hp} {σ : St} {fr : Ps} : ∀ {ms : List (Option Nat)} {vs : List V} {ts : List (Option T)} {S : Sto}, Mvd σ ms vs → AtS K H σ S (prs (vs.map some) ts ++ fr) → AtS K H σ (VS.putB ms ts S) fr
  | [], [], ts, S, _, h => by
    cases ts <;> exact h
  | some i :: ms, v :: vs, [], S, _, h => h
  | none :: ms, v :: vs, [], S, _, h => h
  | some i :: ms, v :: vs, some t :: ts, S, m, h => AtS.putB (ms := ms) (vs := vs) (ts := ts) m.2 (AtS.back (show AtS K H σ S ((v, t) :: (prs (vs.map some) ts ++ fr)) from h) m.1)
  | some i :: ms, v :: vs, none :: ts, S, m, h => AtS.putB (ms := ms) (vs := vs) (ts := ts) m.2 h
  | none :: ms, v :: vs, some t :: ts, S, m, h => AtS.putB (ms := ms) (vs := vs) (ts := ts) m (AtS.drop1 (show AtS K H σ S ((v, t) :: (prs (vs.map some) ts ++ fr)) from h))
  | none :: ms, v :: vs, none :: ts, S, m, h => AtS.putB (ms := ms) (vs := vs) (ts := ts) m h
  | [], _ :: _, _, _, m, _ => m.elim
  | some _ :: _, [], _, _, m, _ => m.elim
  | none :: _, [], _, _, m, _ => m.elim
theorem Mvd.length {σ : St} : ∀ {ms : List (Option Nat)} {vs : List V}, Mvd σ ms vs → ms.length = vs.length
  | [], [], _ => rfl
  | some _ :: ms, _ :: vs, h => congrArg (· + 1) (Mvd.length h.2)
  | none :: ms, _ :: vs, h => congrArg (· + 1) (Mvd.length (ms := ms) (vs := vs) h)
  | [], _ :: _, h => h.elim
  | some _ :: _, [], h => h.elim
  | none :: _, [], h => h.elim
def eCall (f : Fn) (ms : List (Option Nat)) (ma : MA) : ME := fun S => (ma S).bind fun p => (f p.1).bind fun r => if r.2.length = ms.length then some (r.1, putB ms r.2 p.2) else none
theorem call_imp' {f : Fn} {ms : List (Option Nat)} {ma : MA} {n : Nat} {σ : St} {H : Hp} {Q : VK} (hn : ms.length = n) (h : tV X.K (eCall f ms ma) σ H Q) : tCall (spV X.K n f) [] E0 (tVA' X.K ms ma) σ H Q := by
  obtain ⟨S, fr, t, S', h, e, q⟩ := h
  obtain ⟨⟨ts, S1⟩, e1, e⟩ := Option.bind_eq_some_iff.mp e
  obtain ⟨⟨r, ts'⟩, e2, e⟩ := Option.bind_eq_some_iff.mp e
  simp only at e
  split at e
  · rename_i hl
    obtain ⟨rfl, rfl⟩ : r = t ∧ putB ms ts' S1 = S' := by simpa using e
    refine ⟨S, fr, ts, S1, h, e1, fun vs H1 mv l1 h1 => ?_⟩
    have l2 := mv.length
    show spV X.K n f (vs ++ []) H1 Q E0
    rw [List.append_nil]
    refine ⟨ts, fr ++ prs σ S1, r, ts', l2.symm.trans hn, l1.symm.trans (l2.symm.trans hn), ?_, e2, hl.trans hn, fun v H2 h2 => q v H2 ?_⟩
    · have k := h1.front
      rw [List.append_assoc] at k
      exact k
    · have k : AtS X.K H2 σ S1 ((v, r) :: (prs (vs.map some) ts' ++ fr)) := AtS.of h1.1 (by
        have z : (v, r) :: prs (vs.map some) ts' ++ (fr ++ prs σ S1) = (v, r) :: (prs (vs.map some) ts' ++ fr) ++ prs σ S1 := by simp
        rw [← z]
        exact h2)
      exact AtS.putB (fr := (v, r) :: fr) mv (k.perm List.perm_middle.symm)
  · cases e
theorem ve_call {x : Str} {k : Nat} {ps : List Str} {f : Fn} {ms : List (Option Nat)} {ma : MA} {p : Pos} (F : Good X.prog X.w X.K X.mg X.base x k ps f) (hr : RoomG k X.A) (ha : VM X (e :: es) ms ma) (hn : ms.length = ps.length := by rfl) (hx : X.xe = fun _ _ => False := by rfl) (hg : Gl X x := by rfl)
    (hdb : (x == ("__debug__" : Str)) = false := by decide) (he : starEach (e :: es) X.env = (false, eval e X.env) :: starEach es X.env := by rfl) (hpl : (backTo pos (starEach es X.env)).any (·.1) = false := by rfl) : VE X (.Call (.Name x p) (e :: es) [] pos) (eCall f ms ma) := by
  obtain ⟨a, fd, hm, hk, hb, F⟩ := F.ex
  exact PE.imp (pe_callG F hr hg hm hk hb ha hdb he hpl) fun σ H Q h => call_imp' hn h
theorem ve_call0 {x : Str} {k : Nat} {f : Fn} {p : Pos} (F : Good X.prog X.w X.K X.mg X.base x k [] f) (hr : RoomG k X.A) (hg : Gl X x := by rfl) (hdb : (x == ("__debug__" : Str)) = false := by decide) : VE X (.Call (.Name x p) [] [] pos) (eCall f [] aNil) := by
  obtain ⟨a, fd, hm, hk, hb, F⟩ := F.ex
  refine PE.imp (pe_callG0 F hr hg hm hk hb hdb) fun σ H Q h => ?_
  have k := call_imp' (n := 0) rfl h
  obtain ⟨S, fr, ts, S', h1, e, q⟩ := k
  cases e
  exact q [] H trivial rfl h1

/-! ### displays -/
theorem AtS.kidsAt {K : PySem.W.Frag} {H : Hp} {σ : St} {S : Sto} {fr : Ps} {vs : List V} {ts : List T} (h : AtS K H σ S (vs.zip ts ++ fr)) : At K H (vs.zip ts ++ (fr ++ prs σ S)) := by
  have k := h.front
  rw [List.append_assoc] at k
  exact k
def eLst (ma : MA) : ME := fun S => (ma S).bind fun p => if p.1.length ≤ 1000 then some (.lst p.1, p.2) else none
theorem le1000 {n : Nat} (h : n ≤ 1000) : n ≤ sizeLine := Nat.le_trans h (by decide)
theorem ve_lst {ms : List (Option Nat)} {ma : MA} (ha : VM X es ms ma) : VE X (.List es pos) (eLst ma) := PE.imp (pe_lst ha) fun σ H Q ⟨S, fr, t, S', h, e, q⟩ => by
  obtain ⟨⟨ts, S1⟩, e1, e⟩ := Option.bind_eq_some_iff.mp e
  split at e
  · rename_i hl
    cases e
    exact ⟨S, fr, ts, S1, h, e1, fun vs H1 _ l1 h1 => ⟨by rw [l1]; exact le1000 hl, fun p hp => q _ _ (AtS.of h1.1 (h1.kidsAt.newL l1 hp))⟩⟩
  · cases e
/-- a tuple of shared children is shared -/
def mkTup (ts : List T) : T := if shAll ts = true then .sh (.tup (fzL ts)) else .tup ts
def eTup (ma : MA) : ME := fun S => (ma S).bind fun p => if p.1.length ≤ 1000 then some (mkTup p.1, p.2) else none
theorem ve_tup {ms : List (Option Nat)} {ma : MA} {x1} (ha : VM X es ms ma) : VE X (.Tuple es x1 pos) (eTup ma) := PE.imp (pe_tup ha) fun σ H Q ⟨S, fr, t, S', h, e, q⟩ => by
  obtain ⟨⟨ts, S1⟩, e1, e⟩ := Option.bind_eq_some_iff.mp e
  split at e
  · rename_i hl
    cases e
    refine ⟨S, fr, ts, S1, h, e1, fun vs H1 _ l1 h1 => ⟨by rw [l1]; exact le1000 hl, fun p hp => q _ _ ?_⟩⟩
    have k : AtS X.K _ σ S1 ((.ref p, .tup ts) :: fr) := AtS.of h1.1 (h1.kidsAt.newT l1 hp)
    unfold mkTup
    split
    · exact k.freeze
    · exact k
  · cases e
end
end VS
/-! VS: lists put together, statements, loops, comprehensions, defs. -/
namespace VS
open PySem PySem.Spec PyProof.Rows L2

/-! ### lists put together -/
section
variable {K : PySem.W.Frag} {H : Hp} {σ : St} {S : Sto} {fr ps : Ps}
def kidsL : T → Option (List T)
  | .lst ts => some ts
  | .sh (.lst ds) => some (ds.map .sh)
  | _ => none
theorem At.unl {v : V} {t : T} {ts : List T} (h : At K H ((v, t) :: ps)) (e : kidsL t = some ts) : ∃ a vs, v = .ref a ∧ SqL K H a vs ∧ vs.length = ts.length ∧ At K H (vs.zip ts ++ ps) := by
  cases t with
  | lst us =>
    have z : us = ts := by simpa [kidsL] using e
    subst z
    obtain ⟨a, vs, h1, h2, h3, h4⟩ := h.open
    exact ⟨a, vs, h1, .of h2, h3, h4.at⟩
  | sh d =>
    cases d with
    | lst ds =>
      have z : ds.map T.sh = ts := by simpa [kidsL] using e
      subst z
      obtain ⟨a, vs, h1, h2, h3, h4⟩ := h.kids
      exact ⟨a, vs, h1, h2, by rw [List.length_map]; exact h3, h4⟩
    | _ => cases e
  | _ => cases e
theorem At.append {v : V} {a : Addr} {t : T} {ts : List T} (h : At K H ((v, t) :: (.ref a, .lst ts) :: ps)) : ∃ vs, H a = some (.lst vs) ∧ vs.length = ts.length ∧ At K (upd H a (.lst (vs ++ [v]))) ((.ref a, .lst (ts ++ [t])) :: ps) := by
  obtain ⟨b, vs, h1, h2, h3, h4⟩ := (h.perm (.swap ..)).open
  cases h1
  refine ⟨vs, h2, h3, AtA.closeL ?_ (by simp [h3])⟩
  refine h4.perm ?_
  rw [List.zip_append h3]
  simp only [List.zip_cons_cons, List.zip_nil_right, List.append_assoc]
  exact .refl _
theorem At.setAt {v : V} {a : Addr} {t : T} {ts : List T} {j : Nat} (h : At K H ((v, t) :: (.ref a, .lst ts) :: ps)) (hj : j < ts.length) : ∃ vs, H a = some (.lst vs) ∧ vs.length = ts.length ∧ At K (upd H a (.lst (vs.set j v))) ((.ref a, .lst (ts.set j t)) :: ps) := by
  obtain ⟨b, vs, h1, h2, h3, h4⟩ := (h.perm (.swap ..)).open
  cases h1
  refine ⟨vs, h2, h3, AtA.closeL ?_ (by simp [h3])⟩
  have z : ∀ (j : Nat) (vs : List V) (ts : List T), j < ts.length → vs.length = ts.length → Sub ((vs.set j v).zip (ts.set j t)) ((v, t) :: vs.zip ts) := by
    intro j
    induction j with
    | zero =>
      intro vs ts h l
      cases vs with
      | nil => cases ts <;> simp at h l
      | cons w vs =>
        cases ts with
        | nil => simp at h
        | cons u ts => exact (Sub.refl.skip).cons
    | succ j ih =>
      intro vs ts h l
      cases vs with
      | nil => cases ts <;> simp at h l
      | cons w vs =>
        cases ts with
        | nil => simp at h
        | cons u ts => exact ((ih vs ts (by simpa using h) (by simpa using l)).cons).trans (Sub.of_perm (.swap ..))
  refine (h4.perm (qs := (v, t) :: vs.zip ts ++ ps) (List.perm_middle)).sub ((z j vs ts hj h3).append_right ps)
end

section
variable {X : Cx} {e a b c : Expr} {es : List Expr} {pos : Pos}
/-- two trees in, one out -/
def rT (K : PySem.W.Frag) (g : T → T → Option T) : R2 := fun x y H Q => ∃ tx ty ps t, At K H ((y, ty) :: (x, tx) :: ps) ∧ g tx ty = some t ∧ ∀ z H', At K H' ((z, t) :: ps) → Q z H'
def e2T (g : T → T → Option T) (ma mb : ME) : ME := fun S => (ma S).bind fun p => (mb p.2).bind fun q => (g p.1 q.1).bind fun t => some (t, q.2)
theorem ve_opT {op : Operator} {g : T → T → Option T} {ma mb : ME} (ho : OpR X (binaryOp op) (rT X.K g)) (ha : VE X a ma) (hb : VE X b mb) : VE X (.BinOp a op b pos) (e2T g ma mb) := PE.imp (pe_op ho ha hb) fun σ H Q ⟨S, fr, t, S', h, e, q⟩ => by
  obtain ⟨⟨ta, S1⟩, e1, e⟩ := Option.bind_eq_some_iff.mp e
  obtain ⟨⟨tb, S2⟩, e2, e⟩ := Option.bind_eq_some_iff.mp e
  obtain ⟨t', e3, e⟩ := Option.bind_eq_some_iff.mp e
  obtain ⟨rfl, rfl⟩ : t' = t ∧ S2 = S' := by simpa using e
  refine ⟨S, fr, ta, S1, h, e1, fun v H1 h1 => ⟨S1, (v, ta) :: fr, tb, _, h1, e2, fun u H2 h2 => ?_⟩⟩
  exact ⟨ta, tb, fr ++ prs σ S2, t', h2.front, e3, fun z H3 h3 => q z H3 (AtS.of h2.1 h3)⟩
def addT (x y : T) : Option T := match kidsL x, kidsL y with
  | some xs, some ys => if xs.length + ys.length ≤ sizeLine then some (.lst (xs ++ ys)) else none
  | _, _ => (dAdd (fz x) (fz y)).map .sh
theorem op_catSq : OpR X (binaryOp .Add) (fun x y H Q => ∃ l b xs zs, x = .ref l ∧ y = .ref b ∧ SqL X.K H l xs ∧ SqL X.K H b zs ∧ xs.length + zs.length ≤ sizeLine ∧ ∀ p, H p = none → Q (.ref p) (upd H p (.lst (xs ++ zs)))) := by
  intro pins s σ H x y v u Q I rx ry h
  obtain ⟨l, b, xs, zs, rfl, rfl, hH, hB, hz, q⟩ := h
  cases rx
  cases ry
  obtain ⟨its, r, ⟨⟨cls, dd, data, sl⟩, n, ho, hc, hdd, hd⟩, _⟩ := I.list hH
  obtain ⟨its2, r2, ⟨⟨cls2, dd2, data2, sl2⟩, n2, ho2, hc2, hdd2, hd2⟩, _⟩ := I.list hB
  simp only at hc hd hc2 hd2
  subst hc hd hc2 hd2
  have e : its.toArray ++ its2.toArray = (its ++ its2).toArray := by simp
  have e1 := r.length
  have e2 := r2.length
  refine concat_meets ⟨_, ho, rfl⟩ ⟨_, ho2, rfl⟩ noFill_list_add seq_list_add PySem.F.slot_list_add PySem.F.entry_list_add (PySem.F.args_list_add_2 _ _) (list_addW l b its.toArray its2.toArray n n2 dd dd2 sl sl2 (by rw [List.size_toArray, List.size_toArray]; omega)) ⟨ho, ho2, ?_⟩
  rw [e]
  exact ⟨.ref _, _, I.lnew (t' := s.toks) (r.append r2) (by rw [List.length_append]; omega), rfl, q _ I.fresh⟩
theorem dAdd_sc {x y d : D} (h : dAdd x y = some d) : sc d = true := by
  cases x with
  | int i =>
    cases y with
    | int j =>
      have z : D.int (i + j) = d := by simpa [dAdd] using h
      subst z
      rfl
    | _ => cases h
  | str i =>
    cases y with
    | str j =>
      simp only [dAdd] at h
      split at h
      · have z := Option.some.inj h
        subst z
        rfl
      · cases h
    | _ => cases h
  | _ => cases y <;> cases h
theorem ot_add : OpR X (binaryOp .Add) (rT X.K addT) := by
  intro pins s σ H x y v u Q I rx ry ⟨tx, ty, ps, t, h, e, q⟩
  unfold addT at e
  split at e
  · rename_i xs ys ex ey
    split at e
    · rename_i hl
      have z := Option.some.inj e
      subst z
      obtain ⟨b, vs2, rfl, k2, l2, h2⟩ := h.unl ey
      obtain ⟨a, vs1, rfl, k1, l1, h3⟩ := (h2.perm (qs := (x, tx) :: (vs2.zip ys ++ ps)) List.perm_middle).unl ex
      refine op_catSq pins s σ H _ _ v u Q I rx ry ⟨a, b, vs1, vs2, rfl, rfl, k1, k2, by rw [l1, l2]; exact hl, fun p hp => q _ _ (At.newL ?_ (by simp [l1, l2]) hp)⟩
      rw [List.zip_append l1, List.append_assoc]
      exact h3
    · cases e
  · obtain ⟨d, e1, e2⟩ := Option.map_eq_some_iff.mp e
    subst e2
    have r2 : Rep X.K H y (fz ty) := h.freeze.rep
    have r1 : Rep X.K H x (fz tx) := (h.perm (.swap ..)).freeze.rep
    exact od_add pins s σ H x y v u Q I rx ry ⟨_, _, d, r1, r2, e1, fun z rz => q z H ((h.tail.tail).new (scRep (dAdd_sc e1) rz))⟩
/-- list(e) -/
def eList (ma : MA) : ME := fun S => (ma S).bind fun p => match p.1 with
  | [t] => (items (fz t)).bind fun ds => some (.lst (ds.map .sh), p.2)
  | _ => none
theorem ve_list {m : MA} {ms : List (Option Nat)} {p : Pos} (ha : VM X [e] ms m) (hm : X.mg "list" = none) (hv : bootBuiltins "list" = some (.type "list") := by decide +kernel) (hg : Gl X "list" := by rfl)
    (he : starEach [e] X.env = (false, eval e X.env) :: starEach [] X.env := by rfl) (hpl : (backTo pos (starEach [] X.env)).any (·.1) = false := by rfl) : VE X (.Call (.Name "list" p) [e] [] pos) (eList m) :=
  PE.imp (pe_callTy call_list_of hg hm hv ha (by decide) (by decide) he hpl) fun σ H Q ⟨S, fr, t, S', h, e, q⟩ => by
    obtain ⟨⟨ts, S1⟩, e1, e⟩ := Option.bind_eq_some_iff.mp e
    refine ⟨S, fr, ts, S1, h, e1, fun vs H1 _ l1 h1 => ?_⟩
    simp only at e
    split at e
    · rename_i t0
      obtain ⟨ds, e2, e⟩ := Option.bind_eq_some_iff.mp e
      obtain ⟨rfl, rfl⟩ : T.lst (ds.map .sh) = t ∧ S1 = S' := by simpa using e
      cases vs with
      | nil => simp at l1
      | cons v vs =>
        cases vs with
        | cons _ _ => simp at l1
        | nil =>
          have h2 : AtS X.K H1 σ S1 ((v, .sh (fz t0)) :: fr) := AtS.freeze h1
          have fin : ∀ (a : Addr) (us : List V), us.length = ds.length → At X.K H1 (us.zip (ds.map T.sh) ++ (fr ++ prs σ S1)) → ∀ l, H1 l = none → Q (.ref l) (upd H1 l (.lst us)) := fun a us l2 k l hl => q _ _ (AtS.of h2.1 (k.newL (by rw [List.length_map]; exact l2) hl))
          cases hd : fz t0 with
          | lst xs =>
            rw [hd] at h2 e2
            have z : xs = ds := by simpa [items] using e2
            subst z
            obtain ⟨a, us, rfl, k, l2, h3⟩ := h2.at1.kids
            exact ⟨a, us, rfl, .inl k, fin a us l2 h3⟩
          | tup xs =>
            rw [hd] at h2 e2
            have z : xs = ds := by simpa [items] using e2
            subst z
            obtain ⟨a, us, rfl, k, l2, h3⟩ := h2.at1.kidsT
            exact ⟨a, us, rfl, .inr k, fin a us l2 h3⟩
          | _ =>
            rw [hd] at e2
            cases e2
    · cases e
/-- sep.join(e) -/
def strsD : List D → Option (List Str)
  | [] => some []
  | .str x :: ds => (strsD ds).map (x :: ·)
  | _ :: _ => none
def joinD (x y : D) : Option D := match x with
  | .str a => (items y).bind fun ds => (strsD ds).bind fun ys => if (ys.map (·.length)).sum + ys.length * a.length ≤ 16777216 then some (.str (Txt.join a ys)) else none
  | _ => none
theorem strsD_vals {K : PySem.W.Frag} {H : Hp} : ∀ {ds : List D} {vs : List V} {ys : List Str}, strsD ds = some ys → Reps K H vs ds → vs = ys.map V.str
  | [], [], ys, h, _ => by
    have z : ys = [] := by simpa [strsD] using h.symm
    rw [z] <;> rfl
  | d :: ds, v :: vs, ys, h, r => by
    cases d with
    | str x =>
      obtain ⟨zs, h1, h2⟩ := Option.map_eq_some_iff.mp (show (strsD ds).map (x :: ·) = some ys from h)
      subst h2
      rw [strsD_vals h1 r.2, show v = .str x from r.1] <;> rfl
    | _ => cases h
  | [], _ :: _, _, _, h => h.elim
  | _ :: _, [], _, _, h => h.elim
def e2M (g : D → D → Option D) (ma mb : ME) : ME := fun S => (ma S).bind fun p => (mb p.2).bind fun q => sD (g (fz p.1) (fz q.1)) q.2
theorem ve_join {apos : Pos} {ma mb : ME} (ha : VE X a ma) (hb : VE X b mb) (hs : starEach [b] X.env = [(false, eval b X.env)] := by rfl) (hbase : attributeBase a "join" X.env (eval a X.env) = eval a X.env := by rfl) (hline : (apos.endLine == pos.line) = true := by rfl) :
    VE X (.Call (.Attribute a "join" apos) [b] [] pos) (e2M joinD ma mb) := PE.imp (pe_join ha hb hs hbase hline) fun σ H Q ⟨S, fr, t, S', h, e, q⟩ => by
  obtain ⟨⟨ta, S1⟩, e1, e⟩ := Option.bind_eq_some_iff.mp e
  obtain ⟨⟨tb, S2⟩, e2, e⟩ := Option.bind_eq_some_iff.mp e
  obtain ⟨d, e3, hs, rfl, rfl⟩ := sD_some e
  have e4 : joinD (fz ta) (fz tb) = some d := e3
  cases hta : fz ta with
  | str x =>
    rw [hta] at e4
    obtain ⟨ds, e5, e6⟩ := Option.bind_eq_some_iff.mp (show ((items (fz tb)).bind fun ds => (strsD ds).bind fun ys => if (ys.map (·.length)).sum + ys.length * x.length ≤ 16777216 then some (.str (Txt.join x ys)) else none) = some d from e4)
    obtain ⟨ys, e7, e8⟩ := Option.bind_eq_some_iff.mp e6
    split at e8
    · rename_i hl
      have z := Option.some.inj e8
      subst z
      refine ⟨S, fr, ta, S1, h, e1, fun v H1 h1 => ⟨?_, S1, (v, ta) :: fr, tb, _, h1, e2, fun u H2 h2 => ?_⟩⟩
      · have r := h1.rep
        rw [hta] at r
        exact ⟨x, r⟩
      · obtain ⟨r1, r2⟩ := h2.reps2
        rw [hta] at r1
        obtain ⟨p, vs, rfl, k, rs⟩ := r2.ref e5
        have ev := strsD_vals e7 rs
        subst ev
        exact ⟨x, p, ys, r1, rfl, k, hl, q _ _ ((h2.drops [_, _]).new fun _ => rfl)⟩
    · cases e8
  | _ =>
    rw [hta] at e4
    cases e4
end

/-! ### statements -/
inductive Fl where
  | nx (S : Sto) | bk (S : Sto) | ct (S : Sto) | rt (t : T) (S : Sto)
abbrev MS := Sto → Option Fl
/-- slots outside as are as they were -/
structure Keep (as : List Nat) (σ σ' : St) : Prop where
  len : σ'.length = σ.length
  at_ : ∀ i, i ∉ as → σ'[i]? = σ[i]?
theorem Keep.refl {as : List Nat} {σ : St} : Keep as σ σ := ⟨rfl, fun _ _ => rfl⟩
theorem Keep.trans {as bs : List Nat} {σ σ1 σ2 : St} (h : Keep as σ σ1) (k : Keep bs σ1 σ2) : Keep (as ++ bs) σ σ2 := ⟨k.1.trans h.1, fun i hi => (k.2 i fun z => hi (List.mem_append_right _ z)).trans (h.2 i fun z => hi (List.mem_append_left _ z))⟩
theorem Keep.mono {as bs : List Nat} {σ σ1 : St} (h : Keep as σ σ1) (k : ∀ i ∈ as, i ∈ bs) : Keep bs σ σ1 := ⟨h.1, fun i hi => h.2 i fun z => hi (k i z)⟩
theorem Keep.set {i : Nat} {σ : St} {o : Option V} : Keep [i] σ (σ.set i o) := ⟨List.length_set .., fun j hj => List.getElem?_set_ne fun z => hj (by simp [z])⟩
def FlOk (K : PySem.W.Frag) (as : List Nat) (D : Ends) (σ : St) (fr : Ps) : Fl → Prop
  | .nx S => ∀ σ' H', Keep as σ σ' → AtS K H' σ' S fr → D.nx σ' H'
  | .bk S => ∀ σ' H', Keep as σ σ' → AtS K H' σ' S fr → D.bk σ' H'
  | .ct S => ∀ σ' H', Keep as σ σ' → AtS K H' σ' S fr → D.ct σ' H'
  | .rt t S => ∀ σ' v H', Keep as σ σ' → AtS K H' σ' S ((v, t) :: fr) → D.rt v H'
def tSt (K : PySem.W.Frag) (as : List Nat) (m : MS) : TS := fun D σ H => ∃ S fr f, AtS K H σ S fr ∧ m S = some f ∧ FlOk K as D σ fr f
abbrev VS (X : Cx) (as : List Nat) (st : Stmt) (m : MS) : Prop := PS X st (tSt X.K as m)
abbrev VSs (X : Cx) (as : List Nat) (st : List Stmt) (m : MS) : Prop := PSs X st (tSt X.K as m)
theorem FlOk.mono {K : PySem.W.Frag} {as bs : List Nat} {D : Ends} {σ : St} {fr : Ps} {f : Fl} (h : FlOk K bs D σ fr f) (k : ∀ i ∈ as, i ∈ bs) : FlOk K as D σ fr f := by
  cases f with
  | nx S => exact fun σ' H' q => h σ' H' (q.mono k)
  | bk S => exact fun σ' H' q => h σ' H' (q.mono k)
  | ct S => exact fun σ' H' q => h σ' H' (q.mono k)
  | rt t S => exact fun σ' v H' q => h σ' v H' (q.mono k)
/-- behind a first part -/
theorem FlOk.after {K : PySem.W.Frag} {as bs : List Nat} {D : Ends} {σ σ1 : St} {fr : Ps} {f : Fl} (h : FlOk K (as ++ bs) D σ fr f) (k : Keep as σ σ1) : FlOk K bs D σ1 fr f := by
  cases f with
  | nx S => exact fun σ' H' q => h σ' H' (k.trans q)
  | bk S => exact fun σ' H' q => h σ' H' (k.trans q)
  | ct S => exact fun σ' H' q => h σ' H' (k.trans q)
  | rt t S => exact fun σ' v H' q => h σ' v H' (k.trans q)
section
variable {X : Cx} {e a b c : Expr} {es : List Expr} {pos : Pos} {st : Stmt} {sts : List Stmt} {as bs : List Nat} {m m' : MS}
def sNext : MS := fun S => some (.nx S)
theorem vss_nil : VSs X [] [] sNext := PSs.imp pss_nil fun D σ H ⟨S, fr, f, h, e, q⟩ => by
  cases e
  exact q σ H .refl h
def sSeq (m m' : MS) : MS := fun S => (m S).bind fun f => match f with
  | .nx S1 => m' S1
  | f => some f
theorem vss_cons (h1 : VS X as st m) (h2 : VSs X bs sts m') : VSs X (as ++ bs) (st :: sts) (sSeq m m') := PSs.imp (pss_cons h1 h2) fun D σ H ⟨S, fr, f, h, e, q⟩ => by
  obtain ⟨f1, e1, e2⟩ := Option.bind_eq_some_iff.mp e
  refine ⟨S, fr, f1, h, e1, ?_⟩
  cases f1 with
  | nx S1 => exact fun σ' H' k h' => ⟨S1, fr, f, h', e2, q.after k⟩
  | bk S1 =>
    cases e2
    exact FlOk.mono (f := .bk S1) q fun i hi => List.mem_append_left _ hi
  | ct S1 =>
    cases e2
    exact FlOk.mono (f := .ct S1) q fun i hi => List.mem_append_left _ hi
  | rt t S1 =>
    cases e2
    exact FlOk.mono (f := .rt t S1) q fun i hi => List.mem_append_left _ hi
theorem vss_one (h : VS X as st m) : VSs X as [st] m := pss_one h
theorem vs_pass : VS X [] (.Pass pos) sNext := PS.imp ps_pass fun D σ H ⟨S, fr, f, h, e, q⟩ => by
  cases e
  exact q σ H .refl h
def sBreak : MS := fun S => some (.bk S)
def sCont : MS := fun S => some (.ct S)
theorem vs_break : VS X [] (.Break pos) sBreak := PS.imp ps_break fun D σ H ⟨S, fr, f, h, e, q⟩ => by
  cases e
  exact q σ H .refl h
theorem vs_continue : VS X [] (.Continue pos) sCont := PS.imp ps_continue fun D σ H ⟨S, fr, f, h, e, q⟩ => by
  cases e
  exact q σ H .refl h
def sRet (m : ME) : MS := fun S => (m S).bind fun p => some (.rt p.1 p.2)
theorem vs_ret {m : ME} (he : VE X e m) : VS X [] (.Return (some e) pos) (sRet m) := PS.imp (ps_ret he) fun D σ H ⟨S, fr, f, h, e, q⟩ => by
  obtain ⟨⟨t, S1⟩, e1, e2⟩ := Option.bind_eq_some_iff.mp e
  cases e2
  exact ⟨S, fr, t, S1, h, e1, fun v H' h' => q σ v H' .refl h'⟩
def sRetN : MS := fun S => some (.rt (.sh .non) S)
theorem vs_retN : VS X [] (.Return none pos) sRetN := PS.imp ps_retN fun D σ H ⟨S, fr, f, h, e, q⟩ => by
  cases e
  exact q σ _ H .refl (h.new fun _ => rfl)
def sIf (t : MT) (m m' : MS) : MS := fun S => (t S).bind fun x => if x.1 = true then m x.2 else m' x.2
theorem vs_if {t : MT} {s1 s2 : List Stmt} (hc : VT X c t) (h1 : VSs X as s1 m) (h2 : VSs X bs s2 m') : VS X (as ++ bs) (.If c s1 s2 pos) (sIf t m m') := PS.imp (ps_if hc h1 h2) fun D σ H ⟨S, fr, f, h, e, q⟩ => by
  obtain ⟨⟨x, S1⟩, e1, e2⟩ := Option.bind_eq_some_iff.mp e
  refine ⟨S, fr, x, S1, h, e1, fun H1 h1 => ?_⟩
  cases x with
  | true => exact iteT ⟨S1, fr, f, h1, by simpa using e2, q.mono fun i hi => List.mem_append_left _ hi⟩
  | false => exact iteF ⟨S1, fr, f, h1, by simpa using e2, q.mono fun i hi => List.mem_append_right _ hi⟩
/-- a statement never reached -/
def sNever : MS := fun _ => none
theorem vs_never : VS X [] st sNever := PS.imp ps_never fun D σ H ⟨S, fr, f, h, e, q⟩ => nomatch e
def sDrop (m : ME) : MS := fun S => (m S).bind fun p => some (.nx p.2)
theorem vs_expr {m : ME} (he : VE X e m) (hs : swapsWith e none pos.line X.env = pure false := by rfl) : VS X [] (.Expr e pos) (sDrop m) := PS.imp (ps_expr he hs) fun D σ H ⟨S, fr, f, h, e, q⟩ => by
  obtain ⟨⟨t, S1⟩, e1, e2⟩ := Option.bind_eq_some_iff.mp e
  cases e2
  exact ⟨S, fr, t, S1, h, e1, fun v H' h' => q σ H' .refl h'.drop1⟩

/-! ### targets -/
def putS (i : Nat) (t : T) (S : Sto) : Option Sto := if i < S.length then some (S.set i (some t)) else none
theorem putS_some {i : Nat} {t : T} {S S' : Sto} (h : putS i t S = some S') : i < S.length ∧ S' = S.set i (some t) := by
  unfold putS at h
  split at h
  · rename_i hi
    exact ⟨hi, (Option.some.inj h).symm⟩
  · cases h
def gV (K : PySem.W.Frag) (as : List Nat) (g : T → Sto → Option Sto) : TG := fun v σ H Q => ∃ S fr t S', AtS K H σ S ((v, t) :: fr) ∧ g t S = some S' ∧ ∀ σ', Keep as σ σ' → AtS K H σ' S' fr → Q σ' H
theorem PG.imp {tg : Expr} {t t' : TG} (h : PG X tg t) (i : ∀ v σ H Q, t' v σ H Q → t v σ H Q) : PG X tg t' := ⟨fun pins s σ H v u Q I r q => h.run pins s σ H v u Q I r (i v σ H Q q)⟩
abbrev VG (X : Cx) (as : List Nat) (tg : Expr) (g : T → Sto → Option Sto) : Prop := PG X tg (gV X.K as g)
theorem vg_name (i : Nat) {x : Str} (hN : X.N.Nodup) (hi : X.N[i]? = some x := by rfl) (hx : Loc X.env.scope x := by first | exact Or.inl rfl | exact Or.inr rfl) (hf : X.fn x = true ∨ X.env.scope.names.lookup x = some .local := by first | exact .inl rfl | exact .inr rfl | assumption) : VG X [i] (.Name x pos) (putS i) :=
  PG.imp (pg_name hN hi hx hf) fun v σ H Q ⟨S, fr, t, S', h, e, q⟩ => by
    obtain ⟨hi, rfl⟩ := putS_some e
    exact q _ .set (h.put hi)
def sAsg (m : ME) (g : T → Sto → Option Sto) : MS := fun S => (m S).bind fun p => (g p.1 p.2).bind fun S' => some (.nx S')
theorem vs_asg {tg : Expr} {me : ME} {g : T → Sto → Option Sto} (he : VE X e me) (hg : VG X as tg g) (hs : swapsWithSole [tg] e pos.line X.env = pure false := by rfl) (hw : swappedStores [tg] e X.env = pure none := by rfl)
    (h1 : (assignEach [tg] X.env).map (·.2) = [assign tg X.env] := by rfl) : VS X as (.Assign [tg] e pos) (sAsg me g) := PS.imp (ps_asg he hg hs hw h1) fun D σ H ⟨S, fr, f, h, e, q⟩ => by
  obtain ⟨⟨t, S1⟩, e1, e⟩ := Option.bind_eq_some_iff.mp e
  obtain ⟨S2, e2, e⟩ := Option.bind_eq_some_iff.mp e
  cases e
  exact ⟨S, fr, t, S1, h, e1, fun v H' h' => ⟨S1, fr, t, S2, h', e2, fun σ' k h2 => q σ' H' k h2⟩⟩
theorem vs_set (i : Nat) {x : Str} {px : Pos} {me : ME} (hN : X.N.Nodup) (he : VE X e me) (hi : X.N[i]? = some x := by rfl) (hx : Loc X.env.scope x := by first | exact Or.inl rfl | exact Or.inr rfl) (hs : swapsWith e (some (.Name x px)) pos.line X.env = pure false := by rfl)
    (hf : X.fn x = true ∨ X.env.scope.names.lookup x = some .local := by first | exact .inl rfl | exact .inr rfl | assumption) : VS X [i] (.Assign [.Name x px] e pos) (sAsg me (putS i)) := PS.imp (ps_set hN hi hx he hs hf) fun D σ H ⟨S, fr, f, h, e, q⟩ => by
  obtain ⟨⟨t, S1⟩, e1, e⟩ := Option.bind_eq_some_iff.mp e
  obtain ⟨S2, e2, e⟩ := Option.bind_eq_some_iff.mp e
  cases e
  refine ⟨S, fr, t, S1, h, e1, fun v H' h' => ?_⟩
  obtain ⟨hi, rfl⟩ := putS_some e2
  exact q _ H' .set (h'.put hi)
/-- several targets -/
def gVs (K : PySem.W.Frag) (as : List Nat) (g : List T → Sto → Option Sto) : TGs := fun vs σ H Q => ∃ S fr ts S', vs.length = ts.length ∧ AtS K H σ S (vs.zip ts ++ fr) ∧ g ts S = some S' ∧ ∀ σ', Keep as σ σ' → AtS K H σ' S' fr → Q σ' H
theorem PGs.imp {tg : List Expr} {t t' : TGs} (h : PGs X tg t) (i : ∀ v σ H Q, t' v σ H Q → t v σ H Q) : PGs X tg t' := ⟨fun pins s σ H v u Q I r q => h.run pins s σ H v u Q I r (i v σ H Q q)⟩
abbrev VGs (X : Cx) (as : List Nat) (tg : List Expr) (g : List T → Sto → Option Sto) : Prop := PGs X tg (gVs X.K as g)
def gsNil : List T → Sto → Option Sto
  | [], S => some S
  | _, _ => none
def gsCons (g : T → Sto → Option Sto) (r : List T → Sto → Option Sto) : List T → Sto → Option Sto
  | t :: ts, S => (g t S).bind fun S1 => r ts S1
  | [], _ => none
theorem vgs_nil : VGs X [] [] gsNil := PGs.imp pgs_nil fun vs σ H Q ⟨S, fr, ts, S', l, h, e, q⟩ => by
  cases ts with
  | nil =>
    cases e
    cases vs with
    | nil => exact ⟨rfl, q σ .refl h⟩
    | cons _ _ => simp at l
  | cons _ _ => cases e
theorem vgs_cons {g : T → Sto → Option Sto} {r : List T → Sto → Option Sto} (h1 : VG X as e g) (h2 : VGs X bs es r) (hs : (assignEach (e :: es) X.env).map (·.2) = assign e X.env :: (assignEach es X.env).map (·.2) := by rfl) : VGs X (as ++ bs) (e :: es) (gsCons g r) :=
  PGs.imp (pgs_cons h1 h2 hs) fun vs σ H Q ⟨S, fr, ts, S', l, h, e, q⟩ => by
    cases ts with
    | nil => cases e
    | cons t ts =>
      cases vs with
      | nil => simp at l
      | cons v vs =>
        obtain ⟨S1, e1, e2⟩ := Option.bind_eq_some_iff.mp e
        exact ⟨v, vs, rfl, S, vs.zip ts ++ fr, t, S1, h, e1, fun σ1 k1 h3 => ⟨S1, fr, ts, S', Nat.succ.inj l, h3, e2, fun σ2 k2 h4 => q σ2 (k1.trans k2) h4⟩⟩
/-- the children of a tuple -/
def kidsTu : T → Option (List T)
  | .tup ts => some ts
  | .sh (.tup ds) => some (ds.map .sh)
  | _ => none
theorem At.unt {K : PySem.W.Frag} {H : Hp} {ps : Ps} {v : V} {t : T} {ts : List T} (h : At K H ((v, t) :: ps)) (e : kidsTu t = some ts) : ∃ a vs, v = .ref a ∧ SqT K H a vs ∧ vs.length = ts.length ∧ At K H (vs.zip ts ++ ps) := by
  cases t with
  | tup us =>
    have z : us = ts := by simpa [kidsTu] using e
    subst z
    obtain ⟨a, vs, h1, h2, h3, h4⟩ := h.openT
    exact ⟨a, vs, h1, .of h2, h3, h4.at⟩
  | sh d =>
    cases d with
    | tup ds =>
      have z : ds.map T.sh = ts := by simpa [kidsTu] using e
      subst z
      obtain ⟨a, vs, h1, h2, h3, h4⟩ := h.kidsT
      exact ⟨a, vs, h1, h2, by rw [List.length_map]; exact h3, h4⟩
    | _ => cases e
  | _ => cases e
def gTupS (n : Nat) (r : List T → Sto → Option Sto) : T → Sto → Option Sto := fun t S => (kidsTu t).bind fun ts => if ts.length = n then r ts S else none
theorem vg_tup {k : Nat} {n : Nat} {r : List T → Sto → Option Sto} (hc : X.calm = true) (h : VGs X as es r) (hn : (assignEach es X.env).length = n := by rfl) (hst : (assignEach es X.env).findIdx? (·.1) = none := by rfl) : VG X as (.Tuple es k pos) (gTupS n r) :=
  PG.imp (pg_tup hc h hn hst) fun v σ H Q ⟨S, fr, t, S', h, e, q⟩ => by
    obtain ⟨ts, e1, e⟩ := Option.bind_eq_some_iff.mp e
    split at e
    · rename_i hl
      obtain ⟨a, vs, rfl, k1, l1, h1⟩ := h.at1.unt e1
      refine ⟨a, vs, rfl, k1, l1.trans hl, S, fr, ts, S', l1, AtS.of h.1 ?_, e, q⟩
      rw [List.append_assoc]
      exact h1
    · cases e
/-- x[k] = e -/
def sSetI (j : Nat) (mv mk : ME) : MS := fun S => (mv S).bind fun p => match p.2[j]? with
  | some (some _) => (mk p.2).bind fun q => (match q.2[j]?, fz q.1 with
    | some (some (.lst ts)), .int i => (ixN ts.length i).bind fun n => some (.nx (q.2.set j (some (.lst (ts.set n p.1)))))
    | _, _ => none)
  | _ => none
theorem vs_setI (j : Nat) {x : Str} {px ps : Pos} {mv mk : ME} (hv : VE X e mv) (hk : VE X b mk) (ha : ∀ v, assign (.Subscript (.Name x px) b ps) X.env v = (do
      let ov ← holding [v] (eval (.Name x px) X.env)
      let iv ← holding [v, ov] (eval b X.env)
      standAt ps
      holding [v, ov, iv] (setItem ov iv v)
      release [v, ov, iv] []) := by intro _; rfl) (hN : X.N[j]? = some x := by rfl) (hvs : Vis X.env.scope x := by first | exact Or.inl rfl | exact Or.inr (Or.inl rfl) | exact Or.inr (Or.inr rfl)) (hd : (x == ("__debug__" : Str)) = false := by decide)
    (hcd : (x == ("__classdict__" : Str)) = false := by decide) (hs : swapsWithSole [.Subscript (.Name x px) b ps] e pos.line X.env = pure false := by rfl) (hw : swappedStores [.Subscript (.Name x px) b ps] e X.env = pure none := by rfl)
    (h1 : (assignEach [.Subscript (.Name x px) b ps] X.env).map (·.2) = [assign (.Subscript (.Name x px) b ps) X.env] := by rfl) : VS X [] (.Assign [.Subscript (.Name x px) b ps] e pos) (sSetI j mv mk) :=
  PS.imp (ps_asg hv (pg_sub (pe_var hN hvs hd hcd) hk set_list ha) hs hw h1) fun D σ H ⟨S, fr, f, h, e, q⟩ => by
    obtain ⟨⟨t, S1⟩, e1, e⟩ := Option.bind_eq_some_iff.mp e
    simp only at e
    split at e
    · rename_i t1 e0
      obtain ⟨⟨tk, S2⟩, e2, e⟩ := Option.bind_eq_some_iff.mp e
      simp only at e
      split at e
      · rename_i ts i e3 e4
        obtain ⟨n, e5, e⟩ := Option.bind_eq_some_iff.mp e
        cases e
        refine ⟨S, fr, t, S1, h, e1, fun v H1 h1 => ?_⟩
        obtain ⟨o, ho, _⟩ := h1.take e0
        refine ⟨o, ho, S1, (v, t) :: fr, tk, S2, h1, e2, fun u H2 h2 => ?_⟩
        have ru := h2.rep
        rw [e4] at ru
        obtain ⟨o', ho', k⟩ := h2.take e3
        rw [ho] at ho'
        cases ho'
        have k1 : AtS X.K H2 σ (S2.set j none) ((v, t) :: (o, .lst ts) :: fr) := k.sub ⟨[(u, tk)], (List.Perm.swap ..).trans ((List.Perm.swap ..).cons _)⟩
        have hn := (ixN_seq e5).2.1
        obtain ⟨a, _, ra, _⟩ := k1.drop1.at1.open
        subst ra
        obtain ⟨vs, ha, l, k2⟩ := k1.at1.setAt hn
        refine ⟨a, vs, i, n, rfl, ru, ha, by rw [l]; exact e5, ?_⟩
        have k3 := (AtS.of k1.1 k2 : AtS X.K _ σ (S2.set j none) ((.ref a, .lst (ts.set n t)) :: fr)).back ho
        rw [List.set_set] at k3
        exact q σ _ .refl k3
      · cases e
    · cases e
/-- x.append(e) -/
def sApp (j : Nat) (me : ME) : MS := fun S => match S[j]? with
  | some (some (.lst _)) => (me S).bind fun p => (match p.2[j]? with
    | some (some (.lst ts)) => if ts.length < sizeLine then some (.nx (p.2.set j (some (.lst (ts ++ [p.1]))))) else none
    | _ => none)
  | _ => none
theorem vs_append (j : Nat) {x : Str} {px apos cpos : Pos} {me : ME} (he : VE X e me) (hN : X.N[j]? = some x := by rfl) (hvs : Vis X.env.scope x := by first | exact Or.inl rfl | exact Or.inr (Or.inl rfl) | exact Or.inr (Or.inr rfl)) (hd : (x == ("__debug__" : Str)) = false := by decide)
    (hcd : (x == ("__classdict__" : Str)) = false := by decide) (hs2 : swapsWith (.Call (.Attribute (.Name x px) "append" apos) [e] [] cpos) none pos.line X.env = pure false := by rfl)
    (hbase : attributeBase (.Name x px) "append" X.env (eval (.Name x px) X.env) = eval (.Name x px) X.env := by rfl)
    (hfew : ((backTo cpos (starEach [e] X.env)).all (fun x => !x.1) && (backToKw cpos (keywordEach [] X.env)).all (fun x => x.1.isSome)
      && decide (([e] : List Expr).length + ([] : List Keyword).length + (if ([] : List Keyword).isEmpty then 0 else 1) < 30)) = true := by rfl)
    (hline : (apos.endLine == cpos.line) = true := by rfl) (hs : starEach [e] X.env = (false, eval e X.env) :: starEach [] X.env := by rfl) (hplain : (backTo cpos (starEach [] X.env)).any (·.1) = false := by rfl) :
    VS X [] (.Expr (.Call (.Attribute (.Name x px) "append" apos) [e] [] cpos) pos) (sApp j me) :=
  PS.imp (ps_expr (pe_bm PySem.F.plainAttrs_list PySem.F.slot_list_append PySem.F.type_list_append mt_append (pe_var hN hvs hd hcd) (pa_cons he pa_nil hs) hbase hfew hline hs hplain) hs2) fun D σ H ⟨S, fr, f, h, e, q⟩ => by
    unfold sApp at e
    split at e
    · rename_i ts0 e0
      obtain ⟨⟨t, S1⟩, e1, e⟩ := Option.bind_eq_some_iff.mp e
      simp only at e
      split at e
      · rename_i ts e2
        split at e
        · rename_i hl
          cases e
          obtain ⟨o, ho, k0⟩ := h.take e0
          obtain ⟨a0, vs0, ra0, ha0, _⟩ := k0.at1.open
          subst ra0
          refine ⟨.ref a0, ho, .inl ⟨rfl, vs0, .of ha0⟩, S, fr, t, S1, h, e1, fun v H1 h1 => ?_⟩
          obtain ⟨o', ho', k⟩ := h1.take e2
          rw [ho] at ho'
          cases ho'
          obtain ⟨vs, ha, l, k2⟩ := k.two.at1.append
          refine ⟨a0, vs, v, rfl, rfl, ha, by rw [l]; exact hl, ?_⟩
          have k3 := (AtS.of k.1 k2 : AtS X.K _ σ (S1.set j none) ((.ref a0, .lst (ts ++ [t])) :: fr)).back ho
          rw [List.set_set] at k3
          exact q σ _ .refl k3
        · cases e
      · cases e
    · cases e
/-- x += e (ints; texts) -/
def sAug (g : D → D → Option D) (j : Nat) (me : ME) : MS := fun S => match S[j]? with
  | some (some (.sh d0)) => (me S).bind fun p => (g d0 (fz p.1)).bind fun d => if sc d = true then (putS j (.sh d) p.2).bind fun S2 => some (.nx S2) else none
  | _ => none
def rAug (K : PySem.W.Frag) (g : D → D → Option D) : TIp := fun x y H Q => ∃ dx dy d, Rep K H x dx ∧ Rep K H y dy ∧ g dx dy = some d ∧ ∀ z, Rep K H z d → Q z H
theorem vs_aug (j : Nat) {x : Str} {px : Pos} {op : Operator} {g : D → D → Option D} {me : ME} (hN : X.N.Nodup) (ho : PIp X op (rAug X.K g)) (he : VE X e me) (hi : X.N[j]? = some x := by rfl) (hx : Loc X.env.scope x := by first | exact Or.inl rfl | exact Or.inr rfl)
    (hf : X.fn x = true ∨ X.env.scope.names.lookup x = some .local := by first | exact .inl rfl | exact .inr rfl | assumption) (hsc0 : ∀ d0 d d1, g d0 d = some d1 → sc d0 = true := by intro d0 d d1 h; cases d0 <;> cases d <;> first | rfl | cases h) : VS X [j] (.AugAssign (.Name x px) op e pos) (sAug g j me) :=
  PS.imp (ps_aug hN hi hx he ho hf) fun D σ H ⟨S, fr, f, h, e, q⟩ => by
    unfold sAug at e
    split at e
    · rename_i d0 e0
      obtain ⟨⟨t, S1⟩, e1, e⟩ := Option.bind_eq_some_iff.mp e
      obtain ⟨d, e2, e⟩ := Option.bind_eq_some_iff.mp e
      split at e
      · rename_i hs
        obtain ⟨S2, e3, e⟩ := Option.bind_eq_some_iff.mp e
        cases e
        obtain ⟨v0, hv0, r0⟩ := h.see e0
        refine ⟨v0, hv0, S, fr, t, S1, h, e1, fun u H1 h1 => ?_⟩
        refine ⟨d0, fz t, d, scRep (hsc0 _ _ _ e2) r0 _, h1.rep, e2, fun z rz => ?_⟩
        obtain ⟨hi, rfl⟩ := putS_some e3
        exact q _ H1 .set ((h1.drop1.new (scRep hs rz)).put hi)
      · cases e
    · cases e
theorem oa_add : PIp X .Add (rAug X.K fun x y => match x, y with | .int i, .int j => some (.int (i + j)) | _, _ => none) := by
  intro pins s σ H x y v u Q I rx ry ⟨dx, dy, d, r1, r2, e, q⟩
  cases dx with
  | int i =>
    cases dy with
    | int j =>
      have z : D.int (i + j) = d := by simpa using e
      subst z
      rw [show x = .int i from r1] at rx
      rw [show y = .int j from r2] at ry
      exact ip_add pins s σ H _ _ v u Q I rx ry ⟨i, j, rfl, rfl, q _ rfl⟩
    | _ => cases e
  | _ => cases dy <;> cases e

/-! ### loops -/
def mWhile (t : MT) (b : MS) : Nat → MS
  | 0, _ => none
  | n + 1, S => (t S).bind fun x => if x.1 = true then (b x.2).bind fun f => (match f with
    | .nx S2 => mWhile t b n S2
    | .ct S2 => mWhile t b n S2
    | .bk S2 => some (.nx S2)
    | .rt r S2 => some (.rt r S2)) else some (.nx x.2)
theorem Keep.add {as : List Nat} {σ σ1 σ2 : St} (h : Keep as σ σ1) (k : Keep as σ1 σ2) : Keep as σ σ2 := ⟨k.1.trans h.1, fun i hi => (k.2 i hi).trans (h.2 i hi)⟩
theorem vs_while {t : MT} {n : Nat} (hp : PassesOwn (model X.prog X.w) X.A X.env X.xe) (hc : VT X c t) (hb : VSs X as sts m) : VS X as (.While c sts [] pos) (mWhile t m n) := PS.imp (ps_while hp hc hb) fun D σ H ⟨S, fr, f, h, e, q⟩ => by
  refine ⟨fun k σ1 H1 => ∃ S1, AtS X.K H1 σ1 S1 fr ∧ Keep as σ σ1 ∧ mWhile t m k S1 = some f, ⟨n, S, h, .refl, e⟩, ?_⟩
  rintro k σ1 H1 ⟨S1, h1, k1, e1⟩
  cases k with
  | zero => cases e1
  | succ k =>
    obtain ⟨⟨x, S2⟩, e2, e3⟩ := Option.bind_eq_some_iff.mp e1
    refine ⟨S1, fr, x, S2, h1, e2, fun H2 h2 => ?_⟩
    cases x with
    | true =>
      obtain ⟨f1, e4, e5⟩ := Option.bind_eq_some_iff.mp (show ((m S2).bind _) = some f by simpa using e3)
      refine iteT ⟨fun σ3 H3 => ∃ S3, AtS X.K H3 σ3 S3 fr ∧ Keep as σ σ3 ∧ mWhile t m k S3 = some f, fun σ3 H3 hn => ⟨k, Nat.lt_succ_self k, hn⟩, S2, fr, f1, h2, e4, ?_⟩
      cases f1 with
      | nx S3 => exact fun σ3 H3 k3 h3 => ⟨S3, h3, k1.add k3, e5⟩
      | ct S3 => exact fun σ3 H3 k3 h3 => ⟨S3, h3, k1.add k3, e5⟩
      | bk S3 =>
        cases e5
        exact fun σ3 H3 k3 h3 => q σ3 H3 (k1.add k3) h3
      | rt r S3 =>
        cases e5
        exact fun σ3 v H3 k3 h3 => q σ3 v H3 (k1.add k3) h3
    | false =>
      have z : some (Fl.nx S2) = some f := by simpa using e3
      cases z
      exact iteF (q σ1 H2 k1 h2)
/-- what is walked: its items; what is held for it meanwhile -/
structure Feeds (K : PySem.W.Frag) (J : It) (hold : Ps) (ds : List D) : Prop where
  go : ∀ (H : Hp) (ps : Ps), At K H (hold ++ ps) → ∀ i d, ds[i]? = some d → J.go i H ∧ ∀ x H', J.yld i H x H' → H' = H ∧ At K H ((x, .sh d) :: (hold ++ ps))
  stop : ∀ (H : Hp) (ps : Ps), At K H (hold ++ ps) → ∀ i, ds.length ≤ i → J.stop i H
abbrev MI := Sto → Option (List D × Sto)
def iV (K : PySem.W.Frag) (mi : MI) : TI := fun σ H R => ∃ S fr ds S', AtS K H σ S fr ∧ mi S = some (ds, S') ∧ ∀ J H' hold, Feeds K J hold ds → AtS K H' σ S' (hold ++ fr) → R J H'
theorem PI.imp {tg it : Expr} {t t' : TI} (h : PI X tg it t) (i : ∀ σ H R, t' σ H R → t σ H R) : PI X tg it t' := ⟨fun pins s σ H R I q => h.run pins s σ H R I (i σ H R q)⟩
abbrev VI (X : Cx) (tg it : Expr) (mi : MI) : Prop := PI X tg it (iV X.K mi)
theorem feeds_list {K : PySem.W.Frag} {a : Addr} {ds : List D} : Feeds K (Itl K a) [(.ref a, .sh (.lst ds))] ds where
  go := fun H ps h i d hi => by
    obtain ⟨G, fp, s, ⟨f, g, rfl, ⟨rfl, b, ws, e10, q2, rs2⟩, o2⟩, n, e0, x0⟩ := (h : At K H ((.ref a, .sh (.lst ds)) :: ps))
    cases e10
    obtain ⟨u, e11, r2⟩ := rs2.get hi
    refine ⟨⟨ws, u, s.seq q2, e11⟩, fun x H' ⟨e6, y⟩ => ⟨e6, ?_⟩⟩
    have e12 := y ws (s.seq q2)
    rw [e11] at e12
    cases e12
    exact ⟨G, _, s, ⟨[], _, rfl, ⟨rfl, r2⟩, [], g, rfl, ⟨rfl, _, ws, rfl, q2, rs2⟩, o2⟩, n, e0, x0⟩
  stop := fun H ps h i hi => by
    obtain ⟨a', vs, e, k, l, h2⟩ := (h : At K H ((.ref a, .sh (.lst ds)) :: ps)).kids
    cases e
    exact ⟨vs, k, by rw [l]; exact hi⟩
theorem feeds_tup {K : PySem.W.Frag} {a : Addr} {ds : List D} : Feeds K (Itt K a) [(.ref a, .sh (.tup ds))] ds where
  go := fun H ps h i d hi => by
    obtain ⟨G, fp, s, ⟨f, g, rfl, ⟨rfl, b, ws, e10, q2, rs2⟩, o2⟩, n, e0, x0⟩ := (h : At K H ((.ref a, .sh (.tup ds)) :: ps))
    cases e10
    obtain ⟨u, e11, r2⟩ := rs2.get hi
    refine ⟨⟨ws, u, Same.sqT s q2, e11⟩, fun x H' ⟨e6, y⟩ => ⟨e6, ?_⟩⟩
    have e12 := y ws (Same.sqT s q2)
    rw [e11] at e12
    cases e12
    exact ⟨G, _, s, ⟨[], _, rfl, ⟨rfl, r2⟩, [], g, rfl, ⟨rfl, _, ws, rfl, q2, rs2⟩, o2⟩, n, e0, x0⟩
  stop := fun H ps h i hi => by
    obtain ⟨a', vs, e, k, l, h2⟩ := (h : At K H ((.ref a, .sh (.tup ds)) :: ps)).kidsT
    cases e
    exact ⟨vs, k, by rw [l]; exact hi⟩
/-- over a list -/
def iList' (me : ME) : MI := fun S => (me S).bind fun p => match fz p.1 with
  | .lst ds => some (ds, p.2)
  | _ => none
theorem vi_list {tg : Expr} {me : ME} (he : VE X e me) : VI X tg e (iList' me) := PI.imp (pi_list he) fun σ H R ⟨S, fr, ds, S', h, e, q⟩ => by
  obtain ⟨⟨t, S1⟩, e1, e⟩ := Option.bind_eq_some_iff.mp e
  refine ⟨S, fr, t, S1, h, e1, fun v H1 h1 => ?_⟩
  simp only at e
  split at e
  · rename_i ds' e2
    obtain ⟨rfl, rfl⟩ : ds' = ds ∧ S1 = S' := by simpa using e
    have h2 := h1.freeze
    rw [e2] at h2
    obtain ⟨a, vs, rfl, k, l, _⟩ := h2.at1.kids
    exact ⟨a, rfl, ⟨vs, k⟩, q _ H1 [(.ref a, .sh (.lst ds'))] feeds_list h2⟩
  · cases e
/-- over a tuple -/
def iTup' (me : ME) : MI := fun S => (me S).bind fun p => match fz p.1 with
  | .tup ds => some (ds, p.2)
  | _ => none
theorem vi_tup {tg : Expr} {me : ME} (he : VE X e me) : VI X tg e (iTup' me) := PI.imp (pi_tup he) fun σ H R ⟨S, fr, ds, S', h, e, q⟩ => by
  obtain ⟨⟨t, S1⟩, e1, e⟩ := Option.bind_eq_some_iff.mp e
  refine ⟨S, fr, t, S1, h, e1, fun v H1 h1 => ?_⟩
  simp only at e
  split at e
  · rename_i ds' e2
    obtain ⟨rfl, rfl⟩ : ds' = ds ∧ S1 = S' := by simpa using e
    have h2 := h1.freeze
    rw [e2] at h2
    obtain ⟨a, vs, rfl, k, l, _⟩ := h2.at1.kidsT
    exact ⟨a, rfl, ⟨vs, k⟩, q _ H1 [(.ref a, .sh (.tup ds'))] feeds_tup h2⟩
  · cases e
/-- over a text -/
def signs (x : Str) : List D := x.cps.toList.map fun c => .str ⟨#[c]⟩
theorem feeds_str {K : PySem.W.Frag} {x : Str} : Feeds K (Its x) [] (signs x) where
  go := fun H ps h i d hi => by
    unfold signs at hi
    rw [List.getElem?_map] at hi
    obtain ⟨c, e1, rfl⟩ := Option.map_eq_some_iff.mp hi
    have e2 : x.cps[i]? = some c := by rw [← Array.getElem?_toList]; exact e1
    have hlt : i < x.cps.size := (Array.getElem?_eq_some_iff.mp e2).1
    refine ⟨hlt, fun v H' ⟨e6, c', e7, e8⟩ => ⟨e6, ?_⟩⟩
    rw [e2] at e7
    cases e7
    subst e8
    exact h.new fun _ => rfl
  stop := fun H ps h i hi => by
    show x.cps.size ≤ i
    unfold signs at hi
    rw [List.length_map, Array.length_toList] at hi
    exact hi
def iStr' (m : MP) : MI := fun S => (m S).bind fun d => match d with
  | .str x => some (signs x, S)
  | _ => none
theorem vi_str {tg : Expr} {m : MP} (he : VP X e m) : VI X tg e (iStr' m) := PI.imp (pi_str he) fun σ H R ⟨S, fr, ds, S', h, e, q⟩ => by
  obtain ⟨d, e1, e⟩ := Option.bind_eq_some_iff.mp e
  refine ⟨S, fr, d, h, e1, fun v r => ?_⟩
  split at e
  · rename_i x
    obtain ⟨rfl, rfl⟩ : signs x = ds ∧ S = S' := by simpa using e
    exact ⟨x, r, q _ H [] feeds_str h⟩
  · cases e
/-- over a range -/
def rngD (lo : Int) (n : Nat) : List D := (List.range n).map fun i => .int (lo + (i : Nat))
theorem feeds_rng {K : PySem.W.Frag} {lo : Int} {n : Nat} : Feeds K (Itr lo n) [] (rngD lo n) where
  go := fun H ps h i d hi => by
    unfold rngD at hi
    rw [List.getElem?_map] at hi
    obtain ⟨j, e1, rfl⟩ := Option.map_eq_some_iff.mp hi
    obtain ⟨hlt, e2⟩ := List.getElem?_eq_some_iff.mp e1
    rw [List.getElem_range] at e2
    subst e2
    refine ⟨(show i < n by simpa using hlt), fun v H' ⟨e6, e7⟩ => ⟨e6, ?_⟩⟩
    subst e7
    exact h.new fun _ => rfl
  stop := fun H ps h i hi => by
    show n ≤ i
    unfold rngD at hi
    rw [List.length_map, List.length_range] at hi
    exact hi
def near (i : Int) : Bool := decide (-(2 ^ 62) ≤ i ∧ i < 2 ^ 62)
def iRng1' (m : Sto → Option (List D)) : MI := fun S => (m S).bind fun ds => match ds with
  | [.int j] => if near j = true then some (rngD 0 j.toNat, S) else none
  | _ => none
def iRng2' (m : Sto → Option (List D)) : MI := fun S => (m S).bind fun ds => match ds with
  | [.int i, .int j] => if (near i && near j) = true then some (rngD i (j - i).toNat, S) else none
  | _ => none
theorem vi_range1 {tg : Expr} {p : Pos} {m : Sto → Option (List D)} (hm : X.mg "range" = none) (ha : VPA X [a] m) (hg : Gl X "range" := by rfl) (hs : starEach [a] X.env = [(false, eval a X.env)] := by rfl) : VI X tg (.Call (.Name "range" p) [a] [] pos) (iRng1' m) := PI.imp (pi_range1 hg hm ha hs) fun σ H R ⟨S, fr, ds, S', h, e, q⟩ => by
  obtain ⟨xs, e1, e⟩ := Option.bind_eq_some_iff.mp e
  refine ⟨S, fr, xs, h, e1, fun vs r => ?_⟩
  split at e
  · rename_i j
    split at e
    · rename_i hn
      obtain ⟨rfl, rfl⟩ : rngD 0 j.toNat = ds ∧ S = S' := by simpa using e
      obtain ⟨v, rfl, r1⟩ := r.one
      have z : v = .int j := r1
      subst z
      have hn := of_decide_eq_true hn
      exact ⟨j, rfl, hn.1, hn.2, q _ H [] feeds_rng h⟩
    · cases e
  · cases e
theorem vi_range2 {tg : Expr} {p : Pos} {m : Sto → Option (List D)} (hm : X.mg "range" = none) (ha : VPA X [a, b] m) (hg : Gl X "range" := by rfl) (hs : starEach [a, b] X.env = [(false, eval a X.env), (false, eval b X.env)] := by rfl) (hs2 : starEach [b] X.env = [(false, eval b X.env)] := by rfl) :
    VI X tg (.Call (.Name "range" p) [a, b] [] pos) (iRng2' m) := PI.imp (pi_range2 hg hm ha hs hs2) fun σ H R ⟨S, fr, ds, S', h, e, q⟩ => by
  obtain ⟨xs, e1, e⟩ := Option.bind_eq_some_iff.mp e
  refine ⟨S, fr, xs, h, e1, fun vs r => ?_⟩
  split at e
  · rename_i i j
    split at e
    · rename_i hn
      obtain ⟨rfl, rfl⟩ : rngD i (j - i).toNat = ds ∧ S = S' := by simpa using e
      obtain ⟨v, u, rfl, r1, r2⟩ := r.two
      have z : v = .int i := r1
      subst z
      have z : u = .int j := r2
      subst z
      obtain ⟨h1, h2⟩ := Bool.and_eq_true_iff.mp hn
      have h1 := of_decide_eq_true h1
      have h2 := of_decide_eq_true h2
      exact ⟨i, j, rfl, ⟨h1.1, h1.2, h2.1, h2.2⟩, q _ H [] feeds_rng h⟩
    · cases e
  · cases e

/-- the loop -/
def loopF (g : T → Sto → Option Sto) (b : MS) : List D → MS
  | [], S => some (.nx S)
  | d :: ds, S => (g (.sh d) S).bind fun S1 => (b S1).bind fun f => match f with
    | .nx S2 => loopF g b ds S2
    | .ct S2 => loopF g b ds S2
    | .bk S2 => some (.nx S2)
    | .rt r S2 => some (.rt r S2)
def mFor (mi : MI) (g : T → Sto → Option Sto) (b : MS) : MS := fun S => (mi S).bind fun p => loopF g b p.1 p.2
theorem FlOk.hold {K : PySem.W.Frag} {as : List Nat} {D : Ends} {σ : St} {fr : Ps} {f : Fl} (hold : Ps) (h : FlOk K as D σ fr f) : FlOk K as D σ (hold ++ fr) f := by
  cases f with
  | nx S => exact fun σ' H' k h' => h σ' H' k (h'.drops hold)
  | bk S => exact fun σ' H' k h' => h σ' H' k (h'.drops hold)
  | ct S => exact fun σ' H' k h' => h σ' H' k (h'.drops hold)
  | rt t S => exact fun σ' v H' k h' => h σ' v H' k (h'.sub ⟨hold, (List.perm_middle (l₁ := hold)).symm⟩)
theorem vs_for {tg it : Expr} {mi : MI} {g : T → Sto → Option Sto} (hp : PassesOwn (model X.prog X.w) X.A X.env X.xe) (hc : X.calm = true) (hi : VI X tg it mi) (hg : VG X as tg g) (hb : VSs X bs sts m) (hs : ∀ x, foldedSetIterable it X.env x = pure x := by intro _; rfl) :
    VS X (as ++ bs) (.For tg it sts [] pos) (mFor mi g m) := PS.imp (ps_for hp hc hi hg hb hs) fun D σ H ⟨S, fr, f, h, e, q⟩ => by
  obtain ⟨⟨ds, S1⟩, e1, e2⟩ := Option.bind_eq_some_iff.mp e
  refine ⟨S, fr, ds, S1, h, e1, fun J H1 hold F h1 => ?_⟩
  refine ⟨fun i k σ1 H1 => ∃ S1, k = ds.length - i ∧ i ≤ ds.length ∧ AtS X.K H1 σ1 S1 (hold ++ fr) ∧ Keep (as ++ bs) σ σ1 ∧ loopF g m (ds.drop i) S1 = some f, ⟨ds.length, S1, by simp, Nat.zero_le _, h1, .refl, e2⟩, ?_⟩
  rintro i k σ1 H1 ⟨S2, rfl, hi, h2, k2, e3⟩
  have hat : At X.K H1 (hold ++ (fr ++ prs σ1 S2)) := by
    have z := h2.front
    rw [List.append_assoc] at z
    exact z
  by_cases hlt : i < ds.length
  · have hd : ds[i]? = some ds[i] := List.getElem?_eq_getElem hlt
    obtain ⟨go, yl⟩ := F.go H1 _ hat i _ hd
    rw [List.drop_eq_getElem_cons hlt] at e3
    obtain ⟨S3, e4, e5⟩ := Option.bind_eq_some_iff.mp e3
    obtain ⟨f1, e6, e7⟩ := Option.bind_eq_some_iff.mp e5
    refine .inr ⟨go, fun σ3 H3 => ∃ S3, AtS X.K H3 σ3 S3 (hold ++ fr) ∧ Keep (as ++ bs) σ σ3 ∧ loopF g m (ds.drop (i + 1)) S3 = some f, fun σ3 H3 ⟨S4, a1, a2, a3⟩ => ⟨ds.length - (i + 1), by omega, S4, rfl, hlt, a1, a2, a3⟩, fun x H' y => ?_⟩
    obtain ⟨rfl, h3⟩ := yl x H' y
    have h4 : AtS X.K H' σ1 S2 ((x, .sh ds[i]) :: (hold ++ fr)) := AtS.of h2.1 (by
      have z : (x, T.sh ds[i]) :: (hold ++ fr) ++ prs σ1 S2 = (x, T.sh ds[i]) :: (hold ++ (fr ++ prs σ1 S2)) := by simp
      rw [z]
      exact h3)
    refine ⟨S2, hold ++ fr, _, S3, h4, e4, fun σ2 k3 h5 => ⟨S3, hold ++ fr, f1, h5, e6, ?_⟩⟩
    have kk : ∀ {σ4 : St}, Keep bs σ2 σ4 → Keep (as ++ bs) σ σ4 := fun k4 => k2.add (k3.trans k4)
    cases f1 with
    | nx S4 => exact fun σ4 H4 k4 h6 => ⟨S4, h6, kk k4, e7⟩
    | ct S4 => exact fun σ4 H4 k4 h6 => ⟨S4, h6, kk k4, e7⟩
    | bk S4 =>
      cases e7
      exact fun σ4 H4 k4 h6 => FlOk.hold (f := .nx S4) hold q σ4 H4 (kk k4) h6
    | rt r S4 =>
      cases e7
      exact fun σ4 v H4 k4 h6 => FlOk.hold (f := .rt r S4) hold q σ4 v H4 (kk k4) h6
  · have e8 : i = ds.length := by omega
    subst e8
    rw [List.drop_length] at e3
    cases e3
    exact .inl ⟨F.stop H1 _ hat _ (Nat.le_refl _), FlOk.hold (f := .nx S2) hold q σ1 H1 k2 h2⟩
end

/-! ### comprehensions -/
section
variable {K : PySem.W.Frag} {H : Hp} {σ : St} {S : Sto} {fr : Ps}
def wipeS (S : Sto) : List Nat → Sto
  | [] => S
  | v :: vs => (wipeS S vs).set v none
theorem prs_wipe1 : ∀ {σ : St} {S : Sto} (i : Nat), Fit σ S → Sub (prs (σ.set i none) (S.set i none)) (prs σ S) ∧ Fit (σ.set i none) (S.set i none)
  | [], [], i, f => ⟨Sub.refl, f⟩
  | some w :: σ, some u :: S, 0, f => ⟨Sub.refl.skip, f⟩
  | some w :: σ, none :: S, 0, f => ⟨Sub.refl, f⟩
  | none :: σ, none :: S, 0, f => ⟨Sub.refl, f⟩
  | some w :: σ, some u :: S, i + 1, f => by
    obtain ⟨h1, h2⟩ := prs_wipe1 (σ := σ) (S := S) i f
    exact ⟨h1.cons, h2⟩
  | some w :: σ, none :: S, i + 1, f => prs_wipe1 (σ := σ) (S := S) i f
  | none :: σ, none :: S, i + 1, f => prs_wipe1 (σ := σ) (S := S) i f
  | none :: _, some _ :: _, _, f => f.elim
  | [], _ :: _, _, f => f.elim
  | some _ :: _, [], _, f => f.elim
  | none :: _, [], _, f => f.elim
theorem AtS.wipe (h : AtS K H σ S fr) : ∀ vs : List Nat, AtS K H (L2.wipe σ vs) (wipeS S vs) fr
  | [] => h
  | v :: vs => by
    have k := AtS.wipe h vs
    obtain ⟨s, f⟩ := prs_wipe1 v k.1
    exact ⟨f, k.2.sub (s.append_right fr)⟩
/-- what is held in the wiped frame is held in the frame -/
theorem prs_unwipe1 : ∀ {σ : St} {S : Sto} (i : Nat), Fit (σ.set i none) (S.set i none) → prs (σ.set i none) (S.set i none) = prs σ (S.set i none) ∧ Fit σ (S.set i none)
  | [], [], i, f => ⟨rfl, f⟩
  | w :: σ, u :: S, 0, f => by
    cases w <;> exact ⟨rfl, f⟩
  | w :: σ, u :: S, i + 1, f => by
    cases w with
    | none =>
      cases u with
      | none => exact prs_unwipe1 (σ := σ) (S := S) i f
      | some u => exact f.elim
    | some w =>
      cases u with
      | none => exact prs_unwipe1 (σ := σ) (S := S) i f
      | some u =>
        obtain ⟨h1, h2⟩ := prs_unwipe1 (σ := σ) (S := S) i f
        exact ⟨congrArg ((w, u) :: ·) h1, h2⟩
  | [], _ :: _, 0, f => f.elim
  | [], _ :: _, _ + 1, f => f.elim
  | none :: _, [], 0, f => f.elim
  | some _ :: _, [], 0, f => f.elim
  | none :: _, [], _ + 1, f => f.elim
  | some _ :: _, [], _ + 1, f => f.elim
theorem AtS.unwipe : ∀ {vs : List Nat} {σ : St} {S : Sto}, AtS K H (L2.wipe σ vs) (wipeS S vs) fr → AtS K H σ (wipeS S vs) fr := by
  intro vs
  induction vs with
  | nil => exact fun h => h
  | cons v vs ih =>
    intro σ S h
    obtain ⟨f, a⟩ := h
    obtain ⟨e, f2⟩ := prs_unwipe1 (σ := L2.wipe σ vs) (S := wipeS S vs) v f
    have a2 : At K H (prs (L2.wipe σ vs) ((wipeS S vs).set v none) ++ fr) := by
      rw [← e]
      exact a
    -- move the store of v inwards
    have comm : ∀ (vs : List Nat) (S : Sto), (wipeS S vs).set v none = wipeS (S.set v none) vs := by
      intro vs
      induction vs with
      | nil => exact fun _ => rfl
      | cons u us ih2 =>
        intro S
        show ((wipeS S us).set u none).set v none = (wipeS (S.set v none) us).set u none
        rw [← ih2]
        by_cases huv : u = v
        · rw [huv]
        · rw [List.set_comm _ _ huv]
    have h3 : AtS K H (L2.wipe σ vs) (wipeS (S.set v none) vs) fr := by
      rw [← comm]
      exact ⟨f2, a2⟩
    have h4 := ih h3
    show AtS K H σ ((wipeS S vs).set v none) fr
    rw [comm]
    exact h4
end
section
variable {X : Cx} {e a b c : Expr} {es : List Expr} {pos : Pos}
def lcGo (g : T → Sto → Option Sto) (tt : MT) (te : ME) (own : List Nat) : List D → Sto → List T → Option (List T × Sto)
  | [], S, acc => some (acc, S)
  | d :: ds, S, acc => (g (.sh d) S).bind fun S1 => (tt S1).bind fun q => if q.1 = true then (te q.2).bind fun r => if acc.length < sizeLine then lcGo g tt te own ds (wipeS r.2 own) (acc ++ [r.1]) else none
    else lcGo g tt te own ds (wipeS q.2 own) acc
def eLc (mi : MI) (g : T → Sto → Option Sto) (tt : MT) (te : ME) (own : List Nat) : ME := fun S => (mi S).bind fun p => (lcGo g tt te own p.1 (wipeS p.2 own) []).bind fun r => some (.lst r.1, r.2)
def qYes : MT := fun S => some (true, S)
abbrev VTs (X : Cx) (ifs : List Expr) (m : MT) : Prop := PTs X ifs (tVT X.K m)
theorem PTs.imp {e : List Expr} {t t' : TT} (h : PTs X e t) (i : ∀ σ H Q, t' σ H Q → t σ H Q) : PTs X e t' := ⟨fun pins s σ H Q I q => h.run pins s σ H Q I (i σ H Q q)⟩
theorem vts_nil : VTs X [] qYes := PTs.imp pts_nil fun σ H Q ⟨S, fr, b, S', h, e, q⟩ => by
  cases e
  exact q H h
theorem vts_one {m : MT} (h : VT X c m) : VTs X [c] m := pts_one h
theorem lc_imp {mi : MI} {g : T → Sto → Option Sto} {tt : MT} {te : ME} {as own : List Nat} {σ : St} {H : Hp} {Q : VK} (hw : ∀ i ∈ as, i ∈ own) (h : tV X.K (eLc mi g tt te own) σ H Q) : tLc (iV X.K mi) (gV X.K as g) (tVT X.K tt) (tV X.K te) own σ H Q := by
  obtain ⟨S, fr, t, S', h, e, q⟩ := h
  obtain ⟨⟨ds, S1⟩, e1, e⟩ := Option.bind_eq_some_iff.mp e
  obtain ⟨⟨out, S2⟩, e2, e⟩ := Option.bind_eq_some_iff.mp e
  obtain ⟨rfl, rfl⟩ : T.lst out = t ∧ S2 = S' := by simpa using e
  refine ⟨S, fr, ds, S1, h, e1, fun J H1 hold F h1 D hD => ?_⟩
  -- the state between two turns
  refine ⟨fun i k H2 => ∃ S3 acc, k = ds.length - i ∧ i ≤ ds.length ∧ AtS X.K H2 (L2.wipe σ own) (wipeS S3 own) ((.ref D, .lst acc) :: (hold ++ fr)) ∧ lcGo g tt te own (ds.drop i) (wipeS S3 own) acc = some (out, S2), ⟨ds.length, S1, [], by simp, Nat.zero_le _, ?_, e2⟩, ?_⟩
  · have k := AtS.wipe (AtS.of h1.1 (At.newL (vs := []) (ts := []) h1.front rfl hD) : AtS X.K _ σ S1 ((.ref D, .lst []) :: (hold ++ fr))) own
    exact k
  · rintro i k H2 ⟨S3, acc, rfl, hi, h2, e3⟩
    have hat : At X.K H2 (hold ++ (fr ++ ((.ref D, .lst acc) :: prs (L2.wipe σ own) (wipeS S3 own)))) := by
      refine h2.front.perm ?_
      have z : (V.ref D, T.lst acc) :: (hold ++ fr) ++ prs (L2.wipe σ own) (wipeS S3 own) = (V.ref D, T.lst acc) :: ((hold ++ fr) ++ prs (L2.wipe σ own) (wipeS S3 own)) := rfl
      rw [z, ← List.append_assoc]
      exact List.perm_middle.symm
    by_cases hlt : i < ds.length
    · have hd : ds[i]? = some ds[i] := List.getElem?_eq_getElem hlt
      obtain ⟨go, yl⟩ := F.go H2 _ hat i _ hd
      rw [List.drop_eq_getElem_cons hlt] at e3
      obtain ⟨S4, e4, e5⟩ := Option.bind_eq_some_iff.mp e3
      obtain ⟨⟨b, S5⟩, e6, e7⟩ := Option.bind_eq_some_iff.mp e5
      refine .inr ⟨go, fun H3 => ∃ S6 acc', AtS X.K H3 (L2.wipe σ own) (wipeS S6 own) ((.ref D, .lst acc') :: (hold ++ fr)) ∧ lcGo g tt te own (ds.drop (i + 1)) (wipeS S6 own) acc' = some (out, S2),
        fun H3 ⟨S6, acc', a1, a2⟩ => ⟨ds.length - (i + 1), by omega, S6, acc', rfl, hlt, a1, a2⟩, fun x H' y => ?_⟩
      obtain ⟨rfl, h3⟩ := yl x H' y
      have h4 : AtS X.K H' (L2.wipe σ own) (wipeS S3 own) ((x, .sh ds[i]) :: (.ref D, .lst acc) :: (hold ++ fr)) := AtS.of h2.1 (by
        refine h3.perm ?_
        have z : hold ++ (fr ++ (V.ref D, T.lst acc) :: prs (L2.wipe σ own) (wipeS S3 own)) = (hold ++ fr) ++ (V.ref D, T.lst acc) :: prs (L2.wipe σ own) (wipeS S3 own) := by simp
        rw [z]
        exact (List.perm_middle).cons _)
      refine ⟨wipeS S3 own, (.ref D, .lst acc) :: (hold ++ fr), _, S4, h4, e4, fun σ2 k3 h5 => ?_⟩
      have ew : L2.wipe σ2 own = L2.wipe σ own := by
        have wl : ∀ (vs : List Nat) (τ : St), (L2.wipe τ vs).length = τ.length := fun vs τ => wipe_length τ vs
        apply List.ext_getElem?
        intro j
        have wm : ∀ (vs : List Nat) (τ : St), j ∈ vs → (L2.wipe τ vs)[j]? = if j < τ.length then some none else none := by
          intro vs
          induction vs with
          | nil => intro τ hj; cases hj
          | cons u us ih =>
            intro τ hj
            show ((L2.wipe τ us).set u none)[j]? = _
            rw [List.getElem?_set, wl]
            by_cases huj : u = j
            · rw [if_pos huj, huj]
            · rw [if_neg huj]
              rcases List.mem_cons.mp hj with z | z
              · exact absurd z.symm huj
              · exact ih τ z
        have wn : ∀ (vs : List Nat) (τ : St), j ∉ vs → (L2.wipe τ vs)[j]? = τ[j]? := by
          intro vs
          induction vs with
          | nil => intro τ _; rfl
          | cons u us ih =>
            intro τ hj
            show ((L2.wipe τ us).set u none)[j]? = _
            rw [List.getElem?_set_ne fun z => hj (by simp [z])]
            exact ih τ fun z => hj (List.mem_cons_of_mem _ z)
        have hl2 : σ2.length = σ.length := k3.1.trans (wl own σ)
        by_cases hj : j ∈ own
        · rw [wm own σ2 hj, wm own σ hj, hl2]
        · rw [wn own σ2 hj, wn own σ hj]
          have z := k3.2 j fun z => hj (hw j z)
          rw [z]
          exact wn own σ hj
      refine ⟨ew, S4, (.ref D, .lst acc) :: (hold ++ fr), b, S5, h5, e6, fun H3 h6 => ?_⟩
      cases b with
      | true =>
        obtain ⟨⟨tr, S6⟩, e8, e9⟩ := Option.bind_eq_some_iff.mp (show ((te S5).bind _) = some (out, S2) by simpa using e7)
        simp only at e9
        split at e9
        · rename_i hl
          refine iteT ⟨S5, (.ref D, .lst acc) :: (hold ++ fr), tr, S6, h6, e8, fun y' H4 h7 => ?_⟩
          obtain ⟨vs, ha, l, k2⟩ := h7.at1.append
          refine ⟨vs, ha, by rw [l]; exact hl, S6, acc ++ [tr], ?_, e9⟩
          have k3 := AtS.wipe (AtS.of h7.1 k2 : AtS X.K _ σ2 S6 ((.ref D, .lst (acc ++ [tr])) :: (hold ++ fr))) own
          rw [ew] at k3
          exact k3
        · cases e9
      | false =>
        refine iteF ⟨S5, acc, ?_, by simpa using e7⟩
        have k3 := AtS.wipe h6 own
        rw [ew] at k3
        exact k3
    · have e8 : i = ds.length := by omega
      subst e8
      rw [List.drop_length] at e3
      obtain ⟨rfl, rfl⟩ : acc = out ∧ wipeS S3 own = S2 := by simpa [lcGo] using e3
      refine .inl ⟨F.stop H2 _ hat _ (Nat.le_refl _), q _ _ ?_⟩
      have k := h2.unwipe
      exact k.sub ⟨hold, (List.perm_middle (l₁ := hold)).symm⟩
theorem ve_lc {elt tg it : Expr} {ifs : List Expr} {scope : Scope} (own : List (Str × Nat)) {mi : MI} {g : T → Sto → Option Sto} {tt : MT} {te : ME} {as : List Nat} (hc : X.calm = true) (hN : X.N.Nodup) (hi : VI X tg it mi) (ok : BlkOk X.N X.env.scope scope own)
    (hg : ∀ (s : Shared) (H : Hp) (C : Addr) (cl : List (Str × Addr)) (fp : List Addr), VG (X.blk s H scope (compEnvC scope cl C X.env) fp) as tg g) (ht : ∀ (s : Shared) (H : Hp) (C : Addr) (cl : List (Str × Addr)) (fp : List Addr), VTs (X.blk s H scope (compEnvC scope cl C X.env) fp) ifs tt)
    (he : ∀ (s : Shared) (H : Hp) (C : Addr) (cl : List (Str × Addr)) (fp : List Addr), VE (X.blk s H scope (compEnvC scope cl C X.env) fp) elt te) (hw : as = own.map (·.2) := by rfl) (hs : ∀ x, foldedSetIterable it X.env x = pure x := by intro _; rfl) :
    VE X (.ListComp elt [⟨tg, it, ifs, 0⟩] scope pos) (eLc mi g tt te (own.map (·.2))) := PE.imp (pe_lc hc hN hi ok hg ht he hs) fun σ H Q h => lc_imp (fun i hi => by rw [← hw]; exact hi) h
theorem vs_setLc (i : Nat) {y : Str} {py : Pos} {elt tg it : Expr} {ifs : List Expr} {scope : Scope} (own : List (Str × Nat)) {spos : Pos} {mi : MI} {g : T → Sto → Option Sto} {tt : MT} {te : ME} {as : List Nat} (hc : X.calm = true) (hN : X.N.Nodup) (hsw : swapsWith (.ListComp elt [⟨tg, it, ifs, 0⟩] scope pos) (some (.Name y py)) spos.line X.env = pure true) (hi : VI X tg it mi) (ok : BlkOk X.N X.env.scope scope own)
    (hg : ∀ (s : Shared) (H : Hp) (C : Addr) (cl : List (Str × Addr)) (fp : List Addr), VG (X.blk s H scope (compEnvC scope cl C X.env) fp) as tg g) (ht : ∀ (s : Shared) (H : Hp) (C : Addr) (cl : List (Str × Addr)) (fp : List Addr), VTs (X.blk s H scope (compEnvC scope cl C X.env) fp) ifs tt)
    (he : ∀ (s : Shared) (H : Hp) (C : Addr) (cl : List (Str × Addr)) (fp : List Addr), VE (X.blk s H scope (compEnvC scope cl C X.env) fp) elt te) (hw : as = own.map (·.2) := by rfl) (hy : X.N[i]? = some y := by rfl) (hyl : X.env.scope.names.lookup y = some .local := by rfl) (hs : ∀ x, foldedSetIterable it X.env x = pure x := by intro _; rfl) :
    VS X [i] (.Assign [.Name y py] (.ListComp elt [⟨tg, it, ifs, 0⟩] scope pos) spos) (sAsg (eLc mi g tt te (own.map (·.2))) (putS i)) := PS.imp (ps_setLc hc hN hy hyl hsw hi ok hg ht he hs) fun D σ H ⟨S, fr, f, h, e, q⟩ => by
  obtain ⟨⟨t, S1⟩, e1, e⟩ := Option.bind_eq_some_iff.mp e
  obtain ⟨S2, e2, e⟩ := Option.bind_eq_some_iff.mp e
  cases e
  obtain ⟨hi, rfl⟩ := putS_some e2
  exact lc_imp (fun i hi => by rw [← hw]; exact hi) ⟨S, fr, t, S1, h, e1, fun v H' h' => q _ H' .set (h'.put hi)⟩
end

/-! ### a def -/
/-- the arguments at the entry: those that are stored to are shared first -/
def entry (as : List Nat) : Nat → List T → List T
  | _, [] => []
  | i, t :: ts => (if i ∈ as then .sh (fz t) else t) :: entry as (i + 1) ts
/-- what the arguments have become -/
def outs (as : List Nat) (S : Sto) : Nat → List T → List (Option T)
  | _, [] => []
  | i, t :: ts => (if i ∈ as then some (.sh (fz t)) else (S[i]?).getD none) :: outs as S (i + 1) ts
def mkFn (np ns : Nat) (as : List Nat) (b : MS) : Fn := fun ts => if ts.length = np then (b ((entry as 0 ts).map some ++ List.replicate (ns - np) none)).bind fun f => match f with
  | .nx S => some (.sh .non, outs as S 0 ts)
  | .rt t S => some (t, outs as S 0 ts)
  | _ => none else none
theorem outs_length (as : List Nat) (S : Sto) : ∀ (i : Nat) (ts : List T), (outs as S i ts).length = ts.length
  | _, [] => rfl
  | i, _ :: ts => congrArg (· + 1) (outs_length as S (i + 1) ts)
theorem entry_length (as : List Nat) : ∀ (i : Nat) (ts : List T), (entry as i ts).length = ts.length
  | _, [] => rfl
  | i, _ :: ts => congrArg (· + 1) (entry_length as (i + 1) ts)
section
variable {K : PySem.W.Frag} {H : Hp}
/-- the shared ones doubled -/
def dbl (as : List Nat) : Nat → List V → List T → Ps
  | i, v :: vs, t :: ts => if i ∈ as then (v, .sh (fz t)) :: dbl as (i + 1) vs ts else dbl as (i + 1) vs ts
  | _, _, _ => []
theorem At.entryA (as : List Nat) : ∀ {vs : List V} {ts : List T} {ps : Ps} (i : Nat), At K H (vs.zip ts ++ ps) → At K H (vs.zip (entry as i ts) ++ (dbl as i vs ts ++ ps))
  | [], ts, ps, i, h => h
  | v :: vs, [], ps, i, h => h
  | v :: vs, t :: ts, ps, i, h => by
    have h0 : At K H ((v, t) :: (vs.zip ts ++ ps)) := h
    show At K H ((v, if i ∈ as then T.sh (fz t) else t) :: (vs.zip (entry as (i + 1) ts) ++ ((if i ∈ as then (v, T.sh (fz t)) :: dbl as (i + 1) vs ts else dbl as (i + 1) vs ts) ++ ps)))
    by_cases hi : i ∈ as
    · rw [if_pos hi, if_pos hi]
      have h1 : At K H ((v, .sh (fz t)) :: (v, .sh (fz t)) :: (vs.zip ts ++ ps)) := h0.freeze.dup
      have h2 : At K H (vs.zip ts ++ ((v, .sh (fz t)) :: (v, .sh (fz t)) :: ps)) := h1.perm (by
        refine ((List.perm_middle (l₁ := vs.zip ts) (a := (v, T.sh (fz t))) (l₂ := ps)).symm.cons _).trans ?_
        exact (List.perm_middle (l₁ := vs.zip ts)).symm)
      have h3 := At.entryA as (i + 1) h2
      refine h3.perm ?_
      -- bring one copy to the front, one behind
      have p1 : (vs.zip (VS.entry as (i + 1) ts) ++ (dbl as (i + 1) vs ts ++ (v, T.sh (fz t)) :: (v, T.sh (fz t)) :: ps)).Perm (vs.zip (VS.entry as (i + 1) ts) ++ ((v, T.sh (fz t)) :: (v, T.sh (fz t)) :: (dbl as (i + 1) vs ts ++ ps))) := by
        refine List.Perm.append_left _ ?_
        refine (List.perm_middle).trans (List.Perm.cons _ ?_)
        exact List.perm_middle
      exact p1.trans List.perm_middle
    · rw [if_neg hi, if_neg hi]
      have h2 : At K H (vs.zip ts ++ ((v, t) :: ps)) := h0.perm (List.perm_middle (l₁ := vs.zip ts)).symm
      have h3 := At.entryA as (i + 1) h2
      refine h3.perm ?_
      have p1 : (vs.zip (VS.entry as (i + 1) ts) ++ (dbl as (i + 1) vs ts ++ (v, t) :: ps)).Perm (vs.zip (VS.entry as (i + 1) ts) ++ ((v, t) :: (dbl as (i + 1) vs ts ++ ps))) := List.Perm.append_left _ List.perm_middle
      exact p1.trans List.perm_middle
theorem prs_map : ∀ {vs : List V} {ts : List T}, prs (vs.map some) (ts.map some) = vs.zip ts
  | [], ts => by cases ts <;> rfl
  | _ :: _, [] => rfl
  | v :: vs, t :: ts => congrArg ((v, t) :: ·) (prs_map (vs := vs) (ts := ts))
theorem prs_start : ∀ {vs : List V} {ts : List T} {n : Nat}, vs.length = ts.length → prs (vs.map some ++ List.replicate n none) (ts.map some ++ List.replicate n none) = vs.zip ts ∧ Fit (vs.map some ++ List.replicate n none) (ts.map some ++ List.replicate n none)
  | [], [], n, _ => by
    induction n with
    | zero => exact ⟨rfl, trivial⟩
    | succ n ih => exact ih
  | v :: vs, t :: ts, n, h => by
    obtain ⟨h1, h2⟩ := prs_start (vs := vs) (ts := ts) (n := n) (Nat.succ.inj h)
    exact ⟨congrArg ((v, t) :: ·) h1, h2⟩
  | [], _ :: _, _, h => nomatch h
  | _ :: _, [], _, h => nomatch h
/-- behind the body: the arguments as they have become -/
theorem prs_outs (as : List Nat) : ∀ {vs : List V} {ts : List T} {σ : St} {S S0 : Sto} (i : Nat), vs.length = ts.length → (∀ j, (S[j]?).getD none = (S0[i + j]?).getD none) → (∀ j v, vs[j]? = some v → i + j ∉ as → σ[j]? = some (some v)) →
    Sub (prs (vs.map some) (outs as S0 i ts)) (prs σ S ++ dbl as i vs ts)
  | [], [], σ, S, S0, i, _, _, _ => ⟨prs σ S, by simp [dbl, prs]⟩
  | v :: vs, t :: ts, σ, S, S0, i, l, hS, hk => by
    have ih := fun (σ' : St) (S' : Sto) (a : ∀ j, (S'[j]?).getD none = (S0[i + 1 + j]?).getD none) (b : ∀ j v, vs[j]? = some v → i + 1 + j ∉ as → σ'[j]? = some (some v)) => prs_outs as (vs := vs) (ts := ts) (σ := σ') (S := S') (S0 := S0) (i + 1) (Nat.succ.inj l) a b
    have hS' : ∀ j, ((S.drop 1)[j]?).getD none = (S0[i + 1 + j]?).getD none := fun j => by
      rw [List.getElem?_drop, hS (1 + j)]
      congr 2
      omega
    have hk' : ∀ j w, vs[j]? = some w → i + 1 + j ∉ as → (σ.drop 1)[j]? = some (some w) := fun j w h1 h2 => by
      rw [List.getElem?_drop, Nat.add_comm]
      have z : i + (j + 1) = i + 1 + j := by omega
      exact hk (j + 1) w (by simpa using h1) (by rw [z]; exact h2)
    have q := ih (σ.drop 1) (S.drop 1) hS' hk'
    have tl : Sub (prs (σ.drop 1) (S.drop 1)) (prs σ S) := by
      cases σ with
      | nil => exact Sub.refl
      | cons o σ =>
        cases S with
        | nil =>
          cases o <;> cases σ with
          | nil => exact Sub.refl
          | cons o2 σ => cases o2 <;> exact Sub.refl
        | cons u S =>
          cases o <;> cases u
          · exact Sub.refl
          · exact Sub.refl
          · exact Sub.refl
          · exact Sub.refl.skip
    by_cases hi : i ∈ as
    · have e1 : outs as S0 i (t :: ts) = some (.sh (fz t)) :: outs as S0 (i + 1) ts := by
        show (if i ∈ as then _ else _) :: _ = _
        rw [if_pos hi]
      have e2 : dbl as i (v :: vs) (t :: ts) = (v, .sh (fz t)) :: dbl as (i + 1) vs ts := by
        show (if i ∈ as then _ else _) = _
        rw [if_pos hi]
      rw [e1, e2]
      show Sub ((v, .sh (fz t)) :: prs (vs.map some) (outs as S0 (i + 1) ts)) _
      exact ((q.trans (tl.append_right _)).cons).trans (Sub.of_perm List.perm_middle)
    · have e1 : outs as S0 i (t :: ts) = (S0[i]?).getD none :: outs as S0 (i + 1) ts := by
        show (if i ∈ as then _ else _) :: _ = _
        rw [if_neg hi]
      have e2 : dbl as i (v :: vs) (t :: ts) = dbl as (i + 1) vs ts := by
        show (if i ∈ as then _ else _) = _
        rw [if_neg hi]
      rw [e1, e2]
      have h0 := hS 0
      have hv := hk 0 v rfl hi
      cases σ with
      | nil => simp at hv
      | cons o σ =>
        have ho : o = some v := by simpa using hv
        subst ho
        cases S with
        | nil =>
          have z : (S0[i]?).getD none = none := by
            have : (S0[i + 0]?).getD none = none := by rw [← h0]; rfl
            simpa using this
          rw [z]
          show Sub (prs (vs.map some) (outs as S0 (i + 1) ts)) _
          exact q.trans (tl.append_right _)
        | cons u S =>
          have z : (S0[i]?).getD none = u := by
            have : (S0[i + 0]?).getD none = u := by rw [← h0]; rfl
            simpa using this
          rw [z]
          cases u with
          | none =>
            show Sub (prs (vs.map some) (outs as S0 (i + 1) ts)) _
            exact q
          | some u =>
            show Sub ((v, u) :: prs (vs.map some) (outs as S0 (i + 1) ts)) ((v, u) :: (prs σ S ++ dbl as (i + 1) vs ts))
            exact q.cons
  | [], _ :: _, _, _, _, _, l, _, _ => nomatch l
  | _ :: _, [], _, _, _, _, l, _, _ => nomatch l
end
section
variable {P : Program} {w : World} {K : PySem.W.Frag} {mg : Str → Option Value} {base : Heap}
end
end VS
/-! VS: the top's facts, the end of a law. -/
namespace VS
open PySem PySem.Spec PyProof.Rows L2

/-- a constant of the module -/
def Cst (K : PySem.W.Frag) (mg : Str → Option Value) (x : Str) (d : D) : Prop := ∃ v u, mg x = some u ∧ RelV v u ∧ ∀ G, Rep K G v d
/-- a def of the module -/
def Def (K : PySem.W.Frag) (mg : Str → Option Value) (x : Str) (st : Stmt) : Prop := ∃ f fd, FunD K x x (defArgs st) (defBody st) (defScope st) [] [] f fd ∧ mg x = some (.ref f)
section
variable {X : Cx} {pos : Pos}
theorem vp_cst {x : Str} {d : D} (c : Cst X.K X.mg x d) (hg : Gl X x := by rfl) (hd : (x == ("__debug__" : Str)) = false := by decide) : VP X (.Name x pos) (pC d) := by
  obtain ⟨v, u, hm, r, rd⟩ := c
  exact vp_glob hg hm r rd hd
theorem ve_cst {x : Str} {d : D} (c : Cst X.K X.mg x d) (hg : Gl X x := by rfl) (hd : (x == ("__debug__" : Str)) = false := by decide) : VE X (.Name x pos) (eC d) := by
  obtain ⟨v, u, hm, r, rd⟩ := c
  exact ve_glob hg hm r rd hd
end
section
variable {K : PySem.W.Frag} {h : Heap} {mg : Str → Option Value}
theorem cst_str (X : K.In h) (G : h.Ns mainGlobals mg) {x z : Str} (c : (He.Fa.str x z).ok K = true) : Cst K mg x (.str z) := by
  obtain ⟨t, e⟩ := He.str_ok X G c
  exact ⟨.str z, _, e, ⟨t, rfl⟩, fun _ => rfl⟩
theorem cst_int (X : K.In h) (G : h.Ns mainGlobals mg) {x : Str} {i : Int} (c : (He.Fa.int x i).ok K = true) : Cst K mg x (.int i) := by
  obtain ⟨t, e⟩ := He.int_ok X G c
  exact ⟨.int i, _, e, ⟨t, rfl⟩, fun _ => rfl⟩
/-- scalars as the head's data -/
def dvD : D → He.Dv
  | .non => .non
  | .bl b => .bl b
  | .int i => .int i
  | .str x => .str x
  | _ => .non
theorem reps_dv {G : Hp} : ∀ {ds : List D}, ds.all sc = true → Reps K G ((ds.map dvD).map (He.Dv.v K)) ds
  | [], _ => trivial
  | d :: ds, q => by
    rw [List.all_cons, Bool.and_eq_true] at q
    refine ⟨?_, reps_dv q.2⟩
    cases d with
    | lst _ => cases q.1
    | tup _ => cases q.1
    | _ => rfl
theorem cst_tup (X : K.In h) (G : h.Ns mainGlobals mg) {x : Str} {ds : List D} (c : (He.Fa.glo x).ok K = true) (t : He.tupB K x (ds.map dvD) = true) (hs : ds.all sc = true) : Cst K mg x (.tup ds) :=
  ⟨.ref (He.ga K x), _, He.glo_ok X G c, rfl, fun H => ⟨_, _, rfl, He.tupB_ok t H, reps_dv hs⟩⟩
theorem def_of (X : K.In h) (G : h.Ns mainGlobals mg) {x : Str} {st : Stmt} (c : (He.Fa.glo x).ok K = true) (d : ∃ fd, FunD K x x (defArgs st) (defBody st) (defScope st) [] [] (He.ga K x) fd) : Def K mg x st := by
  obtain ⟨fd, F⟩ := d
  exact ⟨_, fd, F, He.glo_ok X G c⟩
end
theorem PSs.weak {X : Cx} {as bs : List Nat} {st : List Stmt} {m : MS} (h : VSs X as st m) (k : ∀ i ∈ as, i ∈ bs) : VSs X bs st m := PSs.imp h fun D σ H ⟨S, fr, f, h, e, q⟩ => ⟨S, fr, f, h, e, q.mono k⟩
section
variable {P : Program} {w : World} {K : PySem.W.Frag} {mg : Str → Option Value} {base : Heap}
theorem defOk {x : Str} {st : Stmt} {f : Addr} {fd : FuncData} {N ps : List Str} {k : Nat} {as : List Nat} (asP : List Nat) {b : MS} (F : FunD K x x (defArgs st) (defBody st) (defScope st) [] [] f fd) (S : FnScope N ps (defScope st))
    (hb : ∀ (cdv : Value) (A : Around) (outer : List Env) (s : Shared) (H : Hp) (E : XK), RoomG k (A.deeper (envOfC x (defScope st) s.heap.objs.size f cdv)) → VSs (cxOf CX0 P w K mg base N x (defScope st) f cdv A outer s H E).nox as (defBody st) b) (hsub : ∀ i, i < ps.length → i ∈ as → i ∈ asP) :
    FnG P w K mg base (k + 1) f fd ps (spV K ps.length (mkFn ps.length N.length asP b)) := by
  refine FnG.of F S (fun vs H Q E ⟨_, _, _, _, h, _⟩ => h) fun cdv A outer s H vs Q E hr hsp => ⟨_, PSs.nox (hb cdv A outer s H E hr), ?_⟩
  obtain ⟨ts, fr, r, ts', l1, l2, h, e, l3, q⟩ := hsp
  have hpl : ps.length ≤ N.length := by
    have := congrArg List.length S.pre
    rw [List.length_take] at this
    omega
  unfold mkFn at e
  rw [if_pos l2] at e
  obtain ⟨fl, e1, e2⟩ := Option.bind_eq_some_iff.mp e
  have h1 := At.entryA asP 0 h
  have lz : vs.length = (entry asP 0 ts).length := by rw [entry_length, l1, l2]
  obtain ⟨p1, p2⟩ := prs_start (n := N.length - ps.length) lz
  have hst : L2.start N vs = vs.map some ++ List.replicate (N.length - ps.length) none := by
    unfold L2.start
    rw [l1]
  rw [hst]
  refine ⟨(entry asP 0 ts).map some ++ List.replicate (N.length - ps.length) none, dbl asP 0 vs ts ++ fr, fl, ⟨p2, by rw [p1]; exact h1⟩, e1, ?_⟩
  have fin : ∀ (σ' : St) (v : V) (H' : Hp) (S' : Sto) (t : T), Keep as (vs.map some ++ List.replicate (N.length - ps.length) none) σ' → AtS K H' σ' S' ((v, t) :: (dbl asP 0 vs ts ++ fr)) → ts' = outs asP S' 0 ts → r = t → Q v H' := fun σ' v H' S' t kp h2 e3 e4 => by
    subst e3 e4
    refine q v H' ?_
    have s1 := prs_outs asP (vs := vs) (ts := ts) (σ := σ') (S := S') (S0 := S') 0 (l1.trans l2.symm) (fun j => by rw [Nat.zero_add]) (fun j u h3 h4 => by
      have hj : j < vs.length := (List.getElem?_eq_some_iff.mp h3).1
      rw [kp.2 j (fun z => h4 (by rw [Nat.zero_add]; exact hsub j (by omega) z))]
      rw [List.getElem?_append_left (by rw [List.length_map]; exact hj), List.getElem?_map, h3] <;> rfl)
    refine h2.2.sub ?_
    show Sub ((v, r) :: (prs (vs.map some) (outs asP S' 0 ts) ++ fr)) (prs σ' S' ++ (v, r) :: (dbl asP 0 vs ts ++ fr))
    refine Sub.trans (qs := (v, r) :: (prs σ' S' ++ (dbl asP 0 vs ts ++ fr))) ?_ (Sub.of_perm List.perm_middle)
    refine Sub.cons ?_
    rw [← List.append_assoc]
    exact s1.append_right fr
  cases fl with
  | nx S' =>
    cases e2
    exact fun σ' H' kp h2 => fin σ' .non H' S' (.sh .non) kp (h2.new fun _ => rfl) rfl rfl
  | rt t S' =>
    obtain ⟨rfl, rfl⟩ : t = r ∧ outs asP S' 0 ts = ts' := by simpa using e2
    exact fun σ' v H' kp h2 => fin σ' v H' S' t kp h2 rfl rfl
  | bk S' => cases e2
  | ct S' => cases e2
theorem Good.mkD {x : Str} {st : Stmt} {f : Addr} {fd : FuncData} {N ps : List Str} {k : Nat} {as : List Nat} (asP : List Nat) {b : MS} (F : FunD K x x (defArgs st) (defBody st) (defScope st) [] [] f fd) (hm : mg x = some (.ref f)) (hbd : Binds K fd ps []) (S : FnScope N ps (defScope st))
    (hb : ∀ (cdv : Value) (A : Around) (outer : List Env) (s : Shared) (H : Hp) (E : XK), RoomG k (A.deeper (envOfC x (defScope st) s.heap.objs.size f cdv)) → VSs (cxOf CX0 P w K mg base N x (defScope st) f cdv A outer s H E).nox as (defBody st) b) (hsub : ∀ i, i < ps.length → i ∈ as → i ∈ asP) :
    Good P w K mg base x (k + 1) ps (mkFn ps.length N.length asP b) := ⟨f, fd, hm, F.kp, hbd, defOk asP F S hb hsub⟩
end
/-- the script, and what is wanted of the law -/
theorem Reps.ints {K : PySem.W.Frag} {H : Hp} : ∀ (ns : List Int), Reps K H (ns.map V.int) (ns.map D.int)
  | [] => trivial
  | _ :: ns => ⟨rfl, Reps.ints ns⟩
theorem spV_law {K : PySem.W.Frag} {m : Fn} {H : Hp} {a : Addr} {ns : List Int} {E : XK} (hS : SqL K H a (ns.map V.int)) (h : ∃ ts', m [.sh (.lst (ns.map .int))] = some (.sh (.bl true), ts') ∧ ts'.length = 1) : spV K 1 m [.ref a] H (fun v _ => v = .bl true) E := by
  obtain ⟨ts', e, l⟩ := h
  refine ⟨[.sh (.lst (ns.map .int))], [], _, ts', rfl, rfl, ?_, e, l, fun v H' k => ?_⟩
  · exact ⟨H, [], Same.refl H, ⟨[], [], rfl, ⟨rfl, a, _, rfl, hS, Reps.ints ns⟩, rfl⟩, List.nodup_nil, (by intro b hb; cases hb), (by intro b hb; cases hb)⟩
  · exact (show At K H' ((v, .sh (.bl true)) :: _) from k).rep
end VS
/-! VS: more rules. -/
namespace VS
open PySem PySem.Spec PyProof.Rows L2
section
variable {X : Cx} {e a b c : Expr} {es : List Expr} {pos : Pos}
/-- f(e), one value, a scalar back -/
def eC1 (g : List D → Option D) (m : ME) : ME := fun S => (m S).bind fun p => sD (g [fz p.1]) p.2
theorem eC1_imp {g : List D → Option D} {m : ME} {σ : St} {H : Hp} {Q : VK} (h : tV X.K (eC1 g m) σ H Q) : tCB (rC X.K g) (tCons (tV X.K m) tNil) σ H Q := by
  obtain ⟨S, fr, t, S', h, e, q⟩ := h
  obtain ⟨⟨t0, S1⟩, e1, e⟩ := Option.bind_eq_some_iff.mp e
  obtain ⟨d, e2, hs, rfl, rfl⟩ := sD_some e
  exact ⟨S, fr, t0, _, h, e1, fun v H1 h1 => ⟨[fz t0], d, ⟨h1.rep, trivial⟩, e2, fun z rz => q z H1 (h1.drop1.new (scRep hs rz))⟩⟩
theorem ve_callB1 {x : Str} {p : Pos} {id : String} {g : List D → Option D} {m : ME} (hc : CallR X (.builtin id) (rC X.K g)) (hm : X.mg x = none) (hv : bootBuiltins x = some (.builtin id)) (ha : VE X e m) (hg : Gl X x := by rfl) (hn : x ≠ "__name__" := by decide)
    (hdb : (x == ("__debug__" : Str)) = false := by decide) (he : starEach [e] X.env = (false, eval e X.env) :: starEach [] X.env := by rfl) (hpl : (backTo pos (starEach [] X.env)).any (·.1) = false := by rfl) : VE X (.Call (.Name x p) [e] [] pos) (eC1 g m) :=
  PE.imp (pe_callB hc hg hm hv (pa_cons ha pa_nil he) hn hdb he hpl) fun σ H Q h => eC1_imp h
theorem ve_callTy1 {x : Str} {p : Pos} {T : String} {g : List D → Option D} {m : ME} (hc : CallR X (.type T) (rC X.K g)) (hm : X.mg x = none) (hv : bootBuiltins x = some (.type T)) (ha : VE X e m) (hg : Gl X x := by rfl) (hn : x ≠ "__name__" := by decide)
    (hdb : (x == ("__debug__" : Str)) = false := by decide) (he : starEach [e] X.env = (false, eval e X.env) :: starEach [] X.env := by rfl) (hpl : (backTo pos (starEach [] X.env)).any (·.1) = false := by rfl) : VE X (.Call (.Name x p) [e] [] pos) (eC1 g m) :=
  PE.imp (pe_callTy hc hg hm hv (pa_cons ha pa_nil he) hn hdb he hpl) fun σ H Q h => eC1_imp h
/-- range(e), range(a, b) of no pure things -/
def iRng1E (m : ME) : MI := fun S => (m S).bind fun p => match fz p.1 with
  | .int j => if near j = true then some (rngD 0 j.toNat, p.2) else none
  | _ => none
theorem vi_range1E {tg : Expr} {p : Pos} {m : ME} (hm : X.mg "range" = none) (ha : VE X a m) (hg : Gl X "range" := by rfl) (hs : starEach [a] X.env = [(false, eval a X.env)] := by rfl) : VI X tg (.Call (.Name "range" p) [a] [] pos) (iRng1E m) := PI.imp (pi_range1 hg hm (pa_cons ha pa_nil hs) hs) fun σ H R ⟨S, fr, ds, S', h, e, q⟩ => by
  obtain ⟨⟨t, S1⟩, e1, e⟩ := Option.bind_eq_some_iff.mp e
  refine ⟨S, fr, t, S1, h, e1, fun v H1 h1 => ?_⟩
  simp only at e
  split at e
  · rename_i j ej
    split at e
    · rename_i hn
      obtain ⟨rfl, rfl⟩ : rngD 0 j.toNat = ds ∧ S1 = S' := by simpa using e
      have r := h1.rep
      rw [ej] at r
      have hn := of_decide_eq_true hn
      exact ⟨j, by rw [show v = .int j from r], hn.1, hn.2, q _ H1 [] feeds_rng h1.drop1⟩
    · cases e
  · cases e
def dAddI : D → D → Option D
  | .int i, .int j => some (.int (i + j))
  | _, _ => none
theorem oa_addI : PIp X .Add (rAug X.K dAddI) := by
  intro pins s σ H x y v u Q I rx ry ⟨dx, dy, d, r1, r2, e, q⟩
  cases dx with
  | int i =>
    cases dy with
    | int j =>
      have z : D.int (i + j) = d := by simpa [dAddI] using e
      subst z
      rw [show x = .int i from r1] at rx
      rw [show y = .int j from r2] at ry
      exact ip_add pins s σ H _ _ v u Q I rx ry ⟨i, j, rfl, rfl, q _ rfl⟩
    | _ => cases e
  | _ => cases dy <;> cases e
theorem addI_sc (d0 d d1 : D) (h : dAddI d0 d = some d1) : sc d0 = true := by
  cases d0 <;> cases d <;> first | rfl | cases h
end
/-- the turns that a while may make -/
def fuel : Nat := 1000000000
/-! ### a value that is shared from now on -/
def eFz (m : ME) : ME := fun S => (m S).bind fun p => some (.sh (fz p.1), p.2)
theorem ve_fz {m : ME} (h : VE X e m) : VE X e (eFz m) := PE.imp h fun σ H Q ⟨S, fr, t, S', h, e, q⟩ => by
  obtain ⟨⟨u, S1⟩, e1, e2⟩ := Option.bind_eq_some_iff.mp e
  cases e2
  exact ⟨S, fr, u, _, h, e1, fun v H1 h1 => q v H1 h1.freeze⟩
end VS
namespace VS
open PySem PySem.Spec PyProof.Rows L2
/-! ### repr of data -/
def shows (d : D) : Bool := (py d).showable && decide ((py d).depth ≤ 40) && decide ((py d).shown.length ≤ 10000000)
def dRepr : List D → Option D
  | [.lst xs] => if shows (.lst xs) = true then some (.str (py (.lst xs)).shown) else none
  | [.tup xs] => if shows (.tup xs) = true then some (.str (py (.tup xs)).shown) else none
  | [.int i] => if i.natAbs.log2 < 1920 then some (.str (toString i)) else none
  | _ => none
mutual
theorem py_noDict : ∀ d : D, (py d).hasDict = false
  | .non => rfl
  | .bl _ => rfl
  | .int _ => rfl
  | .str _ => rfl
  | .lst xs => pyL_noDict xs
  | .tup xs => pyL_noDict xs
theorem pyL_noDict : ∀ ds : List D, PyData.hasDictAll (pyL ds) = false
  | [] => rfl
  | d :: ds => by
    show (PyData.hasDict (py d) || PyData.hasDictAll (pyL ds)) = false
    rw [py_noDict d, pyL_noDict ds]
    rfl
end
section
variable {X : Cx}
theorem repr_ref {pins : List (Addr × Obj)} {σ : St} {H : Hp} {s : Shared} {Q : VK} {a : Addr} {d : D} {as : List Addr} (hg : X.A.guards = some []) (hu : X.A.units + 64 < cLine) (I : Inv X pins σ H s) (r : Reads s.heap (.ref a) (py d) as) (ok : shows d = true) (q : Q (.str (py d).shown) H) :
    wpAny (model X.prog X.w) X.A (call (.builtin "repr") [.ref a]) (EP X pins σ Q) X.xe s := by
  unfold shows at ok
  rw [Bool.and_eq_true, Bool.and_eq_true, decide_eq_true_eq, decide_eq_true_eq] at ok
  obtain ⟨⟨o1, o2⟩, o3⟩ := ok
  refine repr_of_reads' r o1 (PyData.noDict_hsm (py_noDict d)) hg (by omega) (fun b o e => e) (fun h' u tk kp => ?_) (Nat.le_trans o3 (by decide))
  exact ⟨.str _, H, I.kept kp, ⟨u, rfl⟩, q⟩
theorem od_repr (hg : X.A.guards = some []) (hu : X.A.units + 64 < cLine) : CallR X (.builtin "repr") (rC X.K dRepr) := by
  intro pins s σ H xs us Q I rx ⟨ds, d, r, e, q⟩
  unfold dRepr at e
  split at e
  · rename_i ys
    split at e
    · rename_i hl
      have z := Option.some.inj e
      subst z
      obtain ⟨v, rfl, r1⟩ := r.one
      obtain ⟨a, vs, rfl, k, rs⟩ := (show Rep X.K H v (.lst ys) from r1)
      cases rx with
      | cons r0 rn =>
        cases rn
        obtain ⟨as, rd⟩ := Dp.reads I (py (.lst ys)) _ _ (Rep.dp (d := .lst ys) r1) r0
        cases r0
        exact repr_ref hg hu I rd hl (q _ rfl)
    · cases e
  · rename_i ys
    split at e
    · rename_i hl
      have z := Option.some.inj e
      subst z
      obtain ⟨v, rfl, r1⟩ := r.one
      obtain ⟨a, vs, rfl, k, rs⟩ := (show Rep X.K H v (.tup ys) from r1)
      cases rx with
      | cons r0 rn =>
        cases rn
        obtain ⟨as, rd⟩ := Dp.reads I (py (.tup ys)) _ _ (Rep.dp (d := .tup ys) r1) r0
        cases r0
        exact repr_ref hg hu I rd hl (q _ rfl)
    · cases e
  · split at e
    · rename_i hl
      have z := Option.some.inj e
      subst z
      obtain ⟨v, rfl, r1⟩ := r.one
      rw [show v = .int _ from r1] at rx
      exact SkE.call_repr_int pins s σ H _ us Q I rx ⟨_, rfl, hl, q _ rfl⟩
    · cases e
  · cases e
end
end VS
namespace VS
open PySem PySem.Spec PyProof.Rows L2
/-! ### parts of a list; lists backwards -/
def cutD {α : Type} (xs : List α) (lo hi : Option Int) : List α := (xs.drop (HT.sIx xs.length 0 lo)).take (HT.sIx xs.length xs.length hi - HT.sIx xs.length 0 lo)
theorem zip_drop' {α β : Type} : ∀ (n : Nat) (a : List α) (b : List β), (a.drop n).zip (b.drop n) = (a.zip b).drop n
  | 0, a, b => rfl
  | n + 1, [], b => by simp
  | n + 1, a :: as, [] => by simp
  | n + 1, a :: as, b :: bs => zip_drop' n as bs
theorem zip_take' {α β : Type} : ∀ (n : Nat) (a : List α) (b : List β), (a.take n).zip (b.take n) = (a.zip b).take n
  | 0, a, b => rfl
  | n + 1, [], b => by simp
  | n + 1, a :: as, [] => by simp
  | n + 1, a :: as, b :: bs => by
    show (a, b) :: (as.take n).zip (bs.take n) = (a, b) :: (as.zip bs).take n
    rw [zip_take' n as bs]
theorem sub_cut {α : Type} (l : List α) (i n : Nat) : ∃ r, l.Perm (r ++ (l.drop i).take n) := by
  refine ⟨l.take i ++ (l.drop i).drop n, ?_⟩
  have e : l = l.take i ++ ((l.drop i).take n ++ (l.drop i).drop n) := by rw [List.take_append_drop, List.take_append_drop]
  conv => lhs; rw [e]
  rw [List.append_assoc]
  exact List.Perm.append_left _ List.perm_append_comm
section
variable {K : PySem.W.Frag} {H : Hp} {ps : Ps}
theorem At.cut {vs : List V} {ts : List T} (h : At K H (vs.zip ts ++ ps)) (i n : Nat) : At K H (((vs.drop i).take n).zip ((ts.drop i).take n) ++ ps) := by
  rw [zip_take', zip_drop']
  exact h.sub (Sub.append_right (sub_cut (vs.zip ts) i n) ps)
theorem At.rev {vs : List V} {ts : List T} (h : At K H (vs.zip ts ++ ps)) (l : vs.length = ts.length) : At K H (vs.reverse.zip ts.reverse ++ ps) := by
  rw [show vs.reverse.zip ts.reverse = (vs.zip ts).reverse by rw [List.zip_eq_zipWith, List.zip_eq_zipWith, List.reverse_zipWith l]]
  exact h.perm (List.Perm.append_right _ (List.reverse_perm _).symm)
theorem cutV_eq {α : Type} (xs : List α) (lo hi : Option Int) : (xs.drop (HT.sIx xs.length 0 lo)).take (HT.sIx xs.length xs.length hi - HT.sIx xs.length 0 lo) = cutD xs lo hi := rfl
end
section
variable {X : Cx} {a b c e : Expr} {es : List Expr} {pos : Pos}
/-- e[i:j], e a list -/
def eSlL (m : ME) (l h : Sto → Option (Option Int)) : ME := fun S => (m S).bind fun p => (l p.2).bind fun lo => (h p.2).bind fun hi => match fz p.1 with
  | .lst ds => some (.lst ((cutD ds lo hi).map .sh), p.2)
  | _ => none
theorem ve_slL {lo hi : Option Expr} {m : ME} {l h : Sto → Option (Option Int)} {p2 : Pos} (he : VE X e m) (hl : PO X lo (tPO X.K l)) (hh : PO X hi (tPO X.K h)) : VE X (.Subscript e (.Slice lo hi none p2) pos) (eSlL m l h) :=
  PE.imp (pe_slice sl_list he hl hh) fun σ H Q ⟨S, fr, t, S', h0, e, q⟩ => by
    obtain ⟨⟨t0, S1⟩, e1, e⟩ := Option.bind_eq_some_iff.mp e
    obtain ⟨lo', e2, e⟩ := Option.bind_eq_some_iff.mp e
    obtain ⟨hi', e3, e⟩ := Option.bind_eq_some_iff.mp e
    refine ⟨S, fr, t0, S1, h0, e1, fun v H1 h1 => ⟨S1, (v, .sh (fz t0)) :: fr, lo', h1.freeze, e2, S1, (v, .sh (fz t0)) :: fr, hi', h1.freeze, e3, ?_⟩⟩
    simp only at e
    split at e
    · rename_i ds ed
      obtain ⟨rfl, rfl⟩ : T.lst ((cutD ds lo' hi').map .sh) = t ∧ S1 = S' := by simpa using e
      have h2 := h1.freeze
      rw [ed] at h2
      obtain ⟨a, us, rfl, k, l2, h3⟩ := h2.at1.kids
      refine ⟨a, us, rfl, k, fun p hp => q _ _ (AtS.of h2.1 (At.newL ?_ ?_ hp))⟩
      · have z := h3.cut (HT.sIx us.length 0 lo') (HT.sIx us.length us.length hi' - HT.sIx us.length 0 lo')
        have e4 : (cutD ds lo' hi').map T.sh = ((ds.map T.sh).drop (HT.sIx us.length 0 lo')).take (HT.sIx us.length us.length hi' - HT.sIx us.length 0 lo') := by
          unfold cutD
          rw [List.map_take, List.map_drop, l2]
        rw [e4]
        exact z
      · rw [List.length_map]
        show (cutD us lo' hi').length = (cutD ds lo' hi').length
        unfold cutD
        rw [List.length_take, List.length_take, List.length_drop, List.length_drop, l2]
    · cases e
/-- e[::-1] -/
def eRevL (m : ME) : ME := fun S => (m S).bind fun p => match fz p.1 with
  | .lst ds => some (.lst (ds.reverse.map .sh), p.2)
  | _ => none
theorem ve_revL {m : ME} {k : Nat} {p1 p2 p3 : Pos} (he : VE X e m) : VE X (.Subscript e (.Slice none none (some (.UnaryOp .USub (.Constant (.int 1) k p1) p2)) p3) pos) (eRevL m) :=
  PE.imp (pe_revL he) fun σ H Q ⟨S, fr, t, S', h0, e, q⟩ => by
    obtain ⟨⟨t0, S1⟩, e1, e⟩ := Option.bind_eq_some_iff.mp e
    refine ⟨S, fr, t0, S1, h0, e1, fun v H1 h1 => ?_⟩
    simp only at e
    split at e
    · rename_i ds ed
      obtain ⟨rfl, rfl⟩ : T.lst (ds.reverse.map .sh) = t ∧ S1 = S' := by simpa using e
      have h2 := h1.freeze
      rw [ed] at h2
      obtain ⟨a, us, rfl, k, l2, h3⟩ := h2.at1.kids
      refine ⟨a, us, rfl, k, fun p hp => q _ _ (AtS.of h2.1 (At.newL ?_ ?_ hp))⟩
      · rw [List.map_reverse]
        exact h3.rev (by rw [List.length_map]; exact l2)
      · rw [List.length_map, List.length_reverse, List.length_reverse]
        exact l2
    · cases e
/-! ### truth of no pure things, as values -/
def eAnd (p r : ME) : ME := fun S => (p S).bind fun x => (asB (fz x.1)).bind fun k => if k = true then r x.2 else some (.sh (.bl false), x.2)
def eOr (p r : ME) : ME := fun S => (p S).bind fun x => (asB (fz x.1)).bind fun k => if k = true then some (.sh (.bl true), x.2) else r x.2
def eNot (p : ME) : ME := fun S => (p S).bind fun x => (asB (fz x.1)).bind fun k => some (.sh (.bl (!k)), x.2)
theorem ve_one {op} {p : ME} (h : VE X a p) : VE X (.BoolOp op [a] pos) p := pe_one h
theorem bl_of {σ : St} {H : Hp} {S : Sto} {fr : Ps} {v : V} {t : T} {k : Bool} (h : AtS X.K H σ S ((v, t) :: fr)) (e : asB (fz t) = some k) : v = .bl k := by
  have r := h.rep
  rw [asB_some e] at r
  exact r
theorem ve_and {p r : ME} (h : VE X a p) (h2 : VE X (.BoolOp .And (b :: es) pos) r) : VE X (.BoolOp .And (a :: b :: es) pos) (eAnd p r) := PE.imp (pe_and h h2) fun σ H Q ⟨S, fr, t, S', h0, e, q⟩ => by
  obtain ⟨⟨t0, S1⟩, e1, e⟩ := Option.bind_eq_some_iff.mp e
  obtain ⟨k, e2, e⟩ := Option.bind_eq_some_iff.mp e
  refine ⟨S, fr, t0, S1, h0, e1, fun v H1 h1 => ⟨k, bl_of h1 e2, ?_⟩⟩
  cases k with
  | true => exact iteT ⟨S1, fr, t, S', h1.drop1, by simpa using e, q⟩
  | false =>
    obtain ⟨rfl, rfl⟩ : T.sh (.bl false) = t ∧ S1 = S' := by simpa using e
    exact iteF (q _ _ (h1.drop1.new fun _ => rfl))
theorem ve_or {p r : ME} (h : VE X a p) (h2 : VE X (.BoolOp .Or (b :: es) pos) r) : VE X (.BoolOp .Or (a :: b :: es) pos) (eOr p r) := PE.imp (pe_or h h2) fun σ H Q ⟨S, fr, t, S', h0, e, q⟩ => by
  obtain ⟨⟨t0, S1⟩, e1, e⟩ := Option.bind_eq_some_iff.mp e
  obtain ⟨k, e2, e⟩ := Option.bind_eq_some_iff.mp e
  refine ⟨S, fr, t0, S1, h0, e1, fun v H1 h1 => ⟨k, bl_of h1 e2, ?_⟩⟩
  cases k with
  | false => exact iteF ⟨S1, fr, t, S', h1.drop1, by simpa using e, q⟩
  | true =>
    obtain ⟨rfl, rfl⟩ : T.sh (.bl true) = t ∧ S1 = S' := by simpa using e
    exact iteT (q _ _ (h1.drop1.new fun _ => rfl))
theorem ve_not {p : ME} (h : VE X a p) : VE X (.UnaryOp .Not a pos) (eNot p) := PE.imp (pe_not h) fun σ H Q ⟨S, fr, t, S', h0, e, q⟩ => by
  obtain ⟨⟨t0, S1⟩, e1, e⟩ := Option.bind_eq_some_iff.mp e
  obtain ⟨k, e2, e⟩ := Option.bind_eq_some_iff.mp e
  obtain ⟨rfl, rfl⟩ : T.sh (.bl (!k)) = t ∧ S1 = S' := by simpa using e
  exact ⟨S, fr, t0, S1, h0, e1, fun v H1 h1 => ⟨k, bl_of h1 e2, q _ _ (h1.drop1.new fun _ => rfl)⟩⟩
/-! ### all, any, sum of a list -/
def blsD : List D → Option (List Bool)
  | [] => some []
  | .bl k :: ds => (blsD ds).map (k :: ·)
  | _ :: _ => none
def intsD : List D → Option (List Int)
  | [] => some []
  | .int k :: ds => (intsD ds).map (k :: ·)
  | _ :: _ => none
theorem bls_vals {K : PySem.W.Frag} {H : Hp} : ∀ {ds : List D} {vs : List V} {ks : List Bool}, blsD ds = some ks → Reps K H vs ds → vs = ks.map V.bl
  | [], [], ks, h, _ => by
    cases h
    rfl
  | d :: ds, v :: vs, ks, h, r => by
    cases d with
    | bl k =>
      obtain ⟨us, h1, rfl⟩ := Option.map_eq_some_iff.mp (show (blsD ds).map (k :: ·) = some ks from h)
      rw [List.map_cons, ← bls_vals h1 r.2, show v = .bl k from r.1]
    | _ => cases h
  | [], _ :: _, _, _, r => r.elim
  | _ :: _, [], _, _, r => r.elim
theorem ints_vals {K : PySem.W.Frag} {H : Hp} : ∀ {ds : List D} {vs : List V} {ks : List Int}, intsD ds = some ks → Reps K H vs ds → vs = ks.map V.int
  | [], [], ks, h, _ => by
    cases h
    rfl
  | d :: ds, v :: vs, ks, h, r => by
    cases d with
    | int k =>
      obtain ⟨us, h1, rfl⟩ := Option.map_eq_some_iff.mp (show (intsD ds).map (k :: ·) = some ks from h)
      rw [List.map_cons, ← ints_vals h1 r.2, show v = .int k from r.1]
    | _ => cases h
  | [], _ :: _, _, _, r => r.elim
  | _ :: _, [], _, _, r => r.elim
def dAll : List D → Option D
  | [.lst ds] => (blsD ds).map fun ks => .bl (ks.all id)
  | _ => none
def dAny : List D → Option D
  | [.lst ds] => (blsD ds).map fun ks => .bl (ks.any id)
  | _ => none
def dSum : List D → Option D
  | [.lst ds] => (intsD ds).map fun ks => .int ks.sum
  | _ => none
theorem od_all (hc : X.calm = true) : CallR X (.builtin "all") (rC X.K dAll) := by
  intro pins s σ H xs us Q I rx ⟨ds, d, r, e, q⟩
  unfold dAll at e
  split at e
  · rename_i ys
    obtain ⟨ks, e1, rfl⟩ := Option.map_eq_some_iff.mp e
    obtain ⟨v, rfl, a, vs, rfl, k, rs⟩ := r.one
    rw [bls_vals e1 rs] at k
    exact cr_all hc pins s σ H _ us Q I rx ⟨a, ks, rfl, k, q _ rfl⟩
  · cases e
theorem od_any (hc : X.calm = true) : CallR X (.builtin "any") (rC X.K dAny) := by
  intro pins s σ H xs us Q I rx ⟨ds, d, r, e, q⟩
  unfold dAny at e
  split at e
  · rename_i ys
    obtain ⟨ks, e1, rfl⟩ := Option.map_eq_some_iff.mp e
    obtain ⟨v, rfl, a, vs, rfl, k, rs⟩ := r.one
    rw [bls_vals e1 rs] at k
    exact cr_any hc pins s σ H _ us Q I rx ⟨a, ks, rfl, k, q _ rfl⟩
  · cases e
theorem od_sum (hc : X.calm = true) : CallR X (.builtin "sum") (rC X.K dSum) := by
  intro pins s σ H xs us Q I rx ⟨ds, d, r, e, q⟩
  unfold dSum at e
  split at e
  · rename_i ys
    obtain ⟨ks, e1, rfl⟩ := Option.map_eq_some_iff.mp e
    obtain ⟨v, rfl, a, vs, rfl, k, rs⟩ := r.one
    rw [ints_vals e1 rs] at k
    exact cr_sum hc pins s σ H _ us Q I rx ⟨a, ks, rfl, k, q _ rfl⟩
  · cases e
/-! ### tuple(e) -/
def eTupOf (ma : MA) : ME := fun S => (ma S).bind fun p => match p.1 with
  | [t] => (items (fz t)).bind fun ds => some (.sh (.tup ds), p.2)
  | _ => none
theorem fz_kids (ds : List D) : fz (.tup (ds.map .sh)) = .tup ds := by
  rw [fz, fzL_map, List.map_map]
  congr 1
  exact List.map_id ds
theorem ve_tupOf {m : MA} {ms : List (Option Nat)} {p : Pos} (ha : VM X [e] ms m) (hm : X.mg "tuple" = none) (hv : bootBuiltins "tuple" = some (.type "tuple") := by decide +kernel) (hg : Gl X "tuple" := by rfl)
    (he : starEach [e] X.env = (false, eval e X.env) :: starEach [] X.env := by rfl) (hpl : (backTo pos (starEach [] X.env)).any (·.1) = false := by rfl) : VE X (.Call (.Name "tuple" p) [e] [] pos) (eTupOf m) :=
  PE.imp (pe_callTy call_tuple_of hg hm hv ha (by decide) (by decide) he hpl) fun σ H Q ⟨S, fr, t, S', h, e, q⟩ => by
    obtain ⟨⟨ts, S1⟩, e1, e⟩ := Option.bind_eq_some_iff.mp e
    refine ⟨S, fr, ts, S1, h, e1, fun vs H1 _ l1 h1 => ?_⟩
    simp only at e
    split at e
    · rename_i t0
      obtain ⟨ds, e2, e⟩ := Option.bind_eq_some_iff.mp e
      obtain ⟨rfl, rfl⟩ : T.sh (.tup ds) = t ∧ S1 = S' := by simpa using e
      match vs, l1 with
      | [v], _ =>
        have h2 : AtS X.K H1 σ S1 ((v, .sh (fz t0)) :: fr) := AtS.freeze h1
        cases hd : fz t0 with
        | lst xs =>
          rw [hd] at h2 e2
          have z : xs = ds := by simpa [items] using e2
          subst z
          obtain ⟨a, us, rfl, k, l2, h3⟩ := h2.at1.kids
          refine ⟨a, us, rfl, .inl ⟨k, fun l hl => q _ _ ?_⟩⟩
          have z := (AtS.of h2.1 (h3.newT (by rw [List.length_map]; exact l2) hl)).freeze
          rw [fz_kids] at z
          exact z
        | tup xs =>
          rw [hd] at h2 e2
          have z : xs = ds := by simpa [items] using e2
          subst z
          have h5 := h2
          obtain ⟨a, us, rfl, k, l2, h3⟩ := h2.at1.kidsT
          exact ⟨a, us, rfl, .inr ⟨k, q _ _ h5⟩⟩
        | _ =>
          rw [hd] at e2
          cases e2
    · cases e
end
end VS
namespace VS
open PySem PySem.Spec PyProof.Rows L2
section
variable {K : PySem.W.Frag} {H : Hp} {ps : Ps} {own : List Addr}
theorem AtA.freeze {v : V} {t : T} (h : AtA K H own ((v, t) :: ps)) : AtA K H own ((v, .sh (fz t)) :: ps) := by
  obtain ⟨G, fp, s, ⟨f, g, rfl, o1, o2⟩, nd, e0, x⟩ := h
  have nf : (f ++ g).Nodup := (List.nodup_append.mp nd).2.1
  let G' : Hp := fun b => if b ∈ f then H b else G b
  have in_f : ∀ b ∈ f, G' b = H b := fun b hb => if_pos hb
  have out_f : ∀ b, b ∉ f → G' b = G b := fun b hb => if_neg hb
  have s1 : Same G G' := fun b o q => by
    by_cases hb : b ∈ f
    · rw [in_f b hb]; exact s b o q
    · rw [out_f b hb]; exact q
  have s2 : Same G' H := fun b o q => by
    by_cases hb : b ∈ f
    · rw [in_f b hb] at q; exact q
    · rw [out_f b hb] at q; exact s b o q
  have r := o1.fz s1 in_f
  have apart : ∀ b ∈ own ++ g, b ∉ f := fun b hb z => by
    rcases List.mem_append.mp hb with h1 | h1
    · exact (List.nodup_append.mp nd).2.2 b h1 b (List.mem_append_left _ z) rfl
    · exact (List.nodup_append.mp nf).2.2 b z b h1 rfl
  refine ⟨G', g, s2, ⟨[], g, rfl, ⟨rfl, r⟩, o2.mono s1 fun _ _ => rfl⟩, nd.sublist (List.Sublist.append_left (List.sublist_append_right f g) own), fun b hb => ?_, x⟩
  rw [out_f b (apart b hb)]
  refine e0 b ?_
  rcases List.mem_append.mp hb with h1 | h1
  · exact List.mem_append_left _ h1
  · exact List.mem_append_right _ (List.mem_append_right _ h1)
theorem zip_at : ∀ {vs : List V} {ts : List T} {n : Nat} {t : T}, vs.length = ts.length → ts[n]? = some t → ∃ (w : V) (A B : Ps), vs[n]? = some w ∧ vs.zip ts = A ++ (w, t) :: B ∧ ∀ u, vs.zip (ts.set n u) = A ++ (w, u) :: B
  | [], [], n, t, _, h => by simp at h
  | v :: vs, t0 :: ts, 0, t, _, h => by
    have z : t0 = t := by simpa using h
    subst z
    exact ⟨v, [], vs.zip ts, rfl, rfl, fun u => rfl⟩
  | v :: vs, t0 :: ts, n + 1, t, l, h => by
    obtain ⟨w, A, B, h1, h2, h3⟩ := zip_at (vs := vs) (ts := ts) (n := n) (Nat.succ.inj l) (by simpa using h)
    exact ⟨w, (v, t0) :: A, B, by simpa using h1, by rw [List.zip_cons_cons, h2, List.cons_append], fun u => by rw [List.set_cons_succ, List.zip_cons_cons, h3, List.cons_append]⟩
  | [], _ :: _, _, _, l, _ => nomatch l
  | _ :: _, [], _, _, l, _ => nomatch l
theorem At.frz1 {v : V} {ts : List T} {n : Nat} {t : T} (h : At K H ((v, .lst ts) :: ps)) (e : ts[n]? = some t) : At K H ((v, .lst (ts.set n (.sh (fz t)))) :: ps) := by
  obtain ⟨a, vs, rfl, ha, l, h2⟩ := h.open
  obtain ⟨w, A, B, _, z1, z2⟩ := zip_at l e
  rw [z1] at h2
  have p1 : ∀ u : T, ((A ++ (w, u) :: B) ++ ps).Perm ((w, u) :: (A ++ B ++ ps)) := fun u => by
    rw [List.append_assoc, List.append_assoc]
    exact List.perm_middle
  have h3 := (h2.perm (p1 t)).freeze.perm (p1 (.sh (fz t))).symm
  rw [← z2 (.sh (fz t))] at h3
  exact h3.closed (by rw [List.length_set]; exact l) ha
end
/-- a child of a tree, shared from now on -/
def kidF (t : T) (i : Int) : Option (D × T) := match t with
  | .lst ts => (ixN ts.length i).bind fun n => (ts[n]?).map fun t => (fz t, .lst (ts.set n (.sh (fz t))))
  | t => (kid t i).bind fun u => match u with
    | .sh d => some (d, t)
    | _ => none
theorem At.kidF {K : PySem.W.Frag} {H : Hp} {ps : Ps} {v : V} {t t' : T} {i : Int} {d : D} (h : At K H ((v, t) :: ps)) (e : VS.kidF t i = some (d, t')) : kid t' i = some (.sh d) ∧ At K H ((v, t') :: ps) := by
  cases t with
  | lst ts =>
    obtain ⟨n, e1, e2⟩ := Option.bind_eq_some_iff.mp (show ((ixN ts.length i).bind fun n => (ts[n]?).map fun t => (fz t, T.lst (ts.set n (.sh (fz t))))) = some (d, t') from e)
    obtain ⟨u, e3, e4⟩ := Option.map_eq_some_iff.mp e2
    cases e4
    refine ⟨?_, h.frz1 e3⟩
    show L2.atI (ts.set n (T.sh (fz u))) i = _
    unfold L2.atI
    rw [List.length_set, e1, Option.bind_some, List.getElem?_set_self (List.getElem?_eq_some_iff.mp e3).1]
  | sh d0 =>
    obtain ⟨u, e1, e2⟩ := Option.bind_eq_some_iff.mp (show ((kid (.sh d0) i).bind fun u => match u with | .sh d => some (d, T.sh d0) | _ => none) = some (d, t') from e)
    cases u with
    | sh d1 => cases e2; exact ⟨e1, h⟩
    | _ => cases e2
  | tup ts =>
    obtain ⟨u, e1, e2⟩ := Option.bind_eq_some_iff.mp (show ((kid (.tup ts) i).bind fun u => match u with | .sh d => some (d, T.tup ts) | _ => none) = some (d, t') from e)
    cases u with
    | sh d1 => cases e2; exact ⟨e1, h⟩
    | _ => cases e2
section
variable {X : Cx} {b : Expr} {pos : Pos}
def eIxK (j : Nat) (mb : ME) : ME := fun S => match S[j]? with
  | some (some _) => (mb S).bind fun q => match q.2[j]? with
    | some (some t0) => (match fz q.1 with
      | .int i => (kidF t0 i).bind fun p => some (.sh p.1, q.2.set j (some p.2))
      | _ => none)
    | _ => none
  | _ => none
theorem ve_ixK (j : Nat) {x : Str} {px : Pos} {mb : ME} (hb : VE X b mb) (hs : PlainIx b := by exact fun _ _ => rfl) (hN : X.N[j]? = some x := by rfl) (hv : Vis X.env.scope x := by first | exact Or.inl rfl | exact Or.inr (Or.inl rfl) | exact Or.inr (Or.inr rfl)) (hd : (x == ("__debug__" : Str)) = false := by decide)
    (hcd : (x == ("__classdict__" : Str)) = false := by decide) : VE X (.Subscript (.Name x px) b pos) (eIxK j mb) := PE.imp (pe_ix ix_seq (pe_var hN hv hd hcd) hb hs) fun σ H Q ⟨S, fr, t, S', h, e, q⟩ => by
  unfold eIxK at e
  split at e
  · rename_i t1 e0
    obtain ⟨⟨tb, S2⟩, e2, e⟩ := Option.bind_eq_some_iff.mp e
    obtain ⟨v, hv, _⟩ := h.take e0
    refine ⟨v, hv, S, fr, tb, S2, h, e2, fun u H2 h2 => ?_⟩
    simp only at e
    split at e
    · rename_i t0 e4
      split at e
      · rename_i i ei
        obtain ⟨⟨d, t2⟩, e3, e⟩ := Option.bind_eq_some_iff.mp e
        obtain ⟨rfl, rfl⟩ : T.sh d = t ∧ S2.set j (some t2) = S' := by simpa using e
        have ru := h2.rep
        rw [ei] at ru
        rw [show u = .int i from ru]
        obtain ⟨v', hv', k⟩ := h2.take e4
        rw [hv] at hv'
        cases hv'
        obtain ⟨kk, k1⟩ := At.kidF k.at1 e3
        obtain ⟨w, ix, k2⟩ := At.peek k1 kk
        have k3 : AtS X.K H2 σ (S2.set j none) ((v, t2) :: (w, .sh d) :: fr) := (AtS.of k.1 k2 : AtS X.K H2 σ (S2.set j none) ((w, .sh d) :: (v, t2) :: (u, tb) :: fr)).sub ⟨[(u, tb)], (List.Perm.swap ..).trans (List.perm_middle (l₁ := [(v, t2), (w, T.sh d)]))⟩
        have k4 := k3.back hv
        rw [List.set_set] at k4
        exact ix.rIx (q w H2 k4)
      · cases e
    · cases e
  · cases e
/-- over a list or a tuple -/
def iSeq' (me : ME) : MI := fun S => (me S).bind fun p => (items (fz p.1)).map fun ds => (ds, p.2)
theorem vi_seq {tg e : Expr} {me : ME} (he : VE X e me) : VI X tg e (iSeq' me) := ⟨fun pins s σ H R I ⟨S, fr, ds, S', h, ev, q⟩ => by
  obtain ⟨⟨t, S1⟩, e1, e2⟩ := Option.bind_eq_some_iff.mp ev
  obtain ⟨ds', e3, e4⟩ := Option.map_eq_some_iff.mp e2
  cases e4
  cases hd : fz t with
  | lst xs =>
    rw [hd] at e3
    obtain rfl : xs = ds := by simpa [items] using e3
    refine (vi_list he).run pins s σ H R I ⟨S, fr, _, _, h, ?_, q⟩
    unfold iList'
    rw [e1, Option.bind_some]
    simp only [hd]
  | tup xs =>
    rw [hd] at e3
    obtain rfl : xs = ds := by simpa [items] using e3
    refine (vi_tup he).run pins s σ H R I ⟨S, fr, _, _, h, ?_, q⟩
    unfold iTup'
    rw [e1, Option.bind_some]
    simp only [hd]
  | _ =>
    rw [hd] at e3
    cases e3⟩
end
end VS
namespace VS
open PySem PySem.Spec PyProof.Rows L2
section
variable {K : PySem.W.Frag} {H : Hp} {ps : Ps} {own : List Addr}
theorem AtA.dup {v : V} {d : D} (h : AtA K H own ((v, .sh d) :: ps)) : AtA K H own ((v, .sh d) :: (v, .sh d) :: ps) := by
  obtain ⟨G, fp, s, ⟨f, g, rfl, ⟨rfl, o1⟩, o2⟩, n, e0, x⟩ := h
  exact ⟨G, [] ++ ([] ++ g), s, ⟨[], _, rfl, ⟨rfl, o1⟩, [], g, rfl, ⟨rfl, o1⟩, o2⟩, n, e0, x⟩
/-- all children shared -/
theorem AtA.frzAll : ∀ {vs : List V} {ts : List T} {ps : Ps}, vs.length = ts.length → AtA K H own (vs.zip ts ++ ps) → AtA K H own (vs.zip (ts.map fun t => .sh (fz t)) ++ ps) 
  | [], [], _, _, h => h
  | v :: vs, t :: ts, ps, l, h => by
    have h1 : AtA K H own ((v, t) :: (vs.zip ts ++ ps)) := h
    have h2 := h1.freeze.perm (List.perm_middle (l₁ := vs.zip ts) (l₂ := ps)).symm
    have h3 := AtA.frzAll (ps := (v, .sh (fz t)) :: ps) (Nat.succ.inj l) h2
    exact h3.perm List.perm_middle
  | [], _ :: _, _, l, _ => nomatch l
  | _ :: _, [], _, l, _ => nomatch l
/-- shared children doubled -/
theorem AtA.dupAll : ∀ {vs : List V} {ds : List D} {ps : Ps}, vs.length = ds.length → AtA K H own (vs.zip (ds.map .sh) ++ ps) → AtA K H own (vs.zip (ds.map .sh) ++ (vs.zip (ds.map .sh) ++ ps))
  | [], [], _, _, h => h
  | v :: vs, d :: ds, ps, l, h => by
    have h1 : AtA K H own ((v, .sh d) :: (vs.zip (ds.map .sh) ++ ps)) := h
    have h2 : AtA K H own ((vs.zip (ds.map .sh)) ++ ((v, .sh d) :: (v, .sh d) :: ps)) := h1.dup.perm (by
      refine List.Perm.trans (List.Perm.cons _ List.perm_middle.symm) ?_
      exact List.perm_middle.symm)
    have h3 := AtA.dupAll (ps := (v, .sh d) :: (v, .sh d) :: ps) (Nat.succ.inj l) h2
    refine h3.perm ?_
    show (vs.zip (ds.map T.sh) ++ (vs.zip (ds.map T.sh) ++ (v, T.sh d) :: (v, T.sh d) :: ps)).Perm ((v, T.sh d) :: (vs.zip (ds.map T.sh) ++ ((v, T.sh d) :: (vs.zip (ds.map T.sh) ++ ps))))
    refine List.Perm.trans (List.Perm.append_left _ List.perm_middle) ?_
    refine List.Perm.trans List.perm_middle ?_
    refine List.Perm.cons _ (List.Perm.append_left _ List.perm_middle)
  | [], _ :: _, _, l, _ => nomatch l
  | _ :: _, [], _, l, _ => nomatch l
/-- an owned list: its children, doubled, and the list with shared children -/
theorem At.kidsK {v : V} {ts : List T} (h : At K H ((v, .lst ts) :: ps)) : ∃ a us, v = .ref a ∧ SqL K H a us ∧ us.length = ts.length ∧ At K H (us.zip ((ts.map fz).map .sh) ++ ((v, .lst ((ts.map fz).map .sh)) :: ps)) := by
  obtain ⟨a, us, rfl, ha, l, h1⟩ := h.open
  have h2 := AtA.frzAll l h1
  rw [show (ts.map fun t => T.sh (fz t)) = (ts.map fz).map T.sh by rw [List.map_map]; rfl] at h2
  have l2 : us.length = (ts.map fz).length := by rw [List.length_map]; exact l
  have h3 := AtA.dupAll l2 h2
  have h4 := AtA.closed (ps := us.zip ((ts.map fz).map .sh) ++ ps) h3 (by rw [List.length_map]; exact l2) ha
  exact ⟨a, us, rfl, .inl (.inl ha), l, h4.perm List.perm_middle.symm⟩
end
section
variable {X : Cx} {pos : Pos}
/-- x[i:j], x a name of an owned list: its children are shared, the list stays owned -/
def eSlK (j : Nat) (l h : Sto → Option (Option Int)) : ME := fun S => match S[j]? with
  | some (some (.lst ts)) => (l S).bind fun lo => (h S).bind fun hi => some (.lst ((VS.cutD (ts.map fz) lo hi).map .sh), S.set j (some (.lst ((ts.map fz).map .sh))))
  | _ => none
theorem ve_slK (j : Nat) {x : Str} {px p2 : Pos} {lo hi : Option Expr} {l h : Sto → Option (Option Int)} (hl : PO X lo (tPO X.K l)) (hh : PO X hi (tPO X.K h)) (hN : X.N[j]? = some x := by rfl) (hv : Vis X.env.scope x := by first | exact Or.inl rfl | exact Or.inr (Or.inl rfl) | exact Or.inr (Or.inr rfl)) (hd : (x == ("__debug__" : Str)) = false := by decide)
    (hcd : (x == ("__classdict__" : Str)) = false := by decide) : VE X (.Subscript (.Name x px) (.Slice lo hi none p2) pos) (eSlK j l h) := PE.imp (pe_slice sl_list (pe_var hN hv hd hcd) hl hh) fun σ H Q ⟨S, fr, t, S', h0, e, q⟩ => by
  unfold eSlK at e
  split at e
  · rename_i ts e0
    obtain ⟨lo', e1, e⟩ := Option.bind_eq_some_iff.mp e
    obtain ⟨hi', e2, e⟩ := Option.bind_eq_some_iff.mp e
    cases e
    obtain ⟨v, hv2, k⟩ := h0.take e0
    obtain ⟨a, us, rfl, sq, ll, k2⟩ := At.kidsK k.at1
    refine ⟨.ref a, hv2, S, fr, lo', h0, e1, S, fr, hi', h0, e2, a, us, rfl, sq, fun p hp => q _ _ ?_⟩
    have c := At.cut k2 (HT.sIx us.length 0 lo') (HT.sIx us.length us.length hi' - HT.sIx us.length 0 lo')
    have l3 : us.length = (ts.map fz).length := by rw [List.length_map]; exact ll
    have e4 : (VS.cutD (ts.map fz) lo' hi').map T.sh = (((ts.map fz).map T.sh).drop (HT.sIx us.length 0 lo')).take (HT.sIx us.length us.length hi' - HT.sIx us.length 0 lo') := by
      unfold VS.cutD
      rw [List.map_take, List.map_drop, l3]
    rw [← e4] at c
    have l4 : ((us.drop (HT.sIx us.length 0 lo')).take (HT.sIx us.length us.length hi' - HT.sIx us.length 0 lo')).length = ((VS.cutD (ts.map fz) lo' hi').map T.sh).length := by
      rw [e4, List.length_take, List.length_take, List.length_drop, List.length_drop, List.length_map, l3]
    have n := At.newL c l4 hp
    have n2 : AtS X.K (upd H p (.lst ((us.drop (HT.sIx us.length 0 lo')).take (HT.sIx us.length us.length hi' - HT.sIx us.length 0 lo')))) σ (S.set j none) ((.ref a, .lst ((ts.map fz).map .sh)) :: (.ref p, .lst ((VS.cutD (ts.map fz) lo' hi').map .sh)) :: fr) :=
      AtS.of k.1 (n.perm (List.Perm.swap ..))
    have n3 := n2.back hv2
    rw [List.set_set] at n3
    exact n3
  · cases e
end
end VS
/-! The functions, reckoned with. -/
namespace VS
open PySem PySem.Spec PyProof.Rows L2
/-! ### steps -/
theorem sSeq_nx {m m' : MS} {S S1 : Sto} (h : m S = some (.nx S1)) : sSeq m m' S = m' S1 := by unfold sSeq; rw [h]; rfl
theorem sSeq_rt {m m' : MS} {S S1 : Sto} {t : T} (h : m S = some (.rt t S1)) : sSeq m m' S = some (.rt t S1) := by unfold sSeq; rw [h]; rfl
theorem sSeq_ct {m m' : MS} {S S1 : Sto} (h : m S = some (.ct S1)) : sSeq m m' S = some (.ct S1) := by unfold sSeq; rw [h]; rfl
theorem sSeq_bk {m m' : MS} {S S1 : Sto} (h : m S = some (.bk S1)) : sSeq m m' S = some (.bk S1) := by unfold sSeq; rw [h]; rfl
theorem sIf_t {q : MT} {m m' : MS} {S S1 : Sto} (h : q S = some (true, S1)) : sIf q m m' S = m S1 := by unfold sIf; rw [h]; rfl
theorem sIf_f {q : MT} {m m' : MS} {S S1 : Sto} (h : q S = some (false, S1)) : sIf q m m' S = m' S1 := by unfold sIf; rw [h]; rfl
theorem while_mono {t : MT} {b : MS} : ∀ {n k : Nat} {S : Sto} {f : Fl}, mWhile t b n S = some f → n ≤ k → mWhile t b k S = some f
  | 0, _, _, _, h, _ => by cases h
  | n + 1, 0, _, _, _, l => by omega
  | n + 1, k + 1, S, f, h, l => by
    obtain ⟨⟨x, S2⟩, e2, e3⟩ := Option.bind_eq_some_iff.mp (show (t S).bind _ = some f from h)
    show (t S).bind _ = some f
    rw [e2]
    show (if x = true then _ else _) = some f
    have e3' : (if x = true then _ else _) = some f := e3
    cases x with
    | false => exact e3'
    | true =>
      rw [if_pos rfl] at e3' ⊢
      obtain ⟨f1, e4, e5⟩ := Option.bind_eq_some_iff.mp e3'
      rw [e4]
      cases f1 with
      | nx S3 => exact while_mono (n := n) (k := k) e5 (by omega)
      | ct S3 => exact while_mono (n := n) (k := k) e5 (by omega)
      | bk S3 => exact e5
      | rt r S3 => exact e5
theorem while_t {t : MT} {b : MS} {n : Nat} {S S1 S2 : Sto} (h : t S = some (true, S1)) (h2 : b S1 = some (.nx S2)) : mWhile t b (n + 1) S = mWhile t b n S2 := by
  show (t S).bind _ = _
  rw [h]
  show (b S1).bind _ = _
  rw [h2]
  rfl
theorem while_f {t : MT} {b : MS} {n : Nat} {S S1 : Sto} (h : t S = some (false, S1)) : mWhile t b (n + 1) S = some (.nx S1) := by
  show (t S).bind _ = _
  rw [h]
  rfl
theorem loop_nil {g : T → Sto → Option Sto} {b : MS} {S : Sto} : loopF g b [] S = some (.nx S) := rfl
theorem loop_nx {g : T → Sto → Option Sto} {b : MS} {d : D} {ds : List D} {S S1 S2 : Sto} (h : g (.sh d) S = some S1) (h2 : b S1 = some (.nx S2)) : loopF g b (d :: ds) S = loopF g b ds S2 := by
  show (g (.sh d) S).bind _ = _
  rw [h]
  show (b S1).bind _ = _
  rw [h2]
  rfl
theorem loop_ct {g : T → Sto → Option Sto} {b : MS} {d : D} {ds : List D} {S S1 S2 : Sto} (h : g (.sh d) S = some S1) (h2 : b S1 = some (.ct S2)) : loopF g b (d :: ds) S = loopF g b ds S2 := by
  show (g (.sh d) S).bind _ = _
  rw [h]
  show (b S1).bind _ = _
  rw [h2]
  rfl
theorem loop_bk {g : T → Sto → Option Sto} {b : MS} {d : D} {ds : List D} {S S1 S2 : Sto} (h : g (.sh d) S = some S1) (h2 : b S1 = some (.bk S2)) : loopF g b (d :: ds) S = some (.nx S2) := by
  show (g (.sh d) S).bind _ = _
  rw [h]
  show (b S1).bind _ = _
  rw [h2]
  rfl
theorem loop_rt {g : T → Sto → Option Sto} {b : MS} {d : D} {ds : List D} {S S1 S2 : Sto} {t : T} (h : g (.sh d) S = some S1) (h2 : b S1 = some (.rt t S2)) : loopF g b (d :: ds) S = some (.rt t S2) := by
  show (g (.sh d) S).bind _ = _
  rw [h]
  show (b S1).bind _ = _
  rw [h2]
  rfl
theorem sizeLine_val : sizeLine = 16777216 := by decide
/-! ### == on data -/
@[simp] theorem deq_int (i j : Int) : deq (.int i) (.int j) = (i == j) := rfl
@[simp] theorem deq_str (i j : Str) : deq (.str i) (.str j) = (i == j) := rfl
@[simp] theorem deq_bl (i j : Bool) : deq (.bl i) (.bl j) = (i == j) := rfl
@[simp] theorem sc2_int (i j : Int) : sc2 (.int i) (.int j) = true := rfl
@[simp] theorem sc2_str (i j : Str) : sc2 (.str i) (.str j) = true := rfl
@[simp] theorem sc2_bl (i j : Bool) : sc2 (.bl i) (.bl j) = true := rfl
@[simp] theorem sc_int (i : Int) : sc (.int i) = true := rfl
@[simp] theorem sc_str (i : Str) : sc (.str i) = true := rfl
@[simp] theorem sc_bl (i : Bool) : sc (.bl i) = true := rfl
@[simp] theorem sc_non : sc .non = true := rfl
/-- texts by their signs -/
abbrev tx (l : List Nat) : Str := ⟨l.toArray⟩
theorem tx_eta (x : Str) : tx x.cps.toList = x := by cases x; rfl
@[simp] theorem tx_len (l : List Nat) : (tx l).length = l.length := by show l.toArray.size = _; simp
@[simp] theorem tx_app (l m : List Nat) : tx l ++ tx m = tx (l ++ m) := by
  show (⟨l.toArray ++ m.toArray⟩ : Str) = _
  simp
theorem tx_inj {l m : List Nat} (h : tx l = tx m) : l = m := by
  have := congrArg (fun x => x.cps.toList) h
  simpa using this
@[simp] theorem tx_beq (l m : List Nat) : (tx l == tx m) = (l == m) := by
  rw [Bool.eq_iff_iff]
  simp only [beq_iff_eq]
  exact ⟨tx_inj, fun h => by rw [h]⟩
theorem atI_pos {α : Type} {xs : List α} {j : Nat} : L2.atI xs (j : Int) = xs[j]? := by
  unfold L2.atI ixN
  rw [if_pos (by omega)]
  by_cases h : j < xs.length
  · rw [if_pos (by omega)]
    simp
  · rw [if_neg (by omega)]
    simp
    omega
end VS
namespace VS
open PySem PySem.Spec PyProof.Rows L2
theorem lenOk_tx {l : List Nat} (h : l.length ≤ 10000000) : lenOk (tx l) = true := lenOk_iff.mpr (by rw [tx_len, sizeLine_val]; omega)
theorem dLen_tx {l : List Nat} (h : l.length ≤ 10000000) : dLen [.str (tx l)] = some (.int (l.length : Nat)) := by
  show (if lenOk (tx l) = true then some (D.int ((tx l).length : Nat)) else none) = _
  rw [if_pos (lenOk_tx h), tx_len]
theorem dIx_tx {l : List Nat} {j c : Nat} (h : l.length ≤ 10000000) (e : l[j]? = some c) : dIx (.str (tx l)) (.int (j : Nat)) = some (.str (tx [c])) := by
  show (if lenOk (tx l) = true then (L2.atI (tx l).cps.toList ((j : Nat) : Int)).map (fun c => D.str ⟨#[c]⟩) else none) = _
  rw [if_pos (lenOk_tx h), atI_pos, show (tx l).cps.toList = l by simp, e]
  rfl
@[simp] theorem sign1_tx {c : Nat} : sign1 (tx [c]) = some c := rfl
@[simp] theorem dIn_tx {c : Nat} {l : List Nat} : dIn (.str (tx [c])) (.str (tx l)) = some (.bl (decide (c ∈ l))) := by
  rw [dIn]
  rfl
@[simp] theorem dNotIn_tx {c : Nat} {l : List Nat} : dNotIn (.str (tx [c])) (.str (tx l)) = some (.bl (!decide (c ∈ l))) := by
  unfold dNotIn dNot
  rw [dIn_tx]
  rfl
theorem cutS_tx {l : List Nat} {a b : Nat} : cutS (tx l) (some (a : Nat)) (some (b : Nat)) = tx ((l.drop a).take (b - a)) := by
  unfold cutS
  rw [HT.sIx_nat, HT.sIx_nat, tx_len, show (tx l).cps.toList = l by simp]
  congr 2
  by_cases h : a ≤ l.length
  · rw [Nat.min_eq_left h]
    by_cases h2 : b ≤ l.length
    · rw [Nat.min_eq_left h2]
    · rw [Nat.min_eq_right (by omega), List.take_of_length_le (by rw [List.length_drop]; omega), List.take_of_length_le (by rw [List.length_drop]; omega)]
  · have e : min a l.length = l.length := Nat.min_eq_right (by omega)
    rw [e, List.drop_eq_nil_of_le (Nat.le_refl _), List.drop_eq_nil_of_le (by omega)]
    simp
theorem dSl_tx {l : List Nat} {a b : Nat} (h : l.length ≤ 10000000) : dSlS (some (a : Nat)) (some (b : Nat)) (.str (tx l)) = some (.str (tx ((l.drop a).take (b - a)))) := by
  show (if lenOk (tx l) = true then _ else _) = _
  rw [if_pos (lenOk_tx h), cutS_tx]
theorem mFor_of {mi : MI} {g : T → Sto → Option Sto} {b : MS} {S S1 : Sto} {ds : List D} (h : mi S = some (ds, S1)) : mFor mi g b S = loopF g b ds S1 := by
  unfold mFor
  rw [h]
  rfl
theorem near_nat {n : Nat} (h : n ≤ 1000000) : near (n : Int) = true := decide_eq_true ⟨by omega, by omega⟩
theorem iRng1_go {m : Sto → Option (List D)} {S : Sto} {j : Int} (h : m S = some [.int j]) (hn : near j = true) : iRng1' m S = some (rngD 0 j.toNat, S) := by
  unfold iRng1'
  rw [h]
  exact if_pos hn
theorem iRng2_go {m : Sto → Option (List D)} {S : Sto} {i j : Int} (h : m S = some [.int i, .int j]) (hn : near i = true) (hn2 : near j = true) : iRng2' m S = some (rngD i (j - i).toNat, S) := by
  unfold iRng2'
  rw [h]
  exact if_pos (by rw [hn, hn2]; rfl)
theorem iRng1_of {m : Sto → Option (List D)} {S : Sto} {n : Nat} (h : m S = some [.int (n : Nat)]) (hn : n ≤ 1000000) : iRng1' m S = some (rngD 0 n, S) := by
  rw [iRng1_go h (near_nat hn), Int.toNat_natCast]
theorem iRng2_of {m : Sto → Option (List D)} {S : Sto} {a b : Nat} (h : m S = some [.int (a : Nat), .int (b : Nat)]) (ha : a ≤ 1000000) (hb : b ≤ 1000000) : iRng2' m S = some (rngD (a : Nat) (b - a), S) := by
  rw [iRng2_go h (near_nat ha) (near_nat hb), show ((b : Int) - (a : Int)).toNat = b - a by omega]
/-- trees in slots -/
abbrev tS (l : List Nat) : T := .sh (.str (tx l))
abbrev tI (i : Nat) : T := .sh (.int (i : Int))
abbrev tZ (i : Int) : T := .sh (.int i)
abbrev tN : T := .sh .non
abbrev tBl (b : Bool) : T := .sh (.bl b)
@[simp] theorem fz_sh (d : D) : fz (.sh d) = d := rfl
@[simp] theorem fz_lst (ts : List T) : fz (.lst ts) = .lst (ts.map fz) := by rw [fz, fzL_map]
@[simp] theorem fz_tup (ts : List T) : fz (.tup ts) = .tup (ts.map fz) := by rw [fz, fzL_map]
theorem str_of {s : String} {l : List Nat} (h : s.toList.map Char.toNat = l) : Str.ofString s = tx l := by
  rw [Str.ofString_eq_toList, h]
end VS
namespace VS
open PySem PySem.Spec PyProof.Rows L2
@[simp] theorem asB_bl (b : Bool) : asB (.bl b) = some b := rfl
theorem rng_cons (a : Int) (n : Nat) : rngD a (n + 1) = .int a :: rngD (a + 1) n := by
  unfold rngD
  rw [List.range_succ_eq_map, List.map_cons, List.map_map]
  congr 1
  · simp
  · apply List.map_congr_left
    intro i _
    show D.int _ = D.int _
    congr 1
    show a + ((i + 1 : Nat) : Int) = a + 1 + (i : Int)
    omega
theorem rng_zero (a : Int) : rngD a 0 = [] := rfl
/-! ### numbers drawn from a script -/
abbrev drTail : MS := (sSeq (sAsg (ofP (p2 dMod (pCall dInt (paCons (p2 dAdd (p2 dAdd (p2 dMul (pV 2) (pC (.int 48271))) (p2 dMul (pV 5) (pC (.int 69621)))) (pC (.int 11))) ((fun _ => some [])))) (pC (.int 2147483647)))) (putS 7)) (sSeq (sAsg (ofP (p2 dMod (pCall dInt (paCons (p2 dAdd (p2 dDiv (p2 dMul (pV 7) (pV 7)) (pC (.int 4096))) (pV 7)) ((fun _ => some [])))) (pC (.int 2147483629)))) (putS 7)) (sApp 4 (ofP (p2 dMod (pCall dInt (paCons (p2 dAdd (p2 dDiv (p2 dMul (pV 7) (pV 7)) (pC (.int 4096))) (p2 dMul (pV 5) (pC (.int 7919)))) ((fun _ => some [])))) (pC (.int 2147483629))))))) 
abbrev drBody : MS := (sSeq (sAsg (eVar 5) (putS 2)) (sSeq (sIf (ofB (pB (p2 dGt (pCall dLen (paCons (pV 0) ((fun _ => some [])))) (pC (.int 0))))) (sSeq (sAsg (ofP (p2 dMod (pV 5) (pCall dLen (paCons (pV 0) ((fun _ => some [])))))) (putS 6)) (sSeq (sAsg (ofP (pCall dInt (paCons (p2 dIx (pV 0) (pV 6)) ((fun _ => some []))))) (putS 2)) (sIf (ofB (bAnd (pB (p2 dGe (pV 2) (p2 dPow (pC (.int 10)) (pC (.int 18))))) (pB (p2 dGt (p2 dIx (pV 3) (pV 6)) (pC (.int 0)))))) (sSeq (sApp 4 (ofP (p2 dMod (pCall dInt (paCons (p2 dIx (pV 3) (pV 6)) ((fun _ => some [])))) (pC (.int 1000003))))) (sSeq (sSetI 3 (ofP (p2 dDiv (pCall dInt (paCons (p2 dIx (pV 3) (pV 6)) ((fun _ => some [])))) (pC (.int 1000003)))) (eVar 6)) (sCont))) (sNext)))) (sNext)) drTail))
abbrev drLc : ME := (eLc (iList' (eVar 0)) (putS 2) (qYes) (ofP (pCall dAbs (paCons (pCall dInt (paCons (pV 2) ((fun _ => some [])))) ((fun _ => some []))))) [2])
def drF : MS := sSeq (sAsg drLc (putS 3)) (sSeq (sAsg (eLst (aNil)) (putS 4)) (sSeq (mFor (iRng1' (paCons (pV 1) ((fun _ => some [])))) (putS 5) drBody) (sRet (eMov 4))))
def fDraws : Fn := mkFn 2 8 [] drF
theorem fm_lo (a : Int) {b : Int} (h : 0 < b) : 0 ≤ a.fmod b := Int.fmod_nonneg_of_pos a h
theorem fm_hi (a : Int) {b : Int} (h : 0 < b) : a.fmod b < b := Int.fmod_lt_of_pos a h
theorem small_of {i : Int} (h1 : 0 ≤ i) (h2 : i < 2147483648) : small64 i = true := by
  unfold small64
  exact decide_eq_true (by omega)
abbrev drS (ns rs ds : List Int) (m : Int) (o2 : Option T) (o5 o6 o7 : Option T) : Sto := [some (.sh (.lst (ns.map .int))), some (tZ m), o2, some (.lst (rs.map tZ)), some (.lst (ds.map tZ)), o5, o6, o7]
theorem dMul_r {i j : Int} (h : small64 j = true) : dMul (.int i) (.int j) = some (.int (i * j)) := by
  show (if (small64 i || small64 j) = true then _ else _) = _
  rw [if_pos (by rw [h, Bool.or_true])]
theorem dMod_of {i j : Int} (h : 0 < j) : dMod (.int i) (.int j) = some (.int (i.fmod j)) := if_pos (Int.ne_of_gt h)
theorem dDiv_of {i j : Int} (h : j ≠ 0) (h2 : j.natAbs.log2 < 9000) : dDiv (.int i) (.int j) = some (.int (i.fdiv j)) := if_pos ⟨h, h2⟩
@[simp] theorem dAdd_ii {i j : Int} : dAdd (.int i) (.int j) = some (.int (i + j)) := rfl
@[simp] theorem dSub_ii {i j : Int} : dSub (.int i) (.int j) = some (.int (i - j)) := rfl
@[simp] theorem dInt_i {i : Int} : dInt [.int i] = some (.int i) := rfl
theorem p2_of {g : D → D → Option D} {ma mb : MP} {S : Sto} {x y z : D} (h1 : ma S = some x) (h2 : mb S = some y) (h3 : g x y = some z) : p2 g ma mb S = some z := by
  unfold p2
  rw [h1, Option.bind_some, h2, Option.bind_some, h3]
theorem pc1_of {g : List D → Option D} {ma : MP} {S : Sto} {x z : D} (h1 : ma S = some x) (h3 : g [x] = some z) : pCall g (paCons ma fun _ => some []) S = some z := by
  unfold pCall paCons
  rw [h1, Option.bind_some, Option.bind_some, Option.bind_some, h3]
theorem pB_of {m : MP} {S : Sto} {b : Bool} (h : m S = some (.bl b)) : pB m S = some b := by
  unfold pB
  rw [h, Option.bind_some]
  rfl
theorem ofB_of {m : MB} {S : Sto} {b : Bool} (h : m S = some b) : ofB m S = some (b, S) := by
  unfold ofB
  rw [h, Option.bind_some]
theorem sApp_of {j : Nat} {me : ME} {S S1 : Sto} {t : T} {ts us : List T} (h0 : S[j]? = some (some (.lst us))) (h : me S = some (t, S1)) (h2 : S1[j]? = some (some (.lst ts))) (h3 : ts.length < sizeLine) : sApp j me S = some (.nx (S1.set j (some (.lst (ts ++ [t]))))) := by
  unfold sApp
  rw [h0]
  show (me S).bind _ = _
  rw [h, Option.bind_some]
  simp only [h2]
  rw [if_pos h3]
theorem sAsg_of {m : ME} {g : T → Sto → Option Sto} {S S1 S2 : Sto} {t : T} (h : m S = some (t, S1)) (h2 : g t S1 = some S2) : sAsg m g S = some (.nx S2) := by
  unfold sAsg
  rw [h, Option.bind_some, h2, Option.bind_some]
theorem ofP_of {m : MP} {S : Sto} {d : D} (h : m S = some d) (hs : sc d = true) : ofP m S = some (.sh d, S) := by
  unfold ofP
  rw [h, Option.bind_some, if_pos hs]
theorem sSetI_of {j : Nat} {mv mk : ME} {S S1 S2 : Sto} {t : T} {i : Int} {ts : List T} {w : T} {n : Nat} (h : mv S = some (t, S1)) (h1 : S1[j]? = some (some w)) (h2 : mk S1 = some (.sh (.int i), S2)) (h3 : S2[j]? = some (some (.lst ts))) (h4 : ixN ts.length i = some n) : sSetI j mv mk S = some (.nx (S2.set j (some (.lst (ts.set n t))))) := by
  unfold sSetI
  rw [h, Option.bind_some]
  simp only [h1]
  rw [h2, Option.bind_some]
  simp only [h3]
  show (ixN ts.length i).bind _ = _
  rw [h4, Option.bind_some]
theorem dr_tail {ns rs ds : List Int} {m : Int} {c : Int} {k : Nat} {o6 o7 : Option T} (hd : ds.length ≤ 1000000) :
    ∃ d o7', 0 ≤ d ∧ drTail (drS ns rs ds m (some (tZ c)) (some (tI k)) o6 o7) = some (.nx (drS ns rs (ds ++ [d]) m (some (tZ c)) (some (tI k)) o6 o7')) := by
  have hwn : ds.length < sizeLine := by rw [sizeLine_val]; omega
  have p1 : (0 : Int) < 2147483647 := by omega
  have p2' : (0 : Int) < 2147483629 := by omega
  have s1 (i : Int) := dMul_r (i := i) (j := 48271) (small_of (by omega) (by omega))
  have s2 (i : Int) := dMul_r (i := i) (j := 69621) (small_of (by omega) (by omega))
  have s3 (i : Int) := dMul_r (i := i) (j := 7919) (small_of (by omega) (by omega))
  have v1 (i : Int) := dMod_of (i := i) p1
  have v2 (i : Int) := dMod_of (i := i) p2'
  have v3 (i : Int) := dDiv_of (i := i) (j := 4096) (by omega) (by decide +kernel)
  have b1 := fm_lo (c * 48271 + (k : Int) * 69621 + 11) p1
  have b2 := fm_hi (c * 48271 + (k : Int) * 69621 + 11) p1
  generalize e1 : (c * 48271 + (k : Int) * 69621 + 11).fmod 2147483647 = m1 at b1 b2
  have l1 (i : Int) := dMul_r (i := i) (j := m1) (small_of b1 (by omega))
  have b3 := fm_lo ((m1 * m1).fdiv 4096 + m1) p2'
  have b4 := fm_hi ((m1 * m1).fdiv 4096 + m1) p2'
  generalize e2 : ((m1 * m1).fdiv 4096 + m1).fmod 2147483629 = m2 at b3 b4
  have l2 (i : Int) := dMul_r (i := i) (j := m2) (small_of b3 (by omega))
  refine ⟨((m2 * m2).fdiv 4096 + (k : Int) * 7919).fmod 2147483629, some (tZ m2), fm_lo _ p2', ?_⟩
  have n1 : (sAsg (ofP (p2 dMod (pCall dInt (paCons (p2 dAdd (p2 dAdd (p2 dMul (pV 2) (pC (.int 48271))) (p2 dMul (pV 5) (pC (.int 69621)))) (pC (.int 11))) ((fun _ => some [])))) (pC (.int 2147483647)))) (putS 7)) (drS ns rs ds m (some (tZ c)) (some (tI k)) o6 o7) = some (.nx (drS ns rs ds m (some (tZ c)) (some (tI k)) o6 (some (tZ m1)))) := by
    exact sAsg_of (ofP_of (p2_of (pc1_of (p2_of (p2_of (p2_of rfl rfl (s1 _)) (p2_of rfl rfl (s2 _)) rfl) rfl rfl) rfl) rfl ((v1 _).trans (by rw [e1]))) (sc_int m1)) rfl
  have n2 : (sAsg (ofP (p2 dMod (pCall dInt (paCons (p2 dAdd (p2 dDiv (p2 dMul (pV 7) (pV 7)) (pC (.int 4096))) (pV 7)) ((fun _ => some [])))) (pC (.int 2147483629)))) (putS 7)) (drS ns rs ds m (some (tZ c)) (some (tI k)) o6 (some (tZ m1))) = some (.nx (drS ns rs ds m (some (tZ c)) (some (tI k)) o6 (some (tZ m2)))) := by
    exact sAsg_of (ofP_of (p2_of (pc1_of (p2_of (p2_of (p2_of rfl rfl (l1 _)) rfl (v3 _)) rfl rfl) rfl) rfl ((v2 _).trans (by rw [e2]))) (sc_int m2)) rfl
  rw [drTail, sSeq_nx n1, sSeq_nx n2, sApp_of (t := tZ (((m2 * m2).fdiv 4096 + (k : Int) * 7919).fmod 2147483629)) (S1 := drS ns rs ds m (some (tZ c)) (some (tI k)) o6 (some (tZ m2))) (ts := ds.map tZ) (us := ds.map tZ) rfl
    (ofP_of (p2_of (pc1_of (p2_of (p2_of (p2_of rfl rfl (l2 _)) rfl (v3 _)) (p2_of rfl rfl (s3 _)) rfl) rfl) rfl (v2 _)) rfl) rfl (by rw [List.length_map]; exact hwn)]
  have mm : ∀ x, (ds ++ [x]).map tZ = ds.map tZ ++ [tZ x] := fun x => by rw [List.map_append]; rfl
  unfold drS
  rw [mm]
  rfl
theorem dr_body {ns rs ds : List Int} {m : Int} {k : Nat} {o2 o6 o7 : Option T} (hr : rs.length = ns.length) (hd : ds.length ≤ 1000000) :
    ∃ rs' d o2' o6' o7', 0 ≤ d ∧ rs'.length = ns.length ∧ (drBody (drS ns rs ds m o2 (some (tI k)) o6 o7) = some (.nx (drS ns rs' (ds ++ [d]) m o2' (some (tI k)) o6' o7')) ∨ drBody (drS ns rs ds m o2 (some (tI k)) o6 o7) = some (.ct (drS ns rs' (ds ++ [d]) m o2' (some (tI k)) o6' o7'))) := by
  have hwn : ds.length < sizeLine := by rw [sizeLine_val]; omega
  have n0 : (sAsg (eVar 5) (putS 2)) (drS ns rs ds m o2 (some (tI k)) o6 o7) = some (.nx (drS ns rs ds m (some (tI k)) (some (tI k)) o6 o7)) := by
    simp [sAsg, eVar, putS]
  have ln : dLen [.lst (ns.map .int)] = some (.int (ns.length : Nat)) := by
    show some (D.int ((ns.map D.int).length : Nat)) = _
    rw [List.length_map]
  by_cases h0 : ns.length = 0
  · obtain ⟨d, o7', p, e⟩ := dr_tail (ns := ns) (rs := rs) (m := m) (c := k) (k := k) (o6 := o6) (o7 := o7) hd
    refine ⟨rs, d, some (tI k), o6, o7', p, hr, .inl ?_⟩
    rw [drBody, sSeq_nx n0, sSeq_nx (S1 := drS ns rs ds m (some (tI k)) (some (tI k)) o6 o7)]
    · exact e
    · rw [sIf_f (S1 := drS ns rs ds m (some (tI k)) (some (tI k)) o6 o7)]
      · rfl
      · simp only [ofB, pB, p2, pV, pC, pCall, paCons, List.getElem?_cons_zero, Option.bind_some, fz_sh, ln, h0, dGt, dCmp, asB_bl]
        rfl
  · have hn : 0 < ns.length := by omega
    have hk : k % ns.length < ns.length := Nat.mod_lt _ hn
    have t1 : (ofB (pB (p2 dGt (pCall dLen (paCons (pV 0) ((fun _ => some [])))) (pC (.int 0))))) (drS ns rs ds m (some (tI k)) (some (tI k)) o6 o7) = some (true, drS ns rs ds m (some (tI k)) (some (tI k)) o6 o7) := by
      have z : (0 : Int) < (ns.length : Int) := by omega
      simp only [ofB, pB, p2, pV, pC, pCall, paCons, List.getElem?_cons_zero, Option.bind_some, fz_sh, ln, dGt, dCmp, asB_bl, z, decide_true]
    have n1 : (sAsg (ofP (p2 dMod (pV 5) (pCall dLen (paCons (pV 0) ((fun _ => some [])))))) (putS 6)) (drS ns rs ds m (some (tI k)) (some (tI k)) o6 o7) = some (.nx (drS ns rs ds m (some (tI k)) (some (tI k)) (some (tI (k % ns.length))) o7)) := by
      have z : (ns.length : Int) ≠ 0 := by omega
      have y : (k : Int).fmod (ns.length : Int) = ((k % ns.length : Nat) : Int) := by
        rw [Int.fmod_eq_emod_of_nonneg _ (by omega)]
        rfl
      simp only [sAsg, ofP, p2, pV, pCall, paCons, List.getElem?_cons_zero, List.getElem?_cons_succ, Option.bind_some, fz_sh, ln, dMod, if_pos z, y, sc_int, if_true]
      rfl
    have i1 : dIx (.lst (ns.map .int)) (.int (k % ns.length : Nat)) = some (.int ns[k % ns.length]) := by
      show L2.atI (ns.map D.int) _ = _
      rw [atI_pos, List.getElem?_map, List.getElem?_eq_getElem hk]
      rfl
    have hk2 : k % ns.length < rs.length := by omega
    have i2 : dIx (.lst (rs.map .int)) (.int (k % ns.length : Nat)) = some (.int rs[k % ns.length]) := by
      show L2.atI (rs.map D.int) _ = _
      rw [atI_pos, List.getElem?_map, List.getElem?_eq_getElem hk2]
      rfl
    have n2 : (sAsg (ofP (pCall dInt (paCons (p2 dIx (pV 0) (pV 6)) ((fun _ => some []))))) (putS 2)) (drS ns rs ds m (some (tI k)) (some (tI k)) (some (tI (k % ns.length))) o7) = some (.nx (drS ns rs ds m (some (tZ ns[k % ns.length])) (some (tI k)) (some (tI (k % ns.length))) o7)) := by
      simp only [sAsg, ofP, p2, pV, pCall, paCons, List.getElem?_cons_zero, List.getElem?_cons_succ, Option.bind_some, fz_sh, i1, dInt, sc_int, if_true]
      rfl
    have fzr : fz (.lst (rs.map tZ)) = .lst (rs.map .int) := by
      rw [fz_lst, List.map_map]
      rfl
    have pw : dPow (.int 10) (.int 18) = some (.int 1000000000000000000) := by kernel_rfl
    have t2 : (ofB (bAnd (pB (p2 dGe (pV 2) (p2 dPow (pC (.int 10)) (pC (.int 18))))) (pB (p2 dGt (p2 dIx (pV 3) (pV 6)) (pC (.int 0)))))) (drS ns rs ds m (some (tZ ns[k % ns.length])) (some (tI k)) (some (tI (k % ns.length))) o7) = some (decide (1000000000000000000 ≤ ns[k % ns.length]) && decide (0 < rs[k % ns.length]), drS ns rs ds m (some (tZ ns[k % ns.length])) (some (tI k)) (some (tI (k % ns.length))) o7) := by
      simp only [ofB, bAnd, pB, p2, pV, pC, List.getElem?_cons_zero, List.getElem?_cons_succ, Option.bind_some, fz_sh, fzr, i2, pw, dGe, dGt, dCmp, asB_bl]
      by_cases z : 1000000000000000000 ≤ ns[k % ns.length]
      · simp [z]
      · simp [z]
    by_cases hc : (decide (1000000000000000000 ≤ ns[k % ns.length]) && decide (0 < rs[k % ns.length])) = true
    · rw [hc] at t2
      refine ⟨rs.set (k % ns.length) (rs[k % ns.length].fdiv 1000003), rs[k % ns.length].fmod 1000003, some (tZ ns[k % ns.length]), some (tI (k % ns.length)), o7, fm_lo _ (by decide), by rw [List.length_set]; exact hr, .inr ?_⟩
      have n3 : (sApp 4 (ofP (p2 dMod (pCall dInt (paCons (p2 dIx (pV 3) (pV 6)) ((fun _ => some [])))) (pC (.int 1000003))))) (drS ns rs ds m (some (tZ ns[k % ns.length])) (some (tI k)) (some (tI (k % ns.length))) o7) = some (.nx (drS ns rs (ds ++ [rs[k % ns.length].fmod 1000003]) m (some (tZ ns[k % ns.length])) (some (tI k)) (some (tI (k % ns.length))) o7)) := by
        have y : ds.length < 16777216 := by omega
        simp only [sApp, ofP, p2, pV, pC, pCall, paCons, List.getElem?_cons_zero, List.getElem?_cons_succ, Option.bind_some, fz_sh, fzr, i2, dInt, dMod, sc_int]
        simp [hwn]
      have ix : ixN (rs.map tZ).length ((k % ns.length : Nat) : Int) = some (k % ns.length) := by
        unfold ixN
        rw [List.length_map, if_pos (by omega), if_pos (by omega), Int.toNat_natCast]
      have n4 : (sSetI 3 (ofP (p2 dDiv (pCall dInt (paCons (p2 dIx (pV 3) (pV 6)) ((fun _ => some [])))) (pC (.int 1000003)))) (eVar 6)) (drS ns rs (ds ++ [rs[k % ns.length].fmod 1000003]) m (some (tZ ns[k % ns.length])) (some (tI k)) (some (tI (k % ns.length))) o7) = some (.nx (drS ns (rs.set (k % ns.length) (rs[k % ns.length].fdiv 1000003)) (ds ++ [rs[k % ns.length].fmod 1000003]) m (some (tZ ns[k % ns.length])) (some (tI k)) (some (tI (k % ns.length))) o7)) := by
        rw [sSetI_of (j := 3) (w := .lst (rs.map tZ)) (S1 := drS ns rs (ds ++ [rs[k % ns.length].fmod 1000003]) m (some (tZ ns[k % ns.length])) (some (tI k)) (some (tI (k % ns.length))) o7) (ofP_of (p2_of (pc1_of (p2_of (y := .int (k % ns.length : Nat)) (x := .lst (rs.map .int)) (congrArg some fzr) rfl i2) rfl) rfl (dDiv_of (by omega) (by decide +kernel))) rfl) rfl rfl rfl ix]
        unfold drS
        rw [List.map_set]
        rfl
      rw [drBody, sSeq_nx n0, sSeq_ct (S1 := drS ns (rs.set (k % ns.length) (rs[k % ns.length].fdiv 1000003)) (ds ++ [rs[k % ns.length].fmod 1000003]) m (some (tZ ns[k % ns.length])) (some (tI k)) (some (tI (k % ns.length))) o7)]
      rw [sIf_t t1, sSeq_nx n1, sSeq_nx n2, sIf_t t2, sSeq_nx n3, sSeq_nx n4]
      rfl
    · rw [Bool.not_eq_true] at hc
      rw [hc] at t2
      obtain ⟨d, o7', p, e⟩ := dr_tail (ns := ns) (rs := rs) (m := m) (c := ns[k % ns.length]) (k := k) (o6 := some (tI (k % ns.length))) (o7 := o7) hd
      refine ⟨rs, d, some (tZ ns[k % ns.length]), some (tI (k % ns.length)), o7', p, hr, .inl ?_⟩
      rw [drBody, sSeq_nx n0, sSeq_nx (S1 := drS ns rs ds m (some (tZ ns[k % ns.length])) (some (tI k)) (some (tI (k % ns.length))) o7)]
      · exact e
      · rw [sIf_t t1, sSeq_nx n1, sSeq_nx n2, sIf_f t2]
        rfl
theorem dr_loop {ns : List Int} {m : Int} : ∀ (n k : Nat) (rs ds : List Int) (o2 o5 o6 o7 : Option T), rs.length = ns.length → ds.length + n ≤ 1000000 → (∀ d ∈ ds, 0 ≤ d) →
    ∃ rs' ds' o2' o5' o6' o7', ds'.length = ds.length + n ∧ (∀ d ∈ ds', 0 ≤ d) ∧ loopF (putS 5) drBody (rngD (k : Nat) n) (drS ns rs ds m o2 o5 o6 o7) = some (.nx (drS ns rs' ds' m o2' o5' o6' o7'))
  | 0, k, rs, ds, o2, o5, o6, o7, hr, hd, hp => ⟨rs, ds, o2, o5, o6, o7, rfl, hp, rfl⟩
  | n + 1, k, rs, ds, o2, o5, o6, o7, hr, hd, hp => by
    obtain ⟨rs1, d, a2, a6, a7, p, hr1, h⟩ := dr_body (ns := ns) (rs := rs) (ds := ds) (m := m) (k := k) (o2 := o2) (o6 := o6) (o7 := o7) hr (by omega)
    obtain ⟨rs', ds', b2, b5, b6, b7, h1, h2, h3⟩ := dr_loop (ns := ns) (m := m) n (k + 1) rs1 (ds ++ [d]) a2 (some (tI k)) a6 a7 hr1 (by rw [List.length_append, List.length_singleton]; omega) (fun x hx => by
      rcases List.mem_append.mp hx with hx | hx
      · exact hp x hx
      · rw [List.mem_singleton.mp hx]; exact p)
    refine ⟨rs', ds', b2, b5, b6, b7, by rw [h1, List.length_append, List.length_singleton]; omega, h2, ?_⟩
    rw [rng_cons]
    rcases h with h | h
    · exact (loop_nx (S1 := drS ns rs ds m o2 (some (tI k)) o6 o7) rfl h).trans h3
    · exact (loop_ct (S1 := drS ns rs ds m o2 (some (tI k)) o6 o7) rfl h).trans h3
theorem dr_lc {ns : List Int} {m : Int} : ∀ (l : List Int) (acc : List Int), acc.length + l.length ≤ 16777215 → 
    ∃ rs : List Int, rs.length = acc.length + l.length ∧ lcGo (putS 2) qYes (ofP (pCall dAbs (paCons (pCall dInt (paCons (pV 2) ((fun _ => some [])))) ((fun _ => some []))))) [2] (l.map .int) [some (.sh (.lst (ns.map .int))), some (tZ m), none, none, none, none, none, none] (acc.map tZ) = some (rs.map tZ, [some (.sh (.lst (ns.map .int))), some (tZ m), none, none, none, none, none, none])
  | [], acc, _ => ⟨acc, rfl, rfl⟩
  | i :: l, acc, h => by
    rw [List.length_cons] at h
    obtain ⟨rs, h1, h2⟩ := dr_lc l (acc ++ [if i < 0 then -i else i]) (by rw [List.length_append, List.length_singleton]; omega)
    refine ⟨rs, by rw [h1, List.length_append, List.length_singleton, List.length_cons]; omega, ?_⟩
    have hs : acc.length < sizeLine := by rw [sizeLine_val]; omega
    rw [← h2, List.map_cons, lcGo]
    simp [putS, qYes, ofP, pCall, paCons, pV, dInt, dAbs, hs, wipeS]
theorem draws_eq {ns : List Int} {m : Nat} (hn : ns.length ≤ 1000000) (hm : m ≤ 1000000) : ∃ ds : List Int, ds.length = m ∧ (∀ d ∈ ds, 0 ≤ d) ∧ fDraws [.sh (.lst (ns.map .int)), tI m] = some (.lst (ds.map tZ), [some (.sh (.lst (ns.map .int))), some (tI m)]) := by
  obtain ⟨rs, h1, h2⟩ := dr_lc (ns := ns) (m := m) ns [] (by simp; omega)
  obtain ⟨rs', ds, o2, o5, o6, o7, h3, h4, h5⟩ := dr_loop (ns := ns) (m := m) m 0 rs [] none none none none (by simpa using h1) (by simpa using hm) (by simp)
  refine ⟨ds, by simpa using h3, h4, ?_⟩
  have e1 : (sAsg drLc (putS 3)) [some (.sh (.lst (ns.map .int))), some (tI m), none, none, none, none, none, none] = some (.nx [some (.sh (.lst (ns.map .int))), some (tI m), none, some (.lst (rs.map tZ)), none, none, none, none]) := by
    simp [sAsg, drLc, eLc, iList', eVar, wipeS]
    rw [show lcGo _ _ _ _ _ _ [] = _ from h2]
    simp [putS]
  have e2 : (sAsg (eLst (aNil)) (putS 4)) [some (.sh (.lst (ns.map .int))), some (tI m), none, some (.lst (rs.map tZ)), none, none, none, none] = some (.nx (drS ns rs [] m none none none none)) := rfl
  have ei : (iRng1' (paCons (pV 1) ((fun _ => some [])))) (drS ns rs [] m none none none none) = some (rngD 0 m, drS ns rs [] m none none none none) :=
    iRng1_of (by simp [paCons, pV]) hm
  show (drF [some (.sh (.lst (ns.map .int))), some (tI m), none, none, none, none, none, none]).bind _ = _
  rw [drF, sSeq_nx e1, sSeq_nx e2, sSeq_nx ((mFor_of ei).trans h5)]
  rfl
/-! ### the hand -/
def fTakeB : MS := (sSeq (sAsg (eIxN 0 (ofP (pC (.int 1)))) (putS 2)) (sSeq (sSetI 0 (ofP (p2 dAdd (pV 2) (pC (.int 1)))) (ofP (pC (.int 1)))) (sSeq (sAsg (eIxN 0 (ofP (pC (.int 0)))) (putS 3)) (sSeq (sIf (ofB (pB (p2 dGe (pV 2) (pCall dLen (paCons (pV 3) ((fun _ => some []))))))) (sRet (ofP (pC (.int 0)))) (sNext)) (sRet (ofP (p2 dMod (p2 dDiv (pCall dInt (paCons (p2 dIx (pV 3) (pV 2)) ((fun _ => some [])))) (pC (.int 7))) (pV 1))))))))
def fTake : Fn := mkFn 2 4 [] fTakeB
/-- a hand: numbers drawn and a place -/
abbrev hand (ds : List Int) (j : Nat) : T := .lst [.sh (.lst (ds.map .int)), tI j]
theorem take_eq {ds : List Int} {j m : Nat} (hm : 0 < m) : ∃ i : Nat, i < m ∧ fTake [hand ds j, tI m] = some (tI i, [some (hand ds (j + 1)), some (tI m)]) := by
  have ln : dLen [.lst (ds.map .int)] = some (.int (ds.length : Nat)) := by
    show some (D.int ((ds.map D.int).length : Nat)) = _
    rw [List.length_map]
  have n1 : (sAsg (eIxN 0 (ofP (pC (.int 1)))) (putS 2)) [some (hand ds j), some (tI m), none, none] = some (.nx [some (hand ds j), some (tI m), some (tI j), none]) := rfl
  have n2 : (sSetI 0 (ofP (p2 dAdd (pV 2) (pC (.int 1)))) (ofP (pC (.int 1)))) [some (hand ds j), some (tI m), some (tI j), none] = some (.nx [some (hand ds (j + 1)), some (tI m), some (tI j), none]) := rfl
  have n3 : (sAsg (eIxN 0 (ofP (pC (.int 0)))) (putS 3)) [some (hand ds (j + 1)), some (tI m), some (tI j), none] = some (.nx [some (hand ds (j + 1)), some (tI m), some (tI j), some (.sh (.lst (ds.map .int)))]) := rfl
  have t1 : (ofB (pB (p2 dGe (pV 2) (pCall dLen (paCons (pV 3) ((fun _ => some []))))))) [some (hand ds (j + 1)), some (tI m), some (tI j), some (.sh (.lst (ds.map .int)))] = some (decide (ds.length ≤ j), [some (hand ds (j + 1)), some (tI m), some (tI j), some (.sh (.lst (ds.map .int)))]) := by
    have z : ((ds.length : Int) ≤ (j : Int)) = (ds.length ≤ j) := propext (by omega)
    simp only [ofB, pB, p2, pV, pCall, paCons, List.getElem?_cons_zero, List.getElem?_cons_succ, Option.bind_some, fz_sh, ln, dGe, dCmp, asB_bl, z]
  by_cases h : ds.length ≤ j
  · refine ⟨0, hm, ?_⟩
    rw [decide_eq_true h] at t1
    show (fTakeB [some (hand ds j), some (tI m), none, none]).bind _ = _
    rw [fTakeB, sSeq_nx n1, sSeq_nx n2, sSeq_nx n3, sSeq_rt (t := tI 0) (S1 := [some (hand ds (j + 1)), some (tI m), some (tI j), some (.sh (.lst (ds.map .int)))]) (by rw [sIf_t t1]; rfl)]
    rfl
  · have h2 : j < ds.length := by omega
    rw [decide_eq_false h] at t1
    have i1 : dIx (.lst (ds.map .int)) (.int (j : Nat)) = some (.int ds[j]) := by
      show L2.atI (ds.map D.int) _ = _
      rw [atI_pos, List.getElem?_map, List.getElem?_eq_getElem h2]
      rfl
    have z : (0 : Int) < (m : Int) := by omega
    have y := fm_lo (ds[j].fdiv 7) z
    have y2 := fm_hi (ds[j].fdiv 7) z
    refine ⟨((ds[j].fdiv 7).fmod m).toNat, by omega, ?_⟩
    have e : (((((ds[j].fdiv 7).fmod m).toNat : Nat)) : Int) = (ds[j].fdiv 7).fmod m := Int.toNat_of_nonneg y
    have e2 : (sRet (ofP (p2 dMod (p2 dDiv (pCall dInt (paCons (p2 dIx (pV 3) (pV 2)) ((fun _ => some [])))) (pC (.int 7))) (pV 1)))) [some (hand ds (j + 1)), some (tI m), some (tI j), some (.sh (.lst (ds.map .int)))] = some (.rt (tI ((ds[j].fdiv 7).fmod m).toNat) [some (hand ds (j + 1)), some (tI m), some (tI j), some (.sh (.lst (ds.map .int)))]) := by
      unfold sRet
      rw [ofP_of (p2_of (p2_of (pc1_of (p2_of rfl rfl i1) rfl) rfl (dDiv_of (by omega) (by decide +kernel))) rfl (dMod_of z)) rfl, Option.bind_some]
      unfold tI
      rw [e]
    show (fTakeB [some (hand ds j), some (tI m), none, none]).bind _ = _
    rw [fTakeB, sSeq_nx n1, sSeq_nx n2, sSeq_nx n3, sSeq_nx (S1 := [some (hand ds (j + 1)), some (tI m), some (tI j), some (.sh (.lst (ds.map .int)))]) (by rw [sIf_f t1]; rfl), e2]
    rfl
end VS
namespace VS
open PySem PySem.Spec PyProof.Rows L2
theorem mkFn_rt {np ns : Nat} {as : List Nat} {b : MS} {ts : List T} {S S' : Sto} {t : T} (hl : ts.length = np) (hS : (entry as 0 ts).map some ++ List.replicate (ns - np) none = S) (h : b S = some (.rt t S')) : mkFn np ns as b ts = some (t, outs as S' 0 ts) := by
  unfold mkFn
  rw [if_pos hl, hS, h]
  rfl
theorem mkFn_nx {np ns : Nat} {as : List Nat} {b : MS} {ts : List T} {S S' : Sto} (hl : ts.length = np) (hS : (entry as 0 ts).map some ++ List.replicate (ns - np) none = S) (h : b S = some (.nx S')) : mkFn np ns as b ts = some (.sh .non, outs as S' 0 ts) := by
  unfold mkFn
  rw [if_pos hl, hS, h]
  rfl
theorem txtJoin (sep : Str) (l : List Str) : Txt.join sep l = Str.join sep l := StrLaws.glued_eq_join sep l
theorem sEMP0 : Str.ofString "" = tx [] := by decide +kernel
theorem join_flat : ∀ ls : List (List Nat), Txt.join (tx []) (ls.map tx) = tx ls.flatten
  | [] => by rw [txtJoin]; rfl
  | [a] => by rw [txtJoin]; show tx a = tx (a ++ []); rw [List.append_nil]
  | a :: b :: ls => by
    have ih := join_flat (b :: ls)
    rw [txtJoin] at ih ⊢
    show tx a ++ tx [] ++ Str.join (tx []) ((b :: ls).map tx) = _
    have e : tx a ++ tx [] = tx a := by rw [tx_app, List.append_nil]
    rw [ih, e]
    exact tx_app _ _
theorem flat_one : ∀ r : List Nat, (r.map fun c => [c]).flatten = r
  | [] => rfl
  | a :: r => by
    rw [List.map_cons, List.flatten_cons, flat_one r]
    rfl
theorem lc_step {g : T → Sto → Option Sto} {tt : MT} {te : ME} {own : List Nat} {d : D} {l : List D} {S S1 S2 S3 : Sto} {acc : List T} {t : T} (h1 : g (.sh d) S = some S1) (h2 : tt S1 = some (true, S2)) (h3 : te S2 = some (t, S3)) (h4 : acc.length < sizeLine) : lcGo g tt te own (d :: l) S acc = lcGo g tt te own l (wipeS S3 own) (acc ++ [t]) := by
  rw [lcGo, h1, Option.bind_some, h2, Option.bind_some]
  show (if true = true then _ else _) = _
  rw [if_pos rfl, h3, Option.bind_some, if_pos h4]
theorem lc_skip {g : T → Sto → Option Sto} {tt : MT} {te : ME} {own : List Nat} {d : D} {l : List D} {S S1 S2 : Sto} {acc : List T} (h1 : g (.sh d) S = some S1) (h2 : tt S1 = some (false, S2)) : lcGo g tt te own (d :: l) S acc = lcGo g tt te own l (wipeS S2 own) acc := by
  rw [lcGo, h1, Option.bind_some, h2, Option.bind_some]
  show (if false = true then _ else _) = _
  rw [if_neg (by decide)]
theorem strsD_map : ∀ ls : List (List Nat), strsD (ls.map fun l => D.str (tx l)) = some (ls.map tx)
  | [] => rfl
  | a :: ls => by
    show (strsD (ls.map fun l => D.str (tx l))).map _ = _
    rw [strsD_map ls]
    rfl
theorem joinD_flat {ls : List (List Nat)} (h : ls.flatten.length ≤ 10000000) : joinD (.str (tx [])) (.lst (ls.map fun l => .str (tx l))) = some (.str (tx ls.flatten)) := by
  have e : ((ls.map tx).map (·.length)).sum = ls.flatten.length := by
    rw [List.length_flatten, List.map_map]
    congr 1
  show ((strsD (ls.map fun l => D.str (tx l))).bind _) = _
  rw [strsD_map, Option.bind_some, e, tx_len, if_pos (by rw [List.length_nil, Nat.mul_zero]; omega), join_flat]
theorem fz_lst_tS (ls : List (List Nat)) : fz (.lst (ls.map tS)) = .lst (ls.map fun l => .str (tx l)) := by
  rw [fz_lst, List.map_map]
  rfl
theorem fz_lst_tZ (ls : List Int) : fz (.lst (ls.map tZ)) = .lst (ls.map .int) := by
  rw [fz_lst, List.map_map]
  rfl
theorem kid_tx {l : List Nat} {i c : Nat} (h : l.length ≤ 10000000) (e : l[i]? = some c) : kid (tS l) (i : Nat) = some (tS [c]) := by
  show (if lenOk (tx l) = true then _ else none) = _
  rw [if_pos (lenOk_tx h), atI_pos, show (tx l).cps.toList = l by simp, e]
  rfl
/-- one number taken from a hand in a slot -/
theorem take_c {S : Sto} {s j m : Nat} {ds : List Int} {me : ME} (h : S[s]? = some (some (hand ds j))) (hm : 0 < m) (e : me S = some (tI m, S)) :
    ∃ i, i < m ∧ eCall fTake [some s, none] (aMv s (aCons me aNil)) S = some (tI i, S.set s (some (hand ds (j + 1)))) := by
  obtain ⟨i, hi, ht⟩ := take_eq (ds := ds) (j := j) hm
  refine ⟨i, hi, ?_⟩
  have a1 : aMv s (aCons me aNil) S = some ([hand ds j, tI m], S.set s none) := by
    unfold aMv aCons aNil
    simp only [h, e, Option.bind_some]
  unfold eCall
  rw [a1, Option.bind_some]
  simp only [ht, Option.bind_some]
  show some (_, (S.set s none).set s (some (hand ds (j + 1)))) = _
  rw [List.set_set]
theorem take_c2 {S : Sto} {s s2 j m : Nat} {ds : List Int} (h : S[s]? = some (some (hand ds j))) (h2 : S[s2]? = some (some (tI m))) (hne : s ≠ s2) (hm : 0 < m) :
    ∃ i, i < m ∧ eCall fTake [some s, some s2] (aMv s (aMv s2 aNil)) S = some (tI i, S.set s (some (hand ds (j + 1)))) := by
  obtain ⟨i, hi, ht⟩ := take_eq (ds := ds) (j := j) hm
  refine ⟨i, hi, ?_⟩
  have e : (S.set s2 none)[s]? = some (some (hand ds j)) := by rw [List.getElem?_set_ne (Ne.symm hne), h]
  have a1 : aMv s (aMv s2 aNil) S = some ([hand ds j, tI m], (S.set s2 none).set s none) := by
    unfold aMv aNil
    simp only [h, h2, e, Option.bind_some]
  unfold eCall
  rw [a1, Option.bind_some]
  simp only [ht, Option.bind_some]
  show some (_, ((((S.set s2 none).set s none).set s (some (hand ds (j + 1))))).set s2 (some (tI m))) = _
  rw [List.set_set, List.set_comm _ _ hne, List.set_set]
  rw [set_at h2]

/-- a text of chosen length -/
def fRunB : MS := sRet (e2M joinD (ofP (pC (.str ""))) (eLc (iRng1E (e2 dAdd (ofP (pC (.int 1))) (eCall fTake [some 0, some 2] (aMv 0 (aMv 2 (aNil)))))) (putS 3) (qYes) (eIxN 1 (eCall fTake [some 0, none] (aMv 0 (aCons (ofP (pCall dLen (paCons (pV 1) ((fun _ => some []))))) (aNil))))) [3]))
def fRun : Fn := mkFn 3 4 [] fRunB
theorem run_lc {cs : List Nat} {u : T} {ds : List Int} (hc : 0 < cs.length) (hl : cs.length ≤ 10000000) : ∀ (l : List D) (j : Nat) (acc : List Nat), acc.length + l.length ≤ 16777215 →
    ∃ (r : List Nat) (j' : Nat), r.length = acc.length + l.length ∧ lcGo (putS 3) qYes (eIxN 1 (eCall fTake [some 0, none] (aMv 0 (aCons (ofP (pCall dLen (paCons (pV 1) ((fun _ => some []))))) (aNil))))) [3] l [some (hand ds j), some (tS cs), some u, none] (acc.map fun c => tS [c]) = some (r.map fun c => tS [c], [some (hand ds j'), some (tS cs), some u, none])
  | [], j, acc, h => ⟨acc, j, rfl, rfl⟩
  | d :: l, j, acc, h => by
    rw [List.length_cons] at h
    obtain ⟨i, hi, e⟩ := take_c (S := [some (hand ds j), some (tS cs), some u, some (.sh d)]) (s := 0) (j := j) (m := cs.length) (ds := ds) (me := ofP (pCall dLen (paCons (pV 1) ((fun _ => some []))))) rfl hc (ofP_of (pc1_of rfl (dLen_tx hl)) rfl)
    have hk := kid_tx hl (List.getElem?_eq_getElem hi)
    obtain ⟨r, j', h1, h2⟩ := run_lc (u := u) (ds := ds) hc hl l (j + 1) (acc ++ [cs[i]]) (by rw [List.length_append, List.length_singleton]; omega)
    refine ⟨r, j', by rw [h1, List.length_append, List.length_singleton, List.length_cons]; omega, ?_⟩
    have hs : (acc.map fun c => tS [c]).length < sizeLine := by rw [List.length_map, sizeLine_val]; omega
    have e1 : eIxN 1 (eCall fTake [some 0, none] (aMv 0 (aCons (ofP (pCall dLen (paCons (pV 1) ((fun _ => some []))))) (aNil)))) [some (hand ds j), some (tS cs), some u, some (.sh d)] = some (tS [cs[i]], [some (hand ds (j + 1)), some (tS cs), some u, some (.sh d)]) := by
      unfold eIxN
      simp only [List.getElem?_cons_zero, List.getElem?_cons_succ, e, Option.bind_some, fz_sh, List.set_cons_zero, hk, isSh, if_true]
    rw [lc_step (S1 := [some (hand ds j), some (tS cs), some u, some (.sh d)]) rfl rfl e1 hs, ← h2, List.map_append]
    rfl
theorem run_eq {cs : List Nat} {ds : List Int} {j most : Nat} (hc : 0 < cs.length) (hl : cs.length ≤ 10000000) (h0 : 0 < most) (hm : most ≤ 1000000) :
    ∃ (r : List Nat) (j' : Nat), 0 < r.length ∧ r.length ≤ most ∧ fRun [hand ds j, tS cs, tI most] = some (tS r, [some (hand ds j'), some (tS cs), some (tI most)]) := by
  obtain ⟨i, hi, e⟩ := take_c2 (S := [some (hand ds j), some (tS cs), some (tI most), none]) (s := 0) (s2 := 2) (j := j) (m := most) (ds := ds) rfl rfl (by decide) h0
  obtain ⟨r, j', h1, h2⟩ := run_lc (u := tI most) (ds := ds) hc hl (rngD 0 (1 + i)) (j + 1) [] (by unfold rngD; rw [List.length_map, List.length_range]; simp; omega)
  have hr : r.length = 1 + i := by
    rw [h1]
    unfold rngD
    rw [List.length_map, List.length_range]
    simp
  refine ⟨r, j', by omega, by omega, ?_⟩
  have e1 : (e2 dAdd (ofP (pC (.int 1))) (eCall fTake [some 0, some 2] (aMv 0 (aMv 2 (aNil))))) [some (hand ds j), some (tS cs), some (tI most), none] = some (tI (1 + i), [some (hand ds (j + 1)), some (tS cs), some (tI most), none]) := by
    unfold e2
    rw [show ofP (pC (.int 1)) [some (hand ds j), some (tS cs), some (tI most), none] = some (tI 1, [some (hand ds j), some (tS cs), some (tI most), none]) from rfl, Option.bind_some, e]
    rfl
  have e2 : iRng1E (e2 dAdd (ofP (pC (.int 1))) (eCall fTake [some 0, some 2] (aMv 0 (aMv 2 (aNil))))) [some (hand ds j), some (tS cs), some (tI most), none] = some (rngD 0 (1 + i), [some (hand ds (j + 1)), some (tS cs), some (tI most), none]) := by
    unfold iRng1E
    rw [e1, Option.bind_some]
    exact (if_pos (near_nat (by omega))).trans (by rw [Int.toNat_natCast])
  have e4 := flat_one r
  have e3 := joinD_flat (ls := r.map fun c => [c]) (by rw [e4]; omega)
  rw [e4, List.map_map] at e3
  have e5 : (eLc (iRng1E (VS.e2 dAdd (ofP (pC (.int 1))) (eCall fTake [some 0, some 2] (aMv 0 (aMv 2 (aNil)))))) (putS 3) (qYes) (eIxN 1 (eCall fTake [some 0, none] (aMv 0 (aCons (ofP (pCall dLen (paCons (pV 1) ((fun _ => some []))))) (aNil))))) [3]) [some (hand ds j), some (tS cs), some (tI most), none] = some (.lst (r.map fun c => tS [c]), [some (hand ds j'), some (tS cs), some (tI most), none]) := by
    unfold eLc
    rw [e2, Option.bind_some]
    show (lcGo _ _ _ _ _ [some (hand ds (j + 1)), some (tS cs), some (tI most), none] []).bind _ = _
    rw [show ([] : List T) = [].map fun c => tS [c] from rfl, h2, Option.bind_some]
  show (fRunB [some (hand ds j), some (tS cs), some (tI most), none]).bind _ = _
  unfold fRunB sRet e2M
  rw [show ofP (pC (.str "")) [some (hand ds j), some (tS cs), some (tI most), none] = some (tS [], [some (hand ds j), some (tS cs), some (tI most), none]) by rw [sEMP0]; rfl, Option.bind_some, e5, Option.bind_some, fz_lst, List.map_map]
  rw [show (fz ∘ fun c => tS [c]) = ((fun l => D.str (tx l)) ∘ fun c => [c]) from rfl]
  show ((sD (joinD (.str (tx [])) _) _).bind _).bind _ = _
  rw [e3]
  rfl
end VS
namespace VS
open PySem PySem.Spec PyProof.Rows L2
/-! ### reckoning step by step -/
theorem eCall_of {f : Fn} {ms : List (Option Nat)} {ma : MA} {S S1 : Sto} {ts : List T} {r : T} {ts' : List (Option T)} (h1 : ma S = some (ts, S1)) (h2 : f ts = some (r, ts')) (h3 : ts'.length = ms.length) : eCall f ms ma S = some (r, putB ms ts' S1) := by
  unfold eCall
  rw [h1, Option.bind_some]
  simp only [h2, Option.bind_some]
  rw [if_pos h3]
theorem e2_of {g : D → D → Option D} {ma mb : ME} {S S1 S2 : Sto} {t u : T} {d : D} (h1 : ma S = some (t, S1)) (h2 : mb S1 = some (u, S2)) (h3 : g (fz t) (fz u) = some d) (h4 : sc d = true) : e2 g ma mb S = some (.sh d, S2) := by
  unfold e2
  rw [h1, Option.bind_some]
  simp only [h2, Option.bind_some, h3]
  unfold sD
  rw [Option.bind_some, if_pos h4]
theorem e2M_of {g : D → D → Option D} {ma mb : ME} {S S1 S2 : Sto} {t u : T} {d : D} (h1 : ma S = some (t, S1)) (h2 : mb S1 = some (u, S2)) (h3 : g (fz t) (fz u) = some d) (h4 : sc d = true) : e2M g ma mb S = some (.sh d, S2) := by
  unfold e2M
  rw [h1, Option.bind_some]
  simp only [h2, Option.bind_some, h3]
  unfold sD
  rw [Option.bind_some, if_pos h4]
theorem e2T_of {g : T → T → Option T} {ma mb : ME} {S S1 S2 : Sto} {t u v : T} (h1 : ma S = some (t, S1)) (h2 : mb S1 = some (u, S2)) (h3 : g t u = some v) : e2T g ma mb S = some (v, S2) := by
  unfold e2T
  rw [h1, Option.bind_some]
  simp only [h2, Option.bind_some, h3]
theorem aCons_of {m : ME} {r : MA} {S S1 S2 : Sto} {t : T} {ts : List T} (h1 : m S = some (t, S1)) (h2 : r S1 = some (ts, S2)) : aCons m r S = some (t :: ts, S2) := by
  unfold aCons
  rw [h1, Option.bind_some]
  simp only [h2, Option.bind_some]
theorem aMv_of {i : Nat} {r : MA} {S S2 : Sto} {u t : T} {ts : List T} (h0 : S[i]? = some (some u)) (h1 : r S = some (ts, S2)) (h2 : S2[i]? = some (some t)) : aMv i r S = some (t :: ts, S2.set i none) := by
  unfold aMv
  simp only [h0, h1, Option.bind_some, h2]
theorem eFz_of {m : ME} {S S1 : Sto} {t : T} (h : m S = some (t, S1)) : eFz m S = some (.sh (fz t), S1) := by
  unfold eFz
  rw [h]
  rfl
theorem eLst_of {ma : MA} {S S1 : Sto} {ts : List T} (h : ma S = some (ts, S1)) (hl : ts.length ≤ 1000) : eLst ma S = some (.lst ts, S1) := by
  unfold eLst
  rw [h, Option.bind_some, if_pos hl]
theorem qB_of {m : ME} {S S1 : Sto} {b : Bool} (h : m S = some (.sh (.bl b), S1)) : qB m S = some (b, S1) := by
  unfold qB
  rw [h]
  rfl
theorem qNot_of {p : MT} {S S1 : Sto} {b : Bool} (h : p S = some (b, S1)) : qNot p S = some (!b, S1) := by
  unfold qNot
  rw [h]
  rfl
theorem sq_yes {q : MT} {m r : MS} {S S1 S' : Sto} {t : T} (h : q S = some (true, S1)) (h2 : m S1 = some (.rt t S')) : sSeq (sIf q m sNext) r S = some (.rt t S') := sSeq_rt (by rw [sIf_t h, h2])
theorem sq_no {q : MT} {m r : MS} {S S1 : Sto} (h : q S = some (false, S1)) : sSeq (sIf q m sNext) r S = r S1 := by
  rw [sSeq_nx (S1 := S1)]
  rw [sIf_f h]
  rfl
theorem sRet_of {me : ME} {S S' : Sto} {t : T} (h : me S = some (t, S')) : sRet me S = some (.rt t S') := by
  unfold sRet
  rw [h]
  rfl
theorem eIx_of {ma mb : ME} {S S1 S2 : Sto} {t u : T} {i : Int} {d : D} (h1 : ma S = some (t, S1)) (h2 : mb S1 = some (u, S2)) (h3 : fz u = .int i) (h4 : kid t i = some (.sh d)) : eIx ma mb S = some (.sh d, S2) := by
  unfold eIx
  rw [h1, Option.bind_some]
  simp only [h2, Option.bind_some, h3, h4]
  rfl
theorem eIxN_of {j : Nat} {mb : ME} {S S2 : Sto} {t0 t u : T} {i : Int} {d : D} (h0 : S[j]? = some (some t0)) (h2 : mb S = some (u, S2)) (h1 : S2[j]? = some (some t)) (h3 : fz u = .int i) (h4 : kid t i = some (.sh d)) : eIxN j mb S = some (.sh d, S2) := by
  unfold eIxN
  simp only [h0, h2, Option.bind_some, h1, h3, h4]
  rfl
theorem mForE_of {me : ME} {g : T → Sto → Option Sto} {b : MS} {S S1 : Sto} {t : T} {ds : List D} (h : me S = some (t, S1)) (h2 : fz t = .lst ds) : mFor (iList' me) g b S = loopF g b ds S1 := by
  refine mFor_of ?_
  unfold iList'
  rw [h, Option.bind_some]
  simp only [h2]
theorem iRng1E_of {m : ME} {S S1 : Sto} {n : Nat} (h : m S = some (tI n, S1)) (hn : n ≤ 1000000) : iRng1E m S = some (rngD 0 n, S1) := by
  unfold iRng1E
  rw [h, Option.bind_some]
  exact (if_pos (near_nat hn)).trans (by rw [Int.toNat_natCast])
theorem eVar_of {i : Nat} {S : Sto} {t : T} (h : S[i]? = some (some t)) : eVar i S = some (.sh (fz t), S.set i (some (.sh (fz t)))) := by
  unfold eVar
  rw [h]
  cases t with
  | sh d => rw [fz_sh, set_at h]
  | _ => rfl
theorem kid_lst {ts : List T} {i : Nat} {t : T} (h : ts[i]? = some t) : kid (.lst ts) (i : Nat) = some t := by
  show L2.atI ts _ = _
  rw [atI_pos, h]
theorem pa1_of {m : MP} {S : Sto} {x : D} (h : m S = some x) : paCons m (fun _ => some []) S = some [x] := by
  unfold paCons
  rw [h]
  rfl
theorem pa2_of {m m2 : MP} {S : Sto} {x y : D} (h : m S = some x) (h2 : m2 S = some y) : paCons m (paCons m2 (fun _ => some [])) S = some [x, y] := by
  unfold paCons
  rw [h, h2]
  rfl
end VS
namespace VS
open PySem PySem.Spec PyProof.Rows L2
/-! ### numbers drawn below given sizes -/
def cellB : MS := sSeq (sIf (ofB (pB (p2 dGt (pCall dLen (paCons (pV 0) ((fun _ => some [])))) (pC (.int 0))))) (sRet (ofP (p2 dIx (pV 0) (p2 dMod (pCall dInt (paCons (pV 1) ((fun _ => some [])))) (pCall dLen (paCons (pV 0) ((fun _ => some [])))))))) (sNext)) (sRet (ofP (pC (.int 0))))
def fCell : Fn := mkFn 2 2 [] cellB
abbrev d2Top : MS := (sSeq (sApp 6 (ofP (p2 dMod (pCall dInt (paCons (pV 5) ((fun _ => some [])))) (p2 dIx (pV 2) (pV 7))))) (sAsg (ofP (p2 dDiv (pV 5) (p2 dIx (pV 2) (pV 7)))) (putS 5)))
abbrev d2A : MS := (sAsg (ofP (p2 dMod (pCall dInt (paCons (p2 dAdd (p2 dMul (p2 dAdd (p2 dAdd (p2 dAdd (pV 4) (pC (.int 1))) (p2 dMul (pC (.int 31)) (pV 1))) (pV 7)) (pC (.int 48271))) (p2 dMul (pC (.int 69621)) (pV 7))) ((fun _ => some [])))) (p2 dIx (pV 3) (p2 dMod (pV 7) (pC (.int 8)))))) (putS 8))
abbrev d2B : MS := (sAsg (ofP (p2 dMod (pCall dInt (paCons (p2 dAdd (p2 dAdd (p2 dMul (pV 8) (pV 8)) (p2 dMul (pC (.int 16807)) (pV 7))) (pV 1)) ((fun _ => some [])))) (p2 dIx (pV 3) (p2 dMod (p2 dAdd (pV 7) (pC (.int 3))) (pC (.int 8)))))) (putS 9))
abbrev d2C : MS := (sAsg (ofP (p2 dMod (pCall dInt (paCons (p2 dAdd (p2 dAdd (p2 dMul (pV 9) (pC (.int 69621))) (p2 dMul (pV 8) (pC (.int 16807)))) (pV 7)) ((fun _ => some [])))) (p2 dIx (pV 3) (p2 dMod (p2 dAdd (pV 7) (pC (.int 5))) (pC (.int 8)))))) (putS 9))
abbrev d2D : MS := (sApp 6 (ofP (p2 dMod (pCall dInt (paCons (p2 dDiv (pV 9) (pC (.int 16))) ((fun _ => some [])))) (p2 dIx (pV 2) (pV 7)))))
abbrev d2Body : MS := (sIf (ofB (pB (p2 dGt (pV 5) (pC (.int 0))))) d2Top (sSeq d2A (sSeq d2B (sSeq d2C d2D))))
abbrev d2Pr : MS := (sAsg (eLst (aCons (ofP (pC (.int 2147483647))) (aCons (ofP (pC (.int 998244353))) (aCons (ofP (pC (.int 1000000007))) (aCons (ofP (pC (.int 1000000009))) (aCons (ofP (pC (.int 4294967291))) (aCons (ofP (pC (.int 1073741789))) (aCons (ofP (pC (.int 536870909))) (aCons (ofP (pC (.int 2305843009213693951))) (aNil)))))))))) (putS 3))
def d2F : MS := sSeq d2Pr (sSeq (sAsg (eC1 dAbs (eCall fCell [some 0, some 1] (aMv 0 (aMv 1 (aNil))))) (putS 4)) (sSeq (sAsg (ofP (pC (.int 0))) (putS 5)) (sSeq (sIf (ofB (pB (p2 dGe (pV 4) (p2 dPow (pC (.int 10)) (pC (.int 18)))))) (sAsg (eVar 4) (putS 5)) (sNext)) (sSeq (sAsg (eLst (aNil)) (putS 6)) (sSeq (mFor (iRng1' (paCons (pCall dLen (paCons (pV 2) ((fun _ => some [])))) ((fun _ => some [])))) (putS 7) d2Body) (sRet (eMov 6)))))))
def fDraws2 : Fn := mkFn 3 10 [] d2F
def PRM : List Int := [2147483647, 998244353, 1000000007, 1000000009, 4294967291, 1073741789, 536870909, 2305843009213693951]
theorem PRM_ok : ∀ p ∈ PRM, 0 < p ∧ p ≤ 2305843009213693951 := by decide
theorem dMul_l {i j : Int} (h : small64 i = true) : dMul (.int i) (.int j) = some (.int (i * j)) := by
  show (if (small64 i || small64 j) = true then _ else _) = _
  rw [if_pos (by rw [h, Bool.true_or])]
theorem small_big {i : Int} (h1 : 0 ≤ i) (h2 : i < 2305843009213693951) : small64 i = true := by
  unfold small64
  exact decide_eq_true (by omega)
theorem dLen_ints (ns : List Int) : dLen [.lst (ns.map .int)] = some (.int (ns.length : Nat)) := by
  show some (D.int ((ns.map D.int).length : Nat)) = _
  rw [List.length_map]
theorem dIx_ints {ns : List Int} {j : Nat} (h : j < ns.length) : dIx (.lst (ns.map .int)) (.int (j : Nat)) = some (.int ns[j]) := by
  show L2.atI (ns.map D.int) _ = _
  rw [atI_pos, List.getElem?_map, List.getElem?_eq_getElem h]
  rfl
theorem dMod_nat {k n : Nat} (h : 0 < n) : dMod (.int (k : Nat)) (.int (n : Nat)) = some (.int (k % n : Nat)) := by
  rw [dMod_of (by omega), Int.fmod_eq_emod_of_nonneg _ (by omega)]
  rfl
theorem cell_eq {ns : List Int} {place : Nat} : ∃ c : Int, fCell [.sh (.lst (ns.map .int)), tI place] = some (tZ c, [some (.sh (.lst (ns.map .int))), some (tI place)]) := by
  have tst : (ofB (pB (p2 dGt (pCall dLen (paCons (pV 0) ((fun _ => some [])))) (pC (.int 0))))) [some (.sh (.lst (ns.map .int))), some (tI place)] = some (decide (0 < ns.length), [some (.sh (.lst (ns.map .int))), some (tI place)]) := by
    refine ofB_of (pB_of (p2_of (pc1_of rfl (dLen_ints ns)) rfl ?_))
    show some (D.bl (decide ((0 : Int) < (ns.length : Int)))) = _
    congr 2
    rw [Bool.eq_iff_iff]
    simp
  by_cases h : 0 < ns.length
  · rw [decide_eq_true h] at tst
    have hk : place % ns.length < ns.length := Nat.mod_lt _ h
    refine ⟨ns[place % ns.length], ?_⟩
    have e : cellB [some (.sh (.lst (ns.map .int))), some (tI place)] = some (.rt (tZ ns[place % ns.length]) [some (.sh (.lst (ns.map .int))), some (tI place)]) :=
      sq_yes tst (sRet_of (ofP_of (p2_of rfl (p2_of (pc1_of rfl rfl) (pc1_of rfl (dLen_ints ns)) (dMod_nat h)) (dIx_ints hk)) rfl))
    exact mkFn_rt (np := 2) (ns := 2) (as := []) (S := [some (.sh (.lst (ns.map .int))), some (tI place)]) rfl rfl e
  · rw [decide_eq_false h] at tst
    refine ⟨0, ?_⟩
    have e : cellB [some (.sh (.lst (ns.map .int))), some (tI place)] = some (.rt (tZ 0) [some (.sh (.lst (ns.map .int))), some (tI place)]) := (sq_no tst).trans rfl
    exact mkFn_rt (np := 2) (ns := 2) (as := []) (S := [some (.sh (.lst (ns.map .int))), some (tI place)]) rfl rfl e
abbrev d2S (sc : T) (pl : Nat) (sz : T) (c r : Int) (ds : List Int) (o7 o8 o9 : Option T) : Sto := [some sc, some (tI pl), some sz, some (.lst (PRM.map tZ)), some (tZ c), some (tZ r), some (.lst (ds.map tZ)), o7, o8, o9]
theorem map_snoc (ds : List Int) (x : Int) : (ds ++ [x]).map tZ = ds.map tZ ++ [tZ x] := by rw [List.map_append]; rfl
theorem d2_body {sc sz : T} {szs : List Int} {pl k : Nat} {c r : Int} {ds : List Int} {o8 o9 : Option T} (hz : fz sz = .lst (szs.map .int)) (hk : k < szs.length) (h0 : 0 < szs[k]) (hb : szs[k].natAbs.log2 < 9000) (hd : ds.length ≤ 1000000) :
    ∃ d r' o8' o9', 0 ≤ d ∧ d < szs[k] ∧ d2Body (d2S sc pl sz c r ds (some (tI k)) o8 o9) = some (.nx (d2S sc pl sz c r' (ds ++ [d]) (some (tI k)) o8' o9')) := by
  have hwn : (ds.map tZ).length < sizeLine := by rw [List.length_map, sizeLine_val]; omega
  have tst : (ofB (pB (p2 dGt (pV 5) (pC (.int 0))))) (d2S sc pl sz c r ds (some (tI k)) o8 o9) = some (decide (0 < r), d2S sc pl sz c r ds (some (tI k)) o8 o9) :=
    ofB_of (pB_of (p2_of rfl rfl rfl))
  have ixz {o8 o9 : Option T} {r : Int} {ds : List Int} : (p2 dIx (pV 2) (pV 7)) (d2S sc pl sz c r ds (some (tI k)) o8 o9) = some (.int szs[k]) :=
    p2_of (x := .lst (szs.map .int)) (congrArg some hz) rfl (dIx_ints hk)
  by_cases hr : 0 < r
  · rw [decide_eq_true hr] at tst
    refine ⟨r.fmod szs[k], r.fdiv szs[k], o8, o9, fm_lo _ h0, fm_hi _ h0, ?_⟩
    rw [d2Body, sIf_t tst, d2Top]
    have n1 := sApp_of (j := 6) (me := ofP (p2 dMod (pCall dInt (paCons (pV 5) ((fun _ => some [])))) (p2 dIx (pV 2) (pV 7)))) (S := d2S sc pl sz c r ds (some (tI k)) o8 o9) (us := ds.map tZ) rfl (ofP_of (p2_of (pc1_of rfl rfl) ixz (dMod_of h0)) rfl) rfl hwn
    rw [sSeq_nx n1]
    have e : (d2S sc pl sz c r ds (some (tI k)) o8 o9).set 6 (some (.lst (ds.map tZ ++ [T.sh (D.int (r.fmod szs[k]))]))) = d2S sc pl sz c r (ds ++ [r.fmod szs[k]]) (some (tI k)) o8 o9 := by
      unfold d2S
      rw [map_snoc]
      rfl
    rw [e]
    exact sAsg_of (ofP_of (p2_of rfl ixz (dDiv_of (Int.ne_of_gt h0) hb)) rfl) rfl
  · rw [decide_eq_false hr] at tst
    have pr : ∀ (n : Nat) {o8 o9 : Option T}, ∃ p : Int, 0 < p ∧ p ≤ 2305843009213693951 ∧ dIx (.lst (PRM.map .int)) (.int (n % 8 : Nat)) = some (.int p) := fun n _ _ => by
      have h8 : n % 8 < PRM.length := Nat.mod_lt _ (by decide)
      exact ⟨PRM[n % 8], (PRM_ok _ (List.getElem_mem h8)).1, (PRM_ok _ (List.getElem_mem h8)).2, dIx_ints h8⟩
    have fzp : fz (.lst (PRM.map tZ)) = .lst (PRM.map .int) := fz_lst_tZ PRM
    obtain ⟨q1, a1, b1, i1⟩ := pr k (o8 := none) (o9 := none)
    obtain ⟨q2, a2, b2, i2⟩ := pr (k + 3) (o8 := none) (o9 := none)
    obtain ⟨q3, a3, b3, i3⟩ := pr (k + 5) (o8 := none) (o9 := none)
    have s1 (i : Int) := dMul_r (i := i) (j := 48271) (small_of (by omega) (by omega))
    have s2 (j : Int) := dMul_l (i := 69621) (j := j) (small_of (by omega) (by omega))
    have s3 (j : Int) := dMul_l (i := 31) (j := j) (small_of (by omega) (by omega))
    have s4 (j : Int) := dMul_l (i := 16807) (j := j) (small_of (by omega) (by omega))
    have s5 (i : Int) := dMul_r (i := i) (j := 69621) (small_of (by omega) (by omega))
    have s6 (i : Int) := dMul_r (i := i) (j := 16807) (small_of (by omega) (by omega))
    have m1 : ∃ f : Int, 0 ≤ f ∧ f < 2305843009213693951 ∧ d2A (d2S sc pl sz c r ds (some (tI k)) o8 o9) = some (.nx (d2S sc pl sz c r ds (some (tI k)) (some (tZ f)) o9)) :=
      ⟨_, fm_lo _ a1, Int.lt_of_lt_of_le (fm_hi _ a1) b1, sAsg_of (ofP_of (p2_of (pc1_of (p2_of (p2_of (p2_of (p2_of (p2_of rfl rfl rfl) (p2_of rfl rfl (s3 _)) rfl) rfl rfl) rfl (s1 _)) (p2_of rfl rfl (s2 _)) rfl) rfl) (p2_of (x := .lst (PRM.map .int)) (congrArg some fzp) (p2_of rfl rfl (dMod_nat (n := 8) (by decide))) i1) (dMod_of a1)) rfl) rfl⟩
    obtain ⟨f, f0, f1, n1⟩ := m1
    have sf (i : Int) := dMul_r (i := i) (j := f) (small_big f0 f1)
    have m2 : ∃ g : Int, 0 ≤ g ∧ g < 2305843009213693951 ∧ d2B (d2S sc pl sz c r ds (some (tI k)) (some (tZ f)) o9) = some (.nx (d2S sc pl sz c r ds (some (tI k)) (some (tZ f)) (some (tZ g)))) :=
      ⟨_, fm_lo _ a2, Int.lt_of_lt_of_le (fm_hi _ a2) b2, sAsg_of (ofP_of (p2_of (pc1_of (p2_of (p2_of (p2_of rfl rfl (sf _)) (p2_of rfl rfl (s4 _)) rfl) rfl rfl) rfl) (p2_of (x := .lst (PRM.map .int)) (congrArg some fzp) (p2_of (p2_of rfl rfl rfl) rfl (dMod_nat (k := k + 3) (n := 8) (by decide))) i2) (dMod_of a2)) rfl) rfl⟩
    obtain ⟨g, g0, g1, n2⟩ := m2
    have m3 : ∃ e : Int, 0 ≤ e ∧ d2C (d2S sc pl sz c r ds (some (tI k)) (some (tZ f)) (some (tZ g))) = some (.nx (d2S sc pl sz c r ds (some (tI k)) (some (tZ f)) (some (tZ e)))) :=
      ⟨_, fm_lo _ a3, sAsg_of (ofP_of (p2_of (pc1_of (p2_of (p2_of (p2_of rfl rfl (s5 _)) (p2_of rfl rfl (s6 _)) rfl) rfl rfl) rfl) (p2_of (x := .lst (PRM.map .int)) (congrArg some fzp) (p2_of (p2_of rfl rfl rfl) rfl (dMod_nat (k := k + 5) (n := 8) (by decide))) i3) (dMod_of a3)) rfl) rfl⟩
    obtain ⟨e, e0, n3⟩ := m3
    refine ⟨(e.fdiv 16).fmod szs[k], r, some (tZ f), some (tZ e), fm_lo _ h0, fm_hi _ h0, ?_⟩
    have n4 := sApp_of (j := 6) (me := ofP (p2 dMod (pCall dInt (paCons (p2 dDiv (pV 9) (pC (.int 16))) ((fun _ => some [])))) (p2 dIx (pV 2) (pV 7)))) (S := d2S sc pl sz c r ds (some (tI k)) (some (tZ f)) (some (tZ e))) (us := ds.map tZ) rfl (ofP_of (p2_of (pc1_of (p2_of rfl rfl (dDiv_of (by omega) (by decide +kernel))) rfl) ixz (dMod_of h0)) rfl) rfl hwn
    rw [d2Body, sIf_f tst, sSeq_nx n1, sSeq_nx n2, sSeq_nx n3, d2D, n4]
    unfold d2S
    rw [map_snoc]
    rfl
/-- what may be asked of a size -/
def SzOk (szs : List Int) : Prop := ∀ z ∈ szs, 0 < z ∧ z.natAbs.log2 < 9000
theorem d2_loop {sc sz : T} {szs : List Int} {pl : Nat} {c : Int} (hz : fz sz = .lst (szs.map .int)) (ok : SzOk szs) (hl : szs.length ≤ 1000000) : ∀ (n k : Nat) (r : Int) (ds : List Int) (o7 o8 o9 : Option T), k + n = szs.length → ds.length = k → (∀ (i : Nat) (a b : Int), ds[i]? = some a → szs[i]? = some b → 0 ≤ a ∧ a < b) →
    ∃ (ds' : List Int) (r' : Int) (o7' o8' o9' : Option T), ds'.length = szs.length ∧ (∀ (i : Nat) (a b : Int), ds'[i]? = some a → szs[i]? = some b → 0 ≤ a ∧ a < b) ∧ loopF (putS 7) d2Body (rngD (k : Nat) n) (d2S sc pl sz c r ds o7 o8 o9) = some (.nx (d2S sc pl sz c r' ds' o7' o8' o9'))
  | 0, k, r, ds, o7, o8, o9, h, hd, hp => ⟨ds, r, o7, o8, o9, by omega, hp, rfl⟩
  | n + 1, k, r, ds, o7, o8, o9, h, hd, hp => by
    have hk : k < szs.length := by omega
    have hok := ok szs[k] (List.getElem_mem hk)
    obtain ⟨d, r1, a8, a9, d0, d1, e⟩ := d2_body (sc := sc) (sz := sz) (pl := pl) (k := k) (c := c) (r := r) (ds := ds) (o8 := o8) (o9 := o9) hz hk hok.1 hok.2 (by omega)
    obtain ⟨ds', r', b7, b8, b9, h1, h2, h3⟩ := d2_loop (sc := sc) (pl := pl) (c := c) hz ok hl n (k + 1) r1 (ds ++ [d]) (some (tI k)) a8 a9 (by omega) (by rw [List.length_append, List.length_singleton]; omega) (fun i a b ha hb => by
      by_cases hi : i < ds.length
      · rw [List.getElem?_append_left hi] at ha
        exact hp i a b ha hb
      · have hi2 : i = k := by
          have := (List.getElem?_eq_some_iff.mp ha).1
          rw [List.length_append, List.length_singleton] at this
          omega
        rw [hi2, ← hd, List.getElem?_concat_length] at ha
        rw [hi2, List.getElem?_eq_getElem hk] at hb
        cases ha
        cases hb
        exact ⟨d0, d1⟩)
    refine ⟨ds', r', b7, b8, b9, h1, h2, ?_⟩
    rw [rng_cons, loop_nx (S1 := d2S sc pl sz c r ds (some (tI k)) o8 o9) rfl e]
    exact h3
/-- the draws: as many as sizes, each below its size -/
theorem draws2_eq {ns : List Int} {pl : Nat} {sz : T} {szs : List Int} (hz : fz sz = .lst (szs.map .int)) (ok : SzOk szs) (hl : szs.length ≤ 1000000) :
    ∃ ds : List Int, ds.length = szs.length ∧ (∀ (i : Nat) (a b : Int), ds[i]? = some a → szs[i]? = some b → 0 ≤ a ∧ a < b) ∧ fDraws2 [.sh (.lst (ns.map .int)), tI pl, sz] = some (.lst (ds.map tZ), [some (.sh (.lst (ns.map .int))), some (tI pl), some sz]) := by
  obtain ⟨c0, hc⟩ := cell_eq (ns := ns) (place := pl)
  let c : Int := if c0 < 0 then -c0 else c0
  have n1 : d2Pr [some (.sh (.lst (ns.map .int))), some (tI pl), some sz, none, none, none, none, none, none, none] = some (.nx [some (.sh (.lst (ns.map .int))), some (tI pl), some sz, some (.lst (PRM.map tZ)), none, none, none, none, none, none]) := by
    simp [d2Pr, sAsg, eLst, aCons, aNil, ofP, pC, putS, PRM]
  have n2 : (sAsg (eC1 dAbs (eCall fCell [some 0, some 1] (aMv 0 (aMv 1 (aNil))))) (putS 4)) [some (.sh (.lst (ns.map .int))), some (tI pl), some sz, some (.lst (PRM.map tZ)), none, none, none, none, none, none] = some (.nx [some (.sh (.lst (ns.map .int))), some (tI pl), some sz, some (.lst (PRM.map tZ)), some (tZ c), none, none, none, none, none]) := by
    refine sAsg_of (t := tZ c) (S1 := [some (.sh (.lst (ns.map .int))), some (tI pl), some sz, some (.lst (PRM.map tZ)), none, none, none, none, none, none]) ?_ rfl
    have e := eCall_of (f := fCell) (ms := [some 0, some 1]) (ts := [.sh (.lst (ns.map .int)), tI pl]) (S := [some (.sh (.lst (ns.map .int))), some (tI pl), some sz, some (.lst (PRM.map tZ)), none, none, none, none, none, none]) (S1 := [none, none, some sz, some (.lst (PRM.map tZ)), none, none, none, none, none, none]) (ma := aMv 0 (aMv 1 (aNil))) rfl hc rfl
    unfold eC1
    rw [e]
    rfl
  have n3 : (sAsg (ofP (pC (.int 0))) (putS 5)) [some (.sh (.lst (ns.map .int))), some (tI pl), some sz, some (.lst (PRM.map tZ)), some (tZ c), none, none, none, none, none] = some (.nx [some (.sh (.lst (ns.map .int))), some (tI pl), some sz, some (.lst (PRM.map tZ)), some (tZ c), some (tZ 0), none, none, none, none]) := rfl
  have pw : dPow (.int 10) (.int 18) = some (.int 1000000000000000000) := by kernel_rfl
  have tst : (ofB (pB (p2 dGe (pV 4) (p2 dPow (pC (.int 10)) (pC (.int 18)))))) [some (.sh (.lst (ns.map .int))), some (tI pl), some sz, some (.lst (PRM.map tZ)), some (tZ c), some (tZ 0), none, none, none, none] = some (decide (1000000000000000000 ≤ c), [some (.sh (.lst (ns.map .int))), some (tI pl), some sz, some (.lst (PRM.map tZ)), some (tZ c), some (tZ 0), none, none, none, none]) :=
    ofB_of (pB_of (p2_of rfl (p2_of rfl rfl pw) rfl))
  have n4 : ∃ r : Int, (sIf (ofB (pB (p2 dGe (pV 4) (p2 dPow (pC (.int 10)) (pC (.int 18)))))) (sAsg (eVar 4) (putS 5)) (sNext)) [some (.sh (.lst (ns.map .int))), some (tI pl), some sz, some (.lst (PRM.map tZ)), some (tZ c), some (tZ 0), none, none, none, none] = some (.nx [some (.sh (.lst (ns.map .int))), some (tI pl), some sz, some (.lst (PRM.map tZ)), some (tZ c), some (tZ r), none, none, none, none]) := by
    by_cases h : 1000000000000000000 ≤ c
    · rw [decide_eq_true h] at tst
      exact ⟨c, by rw [sIf_t tst]; rfl⟩
    · rw [decide_eq_false h] at tst
      exact ⟨0, by rw [sIf_f tst]; rfl⟩
  obtain ⟨r, n4⟩ := n4
  have n5 : (sAsg (eLst (aNil)) (putS 6)) [some (.sh (.lst (ns.map .int))), some (tI pl), some sz, some (.lst (PRM.map tZ)), some (tZ c), some (tZ r), none, none, none, none] = some (.nx (d2S (.sh (.lst (ns.map .int))) pl sz c r [] none none none)) := rfl
  obtain ⟨ds, r', o7, o8, o9, h1, h2, h3⟩ := d2_loop (sc := .sh (.lst (ns.map .int))) (pl := pl) (c := c) hz ok hl szs.length 0 r [] none none none (by omega) rfl (fun i a b ha _ => by simp at ha)
  have ei : (iRng1' (paCons (pCall dLen (paCons (pV 2) ((fun _ => some [])))) ((fun _ => some [])))) (d2S (.sh (.lst (ns.map .int))) pl sz c r [] none none none) = some (rngD 0 szs.length, d2S (.sh (.lst (ns.map .int))) pl sz c r [] none none none) := by
    exact iRng1_of (pa1_of (pc1_of (x := .lst (szs.map .int)) (congrArg some hz) (dLen_ints szs))) hl
  refine ⟨ds, h1, h2, ?_⟩
  have e : d2F [some (.sh (.lst (ns.map .int))), some (tI pl), some sz, none, none, none, none, none, none, none] = some (.rt (.lst (ds.map tZ)) ((d2S (.sh (.lst (ns.map .int))) pl sz c r' ds o7 o8 o9).set 6 none)) := by
    rw [d2F, sSeq_nx n1, sSeq_nx n2, sSeq_nx n3, sSeq_nx n4, sSeq_nx n5, sSeq_nx ((mFor_of ei).trans h3)]
    rfl
  exact mkFn_rt (np := 3) (ns := 10) (as := []) (S := [some (.sh (.lst (ns.map .int))), some (tI pl), some sz, none, none, none, none, none, none, none]) rfl rfl e
end VS
namespace K11
open PySem PySem.Spec PyProof.Rows L2 VS
def topS (i : Nat) : Stmt := PySem.Challenge.pw_swornon_k11_chains_and_rings.main.body.getD i (.Pass ⟨0, 0, 0, 0⟩)
abbrev st_chain_sum : Stmt := topS 1
abbrev st_is_ring : Stmt := topS 2
abbrev st_keeps_all : Stmt := topS 3
abbrev st_f_law_cell : Stmt := topS 5
abbrev st_f_law_draws : Stmt := topS 6
abbrev st_f_law_is_integer : Stmt := topS 7
abbrev st_f_law_sum : Stmt := topS 8
abbrev st_f_law_kept : Stmt := topS 9
abbrev st_f_law_weight : Stmt := topS 10
abbrev st_f_law_differences : Stmt := topS 11
abbrev st_f_law_going : Stmt := topS 12
abbrev st_f_law_path : Stmt := topS 13
abbrev st_f_law_drawn : Stmt := topS 14
abbrev st_f_law_same : Stmt := topS 15
abbrev st_f_law_is_triple : Stmt := topS 16
abbrev st_f_law_tells : Stmt := topS 17
abbrev st_f_law_raised : Stmt := topS 18
abbrev st_law : Stmt := topS 19
/-! ### the defs as functions -/
def b_chain_sum : MS := sSeq (sIf (ofB (pB (p2 dEq (pCall dLen (paCons (pV 1) ((fun _ => some [])))) (pC (.int 0))))) (sRet (ofP (pC .non))) (sNext)) (sSeq (mFor (iSeq' (eVar 1)) (putS 2) (sIf (ofB (bOr (pB (p2 dLt (pV 2) (pC (.int 0)))) (pB (p2 dGe (pV 2) (pCall dLen (paCons (pV 0) ((fun _ => some [])))))))) (sRet (ofP (pC .non))) (sNext))) (sSeq (sAsg (ofP (p2 dIx (p2 dIx (pV 0) (p2 dIx (pV 1) (pC (.int 0)))) (pC (.int 0)))) (putS 3)) (sSeq (sAsg (eVar 3) (putS 4)) (sSeq (sAsg (ofP (pC (.int 0))) (putS 5)) (sSeq (mFor (iSeq' (eVar 1)) (putS 2) (sSeq (sAsg (eIxK 0 (eVar 2)) (gTupS 3 (gsCons (putS 6) (gsCons (putS 7) (gsCons (putS 8) (gsNil)))))) (sSeq (sIf (ofB (pB (p2 dNe (pV 6) (pV 4)))) (sRet (ofP (pC .non))) (sNext)) (sSeq (sAsg (eVar 7) (putS 4)) (sAsg (ofP (p2 dAdd (pV 5) (pV 8))) (putS 5)))))) (sRet (eTup (aCons (eVar 3) (aCons (eVar 4) (aCons (eVar 5) (aNil)))))))))))
def chain_sum : Fn := mkFn 2 9 [] b_chain_sum
def b_is_ring : MS := sSeq (sAsg (eCall chain_sum [some 0, some 1] (aMv 0 (aMv 1 (aNil)))) (putS 2)) (sRet (ofP (pAnd (p2 dIsNotN (pV 2) (pC .non)) (pAnd (p2 dEq (p2 dIx (pV 2) (pC (.int 0))) (p2 dIx (pV 2) (pC (.int 1)))) (p2 dLt (p2 dIx (pV 2) (pC (.int 2))) (pC (.int 0)))))))
def is_ring : Fn := mkFn 2 3 [] b_is_ring
def b_keeps_all : MS := sSeq (sAsg (e2T addT (eLst (aCons (ofP (pC (.int 0))) (aNil))) (eList (aCons (eVar 1) (aNil)))) (putS 2)) (sSeq (mFor (iSeq' (eVar 0)) (gTupS 3 (gsCons (putS 3) (gsCons (putS 4) (gsCons (putS 5) (gsNil))))) (sIf (ofB (pB (p2 dGt (p2 dSub (p2 dIx (pV 2) (pV 3)) (p2 dIx (pV 2) (pV 4))) (pV 5)))) (sRet (ofP (pC (.bl false)))) (sNext))) (sRet (ofP (pC (.bl true)))))
def keeps_all : Fn := mkFn 2 6 [] b_keeps_all
def b_f_law_cell : MS := sSeq (sIf (ofB (pB (p2 dGt (pCall dLen (paCons (pV 0) ((fun _ => some [])))) (pC (.int 0))))) (sRet (ofP (p2 dIx (pV 0) (p2 dMod (pCall dInt (paCons (pV 1) ((fun _ => some [])))) (pCall dLen (paCons (pV 0) ((fun _ => some [])))))))) (sNext)) (sRet (ofP (pC (.int 0))))
def f_law_cell : Fn := mkFn 2 2 [] b_f_law_cell
def b_f_law_draws : MS := sSeq (sAsg (eLst (aCons (ofP (pC (.int 2147483647))) (aCons (ofP (pC (.int 998244353))) (aCons (ofP (pC (.int 1000000007))) (aCons (ofP (pC (.int 1000000009))) (aCons (ofP (pC (.int 4294967291))) (aCons (ofP (pC (.int 1073741789))) (aCons (ofP (pC (.int 536870909))) (aCons (ofP (pC (.int 2305843009213693951))) (aNil)))))))))) (putS 3)) (sSeq (sAsg (eC1 dAbs (eCall f_law_cell [some 0, some 1] (aMv 0 (aMv 1 (aNil))))) (putS 4)) (sSeq (sAsg (ofP (pC (.int 0))) (putS 5)) (sSeq (sIf (ofB (pB (p2 dGe (pV 4) (p2 dPow (pC (.int 10)) (pC (.int 18)))))) (sAsg (eVar 4) (putS 5)) (sNext)) (sSeq (sAsg (eLst (aNil)) (putS 6)) (sSeq (mFor (iRng1' (paCons (pCall dLen (paCons (pV 2) ((fun _ => some [])))) ((fun _ => some [])))) (putS 7) (sIf (ofB (pB (p2 dGt (pV 5) (pC (.int 0))))) (sSeq (sApp 6 (ofP (p2 dMod (pCall dInt (paCons (pV 5) ((fun _ => some [])))) (p2 dIx (pV 2) (pV 7))))) (sAsg (ofP (p2 dDiv (pV 5) (p2 dIx (pV 2) (pV 7)))) (putS 5))) (sSeq (sAsg (ofP (p2 dMod (pCall dInt (paCons (p2 dAdd (p2 dMul (p2 dAdd (p2 dAdd (p2 dAdd (pV 4) (pC (.int 1))) (p2 dMul (pC (.int 31)) (pV 1))) (pV 7)) (pC (.int 48271))) (p2 dMul (pC (.int 69621)) (pV 7))) ((fun _ => some [])))) (p2 dIx (pV 3) (p2 dMod (pV 7) (pC (.int 8)))))) (putS 8)) (sSeq (sAsg (ofP (p2 dMod (pCall dInt (paCons (p2 dAdd (p2 dAdd (p2 dMul (pV 8) (pV 8)) (p2 dMul (pC (.int 16807)) (pV 7))) (pV 1)) ((fun _ => some [])))) (p2 dIx (pV 3) (p2 dMod (p2 dAdd (pV 7) (pC (.int 3))) (pC (.int 8)))))) (putS 9)) (sSeq (sAsg (ofP (p2 dMod (pCall dInt (paCons (p2 dAdd (p2 dAdd (p2 dMul (pV 9) (pC (.int 69621))) (p2 dMul (pV 8) (pC (.int 16807)))) (pV 7)) ((fun _ => some [])))) (p2 dIx (pV 3) (p2 dMod (p2 dAdd (pV 7) (pC (.int 5))) (pC (.int 8)))))) (putS 9)) (sApp 6 (ofP (p2 dMod (pCall dInt (paCons (p2 dDiv (pV 9) (pC (.int 16))) ((fun _ => some [])))) (p2 dIx (pV 2) (pV 7)))))))))) (sRet (eMov 6)))))))
def f_law_draws : Fn := mkFn 3 10 [] b_f_law_draws
def b_f_law_is_integer : MS := sRet (ofP (pAnd (p1 (dIsi "int") (pV 0)) (pNot (p1 (dIsi "bool") (pV 0)))))
def f_law_is_integer : Fn := mkFn 1 1 [] b_f_law_is_integer
def b_f_law_sum : MS := sSeq (sIf (ofB (pB (p2 dEq (pCall dLen (paCons (pV 1) ((fun _ => some [])))) (pC (.int 0))))) (sRet (ofP (pC .non))) (sNext)) (sSeq (sAsg (ofP (pC (.int 0))) (putS 2)) (sSeq (mFor (iRng1' (paCons (pCall dLen (paCons (pV 1) ((fun _ => some [])))) ((fun _ => some [])))) (putS 3) (sSeq (sIf (ofB (bOr (pB (p2 dLt (p2 dIx (pV 1) (pV 3)) (pC (.int 0)))) (pB (p2 dGe (p2 dIx (pV 1) (pV 3)) (pCall dLen (paCons (pV 0) ((fun _ => some [])))))))) (sRet (ofP (pC .non))) (sNext)) (sSeq (sIf (ofB (bAnd (pB (p2 dGt (pV 3) (pC (.int 0)))) (pB (p2 dNe (p2 dIx (p2 dIx (pV 0) (p2 dIx (pV 1) (p2 dSub (pV 3) (pC (.int 1))))) (pC (.int 1))) (p2 dIx (p2 dIx (pV 0) (p2 dIx (pV 1) (pV 3))) (pC (.int 0))))))) (sRet (ofP (pC .non))) (sNext)) (sAsg (ofP (p2 dAdd (pV 2) (p2 dIx (p2 dIx (pV 0) (p2 dIx (pV 1) (pV 3))) (pC (.int 2))))) (putS 2))))) (sRet (eTup (aCons (ofP (p2 dIx (p2 dIx (pV 0) (p2 dIx (pV 1) (pC (.int 0)))) (pC (.int 0)))) (aCons (ofP (p2 dIx (p2 dIx (pV 0) (p2 dIx (pV 1) (p1 dNeg (pC (.int 1))))) (pC (.int 1)))) (aCons (eVar 2) (aNil))))))))
def f_law_sum : Fn := mkFn 2 4 [] b_f_law_sum
def b_f_law_kept : MS := sSeq (sAsg (e2T addT (eLst (aCons (ofP (pC (.int 0))) (aNil))) (eVar 1)) (putS 2)) (sRet (eC1 dAll (eLc (iSeq' (eVar 0)) (gTupS 3 (gsCons (putS 3) (gsCons (putS 4) (gsCons (putS 5) (gsNil))))) (qYes) (ofP (p2 dLe (p2 dSub (p2 dIx (pV 2) (pV 3)) (p2 dIx (pV 2) (pV 4))) (pV 5))) [3, 4, 5])))
def f_law_kept : Fn := mkFn 2 6 [] b_f_law_kept
def b_f_law_weight : MS := sSeq (sAsg (ofP (p2 dMod (pCall dInt (paCons (pV 0) ((fun _ => some [])))) (pC (.int 16)))) (putS 1)) (sSeq (sAsg (ofP (p2 dDiv (pV 0) (pC (.int 16)))) (putS 2)) (sSeq (sIf (ofB (pB (p2 dEq (pV 1) (pC (.int 0))))) (sRet (ofP (p2 dMul (p2 dSub (pC (.int 1)) (p2 dMul (pC (.int 2)) (p2 dMod (pCall dInt (paCons (pV 2) ((fun _ => some [])))) (pC (.int 2))))) (p2 dAdd (p2 dPow (pC (.int 10)) (pC (.int 39))) (p2 dMod (pCall dInt (paCons (pV 2) ((fun _ => some [])))) (p2 dPow (pC (.int 10)) (pC (.int 20)))))))) (sNext)) (sSeq (sIf (ofB (pB (p2 dEq (pV 1) (pC (.int 1))))) (sRet (ofP (p2 dMul (p2 dSub (pC (.int 1)) (p2 dMul (pC (.int 2)) (p2 dMod (pCall dInt (paCons (pV 2) ((fun _ => some [])))) (pC (.int 2))))) (p2 dMod (pCall dInt (paCons (p2 dDiv (pV 2) (pC (.int 2))) ((fun _ => some [])))) (p2 dPow (pC (.int 10)) (pC (.int 10))))))) (sNext)) (sRet (ofP (p2 dSub (p2 dMod (pCall dInt (paCons (pV 2) ((fun _ => some [])))) (pC (.int 13))) (pC (.int 6))))))))
def f_law_weight : Fn := mkFn 1 3 [] b_f_law_weight
def b_f_law_differences : MS := sSeq (sAsg (eLst (aNil)) (putS 4)) (sSeq (sAsg (eCall f_law_draws [some 0, some 1, none] (aMv 0 (aMv 1 (aCons (eLc (iRng1' (paCons (p2 dMul (pC (.int 3)) (pV 2)) ((fun _ => some [])))) (putS 5) (qYes) (ofP (pIf (pB (p2 dEq (p2 dMod (pV 5) (pC (.int 3))) (pC (.int 2)))) (p2 dPow (pC (.int 10)) (pC (.int 42))) (p2 dAdd (pV 3) (pC (.int 1))))) [5]) (aNil))))) (putS 6)) (sSeq (mFor (iRng1' (paCons (pV 2) ((fun _ => some [])))) (putS 5) (sApp 4 (eTup (aCons (ofP (p2 dIx (pV 6) (p2 dMul (pC (.int 3)) (pV 5)))) (aCons (ofP (p2 dIx (pV 6) (p2 dAdd (p2 dMul (pC (.int 3)) (pV 5)) (pC (.int 1))))) (aCons (eFz (eCall f_law_weight [none] (aCons (ofP (p2 dIx (pV 6) (p2 dAdd (p2 dMul (pC (.int 3)) (pV 5)) (pC (.int 2))))) (aNil)))) (aNil))))))) (sRet (eMov 4))))
def f_law_differences : Fn := mkFn 4 7 [] b_f_law_differences
def b_f_law_going : MS := sSeq (sAsg (eCall f_law_draws [some 0, none, none] (aMv 0 (aCons (ofP (pC (.int 2))) (aCons (eLc (iRng1' (paCons (pC (.int 31)) ((fun _ => some [])))) (putS 3) (qYes) (ofP (pC (.int 1000))) [3]) (aNil))))) (putS 4)) (sSeq (sAsg (eLst (aNil)) (putS 5)) (sSeq (mFor (iRng1E (e2 dAdd (ofP (pC (.int 1))) (e2 dMod (ofP (pCall dInt (paCons (p2 dIx (pV 4) (pC (.int 30))) ((fun _ => some []))))) (eIx (eLst (aCons (ofP (pC (.int 12))) (aCons (ofP (pC (.int 30))) (aNil)))) (ofP (p2 dMod (pCall dInt (paCons (p2 dIx (pV 4) (pC (.int 29))) ((fun _ => some [])))) (pC (.int 2)))))))) (putS 3) (sSeq (sAsg (eLc (iRng1' (paCons (pCall dLen (paCons (pV 1) ((fun _ => some [])))) ((fun _ => some [])))) (putS 7) (ofB (bOr (pB (p2 dEq (pV 3) (pC (.int 0)))) (pB (p2 dEq (p2 dIx (p2 dIx (pV 1) (pV 7)) (pC (.int 0))) (p2 dIx (p2 dIx (pV 1) (p2 dIx (pV 5) (p1 dNeg (pC (.int 1))))) (pC (.int 1))))))) (eVar 7) [7]) (putS 6)) (sSeq (sIf (ofB (pB (p2 dEq (pCall dLen (paCons (pV 6) ((fun _ => some [])))) (pC (.int 0))))) (sBreak) (sNext)) (sApp 5 (ofP (p2 dIx (pV 6) (p2 dMod (pCall dInt (paCons (p2 dIx (pV 4) (pV 3)) ((fun _ => some [])))) (pCall dLen (paCons (pV 6) ((fun _ => some []))))))))))) (sRet (eMov 5))))
def f_law_going : Fn := mkFn 3 8 [] b_f_law_going
def b_f_law_path : MS := sSeq (sAsg (eCall f_law_draws [some 0, none, none] (aMv 0 (aCons (ofP (pC (.int 3))) (aCons (e2T addT (eLst (aCons (ofP (pC (.int 8))) (aCons (ofP (pC (.int 6))) (aCons (ofP (pC (.int 5))) (aNil))))) (eLc (iRng1' (paCons (pC (.int 8)) ((fun _ => some [])))) (putS 14) (qYes) (ofP (p2 dAdd (pV 2) (pC (.int 1)))) [14])) (aNil))))) (putS 4)) (sSeq (sAsg (eLc (iList' (eCall f_law_draws [some 0, none, none] (aMv 0 (aCons (ofP (pC (.int 4))) (aCons (eLc (iRng1' (paCons (pC (.int 9)) ((fun _ => some [])))) (putS 14) (qYes) (ofP (p2 dPow (pC (.int 10)) (pC (.int 42)))) [14]) (aNil)))))) (putS 13) (qYes) (eCall f_law_weight [some 13] (aMv 13 (aNil))) [13]) (putS 5)) (sSeq (sAsg (eSlL (eVar 4) (oPart (some (pC (.int 3)))) (oPart (some (p2 dAdd (pC (.int 4)) (p2 dIx (pV 4) (pC (.int 0))))))) (putS 6)) (sSeq (sIf (ofB (pB (pV 3))) (sAsg (e2T addT (eVar 6) (eSlL (eVar 6) (oPart none) (oPart (some (pC (.int 1)))))) (putS 6)) (sAsg (e2T addT (eLst (aCons (ofP (pC (.int 0))) (aNil))) (eVar 6)) (putS 6))) (sSeq (sAsg (ofP (p2 dSub (pCall dLen (paCons (pV 6) ((fun _ => some [])))) (pC (.int 1)))) (putS 7)) (sSeq (sAsg (eLc (iRng1' (paCons (pV 7) ((fun _ => some [])))) (putS 14) (qYes) (eTup (aCons (ofP (p2 dIx (pV 6) (pV 14))) (aCons (ofP (p2 dIx (pV 6) (p2 dAdd (pV 14) (pC (.int 1))))) (aCons (ofP (p2 dIx (pV 5) (pV 14))) (aNil))))) [14]) (putS 8)) (sSeq (sIf (ofB (pB (pV 3))) (sSeq (sAsg (eIx (eLst (aCons (ofP (p1 dNeg (pC (.int 1)))) (aCons (ofP (pC (.int 0))) (aCons (ofP (pC (.int 1))) (aCons (ofP (p1 dNeg (pC (.int 2)))) (aCons (ofP (p2 dIx (pV 5) (pC (.int 8)))) (aCons (ofP (p1 dNeg (pC (.int 1)))) (aNil)))))))) (ofP (p2 dIx (pV 4) (pC (.int 1))))) (putS 9)) (sSeq (sAsg (eC1 dSum (eLc (iList' (eSlK 8 (oPart (some (pC (.int 1)))) (oPart none))) (putS 15) (qYes) (ofP (p2 dIx (pV 15) (pC (.int 2)))) [15])) (putS 10)) (sSetI 8 (eTup (aCons (ofP (p2 dIx (p2 dIx (pV 8) (pC (.int 0))) (pC (.int 0)))) (aCons (ofP (p2 dIx (p2 dIx (pV 8) (pC (.int 0))) (pC (.int 1)))) (aCons (ofP (p2 dSub (pV 9) (pV 10))) (aNil))))) (ofP (pC (.int 0)))))) (sNext)) (sSeq (sAsg (eLc (iRng1' (paCons (pV 7) ((fun _ => some [])))) (putS 14) (qYes) (ofP (p2 dSub (p2 dSub (p2 dAdd (pCall dLen (paCons (pV 1) ((fun _ => some [])))) (pV 7)) (pC (.int 1))) (pV 14))) [14]) (putS 11)) (sSeq (sIf (ofB (pB (pV 3))) (sSeq (sAsg (ofP (p2 dMod (pCall dInt (paCons (p2 dIx (pV 4) (pC (.int 2))) ((fun _ => some [])))) (pV 7))) (putS 12)) (sAsg (e2T addT (eSlL (eVar 11) (oPart (some (pV 12))) (oPart none)) (eSlL (eVar 11) (oPart none) (oPart (some (pV 12))))) (putS 11))) (sNext)) (sRet (eTup (aCons (e2T addT (eVar 1) (eRevL (eVar 8))) (aCons (eVar 11) (aNil)))))))))))))
def f_law_path : Fn := mkFn 4 16 [] b_f_law_path
def b_f_law_drawn : MS := sSeq (sAsg (eCall f_law_draws [some 0, none, none] (aMv 0 (aCons (ofP (pC (.int 5))) (aCons (eLst (aCons (ofP (pC (.int 60))) (aCons (ofP (pC (.int 100))) (aCons (ofP (pC (.int 100))) (aCons (ofP (pC (.int 100))) (aCons (ofP (pC (.int 100))) (aCons (ofP (pC (.int 100))) (aCons (ofP (pC (.int 100))) (aNil))))))))) (aNil))))) (putS 4)) (sSeq (sIf (ofB (bOr (pB (p2 dEq (p2 dIx (pV 1) (pC (.int 0))) (pC (.int 0)))) (pB (p2 dEq (pCall dLen (paCons (pV 2) ((fun _ => some [])))) (pC (.int 0)))))) (sRet (eTup (aCons (eVar 2) (aCons (eLc (iList' (eSlL (eVar 4) (oPart (some (pC (.int 1)))) (oPart (some (p2 dAdd (pC (.int 1)) (p2 dMod (pCall dInt (paCons (p2 dIx (pV 4) (pC (.int 0))) ((fun _ => some [])))) (pC (.int 6)))))))) (putS 7) (qYes) (ofP (p2 dSub (p2 dMod (pCall dInt (paCons (pV 7) ((fun _ => some [])))) (p2 dAdd (pCall dLen (paCons (pV 2) ((fun _ => some [])))) (pC (.int 4)))) (pC (.int 2)))) [7]) (aNil))))) (sNext)) (sSeq (sIf (ofB (pB (p2 dGt (p2 dIx (pV 1) (pC (.int 0))) (pC (.int 3))))) (sRet (eCall f_law_path [some 0, some 2, some 3, none] (aMv 0 (aMv 2 (aMv 3 (aCons (ofP (p2 dLt (p2 dIx (pV 1) (pC (.int 0))) (pC (.int 7)))) (aNil))))))) (sNext)) (sSeq (sAsg (eCall f_law_going [some 0, some 2, some 3] (aMv 0 (aMv 2 (aMv 3 (aNil))))) (putS 5)) (sSeq (sAsg (ofP (p2 dMod (pCall dInt (paCons (p2 dIx (pV 4) (pC (.int 0))) ((fun _ => some [])))) (pCall dLen (paCons (pV 5) ((fun _ => some [])))))) (putS 6)) (sSeq (sIf (ofB (pB (p2 dEq (p2 dIx (pV 1) (pC (.int 0))) (pC (.int 2))))) (sSetI 5 (ofP (p2 dSub (p2 dMod (pCall dInt (paCons (p2 dIx (pV 4) (pC (.int 1))) ((fun _ => some [])))) (p2 dAdd (pCall dLen (paCons (pV 2) ((fun _ => some [])))) (pC (.int 2)))) (pC (.int 1)))) (eVar 6)) (sNext)) (sSeq (sIf (ofB (pB (p2 dEq (p2 dIx (pV 1) (pC (.int 0))) (pC (.int 3))))) (sAsg (e2T addT (eSlL (eVar 5) (oPart none) (oPart (some (pV 6)))) (eSlL (eVar 5) (oPart (some (p2 dAdd (pV 6) (pC (.int 1))))) (oPart none))) (putS 5)) (sNext)) (sRet (eTup (aCons (eVar 2) (aCons (eVar 5) (aNil)))))))))))
def f_law_drawn : Fn := mkFn 4 8 [] b_f_law_drawn
def b_f_law_same : MS := sRet (eAnd (eCall f_law_is_integer [some 0] (aMv 0 (aNil))) (ofP (p2 dEq (pV 0) (pV 1))))
def f_law_same : Fn := mkFn 2 2 [] b_f_law_same
def b_f_law_is_triple : MS := sSeq (sIf (ofB (pB (p2 dIsN (pV 1) (pC .non)))) (sRet (ofP (p2 dIsN (pV 0) (pC .non)))) (sNext)) (sSeq (sIf (ofB (bOr (bNot (pB (p1 (dIsi "tuple") (pV 0)))) (pB (p2 dNe (pCall dLen (paCons (pV 0) ((fun _ => some [])))) (pC (.int 3)))))) (sRet (ofP (pC (.bl false)))) (sNext)) (sRet (eC1 dAll (eLc (iRng1' (paCons (pC (.int 3)) ((fun _ => some [])))) (putS 2) (qYes) (eCall f_law_same [none, none] (aCons (ofP (p2 dIx (pV 0) (pV 2))) (aCons (ofP (p2 dIx (pV 1) (pV 2))) (aNil)))) [2]))))
def f_law_is_triple : Fn := mkFn 2 3 [] b_f_law_is_triple
def b_f_law_tells : MS := sRet (ofP (pAnd (p1 (dIsi "bool") (pV 0)) (p2 dEq (pV 0) (pV 1))))
def f_law_tells : Fn := mkFn 2 2 [] b_f_law_tells
def b_f_law_raised : MS := sSeq (sAsg (eCall f_law_draws [some 0, none, none] (aMv 0 (aCons (ofP (pC (.int 7))) (aCons (eLc (iRng1' (paCons (p2 dAdd (pCall dLen (paCons (pV 1) ((fun _ => some [])))) (pC (.int 1))) ((fun _ => some [])))) (putS 3) (qYes) (ofP (pC (.int 4))) [3]) (aNil))))) (putS 4)) (sSeq (sAsg (e2T addT (eLst (aCons (ofP (pC (.int 0))) (aNil))) (eVar 2)) (putS 5)) (sSeq (sAsg (eLst (aNil)) (putS 6)) (sSeq (mFor (iRng1' (paCons (pCall dLen (paCons (pV 1) ((fun _ => some [])))) ((fun _ => some [])))) (putS 3) (sSeq (sAsg (eIxK 1 (eVar 3)) (gTupS 3 (gsCons (putS 7) (gsCons (putS 8) (gsCons (putS 9) (gsNil)))))) (sApp 6 (eTup (aCons (eVar 7) (aCons (eVar 8) (aCons (ofP (p2 dAdd (pCall dMax2 (paCons (pCall dInt (paCons (pV 9) ((fun _ => some [])))) (paCons (pCall dInt (paCons (p2 dSub (p2 dIx (pV 5) (pV 7)) (p2 dIx (pV 5) (pV 8))) ((fun _ => some [])))) ((fun _ => some []))))) (p2 dDiv (p2 dIx (pV 4) (pV 3)) (pC (.int 2))))) (aNil)))))))) (sRet (eMov 6)))))
def f_law_raised : Fn := mkFn 3 10 [] b_f_law_raised
def b_law : MS := sSeq (sAsg (eCall f_law_draws [some 0, none, none] (aMv 0 (aCons (ofP (pC (.int 0))) (aCons (eLst (aCons (ofP (pC (.int 8))) (aCons (ofP (pC (.int 7))) (aCons (ofP (pC (.int 9))) (aCons (ofP (pC (.int 2))) (aCons (ofP (pC (.int 2))) (aCons (ofP (pC (.int 3))) (aCons (ofP (pC (.int 1000))) (aCons (ofP (pC (.int 8))) (aNil)))))))))) (aNil))))) (putS 1)) (sSeq (sAsg (ofP (p2 dAdd (pC (.int 1)) (p2 dIx (pV 1) (pC (.int 1))))) (putS 2)) (sSeq (sAsg (ofP (p2 dIx (pV 1) (pC (.int 2)))) (putS 3)) (sSeq (sIf (ofB (pB (p2 dEq (p2 dIx (pV 1) (pC (.int 7))) (pC (.int 0))))) (sAsg (ofP (p2 dAdd (pC (.int 8)) (p2 dMul (pC (.int 2)) (p2 dIx (pV 1) (pC (.int 2)))))) (putS 3)) (sNext)) (sSeq (sAsg (eCall f_law_differences [some 0, none, some 3, some 2] (aMv 0 (aCons (ofP (pC (.int 1))) (aMv 3 (aMv 2 (aNil)))))) (putS 4)) (sSeq (sAsg (eCall f_law_drawn [some 0, some 1, some 4, some 2] (aMv 0 (aMv 1 (aMv 4 (aMv 2 (aNil)))))) (gTupS 2 (gsCons (putS 4) (gsCons (putS 5) (gsNil))))) (sSeq (sAsg (eLc (iList' (eCall f_law_draws [some 0, none, none] (aMv 0 (aCons (ofP (pC (.int 6))) (aCons (eLc (iRng1' (paCons (pV 2) ((fun _ => some [])))) (putS 16) (qYes) (ofP (p2 dPow (pC (.int 10)) (pC (.int 42)))) [16]) (aNil)))))) (putS 15) (qYes) (eCall f_law_weight [some 15] (aMv 15 (aNil))) [15]) (putS 6)) (sSeq (sIf (ofB (pB (p2 dGt (p2 dIx (pV 1) (pC (.int 5))) (pC (.int 0))))) (sAsg (eCall f_law_raised [some 0, some 4, some 6] (aMv 0 (aMv 4 (aMv 6 (aNil))))) (putS 4)) (sNext)) (sSeq (sIf (ofB (bAnd (pB (p2 dEq (p2 dIx (pV 1) (pC (.int 5))) (pC (.int 2)))) (pB (p2 dGt (pCall dLen (paCons (pV 4) ((fun _ => some [])))) (pC (.int 0)))))) (sSeq (sAsg (ofP (p2 dMod (pCall dInt (paCons (p2 dIx (pV 1) (pC (.int 6))) ((fun _ => some [])))) (pCall dLen (paCons (pV 4) ((fun _ => some [])))))) (putS 7)) (sSeq (sAsg (eIxK 4 (eVar 7)) (gTupS 3 (gsCons (putS 8) (gsCons (putS 9) (gsCons (putS 10) (gsNil)))))) (sSetI 4 (eTup (aCons (eVar 8) (aCons (eVar 9) (aCons (e2 dSub (e2 dSub (eIx (e2T addT (eLst (aCons (ofP (pC (.int 0))) (aNil))) (eVar 6)) (eVar 8)) (eIx (e2T addT (eLst (aCons (ofP (pC (.int 0))) (aNil))) (eVar 6)) (eVar 9))) (ofP (pC (.int 1)))) (aNil))))) (eVar 7)))) (sNext)) (sSeq (sAsg (eLst (aCons (eFz (eList (aCons (eVar 4) (aNil)))) (aCons (eFz (eList (aCons (eVar 5) (aNil)))) (aNil)))) (putS 11)) (sSeq (sIf (ofB (pB (p2 dEq (p2 dIx (pV 1) (pC (.int 4))) (pC (.int 1))))) (sAsg (eLst (aCons (eIxK 11 (ofP (pC (.int 0)))) (aCons (eTupOf (aCons (eVar 5) (aNil))) (aNil)))) (putS 11)) (sNext)) (sSeq (sAsg (eC1 dRepr (eLst (aCons (eVar 11) (aCons (eVar 6) (aNil))))) (putS 12)) (sSeq (sAsg (eCall f_law_sum [some 4, some 5] (aMv 4 (aMv 5 (aNil)))) (putS 13)) (sSeq (sIf (qNot (qB (eCall f_law_is_triple [none, some 13] (aCons (eCall chain_sum [none, none] (aCons (eIxK 11 (ofP (pC (.int 0)))) (aCons (eIxK 11 (ofP (pC (.int 1)))) (aNil)))) (aMv 13 (aNil)))))) (sRet (ofP (pC (.bl false)))) (sNext)) (sSeq (sIf (qNot (qB (eCall f_law_tells [none, none] (aCons (eCall is_ring [none, none] (aCons (eIxK 11 (ofP (pC (.int 0)))) (aCons (eIxK 11 (ofP (pC (.int 1)))) (aNil)))) (aCons (ofP (pAnd (p2 dIsNotN (pV 13) (pC .non)) (pAnd (p2 dEq (p2 dIx (pV 13) (pC (.int 0))) (p2 dIx (pV 13) (pC (.int 1)))) (p2 dLt (p2 dIx (pV 13) (pC (.int 2))) (pC (.int 0)))))) (aNil)))))) (sRet (ofP (pC (.bl false)))) (sNext)) (sSeq (sAsg (eCall f_law_kept [some 4, some 6] (aMv 4 (aMv 6 (aNil)))) (putS 14)) (sSeq (sIf (qNot (qB (eCall f_law_tells [none, some 14] (aCons (eCall keeps_all [none, some 6] (aCons (eIxK 11 (ofP (pC (.int 0)))) (aMv 6 (aNil)))) (aMv 14 (aNil)))))) (sRet (ofP (pC (.bl false)))) (sNext)) (sRet (e2 dEq (eC1 dRepr (eLst (aCons (eVar 11) (aCons (eVar 6) (aNil))))) (eVar 12)))))))))))))))))))
def law : Fn := mkFn 1 17 [] b_law
/-! ### what the top has written -/
structure Tx (K : PySem.W.Frag) (mg : Str → Option Value) : Prop where
  n_abs : mg "abs" = none
  n_all : mg "all" = none
  n_bool : mg "bool" = none
  n_int : mg "int" = none
  n_isinstance : mg "isinstance" = none
  n_len : mg "len" = none
  n_list : mg "list" = none
  n_max : mg "max" = none
  n_range : mg "range" = none
  n_repr : mg "repr" = none
  n_sum : mg "sum" = none
  n_tuple : mg "tuple" = none
  d_chain_sum : Def K mg "chain_sum" st_chain_sum
  d_is_ring : Def K mg "is_ring" st_is_ring
  d_keeps_all : Def K mg "keeps_all" st_keeps_all
  d_f_law_cell : Def K mg "_law_cell" st_f_law_cell
  d_f_law_draws : Def K mg "_law_draws" st_f_law_draws
  d_f_law_is_integer : Def K mg "_law_is_integer" st_f_law_is_integer
  d_f_law_sum : Def K mg "_law_sum" st_f_law_sum
  d_f_law_kept : Def K mg "_law_kept" st_f_law_kept
  d_f_law_weight : Def K mg "_law_weight" st_f_law_weight
  d_f_law_differences : Def K mg "_law_differences" st_f_law_differences
  d_f_law_going : Def K mg "_law_going" st_f_law_going
  d_f_law_path : Def K mg "_law_path" st_f_law_path
  d_f_law_drawn : Def K mg "_law_drawn" st_f_law_drawn
  d_f_law_same : Def K mg "_law_same" st_f_law_same
  d_f_law_is_triple : Def K mg "_law_is_triple" st_f_law_is_triple
  d_f_law_tells : Def K mg "_law_tells" st_f_law_tells
  d_f_law_raised : Def K mg "_law_raised" st_f_law_raised
  d_law : Def K mg "law" st_law
section
variable {P : Program} {w : World} {K : PySem.W.Frag} {mg : Str → Option Value} {base : Heap}
theorem sc_chain_sum : FnScope ["differences", "numbers", "number", "first", "last", "total", "u", "v", "c"] ["differences", "numbers"] (defScope st_chain_sum) := ⟨rfl, rfl, rfl, by decide +kernel, rfl, by decide +kernel, by decide +kernel⟩
theorem good_chain_sum (T : Tx K mg) : Good P w K mg base "chain_sum" 1 ["differences", "numbers"] chain_sum := by
  obtain ⟨f, fd, F, hm⟩ := T.d_chain_sum
  exact Good.mkD (N := ["differences", "numbers", "number", "first", "last", "total", "u", "v", "c"]) (k := 0) [] F hm (F.bindsN (ps := ["differences", "numbers"]) fun _ _ _ _ _ _ us hl => match us, hl with | [_, _], _ => rfl) sc_chain_sum (fun cdv A outer s H E hr =>
    (vss_cons (vs_if (vt_p (vb_cmp (od_eq hr.units) (vp_callB od_len T.n_len boot_len (vpa_cons (vp_var 1) vpa_nil)) vp_int)) (vss_one (vs_ret (ve_p vp_non))) vss_nil) (vss_cons (vs_for PassesOwn.never rfl (vi_seq (ve_var 1)) (vg_name 2 sc_chain_sum.nd) (vss_one (vs_if (vt_p (vb_w (vw_or (vb_cmp od_lt (vp_var 2) vp_int) (vw_or1 (vb_cmp od_ge (vp_var 2) (vp_callB od_len T.n_len boot_len (vpa_cons (vp_var 0) vpa_nil))))))) (vss_one (vs_ret (ve_p vp_non))) vss_nil))) (vss_cons (vs_set 3 sc_chain_sum.nd (ve_p (vp_ix (vp_ix (vp_var 0) (vp_ix (vp_var 1) vp_int)) vp_int))) (vss_cons (vs_set 4 sc_chain_sum.nd (ve_var 3)) (vss_cons (vs_set 5 sc_chain_sum.nd (ve_p vp_int)) (vss_cons (vs_for PassesOwn.never rfl (vi_seq (ve_var 1)) (vg_name 2 sc_chain_sum.nd) (vss_cons (vs_asg (ve_ixK 0 (ve_var 2)) (vg_tup rfl (vgs_cons (vg_name 6 sc_chain_sum.nd) (vgs_cons (vg_name 7 sc_chain_sum.nd) (vgs_cons (vg_name 8 sc_chain_sum.nd) vgs_nil))))) (vss_cons (vs_if (vt_p (vb_cmp (od_ne hr.units) (vp_var 6) (vp_var 4))) (vss_one (vs_ret (ve_p vp_non))) vss_nil) (vss_cons (vs_set 4 sc_chain_sum.nd (ve_var 7)) (vss_one (vs_set 5 sc_chain_sum.nd (ve_p (vp_op od_add (vp_var 5) (vp_var 8))))))))) (vss_one (vs_ret (ve_tup (va_cons (ve_var 3) (va_cons (ve_var 4) (va_cons (ve_var 5) va_nil))))))))))))) (by decide)
theorem sc_is_ring : FnScope ["differences", "numbers", "found"] ["differences", "numbers"] (defScope st_is_ring) := ⟨rfl, rfl, rfl, by decide +kernel, rfl, by decide +kernel, by decide +kernel⟩
theorem good_is_ring (T : Tx K mg) : Good P w K mg base "is_ring" 2 ["differences", "numbers"] is_ring := by
  obtain ⟨f, fd, F, hm⟩ := T.d_is_ring
  have G_chain_sum := good_chain_sum (P := P) (w := w) (base := base) T
  exact Good.mkD (N := ["differences", "numbers", "found"]) (k := 1) [] F hm (F.bindsN (ps := ["differences", "numbers"]) fun _ _ _ _ _ _ us hl => match us, hl with | [_, _], _ => rfl) sc_is_ring (fun cdv A outer s H E hr =>
    (vss_cons (vs_set 2 sc_is_ring.nd (ve_call (G_chain_sum) (hr.mono (by decide)) (va_mv 0 (va_mv 1 va_nil)))) (vss_one (vs_ret (ve_p (vp_and (vp_cmp od_notN (vp_var 2) vp_non) (vp_and (vp_cmp (od_eq hr.units) (vp_ix (vp_var 2) vp_int) (vp_ix (vp_var 2) vp_int)) (vp_one (vp_cmp od_lt (vp_ix (vp_var 2) vp_int) vp_int))))))))) (by decide)
theorem sc_keeps_all : FnScope ["differences", "values", "grounded", "u", "v", "c"] ["differences", "values"] (defScope st_keeps_all) := ⟨rfl, rfl, rfl, by decide +kernel, rfl, by decide +kernel, by decide +kernel⟩
theorem good_keeps_all (T : Tx K mg) : Good P w K mg base "keeps_all" 1 ["differences", "values"] keeps_all := by
  obtain ⟨f, fd, F, hm⟩ := T.d_keeps_all
  exact Good.mkD (N := ["differences", "values", "grounded", "u", "v", "c"]) (k := 0) [] F hm (F.bindsN (ps := ["differences", "values"]) fun _ _ _ _ _ _ us hl => match us, hl with | [_, _], _ => rfl) sc_keeps_all (fun cdv A outer s H E hr =>
    (vss_cons (vs_set 2 sc_keeps_all.nd (ve_opT ot_add (ve_lst (va_cons (ve_p vp_int) va_nil)) (ve_list (va_cons (ve_var 1) va_nil) T.n_list))) (vss_cons (vs_for PassesOwn.never rfl (vi_seq (ve_var 0)) (vg_tup rfl (vgs_cons (vg_name 3 sc_keeps_all.nd) (vgs_cons (vg_name 4 sc_keeps_all.nd) (vgs_cons (vg_name 5 sc_keeps_all.nd) vgs_nil)))) (vss_one (vs_if (vt_p (vb_cmp od_gt (vp_op od_sub (vp_ix (vp_var 2) (vp_var 3)) (vp_ix (vp_var 2) (vp_var 4))) (vp_var 5))) (vss_one (vs_ret (ve_p vp_bl))) vss_nil))) (vss_one (vs_ret (ve_p vp_bl)))))) (by decide)
theorem sc_f_law_cell : FnScope ["script", "k"] ["script", "k"] (defScope st_f_law_cell) := ⟨rfl, rfl, rfl, by decide +kernel, rfl, by decide +kernel, by decide +kernel⟩
theorem good_f_law_cell (T : Tx K mg) : Good P w K mg base "_law_cell" 1 ["script", "k"] f_law_cell := by
  obtain ⟨f, fd, F, hm⟩ := T.d_f_law_cell
  exact Good.mkD (N := ["script", "k"]) (k := 0) [] F hm (F.bindsN (ps := ["script", "k"]) fun _ _ _ _ _ _ us hl => match us, hl with | [_, _], _ => rfl) sc_f_law_cell (fun cdv A outer s H E hr =>
    (vss_cons (vs_if (vt_p (vb_cmp od_gt (vp_callB od_len T.n_len boot_len (vpa_cons (vp_var 0) vpa_nil)) vp_int)) (vss_one (vs_ret (ve_p (vp_ix (vp_var 0) (vp_op od_mod (vp_callTy od_int T.n_int (by decide +kernel) (vpa_cons (vp_var 1) vpa_nil)) (vp_callB od_len T.n_len boot_len (vpa_cons (vp_var 0) vpa_nil))))))) vss_nil) (vss_one (vs_ret (ve_p vp_int))))) (by decide)
theorem sc_f_law_draws : FnScope ["script", "place", "sizes", "primes", "cell", "rest", "draws", "k", "first", "mixed"] ["script", "place", "sizes"] (defScope st_f_law_draws) := ⟨rfl, rfl, rfl, by decide +kernel, rfl, by decide +kernel, by decide +kernel⟩
theorem good_f_law_draws (T : Tx K mg) : Good P w K mg base "_law_draws" 2 ["script", "place", "sizes"] f_law_draws := by
  obtain ⟨f, fd, F, hm⟩ := T.d_f_law_draws
  have G_f_law_cell := good_f_law_cell (P := P) (w := w) (base := base) T
  exact Good.mkD (N := ["script", "place", "sizes", "primes", "cell", "rest", "draws", "k", "first", "mixed"]) (k := 1) [] F hm (F.bindsN (ps := ["script", "place", "sizes"]) fun _ _ _ _ _ _ us hl => match us, hl with | [_, _, _], _ => rfl) sc_f_law_draws (fun cdv A outer s H E hr =>
    (vss_cons (vs_set 3 sc_f_law_draws.nd (ve_lst (va_cons (ve_p vp_int) (va_cons (ve_p vp_int) (va_cons (ve_p vp_int) (va_cons (ve_p vp_int) (va_cons (ve_p vp_int) (va_cons (ve_p vp_int) (va_cons (ve_p vp_int) (va_cons (ve_p vp_int) va_nil)))))))))) (vss_cons (vs_set 4 sc_f_law_draws.nd (ve_callB1 od_abs T.n_abs (by decide +kernel) (ve_call (G_f_law_cell) (hr.mono (by decide)) (va_mv 0 (va_mv 1 va_nil))))) (vss_cons (vs_set 5 sc_f_law_draws.nd (ve_p vp_int)) (vss_cons (vs_if (vt_p (vb_cmp od_ge (vp_var 4) (vp_op od_pow vp_int vp_int))) (vss_one (vs_set 5 sc_f_law_draws.nd (ve_var 4))) vss_nil) (vss_cons (vs_set 6 sc_f_law_draws.nd (ve_lst va_nil)) (vss_cons (vs_for PassesOwn.never rfl (vi_range1 T.n_range (vpa_cons (vp_callB od_len T.n_len boot_len (vpa_cons (vp_var 2) vpa_nil)) vpa_nil)) (vg_name 7 sc_f_law_draws.nd) (vss_one (vs_if (vt_p (vb_cmp od_gt (vp_var 5) vp_int)) (vss_cons (vs_append 6 (ve_p (vp_op od_mod (vp_callTy od_int T.n_int (by decide +kernel) (vpa_cons (vp_var 5) vpa_nil)) (vp_ix (vp_var 2) (vp_var 7))))) (vss_one (vs_set 5 sc_f_law_draws.nd (ve_p (vp_op od_div (vp_var 5) (vp_ix (vp_var 2) (vp_var 7))))))) (vss_cons (vs_set 8 sc_f_law_draws.nd (ve_p (vp_op od_mod (vp_callTy od_int T.n_int (by decide +kernel) (vpa_cons (vp_op od_add (vp_op od_mul (vp_op od_add (vp_op od_add (vp_op od_add (vp_var 4) vp_int) (vp_op od_mul vp_int (vp_var 1))) (vp_var 7)) vp_int) (vp_op od_mul vp_int (vp_var 7))) vpa_nil)) (vp_ix (vp_var 3) (vp_op od_mod (vp_var 7) vp_int))))) (vss_cons (vs_set 9 sc_f_law_draws.nd (ve_p (vp_op od_mod (vp_callTy od_int T.n_int (by decide +kernel) (vpa_cons (vp_op od_add (vp_op od_add (vp_op od_mul (vp_var 8) (vp_var 8)) (vp_op od_mul vp_int (vp_var 7))) (vp_var 1)) vpa_nil)) (vp_ix (vp_var 3) (vp_op od_mod (vp_op od_add (vp_var 7) vp_int) vp_int))))) (vss_cons (vs_set 9 sc_f_law_draws.nd (ve_p (vp_op od_mod (vp_callTy od_int T.n_int (by decide +kernel) (vpa_cons (vp_op od_add (vp_op od_add (vp_op od_mul (vp_var 9) vp_int) (vp_op od_mul (vp_var 8) vp_int)) (vp_var 7)) vpa_nil)) (vp_ix (vp_var 3) (vp_op od_mod (vp_op od_add (vp_var 7) vp_int) vp_int))))) (vss_one (vs_append 6 (ve_p (vp_op od_mod (vp_callTy od_int T.n_int (by decide +kernel) (vpa_cons (vp_op od_div (vp_var 9) vp_int) vpa_nil)) (vp_ix (vp_var 2) (vp_var 7)))))))))))) (vss_one (vs_ret (ve_mov 6)))))))))) (by decide)
theorem sc_f_law_is_integer : FnScope ["value"] ["value"] (defScope st_f_law_is_integer) := ⟨rfl, rfl, rfl, by decide +kernel, rfl, by decide +kernel, by decide +kernel⟩
theorem good_f_law_is_integer (T : Tx K mg) : Good P w K mg base "_law_is_integer" 1 ["value"] f_law_is_integer := by
  obtain ⟨f, fd, F, hm⟩ := T.d_f_law_is_integer
  exact Good.mkD (N := ["value"]) (k := 0) [] F hm (F.bindsN (ps := ["value"]) fun _ _ _ _ _ _ us hl => match us, hl with | [_], _ => rfl) sc_f_law_is_integer (fun cdv A outer s H E hr =>
    (vss_one (vs_ret (ve_p (vp_and (vp_isi T.n_isinstance T.n_int boot_int (vp_var 0)) (vp_one (vp_not (vp_isi T.n_isinstance T.n_bool boot_bool (vp_var 0))))))))) (by decide)
theorem sc_f_law_sum : FnScope ["differences", "numbers", "total", "k"] ["differences", "numbers"] (defScope st_f_law_sum) := ⟨rfl, rfl, rfl, by decide +kernel, rfl, by decide +kernel, by decide +kernel⟩
theorem good_f_law_sum (T : Tx K mg) : Good P w K mg base "_law_sum" 1 ["differences", "numbers"] f_law_sum := by
  obtain ⟨f, fd, F, hm⟩ := T.d_f_law_sum
  exact Good.mkD (N := ["differences", "numbers", "total", "k"]) (k := 0) [] F hm (F.bindsN (ps := ["differences", "numbers"]) fun _ _ _ _ _ _ us hl => match us, hl with | [_, _], _ => rfl) sc_f_law_sum (fun cdv A outer s H E hr =>
    (vss_cons (vs_if (vt_p (vb_cmp (od_eq hr.units) (vp_callB od_len T.n_len boot_len (vpa_cons (vp_var 1) vpa_nil)) vp_int)) (vss_one (vs_ret (ve_p vp_non))) vss_nil) (vss_cons (vs_set 2 sc_f_law_sum.nd (ve_p vp_int)) (vss_cons (vs_for PassesOwn.never rfl (vi_range1 T.n_range (vpa_cons (vp_callB od_len T.n_len boot_len (vpa_cons (vp_var 1) vpa_nil)) vpa_nil)) (vg_name 3 sc_f_law_sum.nd) (vss_cons (vs_if (vt_p (vb_w (vw_or (vb_cmp od_lt (vp_ix (vp_var 1) (vp_var 3)) vp_int) (vw_or1 (vb_cmp od_ge (vp_ix (vp_var 1) (vp_var 3)) (vp_callB od_len T.n_len boot_len (vpa_cons (vp_var 0) vpa_nil))))))) (vss_one (vs_ret (ve_p vp_non))) vss_nil) (vss_cons (vs_if (vt_p (vb_w (vw_and (vb_cmp od_gt (vp_var 3) vp_int) (vw_and1 (vb_cmp (od_ne hr.units) (vp_ix (vp_ix (vp_var 0) (vp_ix (vp_var 1) (vp_op od_sub (vp_var 3) vp_int))) vp_int) (vp_ix (vp_ix (vp_var 0) (vp_ix (vp_var 1) (vp_var 3))) vp_int)))))) (vss_one (vs_ret (ve_p vp_non))) vss_nil) (vss_one (vs_set 2 sc_f_law_sum.nd (ve_p (vp_op od_add (vp_var 2) (vp_ix (vp_ix (vp_var 0) (vp_ix (vp_var 1) (vp_var 3))) vp_int)))))))) (vss_one (vs_ret (ve_tup (va_cons (ve_p (vp_ix (vp_ix (vp_var 0) (vp_ix (vp_var 1) vp_int)) vp_int)) (va_cons (ve_p (vp_ix (vp_ix (vp_var 0) (vp_ix (vp_var 1) (vp_neg vp_int))) vp_int)) (va_cons (ve_var 2) va_nil)))))))))) (by decide)
theorem sc_f_law_kept : FnScope ["differences", "values", "level", "u", "v", "c"] ["differences", "values"] (defScope st_f_law_kept) := ⟨rfl, rfl, rfl, by decide +kernel, rfl, by decide +kernel, by decide +kernel⟩
theorem good_f_law_kept (T : Tx K mg) : Good P w K mg base "_law_kept" 1 ["differences", "values"] f_law_kept := by
  obtain ⟨f, fd, F, hm⟩ := T.d_f_law_kept
  exact Good.mkD (N := ["differences", "values", "level", "u", "v", "c"]) (k := 0) [] F hm (F.bindsN (ps := ["differences", "values"]) fun _ _ _ _ _ _ us hl => match us, hl with | [_, _], _ => rfl) sc_f_law_kept (fun cdv A outer s H E hr =>
    (vss_cons (vs_set 2 sc_f_law_kept.nd (ve_opT ot_add (ve_lst (va_cons (ve_p vp_int) va_nil)) (ve_var 1))) (vss_one (vs_ret (ve_callB1 (od_all rfl) T.n_all (by decide +kernel) (ve_lc [("u", 3), ("v", 4), ("c", 5)] rfl sc_f_law_kept.nd (vi_seq (ve_var 0)) (blkOk_by (N := ["differences", "values", "level", "u", "v", "c"]) (sc := defScope st_f_law_kept) (by decide +kernel)) (fun _ _ _ _ _ => (vg_tup rfl (vgs_cons (vg_name 3 sc_f_law_kept.nd) (vgs_cons (vg_name 4 sc_f_law_kept.nd) (vgs_cons (vg_name 5 sc_f_law_kept.nd) vgs_nil))))) (fun _ _ _ _ _ => vts_nil) (fun _ _ _ _ _ => (ve_p (vp_cmp od_le (vp_op od_sub (vp_ix (vp_var 2) (vp_var 3)) (vp_ix (vp_var 2) (vp_var 4))) (vp_var 5)))))))))) (by decide)
theorem sc_f_law_weight : FnScope ["draw", "kind", "rest"] ["draw"] (defScope st_f_law_weight) := ⟨rfl, rfl, rfl, by decide +kernel, rfl, by decide +kernel, by decide +kernel⟩
theorem good_f_law_weight (T : Tx K mg) : Good P w K mg base "_law_weight" 1 ["draw"] f_law_weight := by
  obtain ⟨f, fd, F, hm⟩ := T.d_f_law_weight
  exact Good.mkD (N := ["draw", "kind", "rest"]) (k := 0) [] F hm (F.bindsN (ps := ["draw"]) fun _ _ _ _ _ _ us hl => match us, hl with | [_], _ => rfl) sc_f_law_weight (fun cdv A outer s H E hr =>
    (vss_cons (vs_set 1 sc_f_law_weight.nd (ve_p (vp_op od_mod (vp_callTy od_int T.n_int (by decide +kernel) (vpa_cons (vp_var 0) vpa_nil)) vp_int))) (vss_cons (vs_set 2 sc_f_law_weight.nd (ve_p (vp_op od_div (vp_var 0) vp_int))) (vss_cons (vs_if (vt_p (vb_cmp (od_eq hr.units) (vp_var 1) vp_int)) (vss_one (vs_ret (ve_p (vp_op od_mul (vp_op od_sub vp_int (vp_op od_mul vp_int (vp_op od_mod (vp_callTy od_int T.n_int (by decide +kernel) (vpa_cons (vp_var 2) vpa_nil)) vp_int))) (vp_op od_add (vp_op od_pow vp_int vp_int) (vp_op od_mod (vp_callTy od_int T.n_int (by decide +kernel) (vpa_cons (vp_var 2) vpa_nil)) (vp_op od_pow vp_int vp_int))))))) vss_nil) (vss_cons (vs_if (vt_p (vb_cmp (od_eq hr.units) (vp_var 1) vp_int)) (vss_one (vs_ret (ve_p (vp_op od_mul (vp_op od_sub vp_int (vp_op od_mul vp_int (vp_op od_mod (vp_callTy od_int T.n_int (by decide +kernel) (vpa_cons (vp_var 2) vpa_nil)) vp_int))) (vp_op od_mod (vp_callTy od_int T.n_int (by decide +kernel) (vpa_cons (vp_op od_div (vp_var 2) vp_int) vpa_nil)) (vp_op od_pow vp_int vp_int)))))) vss_nil) (vss_one (vs_ret (ve_p (vp_op od_sub (vp_op od_mod (vp_callTy od_int T.n_int (by decide +kernel) (vpa_cons (vp_var 2) vpa_nil)) vp_int) vp_int))))))))) (by decide)
theorem sc_f_law_differences : FnScope ["script", "place", "count", "many", "differences", "k", "draws"] ["script", "place", "count", "many"] (defScope st_f_law_differences) := ⟨rfl, rfl, rfl, by decide +kernel, rfl, by decide +kernel, by decide +kernel⟩
theorem good_f_law_differences (T : Tx K mg) : Good P w K mg base "_law_differences" 3 ["script", "place", "count", "many"] f_law_differences := by
  obtain ⟨f, fd, F, hm⟩ := T.d_f_law_differences
  have G_f_law_weight := good_f_law_weight (P := P) (w := w) (base := base) T
  have G_f_law_draws := good_f_law_draws (P := P) (w := w) (base := base) T
  exact Good.mkD (N := ["script", "place", "count", "many", "differences", "k", "draws"]) (k := 2) [] F hm (F.bindsN (ps := ["script", "place", "count", "many"]) fun _ _ _ _ _ _ us hl => match us, hl with | [_, _, _, _], _ => rfl) sc_f_law_differences (fun cdv A outer s H E hr =>
    (vss_cons (vs_set 4 sc_f_law_differences.nd (ve_lst va_nil)) (vss_cons (vs_set 6 sc_f_law_differences.nd (ve_call (G_f_law_draws) (hr.mono (by decide)) (va_mv 0 (va_mv 1 (va_cons (ve_lc [("k", 5)] rfl sc_f_law_differences.nd (vi_range1 T.n_range (vpa_cons (vp_op od_mul vp_int (vp_var 2)) vpa_nil)) (blkOk_by (N := ["script", "place", "count", "many", "differences", "k", "draws"]) (sc := defScope st_f_law_differences) (by decide +kernel)) (fun _ _ _ _ _ => (vg_name 5 sc_f_law_differences.nd)) (fun _ _ _ _ _ => vts_nil) (fun _ _ _ _ _ => (ve_p (vp_if (vb_cmp (od_eq hr.units) (vp_op od_mod (vp_var 5) vp_int) vp_int) (vp_op od_pow vp_int vp_int) (vp_op od_add (vp_var 3) vp_int))))) va_nil))))) (vss_cons (vs_for PassesOwn.never rfl (vi_range1 T.n_range (vpa_cons (vp_var 2) vpa_nil)) (vg_name 5 sc_f_law_differences.nd) (vss_one (vs_append 4 (ve_tup (va_cons (ve_p (vp_ix (vp_var 6) (vp_op od_mul vp_int (vp_var 5)))) (va_cons (ve_p (vp_ix (vp_var 6) (vp_op od_add (vp_op od_mul vp_int (vp_var 5)) vp_int))) (va_cons (ve_fz (ve_call (G_f_law_weight) (hr.mono (by decide)) (va_cons (ve_p (vp_ix (vp_var 6) (vp_op od_add (vp_op od_mul vp_int (vp_var 5)) vp_int))) va_nil))) va_nil))))))) (vss_one (vs_ret (ve_mov 4))))))) (by decide)
theorem sc_f_law_going : FnScope ["script", "differences", "many", "k", "draws", "numbers", "options", "j"] ["script", "differences", "many"] (defScope st_f_law_going) := ⟨rfl, rfl, rfl, by decide +kernel, rfl, by decide +kernel, by decide +kernel⟩
theorem good_f_law_going (T : Tx K mg) : Good P w K mg base "_law_going" 3 ["script", "differences", "many"] f_law_going := by
  obtain ⟨f, fd, F, hm⟩ := T.d_f_law_going
  have G_f_law_draws := good_f_law_draws (P := P) (w := w) (base := base) T
  exact Good.mkD (N := ["script", "differences", "many", "k", "draws", "numbers", "options", "j"]) (k := 2) [] F hm (F.bindsN (ps := ["script", "differences", "many"]) fun _ _ _ _ _ _ us hl => match us, hl with | [_, _, _], _ => rfl) sc_f_law_going (fun cdv A outer s H E hr =>
    (vss_cons (vs_set 4 sc_f_law_going.nd (ve_call (G_f_law_draws) (hr.mono (by decide)) (va_mv 0 (va_cons (ve_p vp_int) (va_cons (ve_lc [("k", 3)] rfl sc_f_law_going.nd (vi_range1 T.n_range (vpa_cons vp_int vpa_nil)) (blkOk_by (N := ["script", "differences", "many", "k", "draws", "numbers", "options", "j"]) (sc := defScope st_f_law_going) (by decide +kernel)) (fun _ _ _ _ _ => (vg_name 3 sc_f_law_going.nd)) (fun _ _ _ _ _ => vts_nil) (fun _ _ _ _ _ => (ve_p vp_int))) va_nil))))) (vss_cons (vs_set 5 sc_f_law_going.nd (ve_lst va_nil)) (vss_cons (vs_for PassesOwn.never rfl (vi_range1E T.n_range (ve_op od_add (ve_p vp_int) (ve_op od_mod (ve_p (vp_callTy od_int T.n_int (by decide +kernel) (vpa_cons (vp_ix (vp_var 4) vp_int) vpa_nil))) (ve_ix (ve_lst (va_cons (ve_p vp_int) (va_cons (ve_p vp_int) va_nil))) (ve_p (vp_op od_mod (vp_callTy od_int T.n_int (by decide +kernel) (vpa_cons (vp_ix (vp_var 4) vp_int) vpa_nil)) vp_int)))))) (vg_name 3 sc_f_law_going.nd) (vss_cons (vs_setLc 6 [("j", 7)] rfl sc_f_law_going.nd (sw_true rfl rfl rfl (by decide +kernel)) (vi_range1 T.n_range (vpa_cons (vp_callB od_len T.n_len boot_len (vpa_cons (vp_var 1) vpa_nil)) vpa_nil)) (blkOk_by (N := ["script", "differences", "many", "k", "draws", "numbers", "options", "j"]) (sc := defScope st_f_law_going) (by decide +kernel)) (fun _ _ _ _ _ => (vg_name 7 sc_f_law_going.nd)) (fun _ _ _ _ _ => (vts_one (vt_p (vb_w (vw_or (vb_cmp (od_eq hr.units) (vp_var 3) vp_int) (vw_or1 (vb_cmp (od_eq hr.units) (vp_ix (vp_ix (vp_var 1) (vp_var 7)) vp_int) (vp_ix (vp_ix (vp_var 1) (vp_ix (vp_var 5) (vp_neg vp_int))) vp_int)))))))) (fun _ _ _ _ _ => (ve_var 7))) (vss_cons (vs_if (vt_p (vb_cmp (od_eq hr.units) (vp_callB od_len T.n_len boot_len (vpa_cons (vp_var 6) vpa_nil)) vp_int)) (vss_one vs_break) vss_nil) (vss_one (vs_append 5 (ve_p (vp_ix (vp_var 6) (vp_op od_mod (vp_callTy od_int T.n_int (by decide +kernel) (vpa_cons (vp_ix (vp_var 4) (vp_var 3)) vpa_nil)) (vp_callB od_len T.n_len boot_len (vpa_cons (vp_var 6) vpa_nil)))))))))) (vss_one (vs_ret (ve_mov 5))))))) (by decide)
theorem sc_f_law_path : FnScope ["script", "differences", "many", "closed", "draws", "weights", "nodes", "count", "edges", "target", "total", "numbers", "at", "draw", "k", "edge"] ["script", "differences", "many", "closed"] (defScope st_f_law_path) := ⟨rfl, rfl, rfl, by decide +kernel, rfl, by decide +kernel, by decide +kernel⟩
theorem good_f_law_path (T : Tx K mg) : Good P w K mg base "_law_path" 3 ["script", "differences", "many", "closed"] f_law_path := by
  obtain ⟨f, fd, F, hm⟩ := T.d_f_law_path
  have G_f_law_draws := good_f_law_draws (P := P) (w := w) (base := base) T
  have G_f_law_weight := good_f_law_weight (P := P) (w := w) (base := base) T
  exact Good.mkD (N := ["script", "differences", "many", "closed", "draws", "weights", "nodes", "count", "edges", "target", "total", "numbers", "at", "draw", "k", "edge"]) (k := 2) [] F hm (F.bindsN (ps := ["script", "differences", "many", "closed"]) fun _ _ _ _ _ _ us hl => match us, hl with | [_, _, _, _], _ => rfl) sc_f_law_path (fun cdv A outer s H E hr =>
    (vss_cons (vs_set 4 sc_f_law_path.nd (ve_call (G_f_law_draws) (hr.mono (by decide)) (va_mv 0 (va_cons (ve_p vp_int) (va_cons (ve_opT ot_add (ve_lst (va_cons (ve_p vp_int) (va_cons (ve_p vp_int) (va_cons (ve_p vp_int) va_nil)))) (ve_lc [("k", 14)] rfl sc_f_law_path.nd (vi_range1 T.n_range (vpa_cons vp_int vpa_nil)) (blkOk_by (N := ["script", "differences", "many", "closed", "draws", "weights", "nodes", "count", "edges", "target", "total", "numbers", "at", "draw", "k", "edge"]) (sc := defScope st_f_law_path) (by decide +kernel)) (fun _ _ _ _ _ => (vg_name 14 sc_f_law_path.nd)) (fun _ _ _ _ _ => vts_nil) (fun _ _ _ _ _ => (ve_p (vp_op od_add (vp_var 2) vp_int))))) va_nil))))) (vss_cons (vs_set 5 sc_f_law_path.nd (ve_lc [("draw", 13)] rfl sc_f_law_path.nd (vi_list (ve_call (G_f_law_draws) (hr.mono (by decide)) (va_mv 0 (va_cons (ve_p vp_int) (va_cons (ve_lc [("k", 14)] rfl sc_f_law_path.nd (vi_range1 T.n_range (vpa_cons vp_int vpa_nil)) (blkOk_by (N := ["script", "differences", "many", "closed", "draws", "weights", "nodes", "count", "edges", "target", "total", "numbers", "at", "draw", "k", "edge"]) (sc := defScope st_f_law_path) (by decide +kernel)) (fun _ _ _ _ _ => (vg_name 14 sc_f_law_path.nd)) (fun _ _ _ _ _ => vts_nil) (fun _ _ _ _ _ => (ve_p (vp_op od_pow vp_int vp_int)))) va_nil))))) (blkOk_by (N := ["script", "differences", "many", "closed", "draws", "weights", "nodes", "count", "edges", "target", "total", "numbers", "at", "draw", "k", "edge"]) (sc := defScope st_f_law_path) (by decide +kernel)) (fun _ _ _ _ _ => (vg_name 13 sc_f_law_path.nd)) (fun _ _ _ _ _ => vts_nil) (fun _ _ _ _ _ => (ve_call (G_f_law_weight) (hr.mono (by decide)) (va_mv 13 va_nil))))) (vss_cons (vs_set 6 sc_f_law_path.nd (ve_slL (ve_var 4) (vo_some vp_int) (vo_some (vp_op od_add vp_int (vp_ix (vp_var 4) vp_int))))) (vss_cons (vs_if (vt_p (vb_val (vp_var 3))) (vss_one (vs_set 6 sc_f_law_path.nd (ve_opT ot_add (ve_var 6) (ve_slL (ve_var 6) vo_none (vo_some vp_int))))) (vss_one (vs_set 6 sc_f_law_path.nd (ve_opT ot_add (ve_lst (va_cons (ve_p vp_int) va_nil)) (ve_var 6))))) (vss_cons (vs_set 7 sc_f_law_path.nd (ve_p (vp_op od_sub (vp_callB od_len T.n_len boot_len (vpa_cons (vp_var 6) vpa_nil)) vp_int))) (vss_cons (vs_setLc 8 [("k", 14)] rfl sc_f_law_path.nd (sw_true rfl rfl rfl (by decide +kernel)) (vi_range1 T.n_range (vpa_cons (vp_var 7) vpa_nil)) (blkOk_by (N := ["script", "differences", "many", "closed", "draws", "weights", "nodes", "count", "edges", "target", "total", "numbers", "at", "draw", "k", "edge"]) (sc := defScope st_f_law_path) (by decide +kernel)) (fun _ _ _ _ _ => (vg_name 14 sc_f_law_path.nd)) (fun _ _ _ _ _ => vts_nil) (fun _ _ _ _ _ => (ve_tup (va_cons (ve_p (vp_ix (vp_var 6) (vp_var 14))) (va_cons (ve_p (vp_ix (vp_var 6) (vp_op od_add (vp_var 14) vp_int))) (va_cons (ve_p (vp_ix (vp_var 5) (vp_var 14))) va_nil)))))) (vss_cons (vs_if (vt_p (vb_val (vp_var 3))) (vss_cons (vs_set 9 sc_f_law_path.nd (ve_ix (ve_lst (va_cons (ve_p (vp_neg vp_int)) (va_cons (ve_p vp_int) (va_cons (ve_p vp_int) (va_cons (ve_p (vp_neg vp_int)) (va_cons (ve_p (vp_ix (vp_var 5) vp_int)) (va_cons (ve_p (vp_neg vp_int)) va_nil))))))) (ve_p (vp_ix (vp_var 4) vp_int)))) (vss_cons (vs_set 10 sc_f_law_path.nd (ve_callB1 (od_sum rfl) T.n_sum (by decide +kernel) (ve_lc [("edge", 15)] rfl sc_f_law_path.nd (vi_list (ve_slK 8 (vo_some vp_int) vo_none)) (blkOk_by (N := ["script", "differences", "many", "closed", "draws", "weights", "nodes", "count", "edges", "target", "total", "numbers", "at", "draw", "k", "edge"]) (sc := defScope st_f_law_path) (by decide +kernel)) (fun _ _ _ _ _ => (vg_name 15 sc_f_law_path.nd)) (fun _ _ _ _ _ => vts_nil) (fun _ _ _ _ _ => (ve_p (vp_ix (vp_var 15) vp_int)))))) (vss_one (vs_setI 8 (ve_tup (va_cons (ve_p (vp_ix (vp_ix (vp_var 8) vp_int) vp_int)) (va_cons (ve_p (vp_ix (vp_ix (vp_var 8) vp_int) vp_int)) (va_cons (ve_p (vp_op od_sub (vp_var 9) (vp_var 10))) va_nil)))) (ve_p vp_int))))) vss_nil) (vss_cons (vs_setLc 11 [("k", 14)] rfl sc_f_law_path.nd (sw_true rfl rfl rfl (by decide +kernel)) (vi_range1 T.n_range (vpa_cons (vp_var 7) vpa_nil)) (blkOk_by (N := ["script", "differences", "many", "closed", "draws", "weights", "nodes", "count", "edges", "target", "total", "numbers", "at", "draw", "k", "edge"]) (sc := defScope st_f_law_path) (by decide +kernel)) (fun _ _ _ _ _ => (vg_name 14 sc_f_law_path.nd)) (fun _ _ _ _ _ => vts_nil) (fun _ _ _ _ _ => (ve_p (vp_op od_sub (vp_op od_sub (vp_op od_add (vp_callB od_len T.n_len boot_len (vpa_cons (vp_var 1) vpa_nil)) (vp_var 7)) vp_int) (vp_var 14))))) (vss_cons (vs_if (vt_p (vb_val (vp_var 3))) (vss_cons (vs_set 12 sc_f_law_path.nd (ve_p (vp_op od_mod (vp_callTy od_int T.n_int (by decide +kernel) (vpa_cons (vp_ix (vp_var 4) vp_int) vpa_nil)) (vp_var 7)))) (vss_one (vs_set 11 sc_f_law_path.nd (ve_opT ot_add (ve_slL (ve_var 11) (vo_some (vp_var 12)) vo_none) (ve_slL (ve_var 11) vo_none (vo_some (vp_var 12))))))) vss_nil) (vss_one (vs_ret (ve_tup (va_cons (ve_opT ot_add (ve_var 1) (ve_revL (ve_var 8))) (va_cons (ve_var 11) va_nil))))))))))))))) (by decide)
theorem sc_f_law_drawn : FnScope ["script", "shape", "differences", "many", "draws", "numbers", "at", "draw"] ["script", "shape", "differences", "many"] (defScope st_f_law_drawn) := ⟨rfl, rfl, rfl, by decide +kernel, rfl, by decide +kernel, by decide +kernel⟩
theorem good_f_law_drawn (T : Tx K mg) : Good P w K mg base "_law_drawn" 4 ["script", "shape", "differences", "many"] f_law_drawn := by
  obtain ⟨f, fd, F, hm⟩ := T.d_f_law_drawn
  have G_f_law_going := good_f_law_going (P := P) (w := w) (base := base) T
  have G_f_law_path := good_f_law_path (P := P) (w := w) (base := base) T
  have G_f_law_draws := good_f_law_draws (P := P) (w := w) (base := base) T
  exact Good.mkD (N := ["script", "shape", "differences", "many", "draws", "numbers", "at", "draw"]) (k := 3) [] F hm (F.bindsN (ps := ["script", "shape", "differences", "many"]) fun _ _ _ _ _ _ us hl => match us, hl with | [_, _, _, _], _ => rfl) sc_f_law_drawn (fun cdv A outer s H E hr =>
    (vss_cons (vs_set 4 sc_f_law_drawn.nd (ve_call (G_f_law_draws) (hr.mono (by decide)) (va_mv 0 (va_cons (ve_p vp_int) (va_cons (ve_lst (va_cons (ve_p vp_int) (va_cons (ve_p vp_int) (va_cons (ve_p vp_int) (va_cons (ve_p vp_int) (va_cons (ve_p vp_int) (va_cons (ve_p vp_int) (va_cons (ve_p vp_int) va_nil)))))))) va_nil))))) (vss_cons (vs_if (vt_p (vb_w (vw_or (vb_cmp (od_eq hr.units) (vp_ix (vp_var 1) vp_int) vp_int) (vw_or1 (vb_cmp (od_eq hr.units) (vp_callB od_len T.n_len boot_len (vpa_cons (vp_var 2) vpa_nil)) vp_int))))) (vss_one (vs_ret (ve_tup (va_cons (ve_var 2) (va_cons (ve_lc [("draw", 7)] rfl sc_f_law_drawn.nd (vi_list (ve_slL (ve_var 4) (vo_some vp_int) (vo_some (vp_op od_add vp_int (vp_op od_mod (vp_callTy od_int T.n_int (by decide +kernel) (vpa_cons (vp_ix (vp_var 4) vp_int) vpa_nil)) vp_int))))) (blkOk_by (N := ["script", "shape", "differences", "many", "draws", "numbers", "at", "draw"]) (sc := defScope st_f_law_drawn) (by decide +kernel)) (fun _ _ _ _ _ => (vg_name 7 sc_f_law_drawn.nd)) (fun _ _ _ _ _ => vts_nil) (fun _ _ _ _ _ => (ve_p (vp_op od_sub (vp_op od_mod (vp_callTy od_int T.n_int (by decide +kernel) (vpa_cons (vp_var 7) vpa_nil)) (vp_op od_add (vp_callB od_len T.n_len boot_len (vpa_cons (vp_var 2) vpa_nil)) vp_int)) vp_int)))) va_nil))))) vss_nil) (vss_cons (vs_if (vt_p (vb_cmp od_gt (vp_ix (vp_var 1) vp_int) vp_int)) (vss_one (vs_ret (ve_call (G_f_law_path) (hr.mono (by decide)) (va_mv 0 (va_mv 2 (va_mv 3 (va_cons (ve_p (vp_cmp od_lt (vp_ix (vp_var 1) vp_int) vp_int)) va_nil))))))) vss_nil) (vss_cons (vs_set 5 sc_f_law_drawn.nd (ve_call (G_f_law_going) (hr.mono (by decide)) (va_mv 0 (va_mv 2 (va_mv 3 va_nil))))) (vss_cons (vs_set 6 sc_f_law_drawn.nd (ve_p (vp_op od_mod (vp_callTy od_int T.n_int (by decide +kernel) (vpa_cons (vp_ix (vp_var 4) vp_int) vpa_nil)) (vp_callB od_len T.n_len boot_len (vpa_cons (vp_var 5) vpa_nil))))) (vss_cons (vs_if (vt_p (vb_cmp (od_eq hr.units) (vp_ix (vp_var 1) vp_int) vp_int)) (vss_one (vs_setI 5 (ve_p (vp_op od_sub (vp_op od_mod (vp_callTy od_int T.n_int (by decide +kernel) (vpa_cons (vp_ix (vp_var 4) vp_int) vpa_nil)) (vp_op od_add (vp_callB od_len T.n_len boot_len (vpa_cons (vp_var 2) vpa_nil)) vp_int)) vp_int)) (ve_var 6))) vss_nil) (vss_cons (vs_if (vt_p (vb_cmp (od_eq hr.units) (vp_ix (vp_var 1) vp_int) vp_int)) (vss_one (vs_set 5 sc_f_law_drawn.nd (ve_opT ot_add (ve_slL (ve_var 5) vo_none (vo_some (vp_var 6))) (ve_slL (ve_var 5) (vo_some (vp_op od_add (vp_var 6) vp_int)) vo_none)))) vss_nil) (vss_one (vs_ret (ve_tup (va_cons (ve_var 2) (va_cons (ve_var 5) va_nil))))))))))))) (by decide)
theorem sc_f_law_same : FnScope ["actual", "expected"] ["actual", "expected"] (defScope st_f_law_same) := ⟨rfl, rfl, rfl, by decide +kernel, rfl, by decide +kernel, by decide +kernel⟩
theorem good_f_law_same (T : Tx K mg) : Good P w K mg base "_law_same" 2 ["actual", "expected"] f_law_same := by
  obtain ⟨f, fd, F, hm⟩ := T.d_f_law_same
  have G_f_law_is_integer := good_f_law_is_integer (P := P) (w := w) (base := base) T
  exact Good.mkD (N := ["actual", "expected"]) (k := 1) [] F hm (F.bindsN (ps := ["actual", "expected"]) fun _ _ _ _ _ _ us hl => match us, hl with | [_, _], _ => rfl) sc_f_law_same (fun cdv A outer s H E hr =>
    (vss_one (vs_ret (ve_and (ve_call (G_f_law_is_integer) (hr.mono (by decide)) (va_mv 0 va_nil)) (ve_one (ve_p (vp_cmp (od_eq hr.units) (vp_var 0) (vp_var 1)))))))) (by decide)
theorem sc_f_law_is_triple : FnScope ["actual", "expected", "k"] ["actual", "expected"] (defScope st_f_law_is_triple) := ⟨rfl, rfl, rfl, by decide +kernel, rfl, by decide +kernel, by decide +kernel⟩
theorem good_f_law_is_triple (T : Tx K mg) : Good P w K mg base "_law_is_triple" 3 ["actual", "expected"] f_law_is_triple := by
  obtain ⟨f, fd, F, hm⟩ := T.d_f_law_is_triple
  have G_f_law_same := good_f_law_same (P := P) (w := w) (base := base) T
  exact Good.mkD (N := ["actual", "expected", "k"]) (k := 2) [] F hm (F.bindsN (ps := ["actual", "expected"]) fun _ _ _ _ _ _ us hl => match us, hl with | [_, _], _ => rfl) sc_f_law_is_triple (fun cdv A outer s H E hr =>
    (vss_cons (vs_if (vt_p (vb_cmp od_isN (vp_var 1) vp_non)) (vss_one (vs_ret (ve_p (vp_cmp od_isN (vp_var 0) vp_non)))) vss_nil) (vss_cons (vs_if (vt_p (vb_w (vw_or (vb_not (vb_val (vp_isi T.n_isinstance T.n_tuple boot_tuple (vp_var 0)))) (vw_or1 (vb_cmp (od_ne hr.units) (vp_callB od_len T.n_len boot_len (vpa_cons (vp_var 0) vpa_nil)) vp_int))))) (vss_one (vs_ret (ve_p vp_bl))) vss_nil) (vss_one (vs_ret (ve_callB1 (od_all rfl) T.n_all (by decide +kernel) (ve_lc [("k", 2)] rfl sc_f_law_is_triple.nd (vi_range1 T.n_range (vpa_cons vp_int vpa_nil)) (blkOk_by (N := ["actual", "expected", "k"]) (sc := defScope st_f_law_is_triple) (by decide +kernel)) (fun _ _ _ _ _ => (vg_name 2 sc_f_law_is_triple.nd)) (fun _ _ _ _ _ => vts_nil) (fun _ _ _ _ _ => (ve_call (G_f_law_same) (hr.mono (by decide)) (va_cons (ve_p (vp_ix (vp_var 0) (vp_var 2))) (va_cons (ve_p (vp_ix (vp_var 1) (vp_var 2))) va_nil))))))))))) (by decide)
theorem sc_f_law_tells : FnScope ["value", "expected"] ["value", "expected"] (defScope st_f_law_tells) := ⟨rfl, rfl, rfl, by decide +kernel, rfl, by decide +kernel, by decide +kernel⟩
theorem good_f_law_tells (T : Tx K mg) : Good P w K mg base "_law_tells" 1 ["value", "expected"] f_law_tells := by
  obtain ⟨f, fd, F, hm⟩ := T.d_f_law_tells
  exact Good.mkD (N := ["value", "expected"]) (k := 0) [] F hm (F.bindsN (ps := ["value", "expected"]) fun _ _ _ _ _ _ us hl => match us, hl with | [_, _], _ => rfl) sc_f_law_tells (fun cdv A outer s H E hr =>
    (vss_one (vs_ret (ve_p (vp_and (vp_isi T.n_isinstance T.n_bool boot_bool (vp_var 0)) (vp_one (vp_cmp (od_eq hr.units) (vp_var 0) (vp_var 1)))))))) (by decide)
theorem sc_f_law_raised : FnScope ["script", "differences", "values", "k", "draws", "level", "raised", "u", "v", "c"] ["script", "differences", "values"] (defScope st_f_law_raised) := ⟨rfl, rfl, rfl, by decide +kernel, rfl, by decide +kernel, by decide +kernel⟩
theorem good_f_law_raised (T : Tx K mg) : Good P w K mg base "_law_raised" 3 ["script", "differences", "values"] f_law_raised := by
  obtain ⟨f, fd, F, hm⟩ := T.d_f_law_raised
  have G_f_law_draws := good_f_law_draws (P := P) (w := w) (base := base) T
  exact Good.mkD (N := ["script", "differences", "values", "k", "draws", "level", "raised", "u", "v", "c"]) (k := 2) [] F hm (F.bindsN (ps := ["script", "differences", "values"]) fun _ _ _ _ _ _ us hl => match us, hl with | [_, _, _], _ => rfl) sc_f_law_raised (fun cdv A outer s H E hr =>
    (vss_cons (vs_set 4 sc_f_law_raised.nd (ve_call (G_f_law_draws) (hr.mono (by decide)) (va_mv 0 (va_cons (ve_p vp_int) (va_cons (ve_lc [("k", 3)] rfl sc_f_law_raised.nd (vi_range1 T.n_range (vpa_cons (vp_op od_add (vp_callB od_len T.n_len boot_len (vpa_cons (vp_var 1) vpa_nil)) vp_int) vpa_nil)) (blkOk_by (N := ["script", "differences", "values", "k", "draws", "level", "raised", "u", "v", "c"]) (sc := defScope st_f_law_raised) (by decide +kernel)) (fun _ _ _ _ _ => (vg_name 3 sc_f_law_raised.nd)) (fun _ _ _ _ _ => vts_nil) (fun _ _ _ _ _ => (ve_p vp_int))) va_nil))))) (vss_cons (vs_set 5 sc_f_law_raised.nd (ve_opT ot_add (ve_lst (va_cons (ve_p vp_int) va_nil)) (ve_var 2))) (vss_cons (vs_set 6 sc_f_law_raised.nd (ve_lst va_nil)) (vss_cons (vs_for PassesOwn.never rfl (vi_range1 T.n_range (vpa_cons (vp_callB od_len T.n_len boot_len (vpa_cons (vp_var 1) vpa_nil)) vpa_nil)) (vg_name 3 sc_f_law_raised.nd) (vss_cons (vs_asg (ve_ixK 1 (ve_var 3)) (vg_tup rfl (vgs_cons (vg_name 7 sc_f_law_raised.nd) (vgs_cons (vg_name 8 sc_f_law_raised.nd) (vgs_cons (vg_name 9 sc_f_law_raised.nd) vgs_nil))))) (vss_one (vs_append 6 (ve_tup (va_cons (ve_var 7) (va_cons (ve_var 8) (va_cons (ve_p (vp_op od_add (vp_callB (od_max2 rfl) T.n_max (by decide +kernel) (vpa_cons (vp_callTy od_int T.n_int (by decide +kernel) (vpa_cons (vp_var 9) vpa_nil)) (vpa_cons (vp_callTy od_int T.n_int (by decide +kernel) (vpa_cons (vp_op od_sub (vp_ix (vp_var 5) (vp_var 7)) (vp_ix (vp_var 5) (vp_var 8))) vpa_nil)) vpa_nil))) (vp_op od_div (vp_ix (vp_var 4) (vp_var 3)) vp_int))) va_nil)))))))) (vss_one (vs_ret (ve_mov 6)))))))) (by decide)
theorem sc_law : FnScope ["script", "shape", "many", "count", "differences", "numbers", "values", "at", "u", "v", "c", "given", "before", "due", "kept", "draw", "k"] ["script"] (defScope st_law) := ⟨rfl, rfl, rfl, by decide +kernel, rfl, by decide +kernel, by decide +kernel⟩
theorem good_law (T : Tx K mg) {f : Addr} {fd : FuncData} (F : FunD K "law" "law" (defArgs st_law) (defBody st_law) (defScope st_law) [] [] f fd) : FnG P w K mg base 5 f fd ["script"] (spV K 1 law) := by
  have G_f_law_tells := good_f_law_tells (P := P) (w := w) (base := base) T
  have G_keeps_all := good_keeps_all (P := P) (w := w) (base := base) T
  have G_f_law_kept := good_f_law_kept (P := P) (w := w) (base := base) T
  have G_is_ring := good_is_ring (P := P) (w := w) (base := base) T
  have G_f_law_is_triple := good_f_law_is_triple (P := P) (w := w) (base := base) T
  have G_chain_sum := good_chain_sum (P := P) (w := w) (base := base) T
  have G_f_law_sum := good_f_law_sum (P := P) (w := w) (base := base) T
  have G_f_law_raised := good_f_law_raised (P := P) (w := w) (base := base) T
  have G_f_law_draws := good_f_law_draws (P := P) (w := w) (base := base) T
  have G_f_law_weight := good_f_law_weight (P := P) (w := w) (base := base) T
  have G_f_law_drawn := good_f_law_drawn (P := P) (w := w) (base := base) T
  have G_f_law_differences := good_f_law_differences (P := P) (w := w) (base := base) T
  exact defOk (N := ["script", "shape", "many", "count", "differences", "numbers", "values", "at", "u", "v", "c", "given", "before", "due", "kept", "draw", "k"]) (k := 4) [] F sc_law (fun cdv A outer s H E hr =>
    (vss_cons (vs_set 1 sc_law.nd (ve_call (G_f_law_draws) (hr.mono (by decide)) (va_mv 0 (va_cons (ve_p vp_int) (va_cons (ve_lst (va_cons (ve_p vp_int) (va_cons (ve_p vp_int) (va_cons (ve_p vp_int) (va_cons (ve_p vp_int) (va_cons (ve_p vp_int) (va_cons (ve_p vp_int) (va_cons (ve_p vp_int) (va_cons (ve_p vp_int) va_nil))))))))) va_nil))))) (vss_cons (vs_set 2 sc_law.nd (ve_p (vp_op od_add vp_int (vp_ix (vp_var 1) vp_int)))) (vss_cons (vs_set 3 sc_law.nd (ve_p (vp_ix (vp_var 1) vp_int))) (vss_cons (vs_if (vt_p (vb_cmp (od_eq hr.units) (vp_ix (vp_var 1) vp_int) vp_int)) (vss_one (vs_set 3 sc_law.nd (ve_p (vp_op od_add vp_int (vp_op od_mul vp_int (vp_ix (vp_var 1) vp_int)))))) vss_nil) (vss_cons (vs_set 4 sc_law.nd (ve_call (G_f_law_differences) (hr.mono (by decide)) (va_mv 0 (va_cons (ve_p vp_int) (va_mv 3 (va_mv 2 va_nil)))))) (vss_cons (vs_asg (ve_call (G_f_law_drawn) (hr.mono (by decide)) (va_mv 0 (va_mv 1 (va_mv 4 (va_mv 2 va_nil))))) (vg_tup rfl (vgs_cons (vg_name 4 sc_law.nd) (vgs_cons (vg_name 5 sc_law.nd) vgs_nil)))) (vss_cons (vs_setLc 6 [("draw", 15)] rfl sc_law.nd (sw_true rfl rfl rfl (by decide +kernel)) (vi_list (ve_call (G_f_law_draws) (hr.mono (by decide)) (va_mv 0 (va_cons (ve_p vp_int) (va_cons (ve_lc [("k", 16)] rfl sc_law.nd (vi_range1 T.n_range (vpa_cons (vp_var 2) vpa_nil)) (blkOk_by (N := ["script", "shape", "many", "count", "differences", "numbers", "values", "at", "u", "v", "c", "given", "before", "due", "kept", "draw", "k"]) (sc := defScope st_law) (by decide +kernel)) (fun _ _ _ _ _ => (vg_name 16 sc_law.nd)) (fun _ _ _ _ _ => vts_nil) (fun _ _ _ _ _ => (ve_p (vp_op od_pow vp_int vp_int)))) va_nil))))) (blkOk_by (N := ["script", "shape", "many", "count", "differences", "numbers", "values", "at", "u", "v", "c", "given", "before", "due", "kept", "draw", "k"]) (sc := defScope st_law) (by decide +kernel)) (fun _ _ _ _ _ => (vg_name 15 sc_law.nd)) (fun _ _ _ _ _ => vts_nil) (fun _ _ _ _ _ => (ve_call (G_f_law_weight) (hr.mono (by decide)) (va_mv 15 va_nil)))) (vss_cons (vs_if (vt_p (vb_cmp od_gt (vp_ix (vp_var 1) vp_int) vp_int)) (vss_one (vs_set 4 sc_law.nd (ve_call (G_f_law_raised) (hr.mono (by decide)) (va_mv 0 (va_mv 4 (va_mv 6 va_nil)))))) vss_nil) (vss_cons (vs_if (vt_p (vb_w (vw_and (vb_cmp (od_eq hr.units) (vp_ix (vp_var 1) vp_int) vp_int) (vw_and1 (vb_cmp od_gt (vp_callB od_len T.n_len boot_len (vpa_cons (vp_var 4) vpa_nil)) vp_int))))) (vss_cons (vs_set 7 sc_law.nd (ve_p (vp_op od_mod (vp_callTy od_int T.n_int (by decide +kernel) (vpa_cons (vp_ix (vp_var 1) vp_int) vpa_nil)) (vp_callB od_len T.n_len boot_len (vpa_cons (vp_var 4) vpa_nil))))) (vss_cons (vs_asg (ve_ixK 4 (ve_var 7)) (vg_tup rfl (vgs_cons (vg_name 8 sc_law.nd) (vgs_cons (vg_name 9 sc_law.nd) (vgs_cons (vg_name 10 sc_law.nd) vgs_nil))))) (vss_one (vs_setI 4 (ve_tup (va_cons (ve_var 8) (va_cons (ve_var 9) (va_cons (ve_op od_sub (ve_op od_sub (ve_ix (ve_opT ot_add (ve_lst (va_cons (ve_p vp_int) va_nil)) (ve_var 6)) (ve_var 8)) (ve_ix (ve_opT ot_add (ve_lst (va_cons (ve_p vp_int) va_nil)) (ve_var 6)) (ve_var 9))) (ve_p vp_int)) va_nil)))) (ve_var 7))))) vss_nil) (vss_cons (vs_set 11 sc_law.nd (ve_lst (va_cons (ve_fz (ve_list (va_cons (ve_var 4) va_nil) T.n_list)) (va_cons (ve_fz (ve_list (va_cons (ve_var 5) va_nil) T.n_list)) va_nil)))) (vss_cons (vs_if (vt_p (vb_cmp (od_eq hr.units) (vp_ix (vp_var 1) vp_int) vp_int)) (vss_one (vs_set 11 sc_law.nd (ve_lst (va_cons (ve_ixK 11 (ve_p vp_int)) (va_cons (ve_tupOf (va_cons (ve_var 5) va_nil) T.n_tuple) va_nil))))) vss_nil) (vss_cons (vs_set 12 sc_law.nd (ve_callB1 (od_repr hr.free hr.units) T.n_repr (by decide +kernel) (ve_lst (va_cons (ve_var 11) (va_cons (ve_var 6) va_nil))))) (vss_cons (vs_set 13 sc_law.nd (ve_call (G_f_law_sum) (hr.mono (by decide)) (va_mv 4 (va_mv 5 va_nil)))) (vss_cons (vs_if (vt_not (vt_val (ve_call (G_f_law_is_triple) (hr.mono (by decide)) (va_cons (ve_call (G_chain_sum) (hr.mono (by decide)) (va_cons (ve_ixK 11 (ve_p vp_int)) (va_cons (ve_ixK 11 (ve_p vp_int)) va_nil))) (va_mv 13 va_nil))))) (vss_one (vs_ret (ve_p vp_bl))) vss_nil) (vss_cons (vs_if (vt_not (vt_val (ve_call (G_f_law_tells) (hr.mono (by decide)) (va_cons (ve_call (G_is_ring) (hr.mono (by decide)) (va_cons (ve_ixK 11 (ve_p vp_int)) (va_cons (ve_ixK 11 (ve_p vp_int)) va_nil))) (va_cons (ve_p (vp_and (vp_cmp od_notN (vp_var 13) vp_non) (vp_and (vp_cmp (od_eq hr.units) (vp_ix (vp_var 13) vp_int) (vp_ix (vp_var 13) vp_int)) (vp_one (vp_cmp od_lt (vp_ix (vp_var 13) vp_int) vp_int))))) va_nil))))) (vss_one (vs_ret (ve_p vp_bl))) vss_nil) (vss_cons (vs_set 14 sc_law.nd (ve_call (G_f_law_kept) (hr.mono (by decide)) (va_mv 4 (va_mv 6 va_nil)))) (vss_cons (vs_if (vt_not (vt_val (ve_call (G_f_law_tells) (hr.mono (by decide)) (va_cons (ve_call (G_keeps_all) (hr.mono (by decide)) (va_cons (ve_ixK 11 (ve_p vp_int)) (va_mv 6 va_nil))) (va_mv 14 va_nil))))) (vss_one (vs_ret (ve_p vp_bl))) vss_nil) (vss_one (vs_ret (ve_cmp (od_eq hr.units) (ve_callB1 (od_repr hr.free hr.units) T.n_repr (by decide +kernel) (ve_lst (va_cons (ve_var 11) (va_cons (ve_var 6) va_nil)))) (ve_var 12)))))))))))))))))))))) (by decide)
end
/-! ### the head -/
def fa : List He.Fa := [.glo "chain_sum", .glo "is_ring", .glo "keeps_all", .glo "_law_cell", .glo "_law_draws", .glo "_law_is_integer", .glo "_law_sum", .glo "_law_kept", .glo "_law_weight", .glo "_law_differences", .glo "_law_going", .glo "_law_path", .glo "_law_drawn", .glo "_law_same", .glo "_law_is_triple", .glo "_law_tells", .glo "_law_raised", .glo "law", .free "abs", .free "all", .free "bool", .free "int", .free "isinstance", .free "len", .free "list", .free "max", .free "range", .free "repr", .free "sum", .free "tuple"]
def dd_chain_sum : He.DefD := ⟨("chain_sum", none), "chain_sum", "chain_sum", defArgs st_chain_sum, defBody st_chain_sum, defScope st_chain_sum, [], []⟩
def dd_is_ring : He.DefD := ⟨("is_ring", none), "is_ring", "is_ring", defArgs st_is_ring, defBody st_is_ring, defScope st_is_ring, [], []⟩
def dd_keeps_all : He.DefD := ⟨("keeps_all", none), "keeps_all", "keeps_all", defArgs st_keeps_all, defBody st_keeps_all, defScope st_keeps_all, [], []⟩
def dd_f_law_cell : He.DefD := ⟨("_law_cell", none), "_law_cell", "_law_cell", defArgs st_f_law_cell, defBody st_f_law_cell, defScope st_f_law_cell, [], []⟩
def dd_f_law_draws : He.DefD := ⟨("_law_draws", none), "_law_draws", "_law_draws", defArgs st_f_law_draws, defBody st_f_law_draws, defScope st_f_law_draws, [], []⟩
def dd_f_law_is_integer : He.DefD := ⟨("_law_is_integer", none), "_law_is_integer", "_law_is_integer", defArgs st_f_law_is_integer, defBody st_f_law_is_integer, defScope st_f_law_is_integer, [], []⟩
def dd_f_law_sum : He.DefD := ⟨("_law_sum", none), "_law_sum", "_law_sum", defArgs st_f_law_sum, defBody st_f_law_sum, defScope st_f_law_sum, [], []⟩
def dd_f_law_kept : He.DefD := ⟨("_law_kept", none), "_law_kept", "_law_kept", defArgs st_f_law_kept, defBody st_f_law_kept, defScope st_f_law_kept, [], []⟩
def dd_f_law_weight : He.DefD := ⟨("_law_weight", none), "_law_weight", "_law_weight", defArgs st_f_law_weight, defBody st_f_law_weight, defScope st_f_law_weight, [], []⟩
def dd_f_law_differences : He.DefD := ⟨("_law_differences", none), "_law_differences", "_law_differences", defArgs st_f_law_differences, defBody st_f_law_differences, defScope st_f_law_differences, [], []⟩
def dd_f_law_going : He.DefD := ⟨("_law_going", none), "_law_going", "_law_going", defArgs st_f_law_going, defBody st_f_law_going, defScope st_f_law_going, [], []⟩
def dd_f_law_path : He.DefD := ⟨("_law_path", none), "_law_path", "_law_path", defArgs st_f_law_path, defBody st_f_law_path, defScope st_f_law_path, [], []⟩
def dd_f_law_drawn : He.DefD := ⟨("_law_drawn", none), "_law_drawn", "_law_drawn", defArgs st_f_law_drawn, defBody st_f_law_drawn, defScope st_f_law_drawn, [], []⟩
def dd_f_law_same : He.DefD := ⟨("_law_same", none), "_law_same", "_law_same", defArgs st_f_law_same, defBody st_f_law_same, defScope st_f_law_same, [], []⟩
def dd_f_law_is_triple : He.DefD := ⟨("_law_is_triple", none), "_law_is_triple", "_law_is_triple", defArgs st_f_law_is_triple, defBody st_f_law_is_triple, defScope st_f_law_is_triple, [], []⟩
def dd_f_law_tells : He.DefD := ⟨("_law_tells", none), "_law_tells", "_law_tells", defArgs st_f_law_tells, defBody st_f_law_tells, defScope st_f_law_tells, [], []⟩
def dd_f_law_raised : He.DefD := ⟨("_law_raised", none), "_law_raised", "_law_raised", defArgs st_f_law_raised, defBody st_f_law_raised, defScope st_f_law_raised, [], []⟩
def dd_law : He.DefD := ⟨("law", none), "law", "law", defArgs st_law, defBody st_law, defScope st_law, [], []⟩
def fn : List He.DefD := [dd_chain_sum, dd_is_ring, dd_keeps_all, dd_f_law_cell, dd_f_law_draws, dd_f_law_is_integer, dd_f_law_sum, dd_f_law_kept, dd_f_law_weight, dd_f_law_differences, dd_f_law_going, dd_f_law_path, dd_f_law_drawn, dd_f_law_same, dd_f_law_is_triple, dd_f_law_tells, dd_f_law_raised, dd_law]
def ex (K : PySem.W.Frag) : Bool := true
abbrev R : PySem.W.OpenRow := PySem.W.OpenLaw.row PySem.Challenge.rw_swornon_k11_chains_and_rings
abbrev hk : PySem.W.Hook := He.hookX 4 fa fn [] [] ex
def ob (s : PySem.W.SharedT) : He.AlX := He.obsX 4 fa fn [] [] ex (HandSHeadRun.getT s)
theorem ob_eq (s : PySem.W.SharedT) : ob s = hk.obs s.abs := He.obsX_eq (HandSHeadRun.getT_eq s)
def loose : List Str := (["chain_sum", "is_ring", "keeps_all", "_law_cell", "_law_draws", "_law_is_integer", "_law_sum", "_law_kept", "_law_weight", "_law_differences", "_law_going", "_law_path", "_law_drawn", "_law_same", "_law_is_triple", "_law_tells", "_law_raised"] : List Str)
theorem run (w : World) : HandSHeadRun.RunEq R (PySem.W.view R.prog [19]) hk ob 4000 loose w := by
  intro os
  kernel_rfl
theorem facts {w : World} {K : PySem.W.Frag} {h : Heap} {mg : Str → Option Value} (X : K.In h) (G : h.Ns mainGlobals mg) (c : He.SaysX fa fn [] [] ex w h K) : Tx K mg := by
  have cd := c.t.d
  exact ⟨He.free_ok X G (cd.fact 18 (f := .free "abs") rfl),
    He.free_ok X G (cd.fact 19 (f := .free "all") rfl),
    He.free_ok X G (cd.fact 20 (f := .free "bool") rfl),
    He.free_ok X G (cd.fact 21 (f := .free "int") rfl),
    He.free_ok X G (cd.fact 22 (f := .free "isinstance") rfl),
    He.free_ok X G (cd.fact 23 (f := .free "len") rfl),
    He.free_ok X G (cd.fact 24 (f := .free "list") rfl),
    He.free_ok X G (cd.fact 25 (f := .free "max") rfl),
    He.free_ok X G (cd.fact 26 (f := .free "range") rfl),
    He.free_ok X G (cd.fact 27 (f := .free "repr") rfl),
    He.free_ok X G (cd.fact 28 (f := .free "sum") rfl),
    He.free_ok X G (cd.fact 29 (f := .free "tuple") rfl),
    def_of X G (cd.fact 0 (f := .glo "chain_sum") rfl) (cd.def_ 0 (d := dd_chain_sum) rfl),
    def_of X G (cd.fact 1 (f := .glo "is_ring") rfl) (cd.def_ 1 (d := dd_is_ring) rfl),
    def_of X G (cd.fact 2 (f := .glo "keeps_all") rfl) (cd.def_ 2 (d := dd_keeps_all) rfl),
    def_of X G (cd.fact 3 (f := .glo "_law_cell") rfl) (cd.def_ 3 (d := dd_f_law_cell) rfl),
    def_of X G (cd.fact 4 (f := .glo "_law_draws") rfl) (cd.def_ 4 (d := dd_f_law_draws) rfl),
    def_of X G (cd.fact 5 (f := .glo "_law_is_integer") rfl) (cd.def_ 5 (d := dd_f_law_is_integer) rfl),
    def_of X G (cd.fact 6 (f := .glo "_law_sum") rfl) (cd.def_ 6 (d := dd_f_law_sum) rfl),
    def_of X G (cd.fact 7 (f := .glo "_law_kept") rfl) (cd.def_ 7 (d := dd_f_law_kept) rfl),
    def_of X G (cd.fact 8 (f := .glo "_law_weight") rfl) (cd.def_ 8 (d := dd_f_law_weight) rfl),
    def_of X G (cd.fact 9 (f := .glo "_law_differences") rfl) (cd.def_ 9 (d := dd_f_law_differences) rfl),
    def_of X G (cd.fact 10 (f := .glo "_law_going") rfl) (cd.def_ 10 (d := dd_f_law_going) rfl),
    def_of X G (cd.fact 11 (f := .glo "_law_path") rfl) (cd.def_ 11 (d := dd_f_law_path) rfl),
    def_of X G (cd.fact 12 (f := .glo "_law_drawn") rfl) (cd.def_ 12 (d := dd_f_law_drawn) rfl),
    def_of X G (cd.fact 13 (f := .glo "_law_same") rfl) (cd.def_ 13 (d := dd_f_law_same) rfl),
    def_of X G (cd.fact 14 (f := .glo "_law_is_triple") rfl) (cd.def_ 14 (d := dd_f_law_is_triple) rfl),
    def_of X G (cd.fact 15 (f := .glo "_law_tells") rfl) (cd.def_ 15 (d := dd_f_law_tells) rfl),
    def_of X G (cd.fact 16 (f := .glo "_law_raised") rfl) (cd.def_ 16 (d := dd_f_law_raised) rfl),
    def_of X G (cd.fact 17 (f := .glo "law") rfl) (cd.def_ 17 (d := dd_law) rfl)⟩
end K11
namespace K11
open PySem PySem.Spec PyProof.Rows L2 VS
theorem cell_def : f_law_cell = fCell := rfl
theorem draws_def : f_law_draws = fDraws2 := rfl
/-! ### differences and numbers as data -/
abbrev Tr : Type := Int × Int × Int
abbrev dT (e : Tr) : D := .tup [.int e.1, .int e.2.1, .int e.2.2]
abbrev dTs (ts : List Tr) : D := .lst (ts.map dT)
/-- a list or a tuple of whole numbers -/
def IsN (d : D) (ns : List Int) : Prop := d = .lst (ns.map .int) ∨ d = .tup (ns.map .int)
def nt (ts : List Tr) (n : Int) : Tr := ts.getD n.toNat (0, 0, 0)
def inR (ts : List Tr) (n : Int) : Prop := 0 ≤ n ∧ n < ts.length
instance (ts : List Tr) (n : Int) : Decidable (inR ts n) := inferInstanceAs (Decidable (_ ∧ _))
theorem nt_at {ts : List Tr} {n : Int} (h : inR ts n) : ts[n.toNat]? = some (nt ts n) := by
  have hl : n.toNat < ts.length := by have := h.1; have := h.2; omega
  unfold nt
  rw [List.getElem?_eq_getElem hl, List.getD_eq_getElem?_getD, List.getElem?_eq_getElem hl]
  rfl
theorem dIx_ts {ts : List Tr} {n : Int} (h : inR ts n) : dIx (dTs ts) (.int n) = some (dT (nt ts n)) := by
  obtain ⟨m, rfl⟩ := Int.eq_ofNat_of_zero_le h.1
  have k := nt_at h
  rw [Int.toNat_natCast] at k
  show L2.atI (ts.map dT) ((m : Nat) : Int) = _
  rw [atI_pos, List.getElem?_map, k]
  rfl
theorem dLen_ts (ts : List Tr) : dLen [dTs ts] = some (.int (ts.length : Nat)) := by
  show some (D.int ((ts.map dT).length : Nat)) = _
  rw [List.length_map]
theorem dLen_n {d : D} {ns : List Int} (h : IsN d ns) : dLen [d] = some (.int (ns.length : Nat)) := by
  rcases h with rfl | rfl
  · exact dLen_ints ns
  · show some (D.int ((ns.map D.int).length : Nat)) = _
    rw [List.length_map]
theorem items_n {d : D} {ns : List Int} (h : IsN d ns) : items d = some (ns.map .int) := by
  rcases h with rfl | rfl <;> rfl
theorem dIx_n {d : D} {ns : List Int} {k : Nat} {n : Int} (h : IsN d ns) (e : ns[k]? = some n) : dIx d (.int (k : Nat)) = some (.int n) := by
  rcases h with rfl | rfl
  · show L2.atI (ns.map D.int) _ = _
    rw [atI_pos, List.getElem?_map, e]
    rfl
  · show L2.atI (ns.map D.int) _ = _
    rw [atI_pos, List.getElem?_map, e]
    rfl
theorem atI_last {α : Type} {xs : List α} {x : α} (h : xs.getLast? = some x) : L2.atI xs (-1) = some x := by
  have hl : 0 < xs.length := by
    cases xs with
    | nil => cases h
    | cons a l => simp
  unfold L2.atI ixN
  rw [if_neg (by omega), if_pos (by omega)]
  show xs[((xs.length : Int) + -1).toNat]? = some x
  rw [show ((xs.length : Int) + -1).toNat = xs.length - 1 by omega, ← List.getLast?_eq_getElem?, h]
theorem dIx_nl {d : D} {ns : List Int} {n : Int} (h : IsN d ns) (e : ns.getLast? = some n) : dIx d (.int (-1)) = some (.int n) := by
  have z : L2.atI (ns.map D.int) (-1) = some (.int n) := atI_last (by rw [List.getLast?_map, e]; rfl)
  rcases h with rfl | rfl <;> exact z
/-! ### the sum of a chain -/
def go (ts : List Tr) : Int → Int → List Int → Option (Int × Int)
  | la, tot, [] => some (la, tot)
  | la, tot, n :: ns => if (nt ts n).1 = la then go ts (nt ts n).2.1 (tot + (nt ts n).2.2) ns else none
theorem go_cons (ts : List Tr) (la tot n : Int) (ns : List Int) : go ts la tot (n :: ns) = if (nt ts n).1 = la then go ts (nt ts n).2.1 (tot + (nt ts n).2.2) ns else none := rfl
theorem go_last {ts : List Tr} : ∀ {ns : List Int} {la tot l s n : Int}, go ts la tot ns = some (l, s) → ns.getLast? = some n → l = (nt ts n).2.1
  | [], _, _, _, _, _, _, h => by cases h
  | [m], la, tot, l, s, n, e, h => by
    rw [go_cons] at e
    have z : m = n := by simpa using h
    subst z
    split at e
    · cases e
      rfl
    · cases e
  | m :: m2 :: ns, la, tot, l, s, n, e, h => by
    rw [go_cons] at e
    split at e
    · exact go_last e (by simpa using h)
    · cases e
def sumT (ts : List Tr) (ns : List Int) : Option Tr := match ns with
  | [] => none
  | n :: _ => if ∀ m ∈ ns, inR ts m then (go ts (nt ts n).1 0 ns).map fun p => ((nt ts n).1, p.1, p.2) else none
def sT : Option Tr → T
  | none => tN
  | some e => .sh (dT e)
abbrev csS (ts : List Tr) (dn : D) (o2 o3 o4 o5 o6 o7 o8 : Option T) : Sto := [some (.sh (dTs ts)), some (.sh dn), o2, o3, o4, o5, o6, o7, o8]
abbrev csA : MS := (sIf (ofB (bOr (pB (p2 dLt (pV 2) (pC (.int 0)))) (pB (p2 dGe (pV 2) (pCall dLen (paCons (pV 0) ((fun _ => some [])))))))) (sRet (ofP (pC .non))) (sNext))
theorem cs_out {ts : List Tr} {dn : D} {n : Int} {o3 o4 o5 o6 o7 o8 : Option T} : (ofB (bOr (pB (p2 dLt (pV 2) (pC (.int 0)))) (pB (p2 dGe (pV 2) (pCall dLen (paCons (pV 0) ((fun _ => some [])))))))) (csS ts dn (some (tZ n)) o3 o4 o5 o6 o7 o8) = some (!decide (inR ts n), csS ts dn (some (tZ n)) o3 o4 o5 o6 o7 o8) := by
  have h2 : (pB (p2 dGe (pV 2) (pCall dLen (paCons (pV 0) ((fun _ => some [])))))) (csS ts dn (some (tZ n)) o3 o4 o5 o6 o7 o8) = some (decide ((ts.length : Int) ≤ n)) :=
    pB_of (p2_of rfl (pc1_of rfl (dLen_ts ts)) rfl)
  have h1 : (pB (p2 dLt (pV 2) (pC (.int 0)))) (csS ts dn (some (tZ n)) o3 o4 o5 o6 o7 o8) = some (decide (n < 0)) := pB_of (p2_of rfl rfl rfl)
  refine ofB_of ?_
  unfold bOr
  rw [h1, Option.bind_some]
  by_cases a : n < 0
  · have b : ¬ inR ts n := fun z => by have := z.1; omega
    simp [a, b]
  · rw [h2]
    by_cases b : (ts.length : Int) ≤ n
    · have c : ¬ inR ts n := fun z => by have := z.2; omega
      simp [a, b, c]
    · have c : inR ts n := ⟨by omega, by omega⟩
      simp [a, b, c]
theorem cs_loop1 {ts : List Tr} {dn : D} {o3 o4 o5 o6 o7 o8 : Option T} : ∀ (l : List Int) (o2 : Option T),
    ((∀ m ∈ l, inR ts m) → ∃ o2', loopF (putS 2) csA (l.map .int) (csS ts dn o2 o3 o4 o5 o6 o7 o8) = some (.nx (csS ts dn o2' o3 o4 o5 o6 o7 o8))) ∧
    ((¬ ∀ m ∈ l, inR ts m) → ∃ o2', loopF (putS 2) csA (l.map .int) (csS ts dn o2 o3 o4 o5 o6 o7 o8) = some (.rt tN (csS ts dn o2' o3 o4 o5 o6 o7 o8)))
  | [], o2 => ⟨fun _ => ⟨o2, rfl⟩, fun h => absurd (fun m hm => nomatch hm) h⟩
  | n :: l, o2 => by
    have q := cs_out (ts := ts) (dn := dn) (n := n) (o3 := o3) (o4 := o4) (o5 := o5) (o6 := o6) (o7 := o7) (o8 := o8)
    by_cases h : inR ts n
    · rw [decide_eq_true h] at q
      have e : loopF (putS 2) csA ((n :: l).map .int) (csS ts dn o2 o3 o4 o5 o6 o7 o8) = loopF (putS 2) csA (l.map .int) (csS ts dn (some (tZ n)) o3 o4 o5 o6 o7 o8) :=
        loop_nx (S1 := csS ts dn (some (tZ n)) o3 o4 o5 o6 o7 o8) rfl (by rw [csA, sIf_f q]; rfl)
      obtain ⟨i1, i2⟩ := cs_loop1 (ts := ts) (dn := dn) (o3 := o3) (o4 := o4) (o5 := o5) (o6 := o6) (o7 := o7) (o8 := o8) l (some (tZ n))
      rw [e]
      refine ⟨fun hm => i1 fun m h2 => hm m (List.mem_cons_of_mem _ h2), fun hm => i2 fun h2 => hm fun m h3 => ?_⟩
      rcases List.mem_cons.mp h3 with rfl | h3
      · exact h
      · exact h2 m h3
    · rw [decide_eq_false h] at q
      refine ⟨fun hm => absurd (hm n List.mem_cons_self) h, fun _ => ⟨some (tZ n), ?_⟩⟩
      exact loop_rt (S1 := csS ts dn (some (tZ n)) o3 o4 o5 o6 o7 o8) rfl (by rw [csA, sIf_t q]; rfl)
abbrev csB : MS := (sSeq (sAsg (eIxK 0 (eVar 2)) (gTupS 3 (gsCons (putS 6) (gsCons (putS 7) (gsCons (putS 8) (gsNil)))))) (sSeq (sIf (ofB (pB (p2 dNe (pV 6) (pV 4)))) (sRet (ofP (pC .non))) (sNext)) (sSeq (sAsg (eVar 7) (putS 4)) (sAsg (ofP (p2 dAdd (pV 5) (pV 8))) (putS 5)))))
theorem cs_turn {ts : List Tr} {dn : D} {n fi la tot : Int} {o6 o7 o8 : Option T} (h : inR ts n) :
    ((nt ts n).1 = la → ∃ a6 a7 a8, csB (csS ts dn (some (tZ n)) (some (tZ fi)) (some (tZ la)) (some (tZ tot)) o6 o7 o8) = some (.nx (csS ts dn (some (tZ n)) (some (tZ fi)) (some (tZ (nt ts n).2.1)) (some (tZ (tot + (nt ts n).2.2))) a6 a7 a8))) ∧
    ((nt ts n).1 ≠ la → ∃ S', csB (csS ts dn (some (tZ n)) (some (tZ fi)) (some (tZ la)) (some (tZ tot)) o6 o7 o8) = some (.rt tN (some (.sh (dTs ts)) :: some (.sh dn) :: S'))) := by
  have e1 : (sAsg (eIxK 0 (eVar 2)) (gTupS 3 (gsCons (putS 6) (gsCons (putS 7) (gsCons (putS 8) (gsNil)))))) (csS ts dn (some (tZ n)) (some (tZ fi)) (some (tZ la)) (some (tZ tot)) o6 o7 o8) = some (.nx (csS ts dn (some (tZ n)) (some (tZ fi)) (some (tZ la)) (some (tZ tot)) (some (tZ (nt ts n).1)) (some (tZ (nt ts n).2.1)) (some (tZ (nt ts n).2.2)))) := by
    have k : kidF (.sh (dTs ts)) n = some (dT (nt ts n), .sh (dTs ts)) := by
      have e : kid (.sh (dTs ts)) n = some (.sh (dT (nt ts n))) := by
        show (L2.atI (ts.map dT) n).map T.sh = _
        have := dIx_ts h
        rw [show L2.atI (ts.map dT) n = some (dT (nt ts n)) from this]
        rfl
      unfold kidF
      simp only [e, Option.bind_some]
    refine sAsg_of (t := .sh (dT (nt ts n))) (S1 := csS ts dn (some (tZ n)) (some (tZ fi)) (some (tZ la)) (some (tZ tot)) o6 o7 o8) ?_ rfl
    unfold eIxK
    show ((eVar 2 _).bind _) = _
    rw [show eVar 2 (csS ts dn (some (tZ n)) (some (tZ fi)) (some (tZ la)) (some (tZ tot)) o6 o7 o8) = some (tZ n, csS ts dn (some (tZ n)) (some (tZ fi)) (some (tZ la)) (some (tZ tot)) o6 o7 o8) from rfl, Option.bind_some]
    show ((kidF (.sh (dTs ts)) n).bind _) = _
    rw [k]
    rfl
  have q : (ofB (pB (p2 dNe (pV 6) (pV 4)))) (csS ts dn (some (tZ n)) (some (tZ fi)) (some (tZ la)) (some (tZ tot)) (some (tZ (nt ts n).1)) (some (tZ (nt ts n).2.1)) (some (tZ (nt ts n).2.2))) = some (!((nt ts n).1 == la), csS ts dn (some (tZ n)) (some (tZ fi)) (some (tZ la)) (some (tZ tot)) (some (tZ (nt ts n).1)) (some (tZ (nt ts n).2.1)) (some (tZ (nt ts n).2.2))) :=
    ofB_of (pB_of (p2_of rfl rfl rfl))
  have e2 : (sAsg (eVar 7) (putS 4)) (csS ts dn (some (tZ n)) (some (tZ fi)) (some (tZ la)) (some (tZ tot)) (some (tZ (nt ts n).1)) (some (tZ (nt ts n).2.1)) (some (tZ (nt ts n).2.2))) = some (.nx (csS ts dn (some (tZ n)) (some (tZ fi)) (some (tZ (nt ts n).2.1)) (some (tZ tot)) (some (tZ (nt ts n).1)) (some (tZ (nt ts n).2.1)) (some (tZ (nt ts n).2.2)))) := rfl
  have e3 : (sAsg (ofP (p2 dAdd (pV 5) (pV 8))) (putS 5)) (csS ts dn (some (tZ n)) (some (tZ fi)) (some (tZ (nt ts n).2.1)) (some (tZ tot)) (some (tZ (nt ts n).1)) (some (tZ (nt ts n).2.1)) (some (tZ (nt ts n).2.2))) = some (.nx (csS ts dn (some (tZ n)) (some (tZ fi)) (some (tZ (nt ts n).2.1)) (some (tZ (tot + (nt ts n).2.2))) (some (tZ (nt ts n).1)) (some (tZ (nt ts n).2.1)) (some (tZ (nt ts n).2.2)))) := rfl
  constructor
  · intro hl
    refine ⟨some (tZ (nt ts n).1), some (tZ (nt ts n).2.1), some (tZ (nt ts n).2.2), ?_⟩
    rw [show ((nt ts n).1 == la) = true by rw [hl]; exact beq_self_eq_true la] at q
    rw [csB, sSeq_nx e1, sq_no q, sSeq_nx e2, e3]
  · intro hl
    refine ⟨[some (tZ n), some (tZ fi), some (tZ la), some (tZ tot), some (tZ (nt ts n).1), some (tZ (nt ts n).2.1), some (tZ (nt ts n).2.2)], ?_⟩
    rw [show ((nt ts n).1 == la) = false from beq_false_of_ne hl] at q
    rw [csB, sSeq_nx e1]
    exact sq_yes q rfl
theorem cs_loop2 {ts : List Tr} {dn : D} {fi : Int} : ∀ (l : List Int) (la tot : Int) (o2 o6 o7 o8 : Option T), (∀ m ∈ l, inR ts m) →
    (∀ a s, go ts la tot l = some (a, s) → ∃ b2 b6 b7 b8, loopF (putS 2) csB (l.map .int) (csS ts dn o2 (some (tZ fi)) (some (tZ la)) (some (tZ tot)) o6 o7 o8) = some (.nx (csS ts dn b2 (some (tZ fi)) (some (tZ a)) (some (tZ s)) b6 b7 b8))) ∧
    (go ts la tot l = none → ∃ S', loopF (putS 2) csB (l.map .int) (csS ts dn o2 (some (tZ fi)) (some (tZ la)) (some (tZ tot)) o6 o7 o8) = some (.rt tN (some (.sh (dTs ts)) :: some (.sh dn) :: S')))
  | [], la, tot, o2, o6, o7, o8, h => ⟨fun a s e => by cases e; exact ⟨o2, o6, o7, o8, rfl⟩, fun e => nomatch e⟩
  | n :: l, la, tot, o2, o6, o7, o8, h => by
    obtain ⟨t1, t2⟩ := cs_turn (ts := ts) (dn := dn) (n := n) (fi := fi) (la := la) (tot := tot) (o6 := o6) (o7 := o7) (o8 := o8) (h n List.mem_cons_self)
    rw [go_cons]
    by_cases hl : (nt ts n).1 = la
    · rw [if_pos hl]
      obtain ⟨a6, a7, a8, e⟩ := t1 hl
      have e2 : loopF (putS 2) csB ((n :: l).map .int) (csS ts dn o2 (some (tZ fi)) (some (tZ la)) (some (tZ tot)) o6 o7 o8) = loopF (putS 2) csB (l.map .int) (csS ts dn (some (tZ n)) (some (tZ fi)) (some (tZ (nt ts n).2.1)) (some (tZ (tot + (nt ts n).2.2))) a6 a7 a8) :=
        loop_nx (S1 := csS ts dn (some (tZ n)) (some (tZ fi)) (some (tZ la)) (some (tZ tot)) o6 o7 o8) rfl e
      rw [e2]
      exact cs_loop2 l _ _ _ _ _ _ fun m hm => h m (List.mem_cons_of_mem _ hm)
    · rw [if_neg hl]
      obtain ⟨S', e⟩ := t2 hl
      exact ⟨fun a s z => (nomatch z), fun _ => ⟨S', loop_rt (S1 := csS ts dn (some (tZ n)) (some (tZ fi)) (some (tZ la)) (some (tZ tot)) o6 o7 o8) rfl e⟩⟩
end K11
namespace K11
open PySem PySem.Spec PyProof.Rows L2 VS
theorem sumT_cons {ts : List Tr} {n : Int} {l : List Int} : sumT ts (n :: l) = if ∀ m ∈ n :: l, inR ts m then (go ts (nt ts n).1 0 (n :: l)).map fun p => ((nt ts n).1, p.1, p.2) else none := rfl
theorem cs_fin {ts : List Tr} {dn : D} {t : T} {S' : Sto} (e : b_chain_sum (csS ts dn none none none none none none none) = some (.rt t (some (.sh (dTs ts)) :: some (.sh dn) :: S'))) : chain_sum [.sh (dTs ts), .sh dn] = some (t, [some (.sh (dTs ts)), some (.sh dn)]) := by
  unfold chain_sum
  rw [mkFn_rt (np := 2) (ns := 9) (as := []) (ts := [.sh (dTs ts), .sh dn]) (S := csS ts dn none none none none none none none) rfl rfl e]
  rfl
theorem cs_wk {ts : List Tr} {dn : D} {ns : List Int} (hn : IsN dn ns) {b : MS} {o2 o3 o4 o5 o6 o7 o8 : Option T} : mFor (iSeq' (eVar 1)) (putS 2) b (csS ts dn o2 o3 o4 o5 o6 o7 o8) = loopF (putS 2) b (ns.map .int) (csS ts dn o2 o3 o4 o5 o6 o7 o8) := by
  refine mFor_of ?_
  unfold iSeq'
  rw [show eVar 1 (csS ts dn o2 o3 o4 o5 o6 o7 o8) = some (.sh dn, csS ts dn o2 o3 o4 o5 o6 o7 o8) from rfl, Option.bind_some]
  show (items dn).map _ = _
  rw [items_n hn]
  rfl
theorem chain_sum_eq {ts : List Tr} {dn : D} {ns : List Int} (hn : IsN dn ns) : chain_sum [.sh (dTs ts), .sh dn] = some (sT (sumT ts ns), [some (.sh (dTs ts)), some (.sh dn)]) := by
  have tst : (ofB (pB (p2 dEq (pCall dLen (paCons (pV 1) ((fun _ => some [])))) (pC (.int 0))))) (csS ts dn none none none none none none none) = some (((ns.length : Int) == 0), csS ts dn none none none none none none none) :=
    ofB_of (pB_of (p2_of (pc1_of rfl (dLen_n hn)) rfl rfl))
  cases ns with
  | nil =>
    have e : b_chain_sum (csS ts dn none none none none none none none) = some (.rt tN (csS ts dn none none none none none none none)) := by
      rw [b_chain_sum]
      exact sq_yes tst rfl
    exact cs_fin e
  | cons n l =>
    have z : (((n :: l).length : Int) == 0) = false := beq_false_of_ne (by rw [List.length_cons]; omega)
    rw [z] at tst
    obtain ⟨a1, a2⟩ := cs_loop1 (ts := ts) (dn := dn) (o3 := none) (o4 := none) (o5 := none) (o6 := none) (o7 := none) (o8 := none) (n :: l) none
    rw [sumT_cons]
    by_cases h : ∀ m ∈ n :: l, inR ts m
    · obtain ⟨o2, e1⟩ := a1 h
      rw [if_pos h]
      have hn0 := h n List.mem_cons_self
      have e2 : (sAsg (ofP (p2 dIx (p2 dIx (pV 0) (p2 dIx (pV 1) (pC (.int 0)))) (pC (.int 0)))) (putS 3)) (csS ts dn o2 none none none none none none) = some (.nx (csS ts dn o2 (some (tZ (nt ts n).1)) none none none none none)) :=
        sAsg_of (ofP_of (p2_of (p2_of rfl (p2_of rfl rfl (dIx_n (k := 0) hn rfl)) (dIx_ts hn0)) rfl rfl) rfl) rfl
      have e4 : (sAsg (eVar 3) (putS 4)) (csS ts dn o2 (some (tZ (nt ts n).1)) none none none none none) = some (.nx (csS ts dn o2 (some (tZ (nt ts n).1)) (some (tZ (nt ts n).1)) none none none none)) := rfl
      have e5 : (sAsg (ofP (pC (.int 0))) (putS 5)) (csS ts dn o2 (some (tZ (nt ts n).1)) (some (tZ (nt ts n).1)) none none none none) = some (.nx (csS ts dn o2 (some (tZ (nt ts n).1)) (some (tZ (nt ts n).1)) (some (tZ 0)) none none none)) := rfl
      obtain ⟨c1, c2⟩ := cs_loop2 (ts := ts) (dn := dn) (fi := (nt ts n).1) (n :: l) (nt ts n).1 0 o2 none none none h
      cases hg : go ts (nt ts n).1 0 (n :: l) with
      | none =>
        obtain ⟨S', e3⟩ := c2 hg
        refine cs_fin (S' := S') ?_
        rw [b_chain_sum, sq_no tst, sSeq_nx ((cs_wk hn).trans e1), sSeq_nx e2, sSeq_nx e4, sSeq_nx e5, sSeq_rt ((cs_wk hn).trans e3)]
        rfl
      | some p =>
        obtain ⟨a, s⟩ := p
        obtain ⟨b2, b6, b7, b8, e3⟩ := c1 a s hg
        refine cs_fin (S' := [b2, some (tZ (nt ts n).1), some (tZ a), some (tZ s), b6, b7, b8]) ?_
        rw [b_chain_sum, sq_no tst, sSeq_nx ((cs_wk hn).trans e1), sSeq_nx e2, sSeq_nx e4, sSeq_nx e5, sSeq_nx ((cs_wk hn).trans e3)]
        rfl
    · obtain ⟨o2, e1⟩ := a2 h
      rw [if_neg h]
      refine cs_fin (S' := [o2, none, none, none, none, none, none]) ?_
      rw [b_chain_sum, sq_no tst, sSeq_rt ((cs_wk hn).trans e1)]
      rfl
end K11
namespace K11
open PySem PySem.Spec PyProof.Rows L2 VS
/-! ### the law's own sum -/
abbrev lsS (d0 : T) (d1 : T) (o2 o3 : Option T) : Sto := [some d0, some d1, o2, o3]
abbrev lsB : MS := (sSeq (sIf (ofB (bOr (pB (p2 dLt (p2 dIx (pV 1) (pV 3)) (pC (.int 0)))) (pB (p2 dGe (p2 dIx (pV 1) (pV 3)) (pCall dLen (paCons (pV 0) ((fun _ => some [])))))))) (sRet (ofP (pC .non))) (sNext)) (sSeq (sIf (ofB (bAnd (pB (p2 dGt (pV 3) (pC (.int 0)))) (pB (p2 dNe (p2 dIx (p2 dIx (pV 0) (p2 dIx (pV 1) (p2 dSub (pV 3) (pC (.int 1))))) (pC (.int 1))) (p2 dIx (p2 dIx (pV 0) (p2 dIx (pV 1) (pV 3))) (pC (.int 0))))))) (sRet (ofP (pC .non))) (sNext)) (sAsg (ofP (p2 dAdd (pV 2) (p2 dIx (p2 dIx (pV 0) (p2 dIx (pV 1) (pV 3))) (pC (.int 2))))) (putS 2))))
theorem ls_turn {ts : List Tr} {d0 d1 : T} {ns : List Int} {k : Nat} {n la tot : Int} (h0 : fz d0 = dTs ts) (hn : IsN (fz d1) ns) (hk : ns[k]? = some n) (hp : ∀ m, 0 < k → ns[k - 1]? = some m → inR ts m ∧ (nt ts m).2.1 = la) (hz : k = 0 → (nt ts n).1 = la) :
    ((inR ts n ∧ (nt ts n).1 = la) → lsB (lsS d0 d1 (some (tZ tot)) (some (tI k))) = some (.nx (lsS d0 d1 (some (tZ (tot + (nt ts n).2.2))) (some (tI k))))) ∧
    (¬ (inR ts n ∧ (nt ts n).1 = la) → lsB (lsS d0 d1 (some (tZ tot)) (some (tI k))) = some (.rt tN (lsS d0 d1 (some (tZ tot)) (some (tI k))))) := by
  have pn : (p2 dIx (pV 1) (pV 3)) (lsS d0 d1 (some (tZ tot)) (some (tI k))) = some (.int n) := p2_of rfl rfl (dIx_n hn hk)
  have q : (ofB (bOr (pB (p2 dLt (p2 dIx (pV 1) (pV 3)) (pC (.int 0)))) (pB (p2 dGe (p2 dIx (pV 1) (pV 3)) (pCall dLen (paCons (pV 0) ((fun _ => some [])))))))) (lsS d0 d1 (some (tZ tot)) (some (tI k))) = some (!decide (inR ts n), lsS d0 d1 (some (tZ tot)) (some (tI k))) := by
    have h2 : (pB (p2 dGe (p2 dIx (pV 1) (pV 3)) (pCall dLen (paCons (pV 0) ((fun _ => some [])))))) (lsS d0 d1 (some (tZ tot)) (some (tI k))) = some (decide ((ts.length : Int) ≤ n)) :=
      pB_of (p2_of pn (pc1_of (x := dTs ts) (congrArg some h0) (dLen_ts ts)) rfl)
    have h1 : (pB (p2 dLt (p2 dIx (pV 1) (pV 3)) (pC (.int 0)))) (lsS d0 d1 (some (tZ tot)) (some (tI k))) = some (decide (n < 0)) := pB_of (p2_of pn rfl rfl)
    refine ofB_of ?_
    unfold bOr
    rw [h1, Option.bind_some]
    by_cases a : n < 0
    · have b : ¬ inR ts n := fun z => by have := z.1; omega
      simp [a, b]
    · rw [h2]
      by_cases b : (ts.length : Int) ≤ n
      · have c : ¬ inR ts n := fun z => by have := z.2; omega
        simp [a, b, c]
      · have c : inR ts n := ⟨by omega, by omega⟩
        simp [a, b, c]
  by_cases hr : inR ts n
  · rw [decide_eq_true hr] at q
    have pe : (p2 dIx (pV 0) (p2 dIx (pV 1) (pV 3))) (lsS d0 d1 (some (tZ tot)) (some (tI k))) = some (dT (nt ts n)) := p2_of (x := dTs ts) (congrArg some h0) pn (dIx_ts hr)
    have q2 : (ofB (bAnd (pB (p2 dGt (pV 3) (pC (.int 0)))) (pB (p2 dNe (p2 dIx (p2 dIx (pV 0) (p2 dIx (pV 1) (p2 dSub (pV 3) (pC (.int 1))))) (pC (.int 1))) (p2 dIx (p2 dIx (pV 0) (p2 dIx (pV 1) (pV 3))) (pC (.int 0))))))) (lsS d0 d1 (some (tZ tot)) (some (tI k))) = some (!decide ((nt ts n).1 = la), lsS d0 d1 (some (tZ tot)) (some (tI k))) := by
      have g1 : (pB (p2 dGt (pV 3) (pC (.int 0)))) (lsS d0 d1 (some (tZ tot)) (some (tI k))) = some (decide ((0 : Int) < (k : Int))) := pB_of (p2_of rfl rfl rfl)
      refine ofB_of ?_
      unfold bAnd
      rw [g1, Option.bind_some]
      by_cases k0 : k = 0
      · rw [k0, hz k0]
        simp
      · have kp : 0 < k := Nat.pos_of_ne_zero k0
        have hk1 : k - 1 < ns.length := by have := (List.getElem?_eq_some_iff.mp hk).1; omega
        obtain ⟨hm, hla⟩ := hp ns[k - 1] kp (List.getElem?_eq_getElem hk1)
        have pm : (p2 dIx (pV 1) (p2 dSub (pV 3) (pC (.int 1)))) (lsS d0 d1 (some (tZ tot)) (some (tI k))) = some (.int ns[k - 1]) := by
          refine p2_of (y := .int ((k - 1 : Nat) : Int)) rfl (p2_of rfl rfl ?_) (dIx_n hn (List.getElem?_eq_getElem hk1))
          show some (D.int ((k : Int) - 1)) = _
          congr 2
          omega
        have g2 : (pB (p2 dNe (p2 dIx (p2 dIx (pV 0) (p2 dIx (pV 1) (p2 dSub (pV 3) (pC (.int 1))))) (pC (.int 1))) (p2 dIx (p2 dIx (pV 0) (p2 dIx (pV 1) (pV 3))) (pC (.int 0))))) (lsS d0 d1 (some (tZ tot)) (some (tI k))) = some (!((nt ts ns[k - 1]).2.1 == (nt ts n).1)) :=
          pB_of (p2_of (p2_of (p2_of (x := dTs ts) (congrArg some h0) pm (dIx_ts hm)) rfl rfl) (p2_of pe rfl rfl) rfl)
        have kk : decide ((0 : Int) < (k : Int)) = true := decide_eq_true (by omega)
        rw [kk, g2, hla]
        show some (!(la == (nt ts n).1)) = _
        congr 2
        rw [Bool.eq_iff_iff]
        simp
        exact ⟨fun z => z.symm, fun z => z.symm⟩
    by_cases hl : (nt ts n).1 = la
    · rw [decide_eq_true hl] at q2
      refine ⟨fun _ => ?_, fun z => absurd ⟨hr, hl⟩ z⟩
      rw [lsB, sq_no q, sq_no q2]
      exact sAsg_of (ofP_of (p2_of rfl (p2_of pe rfl rfl) rfl) rfl) rfl
    · rw [decide_eq_false hl] at q2
      refine ⟨fun z => absurd z.2 hl, fun _ => ?_⟩
      rw [lsB, sq_no q]
      exact sq_yes q2 rfl
  · rw [decide_eq_false hr] at q
    refine ⟨fun z => absurd z.1 hr, fun _ => ?_⟩
    rw [lsB]
    exact sq_yes q rfl
theorem ls_loop {ts : List Tr} {d0 d1 : T} {ns : List Int} (h0 : fz d0 = dTs ts) (hn : IsN (fz d1) ns) : ∀ (l : List Int) (k : Nat) (la tot : Int) (o3 : Option T), ns.drop k = l → (∀ m, 0 < k → ns[k - 1]? = some m → inR ts m ∧ (nt ts m).2.1 = la) → (∀ n, k = 0 → ns[0]? = some n → (nt ts n).1 = la) →
    (∀ a s, (∀ m ∈ l, inR ts m) → go ts la tot l = some (a, s) → ∃ b3, loopF (putS 3) lsB (rngD (k : Nat) l.length) (lsS d0 d1 (some (tZ tot)) o3) = some (.nx (lsS d0 d1 (some (tZ s)) b3))) ∧
    ((¬ (∀ m ∈ l, inR ts m) ∨ go ts la tot l = none) → ∃ b2 b3, loopF (putS 3) lsB (rngD (k : Nat) l.length) (lsS d0 d1 (some (tZ tot)) o3) = some (.rt tN (lsS d0 d1 b2 b3)))
  | [], k, la, tot, o3, hd, hp, hz => ⟨fun a s _ e => by cases e; exact ⟨o3, rfl⟩, fun e => by
      rcases e with e | e
      · exact absurd (fun m hm => nomatch hm) e
      · cases e⟩
  | n :: l, k, la, tot, o3, hd, hp, hz => by
    have hk : ns[k]? = some n := by
      have : (ns.drop k)[0]? = some n := by rw [hd]; rfl
      rw [List.getElem?_drop] at this
      simpa using this
    have hd2 : ns.drop (k + 1) = l := by rw [← List.drop_drop, hd]; rfl
    obtain ⟨t1, t2⟩ := ls_turn (d0 := d0) (d1 := d1) (tot := tot) h0 hn hk hp (fun z => hz n z (by rw [← z]; exact hk))
    have hb : loopF (putS 3) lsB (rngD (k : Nat) (n :: l).length) (lsS d0 d1 (some (tZ tot)) o3) = loopF (putS 3) lsB (.int (k : Nat) :: rngD ((k + 1 : Nat)) l.length) (lsS d0 d1 (some (tZ tot)) o3) := by
      rw [List.length_cons, rng_cons]
      rfl
    rw [hb, go_cons]
    by_cases h : inR ts n ∧ (nt ts n).1 = la
    · have e := t1 h
      have e2 : loopF (putS 3) lsB (.int (k : Nat) :: rngD ((k + 1 : Nat)) l.length) (lsS d0 d1 (some (tZ tot)) o3) = loopF (putS 3) lsB (rngD ((k + 1 : Nat)) l.length) (lsS d0 d1 (some (tZ (tot + (nt ts n).2.2))) (some (tI k))) :=
        loop_nx (S1 := lsS d0 d1 (some (tZ tot)) (some (tI k))) rfl e
      obtain ⟨i1, i2⟩ := ls_loop h0 hn l (k + 1) (nt ts n).2.1 (tot + (nt ts n).2.2) (some (tI k)) hd2 (fun m _ hm => by
        rw [Nat.add_sub_cancel, hk] at hm
        cases hm
        exact ⟨h.1, rfl⟩) (fun n z => by omega)
      rw [e2, if_pos h.2]
      refine ⟨fun a s hm hg => i1 a s (fun m h3 => hm m (List.mem_cons_of_mem _ h3)) hg, fun hf => i2 ?_⟩
      rcases hf with hf | hf
      · refine .inl fun hm => hf fun m h3 => ?_
        rcases List.mem_cons.mp h3 with rfl | h3
        · exact h.1
        · exact hm m h3
      · exact .inr hf
    · have e := t2 h
      refine ⟨fun a s hm hg => ?_, fun _ => ⟨some (tZ tot), some (tI k), loop_rt (S1 := lsS d0 d1 (some (tZ tot)) (some (tI k))) rfl e⟩⟩
      have hn2 := hm n List.mem_cons_self
      by_cases hl : (nt ts n).1 = la
      · exact absurd ⟨hn2, hl⟩ h
      · rw [if_neg hl] at hg
        cases hg
end K11
namespace K11
open PySem PySem.Spec PyProof.Rows L2 VS
theorem law_sum_eq {ts : List Tr} {d0 d1 : T} {ns : List Int} (h0 : fz d0 = dTs ts) (hn : IsN (fz d1) ns) (hl : ns.length ≤ 1000000) : f_law_sum [d0, d1] = some (sT (sumT ts ns), [some d0, some d1]) := by
  have fin : ∀ {t : T} {b2 b3 : Option T}, b_f_law_sum (lsS d0 d1 none none) = some (.rt t (lsS d0 d1 b2 b3)) → f_law_sum [d0, d1] = some (t, [some d0, some d1]) := fun {t b2 b3} e => by
    unfold f_law_sum
    rw [mkFn_rt (np := 2) (ns := 4) (as := []) (ts := [d0, d1]) (S := lsS d0 d1 none none) rfl rfl e]
    rfl
  have len : (pCall dLen (paCons (pV 1) ((fun _ => some [])))) (lsS d0 d1 none none) = some (.int (ns.length : Nat)) := pc1_of rfl (dLen_n hn)
  have tst : (ofB (pB (p2 dEq (pCall dLen (paCons (pV 1) ((fun _ => some [])))) (pC (.int 0))))) (lsS d0 d1 none none) = some (((ns.length : Int) == 0), lsS d0 d1 none none) := ofB_of (pB_of (p2_of len rfl rfl))
  cases ns with
  | nil => exact fin (b2 := none) (b3 := none) (by rw [b_f_law_sum]; exact sq_yes tst rfl)
  | cons n l =>
    have z : (((n :: l).length : Int) == 0) = false := beq_false_of_ne (by rw [List.length_cons]; omega)
    rw [z] at tst
    have e1 : (sAsg (ofP (pC (.int 0))) (putS 2)) (lsS d0 d1 none none) = some (.nx (lsS d0 d1 (some (tZ 0)) none)) := rfl
    have ei : (iRng1' (paCons (pCall dLen (paCons (pV 1) ((fun _ => some [])))) ((fun _ => some [])))) (lsS d0 d1 (some (tZ 0)) none) = some (rngD 0 (n :: l).length, lsS d0 d1 (some (tZ 0)) none) :=
      iRng1_of (pa1_of (pc1_of rfl (dLen_n hn))) hl
    obtain ⟨a1, a2⟩ := ls_loop h0 hn (n :: l) 0 (nt ts n).1 0 none rfl (fun m h => by omega) (fun m _ h => by cases h; rfl)
    rw [sumT_cons]
    by_cases h : ∀ m ∈ n :: l, inR ts m
    · rw [if_pos h]
      cases hg : go ts (nt ts n).1 0 (n :: l) with
      | none =>
        obtain ⟨b2, b3, e⟩ := a2 (.inr hg)
        refine fin (b2 := b2) (b3 := b3) ?_
        rw [b_f_law_sum, sq_no tst, sSeq_nx e1, sSeq_rt ((mFor_of ei).trans e)]
        rfl
      | some p =>
        obtain ⟨a, s⟩ := p
        obtain ⟨b3, e⟩ := a1 a s h hg
        have hlast : (n :: l).getLast? = some ((n :: l).getLast (List.cons_ne_nil n l)) := List.getLast?_eq_some_getLast (List.cons_ne_nil n l)
        have hin := h _ (List.getLast_mem (List.cons_ne_nil n l))
        have ha := go_last hg hlast
        have g1 : (ofP (p2 dIx (p2 dIx (pV 0) (p2 dIx (pV 1) (pC (.int 0)))) (pC (.int 0)))) (lsS d0 d1 (some (tZ s)) b3) = some (tZ (nt ts n).1, lsS d0 d1 (some (tZ s)) b3) :=
          ofP_of (p2_of (p2_of (x := dTs ts) (congrArg some h0) (p2_of rfl rfl (dIx_n (k := 0) hn rfl)) (dIx_ts (h n List.mem_cons_self))) rfl rfl) rfl
        have g2 : (ofP (p2 dIx (p2 dIx (pV 0) (p2 dIx (pV 1) (p1 dNeg (pC (.int 1))))) (pC (.int 1)))) (lsS d0 d1 (some (tZ s)) b3) = some (tZ a, lsS d0 d1 (some (tZ s)) b3) := by
          rw [ha]
          exact ofP_of (p2_of (p2_of (x := dTs ts) (congrArg some h0) (p2_of (y := .int (-1)) rfl rfl (dIx_nl hn hlast)) (dIx_ts hin)) rfl rfl) rfl
        refine fin (b2 := some (tZ s)) (b3 := b3) ?_
        rw [b_f_law_sum, sq_no tst, sSeq_nx e1, sSeq_nx ((mFor_of ei).trans e)]
        refine sRet_of ?_
        have g3 : eVar 2 (lsS d0 d1 (some (tZ s)) b3) = some (tZ s, lsS d0 d1 (some (tZ s)) b3) := rfl
        unfold eTup
        rw [aCons_of g1 (aCons_of g2 (aCons_of (r := aNil) g3 rfl))]
        rfl
    · rw [if_neg h]
      obtain ⟨b2, b3, e⟩ := a2 (.inl h)
      refine fin (b2 := b2) (b3 := b3) ?_
      rw [b_f_law_sum, sq_no tst, sSeq_nx e1, sSeq_rt ((mFor_of ei).trans e)]
      rfl
/-! ### rings -/
def ringB : Option Tr → Bool
  | none => false
  | some e => (e.1 == e.2.1) && decide (e.2.2 < 0)
abbrev ringP (i : Nat) : MP := (pAnd (p2 dIsNotN (pV i) (pC .non)) (pAnd (p2 dEq (p2 dIx (pV i) (pC (.int 0))) (p2 dIx (pV i) (pC (.int 1)))) (p2 dLt (p2 dIx (pV i) (pC (.int 2))) (pC (.int 0)))))
theorem pAnd_of {p q : MP} {S : Sto} {a b : Bool} (h1 : p S = some (.bl a)) (h2 : a = true → q S = some (.bl b)) (h3 : a = false → b = false) : pAnd p q S = some (.bl b) := by
  unfold pAnd
  rw [h1, Option.bind_some, asB_bl, Option.bind_some]
  cases a with
  | true => rw [if_pos rfl]; exact h2 rfl
  | false => rw [if_neg (by decide), h3 rfl]
theorem ring_of {i : Nat} {S : Sto} {o : Option Tr} (h : pV i S = some (fz (sT o))) : ringP i S = some (.bl (ringB o)) := by
  cases o with
  | none => exact pAnd_of (a := false) (p2_of h rfl rfl) (fun z => nomatch z) fun _ => rfl
  | some e =>
    refine pAnd_of (a := true) (p2_of h rfl rfl) (fun _ => ?_) fun z => nomatch z
    refine pAnd_of (a := e.1 == e.2.1) (p2_of (p2_of h rfl rfl) (p2_of h rfl rfl) rfl) (fun z => ?_) fun z => ?_
    · show (p2 dLt (p2 dIx (pV i) (pC (.int 2))) (pC (.int 0))) S = some (.bl ((e.1 == e.2.1) && decide (e.2.2 < 0)))
      rw [z, Bool.true_and]
      exact p2_of (p2_of h rfl rfl) rfl rfl
    · show ((e.1 == e.2.1) && decide (e.2.2 < 0)) = false
      rw [z, Bool.false_and]
theorem is_ring_eq {ts : List Tr} {dn : D} {ns : List Int} (hn : IsN dn ns) : is_ring [.sh (dTs ts), .sh dn] = some (tBl (ringB (sumT ts ns)), [some (.sh (dTs ts)), some (.sh dn)]) := by
  have e1 : (sAsg (eCall chain_sum [some 0, some 1] (aMv 0 (aMv 1 (aNil)))) (putS 2)) [some (.sh (dTs ts)), some (.sh dn), none] = some (.nx [some (.sh (dTs ts)), some (.sh dn), some (sT (sumT ts ns))]) :=
    sAsg_of (eCall_of (f := chain_sum) (ms := [some 0, some 1]) (ts := [.sh (dTs ts), .sh dn]) (S1 := [none, none, none]) rfl (chain_sum_eq hn) rfl) rfl
  have e : b_is_ring [some (.sh (dTs ts)), some (.sh dn), none] = some (.rt (tBl (ringB (sumT ts ns))) [some (.sh (dTs ts)), some (.sh dn), some (sT (sumT ts ns))]) := by
    rw [b_is_ring, sSeq_nx e1]
    exact sRet_of (ofP_of (ring_of rfl) rfl)
  unfold is_ring
  rw [mkFn_rt (np := 2) (ns := 3) (as := []) (ts := [.sh (dTs ts), .sh dn]) (S := [some (.sh (dTs ts)), some (.sh dn), none]) rfl rfl e]
  rfl
theorem isi_int (i : Int) : dIsi "int" (.int i) = some (.bl true) := by rfl
theorem isi_int_b (i : Int) : dIsi "bool" (.int i) = some (.bl false) := by rfl
theorem isi_bl (b : Bool) : dIsi "bool" (.bl b) = some (.bl true) := by rfl
theorem isi_tup (ds : List D) : dIsi "tuple" (.tup ds) = some (.bl true) := by rfl
theorem is_integer_eq (i : Int) : f_law_is_integer [tZ i] = some (tBl true, [some (tZ i)]) := by
  have e : b_f_law_is_integer [some (tZ i)] = some (.rt (tBl true) [some (tZ i)]) := by
    refine sRet_of (ofP_of (pAnd_of (a := true) ?_ (fun _ => ?_) fun z => nomatch z) rfl)
    · show dIsi "int" (.int i) = _
      rw [isi_int]
    · unfold pNot p1
      show ((dIsi "bool" (.int i)).bind _) = _
      rw [isi_int_b]
      rfl
  unfold f_law_is_integer
  rw [mkFn_rt (np := 1) (ns := 1) (as := []) (ts := [tZ i]) (S := [some (tZ i)]) rfl rfl e]
  rfl
theorem same_eq (i : Int) : f_law_same [tZ i, tZ i] = some (tBl true, [some (tZ i), some (tZ i)]) := by
  have e : b_f_law_same [some (tZ i), some (tZ i)] = some (.rt (tBl true) [some (tZ i), some (tZ i)]) := by
    refine sRet_of ?_
    unfold eAnd
    rw [eCall_of (f := f_law_is_integer) (ms := [some 0]) (ts := [tZ i]) (S := [some (tZ i), some (tZ i)]) (S1 := [none, some (tZ i)]) (ma := aMv 0 aNil) rfl (is_integer_eq i) rfl]
    show (ofP (p2 dEq (pV 0) (pV 1))) [some (tZ i), some (tZ i)] = _
    refine ofP_of (p2_of rfl rfl ?_) rfl
    show some (D.bl (i == i)) = _
    rw [beq_self_eq_true]
  unfold f_law_same
  rw [mkFn_rt (np := 2) (ns := 2) (as := []) (ts := [tZ i, tZ i]) (S := [some (tZ i), some (tZ i)]) rfl rfl e]
  rfl
theorem tells_eq (b : Bool) : f_law_tells [tBl b, tBl b] = some (tBl true, [some (tBl b), some (tBl b)]) := by
  have e : b_f_law_tells [some (tBl b), some (tBl b)] = some (.rt (tBl true) [some (tBl b), some (tBl b)]) := by
    refine sRet_of (ofP_of (pAnd_of (a := true) ?_ (fun _ => p2_of rfl rfl ?_) fun z => nomatch z) rfl)
    · show dIsi "bool" (.bl b) = _
      rw [isi_bl]
    · show some (D.bl (b == b)) = _
      rw [beq_self_eq_true]
  unfold f_law_tells
  rw [mkFn_rt (np := 2) (ns := 2) (as := []) (ts := [tBl b, tBl b]) (S := [some (tBl b), some (tBl b)]) rfl rfl e]
  rfl
end K11
namespace K11
open PySem PySem.Spec PyProof.Rows L2 VS
theorem mFor_seq {me : ME} {g : T → Sto → Option Sto} {b : MS} {S S1 : Sto} {t : T} {ds : List D} (h : me S = some (t, S1)) (h2 : items (fz t) = some ds) : mFor (iSeq' me) g b S = loopF g b ds S1 := by
  refine mFor_of ?_
  unfold iSeq'
  rw [h, Option.bind_some]
  simp only [h2, Option.map_some]
theorem eLc_of {mi : MI} {g : T → Sto → Option Sto} {tt : MT} {te : ME} {own : List Nat} {S S1 S2 : Sto} {ds : List D} {ts : List T} (h : mi S = some (ds, S1)) (h2 : lcGo g tt te own ds (wipeS S1 own) [] = some (ts, S2)) : eLc mi g tt te own S = some (.lst ts, S2) := by
  unfold eLc
  rw [h, Option.bind_some]
  simp only [h2, Option.bind_some]
theorem eC1_of {g : List D → Option D} {m : ME} {S S1 : Sto} {t : T} {d : D} (h : m S = some (t, S1)) (h2 : g [fz t] = some d) (h3 : sc d = true) : eC1 g m S = some (.sh d, S1) := by
  unfold eC1
  rw [h, Option.bind_some]
  simp only [h2]
  unfold sD
  rw [Option.bind_some, if_pos h3]
theorem tr_step {e : Tr} {j : Nat} {x : Int} (h : dIx (dT e) (.int (j : Nat)) = some (.int x)) : (eCall f_law_same [none, none] (aCons (ofP (p2 dIx (pV 0) (pV 2))) (aCons (ofP (p2 dIx (pV 1) (pV 2))) (aNil)))) [some (.sh (dT e)), some (.sh (dT e)), some (tI j)] = some (tBl true, [some (.sh (dT e)), some (.sh (dT e)), some (tI j)]) := by
  have g1 : (ofP (p2 dIx (pV 0) (pV 2))) [some (.sh (dT e)), some (.sh (dT e)), some (tI j)] = some (tZ x, [some (.sh (dT e)), some (.sh (dT e)), some (tI j)]) := ofP_of (p2_of rfl rfl h) rfl
  have g2 : (ofP (p2 dIx (pV 1) (pV 2))) [some (.sh (dT e)), some (.sh (dT e)), some (tI j)] = some (tZ x, [some (.sh (dT e)), some (.sh (dT e)), some (tI j)]) := ofP_of (p2_of rfl rfl h) rfl
  have g3 : (aCons (ofP (p2 dIx (pV 0) (pV 2))) (aCons (ofP (p2 dIx (pV 1) (pV 2))) (aNil))) [some (.sh (dT e)), some (.sh (dT e)), some (tI j)] = some ([tZ x, tZ x], [some (.sh (dT e)), some (.sh (dT e)), some (tI j)]) := aCons_of g1 (aCons_of g2 rfl)
  rw [eCall_of g3 (same_eq x) rfl]
  rfl
theorem triple_eq (o : Option Tr) : f_law_is_triple [sT o, sT o] = some (tBl true, [some (sT o), some (sT o)]) := by
  cases o with
  | none => rfl
  | some e =>
    have q1 : (ofB (pB (p2 dIsN (pV 1) (pC .non)))) [some (.sh (dT e)), some (.sh (dT e)), none] = some (false, [some (.sh (dT e)), some (.sh (dT e)), none]) := ofB_of (pB_of (p2_of rfl rfl rfl))
    have q2 : (ofB (bOr (bNot (pB (p1 (dIsi "tuple") (pV 0)))) (pB (p2 dNe (pCall dLen (paCons (pV 0) ((fun _ => some [])))) (pC (.int 3)))))) [some (.sh (dT e)), some (.sh (dT e)), none] = some (false, [some (.sh (dT e)), some (.sh (dT e)), none]) := by
      have g1 : (pB (p1 (dIsi "tuple") (pV 0))) [some (.sh (dT e)), some (.sh (dT e)), none] = some true := pB_of (by show dIsi "tuple" (dT e) = _; rw [isi_tup])
      have g2 : (pB (p2 dNe (pCall dLen (paCons (pV 0) ((fun _ => some [])))) (pC (.int 3)))) [some (.sh (dT e)), some (.sh (dT e)), none] = some false := pB_of (p2_of (pc1_of rfl rfl) rfl rfl)
      refine ofB_of ?_
      unfold bOr bNot
      rw [g1, g2]
      rfl
    have c0 := tr_step (e := e) (j := 0) rfl
    have c1 := tr_step (e := e) (j := 1) rfl
    have c2 := tr_step (e := e) (j := 2) rfl
    have ei : (iRng1' (paCons (pC (.int 3)) ((fun _ => some [])))) [some (.sh (dT e)), some (.sh (dT e)), none] = some ([.int 0, .int 1, .int 2], [some (.sh (dT e)), some (.sh (dT e)), none]) := iRng1_of (n := 3) rfl (by decide)
    have lc : lcGo (putS 2) qYes (eCall f_law_same [none, none] (aCons (ofP (p2 dIx (pV 0) (pV 2))) (aCons (ofP (p2 dIx (pV 1) (pV 2))) (aNil)))) [2] [.int 0, .int 1, .int 2] [some (.sh (dT e)), some (.sh (dT e)), none] [] = some ([tBl true, tBl true, tBl true], [some (.sh (dT e)), some (.sh (dT e)), none]) := by
      rw [lc_step (S1 := [some (.sh (dT e)), some (.sh (dT e)), some (tI 0)]) rfl rfl c0 (by rw [sizeLine_val]; decide)]
      refine (lc_step (S1 := [some (.sh (dT e)), some (.sh (dT e)), some (tI 1)]) rfl rfl c1 (by rw [sizeLine_val]; decide)).trans ?_
      refine (lc_step (S1 := [some (.sh (dT e)), some (.sh (dT e)), some (tI 2)]) rfl rfl c2 (by rw [sizeLine_val]; decide)).trans ?_
      rfl
    have e3 : b_f_law_is_triple [some (.sh (dT e)), some (.sh (dT e)), none] = some (.rt (tBl true) [some (.sh (dT e)), some (.sh (dT e)), none]) := by
      rw [b_f_law_is_triple, sq_no q1, sq_no q2]
      exact sRet_of (eC1_of (eLc_of ei lc) rfl rfl)
    unfold f_law_is_triple
    rw [mkFn_rt (np := 2) (ns := 3) (as := []) (ts := [sT (some e), sT (some e)]) (S := [some (.sh (dT e)), some (.sh (dT e)), none]) rfl rfl e3]
    rfl
/-! ### kept differences -/
/-- the place i of 0 and the values -/
def lv (vs : List Int) (i : Int) : Int := (0 :: vs).getD i.toNat 0
def Nd (m : Nat) (e : Tr) : Prop := 0 ≤ e.1 ∧ e.1 ≤ m ∧ 0 ≤ e.2.1 ∧ e.2.1 ≤ m
def keep1 (vs : List Int) (e : Tr) : Bool := decide (lv vs e.1 - lv vs e.2.1 ≤ e.2.2)
theorem dIx_lv {vs : List Int} {i : Int} (h0 : 0 ≤ i) (h1 : i ≤ vs.length) : dIx (.lst ((0 :: vs).map .int)) (.int i) = some (.int (lv vs i)) := by
  obtain ⟨m, rfl⟩ := Int.eq_ofNat_of_zero_le h0
  have hm : m < (0 :: vs).length := by rw [List.length_cons]; omega
  rw [dIx_ints hm]
  unfold lv
  rw [Int.toNat_natCast, List.getD_eq_getElem?_getD, List.getElem?_eq_getElem hm]
  rfl
theorem gTup3 {e : Tr} {S S1 S2 S3 : Sto} {a b c : Nat} (h1 : putS a (tZ e.1) S = some S1) (h2 : putS b (tZ e.2.1) S1 = some S2) (h3 : putS c (tZ e.2.2) S2 = some S3) : gTupS 3 (gsCons (putS a) (gsCons (putS b) (gsCons (putS c) gsNil))) (.sh (dT e)) S = some S3 := by
  unfold gTupS
  rw [show kidsTu (.sh (dT e)) = some [tZ e.1, tZ e.2.1, tZ e.2.2] from rfl, Option.bind_some]
  refine (if_pos (show ([tZ e.1, tZ e.2.1, tZ e.2.2] : List T).length = 3 from rfl)).trans ?_
  show ((putS a (tZ e.1) S).bind _) = _
  rw [h1, Option.bind_some]
  show ((putS b (tZ e.2.1) S1).bind _) = _
  rw [h2, Option.bind_some]
  show ((putS c (tZ e.2.2) S2).bind _) = _
  rw [h3, Option.bind_some]
  rfl
abbrev gUvc : T → Sto → Option Sto := gTupS 3 (gsCons (putS 3) (gsCons (putS 4) (gsCons (putS 5) (gsNil))))
abbrev kpS (d0 d1 : T) (vs : List Int) (o3 o4 o5 : Option T) : Sto := [some d0, some d1, some (.lst ((0 :: vs).map tZ)), o3, o4, o5]
theorem gUvc_eq {d0 d1 : T} {vs : List Int} {o3 o4 o5 : Option T} (e : Tr) : gUvc (.sh (dT e)) (kpS d0 d1 vs o3 o4 o5) = some (kpS d0 d1 vs (some (tZ e.1)) (some (tZ e.2.1)) (some (tZ e.2.2))) := gTup3 rfl rfl rfl
theorem kp_diff {d0 d1 : T} {vs : List Int} {e : Tr} (h : Nd vs.length e) : (p2 dSub (p2 dIx (pV 2) (pV 3)) (p2 dIx (pV 2) (pV 4))) (kpS d0 d1 vs (some (tZ e.1)) (some (tZ e.2.1)) (some (tZ e.2.2))) = some (.int (lv vs e.1 - lv vs e.2.1)) := by
  have f : fz (.lst ((0 :: vs).map tZ)) = .lst ((0 :: vs).map .int) := fz_lst_tZ (0 :: vs)
  exact p2_of (p2_of (x := .lst ((0 :: vs).map .int)) (congrArg some f) rfl (dIx_lv h.1 h.2.1)) (p2_of (x := .lst ((0 :: vs).map .int)) (congrArg some f) rfl (dIx_lv h.2.2.1 h.2.2.2)) rfl
abbrev kaB : MS := (sIf (ofB (pB (p2 dGt (p2 dSub (p2 dIx (pV 2) (pV 3)) (p2 dIx (pV 2) (pV 4))) (pV 5)))) (sRet (ofP (pC (.bl false)))) (sNext))
theorem ka_loop {d0 d1 : T} {vs : List Int} : ∀ (ts : List Tr) (o3 o4 o5 : Option T), (∀ e ∈ ts, Nd vs.length e) →
    (ts.all (keep1 vs) = true → ∃ b3 b4 b5, loopF gUvc kaB (ts.map dT) (kpS d0 d1 vs o3 o4 o5) = some (.nx (kpS d0 d1 vs b3 b4 b5))) ∧
    (ts.all (keep1 vs) = false → ∃ b3 b4 b5, loopF gUvc kaB (ts.map dT) (kpS d0 d1 vs o3 o4 o5) = some (.rt (tBl false) (kpS d0 d1 vs b3 b4 b5)))
  | [], o3, o4, o5, _ => ⟨fun _ => ⟨o3, o4, o5, rfl⟩, fun z => nomatch z⟩
  | e :: ts, o3, o4, o5, h => by
    have q : (ofB (pB (p2 dGt (p2 dSub (p2 dIx (pV 2) (pV 3)) (p2 dIx (pV 2) (pV 4))) (pV 5)))) (kpS d0 d1 vs (some (tZ e.1)) (some (tZ e.2.1)) (some (tZ e.2.2))) = some (decide (e.2.2 < lv vs e.1 - lv vs e.2.1), kpS d0 d1 vs (some (tZ e.1)) (some (tZ e.2.1)) (some (tZ e.2.2))) :=
      ofB_of (pB_of (p2_of (kp_diff (h e List.mem_cons_self)) rfl rfl))
    rw [List.all_cons]
    by_cases k : lv vs e.1 - lv vs e.2.1 ≤ e.2.2
    · rw [decide_eq_false (by omega)] at q
      have k1 : keep1 vs e = true := decide_eq_true k
      rw [k1, Bool.true_and]
      have e2 : loopF gUvc kaB ((e :: ts).map dT) (kpS d0 d1 vs o3 o4 o5) = loopF gUvc kaB (ts.map dT) (kpS d0 d1 vs (some (tZ e.1)) (some (tZ e.2.1)) (some (tZ e.2.2))) :=
        loop_nx (gUvc_eq e) (by rw [kaB, sIf_f q]; rfl)
      rw [e2]
      exact ka_loop ts _ _ _ fun x hx => h x (List.mem_cons_of_mem _ hx)
    · rw [decide_eq_true (by omega)] at q
      have k1 : keep1 vs e = false := decide_eq_false k
      rw [k1, Bool.false_and]
      refine ⟨fun z => (nomatch z), fun _ => ⟨some (tZ e.1), some (tZ e.2.1), some (tZ e.2.2), ?_⟩⟩
      exact loop_rt (gUvc_eq e) (by rw [kaB, sIf_t q]; rfl)
theorem addT_of {x y : T} {xs ys : List T} (hx : kidsL x = some xs) (hy : kidsL y = some ys) (h : xs.length + ys.length ≤ sizeLine) : addT x y = some (.lst (xs ++ ys)) := by
  unfold addT
  rw [hx, hy]
  exact if_pos h
theorem addT0 {t : T} {vs : List Int} (h : kidsL t = some (vs.map tZ)) (hl : vs.length ≤ 1000000) : addT (.lst [tI 0]) t = some (.lst ((0 :: vs).map tZ)) := by
  exact addT_of (xs := [tI 0]) rfl h (by rw [List.length_map, sizeLine_val, List.length_singleton]; omega)
theorem kidsL_ints (vs : List Int) : kidsL (.sh (.lst (vs.map .int))) = some (vs.map tZ) := by
  show some ((vs.map D.int).map T.sh) = _
  rw [List.map_map]
  rfl
theorem keeps_all_eq {ts : List Tr} {d0 d1 : T} {vs : List Int} (h0 : fz d0 = dTs ts) (h1 : fz d1 = .lst (vs.map .int)) (hl : vs.length ≤ 1000000) (h : ∀ e ∈ ts, Nd vs.length e) : keeps_all [d0, d1] = some (tBl (ts.all (keep1 vs)), [some (.sh (dTs ts)), some (.sh (.lst (vs.map .int)))]) := by
  have e1 : (sAsg (e2T addT (eLst (aCons (ofP (pC (.int 0))) (aNil))) (eList (aCons (eVar 1) (aNil)))) (putS 2)) [some d0, some d1, none, none, none, none] = some (.nx (kpS d0 (.sh (.lst (vs.map .int))) vs none none none)) := by
    have g1 : (eLst (aCons (ofP (pC (.int 0))) (aNil))) [some d0, some d1, none, none, none, none] = some (.lst [tI 0], [some d0, some d1, none, none, none, none]) := rfl
    have g2 : eVar 1 [some d0, some d1, none, none, none, none] = some (.sh (fz d1), [some d0, some (.sh (fz d1)), none, none, none, none]) := eVar_of rfl
    have g3 : (eList (aCons (eVar 1) (aNil))) [some d0, some d1, none, none, none, none] = some (.lst ((vs.map D.int).map .sh), [some d0, some (.sh (.lst (vs.map .int))), none, none, none, none]) := by
      unfold eList
      rw [aCons_of (r := aNil) g2 rfl, Option.bind_some, h1]
      rfl
    refine sAsg_of (t := .lst ((0 :: vs).map tZ)) (S1 := [some d0, some (.sh (.lst (vs.map .int))), none, none, none, none]) (e2T_of g1 g3 (addT0 ?_ hl)) rfl
    show some ((vs.map D.int).map T.sh) = _
    rw [List.map_map]
    rfl
  have wk : mFor (iSeq' (eVar 0)) gUvc kaB (kpS d0 (.sh (.lst (vs.map .int))) vs none none none) = loopF gUvc kaB (ts.map dT) (kpS (.sh (dTs ts)) (.sh (.lst (vs.map .int))) vs none none none) := by
    refine mFor_seq (t := .sh (fz d0)) ?_ ?_
    · rw [eVar_of (t := d0) rfl, h0]
      rfl
    · rw [fz_sh, h0]
      rfl
  obtain ⟨a1, a2⟩ := ka_loop (d0 := .sh (dTs ts)) (d1 := .sh (.lst (vs.map .int))) (vs := vs) ts none none none h
  unfold keeps_all
  cases hb : ts.all (keep1 vs) with
  | true =>
    obtain ⟨b3, b4, b5, e⟩ := a1 hb
    have e2 : b_keeps_all [some d0, some d1, none, none, none, none] = some (.rt (tBl true) (kpS (.sh (dTs ts)) (.sh (.lst (vs.map .int))) vs b3 b4 b5)) := by
      rw [b_keeps_all, sSeq_nx e1, sSeq_nx (wk.trans e)]
      rfl
    rw [mkFn_rt (np := 2) (ns := 6) (as := []) (ts := [d0, d1]) (S := [some d0, some d1, none, none, none, none]) rfl rfl e2]
    rfl
  | false =>
    obtain ⟨b3, b4, b5, e⟩ := a2 hb
    have e2 : b_keeps_all [some d0, some d1, none, none, none, none] = some (.rt (tBl false) (kpS (.sh (dTs ts)) (.sh (.lst (vs.map .int))) vs b3 b4 b5)) := by
      rw [b_keeps_all, sSeq_nx e1, sSeq_rt (wk.trans e)]
    rw [mkFn_rt (np := 2) (ns := 6) (as := []) (ts := [d0, d1]) (S := [some d0, some d1, none, none, none, none]) rfl rfl e2]
    rfl
end K11
namespace K11
open PySem PySem.Spec PyProof.Rows L2 VS
theorem blsD_map : ∀ bs : List Bool, blsD (bs.map D.bl) = some bs
  | [] => rfl
  | b :: bs => by
    show (blsD (bs.map D.bl)).map (b :: ·) = _
    rw [blsD_map bs]
    rfl
theorem intsD_map : ∀ bs : List Int, intsD (bs.map D.int) = some bs
  | [] => rfl
  | b :: bs => by
    show (intsD (bs.map D.int)).map (b :: ·) = _
    rw [intsD_map bs]
    rfl
theorem fz_bls (bs : List Bool) : fz (.lst (bs.map tBl)) = .lst (bs.map .bl) := by
  rw [fz_lst, List.map_map]
  rfl
abbrev lkE : ME := (ofP (p2 dLe (p2 dSub (p2 dIx (pV 2) (pV 3)) (p2 dIx (pV 2) (pV 4))) (pV 5)))
theorem lk_go {d0 d1 : T} {vs : List Int} : ∀ (ts : List Tr) (acc : List Bool), (∀ e ∈ ts, Nd vs.length e) → acc.length + ts.length ≤ 16777215 →
    lcGo gUvc qYes lkE [3, 4, 5] (ts.map dT) (kpS d0 d1 vs none none none) (acc.map tBl) = some ((acc ++ ts.map (keep1 vs)).map tBl, kpS d0 d1 vs none none none)
  | [], acc, _, _ => by rw [List.map_nil, List.map_nil, List.append_nil]; rfl
  | e :: ts, acc, h, hl => by
    rw [List.length_cons] at hl
    have g : lkE (kpS d0 d1 vs (some (tZ e.1)) (some (tZ e.2.1)) (some (tZ e.2.2))) = some (tBl (keep1 vs e), kpS d0 d1 vs (some (tZ e.1)) (some (tZ e.2.1)) (some (tZ e.2.2))) :=
      ofP_of (p2_of (kp_diff (h e List.mem_cons_self)) rfl rfl) rfl
    have ih := lk_go (d0 := d0) (d1 := d1) ts (acc ++ [keep1 vs e]) (fun x hx => h x (List.mem_cons_of_mem _ hx)) (by rw [List.length_append, List.length_singleton]; omega)
    rw [List.map_cons, lc_step (gUvc_eq e) rfl g (by rw [List.length_map, sizeLine_val]; omega)]
    rw [show (acc ++ [keep1 vs e]).map tBl = acc.map tBl ++ [tBl (keep1 vs e)] by rw [List.map_append]; rfl] at ih
    refine Eq.trans ?_ (ih.trans ?_)
    · rfl
    · rw [List.append_assoc]
      rfl
theorem law_kept_eq {ts : List Tr} {d0 d1 : T} {vs : List Int} (h0 : fz d0 = dTs ts) (h1 : fz d1 = .lst (vs.map .int)) (hl : vs.length ≤ 1000000) (ht : ts.length ≤ 1000000) (h : ∀ e ∈ ts, Nd vs.length e) : f_law_kept [d0, d1] = some (tBl (ts.all (keep1 vs)), [some (.sh (dTs ts)), some (.sh (.lst (vs.map .int)))]) := by
  have e1 : (sAsg (e2T addT (eLst (aCons (ofP (pC (.int 0))) (aNil))) (eVar 1)) (putS 2)) [some d0, some d1, none, none, none, none] = some (.nx (kpS d0 (.sh (.lst (vs.map .int))) vs none none none)) := by
    have g1 : (eLst (aCons (ofP (pC (.int 0))) (aNil))) [some d0, some d1, none, none, none, none] = some (.lst [tI 0], [some d0, some d1, none, none, none, none]) := rfl
    have g2 : eVar 1 [some d0, some d1, none, none, none, none] = some (.sh (.lst (vs.map .int)), [some d0, some (.sh (.lst (vs.map .int))), none, none, none, none]) := by
      rw [eVar_of (t := d1) rfl, h1]
      rfl
    exact sAsg_of (t := .lst ((0 :: vs).map tZ)) (S1 := [some d0, some (.sh (.lst (vs.map .int))), none, none, none, none]) (e2T_of g1 g2 (addT0 (kidsL_ints vs) hl)) rfl
  have ei : (iSeq' (eVar 0)) (kpS d0 (.sh (.lst (vs.map .int))) vs none none none) = some (ts.map dT, kpS (.sh (dTs ts)) (.sh (.lst (vs.map .int))) vs none none none) := by
    unfold iSeq'
    rw [eVar_of (t := d0) rfl, Option.bind_some]
    simp only [fz_sh, h0]
    rfl
  have go := lk_go (d0 := .sh (dTs ts)) (d1 := .sh (.lst (vs.map .int))) (vs := vs) ts [] h (by simp; omega)
  have el := eLc_of (own := [3, 4, 5]) ei go
  have e2 : b_f_law_kept [some d0, some d1, none, none, none, none] = some (.rt (tBl (ts.all (keep1 vs))) (kpS (.sh (dTs ts)) (.sh (.lst (vs.map .int))) vs none none none)) := by
    rw [b_f_law_kept, sSeq_nx e1]
    refine sRet_of (eC1_of el ?_ rfl)
    rw [fz_bls, List.nil_append]
    show (blsD ((ts.map (keep1 vs)).map D.bl)).map _ = _
    rw [blsD_map, Option.map_some, List.all_map]
    rfl
  unfold f_law_kept
  rw [mkFn_rt (np := 2) (ns := 6) (as := []) (ts := [d0, d1]) (S := [some d0, some d1, none, none, none, none]) rfl rfl e2]
  rfl
/-! ### weights -/
def WOk (w : Int) : Prop := -10000000000000000000000000000000000000000 < w ∧ w < 10000000000000000000000000000000000000000
theorem pw39 : dPow (.int 10) (.int 39) = some (.int 1000000000000000000000000000000000000000) := by kernel_rfl
theorem pw20 : dPow (.int 10) (.int 20) = some (.int 100000000000000000000) := by kernel_rfl
theorem pw10 : dPow (.int 10) (.int 10) = some (.int 10000000000) := by kernel_rfl
theorem pw42 : dPow (.int 10) (.int 42) = some (.int 1000000000000000000000000000000000000000000) := by kernel_rfl
theorem weight_eq {x : Int} : ∃ w, WOk w ∧ f_law_weight [tZ x] = some (tZ w, [some (tZ x)]) := by
  have n1 : (sAsg (ofP (p2 dMod (pCall dInt (paCons (pV 0) ((fun _ => some [])))) (pC (.int 16)))) (putS 1)) [some (tZ x), none, none] = some (.nx [some (tZ x), some (tZ (x.fmod 16)), none]) :=
    sAsg_of (ofP_of (p2_of (pc1_of rfl rfl) rfl (dMod_of (by omega))) rfl) rfl
  have n2 : (sAsg (ofP (p2 dDiv (pV 0) (pC (.int 16)))) (putS 2)) [some (tZ x), some (tZ (x.fmod 16)), none] = some (.nx [some (tZ x), some (tZ (x.fmod 16)), some (tZ (x.fdiv 16))]) :=
    sAsg_of (ofP_of (p2_of rfl rfl (dDiv_of (by omega) (by decide +kernel))) rfl) rfl
  generalize x.fmod 16 = kd at n1 n2
  generalize x.fdiv 16 = r at n2
  have fin : ∀ {w : Int}, WOk w → b_f_law_weight [some (tZ x), none, none] = some (.rt (tZ w) [some (tZ x), some (tZ kd), some (tZ r)]) → ∃ w, WOk w ∧ f_law_weight [tZ x] = some (tZ w, [some (tZ x)]) := fun {w} h e => by
    refine ⟨w, h, ?_⟩
    unfold f_law_weight
    rw [mkFn_rt (np := 1) (ns := 3) (as := []) (ts := [tZ x]) (S := [some (tZ x), none, none]) rfl rfl e]
    rfl
  have t0 : (ofB (pB (p2 dEq (pV 1) (pC (.int 0))))) [some (tZ x), some (tZ kd), some (tZ r)] = some (kd == 0, [some (tZ x), some (tZ kd), some (tZ r)]) := ofB_of (pB_of (p2_of rfl rfl rfl))
  have t1 : (ofB (pB (p2 dEq (pV 1) (pC (.int 1))))) [some (tZ x), some (tZ kd), some (tZ r)] = some (kd == 1, [some (tZ x), some (tZ kd), some (tZ r)]) := ofB_of (pB_of (p2_of rfl rfl rfl))
  have s0 := fm_lo r (b := 2) (by omega)
  have s1 := fm_hi r (b := 2) (by omega)
  have sg : (p2 dSub (pC (.int 1)) (p2 dMul (pC (.int 2)) (p2 dMod (pCall dInt (paCons (pV 2) ((fun _ => some [])))) (pC (.int 2))))) [some (tZ x), some (tZ kd), some (tZ r)] = some (.int (1 - 2 * r.fmod 2)) :=
    p2_of rfl (p2_of rfl (p2_of (pc1_of rfl rfl) rfl (dMod_of (by omega))) (dMul_l (small_of (by omega) (by omega)))) rfl
  have ssg : VS.small64 (1 - 2 * r.fmod 2) = true := by
    unfold VS.small64
    exact decide_eq_true (by omega)
  by_cases k0 : kd = 0
  · rw [show (kd == 0) = true by rw [k0]; rfl] at t0
    have a0 := fm_lo r (b := 100000000000000000000) (by omega)
    have a1 := fm_hi r (b := 100000000000000000000) (by omega)
    have e : (ofP (p2 dMul (p2 dSub (pC (.int 1)) (p2 dMul (pC (.int 2)) (p2 dMod (pCall dInt (paCons (pV 2) ((fun _ => some [])))) (pC (.int 2))))) (p2 dAdd (p2 dPow (pC (.int 10)) (pC (.int 39))) (p2 dMod (pCall dInt (paCons (pV 2) ((fun _ => some [])))) (p2 dPow (pC (.int 10)) (pC (.int 20))))))) [some (tZ x), some (tZ kd), some (tZ r)] = some (tZ ((1 - 2 * r.fmod 2) * (1000000000000000000000000000000000000000 + r.fmod 100000000000000000000)), [some (tZ x), some (tZ kd), some (tZ r)]) :=
      ofP_of (p2_of sg (p2_of (p2_of rfl rfl pw39) (p2_of (pc1_of rfl rfl) (p2_of rfl rfl pw20) (dMod_of (by omega))) dAdd_ii) (dMul_l ssg)) rfl
    refine fin (w := (1 - 2 * r.fmod 2) * (1000000000000000000000000000000000000000 + r.fmod 100000000000000000000)) ?_ ?_
    · generalize r.fmod 100000000000000000000 = q at a0 a1 ⊢
      unfold WOk
      rcases (show r.fmod 2 = 0 ∨ r.fmod 2 = 1 by omega) with h | h <;> rw [h] <;> omega
    · rw [b_f_law_weight, sSeq_nx n1, sSeq_nx n2]
      exact sq_yes t0 (sRet_of e)
  · rw [show (kd == 0) = false from beq_false_of_ne k0] at t0
    by_cases k1 : kd = 1
    · rw [show (kd == 1) = true by rw [k1]; rfl] at t1
      have a0 := fm_lo (r.fdiv 2) (b := 10000000000) (by omega)
      have a1 := fm_hi (r.fdiv 2) (b := 10000000000) (by omega)
      have e : (ofP (p2 dMul (p2 dSub (pC (.int 1)) (p2 dMul (pC (.int 2)) (p2 dMod (pCall dInt (paCons (pV 2) ((fun _ => some [])))) (pC (.int 2))))) (p2 dMod (pCall dInt (paCons (p2 dDiv (pV 2) (pC (.int 2))) ((fun _ => some [])))) (p2 dPow (pC (.int 10)) (pC (.int 10)))))) [some (tZ x), some (tZ kd), some (tZ r)] = some (tZ ((1 - 2 * r.fmod 2) * (r.fdiv 2).fmod 10000000000), [some (tZ x), some (tZ kd), some (tZ r)]) :=
        ofP_of (p2_of sg (p2_of (pc1_of (p2_of rfl rfl (dDiv_of (by omega) (by decide +kernel))) rfl) (p2_of rfl rfl pw10) (dMod_of (by omega))) (dMul_l ssg)) rfl
      refine fin (w := (1 - 2 * r.fmod 2) * (r.fdiv 2).fmod 10000000000) ?_ ?_
      · generalize (r.fdiv 2).fmod 10000000000 = q at a0 a1 ⊢
        unfold WOk
        rcases (show r.fmod 2 = 0 ∨ r.fmod 2 = 1 by omega) with h | h <;> rw [h] <;> omega
      · rw [b_f_law_weight, sSeq_nx n1, sSeq_nx n2, sq_no t0]
        exact sq_yes t1 (sRet_of e)
    · rw [show (kd == 1) = false from beq_false_of_ne k1] at t1
      have a0 := fm_lo r (b := 13) (by omega)
      have a1 := fm_hi r (b := 13) (by omega)
      refine fin (w := r.fmod 13 - 6) ?_ ?_
      · unfold WOk
        omega
      · rw [b_f_law_weight, sSeq_nx n1, sSeq_nx n2, sq_no t0, sq_no t1]
        exact sRet_of (ofP_of (p2_of (p2_of (pc1_of rfl rfl) rfl (dMod_of (by omega))) rfl rfl) rfl)
end K11
namespace K11
open PySem PySem.Spec PyProof.Rows L2 VS
/-- a comprehension of numbers over a range -/
theorem lc_rng {g : T → Sto → Option Sto} {te : ME} {own : List Nat} {S : Sto} {S' : Nat → Sto} {f : Nat → Int} (h1 : ∀ k : Nat, g (tI k) S = some (S' k)) (h2 : ∀ k : Nat, te (S' k) = some (tZ (f k), S' k)) (h3 : ∀ k : Nat, wipeS (S' k) own = S) :
    ∀ (n k : Nat) (acc : List Int), acc.length + n ≤ 16777215 → lcGo g qYes te own (rngD (k : Nat) n) S (acc.map tZ) = some ((acc ++ (List.range' k n).map f).map tZ, S)
  | 0, k, acc, _ => by rw [List.range'_zero, List.map_nil, List.append_nil]; rfl
  | n + 1, k, acc, h => by
    have ih := lc_rng h1 h2 h3 n (k + 1) (acc ++ [f k]) (by rw [List.length_append, List.length_singleton]; omega)
    rw [rng_cons, lc_step (h1 k) rfl (h2 k) (by rw [List.length_map, sizeLine_val]; omega), h3 k, List.range'_succ, List.map_cons]
    rw [show (acc ++ [f k]).map tZ = acc.map tZ ++ [tZ (f k)] by rw [List.map_append]; rfl] at ih
    refine ih.trans ?_
    rw [List.append_assoc]
    rfl
theorem eLc_rng {mi : MI} {g : T → Sto → Option Sto} {te : ME} {own : List Nat} {S0 S : Sto} {S' : Nat → Sto} {f : Nat → Int} {n : Nat} (hm : mi S0 = some (rngD 0 n, S0)) (hw : wipeS S0 own = S) (hn : n ≤ 1000000) (h1 : ∀ k : Nat, g (tI k) S = some (S' k)) (h2 : ∀ k : Nat, te (S' k) = some (tZ (f k), S' k)) (h3 : ∀ k : Nat, wipeS (S' k) own = S) :
    eLc mi g qYes te own S0 = some (.lst (((List.range n).map f).map tZ), S) := by
  have e := lc_rng h1 h2 h3 n 0 [] (by simp; omega)
  rw [List.nil_append, ← List.range_eq_range'] at e
  refine eLc_of hm ?_
  rw [hw]
  exact e
theorem pIf_of {t : MB} {p q : MP} {S : Sto} {b : Bool} {x y : D} (h : t S = some b) (h1 : p S = some x) (h2 : q S = some y) : pIf t p q S = some (if b = true then x else y) := by
  unfold pIf
  rw [h, Option.bind_some]
  cases b with
  | true => rw [if_pos rfl, if_pos rfl, h1]
  | false => rw [if_neg (by decide), if_neg (by decide), h2]
/-- the sizes of drawn differences -/
def szF (many : Nat) (k : Nat) : Int := if k % 3 = 2 then 1000000000000000000000000000000000000000000 else (many : Int) + 1
theorem sz_big : (1000000000000000000000000000000000000000000 : Int).natAbs.log2 < 9000 := by decide +kernel
theorem log2_small {n : Nat} (h : n < 2 ^ 64) : n.log2 < 9000 := by
  rcases Nat.eq_zero_or_pos n with rfl | hp
  · decide +kernel
  · exact Nat.lt_of_lt_of_le ((Nat.log2_lt (Nat.pos_iff_ne_zero.mp hp)).mpr h) (by decide)
theorem szF_ok (many n : Nat) (hm : many ≤ 1000000) : SzOk ((List.range n).map (szF many)) := by
  intro z hz
  obtain ⟨k, _, rfl⟩ := List.mem_map.mp hz
  unfold szF
  split
  · exact ⟨by omega, sz_big⟩
  · refine ⟨by omega, log2_small ?_⟩
    have : ((many : Int) + 1).natAbs = many + 1 := by omega
    rw [this]
    have : (2 : Nat) ^ 64 = 18446744073709551616 := by decide
    omega
abbrev ldS (sc : T) (pl ct mn : Nat) (o4 o5 o6 : Option T) : Sto := [some sc, some (tI pl), some (tI ct), some (tI mn), o4, o5, o6]
abbrev ldE : ME := (ofP (pIf (pB (p2 dEq (p2 dMod (pV 5) (pC (.int 3))) (pC (.int 2)))) (p2 dPow (pC (.int 10)) (pC (.int 42))) (p2 dAdd (pV 3) (pC (.int 1)))))
theorem ldE_eq {sc : T} {pl ct mn : Nat} {o4 o6 : Option T} (k : Nat) : ldE (ldS sc pl ct mn o4 (some (tI k)) o6) = some (tZ (szF mn k), ldS sc pl ct mn o4 (some (tI k)) o6) := by
  have h1 : (pB (p2 dEq (p2 dMod (pV 5) (pC (.int 3))) (pC (.int 2)))) (ldS sc pl ct mn o4 (some (tI k)) o6) = some (((k % 3 : Nat) : Int) == 2) :=
    pB_of (p2_of (p2_of rfl rfl (dMod_nat (n := 3) (by decide))) rfl rfl)
  have hp : (p2 dPow (pC (.int 10)) (pC (.int 42))) (ldS sc pl ct mn o4 (some (tI k)) o6) = some (.int 1000000000000000000000000000000000000000000) := p2_of rfl rfl pw42
  have hq : (p2 dAdd (pV 3) (pC (.int 1))) (ldS sc pl ct mn o4 (some (tI k)) o6) = some (.int ((mn : Int) + 1)) := p2_of rfl rfl rfl
  have e := pIf_of h1 hp hq
  refine ofP_of (e.trans ?_) rfl
  unfold szF
  by_cases h : k % 3 = 2
  · rw [if_pos h, if_pos (by rw [h]; rfl)]
  · rw [if_neg h, if_neg]
    rw [beq_iff_eq]
    omega
theorem mkTup3 (a b c : Int) : mkTup [tZ a, tZ b, tZ c] = .sh (dT (a, b, c)) := rfl
abbrev ldB : MS := (sApp 4 (eTup (aCons (ofP (p2 dIx (pV 6) (p2 dMul (pC (.int 3)) (pV 5)))) (aCons (ofP (p2 dIx (pV 6) (p2 dAdd (p2 dMul (pC (.int 3)) (pV 5)) (pC (.int 1))))) (aCons (eFz (eCall f_law_weight [none] (aCons (ofP (p2 dIx (pV 6) (p2 dAdd (p2 dMul (pC (.int 3)) (pV 5)) (pC (.int 2))))) (aNil)))) (aNil))))))
abbrev trT (e : Tr) : T := .sh (dT e)
theorem ld_loop {sc : T} {pl ct mn : Nat} {ds : List Int} (hd : ds.length = 3 * ct) (hc : ct ≤ 1000) (hb : ∀ (i : Nat) (a : Int), ds[i]? = some a → i % 3 ≠ 2 → 0 ≤ a ∧ a ≤ mn) : ∀ (n k : Nat) (ts : List Tr) (o5 : Option T), k + n = ct → ts.length = k → (∀ e ∈ ts, Nd mn e ∧ WOk e.2.2) →
    ∃ (ts' : List Tr) (b5 : Option T), ts'.length = ct ∧ (∀ e ∈ ts', Nd mn e ∧ WOk e.2.2) ∧ loopF (putS 5) ldB (rngD (k : Nat) n) (ldS sc pl ct mn (some (.lst (ts.map trT))) o5 (some (.lst (ds.map tZ)))) = some (.nx (ldS sc pl ct mn (some (.lst (ts'.map trT))) b5 (some (.lst (ds.map tZ)))))
  | 0, k, ts, o5, h, ht, hp => ⟨ts, o5, by omega, hp, rfl⟩
  | n + 1, k, ts, o5, h, ht, hp => by
    have i0 : 3 * k < ds.length := by omega
    have i1 : 3 * k + 1 < ds.length := by omega
    have i2 : 3 * k + 2 < ds.length := by omega
    obtain ⟨w, hw, ew⟩ := weight_eq (x := ds[3 * k + 2])
    have f : fz (.lst (ds.map tZ)) = .lst (ds.map .int) := fz_lst_tZ ds
    have m3 : (p2 dMul (pC (.int 3)) (pV 5)) (ldS sc pl ct mn (some (.lst (ts.map trT))) (some (tI k)) (some (.lst (ds.map tZ)))) = some (.int ((3 * k : Nat) : Int)) := by
      refine p2_of rfl rfl ((dMul_l (small_of (by omega) (by omega))).trans ?_)
      congr 2
    have g0 : (ofP (p2 dIx (pV 6) (p2 dMul (pC (.int 3)) (pV 5)))) (ldS sc pl ct mn (some (.lst (ts.map trT))) (some (tI k)) (some (.lst (ds.map tZ)))) = some (tZ ds[3 * k], ldS sc pl ct mn (some (.lst (ts.map trT))) (some (tI k)) (some (.lst (ds.map tZ)))) :=
      ofP_of (p2_of (x := .lst (ds.map .int)) (congrArg some f) m3 (dIx_ints i0)) rfl
    have g1 : (ofP (p2 dIx (pV 6) (p2 dAdd (p2 dMul (pC (.int 3)) (pV 5)) (pC (.int 1))))) (ldS sc pl ct mn (some (.lst (ts.map trT))) (some (tI k)) (some (.lst (ds.map tZ)))) = some (tZ ds[3 * k + 1], ldS sc pl ct mn (some (.lst (ts.map trT))) (some (tI k)) (some (.lst (ds.map tZ)))) :=
      ofP_of (p2_of (x := .lst (ds.map .int)) (congrArg some f) (p2_of m3 rfl rfl) (dIx_ints i1)) rfl
    have g2 : (ofP (p2 dIx (pV 6) (p2 dAdd (p2 dMul (pC (.int 3)) (pV 5)) (pC (.int 2))))) (ldS sc pl ct mn (some (.lst (ts.map trT))) (some (tI k)) (some (.lst (ds.map tZ)))) = some (tZ ds[3 * k + 2], ldS sc pl ct mn (some (.lst (ts.map trT))) (some (tI k)) (some (.lst (ds.map tZ)))) :=
      ofP_of (p2_of (x := .lst (ds.map .int)) (congrArg some f) (p2_of m3 rfl rfl) (dIx_ints i2)) rfl
    have g3 : (eFz (eCall f_law_weight [none] (aCons (ofP (p2 dIx (pV 6) (p2 dAdd (p2 dMul (pC (.int 3)) (pV 5)) (pC (.int 2))))) (aNil)))) (ldS sc pl ct mn (some (.lst (ts.map trT))) (some (tI k)) (some (.lst (ds.map tZ)))) = some (tZ w, ldS sc pl ct mn (some (.lst (ts.map trT))) (some (tI k)) (some (.lst (ds.map tZ)))) :=
      eFz_of (t := tZ w) (eCall_of (f := f_law_weight) (ms := [none]) (aCons_of (r := aNil) g2 rfl) ew rfl)
    have g4 : (eTup (aCons (ofP (p2 dIx (pV 6) (p2 dMul (pC (.int 3)) (pV 5)))) (aCons (ofP (p2 dIx (pV 6) (p2 dAdd (p2 dMul (pC (.int 3)) (pV 5)) (pC (.int 1))))) (aCons (eFz (eCall f_law_weight [none] (aCons (ofP (p2 dIx (pV 6) (p2 dAdd (p2 dMul (pC (.int 3)) (pV 5)) (pC (.int 2))))) (aNil)))) (aNil))))) (ldS sc pl ct mn (some (.lst (ts.map trT))) (some (tI k)) (some (.lst (ds.map tZ)))) = some (trT (ds[3 * k], ds[3 * k + 1], w), ldS sc pl ct mn (some (.lst (ts.map trT))) (some (tI k)) (some (.lst (ds.map tZ)))) := by
      unfold eTup
      rw [aCons_of g0 (aCons_of g1 (aCons_of (r := aNil) g3 rfl))]
      rfl
    have e := sApp_of (j := 4) (S := ldS sc pl ct mn (some (.lst (ts.map trT))) (some (tI k)) (some (.lst (ds.map tZ)))) (us := ts.map trT) (ts := ts.map trT) rfl g4 rfl (by rw [List.length_map, sizeLine_val]; omega)
    have b0 := hb (3 * k) _ (List.getElem?_eq_getElem i0) (by omega)
    have b1 := hb (3 * k + 1) _ (List.getElem?_eq_getElem i1) (by omega)
    obtain ⟨ts', b5, h1, h2, h3⟩ := ld_loop (sc := sc) (pl := pl) hd hc hb n (k + 1) (ts ++ [(ds[3 * k], ds[3 * k + 1], w)]) (some (tI k)) (by omega) (by rw [List.length_append, List.length_singleton]; omega) (fun x hx => by
      rcases List.mem_append.mp hx with hx | hx
      · exact hp x hx
      · rw [List.mem_singleton.mp hx]
        exact ⟨⟨b0.1, b0.2, b1.1, b1.2⟩, hw⟩)
    refine ⟨ts', b5, h1, h2, ?_⟩
    rw [rng_cons, loop_nx (S1 := ldS sc pl ct mn (some (.lst (ts.map trT))) (some (tI k)) (some (.lst (ds.map tZ)))) rfl e, ← h3, List.map_append]
    rfl
theorem law_differences_eq {ns : List Int} {pl ct mn : Nat} (hc : ct ≤ 1000) (hm : mn ≤ 1000000) : ∃ ts : List Tr, ts.length = ct ∧ (∀ e ∈ ts, Nd mn e ∧ WOk e.2.2) ∧ f_law_differences [.sh (.lst (ns.map .int)), tI pl, tI ct, tI mn] = some (.lst (ts.map trT), [some (.sh (.lst (ns.map .int))), some (tI pl), some (tI ct), some (tI mn)]) := by
  have hz : fz (.lst (((List.range (3 * ct)).map (szF mn)).map tZ)) = .lst (((List.range (3 * ct)).map (szF mn)).map .int) := fz_lst_tZ _
  obtain ⟨ds, d1, d2, d3⟩ := draws2_eq (ns := ns) (pl := pl) hz (szF_ok mn (3 * ct) hm) (by simp; omega)
  have dl : ds.length = 3 * ct := by rw [d1, List.length_map, List.length_range]
  have e0 : (sAsg (eLst (aNil)) (putS 4)) (ldS (.sh (.lst (ns.map .int))) pl ct mn none none none) = some (.nx (ldS (.sh (.lst (ns.map .int))) pl ct mn (some (.lst [])) none none)) := rfl
  have ei : (iRng1' (paCons (p2 dMul (pC (.int 3)) (pV 2)) ((fun _ => some [])))) (ldS (.sh (.lst (ns.map .int))) pl ct mn (some (.lst [])) none none) = some (rngD 0 (3 * ct), ldS (.sh (.lst (ns.map .int))) pl ct mn (some (.lst [])) none none) := by
    refine iRng1_of (n := 3 * ct) (pa1_of (p2_of rfl rfl ((dMul_l (small_of (by omega) (by omega))).trans ?_))) (by omega)
    congr 2
  have el : eLc (iRng1' (paCons (p2 dMul (pC (.int 3)) (pV 2)) ((fun _ => some [])))) (putS 5) qYes ldE [5] (ldS (.sh (.lst (ns.map .int))) pl ct mn (some (.lst [])) none none) = some (.lst (((List.range (3 * ct)).map (szF mn)).map tZ), ldS (.sh (.lst (ns.map .int))) pl ct mn (some (.lst [])) none none) :=
    eLc_rng (S' := fun k => ldS (.sh (.lst (ns.map .int))) pl ct mn (some (.lst [])) (some (tI k)) none) ei rfl (by omega) (fun k => rfl) (fun k => ldE_eq k) (fun k => rfl)
  have g1 : (aMv 0 (aMv 1 (aCons (eLc (iRng1' (paCons (p2 dMul (pC (.int 3)) (pV 2)) ((fun _ => some [])))) (putS 5) (qYes) ldE [5]) (aNil)))) (ldS (.sh (.lst (ns.map .int))) pl ct mn (some (.lst [])) none none) = some ([.sh (.lst (ns.map .int)), tI pl, .lst (((List.range (3 * ct)).map (szF mn)).map tZ)], [none, none, some (tI ct), some (tI mn), some (.lst []), none, none]) :=
    aMv_of (S2 := [some (.sh (.lst (ns.map .int))), none, some (tI ct), some (tI mn), some (.lst []), none, none]) (u := .sh (.lst (ns.map .int))) rfl (aMv_of (S2 := ldS (.sh (.lst (ns.map .int))) pl ct mn (some (.lst [])) none none) (u := tI pl) rfl (aCons_of el rfl) rfl) rfl
  have e1 : (sAsg (eCall f_law_draws [some 0, some 1, none] (aMv 0 (aMv 1 (aCons (eLc (iRng1' (paCons (p2 dMul (pC (.int 3)) (pV 2)) ((fun _ => some [])))) (putS 5) (qYes) ldE [5]) (aNil))))) (putS 6)) (ldS (.sh (.lst (ns.map .int))) pl ct mn (some (.lst [])) none none) = some (.nx (ldS (.sh (.lst (ns.map .int))) pl ct mn (some (.lst [])) none (some (.lst (ds.map tZ))))) := by
    rw [draws_def]
    exact sAsg_of (eCall_of g1 d3 rfl) rfl
  have ei2 : (iRng1' (paCons (pV 2) ((fun _ => some [])))) (ldS (.sh (.lst (ns.map .int))) pl ct mn (some (.lst [])) none (some (.lst (ds.map tZ)))) = some (rngD 0 ct, ldS (.sh (.lst (ns.map .int))) pl ct mn (some (.lst [])) none (some (.lst (ds.map tZ)))) := iRng1_of (pa1_of rfl) (by omega)
  obtain ⟨ts, b5, t1, t2, t3⟩ := ld_loop (sc := .sh (.lst (ns.map .int))) (pl := pl) (mn := mn) dl hc (fun i a ha hi => by
    have hlt : i < 3 * ct := by rw [← dl]; exact (List.getElem?_eq_some_iff.mp ha).1
    have hs : ((List.range (3 * ct)).map (szF mn))[i]? = some (szF mn i) := by
      rw [List.getElem?_map, List.getElem?_range hlt]
      rfl
    have := d2 i a _ ha hs
    unfold szF at this
    rw [if_neg hi] at this
    exact ⟨this.1, by omega⟩) ct 0 [] none (by omega) rfl (by simp)
  have e2 : b_f_law_differences (ldS (.sh (.lst (ns.map .int))) pl ct mn none none none) = some (.rt (.lst (ts.map trT)) (ldS (.sh (.lst (ns.map .int))) pl ct mn none b5 (some (.lst (ds.map tZ))))) := by
    rw [b_f_law_differences, sSeq_nx e0, sSeq_nx e1, sSeq_nx ((mFor_of ei2).trans t3)]
    rfl
  refine ⟨ts, t1, t2, ?_⟩
  unfold f_law_differences
  rw [mkFn_rt (np := 4) (ns := 7) (as := []) (ts := [.sh (.lst (ns.map .int)), tI pl, tI ct, tI mn]) (S := ldS (.sh (.lst (ns.map .int))) pl ct mn none none none) rfl rfl e2]
  rfl
end K11
namespace K11
open PySem PySem.Spec PyProof.Rows L2 VS
/-- differences as a shared list or as an owned one -/
def IsD (d : T) (ts : List Tr) : Prop := d = .sh (dTs ts) ∨ d = .lst (ts.map trT)
theorem IsD.fz {d : T} {ts : List Tr} (h : IsD d ts) : VS.fz d = dTs ts := by
  rcases h with rfl | rfl
  · rfl
  · rw [fz_lst, List.map_map]
    rfl
theorem IsD.kid {d : T} {ts : List Tr} {k : Nat} {e : Tr} (h : IsD d ts) (he : ts[k]? = some e) : kidF d (k : Nat) = some (dT e, d) := by
  have hk : k < ts.length := (List.getElem?_eq_some_iff.mp he).1
  rcases h with rfl | rfl
  · have e1 : VS.kid (.sh (dTs ts)) (k : Nat) = some (.sh (dT e)) := by
      show (L2.atI (ts.map dT) _).map T.sh = _
      rw [atI_pos, List.getElem?_map, he]
      rfl
    unfold kidF
    simp only [e1, Option.bind_some]
  · have e1 : ixN (ts.map trT).length (k : Nat) = some k := by
      unfold ixN
      rw [List.length_map, if_pos (by omega), if_pos (by omega), Int.toNat_natCast]
    have e2 : (ts.map trT)[k]? = some (trT e) := by rw [List.getElem?_map, he]; rfl
    unfold kidF
    simp only [e1, e2, Option.bind_some, Option.map_some]
    rw [show T.sh (VS.fz (trT e)) = trT e from rfl, set_at e2]
    rfl
/-- constant sizes -/
theorem const_ok (n : Nat) {m : Nat} (h0 : 0 < m) (h1 : m ≤ 1000000) : SzOk ((List.range n).map fun _ => (m : Int)) := by
  intro z hz
  obtain ⟨k, _, rfl⟩ := List.mem_map.mp hz
  refine ⟨by omega, log2_small ?_⟩
  rw [Int.natAbs_natCast]
  have : (2 : Nat) ^ 64 = 18446744073709551616 := by decide
  omega
def BOk (w : Int) : Prop := -1000000000000000000000000000000000000000000 < w ∧ w < 1000000000000000000000000000000000000000000
abbrev lrS (sc d1 : T) (d2 : T) (o3 o4 o5 o6 o7 o8 o9 : Option T) : Sto := [some sc, some d1, some d2, o3, o4, o5, o6, o7, o8, o9]
abbrev lrB : MS := (sSeq (sAsg (eIxK 1 (eVar 3)) (gTupS 3 (gsCons (putS 7) (gsCons (putS 8) (gsCons (putS 9) (gsNil)))))) (sApp 6 (eTup (aCons (eVar 7) (aCons (eVar 8) (aCons (ofP (p2 dAdd (pCall dMax2 (paCons (pCall dInt (paCons (pV 9) ((fun _ => some [])))) (paCons (pCall dInt (paCons (p2 dSub (p2 dIx (pV 5) (pV 7)) (p2 dIx (pV 5) (pV 8))) ((fun _ => some [])))) ((fun _ => some []))))) (p2 dDiv (p2 dIx (pV 4) (pV 3)) (pC (.int 2))))) (aNil)))))))
theorem pc2_of {g : List D → Option D} {ma mb : MP} {S : Sto} {x y z : D} (h1 : ma S = some x) (h2 : mb S = some y) (h3 : g [x, y] = some z) : pCall g (paCons ma (paCons mb fun _ => some [])) S = some z := by
  unfold pCall
  rw [pa2_of h1 h2, Option.bind_some, h3]
theorem lr_turn {sc d1 d2 : T} {ts us : List Tr} {vs ds : List Int} {k : Nat} {e : Tr} {o7 o8 o9 : Option T} (hd : IsD d1 ts) (he : ts[k]? = some e) (hn : Nd vs.length e) (hk : k < ds.length) (hq : 0 ≤ ds[k] ∧ ds[k] < 4) (hv : ∀ i, -10000000000000000000000000000000000000000 < lv vs i ∧ lv vs i < 10000000000000000000000000000000000000000) (hw : -100000000000000000000000000000000000000000 < e.2.2 ∧ e.2.2 < 100000000000000000000000000000000000000000) (hu : us.length ≤ 1000) :
    ∃ c, BOk c ∧ lrB (lrS sc d1 d2 (some (tI k)) (some (.lst (ds.map tZ))) (some (.lst ((0 :: vs).map tZ))) (some (.lst (us.map trT))) o7 o8 o9) = some (.nx (lrS sc d1 d2 (some (tI k)) (some (.lst (ds.map tZ))) (some (.lst ((0 :: vs).map tZ))) (some (.lst ((us ++ [(e.1, e.2.1, c)]).map trT))) (some (tZ e.1)) (some (tZ e.2.1)) (some (tZ e.2.2)))) := by
  have e1 : (sAsg (eIxK 1 (eVar 3)) (gTupS 3 (gsCons (putS 7) (gsCons (putS 8) (gsCons (putS 9) (gsNil)))))) (lrS sc d1 d2 (some (tI k)) (some (.lst (ds.map tZ))) (some (.lst ((0 :: vs).map tZ))) (some (.lst (us.map trT))) o7 o8 o9) = some (.nx (lrS sc d1 d2 (some (tI k)) (some (.lst (ds.map tZ))) (some (.lst ((0 :: vs).map tZ))) (some (.lst (us.map trT))) (some (tZ e.1)) (some (tZ e.2.1)) (some (tZ e.2.2)))) := by
    refine sAsg_of (t := .sh (dT e)) (S1 := lrS sc d1 d2 (some (tI k)) (some (.lst (ds.map tZ))) (some (.lst ((0 :: vs).map tZ))) (some (.lst (us.map trT))) o7 o8 o9) ?_ (gTup3 rfl rfl rfl)
    unfold eIxK
    show ((eVar 3 _).bind _) = _
    rw [show eVar 3 (lrS sc d1 d2 (some (tI k)) (some (.lst (ds.map tZ))) (some (.lst ((0 :: vs).map tZ))) (some (.lst (us.map trT))) o7 o8 o9) = some (tI k, lrS sc d1 d2 (some (tI k)) (some (.lst (ds.map tZ))) (some (.lst ((0 :: vs).map tZ))) (some (.lst (us.map trT))) o7 o8 o9) from rfl, Option.bind_some]
    show ((kidF d1 (k : Nat)).bind _) = _
    rw [hd.kid he]
    rfl
  have f5 : fz (.lst ((0 :: vs).map tZ)) = .lst ((0 :: vs).map .int) := fz_lst_tZ (0 :: vs)
  have f4 : fz (.lst (ds.map tZ)) = .lst (ds.map .int) := fz_lst_tZ ds
  have g : (p2 dAdd (pCall dMax2 (paCons (pCall dInt (paCons (pV 9) ((fun _ => some [])))) (paCons (pCall dInt (paCons (p2 dSub (p2 dIx (pV 5) (pV 7)) (p2 dIx (pV 5) (pV 8))) ((fun _ => some [])))) ((fun _ => some []))))) (p2 dDiv (p2 dIx (pV 4) (pV 3)) (pC (.int 2)))) (lrS sc d1 d2 (some (tI k)) (some (.lst (ds.map tZ))) (some (.lst ((0 :: vs).map tZ))) (some (.lst (us.map trT))) (some (tZ e.1)) (some (tZ e.2.1)) (some (tZ e.2.2))) = some (.int ((if lv vs e.1 - lv vs e.2.1 > e.2.2 then lv vs e.1 - lv vs e.2.1 else e.2.2) + ds[k].fdiv 2)) :=
    p2_of (pc2_of (pc1_of rfl rfl) (pc1_of (p2_of (p2_of (x := .lst ((0 :: vs).map .int)) (congrArg some f5) rfl (dIx_lv hn.1 hn.2.1)) (p2_of (x := .lst ((0 :: vs).map .int)) (congrArg some f5) rfl (dIx_lv hn.2.2.1 hn.2.2.2)) rfl) rfl) rfl) (p2_of (p2_of (x := .lst (ds.map .int)) (congrArg some f4) rfl (dIx_ints hk)) rfl (dDiv_of (by omega) (by decide +kernel))) rfl
  have hh : 0 ≤ ds[k].fdiv 2 ∧ ds[k].fdiv 2 ≤ 1 := by
    rw [Int.fdiv_eq_ediv_of_nonneg _ (by omega)]
    omega
  have a := hv e.1
  have b := hv e.2.1
  refine ⟨(if lv vs e.1 - lv vs e.2.1 > e.2.2 then lv vs e.1 - lv vs e.2.1 else e.2.2) + ds[k].fdiv 2, ?_, ?_⟩
  · unfold BOk
    split <;> omega
  · rw [lrB, sSeq_nx e1]
    refine (sApp_of (j := 6) (us := us.map trT) (ts := us.map trT) (t := trT (e.1, e.2.1, (if lv vs e.1 - lv vs e.2.1 > e.2.2 then lv vs e.1 - lv vs e.2.1 else e.2.2) + ds[k].fdiv 2)) (S1 := lrS sc d1 d2 (some (tI k)) (some (.lst (ds.map tZ))) (some (.lst ((0 :: vs).map tZ))) (some (.lst (us.map trT))) (some (tZ e.1)) (some (tZ e.2.1)) (some (tZ e.2.2))) rfl ?_ rfl (by rw [List.length_map, sizeLine_val]; omega)).trans ?_
    · have g1 : eVar 7 (lrS sc d1 d2 (some (tI k)) (some (.lst (ds.map tZ))) (some (.lst ((0 :: vs).map tZ))) (some (.lst (us.map trT))) (some (tZ e.1)) (some (tZ e.2.1)) (some (tZ e.2.2))) = some (tZ e.1, lrS sc d1 d2 (some (tI k)) (some (.lst (ds.map tZ))) (some (.lst ((0 :: vs).map tZ))) (some (.lst (us.map trT))) (some (tZ e.1)) (some (tZ e.2.1)) (some (tZ e.2.2))) := rfl
      have g2 : eVar 8 (lrS sc d1 d2 (some (tI k)) (some (.lst (ds.map tZ))) (some (.lst ((0 :: vs).map tZ))) (some (.lst (us.map trT))) (some (tZ e.1)) (some (tZ e.2.1)) (some (tZ e.2.2))) = some (tZ e.2.1, lrS sc d1 d2 (some (tI k)) (some (.lst (ds.map tZ))) (some (.lst ((0 :: vs).map tZ))) (some (.lst (us.map trT))) (some (tZ e.1)) (some (tZ e.2.1)) (some (tZ e.2.2))) := rfl
      unfold eTup
      rw [aCons_of g1 (aCons_of g2 (aCons_of (r := aNil) (ofP_of g rfl) rfl))]
      rfl
    · unfold lrS
      rw [List.map_append]
      rfl
theorem lv_ok {vs : List Int} (h : ∀ v ∈ vs, WOk v) (i : Int) : -10000000000000000000000000000000000000000 < lv vs i ∧ lv vs i < 10000000000000000000000000000000000000000 := by
  unfold lv
  rw [List.getD_eq_getElem?_getD]
  cases e : (0 :: vs)[i.toNat]? with
  | none => exact ⟨by show (_ : Int) < 0; omega, by show (0 : Int) < _; omega⟩
  | some x =>
    have hm : x ∈ 0 :: vs := List.mem_of_getElem? e
    rcases List.mem_cons.mp hm with rfl | hm
    · exact ⟨by show (_ : Int) < 0; omega, by show (0 : Int) < _; omega⟩
    · exact h x hm
def COk (w : Int) : Prop := -100000000000000000000000000000000000000000 < w ∧ w < 100000000000000000000000000000000000000000
theorem lr_loop {sc d1 d2 : T} {ts : List Tr} {vs ds : List Int} (hd : IsD d1 ts) (hn : ∀ e ∈ ts, Nd vs.length e ∧ COk e.2.2) (hv : ∀ v ∈ vs, WOk v) (hl : ts.length ≤ 1000) (hk : ts.length < ds.length) (hq : ∀ (i : Nat) (a : Int), ds[i]? = some a → 0 ≤ a ∧ a < 4) : ∀ (n k : Nat) (us : List Tr) (o3 o7 o8 o9 : Option T), k + n = ts.length → us.length = k → (∀ e ∈ us, Nd vs.length e ∧ BOk e.2.2) →
    ∃ (us' : List Tr) (b3 b7 b8 b9 : Option T), us'.length = ts.length ∧ (∀ e ∈ us', Nd vs.length e ∧ BOk e.2.2) ∧ loopF (putS 3) lrB (rngD (k : Nat) n) (lrS sc d1 d2 o3 (some (.lst (ds.map tZ))) (some (.lst ((0 :: vs).map tZ))) (some (.lst (us.map trT))) o7 o8 o9) = some (.nx (lrS sc d1 d2 b3 (some (.lst (ds.map tZ))) (some (.lst ((0 :: vs).map tZ))) (some (.lst (us'.map trT))) b7 b8 b9))
  | 0, k, us, o3, o7, o8, o9, h, hu, hp => ⟨us, o3, o7, o8, o9, by omega, hp, rfl⟩
  | n + 1, k, us, o3, o7, o8, o9, h, hu, hp => by
    have hkt : k < ts.length := by omega
    have he : ts[k]? = some ts[k] := List.getElem?_eq_getElem hkt
    have hm := hn ts[k] (List.getElem_mem hkt)
    obtain ⟨c, hc, e⟩ := lr_turn (sc := sc) (d2 := d2) (us := us) (vs := vs) (ds := ds) (o7 := o7) (o8 := o8) (o9 := o9) hd he hm.1 (by omega) (hq k _ (List.getElem?_eq_getElem (by omega))) (lv_ok hv) hm.2 (by omega)
    obtain ⟨us', b3, b7, b8, b9, h1, h2, h3⟩ := lr_loop (sc := sc) (d2 := d2) hd hn hv hl hk hq n (k + 1) (us ++ [(ts[k].1, ts[k].2.1, c)]) (some (tI k)) (some (tZ ts[k].1)) (some (tZ ts[k].2.1)) (some (tZ ts[k].2.2)) (by omega) (by rw [List.length_append, List.length_singleton]; omega) (fun x hx => by
      rcases List.mem_append.mp hx with hx | hx
      · exact hp x hx
      · rw [List.mem_singleton.mp hx]
        exact ⟨hm.1, hc⟩)
    refine ⟨us', b3, b7, b8, b9, h1, h2, ?_⟩
    rw [rng_cons, loop_nx (S1 := lrS sc d1 d2 (some (tI k)) (some (.lst (ds.map tZ))) (some (.lst ((0 :: vs).map tZ))) (some (.lst (us.map trT))) o7 o8 o9) rfl e]
    exact h3
theorem law_raised_eq {ns : List Int} {d1 d2 : T} {ts : List Tr} {vs : List Int} (hd : IsD d1 ts) (h2 : fz d2 = .lst (vs.map .int)) (hn : ∀ e ∈ ts, Nd vs.length e ∧ COk e.2.2) (hv : ∀ v ∈ vs, WOk v) (hl : ts.length ≤ 1000) (hvl : vs.length ≤ 1000) :
    ∃ us : List Tr, us.length = ts.length ∧ (∀ e ∈ us, Nd vs.length e ∧ BOk e.2.2) ∧ f_law_raised [.sh (.lst (ns.map .int)), d1, d2] = some (.lst (us.map trT), [some (.sh (.lst (ns.map .int))), some d1, some (.sh (.lst (vs.map .int)))]) := by
  have hz : fz (.lst (((List.range (ts.length + 1)).map fun _ => ((4 : Nat) : Int)).map tZ)) = .lst (((List.range (ts.length + 1)).map fun _ => ((4 : Nat) : Int)).map .int) := fz_lst_tZ _
  obtain ⟨ds, q1, q2, q3⟩ := draws2_eq (ns := ns) (pl := 7) hz (const_ok (ts.length + 1) (by decide) (by decide)) (by simp; omega)
  have dl : ds.length = ts.length + 1 := by rw [q1, List.length_map, List.length_range]
  have dq : ∀ (i : Nat) (a : Int), ds[i]? = some a → 0 ≤ a ∧ a < 4 := fun i a ha => by
    have hlt : i < ts.length + 1 := by rw [← dl]; exact (List.getElem?_eq_some_iff.mp ha).1
    exact q2 i a 4 ha (by rw [List.getElem?_map, List.getElem?_range hlt]; rfl)
  have ei : (iRng1' (paCons (p2 dAdd (pCall dLen (paCons (pV 1) ((fun _ => some [])))) (pC (.int 1))) ((fun _ => some [])))) (lrS (.sh (.lst (ns.map .int))) d1 d2 none none none none none none none) = some (rngD 0 (ts.length + 1), lrS (.sh (.lst (ns.map .int))) d1 d2 none none none none none none none) :=
    iRng1_of (n := ts.length + 1) (pa1_of (p2_of (pc1_of (x := dTs ts) (congrArg some hd.fz) (dLen_ts ts)) rfl rfl)) (by omega)
  have el : (eLc (iRng1' (paCons (p2 dAdd (pCall dLen (paCons (pV 1) ((fun _ => some [])))) (pC (.int 1))) ((fun _ => some [])))) (putS 3) (qYes) (ofP (pC (.int 4))) [3]) (lrS (.sh (.lst (ns.map .int))) d1 d2 none none none none none none none) = some (.lst (((List.range (ts.length + 1)).map fun _ => ((4 : Nat) : Int)).map tZ), lrS (.sh (.lst (ns.map .int))) d1 d2 none none none none none none none) :=
    eLc_rng (S' := fun k => lrS (.sh (.lst (ns.map .int))) d1 d2 (some (tI k)) none none none none none none) ei rfl (by omega) (fun k => rfl) (fun k => rfl) (fun k => rfl)
  have g1 : (aMv 0 (aCons (ofP (pC (.int 7))) (aCons (eLc (iRng1' (paCons (p2 dAdd (pCall dLen (paCons (pV 1) ((fun _ => some [])))) (pC (.int 1))) ((fun _ => some [])))) (putS 3) (qYes) (ofP (pC (.int 4))) [3]) (aNil)))) (lrS (.sh (.lst (ns.map .int))) d1 d2 none none none none none none none) = some ([.sh (.lst (ns.map .int)), tI 7, .lst (((List.range (ts.length + 1)).map fun _ => ((4 : Nat) : Int)).map tZ)], [none, some d1, some d2, none, none, none, none, none, none, none]) :=
    aMv_of (S2 := lrS (.sh (.lst (ns.map .int))) d1 d2 none none none none none none none) (u := .sh (.lst (ns.map .int))) rfl (aCons_of (S1 := lrS (.sh (.lst (ns.map .int))) d1 d2 none none none none none none none) (t := tI 7) rfl (aCons_of el rfl)) rfl
  have e1 : (sAsg (eCall f_law_draws [some 0, none, none] (aMv 0 (aCons (ofP (pC (.int 7))) (aCons (eLc (iRng1' (paCons (p2 dAdd (pCall dLen (paCons (pV 1) ((fun _ => some [])))) (pC (.int 1))) ((fun _ => some [])))) (putS 3) (qYes) (ofP (pC (.int 4))) [3]) (aNil))))) (putS 4)) (lrS (.sh (.lst (ns.map .int))) d1 d2 none none none none none none none) = some (.nx (lrS (.sh (.lst (ns.map .int))) d1 d2 none (some (.lst (ds.map tZ))) none none none none none)) := by
    rw [draws_def]
    exact sAsg_of (eCall_of g1 q3 rfl) rfl
  have e2 : (sAsg (e2T addT (eLst (aCons (ofP (pC (.int 0))) (aNil))) (eVar 2)) (putS 5)) (lrS (.sh (.lst (ns.map .int))) d1 d2 none (some (.lst (ds.map tZ))) none none none none none) = some (.nx (lrS (.sh (.lst (ns.map .int))) d1 (.sh (.lst (vs.map .int))) none (some (.lst (ds.map tZ))) (some (.lst ((0 :: vs).map tZ))) none none none none)) := by
    have k1 : (eLst (aCons (ofP (pC (.int 0))) (aNil))) (lrS (.sh (.lst (ns.map .int))) d1 d2 none (some (.lst (ds.map tZ))) none none none none none) = some (.lst [tI 0], lrS (.sh (.lst (ns.map .int))) d1 d2 none (some (.lst (ds.map tZ))) none none none none none) := rfl
    have k2 : eVar 2 (lrS (.sh (.lst (ns.map .int))) d1 d2 none (some (.lst (ds.map tZ))) none none none none none) = some (.sh (.lst (vs.map .int)), lrS (.sh (.lst (ns.map .int))) d1 (.sh (.lst (vs.map .int))) none (some (.lst (ds.map tZ))) none none none none none) := by
      rw [eVar_of (t := d2) rfl, h2]
      rfl
    exact sAsg_of (e2T_of k1 k2 (addT0 (kidsL_ints vs) (by omega))) rfl
  have e3 : (sAsg (eLst (aNil)) (putS 6)) (lrS (.sh (.lst (ns.map .int))) d1 (.sh (.lst (vs.map .int))) none (some (.lst (ds.map tZ))) (some (.lst ((0 :: vs).map tZ))) none none none none) = some (.nx (lrS (.sh (.lst (ns.map .int))) d1 (.sh (.lst (vs.map .int))) none (some (.lst (ds.map tZ))) (some (.lst ((0 :: vs).map tZ))) (some (.lst [])) none none none)) := rfl
  have ei2 : (iRng1' (paCons (pCall dLen (paCons (pV 1) ((fun _ => some [])))) ((fun _ => some [])))) (lrS (.sh (.lst (ns.map .int))) d1 (.sh (.lst (vs.map .int))) none (some (.lst (ds.map tZ))) (some (.lst ((0 :: vs).map tZ))) (some (.lst [])) none none none) = some (rngD 0 ts.length, lrS (.sh (.lst (ns.map .int))) d1 (.sh (.lst (vs.map .int))) none (some (.lst (ds.map tZ))) (some (.lst ((0 :: vs).map tZ))) (some (.lst [])) none none none) :=
    iRng1_of (pa1_of (pc1_of (x := dTs ts) (congrArg some hd.fz) (dLen_ts ts))) (by omega)
  obtain ⟨us, b3, b7, b8, b9, u1, u2, u3⟩ := lr_loop (sc := .sh (.lst (ns.map .int))) (d2 := .sh (.lst (vs.map .int))) hd hn hv hl (by omega) dq ts.length 0 [] none none none none (by omega) rfl (by simp)
  have e4 : b_f_law_raised (lrS (.sh (.lst (ns.map .int))) d1 d2 none none none none none none none) = some (.rt (.lst (us.map trT)) ((lrS (.sh (.lst (ns.map .int))) d1 (.sh (.lst (vs.map .int))) b3 (some (.lst (ds.map tZ))) (some (.lst ((0 :: vs).map tZ))) (some (.lst (us.map trT))) b7 b8 b9).set 6 none)) := by
    rw [b_f_law_raised, sSeq_nx e1, sSeq_nx e2, sSeq_nx e3, sSeq_nx ((mFor_of ei2).trans u3)]
    rfl
  refine ⟨us, u1, u2, ?_⟩
  unfold f_law_raised
  rw [mkFn_rt (np := 3) (ns := 10) (as := []) (ts := [.sh (.lst (ns.map .int)), d1, d2]) (S := lrS (.sh (.lst (ns.map .int))) d1 d2 none none none none none none none) rfl rfl e4]
  rfl
end K11
namespace K11
open PySem PySem.Spec PyProof.Rows L2 VS
/-- a comprehension of the numbers of a range that pass -/
theorem lc_pass {g : T → Sto → Option Sto} {tt : MT} {te : ME} {own : List Nat} {S : Sto} {S' : Nat → Sto} {p : Nat → Bool} {N : Nat} (h1 : ∀ k : Nat, g (tI k) S = some (S' k)) (ht : ∀ k : Nat, k < N → tt (S' k) = some (p k, S' k)) (h2 : ∀ k : Nat, te (S' k) = some (tI k, S' k)) (h3 : ∀ k : Nat, wipeS (S' k) own = S) :
    ∀ (n k : Nat) (acc : List Nat), k + n = N → acc.length + n ≤ 16777215 → lcGo g tt te own (rngD (k : Nat) n) S (acc.map tI) = some ((acc ++ (List.range' k n).filter p).map tI, S)
  | 0, k, acc, _, _ => by rw [List.range'_zero, List.filter_nil, List.append_nil]; rfl
  | n + 1, k, acc, hN, h => by
    have t := ht k (by omega)
    rw [rng_cons, List.range'_succ]
    by_cases hp : p k = true
    · rw [hp] at t
      have ih := lc_pass h1 ht h2 h3 n (k + 1) (acc ++ [k]) (by omega) (by rw [List.length_append, List.length_singleton]; omega)
      rw [lc_step (h1 k) t (h2 k) (by rw [List.length_map, sizeLine_val]; omega), h3 k, List.filter_cons_of_pos hp]
      rw [show (acc ++ [k]).map tI = acc.map tI ++ [tI k] by rw [List.map_append]; rfl] at ih
      refine ih.trans ?_
      rw [List.append_assoc]
      rfl
    · have hp2 : p k = false := by simpa using hp
      rw [hp2] at t
      have ih := lc_pass h1 ht h2 h3 n (k + 1) acc (by omega) (by omega)
      rw [lc_skip (h1 k) t, h3 k, List.filter_cons_of_neg hp]
      exact ih
abbrev lgS (sc d1 : T) (mn : Nat) (o3 o4 o5 o6 o7 : Option T) : Sto := [some sc, some d1, some (tI mn), o3, o4, o5, o6, o7]
abbrev lgT : MT := (ofB (bOr (pB (p2 dEq (pV 3) (pC (.int 0)))) (pB (p2 dEq (p2 dIx (p2 dIx (pV 1) (pV 7)) (pC (.int 0))) (p2 dIx (p2 dIx (pV 1) (p2 dIx (pV 5) (p1 dNeg (pC (.int 1))))) (pC (.int 1)))))))
abbrev lgL : ME := (eLc (iRng1' (paCons (pCall dLen (paCons (pV 1) ((fun _ => some [])))) ((fun _ => some [])))) (putS 7) lgT (eVar 7) [7])
theorem lg_opts {sc d1 : T} {ts : List Tr} {mn k : Nat} {xs : List Nat} {o4 o6 : Option T} (hd : fz d1 = dTs ts) (hl : ts.length ≤ 1000) (hk : k = xs.length) (hx : ∀ x ∈ xs, x < ts.length) :
    ∃ os : List Nat, (∀ o ∈ os, o < ts.length) ∧ (k = 0 → os.length = ts.length) ∧ os.length ≤ ts.length ∧ lgL (lgS sc d1 mn (some (tI k)) o4 (some (.lst (xs.map tI))) o6 none) = some (.lst (os.map tI), lgS sc d1 mn (some (tI k)) o4 (some (.lst (xs.map tI))) o6 none) := by
  have ei : (iRng1' (paCons (pCall dLen (paCons (pV 1) ((fun _ => some [])))) ((fun _ => some [])))) (lgS sc d1 mn (some (tI k)) o4 (some (.lst (xs.map tI))) o6 none) = some (rngD 0 ts.length, lgS sc d1 mn (some (tI k)) o4 (some (.lst (xs.map tI))) o6 none) :=
    iRng1_of (pa1_of (pc1_of (x := dTs ts) (congrArg some hd) (dLen_ts ts))) (by omega)
  have fx : fz (.lst (xs.map tI)) = .lst ((xs.map fun x : Nat => (x : Int)).map .int) := by
    rw [fz_lst, List.map_map, List.map_map]
    rfl
  let p : Nat → Bool := fun j => decide (k = 0) || ((nt ts j).1 == (nt ts ((xs.getLast?.getD 0 : Nat) : Int)).2.1)
  have ht : ∀ j : Nat, j < ts.length → lgT (lgS sc d1 mn (some (tI k)) o4 (some (.lst (xs.map tI))) o6 (some (tI j))) = some (p j, lgS sc d1 mn (some (tI k)) o4 (some (.lst (xs.map tI))) o6 (some (tI j))) := fun j hj => by
    have h1 : (pB (p2 dEq (pV 3) (pC (.int 0)))) (lgS sc d1 mn (some (tI k)) o4 (some (.lst (xs.map tI))) o6 (some (tI j))) = some ((k : Int) == 0) := pB_of (p2_of rfl rfl rfl)
    refine ofB_of ?_
    unfold bOr
    rw [h1, Option.bind_some]
    by_cases k0 : k = 0
    · have z : ((k : Int) == 0) = true := by rw [k0]; rfl
      rw [z, if_pos rfl]
      show some true = some (decide (k = 0) || _)
      rw [decide_eq_true k0, Bool.true_or]
    · have z : ((k : Int) == 0) = false := beq_false_of_ne (by omega)
      rw [z, if_neg (by decide)]
      have hne : xs ≠ [] := fun h => k0 (by rw [hk, h]; rfl)
      have hla : xs.getLast? = some (xs.getLast hne) := List.getLast?_eq_some_getLast hne
      have hin : inR ts ((xs.getLast hne : Nat) : Int) := ⟨by omega, by have := hx _ (List.getLast_mem hne); omega⟩
      have hj2 : inR ts (j : Int) := ⟨by omega, by omega⟩
      have e5 : (p2 dIx (pV 5) (p1 dNeg (pC (.int 1)))) (lgS sc d1 mn (some (tI k)) o4 (some (.lst (xs.map tI))) o6 (some (tI j))) = some (.int ((xs.getLast hne : Nat) : Int)) :=
        p2_of (x := .lst ((xs.map fun x : Nat => (x : Int)).map .int)) (y := .int (-1)) (congrArg some fx) rfl (dIx_nl (ns := xs.map fun x : Nat => (x : Int)) (.inl rfl) (by rw [List.getLast?_map, hla]; rfl))
      have h2 : (pB (p2 dEq (p2 dIx (p2 dIx (pV 1) (pV 7)) (pC (.int 0))) (p2 dIx (p2 dIx (pV 1) (p2 dIx (pV 5) (p1 dNeg (pC (.int 1))))) (pC (.int 1))))) (lgS sc d1 mn (some (tI k)) o4 (some (.lst (xs.map tI))) o6 (some (tI j))) = some ((nt ts (j : Int)).1 == (nt ts ((xs.getLast hne : Nat) : Int)).2.1) :=
        pB_of (p2_of (p2_of (p2_of (x := dTs ts) (congrArg some hd) rfl (dIx_ts hj2)) rfl rfl) (p2_of (p2_of (x := dTs ts) (congrArg some hd) e5 (dIx_ts hin)) rfl rfl) rfl)
      rw [h2]
      show _ = some (decide (k = 0) || ((nt ts j).1 == (nt ts ((xs.getLast?.getD 0 : Nat) : Int)).2.1))
      rw [decide_eq_false k0, Bool.false_or, hla]
      rfl
  have e := lc_pass (S := lgS sc d1 mn (some (tI k)) o4 (some (.lst (xs.map tI))) o6 none) (S' := fun j => lgS sc d1 mn (some (tI k)) o4 (some (.lst (xs.map tI))) o6 (some (tI j))) (own := [7]) (g := putS 7) (te := eVar 7) (fun j => rfl) ht (fun j => rfl) (fun j => rfl) ts.length 0 [] (by omega) (by simp; omega)
  refine ⟨(List.range' 0 ts.length).filter p, fun o ho => ?_, fun k0 => ?_, ?_, ?_⟩
  · have := (List.mem_filter.mp ho).1
    rw [List.mem_range'_1] at this
    omega
  · have : (List.range' 0 ts.length).filter p = List.range' 0 ts.length := List.filter_eq_self.mpr fun a _ => by
      show (decide (k = 0) || _) = true
      rw [decide_eq_true k0, Bool.true_or]
    rw [this, List.length_range']
  · exact Nat.le_trans (List.length_filter_le _ _) (by rw [List.length_range']; exact Nat.le_refl _)
  · rw [List.nil_append] at e
    exact eLc_of ei e
abbrev lgB : MS := (sSeq (sAsg lgL (putS 6)) (sSeq (sIf (ofB (pB (p2 dEq (pCall dLen (paCons (pV 6) ((fun _ => some [])))) (pC (.int 0))))) (sBreak) (sNext)) (sApp 5 (ofP (p2 dIx (pV 6) (p2 dMod (pCall dInt (paCons (p2 dIx (pV 4) (pV 3)) ((fun _ => some [])))) (pCall dLen (paCons (pV 6) ((fun _ => some []))))))))))
theorem fmod_nat {d : Int} {n : Nat} (h0 : 0 ≤ d) (hn : 0 < n) : ∃ i : Nat, i < n ∧ d.fmod (n : Int) = (i : Int) := by
  obtain ⟨m, rfl⟩ := Int.eq_ofNat_of_zero_le h0
  refine ⟨m % n, Nat.mod_lt _ hn, ?_⟩
  rw [Int.fmod_eq_emod_of_nonneg _ (by omega)]
  rfl
theorem fz_tI (xs : List Nat) : fz (.lst (xs.map tI)) = .lst ((xs.map fun x : Nat => (x : Int)).map .int) := by
  rw [fz_lst, List.map_map, List.map_map]
  rfl
theorem lg_turn {sc d1 : T} {ts : List Tr} {mn k : Nat} {xs : List Nat} {ds : List Int} {o6 : Option T} (hd : fz d1 = dTs ts) (hl : ts.length ≤ 1000) (hk : k = xs.length) (hx : ∀ x ∈ xs, x < ts.length) (hkd : k < ds.length) (hq : 0 ≤ ds[k]) (hk2 : k ≤ 1000) :
    (∃ (o : Nat) (b6 : Option T), o < ts.length ∧ lgB (lgS sc d1 mn (some (tI k)) (some (.lst (ds.map tZ))) (some (.lst (xs.map tI))) o6 none) = some (.nx (lgS sc d1 mn (some (tI k)) (some (.lst (ds.map tZ))) (some (.lst ((xs ++ [o]).map tI))) b6 none))) ∨
    ((k = 0 → ts.length = 0) ∧ ∃ b6 : Option T, lgB (lgS sc d1 mn (some (tI k)) (some (.lst (ds.map tZ))) (some (.lst (xs.map tI))) o6 none) = some (.bk (lgS sc d1 mn (some (tI k)) (some (.lst (ds.map tZ))) (some (.lst (xs.map tI))) b6 none))) := by
  obtain ⟨os, h1, h2, h3, h4⟩ := lg_opts (sc := sc) (d1 := d1) (mn := mn) (o4 := some (.lst (ds.map tZ))) (o6 := o6) hd hl hk hx
  have e1 : (sAsg lgL (putS 6)) (lgS sc d1 mn (some (tI k)) (some (.lst (ds.map tZ))) (some (.lst (xs.map tI))) o6 none) = some (.nx (lgS sc d1 mn (some (tI k)) (some (.lst (ds.map tZ))) (some (.lst (xs.map tI))) (some (.lst (os.map tI))) none)) := sAsg_of h4 rfl
  have len : (pCall dLen (paCons (pV 6) ((fun _ => some [])))) (lgS sc d1 mn (some (tI k)) (some (.lst (ds.map tZ))) (some (.lst (xs.map tI))) (some (.lst (os.map tI))) none) = some (.int (os.length : Nat)) := by
    refine pc1_of (x := .lst ((os.map fun x : Nat => (x : Int)).map .int)) (congrArg some (fz_tI os)) ?_
    rw [dLen_ints, List.length_map]
  have q : (ofB (pB (p2 dEq (pCall dLen (paCons (pV 6) ((fun _ => some [])))) (pC (.int 0))))) (lgS sc d1 mn (some (tI k)) (some (.lst (ds.map tZ))) (some (.lst (xs.map tI))) (some (.lst (os.map tI))) none) = some (((os.length : Int) == 0), lgS sc d1 mn (some (tI k)) (some (.lst (ds.map tZ))) (some (.lst (xs.map tI))) (some (.lst (os.map tI))) none) :=
    ofB_of (pB_of (p2_of len rfl rfl))
  by_cases h0 : os.length = 0
  · right
    refine ⟨fun k0 => by rw [← h2 k0, h0], some (.lst (os.map tI)), ?_⟩
    have z : ((os.length : Int) == 0) = true := by rw [h0]; rfl
    rw [z] at q
    rw [lgB, sSeq_nx e1, sSeq_bk (S1 := lgS sc d1 mn (some (tI k)) (some (.lst (ds.map tZ))) (some (.lst (xs.map tI))) (some (.lst (os.map tI))) none)]
    rw [sIf_t q]
    rfl
  · left
    have z : ((os.length : Int) == 0) = false := beq_false_of_ne (by omega)
    rw [z] at q
    obtain ⟨i, hi, ei⟩ := fmod_nat (d := ds[k]) (n := os.length) hq (by omega)
    have f4 : fz (.lst (ds.map tZ)) = .lst (ds.map .int) := fz_lst_tZ ds
    have md : (p2 dMod (pCall dInt (paCons (p2 dIx (pV 4) (pV 3)) ((fun _ => some [])))) (pCall dLen (paCons (pV 6) ((fun _ => some []))))) (lgS sc d1 mn (some (tI k)) (some (.lst (ds.map tZ))) (some (.lst (xs.map tI))) (some (.lst (os.map tI))) none) = some (.int (i : Nat)) := by
      refine p2_of (pc1_of (p2_of (x := .lst (ds.map .int)) (congrArg some f4) rfl (dIx_ints hkd)) rfl) len ?_
      rw [dMod_of (by omega), ei]
    have hi2 : i < (os.map fun x : Nat => (x : Int)).length := by rw [List.length_map]; exact hi
    have gi : (ofP (p2 dIx (pV 6) (p2 dMod (pCall dInt (paCons (p2 dIx (pV 4) (pV 3)) ((fun _ => some [])))) (pCall dLen (paCons (pV 6) ((fun _ => some []))))))) (lgS sc d1 mn (some (tI k)) (some (.lst (ds.map tZ))) (some (.lst (xs.map tI))) (some (.lst (os.map tI))) none) = some (tI os[i], lgS sc d1 mn (some (tI k)) (some (.lst (ds.map tZ))) (some (.lst (xs.map tI))) (some (.lst (os.map tI))) none) := by
      refine ofP_of (p2_of (x := .lst ((os.map fun x : Nat => (x : Int)).map .int)) (congrArg some (fz_tI os)) md ((dIx_ints hi2).trans ?_)) rfl
      rw [List.getElem_map]
    refine ⟨os[i], some (.lst (os.map tI)), h1 _ (List.getElem_mem hi), ?_⟩
    rw [lgB, sSeq_nx e1, sSeq_nx (S1 := lgS sc d1 mn (some (tI k)) (some (.lst (ds.map tZ))) (some (.lst (xs.map tI))) (some (.lst (os.map tI))) none) (by rw [sIf_f q]; rfl)]
    refine (sApp_of (j := 5) (us := xs.map tI) (ts := xs.map tI) rfl gi rfl (by rw [List.length_map, sizeLine_val]; omega)).trans ?_
    unfold lgS
    rw [List.map_append]
    rfl
theorem lg_loop {sc d1 : T} {ts : List Tr} {mn : Nat} {ds : List Int} (hd : fz d1 = dTs ts) (hl : ts.length ≤ 1000) (hq : ∀ (i : Nat) (a : Int), ds[i]? = some a → 0 ≤ a) (hdl : ds.length ≤ 1000) : ∀ (n k : Nat) (xs : List Nat) (o3 o6 : Option T), k + n ≤ ds.length → xs.length = k → (∀ x ∈ xs, x < ts.length) →
    ∃ (xs' : List Nat) (b3 b6 : Option T), (∀ x ∈ xs', x < ts.length) ∧ xs'.length ≤ k + n ∧ (0 < n → 0 < ts.length → xs' ≠ []) ∧ (xs ≠ [] → xs' ≠ []) ∧ loopF (putS 3) lgB (rngD (k : Nat) n) (lgS sc d1 mn o3 (some (.lst (ds.map tZ))) (some (.lst (xs.map tI))) o6 none) = some (.nx (lgS sc d1 mn b3 (some (.lst (ds.map tZ))) (some (.lst (xs'.map tI))) b6 none))
  | 0, k, xs, o3, o6, h, hk, hx => ⟨xs, o3, o6, hx, by omega, fun z => by omega, fun z => z, rfl⟩
  | n + 1, k, xs, o3, o6, h, hk, hx => by
    rcases lg_turn (sc := sc) (d1 := d1) (mn := mn) (ds := ds) (o6 := o6) hd hl hk.symm hx (by omega) (hq k _ (List.getElem?_eq_getElem (by omega))) (by omega) with ⟨o, b6, ho, e⟩ | ⟨hz, b6, e⟩
    · obtain ⟨xs', b3, c6, h1, h2, h3, h4, h5⟩ := lg_loop hd hl hq hdl n (k + 1) (xs ++ [o]) (some (tI k)) b6 (by omega) (by rw [List.length_append, List.length_singleton]; omega) (fun x hm => by
        rcases List.mem_append.mp hm with hm | hm
        · exact hx x hm
        · rw [List.mem_singleton.mp hm]; exact ho)
      have ne : xs' ≠ [] := h4 (by simp)
      refine ⟨xs', b3, c6, h1, by omega, fun _ _ => ne, fun _ => ne, ?_⟩
      rw [rng_cons, loop_nx (S1 := lgS sc d1 mn (some (tI k)) (some (.lst (ds.map tZ))) (some (.lst (xs.map tI))) o6 none) rfl e]
      exact h5
    · refine ⟨xs, some (tI k), b6, hx, by omega, fun _ hp => ?_, fun z => z, ?_⟩
      · intro hxe
        have : k = 0 := by rw [← hk, hxe]; rfl
        have := hz this
        omega
      · rw [rng_cons]
        exact loop_bk (S1 := lgS sc d1 mn (some (tI k)) (some (.lst (ds.map tZ))) (some (.lst (xs.map tI))) o6 none) rfl e
end K11
namespace K11
open PySem PySem.Spec PyProof.Rows L2 VS
theorem law_going_eq {ns : List Int} {d1 : T} {ts : List Tr} {mn : Nat} (hd : fz d1 = dTs ts) (hl : ts.length ≤ 1000) :
    ∃ xs : List Nat, (∀ x ∈ xs, x < ts.length) ∧ xs.length ≤ 30 ∧ (0 < ts.length → xs ≠ []) ∧ f_law_going [.sh (.lst (ns.map .int)), d1, tI mn] = some (.lst (xs.map tI), [some (.sh (.lst (ns.map .int))), some d1, some (tI mn)]) := by
  have hz : fz (.lst (((List.range 31).map fun _ => ((1000 : Nat) : Int)).map tZ)) = .lst (((List.range 31).map fun _ => ((1000 : Nat) : Int)).map .int) := fz_lst_tZ _
  obtain ⟨ds, q1, q2, q3⟩ := draws2_eq (ns := ns) (pl := 2) hz (const_ok 31 (by decide) (by decide)) (by simp)
  have dl : ds.length = 31 := by rw [q1, List.length_map, List.length_range]
  have dq : ∀ (i : Nat) (a : Int), ds[i]? = some a → 0 ≤ a := fun i a ha => by
    have hlt : i < 31 := by rw [← dl]; exact (List.getElem?_eq_some_iff.mp ha).1
    exact (q2 i a 1000 ha (by rw [List.getElem?_map, List.getElem?_range hlt]; rfl)).1
  have ei : (iRng1' (paCons (pC (.int 31)) ((fun _ => some [])))) (lgS (.sh (.lst (ns.map .int))) d1 mn none none none none none) = some (rngD 0 31, lgS (.sh (.lst (ns.map .int))) d1 mn none none none none none) := iRng1_of (n := 31) (pa1_of rfl) (by omega)
  have el : (eLc (iRng1' (paCons (pC (.int 31)) ((fun _ => some [])))) (putS 3) (qYes) (ofP (pC (.int 1000))) [3]) (lgS (.sh (.lst (ns.map .int))) d1 mn none none none none none) = some (.lst (((List.range 31).map fun _ => ((1000 : Nat) : Int)).map tZ), lgS (.sh (.lst (ns.map .int))) d1 mn none none none none none) :=
    eLc_rng (S' := fun k => lgS (.sh (.lst (ns.map .int))) d1 mn (some (tI k)) none none none none) ei rfl (by omega) (fun k => rfl) (fun k => rfl) (fun k => rfl)
  have g1 : (aMv 0 (aCons (ofP (pC (.int 2))) (aCons (eLc (iRng1' (paCons (pC (.int 31)) ((fun _ => some [])))) (putS 3) (qYes) (ofP (pC (.int 1000))) [3]) (aNil)))) (lgS (.sh (.lst (ns.map .int))) d1 mn none none none none none) = some ([.sh (.lst (ns.map .int)), tI 2, .lst (((List.range 31).map fun _ => ((1000 : Nat) : Int)).map tZ)], [none, some d1, some (tI mn), none, none, none, none, none]) :=
    aMv_of (S2 := lgS (.sh (.lst (ns.map .int))) d1 mn none none none none none) (u := .sh (.lst (ns.map .int))) rfl (aCons_of (S1 := lgS (.sh (.lst (ns.map .int))) d1 mn none none none none none) (t := tI 2) rfl (aCons_of el rfl)) rfl
  have e1 : (sAsg (eCall f_law_draws [some 0, none, none] (aMv 0 (aCons (ofP (pC (.int 2))) (aCons (eLc (iRng1' (paCons (pC (.int 31)) ((fun _ => some [])))) (putS 3) (qYes) (ofP (pC (.int 1000))) [3]) (aNil))))) (putS 4)) (lgS (.sh (.lst (ns.map .int))) d1 mn none none none none none) = some (.nx (lgS (.sh (.lst (ns.map .int))) d1 mn none (some (.lst (ds.map tZ))) none none none)) := by
    rw [draws_def]
    exact sAsg_of (eCall_of g1 q3 rfl) rfl
  have w2 : (sAsg (eLst (aNil)) (putS 5)) (lgS (.sh (.lst (ns.map .int))) d1 mn none (some (.lst (ds.map tZ))) none none none) = some (.nx (lgS (.sh (.lst (ns.map .int))) d1 mn none (some (.lst (ds.map tZ))) (some (.lst [])) none none)) := rfl
  have f4 : fz (.lst (ds.map tZ)) = .lst (ds.map .int) := fz_lst_tZ ds
  have h29 : 29 < ds.length := by omega
  have h30 : 30 < ds.length := by omega
  have c29 := dq 29 _ (List.getElem?_eq_getElem h29)
  have c30 := dq 30 _ (List.getElem?_eq_getElem h30)
  obtain ⟨j, hj, ej⟩ := fmod_nat (n := 2) c29 (by decide)
  have eM : ∃ m : Nat, 0 < m ∧ m ≤ 30 ∧ (eIx (eLst (aCons (ofP (pC (.int 12))) (aCons (ofP (pC (.int 30))) (aNil)))) (ofP (p2 dMod (pCall dInt (paCons (p2 dIx (pV 4) (pC (.int 29))) ((fun _ => some [])))) (pC (.int 2))))) (lgS (.sh (.lst (ns.map .int))) d1 mn none (some (.lst (ds.map tZ))) (some (.lst [])) none none) = some (tI m, lgS (.sh (.lst (ns.map .int))) d1 mn none (some (.lst (ds.map tZ))) (some (.lst [])) none none) := by
    have k1 : (eLst (aCons (ofP (pC (.int 12))) (aCons (ofP (pC (.int 30))) (aNil)))) (lgS (.sh (.lst (ns.map .int))) d1 mn none (some (.lst (ds.map tZ))) (some (.lst [])) none none) = some (.lst [tI 12, tI 30], lgS (.sh (.lst (ns.map .int))) d1 mn none (some (.lst (ds.map tZ))) (some (.lst [])) none none) := rfl
    have k2 : (ofP (p2 dMod (pCall dInt (paCons (p2 dIx (pV 4) (pC (.int 29))) ((fun _ => some [])))) (pC (.int 2)))) (lgS (.sh (.lst (ns.map .int))) d1 mn none (some (.lst (ds.map tZ))) (some (.lst [])) none none) = some (tI j, lgS (.sh (.lst (ns.map .int))) d1 mn none (some (.lst (ds.map tZ))) (some (.lst [])) none none) := by
      refine ofP_of (p2_of (pc1_of (p2_of (x := .lst (ds.map .int)) (congrArg some f4) rfl (dIx_ints h29)) rfl) rfl ((dMod_of (by omega)).trans ?_)) rfl
      rw [show (2 : Int) = ((2 : Nat) : Int) from rfl, ej]
    rcases (show j = 0 ∨ j = 1 by omega) with h | h
    · exact ⟨12, by decide, by decide, eIx_of k1 k2 rfl (by rw [h]; rfl)⟩
    · exact ⟨30, by decide, by decide, eIx_of k1 k2 rfl (by rw [h]; rfl)⟩
  obtain ⟨m, m0, m1, eM⟩ := eM
  obtain ⟨i, hi, ei⟩ := fmod_nat (n := m) c30 m0
  have eR : (iRng1E (e2 dAdd (ofP (pC (.int 1))) (e2 dMod (ofP (pCall dInt (paCons (p2 dIx (pV 4) (pC (.int 30))) ((fun _ => some []))))) (eIx (eLst (aCons (ofP (pC (.int 12))) (aCons (ofP (pC (.int 30))) (aNil)))) (ofP (p2 dMod (pCall dInt (paCons (p2 dIx (pV 4) (pC (.int 29))) ((fun _ => some [])))) (pC (.int 2)))))))) (lgS (.sh (.lst (ns.map .int))) d1 mn none (some (.lst (ds.map tZ))) (some (.lst [])) none none) = some (rngD 0 (1 + i), lgS (.sh (.lst (ns.map .int))) d1 mn none (some (.lst (ds.map tZ))) (some (.lst [])) none none) := by
    have k0 : (ofP (pCall dInt (paCons (p2 dIx (pV 4) (pC (.int 30))) ((fun _ => some []))))) (lgS (.sh (.lst (ns.map .int))) d1 mn none (some (.lst (ds.map tZ))) (some (.lst [])) none none) = some (tZ ds[30], lgS (.sh (.lst (ns.map .int))) d1 mn none (some (.lst (ds.map tZ))) (some (.lst [])) none none) :=
      ofP_of (pc1_of (p2_of (x := .lst (ds.map .int)) (congrArg some f4) rfl (dIx_ints h30)) rfl) rfl
    have k1 : (e2 dMod (ofP (pCall dInt (paCons (p2 dIx (pV 4) (pC (.int 30))) ((fun _ => some []))))) (eIx (eLst (aCons (ofP (pC (.int 12))) (aCons (ofP (pC (.int 30))) (aNil)))) (ofP (p2 dMod (pCall dInt (paCons (p2 dIx (pV 4) (pC (.int 29))) ((fun _ => some [])))) (pC (.int 2)))))) (lgS (.sh (.lst (ns.map .int))) d1 mn none (some (.lst (ds.map tZ))) (some (.lst [])) none none) = some (tI i, lgS (.sh (.lst (ns.map .int))) d1 mn none (some (.lst (ds.map tZ))) (some (.lst [])) none none) :=
      e2_of k0 eM ((dMod_of (by omega)).trans (by rw [ei])) rfl
    have k2 : (ofP (pC (.int 1))) (lgS (.sh (.lst (ns.map .int))) d1 mn none (some (.lst (ds.map tZ))) (some (.lst [])) none none) = some (tI 1, lgS (.sh (.lst (ns.map .int))) d1 mn none (some (.lst (ds.map tZ))) (some (.lst [])) none none) := rfl
    exact iRng1E_of (n := 1 + i) (e2_of k2 k1 rfl rfl) (by omega)
  obtain ⟨xs, b3, b6, x1, x2, x3, _, x5⟩ := lg_loop (sc := .sh (.lst (ns.map .int))) (d1 := d1) (mn := mn) hd hl dq (by omega) (1 + i) 0 [] none none (by omega) rfl (by simp)
  have e4 : b_f_law_going (lgS (.sh (.lst (ns.map .int))) d1 mn none none none none none) = some (.rt (.lst (xs.map tI)) ((lgS (.sh (.lst (ns.map .int))) d1 mn b3 (some (.lst (ds.map tZ))) (some (.lst (xs.map tI))) b6 none).set 5 none)) := by
    rw [b_f_law_going, sSeq_nx e1, sSeq_nx w2, sSeq_nx ((mFor_of eR).trans x5)]
    rfl
  refine ⟨xs, x1, by omega, fun hp => x3 (by omega) hp, ?_⟩
  unfold f_law_going
  rw [mkFn_rt (np := 3) (ns := 8) (as := []) (ts := [.sh (.lst (ns.map .int)), d1, tI mn]) (S := lgS (.sh (.lst (ns.map .int))) d1 mn none none none none none) rfl rfl e4]
  rfl
end K11
namespace K11
open PySem PySem.Spec PyProof.Rows L2 VS
/-- a call of the draws, the script in slot 0 -/
theorem draws_c {S S2 : Sto} {ns : List Int} {pl : Nat} {me : ME} {sz : T} {szs : List Int} (h0 : S[0]? = some (some (.sh (.lst (ns.map .int))))) (hm : me S = some (sz, S2)) (h2 : S2[0]? = some (some (.sh (.lst (ns.map .int))))) (hz : fz sz = .lst (szs.map .int)) (ok : SzOk szs) (hl : szs.length ≤ 1000000) :
    ∃ ds : List Int, ds.length = szs.length ∧ (∀ (i : Nat) (a b : Int), ds[i]? = some a → szs[i]? = some b → 0 ≤ a ∧ a < b) ∧ eCall f_law_draws [some 0, none, none] (aMv 0 (aCons (ofP (pC (.int (pl : Nat)))) (aCons me (aNil)))) S = some (.lst (ds.map tZ), S2) := by
  obtain ⟨ds, q1, q2, q3⟩ := draws2_eq (ns := ns) (pl := pl) hz ok hl
  refine ⟨ds, q1, q2, ?_⟩
  have g : (aMv 0 (aCons (ofP (pC (.int (pl : Nat)))) (aCons me (aNil)))) S = some ([.sh (.lst (ns.map .int)), tI pl, sz], S2.set 0 none) :=
    aMv_of h0 (aCons_of (S1 := S) (t := tI pl) rfl (aCons_of (r := aNil) hm rfl)) h2
  rw [draws_def, eCall_of g q3 rfl]
  show some (_, (S2.set 0 none).set 0 (some (.sh (.lst (ns.map .int))))) = _
  rw [List.set_set, set_at h2]
/-- slices of numbers -/
theorem fz_cut {ds : List Int} {lo hi : Option Int} : VS.cutD (ds.map D.int) lo hi = (VS.cutD ds lo hi).map D.int := by
  unfold VS.cutD
  rw [List.length_map, List.map_take, List.map_drop]
theorem eSlL_ints {m : ME} {l h : Sto → Option (Option Int)} {S S1 : Sto} {t : T} {ds : List Int} {lo hi : Option Int} (h1 : m S = some (t, S1)) (hz : fz t = .lst (ds.map .int)) (h2 : l S1 = some lo) (h3 : h S1 = some hi) : eSlL m l h S = some (.lst ((VS.cutD ds lo hi).map tZ), S1) := by
  unfold eSlL
  rw [h1, Option.bind_some]
  simp only [h2, h3, Option.bind_some, hz]
  rw [fz_cut, List.map_map]
  rfl
theorem cut_mem {α : Type} {l : List α} {lo hi : Option Int} {x : α} (h : x ∈ VS.cutD l lo hi) : x ∈ l := by
  unfold VS.cutD at h
  exact List.mem_of_mem_drop (List.mem_of_mem_take h)
theorem cut_len {α : Type} (l : List α) (lo hi : Option Int) : (VS.cutD l lo hi).length ≤ l.length := by
  unfold VS.cutD
  rw [List.length_take, List.length_drop]
  omega
theorem oPart_some {m : MP} {S : Sto} {i : Int} (h : m S = some (.int i)) : oPart (some m) S = some (some i) := by
  unfold oPart
  simp only [h, Option.bind_some]
theorem oPart_none {S : Sto} : oPart none S = some none := rfl
end K11
namespace K11
open PySem PySem.Spec PyProof.Rows L2 VS
/-- weights of drawn numbers, by a comprehension (i: the slot of its name) -/
theorem lc_weights {i : Nat} {S : Sto} (hi : i < S.length) (hs : S[i]? = some none) : ∀ (ds : List Int) (acc : List Int), (∀ w ∈ acc, WOk w) → acc.length + ds.length ≤ 16777215 →
    ∃ ws : List Int, ws.length = acc.length + ds.length ∧ (∀ w ∈ ws, WOk w) ∧ lcGo (putS i) qYes (eCall f_law_weight [some i] (aMv i (aNil))) [i] (ds.map .int) S (acc.map tZ) = some (ws.map tZ, S)
  | [], acc, ha, _ => ⟨acc, rfl, ha, rfl⟩
  | d :: ds, acc, ha, hl => by
    rw [List.length_cons] at hl
    obtain ⟨w, hw, ew⟩ := weight_eq (x := d)
    have hi2 : (S.set i (some (tZ d)))[i]? = some (some (tZ d)) := List.getElem?_set_self hi
    have g1 : aMv i aNil (S.set i (some (tZ d))) = some ([tZ d], (S.set i (some (tZ d))).set i none) := aMv_of hi2 rfl hi2
    have g2 : eCall f_law_weight [some i] (aMv i aNil) (S.set i (some (tZ d))) = some (tZ w, S.set i (some (tZ d))) := by
      rw [eCall_of g1 ew rfl]
      show some (_, (((S.set i (some (tZ d))).set i none).set i (some (tZ d)))) = _
      rw [List.set_set, List.set_set]
    have hp : putS i (tZ d) S = some (S.set i (some (tZ d))) := if_pos hi
    have wp : wipeS (S.set i (some (tZ d))) [i] = S := by
      show (S.set i (some (tZ d))).set i none = S
      rw [List.set_set, set_at hs]
    obtain ⟨ws, h1, h2, h3⟩ := lc_weights hi hs ds (acc ++ [w]) (fun x hx => by
      rcases List.mem_append.mp hx with hx | hx
      · exact ha x hx
      · rw [List.mem_singleton.mp hx]; exact hw) (by rw [List.length_append, List.length_singleton]; omega)
    refine ⟨ws, by rw [h1, List.length_append, List.length_singleton, List.length_cons]; omega, h2, ?_⟩
    rw [List.map_cons, lc_step hp rfl g2 (by rw [List.length_map, sizeLine_val]; omega), wp]
    rw [show (acc ++ [w]).map tZ = acc.map tZ ++ [tZ w] by rw [List.map_append]; rfl] at h3
    exact h3
/-- the sizes 10 ** 42 -/
theorem big_ok (n : Nat) : SzOk ((List.range n).map fun _ => (1000000000000000000000000000000000000000000 : Int)) := by
  intro z hz
  obtain ⟨k, _, rfl⟩ := List.mem_map.mp hz
  exact ⟨by omega, sz_big⟩
/-- weights drawn in one go: [_law_weight(draw) for draw in _law_draws(script, pl, [10 ** 42 for k in range(n)])] -/
theorem weights_c {S S2 : Sto} {ns : List Int} {pl n i : Nat} {me : ME} (hn : n ≤ 1000) (h0 : S[0]? = some (some (.sh (.lst (ns.map .int))))) (hm : me S = some (.lst (((List.range n).map fun _ => (1000000000000000000000000000000000000000000 : Int)).map tZ), S2)) (h2 : S2[0]? = some (some (.sh (.lst (ns.map .int))))) (hi : i < S2.length) (hs : S2[i]? = some none) :
    ∃ ws : List Int, ws.length = n ∧ (∀ w ∈ ws, WOk w) ∧ eLc (iList' (eCall f_law_draws [some 0, none, none] (aMv 0 (aCons (ofP (pC (.int (pl : Nat)))) (aCons me (aNil)))))) (putS i) (qYes) (eCall f_law_weight [some i] (aMv i (aNil))) [i] S = some (.lst (ws.map tZ), S2) := by
  obtain ⟨ds, q1, q2, q3⟩ := draws_c (pl := pl) h0 hm h2 (fz_lst_tZ _) (big_ok n) (by rw [List.length_map, List.length_range]; omega)
  have dl : ds.length = n := by rw [q1, List.length_map, List.length_range]
  obtain ⟨ws, h1, h3, h4⟩ := lc_weights hi hs ds [] (by simp) (by simp; omega)
  refine ⟨ws, by rw [h1, List.length_nil, Nat.zero_add, dl], h3, ?_⟩
  refine eLc_of (S1 := S2) (ds := ds.map .int) ?_ ?_
  · unfold iList'
    rw [q3, Option.bind_some]
    simp only [fz_lst_tZ]
  · show lcGo _ _ _ _ _ (S2.set i none) [] = _
    rw [set_at hs]
    exact h4
end K11
namespace K11
open PySem PySem.Spec PyProof.Rows L2 VS
/-! ### _law_path -/
abbrev lpS (sc d1 : T) (mn : Nat) (cl : Bool) (o4 o5 o6 o7 o8 o9 o10 o11 o12 : Option T) : Sto := [some sc, some d1, some (tI mn), some (tBl cl), o4, o5, o6, o7, o8, o9, o10, o11, o12, none, none, none]
abbrev lpD : MS := (sAsg (eCall f_law_draws [some 0, none, none] (aMv 0 (aCons (ofP (pC (.int 3))) (aCons (e2T addT (eLst (aCons (ofP (pC (.int 8))) (aCons (ofP (pC (.int 6))) (aCons (ofP (pC (.int 5))) (aNil))))) (eLc (iRng1' (paCons (pC (.int 8)) ((fun _ => some [])))) (putS 14) (qYes) (ofP (p2 dAdd (pV 2) (pC (.int 1)))) [14])) (aNil))))) (putS 4))
abbrev lpW : MS := (sAsg (eLc (iList' (eCall f_law_draws [some 0, none, none] (aMv 0 (aCons (ofP (pC (.int 4))) (aCons (eLc (iRng1' (paCons (pC (.int 9)) ((fun _ => some [])))) (putS 14) (qYes) (ofP (p2 dPow (pC (.int 10)) (pC (.int 42)))) [14]) (aNil)))))) (putS 13) (qYes) (eCall f_law_weight [some 13] (aMv 13 (aNil))) [13]) (putS 5))
def lpSz (mn : Nat) : List Int := [8, 6, 5] ++ (List.range 8).map fun _ => ((mn + 1 : Nat) : Int)
theorem lpSz_ok {mn : Nat} (h : mn < 1000000) : SzOk (lpSz mn) := by
  intro z hz
  rcases List.mem_append.mp hz with hz | hz
  · have : z = 8 ∨ z = 6 ∨ z = 5 := by simpa using hz
    rcases this with rfl | rfl | rfl <;> exact ⟨by omega, by decide +kernel⟩
  · exact const_ok 8 (m := mn + 1) (by omega) (by omega) z hz
theorem lp_draws {ns : List Int} {d1 : T} {mn : Nat} {cl : Bool} (hm : mn < 1000000) : ∃ ds : List Int, ds.length = 11 ∧ (∀ (i : Nat) (a b : Int), ds[i]? = some a → (lpSz mn)[i]? = some b → 0 ≤ a ∧ a < b) ∧ lpD (lpS (.sh (.lst (ns.map .int))) d1 mn cl none none none none none none none none none) = some (.nx (lpS (.sh (.lst (ns.map .int))) d1 mn cl (some (.lst (ds.map tZ))) none none none none none none none none)) := by
  have el : (eLc (iRng1' (paCons (pC (.int 8)) ((fun _ => some [])))) (putS 14) (qYes) (ofP (p2 dAdd (pV 2) (pC (.int 1)))) [14]) (lpS (.sh (.lst (ns.map .int))) d1 mn cl none none none none none none none none none) = some (.lst (((List.range 8).map fun _ => ((mn + 1 : Nat) : Int)).map tZ), lpS (.sh (.lst (ns.map .int))) d1 mn cl none none none none none none none none none) :=
    eLc_rng (S' := fun k => [some (.sh (.lst (ns.map .int))), some d1, some (tI mn), some (tBl cl), none, none, none, none, none, none, none, none, none, none, some (tI k), none]) (iRng1_of (n := 8) (pa1_of rfl) (by omega)) rfl (by omega) (fun k => rfl) (fun k => rfl) (fun k => rfl)
  have e0 : (eLst (aCons (ofP (pC (.int 8))) (aCons (ofP (pC (.int 6))) (aCons (ofP (pC (.int 5))) (aNil))))) (lpS (.sh (.lst (ns.map .int))) d1 mn cl none none none none none none none none none) = some (.lst [tZ 8, tZ 6, tZ 5], lpS (.sh (.lst (ns.map .int))) d1 mn cl none none none none none none none none none) := rfl
  have es : (e2T addT (eLst (aCons (ofP (pC (.int 8))) (aCons (ofP (pC (.int 6))) (aCons (ofP (pC (.int 5))) (aNil))))) (eLc (iRng1' (paCons (pC (.int 8)) ((fun _ => some [])))) (putS 14) (qYes) (ofP (p2 dAdd (pV 2) (pC (.int 1)))) [14])) (lpS (.sh (.lst (ns.map .int))) d1 mn cl none none none none none none none none none) = some (.lst ((lpSz mn).map tZ), lpS (.sh (.lst (ns.map .int))) d1 mn cl none none none none none none none none none) := by
    refine e2T_of e0 el ((addT_of rfl rfl (by rw [sizeLine_val]; simp)).trans ?_)
    rfl
  obtain ⟨ds, q1, q2, q3⟩ := draws_c (pl := 3) (S := lpS (.sh (.lst (ns.map .int))) d1 mn cl none none none none none none none none none) rfl es rfl (fz_lst_tZ _) (lpSz_ok hm) (by simp [lpSz])
  exact ⟨ds, by rw [q1]; rfl, q2, sAsg_of q3 rfl⟩
theorem lp_weights {ns : List Int} {d1 : T} {mn : Nat} {cl : Bool} {o4 : Option T} : ∃ ws : List Int, ws.length = 9 ∧ (∀ w ∈ ws, WOk w) ∧ lpW (lpS (.sh (.lst (ns.map .int))) d1 mn cl o4 none none none none none none none none) = some (.nx (lpS (.sh (.lst (ns.map .int))) d1 mn cl o4 (some (.lst (ws.map tZ))) none none none none none none none)) := by
  have el : (eLc (iRng1' (paCons (pC (.int 9)) ((fun _ => some [])))) (putS 14) (qYes) (ofP (p2 dPow (pC (.int 10)) (pC (.int 42)))) [14]) (lpS (.sh (.lst (ns.map .int))) d1 mn cl o4 none none none none none none none none) = some (.lst (((List.range 9).map fun _ => (1000000000000000000000000000000000000000000 : Int)).map tZ), lpS (.sh (.lst (ns.map .int))) d1 mn cl o4 none none none none none none none none) :=
    eLc_rng (S' := fun k => [some (.sh (.lst (ns.map .int))), some d1, some (tI mn), some (tBl cl), o4, none, none, none, none, none, none, none, none, none, some (tI k), none]) (iRng1_of (n := 9) (pa1_of rfl) (by omega)) rfl (by omega) (fun k => rfl) (fun k => ofP_of (p2_of rfl rfl pw42) rfl) (fun k => rfl)
  obtain ⟨ws, h1, h2, h3⟩ := weights_c (pl := 4) (i := 13) (S := lpS (.sh (.lst (ns.map .int))) d1 mn cl o4 none none none none none none none none) (by decide) rfl el rfl (by show 13 < 16; decide) rfl
  exact ⟨ws, h1, h2, sAsg_of h3 rfl⟩
end K11
namespace K11
open PySem PySem.Spec PyProof.Rows L2 VS
theorem cut_nat {α : Type} {l : List α} {a b : Nat} (h : b ≤ l.length) (h2 : a ≤ b) : VS.cutD l (some (a : Nat)) (some (b : Nat)) = (l.drop a).take (b - a) := by
  unfold VS.cutD
  rw [HT.sIx_nat, HT.sIx_nat, Nat.min_eq_left h, Nat.min_eq_left (by omega)]
theorem kidsL_tZ (vs : List Int) : kidsL (.lst (vs.map tZ)) = some (vs.map tZ) := rfl
abbrev lpN1 : MS := (sAsg (eSlL (eVar 4) (oPart (some (pC (.int 3)))) (oPart (some (p2 dAdd (pC (.int 4)) (p2 dIx (pV 4) (pC (.int 0))))))) (putS 6))
abbrev lpN2 : MS := (sIf (ofB (pB (pV 3))) (sAsg (e2T addT (eVar 6) (eSlL (eVar 6) (oPart none) (oPart (some (pC (.int 1)))))) (putS 6)) (sAsg (e2T addT (eLst (aCons (ofP (pC (.int 0))) (aNil))) (eVar 6)) (putS 6)))
theorem lp_nodes1 {sc d1 : T} {mn : Nat} {cl : Bool} {ds ws : List Int} (dl : ds.length = 11) (hb : ∀ (i : Nat) (a b : Int), ds[i]? = some a → (lpSz mn)[i]? = some b → 0 ≤ a ∧ a < b) :
    ∃ nd : List Int, 1 ≤ nd.length ∧ nd.length ≤ 8 ∧ (∀ x ∈ nd, 0 ≤ x ∧ x ≤ mn) ∧ lpN1 (lpS sc d1 mn cl (some (.lst (ds.map tZ))) (some (.lst (ws.map tZ))) none none none none none none none) = some (.nx (lpS sc d1 mn cl (some (.sh (.lst (ds.map .int)))) (some (.lst (ws.map tZ))) (some (.lst (nd.map tZ))) none none none none none none)) := by
  have h0 : 0 < ds.length := by omega
  have c0 := hb 0 ds[0] 8 (List.getElem?_eq_getElem h0) rfl
  obtain ⟨m, em⟩ := Int.eq_ofNat_of_zero_le c0.1
  have hm : m < 8 := by omega
  have f4 : fz (.lst (ds.map tZ)) = .lst (ds.map .int) := fz_lst_tZ ds
  have k1 : eVar 4 (lpS sc d1 mn cl (some (.lst (ds.map tZ))) (some (.lst (ws.map tZ))) none none none none none none none) = some (.sh (.lst (ds.map .int)), lpS sc d1 mn cl (some (.sh (.lst (ds.map .int)))) (some (.lst (ws.map tZ))) none none none none none none none) := by
    rw [eVar_of (t := .lst (ds.map tZ)) rfl, f4]
    rfl
  have k2 : oPart (some (p2 dAdd (pC (.int 4)) (p2 dIx (pV 4) (pC (.int 0))))) (lpS sc d1 mn cl (some (.sh (.lst (ds.map .int)))) (some (.lst (ws.map tZ))) none none none none none none none) = some (some ((4 + m : Nat) : Int)) := by
    refine oPart_some (p2_of rfl (p2_of (x := .lst (ds.map .int)) rfl rfl (dIx_ints (j := 0) h0)) ?_)
    rw [em]
    show some (D.int (4 + (m : Int))) = _
    congr 2
  have k3 := eSlL_ints (m := eVar 4) (l := oPart (some (pC (.int 3)))) (h := oPart (some (p2 dAdd (pC (.int 4)) (p2 dIx (pV 4) (pC (.int 0)))))) (lo := some ((3 : Nat) : Int)) k1 (ds := ds) rfl rfl k2
  have hc : VS.cutD ds (some ((3 : Nat) : Int)) (some ((4 + m : Nat) : Int)) = (ds.drop 3).take (4 + m - 3) := cut_nat (by omega) (by omega)
  rw [hc] at k3
  refine ⟨(ds.drop 3).take (4 + m - 3), ?_, ?_, fun x hx => ?_, sAsg_of k3 rfl⟩
  · rw [List.length_take, List.length_drop]; omega
  · rw [List.length_take, List.length_drop]; omega
  · obtain ⟨i, hi, ex⟩ := List.mem_iff_getElem.mp (List.mem_of_mem_take hx)
    rw [List.length_drop] at hi
    rw [List.getElem_drop] at ex
    have hs : (lpSz mn)[3 + i]? = some ((mn + 1 : Nat) : Int) := by
      unfold lpSz
      rw [List.getElem?_append_right (by simp), List.getElem?_map, List.getElem?_range (by simp; omega)]
      rfl
    have := hb (3 + i) ds[3 + i] _ (List.getElem?_eq_getElem (by omega)) hs
    rw [ex] at this
    omega
theorem lp_nodes2 {sc d1 : T} {mn : Nat} {cl : Bool} {o4 o5 : Option T} {nd : List Int} (h1 : 1 ≤ nd.length) (h2 : nd.length ≤ 8) (hx : ∀ x ∈ nd, 0 ≤ x ∧ x ≤ mn) :
    ∃ n2 : List Int, n2.length = nd.length + 1 ∧ (∀ x ∈ n2, 0 ≤ x ∧ x ≤ mn) ∧ lpN2 (lpS sc d1 mn cl o4 o5 (some (.lst (nd.map tZ))) none none none none none none) = some (.nx (lpS sc d1 mn cl o4 o5 (some (.lst (n2.map tZ))) none none none none none none)) := by
  have q : (ofB (pB (pV 3))) (lpS sc d1 mn cl o4 o5 (some (.lst (nd.map tZ))) none none none none none none) = some (cl, lpS sc d1 mn cl o4 o5 (some (.lst (nd.map tZ))) none none none none none none) := ofB_of (pB_of rfl)
  have k1 : eVar 6 (lpS sc d1 mn cl o4 o5 (some (.lst (nd.map tZ))) none none none none none none) = some (.sh (.lst (nd.map .int)), lpS sc d1 mn cl o4 o5 (some (.sh (.lst (nd.map .int)))) none none none none none none) := by
    rw [eVar_of (t := .lst (nd.map tZ)) rfl, fz_lst_tZ]
    rfl
  cases cl with
  | true =>
    have k2 : eVar 6 (lpS sc d1 mn true o4 o5 (some (.sh (.lst (nd.map .int)))) none none none none none none) = some (.sh (.lst (nd.map .int)), lpS sc d1 mn true o4 o5 (some (.sh (.lst (nd.map .int)))) none none none none none none) := rfl
    have k3 := eSlL_ints (m := eVar 6) (l := oPart none) (h := oPart (some (pC (.int 1)))) (lo := none) (hi := some ((1 : Nat) : Int)) k2 (ds := nd) rfl rfl rfl
    have hl : (VS.cutD nd none (some ((1 : Nat) : Int))).length = 1 := by
      unfold VS.cutD
      rw [HT.sIx_nat, List.length_take, List.length_drop]
      show min (min 1 nd.length - 0) (nd.length - 0) = 1
      omega
    have hs : nd.length + (VS.cutD nd none (some ((1 : Nat) : Int))).length ≤ sizeLine := by rw [hl, sizeLine_val]; omega
    have k4 := e2T_of (g := addT) k1 k3 (addT_of (kidsL_ints nd) (kidsL_tZ _) (by rw [List.length_map, List.length_map]; exact hs))
    refine ⟨nd ++ VS.cutD nd none (some ((1 : Nat) : Int)), by rw [List.length_append, hl], fun x hm => ?_, ?_⟩
    · rcases List.mem_append.mp hm with hm | hm
      · exact hx x hm
      · exact hx x (cut_mem hm)
    · rw [lpN2, sIf_t q, List.map_append]
      exact sAsg_of k4 rfl
  | false =>
    have k0 : (eLst (aCons (ofP (pC (.int 0))) (aNil))) (lpS sc d1 mn false o4 o5 (some (.lst (nd.map tZ))) none none none none none none) = some (.lst [tI 0], lpS sc d1 mn false o4 o5 (some (.lst (nd.map tZ))) none none none none none none) := rfl
    refine ⟨0 :: nd, by rw [List.length_cons], fun x hm => ?_, ?_⟩
    · rcases List.mem_cons.mp hm with rfl | hm
      · exact ⟨by omega, by omega⟩
      · exact hx x hm
    · rw [lpN2, sIf_f q]
      exact sAsg_of (e2T_of k0 k1 (addT0 (kidsL_ints nd) (by omega))) rfl
end K11
namespace K11
open PySem PySem.Spec PyProof.Rows L2 VS
/-- a comprehension over a range, of any trees -/
theorem lc_rngT {g : T → Sto → Option Sto} {te : ME} {own : List Nat} {S : Sto} {S' : Nat → Sto} {f : Nat → T} {N : Nat} (h1 : ∀ k : Nat, g (tI k) S = some (S' k)) (h2 : ∀ k : Nat, k < N → te (S' k) = some (f k, S' k)) (h3 : ∀ k : Nat, wipeS (S' k) own = S) :
    ∀ (n k : Nat) (acc : List T), k + n = N → acc.length + n ≤ 16777215 → lcGo g qYes te own (rngD (k : Nat) n) S acc = some (acc ++ (List.range' k n).map f, S)
  | 0, k, acc, _, _ => by rw [List.range'_zero, List.map_nil, List.append_nil]; rfl
  | n + 1, k, acc, hN, h => by
    have ih := lc_rngT h1 h2 h3 n (k + 1) (acc ++ [f k]) (by omega) (by rw [List.length_append, List.length_singleton]; omega)
    rw [rng_cons, lc_step (h1 k) rfl (h2 k (by omega)) (by rw [sizeLine_val]; omega), h3 k, List.range'_succ, List.map_cons]
    refine ih.trans ?_
    rw [List.append_assoc]
    rfl
abbrev lpC : MS := (sAsg (ofP (p2 dSub (pCall dLen (paCons (pV 6) ((fun _ => some [])))) (pC (.int 1)))) (putS 7))
abbrev lpE : MS := (sAsg (eLc (iRng1' (paCons (pV 7) ((fun _ => some [])))) (putS 14) (qYes) (eTup (aCons (ofP (p2 dIx (pV 6) (pV 14))) (aCons (ofP (p2 dIx (pV 6) (p2 dAdd (pV 14) (pC (.int 1))))) (aCons (ofP (p2 dIx (pV 5) (pV 14))) (aNil))))) [14]) (putS 8))
theorem lp_edges {sc d1 : T} {mn c : Nat} {cl : Bool} {o4 : Option T} {nd ws : List Int} (hn : nd.length = c + 1) (hc : c ≤ 8) (hw : ws.length = 9) (hx : ∀ x ∈ nd, 0 ≤ x ∧ x ≤ mn) (hk : ∀ w ∈ ws, WOk w) :
    ∃ es : List Tr, es.length = c ∧ (∀ e ∈ es, Nd mn e ∧ WOk e.2.2) ∧ ∀ r : MS, sSeq lpC (sSeq lpE r) (lpS sc d1 mn cl o4 (some (.lst (ws.map tZ))) (some (.lst (nd.map tZ))) none none none none none none) = r (lpS sc d1 mn cl o4 (some (.lst (ws.map tZ))) (some (.lst (nd.map tZ))) (some (tI c)) (some (.lst (es.map trT))) none none none none) := by
  have f6 : fz (.lst (nd.map tZ)) = .lst (nd.map .int) := fz_lst_tZ nd
  have f5 : fz (.lst (ws.map tZ)) = .lst (ws.map .int) := fz_lst_tZ ws
  have e1 : lpC (lpS sc d1 mn cl o4 (some (.lst (ws.map tZ))) (some (.lst (nd.map tZ))) none none none none none none) = some (.nx (lpS sc d1 mn cl o4 (some (.lst (ws.map tZ))) (some (.lst (nd.map tZ))) (some (tI c)) none none none none none)) := by
    refine sAsg_of (t := tI c) (ofP_of (p2_of (pc1_of (x := .lst (nd.map .int)) (congrArg some f6) (dLen_ints nd)) rfl ?_) rfl) rfl
    rw [hn]
    show some (D.int (((c + 1 : Nat) : Int) - 1)) = _
    congr 2
    omega
  let f : Nat → Tr := fun k => (nd.getD k 0, nd.getD (k + 1) 0, ws.getD k 0)
  let S' : Nat → Sto := fun k => [some sc, some d1, some (tI mn), some (tBl cl), o4, some (.lst (ws.map tZ)), some (.lst (nd.map tZ)), some (tI c), none, none, none, none, none, none, some (tI k), none]
  have te : ∀ k : Nat, k < c → (eTup (aCons (ofP (p2 dIx (pV 6) (pV 14))) (aCons (ofP (p2 dIx (pV 6) (p2 dAdd (pV 14) (pC (.int 1))))) (aCons (ofP (p2 dIx (pV 5) (pV 14))) (aNil))))) (S' k) = some (trT (f k), S' k) := fun k hkc => by
    have i0 : k < nd.length := by omega
    have i1 : k + 1 < nd.length := by omega
    have i2 : k < ws.length := by omega
    have g0 : (ofP (p2 dIx (pV 6) (pV 14))) (S' k) = some (tZ (nd.getD k 0), S' k) := by
      refine ofP_of (p2_of (x := .lst (nd.map .int)) (congrArg some f6) rfl ((dIx_ints i0).trans ?_)) rfl
      rw [List.getD_eq_getElem?_getD, List.getElem?_eq_getElem i0]
      rfl
    have g1 : (ofP (p2 dIx (pV 6) (p2 dAdd (pV 14) (pC (.int 1))))) (S' k) = some (tZ (nd.getD (k + 1) 0), S' k) := by
      refine ofP_of (p2_of (x := .lst (nd.map .int)) (congrArg some f6) (p2_of (z := .int ((k + 1 : Nat) : Int)) rfl rfl rfl) ((dIx_ints i1).trans ?_)) rfl
      rw [List.getD_eq_getElem?_getD, List.getElem?_eq_getElem i1]
      rfl
    have g2 : (ofP (p2 dIx (pV 5) (pV 14))) (S' k) = some (tZ (ws.getD k 0), S' k) := by
      refine ofP_of (p2_of (x := .lst (ws.map .int)) (congrArg some f5) rfl ((dIx_ints i2).trans ?_)) rfl
      rw [List.getD_eq_getElem?_getD, List.getElem?_eq_getElem i2]
      rfl
    unfold eTup
    rw [aCons_of g0 (aCons_of g1 (aCons_of (r := aNil) g2 rfl))]
    rfl
  have lc := lc_rngT (g := putS 14) (own := [14]) (S := lpS sc d1 mn cl o4 (some (.lst (ws.map tZ))) (some (.lst (nd.map tZ))) (some (tI c)) none none none none none) (S' := S') (f := fun k => trT (f k)) (fun k => rfl) te (fun k => rfl) c 0 [] (by omega) (by simp; omega)
  have ei : (iRng1' (paCons (pV 7) ((fun _ => some [])))) (lpS sc d1 mn cl o4 (some (.lst (ws.map tZ))) (some (.lst (nd.map tZ))) (some (tI c)) none none none none none) = some (rngD 0 c, lpS sc d1 mn cl o4 (some (.lst (ws.map tZ))) (some (.lst (nd.map tZ))) (some (tI c)) none none none none none) := iRng1_of (pa1_of rfl) (by omega)
  have el := eLc_of (own := [14]) ei lc
  refine ⟨(List.range' 0 c).map f, by rw [List.length_map, List.length_range'], fun e he => ?_, fun r => ?_⟩
  · obtain ⟨k, hk2, rfl⟩ := List.mem_map.mp he
    rw [List.mem_range'_1] at hk2
    have i0 : k < nd.length := by omega
    have i1 : k + 1 < nd.length := by omega
    have i2 : k < ws.length := by omega
    have a := hx _ (List.getElem_mem i0)
    have b := hx _ (List.getElem_mem i1)
    have d := hk _ (List.getElem_mem i2)
    show (0 ≤ nd.getD k 0 ∧ nd.getD k 0 ≤ mn ∧ 0 ≤ nd.getD (k + 1) 0 ∧ nd.getD (k + 1) 0 ≤ mn) ∧ WOk (ws.getD k 0)
    rw [List.getD_eq_getElem?_getD, List.getElem?_eq_getElem i0, List.getD_eq_getElem?_getD, List.getElem?_eq_getElem i1, List.getD_eq_getElem?_getD, List.getElem?_eq_getElem i2]
    exact ⟨⟨a.1, a.2, b.1, b.2⟩, d⟩
  · rw [sSeq_nx e1, sSeq_nx (sAsg_of el rfl), List.nil_append, List.map_map]
    rfl
end K11
/-! The combinators as simp equations: each is opened only where it is applied to a state; `simp` then reckons a body from a state of slots. -/
namespace VS
open PySem PySem.Spec PyProof.Rows L2
def gS (S : Sto) (i : Nat) : Option (Option T) := S[i]?
def uS (S : Sto) (i : Nat) (o : Option T) : Sto := S.set i o
@[simp] theorem gS_0 {x0 : Option T} {S : Sto} : gS (x0 :: S) 0 = some x0 := rfl
@[simp] theorem uS_0 {x0 o : Option T} {S : Sto} : uS (x0 :: S) 0 o = o :: S := rfl
@[simp] theorem putS_0 {x0 : Option T} {t : T} {S : Sto} : putS 0 t (x0 :: S) = some (some t :: S) := if_pos (by simp only [List.length_cons]; omega)
@[simp] theorem gS_1 {x0 x1 : Option T} {S : Sto} : gS (x0 :: x1 :: S) 1 = some x1 := rfl
@[simp] theorem uS_1 {x0 x1 o : Option T} {S : Sto} : uS (x0 :: x1 :: S) 1 o = x0 :: o :: S := rfl
@[simp] theorem putS_1 {x0 x1 : Option T} {t : T} {S : Sto} : putS 1 t (x0 :: x1 :: S) = some (x0 :: some t :: S) := if_pos (by simp only [List.length_cons]; omega)
@[simp] theorem gS_2 {x0 x1 x2 : Option T} {S : Sto} : gS (x0 :: x1 :: x2 :: S) 2 = some x2 := rfl
@[simp] theorem uS_2 {x0 x1 x2 o : Option T} {S : Sto} : uS (x0 :: x1 :: x2 :: S) 2 o = x0 :: x1 :: o :: S := rfl
@[simp] theorem putS_2 {x0 x1 x2 : Option T} {t : T} {S : Sto} : putS 2 t (x0 :: x1 :: x2 :: S) = some (x0 :: x1 :: some t :: S) := if_pos (by simp only [List.length_cons]; omega)
@[simp] theorem gS_3 {x0 x1 x2 x3 : Option T} {S : Sto} : gS (x0 :: x1 :: x2 :: x3 :: S) 3 = some x3 := rfl
@[simp] theorem uS_3 {x0 x1 x2 x3 o : Option T} {S : Sto} : uS (x0 :: x1 :: x2 :: x3 :: S) 3 o = x0 :: x1 :: x2 :: o :: S := rfl
@[simp] theorem putS_3 {x0 x1 x2 x3 : Option T} {t : T} {S : Sto} : putS 3 t (x0 :: x1 :: x2 :: x3 :: S) = some (x0 :: x1 :: x2 :: some t :: S) := if_pos (by simp only [List.length_cons]; omega)
@[simp] theorem gS_4 {x0 x1 x2 x3 x4 : Option T} {S : Sto} : gS (x0 :: x1 :: x2 :: x3 :: x4 :: S) 4 = some x4 := rfl
@[simp] theorem uS_4 {x0 x1 x2 x3 x4 o : Option T} {S : Sto} : uS (x0 :: x1 :: x2 :: x3 :: x4 :: S) 4 o = x0 :: x1 :: x2 :: x3 :: o :: S := rfl
@[simp] theorem putS_4 {x0 x1 x2 x3 x4 : Option T} {t : T} {S : Sto} : putS 4 t (x0 :: x1 :: x2 :: x3 :: x4 :: S) = some (x0 :: x1 :: x2 :: x3 :: some t :: S) := if_pos (by simp only [List.length_cons]; omega)
@[simp] theorem gS_5 {x0 x1 x2 x3 x4 x5 : Option T} {S : Sto} : gS (x0 :: x1 :: x2 :: x3 :: x4 :: x5 :: S) 5 = some x5 := rfl
@[simp] theorem uS_5 {x0 x1 x2 x3 x4 x5 o : Option T} {S : Sto} : uS (x0 :: x1 :: x2 :: x3 :: x4 :: x5 :: S) 5 o = x0 :: x1 :: x2 :: x3 :: x4 :: o :: S := rfl
@[simp] theorem putS_5 {x0 x1 x2 x3 x4 x5 : Option T} {t : T} {S : Sto} : putS 5 t (x0 :: x1 :: x2 :: x3 :: x4 :: x5 :: S) = some (x0 :: x1 :: x2 :: x3 :: x4 :: some t :: S) := if_pos (by simp only [List.length_cons]; omega)
@[simp] theorem gS_6 {x0 x1 x2 x3 x4 x5 x6 : Option T} {S : Sto} : gS (x0 :: x1 :: x2 :: x3 :: x4 :: x5 :: x6 :: S) 6 = some x6 := rfl
@[simp] theorem uS_6 {x0 x1 x2 x3 x4 x5 x6 o : Option T} {S : Sto} : uS (x0 :: x1 :: x2 :: x3 :: x4 :: x5 :: x6 :: S) 6 o = x0 :: x1 :: x2 :: x3 :: x4 :: x5 :: o :: S := rfl
@[simp] theorem putS_6 {x0 x1 x2 x3 x4 x5 x6 : Option T} {t : T} {S : Sto} : putS 6 t (x0 :: x1 :: x2 :: x3 :: x4 :: x5 :: x6 :: S) = some (x0 :: x1 :: x2 :: x3 :: x4 :: x5 :: some t :: S) := if_pos (by simp only [List.length_cons]; omega)
@[simp] theorem gS_7 {x0 x1 x2 x3 x4 x5 x6 x7 : Option T} {S : Sto} : gS (x0 :: x1 :: x2 :: x3 :: x4 :: x5 :: x6 :: x7 :: S) 7 = some x7 := rfl
@[simp] theorem uS_7 {x0 x1 x2 x3 x4 x5 x6 x7 o : Option T} {S : Sto} : uS (x0 :: x1 :: x2 :: x3 :: x4 :: x5 :: x6 :: x7 :: S) 7 o = x0 :: x1 :: x2 :: x3 :: x4 :: x5 :: x6 :: o :: S := rfl
@[simp] theorem putS_7 {x0 x1 x2 x3 x4 x5 x6 x7 : Option T} {t : T} {S : Sto} : putS 7 t (x0 :: x1 :: x2 :: x3 :: x4 :: x5 :: x6 :: x7 :: S) = some (x0 :: x1 :: x2 :: x3 :: x4 :: x5 :: x6 :: some t :: S) := if_pos (by simp only [List.length_cons]; omega)
@[simp] theorem gS_8 {x0 x1 x2 x3 x4 x5 x6 x7 x8 : Option T} {S : Sto} : gS (x0 :: x1 :: x2 :: x3 :: x4 :: x5 :: x6 :: x7 :: x8 :: S) 8 = some x8 := rfl
@[simp] theorem uS_8 {x0 x1 x2 x3 x4 x5 x6 x7 x8 o : Option T} {S : Sto} : uS (x0 :: x1 :: x2 :: x3 :: x4 :: x5 :: x6 :: x7 :: x8 :: S) 8 o = x0 :: x1 :: x2 :: x3 :: x4 :: x5 :: x6 :: x7 :: o :: S := rfl
@[simp] theorem putS_8 {x0 x1 x2 x3 x4 x5 x6 x7 x8 : Option T} {t : T} {S : Sto} : putS 8 t (x0 :: x1 :: x2 :: x3 :: x4 :: x5 :: x6 :: x7 :: x8 :: S) = some (x0 :: x1 :: x2 :: x3 :: x4 :: x5 :: x6 :: x7 :: some t :: S) := if_pos (by simp only [List.length_cons]; omega)
@[simp] theorem gS_9 {x0 x1 x2 x3 x4 x5 x6 x7 x8 x9 : Option T} {S : Sto} : gS (x0 :: x1 :: x2 :: x3 :: x4 :: x5 :: x6 :: x7 :: x8 :: x9 :: S) 9 = some x9 := rfl
@[simp] theorem uS_9 {x0 x1 x2 x3 x4 x5 x6 x7 x8 x9 o : Option T} {S : Sto} : uS (x0 :: x1 :: x2 :: x3 :: x4 :: x5 :: x6 :: x7 :: x8 :: x9 :: S) 9 o = x0 :: x1 :: x2 :: x3 :: x4 :: x5 :: x6 :: x7 :: x8 :: o :: S := rfl
@[simp] theorem putS_9 {x0 x1 x2 x3 x4 x5 x6 x7 x8 x9 : Option T} {t : T} {S : Sto} : putS 9 t (x0 :: x1 :: x2 :: x3 :: x4 :: x5 :: x6 :: x7 :: x8 :: x9 :: S) = some (x0 :: x1 :: x2 :: x3 :: x4 :: x5 :: x6 :: x7 :: x8 :: some t :: S) := if_pos (by simp only [List.length_cons]; omega)
@[simp] theorem gS_10 {x0 x1 x2 x3 x4 x5 x6 x7 x8 x9 x10 : Option T} {S : Sto} : gS (x0 :: x1 :: x2 :: x3 :: x4 :: x5 :: x6 :: x7 :: x8 :: x9 :: x10 :: S) 10 = some x10 := rfl
@[simp] theorem uS_10 {x0 x1 x2 x3 x4 x5 x6 x7 x8 x9 x10 o : Option T} {S : Sto} : uS (x0 :: x1 :: x2 :: x3 :: x4 :: x5 :: x6 :: x7 :: x8 :: x9 :: x10 :: S) 10 o = x0 :: x1 :: x2 :: x3 :: x4 :: x5 :: x6 :: x7 :: x8 :: x9 :: o :: S := rfl
@[simp] theorem putS_10 {x0 x1 x2 x3 x4 x5 x6 x7 x8 x9 x10 : Option T} {t : T} {S : Sto} : putS 10 t (x0 :: x1 :: x2 :: x3 :: x4 :: x5 :: x6 :: x7 :: x8 :: x9 :: x10 :: S) = some (x0 :: x1 :: x2 :: x3 :: x4 :: x5 :: x6 :: x7 :: x8 :: x9 :: some t :: S) := if_pos (by simp only [List.length_cons]; omega)
@[simp] theorem gS_11 {x0 x1 x2 x3 x4 x5 x6 x7 x8 x9 x10 x11 : Option T} {S : Sto} : gS (x0 :: x1 :: x2 :: x3 :: x4 :: x5 :: x6 :: x7 :: x8 :: x9 :: x10 :: x11 :: S) 11 = some x11 := rfl
@[simp] theorem uS_11 {x0 x1 x2 x3 x4 x5 x6 x7 x8 x9 x10 x11 o : Option T} {S : Sto} : uS (x0 :: x1 :: x2 :: x3 :: x4 :: x5 :: x6 :: x7 :: x8 :: x9 :: x10 :: x11 :: S) 11 o = x0 :: x1 :: x2 :: x3 :: x4 :: x5 :: x6 :: x7 :: x8 :: x9 :: x10 :: o :: S := rfl
@[simp] theorem putS_11 {x0 x1 x2 x3 x4 x5 x6 x7 x8 x9 x10 x11 : Option T} {t : T} {S : Sto} : putS 11 t (x0 :: x1 :: x2 :: x3 :: x4 :: x5 :: x6 :: x7 :: x8 :: x9 :: x10 :: x11 :: S) = some (x0 :: x1 :: x2 :: x3 :: x4 :: x5 :: x6 :: x7 :: x8 :: x9 :: x10 :: some t :: S) := if_pos (by simp only [List.length_cons]; omega)
@[simp] theorem gS_12 {x0 x1 x2 x3 x4 x5 x6 x7 x8 x9 x10 x11 x12 : Option T} {S : Sto} : gS (x0 :: x1 :: x2 :: x3 :: x4 :: x5 :: x6 :: x7 :: x8 :: x9 :: x10 :: x11 :: x12 :: S) 12 = some x12 := rfl
@[simp] theorem uS_12 {x0 x1 x2 x3 x4 x5 x6 x7 x8 x9 x10 x11 x12 o : Option T} {S : Sto} : uS (x0 :: x1 :: x2 :: x3 :: x4 :: x5 :: x6 :: x7 :: x8 :: x9 :: x10 :: x11 :: x12 :: S) 12 o = x0 :: x1 :: x2 :: x3 :: x4 :: x5 :: x6 :: x7 :: x8 :: x9 :: x10 :: x11 :: o :: S := rfl
@[simp] theorem putS_12 {x0 x1 x2 x3 x4 x5 x6 x7 x8 x9 x10 x11 x12 : Option T} {t : T} {S : Sto} : putS 12 t (x0 :: x1 :: x2 :: x3 :: x4 :: x5 :: x6 :: x7 :: x8 :: x9 :: x10 :: x11 :: x12 :: S) = some (x0 :: x1 :: x2 :: x3 :: x4 :: x5 :: x6 :: x7 :: x8 :: x9 :: x10 :: x11 :: some t :: S) := if_pos (by simp only [List.length_cons]; omega)
@[simp] theorem gS_13 {x0 x1 x2 x3 x4 x5 x6 x7 x8 x9 x10 x11 x12 x13 : Option T} {S : Sto} : gS (x0 :: x1 :: x2 :: x3 :: x4 :: x5 :: x6 :: x7 :: x8 :: x9 :: x10 :: x11 :: x12 :: x13 :: S) 13 = some x13 := rfl
@[simp] theorem uS_13 {x0 x1 x2 x3 x4 x5 x6 x7 x8 x9 x10 x11 x12 x13 o : Option T} {S : Sto} : uS (x0 :: x1 :: x2 :: x3 :: x4 :: x5 :: x6 :: x7 :: x8 :: x9 :: x10 :: x11 :: x12 :: x13 :: S) 13 o = x0 :: x1 :: x2 :: x3 :: x4 :: x5 :: x6 :: x7 :: x8 :: x9 :: x10 :: x11 :: x12 :: o :: S := rfl
@[simp] theorem putS_13 {x0 x1 x2 x3 x4 x5 x6 x7 x8 x9 x10 x11 x12 x13 : Option T} {t : T} {S : Sto} : putS 13 t (x0 :: x1 :: x2 :: x3 :: x4 :: x5 :: x6 :: x7 :: x8 :: x9 :: x10 :: x11 :: x12 :: x13 :: S) = some (x0 :: x1 :: x2 :: x3 :: x4 :: x5 :: x6 :: x7 :: x8 :: x9 :: x10 :: x11 :: x12 :: some t :: S) := if_pos (by simp only [List.length_cons]; omega)
@[simp] theorem gS_14 {x0 x1 x2 x3 x4 x5 x6 x7 x8 x9 x10 x11 x12 x13 x14 : Option T} {S : Sto} : gS (x0 :: x1 :: x2 :: x3 :: x4 :: x5 :: x6 :: x7 :: x8 :: x9 :: x10 :: x11 :: x12 :: x13 :: x14 :: S) 14 = some x14 := rfl
@[simp] theorem uS_14 {x0 x1 x2 x3 x4 x5 x6 x7 x8 x9 x10 x11 x12 x13 x14 o : Option T} {S : Sto} : uS (x0 :: x1 :: x2 :: x3 :: x4 :: x5 :: x6 :: x7 :: x8 :: x9 :: x10 :: x11 :: x12 :: x13 :: x14 :: S) 14 o = x0 :: x1 :: x2 :: x3 :: x4 :: x5 :: x6 :: x7 :: x8 :: x9 :: x10 :: x11 :: x12 :: x13 :: o :: S := rfl
@[simp] theorem putS_14 {x0 x1 x2 x3 x4 x5 x6 x7 x8 x9 x10 x11 x12 x13 x14 : Option T} {t : T} {S : Sto} : putS 14 t (x0 :: x1 :: x2 :: x3 :: x4 :: x5 :: x6 :: x7 :: x8 :: x9 :: x10 :: x11 :: x12 :: x13 :: x14 :: S) = some (x0 :: x1 :: x2 :: x3 :: x4 :: x5 :: x6 :: x7 :: x8 :: x9 :: x10 :: x11 :: x12 :: x13 :: some t :: S) := if_pos (by simp only [List.length_cons]; omega)
@[simp] theorem gS_15 {x0 x1 x2 x3 x4 x5 x6 x7 x8 x9 x10 x11 x12 x13 x14 x15 : Option T} {S : Sto} : gS (x0 :: x1 :: x2 :: x3 :: x4 :: x5 :: x6 :: x7 :: x8 :: x9 :: x10 :: x11 :: x12 :: x13 :: x14 :: x15 :: S) 15 = some x15 := rfl
@[simp] theorem uS_15 {x0 x1 x2 x3 x4 x5 x6 x7 x8 x9 x10 x11 x12 x13 x14 x15 o : Option T} {S : Sto} : uS (x0 :: x1 :: x2 :: x3 :: x4 :: x5 :: x6 :: x7 :: x8 :: x9 :: x10 :: x11 :: x12 :: x13 :: x14 :: x15 :: S) 15 o = x0 :: x1 :: x2 :: x3 :: x4 :: x5 :: x6 :: x7 :: x8 :: x9 :: x10 :: x11 :: x12 :: x13 :: x14 :: o :: S := rfl
@[simp] theorem putS_15 {x0 x1 x2 x3 x4 x5 x6 x7 x8 x9 x10 x11 x12 x13 x14 x15 : Option T} {t : T} {S : Sto} : putS 15 t (x0 :: x1 :: x2 :: x3 :: x4 :: x5 :: x6 :: x7 :: x8 :: x9 :: x10 :: x11 :: x12 :: x13 :: x14 :: x15 :: S) = some (x0 :: x1 :: x2 :: x3 :: x4 :: x5 :: x6 :: x7 :: x8 :: x9 :: x10 :: x11 :: x12 :: x13 :: x14 :: some t :: S) := if_pos (by simp only [List.length_cons]; omega)
@[simp] theorem gS_16 {x0 x1 x2 x3 x4 x5 x6 x7 x8 x9 x10 x11 x12 x13 x14 x15 x16 : Option T} {S : Sto} : gS (x0 :: x1 :: x2 :: x3 :: x4 :: x5 :: x6 :: x7 :: x8 :: x9 :: x10 :: x11 :: x12 :: x13 :: x14 :: x15 :: x16 :: S) 16 = some x16 := rfl
@[simp] theorem uS_16 {x0 x1 x2 x3 x4 x5 x6 x7 x8 x9 x10 x11 x12 x13 x14 x15 x16 o : Option T} {S : Sto} : uS (x0 :: x1 :: x2 :: x3 :: x4 :: x5 :: x6 :: x7 :: x8 :: x9 :: x10 :: x11 :: x12 :: x13 :: x14 :: x15 :: x16 :: S) 16 o = x0 :: x1 :: x2 :: x3 :: x4 :: x5 :: x6 :: x7 :: x8 :: x9 :: x10 :: x11 :: x12 :: x13 :: x14 :: x15 :: o :: S := rfl
@[simp] theorem putS_16 {x0 x1 x2 x3 x4 x5 x6 x7 x8 x9 x10 x11 x12 x13 x14 x15 x16 : Option T} {t : T} {S : Sto} : putS 16 t (x0 :: x1 :: x2 :: x3 :: x4 :: x5 :: x6 :: x7 :: x8 :: x9 :: x10 :: x11 :: x12 :: x13 :: x14 :: x15 :: x16 :: S) = some (x0 :: x1 :: x2 :: x3 :: x4 :: x5 :: x6 :: x7 :: x8 :: x9 :: x10 :: x11 :: x12 :: x13 :: x14 :: x15 :: some t :: S) := if_pos (by simp only [List.length_cons]; omega)
@[simp] theorem gS_17 {x0 x1 x2 x3 x4 x5 x6 x7 x8 x9 x10 x11 x12 x13 x14 x15 x16 x17 : Option T} {S : Sto} : gS (x0 :: x1 :: x2 :: x3 :: x4 :: x5 :: x6 :: x7 :: x8 :: x9 :: x10 :: x11 :: x12 :: x13 :: x14 :: x15 :: x16 :: x17 :: S) 17 = some x17 := rfl
@[simp] theorem uS_17 {x0 x1 x2 x3 x4 x5 x6 x7 x8 x9 x10 x11 x12 x13 x14 x15 x16 x17 o : Option T} {S : Sto} : uS (x0 :: x1 :: x2 :: x3 :: x4 :: x5 :: x6 :: x7 :: x8 :: x9 :: x10 :: x11 :: x12 :: x13 :: x14 :: x15 :: x16 :: x17 :: S) 17 o = x0 :: x1 :: x2 :: x3 :: x4 :: x5 :: x6 :: x7 :: x8 :: x9 :: x10 :: x11 :: x12 :: x13 :: x14 :: x15 :: x16 :: o :: S := rfl
@[simp] theorem putS_17 {x0 x1 x2 x3 x4 x5 x6 x7 x8 x9 x10 x11 x12 x13 x14 x15 x16 x17 : Option T} {t : T} {S : Sto} : putS 17 t (x0 :: x1 :: x2 :: x3 :: x4 :: x5 :: x6 :: x7 :: x8 :: x9 :: x10 :: x11 :: x12 :: x13 :: x14 :: x15 :: x16 :: x17 :: S) = some (x0 :: x1 :: x2 :: x3 :: x4 :: x5 :: x6 :: x7 :: x8 :: x9 :: x10 :: x11 :: x12 :: x13 :: x14 :: x15 :: x16 :: some t :: S) := if_pos (by simp only [List.length_cons]; omega)
@[simp] theorem gS_18 {x0 x1 x2 x3 x4 x5 x6 x7 x8 x9 x10 x11 x12 x13 x14 x15 x16 x17 x18 : Option T} {S : Sto} : gS (x0 :: x1 :: x2 :: x3 :: x4 :: x5 :: x6 :: x7 :: x8 :: x9 :: x10 :: x11 :: x12 :: x13 :: x14 :: x15 :: x16 :: x17 :: x18 :: S) 18 = some x18 := rfl
@[simp] theorem uS_18 {x0 x1 x2 x3 x4 x5 x6 x7 x8 x9 x10 x11 x12 x13 x14 x15 x16 x17 x18 o : Option T} {S : Sto} : uS (x0 :: x1 :: x2 :: x3 :: x4 :: x5 :: x6 :: x7 :: x8 :: x9 :: x10 :: x11 :: x12 :: x13 :: x14 :: x15 :: x16 :: x17 :: x18 :: S) 18 o = x0 :: x1 :: x2 :: x3 :: x4 :: x5 :: x6 :: x7 :: x8 :: x9 :: x10 :: x11 :: x12 :: x13 :: x14 :: x15 :: x16 :: x17 :: o :: S := rfl
@[simp] theorem putS_18 {x0 x1 x2 x3 x4 x5 x6 x7 x8 x9 x10 x11 x12 x13 x14 x15 x16 x17 x18 : Option T} {t : T} {S : Sto} : putS 18 t (x0 :: x1 :: x2 :: x3 :: x4 :: x5 :: x6 :: x7 :: x8 :: x9 :: x10 :: x11 :: x12 :: x13 :: x14 :: x15 :: x16 :: x17 :: x18 :: S) = some (x0 :: x1 :: x2 :: x3 :: x4 :: x5 :: x6 :: x7 :: x8 :: x9 :: x10 :: x11 :: x12 :: x13 :: x14 :: x15 :: x16 :: x17 :: some t :: S) := if_pos (by simp only [List.length_cons]; omega)
@[simp] theorem gS_19 {x0 x1 x2 x3 x4 x5 x6 x7 x8 x9 x10 x11 x12 x13 x14 x15 x16 x17 x18 x19 : Option T} {S : Sto} : gS (x0 :: x1 :: x2 :: x3 :: x4 :: x5 :: x6 :: x7 :: x8 :: x9 :: x10 :: x11 :: x12 :: x13 :: x14 :: x15 :: x16 :: x17 :: x18 :: x19 :: S) 19 = some x19 := rfl
@[simp] theorem uS_19 {x0 x1 x2 x3 x4 x5 x6 x7 x8 x9 x10 x11 x12 x13 x14 x15 x16 x17 x18 x19 o : Option T} {S : Sto} : uS (x0 :: x1 :: x2 :: x3 :: x4 :: x5 :: x6 :: x7 :: x8 :: x9 :: x10 :: x11 :: x12 :: x13 :: x14 :: x15 :: x16 :: x17 :: x18 :: x19 :: S) 19 o = x0 :: x1 :: x2 :: x3 :: x4 :: x5 :: x6 :: x7 :: x8 :: x9 :: x10 :: x11 :: x12 :: x13 :: x14 :: x15 :: x16 :: x17 :: x18 :: o :: S := rfl
@[simp] theorem putS_19 {x0 x1 x2 x3 x4 x5 x6 x7 x8 x9 x10 x11 x12 x13 x14 x15 x16 x17 x18 x19 : Option T} {t : T} {S : Sto} : putS 19 t (x0 :: x1 :: x2 :: x3 :: x4 :: x5 :: x6 :: x7 :: x8 :: x9 :: x10 :: x11 :: x12 :: x13 :: x14 :: x15 :: x16 :: x17 :: x18 :: x19 :: S) = some (x0 :: x1 :: x2 :: x3 :: x4 :: x5 :: x6 :: x7 :: x8 :: x9 :: x10 :: x11 :: x12 :: x13 :: x14 :: x15 :: x16 :: x17 :: x18 :: some t :: S) := if_pos (by simp only [List.length_cons]; omega)
@[simp] theorem gS_20 {x0 x1 x2 x3 x4 x5 x6 x7 x8 x9 x10 x11 x12 x13 x14 x15 x16 x17 x18 x19 x20 : Option T} {S : Sto} : gS (x0 :: x1 :: x2 :: x3 :: x4 :: x5 :: x6 :: x7 :: x8 :: x9 :: x10 :: x11 :: x12 :: x13 :: x14 :: x15 :: x16 :: x17 :: x18 :: x19 :: x20 :: S) 20 = some x20 := rfl
@[simp] theorem uS_20 {x0 x1 x2 x3 x4 x5 x6 x7 x8 x9 x10 x11 x12 x13 x14 x15 x16 x17 x18 x19 x20 o : Option T} {S : Sto} : uS (x0 :: x1 :: x2 :: x3 :: x4 :: x5 :: x6 :: x7 :: x8 :: x9 :: x10 :: x11 :: x12 :: x13 :: x14 :: x15 :: x16 :: x17 :: x18 :: x19 :: x20 :: S) 20 o = x0 :: x1 :: x2 :: x3 :: x4 :: x5 :: x6 :: x7 :: x8 :: x9 :: x10 :: x11 :: x12 :: x13 :: x14 :: x15 :: x16 :: x17 :: x18 :: x19 :: o :: S := rfl
@[simp] theorem putS_20 {x0 x1 x2 x3 x4 x5 x6 x7 x8 x9 x10 x11 x12 x13 x14 x15 x16 x17 x18 x19 x20 : Option T} {t : T} {S : Sto} : putS 20 t (x0 :: x1 :: x2 :: x3 :: x4 :: x5 :: x6 :: x7 :: x8 :: x9 :: x10 :: x11 :: x12 :: x13 :: x14 :: x15 :: x16 :: x17 :: x18 :: x19 :: x20 :: S) = some (x0 :: x1 :: x2 :: x3 :: x4 :: x5 :: x6 :: x7 :: x8 :: x9 :: x10 :: x11 :: x12 :: x13 :: x14 :: x15 :: x16 :: x17 :: x18 :: x19 :: some t :: S) := if_pos (by simp only [List.length_cons]; omega)
@[simp] theorem gS_21 {x0 x1 x2 x3 x4 x5 x6 x7 x8 x9 x10 x11 x12 x13 x14 x15 x16 x17 x18 x19 x20 x21 : Option T} {S : Sto} : gS (x0 :: x1 :: x2 :: x3 :: x4 :: x5 :: x6 :: x7 :: x8 :: x9 :: x10 :: x11 :: x12 :: x13 :: x14 :: x15 :: x16 :: x17 :: x18 :: x19 :: x20 :: x21 :: S) 21 = some x21 := rfl
@[simp] theorem uS_21 {x0 x1 x2 x3 x4 x5 x6 x7 x8 x9 x10 x11 x12 x13 x14 x15 x16 x17 x18 x19 x20 x21 o : Option T} {S : Sto} : uS (x0 :: x1 :: x2 :: x3 :: x4 :: x5 :: x6 :: x7 :: x8 :: x9 :: x10 :: x11 :: x12 :: x13 :: x14 :: x15 :: x16 :: x17 :: x18 :: x19 :: x20 :: x21 :: S) 21 o = x0 :: x1 :: x2 :: x3 :: x4 :: x5 :: x6 :: x7 :: x8 :: x9 :: x10 :: x11 :: x12 :: x13 :: x14 :: x15 :: x16 :: x17 :: x18 :: x19 :: x20 :: o :: S := rfl
@[simp] theorem putS_21 {x0 x1 x2 x3 x4 x5 x6 x7 x8 x9 x10 x11 x12 x13 x14 x15 x16 x17 x18 x19 x20 x21 : Option T} {t : T} {S : Sto} : putS 21 t (x0 :: x1 :: x2 :: x3 :: x4 :: x5 :: x6 :: x7 :: x8 :: x9 :: x10 :: x11 :: x12 :: x13 :: x14 :: x15 :: x16 :: x17 :: x18 :: x19 :: x20 :: x21 :: S) = some (x0 :: x1 :: x2 :: x3 :: x4 :: x5 :: x6 :: x7 :: x8 :: x9 :: x10 :: x11 :: x12 :: x13 :: x14 :: x15 :: x16 :: x17 :: x18 :: x19 :: x20 :: some t :: S) := if_pos (by simp only [List.length_cons]; omega)
@[simp] theorem gS_22 {x0 x1 x2 x3 x4 x5 x6 x7 x8 x9 x10 x11 x12 x13 x14 x15 x16 x17 x18 x19 x20 x21 x22 : Option T} {S : Sto} : gS (x0 :: x1 :: x2 :: x3 :: x4 :: x5 :: x6 :: x7 :: x8 :: x9 :: x10 :: x11 :: x12 :: x13 :: x14 :: x15 :: x16 :: x17 :: x18 :: x19 :: x20 :: x21 :: x22 :: S) 22 = some x22 := rfl
@[simp] theorem uS_22 {x0 x1 x2 x3 x4 x5 x6 x7 x8 x9 x10 x11 x12 x13 x14 x15 x16 x17 x18 x19 x20 x21 x22 o : Option T} {S : Sto} : uS (x0 :: x1 :: x2 :: x3 :: x4 :: x5 :: x6 :: x7 :: x8 :: x9 :: x10 :: x11 :: x12 :: x13 :: x14 :: x15 :: x16 :: x17 :: x18 :: x19 :: x20 :: x21 :: x22 :: S) 22 o = x0 :: x1 :: x2 :: x3 :: x4 :: x5 :: x6 :: x7 :: x8 :: x9 :: x10 :: x11 :: x12 :: x13 :: x14 :: x15 :: x16 :: x17 :: x18 :: x19 :: x20 :: x21 :: o :: S := rfl
@[simp] theorem putS_22 {x0 x1 x2 x3 x4 x5 x6 x7 x8 x9 x10 x11 x12 x13 x14 x15 x16 x17 x18 x19 x20 x21 x22 : Option T} {t : T} {S : Sto} : putS 22 t (x0 :: x1 :: x2 :: x3 :: x4 :: x5 :: x6 :: x7 :: x8 :: x9 :: x10 :: x11 :: x12 :: x13 :: x14 :: x15 :: x16 :: x17 :: x18 :: x19 :: x20 :: x21 :: x22 :: S) = some (x0 :: x1 :: x2 :: x3 :: x4 :: x5 :: x6 :: x7 :: x8 :: x9 :: x10 :: x11 :: x12 :: x13 :: x14 :: x15 :: x16 :: x17 :: x18 :: x19 :: x20 :: x21 :: some t :: S) := if_pos (by simp only [List.length_cons]; omega)
@[simp] theorem gS_23 {x0 x1 x2 x3 x4 x5 x6 x7 x8 x9 x10 x11 x12 x13 x14 x15 x16 x17 x18 x19 x20 x21 x22 x23 : Option T} {S : Sto} : gS (x0 :: x1 :: x2 :: x3 :: x4 :: x5 :: x6 :: x7 :: x8 :: x9 :: x10 :: x11 :: x12 :: x13 :: x14 :: x15 :: x16 :: x17 :: x18 :: x19 :: x20 :: x21 :: x22 :: x23 :: S) 23 = some x23 := rfl
@[simp] theorem uS_23 {x0 x1 x2 x3 x4 x5 x6 x7 x8 x9 x10 x11 x12 x13 x14 x15 x16 x17 x18 x19 x20 x21 x22 x23 o : Option T} {S : Sto} : uS (x0 :: x1 :: x2 :: x3 :: x4 :: x5 :: x6 :: x7 :: x8 :: x9 :: x10 :: x11 :: x12 :: x13 :: x14 :: x15 :: x16 :: x17 :: x18 :: x19 :: x20 :: x21 :: x22 :: x23 :: S) 23 o = x0 :: x1 :: x2 :: x3 :: x4 :: x5 :: x6 :: x7 :: x8 :: x9 :: x10 :: x11 :: x12 :: x13 :: x14 :: x15 :: x16 :: x17 :: x18 :: x19 :: x20 :: x21 :: x22 :: o :: S := rfl
@[simp] theorem putS_23 {x0 x1 x2 x3 x4 x5 x6 x7 x8 x9 x10 x11 x12 x13 x14 x15 x16 x17 x18 x19 x20 x21 x22 x23 : Option T} {t : T} {S : Sto} : putS 23 t (x0 :: x1 :: x2 :: x3 :: x4 :: x5 :: x6 :: x7 :: x8 :: x9 :: x10 :: x11 :: x12 :: x13 :: x14 :: x15 :: x16 :: x17 :: x18 :: x19 :: x20 :: x21 :: x22 :: x23 :: S) = some (x0 :: x1 :: x2 :: x3 :: x4 :: x5 :: x6 :: x7 :: x8 :: x9 :: x10 :: x11 :: x12 :: x13 :: x14 :: x15 :: x16 :: x17 :: x18 :: x19 :: x20 :: x21 :: x22 :: some t :: S) := if_pos (by simp only [List.length_cons]; omega)
@[simp] theorem gS_24 {x0 x1 x2 x3 x4 x5 x6 x7 x8 x9 x10 x11 x12 x13 x14 x15 x16 x17 x18 x19 x20 x21 x22 x23 x24 : Option T} {S : Sto} : gS (x0 :: x1 :: x2 :: x3 :: x4 :: x5 :: x6 :: x7 :: x8 :: x9 :: x10 :: x11 :: x12 :: x13 :: x14 :: x15 :: x16 :: x17 :: x18 :: x19 :: x20 :: x21 :: x22 :: x23 :: x24 :: S) 24 = some x24 := rfl
@[simp] theorem uS_24 {x0 x1 x2 x3 x4 x5 x6 x7 x8 x9 x10 x11 x12 x13 x14 x15 x16 x17 x18 x19 x20 x21 x22 x23 x24 o : Option T} {S : Sto} : uS (x0 :: x1 :: x2 :: x3 :: x4 :: x5 :: x6 :: x7 :: x8 :: x9 :: x10 :: x11 :: x12 :: x13 :: x14 :: x15 :: x16 :: x17 :: x18 :: x19 :: x20 :: x21 :: x22 :: x23 :: x24 :: S) 24 o = x0 :: x1 :: x2 :: x3 :: x4 :: x5 :: x6 :: x7 :: x8 :: x9 :: x10 :: x11 :: x12 :: x13 :: x14 :: x15 :: x16 :: x17 :: x18 :: x19 :: x20 :: x21 :: x22 :: x23 :: o :: S := rfl
@[simp] theorem putS_24 {x0 x1 x2 x3 x4 x5 x6 x7 x8 x9 x10 x11 x12 x13 x14 x15 x16 x17 x18 x19 x20 x21 x22 x23 x24 : Option T} {t : T} {S : Sto} : putS 24 t (x0 :: x1 :: x2 :: x3 :: x4 :: x5 :: x6 :: x7 :: x8 :: x9 :: x10 :: x11 :: x12 :: x13 :: x14 :: x15 :: x16 :: x17 :: x18 :: x19 :: x20 :: x21 :: x22 :: x23 :: x24 :: S) = some (x0 :: x1 :: x2 :: x3 :: x4 :: x5 :: x6 :: x7 :: x8 :: x9 :: x10 :: x11 :: x12 :: x13 :: x14 :: x15 :: x16 :: x17 :: x18 :: x19 :: x20 :: x21 :: x22 :: x23 :: some t :: S) := if_pos (by simp only [List.length_cons]; omega)
@[simp] theorem gS_25 {x0 x1 x2 x3 x4 x5 x6 x7 x8 x9 x10 x11 x12 x13 x14 x15 x16 x17 x18 x19 x20 x21 x22 x23 x24 x25 : Option T} {S : Sto} : gS (x0 :: x1 :: x2 :: x3 :: x4 :: x5 :: x6 :: x7 :: x8 :: x9 :: x10 :: x11 :: x12 :: x13 :: x14 :: x15 :: x16 :: x17 :: x18 :: x19 :: x20 :: x21 :: x22 :: x23 :: x24 :: x25 :: S) 25 = some x25 := rfl
@[simp] theorem uS_25 {x0 x1 x2 x3 x4 x5 x6 x7 x8 x9 x10 x11 x12 x13 x14 x15 x16 x17 x18 x19 x20 x21 x22 x23 x24 x25 o : Option T} {S : Sto} : uS (x0 :: x1 :: x2 :: x3 :: x4 :: x5 :: x6 :: x7 :: x8 :: x9 :: x10 :: x11 :: x12 :: x13 :: x14 :: x15 :: x16 :: x17 :: x18 :: x19 :: x20 :: x21 :: x22 :: x23 :: x24 :: x25 :: S) 25 o = x0 :: x1 :: x2 :: x3 :: x4 :: x5 :: x6 :: x7 :: x8 :: x9 :: x10 :: x11 :: x12 :: x13 :: x14 :: x15 :: x16 :: x17 :: x18 :: x19 :: x20 :: x21 :: x22 :: x23 :: x24 :: o :: S := rfl
@[simp] theorem putS_25 {x0 x1 x2 x3 x4 x5 x6 x7 x8 x9 x10 x11 x12 x13 x14 x15 x16 x17 x18 x19 x20 x21 x22 x23 x24 x25 : Option T} {t : T} {S : Sto} : putS 25 t (x0 :: x1 :: x2 :: x3 :: x4 :: x5 :: x6 :: x7 :: x8 :: x9 :: x10 :: x11 :: x12 :: x13 :: x14 :: x15 :: x16 :: x17 :: x18 :: x19 :: x20 :: x21 :: x22 :: x23 :: x24 :: x25 :: S) = some (x0 :: x1 :: x2 :: x3 :: x4 :: x5 :: x6 :: x7 :: x8 :: x9 :: x10 :: x11 :: x12 :: x13 :: x14 :: x15 :: x16 :: x17 :: x18 :: x19 :: x20 :: x21 :: x22 :: x23 :: x24 :: some t :: S) := if_pos (by simp only [List.length_cons]; omega)
@[simp] theorem atI_0 {α : Type} {x0 : α} {l : List α} : L2.atI (x0 :: l) 0 = some x0 := (atI_pos (j := 0)).trans rfl
@[simp] theorem atI_1 {α : Type} {x0 x1 : α} {l : List α} : L2.atI (x0 :: x1 :: l) 1 = some x1 := (atI_pos (j := 1)).trans rfl
@[simp] theorem atI_2 {α : Type} {x0 x1 x2 : α} {l : List α} : L2.atI (x0 :: x1 :: x2 :: l) 2 = some x2 := (atI_pos (j := 2)).trans rfl
@[simp] theorem atI_3 {α : Type} {x0 x1 x2 x3 : α} {l : List α} : L2.atI (x0 :: x1 :: x2 :: x3 :: l) 3 = some x3 := (atI_pos (j := 3)).trans rfl
@[simp] theorem atI_4 {α : Type} {x0 x1 x2 x3 x4 : α} {l : List α} : L2.atI (x0 :: x1 :: x2 :: x3 :: x4 :: l) 4 = some x4 := (atI_pos (j := 4)).trans rfl
@[simp] theorem atI_5 {α : Type} {x0 x1 x2 x3 x4 x5 : α} {l : List α} : L2.atI (x0 :: x1 :: x2 :: x3 :: x4 :: x5 :: l) 5 = some x5 := (atI_pos (j := 5)).trans rfl
@[simp] theorem atI_6 {α : Type} {x0 x1 x2 x3 x4 x5 x6 : α} {l : List α} : L2.atI (x0 :: x1 :: x2 :: x3 :: x4 :: x5 :: x6 :: l) 6 = some x6 := (atI_pos (j := 6)).trans rfl
@[simp] theorem atI_7 {α : Type} {x0 x1 x2 x3 x4 x5 x6 x7 : α} {l : List α} : L2.atI (x0 :: x1 :: x2 :: x3 :: x4 :: x5 :: x6 :: x7 :: l) 7 = some x7 := (atI_pos (j := 7)).trans rfl
@[simp] theorem atI_8 {α : Type} {x0 x1 x2 x3 x4 x5 x6 x7 x8 : α} {l : List α} : L2.atI (x0 :: x1 :: x2 :: x3 :: x4 :: x5 :: x6 :: x7 :: x8 :: l) 8 = some x8 := (atI_pos (j := 8)).trans rfl
@[simp] theorem atI_9 {α : Type} {x0 x1 x2 x3 x4 x5 x6 x7 x8 x9 : α} {l : List α} : L2.atI (x0 :: x1 :: x2 :: x3 :: x4 :: x5 :: x6 :: x7 :: x8 :: x9 :: l) 9 = some x9 := (atI_pos (j := 9)).trans rfl
@[simp] theorem atI_n1_1 {α : Type} {x0 : α} : L2.atI [x0] (-1) = some x0 := rfl
@[simp] theorem atI_n1_2 {α : Type} {x0 x1 : α} : L2.atI [x0, x1] (-1) = some x1 := rfl
@[simp] theorem atI_n1_3 {α : Type} {x0 x1 x2 : α} : L2.atI [x0, x1, x2] (-1) = some x2 := rfl
@[simp] theorem atI_n1_4 {α : Type} {x0 x1 x2 x3 : α} : L2.atI [x0, x1, x2, x3] (-1) = some x3 := rfl
@[simp] theorem atI_n1_5 {α : Type} {x0 x1 x2 x3 x4 : α} : L2.atI [x0, x1, x2, x3, x4] (-1) = some x4 := rfl
@[simp] theorem atI_n1_6 {α : Type} {x0 x1 x2 x3 x4 x5 : α} : L2.atI [x0, x1, x2, x3, x4, x5] (-1) = some x5 := rfl
@[simp] theorem atI_n1_7 {α : Type} {x0 x1 x2 x3 x4 x5 x6 : α} : L2.atI [x0, x1, x2, x3, x4, x5, x6] (-1) = some x6 := rfl
@[simp] theorem atI_n1_8 {α : Type} {x0 x1 x2 x3 x4 x5 x6 x7 : α} : L2.atI [x0, x1, x2, x3, x4, x5, x6, x7] (-1) = some x7 := rfl

/-! ### pure -/
variable {S S1 S2 : Sto} {t u : T} {d x y z : D} {i j : Int} {b c : Bool}
@[simp] theorem q_pC : pC d S = some d := rfl
def kV (o : Option (Option T)) : Option D := match o with
  | some (some t) => some (fz t)
  | _ => none
@[simp] theorem q_pV {i : Nat} : pV i S = kV (gS S i) := rfl
@[simp] theorem kV_s : kV (some (some t)) = some (fz t) := rfl
def k2 (g : D → D → Option D) (a b : Option D) : Option D := a.bind fun x => b.bind fun y => g x y
@[simp] theorem q_p2 {g : D → D → Option D} {ma mb : MP} : p2 g ma mb S = k2 g (ma S) (mb S) := rfl
@[simp] theorem k2_s {g : D → D → Option D} : k2 g (some x) (some y) = g x y := rfl
def k1 (g : D → Option D) (a : Option D) : Option D := a.bind g
@[simp] theorem q_p1 {g : D → Option D} {ma : MP} : p1 g ma S = k1 g (ma S) := rfl
@[simp] theorem k1_s {g : D → Option D} : k1 g (some x) = g x := rfl
def kB (a : Option D) : Option Bool := a.bind asB
@[simp] theorem q_pB {m : MP} : pB m S = kB (m S) := rfl
@[simp] theorem kB_s : kB (some (.bl b)) = some b := rfl
def kBAnd (a b : Option Bool) : Option Bool := a.bind fun x => if x = true then b else some false
def kBOr (a b : Option Bool) : Option Bool := a.bind fun x => if x = true then some true else b
def kBNot (a : Option Bool) : Option Bool := a.bind fun x => some (!x)
@[simp] theorem q_bAnd {p q : MB} : bAnd p q S = kBAnd (p S) (q S) := rfl
@[simp] theorem q_bOr {p q : MB} : bOr p q S = kBOr (p S) (q S) := rfl
@[simp] theorem q_bNot {p : MB} : bNot p S = kBNot (p S) := rfl
@[simp] theorem kBAnd_t {o : Option Bool} : kBAnd (some true) o = o := rfl
@[simp] theorem kBAnd_f {o : Option Bool} : kBAnd (some false) o = some false := rfl
@[simp] theorem kBAnd_s : kBAnd (some b) (some c) = some (b && c) := by cases b <;> rfl
@[simp] theorem kBOr_t {o : Option Bool} : kBOr (some true) o = some true := rfl
@[simp] theorem kBOr_f {o : Option Bool} : kBOr (some false) o = o := rfl
@[simp] theorem kBOr_s : kBOr (some b) (some c) = some (b || c) := by cases b <;> rfl
@[simp] theorem kBNot_s : kBNot (some b) = some (!b) := rfl
def kPAnd (a b : Option D) : Option D := a.bind fun x => (asB x).bind fun x => if x = true then b else some (.bl false)
def kPOr (a b : Option D) : Option D := a.bind fun x => (asB x).bind fun x => if x = true then some (.bl true) else b
def kPNot (a : Option D) : Option D := a.bind fun x => (asB x).bind fun x => some (.bl (!x))
@[simp] theorem q_pAnd {p q : MP} : pAnd p q S = kPAnd (p S) (q S) := rfl
@[simp] theorem q_pOr {p q : MP} : pOr p q S = kPOr (p S) (q S) := rfl
@[simp] theorem q_pNot {p : MP} : pNot p S = kPNot (p S) := rfl
@[simp] theorem kPAnd_t {o : Option D} : kPAnd (some (.bl true)) o = o := rfl
@[simp] theorem kPAnd_f {o : Option D} : kPAnd (some (.bl false)) o = some (.bl false) := rfl
@[simp] theorem kPAnd_s : kPAnd (some (.bl b)) (some (.bl c)) = some (.bl (b && c)) := by cases b <;> rfl
@[simp] theorem kPOr_t {o : Option D} : kPOr (some (.bl true)) o = some (.bl true) := rfl
@[simp] theorem kPOr_f {o : Option D} : kPOr (some (.bl false)) o = o := rfl
@[simp] theorem kPOr_s : kPOr (some (.bl b)) (some (.bl c)) = some (.bl (b || c)) := by cases b <;> rfl
@[simp] theorem kPNot_s : kPNot (some (.bl b)) = some (.bl (!b)) := rfl
def kPIf (a : Option Bool) (p q : Option D) : Option D := a.bind fun x => if x = true then p else q
@[simp] theorem q_pIf {a : MB} {p q : MP} : pIf a p q S = kPIf (a S) (p S) (q S) := by
  unfold pIf kPIf
  cases a S with
  | none => rfl
  | some b => cases b <;> rfl
@[simp] theorem kPIf_t {p q : Option D} : kPIf (some true) p q = p := rfl
@[simp] theorem kPIf_f {p q : Option D} : kPIf (some false) p q = q := rfl
def kCh (g g' : D → D → Option D) (a b c : Option D) : Option D := a.bind fun x => b.bind fun y => (g x y).bind fun z => (asB z).bind fun k => if k = true then c.bind fun w => g' y w else some (.bl false)
@[simp] theorem q_pCh {g g' : D → D → Option D} {ma mb mc : MP} : pChain g g' ma mb mc S = kCh g g' (ma S) (mb S) (mc S) := rfl
def kCh2 (a b : Option D) : Option D := a.bind fun z => (asB z).bind fun k => if k = true then b else some (.bl false)
@[simp] theorem kCh_s {g g' : D → D → Option D} : kCh g g' (some x) (some y) (some z) = kCh2 (g x y) (g' y z) := rfl
@[simp] theorem kCh2_s : kCh2 (some (.bl b)) (some (.bl c)) = some (.bl (b && c)) := by cases b <;> rfl
def kA (a : Option D) (r : Option (List D)) : Option (List D) := a.bind fun x => r.bind fun xs => some (x :: xs)
@[simp] theorem q_pa {m : MP} {r : Sto → Option (List D)} : paCons m r S = kA (m S) (r S) := rfl
@[simp] theorem kA_s {xs : List D} : kA (some x) (some xs) = some (x :: xs) := rfl
def kC (g : List D → Option D) (a : Option (List D)) : Option D := a.bind g
@[simp] theorem q_pCall {g : List D → Option D} {m : Sto → Option (List D)} : pCall g m S = kC g (m S) := rfl
@[simp] theorem kC_s {g : List D → Option D} {xs : List D} : kC g (some xs) = g xs := rfl
def kO (a : Option D) : Option (Option Int) := a.bind fun d => match d with
  | .int i => some (some i)
  | _ => none
@[simp] theorem q_oN : oPart none S = some none := rfl
@[simp] theorem q_oS {m : MP} : oPart (some m) S = kO (m S) := rfl
@[simp] theorem kO_s : kO (some (.int i)) = some (some i) := rfl
def kSl (a : Option D) (l h : Option (Option Int)) : Option D := a.bind fun d => l.bind fun lo => h.bind fun hi => dSlS lo hi d
@[simp] theorem q_pSlS {m : MP} {l h : Sto → Option (Option Int)} : pSlS m l h S = kSl (m S) (l S) (h S) := rfl
@[simp] theorem kSl_s {lo hi : Option Int} : kSl (some d) (some lo) (some hi) = dSlS lo hi d := rfl
/-! ### values -/
@[simp] theorem sD_int : sD (some (.int i)) S = some (.sh (.int i), S) := rfl
@[simp] theorem sD_bl : sD (some (.bl b)) S = some (.sh (.bl b), S) := rfl
@[simp] theorem sD_str {x : Str} : sD (some (.str x)) S = some (.sh (.str x), S) := rfl
@[simp] theorem sD_non : sD (some .non) S = some (.sh .non, S) := rfl
@[simp] theorem q_ofP {m : MP} : ofP m S = sD (m S) S := rfl
def kOB (a : Option Bool) (S : Sto) : Option (Bool × Sto) := a.bind fun b => some (b, S)
@[simp] theorem q_ofB {m : MB} : ofB m S = kOB (m S) S := rfl
@[simp] theorem kOB_s : kOB (some b) S = some (b, S) := rfl
def kVar (o : Option (Option T)) (i : Nat) (S : Sto) : Option (T × Sto) := match o with
  | some (some t) => some (.sh (fz t), uS S i (some (.sh (fz t))))
  | _ => none
@[simp] theorem q_eVar {i : Nat} : eVar i S = kVar (gS S i) i S := by
  cases h : S[i]? with
  | none =>
    unfold eVar gS
    rw [h]
    rfl
  | some o =>
    cases o with
    | none =>
      unfold eVar gS
      rw [h]
      rfl
    | some t =>
      rw [eVar_of h]
      unfold gS
      rw [h]
      rfl
@[simp] theorem kVar_s {i : Nat} : kVar (some (some t)) i S = some (.sh (fz t), uS S i (some (.sh (fz t)))) := rfl
def kMov (o : Option (Option T)) (i : Nat) (S : Sto) : Option (T × Sto) := match o with
  | some (some t) => some (t, uS S i none)
  | _ => none
@[simp] theorem q_eMov {i : Nat} : eMov i S = kMov (gS S i) i S := rfl
@[simp] theorem kMov_s {i : Nat} : kMov (some (some t)) i S = some (t, uS S i none) := rfl
@[simp] theorem q_eC : eC d S = some (.sh d, S) := rfl
def kE2 (g : D → D → Option D) (a : Option (T × Sto)) (mb : ME) : Option (T × Sto) := a.bind fun p => (mb p.2).bind fun q => sD (g (fz p.1) (fz q.1)) q.2
def kE2' (g : D → D → Option D) (t : T) (a : Option (T × Sto)) : Option (T × Sto) := a.bind fun q => sD (g (fz t) (fz q.1)) q.2
@[simp] theorem q_e2 {g : D → D → Option D} {ma mb : ME} : e2 g ma mb S = kE2 g (ma S) mb := rfl
@[simp] theorem q_e2M {g : D → D → Option D} {ma mb : ME} : e2M g ma mb S = kE2 g (ma S) mb := rfl
@[simp] theorem kE2_s {g : D → D → Option D} {mb : ME} : kE2 g (some (t, S)) mb = kE2' g t (mb S) := rfl
@[simp] theorem kE2'_s {g : D → D → Option D} : kE2' g t (some (u, S)) = sD (g (fz t) (fz u)) S := rfl
def kQB (a : Option (T × Sto)) : Option (Bool × Sto) := a.bind fun p => (asB (fz p.1)).bind fun b => some (b, p.2)
@[simp] theorem q_qB {m : ME} : qB m S = kQB (m S) := rfl
@[simp] theorem kQB_s : kQB (some (.sh (.bl b), S)) = some (b, S) := rfl
def kQA (a : Option (Bool × Sto)) (q : MT) : Option (Bool × Sto) := a.bind fun x => if x.1 = true then q x.2 else some (false, x.2)
def kQO (a : Option (Bool × Sto)) (q : MT) : Option (Bool × Sto) := a.bind fun x => if x.1 = true then some (true, x.2) else q x.2
def kQN (a : Option (Bool × Sto)) : Option (Bool × Sto) := a.bind fun x => some (!x.1, x.2)
@[simp] theorem q_qAnd {p q : MT} : qAnd p q S = kQA (p S) q := rfl
@[simp] theorem q_qOr {p q : MT} : qOr p q S = kQO (p S) q := rfl
@[simp] theorem q_qNot {p : MT} : qNot p S = kQN (p S) := rfl
@[simp] theorem q_qYes : qYes S = some (true, S) := rfl
@[simp] theorem kQA_t {q : MT} : kQA (some (true, S)) q = q S := rfl
@[simp] theorem kQA_f {q : MT} : kQA (some (false, S)) q = some (false, S) := rfl
@[simp] theorem kQO_t {q : MT} : kQO (some (true, S)) q = some (true, S) := rfl
@[simp] theorem kQO_f {q : MT} : kQO (some (false, S)) q = q S := rfl
@[simp] theorem kQN_s : kQN (some (b, S)) = some (!b, S) := rfl
def kEIf (a : Option (Bool × Sto)) (p q : ME) : Option (T × Sto) := a.bind fun x => if x.1 = true then p x.2 else q x.2
@[simp] theorem q_eIf {a : MT} {p q : ME} : eIf a p q S = kEIf (a S) p q := rfl
@[simp] theorem kEIf_t {p q : ME} : kEIf (some (true, S)) p q = p S := rfl
@[simp] theorem kEIf_f {p q : ME} : kEIf (some (false, S)) p q = q S := rfl
def kX (a : Option (T × Sto)) (mb : ME) : Option (T × Sto) := a.bind fun p => (mb p.2).bind fun q => match fz q.1 with
  | .int i => (kid p.1 i).bind fun t => if isSh t = true then some (t, q.2) else none
  | _ => none
def kX1 (t : T) (a : Option (T × Sto)) : Option (T × Sto) := a.bind fun q => match fz q.1 with
  | .int i => (kid t i).bind fun t => if isSh t = true then some (t, q.2) else none
  | _ => none
def kX2 (o : Option T) (S : Sto) : Option (T × Sto) := o.bind fun t => if isSh t = true then some (t, S) else none
@[simp] theorem q_eIx {ma mb : ME} : eIx ma mb S = kX (ma S) mb := rfl
@[simp] theorem kX_s {mb : ME} : kX (some (t, S)) mb = kX1 t (mb S) := rfl
@[simp] theorem kX1_s : kX1 t (some (.sh (.int i), S)) = kX2 (kid t i) S := rfl
@[simp] theorem kX2_s : kX2 (some (.sh d)) S = some (.sh d, S) := rfl
@[simp] theorem kid_shl {ds : List D} : kid (.sh (.lst ds)) i = (L2.atI ds i).map T.sh := rfl
@[simp] theorem kid_sht {ds : List D} : kid (.sh (.tup ds)) i = (L2.atI ds i).map T.sh := rfl
@[simp] theorem kid_l {ts : List T} : kid (.lst ts) i = L2.atI ts i := rfl
@[simp] theorem kid_t {ts : List T} : kid (.tup ts) i = L2.atI ts i := rfl
def kXN (j : Nat) (o : Option (Option T)) (mb : ME) (S : Sto) : Option (T × Sto) := match o with
  | some (some _) => (mb S).bind fun q => match q.2[j]? with
    | some (some t0) => (match fz q.1 with
      | .int i => (kid t0 i).bind fun t => if isSh t = true then some (t, q.2) else none
      | _ => none)
    | _ => none
  | _ => none
def kXN1 (j : Nat) (a : Option (T × Sto)) : Option (T × Sto) := a.bind fun q => match q.2[j]? with
    | some (some t0) => (match fz q.1 with
      | .int i => (kid t0 i).bind fun t => if isSh t = true then some (t, q.2) else none
      | _ => none)
    | _ => none
def kXN2 (o : Option (Option T)) (i : Int) (S : Sto) : Option (T × Sto) := match o with
    | some (some t0) => (kid t0 i).bind fun t => if isSh t = true then some (t, S) else none
    | _ => none
@[simp] theorem q_eIxN {j : Nat} {mb : ME} : eIxN j mb S = kXN j (gS S j) mb S := rfl
@[simp] theorem kXN_s {j : Nat} {mb : ME} : kXN j (some (some t)) mb S = kXN1 j (mb S) := rfl
@[simp] theorem kXN1_s {k : Nat} : kXN1 k (some (.sh (.int i), S)) = kXN2 (gS S k) i S := by
  unfold kXN1 kXN2 gS
  rw [Option.bind_some]
  rfl
@[simp] theorem kXN2_s : kXN2 (some (some t)) i S = kX2 (kid t i) S := rfl
@[simp] theorem q_aNil : aNil S = some ([], S) := rfl
def kAC (a : Option (T × Sto)) (r : MA) : Option (List T × Sto) := a.bind fun p => (r p.2).bind fun q => some (p.1 :: q.1, q.2)
def kAC1 (t : T) (a : Option (List T × Sto)) : Option (List T × Sto) := a.bind fun q => some (t :: q.1, q.2)
@[simp] theorem q_aCons {m : ME} {r : MA} : aCons m r S = kAC (m S) r := rfl
@[simp] theorem kAC_s {r : MA} : kAC (some (t, S)) r = kAC1 t (r S) := rfl
@[simp] theorem kAC1_s {ts : List T} : kAC1 t (some (ts, S)) = some (t :: ts, S) := rfl
def kAM (i : Nat) (o : Option (Option T)) (r : Option (List T × Sto)) : Option (List T × Sto) := match o with
  | some (some _) => r.bind fun q => match q.2[i]? with
    | some (some t) => some (t :: q.1, q.2.set i none)
    | _ => none
  | _ => none
def kAM1 (i : Nat) (o : Option (Option T)) (ts : List T) (S : Sto) : Option (List T × Sto) := match o with
    | some (some t) => some (t :: ts, uS S i none)
    | _ => none
@[simp] theorem q_aMv {i : Nat} {r : MA} : aMv i r S = kAM i (gS S i) (r S) := rfl
@[simp] theorem kAM_s {i : Nat} {ts : List T} : kAM i (some (some t)) (some (ts, S)) = kAM1 i (gS S i) ts S := rfl
@[simp] theorem kAM1_s {i : Nat} {ts : List T} : kAM1 i (some (some t)) ts S = some (t :: ts, uS S i none) := rfl
def kCall (f : Fn) (ms : List (Option Nat)) (a : Option (List T × Sto)) : Option (T × Sto) := a.bind fun p => (f p.1).bind fun r => if r.2.length = ms.length then some (r.1, putB ms r.2 p.2) else none
def kCall1 (ms : List (Option Nat)) (S : Sto) (a : Option (T × List (Option T))) : Option (T × Sto) := a.bind fun r => if r.2.length = ms.length then some (r.1, putB ms r.2 S) else none
@[simp] theorem q_eCall {f : Fn} {ms : List (Option Nat)} {ma : MA} : eCall f ms ma S = kCall f ms (ma S) := rfl
@[simp] theorem kCall_s {f : Fn} {ms : List (Option Nat)} {ts : List T} : kCall f ms (some (ts, S)) = kCall1 ms S (f ts) := rfl
@[simp] theorem kCall1_s {ms : List (Option Nat)} {r : T} {ts : List (Option T)} : kCall1 ms S (some (r, ts)) = if ts.length = ms.length then some (r, putB ms ts S) else none := rfl
@[simp] theorem putB_nil : putB [] [] S = S := rfl
@[simp] theorem putB_s {i : Nat} {ms : List (Option Nat)} {ts : List (Option T)} : putB (some i :: ms) (some t :: ts) S = putB ms ts (uS S i (some t)) := rfl
@[simp] theorem putB_sn {i : Nat} {ms : List (Option Nat)} {ts : List (Option T)} : putB (some i :: ms) (none :: ts) S = putB ms ts S := rfl
@[simp] theorem putB_n {o : Option T} {ms : List (Option Nat)} {ts : List (Option T)} : putB (none :: ms) (o :: ts) S = putB ms ts S := rfl
def kLst (a : Option (List T × Sto)) : Option (T × Sto) := a.bind fun p => if p.1.length ≤ 1000 then some (.lst p.1, p.2) else none
def kTup (a : Option (List T × Sto)) : Option (T × Sto) := a.bind fun p => if p.1.length ≤ 1000 then some (mkTup p.1, p.2) else none
@[simp] theorem q_eLst {ma : MA} : eLst ma S = kLst (ma S) := rfl
@[simp] theorem q_eTup {ma : MA} : eTup ma S = kTup (ma S) := rfl
@[simp] theorem kLst_s {ts : List T} : kLst (some (ts, S)) = if ts.length ≤ 1000 then some (.lst ts, S) else none := rfl
@[simp] theorem kTup_s {ts : List T} : kTup (some (ts, S)) = if ts.length ≤ 1000 then some (mkTup ts, S) else none := rfl
theorem mkTup_sh {ts : List T} (h : shAll ts = true) : mkTup ts = .sh (.tup (fzL ts)) := if_pos h
@[simp] theorem mkTup1 : mkTup [.sh x] = .sh (.tup [x]) := rfl
@[simp] theorem mkTup2 : mkTup [.sh x, .sh y] = .sh (.tup [x, y]) := rfl
@[simp] theorem mkTup3 : mkTup [.sh x, .sh y, .sh z] = .sh (.tup [x, y, z]) := rfl
@[simp] theorem mkTup4 : mkTup [.sh x, .sh y, .sh z, .sh d] = .sh (.tup [x, y, z, d]) := rfl
@[simp] theorem mkTup5 {e : D} : mkTup [.sh x, .sh y, .sh z, .sh d, .sh e] = .sh (.tup [x, y, z, d, e]) := rfl
@[simp] theorem mkTup2_ll {ts us : List T} : mkTup [.lst ts, .lst us] = .tup [.lst ts, .lst us] := rfl
@[simp] theorem mkTup2_ls {ts : List T} : mkTup [.lst ts, .sh d] = .tup [.lst ts, .sh d] := rfl
@[simp] theorem mkTup2_sl {ts : List T} : mkTup [.sh d, .lst ts] = .tup [.sh d, .lst ts] := rfl
def kE2T (g : T → T → Option T) (a : Option (T × Sto)) (mb : ME) : Option (T × Sto) := a.bind fun p => (mb p.2).bind fun q => (g p.1 q.1).bind fun t => some (t, q.2)
def kE2T1 (g : T → T → Option T) (t : T) (a : Option (T × Sto)) : Option (T × Sto) := a.bind fun q => (g t q.1).bind fun t => some (t, q.2)
def kE2T2 (o : Option T) (S : Sto) : Option (T × Sto) := o.bind fun t => some (t, S)
@[simp] theorem q_e2T {g : T → T → Option T} {ma mb : ME} : e2T g ma mb S = kE2T g (ma S) mb := rfl
@[simp] theorem kE2T_s {g : T → T → Option T} {mb : ME} : kE2T g (some (t, S)) mb = kE2T1 g t (mb S) := rfl
@[simp] theorem kE2T1_s {g : T → T → Option T} : kE2T1 g t (some (u, S)) = kE2T2 (g t u) S := rfl
@[simp] theorem kE2T2_s : kE2T2 (some t) S = some (t, S) := rfl
@[simp] theorem addT_ll {xs ys : List T} (h : xs.length + ys.length ≤ 16777216) : addT (.lst xs) (.lst ys) = some (.lst (xs ++ ys)) := by
  show (if xs.length + ys.length ≤ sizeLine then _ else _) = _
  rw [if_pos (by rw [sizeLine_val]; exact h)]
@[simp] theorem addT_sl {xs : List D} {ys : List T} (h : xs.length + ys.length ≤ 16777216) : addT (.sh (.lst xs)) (.lst ys) = some (.lst (xs.map .sh ++ ys)) := by
  show (if (xs.map T.sh).length + ys.length ≤ sizeLine then _ else _) = _
  rw [if_pos (by rw [sizeLine_val, List.length_map]; exact h)]
@[simp] theorem addT_ls {xs : List T} {ys : List D} (h : xs.length + ys.length ≤ 16777216) : addT (.lst xs) (.sh (.lst ys)) = some (.lst (xs ++ ys.map .sh)) := by
  show (if xs.length + (ys.map T.sh).length ≤ sizeLine then _ else _) = _
  rw [if_pos (by rw [sizeLine_val, List.length_map]; exact h)]
@[simp] theorem addT_ss {xs ys : List D} (h : xs.length + ys.length ≤ 16777216) : addT (.sh (.lst xs)) (.sh (.lst ys)) = some (.lst (xs.map .sh ++ ys.map .sh)) := by
  show (if (xs.map T.sh).length + (ys.map T.sh).length ≤ sizeLine then _ else _) = _
  rw [if_pos (by rw [sizeLine_val, List.length_map, List.length_map]; exact h)]
@[simp] theorem addT_ii : addT (.sh (.int i)) (.sh (.int j)) = some (.sh (.int (i + j))) := rfl
def kList (a : Option (List T × Sto)) : Option (T × Sto) := a.bind fun p => match p.1 with
  | [t] => (items (fz t)).bind fun ds => some (.lst (ds.map .sh), p.2)
  | _ => none
def kList1 (o : Option (List D)) (S : Sto) : Option (T × Sto) := o.bind fun ds => some (.lst (ds.map .sh), S)
@[simp] theorem q_eList {ma : MA} : eList ma S = kList (ma S) := rfl
@[simp] theorem kList_s : kList (some ([t], S)) = kList1 (items (fz t)) S := rfl
@[simp] theorem kList1_s {ds : List D} : kList1 (some ds) S = some (.lst (ds.map .sh), S) := rfl
def kTupOf (a : Option (List T × Sto)) : Option (T × Sto) := a.bind fun p => match p.1 with
  | [t] => (items (fz t)).bind fun ds => some (.sh (.tup ds), p.2)
  | _ => none
def kTupOf1 (o : Option (List D)) (S : Sto) : Option (T × Sto) := o.bind fun ds => some (.sh (.tup ds), S)
@[simp] theorem q_eTupOf {ma : MA} : eTupOf ma S = kTupOf (ma S) := rfl
@[simp] theorem kTupOf_s : kTupOf (some ([t], S)) = kTupOf1 (items (fz t)) S := rfl
@[simp] theorem kTupOf1_s {ds : List D} : kTupOf1 (some ds) S = some (.sh (.tup ds), S) := rfl
@[simp] theorem items_l {ds : List D} : items (.lst ds) = some ds := rfl
@[simp] theorem items_t {ds : List D} : items (.tup ds) = some ds := rfl
def kC1 (g : List D → Option D) (a : Option (T × Sto)) : Option (T × Sto) := a.bind fun p => sD (g [fz p.1]) p.2
@[simp] theorem q_eC1 {g : List D → Option D} {m : ME} : eC1 g m S = kC1 g (m S) := rfl
@[simp] theorem kC1_s {g : List D → Option D} : kC1 g (some (t, S)) = sD (g [fz t]) S := rfl
def kFz (a : Option (T × Sto)) : Option (T × Sto) := a.bind fun p => some (.sh (fz p.1), p.2)
@[simp] theorem q_eFz {m : ME} : eFz m S = kFz (m S) := rfl
@[simp] theorem kFz_s : kFz (some (t, S)) = some (.sh (fz t), S) := rfl
def kSlL (a : Option (T × Sto)) (l h : Sto → Option (Option Int)) : Option (T × Sto) := a.bind fun p => (l p.2).bind fun lo => (h p.2).bind fun hi => match fz p.1 with
  | .lst ds => some (.lst ((VS.cutD ds lo hi).map .sh), p.2)
  | _ => none
def kSlL1 (t : D) (l h : Option (Option Int)) (S : Sto) : Option (T × Sto) := l.bind fun lo => h.bind fun hi => match t with
  | .lst ds => some (.lst ((VS.cutD ds lo hi).map .sh), S)
  | _ => none
@[simp] theorem q_eSlL {m : ME} {l h : Sto → Option (Option Int)} : eSlL m l h S = kSlL (m S) l h := rfl
@[simp] theorem kSlL_s {l h : Sto → Option (Option Int)} : kSlL (some (t, S)) l h = kSlL1 (fz t) (l S) (h S) S := rfl
@[simp] theorem kSlL1_s {ds : List D} {lo hi : Option Int} : kSlL1 (.lst ds) (some lo) (some hi) S = some (.lst ((VS.cutD ds lo hi).map .sh), S) := rfl
def kSlK (j : Nat) (o : Option (Option T)) (l h : Option (Option Int)) (S : Sto) : Option (T × Sto) := match o with
  | some (some (.lst ts)) => l.bind fun lo => h.bind fun hi => some (.lst ((VS.cutD (ts.map fz) lo hi).map .sh), uS S j (some (.lst ((ts.map fz).map .sh))))
  | _ => none
@[simp] theorem q_eSlK {j : Nat} {l h : Sto → Option (Option Int)} : eSlK j l h S = kSlK j (gS S j) (l S) (h S) S := by
  unfold eSlK kSlK gS uS
  rfl
@[simp] theorem kSlK_s {j : Nat} {ts : List T} {lo hi : Option Int} : kSlK j (some (some (.lst ts))) (some lo) (some hi) S = some (.lst ((VS.cutD (ts.map fz) lo hi).map .sh), uS S j (some (.lst ((ts.map fz).map .sh)))) := rfl
def kRevL (a : Option (T × Sto)) : Option (T × Sto) := a.bind fun p => match fz p.1 with
  | .lst ds => some (.lst (ds.reverse.map .sh), p.2)
  | _ => none
def kRevL1 (d : D) (S : Sto) : Option (T × Sto) := match d with
  | .lst ds => some (.lst (ds.reverse.map .sh), S)
  | _ => none
@[simp] theorem q_eRevL {m : ME} : eRevL m S = kRevL (m S) := rfl
@[simp] theorem kRevL_s : kRevL (some (t, S)) = kRevL1 (fz t) S := rfl
@[simp] theorem kRevL1_s {ds : List D} : kRevL1 (.lst ds) S = some (.lst (ds.reverse.map .sh), S) := rfl
def kEAnd (a : Option (T × Sto)) (r : ME) : Option (T × Sto) := a.bind fun x => (asB (fz x.1)).bind fun k => if k = true then r x.2 else some (.sh (.bl false), x.2)
def kEOr (a : Option (T × Sto)) (r : ME) : Option (T × Sto) := a.bind fun x => (asB (fz x.1)).bind fun k => if k = true then some (.sh (.bl true), x.2) else r x.2
def kENot (a : Option (T × Sto)) : Option (T × Sto) := a.bind fun x => (asB (fz x.1)).bind fun k => some (.sh (.bl (!k)), x.2)
@[simp] theorem q_eAnd {p r : ME} : eAnd p r S = kEAnd (p S) r := rfl
@[simp] theorem q_eOr {p r : ME} : eOr p r S = kEOr (p S) r := rfl
@[simp] theorem q_eNot {p : ME} : eNot p S = kENot (p S) := rfl
@[simp] theorem kEAnd_t {r : ME} : kEAnd (some (.sh (.bl true), S)) r = r S := rfl
@[simp] theorem kEAnd_f {r : ME} : kEAnd (some (.sh (.bl false), S)) r = some (.sh (.bl false), S) := rfl
@[simp] theorem kEOr_t {r : ME} : kEOr (some (.sh (.bl true), S)) r = some (.sh (.bl true), S) := rfl
@[simp] theorem kEOr_f {r : ME} : kEOr (some (.sh (.bl false), S)) r = r S := rfl
@[simp] theorem kENot_s : kENot (some (.sh (.bl b), S)) = some (.sh (.bl (!b)), S) := rfl
def kIK (j : Nat) (o : Option (Option T)) (a : Option (T × Sto)) : Option (T × Sto) := match o with
  | some (some _) => a.bind fun q => match q.2[j]? with
    | some (some t0) => (match fz q.1 with
      | .int i => (kidF t0 i).bind fun p => some (.sh p.1, q.2.set j (some p.2))
      | _ => none)
    | _ => none
  | _ => none
def kIK1 (j : Nat) (o : Option (Option T)) (i : Int) (S : Sto) : Option (T × Sto) := match o with
    | some (some t0) => (kidF t0 i).bind fun p => some (.sh p.1, S.set j (some p.2))
    | _ => none
def kIK2 (j : Nat) (o : Option (D × T)) (S : Sto) : Option (T × Sto) := o.bind fun p => some (.sh p.1, uS S j (some p.2))
@[simp] theorem q_eIxK {j : Nat} {mb : ME} : eIxK j mb S = kIK j (gS S j) (mb S) := rfl
@[simp] theorem kIK_s {k : Nat} : kIK k (some (some t)) (some (.sh (.int i), S)) = kIK1 k (gS S k) i S := by
  unfold kIK kIK1 gS
  rw [Option.bind_some]
  rfl
@[simp] theorem kIK1_s {k : Nat} : kIK1 k (some (some t)) i S = kIK2 k (kidF t i) S := rfl
@[simp] theorem kIK2_s {k : Nat} : kIK2 k (some (d, t)) S = some (.sh d, uS S k (some t)) := rfl
@[simp] theorem kidF_shl {ds : List D} : kidF (.sh (.lst ds)) i = (L2.atI ds i).map fun d => (d, .sh (.lst ds)) := by
  unfold kidF
  show ((L2.atI ds i).map T.sh).bind _ = _
  cases L2.atI ds i <;> rfl
@[simp] theorem kidF_sht {ds : List D} : kidF (.sh (.tup ds)) i = (L2.atI ds i).map fun d => (d, .sh (.tup ds)) := by
  unfold kidF
  show ((L2.atI ds i).map T.sh).bind _ = _
  cases L2.atI ds i <;> rfl
@[simp] theorem kidF_l2_0 {a b : T} : kidF (.lst [a, b]) 0 = some (fz a, .lst [.sh (fz a), b]) := rfl
@[simp] theorem kidF_l2_1 {a b : T} : kidF (.lst [a, b]) 1 = some (fz b, .lst [a, .sh (fz b)]) := rfl
/-! ### statements -/
@[simp] theorem q_sNext : sNext S = some (.nx S) := rfl
@[simp] theorem q_sBreak : sBreak S = some (.bk S) := rfl
@[simp] theorem q_sCont : sCont S = some (.ct S) := rfl
@[simp] theorem q_sRetN : sRetN S = some (.rt (.sh .non) S) := rfl
def kS (a : Option Fl) (m' : MS) : Option Fl := a.bind fun f => match f with
  | .nx S1 => m' S1
  | f => some f
@[simp] theorem q_sSeq {m m' : MS} : sSeq m m' S = kS (m S) m' := rfl
@[simp] theorem kS_nx {m' : MS} : kS (some (.nx S)) m' = m' S := rfl
@[simp] theorem kS_rt {m' : MS} : kS (some (.rt t S)) m' = some (.rt t S) := rfl
@[simp] theorem kS_bk {m' : MS} : kS (some (.bk S)) m' = some (.bk S) := rfl
@[simp] theorem kS_ct {m' : MS} : kS (some (.ct S)) m' = some (.ct S) := rfl
def kR (a : Option (T × Sto)) : Option Fl := a.bind fun p => some (.rt p.1 p.2)
@[simp] theorem q_sRet {m : ME} : sRet m S = kR (m S) := rfl
@[simp] theorem kR_s : kR (some (t, S)) = some (.rt t S) := rfl
def kIF (a : Option (Bool × Sto)) (m m' : MS) : Option Fl := a.bind fun x => if x.1 = true then m x.2 else m' x.2
@[simp] theorem q_sIf {a : MT} {m m' : MS} : sIf a m m' S = kIF (a S) m m' := rfl
@[simp] theorem kIF_t {m m' : MS} : kIF (some (true, S)) m m' = m S := rfl
@[simp] theorem kIF_f {m m' : MS} : kIF (some (false, S)) m m' = m' S := rfl
def kDrop (a : Option (T × Sto)) : Option Fl := a.bind fun p => some (.nx p.2)
@[simp] theorem q_sDrop {m : ME} : sDrop m S = kDrop (m S) := rfl
@[simp] theorem kDrop_s : kDrop (some (t, S)) = some (.nx S) := rfl
def kAs (a : Option (T × Sto)) (g : T → Sto → Option Sto) : Option Fl := a.bind fun p => (g p.1 p.2).bind fun S' => some (.nx S')
def kAs1 (a : Option Sto) : Option Fl := a.bind fun S' => some (.nx S')
@[simp] theorem q_sAsg {m : ME} {g : T → Sto → Option Sto} : sAsg m g S = kAs (m S) g := rfl
@[simp] theorem kAs_s {g : T → Sto → Option Sto} : kAs (some (t, S)) g = kAs1 (g t S) := rfl
@[simp] theorem kAs1_s : kAs1 (some S) = some (.nx S) := rfl
def kGT (n : Nat) (r : List T → Sto → Option Sto) (a : Option (List T)) (S : Sto) : Option Sto := a.bind fun ts => if ts.length = n then r ts S else none
@[simp] theorem q_gTup {n : Nat} {r : List T → Sto → Option Sto} : gTupS n r t S = kGT n r (kidsTu t) S := rfl
@[simp] theorem kGT_s {n : Nat} {r : List T → Sto → Option Sto} {ts : List T} : kGT n r (some ts) S = if ts.length = n then r ts S else none := rfl
@[simp] theorem kidsTu_t {ts : List T} : kidsTu (.tup ts) = some ts := rfl
@[simp] theorem kidsTu_s {ds : List D} : kidsTu (.sh (.tup ds)) = some (ds.map .sh) := rfl
@[simp] theorem q_gsNil : gsNil [] S = some S := rfl
def kGC (a : Option Sto) (r : List T → Sto → Option Sto) (ts : List T) : Option Sto := a.bind fun S1 => r ts S1
@[simp] theorem q_gsCons {g : T → Sto → Option Sto} {r : List T → Sto → Option Sto} {ts : List T} : gsCons g r (t :: ts) S = kGC (g t S) r ts := rfl
@[simp] theorem kGC_s {r : List T → Sto → Option Sto} {ts : List T} : kGC (some S) r ts = r ts S := rfl
def kSetI (j : Nat) (a : Option (T × Sto)) (mk : ME) : Option Fl := a.bind fun p => match p.2[j]? with
  | some (some _) => (mk p.2).bind fun q => (match q.2[j]?, fz q.1 with
    | some (some (.lst ts)), .int i => (ixN ts.length i).bind fun n => some (.nx (q.2.set j (some (.lst (ts.set n p.1)))))
    | _, _ => none)
  | _ => none
def kSetI1 (j : Nat) (t : T) (o : Option (Option T)) (a : Option (T × Sto)) : Option Fl := match o with
  | some (some _) => a.bind fun q => (match q.2[j]?, fz q.1 with
    | some (some (.lst ts)), .int i => (ixN ts.length i).bind fun n => some (.nx (q.2.set j (some (.lst (ts.set n t)))))
    | _, _ => none)
  | _ => none
def kSetI2 (j : Nat) (t : T) (o : Option (Option T)) (i : Int) (S : Sto) : Option Fl := match o with
    | some (some (.lst ts)) => (ixN ts.length i).bind fun n => some (.nx (uS S j (some (.lst (ts.set n t)))))
    | _ => none
def kSetI3 (j : Nat) (t : T) (ts : List T) (o : Option Nat) (S : Sto) : Option Fl := o.bind fun n => some (.nx (uS S j (some (.lst (ts.set n t)))))
@[simp] theorem q_sSetI {j : Nat} {mv mk : ME} : sSetI j mv mk S = kSetI j (mv S) mk := rfl
@[simp] theorem kSetI_s {j : Nat} {mk : ME} : kSetI j (some (t, S)) mk = kSetI1 j t (gS S j) (mk S) := rfl
@[simp] theorem kSetI1_s {k : Nat} : kSetI1 k t (some (some u)) (some (.sh (.int i), S)) = kSetI2 k t (gS S k) i S := by
  unfold kSetI1 kSetI2 gS uS
  simp only [Option.bind_some, fz_sh]
  cases S[k]? with
  | none => rfl
  | some o => cases o with
    | none => rfl
    | some v => cases v <;> rfl
@[simp] theorem kSetI2_s {k : Nat} {ts : List T} : kSetI2 k t (some (some (.lst ts))) i S = kSetI3 k t ts (ixN ts.length i) S := rfl
@[simp] theorem kSetI3_s {k n : Nat} {ts : List T} : kSetI3 k t ts (some n) S = some (.nx (uS S k (some (.lst (ts.set n t))))) := rfl
theorem ixN_nat {n k : Nat} (h : k < n) : ixN n (k : Int) = some k := by
  unfold ixN
  rw [if_pos (by omega), if_pos (by omega), Int.toNat_natCast]
@[simp] theorem ixN_pos {n : Nat} (h0 : 0 ≤ i) (h : i < (n : Int)) : ixN n i = some i.toNat := by
  unfold ixN
  rw [if_pos h0, if_pos h]
def kApp (j : Nat) (o : Option (Option T)) (a : Option (T × Sto)) : Option Fl := match o with
  | some (some (.lst _)) => a.bind fun p => (match p.2[j]? with
    | some (some (.lst ts)) => if ts.length < sizeLine then some (.nx (p.2.set j (some (.lst (ts ++ [p.1]))))) else none
    | _ => none)
  | _ => none
def kApp1 (j : Nat) (o : Option (Option T)) (t : T) (S : Sto) : Option Fl := match o with
    | some (some (.lst ts)) => if ts.length < sizeLine then some (.nx (uS S j (some (.lst (ts ++ [t]))))) else none
    | _ => none
@[simp] theorem q_sApp {j : Nat} {me : ME} : sApp j me S = kApp j (gS S j) (me S) := rfl
@[simp] theorem kApp_s {j : Nat} {ts : List T} : kApp j (some (some (.lst ts))) (some (t, S)) = kApp1 j (gS S j) t S := rfl
@[simp] theorem kApp1_s {j : Nat} {ts : List T} (h : ts.length < 16777216) : kApp1 j (some (some (.lst ts))) t S = some (.nx (uS S j (some (.lst (ts ++ [t]))))) := by
  show (if ts.length < sizeLine then _ else _) = _
  rw [if_pos (by rw [sizeLine_val]; exact h)]
def kAug (g : D → D → Option D) (j : Nat) (o : Option (Option T)) (a : Option (T × Sto)) : Option Fl := match o with
  | some (some (.sh d0)) => a.bind fun p => (g d0 (fz p.1)).bind fun d => if sc d = true then (putS j (.sh d) p.2).bind fun S2 => some (.nx S2) else none
  | _ => none
def kAug1 (j : Nat) (a : Option D) (S : Sto) : Option Fl := a.bind fun d => if sc d = true then (putS j (.sh d) S).bind fun S2 => some (.nx S2) else none
@[simp] theorem q_sAug {g : D → D → Option D} {j : Nat} {me : ME} : sAug g j me S = kAug g j (gS S j) (me S) := rfl
@[simp] theorem kAug_s {g : D → D → Option D} {j : Nat} : kAug g j (some (some (.sh d))) (some (t, S)) = kAug1 j (g d (fz t)) S := rfl
@[simp] theorem kAug1_s {j : Nat} : kAug1 j (some (.int i)) S = kAs1 (putS j (.sh (.int i)) S) := rfl
@[simp] theorem kAug1_str {j : Nat} {x : Str} : kAug1 j (some (.str x)) S = kAs1 (putS j (.sh (.str x)) S) := rfl
/-! ### loops -/
def kFor (a : Option (List D × Sto)) (g : T → Sto → Option Sto) (b : MS) : Option Fl := a.bind fun p => loopF g b p.1 p.2
@[simp] theorem q_mFor {mi : MI} {g : T → Sto → Option Sto} {b : MS} : mFor mi g b S = kFor (mi S) g b := rfl
@[simp] theorem kFor_s {g : T → Sto → Option Sto} {b : MS} {ds : List D} : kFor (some (ds, S)) g b = loopF g b ds S := rfl
@[simp] theorem loop_n {g : T → Sto → Option Sto} {b : MS} : loopF g b [] S = some (.nx S) := rfl
def kLp (a : Option Sto) (g : T → Sto → Option Sto) (b : MS) (ds : List D) : Option Fl := a.bind fun S1 => (b S1).bind fun f => match f with
    | .nx S2 => loopF g b ds S2
    | .ct S2 => loopF g b ds S2
    | .bk S2 => some (.nx S2)
    | .rt r S2 => some (.rt r S2)
def kLp1 (a : Option Fl) (g : T → Sto → Option Sto) (b : MS) (ds : List D) : Option Fl := a.bind fun f => match f with
    | .nx S2 => loopF g b ds S2
    | .ct S2 => loopF g b ds S2
    | .bk S2 => some (.nx S2)
    | .rt r S2 => some (.rt r S2)
@[simp] theorem loop_c {g : T → Sto → Option Sto} {b : MS} {ds : List D} : loopF g b (d :: ds) S = kLp (g (.sh d) S) g b ds := by
  show (g (.sh d) S).bind _ = (g (.sh d) S).bind _
  congr 1
@[simp] theorem kLp_s {g : T → Sto → Option Sto} {b : MS} {ds : List D} : kLp (some S) g b ds = kLp1 (b S) g b ds := rfl
@[simp] theorem kLp1_nx {g : T → Sto → Option Sto} {b : MS} {ds : List D} : kLp1 (some (.nx S)) g b ds = loopF g b ds S := rfl
@[simp] theorem kLp1_ct {g : T → Sto → Option Sto} {b : MS} {ds : List D} : kLp1 (some (.ct S)) g b ds = loopF g b ds S := rfl
@[simp] theorem kLp1_bk {g : T → Sto → Option Sto} {b : MS} {ds : List D} : kLp1 (some (.bk S)) g b ds = some (.nx S) := rfl
@[simp] theorem kLp1_rt {g : T → Sto → Option Sto} {b : MS} {ds : List D} : kLp1 (some (.rt t S)) g b ds = some (.rt t S) := rfl
def kIL (a : Option (T × Sto)) : Option (List D × Sto) := a.bind fun p => match fz p.1 with
  | .lst ds => some (ds, p.2)
  | _ => none
def kIL1 (d : D) (S : Sto) : Option (List D × Sto) := match d with
  | .lst ds => some (ds, S)
  | _ => none
@[simp] theorem q_iList {me : ME} : iList' me S = kIL (me S) := rfl
@[simp] theorem kIL_s : kIL (some (t, S)) = kIL1 (fz t) S := rfl
@[simp] theorem kIL1_s {ds : List D} : kIL1 (.lst ds) S = some (ds, S) := rfl
def kIT (a : Option (T × Sto)) : Option (List D × Sto) := a.bind fun p => match fz p.1 with
  | .tup ds => some (ds, p.2)
  | _ => none
def kIT1 (d : D) (S : Sto) : Option (List D × Sto) := match d with
  | .tup ds => some (ds, S)
  | _ => none
@[simp] theorem q_iTup {me : ME} : iTup' me S = kIT (me S) := rfl
@[simp] theorem kIT_s : kIT (some (t, S)) = kIT1 (fz t) S := rfl
@[simp] theorem kIT1_s {ds : List D} : kIT1 (.tup ds) S = some (ds, S) := rfl
def kIS (a : Option (T × Sto)) : Option (List D × Sto) := a.bind fun p => (items (fz p.1)).map fun ds => (ds, p.2)
def kIS1 (o : Option (List D)) (S : Sto) : Option (List D × Sto) := o.map fun ds => (ds, S)
@[simp] theorem q_iSeq {me : ME} : iSeq' me S = kIS (me S) := rfl
@[simp] theorem kIS_s : kIS (some (t, S)) = kIS1 (items (fz t)) S := rfl
@[simp] theorem kIS1_s {ds : List D} : kIS1 (some ds) S = some (ds, S) := rfl
def kIStr (a : Option D) (S : Sto) : Option (List D × Sto) := a.bind fun d => match d with
  | .str x => some (signs x, S)
  | _ => none
@[simp] theorem q_iStr {m : MP} : iStr' m S = kIStr (m S) S := rfl
@[simp] theorem kIStr_s {x : Str} : kIStr (some (.str x)) S = some (signs x, S) := rfl
def kR1 (a : Option (List D)) (S : Sto) : Option (List D × Sto) := a.bind fun ds => match ds with
  | [.int j] => if near j = true then some (rngD 0 j.toNat, S) else none
  | _ => none
@[simp] theorem q_iRng1 {m : Sto → Option (List D)} : iRng1' m S = kR1 (m S) S := rfl
theorem near_i (h0 : -4611686018427387904 ≤ i) (h1 : i < 4611686018427387904) : near i = true := decide_eq_true ⟨by omega, by omega⟩
@[simp] theorem kR1_s (h0 : -4611686018427387904 ≤ i) (h1 : i < 4611686018427387904) : kR1 (some [.int i]) S = some (rngD 0 i.toNat, S) := if_pos (near_i h0 h1)
def kR2 (a : Option (List D)) (S : Sto) : Option (List D × Sto) := a.bind fun ds => match ds with
  | [.int i, .int j] => if (near i && near j) = true then some (rngD i (j - i).toNat, S) else none
  | _ => none
@[simp] theorem q_iRng2 {m : Sto → Option (List D)} : iRng2' m S = kR2 (m S) S := rfl
@[simp] theorem kR2_s (h0 : -4611686018427387904 ≤ i) (h1 : i < 4611686018427387904) (h2 : -4611686018427387904 ≤ j) (h3 : j < 4611686018427387904) : kR2 (some [.int i, .int j]) S = some (rngD i (j - i).toNat, S) := if_pos (by rw [near_i h0 h1, near_i h2 h3]; rfl)
def kR1E (a : Option (T × Sto)) : Option (List D × Sto) := a.bind fun p => match fz p.1 with
  | .int j => if near j = true then some (rngD 0 j.toNat, p.2) else none
  | _ => none
@[simp] theorem q_iRng1E {m : ME} : iRng1E m S = kR1E (m S) := rfl
@[simp] theorem kR1E_s (h0 : -4611686018427387904 ≤ i) (h1 : i < 4611686018427387904) : kR1E (some (.sh (.int i), S)) = some (rngD 0 i.toNat, S) := if_pos (near_i h0 h1)
def kLc (a : Option (List D × Sto)) (g : T → Sto → Option Sto) (tt : MT) (te : ME) (own : List Nat) : Option (T × Sto) := a.bind fun p => (lcGo g tt te own p.1 (wipeS p.2 own) []).bind fun r => some (.lst r.1, r.2)
def kLc1 (a : Option (List T × Sto)) : Option (T × Sto) := a.bind fun r => some (.lst r.1, r.2)
@[simp] theorem q_eLc {mi : MI} {g : T → Sto → Option Sto} {tt : MT} {te : ME} {own : List Nat} : eLc mi g tt te own S = kLc (mi S) g tt te own := rfl
@[simp] theorem kLc_s {g : T → Sto → Option Sto} {tt : MT} {te : ME} {own : List Nat} {ds : List D} : kLc (some (ds, S)) g tt te own = kLc1 (lcGo g tt te own ds (wipeS S own) []) := rfl
@[simp] theorem kLc1_s {ts : List T} : kLc1 (some (ts, S)) = some (.lst ts, S) := rfl
@[simp] theorem wipe_n : wipeS S [] = S := rfl
@[simp] theorem wipe_c {v : Nat} {vs : List Nat} : wipeS S (v :: vs) = uS (wipeS S vs) v none := rfl
/-! ### calls of defs -/
def kFn (as : List Nat) (ts : List T) (a : Option Fl) : Option (T × List (Option T)) := a.bind fun f => match f with
  | .nx S => some (.sh .non, outs as S 0 ts)
  | .rt t S => some (t, outs as S 0 ts)
  | _ => none
theorem q_mkFn {np ns : Nat} {as : List Nat} {m : MS} {ts : List T} (h : ts.length = np) : mkFn np ns as m ts = kFn as ts (m ((entry as 0 ts).map some ++ List.replicate (ns - np) none)) := if_pos h
@[simp] theorem kFn_nx {as : List Nat} {ts : List T} : kFn as ts (some (.nx S)) = some (.sh .non, outs as S 0 ts) := rfl
@[simp] theorem kFn_rt {as : List Nat} {ts : List T} : kFn as ts (some (.rt t S)) = some (t, outs as S 0 ts) := rfl
@[simp] theorem entry_n {as : List Nat} {i : Nat} : entry as i [] = [] := rfl
@[simp] theorem entry_c {as : List Nat} {i : Nat} {ts : List T} : entry as i (t :: ts) = (if i ∈ as then .sh (fz t) else t) :: entry as (i + 1) ts := rfl
@[simp] theorem outs_n {as : List Nat} {i : Nat} : outs as S i [] = [] := rfl
@[simp] theorem outs_c {as : List Nat} {i : Nat} {ts : List T} : outs as S i (t :: ts) = (if i ∈ as then some (.sh (fz t)) else (gS S i).getD none) :: outs as S (i + 1) ts := rfl
/-! ### data -/
@[simp] theorem dAdd_i : dAdd (.int i) (.int j) = some (.int (i + j)) := rfl
@[simp] theorem dAddI_i : dAddI (.int i) (.int j) = some (.int (i + j)) := rfl
@[simp] theorem dSub_i : dSub (.int i) (.int j) = some (.int (i - j)) := rfl
theorem small_i (h0 : -18446744073709551616 < i) (h1 : i < 18446744073709551616) : VS.small64 i = true := decide_eq_true ⟨by omega, by omega⟩
@[simp] theorem dMul_il (h0 : -18446744073709551616 < i) (h1 : i < 18446744073709551616) : dMul (.int i) (.int j) = some (.int (i * j)) := if_pos (by rw [small_i h0 h1]; rfl)
theorem dMul_ir (h0 : -18446744073709551616 < j) (h1 : j < 18446744073709551616) : dMul (.int i) (.int j) = some (.int (i * j)) := if_pos (by rw [small_i h0 h1]; exact Bool.or_true _)
theorem log2_64 {n : Nat} (h : n < 18446744073709551616) : n.log2 < 9000 := by
  rcases Nat.eq_zero_or_pos n with rfl | hp
  · decide +kernel
  · exact Nat.lt_of_lt_of_le ((Nat.log2_lt (k := 64) (Nat.pos_iff_ne_zero.mp hp)).mpr h) (by decide)
@[simp] theorem dDiv_i (h0 : 0 < j) (h1 : j < 18446744073709551616) : dDiv (.int i) (.int j) = some (.int (i / j)) := by
  have e : dDiv (.int i) (.int j) = some (.int (i.fdiv j)) := if_pos ⟨by omega, log2_64 (by omega)⟩
  rw [e, Int.fdiv_eq_ediv_of_nonneg _ (by omega)]
@[simp] theorem dMod_i (h0 : 0 < j) : dMod (.int i) (.int j) = some (.int (i % j)) := by
  have e : dMod (.int i) (.int j) = some (.int (i.fmod j)) := if_pos (by omega)
  rw [e, Int.fmod_eq_emod_of_nonneg _ (by omega)]
@[simp] theorem dPow_i (h0 : 0 ≤ j) (h1 : j ≤ 1000000) (h2 : -18446744073709551616 < i) (h3 : i < 18446744073709551616) : dPow (.int i) (.int j) = some (.int (i ^ j.toNat)) := if_pos ⟨h0, h1, by omega⟩
@[simp] theorem dLt_i : dLt (.int i) (.int j) = some (.bl (decide (i < j))) := rfl
@[simp] theorem dLe_i : dLe (.int i) (.int j) = some (.bl (decide (i ≤ j))) := rfl
@[simp] theorem dGt_i : dGt (.int i) (.int j) = some (.bl (decide (j < i))) := rfl
@[simp] theorem dGe_i : dGe (.int i) (.int j) = some (.bl (decide (j ≤ i))) := rfl
@[simp] theorem dEq_i : dEq (.int i) (.int j) = some (.bl (i == j)) := rfl
@[simp] theorem dEq_s {x y : Str} : dEq (.str x) (.str y) = some (.bl (x == y)) := rfl
@[simp] theorem dEq_b : dEq (.bl b) (.bl c) = some (.bl (b == c)) := rfl
@[simp] theorem dNe_i : dNe (.int i) (.int j) = some (.bl (!(i == j))) := rfl
@[simp] theorem dNe_s {x y : Str} : dNe (.str x) (.str y) = some (.bl (!(x == y))) := rfl
@[simp] theorem dNe_b : dNe (.bl b) (.bl c) = some (.bl (!(b == c))) := rfl
@[simp] theorem dIsN_n : dIsN x .non = some (.bl (isNonD x)) := by cases x <;> rfl
@[simp] theorem dIsNotN_n : dIsNotN x .non = some (.bl (!isNonD x)) := by cases x <;> rfl
@[simp] theorem isNon_n : isNonD .non = true := rfl
@[simp] theorem isNon_i : isNonD (.int i) = false := rfl
@[simp] theorem isNon_b : isNonD (.bl b) = false := rfl
@[simp] theorem isNon_s {x : Str} : isNonD (.str x) = false := rfl
@[simp] theorem isNon_l {xs : List D} : isNonD (.lst xs) = false := rfl
@[simp] theorem isNon_t {xs : List D} : isNonD (.tup xs) = false := rfl
@[simp] theorem dLen_l {xs : List D} : dLen [.lst xs] = some (.int (xs.length : Nat)) := rfl
@[simp] theorem dLen_t {xs : List D} : dLen [.tup xs] = some (.int (xs.length : Nat)) := rfl
@[simp] theorem dInt_i' : dInt [.int i] = some (.int i) := rfl
@[simp] theorem dInt_b : dInt [.bl b] = some (.int (if b then 1 else 0)) := rfl
@[simp] theorem dAbs_i : dAbs [.int i] = some (.int (if i < 0 then -i else i)) := rfl
@[simp] theorem dMax2_i : dMax2 [.int i, .int j] = some (.int (if j > i then j else i)) := rfl
@[simp] theorem dMin2_i : dMin2 [.int i, .int j] = some (.int (if j < i then j else i)) := rfl
@[simp] theorem dNeg_i : dNeg (.int i) = some (.int (-i)) := rfl
@[simp] theorem dIsi_ii : dIsi "int" (.int i) = some (.bl true) := congrArg (Option.map D.bl) (by decide +kernel : kitB "int" "int" = some true)
@[simp] theorem dIsi_ib : dIsi "int" (.bl b) = some (.bl true) := congrArg (Option.map D.bl) (by decide +kernel : kitB "bool" "int" = some true)
@[simp] theorem dIsi_in : dIsi "int" .non = some (.bl false) := congrArg (Option.map D.bl) (by decide +kernel : kitB "NoneType" "int" = some false)
@[simp] theorem dIsi_il {xs : List D} : dIsi "int" (.lst xs) = some (.bl false) := congrArg (Option.map D.bl) (by decide +kernel : kitB "list" "int" = some false)
@[simp] theorem dIsi_it {xs : List D} : dIsi "int" (.tup xs) = some (.bl false) := congrArg (Option.map D.bl) (by decide +kernel : kitB "tuple" "int" = some false)
@[simp] theorem dIsi_is {x : Str} : dIsi "int" (.str x) = some (.bl false) := congrArg (Option.map D.bl) (by decide +kernel : kitB "str" "int" = some false)
@[simp] theorem dIsi_bi : dIsi "bool" (.int i) = some (.bl false) := congrArg (Option.map D.bl) (by decide +kernel : kitB "int" "bool" = some false)
@[simp] theorem dIsi_bb : dIsi "bool" (.bl b) = some (.bl true) := congrArg (Option.map D.bl) (by decide +kernel : kitB "bool" "bool" = some true)
@[simp] theorem dIsi_bn : dIsi "bool" .non = some (.bl false) := congrArg (Option.map D.bl) (by decide +kernel : kitB "NoneType" "bool" = some false)
@[simp] theorem dIsi_bl {xs : List D} : dIsi "bool" (.lst xs) = some (.bl false) := congrArg (Option.map D.bl) (by decide +kernel : kitB "list" "bool" = some false)
@[simp] theorem dIsi_bt {xs : List D} : dIsi "bool" (.tup xs) = some (.bl false) := congrArg (Option.map D.bl) (by decide +kernel : kitB "tuple" "bool" = some false)
@[simp] theorem dIsi_bs {x : Str} : dIsi "bool" (.str x) = some (.bl false) := congrArg (Option.map D.bl) (by decide +kernel : kitB "str" "bool" = some false)
@[simp] theorem dIsi_tt {xs : List D} : dIsi "tuple" (.tup xs) = some (.bl true) := congrArg (Option.map D.bl) (by decide +kernel : kitB "tuple" "tuple" = some true)
@[simp] theorem dIsi_tl {xs : List D} : dIsi "tuple" (.lst xs) = some (.bl false) := congrArg (Option.map D.bl) (by decide +kernel : kitB "list" "tuple" = some false)
@[simp] theorem dIsi_tn : dIsi "tuple" .non = some (.bl false) := congrArg (Option.map D.bl) (by decide +kernel : kitB "NoneType" "tuple" = some false)
@[simp] theorem dIsi_ti : dIsi "tuple" (.int i) = some (.bl false) := congrArg (Option.map D.bl) (by decide +kernel : kitB "int" "tuple" = some false)
@[simp] theorem dIsi_lt {xs : List D} : dIsi "list" (.tup xs) = some (.bl false) := congrArg (Option.map D.bl) (by decide +kernel : kitB "tuple" "list" = some false)
@[simp] theorem dIsi_ll {xs : List D} : dIsi "list" (.lst xs) = some (.bl true) := congrArg (Option.map D.bl) (by decide +kernel : kitB "list" "list" = some true)
@[simp] theorem dIsi_ln : dIsi "list" .non = some (.bl false) := congrArg (Option.map D.bl) (by decide +kernel : kitB "NoneType" "list" = some false)
@[simp] theorem dIx_l {xs : List D} : dIx (.lst xs) (.int i) = L2.atI xs i := rfl
@[simp] theorem dIx_t {xs : List D} : dIx (.tup xs) (.int i) = L2.atI xs i := rfl
@[simp] theorem atI_map {α β : Type} {f : α → β} {l : List α} : L2.atI (l.map f) i = (L2.atI l i).map f := by
  unfold L2.atI
  rw [List.length_map]
  cases ixN l.length i with
  | none => rfl
  | some n => simp
@[simp] theorem atI_int {l : List Int} (h0 : 0 ≤ i) (h : i < (l.length : Int)) : L2.atI l i = some (l.getD i.toNat 0) := by
  have hj : i.toNat < l.length := by omega
  rw [show i = ((i.toNat : Nat) : Int) by omega, atI_pos, List.getElem?_eq_getElem hj, Int.toNat_natCast, List.getD_eq_getElem?_getD, List.getElem?_eq_getElem hj]
  rfl
@[simp] theorem atI_bool {l : List Bool} (h0 : 0 ≤ i) (h : i < (l.length : Int)) : L2.atI l i = some (l.getD i.toNat false) := by
  have hj : i.toNat < l.length := by omega
  rw [show i = ((i.toNat : Nat) : Int) by omega, atI_pos, List.getElem?_eq_getElem hj, Int.toNat_natCast, List.getD_eq_getElem?_getD, List.getElem?_eq_getElem hj]
  rfl
theorem atI_neg1 {α : Type} {l : List α} {a : α} : L2.atI (l ++ [a]) (-1) = some a := by
  unfold L2.atI ixN
  rw [if_neg (by omega), List.length_append, List.length_singleton, if_pos (by omega)]
  show (some _).bind _ = _
  rw [Option.bind_some]
  have e : (-1 + ((l.length + 1 : Nat) : Int)).toNat = l.length := by omega
  rw [e, List.getElem?_append_right (Nat.le_refl _), Nat.sub_self]
  rfl
@[simp] theorem fz_shc : (fz ∘ T.sh) = id := rfl
@[simp] theorem fz_lst_z {ds : List Int} : fz (.lst (ds.map fun i => T.sh (.int i))) = .lst (ds.map .int) := fz_lst_tZ ds
@[simp] theorem map_fz_z {ds : List Int} : (ds.map fun i => T.sh (.int i)).map fz = ds.map .int := by rw [List.map_map]; rfl
@[simp] theorem co_fz_tZ : (fz ∘ tZ) = D.int := rfl
@[simp] theorem co_fz_sh {α : Type} {f : α → D} : (fz ∘ T.sh ∘ f) = f := rfl
@[simp] theorem co_sh_int : (T.sh ∘ D.int) = tZ := rfl
theorem sh_int_map {ds : List Int} : (ds.map D.int).map T.sh = ds.map tZ := by rw [List.map_map]; rfl
@[simp] theorem dAll_b {l : List Bool} : dAll [.lst (l.map .bl)] = some (.bl (l.all id)) := by
  show (blsD (l.map .bl)).map _ = _
  rw [show blsD (l.map .bl) = some l by induction l with | nil => rfl | cons a l ih => show (blsD (l.map .bl)).map _ = _; rw [ih]; rfl]
  rfl
@[simp] theorem dAny_b {l : List Bool} : dAny [.lst (l.map .bl)] = some (.bl (l.any id)) := by
  show (blsD (l.map .bl)).map _ = _
  rw [show blsD (l.map .bl) = some l by induction l with | nil => rfl | cons a l ih => show (blsD (l.map .bl)).map _ = _; rw [ih]; rfl]
  rfl
@[simp] theorem dSum_i {l : List Int} : dSum [.lst (l.map .int)] = some (.int l.sum) := by
  show (intsD (l.map .int)).map _ = _
  rw [show intsD (l.map .int) = some l by induction l with | nil => rfl | cons a l ih => show (intsD (l.map .int)).map _ = _; rw [ih]; rfl]
  rfl
@[simp] theorem cutD_map {α β : Type} {f : α → β} {l : List α} {lo hi : Option Int} : VS.cutD (l.map f) lo hi = (VS.cutD l lo hi).map f := by
  unfold VS.cutD
  rw [List.length_map, List.map_take, List.map_drop]
/-- forwards: name what a body gives, then reckon at the name's equation -/
theorem ev {α : Type} (a : α) : ∃ r, a = r := ⟨a, rfl⟩
end VS
namespace VS
open PySem PySem.Spec PyProof.Rows L2
/-- d can be shown: its ints are small, its depth at most k, its text at most n signs -/
structure Sh (d : D) (k n : Nat) : Prop where
  a : (py d).showable = true
  b : (py d).depth ≤ k
  c : (py d).shown.length ≤ n
theorem Sh.shows {d : D} {k n : Nat} (h : Sh d k n) (hk : k ≤ 40) (hn : n ≤ 10000000) : VS.shows d = true := by
  unfold VS.shows
  rw [h.a, decide_eq_true (Nat.le_trans h.b hk), decide_eq_true (Nat.le_trans h.c hn)]
  rfl
theorem Sh.mono {d : D} {k n k' n' : Nat} (h : Sh d k n) (hk : k ≤ k') (hn : n ≤ n') : Sh d k' n' := ⟨h.a, Nat.le_trans h.b hk, Nat.le_trans h.c hn⟩
theorem Sh.int {i : Int} (h : i.natAbs.log2 < 1920) : Sh (.int i) 0 2000 := by
  refine ⟨?_, Nat.le_refl _, ?_⟩
  · show decide _ = true
    exact decide_eq_true h
  · show (Str.ofString (toString i)).length ≤ 2000
    rw [PySem.ofString_length]
    exact Nat.le_trans (PySem.int_text_length_le (k := 1920) (by decide) h) (by decide)
theorem Sh.int10 {i : Int} {k : Nat} (hk : 0 < k) (hk2 : k ≤ 500) (h : i.natAbs < 10 ^ k) : Sh (.int i) 0 (k + 1) := by
  have hl : i.natAbs.log2 < 1920 := by
    rcases Nat.eq_zero_or_pos i.natAbs with e | e
    · rw [e]; decide +kernel
    · refine (Nat.log2_lt (Nat.pos_iff_ne_zero.mp e)).mpr (Nat.lt_of_lt_of_le h ?_)
      exact Nat.le_trans (Nat.pow_le_pow_right (by decide) hk2) (by decide +kernel)
  refine ⟨?_, Nat.le_refl _, ?_⟩
  · show decide _ = true
    exact decide_eq_true hl
  · show (Str.ofString (toString i)).length ≤ k + 1
    rw [PySem.ofString_length]
    exact PySem.int_text_length_le10 hk h
theorem pyL_map (ds : List D) : pyL ds = ds.map py := by
  induction ds with
  | nil => rfl
  | cons d ds ih => show py d :: pyL ds = _; rw [ih]; rfl
theorem showAll_of : ∀ {ds : List D} {k n : Nat}, (∀ d ∈ ds, Sh d k n) → PyData.showableAll (pyL ds) = true ∧ PyData.depthAll (pyL ds) ≤ k ∧ ((PyData.shownAll (pyL ds)).map (·.length)).sum ≤ ds.length * n ∧ (PyData.shownAll (pyL ds)).length = ds.length
  | [], k, n, _ => ⟨rfl, Nat.zero_le _, by show (0 : Nat) ≤ _; omega, rfl⟩
  | d :: ds, k, n, h => by
    obtain ⟨a, b, c, e⟩ := showAll_of (ds := ds) (k := k) (n := n) fun x hx => h x (List.mem_cons_of_mem _ hx)
    have hd := h d List.mem_cons_self
    refine ⟨?_, ?_, ?_, ?_⟩
    · show (PyData.showable (py d) && PyData.showableAll (pyL ds)) = true
      rw [hd.a, a]
      rfl
    · show max (PyData.depth (py d)) (PyData.depthAll (pyL ds)) ≤ k
      exact Nat.max_le.mpr ⟨hd.b, b⟩
    · show (PyData.shown (py d)).length + ((PyData.shownAll (pyL ds)).map (·.length)).sum ≤ (ds.length + 1) * n
      have := hd.c
      rw [Nat.add_mul]
      omega
    · show (PyData.shownAll (pyL ds)).length + 1 = ds.length + 1
      rw [e]
theorem Sh.lst {ds : List D} {k n : Nat} (h : ∀ d ∈ ds, Sh d k n) : Sh (.lst ds) (k + 1) (ds.length * n + 2 * ds.length + 3) := by
  obtain ⟨a, b, c, e⟩ := showAll_of h
  refine ⟨a, ?_, ?_⟩
  · show PyData.depthAll (pyL ds) + 1 ≤ k + 1
    omega
  · have := PySem.listText_len_le (PyData.shownAll (pyL ds))
    rw [e] at this
    show (listText (PyData.shownAll (pyL ds))).length ≤ _
    omega
theorem Sh.tup {ds : List D} {k n : Nat} (h : ∀ d ∈ ds, Sh d k n) : Sh (.tup ds) (k + 1) (ds.length * n + 2 * ds.length + 3) := by
  obtain ⟨a, b, c, e⟩ := showAll_of h
  refine ⟨a, ?_, ?_⟩
  · show PyData.depthAll (pyL ds) + 1 ≤ k + 1
    omega
  · have := PySem.tupleText_len_le (PyData.shownAll (pyL ds))
    rw [e] at this
    show (tupleText (PyData.shownAll (pyL ds))).length ≤ _
    omega
end VS
namespace VS
open PySem PySem.Spec PyProof.Rows L2
/-- a comprehension, element by element -/
theorem lc_map {α : Type} {inj : α → D} {f : α → T} {g : T → Sto → Option Sto} {te : ME} {own : List Nat} {S : Sto} {S' : α → Sto} (h1 : ∀ a, g (.sh (inj a)) S = some (S' a)) (h3 : ∀ a, wipeS (S' a) own = S) :
    ∀ (l : List α) (acc : List T), (∀ a ∈ l, te (S' a) = some (f a, S' a)) → acc.length + l.length ≤ 16777215 → lcGo g qYes te own (l.map inj) S acc = some (acc ++ l.map f, S)
  | [], acc, _, _ => by rw [List.map_nil, List.map_nil, List.append_nil]; rfl
  | a :: l, acc, h2, h => by
    rw [List.length_cons] at h
    have ih := lc_map (f := f) h1 h3 l (acc ++ [f a]) (fun x hx => h2 x (List.mem_cons_of_mem _ hx)) (by rw [List.length_append, List.length_singleton]; omega)
    rw [List.map_cons, lc_step (h1 a) rfl (h2 a List.mem_cons_self) (by rw [sizeLine_val]; omega), h3 a, ih, List.append_assoc]
    rfl
theorem lc_map0 {α : Type} {inj : α → D} {f : α → T} {g : T → Sto → Option Sto} {te : ME} {own : List Nat} {S : Sto} {S' : α → Sto} (l : List α) (h1 : ∀ a, g (.sh (inj a)) S = some (S' a)) (h3 : ∀ a, wipeS (S' a) own = S) (h2 : ∀ a ∈ l, te (S' a) = some (f a, S' a)) (h : l.length ≤ 16777215) : lcGo g qYes te own (l.map inj) S [] = some (l.map f, S) :=
  lc_map h1 h3 l [] h2 (by simpa using h)
/-- a comprehension with a test -/
theorem lc_filt {α : Type} {inj : α → D} {f : α → T} {p : α → Bool} {g : T → Sto → Option Sto} {tt : MT} {te : ME} {own : List Nat} {S : Sto} {S' : α → Sto} (h1 : ∀ a, g (.sh (inj a)) S = some (S' a)) (h3 : ∀ a, wipeS (S' a) own = S) :
    ∀ (l : List α) (acc : List T), (∀ a ∈ l, tt (S' a) = some (p a, S' a)) → (∀ a ∈ l, p a = true → te (S' a) = some (f a, S' a)) → acc.length + l.length ≤ 16777215 → lcGo g tt te own (l.map inj) S acc = some (acc ++ (l.filter p).map f, S)
  | [], acc, _, _, _ => by rw [List.map_nil, List.filter_nil, List.map_nil, List.append_nil]; rfl
  | a :: l, acc, ht, h2, h => by
    rw [List.length_cons] at h
    have e := ht a List.mem_cons_self
    cases hp : p a with
    | false =>
      rw [hp] at e
      have ih := lc_filt (f := f) (p := p) (tt := tt) h1 h3 l acc (fun x hx => ht x (List.mem_cons_of_mem _ hx)) (fun x hx => h2 x (List.mem_cons_of_mem _ hx)) (by omega)
      rw [List.map_cons, lc_skip (h1 a) e, h3 a, ih, List.filter_cons_of_neg (by rw [hp]; decide)]
    | true =>
      rw [hp] at e
      have ih := lc_filt (f := f) (p := p) (tt := tt) h1 h3 l (acc ++ [f a]) (fun x hx => ht x (List.mem_cons_of_mem _ hx)) (fun x hx => h2 x (List.mem_cons_of_mem _ hx)) (by rw [List.length_append, List.length_singleton]; omega)
      rw [List.map_cons, lc_step (h1 a) e (h2 a List.mem_cons_self hp) (by rw [sizeLine_val]; omega), h3 a, ih, List.filter_cons_of_pos hp, List.append_assoc]
      rfl
theorem lc_filt0 {α : Type} {inj : α → D} {f : α → T} {p : α → Bool} {g : T → Sto → Option Sto} {tt : MT} {te : ME} {own : List Nat} {S : Sto} {S' : α → Sto} (l : List α) (h1 : ∀ a, g (.sh (inj a)) S = some (S' a)) (h3 : ∀ a, wipeS (S' a) own = S) (ht : ∀ a ∈ l, tt (S' a) = some (p a, S' a)) (h2 : ∀ a ∈ l, p a = true → te (S' a) = some (f a, S' a)) (h : l.length ≤ 16777215) : lcGo g tt te own (l.map inj) S [] = some ((l.filter p).map f, S) :=
  lc_filt h1 h3 l [] ht h2 (by simpa using h)
theorem rngD_map (lo : Int) (n : Nat) : rngD lo n = (List.range n).map fun (i : Nat) => D.int (lo + (i : Int)) := rfl
/-- a loop that goes on to its end: st is what the loop carries -/
theorem loop_fold {α σ : Type} {inj : α → D} {g : T → Sto → Option Sto} {b : MS} {F : σ → Sto} {step : σ → α → σ} : ∀ (l : List α) (st : σ), (∀ a ∈ l, ∀ st, ∃ S1, g (.sh (inj a)) (F st) = some S1 ∧ b S1 = some (.nx (F (step st a)))) → loopF g b (l.map inj) (F st) = some (.nx (F (l.foldl step st)))
  | [], st, _ => rfl
  | a :: l, st, h => by
    obtain ⟨S1, e1, e2⟩ := h a List.mem_cons_self st
    rw [List.map_cons, loop_nx e1 e2, List.foldl_cons]
    exact loop_fold l _ fun x hx => h x (List.mem_cons_of_mem _ hx)
end VS
namespace K11
open PySem PySem.Spec PyProof.Rows L2 VS
abbrev dsh (ds : List Int) : T := .sh (.lst (ds.map .int))
theorem atI_6 {a b c d e f i : Int} (h0 : 0 ≤ i) (h1 : i < 6) : L2.atI [tZ a, tZ b, tZ c, tZ d, tZ e, tZ f] i = some (tZ ([a, b, c, d, e, f].getD i.toNat 0)) := by
  rw [show [tZ a, tZ b, tZ c, tZ d, tZ e, tZ f] = [a, b, c, d, e, f].map tZ from rfl, atI_map, atI_int h0 (by simpa using h1)]
  rfl
/-- the sum of the third parts, by a comprehension -/
theorem lc_third {A : Sto} {i : Nat} (hi : i < A.length) (hs : A[i]? = some none) : ∀ (es : List Tr) (acc : List Int), acc.length + es.length ≤ 1000 → lcGo (putS i) qYes (ofP (p2 dIx (pV i) (pC (.int 2)))) [i] (es.map dT) A (acc.map tZ) = some ((acc ++ es.map (·.2.2)).map tZ, A)
  | [], acc, _ => by simp only [List.map_nil, List.append_nil]; rfl
  | e :: es, acc, h => by
    rw [List.length_cons] at h
    have ih := lc_third hi hs es (acc ++ [e.2.2]) (by rw [List.length_append, List.length_singleton]; omega)
    have hp : putS i (.sh (dT e)) A = some (A.set i (some (.sh (dT e)))) := if_pos hi
    have hi2 : (A.set i (some (.sh (dT e))))[i]? = some (some (.sh (dT e))) := List.getElem?_set_self hi
    have te : (ofP (p2 dIx (pV i) (pC (.int 2)))) (A.set i (some (.sh (dT e)))) = some (tZ e.2.2, A.set i (some (.sh (dT e)))) := by
      refine ofP_of (p2_of (x := dT e) ?_ rfl rfl) rfl
      unfold pV
      rw [hi2]
      rfl
    have wp : wipeS (A.set i (some (.sh (dT e)))) [i] = A := by
      show (A.set i (some _)).set i none = A
      rw [List.set_set, set_at hs]
    rw [List.map_cons, lc_step hp rfl te (by rw [List.length_map, sizeLine_val]; omega), wp]
    rw [show (acc ++ [e.2.2]).map tZ = acc.map tZ ++ [tZ e.2.2] by rw [List.map_append]; rfl] at ih
    rw [ih, List.append_assoc]
    rfl
theorem map_fz_tr {es : List Tr} : (es.map trT).map fz = es.map dT := by rw [List.map_map]; rfl
theorem sh_dT {es : List Tr} : (es.map dT).map T.sh = es.map trT := by rw [List.map_map]; rfl
theorem fz_trs {es : List Tr} : fz (.lst (es.map trT)) = .lst (es.map dT) := by rw [fz_lst, map_fz_tr]
theorem cut1 {α : Type} (a : α) (l : List α) : VS.cutD (a :: l) (some 1) none = l := by
  unfold VS.cutD
  simp [HT.sIx]
theorem co1 : (fz ∘ T.sh ∘ fz ∘ trT) = dT := rfl
theorem co0 : (fz ∘ trT) = dT := rfl
theorem co3 : (T.sh ∘ dT) = trT := rfl
theorem co2 : (T.sh ∘ fz ∘ trT) = trT := rfl
theorem lc_third15 {A : Sto} {x0 x1 x2 x3 x4 x5 x6 x7 x8 x9 x10 x11 x12 x13 x14 : Option T} {es : List Tr} {zs : List Int} (hz : es.map (·.2.2) = zs) (hl : es.length ≤ 1000) : lcGo (putS 15) qYes (ofP (p2 dIx (pV 15) (pC (.int 2)))) [15] (es.map dT) (x0 :: x1 :: x2 :: x3 :: x4 :: x5 :: x6 :: x7 :: x8 :: x9 :: x10 :: x11 :: x12 :: x13 :: x14 :: none :: A) [] = some (zs.map tZ, x0 :: x1 :: x2 :: x3 :: x4 :: x5 :: x6 :: x7 :: x8 :: x9 :: x10 :: x11 :: x12 :: x13 :: x14 :: none :: A) :=
  hz ▸ lc_third (by simp only [List.length_cons]; omega) rfl es [] (by simpa using hl)
abbrev lpQ : MS := (sIf (ofB (pB (pV 3))) (sSeq (sAsg (eIx (eLst (aCons (ofP (p1 dNeg (pC (.int 1)))) (aCons (ofP (pC (.int 0))) (aCons (ofP (pC (.int 1))) (aCons (ofP (p1 dNeg (pC (.int 2)))) (aCons (ofP (p2 dIx (pV 5) (pC (.int 8)))) (aCons (ofP (p1 dNeg (pC (.int 1)))) (aNil)))))))) (ofP (p2 dIx (pV 4) (pC (.int 1))))) (putS 9)) (sSeq (sAsg (eC1 dSum (eLc (iList' (eSlK 8 (oPart (some (pC (.int 1)))) (oPart none))) (putS 15) (qYes) (ofP (p2 dIx (pV 15) (pC (.int 2)))) [15])) (putS 10)) (sSetI 8 (eTup (aCons (ofP (p2 dIx (p2 dIx (pV 8) (pC (.int 0))) (pC (.int 0)))) (aCons (ofP (p2 dIx (p2 dIx (pV 8) (pC (.int 0))) (pC (.int 1)))) (aCons (ofP (p2 dSub (pV 9) (pV 10))) (aNil))))) (ofP (pC (.int 0)))))) (sNext))

abbrev lpNm : ME := (ofP (p2 dSub (p2 dSub (p2 dAdd (pCall dLen (paCons (pV 1) ((fun _ => some [])))) (pV 7)) (pC (.int 1))) (pV 14)))
theorem lc_nums {x0 x2 x3 x4 x5 x6 x8 x9 x10 x11 x12 x13 x15 : Option T} {d1 : T} {ts : List Tr} {c : Nat} {zs : List Int} (hd : IsD d1 ts) (hc : c ≤ 1000) (hz : (List.range c).map (fun k : Nat => (ts.length : Int) + c - 1 - k) = zs) :
    lcGo (putS 14) qYes lpNm [14] (rngD 0 c) [x0, some d1, x2, x3, x4, x5, x6, some (tI c), x8, x9, x10, x11, x12, x13, none, x15] [] = some (zs.map tZ, [x0, some d1, x2, x3, x4, x5, x6, some (tI c), x8, x9, x10, x11, x12, x13, none, x15]) := by
  have e := lc_rng (g := putS 14) (te := lpNm) (own := [14]) (S := [x0, some d1, x2, x3, x4, x5, x6, some (tI c), x8, x9, x10, x11, x12, x13, none, x15]) (S' := fun k => [x0, some d1, x2, x3, x4, x5, x6, some (tI c), x8, x9, x10, x11, x12, x13, some (tI k), x15]) (f := fun k => (ts.length : Int) + c - 1 - k) (fun k => rfl) (fun k => by simp [lpNm, hd.fz, dTs]) (fun k => rfl) c 0 [] (by simp; omega)
  rw [List.nil_append, ← List.range_eq_range', hz] at e
  exact e
abbrev lpR : MS := (sSeq (sAsg (eLc (iRng1' (paCons (pV 7) ((fun _ => some [])))) (putS 14) (qYes) lpNm [14]) (putS 11)) (sSeq (sIf (ofB (pB (pV 3))) (sSeq (sAsg (ofP (p2 dMod (pCall dInt (paCons (p2 dIx (pV 4) (pC (.int 2))) ((fun _ => some [])))) (pV 7))) (putS 12)) (sAsg (e2T addT (eSlL (eVar 11) (oPart (some (pV 12))) (oPart none)) (eSlL (eVar 11) (oPart none) (oPart (some (pV 12))))) (putS 11))) (sNext)) (sRet (eTup (aCons (e2T addT (eVar 1) (eRevL (eVar 8))) (aCons (eVar 11) (aNil)))))))
theorem addT_cut {ks : List Int} {lo hi lo' hi' : Option Int} (h : ks.length ≤ 1000) : addT (.lst ((VS.cutD ks lo hi).map tZ)) (.lst ((VS.cutD ks lo' hi').map tZ)) = some (.lst ((VS.cutD ks lo hi ++ VS.cutD ks lo' hi').map tZ)) := by
  have a := cut_len ks lo hi
  have b := cut_len ks lo' hi'
  rw [addT_ll (by rw [List.length_map, List.length_map]; omega), List.map_append]



theorem wok_c {w : Int} (h : WOk w) : COk w := ⟨by have := h.1; omega, by have := h.2; omega⟩
theorem six_c {w : Int} (h : WOk w) {i : Int} (h0 : 0 ≤ i) (h1 : i < 6) : -10000000000000000000000000000000000000000 < [-1, 0, 1, -2, w, -1].getD i.toNat 0 ∧ [-1, 0, 1, -2, w, -1].getD i.toNat 0 < 10000000000000000000000000000000000000000 := by
  have a := h.1
  have b := h.2
  rcases (show i = 0 ∨ i = 1 ∨ i = 2 ∨ i = 3 ∨ i = 4 ∨ i = 5 by omega) with rfl | rfl | rfl | rfl | rfl | rfl <;> simp <;> omega
theorem sum_c : ∀ {zs : List Int} {n : Nat}, zs.length ≤ n → (∀ z ∈ zs, WOk z) → -(10000000000000000000000000000000000000000 * (n : Int)) ≤ zs.sum ∧ zs.sum ≤ 10000000000000000000000000000000000000000 * n
  | [], n, _, _ => by rw [List.sum_nil]; omega
  | z :: zs, 0, h, _ => by simp at h
  | z :: zs, n + 1, h, hz => by
    have ih := sum_c (zs := zs) (n := n) (by simpa using h) fun x hx => hz x (List.mem_cons_of_mem _ hx)
    have a := hz z List.mem_cons_self
    have b := a.1
    have c := a.2
    rw [List.sum_cons]
    omega
theorem mem_last {α : Type} {P : α → Prop} {us : List α} {u : α} (h : ∀ e ∈ us, P e) (hu : P u) : ∀ e ∈ us.reverse ++ [u], P e := by
  intro e he
  rcases List.mem_append.mp he with he | he
  · exact h e (List.mem_reverse.mp he)
  · rw [List.mem_singleton.mp he]; exact hu
theorem rest_t {ds ws nd : List Int} {sc d1 : T} {mn c : Nat} {es ts : List Tr} (hD : IsD d1 ts) (hd : ds.length = 11) (hw : ws.length = 9) (h1 : 0 ≤ ds.getD 1 0 ∧ ds.getD 1 0 < 6) (hc : es.length = c) (hc1 : 1 ≤ c) (he : c ≤ 8) (hts : ts.length ≤ 1000) (hwo : ∀ w ∈ ws, WOk w) (hes : ∀ e ∈ es, Nd mn e ∧ WOk e.2.2) :
    ∃ (us : List Tr) (nums : List Int) (S5 : Sto), us.length ≤ 8 ∧ (∀ e ∈ us, Nd mn e ∧ COk e.2.2) ∧ nums.length ≤ 16 ∧ (∀ x ∈ nums, -2000 < x ∧ x < 2000) ∧ (sSeq lpQ lpR) (lpS sc d1 mn true (some (dsh ds)) (some (.lst (ws.map tZ))) (some (.lst (nd.map tZ))) (some (tI c)) (some (.lst (es.map trT))) none none none none) = some (.rt (.tup [.lst ((ts ++ us).map trT), .sh (.lst (nums.map .int))]) (some sc :: some (.sh (dTs ts)) :: some (tI mn) :: some (tBl true) :: S5)) := by
  match es, hc, hes with
  | [], hc, _ => simp at hc; omega
  | e0 :: es, hc, hes =>
  rw [List.length_cons] at hc
  obtain ⟨r, hr⟩ := ev ((sSeq lpQ lpR) (lpS sc d1 mn true (some (dsh ds)) (some (.lst (ws.map tZ))) (some (.lst (nd.map tZ))) (some (tI c)) (some (.lst ((e0 :: es).map trT))) none none none none))
  rw [hr]
  have w8 : WOk ws[8] := hwo _ (List.getElem_mem (by omega))
  have hs6 := six_c w8 h1.1 h1.2
  obtain ⟨zs, hz⟩ := ev (es.map (·.2.2))
  have hzl : zs.length ≤ 7 := by rw [← hz, List.length_map]; omega
  have hzs := sum_c (zs := zs) (n := 7) hzl (fun z h => by
    rw [← hz] at h
    obtain ⟨e, he, rfl⟩ := List.mem_map.mp h
    exact (hes e (List.mem_cons_of_mem _ he)).2)
  obtain ⟨ks, hk⟩ := ev ((List.range c).map (fun k : Nat => (ts.length : Int) + c - 1 - k))
  have hkl : ks.length = c := by rw [← hk, List.length_map, List.length_range]
  have hkb : ∀ x ∈ ks, -2000 < x ∧ x < 2000 := fun x hx => by
    rw [← hk] at hx
    obtain ⟨k, hk, rfl⟩ := List.mem_map.mp hx
    rw [List.mem_range] at hk
    omega
  simp (disch := omega) at h1
  obtain ⟨tg, htg⟩ := ev ([-1, 0, 1, -2, ws[8], -1].getD ds[1].toNat 0)
  have e1 : ds.getD 1 0 = ds[1] := by rw [List.getD_eq_getElem?_getD, List.getElem?_eq_getElem (by omega)]; rfl
  rw [e1, htg] at hs6
  have a6 : ∀ i : Int, i = ds[1] → L2.atI [tZ (-1), tZ 0, tZ 1, tZ (-2), tZ ws[8], tZ (-1)] i = some (tZ tg) := fun i hi => by
    rw [hi, atI_6 h1.1 h1.2, htg]
  have hN := (hes e0 List.mem_cons_self).1
  have hb : ∀ e ∈ es.reverse ++ [(e0.1, e0.2.1, tg - zs.sum)], Nd mn e ∧ COk e.2.2 := mem_last (fun e he => ⟨(hes e (List.mem_cons_of_mem _ he)).1, wok_c (hes e (List.mem_cons_of_mem _ he)).2⟩) ⟨hN, by unfold COk; show _ < tg - zs.sum ∧ tg - zs.sum < _; omega⟩
  have hcl := cut_len ks (some (ds[2] % (c : Int))) none
  have hcl2 := cut_len ks none (some (ds[2] % (c : Int)))
  refine ⟨es.reverse ++ [(e0.1, e0.2.1, tg - zs.sum)], VS.cutD ks (some (ds[2] % (c : Int))) none ++ VS.cutD ks none (some (ds[2] % (c : Int))), ?_⟩
  have hx4 : ∀ x ∈ VS.cutD ks (some (ds[2] % (c : Int))) none ++ VS.cutD ks none (some (ds[2] % (c : Int))), -2000 < x ∧ x < 2000 := fun x hx => by
    rcases List.mem_append.mp hx with hx | hx
    · exact hkb x (cut_mem hx)
    · exact hkb x (cut_mem hx)
  · rcases hD with rfl | rfl
    · apply Exists.intro
      refine ⟨by simp; omega, hb, by rw [List.length_append]; omega, hx4, ?_⟩
      simp -implicitDefEqProofs (disch := first | omega | (simp; omega) | fail) [a6, cut1, co0, co1, co2, co3, lc_third15 hz, lc_nums (.inl rfl) (c := c) (by omega) hk, addT_cut (ks := ks) (by omega), dTs] at hr
      rw [← hr]
      simp -implicitDefEqProofs (disch := first | omega | (simp; omega) | fail) [dTs]
      rfl
    · apply Exists.intro
      refine ⟨by simp; omega, hb, by rw [List.length_append]; omega, hx4, ?_⟩
      simp -implicitDefEqProofs (disch := first | omega | (simp; omega) | fail) [a6, cut1, co0, co1, co2, co3, lc_third15 hz, lc_nums (.inr rfl) (c := c) (by omega) hk, addT_cut (ks := ks) (by omega), dTs] at hr
      rw [← hr]
      simp -implicitDefEqProofs (disch := first | omega | (simp; omega) | fail) [dTs]
      rfl
theorem rest_f {ds ws nd : List Int} {sc d1 : T} {mn c : Nat} {es ts : List Tr} (hD : IsD d1 ts) (hc : es.length = c) (he : c ≤ 8) (hts : ts.length ≤ 1000) (hes : ∀ e ∈ es, Nd mn e ∧ WOk e.2.2) :
    ∃ (us : List Tr) (nums : List Int) (S5 : Sto), us.length ≤ 8 ∧ (∀ e ∈ us, Nd mn e ∧ COk e.2.2) ∧ nums.length ≤ 16 ∧ (∀ x ∈ nums, -2000 < x ∧ x < 2000) ∧ (sSeq lpQ lpR) (lpS sc d1 mn false (some (dsh ds)) (some (.lst (ws.map tZ))) (some (.lst (nd.map tZ))) (some (tI c)) (some (.lst (es.map trT))) none none none none) = some (.rt (.tup [.lst ((ts ++ us).map trT), .sh (.lst (nums.map .int))]) (some sc :: some (.sh (dTs ts)) :: some (tI mn) :: some (tBl false) :: S5)) := by
  obtain ⟨r, hr⟩ := ev ((sSeq lpQ lpR) (lpS sc d1 mn false (some (dsh ds)) (some (.lst (ws.map tZ))) (some (.lst (nd.map tZ))) (some (tI c)) (some (.lst (es.map trT))) none none none none))
  rw [hr]
  obtain ⟨ks, hk⟩ := ev ((List.range c).map (fun k : Nat => (ts.length : Int) + c - 1 - k))
  have hkl : ks.length = c := by rw [← hk, List.length_map, List.length_range]
  have hkb : ∀ x ∈ ks, -2000 < x ∧ x < 2000 := fun x hx => by
    rw [← hk] at hx
    obtain ⟨k, hk, rfl⟩ := List.mem_map.mp hx
    rw [List.mem_range] at hk
    omega
  rcases hD with rfl | rfl
  · refine ⟨es.reverse, ks, ?_⟩
    apply Exists.intro
    refine ⟨by simp; omega, fun e he => ⟨(hes e (List.mem_reverse.mp he)).1, wok_c (hes e (List.mem_reverse.mp he)).2⟩, by omega, hkb, ?_⟩
    simp -implicitDefEqProofs (disch := first | omega | (simp; omega) | fail) [co0, co1, co2, co3, lc_nums (.inl rfl) (c := c) (by omega) hk, dTs] at hr
    rw [← hr]
    simp -implicitDefEqProofs (disch := first | omega | (simp; omega) | fail) [dTs]
    rfl
  · refine ⟨es.reverse, ks, ?_⟩
    apply Exists.intro
    refine ⟨by simp; omega, fun e he => ⟨(hes e (List.mem_reverse.mp he)).1, wok_c (hes e (List.mem_reverse.mp he)).2⟩, by omega, hkb, ?_⟩
    simp -implicitDefEqProofs (disch := first | omega | (simp; omega) | fail) [co0, co1, co2, co3, lc_nums (.inr rfl) (c := c) (by omega) hk, dTs] at hr
    rw [← hr]
    simp -implicitDefEqProofs (disch := first | omega | (simp; omega) | fail) [dTs]
    rfl
end K11
namespace K11
open PySem PySem.Spec PyProof.Rows L2 VS
theorem law_path_eq {ns : List Int} {d1 : T} {ts : List Tr} {mn : Nat} {cl : Bool} (hD : IsD d1 ts) (hts : ts.length ≤ 1000) (hm : mn < 1000000) :
    ∃ (us : List Tr) (nums : List Int), us.length ≤ 8 ∧ (∀ e ∈ us, Nd mn e ∧ COk e.2.2) ∧ nums.length ≤ 16 ∧ (∀ x ∈ nums, -2000 < x ∧ x < 2000) ∧ f_law_path [.sh (.lst (ns.map .int)), d1, tI mn, tBl cl] = some (.tup [.lst ((ts ++ us).map trT), .sh (.lst (nums.map .int))], [some (.sh (.lst (ns.map .int))), some (.sh (dTs ts)), some (tI mn), some (tBl cl)]) := by
  obtain ⟨ds, dl, db, e1⟩ := lp_draws (ns := ns) (d1 := d1) (mn := mn) (cl := cl) hm
  obtain ⟨ws, wl, wo, e2⟩ := lp_weights (ns := ns) (d1 := d1) (mn := mn) (cl := cl) (o4 := some (.lst (ds.map tZ)))
  obtain ⟨nd, n1, n2, nb, e3⟩ := lp_nodes1 (sc := .sh (.lst (ns.map .int))) (d1 := d1) (mn := mn) (cl := cl) (ws := ws) dl db
  obtain ⟨n2', m1, mb, e4⟩ := lp_nodes2 (sc := .sh (.lst (ns.map .int))) (d1 := d1) (mn := mn) (cl := cl) (o4 := some (.sh (.lst (ds.map .int)))) (o5 := some (.lst (ws.map tZ))) n1 n2 nb
  obtain ⟨es, el, eb, e5⟩ := lp_edges (sc := .sh (.lst (ns.map .int))) (d1 := d1) (mn := mn) (cl := cl) (o4 := some (.sh (.lst (ds.map .int)))) m1 n2 wl mb wo
  have h1 : 0 ≤ ds.getD 1 0 ∧ ds.getD 1 0 < 6 := by
    rw [List.getD_eq_getElem?_getD, List.getElem?_eq_getElem (by omega)]
    exact db 1 _ 6 (List.getElem?_eq_getElem (by omega)) rfl
  have fin : ∀ r : Option Fl, r = (sSeq lpQ lpR) (lpS (.sh (.lst (ns.map .int))) d1 mn cl (some (dsh ds)) (some (.lst (ws.map tZ))) (some (.lst (n2'.map tZ))) (some (tI nd.length)) (some (.lst (es.map trT))) none none none none) → b_f_law_path (lpS (.sh (.lst (ns.map .int))) d1 mn cl none none none none none none none none none) = r := fun r hr => by
    rw [hr]
    show sSeq lpD (sSeq lpW (sSeq lpN1 (sSeq lpN2 (sSeq lpC (sSeq lpE (sSeq lpQ lpR)))))) _ = _
    rw [sSeq_nx e1, sSeq_nx e2, sSeq_nx e3, sSeq_nx e4]
    exact e5 _
  cases cl with
  | true =>
    obtain ⟨us, nums, S5, q1, q2, q3, q4, q5⟩ := rest_t (sc := .sh (.lst (ns.map .int))) (nd := n2') hD dl wl h1 el n1 n2 hts wo eb
    refine ⟨us, nums, q1, q2, q3, q4, ?_⟩
    unfold f_law_path
    rw [mkFn_rt (np := 4) (ns := 16) (as := []) (ts := [.sh (.lst (ns.map .int)), d1, tI mn, tBl true]) (S := lpS (.sh (.lst (ns.map .int))) d1 mn true none none none none none none none none none) rfl rfl (fin _ q5.symm)]
    rfl
  | false =>
    obtain ⟨us, nums, S5, q1, q2, q3, q4, q5⟩ := rest_f (sc := .sh (.lst (ns.map .int))) (ds := ds) (ws := ws) (nd := n2') hD el n2 hts eb
    refine ⟨us, nums, q1, q2, q3, q4, ?_⟩
    unfold f_law_path
    rw [mkFn_rt (np := 4) (ns := 16) (as := []) (ts := [.sh (.lst (ns.map .int)), d1, tI mn, tBl false]) (S := lpS (.sh (.lst (ns.map .int))) d1 mn false none none none none none none none none none) rfl rfl (fin _ q5.symm)]
    rfl
end K11
namespace K11
open PySem PySem.Spec PyProof.Rows L2 VS
/-- numbers as a shared list or as an owned one -/
def IsZ (b : T) (ns : List Int) : Prop := b = .sh (.lst (ns.map .int)) ∨ b = .lst (ns.map tZ)
theorem sz_ok {l : List Int} (h : ∀ z ∈ l, 0 < z ∧ z < 18446744073709551616) : SzOk l := fun z hz => ⟨(h z hz).1, log2_64 (by have := h z hz; omega)⟩
abbrev ldSz : List Int := [60, 100, 100, 100, 100, 100, 100]
abbrev ldQ : ME := (ofP (p2 dSub (p2 dMod (pCall dInt (paCons (pV 7) ((fun _ => some [])))) (p2 dAdd (pCall dLen (paCons (pV 2) ((fun _ => some [])))) (pC (.int 4)))) (pC (.int 2))))
theorem lc_ldQ {x0 x1 x3 x4 x5 x6 : Option T} {ts : List Tr} {l zs : List Int} (hz : l.map (fun d => d % ((ts.length : Int) + 4) - 2) = zs) (hl : l.length ≤ 1000) :
    lcGo (putS 7) qYes ldQ [7] (l.map .int) [x0, x1, some (.sh (dTs ts)), x3, x4, x5, x6, none] [] = some (zs.map tZ, [x0, x1, some (.sh (dTs ts)), x3, x4, x5, x6, none]) := by
  have e := lc_map0 (inj := D.int) (f := fun d => tZ (d % ((ts.length : Int) + 4) - 2)) (g := putS 7) (te := ldQ) (own := [7]) (S := [x0, x1, some (.sh (dTs ts)), x3, x4, x5, x6, none]) (S' := fun d => [x0, x1, some (.sh (dTs ts)), x3, x4, x5, x6, some (tZ d)]) l (fun a => rfl) (fun a => rfl) (fun a _ => by simp -implicitDefEqProofs (disch := first | omega | (simp <;> omega) | fail) [ldQ, dTs]) (by omega)
  rw [e, ← hz, List.map_map]
  rfl

theorem set_tZ {l : List Int} {n : Nat} {v : Int} : (l.map tZ).set n (T.sh (D.int v)) = (l.set n v).map tZ := by rw [List.map_set]
theorem law_drawn_eq {ns : List Int} {s0 s1 s2 s3 s4 s5 s6 s7 : Int} {d2 : T} {ts : List Tr} {mn : Nat} (hD : IsD d2 ts) (hts : ts.length ≤ 900) (hm : mn < 1000000) (hs0 : 0 ≤ s0) (hn : ∀ e ∈ ts, Nd mn e ∧ COk e.2.2) :
    ∃ (us : List Tr) (nums : List Int) (t a b o2 : T), us.length ≤ 1000 ∧ (∀ e ∈ us, Nd mn e ∧ COk e.2.2) ∧ nums.length ≤ 100 ∧ (∀ x ∈ nums, -2000 < x ∧ x < 2000) ∧ kidsTu t = some [a, b] ∧ IsD a us ∧ IsZ b nums ∧ f_law_drawn [.sh (.lst (ns.map .int)), .lst ([s0, s1, s2, s3, s4, s5, s6, s7].map tZ), d2, tI mn] = some (t, [some (.sh (.lst (ns.map .int))), some (.lst ([s0, s1, s2, s3, s4, s5, s6, s7].map tZ)), some o2, some (tI mn)]) := by
  obtain ⟨ds, dl, db, q3⟩ := draws2_eq (ns := ns) (pl := 5) (sz := .lst (ldSz.map tZ)) (szs := ldSz) (fz_lst_tZ _) (sz_ok (by decide)) (by decide)
  rw [← draws_def] at q3
  have q4 : f_law_draws [.sh (.lst (ns.map .int)), .sh (.int 5), .lst [tZ 60, tZ 100, tZ 100, tZ 100, tZ 100, tZ 100, tZ 100]] = _ := q3
  have dl7 : ds.length = 7 := dl
  have dn : ∀ (i : Nat) (h : i < ds.length), 0 ≤ ds[i] := fun i h => (db i ds[i] (ldSz[i]'(by simp; omega)) (List.getElem?_eq_getElem h) (List.getElem?_eq_getElem _)).1
  have d0 := dn 0 (by omega)
  have d1 := dn 1 (by omega)
  obtain ⟨r, hr⟩ := ev (f_law_drawn [.sh (.lst (ns.map .int)), .lst ([s0, s1, s2, s3, s4, s5, s6, s7].map tZ), d2, tI mn])
  rw [hr]
  have hfz : fz d2 = dTs ts := hD.fz
  by_cases c0 : s0 = 0 ∨ ts.length = 0
  · obtain ⟨zs, hz⟩ := ev ((VS.cutD ds (some 1) (some ((1 : Int) + ds[0] % 6))).map (fun d => d % ((ts.length : Int) + 4) - 2))
    have cb : (s0 == 0 || ((ts.length : Int) == 0)) = true := by
      rw [Bool.or_eq_true, beq_iff_eq, beq_iff_eq]
      omega
    have hcl := cut_len ds (some 1) (some ((1 : Int) + ds[0] % 6))
    have zl : zs.length ≤ 100 := by rw [← hz, List.length_map]; omega
    have zb : ∀ x ∈ zs, -2000 < x ∧ x < 2000 := fun x hx => by
      rw [← hz] at hx
      obtain ⟨d, _, rfl⟩ := List.mem_map.mp hx
      have := Int.emod_nonneg d (b := (ts.length : Int) + 4) (by omega)
      have := Int.emod_lt_of_pos d (b := (ts.length : Int) + 4) (by omega)
      omega
    rcases hD with rfl | rfl
    · simp -implicitDefEqProofs (disch := first | omega | (simp <;> omega) | fail) [f_law_drawn, b_f_law_drawn, q_mkFn, q4, dTs, cb, lc_ldQ hz] at hr
      exact ⟨ts, zs, _, _, _, _, by omega, hn, zl, zb, rfl, .inl rfl, .inr rfl, hr.symm⟩
    · simp -implicitDefEqProofs (disch := first | omega | (simp <;> omega) | fail) [f_law_drawn, b_f_law_drawn, q_mkFn, q4, dTs, cb, lc_ldQ hz, co0, co1, co2, co3] at hr
      exact ⟨ts, zs, _, _, _, _, by omega, hn, zl, zb, rfl, .inl rfl, .inr rfl, hr.symm⟩
  · have cb : (s0 == 0 || ((ts.length : Int) == 0)) = false := by
      rw [Bool.or_eq_false_iff, beq_eq_false_iff_ne, beq_eq_false_iff_ne]
      omega
    by_cases c1 : 3 < s0
    · obtain ⟨us, nums, p1, p2, p3, p4, p5⟩ := law_path_eq (ns := ns) (cl := decide (s0 < 7)) hD (by omega) hm
      have ha : ∀ e ∈ ts ++ us, Nd mn e ∧ COk e.2.2 := fun e he => by
        rcases List.mem_append.mp he with he | he
        · exact hn e he
        · exact p2 e he
      rcases hD with rfl | rfl
      · simp -implicitDefEqProofs (disch := first | omega | (simp <;> omega) | fail) [f_law_drawn, b_f_law_drawn, q_mkFn, q4, dTs, cb, c1, p5] at hr
        exact ⟨ts ++ us, nums, _, _, _, _, by rw [List.length_append]; omega, ha, by omega, p4, rfl, .inr (by rw [List.map_append]), .inl rfl, hr.symm⟩
      · simp -implicitDefEqProofs (disch := first | omega | (simp <;> omega) | fail) [f_law_drawn, b_f_law_drawn, q_mkFn, q4, dTs, cb, c1, p5, co0, co1, co2, co3] at hr
        exact ⟨ts ++ us, nums, _, _, _, _, by rw [List.length_append]; omega, ha, by omega, p4, rfl, .inr (by rw [List.map_append]), .inl rfl, hr.symm⟩
    · obtain ⟨xs, x1, x2, x3, x4⟩ := law_going_eq (ns := ns) (mn := mn) hfz (by omega)
      have x3' := x3 (by omega)
      obtain ⟨zs, hz⟩ := ev (xs.map fun x : Nat => (x : Int))
      have xz : xs.map tI = zs.map tZ := by rw [← hz, List.map_map]; rfl
      rw [xz] at x4
      have zl : zs.length ≤ 30 := by rw [← hz, List.length_map]; omega
      have zl0 : 0 < zs.length := by
        rw [← hz, List.length_map]
        exact List.length_pos_iff.mpr x3'
      have zb : ∀ x ∈ zs, 0 ≤ x ∧ x < ts.length := fun x hx => by
        rw [← hz] at hx
        obtain ⟨d, hd, rfl⟩ := List.mem_map.mp hx
        have := x1 d hd
        omega
      have cT : ((ts.length : Int) == 0) = false := by
        rw [beq_eq_false_iff_ne]
        omega
      have zb2 : ∀ x ∈ zs, -2000 < x ∧ x < 2000 := fun x hx => by have := zb x hx; omega
      have m0 := Int.emod_nonneg ds[0] (b := (zs.length : Int)) (by omega)
      have m1 := Int.emod_lt_of_pos ds[0] (b := (zs.length : Int)) (by omega)
      have hix : ixN zs.length (ds[0] % (zs.length : Int)) = some (ds[0] % (zs.length : Int)).toNat := ixN_pos m0 m1
      obtain ⟨nn, hnn⟩ := ev (ds[0] % (zs.length : Int)).toNat
      rw [hnn] at hix
      have v0 := Int.emod_nonneg ds[1] (b := (ts.length : Int) + 2) (by omega)
      have v1 := Int.emod_lt_of_pos ds[1] (b := (ts.length : Int) + 2) (by omega)
      obtain ⟨v, hv⟩ := ev (ds[1] % ((ts.length : Int) + 2) - 1)
      have sl : (zs.set nn v).length ≤ 100 := by rw [List.length_set]; omega
      have sb : ∀ x ∈ zs.set nn v, -2000 < x ∧ x < 2000 := fun x hx => by
        rcases List.mem_or_eq_of_mem_set hx with hx | rfl
        · exact zb2 x hx
        · omega
      have cl1 := cut_len zs none (some (ds[0] % (zs.length : Int)))
      have cl2 := cut_len zs (some (ds[0] % (zs.length : Int) + 1)) none
      have cb3 : ∀ x ∈ VS.cutD zs none (some (ds[0] % (zs.length : Int))) ++ VS.cutD zs (some (ds[0] % (zs.length : Int) + 1)) none, -2000 < x ∧ x < 2000 := fun x hx => by
        rcases List.mem_append.mp hx with hx | hx
        · exact zb2 x (cut_mem hx)
        · exact zb2 x (cut_mem hx)
      by_cases c2 : s0 = 2
      · subst c2
        rcases hD with rfl | rfl
        · simp -implicitDefEqProofs (disch := first | omega | (simp <;> omega) | fail) [f_law_drawn, b_f_law_drawn, q_mkFn, q4, dTs, cT, c1, x4, hix, hv] at hr
          exact ⟨ts, zs.set nn v, _, _, _, _, by omega, hn, sl, sb, rfl, .inl rfl, .inl (by rw [List.map_set, hnn]), hr.symm⟩
        · simp -implicitDefEqProofs (disch := first | omega | (simp <;> omega) | fail) [f_law_drawn, b_f_law_drawn, q_mkFn, q4, dTs, cT, c1, x4, hix, hv, co0, co1, co2, co3] at hr
          exact ⟨ts, zs.set nn v, _, _, _, _, by omega, hn, sl, sb, rfl, .inl rfl, .inl (by rw [List.map_set, hnn]), hr.symm⟩
      · have c2' : (s0 == 2) = false := beq_eq_false_iff_ne.mpr c2
        by_cases c3 : s0 = 3
        · subst c3
          rcases hD with rfl | rfl
          · simp -implicitDefEqProofs (disch := first | omega | (simp <;> omega) | fail) [f_law_drawn, b_f_law_drawn, q_mkFn, q4, dTs, cT, c1, x4, addT_cut (ks := zs) (by omega)] at hr
            exact ⟨ts, VS.cutD zs none (some (ds[0] % (zs.length : Int))) ++ VS.cutD zs (some (ds[0] % (zs.length : Int) + 1)) none, _, _, _, _, by omega, hn, by rw [List.length_append]; omega, cb3, rfl, .inl rfl, .inl (by rw [List.map_append]), hr.symm⟩
          · simp -implicitDefEqProofs (disch := first | omega | (simp <;> omega) | fail) [f_law_drawn, b_f_law_drawn, q_mkFn, q4, dTs, cT, c1, x4, addT_cut (ks := zs) (by omega), co0, co1, co2, co3] at hr
            exact ⟨ts, VS.cutD zs none (some (ds[0] % (zs.length : Int))) ++ VS.cutD zs (some (ds[0] % (zs.length : Int) + 1)) none, _, _, _, _, by omega, hn, by rw [List.length_append]; omega, cb3, rfl, .inl rfl, .inl (by rw [List.map_append]), hr.symm⟩
        · have c3' : (s0 == 3) = false := beq_eq_false_iff_ne.mpr c3
          rcases hD with rfl | rfl
          · simp -implicitDefEqProofs (disch := first | omega | (simp <;> omega) | fail) [f_law_drawn, b_f_law_drawn, q_mkFn, q4, dTs, cb, c1, x4, c2', c3'] at hr
            exact ⟨ts, zs, _, _, _, _, by omega, hn, by omega, zb2, rfl, .inl rfl, .inl rfl, hr.symm⟩
          · simp -implicitDefEqProofs (disch := first | omega | (simp <;> omega) | fail) [f_law_drawn, b_f_law_drawn, q_mkFn, q4, dTs, cb, c1, x4, c2', c3', co0, co1, co2, co3] at hr
            exact ⟨ts, zs, _, _, _, _, by omega, hn, by omega, zb2, rfl, .inl rfl, .inl rfl, hr.symm⟩
end K11
namespace K11
open PySem PySem.Spec PyProof.Rows L2 VS
theorem IsZ.fz {b : T} {ns : List Int} (h : IsZ b ns) : VS.fz b = .lst (ns.map .int) := by
  rcases h with rfl | rfl
  · rfl
  · exact fz_lst_tZ ns
theorem dRepr_eq {ds : List D} (h : VS.shows (.lst ds) = true) : dRepr [.lst ds] = some (.str (py (.lst ds)).shown) := if_pos h
def lawR3 : MS := sSeq (sAsg (eLst (aCons (eFz (eList (aCons (eVar 4) (aNil)))) (aCons (eFz (eList (aCons (eVar 5) (aNil)))) (aNil)))) (putS 11)) (sSeq (sIf (ofB (pB (p2 dEq (p2 dIx (pV 1) (pC (.int 4))) (pC (.int 1))))) (sAsg (eLst (aCons (eIxK 11 (ofP (pC (.int 0)))) (aCons (eTupOf (aCons (eVar 5) (aNil))) (aNil)))) (putS 11)) (sNext)) (sSeq (sAsg (eC1 dRepr (eLst (aCons (eVar 11) (aCons (eVar 6) (aNil))))) (putS 12)) (sSeq (sAsg (eCall f_law_sum [some 4, some 5] (aMv 4 (aMv 5 (aNil)))) (putS 13)) (sSeq (sIf (qNot (qB (eCall f_law_is_triple [none, some 13] (aCons (eCall chain_sum [none, none] (aCons (eIxK 11 (ofP (pC (.int 0)))) (aCons (eIxK 11 (ofP (pC (.int 1)))) (aNil)))) (aMv 13 (aNil)))))) (sRet (ofP (pC (.bl false)))) (sNext)) (sSeq (sIf (qNot (qB (eCall f_law_tells [none, none] (aCons (eCall is_ring [none, none] (aCons (eIxK 11 (ofP (pC (.int 0)))) (aCons (eIxK 11 (ofP (pC (.int 1)))) (aNil)))) (aCons (ofP (pAnd (p2 dIsNotN (pV 13) (pC .non)) (pAnd (p2 dEq (p2 dIx (pV 13) (pC (.int 0))) (p2 dIx (pV 13) (pC (.int 1)))) (p2 dLt (p2 dIx (pV 13) (pC (.int 2))) (pC (.int 0)))))) (aNil)))))) (sRet (ofP (pC (.bl false)))) (sNext)) (sSeq (sAsg (eCall f_law_kept [some 4, some 6] (aMv 4 (aMv 6 (aNil)))) (putS 14)) (sSeq (sIf (qNot (qB (eCall f_law_tells [none, some 14] (aCons (eCall keeps_all [none, some 6] (aCons (eIxK 11 (ofP (pC (.int 0)))) (aMv 6 (aNil)))) (aMv 14 (aNil)))))) (sRet (ofP (pC (.bl false)))) (sNext)) (sRet (e2 dEq (eC1 dRepr (eLst (aCons (eVar 11) (aCons (eVar 6) (aNil))))) (eVar 12))))))))))
theorem r3 {ns vs nums : List Int} {s0 s1 s2 s3 s4 s5 s6 s7 : Int} {x0 x2 x3 x7 x8 x9 x10 : Option T} {d4 b5 v6 : T} {ts : List Tr} {X : Str} {Y : Str} (hD : IsD d4 ts) (hZ : IsZ b5 nums) (hV : VS.fz v6 = .lst (vs.map .int)) (hn : ∀ e ∈ ts, Nd vs.length e) (hl : ts.length ≤ 1000) (hl2 : nums.length ≤ 1000) (hl3 : vs.length ≤ 1000)
    (hs : ∀ dn, IsN dn nums → ∃ X, dRepr [.lst [.lst [dTs ts, dn], .lst (vs.map .int)]] = some (.str X)) :
    ∃ S', lawR3 [x0, some (.lst ([s0, s1, s2, s3, s4, s5, s6, s7].map tZ)), x2, x3, some d4, some b5, some v6, x7, x8, x9, x10, none, none, none, none, none, none] = some (.rt (tBl true) S') := by
  obtain ⟨r, hr⟩ := ev (lawR3 [x0, some (.lst ([s0, s1, s2, s3, s4, s5, s6, s7].map tZ)), x2, x3, some d4, some b5, some v6, x7, x8, x9, x10, none, none, none, none, none, none])
  rw [hr]
  have kp := law_kept_eq (ts := ts) (d0 := .sh (dTs ts)) (d1 := .sh (.lst (vs.map .int))) (vs := vs) rfl rfl (by omega) (by omega) hn
  have ka := keeps_all_eq (ts := ts) (d0 := .sh (dTs ts)) (d1 := .sh (.lst (vs.map .int))) (vs := vs) rfl rfl (by omega) hn
  obtain ⟨kb, hkb⟩ := ev (ts.all (keep1 vs))
  rw [hkb] at kp ka
  have te := triple_eq (sumT ts nums)
  obtain ⟨o, ho⟩ := ev (sumT ts nums)
  rw [ho] at te
  by_cases c : s4 = 1
  · subst c
    have hN : IsN (.tup (nums.map .int)) nums := .inr rfl
    obtain ⟨X, hX⟩ := hs _ hN
    have cs := chain_sum_eq (ts := ts) hN
    have rg := is_ring_eq (ts := ts) hN
    have sm := law_sum_eq (ts := ts) (d0 := .sh (dTs ts)) (d1 := .sh (.lst (nums.map .int))) (ns := nums) rfl (.inl rfl) (by omega)
    rw [ho] at cs rg sm
    cases o with
    | none =>
      simp only [sT] at te cs sm
      simp -implicitDefEqProofs (disch := first | omega | (simp <;> omega) | fail) [lawR3, dTs, hD.fz, hZ.fz, hV, hX, sm, cs, rg, te, kp, ka, tells_eq, ringB] at hr
      exact ⟨_, hr.symm⟩
    | some e =>
      simp only [sT] at te cs sm
      simp -implicitDefEqProofs (disch := first | omega | (simp <;> omega) | fail) [lawR3, dTs, hD.fz, hZ.fz, hV, hX, sm, cs, rg, te, kp, ka, tells_eq, ringB] at hr
      exact ⟨_, hr.symm⟩
  · have c' : (s4 == 1) = false := beq_eq_false_iff_ne.mpr c
    have hN : IsN (.lst (nums.map .int)) nums := .inl rfl
    obtain ⟨X, hX⟩ := hs _ hN
    have cs := chain_sum_eq (ts := ts) hN
    have rg := is_ring_eq (ts := ts) hN
    have sm := law_sum_eq (ts := ts) (d0 := .sh (dTs ts)) (d1 := .sh (.lst (nums.map .int))) (ns := nums) rfl (.inl rfl) (by omega)
    rw [ho] at cs rg sm
    cases o with
    | none =>
      simp only [sT] at te cs sm
      simp -implicitDefEqProofs (disch := first | omega | (simp <;> omega) | fail) [lawR3, dTs, hD.fz, hZ.fz, hV, hX, sm, cs, rg, te, kp, ka, tells_eq, ringB, c'] at hr
      exact ⟨_, hr.symm⟩
    | some e =>
      simp only [sT] at te cs sm
      simp -implicitDefEqProofs (disch := first | omega | (simp <;> omega) | fail) [lawR3, dTs, hD.fz, hZ.fz, hV, hX, sm, cs, rg, te, kp, ka, tells_eq, ringB, c'] at hr
      exact ⟨_, hr.symm⟩
end K11
namespace K11
open PySem PySem.Spec PyProof.Rows L2 VS
theorem shows_of {ts : List Tr} {vs nums : List Int} {dn : D} (hb : ∀ e ∈ ts, Nd vs.length e ∧ BOk e.2.2) (hl : ts.length ≤ 1000) (hl2 : nums.length ≤ 1000) (hl3 : vs.length ≤ 1000) (hz : ∀ x ∈ nums, -2000 < x ∧ x < 2000) (hv : ∀ v ∈ vs, WOk v) (hN : IsN dn nums) : ∃ X, dRepr [.lst [.lst [dTs ts, dn], .lst (vs.map .int)]] = some (.str X) := by
  refine ⟨_, dRepr_eq ?_⟩
  have i42 : ∀ i : Int, BOk i → Sh (.int i) 0 43 := fun i h => Sh.int10 (k := 42) (by decide) (by decide) (by
    have := h.1
    have := h.2
    have e : (10 : Nat) ^ 42 = 1000000000000000000000000000000000000000000 := by decide +kernel
    rw [e]
    omega)
  have b1 : ∀ i : Int, -2000 < i ∧ i < 2000 → BOk i := fun i h => by unfold BOk; omega
  have hT : ∀ d ∈ ts.map dT, Sh d 1 138 := fun d hd => by
    obtain ⟨e, he, rfl⟩ := List.mem_map.mp hd
    obtain ⟨⟨n0, n1, n2, n3⟩, hc⟩ := hb e he
    have h := Sh.tup (ds := [.int e.1, .int e.2.1, .int e.2.2]) (k := 0) (n := 43) (fun d hd => by
      rcases List.mem_cons.mp hd with rfl | hd
      · exact i42 _ (b1 _ (by omega))
      · rcases List.mem_cons.mp hd with rfl | hd
        · exact i42 _ (b1 _ (by omega))
        · rw [List.mem_singleton.mp hd]
          exact i42 _ hc)
    exact h
  have h1 : Sh (dTs ts) 2 (1000 * 138 + 2 * 1000 + 3) := (Sh.lst hT).mono (Nat.le_refl _) (by rw [List.length_map]; omega)
  have hi : ∀ d ∈ nums.map D.int, Sh d 0 43 := fun d hd => by
    obtain ⟨x, hx, rfl⟩ := List.mem_map.mp hd
    exact i42 _ (b1 _ (hz x hx))
  have h2 : Sh dn 2 (1000 * 138 + 2 * 1000 + 3) := by
    rcases hN with rfl | rfl
    · exact (Sh.lst hi).mono (by omega) (by rw [List.length_map]; omega)
    · exact (Sh.tup hi).mono (by omega) (by rw [List.length_map]; omega)
  have h3 : Sh (.lst (vs.map .int)) 3 300000 := (Sh.lst (n := 43) (k := 0) fun d hd => by
    obtain ⟨x, hx, rfl⟩ := List.mem_map.mp hd
    have := hv x hx
    exact i42 _ (by have a := this.1; have b := this.2; unfold BOk; omega)).mono (by omega) (by rw [List.length_map]; omega)
  have h4 : Sh (.lst [dTs ts, dn]) 3 300000 := (Sh.lst (n := 1000 * 138 + 2 * 1000 + 3) (k := 2) fun d hd => by
    rcases List.mem_cons.mp hd with rfl | hd
    · exact h1
    · rw [List.mem_singleton.mp hd]; exact h2).mono (Nat.le_refl _) (by show 2 * _ + 2 * 2 + 3 ≤ _; omega)
  exact ((Sh.lst (ds := [.lst [dTs ts, dn], .lst (vs.map .int)]) (n := 300000) (k := 3) fun d hd => by
    rcases List.mem_cons.mp hd with rfl | hd
    · exact h4
    · rw [List.mem_singleton.mp hd]; exact h3).mono (Nat.le_refl _) (Nat.le_refl _)).shows (by omega) (by show 2 * _ + 2 * 2 + 3 ≤ _; omega)
theorem atI_lv {vs : List Int} {i : Int} (h0 : 0 ≤ i) (h1 : i ≤ vs.length) : L2.atI (tZ 0 :: vs.map tZ) i = some (tZ (lv vs i)) := by
  have e := dIx_lv h0 h1
  rw [dIx_l, atI_map] at e
  show L2.atI ((0 :: vs).map tZ) i = _
  rw [atI_map]
  cases h : L2.atI (0 :: vs) i with
  | none => rw [h] at e; cases e
  | some x =>
    rw [h] at e
    cases e
    rfl
abbrev law7 : MS := sIf (ofB (pB (p2 dGt (p2 dIx (pV 1) (pC (.int 5))) (pC (.int 0))))) (sAsg (eCall f_law_raised [some 0, some 4, some 6] (aMv 0 (aMv 4 (aMv 6 (aNil))))) (putS 4)) (sNext)
abbrev law8 : MS := sIf (ofB (bAnd (pB (p2 dEq (p2 dIx (pV 1) (pC (.int 5))) (pC (.int 2)))) (pB (p2 dGt (pCall dLen (paCons (pV 4) ((fun _ => some [])))) (pC (.int 0)))))) (sSeq (sAsg (ofP (p2 dMod (pCall dInt (paCons (p2 dIx (pV 1) (pC (.int 6))) ((fun _ => some [])))) (pCall dLen (paCons (pV 4) ((fun _ => some [])))))) (putS 7)) (sSeq (sAsg (eIxK 4 (eVar 7)) (gTupS 3 (gsCons (putS 8) (gsCons (putS 9) (gsCons (putS 10) (gsNil)))))) (sSetI 4 (eTup (aCons (eVar 8) (aCons (eVar 9) (aCons (e2 dSub (e2 dSub (eIx (e2T addT (eLst (aCons (ofP (pC (.int 0))) (aNil))) (eVar 6)) (eVar 8)) (eIx (e2T addT (eLst (aCons (ofP (pC (.int 0))) (aNil))) (eVar 6)) (eVar 9))) (ofP (pC (.int 1)))) (aNil))))) (eVar 7)))) (sNext)
theorem r2 {ns vs nums : List Int} {s0 s1 s2 s3 s4 s5 s6 s7 : Int} {x2 x3 : Option T} {d4 b5 : T} {ts : List Tr} (hD : IsD d4 ts) (hZ : IsZ b5 nums) (hn : ∀ e ∈ ts, Nd vs.length e ∧ COk e.2.2) (hl : ts.length ≤ 1000) (hl2 : nums.length ≤ 1000) (hz : ∀ x ∈ nums, -2000 < x ∧ x < 2000) (hl3 : vs.length ≤ 1000) (hv : ∀ v ∈ vs, WOk v) :
    ∃ S', sSeq law7 (sSeq law8 lawR3) [some (.sh (.lst (ns.map .int))), some (.lst ([s0, s1, s2, s3, s4, s5, s6, s7].map tZ)), x2, x3, some d4, some b5, some (.lst (vs.map tZ)), none, none, none, none, none, none, none, none, none, none] = some (.rt (tBl true) S') := by
  have hB : ∀ {w : Int}, COk w → BOk w := fun h => by have a := h.1; have b := h.2; unfold BOk; omega
  obtain ⟨r, hr⟩ := ev (sSeq law7 (sSeq law8 lawR3) [some (.sh (.lst (ns.map .int))), some (.lst ([s0, s1, s2, s3, s4, s5, s6, s7].map tZ)), x2, x3, some d4, some b5, some (.lst (vs.map tZ)), none, none, none, none, none, none, none, none, none, none])
  rw [hr]
  have R := fun (a5 : Int) (ts : List Tr) (d4 v6 : T) (x7 x8 x9 x10 : Option T) hD hV hb hl => r3 (ns := ns) (x0 := some (.sh (.lst (ns.map .int)))) (s0 := s0) (s1 := s1) (s2 := s2) (s3 := s3) (s4 := s4) (s5 := a5) (s6 := s6) (s7 := s7) (x2 := x2) (x3 := x3) (x7 := x7) (x8 := x8) (x9 := x9) (x10 := x10) (v6 := v6) (d4 := d4) (ts := ts) (X := .ofString "") (Y := .ofString "") hD hZ hV (fun x hx => (hb x hx).1) hl hl2 hl3 (fun dn hN => shows_of hb hl hl2 hl3 hz hv hN)
  by_cases c5 : 0 < s5
  · obtain ⟨us, u1, u2, u3⟩ := law_raised_eq (ns := ns) (d2 := .lst (vs.map tZ)) hD (fz_lst_tZ vs) hn hv hl hl3
    by_cases c2 : s5 = 2 ∧ 0 < us.length
    · obtain ⟨c2, cl⟩ := c2
      subst c2
      have m0 := Int.emod_nonneg s6 (b := (us.length : Int)) (by omega)
      have m1 := Int.emod_lt_of_pos s6 (b := (us.length : Int)) (by omega)
      obtain ⟨a, ha⟩ := Int.eq_ofNat_of_zero_le m0
      have hau : a < us.length := by omega
      have he : us[a]? = some us[a] := List.getElem?_eq_getElem hau
      obtain ⟨e, hee⟩ := ev us[a]
      rw [hee] at he
      have hem : e ∈ us := hee ▸ List.getElem_mem hau
      have hk := IsD.kid (d := .lst (us.map trT)) (.inr rfl) he
      obtain ⟨⟨n0, n1, n2, n3⟩, hc⟩ := u2 e hem
      have a1 := atI_lv (vs := vs) n0 n1
      have a2 := atI_lv (vs := vs) n2 n3
      have l1 := lv_ok hv e.1
      have l2 := lv_ok hv e.2.1
      obtain ⟨w, hw⟩ := ev (lv vs e.1 - lv vs e.2.1 - 1)
      have hix : ixN us.length (a : Int) = some a := ixN_nat hau
      have hb2 : ∀ x ∈ us.set a (e.1, e.2.1, w), Nd vs.length x ∧ BOk x.2.2 := fun x hx => by
        rcases List.mem_or_eq_of_mem_set hx with hx | rfl
        · exact u2 x hx
        · exact ⟨⟨n0, n1, n2, n3⟩, by unfold BOk; show _ < w ∧ w < _; omega⟩
      have sl : (us.set a (e.1, e.2.1, w)).length ≤ 1000 := by rw [List.length_set]; omega
      have hst : (us.map trT).set a (T.sh (D.tup [D.int e.1, D.int e.2.1, D.int w])) = (us.set a (e.1, e.2.1, w)).map trT := by rw [List.map_set]
      have cl' : (0 : Int) < us.length := by omega
      have R4 := R 2 (us.set a (e.1, e.2.1, w)) (.lst ((us.map trT).set a (T.sh (D.tup [D.int e.1, D.int e.2.1, D.int w])))) (.sh (.lst (vs.map .int))) (some (tI a)) (some (tZ e.1)) (some (tZ e.2.1)) (some (tZ e.2.2)) (.inr (by rw [hst])) rfl hb2 sl
      obtain ⟨S', R4⟩ := R4
      simp -implicitDefEqProofs (disch := first | omega | (simp <;> omega) | fail) [dTs, u3, cl, ha, hk, a1, a2, hw, hix, dT] at hr
      refine ⟨S', ?_⟩
      rw [← hr, ← R4]
      simp -implicitDefEqProofs (disch := first | omega | (simp <;> omega) | fail)
    · have c2' : (s5 == 2 && decide (0 < us.length)) = false := by
        rw [Bool.eq_false_iff]
        intro h
        rw [Bool.and_eq_true, beq_iff_eq, decide_eq_true_eq] at h
        exact c2 h
      obtain ⟨S', R4⟩ := R s5 us (.lst (us.map trT)) (.sh (.lst (vs.map .int))) none none none none (.inr rfl) rfl u2 (by omega)
      simp -implicitDefEqProofs (disch := first | omega | (simp <;> omega) | fail) [dTs, u3, c2', c5] at hr
      refine ⟨S', ?_⟩
      rw [← hr, ← R4]
      simp -implicitDefEqProofs (disch := first | omega | (simp <;> omega) | fail)
  · have c2' : (s5 == 2) = false := beq_eq_false_iff_ne.mpr (by omega)
    obtain ⟨S', R4⟩ := R s5 ts d4 (.lst (vs.map tZ)) none none none none hD (fz_lst_tZ vs) (fun e he => ⟨(hn e he).1, hB (hn e he).2⟩) (by omega)
    simp -implicitDefEqProofs (disch := first | omega | (simp <;> omega) | fail) [dTs, c2', c5] at hr
    refine ⟨S', ?_⟩
    rw [← hr, ← R4]
    simp -implicitDefEqProofs (disch := first | omega | (simp <;> omega) | fail)
end K11
namespace K11
open PySem PySem.Spec PyProof.Rows L2 VS
def law6 : MS := sAsg (eLc (iList' (eCall f_law_draws [some 0, none, none] (aMv 0 (aCons (ofP (pC (.int 6))) (aCons (eLc (iRng1' (paCons (pV 2) ((fun _ => some [])))) (putS 16) (qYes) (ofP (p2 dPow (pC (.int 10)) (pC (.int 42)))) [16]) (aNil)))))) (putS 15) (qYes) (eCall f_law_weight [some 15] (aMv 15 (aNil))) [15]) (putS 6)
theorem law6_eq {ns : List Int} {mn : Nat} {x1 x3 x4 x5 : Option T} (hm : mn ≤ 1000) : ∃ vs : List Int, vs.length = mn ∧ (∀ w ∈ vs, WOk w) ∧ law6 [some (.sh (.lst (ns.map .int))), x1, some (tI mn), x3, x4, x5, none, none, none, none, none, none, none, none, none, none, none] = some (.nx [some (.sh (.lst (ns.map .int))), x1, some (tI mn), x3, x4, x5, some (.lst (vs.map tZ)), none, none, none, none, none, none, none, none, none, none]) := by
  have el : (eLc (iRng1' (paCons (pV 2) ((fun _ => some [])))) (putS 16) (qYes) (ofP (p2 dPow (pC (.int 10)) (pC (.int 42)))) [16]) [some (.sh (.lst (ns.map .int))), x1, some (tI mn), x3, x4, x5, none, none, none, none, none, none, none, none, none, none, none] = some (.lst (((List.range mn).map fun _ => (1000000000000000000000000000000000000000000 : Int)).map tZ), [some (.sh (.lst (ns.map .int))), x1, some (tI mn), x3, x4, x5, none, none, none, none, none, none, none, none, none, none, none]) :=
    eLc_rng (S' := fun k => [some (.sh (.lst (ns.map .int))), x1, some (tI mn), x3, x4, x5, none, none, none, none, none, none, none, none, none, none, some (tI k)]) (iRng1_of (n := mn) (pa1_of rfl) (by omega)) rfl (by omega) (fun k => rfl) (fun k => ofP_of (p2_of rfl rfl pw42) rfl) (fun k => rfl)
  obtain ⟨ws, h1, h2, h3⟩ := weights_c (pl := 6) (i := 15) (S := [some (.sh (.lst (ns.map .int))), x1, some (tI mn), x3, x4, x5, none, none, none, none, none, none, none, none, none, none, none]) (by omega) rfl el rfl (by show 15 < 17; decide) rfl
  exact ⟨ws, h1, h2, sAsg_of h3 rfl⟩
theorem len8 {l : List Int} (h : l.length = 8) : ∃ s0 s1 s2 s3 s4 s5 s6 s7, l = [s0, s1, s2, s3, s4, s5, s6, s7] := by
  match l, h with
  | [a, b, c, d, e, f, g, i], _ => exact ⟨_, _, _, _, _, _, _, _, rfl⟩
def lawR7 : MS := sSeq law7 (sSeq law8 lawR3)
theorem law_true (ns : List Int) (hl : ns.length ≤ 63) (hb : ∀ i ∈ ns, Builtin.Int.intBits i ≤ 1048576) : ∃ ts', law [.sh (.lst (ns.map .int))] = some (.sh (.bl true), ts') ∧ ts'.length = 1 := by
  obtain ⟨sh, dl, db, q3⟩ := draws2_eq (ns := ns) (pl := 0) (sz := .lst (([8, 7, 9, 2, 2, 3, 1000, 8] : List Int).map tZ)) (szs := [8, 7, 9, 2, 2, 3, 1000, 8]) (fz_lst_tZ _) (sz_ok (by decide)) (by decide)
  rw [← draws_def] at q3
  obtain ⟨s0, s1, s2, s3, s4, s5, s6, s7, rfl⟩ := len8 dl
  have q4 : f_law_draws [.sh (.lst (ns.map .int)), .sh (.int 0), .lst [tZ 8, tZ 7, tZ 9, tZ 2, tZ 2, tZ 3, tZ 1000, tZ 8]] = _ := q3
  have b0 := db 0 s0 8 rfl rfl
  have b1 := db 1 s1 7 rfl rfl
  have b2 := db 2 s2 9 rfl rfl
  obtain ⟨a1, rfl⟩ := Int.eq_ofNat_of_zero_le b1.1
  obtain ⟨a2, rfl⟩ := Int.eq_ofNat_of_zero_le b2.1
  obtain ⟨mn, hmn⟩ : ∃ mn : Nat, 1 + (a1 : Int) = (mn : Int) := ⟨1 + a1, by omega⟩
  obtain ⟨r, hr⟩ := ev (law [.sh (.lst (ns.map .int))])
  rw [hr]
  have go : ∀ ct : Nat, ct ≤ 100 → ∃ (ts : List Tr) (us : List Tr) (nums vs : List Int) (t a b o2 : T) (S' : Sto),
      f_law_differences [.sh (.lst (ns.map .int)), .sh (.int 1), tI ct, tI mn] = some (.lst (ts.map trT), [some (.sh (.lst (ns.map .int))), some (.sh (.int 1)), some (tI ct), some (tI mn)]) ∧
      f_law_drawn [.sh (.lst (ns.map .int)), .lst [tZ s0, tI a1, tI a2, tZ s3, tZ s4, tZ s5, tZ s6, tZ s7], .lst (ts.map trT), tI mn] = some (t, [some (.sh (.lst (ns.map .int))), some (.lst [tZ s0, tI a1, tI a2, tZ s3, tZ s4, tZ s5, tZ s6, tZ s7]), some o2, some (tI mn)]) ∧ kidsTu t = some [a, b] ∧
      law6 [some (.sh (.lst (ns.map .int))), some (.lst [tZ s0, tI a1, tI a2, tZ s3, tZ s4, tZ s5, tZ s6, tZ s7]), some (tI mn), some (tI ct), some a, some b, none, none, none, none, none, none, none, none, none, none, none] = some (.nx [some (.sh (.lst (ns.map .int))), some (.lst [tZ s0, tI a1, tI a2, tZ s3, tZ s4, tZ s5, tZ s6, tZ s7]), some (tI mn), some (tI ct), some a, some b, some (.lst (vs.map tZ)), none, none, none, none, none, none, none, none, none, none]) ∧
      lawR7 [some (.sh (.lst (ns.map .int))), some (.lst [tZ s0, tI a1, tI a2, tZ s3, tZ s4, tZ s5, tZ s6, tZ s7]), some (tI mn), some (tI ct), some a, some b, some (.lst (vs.map tZ)), none, none, none, none, none, none, none, none, none, none] = some (.rt (tBl true) S') := fun ct hct => by
    obtain ⟨ts, t1, t2, t3⟩ := law_differences_eq (ns := ns) (pl := 1) (ct := ct) (mn := mn) (by omega) (by omega)
    obtain ⟨us, nums, t, a, b, o2, u1, u2, u3, u4, u5, u6, u7, u8⟩ := law_drawn_eq (ns := ns) (s0 := s0) (s1 := a1) (s2 := a2) (s3 := s3) (s4 := s4) (s5 := s5) (s6 := s6) (s7 := s7) (d2 := .lst (ts.map trT)) (mn := mn) (.inr rfl) (by omega) (by omega) b0.1 (fun e he => ⟨(t2 e he).1, wok_c (t2 e he).2⟩)
    obtain ⟨vs, v1, v2, v3⟩ := law6_eq (ns := ns) (mn := mn) (x1 := some (.lst [tZ s0, tI a1, tI a2, tZ s3, tZ s4, tZ s5, tZ s6, tZ s7])) (x3 := some (tI ct)) (x4 := some a) (x5 := some b) (by omega)
    subst v1
    obtain ⟨S', w1⟩ := r2 (ns := ns) (vs := vs) (s0 := s0) (s1 := a1) (s2 := a2) (s3 := s3) (s4 := s4) (s5 := s5) (s6 := s6) (s7 := s7) (x2 := some (tI vs.length)) (x3 := some (tI ct)) u6 u7 u2 u1 (by omega) u4 (by omega) v2
    exact ⟨ts, us, nums, vs, t, a, b, o2, S', t3, u8, u5, v3, w1⟩
  have hB : b_law = sSeq (sAsg (eCall f_law_draws [some 0, none, none] (aMv 0 (aCons (ofP (pC (.int 0))) (aCons (eLst (aCons (ofP (pC (.int 8))) (aCons (ofP (pC (.int 7))) (aCons (ofP (pC (.int 9))) (aCons (ofP (pC (.int 2))) (aCons (ofP (pC (.int 2))) (aCons (ofP (pC (.int 3))) (aCons (ofP (pC (.int 1000))) (aCons (ofP (pC (.int 8))) (aNil)))))))))) (aNil))))) (putS 1)) (sSeq (sAsg (ofP (p2 dAdd (pC (.int 1)) (p2 dIx (pV 1) (pC (.int 1))))) (putS 2)) (sSeq (sAsg (ofP (p2 dIx (pV 1) (pC (.int 2)))) (putS 3)) (sSeq (sIf (ofB (pB (p2 dEq (p2 dIx (pV 1) (pC (.int 7))) (pC (.int 0))))) (sAsg (ofP (p2 dAdd (pC (.int 8)) (p2 dMul (pC (.int 2)) (p2 dIx (pV 1) (pC (.int 2)))))) (putS 3)) (sNext)) (sSeq (sAsg (eCall f_law_differences [some 0, none, some 3, some 2] (aMv 0 (aCons (ofP (pC (.int 1))) (aMv 3 (aMv 2 (aNil)))))) (putS 4)) (sSeq (sAsg (eCall f_law_drawn [some 0, some 1, some 4, some 2] (aMv 0 (aMv 1 (aMv 4 (aMv 2 (aNil)))))) (gTupS 2 (gsCons (putS 4) (gsCons (putS 5) (gsNil))))) (sSeq law6 lawR7)))))) := rfl
  by_cases c7 : s7 = 0
  · subst c7
    obtain ⟨ct, hct⟩ : ∃ ct : Nat, 8 + 2 * (a2 : Int) = (ct : Int) := ⟨8 + 2 * a2, by omega⟩
    obtain ⟨ts, us, nums, vs, t, a, b, o2, S', g1, g2, g3, g4, g5⟩ := go ct (by omega)
    simp -implicitDefEqProofs (disch := first | omega | (simp <;> omega) | fail) [law, hB, q_mkFn, q4, hmn, hct, g1, g2, g3, g4, g5] at hr
    exact ⟨_, hr.symm, rfl⟩
  · have c7' : (s7 == 0) = false := beq_eq_false_iff_ne.mpr c7
    obtain ⟨ts, us, nums, vs, t, a, b, o2, S', g1, g2, g3, g4, g5⟩ := go a2 (by omega)
    simp -implicitDefEqProofs (disch := first | omega | (simp <;> omega) | fail) [law, hB, q_mkFn, q4, hmn, c7', g1, g2, g3, g4, g5] at hr
    exact ⟨_, hr.symm, rfl⟩
end K11
set_option maxHeartbeats 0
open PySem PySem.W PySem.Calls PyProof.Rows
theorem PySem.Challenge.cw_swornon_k11_chains_and_rings_holds : PySem.Challenge.rw_swornon_k11_chains_and_rings.Holds := by
  w_on; o_law
  refine HandSHeadRun.head_any (r := OpenLaw.row PySem.Challenge.rw_swornon_k11_chains_and_rings) (q := view (OpenLaw.row PySem.Challenge.rw_swornon_k11_chains_and_rings).prog [19]) (H := K11.hk) (ob := K11.ob) (M := 4000) (loose := K11.loose) (d := HandSHeadRun.topDef (OpenLaw.row PySem.Challenge.rw_swornon_k11_chains_and_rings).prog 19) (kwd := []) K11.ob_eq
    (by kernel_rfl) (fun s => by kernel_rfl) K11.run (by kernel_rfl) (by kernel_rfl) (by kernel_rfl) (by rfl) (by first | assumption | decide +kernel) (by decide +kernel) ⟨rfl, rfl, rfl, rfl, rfl, by decide +kernel⟩ ?hw ?hc
  case hw => w_witness2
  case hc =>
    refine VS.walk_ofG (l := PySem.Challenge.rw_swornon_k11_chains_and_rings) (n := 63) (k := 5) (x := "script") rfl (by decide) (by kernel_rfl) ⟨rfl, by decide, by decide⟩ ?F
    intro w mg fa h Y G hmg0
    obtain ⟨K, KX, c⟩ := Y
    have hmg : mg ("law" : PySem.Str) = some (.ref fa) := by
      have e : (HandSHeadRun.topDef (OpenLaw.row PySem.Challenge.rw_swornon_k11_chains_and_rings).prog 19).name = ("law" : PySem.Str) := by kernel_rfl
      rw [← e]
      exact hmg0
    have T := K11.facts KX G c
    obtain ⟨f0, fd, F, hm⟩ := T.d_law
    have ef : f0 = fa := by
      rw [hmg] at hm
      exact (PySem.Value.ref.inj (Option.some.inj hm)).symm
    subst ef
    have b := L2.FunD.bindsA (ps := ["script"]) F fun _ _ _ _ _ _ us hl => match us, hl with | [_], _ => rfl
    refine ⟨K, fd, VS.spV K 1 K11.law, KX, fun s v => b s [v] rfl, fun H a ns hl hb _ hS => VS.spV_law hS (K11.law_true ns hl hb), fun base _ _ => ?_⟩
    exact K11.good_law (P := (PySem.Challenge.rw_swornon_k11_chains_and_rings).prog) (w := w) (base := base) T F
