import PyProof.Rows.All
import Wide.All
import OpenK.AllK
import Wide.FinOn
import HandS.ForMost
import HandS.IsInst
import HandS.Defaults
import HandS.HeadEnd
import HandS.EndBits
import HandS.HeadHook1
import HandS.HeadHook2
import HandS.HeadHook3
import HandS.HeadHook4
import HandS.RaiseMore
import HandS.Style
import HandS.TupAny
import HandS.Text
import HandS.More
import HandS.Codes
import HandS.Small
import HandS.DeepEq
import HandS.SortInts
import HandS.Conv
import HandS.DictComp
import Wide.Txt2
import PyProof.LongRange
import HandS.Zip
import HandS.NoneIn
import HandS.ExcInit
import HandS.ExcField
import HandS.ExcIs
import HandS.ExcOwn
import HandS.WordsExc
import KE.KExcIs
import HandS.Head0
import HandS.Head1
import HandS.Head2
import PyProof.ReprLen
import PySem.Challenge.RW_swornon_k23_wrong_rows_of_papers
set_option Elab.async false
set_option linter.all false
set_option maxRecDepth 100000
set_option maxHeartbeats 4000000
/-! VS: values as data trees over the hand layer. -/
namespace VS
open PySem PySem.Spec PyProof.Rows L2

/-- shared data: never changes -/
inductive D where
  | non | bl (b : Bool) | int (i : Int) | str (x : Str) | lst (xs : List D) | tup (xs : List D) | ob (C : Addr) (ns : List Str) (xs : List D) | dct (ks : List Key) (xs : List D) | lck (a : Addr) (o : Obj) (kvs : List (Key × V))
/-- a tree that is owned down to its shared leaves -/
inductive T where
  | sh (d : D) | lst (ts : List T) | tup (ts : List T) | ob (C : Addr) (ns : List Str) (ts : List T) | dct (ks : List Key) (ts : List T) | pin (a : Addr) (t : T)

mutual
def fz : T → D
  | .sh d => d
  | .lst ts => .lst (fzL ts)
  | .tup ts => .tup (fzL ts)
  | .ob C ns ts => .ob C ns (fzL ts)
  | .dct ks ts => .dct ks (fzL ts)
  | .pin _ t => fz t
def fzL : List T → List D
  | [] => []
  | t :: ts => fz t :: fzL ts
end
theorem fzL_map (ts : List T) : fzL ts = ts.map fz := by
  induction ts with
  | nil => rfl
  | cons t ts ih => rw [fzL, ih]; rfl
/-- all children shared -/
def shAll : List T → Bool
  | [] => true
  | .sh _ :: ts => shAll ts
  | _ :: _ => false
def flat : T → Bool
  | .sh _ => true
  | .lst ts => shAll ts
  | .tup ts => shAll ts
  | .ob _ _ ts => shAll ts
  | .dct _ ts => shAll ts
  | .pin _ _ => false

section
variable (K : PySem.W.Frag) (G : Hp)
mutual
def Rep : V → D → Prop
  | v, .non => v = .non
  | v, .bl b => v = .bl b
  | v, .int i => v = .int i
  | v, .str x => v = .str x
  | v, .lst ds => ∃ a vs, v = .ref a ∧ SqL K G a vs ∧ Reps vs ds
  | v, .tup ds => ∃ a vs, v = .ref a ∧ SqT K G a vs ∧ Reps vs ds
  | v, .ob C ns ds => ∃ a dx vs, v = .ref a ∧ G a = some (.ins C dx (ns.zip vs)) ∧ ns.length = vs.length ∧ Reps vs ds
  | v, .dct ks ds => ∃ a vs, v = .ref a ∧ Rd G a (.dK (ks.zip vs)) ∧ ks.length = vs.length ∧ Reps vs ds
  | v, .lck a o kvs => v = .ref a ∧ G a = some (.frz o (.dK kvs))
def Reps : List V → List D → Prop
  | [], [] => True
  | v :: vs, d :: ds => Rep v d ∧ Reps vs ds
  | _, _ => False
end
end
section
variable (K : PySem.W.Frag) (G H : Hp)
mutual
def Own : V → T → List Addr → Prop
  | v, .sh d, fp => fp = [] ∧ Rep K G v d
  | v, .lst ts, fp => ∃ a vs f, v = .ref a ∧ fp = a :: f ∧ H a = some (.lst vs) ∧ Owns vs ts f
  | v, .tup ts, fp => ∃ a vs f, v = .ref a ∧ fp = a :: f ∧ H a = some (.tup vs) ∧ Owns vs ts f
  | v, .ob C ns ts, fp => ∃ a dx vs f, v = .ref a ∧ fp = a :: f ∧ H a = some (.ins C dx (ns.zip vs)) ∧ ns.length = vs.length ∧ Owns vs ts f
  | v, .dct ks ts, fp => ∃ a vs f, v = .ref a ∧ fp = a :: f ∧ H a = some (.dK (ks.zip vs)) ∧ ks.length = vs.length ∧ Owns vs ts f
  | v, .pin a t, fp => v = .ref a ∧ Own v t fp
def Owns : List V → List T → List Addr → Prop
  | [], [], fp => fp = []
  | v :: vs, t :: ts, fp => ∃ f g, fp = f ++ g ∧ Own v t f ∧ Owns vs ts g
  | _, _, _ => False
end
end

section
variable {K : PySem.W.Frag} {G G' H H' : Hp}
theorem Same.rd {a : Addr} {u : HO} (e : Same G G') (h : Rd G a u) : Rd G' a u := by
  rcases h with h | ⟨o, h⟩
  · exact .inl (e _ _ h)
  · exact .inr ⟨o, e _ _ h⟩
theorem Same.sqT {a : Addr} {xs : List V} (e : Same G G') (h : SqT K G a xs) : SqT K G' a xs := by
  rcases h with (h | ⟨o, h⟩) | h
  · exact .inl (.inl (e _ _ h))
  · exact .inl (.inr ⟨o, e _ _ h⟩)
  · exact .inr h
mutual
theorem Rep.mono (e : Same G G') : ∀ (d : D) (v : V), Rep K G v d → Rep K G' v d
  | .non, _, h => h
  | .bl _, _, h => h
  | .int _, _, h => h
  | .str _, _, h => h
  | .lst ds, v, h => by
    obtain ⟨a, vs, h1, h2, h3⟩ := h
    exact ⟨a, vs, h1, e.seq h2, Reps.mono e ds vs h3⟩
  | .tup ds, v, h => by
    obtain ⟨a, vs, h1, h2, h3⟩ := h
    exact ⟨a, vs, h1, Same.sqT e h2, Reps.mono e ds vs h3⟩
  | .ob C ns ds, v, h => by
    obtain ⟨a, dx, vs, h1, h2, h3, h4⟩ := h
    exact ⟨a, dx, vs, h1, e _ _ h2, h3, Reps.mono e ds vs h4⟩
  | .dct ks ds, v, h => by
    obtain ⟨a, vs, h1, h2, h3, h4⟩ := h
    exact ⟨a, vs, h1, Same.rd e h2, h3, Reps.mono e ds vs h4⟩
  | .lck a o kvs, v, h => ⟨h.1, e _ _ h.2⟩
theorem Reps.mono (e : Same G G') : ∀ (ds : List D) (vs : List V), Reps K G vs ds → Reps K G' vs ds
  | [], [], _ => trivial
  | d :: ds, v :: vs, h => ⟨Rep.mono e d v h.1, Reps.mono e ds vs h.2⟩
  | [], _ :: _, h => h.elim
  | _ :: _, [], h => h.elim
end
theorem Reps.length : ∀ {ds : List D} {vs : List V}, Reps K G vs ds → vs.length = ds.length
  | [], [], _ => rfl
  | _ :: ds, _ :: vs, h => congrArg (· + 1) (Reps.length h.2)
  | [], _ :: _, h => h.elim
  | _ :: _, [], h => h.elim
theorem Owns.length : ∀ {ts : List T} {vs : List V} {fp : List Addr}, Owns K G H vs ts fp → vs.length = ts.length
  | [], [], _, _ => rfl
  | _ :: ts, _ :: vs, _, h => by
    obtain ⟨_, _, _, _, h⟩ := h
    exact congrArg (· + 1) (Owns.length h)
  | [], _ :: _, _, h => h.elim
  | _ :: _, [], _, h => h.elim
mutual
/-- every owned address is tracked -/
theorem Own.trk : ∀ {t : T} {v : V} {fp : List Addr}, Own K G H v t fp → ∀ a ∈ fp, H a ≠ none
  | .sh d, v, fp, h, a, ha => by rw [h.1] at ha; cases ha
  | .lst ts, v, fp, h, a, ha => by
    obtain ⟨b, vs, f, _, rfl, hb, h⟩ := h
    rcases List.mem_cons.mp ha with rfl | ha
    · rw [hb]; exact fun z => nomatch z
    · exact Owns.trk h a ha
  | .tup ts, v, fp, h, a, ha => by
    obtain ⟨b, vs, f, _, rfl, hb, h⟩ := h
    rcases List.mem_cons.mp ha with rfl | ha
    · rw [hb]; exact fun z => nomatch z
    · exact Owns.trk h a ha
  | .ob C ns ts, v, fp, h, a, ha => by
    obtain ⟨b, dx, vs, f, _, rfl, hb, _, h⟩ := h
    rcases List.mem_cons.mp ha with rfl | ha
    · rw [hb]; exact fun z => nomatch z
    · exact Owns.trk h a ha
  | .dct ks ts, v, fp, h, a, ha => by
    obtain ⟨b, vs, f, _, rfl, hb, _, h⟩ := h
    rcases List.mem_cons.mp ha with rfl | ha
    · rw [hb]; exact fun z => nomatch z
    · exact Owns.trk h a ha
  | .pin b t, v, fp, h, a, ha => Own.trk (t := t) h.2 a ha
theorem Owns.trk : ∀ {ts : List T} {vs : List V} {fp : List Addr}, Owns K G H vs ts fp → ∀ a ∈ fp, H a ≠ none
  | [], [], fp, h, a, ha => by rw [show fp = [] from h] at ha; cases ha
  | t :: ts, v :: vs, fp, h, a, ha => by
    obtain ⟨f, g, rfl, h1, h2⟩ := h
    rcases List.mem_append.mp ha with ha | ha
    · exact Own.trk h1 a ha
    · exact Owns.trk h2 a ha
  | [], _ :: _, _, h, _, _ => h.elim
  | _ :: _, [], _, h, _, _ => h.elim
end
mutual
/-- the owned addresses stand, what is shared stands -/
theorem Own.mono (e : Same G G') : ∀ {t : T} {v : V} {fp : List Addr}, (∀ a ∈ fp, H' a = H a) → Own K G H v t fp → Own K G' H' v t fp
  | .sh d, v, fp, _, h => ⟨h.1, Rep.mono e d v h.2⟩
  | .lst ts, v, fp, k, h => by
    obtain ⟨b, vs, f, h1, rfl, hb, h⟩ := h
    exact ⟨b, vs, f, h1, rfl, (k b List.mem_cons_self).trans hb, Owns.mono e (fun a ha => k a (List.mem_cons_of_mem _ ha)) h⟩
  | .tup ts, v, fp, k, h => by
    obtain ⟨b, vs, f, h1, rfl, hb, h⟩ := h
    exact ⟨b, vs, f, h1, rfl, (k b List.mem_cons_self).trans hb, Owns.mono e (fun a ha => k a (List.mem_cons_of_mem _ ha)) h⟩
  | .ob C ns ts, v, fp, k, h => by
    obtain ⟨b, dx, vs, f, h1, rfl, hb, l, h⟩ := h
    exact ⟨b, dx, vs, f, h1, rfl, (k b List.mem_cons_self).trans hb, l, Owns.mono e (fun a ha => k a (List.mem_cons_of_mem _ ha)) h⟩
  | .dct ks ts, v, fp, k, h => by
    obtain ⟨b, vs, f, h1, rfl, hb, l, h⟩ := h
    exact ⟨b, vs, f, h1, rfl, (k b List.mem_cons_self).trans hb, l, Owns.mono e (fun a ha => k a (List.mem_cons_of_mem _ ha)) h⟩
  | .pin b t, v, fp, k, h => ⟨h.1, Own.mono (t := t) e k h.2⟩
theorem Owns.mono (e : Same G G') : ∀ {ts : List T} {vs : List V} {fp : List Addr}, (∀ a ∈ fp, H' a = H a) → Owns K G H vs ts fp → Owns K G' H' vs ts fp
  | [], [], fp, _, h => h
  | t :: ts, v :: vs, fp, k, h => by
    obtain ⟨f, g, rfl, h1, h2⟩ := h
    exact ⟨f, g, rfl, Own.mono e (fun a ha => k a (List.mem_append_left _ ha)) h1, Owns.mono e (fun a ha => k a (List.mem_append_right _ ha)) h2⟩
  | [], _ :: _, _, _, h => h.elim
  | _ :: _, [], _, _, h => h.elim
end
mutual
/-- frozen: the owned addresses are among the shared ones -/
theorem Own.fz (e : Same G G') : ∀ {t : T} {v : V} {fp : List Addr}, (∀ a ∈ fp, G' a = H a) → Own K G H v t fp → Rep K G' v (VS.fz t)
  | .sh d, v, fp, _, h => Rep.mono e d v h.2
  | .lst ts, v, fp, k, h => by
    obtain ⟨b, vs, f, h1, rfl, hb, h⟩ := h
    exact ⟨b, vs, h1, SqL.of ((k b List.mem_cons_self).trans hb), Owns.fz e (fun a ha => k a (List.mem_cons_of_mem _ ha)) h⟩
  | .tup ts, v, fp, k, h => by
    obtain ⟨b, vs, f, h1, rfl, hb, h⟩ := h
    exact ⟨b, vs, h1, SqT.of ((k b List.mem_cons_self).trans hb), Owns.fz e (fun a ha => k a (List.mem_cons_of_mem _ ha)) h⟩
  | .ob C ns ts, v, fp, k, h => by
    obtain ⟨b, dx, vs, f, h1, rfl, hb, l, h⟩ := h
    exact ⟨b, dx, vs, h1, (k b List.mem_cons_self).trans hb, l, Owns.fz e (fun a ha => k a (List.mem_cons_of_mem _ ha)) h⟩
  | .dct ks ts, v, fp, k, h => by
    obtain ⟨b, vs, f, h1, rfl, hb, l, h⟩ := h
    exact ⟨b, vs, h1, .inl ((k b List.mem_cons_self).trans hb), l, Owns.fz e (fun a ha => k a (List.mem_cons_of_mem _ ha)) h⟩
  | .pin b t, v, fp, k, h => Own.fz (t := t) e k h.2
theorem Owns.fz (e : Same G G') : ∀ {ts : List T} {vs : List V} {fp : List Addr}, (∀ a ∈ fp, G' a = H a) → Owns K G H vs ts fp → Reps K G' vs (fzL ts)
  | [], [], fp, _, h => trivial
  | t :: ts, v :: vs, fp, k, h => by
    obtain ⟨f, g, rfl, h1, h2⟩ := h
    exact ⟨Own.fz e (fun a ha => k a (List.mem_append_left _ ha)) h1, Owns.fz e (fun a ha => k a (List.mem_append_right _ ha)) h2⟩
  | [], _ :: _, _, _, h => h.elim
  | _ :: _, [], _, _, h => h.elim
end
end

/-! ### pairs: what is held -/
abbrev Ps := List (V × T)
def OwnP (K : PySem.W.Frag) (G H : Hp) : Ps → List Addr → Prop
  | [], fp => fp = []
  | p :: ps, fp => ∃ f g, fp = f ++ g ∧ Own K G H p.1 p.2 f ∧ OwnP K G H ps g
/-- more owned addresses own, whose content is not told -/
def AtA (K : PySem.W.Frag) (H : Hp) (own : List Addr) (ps : Ps) : Prop :=
  ∃ (G : Hp) (fp : List Addr), Same G H ∧ OwnP K G H ps fp ∧ (own ++ fp).Nodup ∧ (∀ a ∈ own ++ fp, G a = none) ∧ ∀ a ∈ own, H a ≠ none
def At (K : PySem.W.Frag) (H : Hp) (ps : Ps) : Prop := AtA K H [] ps

section
variable {K : PySem.W.Frag} {G G' H H' : Hp}
theorem OwnP.trk : ∀ {ps : Ps} {fp : List Addr}, OwnP K G H ps fp → ∀ a ∈ fp, H a ≠ none
  | [], fp, h, a, ha => by rw [show fp = [] from h] at ha; cases ha
  | p :: ps, fp, h, a, ha => by
    obtain ⟨f, g, rfl, h1, h2⟩ := h
    rcases List.mem_append.mp ha with ha | ha
    · exact h1.trk a ha
    · exact OwnP.trk h2 a ha
theorem OwnP.mono (e : Same G G') : ∀ {ps : Ps} {fp : List Addr}, (∀ a ∈ fp, H' a = H a) → OwnP K G H ps fp → OwnP K G' H' ps fp
  | [], fp, _, h => h
  | p :: ps, fp, k, h => by
    obtain ⟨f, g, rfl, h1, h2⟩ := h
    exact ⟨f, g, rfl, h1.mono e fun a ha => k a (List.mem_append_left _ ha), OwnP.mono e (fun a ha => k a (List.mem_append_right _ ha)) h2⟩
theorem OwnP.append : ∀ {ps qs : Ps} {f g : List Addr}, OwnP K G H ps f → OwnP K G H qs g → OwnP K G H (ps ++ qs) (f ++ g)
  | [], qs, f, g, h, h' => by rw [show f = [] from h]; exact h'
  | p :: ps, qs, f, g, h, h' => by
    obtain ⟨f1, f2, rfl, h1, h2⟩ := h
    exact ⟨f1, f2 ++ g, List.append_assoc .., h1, OwnP.append h2 h'⟩
theorem OwnP.split : ∀ {ps qs : Ps} {fp : List Addr}, OwnP K G H (ps ++ qs) fp → ∃ f g, fp = f ++ g ∧ OwnP K G H ps f ∧ OwnP K G H qs g
  | [], qs, fp, h => ⟨[], fp, rfl, rfl, h⟩
  | p :: ps, qs, fp, h => by
    obtain ⟨f1, f2, rfl, h1, h2⟩ := h
    obtain ⟨f3, f4, rfl, h3, h4⟩ := OwnP.split h2
    exact ⟨f1 ++ f3, f4, (List.append_assoc ..).symm, ⟨f1, f3, rfl, h1, h3⟩, h4⟩
theorem OwnP.perm {ps qs : Ps} (p : ps.Perm qs) : ∀ {fp : List Addr}, OwnP K G H ps fp → ∃ fp', fp.Perm fp' ∧ OwnP K G H qs fp' := by
  induction p with
  | nil => exact fun h => ⟨_, .refl _, h⟩
  | cons x _ ih =>
    intro fp h
    obtain ⟨f, g, rfl, h1, h2⟩ := h
    obtain ⟨g', p, h3⟩ := ih h2
    exact ⟨f ++ g', p.append_left f, f, g', rfl, h1, h3⟩
  | swap x y l =>
    intro fp h
    obtain ⟨f, g, rfl, h1, f2, g2, rfl, h2, h3⟩ := h
    refine ⟨f2 ++ (f ++ g2), ?_, f2, f ++ g2, rfl, h2, f, g2, rfl, h1, h3⟩
    rw [← List.append_assoc, ← List.append_assoc]
    exact List.perm_append_comm.append_right g2
  | trans _ _ ih1 ih2 =>
    intro fp h
    obtain ⟨f1, p1, h1⟩ := ih1 h
    obtain ⟨f2, p2, h2⟩ := ih2 h1
    exact ⟨f2, p1.trans p2, h2⟩
theorem Owns.toP : ∀ {ts : List T} {vs : List V} {fp : List Addr}, Owns K G H vs ts fp → OwnP K G H (vs.zip ts) fp
  | [], [], _, h => h
  | t :: ts, v :: vs, _, h => by
    obtain ⟨f, g, e, h1, h2⟩ := h
    exact ⟨f, g, e, h1, Owns.toP h2⟩
  | [], _ :: _, _, h => h.elim
  | _ :: _, [], _, h => h.elim
theorem OwnP.toS : ∀ {ts : List T} {vs : List V} {fp : List Addr}, vs.length = ts.length → OwnP K G H (vs.zip ts) fp → Owns K G H vs ts fp
  | [], [], _, _, h => h
  | t :: ts, v :: vs, _, l, h => by
    obtain ⟨f, g, e, h1, h2⟩ := h
    exact ⟨f, g, e, h1, OwnP.toS (Nat.succ.inj l) h2⟩
  | [], _ :: _, _, l, _ => nomatch l
  | _ :: _, [], _, l, _ => nomatch l
variable {own : List Addr} {ps qs : Ps}
theorem AtA.perm (h : AtA K H own ps) (p : ps.Perm qs) : AtA K H own qs := by
  obtain ⟨G, fp, s, o, n, g, x⟩ := h
  obtain ⟨fp', q, o'⟩ := o.perm p
  refine ⟨G, fp', s, o', ?_, fun a ha => g a ?_, x⟩
  · exact (q.append_left own).nodup_iff.mp n
  · exact (q.append_left own).mem_iff.mpr ha
theorem AtA.drop (h : AtA K H own (ps ++ qs)) : AtA K H own qs := by
  obtain ⟨G, fp, s, o, n, g, x⟩ := h
  obtain ⟨f1, f2, rfl, _, o2⟩ := o.split
  have sub : (own ++ f2).Sublist (own ++ (f1 ++ f2)) := List.Sublist.append_left (List.sublist_append_right f1 f2) own
  exact ⟨G, f2, s, o2, n.sublist sub, fun a ha => g a (sub.subset ha), x⟩
/-- one may be forgotten -/
theorem At.perm (h : At K H ps) (p : ps.Perm qs) : At K H qs := AtA.perm h p
theorem At.drop (h : At K H (ps ++ qs)) : At K H qs := AtA.drop h
theorem At.tail {p : V × T} (h : At K H (p :: ps)) : At K H ps := AtA.drop (ps := [p]) h
/-- a part of what is held -/
def Sub (qs ps : Ps) : Prop := ∃ l, ps.Perm (l ++ qs)
theorem Sub.refl : Sub ps ps := ⟨[], .refl _⟩
theorem Sub.of_perm (p : ps.Perm qs) : Sub qs ps := ⟨[], p⟩
theorem Sub.trans {rs : Ps} (a : Sub rs qs) (b : Sub qs ps) : Sub rs ps := by
  obtain ⟨l, p⟩ := a
  obtain ⟨m, q⟩ := b
  refine ⟨m ++ l, q.trans ?_⟩
  rw [List.append_assoc]
  exact p.append_left m
theorem Sub.cons {p : V × T} (a : Sub qs ps) : Sub (p :: qs) (p :: ps) := by
  obtain ⟨l, q⟩ := a
  exact ⟨l, (q.cons p).trans List.perm_middle.symm⟩
theorem Sub.skip {p : V × T} (a : Sub qs ps) : Sub qs (p :: ps) := by
  obtain ⟨l, q⟩ := a
  exact ⟨p :: l, q.cons p⟩
theorem Sub.append_right (a : Sub qs ps) (rs : Ps) : Sub (qs ++ rs) (ps ++ rs) := by
  obtain ⟨l, q⟩ := a
  refine ⟨l, ?_⟩
  rw [← List.append_assoc]
  exact q.append_right rs
theorem Sub.append_left (rs : Ps) (a : Sub qs ps) : Sub (rs ++ qs) (rs ++ ps) := by
  induction rs with
  | nil => exact a
  | cons r rs ih => exact ih.cons
theorem AtA.sub (h : AtA K H own ps) (s : Sub qs ps) : AtA K H own qs := by
  obtain ⟨l, p⟩ := s
  exact (h.perm p).drop
theorem At.sub (h : At K H ps) (s : Sub qs ps) : At K H qs := AtA.sub h s

/-- shared data may be doubled -/
theorem At.dup {v : V} {d : D} (h : At K H ((v, .sh d) :: ps)) : At K H ((v, .sh d) :: (v, .sh d) :: ps) := by
  obtain ⟨G, fp, s, ⟨f, g, rfl, ⟨rfl, o1⟩, o2⟩, n, e, x⟩ := h
  exact ⟨G, [] ++ ([] ++ g), s, ⟨[], _, rfl, ⟨rfl, o1⟩, [], g, rfl, ⟨rfl, o1⟩, o2⟩, n, e, x⟩
/-- a scalar -/
def scalD : D → Bool
  | .lst _ => false
  | .tup _ => false
  | .ob _ _ _ => false
  | .dct _ _ => false
  | .lck _ _ _ => false
  | _ => true
theorem At.new {v : V} {d : D} (h : At K H ps) (r : ∀ G, Rep K G v d) : At K H ((v, .sh d) :: ps) := by
  obtain ⟨G, fp, s, o, n, e, x⟩ := h
  exact ⟨G, fp, s, ⟨[], fp, rfl, ⟨rfl, r G⟩, o⟩, n, e, x⟩
/-- what is held of shared data, at the heap -/
theorem At.rep {v : V} {d : D} (h : At K H ((v, .sh d) :: ps)) : Rep K H v d := by
  obtain ⟨G, fp, s, ⟨f, g, rfl, ⟨rfl, o1⟩, o2⟩, n, e, x⟩ := h
  exact Rep.mono s d v o1
/-- the children of shared data -/
theorem At.kids {v : V} {ds : List D} (h : At K H ((v, .sh (.lst ds)) :: ps)) : ∃ a vs, v = .ref a ∧ SqL K H a vs ∧ vs.length = ds.length ∧ At K H (vs.zip (ds.map .sh) ++ ps) := by
  obtain ⟨G, fp, s, ⟨f, g, rfl, ⟨rfl, a, vs, rfl, q, r⟩, o2⟩, n, e, x⟩ := h
  have all : ∀ (ds : List D) (vs : List V), Reps K G vs ds → OwnP K G H (vs.zip (ds.map T.sh)) [] := by
    intro ds
    induction ds with
    | nil => intro vs _; cases vs <;> rfl
    | cons d ds ih =>
      intro vs r
      cases vs with
      | nil => rfl
      | cons v vs => exact ⟨[], [], rfl, ⟨rfl, r.1⟩, ih vs r.2⟩
  exact ⟨a, vs, rfl, s.seq q, r.length, G, g, s, (all ds vs r).append o2, n, e, x⟩
theorem At.kidsT {v : V} {ds : List D} (h : At K H ((v, .sh (.tup ds)) :: ps)) : ∃ a vs, v = .ref a ∧ SqT K H a vs ∧ vs.length = ds.length ∧ At K H (vs.zip (ds.map .sh) ++ ps) := by
  obtain ⟨G, fp, s, ⟨f, g, rfl, ⟨rfl, a, vs, rfl, q, r⟩, o2⟩, n, e, x⟩ := h
  have all : ∀ (ds : List D) (vs : List V), Reps K G vs ds → OwnP K G H (vs.zip (ds.map T.sh)) [] := by
    intro ds
    induction ds with
    | nil => intro vs _; cases vs <;> rfl
    | cons d ds ih =>
      intro vs r
      cases vs with
      | nil => rfl
      | cons v vs => exact ⟨[], [], rfl, ⟨rfl, r.1⟩, ih vs r.2⟩
  exact ⟨a, vs, rfl, Same.sqT s q, r.length, G, g, s, (all ds vs r).append o2, n, e, x⟩
/-- frozen -/
theorem At.freeze {v : V} {t : T} (h : At K H ((v, t) :: ps)) : At K H ((v, .sh (fz t)) :: ps) := by
  obtain ⟨G, fp, s, ⟨f, g, rfl, o1, o2⟩, n, e, x⟩ := h
  have nd : (f ++ g).Nodup := n
  have e0 : ∀ a ∈ f ++ g, G a = none := e
  let G' : Hp := fun a => if a ∈ f then H a else G a
  have s1 : Same G G' := fun a o q => by
    show (if a ∈ f then H a else G a) = some o
    by_cases ha : a ∈ f
    · rw [if_pos ha]; exact s a o q
    · rw [if_neg ha]; exact q
  have s2 : Same G' H := fun a o q => by
    have q' : (if a ∈ f then H a else G a) = some o := q
    by_cases ha : a ∈ f
    · rw [if_pos ha] at q'; exact q'
    · rw [if_neg ha] at q'; exact s a o q'
  have r := o1.fz s1 fun a ha => (if_pos ha : (if a ∈ f then H a else G a) = H a)
  refine ⟨G', g, s2, ⟨[], g, rfl, ⟨rfl, r⟩, o2.mono s1 fun _ _ => rfl⟩, (List.nodup_append.mp nd).2.1, fun a ha => ?_, fun a ha => nomatch ha⟩
  have ha : a ∈ g := ha
  have hf : a ∉ f := fun z => (List.nodup_append.mp nd).2.2 a z a ha rfl
  show (if a ∈ f then H a else G a) = none
  rw [if_neg hf]
  exact e0 a (List.mem_append_right _ ha)
/-- a new object of owned children -/
theorem At.newL {vs : List V} {ts : List T} {p : Addr} (h : At K H (vs.zip ts ++ ps)) (l : vs.length = ts.length) (hp : H p = none) : At K (upd H p (.lst vs)) ((.ref p, .lst ts) :: ps) := by
  obtain ⟨G, fp, s, o, n, e, x⟩ := h
  obtain ⟨f, g, rfl, o1, o2⟩ := o.split
  have np : ∀ a ∈ f ++ g, a ≠ p := fun a ha z => by
    subst z
    rcases List.mem_append.mp ha with ha | ha
    · exact o1.trk a ha hp
    · exact o2.trk a ha hp
  have k : ∀ a ∈ f ++ g, upd H p (.lst vs) a = H a := fun a ha => upd_ne (np a ha)
  have gp : G p = none := s.free hp
  refine ⟨G, (p :: f) ++ g, s.trans fun b o q => by rw [upd_ne (ne_of_none q hp)]; exact q, ⟨p :: f, g, rfl, ⟨p, vs, f, rfl, rfl, upd_same, (o1.toS l).mono (Same.refl _) fun a ha => k a (List.mem_append_left _ ha)⟩, o2.mono (Same.refl _) fun a ha => k a (List.mem_append_right _ ha)⟩,
    ?_, fun a ha => ?_, fun a ha => nomatch ha⟩
  · show (p :: (f ++ g)).Nodup
    exact List.nodup_cons.mpr ⟨fun z => np p z rfl, n⟩
  · have ha : a ∈ p :: (f ++ g) := ha
    rcases List.mem_cons.mp ha with rfl | ha
    · exact gp
    · exact e a ha
theorem At.newT {vs : List V} {ts : List T} {p : Addr} (h : At K H (vs.zip ts ++ ps)) (l : vs.length = ts.length) (hp : H p = none) : At K (upd H p (.tup vs)) ((.ref p, .tup ts) :: ps) := by
  obtain ⟨G, fp, s, o, n, e, x⟩ := h
  obtain ⟨f, g, rfl, o1, o2⟩ := o.split
  have np : ∀ a ∈ f ++ g, a ≠ p := fun a ha z => by
    subst z
    rcases List.mem_append.mp ha with ha | ha
    · exact o1.trk a ha hp
    · exact o2.trk a ha hp
  have k : ∀ a ∈ f ++ g, upd H p (.tup vs) a = H a := fun a ha => upd_ne (np a ha)
  have gp : G p = none := s.free hp
  refine ⟨G, (p :: f) ++ g, s.trans fun b o q => by rw [upd_ne (ne_of_none q hp)]; exact q, ⟨p :: f, g, rfl, ⟨p, vs, f, rfl, rfl, upd_same, (o1.toS l).mono (Same.refl _) fun a ha => k a (List.mem_append_left _ ha)⟩, o2.mono (Same.refl _) fun a ha => k a (List.mem_append_right _ ha)⟩,
    ?_, fun a ha => ?_, fun a ha => nomatch ha⟩
  · show (p :: (f ++ g)).Nodup
    exact List.nodup_cons.mpr ⟨fun z => np p z rfl, n⟩
  · have ha : a ∈ p :: (f ++ g) := ha
    rcases List.mem_cons.mp ha with rfl | ha
    · exact gp
    · exact e a ha
/-- an instance of owned children, its attributes -/
theorem At.newO {vs : List V} {ts : List T} {p dx C : Addr} {ns : List Str} (h : At K H (vs.zip ts ++ ps)) (l : vs.length = ts.length) (ln : ns.length = vs.length) (hp : H p = none) (hd : H dx = none) (hne : dx ≠ p) : At K (upd (upd H dx (.own p)) p (.ins C dx (ns.zip vs))) ((.ref p, .ob C ns ts) :: ps) := by
  obtain ⟨G, fp, s, o, n, e, x⟩ := h
  obtain ⟨f, g, rfl, o1, o2⟩ := o.split
  have np : ∀ a ∈ f ++ g, a ≠ p ∧ a ≠ dx := fun a ha => by
    have : H a ≠ none := by
      rcases List.mem_append.mp ha with ha | ha
      · exact o1.trk a ha
      · exact o2.trk a ha
    exact ⟨fun z => this (by rw [z]; exact hp), fun z => this (by rw [z]; exact hd)⟩
  have k : ∀ a ∈ f ++ g, upd (upd H dx (.own p)) p (.ins C dx (ns.zip vs)) a = H a := fun a ha => by
    rw [upd_ne (np a ha).1, upd_ne (np a ha).2]
  have gp : G p = none := s.free hp
  refine ⟨G, (p :: f) ++ g, s.trans fun b o q => ?_, ⟨p :: f, g, rfl, ⟨p, dx, vs, f, rfl, rfl, upd_same, ln, (o1.toS l).mono (Same.refl _) fun a ha => k a (List.mem_append_left _ ha)⟩, o2.mono (Same.refl _) fun a ha => k a (List.mem_append_right _ ha)⟩,
    ?_, fun a ha => ?_, fun a ha => nomatch ha⟩
  · rw [upd_ne (ne_of_none q hp), upd_ne (ne_of_none q hd)]
    exact q
  · show (p :: (f ++ g)).Nodup
    exact List.nodup_cons.mpr ⟨fun z => (np p z).1 rfl, n⟩
  · have ha : a ∈ p :: (f ++ g) := ha
    rcases List.mem_cons.mp ha with rfl | ha
    · exact gp
    · exact e a ha
/-- the children of a shared instance -/
theorem At.kidsO {v : V} {C : Addr} {ns : List Str} {ds : List D} (h : At K H ((v, .sh (.ob C ns ds)) :: ps)) : ∃ a dx vs, v = .ref a ∧ H a = some (.ins C dx (ns.zip vs)) ∧ ns.length = vs.length ∧ vs.length = ds.length ∧ At K H (vs.zip (ds.map .sh) ++ ps) := by
  obtain ⟨G, fp, s, ⟨f, g, rfl, ⟨rfl, a, dx, vs, rfl, q, ln, r⟩, o2⟩, n, e, x⟩ := h
  have all : ∀ (ds : List D) (vs : List V), Reps K G vs ds → OwnP K G H (vs.zip (ds.map T.sh)) [] := by
    intro ds
    induction ds with
    | nil => intro vs _; cases vs <;> rfl
    | cons d ds ih =>
      intro vs r
      cases vs with
      | nil => rfl
      | cons v vs => exact ⟨[], [], rfl, ⟨rfl, r.1⟩, ih vs r.2⟩
  exact ⟨a, dx, vs, rfl, s _ _ q, ln, r.length, G, g, s, (all ds vs r).append o2, n, e, x⟩
/-- an owned instance opened -/
theorem At.openO {v : V} {C : Addr} {ns : List Str} {ts : List T} (h : At K H ((v, .ob C ns ts) :: ps)) : ∃ a dx vs, v = .ref a ∧ H a = some (.ins C dx (ns.zip vs)) ∧ ns.length = vs.length ∧ vs.length = ts.length ∧ AtA K H [a] (vs.zip ts ++ ps) := by
  obtain ⟨G, fp, s, ⟨f, g, rfl, ⟨a, dx, vs, f', rfl, rfl, ha, ln, o1⟩, o2⟩, n, e, x⟩ := h
  refine ⟨a, dx, vs, rfl, ha, ln, o1.length, G, f' ++ g, s, o1.toP.append o2, n, e, fun b hb => ?_⟩
  rw [List.mem_singleton.mp hb, ha]
  exact fun z => nomatch z
/-- .. and closed, its attributes changed -/
theorem AtA.closeO {a dx C : Addr} {ns : List Str} {vs : List V} {ts : List T} (h : AtA K H [a] (vs.zip ts ++ ps)) (l : vs.length = ts.length) (ln : ns.length = vs.length) : At K (upd H a (.ins C dx (ns.zip vs))) ((.ref a, .ob C ns ts) :: ps) := by
  obtain ⟨G, fp, s, o, n, e, x⟩ := h
  obtain ⟨f, g, rfl, o1, o2⟩ := o.split
  have n' : (a :: (f ++ g)).Nodup := n
  have np : ∀ b ∈ f ++ g, b ≠ a := fun b hb z => by
    subst z
    exact (List.nodup_cons.mp n').1 hb
  have k : ∀ b ∈ f ++ g, upd H a (.ins C dx (ns.zip vs)) b = H b := fun b hb => upd_ne (np b hb)
  have ga : G a = none := e a (List.mem_cons_self)
  refine ⟨G, (a :: f) ++ g, fun b o q => ?_, ⟨a :: f, g, rfl, ⟨a, dx, vs, f, rfl, rfl, upd_same, ln, (o1.toS l).mono (Same.refl _) fun b hb => k b (List.mem_append_left _ hb)⟩, o2.mono (Same.refl _) fun b hb => k b (List.mem_append_right _ hb)⟩, n', e, fun b hb => nomatch hb⟩
  rw [upd_ne (ne_of_none q ga)]
  exact s b o q
theorem AtA.closedO {a dx C : Addr} {ns : List Str} {vs : List V} {ts : List T} (h : AtA K H [a] (vs.zip ts ++ ps)) (l : vs.length = ts.length) (ln : ns.length = vs.length) (ha : H a = some (.ins C dx (ns.zip vs))) : At K H ((.ref a, .ob C ns ts) :: ps) := by
  have q := h.closeO (C := C) (dx := dx) (ns := ns) l ln
  have e : upd H a (.ins C dx (ns.zip vs)) = H := by
    funext b
    by_cases hb : b = a
    · rw [hb, upd_same, ha]
    · rw [upd_ne hb]
  rw [e] at q
  exact q
/-- an owned list opened: its address, its children -/
theorem At.open {v : V} {ts : List T} (h : At K H ((v, .lst ts) :: ps)) : ∃ a vs, v = .ref a ∧ H a = some (.lst vs) ∧ vs.length = ts.length ∧ AtA K H [a] (vs.zip ts ++ ps) := by
  obtain ⟨G, fp, s, ⟨f, g, rfl, ⟨a, vs, f', rfl, rfl, ha, o1⟩, o2⟩, n, e, x⟩ := h
  refine ⟨a, vs, rfl, ha, o1.length, G, f' ++ g, s, o1.toP.append o2, n, e, fun b hb => ?_⟩
  rw [List.mem_singleton.mp hb, ha]
  exact fun z => nomatch z
theorem At.openT {v : V} {ts : List T} (h : At K H ((v, .tup ts) :: ps)) : ∃ a vs, v = .ref a ∧ H a = some (.tup vs) ∧ vs.length = ts.length ∧ AtA K H [a] (vs.zip ts ++ ps) := by
  obtain ⟨G, fp, s, ⟨f, g, rfl, ⟨a, vs, f', rfl, rfl, ha, o1⟩, o2⟩, n, e, x⟩ := h
  refine ⟨a, vs, rfl, ha, o1.length, G, f' ++ g, s, o1.toP.append o2, n, e, fun b hb => ?_⟩
  rw [List.mem_singleton.mp hb, ha]
  exact fun z => nomatch z
/-- .. and closed again -/
theorem AtA.closeL {a : Addr} {vs : List V} {ts : List T} (h : AtA K H [a] (vs.zip ts ++ ps)) (l : vs.length = ts.length) : At K (upd H a (.lst vs)) ((.ref a, .lst ts) :: ps) := by
  obtain ⟨G, fp, s, o, n, e, x⟩ := h
  obtain ⟨f, g, rfl, o1, o2⟩ := o.split
  have n' : (a :: (f ++ g)).Nodup := n
  have np : ∀ b ∈ f ++ g, b ≠ a := fun b hb z => by
    subst z
    exact (List.nodup_cons.mp n').1 hb
  have k : ∀ b ∈ f ++ g, upd H a (.lst vs) b = H b := fun b hb => upd_ne (np b hb)
  have ga : G a = none := e a (List.mem_cons_self)
  refine ⟨G, (a :: f) ++ g, fun b o q => ?_, ⟨a :: f, g, rfl, ⟨a, vs, f, rfl, rfl, upd_same, (o1.toS l).mono (Same.refl _) fun b hb => k b (List.mem_append_left _ hb)⟩, o2.mono (Same.refl _) fun b hb => k b (List.mem_append_right _ hb)⟩, n', e, fun b hb => nomatch hb⟩
  rw [upd_ne (ne_of_none q ga)]
  exact s b o q
theorem AtA.closed {a : Addr} {vs : List V} {ts : List T} (h : AtA K H [a] (vs.zip ts ++ ps)) (l : vs.length = ts.length) (ha : H a = some (.lst vs)) : At K H ((.ref a, .lst ts) :: ps) := by
  have q := h.closeL l
  have e : upd H a (.lst vs) = H := by
    funext b
    by_cases hb : b = a
    · rw [hb, upd_same, ha]
    · rw [upd_ne hb]
  rw [e] at q
  exact q
/-- forget the address -/
theorem AtA.at {own : List Addr} (h : AtA K H own ps) : At K H ps := by
  obtain ⟨G, fp, s, o, n, e, x⟩ := h
  exact ⟨G, fp, s, o, (List.nodup_append.mp n).2.1, fun a ha => e a (List.mem_append_right _ ha), fun a ha => nomatch ha⟩
end
end VS
/-! VS: the judgements; names, constants, operators. -/
namespace VS
open PySem PySem.Spec PyProof.Rows L2

abbrev St := L2.St
abbrev Sto := List (Option T)
def Fit : St → Sto → Prop
  | [], [] => True
  | some _ :: σ, _ :: S => Fit σ S
  | none :: σ, none :: S => Fit σ S
  | _, _ => False
def prs : St → Sto → Ps
  | some v :: σ, some t :: S => (v, t) :: prs σ S
  | _ :: σ, _ :: S => prs σ S
  | _, _ => []
theorem Fit.length : ∀ {σ : St} {S : Sto}, Fit σ S → σ.length = S.length
  | [], [], _ => rfl
  | some _ :: σ, _ :: S, h => congrArg (· + 1) (Fit.length (σ := σ) (S := S) h)
  | none :: σ, none :: S, h => congrArg (· + 1) (Fit.length (σ := σ) (S := S) h)
  | none :: _, some _ :: _, h => h.elim
  | [], _ :: _, h => h.elim
  | some _ :: _, [], h => h.elim
  | none :: _, [], h => h.elim
/-- a slot's tree is taken -/
theorem Fit.take : ∀ {σ : St} {S : Sto} {i : Nat} {t : T}, Fit σ S → S[i]? = some (some t) → ∃ v, σ[i]? = some (some v) ∧ (prs σ S).Perm ((v, t) :: prs σ (S.set i none)) ∧ Fit σ (S.set i none)
  | [], [], i, t, _, h => by simp at h
  | some v :: σ, o :: S, 0, t, f, h => by
    have h' : o = some t := by simpa using h
    subst h'
    exact ⟨v, rfl, .refl _, f⟩
  | none :: σ, none :: S, 0, t, f, h => by simp at h
  | some v :: σ, some u :: S, i + 1, t, f, h => by
    obtain ⟨w, h1, h2, h3⟩ := Fit.take (σ := σ) (S := S) (i := i) f (by simpa using h)
    exact ⟨w, by simpa using h1, (h2.cons _).trans (.swap ..), h3⟩
  | some v :: σ, none :: S, i + 1, t, f, h => by
    obtain ⟨w, h1, h2, h3⟩ := Fit.take (σ := σ) (S := S) (i := i) f (by simpa using h)
    exact ⟨w, by simpa using h1, h2, h3⟩
  | none :: σ, none :: S, i + 1, t, f, h => by
    obtain ⟨w, h1, h2, h3⟩ := Fit.take (σ := σ) (S := S) (i := i) f (by simpa using h)
    exact ⟨w, by simpa using h1, h2, h3⟩
  | none :: _, some _ :: _, _, _, f, _ => f.elim
  | [], _ :: _, _, _, f, _ => f.elim
  | some _ :: _, [], _, _, f, _ => f.elim
  | none :: _, [], _, _, f, _ => f.elim
/-- a slot is stored -/
theorem Fit.put : ∀ {σ : St} {S : Sto} {i : Nat} {v : V} {t : T}, Fit σ S → i < S.length → Sub (prs (σ.set i (some v)) (S.set i (some t))) ((v, t) :: prs σ S) ∧ Fit (σ.set i (some v)) (S.set i (some t))
  | [], [], i, v, t, _, h => by simp at h
  | some w :: σ, some u :: S, 0, v, t, f, h => ⟨(Sub.refl.skip).cons, f⟩
  | some w :: σ, none :: S, 0, v, t, f, h => ⟨Sub.refl, f⟩
  | none :: σ, none :: S, 0, v, t, f, h => ⟨Sub.refl, f⟩
  | some w :: σ, some u :: S, i + 1, v, t, f, h => by
    obtain ⟨h1, h2⟩ := Fit.put (σ := σ) (S := S) (i := i) (v := v) (t := t) f (by simpa using h)
    exact ⟨(h1.cons).trans (Sub.of_perm (.swap ..)), h2⟩
  | some w :: σ, none :: S, i + 1, v, t, f, h => Fit.put (σ := σ) (S := S) (i := i) (v := v) (t := t) f (by simpa using h)
  | none :: σ, none :: S, i + 1, v, t, f, h => Fit.put (σ := σ) (S := S) (i := i) (v := v) (t := t) f (by simpa using h)
  | none :: _, some _ :: _, _, _, _, f, _ => f.elim
  | [], _ :: _, _, _, _, f, _ => f.elim
  | some _ :: _, [], _, _, _, f, _ => f.elim
  | none :: _, [], _, _, _, f, _ => f.elim
theorem set_at {α : Type} : ∀ {σ : List α} {i : Nat} {o : α}, σ[i]? = some o → σ.set i o = σ
  | [], _, _, h => by simp at h
  | x :: σ, 0, o, h => by
    have e : x = o := by simpa using h
    rw [e] <;> rfl
  | x :: σ, i + 1, o, h => by
    rw [List.set_cons_succ, set_at (by simpa using h)]
/-- .. the same value again -/
theorem Fit.back {σ : St} {S : Sto} {i : Nat} {v : V} {t : T} (f : Fit σ S) (h : σ[i]? = some (some v)) : Sub (prs σ (S.set i (some t))) ((v, t) :: prs σ S) ∧ Fit σ (S.set i (some t)) := by
  have hi : i < S.length := by
    rw [← f.length]
    exact (List.getElem?_eq_some_iff.mp h).1
  have q := f.put (v := v) (t := t) hi
  rw [set_at h] at q
  exact q
/-- a slot is forgotten -/
theorem Fit.forget : ∀ {σ : St} {S : Sto} (i : Nat), Fit σ S → Sub (prs σ (S.set i none)) (prs σ S) ∧ Fit σ (S.set i none)
  | [], [], i, f => ⟨Sub.refl, f⟩
  | some w :: σ, some u :: S, 0, f => ⟨Sub.refl.skip, f⟩
  | some w :: σ, none :: S, 0, f => ⟨Sub.refl, f⟩
  | none :: σ, none :: S, 0, f => ⟨Sub.refl, f⟩
  | some w :: σ, some u :: S, i + 1, f => by
    obtain ⟨h1, h2⟩ := Fit.forget (σ := σ) (S := S) i f
    exact ⟨h1.cons, h2⟩
  | some w :: σ, none :: S, i + 1, f => Fit.forget (σ := σ) (S := S) i f
  | none :: σ, none :: S, i + 1, f => Fit.forget (σ := σ) (S := S) i f
  | none :: _, some _ :: _, _, f => f.elim
  | [], _ :: _, _, f => f.elim
  | some _ :: _, [], _, f => f.elim
  | none :: _, [], _, f => f.elim

/-- the state: the slots' trees, and what is held besides -/
def AtS (K : PySem.W.Frag) (H : Hp) (σ : St) (S : Sto) (fr : Ps) : Prop := Fit σ S ∧ At K H (prs σ S ++ fr)
section
variable {K : PySem.W.Frag} {G H H' : Hp} {σ : St} {S : Sto} {fr ps : Ps}
theorem AtS.front (h : AtS K H σ S fr) : At K H (fr ++ prs σ S) := h.2.perm List.perm_append_comm
theorem AtS.of (f : Fit σ S) (h : At K H (fr ++ prs σ S)) : AtS K H σ S fr := ⟨f, h.perm List.perm_append_comm⟩
theorem AtS.sub (h : AtS K H σ S ps) (s : Sub fr ps) : AtS K H σ S fr := ⟨h.1, h.2.sub (s.append_left _)⟩
theorem AtS.drop1 {p : V × T} (h : AtS K H σ S (p :: fr)) : AtS K H σ S fr := h.sub Sub.refl.skip
/-- what a slot shows -/
theorem AtS.see {i : Nat} {t : T} (h : AtS K H σ S fr) (hi : S[i]? = some (some t)) : ∃ v, σ[i]? = some (some v) ∧ Rep K H v (fz t) := by
  obtain ⟨v, h1, p, _⟩ := h.1.take hi
  have a : At K H ((v, t) :: (prs σ (S.set i none) ++ fr)) := h.2.perm (p.append_right fr)
  exact ⟨v, h1, a.freeze.rep⟩
theorem AtS.take {i : Nat} {t : T} (h : AtS K H σ S fr) (hi : S[i]? = some (some t)) : ∃ v, σ[i]? = some (some v) ∧ AtS K H σ (S.set i none) ((v, t) :: fr) := by
  obtain ⟨v, h1, p, f⟩ := h.1.take hi
  exact ⟨v, h1, f, (h.2.perm (p.append_right fr)).perm List.perm_middle.symm⟩
theorem AtS.put {i : Nat} {v : V} {t : T} (h : AtS K H σ S ((v, t) :: fr)) (hi : i < S.length) : AtS K H (σ.set i (some v)) (S.set i (some t)) fr := by
  obtain ⟨s, f⟩ := h.1.put (v := v) (t := t) hi
  exact ⟨f, (h.2.perm List.perm_middle).sub (s.append_right fr)⟩
theorem AtS.back {i : Nat} {v : V} {t : T} (h : AtS K H σ S ((v, t) :: fr)) (hi : σ[i]? = some (some v)) : AtS K H σ (S.set i (some t)) fr := by
  obtain ⟨s, f⟩ := h.1.back (t := t) hi
  exact ⟨f, (h.2.perm List.perm_middle).sub (s.append_right fr)⟩
theorem AtS.forget (i : Nat) (h : AtS K H σ S fr) : AtS K H σ (S.set i none) fr := by
  obtain ⟨s, f⟩ := h.1.forget i
  exact ⟨f, h.2.sub (s.append_right fr)⟩
/-- a held tree at the front, by the rules of At -/
theorem AtS.at1 {p : V × T} (h : AtS K H σ S (p :: fr)) : At K H (p :: (fr ++ prs σ S)) := h.front
theorem AtS.dup {v : V} {d : D} (h : AtS K H σ S ((v, .sh d) :: fr)) : AtS K H σ S ((v, .sh d) :: (v, .sh d) :: fr) := AtS.of h.1 h.at1.dup
theorem AtS.freeze {v : V} {t : T} (h : AtS K H σ S ((v, t) :: fr)) : AtS K H σ S ((v, .sh (fz t)) :: fr) := AtS.of h.1 h.at1.freeze
theorem AtS.new {v : V} {d : D} (h : AtS K H σ S fr) (r : ∀ G, Rep K G v d) : AtS K H σ S ((v, .sh d) :: fr) := AtS.of h.1 (h.front.new r)
theorem AtS.rep {v : V} {t : T} (h : AtS K H σ S ((v, t) :: fr)) : Rep K H v (fz t) := h.freeze.at1.rep
theorem AtS.perm (h : AtS K H σ S ps) (p : ps.Perm fr) : AtS K H σ S fr := h.sub (Sub.of_perm p)
end

/-! ### the judgements -/
abbrev ME := Sto → Option (T × Sto)
abbrev MT := Sto → Option (Bool × Sto)
abbrev MA := Sto → Option (List T × Sto)
abbrev MP := Sto → Option D
abbrev MB := Sto → Option Bool
theorem PE.imp {X : Cx} {e : Expr} {t t' : TE} (h : PE X e t) (i : ∀ σ H Q, t' σ H Q → t σ H Q) : PE X e t' := ⟨fun pins s σ H Q I q => h.run pins s σ H Q I (i σ H Q q)⟩
theorem PT.imp {X : Cx} {e : Expr} {t t' : TT} (h : PT X e t) (i : ∀ σ H Q, t' σ H Q → t σ H Q) : PT X e t' := ⟨fun pins s σ H Q I q => h.run pins s σ H Q I (i σ H Q q)⟩
theorem PA.imp {X : Cx} {e : List Expr} {t t' : TA} (h : PA X e t) (i : ∀ σ H Q, t' σ H Q → t σ H Q) : PA X e t' := ⟨fun pos pins s σ H Q I q => h.run pos pins s σ H Q I (i σ H Q q)⟩
theorem PS.imp {X : Cx} {e : Stmt} {t t' : TS} (h : PS X e t) (i : ∀ D σ H, t' D σ H → t D σ H) : PS X e t' := ⟨fun pins s σ H D I q => h.run pins s σ H D I (i D σ H q)⟩
theorem PSs.imp {X : Cx} {e : List Stmt} {t t' : TS} (h : PSs X e t) (i : ∀ D σ H, t' D σ H → t D σ H) : PSs X e t' := ⟨fun pins s σ H D I q => h.run pins s σ H D I (i D σ H q)⟩

/-- pure: nothing changes; the value's view -/
def tP (K : PySem.W.Frag) (m : MP) : TE := fun σ H Q => ∃ S fr d, AtS K H σ S fr ∧ m S = some d ∧ ∀ v, Rep K H v d → Q v H
def tPB (K : PySem.W.Frag) (m : MB) : TT := fun σ H Q => ∃ S fr b, AtS K H σ S fr ∧ m S = some b ∧ Q b H
def tPA (K : PySem.W.Frag) (m : Sto → Option (List D)) : TA := fun σ H Q => ∃ S fr ds, AtS K H σ S fr ∧ m S = some ds ∧ ∀ vs, Reps K H vs ds → Q vs H
def tV (K : PySem.W.Frag) (m : ME) : TE := fun σ H Q => ∃ S fr t S', AtS K H σ S fr ∧ m S = some (t, S') ∧ ∀ v H', AtS K H' σ S' ((v, t) :: fr) → Q v H'
def tVT (K : PySem.W.Frag) (m : MT) : TT := fun σ H Q => ∃ S fr b S', AtS K H σ S fr ∧ m S = some (b, S') ∧ ∀ H', AtS K H' σ S' fr → Q b H'
def tVA (K : PySem.W.Frag) (m : MA) : TA := fun σ H Q => ∃ S fr ts S', AtS K H σ S fr ∧ m S = some (ts, S') ∧ ∀ vs H', vs.length = ts.length → AtS K H' σ S' (vs.zip ts ++ fr) → Q vs H'
abbrev VP (X : Cx) (e : Expr) (m : MP) : Prop := PE X e (tP X.K m)
abbrev VPB (X : Cx) (e : Expr) (m : MB) : Prop := PT X e (tPB X.K m)
abbrev VPA (X : Cx) (e : List Expr) (m : Sto → Option (List D)) : Prop := PA X e (tPA X.K m)
abbrev VE (X : Cx) (e : Expr) (m : ME) : Prop := PE X e (tV X.K m)
abbrev VT (X : Cx) (e : Expr) (m : MT) : Prop := PT X e (tVT X.K m)
abbrev VA (X : Cx) (e : List Expr) (m : MA) : Prop := PA X e (tVA X.K m)

section
variable {X : Cx} {e a b c : Expr} {es : List Expr} {pos : Pos}
/-! ### constants, names -/
def pC (d : D) : MP := fun _ => some d
theorem vp_int {i : Int} {j} : VP X (.Constant (.int i) j pos) (pC (.int i)) := PE.imp pe_int fun σ H Q ⟨S, fr, d, h, e, q⟩ => by cases e; exact q _ rfl
theorem vp_bl {i : Bool} {j} : VP X (.Constant (.bool i) j pos) (pC (.bl i)) := PE.imp pe_bl fun σ H Q ⟨S, fr, d, h, e, q⟩ => by cases e; exact q _ rfl
theorem vp_non {j} : VP X (.Constant .none j pos) (pC .non) := PE.imp pe_non fun σ H Q ⟨S, fr, d, h, e, q⟩ => by cases e; exact q _ rfl
theorem vp_str {i : Str} {j} : VP X (.Constant (.str i) j pos) (pC (.str i)) := PE.imp pe_str fun σ H Q ⟨S, fr, d, h, e, q⟩ => by cases e; exact q _ rfl
def pV (i : Nat) : MP := fun S => match S[i]? with
  | some (some t) => some (fz t)
  | _ => none
theorem pV_some {i : Nat} {S : Sto} {d : D} (h : pV i S = some d) : ∃ t, S[i]? = some (some t) ∧ d = fz t := by
  unfold pV at h
  split at h
  · rename_i t e
    exact ⟨t, e, (Option.some.inj h).symm⟩
  · cases h
theorem vp_var (i : Nat) {x : Str} (hN : X.N[i]? = some x := by rfl) (hv : Vis X.env.scope x := by first | exact Or.inl rfl | exact Or.inr (Or.inl rfl) | exact Or.inr (Or.inr rfl)) (hd : (x == ("__debug__" : Str)) = false := by decide)
    (hcd : (x == ("__classdict__" : Str)) = false := by decide) : VP X (.Name x pos) (pV i) := PE.imp (pe_var hN hv hd hcd) fun σ H Q ⟨S, fr, d, h, e, q⟩ => by
  obtain ⟨t, h1, rfl⟩ := pV_some e
  obtain ⟨v, h2, r⟩ := h.see h1
  exact ⟨v, h2, q v r⟩
/-- a module's constant -/
theorem vp_glob {x : Str} {d : D} {v : V} {u : Value} (hg : Gl X x) (hm : X.mg x = some u) (r : RelV v u) (rd : ∀ G, Rep X.K G v d) (hd : (x == ("__debug__" : Str)) = false := by decide) : VP X (.Name x pos) (pC d) :=
  PE.imp (pe_glob hg hm r hd) fun σ H Q ⟨S, fr, d, h, e, q⟩ => by cases e; exact q _ (rd H)

/-! ### pure expressions by their operators -/
def p2 (g : D → D → Option D) (ma mb : MP) : MP := fun S => (ma S).bind fun x => (mb S).bind fun y => g x y
def p1 (g : D → Option D) (ma : MP) : MP := fun S => (ma S).bind g
def rD (K : PySem.W.Frag) (g : D → D → Option D) : R2 := fun x y H Q => ∃ dx dy d, Rep K H x dx ∧ Rep K H y dy ∧ g dx dy = some d ∧ ∀ z, Rep K H z d → Q z H
theorem p2_some {g : D → D → Option D} {ma mb : MP} {S : Sto} {d : D} (h : p2 g ma mb S = some d) : ∃ x y, ma S = some x ∧ mb S = some y ∧ g x y = some d := by
  obtain ⟨x, h1, h⟩ := Option.bind_eq_some_iff.mp h
  obtain ⟨y, h2, h⟩ := Option.bind_eq_some_iff.mp h
  exact ⟨x, y, h1, h2, h⟩
theorem t2_imp {g : D → D → Option D} {ma mb : MP} {σ : St} {H : Hp} {Q : VK} (h : tP X.K (p2 g ma mb) σ H Q) : tP X.K ma σ H fun x H1 => tP X.K mb σ H1 fun y H2 => rD X.K g x y H2 Q := by
  obtain ⟨S, fr, d, h, e, q⟩ := h
  obtain ⟨x, y, h1, h2, h3⟩ := p2_some e
  exact ⟨S, fr, x, h, h1, fun v r1 => ⟨S, fr, y, h, h2, fun u r2 => ⟨x, y, d, r1, r2, h3, q⟩⟩⟩
theorem vp_op {op : Operator} {g : D → D → Option D} {ma mb : MP} (ho : OpR X (binaryOp op) (rD X.K g)) (ha : VP X a ma) (hb : VP X b mb) : VP X (.BinOp a op b pos) (p2 g ma mb) :=
  PE.imp (pe_op ho ha hb) fun σ H Q h => t2_imp h
theorem vp_cmp {op : CmpOp} {g : D → D → Option D} {ma mb : MP} (ho : OpR X (compareOp op) (rD X.K g)) (ha : VP X a ma) (hb : VP X b mb) (hm : behindInMarks op b = false := by first | exact nobehind _ (by decide) (by decide) | rfl) : VP X (.Compare a [op] [b] pos) (p2 g ma mb) :=
  PE.imp (pe_cmpR ho ha hb hm) fun σ H Q h => t2_imp h
/-- a data that is a truth value -/
def asB : D → Option Bool
  | .bl b => some b
  | _ => none
def pB (m : MP) : MB := fun S => (m S).bind asB
theorem asB_some {d : D} {b : Bool} (h : asB d = some b) : d = .bl b := by
  cases d <;> first | cases h | skip
  rfl
theorem vb_cmp {op : CmpOp} {g : D → D → Option D} {ma mb : MP} (ho : OpR X (compareOp op) (rD X.K g)) (ha : VP X a ma) (hb : VP X b mb) (hm : behindInMarks op b = false := by first | exact nobehind _ (by decide) (by decide) | rfl) : VPB X (.Compare a [op] [b] pos) (pB (p2 g ma mb)) :=
  PT.imp (pt_cmpR ho ha hb hm) fun σ H Q ⟨S, fr, c, h, e, q⟩ => by
    obtain ⟨d, e1, e2⟩ := Option.bind_eq_some_iff.mp e
    have e3 := asB_some e2
    subst e3
    exact t2_imp ⟨S, fr, _, h, e1, fun v r => ⟨c, r, q⟩⟩
theorem vb_val {m : MP} (h : VP X e m) (he : ∀ whole, isTrue e X.env whole = (do let v ← whole; standAt e.pos; holding [v] (truthy v)) := by intro _; rfl) : VPB X e (pB m) :=
  PT.imp (pt_val h he) fun σ H Q ⟨S, fr, c, h, e, q⟩ => by
    obtain ⟨d, e1, e2⟩ := Option.bind_eq_some_iff.mp e
    have e3 := asB_some e2
    subst e3
    exact ⟨S, fr, _, h, e1, fun v r => ⟨c, r, q⟩⟩
/-- and, or, not as tests -/
def bAnd (p q : MB) : MB := fun S => (p S).bind fun x => if x = true then q S else some false
def bOr (p q : MB) : MB := fun S => (p S).bind fun x => if x = true then some true else q S
def bNot (p : MB) : MB := fun S => (p S).bind fun x => some (!x)
/-- whatever the whole is -/
def VWB (X : Cx) (e : Expr) (m : MB) : Prop := PW X e (tPB X.K m)
theorem PW.imp {t t' : TT} (h : PW X e t) (i : ∀ σ H Q, t' σ H Q → t σ H Q) : PW X e t' := ⟨fun wh pins s σ H Q I q => h.run wh pins s σ H Q I (i σ H Q q)⟩
theorem vw_and1 {p : MB} (h : VPB X a p) : VWB X (.BoolOp .And [a] pos) p := pw_and1 h
theorem vw_or1 {p : MB} (h : VPB X a p) : VWB X (.BoolOp .Or [a] pos) p := pw_or1 h
theorem vw_and {p q : MB} (h : VPB X a p) (h2 : VWB X (.BoolOp .And (b :: es) pos) q) : VWB X (.BoolOp .And (a :: b :: es) pos) (bAnd p q) := PW.imp (pw_and h h2) fun σ H Q ⟨S, fr, c, h, e, k⟩ => by
  obtain ⟨x, e1, e2⟩ := Option.bind_eq_some_iff.mp e
  refine ⟨S, fr, x, h, e1, ?_⟩
  cases x with
  | true => exact iteT ⟨S, fr, c, h, by simpa using e2, k⟩
  | false =>
    have z : false = c := by simpa using e2
    subst z
    exact iteF k
theorem vw_or {p q : MB} (h : VPB X a p) (h2 : VWB X (.BoolOp .Or (b :: es) pos) q) : VWB X (.BoolOp .Or (a :: b :: es) pos) (bOr p q) := PW.imp (pw_or h h2) fun σ H Q ⟨S, fr, c, h, e, k⟩ => by
  obtain ⟨x, e1, e2⟩ := Option.bind_eq_some_iff.mp e
  refine ⟨S, fr, x, h, e1, ?_⟩
  cases x with
  | false => exact iteF ⟨S, fr, c, h, by simpa using e2, k⟩
  | true =>
    have z : true = c := by simpa using e2
    subst z
    exact iteT k
theorem vb_w {p : MB} (h : VWB X e p) : VPB X e p := PW.pt h
theorem vb_not {p : MB} (h : VPB X a p) : VPB X (.UnaryOp .Not a pos) (bNot p) := PT.imp (pt_not h) fun σ H Q ⟨S, fr, c, h, e, k⟩ => by
  obtain ⟨x, e1, e2⟩ := Option.bind_eq_some_iff.mp e
  have z : (!x) = c := by simpa using e2
  subst z
  exact ⟨S, fr, x, h, e1, k⟩
/-- as values -/
def pAnd (p q : MP) : MP := fun S => (p S).bind fun x => (asB x).bind fun x => if x = true then q S else some (.bl false)
def pOr (p q : MP) : MP := fun S => (p S).bind fun x => (asB x).bind fun x => if x = true then some (.bl true) else q S
def pNot (p : MP) : MP := fun S => (p S).bind fun x => (asB x).bind fun x => some (.bl (!x))
theorem vp_one {op} {p : MP} (h : VP X a p) : VP X (.BoolOp op [a] pos) p := pe_one h
theorem vp_and {p q : MP} (h : VP X a p) (h2 : VP X (.BoolOp .And (b :: es) pos) q) : VP X (.BoolOp .And (a :: b :: es) pos) (pAnd p q) := PE.imp (pe_and h h2) fun σ H Q ⟨S, fr, c, h, e, k⟩ => by
  obtain ⟨x, e1, e2⟩ := Option.bind_eq_some_iff.mp e
  obtain ⟨y, e3, e4⟩ := Option.bind_eq_some_iff.mp e2
  have e5 := asB_some e3
  subst e5
  refine ⟨S, fr, _, h, e1, fun v r => ⟨y, r, ?_⟩⟩
  cases y with
  | true => exact iteT ⟨S, fr, c, h, by simpa using e4, k⟩
  | false =>
    have z : D.bl false = c := by simpa using e4
    subst z
    exact iteF (k _ rfl)
theorem vp_or {p q : MP} (h : VP X a p) (h2 : VP X (.BoolOp .Or (b :: es) pos) q) : VP X (.BoolOp .Or (a :: b :: es) pos) (pOr p q) := PE.imp (pe_or h h2) fun σ H Q ⟨S, fr, c, h, e, k⟩ => by
  obtain ⟨x, e1, e2⟩ := Option.bind_eq_some_iff.mp e
  obtain ⟨y, e3, e4⟩ := Option.bind_eq_some_iff.mp e2
  have e5 := asB_some e3
  subst e5
  refine ⟨S, fr, _, h, e1, fun v r => ⟨y, r, ?_⟩⟩
  cases y with
  | false => exact iteF ⟨S, fr, c, h, by simpa using e4, k⟩
  | true =>
    have z : D.bl true = c := by simpa using e4
    subst z
    exact iteT (k _ rfl)
theorem vp_not {p : MP} (h : VP X a p) : VP X (.UnaryOp .Not a pos) (pNot p) := PE.imp (pe_not h) fun σ H Q ⟨S, fr, c, h, e, k⟩ => by
  obtain ⟨x, e1, e2⟩ := Option.bind_eq_some_iff.mp e
  obtain ⟨y, e3, e4⟩ := Option.bind_eq_some_iff.mp e2
  have e5 := asB_some e3
  subst e5
  have z : D.bl (!y) = c := by simpa using e4
  subst z
  exact ⟨S, fr, _, h, e1, fun v r => ⟨y, r, k _ rfl⟩⟩
def pIf (t : MB) (p q : MP) : MP := fun S => (t S).bind fun x => if x = true then p S else q S
theorem vp_if {t : MB} {p q : MP} (ht : VPB X c t) (h1 : VP X a p) (h2 : VP X b q) : VP X (.IfExp c a b pos) (pIf t p q) := PE.imp (pe_ifExp ht h1 h2) fun σ H Q ⟨S, fr, d, h, e, k⟩ => by
  obtain ⟨x, e1, e2⟩ := Option.bind_eq_some_iff.mp e
  refine ⟨S, fr, x, h, e1, ?_⟩
  cases x with
  | true => exact iteT ⟨S, fr, d, h, by simpa using e2, k⟩
  | false => exact iteF ⟨S, fr, d, h, by simpa using e2, k⟩
/-- a < b < c -/
def pChain (g g' : D → D → Option D) (ma mb mc : MP) : MP := fun S => (ma S).bind fun x => (mb S).bind fun y => (g x y).bind fun z => (asB z).bind fun k => if k = true then (mc S).bind fun w => g' y w else some (.bl false)
theorem chain_imp {g g' : D → D → Option D} {ma mb mc : MP} {σ : St} {H : Hp} {Q : VK} (h : tP X.K (pChain g g' ma mb mc) σ H Q) : tChain (rD X.K g) (rD X.K g') (tP X.K ma) (tP X.K mb) (tP X.K mc) σ H Q := by
  obtain ⟨S, fr, d, h, e, q⟩ := h
  obtain ⟨x, h1, e⟩ := Option.bind_eq_some_iff.mp e
  obtain ⟨y, h2, e⟩ := Option.bind_eq_some_iff.mp e
  obtain ⟨z, h3, e⟩ := Option.bind_eq_some_iff.mp e
  obtain ⟨k, h4, e⟩ := Option.bind_eq_some_iff.mp e
  have e5 := asB_some h4
  subst e5
  refine ⟨S, fr, x, h, h1, fun v r1 => ⟨S, fr, y, h, h2, fun u r2 => ⟨x, y, _, r1, r2, h3, fun w r3 => ⟨k, r3, ?_⟩⟩⟩⟩
  cases k with
  | true =>
    obtain ⟨w', h5, e6⟩ := Option.bind_eq_some_iff.mp (show ((mc S).bind fun w => g' y w) = some d by simpa [asB] using e)
    exact iteT ⟨S, fr, w', h, h5, fun v' r4 => ⟨y, w', d, r2, r4, e6, q⟩⟩
  | false =>
    have z : D.bl false = d := by simpa [asB] using e
    subst z
    exact iteF (q _ rfl)
theorem vp_chain {op op' : CmpOp} {g g' : D → D → Option D} {ma mb mc : MP} (ho : OpR X (compareOp op) (rD X.K g)) (ho' : OpR X (compareOp op') (rD X.K g')) (ha : VP X a ma) (hb : VP X b mb) (hc : VP X c mc)
    (hm : lastMarks [op, op'] [b, c] = false := by with_unfolding_all rfl) : VP X (.Compare a [op, op'] [b, c] pos) (pChain g g' ma mb mc) := PE.imp (pe_chain ho ho' ha hb hc hm) fun σ H Q h => chain_imp h
theorem vb_chain {op op' : CmpOp} {g g' : D → D → Option D} {ma mb mc : MP} (ho : OpR X (compareOp op) (rD X.K g)) (ho' : OpR X (compareOp op') (rD X.K g')) (ha : VP X a ma) (hb : VP X b mb) (hc : VP X c mc)
    (hm : lastMarks [op, op'] [b, c] = false := by with_unfolding_all rfl) : VPB X (.Compare a [op, op'] [b, c] pos) (pB (pChain g g' ma mb mc)) := PT.imp (pt_chain ho ho' ha hb hc hm) fun σ H Q ⟨S, fr, c, h, e, q⟩ => by
    obtain ⟨d, e1, e2⟩ := Option.bind_eq_some_iff.mp e
    have e3 := asB_some e2
    subst e3
    exact chain_imp ⟨S, fr, _, h, e1, fun v r => ⟨c, r, q⟩⟩
end
end VS
/-! VS: the operators on data, and that the model computes them. -/
namespace VS
open PySem PySem.Spec PyProof.Rows L2

/-! ### data -/
def lenOk (x : Str) : Bool := decide (x.length ≤ sizeLine)
theorem lenOk_iff {x : Str} : lenOk x = true ↔ x.length ≤ sizeLine := by unfold lenOk; exact decide_eq_true_iff
def small64 (i : Int) : Bool := decide (-(2 ^ 64) < i ∧ i < 2 ^ 64)
def dAdd : D → D → Option D
  | .int i, .int j => some (.int (i + j))
  | .str x, .str y => if x.length + y.length ≤ sizeLine then some (.str (x ++ y)) else none
  | _, _ => none
def dSub : D → D → Option D
  | .int i, .int j => some (.int (i - j))
  | _, _ => none
def dMul : D → D → Option D
  | .int i, .int j => if (small64 i || small64 j) = true then some (.int (i * j)) else none
  | .str x, .int n => if 0 ≤ n ∧ n ≤ 1000000 ∧ x.length ≤ 10 then some (.str (Txt.mul x n)) else none
  | _, _ => none
def dDiv : D → D → Option D
  | .int i, .int j => if j ≠ 0 ∧ j.natAbs.log2 < 9000 then some (.int (i.fdiv j)) else none
  | _, _ => none
def dMod : D → D → Option D
  | .int i, .int j => if j ≠ 0 then some (.int (i.fmod j)) else none
  | _, _ => none
def dPow : D → D → Option D
  | .int i, .int j => if 0 ≤ j ∧ j ≤ 1000000 ∧ i.natAbs < 2 ^ 64 then some (.int (i ^ j.toNat)) else none
  | _, _ => none
def dCmp (p : Int → Int → Bool) : D → D → Option D
  | .int i, .int j => some (.bl (p i j))
  | _, _ => none
def dLt : D → D → Option D := dCmp fun i j => decide (i < j)
def dLe : D → D → Option D := dCmp fun i j => decide (i ≤ j)
def dGt : D → D → Option D := dCmp fun i j => decide (j < i)
def dGe : D → D → Option D := dCmp fun i j => decide (j ≤ i)
mutual
def py : D → PyData
  | .non => .none
  | .bl b => .bool b
  | .int i => .int i
  | .str x => .str x
  | .lst xs => .list (pyL xs)
  | .tup xs => .tuple (pyL xs)
  | .ob _ _ _ => .none
  | .dct _ _ => .none
  | .lck _ _ _ => .none
def pyL : List D → List PyData
  | [] => []
  | d :: ds => py d :: pyL ds
end
mutual
/-- no instance, no dict in it -/
def pureD : D → Bool
  | .lst xs => pureL xs
  | .tup xs => pureL xs
  | .ob _ _ _ => false
  | .dct _ _ => false
  | .lck _ _ _ => false
  | _ => true
def pureL : List D → Bool
  | [] => true
  | d :: ds => pureD d && pureL ds
end
/-- == of data -/
def deq (x y : D) : Bool := PyData.eqv (py x) (py y)
def okD (x : D) : Bool := pureD x && SeqAt.shaped (py x)
def sc : D → Bool
  | .lst _ => false
  | .tup _ => false
  | .ob _ _ _ => false
  | .dct _ _ => false
  | .lck _ _ _ => false
  | _ => true
/-- two scalars that == tells apart by their kinds (no truth value beside a number) -/
def sc2 : D → D → Bool
  | .bl _, .int _ => false
  | .int _, .bl _ => false
  | x, y => sc x && sc y
def dEq (x y : D) : Option D := if sc2 x y = true then some (.bl (deq x y)) else if (okD x && okD y) = true then some (.bl (deq x y)) else none
def dNe (x y : D) : Option D := if sc2 x y = true then some (.bl (!deq x y)) else if (okD x && okD y) = true then some (.bl (!deq x y)) else none
def isNonD : D → Bool
  | .non => true
  | _ => false
def dIsN : D → D → Option D
  | x, .non => some (.bl (isNonD x))
  | _, _ => none
def dIsNotN : D → D → Option D
  | x, .non => some (.bl (!isNonD x))
  | _, _ => none
def items : D → Option (List D)
  | .lst xs => some xs
  | .tup xs => some xs
  | _ => none
/-- the sign of a text of one sign -/
def sign1 (x : Str) : Option Nat := match x.cps.toList with
  | [c] => some c
  | _ => none
def dIn (x y : D) : Option D := match x, y with
  | .str a, .str b => (sign1 a).map fun c => .bl (decide (c ∈ b.cps.toList))
  | x, y => (items y).bind fun ds => if (sc x && ds.all sc) = true then some (.bl (ds.any fun d => deq d x)) else none
def dNot (o : Option D) : Option D := o.bind fun d => match d with
  | .bl b => some (.bl (!b))
  | _ => none
def dNotIn (x y : D) : Option D := dNot (dIn x y)
def dIx (x y : D) : Option D := match y with
  | .int i => match x with
    | .str z => if lenOk z = true then (atI z.cps.toList i).map fun c => .str ⟨#[c]⟩ else none
    | .lst xs => atI xs i
    | .tup xs => atI xs i
    | _ => none
  | _ => none

section
variable {K : PySem.W.Frag} {H : Hp}
theorem Reps.get : ∀ {ds : List D} {vs : List V} {i : Nat} {d : D}, Reps K H vs ds → ds[i]? = some d → ∃ v, vs[i]? = some v ∧ Rep K H v d
  | [], _, _, _, _, h => by simp at h
  | _ :: _, [], _, _, h, _ => h.elim
  | e :: ds, v :: vs, 0, d, h, h' => by
    have z : e = d := by simpa using h'
    subst z
    exact ⟨v, rfl, h.1⟩
  | e :: ds, v :: vs, i + 1, d, h, h' => by
    obtain ⟨u, h1, h2⟩ := Reps.get (i := i) h.2 (by simpa using h')
    exact ⟨u, by simpa using h1, h2⟩
theorem Reps.atI {ds : List D} {vs : List V} {i : Int} {d : D} (r : Reps K H vs ds) (h : L2.atI ds i = some d) : ∃ v, L2.atI vs i = some v ∧ Rep K H v d := by
  obtain ⟨j, h1, h2⟩ := Option.bind_eq_some_iff.mp h
  obtain ⟨v, h3, h4⟩ := r.get h2
  refine ⟨v, ?_, h4⟩
  unfold L2.atI
  rw [r.length, h1]
  exact h3
mutual
theorem Rep.dp : ∀ {d : D} {v : V}, pureD d = true → Rep K H v d → Dp K H v (py d)
  | .non, v, _, h => by rw [show v = .non from h]; exact .non
  | .bl b, v, _, h => by rw [show v = .bl b from h]; exact .bl b
  | .int i, v, _, h => by rw [show v = .int i from h]; exact .int i
  | .str x, v, _, h => by rw [show v = .str x from h]; exact .str x
  | .lst ds, v, p, h => by
    obtain ⟨a, vs, rfl, q, r⟩ := h
    exact .lst q (Reps.dp p r)
  | .tup ds, v, p, h => by
    obtain ⟨a, vs, rfl, q, r⟩ := h
    exact .tup q (Reps.dp p r)
  | .ob _ _ _, _, p, _ => nomatch p
  | .dct _ _, _, p, _ => nomatch p
  | .lck _ _ _, _, p, _ => nomatch p
theorem Reps.dp : ∀ {ds : List D} {vs : List V}, pureL ds = true → Reps K H vs ds → DpAll K H vs (pyL ds)
  | [], [], _, _ => .nil
  | d :: ds, v :: vs, p, h => .cons (Rep.dp (Bool.and_eq_true_iff.mp p).1 h.1) (Reps.dp (Bool.and_eq_true_iff.mp p).2 h.2)
  | [], _ :: _, _, h => h.elim
  | _ :: _, [], _, h => h.elim
end
theorem Rep.scal {x y : D} {v u : V} (h : sc2 x y = true) (rv : Rep K H v x) (ru : Rep K H u y) : scal v u = true ∧ decide (v = u) = deq x y := by
  cases x with
  | non =>
    rw [show v = .non from rv]
    cases y with
    | non => rw [show u = .non from ru]; exact ⟨rfl, rfl⟩
    | bl b => rw [show u = .bl b from ru]; exact ⟨rfl, rfl⟩
    | int j => rw [show u = .int j from ru]; exact ⟨rfl, rfl⟩
    | str z => rw [show u = .str z from ru]; exact ⟨rfl, rfl⟩
    | _ => cases h
  | bl a =>
    rw [show v = .bl a from rv]
    cases y with
    | non => rw [show u = .non from ru]; exact ⟨rfl, rfl⟩
    | bl b =>
      rw [show u = .bl b from ru]
      refine ⟨rfl, ?_⟩
      show decide (V.bl a = V.bl b) = (a == b)
      cases a <;> cases b <;> rfl
    | str z => rw [show u = .str z from ru]; exact ⟨rfl, rfl⟩
    | _ => cases h
  | int a =>
    rw [show v = .int a from rv]
    cases y with
    | non => rw [show u = .non from ru]; exact ⟨rfl, rfl⟩
    | int b =>
      rw [show u = .int b from ru]
      refine ⟨rfl, ?_⟩
      show decide (V.int a = V.int b) = (a == b)
      exact dec_int
    | str z => rw [show u = .str z from ru]; exact ⟨rfl, rfl⟩
    | _ => cases h
  | str a =>
    rw [show v = .str a from rv]
    cases y with
    | non => rw [show u = .non from ru]; exact ⟨rfl, rfl⟩
    | bl b => rw [show u = .bl b from ru]; exact ⟨rfl, rfl⟩
    | int j => rw [show u = .int j from ru]; exact ⟨rfl, rfl⟩
    | str b =>
      rw [show u = .str b from ru]
      refine ⟨rfl, ?_⟩
      show decide (V.str a = V.str b) = (a == b)
      rw [Bool.eq_iff_iff]
      simp
    | _ => cases h
  | _ => cases y <;> cases h
theorem Rep.flat {x : D} {v : V} (h : sc x = true) (rv : Rep K H v x) : flatV v = true := by
  cases x with
  | non => rw [show v = .non from rv]; rfl
  | bl b => rw [show v = .bl b from rv]; rfl
  | int b => rw [show v = .int b from rv]; rfl
  | str b => rw [show v = .str b from rv]; rfl
  | _ => cases h
theorem Rep.eqV {x y : D} {v u : V} (h : sc x = true) (h' : sc y = true) (rv : Rep K H v x) (ru : Rep K H u y) : L2.eqV v u = deq x y := by
  cases x with
  | non =>
    rw [show v = .non from rv]
    cases y with
    | non => rw [show u = .non from ru]; rfl
    | bl b => rw [show u = .bl b from ru]; rfl
    | int b => rw [show u = .int b from ru]; rfl
    | str b => rw [show u = .str b from ru]; rfl
    | _ => cases h'
  | bl a =>
    rw [show v = .bl a from rv]
    cases y with
    | non => rw [show u = .non from ru]; rfl
    | bl b => rw [show u = .bl b from ru]; rfl
    | int b => rw [show u = .int b from ru]; rfl
    | str b => rw [show u = .str b from ru]; rfl
    | _ => cases h'
  | int a =>
    rw [show v = .int a from rv]
    cases y with
    | non => rw [show u = .non from ru]; rfl
    | bl b => rw [show u = .bl b from ru]; rfl
    | int b => rw [show u = .int b from ru]; rfl
    | str b => rw [show u = .str b from ru]; rfl
    | _ => cases h'
  | str a =>
    rw [show v = .str a from rv]
    cases y with
    | non => rw [show u = .non from ru]; rfl
    | bl b => rw [show u = .bl b from ru]; rfl
    | int b => rw [show u = .int b from ru]; rfl
    | str b => rw [show u = .str b from ru]; rfl
    | _ => cases h'
  | _ => cases h
theorem Reps.flat : ∀ {ds : List D} {vs : List V}, Reps K H vs ds → ds.all sc = true → vs.all flatV = true
  | [], [], _, _ => rfl
  | d :: ds, v :: vs, h, q => by
    rw [List.all_cons, Bool.and_eq_true] at q ⊢
    exact ⟨Rep.flat q.1 h.1, Reps.flat h.2 q.2⟩
  | [], _ :: _, h, _ => h.elim
  | _ :: _, [], h, _ => h.elim
theorem Reps.inV {x : D} {v : V} (hx : sc x = true) (rv : Rep K H v x) : ∀ {ds : List D} {vs : List V}, Reps K H vs ds → ds.all sc = true → L2.inV v vs = ds.any fun d => deq d x
  | [], [], _, _ => rfl
  | d :: ds, u :: vs, h, q => by
    rw [List.all_cons, Bool.and_eq_true] at q
    show (L2.eqV u v || L2.inV v vs) = (deq d x || ds.any fun d => deq d x)
    rw [Rep.eqV q.1 hx h.1 rv, Reps.inV hx rv h.2 q.2]
  | [], _ :: _, h, _ => h.elim
  | _ :: _, [], h, _ => h.elim
theorem Rep.ref {ds : List D} {d : D} {v : V} (h : items d = some ds) (r : Rep K H v d) : ∃ a vs, v = .ref a ∧ (SqL K H a vs ∨ SqT K H a vs) ∧ Reps K H vs ds := by
  cases d with
  | lst xs =>
    have z : xs = ds := by simpa [items] using h
    subst z
    obtain ⟨a, vs, e, q, k⟩ := r
    exact ⟨a, vs, e, .inl q, k⟩
  | tup xs =>
    have z : xs = ds := by simpa [items] using h
    subst z
    obtain ⟨a, vs, e, q, k⟩ := r
    exact ⟨a, vs, e, .inr q, k⟩
  | _ => cases h
end

/-! ### the model computes them -/
section
variable {X : Cx}
theorem od_add : OpR X (binaryOp .Add) (rD X.K dAdd) := by
  intro pins s σ H x y v u Q I rx ry ⟨dx, dy, d, r1, r2, e, q⟩
  cases dx with
  | int i =>
    cases dy with
    | int j =>
      have z : D.int (i + j) = d := by simpa [dAdd] using e
      subst z
      rw [show x = .int i from r1] at rx
      rw [show y = .int j from r2] at ry
      exact op_add pins s σ H _ _ v u Q I rx ry ⟨i, j, rfl, rfl, q _ rfl⟩
    | _ => cases e
  | str i =>
    cases dy with
    | str j =>
      simp only [dAdd] at e
      split at e
      · rename_i hl
        have z : D.str (i ++ j) = d := by simpa using e
        subst z
        rw [show x = .str i from r1] at rx
        rw [show y = .str j from r2] at ry
        exact op_add_str pins s σ H _ _ v u Q I rx ry ⟨i, j, rfl, rfl, hl, q _ rfl⟩
      · cases e
    | _ => cases e
  | _ => cases dy <;> cases e
theorem od_sub : OpR X (binaryOp .Sub) (rD X.K dSub) := by
  intro pins s σ H x y v u Q I rx ry ⟨dx, dy, d, r1, r2, e, q⟩
  cases dx with
  | int i =>
    cases dy with
    | int j =>
      have z : D.int (i - j) = d := by simpa [dSub] using e
      subst z
      rw [show x = .int i from r1] at rx
      rw [show y = .int j from r2] at ry
      exact op_sub pins s σ H _ _ v u Q I rx ry ⟨i, j, rfl, rfl, q _ rfl⟩
    | _ => cases e
  | _ => cases dy <;> cases e
theorem od_mul : OpR X (binaryOp .Mult) (rD X.K dMul) := by
  intro pins s σ H x y v u Q I rx ry ⟨dx, dy, d, r1, r2, e, q⟩
  cases dx with
  | int i =>
    cases dy with
    | int j =>
      simp only [dMul] at e
      split at e
      · rename_i hl
        have z : D.int (i * j) = d := by simpa using e
        subst z
        rw [show x = .int i from r1] at rx
        rw [show y = .int j from r2] at ry
        refine op_mul pins s σ H _ _ v u Q I rx ry ⟨i, j, rfl, rfl, ?_, q _ rfl⟩
        rcases Bool.or_eq_true_iff.mp hl with h | h
        · exact .inl (of_decide_eq_true h)
        · exact .inr (of_decide_eq_true h)
      · cases e
    | _ => cases e
  | str i =>
    cases dy with
    | int n =>
      simp only [dMul] at e
      split at e
      · rename_i hl
        have z : D.str (Txt.mul i n) = d := by simpa using e
        subst z
        rw [show x = .str i from r1] at rx
        rw [show y = .int n from r2] at ry
        obtain ⟨t, rfl⟩ := rx
        obtain ⟨t', rfl⟩ := ry
        obtain ⟨h1, h2, h3⟩ := hl
        refine PySem.SB.mul ⟨?_, fun h4 _ => ?_, fun h4 _ => ?_⟩ fun t' k => ⟨.str _, H, I.tok _, ⟨_, rfl⟩, q _ rfl⟩
        · rw [Bool.or_eq_false_iff]
          exact ⟨decide_eq_false (by omega), decide_eq_false (by omega)⟩
        · have : (10 : Int) ≤ (2 ^ 63 - 1) / n := by
            have h5 : 0 < n := by omega
            rw [Int.le_ediv_iff_mul_le h5]
            omega
          omega
        · have h5 : i.length * n.toNat ≤ 10 * 1000000 := Nat.mul_le_mul h3 (by omega)
          have : ¬ sizeLine < i.length * n.toNat := by
            have : (10000000 : Nat) ≤ sizeLine := by decide
            omega
          first
            | exact decide_eq_false this
            | (unfold tooLong; exact decide_eq_false this)
            | (unfold tooLong; simp; omega)
      · cases e
    | _ => cases e
  | _ => cases dy <;> cases e
theorem op_divB : OpR X (binaryOp .FloorDiv) (rI (fun _ j => j ≠ 0 ∧ j.natAbs.log2 < 9000) fun i j => .int (i.fdiv j)) :=
  opI fun _ _ _ _ _ _ _ c q => floordiv_int c.1 q (.inl (PyProof.noPylong_of_log2 c.2))
theorem od_div : OpR X (binaryOp .FloorDiv) (rD X.K dDiv) := by
  intro pins s σ H x y v u Q I rx ry ⟨dx, dy, d, r1, r2, e, q⟩
  cases dx with
  | int i =>
    cases dy with
    | int j =>
      simp only [dDiv] at e
      split at e
      · rename_i hl
        have z : D.int (i.fdiv j) = d := by simpa using e
        subst z
        rw [show x = .int i from r1] at rx
        rw [show y = .int j from r2] at ry
        exact op_divB pins s σ H _ _ v u Q I rx ry ⟨i, j, rfl, rfl, hl, q _ rfl⟩
      · cases e
    | _ => cases e
  | _ => cases dy <;> cases e
theorem od_mod : OpR X (binaryOp .Mod) (rD X.K dMod) := by
  intro pins s σ H x y v u Q I rx ry ⟨dx, dy, d, r1, r2, e, q⟩
  cases dx with
  | int i =>
    cases dy with
    | int j =>
      simp only [dMod] at e
      split at e
      · rename_i hl
        have z : D.int (i.fmod j) = d := by simpa using e
        subst z
        rw [show x = .int i from r1] at rx
        rw [show y = .int j from r2] at ry
        exact op_modN pins s σ H _ _ v u Q I rx ry ⟨i, j, rfl, rfl, hl, q _ rfl⟩
      · cases e
    | _ => cases e
  | _ => cases dy <;> cases e
theorem od_pow : OpR X (binaryOp .Pow) (rD X.K dPow) := by
  intro pins s σ H x y v u Q I rx ry ⟨dx, dy, d, r1, r2, e, q⟩
  cases dx with
  | int i =>
    cases dy with
    | int j =>
      simp only [dPow] at e
      split at e
      · rename_i hl
        have z : D.int (i ^ j.toNat) = d := by simpa using e
        subst z
        rw [show x = .int i from r1] at rx
        rw [show y = .int j from r2] at ry
        exact op_pow pins s σ H _ _ v u Q I rx ry ⟨i, j, rfl, rfl, hl, q _ rfl⟩
      · cases e
    | _ => cases e
  | _ => cases dy <;> cases e
theorem od_cmp {op : CmpOp} {p : Int → Int → Bool} (ho : OpR X (compareOp op) (rI0 fun i j => .bl (p i j))) : OpR X (compareOp op) (rD X.K (dCmp p)) := by
  intro pins s σ H x y v u Q I rx ry ⟨dx, dy, d, r1, r2, e, q⟩
  cases dx with
  | int i =>
    cases dy with
    | int j =>
      have z : D.bl (p i j) = d := by simpa [dCmp] using e
      subst z
      rw [show x = .int i from r1] at rx
      rw [show y = .int j from r2] at ry
      exact ho pins s σ H _ _ v u Q I rx ry ⟨i, j, rfl, rfl, q _ rfl⟩
    | _ => cases e
  | _ => cases dy <;> cases e
theorem od_lt : OpR X (compareOp .Lt) (rD X.K dLt) := od_cmp op_lt
theorem od_le : OpR X (compareOp .LtE) (rD X.K dLe) := od_cmp op_le
theorem od_gt : OpR X (compareOp .Gt) (rD X.K dGt) := od_cmp op_gt
theorem od_ge : OpR X (compareOp .GtE) (rD X.K dGe) := od_cmp op_ge
theorem od_eq (hu : X.A.units + 64 < cLine) : OpR X (compareOp .Eq) (rD X.K dEq) := by
  intro pins s σ H x y v u Q I rx ry ⟨dx, dy, d, r1, r2, e, q⟩
  unfold dEq at e
  split at e
  · rename_i hs
    have z : D.bl (deq dx dy) = d := by simpa using e
    subst z
    obtain ⟨h1, h2⟩ := Rep.scal hs r1 r2
    exact op_eq pins s σ H _ _ v u Q I rx ry ⟨h1, by rw [h2]; exact q _ rfl⟩
  · split at e
    · rename_i hs
      have z : D.bl (deq dx dy) = d := by simpa using e
      subst z
      obtain ⟨h1, h2⟩ := Bool.and_eq_true_iff.mp hs
      exact op_eqD hu pins s σ H _ _ v u Q I rx ry ⟨_, _, Rep.dp (Bool.and_eq_true_iff.mp h1).1 r1, Rep.dp (Bool.and_eq_true_iff.mp h2).1 r2, (Bool.and_eq_true_iff.mp h1).2, (Bool.and_eq_true_iff.mp h2).2, q _ rfl⟩
    · cases e
theorem od_ne (hu : X.A.units + 64 < cLine) : OpR X (compareOp .NotEq) (rD X.K dNe) := by
  intro pins s σ H x y v u Q I rx ry ⟨dx, dy, d, r1, r2, e, q⟩
  unfold dNe at e
  split at e
  · rename_i hs
    have z : D.bl (!deq dx dy) = d := by simpa using e
    subst z
    obtain ⟨h1, h2⟩ := Rep.scal hs r1 r2
    exact op_ne pins s σ H _ _ v u Q I rx ry ⟨h1, by rw [h2]; exact q _ rfl⟩
  · split at e
    · rename_i hs
      have z : D.bl (!deq dx dy) = d := by simpa using e
      subst z
      obtain ⟨h1, h2⟩ := Bool.and_eq_true_iff.mp hs
      exact op_neD hu pins s σ H _ _ v u Q I rx ry ⟨_, _, Rep.dp (Bool.and_eq_true_iff.mp h1).1 r1, Rep.dp (Bool.and_eq_true_iff.mp h2).1 r2, (Bool.and_eq_true_iff.mp h1).2, (Bool.and_eq_true_iff.mp h2).2, q _ rfl⟩
    · cases e
theorem Rep.isNon {K : PySem.W.Frag} {H : Hp} {d : D} {x : V} (r : Rep K H x d) : decide (x = .non) = isNonD d := by
  cases d with
  | non => rw [show x = .non from r]; rfl
  | bl b => rw [show x = .bl b from r]; rfl
  | int b => rw [show x = .int b from r]; rfl
  | str b => rw [show x = .str b from r]; rfl
  | lst b => obtain ⟨a, vs, rfl, _⟩ := r; rfl
  | tup b => obtain ⟨a, vs, rfl, _⟩ := r; rfl
  | ob C ns b => obtain ⟨a, dx, vs, rfl, _⟩ := r; rfl
  | dct ks b => obtain ⟨a, vs, rfl, _⟩ := r; rfl
  | lck a o kvs => rw [show x = .ref a from r.1]; rfl
theorem od_isN : OpR X (compareOp .Is) (rD X.K dIsN) := by
  intro pins s σ H x y v u Q I rx ry ⟨dx, dy, d, r1, r2, e, q⟩
  cases dy with
  | non =>
    have z : D.bl (isNonD dx) = d := by simpa [dIsN] using e
    subst z
    exact op_isN pins s σ H _ _ v u Q I rx ry ⟨r2, by rw [r1.isNon]; exact q _ rfl⟩
  | _ => cases e
theorem od_notN : OpR X (compareOp .IsNot) (rD X.K dIsNotN) := by
  intro pins s σ H x y v u Q I rx ry ⟨dx, dy, d, r1, r2, e, q⟩
  cases dy with
  | non =>
    have z : D.bl (!isNonD dx) = d := by simpa [dIsNotN] using e
    subst z
    exact op_notN pins s σ H _ _ v u Q I rx ry ⟨r2, by rw [r1.isNon]; exact q _ rfl⟩
  | _ => cases e
theorem sign1_some {x : Str} {c : Nat} (h : sign1 x = some c) : x = ⟨#[c]⟩ := by
  unfold sign1 at h
  split at h
  · rename_i c' e
    have z : c' = c := by simpa using h
    subst z
    cases x with
    | mk cps =>
      have e2 : cps = [c'].toArray := by rw [← e, Array.toArray_toList]
      rw [e2]
  · cases h
theorem dIn_seq {x y : D} {d : D} (h : dIn x y = some d) : (∃ a b c, x = .str a ∧ y = .str b ∧ sign1 a = some c ∧ d = .bl (decide (c ∈ b.cps.toList))) ∨ ∃ ds, items y = some ds ∧ sc x = true ∧ ds.all sc = true ∧ d = .bl (ds.any fun z => deq z x) := by
  unfold dIn at h
  split at h
  · obtain ⟨c, h1, h2⟩ := Option.map_eq_some_iff.mp h
    exact .inl ⟨_, _, c, rfl, rfl, h1, h2.symm⟩
  · obtain ⟨ds, h1, h2⟩ := Option.bind_eq_some_iff.mp h
    split at h2
    · rename_i hs
      obtain ⟨h3, h4⟩ := Bool.and_eq_true_iff.mp hs
      exact .inr ⟨ds, h1, h3, h4, (Option.some.inj h2).symm⟩
    · cases h2
theorem od_in : OpR X (compareOp .In) (rD X.K dIn) := by
  intro pins s σ H x y v u Q I rx ry ⟨dx, dy, d, r1, r2, e, q⟩
  rcases dIn_seq e with ⟨a, b, c, rfl, rfl, h1, rfl⟩ | ⟨ds, h1, h2, h3, rfl⟩
  · rw [show x = .str a from r1, sign1_some h1] at rx
    rw [show y = .str b from r2] at ry
    exact op_in_sign pins s σ H _ _ v u Q I rx ry ⟨c, b, rfl, rfl, q _ rfl⟩
  · obtain ⟨p, vs, rfl, k, rs⟩ := r2.ref h1
    refine op_in_seq pins s σ H _ _ v u Q I rx ry ⟨p, vs, rfl, k, r1.flat h2, rs.flat h3, ?_⟩
    rw [if_neg Bool.false_ne_true, Reps.inV h2 r1 rs h3]
    exact q _ rfl
theorem od_notIn : OpR X (compareOp .NotIn) (rD X.K dNotIn) := by
  intro pins s σ H x y v u Q I rx ry ⟨dx, dy, d, r1, r2, e, q⟩
  obtain ⟨d0, e, e'⟩ := Option.bind_eq_some_iff.mp e
  rcases dIn_seq e with ⟨a, b, c, rfl, rfl, h1, rfl⟩ | ⟨ds, h1, h2, h3, rfl⟩
  · have z := Option.some.inj e'
    subst z
    rw [show x = .str a from r1, sign1_some h1] at rx
    rw [show y = .str b from r2] at ry
    exact op_notIn_sign pins s σ H _ _ v u Q I rx ry ⟨c, b, rfl, rfl, q _ rfl⟩
  · have z := Option.some.inj e'
    subst z
    obtain ⟨p, vs, rfl, k, rs⟩ := r2.ref h1
    refine op_notIn_seq pins s σ H _ _ v u Q I rx ry ⟨p, vs, rfl, k, r1.flat h2, rs.flat h3, ?_⟩
    rw [if_pos rfl, Reps.inV h2 r1 rs h3]
    exact q _ rfl
theorem od_ix : IxR X (rD X.K dIx) := by
  intro value slice pins s σ H x y v u Q I rx ry ⟨dx, dy, d, r1, r2, e, q⟩ hs
  cases dy with
  | int i =>
    rw [show y = .int i from r2] at ry
    cases dx with
    | str z =>
      rw [show x = .str z from r1] at rx
      unfold dIx at e
      simp only at e
      split at e
      · rename_i hl
        obtain ⟨c, h1, h2⟩ := Option.map_eq_some_iff.mp e
        subst h2
        exact ix_str value slice pins s σ H _ _ v u Q I rx ry ⟨z, i, c, rfl, rfl, lenOk_iff.mp hl, h1, q _ rfl⟩ hs
      · cases e
    | lst ds =>
      obtain ⟨a, vs, rfl, k, rs⟩ := r1
      obtain ⟨w, h1, h2⟩ := rs.atI (show L2.atI ds i = some d from e)
      exact ix_list value slice pins s σ H _ _ v u Q I rx ry ⟨a, vs, i, w, rfl, rfl, k, h1, q _ h2⟩ hs
    | tup ds =>
      obtain ⟨a, vs, rfl, k, rs⟩ := r1
      obtain ⟨w, h1, h2⟩ := rs.atI (show L2.atI ds i = some d from e)
      exact ix_tup value slice pins s σ H _ _ v u Q I rx ry ⟨a, vs, i, w, rfl, rfl, k, h1, q _ h2⟩ hs
    | _ => cases e
  | _ => cases dx <;> cases e
/-- o[i] -/
theorem vp_ix {a b : Expr} {pos : Pos} {ma mb : MP} (ha : VP X a ma) (hb : VP X b mb) (hs : PlainIx b := by exact fun _ _ => rfl) : VP X (.Subscript a b pos) (p2 dIx ma mb) := PE.imp (pe_ix od_ix ha hb hs) fun σ H Q h => t2_imp h
def dNeg : D → Option D
  | .int i => some (.int (-i))
  | _ => none
theorem vp_neg {a : Expr} {pos : Pos} {ma : MP} (ha : VP X a ma) : VP X (.UnaryOp .USub a pos) (p1 dNeg ma) := PE.imp (pe_un un_neg ha) fun σ H Q ⟨S, fr, d, h, e, q⟩ => by
  obtain ⟨x, e1, e2⟩ := Option.bind_eq_some_iff.mp e
  refine ⟨S, fr, x, h, e1, fun v r => ?_⟩
  cases x with
  | int i =>
    have z : D.int (-i) = d := by simpa [dNeg] using e2
    subst z
    exact ⟨i, r, q _ rfl⟩
  | _ => cases e2

/-! ### built-in functions -/
def rC (K : PySem.W.Frag) (g : List D → Option D) : List V → Hp → VK → Prop := fun vs H Q => ∃ ds d, Reps K H vs ds ∧ g ds = some d ∧ ∀ z, Rep K H z d → Q z H
theorem vpa_nil : VPA X [] (fun _ => some []) := PA.imp pa_nil fun σ H Q ⟨S, fr, ds, h, e, q⟩ => by
  cases e
  exact q [] trivial
def paCons (m : MP) (r : Sto → Option (List D)) : Sto → Option (List D) := fun S => (m S).bind fun x => (r S).bind fun xs => some (x :: xs)
theorem vpa_cons {e : Expr} {es : List Expr} {m : MP} {r : Sto → Option (List D)} (h : VP X e m) (hr : VPA X es r) (hs : starEach (e :: es) X.env = (false, eval e X.env) :: starEach es X.env := by rfl) : VPA X (e :: es) (paCons m r) :=
  PA.imp (pa_cons h hr hs) fun σ H Q ⟨S, fr, ds, h, e, q⟩ => by
    obtain ⟨x, e1, e⟩ := Option.bind_eq_some_iff.mp e
    obtain ⟨xs, e2, e⟩ := Option.bind_eq_some_iff.mp e
    cases e
    exact ⟨S, fr, x, h, e1, fun v r1 => ⟨S, fr, xs, h, e2, fun vs r2 => q (v :: vs) ⟨r1, r2⟩⟩⟩
def pCall (g : List D → Option D) (m : Sto → Option (List D)) : MP := fun S => (m S).bind g
theorem call_imp {g : List D → Option D} {m : Sto → Option (List D)} {σ : St} {H : Hp} {Q : VK} (h : tP X.K (pCall g m) σ H Q) : tCB (rC X.K g) (tPA X.K m) σ H Q := by
  obtain ⟨S, fr, d, h, e, q⟩ := h
  obtain ⟨ds, e1, e2⟩ := Option.bind_eq_some_iff.mp e
  exact ⟨S, fr, ds, h, e1, fun vs r => ⟨ds, d, r, e2, q⟩⟩
/-- f(e, ..), f a built-in function; a built-in class -/
theorem vp_callB {x : Str} {p pos : Pos} {e : Expr} {es : List Expr} {id : String} {g : List D → Option D} {m : Sto → Option (List D)} (hc : CallR X (.builtin id) (rC X.K g)) (hm : X.mg x = none) (hv : bootBuiltins x = some (.builtin id)) (ha : VPA X (e :: es) m) (hg : Gl X x := by rfl) (hn : x ≠ "__name__" := by decide)
    (hdb : (x == ("__debug__" : Str)) = false := by decide) (he : starEach (e :: es) X.env = (false, eval e X.env) :: starEach es X.env := by rfl) (hpl : (backTo pos (starEach es X.env)).any (·.1) = false := by rfl) : VP X (.Call (.Name x p) (e :: es) [] pos) (pCall g m) :=
  PE.imp (pe_callB hc hg hm hv ha hn hdb he hpl) fun σ H Q h => call_imp h
theorem vp_callTy {x : Str} {p pos : Pos} {e : Expr} {es : List Expr} {T : String} {g : List D → Option D} {m : Sto → Option (List D)} (hc : CallR X (.type T) (rC X.K g)) (hm : X.mg x = none) (hv : bootBuiltins x = some (.type T)) (ha : VPA X (e :: es) m) (hg : Gl X x := by rfl) (hn : x ≠ "__name__" := by decide)
    (hdb : (x == ("__debug__" : Str)) = false := by decide) (he : starEach (e :: es) X.env = (false, eval e X.env) :: starEach es X.env := by rfl) (hpl : (backTo pos (starEach es X.env)).any (·.1) = false := by rfl) : VP X (.Call (.Name x p) (e :: es) [] pos) (pCall g m) :=
  PE.imp (pe_callTy hc hg hm hv ha hn hdb he hpl) fun σ H Q h => call_imp h
def dLen : List D → Option D
  | [.str x] => if lenOk x = true then some (.int x.length) else none
  | [.lst xs] => some (.int xs.length)
  | [.tup xs] => some (.int xs.length)
  | _ => none
def dInt : List D → Option D
  | [.int i] => some (.int i)
  | [.bl k] => some (.int (if k then 1 else 0))
  | _ => none
def dAbs : List D → Option D
  | [.int i] => some (.int (if i < 0 then -i else i))
  | _ => none
def dMax2 : List D → Option D
  | [.int i, .int j] => some (.int (if j > i then j else i))
  | _ => none
def dMin2 : List D → Option D
  | [.int i, .int j] => some (.int (if j < i then j else i))
  | _ => none
/-- one, two values -/
theorem Reps.one {K : PySem.W.Frag} {H : Hp} {vs : List V} {d : D} (r : Reps K H vs [d]) : ∃ v, vs = [v] ∧ Rep K H v d := by
  cases vs with
  | nil => exact r.elim
  | cons v vs =>
    cases vs with
    | nil => exact ⟨v, rfl, r.1⟩
    | cons _ _ => exact r.2.elim
theorem Reps.two {K : PySem.W.Frag} {H : Hp} {vs : List V} {d e : D} (r : Reps K H vs [d, e]) : ∃ v u, vs = [v, u] ∧ Rep K H v d ∧ Rep K H u e := by
  cases vs with
  | nil => exact r.elim
  | cons v vs =>
    obtain ⟨u, rfl, q⟩ := Reps.one r.2
    exact ⟨v, u, rfl, r.1, q⟩
theorem od_len : CallR X (.builtin "len") (rC X.K dLen) := by
  intro pins s σ H xs us Q I rx ⟨ds, d, r, e, q⟩
  unfold dLen at e
  split at e
  · split at e
    · rename_i hl
      have z := Option.some.inj e
      subst z
      obtain ⟨v, rfl, r1⟩ := r.one
      exact call_len pins s σ H _ us Q I rx ⟨v, _, rfl, by rw [show v = .str _ from r1]; exact ⟨lenOk_iff.mp hl, rfl⟩, q _ rfl⟩
    · cases e
  · have z := Option.some.inj e
    subst z
    obtain ⟨v, rfl, a, vs, rfl, k, rs⟩ := r.one
    exact call_len pins s σ H _ us Q I rx ⟨_, _, rfl, .inl ⟨vs, k, rs.length.symm⟩, q _ rfl⟩
  · have z := Option.some.inj e
    subst z
    obtain ⟨v, rfl, a, vs, rfl, k, rs⟩ := r.one
    exact call_len pins s σ H _ us Q I rx ⟨_, _, rfl, .inr ⟨vs, k, rs.length.symm⟩, q _ rfl⟩
  · cases e
theorem od_int : CallR X (.type "int") (rC X.K dInt) := by
  intro pins s σ H xs us Q I rx ⟨ds, d, r, e, q⟩
  unfold dInt at e
  split at e
  · have z := Option.some.inj e
    subst z
    obtain ⟨v, rfl, r1⟩ := r.one
    exact call_int1 pins s σ H _ us Q I rx (.inl ⟨_, by rw [show v = _ from r1], q _ rfl⟩)
  · have z := Option.some.inj e
    subst z
    obtain ⟨v, rfl, r1⟩ := r.one
    exact call_int1 pins s σ H _ us Q I rx (.inr ⟨_, by rw [show v = _ from r1], q _ rfl⟩)
  · cases e
theorem od_abs : CallR X (.builtin "abs") (rC X.K dAbs) := by
  intro pins s σ H xs us Q I rx ⟨ds, d, r, e, q⟩
  unfold dAbs at e
  split at e
  · have z := Option.some.inj e
    subst z
    obtain ⟨v, rfl, r1⟩ := r.one
    exact call_abs pins s σ H _ us Q I rx ⟨_, by rw [show v = _ from r1], q _ rfl⟩
  · cases e
theorem od_max2 (hc : X.calm = true) : CallR X (.builtin "max") (rC X.K dMax2) := by
  intro pins s σ H xs us Q I rx ⟨ds, d, r, e, q⟩
  unfold dMax2 at e
  split at e
  · have z := Option.some.inj e
    subst z
    obtain ⟨v, u, rfl, r1, r2⟩ := r.two
    exact call_max2 hc pins s σ H _ us Q I rx ⟨_, _, by rw [show v = _ from r1, show u = _ from r2], q _ rfl⟩
  · cases e
theorem od_min2 (hc : X.calm = true) : CallR X (.builtin "min") (rC X.K dMin2) := by
  intro pins s σ H xs us Q I rx ⟨ds, d, r, e, q⟩
  unfold dMin2 at e
  split at e
  · have z := Option.some.inj e
    subst z
    obtain ⟨v, u, rfl, r1, r2⟩ := r.two
    exact call_min2 hc pins s σ H _ us Q I rx ⟨_, _, by rw [show v = _ from r1, show u = _ from r2], q _ rfl⟩
  · cases e
/-- isinstance(e, T), T a built-in class -/
def tyD : D → String
  | .non => "NoneType"
  | .bl _ => "bool"
  | .int _ => "int"
  | .str _ => "str"
  | .lst _ => "list"
  | .tup _ => "tuple"
  | .ob _ _ _ => ""
  | .dct _ _ => "dict"
  | .lck _ _ _ => ""
def isOb : D → Bool
  | .ob _ _ _ => true
  | .lck _ _ _ => true
  | _ => false
def dIsi (T : String) (d : D) : Option D := if isOb d = true then none else (kitB (tyD d) T).map .bl
theorem Rep.tyX {K : PySem.W.Frag} {H : Hp} {d : D} {v : V} (p : isOb d = false) (r : Rep K H v d) : TyX K H v (.type (tyD d)) := by
  cases d with
  | ob C ns ds => cases p
  | lck a o kvs => cases p
  | dct ks ds =>
    obtain ⟨a, vs, rfl, q, _⟩ := r
    rcases q with q | ⟨o, q⟩
    · exact .base (.dK q)
    · exact .fDict q
  | non => rw [show v = .non from r]; exact .base .non
  | bl b => rw [show v = .bl b from r]; exact .base (.bl b)
  | int b => rw [show v = .int b from r]; exact .base (.int b)
  | str b => rw [show v = .str b from r]; exact .base (.str b)
  | lst ds =>
    obtain ⟨a, vs, rfl, q, _⟩ := r
    rcases q with (q | ⟨o, q⟩) | ⟨o, its, n, h1, h2, _⟩
    · exact .base (.lst q)
    · exact .base (.frz q)
    · exact .kList h1 h2
  | tup ds =>
    obtain ⟨a, vs, rfl, q, _⟩ := r
    rcases q with (q | ⟨o, q⟩) | ⟨o, its, n, h1, h2, _⟩
    · exact .base (.tup q)
    · exact .fTuple q
    · exact .kTuple h1 h2
theorem vp_isi {x : Str} {T : String} {p1 p2 pos : Pos} {e : Expr} {m : MP} (hm : X.mg "isinstance" = none) (hmT : X.mg x = none) (hvT : bootBuiltins x = some (.type T)) (he : VP X e m) (hv : bootBuiltins "isinstance" = some (.builtin "isinstance") := by decide +kernel) (hg : Gl X "isinstance" := by rfl) (hgT : Gl X x := by rfl)
    (hnT : x ≠ "__name__" := by decide) (hdT : (x == ("__debug__" : Str)) = false := by decide) (hs : starEach [e, .Name x p1] X.env = (false, eval e X.env) :: starEach [.Name x p1] X.env := by rfl) (hs2 : starEach [.Name x p1] X.env = (false, eval (.Name x p1) X.env) :: starEach [] X.env := by rfl)
    (hpl : (backTo pos (starEach [.Name x p1] X.env)).any (·.1) = false := by rfl) : VP X (.Call (.Name "isinstance" p2) [e, .Name x p1] [] pos) (VS.p1 (dIsi T) m) :=
  PE.imp (pe_callB call_isi hg hm hv (pa_cons he (pa_cons (pe_bltn hgT hmT hvT (v := .ty T) rfl hnT hdT) pa_nil hs2) hs) (by decide) (by decide) hs hpl) fun σ H Q ⟨S, fr, d, h, e, q⟩ => by
    obtain ⟨y, e1, e2⟩ := Option.bind_eq_some_iff.mp e
    unfold dIsi at e2
    split at e2
    · cases e2
    · rename_i ho
      obtain ⟨b, e3, rfl⟩ := Option.map_eq_some_iff.mp e2
      exact ⟨S, fr, y, h, e1, fun v r => ⟨v, .ty T, _, _, b, rfl, .ty T, r.tyX (Bool.eq_false_iff.mpr ho), kit_ty e3, q _ rfl⟩⟩
/-- a text's slice -/
def oPart (o : Option MP) : Sto → Option (Option Int) := fun S => match o with
  | none => some none
  | some m => (m S).bind fun d => match d with
    | .int i => some (some i)
    | _ => none
def tPO (K : PySem.W.Frag) (m : Sto → Option (Option Int)) : TO := fun σ H Q => ∃ S fr o, AtS K H σ S fr ∧ m S = some o ∧ Q o H
theorem PO.imp {e : Option Expr} {t t' : TO} (h : PO X e t) (i : ∀ σ H Q, t' σ H Q → t σ H Q) : PO X e t' := ⟨fun pins s σ H Q I q => h.run pins s σ H Q I (i σ H Q q)⟩
theorem vo_none : PO X none (tPO X.K (oPart none)) := PO.imp po_none fun σ H Q ⟨S, fr, o, h, e, q⟩ => by cases e; exact q
theorem vo_some {e : Expr} {m : MP} (he : VP X e m) : PO X (some e) (tPO X.K (oPart (some m))) := PO.imp (po_some he) fun σ H Q ⟨S, fr, o, h, e, q⟩ => by
  obtain ⟨d, e1, e2⟩ := Option.bind_eq_some_iff.mp e
  cases d with
  | int i =>
    have z : some i = o := by simpa using e2
    subst z
    exact ⟨S, fr, _, h, e1, fun v r => ⟨i, r, q⟩⟩
  | _ => cases e2
def dSlS (lo hi : Option Int) : D → Option D
  | .str z => if lenOk z = true then some (.str (cutS z lo hi)) else none
  | _ => none
def pSlS (m : MP) (l h : Sto → Option (Option Int)) : MP := fun S => (m S).bind fun d => (l S).bind fun lo => (h S).bind fun hi => dSlS lo hi d
theorem vp_slS {e : Expr} {lo hi : Option Expr} {m : MP} {l h : Sto → Option (Option Int)} {pos p2 : Pos} (he : VP X e m) (hl : PO X lo (tPO X.K l)) (hh : PO X hi (tPO X.K h)) : VP X (.Subscript e (.Slice lo hi none p2) pos) (pSlS m l h) :=
  PE.imp (pe_slice sl_str he hl hh) fun σ H Q ⟨S, fr, d, h0, e, q⟩ => by
    obtain ⟨x, e1, e⟩ := Option.bind_eq_some_iff.mp e
    obtain ⟨lo', e2, e⟩ := Option.bind_eq_some_iff.mp e
    obtain ⟨hi', e3, e⟩ := Option.bind_eq_some_iff.mp e
    refine ⟨S, fr, x, h0, e1, fun v r => ⟨S, fr, lo', h0, e2, S, fr, hi', h0, e3, ?_⟩⟩
    cases x with
    | str z =>
      unfold dSlS at e
      simp only at e
      split at e
      · rename_i hz
        have w := Option.some.inj e
        subst w
        exact ⟨z, r, lenOk_iff.mp hz, q _ rfl⟩
      · cases e
    | _ => cases e
end
end VS
namespace VS
open PySem PySem.Spec PyProof.Rows L2
/-! ### promises of a def where nothing is being shown (no guard is open) -/
structure RoomG (n : Nat) (B : Around) : Prop where
  room : Room n B
  free : B.guards = some []
theorem RoomG.mono {m n : Nat} {B : Around} (g : RoomG n B) (le : m ≤ n) : RoomG m B := ⟨g.room.mono le, g.free⟩
theorem RoomG.deep {n : Nat} {B : Around} (g : RoomG (n + 1) B) (ev : Env) : RoomG n (B.deeper ev) := ⟨g.room.deeper ev, g.free⟩
theorem RoomG.units {n : Nat} {B : Around} (g : RoomG n B) : B.units + 64 < cLine := g.room.units
theorem room_caller {n : Nat} (h : Room n callerA) : RoomG n callerA := ⟨h, rfl⟩
structure FnG (P : Program) (w : World) (K : PySem.W.Frag) (mg : Str → Option Value) (base : Heap) (n : Nat) (g : Addr) (fd : FuncData) (ps : List Str) (sp : Sp) : Prop where
  size : ∀ ws G R X0, sp ws G R X0 → ws.length = ps.length
  go : ∀ (B : Around) (stk : List Env) (z : Shared) (G : Hp) (ar : Args) (us : List Value) (ws : List V) (R : VK) (X0 : XK), RoomG n B → Env0 P w K mg base B stk z G → BindsTo z fd ar (ps.zip us) → Vals ws us → sp ws G R X0 →
    codeAny (model P w) B (.call (.ref g) ar) (CR CX0 stk P w G z R X0) z
section
variable {P : Program} {w : World} {K : PySem.W.Frag} {mg : Str → Option Value} {base : Heap}
theorem FnG.up {m n : Nat} {g : Addr} {fd : FuncData} {ps : List Str} {sp : Sp} (F : FnG P w K mg base m g fd ps sp) (le : m ≤ n) : FnG P w K mg base n g fd ps sp :=
  ⟨F.size, fun B stk z G ar us ws R X0 room => F.go B stk z G ar us ws R X0 (room.mono le)⟩
/-- the promise from the body -/
theorem FnG.of {x qx : Str} {st : Stmt} {f : Addr} {fd : FuncData} {N ps : List Str} {n : Nat} {sp : Sp} (F : FunD K x qx (defArgs st) (defBody st) (defScope st) [] [] f fd) (S : FnScope N ps (defScope st)) (size : ∀ ws G R X0, sp ws G R X0 → ws.length = ps.length)
    (body : ∀ (cdv : Value) (B : Around) (stk : List Env) (z : Shared) (G : Hp) (ws : List V) (R : VK) (X0 : XK), RoomG n (B.deeper (envOfC qx (defScope st) z.heap.objs.size f cdv)) → sp ws G R X0 →
      ∃ t, PSs (cxOf CX0 P w K mg base N qx (defScope st) f cdv B stk z G X0) (defBody st) t ∧ t { nx := fun _ G' => R .non G', rt := R } (L2.start N ws) G) : FnG P w K mg base (n + 1) f fd ps sp := by
  obtain ⟨oc, od, dV, kV, dc, pm, an, cdv, ct, osl, rfl, inK, isCode, _, _⟩ := F.ex
  refine ⟨size, fun B stk z G ar us ws R X0 room ev bnd rel want => ?_⟩
  have many := size _ _ _ _ want
  have keep := fun b o e => (ev.bs b o e).1
  have inZ : K.In z.heap := ev.mod.kin.keeps keep
  have noLim : z.heap.NoLimit := ev.mod.nolimit.keeps keep
  have kinds : ∀ y ∈ ps.zip us, (defScope st).names.lookup y.1 = some .local ∨ ((defScope st).names.lookup y.1 = some .cell ∧ ((cellsFrom (z.heap.objs.size + 1) (defScope st).names []).lookup y.1).isSome = true) := by
    rintro ⟨nm, v⟩ hy
    exact (S.par nm (List.of_mem_zip hy).1).imp id fun q => ⟨q, PySem.W.cellsFrom_some _ _ _ (.inl q)⟩
  refine codeAny_call_function room.room.depth (inZ _ _ inK) rfl S.co S.gen rfl (PySem.W.codeRec_of inZ isCode) (bnd _ _ _ _ (wpAny_newFunctionEnv_cells S.kind kinds ?_))
  rintro env rfl s1 made
  refine ⟨noLim.keeps made.toInCall.keep, codeAny_func ?_⟩
  obtain ⟨t, run, good⟩ := body cdv B stk z G ws R X0 (room.deep _) want
  have I := inv_start (x := made) (CX := CX0) (E := X0) S room.room.hd ev many rel
  refine wpAny_mono (run.run [] s1 (L2.start N ws) G _ I good) ?_ fun _ _ h => h
  have back : ∀ (σ' : St) (G' : Hp) (v : V) (u : Value) (z' : Shared), Inv (cxOf CX0 P w K mg base N qx (defScope st) f cdv B stk z G X0) [] σ' G' z' → RelV v u → R v G' → CE stk P w G z R u z' :=
    fun σ' G' v u z' J rv q => ⟨v, G', J.os, J.bare, J.base, J.hok, rv, q⟩
  rintro (_ | _ | _ | u) z' hz
  · obtain ⟨σ', G', J, q⟩ := hz
    exact back σ' G' .non .none z' J rfl q
  · obtain ⟨_, _, _, q⟩ := hz
    exact q.elim
  · obtain ⟨_, _, _, q⟩ := hz
    exact q.elim
  · obtain ⟨v, σ', G', J, rv, q⟩ := hz
    exact back σ' G' v u z' J rv q
end
section
variable {X : Cx} {n : Nat} {g : Addr} {fd : FuncData} {ps : List Str} {sp : Sp} {y : Str} {p pos : Pos} {e : Expr} {es : List Expr} {t : TA}
/-- such a def is called -/
theorem FnG.runs {pins : List (Addr × Obj)} {σ : St} {H : Hp} {s : Shared} {Q : VK} {us : List Value} {vs : List V} (F : FnG X.prog X.w X.K X.mg X.base n g fd ps sp) (room : RoomG n X.A) (bnd : Binds X.K fd ps []) (I : Inv X pins σ H s) (rel : Vals vs us) (want : sp vs H Q E0) :
    wpAny (model X.prog X.w) X.A (call (.ref g) us) (EP X pins σ Q) X.xe s := by
  have many : us.length = ps.length := rel.length.symm.trans (F.size _ _ _ _ want)
  have b2 := bnd s us I.kIn (by rw [List.append_nil]; exact many)
  rw [List.append_nil] at b2
  refine wpAny_call (codeAny_mono (F.go X.A X.stack s H ⟨us, []⟩ us vs Q E0 room I.env0 b2 rel want) ?_)
  rintro (_ | _ | _ | _ | u) z' hz
  all_goals first | exact I.after hz | exact False.elim hz
theorem pe_callG (F : FnG X.prog X.w X.K X.mg X.base n g fd ps sp) (room : RoomG n X.A) (gl : Gl X y) (at_ : X.mg y = some (.ref g)) (kp : PySem.W.keepIn X.K (.ref g) = true) (bnd : Binds X.K fd ps []) (args : PA X (e :: es) t)
    (hdb : (y == ("__debug__" : Str)) = false := by decide) (he : starEach (e :: es) X.env = (false, eval e X.env) :: starEach es X.env := by rfl) (hpl : (backTo pos (starEach es X.env)).any (·.1) = false := by rfl) :
    PE X (.Call (.Name y p) (e :: es) [] pos) (tCall sp [] E0 t) := by
  constructor
  intro pins s σ H Q I want
  refine wpAny_Call_Name_kw (ld_glob I gl at_ ?_ hdb)
  refine PySem.W.callWith_K (h₀ := X.base) I.ok.mod.kin kp (thn (args.run pos pins s σ H _ I want) ?_) he hpl
  rintro us s1 ⟨vs, H1, I1, rel, q⟩
  rw [List.append_nil] at q
  exact ⟨I1.kIn, F.runs room bnd I1 rel q⟩
theorem pe_callG0 (F : FnG X.prog X.w X.K X.mg X.base n g fd ps sp) (room : RoomG n X.A) (gl : Gl X y) (at_ : X.mg y = some (.ref g)) (kp : PySem.W.keepIn X.K (.ref g) = true) (bnd : Binds X.K fd ps [])
    (hdb : (y == ("__debug__" : Str)) = false := by decide) : PE X (.Call (.Name y p) [] [] pos) (tCall sp [] E0 tNil) := by
  constructor
  intro pins s σ H Q I want
  refine wpAny_Call_Name_kw (ld_glob I gl at_ ?_ hdb)
  exact PySem.W.callWith_K0 I.kIn kp (F.runs (us := []) room bnd I .nil want)
theorem pe_methG {C : Addr} {m : Str} {o : Expr} {ta : TE} {apos : Pos} {pl : Sem Bool} (he : PE X o ta) (c : Cls X.K C) (hm : Meth X.K C m g) (F : FnG X.prog X.w X.K X.mg X.base n g fd ps sp) (room : RoomG n X.A) (bnd : Binds X.K fd ps []) (ha : PA X (e :: es) t)
    (hst : starEach (e :: es) X.env = (false, eval e X.env) :: starEach es X.env := by rfl) (hpl : (backTo pos (starEach es X.env)).any (·.1) = false := by rfl)
    (ht : eval (.Call (.Attribute o m apos) (e :: es) [] pos) X.env = (do
      let ov ← eval o X.env
      standAt apos.atName
      let (f, first) ← holding [ov] (getMethod ov m pl)
      callWith pos f first (backTo pos (starEach (e :: es) X.env)) (backToKw pos (keywordEach [] X.env))) := by rfl) :
    PE X (.Call (.Attribute o m apos) (e :: es) [] pos) (tMeth C m sp [] E0 ta t) := by
  constructor
  intro pins s σ H Q I h
  refine PySem.W.methodCall_KW (pl := pl) (thn (he.run pins s σ H _ I h) ?_) ht
  rintro u s1 ⟨x, H1, I1, rx, a, dx, fs, ex, ea, l, q⟩
  subst ex
  obtain rfl : u = Value.ref a := rx
  refine getmeth_ok I1 ea c hm l ?_
  refine PySem.W.callWith_K (first := [.ref a]) (h₀ := X.base) I.ok.mod.kin hm.kp (thn (ha.run pos pins s1 σ H1 _ I1 q) ?_) hst hpl
  rintro us s2 ⟨vs, H2, I2, r, q2⟩
  rw [List.append_nil] at q2
  exact ⟨I2.kIn, F.runs (us := .ref a :: us) (vs := .ref a :: vs) room bnd I2 (.cons rfl r) q2⟩
theorem pe_methG0 {C : Addr} {m : Str} {o : Expr} {ta : TE} {apos : Pos} {pl : Sem Bool} (he : PE X o ta) (c : Cls X.K C) (hm : Meth X.K C m g) (F : FnG X.prog X.w X.K X.mg X.base n g fd ps sp) (room : RoomG n X.A) (bnd : Binds X.K fd ps [])
    (ht : eval (.Call (.Attribute o m apos) [] [] pos) X.env = (do
      let ov ← eval o X.env
      standAt apos.atName
      let (f, first) ← holding [ov] (getMethod ov m pl)
      callWith pos f first (backTo pos (starEach [] X.env)) (backToKw pos (keywordEach [] X.env))) := by rfl) :
    PE X (.Call (.Attribute o m apos) [] [] pos) (tMeth C m sp [] E0 ta tNil) := by
  constructor
  intro pins s σ H Q I h
  refine PySem.W.methodCall_KW (pl := pl) (thn (he.run pins s σ H _ I h) ?_) ht
  rintro u s1 ⟨x, H1, I1, rx, a, dx, fs, ex, ea, l, q⟩
  subst ex
  obtain rfl : u = Value.ref a := rx
  refine getmeth_ok I1 ea c hm l ?_
  exact PySem.W.callWith_K0 (first := [.ref a]) I1.kIn hm.kp (F.runs (us := [.ref a]) (vs := [.ref a]) room bnd I1 (.cons rfl .nil) q)
theorem FnG.makes {C : Addr} {pins : List (Addr × Obj)} {σ : St} {H : Hp} {s : Shared} {Q : VK} {us : List Value} {vs : List V} (M : Mk X.K C g) (F : FnG X.prog X.w X.K X.mg X.base n g fd ps sp) (room : RoomG (n + 1) X.A) (bnd : Binds X.K fd ps []) (I : Inv X pins σ H s) (rel : Vals vs us)
    (h : ∀ x dx, H x = none → H dx = none → dx ≠ x → sp (.ref x :: vs) (upd (upd H dx (.own x)) x (.ins C dx [])) (fun v H2 => v = .non ∧ Q (.ref x) H2) E0) :
    wpAny (model X.prog X.w) X.A (call (.ref C) us) (EP X pins σ Q) X.xe s := by
  have hq := h (s.heap.objs.size + 1) s.heap.objs.size (I.hok.fresh (Nat.le_succ _)) (I.hok.fresh (Nat.le_refl _)) (Nat.ne_of_lt (Nat.lt_succ_self _))
  have I2 := Inv.made (C := C) I
  have r2 : Vals (V.ref (s.heap.objs.size + 1) :: vs) (Value.ref (s.heap.objs.size + 1) :: us) := .cons rfl rel
  have many : (Value.ref (s.heap.objs.size + 1) :: us).length = ps.length := r2.length.symm.trans (F.size _ _ _ _ hq)
  have b2 := bnd _ (Value.ref (s.heap.objs.size + 1) :: us) I2.kIn (by rw [List.append_nil]; exact many)
  rw [List.append_nil] at b2
  refine wpAny_call (make_map (f := g) I.kIn M.makes M.init (beq_iff_eq.mp M.fn) (codeAny_mono (F.go _ X.stack _ _ ⟨Value.ref (s.heap.objs.size + 1) :: us, []⟩ (Value.ref (s.heap.objs.size + 1) :: us) _ _ E0 ⟨room.room.make C us [], room.free⟩
    (I2.env0.make C us []) b2 r2 hq) fun r s' hq' => ?_))
  cases r with
  | error e => exact False.elim hq'
  | ok fl =>
    cases fl with
    | ret u =>
      obtain ⟨v, H', I3, rv, ev, q3⟩ := I2.after hq'
      subst ev
      exact ⟨rv, ⟨V.ref (s.heap.objs.size + 1), H', I3, rfl, q3⟩⟩
    | next => exact False.elim hq'
    | brk => exact False.elim hq'
    | cont => exact False.elim hq'
theorem pe_makeG {C : Addr} (M : Mk X.K C g) (F : FnG X.prog X.w X.K X.mg X.base n g fd ps sp) (room : RoomG (n + 1) X.A) (gl : Gl X y) (at_ : X.mg y = some (.ref C)) (bnd : Binds X.K fd ps [])
    (ha : PA X (e :: es) t) (hdb : (y == ("__debug__" : Str)) = false := by decide) (he : starEach (e :: es) X.env = (false, eval e X.env) :: starEach es X.env := by rfl) (hpl : (backTo pos (starEach es X.env)).any (·.1) = false := by rfl) :
    PE X (.Call (.Name y p) (e :: es) [] pos) (tMake C sp [] E0 t) := by
  constructor
  intro pins s σ H Q I h
  refine wpAny_Call_Name_kw (ld_glob I gl at_ ?_ hdb)
  refine PySem.W.callWith_K (h₀ := X.base) I.ok.mod.kin M.kp (thn (ha.run pos pins s σ H _ I h) ?_) he hpl
  rintro us s1 ⟨vs, H1, I1, r, q⟩
  rw [List.append_nil] at q
  exact ⟨I1.kIn, F.makes M room bnd I1 r q⟩
end
end VS
namespace VS
open PySem PySem.Spec PyProof.Rows L2
/-! ### a law's end over such a promise -/
section
variable {P : Program} {w : World} {K : PySem.W.Frag} {mg mb : Str → Option Value} {n : Nat} {g a : Addr} {fd : FuncData} {x : Str} {sp : Sp} {z : Shared} {us : List Value} {ns : List Int}
/-- the script is a list of whole numbers at a -/
abbrev ScriptAt (z : Shared) (a : Addr) (us : List Value) : Prop := z.heap.get? a = some ⟨.type "list", none, .seq us.toArray 0, #[]⟩
abbrev LawEnd (P : Program) (w : World) (g a : Addr) (z : Shared) : Prop := codeAny (model P w) callerA (.call (.ref g) ⟨[.ref a], []⟩) (fun r z' => r = .ok (.ret (.bool true)) ∧ OldK z.heap z'.heap ∧ z'.os = z.os ∧ AllBare z'.gens) z
theorem end_core (hg : z.gens = #[]) (room : Room n callerA) (F : ∀ base : Heap, K.In base → base.Ns mainGlobals mg → FnG P w K mg base n g fd [x] sp)
    (bnd : ∀ (s : Shared) (u : Value), BindsTo s fd ⟨[u], []⟩ [(x, u)]) {G : Hp} (want : sp [.ref a] G (fun v _ => v = .bl true) fun _ _ _ => False) (only : Only G) (ok : HOk P w G z.heap)
    (base_in : L2.Mod K mg (hidT z.heap G)) : LawEnd P w g a z := by
  have ev : Env0 P w K mg (hidT z.heap G) callerA [] z G :=
    { frames := rfl, mod := base_in, bs := fun _ _ e => of_hidT e, bsz := Nat.le_of_eq (hidT_size _ _), funs := trivial, frf := fun b hb => absurd (show b ∈ ([] : List Addr) from hb) List.not_mem_nil, hok := ok, bare := .of_eq hg }
  have go := (F _ base_in.kin base_in.glob).go callerA [] z G ⟨[.ref a], []⟩ [.ref a] [.ref a] _ _ (room_caller room) ev (bnd z (.ref a)) (.cons rfl .nil) want
  refine codeAny_mono go ?_
  rintro (e | _ | _ | _ | u) z' hz
  · exact False.elim hz
  · exact False.elim hz
  · exact False.elim hz
  · exact False.elim hz
  · obtain ⟨v, G', os, bare, un, ok', rel, is⟩ := hz
    obtain rfl : v = .bl true := is
    obtain rfl : u = Value.bool true := rel
    refine ⟨rfl, OldK.of_keep ?_, os, bare⟩
    intro b o at_
    rcases only b with no | ⟨ob, xs, yes⟩
    · exact un.keep b o at_ no (fun h => absurd (show b ∈ ([] : List Addr) from h) List.not_mem_nil) (by simp)
    · have was := (ok b _ yes).1
      have is := (ok' b _ (un.frzs b ob _ yes)).1
      rw [at_] at was
      cases was
      exact is
/-- what is hidden of the heap holds no dict -/
theorem mod_hid {G : Hp} (hm : L2.Mod K mg z.heap) (all : ∀ b, G b ≠ none → b = a) (at_ : ScriptAt z a us) (out : G a ≠ none → K.lookup a = none) : L2.Mod K mg (hidT z.heap G) := by
  have seen : ∀ b o, z.heap.get? b = some o → (b = a → G a ≠ none → False) → (hidT z.heap G).get? b = some o := fun b o e no =>
    hidT_get e (Classical.byContradiction fun h => no (all b h) (by rw [← all b h]; exact h))
  have dicts : ∀ b o es ep, z.heap.get? b = some o → o.data = .dict es ep → (hidT z.heap G).get? b = some o := fun b o es ep e isD => seen b o e fun eq _ => by
    rw [eq, at_] at e
    cases e
    cases (show Data.seq _ _ = Data.dict es ep from isD)
  have ns : ∀ b m, z.heap.Ns b m → (hidT z.heap G).Ns b m := by
    rintro b m ⟨o, es, ep, e, d, r⟩
    exact ⟨o, es, ep, dicts b o es ep e d, d, r⟩
  obtain ⟨k, gl, ⟨mb, nb, hb⟩, ⟨mc, h1, h2⟩⟩ := hm
  refine ⟨fun b o e => seen b o (k b o e) fun eq no => ?_, ns _ _ gl, ⟨mb, ns _ _ nb, hb⟩, ⟨mc, ns _ _ h1, h2⟩⟩
  rw [eq, out no] at e
  cases e
theorem end_run (hm : L2.Mod K mg z.heap) (hg : z.gens = #[]) (at_ : ScriptAt z a us) (are : IntsAre us ns) (few : ns.length ≤ sizeLine) (room : Room n callerA) (F : ∀ base : Heap, K.In base → base.Ns mainGlobals mg → FnG P w K mg base n g fd [x] sp)
    (bnd : ∀ (s : Shared) (u : Value), BindsTo s fd ⟨[u], []⟩ [(x, u)]) (want : ∀ G : Hp, Only G → SqL K G a (ns.map V.int) → sp [.ref a] G (fun v _ => v = .bl true) fun _ _ _ => False) : LawEnd P w g a z := by
  have rel := vals_ints are
  cases q : K.lookup a with
  | some o =>
    have e := hm.kin a o q
    rw [at_] at e
    cases e
    have only : Only fun _ => none := fun _ => .inl rfl
    refine end_core hg room F bnd (want _ only (.inr ⟨_, us.toArray, _, q, rfl, rfl, rfl, ?_, ?_⟩)) only (fun b u h => (Option.some_ne_none u h.symm).elim) (mod_hid hm (fun b h => absurd rfl h) at_ fun h => absurd rfl h)
    · rw [List.size_toArray, are.length]
      exact few
    · exact rel
  | none =>
    have only : Only fun b => if b = a then some (.frz ⟨.type "list", none, .seq us.toArray 0, #[]⟩ (.lst (ns.map V.int))) else none := fun b => by
      by_cases h : b = a
      · exact .inr ⟨_, _, if_pos h⟩
      · exact .inl (if_neg h)
    refine end_core hg room F bnd (want _ only (.inl (.inr ⟨_, if_pos rfl⟩))) only (fun b u h => ?_) (mod_hid hm (fun b h => ?_) at_ fun _ => q)
    · by_cases h2 : b = a
      · have e := (if_pos h2).symm.trans h
        cases e
        rw [h2]
        exact ⟨at_, by rw [List.length_map]; exact few, us, _, rel, at_⟩
      · have e := (if_neg h2).symm.trans h
        cases e
    · by_cases h2 : b = a
      · exact h2
      · exact absurd (if_neg h2) h
end
end VS
namespace VS
open PySem PySem.Spec PyProof.Rows L2
theorem walk_ofG {l : PySem.W.OpenLaw} {n k : Nat} {q : Program} {loose : List Str} {XP : (Str → Option Value) → Heap → Prop} {YP : World → Heap → Prop} {d : DefRec} {x : Str} (most : l.most = some n) (few : n ≤ sizeLine) (plain : d.params.defaults = []) (room : Room k callerA)
    (F : ∀ (w : World) (mg : Str → Option Value) (g : Addr) (h : Heap), YP w h → h.Ns mainGlobals mg → mg d.name = some (.ref g) →
      ∃ (K : PySem.W.Frag) (fd : FuncData) (sp : Sp), K.In h ∧ (∀ (s : Shared) (u : Value), BindsTo s fd ⟨[u], []⟩ [(x, u)]) ∧
        (∀ (G : Hp) (a : Addr) (ns : List Int), ns.length ≤ n → (∀ i ∈ ns, Builtin.Int.intBits i ≤ 1048576) → Only G → SqL K G a (ns.map V.int) → sp [.ref a] G (fun v _ => v = .bl true) fun _ _ _ => False) ∧
        ∀ base : Heap, K.In base → base.Ns mainGlobals mg → FnG l.prog w K mg base k g fd [x] sp) :
    PySem.W.WalkO q loose XP YP l.row.toRowW d [] (fun f vs => PySem.call f vs) := by
  refine Att.attach_callB most plain ?_
  intro w z0 z mg mb g o pm cd doc a us ns gr Y at_g is_f code at_mg at_a are many bits none_open
  obtain ⟨K, fd, sp, inK, bnd, want, run⟩ := F w mg g _ Y gr.T.g at_mg
  exact end_run ⟨inK, gr.T.g, ⟨mb, gr.T.b, gr.T.builtins⟩, gr.T.nolimit⟩ none_open at_a are (Nat.le_trans many few) room run bnd fun G o s => want G a ns many bits o s
end VS
/-! VS: expressions that make or take. -/
namespace VS
open PySem PySem.Spec PyProof.Rows L2

section
variable {K : PySem.W.Frag} {H : Hp} {σ : St} {S : Sto} {fr ps : Ps}
theorem scRep {d : D} {v : V} (h : sc d = true) (r : Rep K H v d) : ∀ G, Rep K G v d := fun G => by
  cases d with
  | lst _ => cases h
  | tup _ => cases h
  | ob _ _ _ => cases h
  | dct _ _ => cases h
  | lck _ _ _ => cases h
  | _ => exact r
theorem AtS.two {p q : V × T} (h : AtS K H σ S (p :: q :: fr)) : AtS K H σ S (q :: p :: fr) := h.perm (.swap ..)
/-- two trees' views -/
theorem AtS.reps2 {v u : V} {t t' : T} (h : AtS K H σ S ((u, t') :: (v, t) :: fr)) : Rep K H v (fz t) ∧ Rep K H u (fz t') := ⟨h.two.rep, h.rep⟩
theorem AtS.drops (qs : Ps) (h : AtS K H σ S (qs ++ fr)) : AtS K H σ S fr := h.sub ⟨qs, .refl _⟩
end

section
variable {X : Cx} {e a b c : Expr} {es : List Expr} {pos : Pos}
/-! ### lifts, names -/
def ofP (m : MP) : ME := fun S => (m S).bind fun d => if sc d = true then some (.sh d, S) else none
theorem ve_p {m : MP} (h : VP X e m) : VE X e (ofP m) := PE.imp h fun σ H Q ⟨S, fr, t, S', h, e, q⟩ => by
  obtain ⟨d, e1, e2⟩ := Option.bind_eq_some_iff.mp e
  split at e2
  · rename_i hs
    cases e2
    exact ⟨_, fr, _, h, e1, fun v r => q v H (h.new (scRep hs r))⟩
  · cases e2
def ofB (m : MB) : MT := fun S => (m S).bind fun b => some (b, S)
theorem vt_p {m : MB} (h : VPB X e m) : VT X e (ofB m) := PT.imp h fun σ H Q ⟨S, fr, b, S', h, e, q⟩ => by
  obtain ⟨d, e1, e2⟩ := Option.bind_eq_some_iff.mp e
  obtain ⟨rfl, rfl⟩ : d = b ∧ S = S' := by simpa using e2
  exact ⟨S, fr, d, h, e1, q H h⟩
def eVar (i : Nat) : ME := fun S => match S[i]? with
  | some (some (.sh d)) => some (.sh d, S)
  | some (some t) => some (.sh (fz t), S.set i (some (.sh (fz t))))
  | _ => none
theorem eVar_some {i : Nat} {S S' : Sto} {t : T} (h : eVar i S = some (t, S')) : ∃ u, S[i]? = some (some u) ∧ t = .sh (fz u) ∧ S' = S.set i (some (.sh (fz u))) := by
  unfold eVar at h
  split at h
  · rename_i d e
    cases h
    exact ⟨_, e, rfl, (set_at e).symm⟩
  · rename_i u _ e
    cases h
    exact ⟨u, e, rfl, rfl⟩
  · cases h
theorem ve_var (i : Nat) {x : Str} (hN : X.N[i]? = some x := by rfl) (hv : Vis X.env.scope x := by first | exact Or.inl rfl | exact Or.inr (Or.inl rfl) | exact Or.inr (Or.inr rfl)) (hd : (x == ("__debug__" : Str)) = false := by decide)
    (hcd : (x == ("__classdict__" : Str)) = false := by decide) : VE X (.Name x pos) (eVar i) := PE.imp (pe_var hN hv hd hcd) fun σ H Q ⟨S, fr, t, S', h, e, q⟩ => by
  obtain ⟨u, e1, rfl, rfl⟩ := eVar_some e
  obtain ⟨v, h1, h2⟩ := h.take e1
  refine ⟨v, h1, q v H ?_⟩
  have k := (h2.freeze.dup).back (i := i) h1
  rw [List.set_set] at k
  exact k
def eMov (i : Nat) : ME := fun S => match S[i]? with
  | some (some t) => some (t, S.set i none)
  | _ => none
theorem ve_mov (i : Nat) {x : Str} (hN : X.N[i]? = some x := by rfl) (hv : Vis X.env.scope x := by first | exact Or.inl rfl | exact Or.inr (Or.inl rfl) | exact Or.inr (Or.inr rfl)) (hd : (x == ("__debug__" : Str)) = false := by decide)
    (hcd : (x == ("__classdict__" : Str)) = false := by decide) : VE X (.Name x pos) (eMov i) := PE.imp (pe_var hN hv hd hcd) fun σ H Q ⟨S, fr, t, S', h, e, q⟩ => by
  unfold eMov at e
  split at e
  · rename_i u e1
    cases e
    obtain ⟨v, h1, h2⟩ := h.take e1
    exact ⟨v, h1, q v H h2⟩
  · cases e
def eC (d : D) : ME := fun S => some (.sh d, S)
theorem ve_glob {x : Str} {d : D} {v : V} {u : Value} (hg : Gl X x) (hm : X.mg x = some u) (r : RelV v u) (rd : ∀ G, Rep X.K G v d) (hd : (x == ("__debug__" : Str)) = false := by decide) : VE X (.Name x pos) (eC d) :=
  PE.imp (pe_glob hg hm r hd) fun σ H Q ⟨S, fr, t, S', h, e, q⟩ => by cases e; exact q _ _ (h.new rd)

/-! ### operators, one side not pure -/
def sD (o : Option D) (S : Sto) : Option (T × Sto) := o.bind fun d => if sc d = true then some (.sh d, S) else none
theorem sD_some {o : Option D} {S S' : Sto} {t : T} (h : sD o S = some (t, S')) : ∃ d, o = some d ∧ sc d = true ∧ t = .sh d ∧ S' = S := by
  obtain ⟨d, e1, e2⟩ := Option.bind_eq_some_iff.mp h
  split at e2
  · rename_i hs
    cases e2
    exact ⟨d, e1, hs, rfl, rfl⟩
  · cases e2
def e2 (g : D → D → Option D) (ma mb : ME) : ME := fun S => (ma S).bind fun p => (mb p.2).bind fun q => sD (g (fz p.1) (fz q.1)) q.2
theorem e2_imp {g : D → D → Option D} {ma mb : ME} {σ : St} {H : Hp} {Q : VK} (h : tV X.K (e2 g ma mb) σ H Q) : tV X.K ma σ H fun x H1 => tV X.K mb σ H1 fun y H2 => rD X.K g x y H2 Q := by
  obtain ⟨S, fr, t, S', h, e, q⟩ := h
  obtain ⟨⟨ta, S1⟩, e1, e⟩ := Option.bind_eq_some_iff.mp e
  obtain ⟨⟨tb, S2⟩, e2, e⟩ := Option.bind_eq_some_iff.mp e
  obtain ⟨d, e3, hs, rfl, rfl⟩ := sD_some e
  refine ⟨S, fr, ta, S1, h, e1, fun v H1 h1 => ⟨S1, (v, ta) :: fr, tb, _, h1, e2, fun u H2 h2 => ?_⟩⟩
  obtain ⟨r1, r2⟩ := h2.reps2
  exact ⟨fz ta, fz tb, d, r1, r2, e3, fun z rz => q z H2 ((h2.drops [_, _]).new (scRep hs rz))⟩
theorem ve_op {op : Operator} {g : D → D → Option D} {ma mb : ME} (ho : OpR X (binaryOp op) (rD X.K g)) (ha : VE X a ma) (hb : VE X b mb) : VE X (.BinOp a op b pos) (e2 g ma mb) := PE.imp (pe_op ho ha hb) fun σ H Q h => e2_imp h
theorem ve_cmp {op : CmpOp} {g : D → D → Option D} {ma mb : ME} (ho : OpR X (compareOp op) (rD X.K g)) (ha : VE X a ma) (hb : VE X b mb) (hm : behindInMarks op b = false := by first | exact nobehind _ (by decide) (by decide) | rfl) : VE X (.Compare a [op] [b] pos) (e2 g ma mb) :=
  PE.imp (pe_cmpR ho ha hb hm) fun σ H Q h => e2_imp h
/-- a tree that is a truth value -/
def qB (m : ME) : MT := fun S => (m S).bind fun p => (asB (fz p.1)).bind fun b => some (b, p.2)
theorem qB_imp {m : ME} {σ : St} {H : Hp} {Q : Bool → Hp → Prop} {te : TE} (hi : ∀ Q, tV X.K m σ H Q → te σ H Q) (h : tVT X.K (qB m) σ H Q) : te σ H fun x H1 => ∃ k, x = .bl k ∧ Q k H1 := by
  obtain ⟨S, fr, b, S', h, e, q⟩ := h
  obtain ⟨⟨t, S1⟩, e1, e⟩ := Option.bind_eq_some_iff.mp e
  obtain ⟨b', e2, e⟩ := Option.bind_eq_some_iff.mp e
  cases e
  refine hi _ ⟨S, fr, t, _, h, e1, fun v H1 h1 => ⟨_, ?_, q H1 h1.drop1⟩⟩
  have r := h1.rep
  rw [asB_some e2] at r
  exact r
theorem vt_cmp {op : CmpOp} {g : D → D → Option D} {ma mb : ME} (ho : OpR X (compareOp op) (rD X.K g)) (ha : VE X a ma) (hb : VE X b mb) (hm : behindInMarks op b = false := by first | exact nobehind _ (by decide) (by decide) | rfl) : VT X (.Compare a [op] [b] pos) (qB (e2 g ma mb)) :=
  PT.imp (pt_cmpR ho ha hb hm) fun σ H Q h => qB_imp (fun Q h => e2_imp h) h
theorem vt_val {m : ME} (h : VE X e m) (he : ∀ whole, isTrue e X.env whole = (do let v ← whole; standAt e.pos; holding [v] (truthy v)) := by intro _; rfl) : VT X e (qB m) :=
  PT.imp (pt_val h he) fun σ H Q h => qB_imp (te := tV X.K m) (fun Q h => h) h
def qAnd (p q : MT) : MT := fun S => (p S).bind fun x => if x.1 = true then q x.2 else some (false, x.2)
def qOr (p q : MT) : MT := fun S => (p S).bind fun x => if x.1 = true then some (true, x.2) else q x.2
def qNot (p : MT) : MT := fun S => (p S).bind fun x => some (!x.1, x.2)
def VW (X : Cx) (e : Expr) (m : MT) : Prop := PW X e (tVT X.K m)
theorem vwt_and1 {p : MT} (h : VT X a p) : VW X (.BoolOp .And [a] pos) p := pw_and1 h
theorem vwt_or1 {p : MT} (h : VT X a p) : VW X (.BoolOp .Or [a] pos) p := pw_or1 h
theorem vwt_and {p q : MT} (h : VT X a p) (h2 : VW X (.BoolOp .And (b :: es) pos) q) : VW X (.BoolOp .And (a :: b :: es) pos) (qAnd p q) := PW.imp (pw_and h h2) fun σ H Q ⟨S, fr, c, S', h, e, k⟩ => by
  obtain ⟨⟨x, S1⟩, e1, e2⟩ := Option.bind_eq_some_iff.mp e
  refine ⟨S, fr, x, S1, h, e1, fun H1 h1 => ?_⟩
  cases x with
  | true => exact iteT ⟨S1, fr, c, S', h1, by simpa using e2, k⟩
  | false =>
    have z : (false, S1) = (c, S') := by simpa using e2
    cases z
    exact iteF (k _ h1)
theorem vwt_or {p q : MT} (h : VT X a p) (h2 : VW X (.BoolOp .Or (b :: es) pos) q) : VW X (.BoolOp .Or (a :: b :: es) pos) (qOr p q) := PW.imp (pw_or h h2) fun σ H Q ⟨S, fr, c, S', h, e, k⟩ => by
  obtain ⟨⟨x, S1⟩, e1, e2⟩ := Option.bind_eq_some_iff.mp e
  refine ⟨S, fr, x, S1, h, e1, fun H1 h1 => ?_⟩
  cases x with
  | false => exact iteF ⟨S1, fr, c, S', h1, by simpa using e2, k⟩
  | true =>
    have z : (true, S1) = (c, S') := by simpa using e2
    cases z
    exact iteT (k _ h1)
theorem vt_w {p : MT} (h : VW X e p) : VT X e p := PW.pt h
theorem vt_not {p : MT} (h : VT X a p) : VT X (.UnaryOp .Not a pos) (qNot p) := PT.imp (pt_not h) fun σ H Q ⟨S, fr, c, S', h, e, k⟩ => by
  obtain ⟨⟨x, S1⟩, e1, e2⟩ := Option.bind_eq_some_iff.mp e
  have z : (!x, S1) = (c, S') := by simpa using e2
  cases z
  exact ⟨S, fr, _, _, h, e1, k⟩
def eIf (t : MT) (p q : ME) : ME := fun S => (t S).bind fun x => if x.1 = true then p x.2 else q x.2
theorem ve_if {t : MT} {p q : ME} (ht : VT X c t) (h1 : VE X a p) (h2 : VE X b q) : VE X (.IfExp c a b pos) (eIf t p q) := PE.imp (pe_ifExp ht h1 h2) fun σ H Q ⟨S, fr, d, S', h, e, k⟩ => by
  obtain ⟨⟨x, S1⟩, e1, e2⟩ := Option.bind_eq_some_iff.mp e
  refine ⟨S, fr, x, S1, h, e1, fun H1 h1 => ?_⟩
  cases x with
  | true => exact iteT ⟨S1, fr, d, S', h1, by simpa using e2, k⟩
  | false => exact iteF ⟨S1, fr, d, S', h1, by simpa using e2, k⟩

/-! ### children -/
/-- the child at i -/
def kid (t : T) (i : Int) : Option T := match t with
  | .sh (.lst ds) => (atI ds i).map .sh
  | .sh (.tup ds) => (atI ds i).map .sh
  | .sh (.str z) => if lenOk z = true then (atI z.cps.toList i).map fun c => .sh (.str ⟨#[c]⟩) else none
  | .sh _ => none
  | .lst ts => atI ts i
  | .tup ts => atI ts i
  | .ob _ _ _ => none
  | .dct _ _ => none
  | .pin _ _ => none
def isSh : T → Bool
  | .sh _ => true
  | _ => false
theorem isSh_eq {t : T} (h : isSh t = true) : t = .sh (fz t) := by
  cases t with
  | sh d => rfl
  | _ => cases h
theorem Owns.get {K : PySem.W.Frag} {G H : Hp} : ∀ {ts : List T} {vs : List V} {fp : List Addr} {i : Nat} {t : T}, Owns K G H vs ts fp → ts[i]? = some t → ∃ v f, vs[i]? = some v ∧ Own K G H v t f
  | [], _, _, _, _, _, h => by simp at h
  | _ :: _, [], _, _, _, h, _ => h.elim
  | u :: ts, v :: vs, fp, 0, t, h, h' => by
    have z : u = t := by simpa using h'
    subst z
    obtain ⟨f, g, _, h1, _⟩ := h
    exact ⟨v, f, rfl, h1⟩
  | u :: ts, v :: vs, fp, i + 1, t, h, h' => by
    obtain ⟨f, g, _, _, h2⟩ := h
    obtain ⟨w, f', h3, h4⟩ := Owns.get (i := i) h2 (by simpa using h')
    exact ⟨w, f', by simpa using h3, h4⟩
theorem Owns.atI {K : PySem.W.Frag} {G H : Hp} {ts : List T} {vs : List V} {fp : List Addr} {i : Int} {t : T} (h : Owns K G H vs ts fp) (h' : L2.atI ts i = some t) : ∃ v f, L2.atI vs i = some v ∧ Own K G H v t f := by
  obtain ⟨j, h1, h2⟩ := Option.bind_eq_some_iff.mp h'
  obtain ⟨v, f, h3, h4⟩ := h.get h2
  refine ⟨v, f, ?_, h4⟩
  unfold L2.atI
  rw [h.length, h1]
  exact h3
/-- what reading a place of a value asks -/
def IxAt (K : PySem.W.Frag) (H : Hp) (x : V) (i : Int) (w : V) : Prop :=
  (∃ a vs, x = .ref a ∧ (SqL K H a vs ∨ SqT K H a vs) ∧ atI vs i = some w) ∨ ∃ z c, x = .str z ∧ z.length ≤ sizeLine ∧ atI z.cps.toList i = some c ∧ w = .str ⟨#[c]⟩
theorem IxAt.rIx {K : PySem.W.Frag} {H : Hp} {x : V} {i : Int} {w : V} {Q : VK} (h : IxAt K H x i w) (q : Q w H) : L2.rIx K x (.int i) H Q := by
  rcases h with ⟨a, vs, rfl, (k | k), e⟩ | ⟨z, c, rfl, l, e, rfl⟩
  · exact .inl ⟨a, vs, i, w, rfl, rfl, k, e, q⟩
  · exact .inr (.inl ⟨a, vs, i, w, rfl, rfl, k, e, q⟩)
  · exact .inr (.inr ⟨z, i, c, rfl, rfl, l, e, q⟩)
/-- a shared child is read, the tree stays -/
theorem At.peek {K : PySem.W.Frag} {H : Hp} {v : V} {t : T} {i : Int} {d : D} {ps : Ps} (h : At K H ((v, t) :: ps)) (e : kid t i = some (.sh d)) : ∃ w, IxAt K H v i w ∧ At K H ((w, .sh d) :: (v, t) :: ps) := by
  cases t with
  | sh d0 =>
    obtain ⟨G, fp, s, ⟨f, g, rfl, ⟨rfl, o1⟩, o2⟩, n, e0, x⟩ := h
    cases d0 with
    | lst ds =>
      obtain ⟨a, vs, rfl, k, rs⟩ := o1
      obtain ⟨d', e1, e2⟩ := Option.map_eq_some_iff.mp (show (L2.atI ds i).map T.sh = some (.sh d) from e)
      cases e2
      obtain ⟨w, e3, rw'⟩ := rs.atI e1
      exact ⟨w, .inl ⟨a, vs, rfl, .inl (s.seq k), e3⟩, G, _, s, ⟨[], _, rfl, ⟨rfl, rw'⟩, [], g, rfl, ⟨rfl, a, vs, rfl, k, rs⟩, o2⟩, n, e0, x⟩
    | tup ds =>
      obtain ⟨a, vs, rfl, k, rs⟩ := o1
      obtain ⟨d', e1, e2⟩ := Option.map_eq_some_iff.mp (show (L2.atI ds i).map T.sh = some (.sh d) from e)
      cases e2
      obtain ⟨w, e3, rw'⟩ := rs.atI e1
      exact ⟨w, .inl ⟨a, vs, rfl, .inr (Same.sqT s k), e3⟩, G, _, s, ⟨[], _, rfl, ⟨rfl, rw'⟩, [], g, rfl, ⟨rfl, a, vs, rfl, k, rs⟩, o2⟩, n, e0, x⟩
    | str z =>
      unfold kid at e
      simp only at e
      split at e
      · rename_i hl
        obtain ⟨c, e1, e2⟩ := Option.map_eq_some_iff.mp e
        cases e2
        exact ⟨.str ⟨#[c]⟩, .inr ⟨z, c, o1, lenOk_iff.mp hl, e1, rfl⟩, G, _, s, ⟨[], _, rfl, ⟨rfl, rfl⟩, [], g, rfl, ⟨rfl, o1⟩, o2⟩, n, e0, x⟩
      · cases e
    | _ => cases e
  | lst ts =>
    obtain ⟨G, fp, s, ⟨f, g, rfl, o1, o2⟩, n, e0, x⟩ := h
    obtain ⟨a, vs, f', rfl, rfl, ha, os⟩ := id o1
    obtain ⟨w, f2, e3, rw'⟩ := os.atI (show L2.atI ts i = some (.sh d) from e)
    exact ⟨w, .inl ⟨a, vs, rfl, .inl (.of ha), e3⟩, G, _, s, ⟨[], _, rfl, ⟨rfl, rw'.2⟩, _, g, rfl, o1, o2⟩, n, e0, x⟩
  | tup ts =>
    obtain ⟨G, fp, s, ⟨f, g, rfl, o1, o2⟩, n, e0, x⟩ := h
    obtain ⟨a, vs, f', rfl, rfl, ha, os⟩ := id o1
    obtain ⟨w, f2, e3, rw'⟩ := os.atI (show L2.atI ts i = some (.sh d) from e)
    exact ⟨w, .inl ⟨a, vs, rfl, .inr (.of ha), e3⟩, G, _, s, ⟨[], _, rfl, ⟨rfl, rw'.2⟩, _, g, rfl, o1, o2⟩, n, e0, x⟩
  | ob _ _ _ => cases e
  | dct _ _ => cases e
  | pin _ _ => cases e
/-- o[i], o a value of its own -/
def eIx (ma mb : ME) : ME := fun S => (ma S).bind fun p => (mb p.2).bind fun q => match fz q.1 with
  | .int i => (kid p.1 i).bind fun t => if isSh t = true then some (t, q.2) else none
  | _ => none
theorem ve_ix {ma mb : ME} (ha : VE X a ma) (hb : VE X b mb) (hs : PlainIx b := by exact fun _ _ => rfl) : VE X (.Subscript a b pos) (eIx ma mb) := PE.imp (pe_ix ix_seq ha hb hs) fun σ H Q ⟨S, fr, t, S', h, e, q⟩ => by
  obtain ⟨⟨ta, S1⟩, e1, e⟩ := Option.bind_eq_some_iff.mp e
  obtain ⟨⟨tb, S2⟩, e2, e⟩ := Option.bind_eq_some_iff.mp e
  refine ⟨S, fr, ta, S1, h, e1, fun v H1 h1 => ⟨S1, (v, ta) :: fr, tb, S2, h1, e2, fun u H2 h2 => ?_⟩⟩
  simp only at e
  split at e
  · rename_i i ei
    obtain ⟨t', e3, e⟩ := Option.bind_eq_some_iff.mp e
    split at e
    · rename_i hsh
      obtain ⟨rfl, rfl⟩ : t' = t ∧ S2 = S' := by simpa using e
      have ru := h2.rep
      rw [ei] at ru
      rw [isSh_eq hsh] at e3 q
      obtain ⟨w, ix, k⟩ := At.peek (h2.drop1.at1) e3
      rw [show u = .int i from ru]
      exact ix.rIx (q w H2 ((AtS.of h2.1 k : AtS X.K H2 σ S2 ((w, .sh (fz t')) :: (v, ta) :: fr)).sub (Sub.refl.skip.cons)))
    · cases e
  · cases e
/-- x[i], x a name -/
def eIxN (j : Nat) (mb : ME) : ME := fun S => match S[j]? with
  | some (some _) => (mb S).bind fun q => match q.2[j]? with
    | some (some t0) => (match fz q.1 with
      | .int i => (kid t0 i).bind fun t => if isSh t = true then some (t, q.2) else none
      | _ => none)
    | _ => none
  | _ => none
theorem ve_ixN (j : Nat) {x : Str} {px : Pos} {mb : ME} (hb : VE X b mb) (hs : PlainIx b := by exact fun _ _ => rfl) (hN : X.N[j]? = some x := by rfl) (hv : Vis X.env.scope x := by first | exact Or.inl rfl | exact Or.inr (Or.inl rfl) | exact Or.inr (Or.inr rfl)) (hd : (x == ("__debug__" : Str)) = false := by decide)
    (hcd : (x == ("__classdict__" : Str)) = false := by decide) : VE X (.Subscript (.Name x px) b pos) (eIxN j mb) := PE.imp (pe_ix ix_seq (pe_var hN hv hd hcd) hb hs) fun σ H Q ⟨S, fr, t, S', h, e, q⟩ => by
  unfold eIxN at e
  split at e
  · rename_i t1 e0
    obtain ⟨⟨tb, S2⟩, e2, e⟩ := Option.bind_eq_some_iff.mp e
    obtain ⟨v, hv, _⟩ := h.take e0
    refine ⟨v, hv, S, fr, tb, S2, h, e2, fun u H2 h2 => ?_⟩
    simp only at e
    split at e
    · rename_i t0 e4
      split at e
      · rename_i i ei
        obtain ⟨t', e3, e⟩ := Option.bind_eq_some_iff.mp e
        split at e
        · rename_i hsh
          obtain ⟨rfl, rfl⟩ : t' = t ∧ S2 = S' := by simpa using e
          have ru := h2.rep
          rw [ei] at ru
          rw [isSh_eq hsh] at e3 q
          obtain ⟨v', hv', k⟩ := h2.take e4
          rw [hv] at hv'
          cases hv'
          obtain ⟨w, ix, k2⟩ := At.peek k.at1 e3
          rw [show u = .int i from ru]
          have k3 : AtS X.K H2 σ (S2.set j none) ((v, t0) :: (w, .sh (fz t')) :: fr) := (AtS.of k.1 k2 : AtS X.K H2 σ (S2.set j none) ((w, .sh (fz t')) :: (v, t0) :: (u, tb) :: fr)).sub ⟨[(u, tb)], (List.Perm.swap ..).trans (List.perm_middle (l₁ := [(v, t0), (w, T.sh (fz t'))]))⟩
          have k4 := k3.back hv
          rw [List.set_set, set_at e4] at k4
          exact ix.rIx (q w H2 k4)
        · cases e
      · cases e
    · cases e
  · cases e

/-! ### argument lists -/
/-- which of the values are those of moved slots -/
def Mvd (σ : St) : List (Option Nat) → List V → Prop
  | [], [] => True
  | some i :: ms, v :: vs => σ[i]? = some (some v) ∧ Mvd σ ms vs
  | none :: ms, _ :: vs => Mvd σ ms vs
  | _, _ => False
def tVA' (K : PySem.W.Frag) (ms : List (Option Nat)) (m : MA) : TA := fun σ H Q => ∃ S fr ts S', AtS K H σ S fr ∧ m S = some (ts, S') ∧ ∀ vs H', Mvd σ ms vs → vs.length = ts.length → AtS K H' σ S' (vs.zip ts ++ fr) → Q vs H'
abbrev VM (X : Cx) (es : List Expr) (ms : List (Option Nat)) (m : MA) : Prop := PA X es (tVA' X.K ms m)
def aNil : MA := fun S => some ([], S)
theorem va_nil : VM X [] [] aNil := PA.imp pa_nil fun σ H Q ⟨S, fr, ts, S', h, e, q⟩ => by
  cases e
  exact q [] H trivial rfl h
def aCons (m : ME) (r : MA) : MA := fun S => (m S).bind fun p => (r p.2).bind fun q => some (p.1 :: q.1, q.2)
theorem va_cons {ms : List (Option Nat)} {m : ME} {r : MA} (h : VE X e m) (hr : VM X es ms r) (hs : starEach (e :: es) X.env = (false, eval e X.env) :: starEach es X.env := by rfl) : VM X (e :: es) (none :: ms) (aCons m r) :=
  PA.imp (pa_cons h hr hs) fun σ H Q ⟨S, fr, ts, S', h, e, q⟩ => by
    obtain ⟨⟨t, S1⟩, e1, e⟩ := Option.bind_eq_some_iff.mp e
    obtain ⟨⟨us, S2⟩, e2, e⟩ := Option.bind_eq_some_iff.mp e
    cases e
    refine ⟨S, fr, t, S1, h, e1, fun v H1 h1 => ⟨S1, (v, t) :: fr, us, S2, h1, e2, fun vs H2 m2 l2 h2 => q (v :: vs) H2 m2 (congrArg (· + 1) l2) (h2.perm List.perm_middle)⟩⟩
/-- a name, its tree taken when all the others are reckoned -/
def aMv (i : Nat) (r : MA) : MA := fun S => match S[i]? with
  | some (some _) => (r S).bind fun q => match q.2[i]? with
    | some (some t) => some (t :: q.1, q.2.set i none)
    | _ => none
  | _ => none
theorem va_mv (i : Nat) {x : Str} {ms : List (Option Nat)} {r : MA} (hr : VM X es ms r) (hN : X.N[i]? = some x := by rfl) (hv : Vis X.env.scope x := by first | exact Or.inl rfl | exact Or.inr (Or.inl rfl) | exact Or.inr (Or.inr rfl)) (hd : (x == ("__debug__" : Str)) = false := by decide)
    (hcd : (x == ("__classdict__" : Str)) = false := by decide) (hs : starEach (.Name x pos :: es) X.env = (false, eval (.Name x pos) X.env) :: starEach es X.env := by rfl) : VM X (.Name x pos :: es) (some i :: ms) (aMv i r) :=
  PA.imp (pa_cons (pe_var hN hv hd hcd) hr hs) fun σ H Q ⟨S, fr, ts, S', h, e, q⟩ => by
    unfold aMv at e
    split at e
    · rename_i t1 e0
      obtain ⟨⟨us, S2⟩, e2, e⟩ := Option.bind_eq_some_iff.mp e
      simp only at e
      split at e
      · rename_i t e3
        cases e
        obtain ⟨v, hv, _⟩ := h.take e0
        refine ⟨v, hv, S, fr, us, S2, h, e2, fun vs H2 m2 l2 h2 => ?_⟩
        obtain ⟨v', hv', k⟩ := h2.take e3
        rw [hv] at hv'
        cases hv'
        exact q (v :: vs) H2 ⟨hv, m2⟩ (congrArg (· + 1) l2) k
      · cases e
    · cases e

/-! ### calls of defs -/
/-- what a def computes: the result, what the arguments have become -/
abbrev Fn := List T → Option (T × List (Option T))
def spV (K : PySem.W.Frag) (n : Nat) (m : Fn) : Sp := fun vs H Q _ => ∃ ts fr r ts', vs.length = n ∧ ts.length = n ∧ At K H (vs.zip ts ++ fr) ∧ m ts = some (r, ts') ∧ ts'.length = n ∧ ∀ v H', At K H' ((v, r) :: prs (vs.map some) ts' ++ fr) → Q v H'
structure Good (P : Program) (w : World) (K : PySem.W.Frag) (mg : Str → Option Value) (base : Heap) (x : Str) (k : Nat) (ps : List Str) (m : Fn) : Prop where
  ex : ∃ f fd, mg x = some (.ref f) ∧ PySem.W.keepIn K (.ref f) = true ∧ Binds K fd ps [] ∧ FnG P w K mg base k f fd ps (spV K ps.length m)
def putB : List (Option Nat) → List (Option T) → Sto → Sto
  | some i :: ms, some t :: ts, S => putB ms ts (S.set i (some t))
  | _ :: ms, _ :: ts, S => putB ms ts S
  | _, _, S => S
theorem AtS.putB {K : PySem.W.Frag} {H : Hp} {σ : St} {fr : Ps} : ∀ {ms : List (Option Nat)} {vs : List V} {ts : List (Option T)} {S : Sto}, Mvd σ ms vs → AtS K H σ S (prs (vs.map some) ts ++ fr) → AtS K H σ (VS.putB ms ts S) fr
  | [], [], ts, S, _, h => by
    cases ts <;> exact h
  | some i :: ms, v :: vs, [], S, _, h => h
  | none :: ms, v :: vs, [], S, _, h => h
  | some i :: ms, v :: vs, some t :: ts, S, m, h => AtS.putB (ms := ms) (vs := vs) (ts := ts) m.2 (AtS.back (show AtS K H σ S ((v, t) :: (prs (vs.map some) ts ++ fr)) from h) m.1)
  | some i :: ms, v :: vs, none :: ts, S, m, h => AtS.putB (ms := ms) (vs := vs) (ts := ts) m.2 h
  | none :: ms, v :: vs, some t :: ts, S, m, h => AtS.putB (ms := ms) (vs := vs) (ts := ts) m (AtS.drop1 (show AtS K H σ S ((v, t) :: (prs (vs.map some) ts ++ fr)) from h))
  | none :: ms, v :: vs, none :: ts, S, m, h => AtS.putB (ms := ms) (vs := vs) (ts := ts) m h
  | [], _ :: _, _, _, m, _ => m.elim
  | some _ :: _, [], _, _, m, _ => m.elim
  | none :: _, [], _, _, m, _ => m.elim
theorem Mvd.length {σ : St} : ∀ {ms : List (Option Nat)} {vs : List V}, Mvd σ ms vs → ms.length = vs.length
  | [], [], _ => rfl
  | some _ :: ms, _ :: vs, h => congrArg (· + 1) (Mvd.length h.2)
  | none :: ms, _ :: vs, h => congrArg (· + 1) (Mvd.length (ms := ms) (vs := vs) h)
  | [], _ :: _, h => h.elim
  | some _ :: _, [], h => h.elim
  | none :: _, [], h => h.elim
def eCall (f : Fn) (ms : List (Option Nat)) (ma : MA) : ME := fun S => (ma S).bind fun p => (f p.1).bind fun r => if r.2.length = ms.length then some (r.1, putB ms r.2 p.2) else none
theorem call_imp' {f : Fn} {ms : List (Option Nat)} {ma : MA} {n : Nat} {σ : St} {H : Hp} {Q : VK} (hn : ms.length = n) (h : tV X.K (eCall f ms ma) σ H Q) : tCall (spV X.K n f) [] E0 (tVA' X.K ms ma) σ H Q := by
  obtain ⟨S, fr, t, S', h, e, q⟩ := h
  obtain ⟨⟨ts, S1⟩, e1, e⟩ := Option.bind_eq_some_iff.mp e
  obtain ⟨⟨r, ts'⟩, e2, e⟩ := Option.bind_eq_some_iff.mp e
  simp only at e
  split at e
  · rename_i hl
    obtain ⟨rfl, rfl⟩ : r = t ∧ putB ms ts' S1 = S' := by simpa using e
    refine ⟨S, fr, ts, S1, h, e1, fun vs H1 mv l1 h1 => ?_⟩
    have l2 := mv.length
    show spV X.K n f (vs ++ []) H1 Q E0
    rw [List.append_nil]
    refine ⟨ts, fr ++ prs σ S1, r, ts', l2.symm.trans hn, l1.symm.trans (l2.symm.trans hn), ?_, e2, hl.trans hn, fun v H2 h2 => q v H2 ?_⟩
    · have k := h1.front
      rw [List.append_assoc] at k
      exact k
    · have k : AtS X.K H2 σ S1 ((v, r) :: (prs (vs.map some) ts' ++ fr)) := AtS.of h1.1 (by
        have z : (v, r) :: prs (vs.map some) ts' ++ (fr ++ prs σ S1) = (v, r) :: (prs (vs.map some) ts' ++ fr) ++ prs σ S1 := by simp
        rw [← z]
        exact h2)
      exact AtS.putB (fr := (v, r) :: fr) mv (k.perm List.perm_middle.symm)
  · cases e
theorem ve_call {x : Str} {k : Nat} {ps : List Str} {f : Fn} {ms : List (Option Nat)} {ma : MA} {p : Pos} (F : Good X.prog X.w X.K X.mg X.base x k ps f) (hr : RoomG k X.A) (ha : VM X (e :: es) ms ma) (hn : ms.length = ps.length := by rfl) (hx : X.xe = fun _ _ => False := by rfl) (hg : Gl X x := by rfl)
    (hdb : (x == ("__debug__" : Str)) = false := by decide) (he : starEach (e :: es) X.env = (false, eval e X.env) :: starEach es X.env := by rfl) (hpl : (backTo pos (starEach es X.env)).any (·.1) = false := by rfl) : VE X (.Call (.Name x p) (e :: es) [] pos) (eCall f ms ma) := by
  obtain ⟨a, fd, hm, hk, hb, F⟩ := F.ex
  exact PE.imp (pe_callG F hr hg hm hk hb ha hdb he hpl) fun σ H Q h => call_imp' hn h
theorem ve_call0 {x : Str} {k : Nat} {f : Fn} {p : Pos} (F : Good X.prog X.w X.K X.mg X.base x k [] f) (hr : RoomG k X.A) (hg : Gl X x := by rfl) (hdb : (x == ("__debug__" : Str)) = false := by decide) : VE X (.Call (.Name x p) [] [] pos) (eCall f [] aNil) := by
  obtain ⟨a, fd, hm, hk, hb, F⟩ := F.ex
  refine PE.imp (pe_callG0 F hr hg hm hk hb hdb) fun σ H Q h => ?_
  have k := call_imp' (n := 0) rfl h
  obtain ⟨S, fr, ts, S', h1, e, q⟩ := k
  cases e
  exact q [] H trivial rfl h1

/-! ### displays -/
theorem AtS.kidsAt {K : PySem.W.Frag} {H : Hp} {σ : St} {S : Sto} {fr : Ps} {vs : List V} {ts : List T} (h : AtS K H σ S (vs.zip ts ++ fr)) : At K H (vs.zip ts ++ (fr ++ prs σ S)) := by
  have k := h.front
  rw [List.append_assoc] at k
  exact k
def eLst (ma : MA) : ME := fun S => (ma S).bind fun p => if p.1.length ≤ 1000 then some (.lst p.1, p.2) else none
theorem le1000 {n : Nat} (h : n ≤ 1000) : n ≤ sizeLine := Nat.le_trans h (by decide)
theorem ve_lst {ms : List (Option Nat)} {ma : MA} (ha : VM X es ms ma) : VE X (.List es pos) (eLst ma) := PE.imp (pe_lst ha) fun σ H Q ⟨S, fr, t, S', h, e, q⟩ => by
  obtain ⟨⟨ts, S1⟩, e1, e⟩ := Option.bind_eq_some_iff.mp e
  split at e
  · rename_i hl
    cases e
    exact ⟨S, fr, ts, S1, h, e1, fun vs H1 _ l1 h1 => ⟨by rw [l1]; exact le1000 hl, fun p hp => q _ _ (AtS.of h1.1 (h1.kidsAt.newL l1 hp))⟩⟩
  · cases e
/-- a tuple of shared children is shared -/
def mkTup (ts : List T) : T := if shAll ts = true then .sh (.tup (fzL ts)) else .tup ts
def eTup (ma : MA) : ME := fun S => (ma S).bind fun p => if p.1.length ≤ 1000 then some (mkTup p.1, p.2) else none
theorem ve_tup {ms : List (Option Nat)} {ma : MA} {x1} (ha : VM X es ms ma) : VE X (.Tuple es x1 pos) (eTup ma) := PE.imp (pe_tup ha) fun σ H Q ⟨S, fr, t, S', h, e, q⟩ => by
  obtain ⟨⟨ts, S1⟩, e1, e⟩ := Option.bind_eq_some_iff.mp e
  split at e
  · rename_i hl
    cases e
    refine ⟨S, fr, ts, S1, h, e1, fun vs H1 _ l1 h1 => ⟨by rw [l1]; exact le1000 hl, fun p hp => q _ _ ?_⟩⟩
    have k : AtS X.K _ σ S1 ((.ref p, .tup ts) :: fr) := AtS.of h1.1 (h1.kidsAt.newT l1 hp)
    unfold mkTup
    split
    · exact k.freeze
    · exact k
  · cases e
end
end VS
/-! VS: lists put together, statements, loops, comprehensions, defs. -/
namespace VS
open PySem PySem.Spec PyProof.Rows L2

/-! ### lists put together -/
section
variable {K : PySem.W.Frag} {H : Hp} {σ : St} {S : Sto} {fr ps : Ps}
def kidsL : T → Option (List T)
  | .lst ts => some ts
  | .sh (.lst ds) => some (ds.map .sh)
  | _ => none
theorem At.unl {v : V} {t : T} {ts : List T} (h : At K H ((v, t) :: ps)) (e : kidsL t = some ts) : ∃ a vs, v = .ref a ∧ SqL K H a vs ∧ vs.length = ts.length ∧ At K H (vs.zip ts ++ ps) := by
  cases t with
  | lst us =>
    have z : us = ts := by simpa [kidsL] using e
    subst z
    obtain ⟨a, vs, h1, h2, h3, h4⟩ := h.open
    exact ⟨a, vs, h1, .of h2, h3, h4.at⟩
  | sh d =>
    cases d with
    | lst ds =>
      have z : ds.map T.sh = ts := by simpa [kidsL] using e
      subst z
      obtain ⟨a, vs, h1, h2, h3, h4⟩ := h.kids
      exact ⟨a, vs, h1, h2, by rw [List.length_map]; exact h3, h4⟩
    | _ => cases e
  | _ => cases e
theorem At.append {v : V} {a : Addr} {t : T} {ts : List T} (h : At K H ((v, t) :: (.ref a, .lst ts) :: ps)) : ∃ vs, H a = some (.lst vs) ∧ vs.length = ts.length ∧ At K (upd H a (.lst (vs ++ [v]))) ((.ref a, .lst (ts ++ [t])) :: ps) := by
  obtain ⟨b, vs, h1, h2, h3, h4⟩ := (h.perm (.swap ..)).open
  cases h1
  refine ⟨vs, h2, h3, AtA.closeL ?_ (by simp [h3])⟩
  refine h4.perm ?_
  rw [List.zip_append h3]
  simp only [List.zip_cons_cons, List.zip_nil_right, List.append_assoc]
  exact .refl _
theorem At.setAt {v : V} {a : Addr} {t : T} {ts : List T} {j : Nat} (h : At K H ((v, t) :: (.ref a, .lst ts) :: ps)) (hj : j < ts.length) : ∃ vs, H a = some (.lst vs) ∧ vs.length = ts.length ∧ At K (upd H a (.lst (vs.set j v))) ((.ref a, .lst (ts.set j t)) :: ps) := by
  obtain ⟨b, vs, h1, h2, h3, h4⟩ := (h.perm (.swap ..)).open
  cases h1
  refine ⟨vs, h2, h3, AtA.closeL ?_ (by simp [h3])⟩
  have z : ∀ (j : Nat) (vs : List V) (ts : List T), j < ts.length → vs.length = ts.length → Sub ((vs.set j v).zip (ts.set j t)) ((v, t) :: vs.zip ts) := by
    intro j
    induction j with
    | zero =>
      intro vs ts h l
      cases vs with
      | nil => cases ts <;> simp at h l
      | cons w vs =>
        cases ts with
        | nil => simp at h
        | cons u ts => exact (Sub.refl.skip).cons
    | succ j ih =>
      intro vs ts h l
      cases vs with
      | nil => cases ts <;> simp at h l
      | cons w vs =>
        cases ts with
        | nil => simp at h
        | cons u ts => exact ((ih vs ts (by simpa using h) (by simpa using l)).cons).trans (Sub.of_perm (.swap ..))
  refine (h4.perm (qs := (v, t) :: vs.zip ts ++ ps) (List.perm_middle)).sub ((z j vs ts hj h3).append_right ps)
end

section
variable {X : Cx} {e a b c : Expr} {es : List Expr} {pos : Pos}
/-- two trees in, one out -/
def rT (K : PySem.W.Frag) (g : T → T → Option T) : R2 := fun x y H Q => ∃ tx ty ps t, At K H ((y, ty) :: (x, tx) :: ps) ∧ g tx ty = some t ∧ ∀ z H', At K H' ((z, t) :: ps) → Q z H'
def e2T (g : T → T → Option T) (ma mb : ME) : ME := fun S => (ma S).bind fun p => (mb p.2).bind fun q => (g p.1 q.1).bind fun t => some (t, q.2)
theorem ve_opT {op : Operator} {g : T → T → Option T} {ma mb : ME} (ho : OpR X (binaryOp op) (rT X.K g)) (ha : VE X a ma) (hb : VE X b mb) : VE X (.BinOp a op b pos) (e2T g ma mb) := PE.imp (pe_op ho ha hb) fun σ H Q ⟨S, fr, t, S', h, e, q⟩ => by
  obtain ⟨⟨ta, S1⟩, e1, e⟩ := Option.bind_eq_some_iff.mp e
  obtain ⟨⟨tb, S2⟩, e2, e⟩ := Option.bind_eq_some_iff.mp e
  obtain ⟨t', e3, e⟩ := Option.bind_eq_some_iff.mp e
  obtain ⟨rfl, rfl⟩ : t' = t ∧ S2 = S' := by simpa using e
  refine ⟨S, fr, ta, S1, h, e1, fun v H1 h1 => ⟨S1, (v, ta) :: fr, tb, _, h1, e2, fun u H2 h2 => ?_⟩⟩
  exact ⟨ta, tb, fr ++ prs σ S2, t', h2.front, e3, fun z H3 h3 => q z H3 (AtS.of h2.1 h3)⟩
def addT (x y : T) : Option T := match kidsL x, kidsL y with
  | some xs, some ys => if xs.length + ys.length ≤ sizeLine then some (.lst (xs ++ ys)) else none
  | _, _ => (dAdd (fz x) (fz y)).map .sh
theorem op_catSq : OpR X (binaryOp .Add) (fun x y H Q => ∃ l b xs zs, x = .ref l ∧ y = .ref b ∧ SqL X.K H l xs ∧ SqL X.K H b zs ∧ xs.length + zs.length ≤ sizeLine ∧ ∀ p, H p = none → Q (.ref p) (upd H p (.lst (xs ++ zs)))) := by
  intro pins s σ H x y v u Q I rx ry h
  obtain ⟨l, b, xs, zs, rfl, rfl, hH, hB, hz, q⟩ := h
  cases rx
  cases ry
  obtain ⟨its, r, ⟨⟨cls, dd, data, sl⟩, n, ho, hc, hdd, hd⟩, _⟩ := I.list hH
  obtain ⟨its2, r2, ⟨⟨cls2, dd2, data2, sl2⟩, n2, ho2, hc2, hdd2, hd2⟩, _⟩ := I.list hB
  simp only at hc hd hc2 hd2
  subst hc hd hc2 hd2
  have e : its.toArray ++ its2.toArray = (its ++ its2).toArray := by simp
  have e1 := r.length
  have e2 := r2.length
  refine concat_meets ⟨_, ho, rfl⟩ ⟨_, ho2, rfl⟩ noFill_list_add seq_list_add PySem.F.slot_list_add PySem.F.entry_list_add (PySem.F.args_list_add_2 _ _) (list_addW l b its.toArray its2.toArray n n2 dd dd2 sl sl2 (by rw [List.size_toArray, List.size_toArray]; omega)) ⟨ho, ho2, ?_⟩
  rw [e]
  exact ⟨.ref _, _, I.lnew (t' := s.toks) (r.append r2) (by rw [List.length_append]; omega), rfl, q _ I.fresh⟩
theorem dAdd_sc {x y d : D} (h : dAdd x y = some d) : sc d = true := by
  cases x with
  | int i =>
    cases y with
    | int j =>
      have z : D.int (i + j) = d := by simpa [dAdd] using h
      subst z
      rfl
    | _ => cases h
  | str i =>
    cases y with
    | str j =>
      simp only [dAdd] at h
      split at h
      · have z := Option.some.inj h
        subst z
        rfl
      · cases h
    | _ => cases h
  | _ => cases y <;> cases h
theorem ot_add : OpR X (binaryOp .Add) (rT X.K addT) := by
  intro pins s σ H x y v u Q I rx ry ⟨tx, ty, ps, t, h, e, q⟩
  unfold addT at e
  split at e
  · rename_i xs ys ex ey
    split at e
    · rename_i hl
      have z := Option.some.inj e
      subst z
      obtain ⟨b, vs2, rfl, k2, l2, h2⟩ := h.unl ey
      obtain ⟨a, vs1, rfl, k1, l1, h3⟩ := (h2.perm (qs := (x, tx) :: (vs2.zip ys ++ ps)) List.perm_middle).unl ex
      refine op_catSq pins s σ H _ _ v u Q I rx ry ⟨a, b, vs1, vs2, rfl, rfl, k1, k2, by rw [l1, l2]; exact hl, fun p hp => q _ _ (At.newL ?_ (by simp [l1, l2]) hp)⟩
      rw [List.zip_append l1, List.append_assoc]
      exact h3
    · cases e
  · obtain ⟨d, e1, e2⟩ := Option.map_eq_some_iff.mp e
    subst e2
    have r2 : Rep X.K H y (fz ty) := h.freeze.rep
    have r1 : Rep X.K H x (fz tx) := (h.perm (.swap ..)).freeze.rep
    exact od_add pins s σ H x y v u Q I rx ry ⟨_, _, d, r1, r2, e1, fun z rz => q z H ((h.tail.tail).new (scRep (dAdd_sc e1) rz))⟩
/-- list(e) -/
def eList (ma : MA) : ME := fun S => (ma S).bind fun p => match p.1 with
  | [t] => (items (fz t)).bind fun ds => some (.lst (ds.map .sh), p.2)
  | _ => none
theorem ve_list {m : MA} {ms : List (Option Nat)} {p : Pos} (ha : VM X [e] ms m) (hm : X.mg "list" = none) (hv : bootBuiltins "list" = some (.type "list") := by decide +kernel) (hg : Gl X "list" := by rfl)
    (he : starEach [e] X.env = (false, eval e X.env) :: starEach [] X.env := by rfl) (hpl : (backTo pos (starEach [] X.env)).any (·.1) = false := by rfl) : VE X (.Call (.Name "list" p) [e] [] pos) (eList m) :=
  PE.imp (pe_callTy call_list_of hg hm hv ha (by decide) (by decide) he hpl) fun σ H Q ⟨S, fr, t, S', h, e, q⟩ => by
    obtain ⟨⟨ts, S1⟩, e1, e⟩ := Option.bind_eq_some_iff.mp e
    refine ⟨S, fr, ts, S1, h, e1, fun vs H1 _ l1 h1 => ?_⟩
    simp only at e
    split at e
    · rename_i t0
      obtain ⟨ds, e2, e⟩ := Option.bind_eq_some_iff.mp e
      obtain ⟨rfl, rfl⟩ : T.lst (ds.map .sh) = t ∧ S1 = S' := by simpa using e
      cases vs with
      | nil => simp at l1
      | cons v vs =>
        cases vs with
        | cons _ _ => simp at l1
        | nil =>
          have h2 : AtS X.K H1 σ S1 ((v, .sh (fz t0)) :: fr) := AtS.freeze h1
          have fin : ∀ (a : Addr) (us : List V), us.length = ds.length → At X.K H1 (us.zip (ds.map T.sh) ++ (fr ++ prs σ S1)) → ∀ l, H1 l = none → Q (.ref l) (upd H1 l (.lst us)) := fun a us l2 k l hl => q _ _ (AtS.of h2.1 (k.newL (by rw [List.length_map]; exact l2) hl))
          cases hd : fz t0 with
          | lst xs =>
            rw [hd] at h2 e2
            have z : xs = ds := by simpa [items] using e2
            subst z
            obtain ⟨a, us, rfl, k, l2, h3⟩ := h2.at1.kids
            exact ⟨a, us, rfl, .inl k, fin a us l2 h3⟩
          | tup xs =>
            rw [hd] at h2 e2
            have z : xs = ds := by simpa [items] using e2
            subst z
            obtain ⟨a, us, rfl, k, l2, h3⟩ := h2.at1.kidsT
            exact ⟨a, us, rfl, .inr k, fin a us l2 h3⟩
          | _ =>
            rw [hd] at e2
            cases e2
    · cases e
/-- sep.join(e) -/
def strsD : List D → Option (List Str)
  | [] => some []
  | .str x :: ds => (strsD ds).map (x :: ·)
  | _ :: _ => none
def joinD (x y : D) : Option D := match x with
  | .str a => (items y).bind fun ds => (strsD ds).bind fun ys => if (ys.map (·.length)).sum + ys.length * a.length ≤ 16777216 then some (.str (Txt.join a ys)) else none
  | _ => none
theorem strsD_vals {K : PySem.W.Frag} {H : Hp} : ∀ {ds : List D} {vs : List V} {ys : List Str}, strsD ds = some ys → Reps K H vs ds → vs = ys.map V.str
  | [], [], ys, h, _ => by
    have z : ys = [] := by simpa [strsD] using h.symm
    rw [z] <;> rfl
  | d :: ds, v :: vs, ys, h, r => by
    cases d with
    | str x =>
      obtain ⟨zs, h1, h2⟩ := Option.map_eq_some_iff.mp (show (strsD ds).map (x :: ·) = some ys from h)
      subst h2
      rw [strsD_vals h1 r.2, show v = .str x from r.1] <;> rfl
    | _ => cases h
  | [], _ :: _, _, _, h => h.elim
  | _ :: _, [], _, _, h => h.elim
def e2M (g : D → D → Option D) (ma mb : ME) : ME := fun S => (ma S).bind fun p => (mb p.2).bind fun q => sD (g (fz p.1) (fz q.1)) q.2
theorem ve_join {apos : Pos} {ma mb : ME} (ha : VE X a ma) (hb : VE X b mb) (hs : starEach [b] X.env = [(false, eval b X.env)] := by rfl) (hbase : attributeBase a "join" X.env (eval a X.env) = eval a X.env := by rfl) (hline : (apos.endLine == pos.line) = true := by rfl) :
    VE X (.Call (.Attribute a "join" apos) [b] [] pos) (e2M joinD ma mb) := PE.imp (pe_join ha hb hs hbase hline) fun σ H Q ⟨S, fr, t, S', h, e, q⟩ => by
  obtain ⟨⟨ta, S1⟩, e1, e⟩ := Option.bind_eq_some_iff.mp e
  obtain ⟨⟨tb, S2⟩, e2, e⟩ := Option.bind_eq_some_iff.mp e
  obtain ⟨d, e3, hs, rfl, rfl⟩ := sD_some e
  have e4 : joinD (fz ta) (fz tb) = some d := e3
  cases hta : fz ta with
  | str x =>
    rw [hta] at e4
    obtain ⟨ds, e5, e6⟩ := Option.bind_eq_some_iff.mp (show ((items (fz tb)).bind fun ds => (strsD ds).bind fun ys => if (ys.map (·.length)).sum + ys.length * x.length ≤ 16777216 then some (.str (Txt.join x ys)) else none) = some d from e4)
    obtain ⟨ys, e7, e8⟩ := Option.bind_eq_some_iff.mp e6
    split at e8
    · rename_i hl
      have z := Option.some.inj e8
      subst z
      refine ⟨S, fr, ta, S1, h, e1, fun v H1 h1 => ⟨?_, S1, (v, ta) :: fr, tb, _, h1, e2, fun u H2 h2 => ?_⟩⟩
      · have r := h1.rep
        rw [hta] at r
        exact ⟨x, r⟩
      · obtain ⟨r1, r2⟩ := h2.reps2
        rw [hta] at r1
        obtain ⟨p, vs, rfl, k, rs⟩ := r2.ref e5
        have ev := strsD_vals e7 rs
        subst ev
        exact ⟨x, p, ys, r1, rfl, k, hl, q _ _ ((h2.drops [_, _]).new fun _ => rfl)⟩
    · cases e8
  | _ =>
    rw [hta] at e4
    cases e4
end

/-! ### statements -/
inductive Fl where
  | nx (S : Sto) | bk (S : Sto) | ct (S : Sto) | rt (t : T) (S : Sto)
abbrev MS := Sto → Option Fl
/-- slots outside as are as they were -/
structure Keep (as : List Nat) (σ σ' : St) : Prop where
  len : σ'.length = σ.length
  at_ : ∀ i, i ∉ as → σ'[i]? = σ[i]?
theorem Keep.refl {as : List Nat} {σ : St} : Keep as σ σ := ⟨rfl, fun _ _ => rfl⟩
theorem Keep.trans {as bs : List Nat} {σ σ1 σ2 : St} (h : Keep as σ σ1) (k : Keep bs σ1 σ2) : Keep (as ++ bs) σ σ2 := ⟨k.1.trans h.1, fun i hi => (k.2 i fun z => hi (List.mem_append_right _ z)).trans (h.2 i fun z => hi (List.mem_append_left _ z))⟩
theorem Keep.mono {as bs : List Nat} {σ σ1 : St} (h : Keep as σ σ1) (k : ∀ i ∈ as, i ∈ bs) : Keep bs σ σ1 := ⟨h.1, fun i hi => h.2 i fun z => hi (k i z)⟩
theorem Keep.set {i : Nat} {σ : St} {o : Option V} : Keep [i] σ (σ.set i o) := ⟨List.length_set .., fun j hj => List.getElem?_set_ne fun z => hj (by simp [z])⟩
def FlOk (K : PySem.W.Frag) (as : List Nat) (D : Ends) (σ : St) (fr : Ps) : Fl → Prop
  | .nx S => ∀ σ' H', Keep as σ σ' → AtS K H' σ' S fr → D.nx σ' H'
  | .bk S => ∀ σ' H', Keep as σ σ' → AtS K H' σ' S fr → D.bk σ' H'
  | .ct S => ∀ σ' H', Keep as σ σ' → AtS K H' σ' S fr → D.ct σ' H'
  | .rt t S => ∀ σ' v H', Keep as σ σ' → AtS K H' σ' S ((v, t) :: fr) → D.rt v H'
def tSt (K : PySem.W.Frag) (as : List Nat) (m : MS) : TS := fun D σ H => ∃ S fr f, AtS K H σ S fr ∧ m S = some f ∧ FlOk K as D σ fr f
abbrev VS (X : Cx) (as : List Nat) (st : Stmt) (m : MS) : Prop := PS X st (tSt X.K as m)
abbrev VSs (X : Cx) (as : List Nat) (st : List Stmt) (m : MS) : Prop := PSs X st (tSt X.K as m)
theorem FlOk.mono {K : PySem.W.Frag} {as bs : List Nat} {D : Ends} {σ : St} {fr : Ps} {f : Fl} (h : FlOk K bs D σ fr f) (k : ∀ i ∈ as, i ∈ bs) : FlOk K as D σ fr f := by
  cases f with
  | nx S => exact fun σ' H' q => h σ' H' (q.mono k)
  | bk S => exact fun σ' H' q => h σ' H' (q.mono k)
  | ct S => exact fun σ' H' q => h σ' H' (q.mono k)
  | rt t S => exact fun σ' v H' q => h σ' v H' (q.mono k)
/-- behind a first part -/
theorem FlOk.after {K : PySem.W.Frag} {as bs : List Nat} {D : Ends} {σ σ1 : St} {fr : Ps} {f : Fl} (h : FlOk K (as ++ bs) D σ fr f) (k : Keep as σ σ1) : FlOk K bs D σ1 fr f := by
  cases f with
  | nx S => exact fun σ' H' q => h σ' H' (k.trans q)
  | bk S => exact fun σ' H' q => h σ' H' (k.trans q)
  | ct S => exact fun σ' H' q => h σ' H' (k.trans q)
  | rt t S => exact fun σ' v H' q => h σ' v H' (k.trans q)
section
variable {X : Cx} {e a b c : Expr} {es : List Expr} {pos : Pos} {st : Stmt} {sts : List Stmt} {as bs : List Nat} {m m' : MS}
def sNext : MS := fun S => some (.nx S)
theorem vss_nil : VSs X [] [] sNext := PSs.imp pss_nil fun D σ H ⟨S, fr, f, h, e, q⟩ => by
  cases e
  exact q σ H .refl h
def sSeq (m m' : MS) : MS := fun S => (m S).bind fun f => match f with
  | .nx S1 => m' S1
  | f => some f
theorem vss_cons (h1 : VS X as st m) (h2 : VSs X bs sts m') : VSs X (as ++ bs) (st :: sts) (sSeq m m') := PSs.imp (pss_cons h1 h2) fun D σ H ⟨S, fr, f, h, e, q⟩ => by
  obtain ⟨f1, e1, e2⟩ := Option.bind_eq_some_iff.mp e
  refine ⟨S, fr, f1, h, e1, ?_⟩
  cases f1 with
  | nx S1 => exact fun σ' H' k h' => ⟨S1, fr, f, h', e2, q.after k⟩
  | bk S1 =>
    cases e2
    exact FlOk.mono (f := .bk S1) q fun i hi => List.mem_append_left _ hi
  | ct S1 =>
    cases e2
    exact FlOk.mono (f := .ct S1) q fun i hi => List.mem_append_left _ hi
  | rt t S1 =>
    cases e2
    exact FlOk.mono (f := .rt t S1) q fun i hi => List.mem_append_left _ hi
theorem vss_one (h : VS X as st m) : VSs X as [st] m := pss_one h
theorem vs_pass : VS X [] (.Pass pos) sNext := PS.imp ps_pass fun D σ H ⟨S, fr, f, h, e, q⟩ => by
  cases e
  exact q σ H .refl h
def sBreak : MS := fun S => some (.bk S)
def sCont : MS := fun S => some (.ct S)
theorem vs_break : VS X [] (.Break pos) sBreak := PS.imp ps_break fun D σ H ⟨S, fr, f, h, e, q⟩ => by
  cases e
  exact q σ H .refl h
theorem vs_continue : VS X [] (.Continue pos) sCont := PS.imp ps_continue fun D σ H ⟨S, fr, f, h, e, q⟩ => by
  cases e
  exact q σ H .refl h
def sRet (m : ME) : MS := fun S => (m S).bind fun p => some (.rt p.1 p.2)
theorem vs_ret {m : ME} (he : VE X e m) : VS X [] (.Return (some e) pos) (sRet m) := PS.imp (ps_ret he) fun D σ H ⟨S, fr, f, h, e, q⟩ => by
  obtain ⟨⟨t, S1⟩, e1, e2⟩ := Option.bind_eq_some_iff.mp e
  cases e2
  exact ⟨S, fr, t, S1, h, e1, fun v H' h' => q σ v H' .refl h'⟩
def sRetN : MS := fun S => some (.rt (.sh .non) S)
theorem vs_retN : VS X [] (.Return none pos) sRetN := PS.imp ps_retN fun D σ H ⟨S, fr, f, h, e, q⟩ => by
  cases e
  exact q σ _ H .refl (h.new fun _ => rfl)
def sIf (t : MT) (m m' : MS) : MS := fun S => (t S).bind fun x => if x.1 = true then m x.2 else m' x.2
theorem vs_if {t : MT} {s1 s2 : List Stmt} (hc : VT X c t) (h1 : VSs X as s1 m) (h2 : VSs X bs s2 m') : VS X (as ++ bs) (.If c s1 s2 pos) (sIf t m m') := PS.imp (ps_if hc h1 h2) fun D σ H ⟨S, fr, f, h, e, q⟩ => by
  obtain ⟨⟨x, S1⟩, e1, e2⟩ := Option.bind_eq_some_iff.mp e
  refine ⟨S, fr, x, S1, h, e1, fun H1 h1 => ?_⟩
  cases x with
  | true => exact iteT ⟨S1, fr, f, h1, by simpa using e2, q.mono fun i hi => List.mem_append_left _ hi⟩
  | false => exact iteF ⟨S1, fr, f, h1, by simpa using e2, q.mono fun i hi => List.mem_append_right _ hi⟩
/-- a statement never reached -/
def sNever : MS := fun _ => none
theorem vs_never : VS X [] st sNever := PS.imp ps_never fun D σ H ⟨S, fr, f, h, e, q⟩ => nomatch e
def sDrop (m : ME) : MS := fun S => (m S).bind fun p => some (.nx p.2)
theorem vs_expr {m : ME} (he : VE X e m) (hs : swapsWith e none pos.line X.env = pure false := by rfl) : VS X [] (.Expr e pos) (sDrop m) := PS.imp (ps_expr he hs) fun D σ H ⟨S, fr, f, h, e, q⟩ => by
  obtain ⟨⟨t, S1⟩, e1, e2⟩ := Option.bind_eq_some_iff.mp e
  cases e2
  exact ⟨S, fr, t, S1, h, e1, fun v H' h' => q σ H' .refl h'.drop1⟩

/-! ### targets -/
def putS (i : Nat) (t : T) (S : Sto) : Option Sto := if i < S.length then some (S.set i (some t)) else none
theorem putS_some {i : Nat} {t : T} {S S' : Sto} (h : putS i t S = some S') : i < S.length ∧ S' = S.set i (some t) := by
  unfold putS at h
  split at h
  · rename_i hi
    exact ⟨hi, (Option.some.inj h).symm⟩
  · cases h
def gV (K : PySem.W.Frag) (as : List Nat) (g : T → Sto → Option Sto) : TG := fun v σ H Q => ∃ S fr t S', AtS K H σ S ((v, t) :: fr) ∧ g t S = some S' ∧ ∀ σ', Keep as σ σ' → AtS K H σ' S' fr → Q σ' H
theorem PG.imp {tg : Expr} {t t' : TG} (h : PG X tg t) (i : ∀ v σ H Q, t' v σ H Q → t v σ H Q) : PG X tg t' := ⟨fun pins s σ H v u Q I r q => h.run pins s σ H v u Q I r (i v σ H Q q)⟩
abbrev VG (X : Cx) (as : List Nat) (tg : Expr) (g : T → Sto → Option Sto) : Prop := PG X tg (gV X.K as g)
theorem vg_name (i : Nat) {x : Str} (hN : X.N.Nodup) (hi : X.N[i]? = some x := by rfl) (hx : Loc X.env.scope x := by first | exact Or.inl rfl | exact Or.inr rfl) (hf : X.fn x = true ∨ X.env.scope.names.lookup x = some .local := by first | exact .inl rfl | exact .inr rfl | assumption) : VG X [i] (.Name x pos) (putS i) :=
  PG.imp (pg_name hN hi hx hf) fun v σ H Q ⟨S, fr, t, S', h, e, q⟩ => by
    obtain ⟨hi, rfl⟩ := putS_some e
    exact q _ .set (h.put hi)
def sAsg (m : ME) (g : T → Sto → Option Sto) : MS := fun S => (m S).bind fun p => (g p.1 p.2).bind fun S' => some (.nx S')
theorem vs_asg {tg : Expr} {me : ME} {g : T → Sto → Option Sto} (he : VE X e me) (hg : VG X as tg g) (hs : swapsWithSole [tg] e pos.line X.env = pure false := by rfl) (hw : swappedStores [tg] e X.env = pure none := by rfl)
    (h1 : (assignEach [tg] X.env).map (·.2) = [assign tg X.env] := by rfl) : VS X as (.Assign [tg] e pos) (sAsg me g) := PS.imp (ps_asg he hg hs hw h1) fun D σ H ⟨S, fr, f, h, e, q⟩ => by
  obtain ⟨⟨t, S1⟩, e1, e⟩ := Option.bind_eq_some_iff.mp e
  obtain ⟨S2, e2, e⟩ := Option.bind_eq_some_iff.mp e
  cases e
  exact ⟨S, fr, t, S1, h, e1, fun v H' h' => ⟨S1, fr, t, S2, h', e2, fun σ' k h2 => q σ' H' k h2⟩⟩
theorem vs_set (i : Nat) {x : Str} {px : Pos} {me : ME} (hN : X.N.Nodup) (he : VE X e me) (hi : X.N[i]? = some x := by rfl) (hx : Loc X.env.scope x := by first | exact Or.inl rfl | exact Or.inr rfl) (hs : swapsWith e (some (.Name x px)) pos.line X.env = pure false := by rfl)
    (hf : X.fn x = true ∨ X.env.scope.names.lookup x = some .local := by first | exact .inl rfl | exact .inr rfl | assumption) : VS X [i] (.Assign [.Name x px] e pos) (sAsg me (putS i)) := PS.imp (ps_set hN hi hx he hs hf) fun D σ H ⟨S, fr, f, h, e, q⟩ => by
  obtain ⟨⟨t, S1⟩, e1, e⟩ := Option.bind_eq_some_iff.mp e
  obtain ⟨S2, e2, e⟩ := Option.bind_eq_some_iff.mp e
  cases e
  refine ⟨S, fr, t, S1, h, e1, fun v H' h' => ?_⟩
  obtain ⟨hi, rfl⟩ := putS_some e2
  exact q _ H' .set (h'.put hi)
/-- several targets -/
def gVs (K : PySem.W.Frag) (as : List Nat) (g : List T → Sto → Option Sto) : TGs := fun vs σ H Q => ∃ S fr ts S', vs.length = ts.length ∧ AtS K H σ S (vs.zip ts ++ fr) ∧ g ts S = some S' ∧ ∀ σ', Keep as σ σ' → AtS K H σ' S' fr → Q σ' H
theorem PGs.imp {tg : List Expr} {t t' : TGs} (h : PGs X tg t) (i : ∀ v σ H Q, t' v σ H Q → t v σ H Q) : PGs X tg t' := ⟨fun pins s σ H v u Q I r q => h.run pins s σ H v u Q I r (i v σ H Q q)⟩
abbrev VGs (X : Cx) (as : List Nat) (tg : List Expr) (g : List T → Sto → Option Sto) : Prop := PGs X tg (gVs X.K as g)
def gsNil : List T → Sto → Option Sto
  | [], S => some S
  | _, _ => none
def gsCons (g : T → Sto → Option Sto) (r : List T → Sto → Option Sto) : List T → Sto → Option Sto
  | t :: ts, S => (g t S).bind fun S1 => r ts S1
  | [], _ => none
theorem vgs_nil : VGs X [] [] gsNil := PGs.imp pgs_nil fun vs σ H Q ⟨S, fr, ts, S', l, h, e, q⟩ => by
  cases ts with
  | nil =>
    cases e
    cases vs with
    | nil => exact ⟨rfl, q σ .refl h⟩
    | cons _ _ => simp at l
  | cons _ _ => cases e
theorem vgs_cons {g : T → Sto → Option Sto} {r : List T → Sto → Option Sto} (h1 : VG X as e g) (h2 : VGs X bs es r) (hs : (assignEach (e :: es) X.env).map (·.2) = assign e X.env :: (assignEach es X.env).map (·.2) := by rfl) : VGs X (as ++ bs) (e :: es) (gsCons g r) :=
  PGs.imp (pgs_cons h1 h2 hs) fun vs σ H Q ⟨S, fr, ts, S', l, h, e, q⟩ => by
    cases ts with
    | nil => cases e
    | cons t ts =>
      cases vs with
      | nil => simp at l
      | cons v vs =>
        obtain ⟨S1, e1, e2⟩ := Option.bind_eq_some_iff.mp e
        exact ⟨v, vs, rfl, S, vs.zip ts ++ fr, t, S1, h, e1, fun σ1 k1 h3 => ⟨S1, fr, ts, S', Nat.succ.inj l, h3, e2, fun σ2 k2 h4 => q σ2 (k1.trans k2) h4⟩⟩
/-- the children of a tuple -/
def kidsTu : T → Option (List T)
  | .tup ts => some ts
  | .sh (.tup ds) => some (ds.map .sh)
  | _ => none
theorem At.unt {K : PySem.W.Frag} {H : Hp} {ps : Ps} {v : V} {t : T} {ts : List T} (h : At K H ((v, t) :: ps)) (e : kidsTu t = some ts) : ∃ a vs, v = .ref a ∧ SqT K H a vs ∧ vs.length = ts.length ∧ At K H (vs.zip ts ++ ps) := by
  cases t with
  | tup us =>
    have z : us = ts := by simpa [kidsTu] using e
    subst z
    obtain ⟨a, vs, h1, h2, h3, h4⟩ := h.openT
    exact ⟨a, vs, h1, .of h2, h3, h4.at⟩
  | sh d =>
    cases d with
    | tup ds =>
      have z : ds.map T.sh = ts := by simpa [kidsTu] using e
      subst z
      obtain ⟨a, vs, h1, h2, h3, h4⟩ := h.kidsT
      exact ⟨a, vs, h1, h2, by rw [List.length_map]; exact h3, h4⟩
    | _ => cases e
  | _ => cases e
def gTupS (n : Nat) (r : List T → Sto → Option Sto) : T → Sto → Option Sto := fun t S => (kidsTu t).bind fun ts => if ts.length = n then r ts S else none
theorem vg_tup {k : Nat} {n : Nat} {r : List T → Sto → Option Sto} (hc : X.calm = true) (h : VGs X as es r) (hn : (assignEach es X.env).length = n := by rfl) (hst : (assignEach es X.env).findIdx? (·.1) = none := by rfl) : VG X as (.Tuple es k pos) (gTupS n r) :=
  PG.imp (pg_tup hc h hn hst) fun v σ H Q ⟨S, fr, t, S', h, e, q⟩ => by
    obtain ⟨ts, e1, e⟩ := Option.bind_eq_some_iff.mp e
    split at e
    · rename_i hl
      obtain ⟨a, vs, rfl, k1, l1, h1⟩ := h.at1.unt e1
      refine ⟨a, vs, rfl, k1, l1.trans hl, S, fr, ts, S', l1, AtS.of h.1 ?_, e, q⟩
      rw [List.append_assoc]
      exact h1
    · cases e
/-- x[k] = e -/
def sSetI (j : Nat) (mv mk : ME) : MS := fun S => (mv S).bind fun p => match p.2[j]? with
  | some (some _) => (mk p.2).bind fun q => (match q.2[j]?, fz q.1 with
    | some (some (.lst ts)), .int i => (ixN ts.length i).bind fun n => some (.nx (q.2.set j (some (.lst (ts.set n p.1)))))
    | _, _ => none)
  | _ => none
theorem vs_setI (j : Nat) {x : Str} {px ps : Pos} {mv mk : ME} (hv : VE X e mv) (hk : VE X b mk) (ha : ∀ v, assign (.Subscript (.Name x px) b ps) X.env v = (do
      let ov ← holding [v] (eval (.Name x px) X.env)
      let iv ← holding [v, ov] (eval b X.env)
      standAt ps
      holding [v, ov, iv] (setItem ov iv v)
      release [v, ov, iv] []) := by intro _; rfl) (hN : X.N[j]? = some x := by rfl) (hvs : Vis X.env.scope x := by first | exact Or.inl rfl | exact Or.inr (Or.inl rfl) | exact Or.inr (Or.inr rfl)) (hd : (x == ("__debug__" : Str)) = false := by decide)
    (hcd : (x == ("__classdict__" : Str)) = false := by decide) (hs : swapsWithSole [.Subscript (.Name x px) b ps] e pos.line X.env = pure false := by rfl) (hw : swappedStores [.Subscript (.Name x px) b ps] e X.env = pure none := by rfl)
    (h1 : (assignEach [.Subscript (.Name x px) b ps] X.env).map (·.2) = [assign (.Subscript (.Name x px) b ps) X.env] := by rfl) : VS X [] (.Assign [.Subscript (.Name x px) b ps] e pos) (sSetI j mv mk) :=
  PS.imp (ps_asg hv (pg_sub (pe_var hN hvs hd hcd) hk set_list ha) hs hw h1) fun D σ H ⟨S, fr, f, h, e, q⟩ => by
    obtain ⟨⟨t, S1⟩, e1, e⟩ := Option.bind_eq_some_iff.mp e
    simp only at e
    split at e
    · rename_i t1 e0
      obtain ⟨⟨tk, S2⟩, e2, e⟩ := Option.bind_eq_some_iff.mp e
      simp only at e
      split at e
      · rename_i ts i e3 e4
        obtain ⟨n, e5, e⟩ := Option.bind_eq_some_iff.mp e
        cases e
        refine ⟨S, fr, t, S1, h, e1, fun v H1 h1 => ?_⟩
        obtain ⟨o, ho, _⟩ := h1.take e0
        refine ⟨o, ho, S1, (v, t) :: fr, tk, S2, h1, e2, fun u H2 h2 => ?_⟩
        have ru := h2.rep
        rw [e4] at ru
        obtain ⟨o', ho', k⟩ := h2.take e3
        rw [ho] at ho'
        cases ho'
        have k1 : AtS X.K H2 σ (S2.set j none) ((v, t) :: (o, .lst ts) :: fr) := k.sub ⟨[(u, tk)], (List.Perm.swap ..).trans ((List.Perm.swap ..).cons _)⟩
        have hn := (ixN_seq e5).2.1
        obtain ⟨a, _, ra, _⟩ := k1.drop1.at1.open
        subst ra
        obtain ⟨vs, ha, l, k2⟩ := k1.at1.setAt hn
        refine ⟨a, vs, i, n, rfl, ru, ha, by rw [l]; exact e5, ?_⟩
        have k3 := (AtS.of k1.1 k2 : AtS X.K _ σ (S2.set j none) ((.ref a, .lst (ts.set n t)) :: fr)).back ho
        rw [List.set_set] at k3
        exact q σ _ .refl k3
      · cases e
    · cases e
/-- x.append(e) -/
def sApp (j : Nat) (me : ME) : MS := fun S => match S[j]? with
  | some (some (.lst _)) => (me S).bind fun p => (match p.2[j]? with
    | some (some (.lst ts)) => if ts.length < sizeLine then some (.nx (p.2.set j (some (.lst (ts ++ [p.1]))))) else none
    | _ => none)
  | _ => none
theorem vs_append (j : Nat) {x : Str} {px apos cpos : Pos} {me : ME} (he : VE X e me) (hN : X.N[j]? = some x := by rfl) (hvs : Vis X.env.scope x := by first | exact Or.inl rfl | exact Or.inr (Or.inl rfl) | exact Or.inr (Or.inr rfl)) (hd : (x == ("__debug__" : Str)) = false := by decide)
    (hcd : (x == ("__classdict__" : Str)) = false := by decide) (hs2 : swapsWith (.Call (.Attribute (.Name x px) "append" apos) [e] [] cpos) none pos.line X.env = pure false := by rfl)
    (hbase : attributeBase (.Name x px) "append" X.env (eval (.Name x px) X.env) = eval (.Name x px) X.env := by rfl)
    (hfew : ((backTo cpos (starEach [e] X.env)).all (fun x => !x.1) && (backToKw cpos (keywordEach [] X.env)).all (fun x => x.1.isSome)
      && decide (([e] : List Expr).length + ([] : List Keyword).length + (if ([] : List Keyword).isEmpty then 0 else 1) < 30)) = true := by rfl)
    (hline : (apos.endLine == cpos.line) = true := by rfl) (hs : starEach [e] X.env = (false, eval e X.env) :: starEach [] X.env := by rfl) (hplain : (backTo cpos (starEach [] X.env)).any (·.1) = false := by rfl) :
    VS X [] (.Expr (.Call (.Attribute (.Name x px) "append" apos) [e] [] cpos) pos) (sApp j me) :=
  PS.imp (ps_expr (pe_bm PySem.F.plainAttrs_list PySem.F.slot_list_append PySem.F.type_list_append mt_append (pe_var hN hvs hd hcd) (pa_cons he pa_nil hs) hbase hfew hline hs hplain) hs2) fun D σ H ⟨S, fr, f, h, e, q⟩ => by
    unfold sApp at e
    split at e
    · rename_i ts0 e0
      obtain ⟨⟨t, S1⟩, e1, e⟩ := Option.bind_eq_some_iff.mp e
      simp only at e
      split at e
      · rename_i ts e2
        split at e
        · rename_i hl
          cases e
          obtain ⟨o, ho, k0⟩ := h.take e0
          obtain ⟨a0, vs0, ra0, ha0, _⟩ := k0.at1.open
          subst ra0
          refine ⟨.ref a0, ho, .inl ⟨rfl, vs0, .of ha0⟩, S, fr, t, S1, h, e1, fun v H1 h1 => ?_⟩
          obtain ⟨o', ho', k⟩ := h1.take e2
          rw [ho] at ho'
          cases ho'
          obtain ⟨vs, ha, l, k2⟩ := k.two.at1.append
          refine ⟨a0, vs, v, rfl, rfl, ha, by rw [l]; exact hl, ?_⟩
          have k3 := (AtS.of k.1 k2 : AtS X.K _ σ (S1.set j none) ((.ref a0, .lst (ts ++ [t])) :: fr)).back ho
          rw [List.set_set] at k3
          exact q σ _ .refl k3
        · cases e
      · cases e
    · cases e
/-- x += e (ints; texts) -/
def sAug (g : D → D → Option D) (j : Nat) (me : ME) : MS := fun S => match S[j]? with
  | some (some (.sh d0)) => (me S).bind fun p => (g d0 (fz p.1)).bind fun d => if sc d = true then (putS j (.sh d) p.2).bind fun S2 => some (.nx S2) else none
  | _ => none
def rAug (K : PySem.W.Frag) (g : D → D → Option D) : TIp := fun x y H Q => ∃ dx dy d, Rep K H x dx ∧ Rep K H y dy ∧ g dx dy = some d ∧ ∀ z, Rep K H z d → Q z H
theorem vs_aug (j : Nat) {x : Str} {px : Pos} {op : Operator} {g : D → D → Option D} {me : ME} (hN : X.N.Nodup) (ho : PIp X op (rAug X.K g)) (he : VE X e me) (hi : X.N[j]? = some x := by rfl) (hx : Loc X.env.scope x := by first | exact Or.inl rfl | exact Or.inr rfl)
    (hf : X.fn x = true ∨ X.env.scope.names.lookup x = some .local := by first | exact .inl rfl | exact .inr rfl | assumption) (hsc0 : ∀ d0 d d1, g d0 d = some d1 → sc d0 = true := by intro d0 d d1 h; cases d0 <;> cases d <;> first | rfl | cases h) : VS X [j] (.AugAssign (.Name x px) op e pos) (sAug g j me) :=
  PS.imp (ps_aug hN hi hx he ho hf) fun D σ H ⟨S, fr, f, h, e, q⟩ => by
    unfold sAug at e
    split at e
    · rename_i d0 e0
      obtain ⟨⟨t, S1⟩, e1, e⟩ := Option.bind_eq_some_iff.mp e
      obtain ⟨d, e2, e⟩ := Option.bind_eq_some_iff.mp e
      split at e
      · rename_i hs
        obtain ⟨S2, e3, e⟩ := Option.bind_eq_some_iff.mp e
        cases e
        obtain ⟨v0, hv0, r0⟩ := h.see e0
        refine ⟨v0, hv0, S, fr, t, S1, h, e1, fun u H1 h1 => ?_⟩
        refine ⟨d0, fz t, d, scRep (hsc0 _ _ _ e2) r0 _, h1.rep, e2, fun z rz => ?_⟩
        obtain ⟨hi, rfl⟩ := putS_some e3
        exact q _ H1 .set ((h1.drop1.new (scRep hs rz)).put hi)
      · cases e
    · cases e
theorem oa_add : PIp X .Add (rAug X.K fun x y => match x, y with | .int i, .int j => some (.int (i + j)) | _, _ => none) := by
  intro pins s σ H x y v u Q I rx ry ⟨dx, dy, d, r1, r2, e, q⟩
  cases dx with
  | int i =>
    cases dy with
    | int j =>
      have z : D.int (i + j) = d := by simpa using e
      subst z
      rw [show x = .int i from r1] at rx
      rw [show y = .int j from r2] at ry
      exact ip_add pins s σ H _ _ v u Q I rx ry ⟨i, j, rfl, rfl, q _ rfl⟩
    | _ => cases e
  | _ => cases dy <;> cases e

/-! ### loops -/
def mWhile (t : MT) (b : MS) : Nat → MS
  | 0, _ => none
  | n + 1, S => (t S).bind fun x => if x.1 = true then (b x.2).bind fun f => (match f with
    | .nx S2 => mWhile t b n S2
    | .ct S2 => mWhile t b n S2
    | .bk S2 => some (.nx S2)
    | .rt r S2 => some (.rt r S2)) else some (.nx x.2)
theorem Keep.add {as : List Nat} {σ σ1 σ2 : St} (h : Keep as σ σ1) (k : Keep as σ1 σ2) : Keep as σ σ2 := ⟨k.1.trans h.1, fun i hi => (k.2 i hi).trans (h.2 i hi)⟩
theorem vs_while {t : MT} {n : Nat} (hp : PassesOwn (model X.prog X.w) X.A X.env X.xe) (hc : VT X c t) (hb : VSs X as sts m) : VS X as (.While c sts [] pos) (mWhile t m n) := PS.imp (ps_while hp hc hb) fun D σ H ⟨S, fr, f, h, e, q⟩ => by
  refine ⟨fun k σ1 H1 => ∃ S1, AtS X.K H1 σ1 S1 fr ∧ Keep as σ σ1 ∧ mWhile t m k S1 = some f, ⟨n, S, h, .refl, e⟩, ?_⟩
  rintro k σ1 H1 ⟨S1, h1, k1, e1⟩
  cases k with
  | zero => cases e1
  | succ k =>
    obtain ⟨⟨x, S2⟩, e2, e3⟩ := Option.bind_eq_some_iff.mp e1
    refine ⟨S1, fr, x, S2, h1, e2, fun H2 h2 => ?_⟩
    cases x with
    | true =>
      obtain ⟨f1, e4, e5⟩ := Option.bind_eq_some_iff.mp (show ((m S2).bind _) = some f by simpa using e3)
      refine iteT ⟨fun σ3 H3 => ∃ S3, AtS X.K H3 σ3 S3 fr ∧ Keep as σ σ3 ∧ mWhile t m k S3 = some f, fun σ3 H3 hn => ⟨k, Nat.lt_succ_self k, hn⟩, S2, fr, f1, h2, e4, ?_⟩
      cases f1 with
      | nx S3 => exact fun σ3 H3 k3 h3 => ⟨S3, h3, k1.add k3, e5⟩
      | ct S3 => exact fun σ3 H3 k3 h3 => ⟨S3, h3, k1.add k3, e5⟩
      | bk S3 =>
        cases e5
        exact fun σ3 H3 k3 h3 => q σ3 H3 (k1.add k3) h3
      | rt r S3 =>
        cases e5
        exact fun σ3 v H3 k3 h3 => q σ3 v H3 (k1.add k3) h3
    | false =>
      have z : some (Fl.nx S2) = some f := by simpa using e3
      cases z
      exact iteF (q σ1 H2 k1 h2)
/-- what is walked: its items; what is held for it meanwhile -/
structure Feeds (K : PySem.W.Frag) (J : It) (hold : Ps) (ds : List D) : Prop where
  go : ∀ (H : Hp) (ps : Ps), At K H (hold ++ ps) → ∀ i d, ds[i]? = some d → J.go i H ∧ ∀ x H', J.yld i H x H' → At K H' ((x, .sh d) :: (hold ++ ps))
  stop : ∀ (H : Hp) (ps : Ps), At K H (hold ++ ps) → ∀ i, ds.length ≤ i → J.stop i H
abbrev MI := Sto → Option (List D × Sto)
def iV (K : PySem.W.Frag) (mi : MI) : TI := fun σ H R => ∃ S fr ds S', AtS K H σ S fr ∧ mi S = some (ds, S') ∧ ∀ J H' hold, Feeds K J hold ds → AtS K H' σ S' (hold ++ fr) → R J H'
theorem PI.imp {tg it : Expr} {t t' : TI} (h : PI X tg it t) (i : ∀ σ H R, t' σ H R → t σ H R) : PI X tg it t' := ⟨fun pins s σ H R I q => h.run pins s σ H R I (i σ H R q)⟩
abbrev VI (X : Cx) (tg it : Expr) (mi : MI) : Prop := PI X tg it (iV X.K mi)
theorem feeds_list {K : PySem.W.Frag} {a : Addr} {ds : List D} : Feeds K (Itl K a) [(.ref a, .sh (.lst ds))] ds where
  go := fun H ps h i d hi => by
    obtain ⟨G, fp, s, ⟨f, g, rfl, ⟨rfl, b, ws, e10, q2, rs2⟩, o2⟩, n, e0, x0⟩ := (h : At K H ((.ref a, .sh (.lst ds)) :: ps))
    cases e10
    obtain ⟨u, e11, r2⟩ := rs2.get hi
    refine ⟨⟨ws, u, s.seq q2, e11⟩, fun x H' ⟨e6, y⟩ => e6 ▸ ?_⟩
    have e12 := y ws (s.seq q2)
    rw [e11] at e12
    cases e12
    exact ⟨G, _, s, ⟨[], _, rfl, ⟨rfl, r2⟩, [], g, rfl, ⟨rfl, _, ws, rfl, q2, rs2⟩, o2⟩, n, e0, x0⟩
  stop := fun H ps h i hi => by
    obtain ⟨a', vs, e, k, l, h2⟩ := (h : At K H ((.ref a, .sh (.lst ds)) :: ps)).kids
    cases e
    exact ⟨vs, k, by rw [l]; exact hi⟩
theorem feeds_tup {K : PySem.W.Frag} {a : Addr} {ds : List D} : Feeds K (Itt K a) [(.ref a, .sh (.tup ds))] ds where
  go := fun H ps h i d hi => by
    obtain ⟨G, fp, s, ⟨f, g, rfl, ⟨rfl, b, ws, e10, q2, rs2⟩, o2⟩, n, e0, x0⟩ := (h : At K H ((.ref a, .sh (.tup ds)) :: ps))
    cases e10
    obtain ⟨u, e11, r2⟩ := rs2.get hi
    refine ⟨⟨ws, u, Same.sqT s q2, e11⟩, fun x H' ⟨e6, y⟩ => e6 ▸ ?_⟩
    have e12 := y ws (Same.sqT s q2)
    rw [e11] at e12
    cases e12
    exact ⟨G, _, s, ⟨[], _, rfl, ⟨rfl, r2⟩, [], g, rfl, ⟨rfl, _, ws, rfl, q2, rs2⟩, o2⟩, n, e0, x0⟩
  stop := fun H ps h i hi => by
    obtain ⟨a', vs, e, k, l, h2⟩ := (h : At K H ((.ref a, .sh (.tup ds)) :: ps)).kidsT
    cases e
    exact ⟨vs, k, by rw [l]; exact hi⟩
/-- over a list -/
def iList' (me : ME) : MI := fun S => (me S).bind fun p => match fz p.1 with
  | .lst ds => some (ds, p.2)
  | _ => none
theorem vi_list {tg : Expr} {me : ME} (he : VE X e me) : VI X tg e (iList' me) := PI.imp (pi_list he) fun σ H R ⟨S, fr, ds, S', h, e, q⟩ => by
  obtain ⟨⟨t, S1⟩, e1, e⟩ := Option.bind_eq_some_iff.mp e
  refine ⟨S, fr, t, S1, h, e1, fun v H1 h1 => ?_⟩
  simp only at e
  split at e
  · rename_i ds' e2
    obtain ⟨rfl, rfl⟩ : ds' = ds ∧ S1 = S' := by simpa using e
    have h2 := h1.freeze
    rw [e2] at h2
    obtain ⟨a, vs, rfl, k, l, _⟩ := h2.at1.kids
    exact ⟨a, rfl, ⟨vs, k⟩, q _ H1 [(.ref a, .sh (.lst ds'))] feeds_list h2⟩
  · cases e
/-- over a tuple -/
def iTup' (me : ME) : MI := fun S => (me S).bind fun p => match fz p.1 with
  | .tup ds => some (ds, p.2)
  | _ => none
theorem vi_tup {tg : Expr} {me : ME} (he : VE X e me) : VI X tg e (iTup' me) := PI.imp (pi_tup he) fun σ H R ⟨S, fr, ds, S', h, e, q⟩ => by
  obtain ⟨⟨t, S1⟩, e1, e⟩ := Option.bind_eq_some_iff.mp e
  refine ⟨S, fr, t, S1, h, e1, fun v H1 h1 => ?_⟩
  simp only at e
  split at e
  · rename_i ds' e2
    obtain ⟨rfl, rfl⟩ : ds' = ds ∧ S1 = S' := by simpa using e
    have h2 := h1.freeze
    rw [e2] at h2
    obtain ⟨a, vs, rfl, k, l, _⟩ := h2.at1.kidsT
    exact ⟨a, rfl, ⟨vs, k⟩, q _ H1 [(.ref a, .sh (.tup ds'))] feeds_tup h2⟩
  · cases e
/-- over a text -/
def signs (x : Str) : List D := x.cps.toList.map fun c => .str ⟨#[c]⟩
theorem feeds_str {K : PySem.W.Frag} {x : Str} : Feeds K (Its x) [] (signs x) where
  go := fun H ps h i d hi => by
    unfold signs at hi
    rw [List.getElem?_map] at hi
    obtain ⟨c, e1, rfl⟩ := Option.map_eq_some_iff.mp hi
    have e2 : x.cps[i]? = some c := by rw [← Array.getElem?_toList]; exact e1
    have hlt : i < x.cps.size := (Array.getElem?_eq_some_iff.mp e2).1
    refine ⟨hlt, fun v H' ⟨e6, c', e7, e8⟩ => e6 ▸ ?_⟩
    rw [e2] at e7
    cases e7
    subst e8
    exact h.new fun _ => rfl
  stop := fun H ps h i hi => by
    show x.cps.size ≤ i
    unfold signs at hi
    rw [List.length_map, Array.length_toList] at hi
    exact hi
def iStr' (m : MP) : MI := fun S => (m S).bind fun d => match d with
  | .str x => some (signs x, S)
  | _ => none
theorem vi_str {tg : Expr} {m : MP} (he : VP X e m) : VI X tg e (iStr' m) := PI.imp (pi_str he) fun σ H R ⟨S, fr, ds, S', h, e, q⟩ => by
  obtain ⟨d, e1, e⟩ := Option.bind_eq_some_iff.mp e
  refine ⟨S, fr, d, h, e1, fun v r => ?_⟩
  split at e
  · rename_i x
    obtain ⟨rfl, rfl⟩ : signs x = ds ∧ S = S' := by simpa using e
    exact ⟨x, r, q _ H [] feeds_str h⟩
  · cases e
/-- over a range -/
def rngD (lo : Int) (n : Nat) : List D := (List.range n).map fun i => .int (lo + (i : Nat))
theorem feeds_rng {K : PySem.W.Frag} {lo : Int} {n : Nat} : Feeds K (Itr lo n) [] (rngD lo n) where
  go := fun H ps h i d hi => by
    unfold rngD at hi
    rw [List.getElem?_map] at hi
    obtain ⟨j, e1, rfl⟩ := Option.map_eq_some_iff.mp hi
    obtain ⟨hlt, e2⟩ := List.getElem?_eq_some_iff.mp e1
    rw [List.getElem_range] at e2
    subst e2
    refine ⟨(show i < n by simpa using hlt), fun v H' ⟨e6, e7⟩ => e6 ▸ ?_⟩
    subst e7
    exact h.new fun _ => rfl
  stop := fun H ps h i hi => by
    show n ≤ i
    unfold rngD at hi
    rw [List.length_map, List.length_range] at hi
    exact hi
def near (i : Int) : Bool := decide (-(2 ^ 62) ≤ i ∧ i < 2 ^ 62)
def iRng1' (m : Sto → Option (List D)) : MI := fun S => (m S).bind fun ds => match ds with
  | [.int j] => if near j = true then some (rngD 0 j.toNat, S) else none
  | _ => none
def iRng2' (m : Sto → Option (List D)) : MI := fun S => (m S).bind fun ds => match ds with
  | [.int i, .int j] => if (near i && near j) = true then some (rngD i (j - i).toNat, S) else none
  | _ => none
theorem vi_range1 {tg : Expr} {p : Pos} {m : Sto → Option (List D)} (hm : X.mg "range" = none) (ha : VPA X [a] m) (hg : Gl X "range" := by rfl) (hs : starEach [a] X.env = [(false, eval a X.env)] := by rfl) : VI X tg (.Call (.Name "range" p) [a] [] pos) (iRng1' m) := PI.imp (pi_range1 hg hm ha hs) fun σ H R ⟨S, fr, ds, S', h, e, q⟩ => by
  obtain ⟨xs, e1, e⟩ := Option.bind_eq_some_iff.mp e
  refine ⟨S, fr, xs, h, e1, fun vs r => ?_⟩
  split at e
  · rename_i j
    split at e
    · rename_i hn
      obtain ⟨rfl, rfl⟩ : rngD 0 j.toNat = ds ∧ S = S' := by simpa using e
      obtain ⟨v, rfl, r1⟩ := r.one
      have z : v = .int j := r1
      subst z
      have hn := of_decide_eq_true hn
      exact ⟨j, rfl, hn.1, hn.2, q _ H [] feeds_rng h⟩
    · cases e
  · cases e
theorem vi_range2 {tg : Expr} {p : Pos} {m : Sto → Option (List D)} (hm : X.mg "range" = none) (ha : VPA X [a, b] m) (hg : Gl X "range" := by rfl) (hs : starEach [a, b] X.env = [(false, eval a X.env), (false, eval b X.env)] := by rfl) (hs2 : starEach [b] X.env = [(false, eval b X.env)] := by rfl) :
    VI X tg (.Call (.Name "range" p) [a, b] [] pos) (iRng2' m) := PI.imp (pi_range2 hg hm ha hs hs2) fun σ H R ⟨S, fr, ds, S', h, e, q⟩ => by
  obtain ⟨xs, e1, e⟩ := Option.bind_eq_some_iff.mp e
  refine ⟨S, fr, xs, h, e1, fun vs r => ?_⟩
  split at e
  · rename_i i j
    split at e
    · rename_i hn
      obtain ⟨rfl, rfl⟩ : rngD i (j - i).toNat = ds ∧ S = S' := by simpa using e
      obtain ⟨v, u, rfl, r1, r2⟩ := r.two
      have z : v = .int i := r1
      subst z
      have z : u = .int j := r2
      subst z
      obtain ⟨h1, h2⟩ := Bool.and_eq_true_iff.mp hn
      have h1 := of_decide_eq_true h1
      have h2 := of_decide_eq_true h2
      exact ⟨i, j, rfl, ⟨h1.1, h1.2, h2.1, h2.2⟩, q _ H [] feeds_rng h⟩
    · cases e
  · cases e

/-- the loop -/
def loopF (g : T → Sto → Option Sto) (b : MS) : List D → MS
  | [], S => some (.nx S)
  | d :: ds, S => (g (.sh d) S).bind fun S1 => (b S1).bind fun f => match f with
    | .nx S2 => loopF g b ds S2
    | .ct S2 => loopF g b ds S2
    | .bk S2 => some (.nx S2)
    | .rt r S2 => some (.rt r S2)
def mFor (mi : MI) (g : T → Sto → Option Sto) (b : MS) : MS := fun S => (mi S).bind fun p => loopF g b p.1 p.2
theorem FlOk.hold {K : PySem.W.Frag} {as : List Nat} {D : Ends} {σ : St} {fr : Ps} {f : Fl} (hold : Ps) (h : FlOk K as D σ fr f) : FlOk K as D σ (hold ++ fr) f := by
  cases f with
  | nx S => exact fun σ' H' k h' => h σ' H' k (h'.drops hold)
  | bk S => exact fun σ' H' k h' => h σ' H' k (h'.drops hold)
  | ct S => exact fun σ' H' k h' => h σ' H' k (h'.drops hold)
  | rt t S => exact fun σ' v H' k h' => h σ' v H' k (h'.sub ⟨hold, (List.perm_middle (l₁ := hold)).symm⟩)
theorem vs_for {tg it : Expr} {mi : MI} {g : T → Sto → Option Sto} (hp : PassesOwn (model X.prog X.w) X.A X.env X.xe) (hc : X.calm = true) (hi : VI X tg it mi) (hg : VG X as tg g) (hb : VSs X bs sts m) (hs : ∀ x, foldedSetIterable it X.env x = pure x := by intro _; rfl) :
    VS X (as ++ bs) (.For tg it sts [] pos) (mFor mi g m) := PS.imp (ps_for hp hc hi hg hb hs) fun D σ H ⟨S, fr, f, h, e, q⟩ => by
  obtain ⟨⟨ds, S1⟩, e1, e2⟩ := Option.bind_eq_some_iff.mp e
  refine ⟨S, fr, ds, S1, h, e1, fun J H1 hold F h1 => ?_⟩
  refine ⟨fun i k σ1 H1 => ∃ S1, k = ds.length - i ∧ i ≤ ds.length ∧ AtS X.K H1 σ1 S1 (hold ++ fr) ∧ Keep (as ++ bs) σ σ1 ∧ loopF g m (ds.drop i) S1 = some f, ⟨ds.length, S1, by simp, Nat.zero_le _, h1, .refl, e2⟩, ?_⟩
  rintro i k σ1 H1 ⟨S2, rfl, hi, h2, k2, e3⟩
  have hat : At X.K H1 (hold ++ (fr ++ prs σ1 S2)) := by
    have z := h2.front
    rw [List.append_assoc] at z
    exact z
  by_cases hlt : i < ds.length
  · have hd : ds[i]? = some ds[i] := List.getElem?_eq_getElem hlt
    obtain ⟨go, yl⟩ := F.go H1 _ hat i _ hd
    rw [List.drop_eq_getElem_cons hlt] at e3
    obtain ⟨S3, e4, e5⟩ := Option.bind_eq_some_iff.mp e3
    obtain ⟨f1, e6, e7⟩ := Option.bind_eq_some_iff.mp e5
    refine .inr ⟨go, fun σ3 H3 => ∃ S3, AtS X.K H3 σ3 S3 (hold ++ fr) ∧ Keep (as ++ bs) σ σ3 ∧ loopF g m (ds.drop (i + 1)) S3 = some f, fun σ3 H3 ⟨S4, a1, a2, a3⟩ => ⟨ds.length - (i + 1), by omega, S4, rfl, hlt, a1, a2, a3⟩, fun x H' y => ?_⟩
    have h3 := yl x H' y
    have h4 : AtS X.K H' σ1 S2 ((x, .sh ds[i]) :: (hold ++ fr)) := AtS.of h2.1 (by
      have z : (x, T.sh ds[i]) :: (hold ++ fr) ++ prs σ1 S2 = (x, T.sh ds[i]) :: (hold ++ (fr ++ prs σ1 S2)) := by simp
      rw [z]
      exact h3)
    refine ⟨S2, hold ++ fr, _, S3, h4, e4, fun σ2 k3 h5 => ⟨S3, hold ++ fr, f1, h5, e6, ?_⟩⟩
    have kk : ∀ {σ4 : St}, Keep bs σ2 σ4 → Keep (as ++ bs) σ σ4 := fun k4 => k2.add (k3.trans k4)
    cases f1 with
    | nx S4 => exact fun σ4 H4 k4 h6 => ⟨S4, h6, kk k4, e7⟩
    | ct S4 => exact fun σ4 H4 k4 h6 => ⟨S4, h6, kk k4, e7⟩
    | bk S4 =>
      cases e7
      exact fun σ4 H4 k4 h6 => FlOk.hold (f := .nx S4) hold q σ4 H4 (kk k4) h6
    | rt r S4 =>
      cases e7
      exact fun σ4 v H4 k4 h6 => FlOk.hold (f := .rt r S4) hold q σ4 v H4 (kk k4) h6
  · have e8 : i = ds.length := by omega
    subst e8
    rw [List.drop_length] at e3
    cases e3
    exact .inl ⟨F.stop H1 _ hat _ (Nat.le_refl _), FlOk.hold (f := .nx S2) hold q σ1 H1 k2 h2⟩
end

/-! ### comprehensions -/
section
variable {K : PySem.W.Frag} {H : Hp} {σ : St} {S : Sto} {fr : Ps}
def wipeS (S : Sto) : List Nat → Sto
  | [] => S
  | v :: vs => (wipeS S vs).set v none
theorem prs_wipe1 : ∀ {σ : St} {S : Sto} (i : Nat), Fit σ S → Sub (prs (σ.set i none) (S.set i none)) (prs σ S) ∧ Fit (σ.set i none) (S.set i none)
  | [], [], i, f => ⟨Sub.refl, f⟩
  | some w :: σ, some u :: S, 0, f => ⟨Sub.refl.skip, f⟩
  | some w :: σ, none :: S, 0, f => ⟨Sub.refl, f⟩
  | none :: σ, none :: S, 0, f => ⟨Sub.refl, f⟩
  | some w :: σ, some u :: S, i + 1, f => by
    obtain ⟨h1, h2⟩ := prs_wipe1 (σ := σ) (S := S) i f
    exact ⟨h1.cons, h2⟩
  | some w :: σ, none :: S, i + 1, f => prs_wipe1 (σ := σ) (S := S) i f
  | none :: σ, none :: S, i + 1, f => prs_wipe1 (σ := σ) (S := S) i f
  | none :: _, some _ :: _, _, f => f.elim
  | [], _ :: _, _, f => f.elim
  | some _ :: _, [], _, f => f.elim
  | none :: _, [], _, f => f.elim
theorem AtS.wipe (h : AtS K H σ S fr) : ∀ vs : List Nat, AtS K H (L2.wipe σ vs) (wipeS S vs) fr
  | [] => h
  | v :: vs => by
    have k := AtS.wipe h vs
    obtain ⟨s, f⟩ := prs_wipe1 v k.1
    exact ⟨f, k.2.sub (s.append_right fr)⟩
/-- what is held in the wiped frame is held in the frame -/
theorem prs_unwipe1 : ∀ {σ : St} {S : Sto} (i : Nat), Fit (σ.set i none) (S.set i none) → prs (σ.set i none) (S.set i none) = prs σ (S.set i none) ∧ Fit σ (S.set i none)
  | [], [], i, f => ⟨rfl, f⟩
  | w :: σ, u :: S, 0, f => by
    cases w <;> exact ⟨rfl, f⟩
  | w :: σ, u :: S, i + 1, f => by
    cases w with
    | none =>
      cases u with
      | none => exact prs_unwipe1 (σ := σ) (S := S) i f
      | some u => exact f.elim
    | some w =>
      cases u with
      | none => exact prs_unwipe1 (σ := σ) (S := S) i f
      | some u =>
        obtain ⟨h1, h2⟩ := prs_unwipe1 (σ := σ) (S := S) i f
        exact ⟨congrArg ((w, u) :: ·) h1, h2⟩
  | [], _ :: _, 0, f => f.elim
  | [], _ :: _, _ + 1, f => f.elim
  | none :: _, [], 0, f => f.elim
  | some _ :: _, [], 0, f => f.elim
  | none :: _, [], _ + 1, f => f.elim
  | some _ :: _, [], _ + 1, f => f.elim
theorem AtS.unwipe : ∀ {vs : List Nat} {σ : St} {S : Sto}, AtS K H (L2.wipe σ vs) (wipeS S vs) fr → AtS K H σ (wipeS S vs) fr := by
  intro vs
  induction vs with
  | nil => exact fun h => h
  | cons v vs ih =>
    intro σ S h
    obtain ⟨f, a⟩ := h
    obtain ⟨e, f2⟩ := prs_unwipe1 (σ := L2.wipe σ vs) (S := wipeS S vs) v f
    have a2 : At K H (prs (L2.wipe σ vs) ((wipeS S vs).set v none) ++ fr) := by
      rw [← e]
      exact a
    -- move the store of v inwards
    have comm : ∀ (vs : List Nat) (S : Sto), (wipeS S vs).set v none = wipeS (S.set v none) vs := by
      intro vs
      induction vs with
      | nil => exact fun _ => rfl
      | cons u us ih2 =>
        intro S
        show ((wipeS S us).set u none).set v none = (wipeS (S.set v none) us).set u none
        rw [← ih2]
        by_cases huv : u = v
        · rw [huv]
        · rw [List.set_comm _ _ huv]
    have h3 : AtS K H (L2.wipe σ vs) (wipeS (S.set v none) vs) fr := by
      rw [← comm]
      exact ⟨f2, a2⟩
    have h4 := ih h3
    show AtS K H σ ((wipeS S vs).set v none) fr
    rw [comm]
    exact h4
end
section
variable {X : Cx} {e a b c : Expr} {es : List Expr} {pos : Pos}
def lcGo (g : T → Sto → Option Sto) (tt : MT) (te : ME) (own : List Nat) : List D → Sto → List T → Option (List T × Sto)
  | [], S, acc => some (acc, S)
  | d :: ds, S, acc => (g (.sh d) S).bind fun S1 => (tt S1).bind fun q => if q.1 = true then (te q.2).bind fun r => if acc.length < sizeLine then lcGo g tt te own ds (wipeS r.2 own) (acc ++ [r.1]) else none
    else lcGo g tt te own ds (wipeS q.2 own) acc
def eLc (mi : MI) (g : T → Sto → Option Sto) (tt : MT) (te : ME) (own : List Nat) : ME := fun S => (mi S).bind fun p => (lcGo g tt te own p.1 (wipeS p.2 own) []).bind fun r => some (.lst r.1, r.2)
def qYes : MT := fun S => some (true, S)
abbrev VTs (X : Cx) (ifs : List Expr) (m : MT) : Prop := PTs X ifs (tVT X.K m)
theorem PTs.imp {e : List Expr} {t t' : TT} (h : PTs X e t) (i : ∀ σ H Q, t' σ H Q → t σ H Q) : PTs X e t' := ⟨fun pins s σ H Q I q => h.run pins s σ H Q I (i σ H Q q)⟩
theorem vts_nil : VTs X [] qYes := PTs.imp pts_nil fun σ H Q ⟨S, fr, b, S', h, e, q⟩ => by
  cases e
  exact q H h
theorem vts_one {m : MT} (h : VT X c m) : VTs X [c] m := pts_one h
theorem lc_imp {mi : MI} {g : T → Sto → Option Sto} {tt : MT} {te : ME} {as own : List Nat} {σ : St} {H : Hp} {Q : VK} (hw : ∀ i ∈ as, i ∈ own) (h : tV X.K (eLc mi g tt te own) σ H Q) : tLc (iV X.K mi) (gV X.K as g) (tVT X.K tt) (tV X.K te) own σ H Q := by
  obtain ⟨S, fr, t, S', h, e, q⟩ := h
  obtain ⟨⟨ds, S1⟩, e1, e⟩ := Option.bind_eq_some_iff.mp e
  obtain ⟨⟨out, S2⟩, e2, e⟩ := Option.bind_eq_some_iff.mp e
  obtain ⟨rfl, rfl⟩ : T.lst out = t ∧ S2 = S' := by simpa using e
  refine ⟨S, fr, ds, S1, h, e1, fun J H1 hold F h1 D hD => ?_⟩
  -- the state between two turns
  refine ⟨fun i k H2 => ∃ S3 acc, k = ds.length - i ∧ i ≤ ds.length ∧ AtS X.K H2 (L2.wipe σ own) (wipeS S3 own) ((.ref D, .lst acc) :: (hold ++ fr)) ∧ lcGo g tt te own (ds.drop i) (wipeS S3 own) acc = some (out, S2), ⟨ds.length, S1, [], by simp, Nat.zero_le _, ?_, e2⟩, ?_⟩
  · have k := AtS.wipe (AtS.of h1.1 (At.newL (vs := []) (ts := []) h1.front rfl hD) : AtS X.K _ σ S1 ((.ref D, .lst []) :: (hold ++ fr))) own
    exact k
  · rintro i k H2 ⟨S3, acc, rfl, hi, h2, e3⟩
    have hat : At X.K H2 (hold ++ (fr ++ ((.ref D, .lst acc) :: prs (L2.wipe σ own) (wipeS S3 own)))) := by
      refine h2.front.perm ?_
      have z : (V.ref D, T.lst acc) :: (hold ++ fr) ++ prs (L2.wipe σ own) (wipeS S3 own) = (V.ref D, T.lst acc) :: ((hold ++ fr) ++ prs (L2.wipe σ own) (wipeS S3 own)) := rfl
      rw [z, ← List.append_assoc]
      exact List.perm_middle.symm
    by_cases hlt : i < ds.length
    · have hd : ds[i]? = some ds[i] := List.getElem?_eq_getElem hlt
      obtain ⟨go, yl⟩ := F.go H2 _ hat i _ hd
      rw [List.drop_eq_getElem_cons hlt] at e3
      obtain ⟨S4, e4, e5⟩ := Option.bind_eq_some_iff.mp e3
      obtain ⟨⟨b, S5⟩, e6, e7⟩ := Option.bind_eq_some_iff.mp e5
      refine .inr ⟨go, fun H3 => ∃ S6 acc', AtS X.K H3 (L2.wipe σ own) (wipeS S6 own) ((.ref D, .lst acc') :: (hold ++ fr)) ∧ lcGo g tt te own (ds.drop (i + 1)) (wipeS S6 own) acc' = some (out, S2),
        fun H3 ⟨S6, acc', a1, a2⟩ => ⟨ds.length - (i + 1), by omega, S6, acc', rfl, hlt, a1, a2⟩, fun x H' y => ?_⟩
      have h3 := yl x H' y
      have h4 : AtS X.K H' (L2.wipe σ own) (wipeS S3 own) ((x, .sh ds[i]) :: (.ref D, .lst acc) :: (hold ++ fr)) := AtS.of h2.1 (by
        refine h3.perm ?_
        have z : hold ++ (fr ++ (V.ref D, T.lst acc) :: prs (L2.wipe σ own) (wipeS S3 own)) = (hold ++ fr) ++ (V.ref D, T.lst acc) :: prs (L2.wipe σ own) (wipeS S3 own) := by simp
        rw [z]
        exact (List.perm_middle).cons _)
      refine ⟨wipeS S3 own, (.ref D, .lst acc) :: (hold ++ fr), _, S4, h4, e4, fun σ2 k3 h5 => ?_⟩
      have ew : L2.wipe σ2 own = L2.wipe σ own := by
        have wl : ∀ (vs : List Nat) (τ : St), (L2.wipe τ vs).length = τ.length := fun vs τ => wipe_length τ vs
        apply List.ext_getElem?
        intro j
        have wm : ∀ (vs : List Nat) (τ : St), j ∈ vs → (L2.wipe τ vs)[j]? = if j < τ.length then some none else none := by
          intro vs
          induction vs with
          | nil => intro τ hj; cases hj
          | cons u us ih =>
            intro τ hj
            show ((L2.wipe τ us).set u none)[j]? = _
            rw [List.getElem?_set, wl]
            by_cases huj : u = j
            · rw [if_pos huj, huj]
            · rw [if_neg huj]
              rcases List.mem_cons.mp hj with z | z
              · exact absurd z.symm huj
              · exact ih τ z
        have wn : ∀ (vs : List Nat) (τ : St), j ∉ vs → (L2.wipe τ vs)[j]? = τ[j]? := by
          intro vs
          induction vs with
          | nil => intro τ _; rfl
          | cons u us ih =>
            intro τ hj
            show ((L2.wipe τ us).set u none)[j]? = _
            rw [List.getElem?_set_ne fun z => hj (by simp [z])]
            exact ih τ fun z => hj (List.mem_cons_of_mem _ z)
        have hl2 : σ2.length = σ.length := k3.1.trans (wl own σ)
        by_cases hj : j ∈ own
        · rw [wm own σ2 hj, wm own σ hj, hl2]
        · rw [wn own σ2 hj, wn own σ hj]
          have z := k3.2 j fun z => hj (hw j z)
          rw [z]
          exact wn own σ hj
      refine ⟨ew, S4, (.ref D, .lst acc) :: (hold ++ fr), b, S5, h5, e6, fun H3 h6 => ?_⟩
      cases b with
      | true =>
        obtain ⟨⟨tr, S6⟩, e8, e9⟩ := Option.bind_eq_some_iff.mp (show ((te S5).bind _) = some (out, S2) by simpa using e7)
        simp only at e9
        split at e9
        · rename_i hl
          refine iteT ⟨S5, (.ref D, .lst acc) :: (hold ++ fr), tr, S6, h6, e8, fun y' H4 h7 => ?_⟩
          obtain ⟨vs, ha, l, k2⟩ := h7.at1.append
          refine ⟨vs, ha, by rw [l]; exact hl, S6, acc ++ [tr], ?_, e9⟩
          have k3 := AtS.wipe (AtS.of h7.1 k2 : AtS X.K _ σ2 S6 ((.ref D, .lst (acc ++ [tr])) :: (hold ++ fr))) own
          rw [ew] at k3
          exact k3
        · cases e9
      | false =>
        refine iteF ⟨S5, acc, ?_, by simpa using e7⟩
        have k3 := AtS.wipe h6 own
        rw [ew] at k3
        exact k3
    · have e8 : i = ds.length := by omega
      subst e8
      rw [List.drop_length] at e3
      obtain ⟨rfl, rfl⟩ : acc = out ∧ wipeS S3 own = S2 := by simpa [lcGo] using e3
      refine .inl ⟨F.stop H2 _ hat _ (Nat.le_refl _), q _ _ ?_⟩
      have k := h2.unwipe
      exact k.sub ⟨hold, (List.perm_middle (l₁ := hold)).symm⟩
theorem ve_lc {elt tg it : Expr} {ifs : List Expr} {scope : Scope} (own : List (Str × Nat)) {mi : MI} {g : T → Sto → Option Sto} {tt : MT} {te : ME} {as : List Nat} (hc : X.calm = true) (hN : X.N.Nodup) (hi : VI X tg it mi) (ok : BlkOk X.N X.env.scope scope own)
    (hg : ∀ (s : Shared) (H : Hp) (C : Addr) (cl : List (Str × Addr)) (fp : List Addr), VG (X.blk s H scope (compEnvC scope cl C X.env) fp) as tg g) (ht : ∀ (s : Shared) (H : Hp) (C : Addr) (cl : List (Str × Addr)) (fp : List Addr), VTs (X.blk s H scope (compEnvC scope cl C X.env) fp) ifs tt)
    (he : ∀ (s : Shared) (H : Hp) (C : Addr) (cl : List (Str × Addr)) (fp : List Addr), VE (X.blk s H scope (compEnvC scope cl C X.env) fp) elt te) (hw : as = own.map (·.2) := by rfl) (hs : ∀ x, foldedSetIterable it X.env x = pure x := by intro _; rfl) :
    VE X (.ListComp elt [⟨tg, it, ifs, 0⟩] scope pos) (eLc mi g tt te (own.map (·.2))) := PE.imp (pe_lc hc hN hi ok hg ht he hs) fun σ H Q h => lc_imp (fun i hi => by rw [← hw]; exact hi) h
theorem vs_setLc (i : Nat) {y : Str} {py : Pos} {elt tg it : Expr} {ifs : List Expr} {scope : Scope} (own : List (Str × Nat)) {spos : Pos} {mi : MI} {g : T → Sto → Option Sto} {tt : MT} {te : ME} {as : List Nat} (hc : X.calm = true) (hN : X.N.Nodup) (hsw : swapsWith (.ListComp elt [⟨tg, it, ifs, 0⟩] scope pos) (some (.Name y py)) spos.line X.env = pure true) (hi : VI X tg it mi) (ok : BlkOk X.N X.env.scope scope own)
    (hg : ∀ (s : Shared) (H : Hp) (C : Addr) (cl : List (Str × Addr)) (fp : List Addr), VG (X.blk s H scope (compEnvC scope cl C X.env) fp) as tg g) (ht : ∀ (s : Shared) (H : Hp) (C : Addr) (cl : List (Str × Addr)) (fp : List Addr), VTs (X.blk s H scope (compEnvC scope cl C X.env) fp) ifs tt)
    (he : ∀ (s : Shared) (H : Hp) (C : Addr) (cl : List (Str × Addr)) (fp : List Addr), VE (X.blk s H scope (compEnvC scope cl C X.env) fp) elt te) (hw : as = own.map (·.2) := by rfl) (hy : X.N[i]? = some y := by rfl) (hyl : X.env.scope.names.lookup y = some .local := by rfl) (hs : ∀ x, foldedSetIterable it X.env x = pure x := by intro _; rfl) :
    VS X [i] (.Assign [.Name y py] (.ListComp elt [⟨tg, it, ifs, 0⟩] scope pos) spos) (sAsg (eLc mi g tt te (own.map (·.2))) (putS i)) := PS.imp (ps_setLc hc hN hy hyl hsw hi ok hg ht he hs) fun D σ H ⟨S, fr, f, h, e, q⟩ => by
  obtain ⟨⟨t, S1⟩, e1, e⟩ := Option.bind_eq_some_iff.mp e
  obtain ⟨S2, e2, e⟩ := Option.bind_eq_some_iff.mp e
  cases e
  obtain ⟨hi, rfl⟩ := putS_some e2
  exact lc_imp (fun i hi => by rw [← hw]; exact hi) ⟨S, fr, t, S1, h, e1, fun v H' h' => q _ H' .set (h'.put hi)⟩
end

/-! ### a def -/
/-- the arguments at the entry: those that are stored to are shared first -/
def entry (as : List Nat) : Nat → List T → List T
  | _, [] => []
  | i, t :: ts => (if i ∈ as then .sh (fz t) else t) :: entry as (i + 1) ts
/-- what the arguments have become -/
def outs (as : List Nat) (S : Sto) : Nat → List T → List (Option T)
  | _, [] => []
  | i, t :: ts => (if i ∈ as then some (.sh (fz t)) else (S[i]?).getD none) :: outs as S (i + 1) ts
def mkFn (np ns : Nat) (as : List Nat) (b : MS) : Fn := fun ts => if ts.length = np then (b ((entry as 0 ts).map some ++ List.replicate (ns - np) none)).bind fun f => match f with
  | .nx S => some (.sh .non, outs as S 0 ts)
  | .rt t S => some (t, outs as S 0 ts)
  | _ => none else none
theorem outs_length (as : List Nat) (S : Sto) : ∀ (i : Nat) (ts : List T), (outs as S i ts).length = ts.length
  | _, [] => rfl
  | i, _ :: ts => congrArg (· + 1) (outs_length as S (i + 1) ts)
theorem entry_length (as : List Nat) : ∀ (i : Nat) (ts : List T), (entry as i ts).length = ts.length
  | _, [] => rfl
  | i, _ :: ts => congrArg (· + 1) (entry_length as (i + 1) ts)
section
variable {K : PySem.W.Frag} {H : Hp}
/-- the shared ones doubled -/
def dbl (as : List Nat) : Nat → List V → List T → Ps
  | i, v :: vs, t :: ts => if i ∈ as then (v, .sh (fz t)) :: dbl as (i + 1) vs ts else dbl as (i + 1) vs ts
  | _, _, _ => []
theorem At.entryA (as : List Nat) : ∀ {vs : List V} {ts : List T} {ps : Ps} (i : Nat), At K H (vs.zip ts ++ ps) → At K H (vs.zip (entry as i ts) ++ (dbl as i vs ts ++ ps))
  | [], ts, ps, i, h => h
  | v :: vs, [], ps, i, h => h
  | v :: vs, t :: ts, ps, i, h => by
    have h0 : At K H ((v, t) :: (vs.zip ts ++ ps)) := h
    show At K H ((v, if i ∈ as then T.sh (fz t) else t) :: (vs.zip (entry as (i + 1) ts) ++ ((if i ∈ as then (v, T.sh (fz t)) :: dbl as (i + 1) vs ts else dbl as (i + 1) vs ts) ++ ps)))
    by_cases hi : i ∈ as
    · rw [if_pos hi, if_pos hi]
      have h1 : At K H ((v, .sh (fz t)) :: (v, .sh (fz t)) :: (vs.zip ts ++ ps)) := h0.freeze.dup
      have h2 : At K H (vs.zip ts ++ ((v, .sh (fz t)) :: (v, .sh (fz t)) :: ps)) := h1.perm (by
        refine ((List.perm_middle (l₁ := vs.zip ts) (a := (v, T.sh (fz t))) (l₂ := ps)).symm.cons _).trans ?_
        exact (List.perm_middle (l₁ := vs.zip ts)).symm)
      have h3 := At.entryA as (i + 1) h2
      refine h3.perm ?_
      -- bring one copy to the front, one behind
      have p1 : (vs.zip (VS.entry as (i + 1) ts) ++ (dbl as (i + 1) vs ts ++ (v, T.sh (fz t)) :: (v, T.sh (fz t)) :: ps)).Perm (vs.zip (VS.entry as (i + 1) ts) ++ ((v, T.sh (fz t)) :: (v, T.sh (fz t)) :: (dbl as (i + 1) vs ts ++ ps))) := by
        refine List.Perm.append_left _ ?_
        refine (List.perm_middle).trans (List.Perm.cons _ ?_)
        exact List.perm_middle
      exact p1.trans List.perm_middle
    · rw [if_neg hi, if_neg hi]
      have h2 : At K H (vs.zip ts ++ ((v, t) :: ps)) := h0.perm (List.perm_middle (l₁ := vs.zip ts)).symm
      have h3 := At.entryA as (i + 1) h2
      refine h3.perm ?_
      have p1 : (vs.zip (VS.entry as (i + 1) ts) ++ (dbl as (i + 1) vs ts ++ (v, t) :: ps)).Perm (vs.zip (VS.entry as (i + 1) ts) ++ ((v, t) :: (dbl as (i + 1) vs ts ++ ps))) := List.Perm.append_left _ List.perm_middle
      exact p1.trans List.perm_middle
theorem prs_map : ∀ {vs : List V} {ts : List T}, prs (vs.map some) (ts.map some) = vs.zip ts
  | [], ts => by cases ts <;> rfl
  | _ :: _, [] => rfl
  | v :: vs, t :: ts => congrArg ((v, t) :: ·) (prs_map (vs := vs) (ts := ts))
theorem prs_start : ∀ {vs : List V} {ts : List T} {n : Nat}, vs.length = ts.length → prs (vs.map some ++ List.replicate n none) (ts.map some ++ List.replicate n none) = vs.zip ts ∧ Fit (vs.map some ++ List.replicate n none) (ts.map some ++ List.replicate n none)
  | [], [], n, _ => by
    induction n with
    | zero => exact ⟨rfl, trivial⟩
    | succ n ih => exact ih
  | v :: vs, t :: ts, n, h => by
    obtain ⟨h1, h2⟩ := prs_start (vs := vs) (ts := ts) (n := n) (Nat.succ.inj h)
    exact ⟨congrArg ((v, t) :: ·) h1, h2⟩
  | [], _ :: _, _, h => nomatch h
  | _ :: _, [], _, h => nomatch h
/-- behind the body: the arguments as they have become -/
theorem prs_outs (as : List Nat) : ∀ {vs : List V} {ts : List T} {σ : St} {S S0 : Sto} (i : Nat), vs.length = ts.length → (∀ j, (S[j]?).getD none = (S0[i + j]?).getD none) → (∀ j v, vs[j]? = some v → i + j ∉ as → σ[j]? = some (some v)) →
    Sub (prs (vs.map some) (outs as S0 i ts)) (prs σ S ++ dbl as i vs ts)
  | [], [], σ, S, S0, i, _, _, _ => ⟨prs σ S, by simp [dbl, prs]⟩
  | v :: vs, t :: ts, σ, S, S0, i, l, hS, hk => by
    have ih := fun (σ' : St) (S' : Sto) (a : ∀ j, (S'[j]?).getD none = (S0[i + 1 + j]?).getD none) (b : ∀ j v, vs[j]? = some v → i + 1 + j ∉ as → σ'[j]? = some (some v)) => prs_outs as (vs := vs) (ts := ts) (σ := σ') (S := S') (S0 := S0) (i + 1) (Nat.succ.inj l) a b
    have hS' : ∀ j, ((S.drop 1)[j]?).getD none = (S0[i + 1 + j]?).getD none := fun j => by
      rw [List.getElem?_drop, hS (1 + j)]
      congr 2
      omega
    have hk' : ∀ j w, vs[j]? = some w → i + 1 + j ∉ as → (σ.drop 1)[j]? = some (some w) := fun j w h1 h2 => by
      rw [List.getElem?_drop, Nat.add_comm]
      have z : i + (j + 1) = i + 1 + j := by omega
      exact hk (j + 1) w (by simpa using h1) (by rw [z]; exact h2)
    have q := ih (σ.drop 1) (S.drop 1) hS' hk'
    have tl : Sub (prs (σ.drop 1) (S.drop 1)) (prs σ S) := by
      cases σ with
      | nil => exact Sub.refl
      | cons o σ =>
        cases S with
        | nil =>
          cases o <;> cases σ with
          | nil => exact Sub.refl
          | cons o2 σ => cases o2 <;> exact Sub.refl
        | cons u S =>
          cases o <;> cases u
          · exact Sub.refl
          · exact Sub.refl
          · exact Sub.refl
          · exact Sub.refl.skip
    by_cases hi : i ∈ as
    · have e1 : outs as S0 i (t :: ts) = some (.sh (fz t)) :: outs as S0 (i + 1) ts := by
        show (if i ∈ as then _ else _) :: _ = _
        rw [if_pos hi]
      have e2 : dbl as i (v :: vs) (t :: ts) = (v, .sh (fz t)) :: dbl as (i + 1) vs ts := by
        show (if i ∈ as then _ else _) = _
        rw [if_pos hi]
      rw [e1, e2]
      show Sub ((v, .sh (fz t)) :: prs (vs.map some) (outs as S0 (i + 1) ts)) _
      exact ((q.trans (tl.append_right _)).cons).trans (Sub.of_perm List.perm_middle)
    · have e1 : outs as S0 i (t :: ts) = (S0[i]?).getD none :: outs as S0 (i + 1) ts := by
        show (if i ∈ as then _ else _) :: _ = _
        rw [if_neg hi]
      have e2 : dbl as i (v :: vs) (t :: ts) = dbl as (i + 1) vs ts := by
        show (if i ∈ as then _ else _) = _
        rw [if_neg hi]
      rw [e1, e2]
      have h0 := hS 0
      have hv := hk 0 v rfl hi
      cases σ with
      | nil => simp at hv
      | cons o σ =>
        have ho : o = some v := by simpa using hv
        subst ho
        cases S with
        | nil =>
          have z : (S0[i]?).getD none = none := by
            have : (S0[i + 0]?).getD none = none := by rw [← h0]; rfl
            simpa using this
          rw [z]
          show Sub (prs (vs.map some) (outs as S0 (i + 1) ts)) _
          exact q.trans (tl.append_right _)
        | cons u S =>
          have z : (S0[i]?).getD none = u := by
            have : (S0[i + 0]?).getD none = u := by rw [← h0]; rfl
            simpa using this
          rw [z]
          cases u with
          | none =>
            show Sub (prs (vs.map some) (outs as S0 (i + 1) ts)) _
            exact q
          | some u =>
            show Sub ((v, u) :: prs (vs.map some) (outs as S0 (i + 1) ts)) ((v, u) :: (prs σ S ++ dbl as (i + 1) vs ts))
            exact q.cons
  | [], _ :: _, _, _, _, _, l, _, _ => nomatch l
  | _ :: _, [], _, _, _, _, l, _, _ => nomatch l
end
section
variable {P : Program} {w : World} {K : PySem.W.Frag} {mg : Str → Option Value} {base : Heap}
end
end VS
/-! VS: the top's facts, the end of a law. -/
namespace VS
open PySem PySem.Spec PyProof.Rows L2

/-- a constant of the module -/
def Cst (K : PySem.W.Frag) (mg : Str → Option Value) (x : Str) (d : D) : Prop := ∃ v u, mg x = some u ∧ RelV v u ∧ ∀ G, Rep K G v d
/-- a def of the module -/
def Def (K : PySem.W.Frag) (mg : Str → Option Value) (x : Str) (st : Stmt) : Prop := ∃ f fd, FunD K x x (defArgs st) (defBody st) (defScope st) [] [] f fd ∧ mg x = some (.ref f)
section
variable {X : Cx} {pos : Pos}
theorem vp_cst {x : Str} {d : D} (c : Cst X.K X.mg x d) (hg : Gl X x := by rfl) (hd : (x == ("__debug__" : Str)) = false := by decide) : VP X (.Name x pos) (pC d) := by
  obtain ⟨v, u, hm, r, rd⟩ := c
  exact vp_glob hg hm r rd hd
theorem ve_cst {x : Str} {d : D} (c : Cst X.K X.mg x d) (hg : Gl X x := by rfl) (hd : (x == ("__debug__" : Str)) = false := by decide) : VE X (.Name x pos) (eC d) := by
  obtain ⟨v, u, hm, r, rd⟩ := c
  exact ve_glob hg hm r rd hd
end
section
variable {K : PySem.W.Frag} {h : Heap} {mg : Str → Option Value}
theorem cst_str (X : K.In h) (G : h.Ns mainGlobals mg) {x z : Str} (c : (He.Fa.str x z).ok K = true) : Cst K mg x (.str z) := by
  obtain ⟨t, e⟩ := He.str_ok X G c
  exact ⟨.str z, _, e, ⟨t, rfl⟩, fun _ => rfl⟩
theorem cst_int (X : K.In h) (G : h.Ns mainGlobals mg) {x : Str} {i : Int} (c : (He.Fa.int x i).ok K = true) : Cst K mg x (.int i) := by
  obtain ⟨t, e⟩ := He.int_ok X G c
  exact ⟨.int i, _, e, ⟨t, rfl⟩, fun _ => rfl⟩
/-- scalars as the head's data -/
def dvD : D → He.Dv
  | .non => .non
  | .bl b => .bl b
  | .int i => .int i
  | .str x => .str x
  | _ => .non
theorem reps_dv {G : Hp} : ∀ {ds : List D}, ds.all sc = true → Reps K G ((ds.map dvD).map (He.Dv.v K)) ds
  | [], _ => trivial
  | d :: ds, q => by
    rw [List.all_cons, Bool.and_eq_true] at q
    refine ⟨?_, reps_dv q.2⟩
    cases d with
    | lst _ => cases q.1
    | tup _ => cases q.1
    | ob _ _ _ => cases q.1
    | dct _ _ => cases q.1
    | lck _ _ _ => cases q.1
    | _ => rfl
theorem cst_tup (X : K.In h) (G : h.Ns mainGlobals mg) {x : Str} {ds : List D} (c : (He.Fa.glo x).ok K = true) (t : He.tupB K x (ds.map dvD) = true) (hs : ds.all sc = true) : Cst K mg x (.tup ds) :=
  ⟨.ref (He.ga K x), _, He.glo_ok X G c, rfl, fun H => ⟨_, _, rfl, He.tupB_ok t H, reps_dv hs⟩⟩
theorem def_of (X : K.In h) (G : h.Ns mainGlobals mg) {x : Str} {st : Stmt} (c : (He.Fa.glo x).ok K = true) (d : ∃ fd, FunD K x x (defArgs st) (defBody st) (defScope st) [] [] (He.ga K x) fd) : Def K mg x st := by
  obtain ⟨fd, F⟩ := d
  exact ⟨_, fd, F, He.glo_ok X G c⟩
end
theorem PSs.weak {X : Cx} {as bs : List Nat} {st : List Stmt} {m : MS} (h : VSs X as st m) (k : ∀ i ∈ as, i ∈ bs) : VSs X bs st m := PSs.imp h fun D σ H ⟨S, fr, f, h, e, q⟩ => ⟨S, fr, f, h, e, q.mono k⟩
section
variable {P : Program} {w : World} {K : PySem.W.Frag} {mg : Str → Option Value} {base : Heap}
theorem defOk {x qx : Str} {st : Stmt} {f : Addr} {fd : FuncData} {N ps : List Str} {k : Nat} {as : List Nat} (asP : List Nat) {b : MS} (F : FunD K x qx (defArgs st) (defBody st) (defScope st) [] [] f fd) (S : FnScope N ps (defScope st))
    (hb : ∀ (cdv : Value) (A : Around) (outer : List Env) (s : Shared) (H : Hp) (E : XK), RoomG k (A.deeper (envOfC qx (defScope st) s.heap.objs.size f cdv)) → VSs (cxOf CX0 P w K mg base N qx (defScope st) f cdv A outer s H E).nox as (defBody st) b) (hsub : ∀ i, i < ps.length → i ∈ as → i ∈ asP) :
    FnG P w K mg base (k + 1) f fd ps (spV K ps.length (mkFn ps.length N.length asP b)) := by
  refine FnG.of F S (fun vs H Q E ⟨_, _, _, _, h, _⟩ => h) fun cdv A outer s H vs Q E hr hsp => ⟨_, PSs.nox (hb cdv A outer s H E hr), ?_⟩
  obtain ⟨ts, fr, r, ts', l1, l2, h, e, l3, q⟩ := hsp
  have hpl : ps.length ≤ N.length := by
    have := congrArg List.length S.pre
    rw [List.length_take] at this
    omega
  unfold mkFn at e
  rw [if_pos l2] at e
  obtain ⟨fl, e1, e2⟩ := Option.bind_eq_some_iff.mp e
  have h1 := At.entryA asP 0 h
  have lz : vs.length = (entry asP 0 ts).length := by rw [entry_length, l1, l2]
  obtain ⟨p1, p2⟩ := prs_start (n := N.length - ps.length) lz
  have hst : L2.start N vs = vs.map some ++ List.replicate (N.length - ps.length) none := by
    unfold L2.start
    rw [l1]
  rw [hst]
  refine ⟨(entry asP 0 ts).map some ++ List.replicate (N.length - ps.length) none, dbl asP 0 vs ts ++ fr, fl, ⟨p2, by rw [p1]; exact h1⟩, e1, ?_⟩
  have fin : ∀ (σ' : St) (v : V) (H' : Hp) (S' : Sto) (t : T), Keep as (vs.map some ++ List.replicate (N.length - ps.length) none) σ' → AtS K H' σ' S' ((v, t) :: (dbl asP 0 vs ts ++ fr)) → ts' = outs asP S' 0 ts → r = t → Q v H' := fun σ' v H' S' t kp h2 e3 e4 => by
    subst e3 e4
    refine q v H' ?_
    have s1 := prs_outs asP (vs := vs) (ts := ts) (σ := σ') (S := S') (S0 := S') 0 (l1.trans l2.symm) (fun j => by rw [Nat.zero_add]) (fun j u h3 h4 => by
      have hj : j < vs.length := (List.getElem?_eq_some_iff.mp h3).1
      rw [kp.2 j (fun z => h4 (by rw [Nat.zero_add]; exact hsub j (by omega) z))]
      rw [List.getElem?_append_left (by rw [List.length_map]; exact hj), List.getElem?_map, h3] <;> rfl)
    refine h2.2.sub ?_
    show Sub ((v, r) :: (prs (vs.map some) (outs asP S' 0 ts) ++ fr)) (prs σ' S' ++ (v, r) :: (dbl asP 0 vs ts ++ fr))
    refine Sub.trans (qs := (v, r) :: (prs σ' S' ++ (dbl asP 0 vs ts ++ fr))) ?_ (Sub.of_perm List.perm_middle)
    refine Sub.cons ?_
    rw [← List.append_assoc]
    exact s1.append_right fr
  cases fl with
  | nx S' =>
    cases e2
    exact fun σ' H' kp h2 => fin σ' .non H' S' (.sh .non) kp (h2.new fun _ => rfl) rfl rfl
  | rt t S' =>
    obtain ⟨rfl, rfl⟩ : t = r ∧ outs asP S' 0 ts = ts' := by simpa using e2
    exact fun σ' v H' kp h2 => fin σ' v H' S' t kp h2 rfl rfl
  | bk S' => cases e2
  | ct S' => cases e2
theorem Good.mkD {x qx : Str} {st : Stmt} {f : Addr} {fd : FuncData} {N ps : List Str} {k : Nat} {as : List Nat} (asP : List Nat) {b : MS} (F : FunD K x qx (defArgs st) (defBody st) (defScope st) [] [] f fd) (hm : mg x = some (.ref f)) (hbd : Binds K fd ps []) (S : FnScope N ps (defScope st))
    (hb : ∀ (cdv : Value) (A : Around) (outer : List Env) (s : Shared) (H : Hp) (E : XK), RoomG k (A.deeper (envOfC qx (defScope st) s.heap.objs.size f cdv)) → VSs (cxOf CX0 P w K mg base N qx (defScope st) f cdv A outer s H E).nox as (defBody st) b) (hsub : ∀ i, i < ps.length → i ∈ as → i ∈ asP) :
    Good P w K mg base x (k + 1) ps (mkFn ps.length N.length asP b) := ⟨f, fd, hm, F.kp, hbd, defOk asP F S hb hsub⟩
end
/-- the script, and what is wanted of the law -/
theorem Reps.ints {K : PySem.W.Frag} {H : Hp} : ∀ (ns : List Int), Reps K H (ns.map V.int) (ns.map D.int)
  | [] => trivial
  | _ :: ns => ⟨rfl, Reps.ints ns⟩
theorem spV_law {K : PySem.W.Frag} {m : Fn} {H : Hp} {a : Addr} {ns : List Int} {E : XK} (hS : SqL K H a (ns.map V.int)) (h : ∃ ts', m [.sh (.lst (ns.map .int))] = some (.sh (.bl true), ts') ∧ ts'.length = 1) : spV K 1 m [.ref a] H (fun v _ => v = .bl true) E := by
  obtain ⟨ts', e, l⟩ := h
  refine ⟨[.sh (.lst (ns.map .int))], [], _, ts', rfl, rfl, ?_, e, l, fun v H' k => ?_⟩
  · exact ⟨H, [], Same.refl H, ⟨[], [], rfl, ⟨rfl, a, _, rfl, hS, Reps.ints ns⟩, rfl⟩, List.nodup_nil, (by intro b hb; cases hb), (by intro b hb; cases hb)⟩
  · exact (show At K H' ((v, .sh (.bl true)) :: _) from k).rep
end VS
/-! VS: more rules. -/
namespace VS
open PySem PySem.Spec PyProof.Rows L2
section
variable {X : Cx} {e a b c : Expr} {es : List Expr} {pos : Pos}
/-- f(e), one value, a scalar back -/
def eC1 (g : List D → Option D) (m : ME) : ME := fun S => (m S).bind fun p => sD (g [fz p.1]) p.2
theorem eC1_imp {g : List D → Option D} {m : ME} {σ : St} {H : Hp} {Q : VK} (h : tV X.K (eC1 g m) σ H Q) : tCB (rC X.K g) (tCons (tV X.K m) tNil) σ H Q := by
  obtain ⟨S, fr, t, S', h, e, q⟩ := h
  obtain ⟨⟨t0, S1⟩, e1, e⟩ := Option.bind_eq_some_iff.mp e
  obtain ⟨d, e2, hs, rfl, rfl⟩ := sD_some e
  exact ⟨S, fr, t0, _, h, e1, fun v H1 h1 => ⟨[fz t0], d, ⟨h1.rep, trivial⟩, e2, fun z rz => q z H1 (h1.drop1.new (scRep hs rz))⟩⟩
theorem ve_callB1 {x : Str} {p : Pos} {id : String} {g : List D → Option D} {m : ME} (hc : CallR X (.builtin id) (rC X.K g)) (hm : X.mg x = none) (hv : bootBuiltins x = some (.builtin id)) (ha : VE X e m) (hg : Gl X x := by rfl) (hn : x ≠ "__name__" := by decide)
    (hdb : (x == ("__debug__" : Str)) = false := by decide) (he : starEach [e] X.env = (false, eval e X.env) :: starEach [] X.env := by rfl) (hpl : (backTo pos (starEach [] X.env)).any (·.1) = false := by rfl) : VE X (.Call (.Name x p) [e] [] pos) (eC1 g m) :=
  PE.imp (pe_callB hc hg hm hv (pa_cons ha pa_nil he) hn hdb he hpl) fun σ H Q h => eC1_imp h
theorem ve_callTy1 {x : Str} {p : Pos} {T : String} {g : List D → Option D} {m : ME} (hc : CallR X (.type T) (rC X.K g)) (hm : X.mg x = none) (hv : bootBuiltins x = some (.type T)) (ha : VE X e m) (hg : Gl X x := by rfl) (hn : x ≠ "__name__" := by decide)
    (hdb : (x == ("__debug__" : Str)) = false := by decide) (he : starEach [e] X.env = (false, eval e X.env) :: starEach [] X.env := by rfl) (hpl : (backTo pos (starEach [] X.env)).any (·.1) = false := by rfl) : VE X (.Call (.Name x p) [e] [] pos) (eC1 g m) :=
  PE.imp (pe_callTy hc hg hm hv (pa_cons ha pa_nil he) hn hdb he hpl) fun σ H Q h => eC1_imp h
/-- range(e), range(a, b) of no pure things -/
def iRng1E (m : ME) : MI := fun S => (m S).bind fun p => match fz p.1 with
  | .int j => if near j = true then some (rngD 0 j.toNat, p.2) else none
  | _ => none
theorem vi_range1E {tg : Expr} {p : Pos} {m : ME} (hm : X.mg "range" = none) (ha : VE X a m) (hg : Gl X "range" := by rfl) (hs : starEach [a] X.env = [(false, eval a X.env)] := by rfl) : VI X tg (.Call (.Name "range" p) [a] [] pos) (iRng1E m) := PI.imp (pi_range1 hg hm (pa_cons ha pa_nil hs) hs) fun σ H R ⟨S, fr, ds, S', h, e, q⟩ => by
  obtain ⟨⟨t, S1⟩, e1, e⟩ := Option.bind_eq_some_iff.mp e
  refine ⟨S, fr, t, S1, h, e1, fun v H1 h1 => ?_⟩
  simp only at e
  split at e
  · rename_i j ej
    split at e
    · rename_i hn
      obtain ⟨rfl, rfl⟩ : rngD 0 j.toNat = ds ∧ S1 = S' := by simpa using e
      have r := h1.rep
      rw [ej] at r
      have hn := of_decide_eq_true hn
      exact ⟨j, by rw [show v = .int j from r], hn.1, hn.2, q _ H1 [] feeds_rng h1.drop1⟩
    · cases e
  · cases e
def dAddI : D → D → Option D
  | .int i, .int j => some (.int (i + j))
  | _, _ => none
theorem oa_addI : PIp X .Add (rAug X.K dAddI) := by
  intro pins s σ H x y v u Q I rx ry ⟨dx, dy, d, r1, r2, e, q⟩
  cases dx with
  | int i =>
    cases dy with
    | int j =>
      have z : D.int (i + j) = d := by simpa [dAddI] using e
      subst z
      rw [show x = .int i from r1] at rx
      rw [show y = .int j from r2] at ry
      exact ip_add pins s σ H _ _ v u Q I rx ry ⟨i, j, rfl, rfl, q _ rfl⟩
    | _ => cases e
  | _ => cases dy <;> cases e
theorem addI_sc (d0 d d1 : D) (h : dAddI d0 d = some d1) : sc d0 = true := by
  cases d0 <;> cases d <;> first | rfl | cases h
end
/-- the turns that a while may make -/
def fuel : Nat := 1000000000
/-! ### a value that is shared from now on -/
def eFz (m : ME) : ME := fun S => (m S).bind fun p => some (.sh (fz p.1), p.2)
theorem ve_fz {m : ME} (h : VE X e m) : VE X e (eFz m) := PE.imp h fun σ H Q ⟨S, fr, t, S', h, e, q⟩ => by
  obtain ⟨⟨u, S1⟩, e1, e2⟩ := Option.bind_eq_some_iff.mp e
  cases e2
  exact ⟨S, fr, u, _, h, e1, fun v H1 h1 => q v H1 h1.freeze⟩
end VS
namespace VS
open PySem PySem.Spec PyProof.Rows L2
/-! ### repr of data -/
def shows (d : D) : Bool := pureD d && (py d).showable && decide ((py d).depth ≤ 40) && decide ((py d).shown.length ≤ 10000000)
def dRepr : List D → Option D
  | [.lst xs] => if shows (.lst xs) = true then some (.str (py (.lst xs)).shown) else none
  | [.tup xs] => if shows (.tup xs) = true then some (.str (py (.tup xs)).shown) else none
  | [.int i] => if i.natAbs.log2 < 1920 then some (.str (toString i)) else none
  | _ => none
mutual
theorem py_noDict : ∀ d : D, (py d).hasDict = false
  | .non => rfl
  | .bl _ => rfl
  | .int _ => rfl
  | .str _ => rfl
  | .lst xs => pyL_noDict xs
  | .tup xs => pyL_noDict xs
  | .ob _ _ _ => rfl
  | .dct _ _ => rfl
  | .lck _ _ _ => rfl
theorem pyL_noDict : ∀ ds : List D, PyData.hasDictAll (pyL ds) = false
  | [] => rfl
  | d :: ds => by
    show (PyData.hasDict (py d) || PyData.hasDictAll (pyL ds)) = false
    rw [py_noDict d, pyL_noDict ds]
    rfl
end
section
variable {X : Cx}
theorem repr_ref {pins : List (Addr × Obj)} {σ : St} {H : Hp} {s : Shared} {Q : VK} {a : Addr} {d : D} {as : List Addr} (hg : X.A.guards = some []) (hu : X.A.units + 64 < cLine) (I : Inv X pins σ H s) (r : Reads s.heap (.ref a) (py d) as) (ok : shows d = true) (q : Q (.str (py d).shown) H) :
    wpAny (model X.prog X.w) X.A (call (.builtin "repr") [.ref a]) (EP X pins σ Q) X.xe s := by
  unfold shows at ok
  rw [Bool.and_eq_true, Bool.and_eq_true, Bool.and_eq_true, decide_eq_true_eq, decide_eq_true_eq] at ok
  obtain ⟨⟨⟨_, o1⟩, o2⟩, o3⟩ := ok
  refine repr_of_reads' r o1 (PyData.noDict_hsm (py_noDict d)) hg (by omega) (fun b o e => e) (fun h' u tk kp => ?_) (Nat.le_trans o3 (by decide))
  exact ⟨.str _, H, I.kept kp, ⟨u, rfl⟩, q⟩
theorem shows_pure {d : D} (h : shows d = true) : pureD d = true := by
  unfold shows at h
  rw [Bool.and_eq_true, Bool.and_eq_true, Bool.and_eq_true] at h
  exact h.1.1.1
theorem od_repr (hg : X.A.guards = some []) (hu : X.A.units + 64 < cLine) : CallR X (.builtin "repr") (rC X.K dRepr) := by
  intro pins s σ H xs us Q I rx ⟨ds, d, r, e, q⟩
  unfold dRepr at e
  split at e
  · rename_i ys
    split at e
    · rename_i hl
      have z := Option.some.inj e
      subst z
      obtain ⟨v, rfl, r1⟩ := r.one
      obtain ⟨a, vs, rfl, k, rs⟩ := (show Rep X.K H v (.lst ys) from r1)
      cases rx with
      | cons r0 rn =>
        cases rn
        obtain ⟨as, rd⟩ := Dp.reads I (py (.lst ys)) _ _ (Rep.dp (d := .lst ys) (shows_pure hl) r1) r0
        cases r0
        exact repr_ref hg hu I rd hl (q _ rfl)
    · cases e
  · rename_i ys
    split at e
    · rename_i hl
      have z := Option.some.inj e
      subst z
      obtain ⟨v, rfl, r1⟩ := r.one
      obtain ⟨a, vs, rfl, k, rs⟩ := (show Rep X.K H v (.tup ys) from r1)
      cases rx with
      | cons r0 rn =>
        cases rn
        obtain ⟨as, rd⟩ := Dp.reads I (py (.tup ys)) _ _ (Rep.dp (d := .tup ys) (shows_pure hl) r1) r0
        cases r0
        exact repr_ref hg hu I rd hl (q _ rfl)
    · cases e
  · split at e
    · rename_i hl
      have z := Option.some.inj e
      subst z
      obtain ⟨v, rfl, r1⟩ := r.one
      rw [show v = .int _ from r1] at rx
      exact SkE.call_repr_int pins s σ H _ us Q I rx ⟨_, rfl, hl, q _ rfl⟩
    · cases e
  · cases e
end
end VS
namespace VS
open PySem PySem.Spec PyProof.Rows L2
/-! ### parts of a list; lists backwards -/
def cutD {α : Type} (xs : List α) (lo hi : Option Int) : List α := (xs.drop (HT.sIx xs.length 0 lo)).take (HT.sIx xs.length xs.length hi - HT.sIx xs.length 0 lo)
theorem zip_drop' {α β : Type} : ∀ (n : Nat) (a : List α) (b : List β), (a.drop n).zip (b.drop n) = (a.zip b).drop n
  | 0, a, b => rfl
  | n + 1, [], b => by simp
  | n + 1, a :: as, [] => by simp
  | n + 1, a :: as, b :: bs => zip_drop' n as bs
theorem zip_take' {α β : Type} : ∀ (n : Nat) (a : List α) (b : List β), (a.take n).zip (b.take n) = (a.zip b).take n
  | 0, a, b => rfl
  | n + 1, [], b => by simp
  | n + 1, a :: as, [] => by simp
  | n + 1, a :: as, b :: bs => by
    show (a, b) :: (as.take n).zip (bs.take n) = (a, b) :: (as.zip bs).take n
    rw [zip_take' n as bs]
theorem sub_cut {α : Type} (l : List α) (i n : Nat) : ∃ r, l.Perm (r ++ (l.drop i).take n) := by
  refine ⟨l.take i ++ (l.drop i).drop n, ?_⟩
  have e : l = l.take i ++ ((l.drop i).take n ++ (l.drop i).drop n) := by rw [List.take_append_drop, List.take_append_drop]
  conv => lhs; rw [e]
  rw [List.append_assoc]
  exact List.Perm.append_left _ List.perm_append_comm
section
variable {K : PySem.W.Frag} {H : Hp} {ps : Ps}
theorem At.cut {vs : List V} {ts : List T} (h : At K H (vs.zip ts ++ ps)) (i n : Nat) : At K H (((vs.drop i).take n).zip ((ts.drop i).take n) ++ ps) := by
  rw [zip_take', zip_drop']
  exact h.sub (Sub.append_right (sub_cut (vs.zip ts) i n) ps)
theorem At.rev {vs : List V} {ts : List T} (h : At K H (vs.zip ts ++ ps)) (l : vs.length = ts.length) : At K H (vs.reverse.zip ts.reverse ++ ps) := by
  rw [show vs.reverse.zip ts.reverse = (vs.zip ts).reverse by rw [List.zip_eq_zipWith, List.zip_eq_zipWith, List.reverse_zipWith l]]
  exact h.perm (List.Perm.append_right _ (List.reverse_perm _).symm)
theorem cutV_eq {α : Type} (xs : List α) (lo hi : Option Int) : (xs.drop (HT.sIx xs.length 0 lo)).take (HT.sIx xs.length xs.length hi - HT.sIx xs.length 0 lo) = cutD xs lo hi := rfl
end
section
variable {X : Cx} {a b c e : Expr} {es : List Expr} {pos : Pos}
/-- e[i:j], e a list -/
def eSlL (m : ME) (l h : Sto → Option (Option Int)) : ME := fun S => (m S).bind fun p => (l p.2).bind fun lo => (h p.2).bind fun hi => match fz p.1 with
  | .lst ds => some (.lst ((cutD ds lo hi).map .sh), p.2)
  | _ => none
theorem ve_slL {lo hi : Option Expr} {m : ME} {l h : Sto → Option (Option Int)} {p2 : Pos} (he : VE X e m) (hl : PO X lo (tPO X.K l)) (hh : PO X hi (tPO X.K h)) : VE X (.Subscript e (.Slice lo hi none p2) pos) (eSlL m l h) :=
  PE.imp (pe_slice sl_list he hl hh) fun σ H Q ⟨S, fr, t, S', h0, e, q⟩ => by
    obtain ⟨⟨t0, S1⟩, e1, e⟩ := Option.bind_eq_some_iff.mp e
    obtain ⟨lo', e2, e⟩ := Option.bind_eq_some_iff.mp e
    obtain ⟨hi', e3, e⟩ := Option.bind_eq_some_iff.mp e
    refine ⟨S, fr, t0, S1, h0, e1, fun v H1 h1 => ⟨S1, (v, .sh (fz t0)) :: fr, lo', h1.freeze, e2, S1, (v, .sh (fz t0)) :: fr, hi', h1.freeze, e3, ?_⟩⟩
    simp only at e
    split at e
    · rename_i ds ed
      obtain ⟨rfl, rfl⟩ : T.lst ((cutD ds lo' hi').map .sh) = t ∧ S1 = S' := by simpa using e
      have h2 := h1.freeze
      rw [ed] at h2
      obtain ⟨a, us, rfl, k, l2, h3⟩ := h2.at1.kids
      refine ⟨a, us, rfl, k, fun p hp => q _ _ (AtS.of h2.1 (At.newL ?_ ?_ hp))⟩
      · have z := h3.cut (HT.sIx us.length 0 lo') (HT.sIx us.length us.length hi' - HT.sIx us.length 0 lo')
        have e4 : (cutD ds lo' hi').map T.sh = ((ds.map T.sh).drop (HT.sIx us.length 0 lo')).take (HT.sIx us.length us.length hi' - HT.sIx us.length 0 lo') := by
          unfold cutD
          rw [List.map_take, List.map_drop, l2]
        rw [e4]
        exact z
      · rw [List.length_map]
        show (cutD us lo' hi').length = (cutD ds lo' hi').length
        unfold cutD
        rw [List.length_take, List.length_take, List.length_drop, List.length_drop, l2]
    · cases e
/-- e[::-1] -/
def eRevL (m : ME) : ME := fun S => (m S).bind fun p => match fz p.1 with
  | .lst ds => some (.lst (ds.reverse.map .sh), p.2)
  | _ => none
theorem ve_revL {m : ME} {k : Nat} {p1 p2 p3 : Pos} (he : VE X e m) : VE X (.Subscript e (.Slice none none (some (.UnaryOp .USub (.Constant (.int 1) k p1) p2)) p3) pos) (eRevL m) :=
  PE.imp (pe_revL he) fun σ H Q ⟨S, fr, t, S', h0, e, q⟩ => by
    obtain ⟨⟨t0, S1⟩, e1, e⟩ := Option.bind_eq_some_iff.mp e
    refine ⟨S, fr, t0, S1, h0, e1, fun v H1 h1 => ?_⟩
    simp only at e
    split at e
    · rename_i ds ed
      obtain ⟨rfl, rfl⟩ : T.lst (ds.reverse.map .sh) = t ∧ S1 = S' := by simpa using e
      have h2 := h1.freeze
      rw [ed] at h2
      obtain ⟨a, us, rfl, k, l2, h3⟩ := h2.at1.kids
      refine ⟨a, us, rfl, k, fun p hp => q _ _ (AtS.of h2.1 (At.newL ?_ ?_ hp))⟩
      · rw [List.map_reverse]
        exact h3.rev (by rw [List.length_map]; exact l2)
      · rw [List.length_map, List.length_reverse, List.length_reverse]
        exact l2
    · cases e
/-! ### truth of no pure things, as values -/
def eAnd (p r : ME) : ME := fun S => (p S).bind fun x => (asB (fz x.1)).bind fun k => if k = true then r x.2 else some (.sh (.bl false), x.2)
def eOr (p r : ME) : ME := fun S => (p S).bind fun x => (asB (fz x.1)).bind fun k => if k = true then some (.sh (.bl true), x.2) else r x.2
def eNot (p : ME) : ME := fun S => (p S).bind fun x => (asB (fz x.1)).bind fun k => some (.sh (.bl (!k)), x.2)
theorem ve_one {op} {p : ME} (h : VE X a p) : VE X (.BoolOp op [a] pos) p := pe_one h
theorem bl_of {σ : St} {H : Hp} {S : Sto} {fr : Ps} {v : V} {t : T} {k : Bool} (h : AtS X.K H σ S ((v, t) :: fr)) (e : asB (fz t) = some k) : v = .bl k := by
  have r := h.rep
  rw [asB_some e] at r
  exact r
theorem ve_and {p r : ME} (h : VE X a p) (h2 : VE X (.BoolOp .And (b :: es) pos) r) : VE X (.BoolOp .And (a :: b :: es) pos) (eAnd p r) := PE.imp (pe_and h h2) fun σ H Q ⟨S, fr, t, S', h0, e, q⟩ => by
  obtain ⟨⟨t0, S1⟩, e1, e⟩ := Option.bind_eq_some_iff.mp e
  obtain ⟨k, e2, e⟩ := Option.bind_eq_some_iff.mp e
  refine ⟨S, fr, t0, S1, h0, e1, fun v H1 h1 => ⟨k, bl_of h1 e2, ?_⟩⟩
  cases k with
  | true => exact iteT ⟨S1, fr, t, S', h1.drop1, by simpa using e, q⟩
  | false =>
    obtain ⟨rfl, rfl⟩ : T.sh (.bl false) = t ∧ S1 = S' := by simpa using e
    exact iteF (q _ _ (h1.drop1.new fun _ => rfl))
theorem ve_or {p r : ME} (h : VE X a p) (h2 : VE X (.BoolOp .Or (b :: es) pos) r) : VE X (.BoolOp .Or (a :: b :: es) pos) (eOr p r) := PE.imp (pe_or h h2) fun σ H Q ⟨S, fr, t, S', h0, e, q⟩ => by
  obtain ⟨⟨t0, S1⟩, e1, e⟩ := Option.bind_eq_some_iff.mp e
  obtain ⟨k, e2, e⟩ := Option.bind_eq_some_iff.mp e
  refine ⟨S, fr, t0, S1, h0, e1, fun v H1 h1 => ⟨k, bl_of h1 e2, ?_⟩⟩
  cases k with
  | false => exact iteF ⟨S1, fr, t, S', h1.drop1, by simpa using e, q⟩
  | true =>
    obtain ⟨rfl, rfl⟩ : T.sh (.bl true) = t ∧ S1 = S' := by simpa using e
    exact iteT (q _ _ (h1.drop1.new fun _ => rfl))
theorem ve_not {p : ME} (h : VE X a p) : VE X (.UnaryOp .Not a pos) (eNot p) := PE.imp (pe_not h) fun σ H Q ⟨S, fr, t, S', h0, e, q⟩ => by
  obtain ⟨⟨t0, S1⟩, e1, e⟩ := Option.bind_eq_some_iff.mp e
  obtain ⟨k, e2, e⟩ := Option.bind_eq_some_iff.mp e
  obtain ⟨rfl, rfl⟩ : T.sh (.bl (!k)) = t ∧ S1 = S' := by simpa using e
  exact ⟨S, fr, t0, S1, h0, e1, fun v H1 h1 => ⟨k, bl_of h1 e2, q _ _ (h1.drop1.new fun _ => rfl)⟩⟩
/-! ### all, any, sum of a list -/
def blsD : List D → Option (List Bool)
  | [] => some []
  | .bl k :: ds => (blsD ds).map (k :: ·)
  | _ :: _ => none
def intsD : List D → Option (List Int)
  | [] => some []
  | .int k :: ds => (intsD ds).map (k :: ·)
  | _ :: _ => none
theorem bls_vals {K : PySem.W.Frag} {H : Hp} : ∀ {ds : List D} {vs : List V} {ks : List Bool}, blsD ds = some ks → Reps K H vs ds → vs = ks.map V.bl
  | [], [], ks, h, _ => by
    cases h
    rfl
  | d :: ds, v :: vs, ks, h, r => by
    cases d with
    | bl k =>
      obtain ⟨us, h1, rfl⟩ := Option.map_eq_some_iff.mp (show (blsD ds).map (k :: ·) = some ks from h)
      rw [List.map_cons, ← bls_vals h1 r.2, show v = .bl k from r.1]
    | _ => cases h
  | [], _ :: _, _, _, r => r.elim
  | _ :: _, [], _, _, r => r.elim
theorem ints_vals {K : PySem.W.Frag} {H : Hp} : ∀ {ds : List D} {vs : List V} {ks : List Int}, intsD ds = some ks → Reps K H vs ds → vs = ks.map V.int
  | [], [], ks, h, _ => by
    cases h
    rfl
  | d :: ds, v :: vs, ks, h, r => by
    cases d with
    | int k =>
      obtain ⟨us, h1, rfl⟩ := Option.map_eq_some_iff.mp (show (intsD ds).map (k :: ·) = some ks from h)
      rw [List.map_cons, ← ints_vals h1 r.2, show v = .int k from r.1]
    | _ => cases h
  | [], _ :: _, _, _, r => r.elim
  | _ :: _, [], _, _, r => r.elim
def dAll : List D → Option D
  | [.lst ds] => (blsD ds).map fun ks => .bl (ks.all id)
  | _ => none
def dAny : List D → Option D
  | [.lst ds] => (blsD ds).map fun ks => .bl (ks.any id)
  | _ => none
def dSum : List D → Option D
  | [.lst ds] => (intsD ds).map fun ks => .int ks.sum
  | _ => none
theorem od_all (hc : X.calm = true) : CallR X (.builtin "all") (rC X.K dAll) := by
  intro pins s σ H xs us Q I rx ⟨ds, d, r, e, q⟩
  unfold dAll at e
  split at e
  · rename_i ys
    obtain ⟨ks, e1, rfl⟩ := Option.map_eq_some_iff.mp e
    obtain ⟨v, rfl, a, vs, rfl, k, rs⟩ := r.one
    rw [bls_vals e1 rs] at k
    exact cr_all hc pins s σ H _ us Q I rx ⟨a, ks, rfl, k, q _ rfl⟩
  · cases e
theorem od_any (hc : X.calm = true) : CallR X (.builtin "any") (rC X.K dAny) := by
  intro pins s σ H xs us Q I rx ⟨ds, d, r, e, q⟩
  unfold dAny at e
  split at e
  · rename_i ys
    obtain ⟨ks, e1, rfl⟩ := Option.map_eq_some_iff.mp e
    obtain ⟨v, rfl, a, vs, rfl, k, rs⟩ := r.one
    rw [bls_vals e1 rs] at k
    exact cr_any hc pins s σ H _ us Q I rx ⟨a, ks, rfl, k, q _ rfl⟩
  · cases e
theorem od_sum (hc : X.calm = true) : CallR X (.builtin "sum") (rC X.K dSum) := by
  intro pins s σ H xs us Q I rx ⟨ds, d, r, e, q⟩
  unfold dSum at e
  split at e
  · rename_i ys
    obtain ⟨ks, e1, rfl⟩ := Option.map_eq_some_iff.mp e
    obtain ⟨v, rfl, a, vs, rfl, k, rs⟩ := r.one
    rw [ints_vals e1 rs] at k
    exact cr_sum hc pins s σ H _ us Q I rx ⟨a, ks, rfl, k, q _ rfl⟩
  · cases e
/-! ### tuple(e) -/
def eTupOf (ma : MA) : ME := fun S => (ma S).bind fun p => match p.1 with
  | [t] => (items (fz t)).bind fun ds => some (.sh (.tup ds), p.2)
  | _ => none
theorem fz_kids (ds : List D) : fz (.tup (ds.map .sh)) = .tup ds := by
  rw [fz, fzL_map, List.map_map]
  congr 1
  exact List.map_id ds
theorem ve_tupOf {m : MA} {ms : List (Option Nat)} {p : Pos} (ha : VM X [e] ms m) (hm : X.mg "tuple" = none) (hv : bootBuiltins "tuple" = some (.type "tuple") := by decide +kernel) (hg : Gl X "tuple" := by rfl)
    (he : starEach [e] X.env = (false, eval e X.env) :: starEach [] X.env := by rfl) (hpl : (backTo pos (starEach [] X.env)).any (·.1) = false := by rfl) : VE X (.Call (.Name "tuple" p) [e] [] pos) (eTupOf m) :=
  PE.imp (pe_callTy call_tuple_of hg hm hv ha (by decide) (by decide) he hpl) fun σ H Q ⟨S, fr, t, S', h, e, q⟩ => by
    obtain ⟨⟨ts, S1⟩, e1, e⟩ := Option.bind_eq_some_iff.mp e
    refine ⟨S, fr, ts, S1, h, e1, fun vs H1 _ l1 h1 => ?_⟩
    simp only at e
    split at e
    · rename_i t0
      obtain ⟨ds, e2, e⟩ := Option.bind_eq_some_iff.mp e
      obtain ⟨rfl, rfl⟩ : T.sh (.tup ds) = t ∧ S1 = S' := by simpa using e
      match vs, l1 with
      | [v], _ =>
        have h2 : AtS X.K H1 σ S1 ((v, .sh (fz t0)) :: fr) := AtS.freeze h1
        cases hd : fz t0 with
        | lst xs =>
          rw [hd] at h2 e2
          have z : xs = ds := by simpa [items] using e2
          subst z
          obtain ⟨a, us, rfl, k, l2, h3⟩ := h2.at1.kids
          refine ⟨a, us, rfl, .inl ⟨k, fun l hl => q _ _ ?_⟩⟩
          have z := (AtS.of h2.1 (h3.newT (by rw [List.length_map]; exact l2) hl)).freeze
          rw [fz_kids] at z
          exact z
        | tup xs =>
          rw [hd] at h2 e2
          have z : xs = ds := by simpa [items] using e2
          subst z
          have h5 := h2
          obtain ⟨a, us, rfl, k, l2, h3⟩ := h2.at1.kidsT
          exact ⟨a, us, rfl, .inr ⟨k, q _ _ h5⟩⟩
        | _ =>
          rw [hd] at e2
          cases e2
    · cases e
end
end VS
namespace VS
open PySem PySem.Spec PyProof.Rows L2
section
variable {K : PySem.W.Frag} {H : Hp} {ps : Ps} {own : List Addr}
theorem AtA.freeze {v : V} {t : T} (h : AtA K H own ((v, t) :: ps)) : AtA K H own ((v, .sh (fz t)) :: ps) := by
  obtain ⟨G, fp, s, ⟨f, g, rfl, o1, o2⟩, nd, e0, x⟩ := h
  have nf : (f ++ g).Nodup := (List.nodup_append.mp nd).2.1
  let G' : Hp := fun b => if b ∈ f then H b else G b
  have in_f : ∀ b ∈ f, G' b = H b := fun b hb => if_pos hb
  have out_f : ∀ b, b ∉ f → G' b = G b := fun b hb => if_neg hb
  have s1 : Same G G' := fun b o q => by
    by_cases hb : b ∈ f
    · rw [in_f b hb]; exact s b o q
    · rw [out_f b hb]; exact q
  have s2 : Same G' H := fun b o q => by
    by_cases hb : b ∈ f
    · rw [in_f b hb] at q; exact q
    · rw [out_f b hb] at q; exact s b o q
  have r := o1.fz s1 in_f
  have apart : ∀ b ∈ own ++ g, b ∉ f := fun b hb z => by
    rcases List.mem_append.mp hb with h1 | h1
    · exact (List.nodup_append.mp nd).2.2 b h1 b (List.mem_append_left _ z) rfl
    · exact (List.nodup_append.mp nf).2.2 b z b h1 rfl
  refine ⟨G', g, s2, ⟨[], g, rfl, ⟨rfl, r⟩, o2.mono s1 fun _ _ => rfl⟩, nd.sublist (List.Sublist.append_left (List.sublist_append_right f g) own), fun b hb => ?_, x⟩
  rw [out_f b (apart b hb)]
  refine e0 b ?_
  rcases List.mem_append.mp hb with h1 | h1
  · exact List.mem_append_left _ h1
  · exact List.mem_append_right _ (List.mem_append_right _ h1)
theorem zip_at : ∀ {vs : List V} {ts : List T} {n : Nat} {t : T}, vs.length = ts.length → ts[n]? = some t → ∃ (w : V) (A B : Ps), vs[n]? = some w ∧ vs.zip ts = A ++ (w, t) :: B ∧ ∀ u, vs.zip (ts.set n u) = A ++ (w, u) :: B
  | [], [], n, t, _, h => by simp at h
  | v :: vs, t0 :: ts, 0, t, _, h => by
    have z : t0 = t := by simpa using h
    subst z
    exact ⟨v, [], vs.zip ts, rfl, rfl, fun u => rfl⟩
  | v :: vs, t0 :: ts, n + 1, t, l, h => by
    obtain ⟨w, A, B, h1, h2, h3⟩ := zip_at (vs := vs) (ts := ts) (n := n) (Nat.succ.inj l) (by simpa using h)
    exact ⟨w, (v, t0) :: A, B, by simpa using h1, by rw [List.zip_cons_cons, h2, List.cons_append], fun u => by rw [List.set_cons_succ, List.zip_cons_cons, h3, List.cons_append]⟩
  | [], _ :: _, _, _, l, _ => nomatch l
  | _ :: _, [], _, _, l, _ => nomatch l
theorem At.frz1 {v : V} {ts : List T} {n : Nat} {t : T} (h : At K H ((v, .lst ts) :: ps)) (e : ts[n]? = some t) : At K H ((v, .lst (ts.set n (.sh (fz t)))) :: ps) := by
  obtain ⟨a, vs, rfl, ha, l, h2⟩ := h.open
  obtain ⟨w, A, B, _, z1, z2⟩ := zip_at l e
  rw [z1] at h2
  have p1 : ∀ u : T, ((A ++ (w, u) :: B) ++ ps).Perm ((w, u) :: (A ++ B ++ ps)) := fun u => by
    rw [List.append_assoc, List.append_assoc]
    exact List.perm_middle
  have h3 := (h2.perm (p1 t)).freeze.perm (p1 (.sh (fz t))).symm
  rw [← z2 (.sh (fz t))] at h3
  exact h3.closed (by rw [List.length_set]; exact l) ha
end
/-- a child of a tree, shared from now on -/
def kidF (t : T) (i : Int) : Option (D × T) := match t with
  | .lst ts => (ixN ts.length i).bind fun n => (ts[n]?).map fun t => (fz t, .lst (ts.set n (.sh (fz t))))
  | t => (kid t i).bind fun u => match u with
    | .sh d => some (d, t)
    | _ => none
theorem At.kidF {K : PySem.W.Frag} {H : Hp} {ps : Ps} {v : V} {t t' : T} {i : Int} {d : D} (h : At K H ((v, t) :: ps)) (e : VS.kidF t i = some (d, t')) : kid t' i = some (.sh d) ∧ At K H ((v, t') :: ps) := by
  cases t with
  | lst ts =>
    obtain ⟨n, e1, e2⟩ := Option.bind_eq_some_iff.mp (show ((ixN ts.length i).bind fun n => (ts[n]?).map fun t => (fz t, T.lst (ts.set n (.sh (fz t))))) = some (d, t') from e)
    obtain ⟨u, e3, e4⟩ := Option.map_eq_some_iff.mp e2
    cases e4
    refine ⟨?_, h.frz1 e3⟩
    show L2.atI (ts.set n (T.sh (fz u))) i = _
    unfold L2.atI
    rw [List.length_set, e1, Option.bind_some, List.getElem?_set_self (List.getElem?_eq_some_iff.mp e3).1]
  | sh d0 =>
    obtain ⟨u, e1, e2⟩ := Option.bind_eq_some_iff.mp (show ((kid (.sh d0) i).bind fun u => match u with | .sh d => some (d, T.sh d0) | _ => none) = some (d, t') from e)
    cases u with
    | sh d1 => cases e2; exact ⟨e1, h⟩
    | _ => cases e2
  | tup ts =>
    obtain ⟨u, e1, e2⟩ := Option.bind_eq_some_iff.mp (show ((kid (.tup ts) i).bind fun u => match u with | .sh d => some (d, T.tup ts) | _ => none) = some (d, t') from e)
    cases u with
    | sh d1 => cases e2; exact ⟨e1, h⟩
    | _ => cases e2
  | ob _ _ _ => cases e
  | dct _ _ => cases e
  | pin _ _ => cases e
section
variable {X : Cx} {b : Expr} {pos : Pos}
def eIxK (j : Nat) (mb : ME) : ME := fun S => match S[j]? with
  | some (some _) => (mb S).bind fun q => match q.2[j]? with
    | some (some t0) => (match fz q.1 with
      | .int i => (kidF t0 i).bind fun p => some (.sh p.1, q.2.set j (some p.2))
      | _ => none)
    | _ => none
  | _ => none
theorem ve_ixK (j : Nat) {x : Str} {px : Pos} {mb : ME} (hb : VE X b mb) (hs : PlainIx b := by exact fun _ _ => rfl) (hN : X.N[j]? = some x := by rfl) (hv : Vis X.env.scope x := by first | exact Or.inl rfl | exact Or.inr (Or.inl rfl) | exact Or.inr (Or.inr rfl)) (hd : (x == ("__debug__" : Str)) = false := by decide)
    (hcd : (x == ("__classdict__" : Str)) = false := by decide) : VE X (.Subscript (.Name x px) b pos) (eIxK j mb) := PE.imp (pe_ix ix_seq (pe_var hN hv hd hcd) hb hs) fun σ H Q ⟨S, fr, t, S', h, e, q⟩ => by
  unfold eIxK at e
  split at e
  · rename_i t1 e0
    obtain ⟨⟨tb, S2⟩, e2, e⟩ := Option.bind_eq_some_iff.mp e
    obtain ⟨v, hv, _⟩ := h.take e0
    refine ⟨v, hv, S, fr, tb, S2, h, e2, fun u H2 h2 => ?_⟩
    simp only at e
    split at e
    · rename_i t0 e4
      split at e
      · rename_i i ei
        obtain ⟨⟨d, t2⟩, e3, e⟩ := Option.bind_eq_some_iff.mp e
        obtain ⟨rfl, rfl⟩ : T.sh d = t ∧ S2.set j (some t2) = S' := by simpa using e
        have ru := h2.rep
        rw [ei] at ru
        rw [show u = .int i from ru]
        obtain ⟨v', hv', k⟩ := h2.take e4
        rw [hv] at hv'
        cases hv'
        obtain ⟨kk, k1⟩ := At.kidF k.at1 e3
        obtain ⟨w, ix, k2⟩ := At.peek k1 kk
        have k3 : AtS X.K H2 σ (S2.set j none) ((v, t2) :: (w, .sh d) :: fr) := (AtS.of k.1 k2 : AtS X.K H2 σ (S2.set j none) ((w, .sh d) :: (v, t2) :: (u, tb) :: fr)).sub ⟨[(u, tb)], (List.Perm.swap ..).trans (List.perm_middle (l₁ := [(v, t2), (w, T.sh d)]))⟩
        have k4 := k3.back hv
        rw [List.set_set] at k4
        exact ix.rIx (q w H2 k4)
      · cases e
    · cases e
  · cases e
/-- over a list or a tuple -/
def iSeq' (me : ME) : MI := fun S => (me S).bind fun p => (items (fz p.1)).map fun ds => (ds, p.2)
theorem vi_seq {tg e : Expr} {me : ME} (he : VE X e me) : VI X tg e (iSeq' me) := ⟨fun pins s σ H R I ⟨S, fr, ds, S', h, ev, q⟩ => by
  obtain ⟨⟨t, S1⟩, e1, e2⟩ := Option.bind_eq_some_iff.mp ev
  obtain ⟨ds', e3, e4⟩ := Option.map_eq_some_iff.mp e2
  cases e4
  cases hd : fz t with
  | lst xs =>
    rw [hd] at e3
    obtain rfl : xs = ds := by simpa [items] using e3
    refine (vi_list he).run pins s σ H R I ⟨S, fr, _, _, h, ?_, q⟩
    unfold iList'
    rw [e1, Option.bind_some]
    simp only [hd]
  | tup xs =>
    rw [hd] at e3
    obtain rfl : xs = ds := by simpa [items] using e3
    refine (vi_tup he).run pins s σ H R I ⟨S, fr, _, _, h, ?_, q⟩
    unfold iTup'
    rw [e1, Option.bind_some]
    simp only [hd]
  | _ =>
    rw [hd] at e3
    cases e3⟩
end
end VS
namespace VS
open PySem PySem.Spec PyProof.Rows L2
section
variable {K : PySem.W.Frag} {H : Hp} {ps : Ps} {own : List Addr}
theorem AtA.dup {v : V} {d : D} (h : AtA K H own ((v, .sh d) :: ps)) : AtA K H own ((v, .sh d) :: (v, .sh d) :: ps) := by
  obtain ⟨G, fp, s, ⟨f, g, rfl, ⟨rfl, o1⟩, o2⟩, n, e0, x⟩ := h
  exact ⟨G, [] ++ ([] ++ g), s, ⟨[], _, rfl, ⟨rfl, o1⟩, [], g, rfl, ⟨rfl, o1⟩, o2⟩, n, e0, x⟩
/-- all children shared -/
theorem AtA.frzAll : ∀ {vs : List V} {ts : List T} {ps : Ps}, vs.length = ts.length → AtA K H own (vs.zip ts ++ ps) → AtA K H own (vs.zip (ts.map fun t => .sh (fz t)) ++ ps) 
  | [], [], _, _, h => h
  | v :: vs, t :: ts, ps, l, h => by
    have h1 : AtA K H own ((v, t) :: (vs.zip ts ++ ps)) := h
    have h2 := h1.freeze.perm (List.perm_middle (l₁ := vs.zip ts) (l₂ := ps)).symm
    have h3 := AtA.frzAll (ps := (v, .sh (fz t)) :: ps) (Nat.succ.inj l) h2
    exact h3.perm List.perm_middle
  | [], _ :: _, _, l, _ => nomatch l
  | _ :: _, [], _, l, _ => nomatch l
/-- shared children doubled -/
theorem AtA.dupAll : ∀ {vs : List V} {ds : List D} {ps : Ps}, vs.length = ds.length → AtA K H own (vs.zip (ds.map .sh) ++ ps) → AtA K H own (vs.zip (ds.map .sh) ++ (vs.zip (ds.map .sh) ++ ps))
  | [], [], _, _, h => h
  | v :: vs, d :: ds, ps, l, h => by
    have h1 : AtA K H own ((v, .sh d) :: (vs.zip (ds.map .sh) ++ ps)) := h
    have h2 : AtA K H own ((vs.zip (ds.map .sh)) ++ ((v, .sh d) :: (v, .sh d) :: ps)) := h1.dup.perm (by
      refine List.Perm.trans (List.Perm.cons _ List.perm_middle.symm) ?_
      exact List.perm_middle.symm)
    have h3 := AtA.dupAll (ps := (v, .sh d) :: (v, .sh d) :: ps) (Nat.succ.inj l) h2
    refine h3.perm ?_
    show (vs.zip (ds.map T.sh) ++ (vs.zip (ds.map T.sh) ++ (v, T.sh d) :: (v, T.sh d) :: ps)).Perm ((v, T.sh d) :: (vs.zip (ds.map T.sh) ++ ((v, T.sh d) :: (vs.zip (ds.map T.sh) ++ ps))))
    refine List.Perm.trans (List.Perm.append_left _ List.perm_middle) ?_
    refine List.Perm.trans List.perm_middle ?_
    refine List.Perm.cons _ (List.Perm.append_left _ List.perm_middle)
  | [], _ :: _, _, l, _ => nomatch l
  | _ :: _, [], _, l, _ => nomatch l
/-- an owned list: its children, doubled, and the list with shared children -/
theorem At.kidsK {v : V} {ts : List T} (h : At K H ((v, .lst ts) :: ps)) : ∃ a us, v = .ref a ∧ SqL K H a us ∧ us.length = ts.length ∧ At K H (us.zip ((ts.map fz).map .sh) ++ ((v, .lst ((ts.map fz).map .sh)) :: ps)) := by
  obtain ⟨a, us, rfl, ha, l, h1⟩ := h.open
  have h2 := AtA.frzAll l h1
  rw [show (ts.map fun t => T.sh (fz t)) = (ts.map fz).map T.sh by rw [List.map_map]; rfl] at h2
  have l2 : us.length = (ts.map fz).length := by rw [List.length_map]; exact l
  have h3 := AtA.dupAll l2 h2
  have h4 := AtA.closed (ps := us.zip ((ts.map fz).map .sh) ++ ps) h3 (by rw [List.length_map]; exact l2) ha
  exact ⟨a, us, rfl, .inl (.inl ha), l, h4.perm List.perm_middle.symm⟩
end
section
variable {X : Cx} {pos : Pos}
/-- x[i:j], x a name of an owned list: its children are shared, the list stays owned -/
def eSlK (j : Nat) (l h : Sto → Option (Option Int)) : ME := fun S => match S[j]? with
  | some (some (.lst ts)) => (l S).bind fun lo => (h S).bind fun hi => some (.lst ((VS.cutD (ts.map fz) lo hi).map .sh), S.set j (some (.lst ((ts.map fz).map .sh))))
  | _ => none
theorem ve_slK (j : Nat) {x : Str} {px p2 : Pos} {lo hi : Option Expr} {l h : Sto → Option (Option Int)} (hl : PO X lo (tPO X.K l)) (hh : PO X hi (tPO X.K h)) (hN : X.N[j]? = some x := by rfl) (hv : Vis X.env.scope x := by first | exact Or.inl rfl | exact Or.inr (Or.inl rfl) | exact Or.inr (Or.inr rfl)) (hd : (x == ("__debug__" : Str)) = false := by decide)
    (hcd : (x == ("__classdict__" : Str)) = false := by decide) : VE X (.Subscript (.Name x px) (.Slice lo hi none p2) pos) (eSlK j l h) := PE.imp (pe_slice sl_list (pe_var hN hv hd hcd) hl hh) fun σ H Q ⟨S, fr, t, S', h0, e, q⟩ => by
  unfold eSlK at e
  split at e
  · rename_i ts e0
    obtain ⟨lo', e1, e⟩ := Option.bind_eq_some_iff.mp e
    obtain ⟨hi', e2, e⟩ := Option.bind_eq_some_iff.mp e
    cases e
    obtain ⟨v, hv2, k⟩ := h0.take e0
    obtain ⟨a, us, rfl, sq, ll, k2⟩ := At.kidsK k.at1
    refine ⟨.ref a, hv2, S, fr, lo', h0, e1, S, fr, hi', h0, e2, a, us, rfl, sq, fun p hp => q _ _ ?_⟩
    have c := At.cut k2 (HT.sIx us.length 0 lo') (HT.sIx us.length us.length hi' - HT.sIx us.length 0 lo')
    have l3 : us.length = (ts.map fz).length := by rw [List.length_map]; exact ll
    have e4 : (VS.cutD (ts.map fz) lo' hi').map T.sh = (((ts.map fz).map T.sh).drop (HT.sIx us.length 0 lo')).take (HT.sIx us.length us.length hi' - HT.sIx us.length 0 lo') := by
      unfold VS.cutD
      rw [List.map_take, List.map_drop, l3]
    rw [← e4] at c
    have l4 : ((us.drop (HT.sIx us.length 0 lo')).take (HT.sIx us.length us.length hi' - HT.sIx us.length 0 lo')).length = ((VS.cutD (ts.map fz) lo' hi').map T.sh).length := by
      rw [e4, List.length_take, List.length_take, List.length_drop, List.length_drop, List.length_map, l3]
    have n := At.newL c l4 hp
    have n2 : AtS X.K (upd H p (.lst ((us.drop (HT.sIx us.length 0 lo')).take (HT.sIx us.length us.length hi' - HT.sIx us.length 0 lo')))) σ (S.set j none) ((.ref a, .lst ((ts.map fz).map .sh)) :: (.ref p, .lst ((VS.cutD (ts.map fz) lo' hi').map .sh)) :: fr) :=
      AtS.of k.1 (n.perm (List.Perm.swap ..))
    have n3 := n2.back hv2
    rw [List.set_set] at n3
    exact n3
  · cases e
end
end VS
/-! VS12: instances: fields read and stored, methods called, instances made. -/
namespace VS
open PySem PySem.Spec PyProof.Rows L2
/-- the place of a name -/
def ixS (f : Str) : List Str → Option Nat
  | [] => none
  | g :: r => if f = g then some 0 else (ixS f r).map (· + 1)
theorem ixS_lookup {f : Str} {v : V} : ∀ {ns : List Str} {vs : List V} {n : Nat}, ixS f ns = some n → vs[n]? = some v → (ns.zip vs).lookup f = some v
  | [], _, _, h, _ => by cases h
  | g :: r, [], n, _, h2 => by simp at h2
  | g :: r, w :: vs, n, h, h2 => by
    unfold ixS at h
    by_cases hf : f = g
    · rw [if_pos hf] at h
      cases h
      show List.lookup f ((g, w) :: r.zip vs) = _
      rw [List.lookup_cons, show (f == g) = true by rw [hf]; exact beq_self_eq_true g]
      exact h2
    · rw [if_neg hf] at h
      obtain ⟨k, h1, rfl⟩ := Option.map_eq_some_iff.mp h
      show List.lookup f ((g, w) :: r.zip vs) = _
      rw [List.lookup_cons, show (f == g) = false from beq_false_of_ne hf]
      exact ixS_lookup h1 (by simpa using h2)
theorem ixS_none {f : Str} : ∀ {ns : List Str} {vs : List V}, ixS f ns = none → (ns.zip vs).lookup f = none
  | [], _, _ => rfl
  | g :: r, [], _ => rfl
  | g :: r, w :: vs, h => by
    unfold ixS at h
    by_cases hf : f = g
    · rw [if_pos hf] at h
      cases h
    · rw [if_neg hf] at h
      show List.lookup f ((g, w) :: r.zip vs) = _
      rw [List.lookup_cons, show (f == g) = false from beq_false_of_ne hf]
      exact ixS_none (Option.map_eq_none_iff.mp h)
theorem ixS_lt {f : Str} : ∀ {ns : List Str} {n : Nat}, ixS f ns = some n → n < ns.length
  | [], _, h => by cases h
  | g :: r, n, h => by
    unfold ixS at h
    by_cases hf : f = g
    · rw [if_pos hf] at h
      cases h
      exact Nat.succ_pos _
    · rw [if_neg hf] at h
      obtain ⟨k, h1, rfl⟩ := Option.map_eq_some_iff.mp h
      exact Nat.succ_lt_succ (ixS_lt h1)
theorem putF_old {f : Str} {v : V} : ∀ {ns : List Str} {vs : List V} {n : Nat}, ixS f ns = some n → ns.length = vs.length → putF f v (ns.zip vs) = ns.zip (vs.set n v)
  | [], _, _, h, _ => by cases h
  | g :: r, [], n, _, l => nomatch l
  | g :: r, w :: vs, n, h, l => by
    unfold ixS at h
    by_cases hf : f = g
    · rw [if_pos hf] at h
      cases h
      show (if g = f then (g, v) :: r.zip vs else _) = _
      rw [if_pos hf.symm]
      rfl
    · rw [if_neg hf] at h
      obtain ⟨k, h1, rfl⟩ := Option.map_eq_some_iff.mp h
      show (if g = f then _ else (g, w) :: putF f v (r.zip vs)) = _
      rw [if_neg (Ne.symm hf), putF_old h1 (Nat.succ.inj l)]
      rfl
theorem putF_new {f : Str} {v : V} : ∀ {ns : List Str} {vs : List V}, ixS f ns = none → ns.length = vs.length → putF f v (ns.zip vs) = (ns ++ [f]).zip (vs ++ [v])
  | [], [], _, _ => rfl
  | [], _ :: _, _, l => nomatch l
  | _ :: _, [], _, l => nomatch l
  | g :: r, w :: vs, h, l => by
    unfold ixS at h
    by_cases hf : f = g
    · rw [if_pos hf] at h
      cases h
    · rw [if_neg hf] at h
      show (if g = f then _ else (g, w) :: putF f v (r.zip vs)) = _
      rw [if_neg (Ne.symm hf), putF_new (Option.map_eq_none_iff.mp h) (Nat.succ.inj l)]
      rfl
/-! ### fields, purely -/
def dFld (C : Addr) (f : Str) : D → Option D
  | .ob C' ns ds => if C' = C then (ixS f ns).bind fun n => ds[n]? else none
  | _ => none
theorem Rep.fld {K : PySem.W.Frag} {H : Hp} {C : Addr} {f : Str} {d d' : D} {v : V} (r : Rep K H v d) (e : dFld C f d = some d') : ∃ a dx fs u, v = .ref a ∧ H a = some (.ins C dx fs) ∧ fs.lookup f = some u ∧ Rep K H u d' := by
  cases d with
  | ob C' ns ds =>
    have e' : (if C' = C then (ixS f ns).bind fun n => ds[n]? else none) = some d' := e
    split at e'
    · rename_i hc
      subst hc
      obtain ⟨a, dx, vs, rfl, ha, ln, rs⟩ := r
      obtain ⟨n, h1, h2⟩ := Option.bind_eq_some_iff.mp e'
      obtain ⟨u, h3, h4⟩ := rs.get h2
      exact ⟨a, dx, _, u, rfl, ha, ixS_lookup h1 h3, h4⟩
    · cases e'
  | _ => cases e
section
variable {X : Cx} {e b : Expr} {es : List Expr} {pos : Pos} {C : Addr} {f : Str}
theorem vp_fld {m : MP} (he : VP X e m) (c : Cls X.K C) (n : NoAttr X.K C f) (hb : attributeBase e f X.env (eval e X.env) = eval e X.env := by rfl) : VP X (.Attribute e f pos) (VS.p1 (dFld C f) m) :=
  PE.imp (pe_fld he hb) fun σ H Q ⟨S, fr, d, h, e, q⟩ => by
    obtain ⟨y, e1, e2⟩ := Option.bind_eq_some_iff.mp e
    refine ⟨S, fr, y, h, e1, fun v r => ?_⟩
    obtain ⟨a, dx, fs, u, rfl, ha, l, r2⟩ := Rep.fld r e2
    exact ⟨a, C, dx, fs, u, rfl, ha, c, n, l, q u r2⟩
/-! ### fields as values -/
/-- a field of a tree, shared from now on -/
def fldF (C : Addr) (f : Str) (t : T) : Option (D × T) := match t with
  | .ob C' ns ts => if C' = C then (ixS f ns).bind fun n => (ts[n]?).map fun u => (fz u, .ob C' ns (ts.set n (.sh (fz u)))) else none
  | .sh d => (dFld C f d).map fun d' => (d', .sh d)
  | _ => none
theorem At.fldF {K : PySem.W.Frag} {H : Hp} {ps : Ps} {v : V} {t t' : T} {d : D} (h : At K H ((v, t) :: ps)) (e : VS.fldF C f t = some (d, t')) : ∃ a dx fs u, v = .ref a ∧ H a = some (.ins C dx fs) ∧ fs.lookup f = some u ∧ At K H ((u, .sh d) :: (v, t') :: ps) := by
  cases t with
  | ob C' ns ts =>
    have e' : (if C' = C then (ixS f ns).bind fun n => (ts[n]?).map fun u => (fz u, T.ob C' ns (ts.set n (.sh (fz u)))) else none) = some (d, t') := e
    split at e'
    · rename_i hc
      subst hc
      obtain ⟨n, e1, e2⟩ := Option.bind_eq_some_iff.mp e'
      obtain ⟨w, e3, e4⟩ := Option.map_eq_some_iff.mp e2
      cases e4
      obtain ⟨a, dx, vs, rfl, ha, ln, l, h1⟩ := h.openO
      obtain ⟨u, A, B, z1, z2, z3⟩ := zip_at l e3
      rw [z2, List.append_assoc] at h1
      have h2 : AtA K H [a] ((u, w) :: (A ++ (B ++ ps))) := h1.perm (List.perm_middle (l₁ := A) (l₂ := B ++ ps))
      have h3 := (AtA.dup (AtA.freeze h2))
      have h4 : AtA K H [a] ((vs.zip (ts.set n (.sh (fz w)))) ++ ((u, .sh (fz w)) :: ps)) := h3.perm (by
        rw [z3]
        refine (List.Perm.cons _ List.perm_middle.symm).trans ?_
        rw [List.append_assoc]
        show ((u, T.sh (fz w)) :: (A ++ (u, T.sh (fz w)) :: (B ++ ps))).Perm (A ++ (((u, T.sh (fz w)) :: B) ++ ((u, T.sh (fz w)) :: ps)))
        refine List.perm_middle.symm.trans (List.Perm.append_left A ?_)
        show ((u, T.sh (fz w)) :: ((u, T.sh (fz w)) :: (B ++ ps))).Perm ((u, T.sh (fz w)) :: (B ++ ((u, T.sh (fz w)) :: ps)))
        exact List.Perm.cons _ List.perm_middle.symm)
      have h5 := AtA.closedO (C := C') (dx := dx) (ns := ns) h4 (by rw [List.length_set]; exact l) ln ha
      exact ⟨a, dx, _, u, rfl, ha, ixS_lookup e1 z1, h5.perm (.swap ..)⟩
    · cases e'
  | sh d0 =>
    obtain ⟨d', e1, e2⟩ := Option.map_eq_some_iff.mp (show (dFld C f d0).map (fun d' => (d', T.sh d0)) = some (d, t') from e)
    cases e2
    obtain ⟨G, fp, s, ⟨f1, g, rfl, ⟨rfl, o1⟩, o2⟩, n, e0, x⟩ := h
    obtain ⟨a, dx, fs, u, rfl, ha, l, r2⟩ := Rep.fld o1 e1
    exact ⟨a, dx, fs, u, rfl, s _ _ ha, l, G, [] ++ ([] ++ g), s, ⟨[], _, rfl, ⟨rfl, r2⟩, [], g, rfl, ⟨rfl, o1⟩, o2⟩, n, e0, x⟩
  | _ => cases e
/-- x.f, x the name of slot j: the field is shared in its place -/
def eFldK (C : Addr) (f : Str) (j : Nat) : ME := fun S => match S[j]? with
  | some (some t) => (fldF C f t).map fun p => (.sh p.1, S.set j (some p.2))
  | _ => none
theorem ve_fldK (j : Nat) {x : Str} {px : Pos} (c : Cls X.K C) (n : NoAttr X.K C f) (hN : X.N[j]? = some x := by rfl) (hv : Vis X.env.scope x := by first | exact Or.inl rfl | exact Or.inr (Or.inl rfl) | exact Or.inr (Or.inr rfl)) (hd : (x == ("__debug__" : Str)) = false := by decide)
    (hcd : (x == ("__classdict__" : Str)) = false := by decide) (hb : attributeBase (.Name x px) f X.env (eval (.Name x px) X.env) = eval (.Name x px) X.env := by rfl) : VE X (.Attribute (.Name x px) f pos) (eFldK C f j) :=
  PE.imp (pe_fld (pe_var hN hv hd hcd) hb) fun σ H Q ⟨S, fr, t, S', h, e, q⟩ => by
    unfold eFldK at e
    split at e
    · rename_i t0 e0
      obtain ⟨⟨d, t'⟩, e1, e2⟩ := Option.map_eq_some_iff.mp e
      cases e2
      obtain ⟨v, hv, k⟩ := h.take e0
      obtain ⟨a, dx, fs, u, rfl, ha, l, k2⟩ := At.fldF k.at1 e1
      refine ⟨_, hv, a, C, dx, fs, u, rfl, ha, c, n, l, q u H ?_⟩
      have k3 : AtS X.K H σ (S.set j none) ((.ref a, t') :: (u, .sh d) :: fr) := AtS.of k.1 (by
        refine k2.perm ?_
        exact (List.Perm.swap ..))
      have k4 := k3.back hv
      rw [List.set_set] at k4
      exact k4
    · cases e
/-- e.f, e a value -/
def eFldV (C : Addr) (f : Str) (m : ME) : ME := fun S => (m S).bind fun p => (fldF C f p.1).map fun q => (.sh q.1, p.2)
theorem ve_fldV {m : ME} (he : VE X e m) (c : Cls X.K C) (n : NoAttr X.K C f) (hb : attributeBase e f X.env (eval e X.env) = eval e X.env := by rfl) : VE X (.Attribute e f pos) (eFldV C f m) :=
  PE.imp (pe_fld he hb) fun σ H Q ⟨S, fr, t, S', h, e, q⟩ => by
    obtain ⟨⟨t0, S1⟩, e1, e⟩ := Option.bind_eq_some_iff.mp e
    obtain ⟨⟨d, t'⟩, e2, e3⟩ := Option.map_eq_some_iff.mp e
    cases e3
    refine ⟨S, fr, t0, S1, h, e1, fun v H1 h1 => ?_⟩
    obtain ⟨a, dx, fs, u, rfl, ha, l, k2⟩ := At.fldF h1.at1 e2
    refine ⟨a, C, dx, fs, u, rfl, ha, c, n, l, q u H1 ?_⟩
    have k3 : AtS X.K H1 σ S1 ((.ref a, t') :: (u, .sh d) :: fr) := AtS.of h1.1 (k2.perm (.swap ..))
    exact k3.drop1
end
end VS
/-! VS13: instances: fields stored, methods called, instances made. -/
namespace VS
open PySem PySem.Spec PyProof.Rows L2
theorem zip_set_sub : ∀ {j : Nat} {vs : List V} {ts : List T} {v : V} {t : T}, j < ts.length → vs.length = ts.length → Sub ((vs.set j v).zip (ts.set j t)) ((v, t) :: vs.zip ts)
  | 0, w :: vs, u :: ts, _, _, _, _ => (Sub.refl.skip).cons
  | j + 1, w :: vs, u :: ts, v, t, h, l => by
    have ih := zip_set_sub (j := j) (vs := vs) (ts := ts) (v := v) (t := t) (Nat.lt_of_succ_lt_succ h) (Nat.succ.inj l)
    exact (ih.cons (p := (w, u))).trans (Sub.of_perm (.swap ..))
  | _, [], [], _, _, h, _ => nomatch h
  | _, [], _ :: _, _, _, _, l => nomatch l
  | _, _ :: _, [], _, _, _, l => nomatch l
/-- a field stored -/
def putN (f : Str) (ns : List Str) : List Str := match ixS f ns with
  | some _ => ns
  | none => ns ++ [f]
def putT {α : Type} (f : Str) (t : α) (ns : List Str) (ts : List α) : List α := match ixS f ns with
  | some n => ts.set n t
  | none => ts ++ [t]
section
variable {K : PySem.W.Frag} {H : Hp} {ps : Ps}
theorem At.setO {o v : V} {C : Addr} {ns : List Str} {ts : List T} {t : T} (f : Str) (h : At K H ((o, .ob C ns ts) :: (v, t) :: ps)) : ∃ a dx fs, o = .ref a ∧ H a = some (.ins C dx fs) ∧ fs.length = ns.length ∧ At K (upd H a (.ins C dx (putF f v fs))) ((o, .ob C (putN f ns) (putT f t ns ts)) :: ps) := by
  obtain ⟨a, dx, vs, rfl, ha, ln, l, h1⟩ := h.openO
  refine ⟨a, dx, _, rfl, ha, by rw [List.length_zip]; omega, ?_⟩
  unfold putN putT
  cases hx : ixS f ns with
  | some n =>
    have hn := ixS_lt hx
    rw [putF_old hx ln]
    have h2 : AtA K H [a] ((vs.set n v).zip (ts.set n t) ++ ps) := h1.sub (by
      have s1 := (zip_set_sub (v := v) (t := t) (by omega) l : Sub ((vs.set n v).zip (ts.set n t)) ((v, t) :: vs.zip ts)).append_right ps
      exact s1.trans (Sub.of_perm List.perm_middle))
    exact h2.closeO (by rw [List.length_set, List.length_set]; exact l) (by rw [List.length_set]; exact ln)
  | none =>
    rw [putF_new hx ln]
    have h2 : AtA K H [a] ((vs ++ [v]).zip (ts ++ [t]) ++ ps) := by
      rw [List.zip_append l, List.append_assoc]
      exact h1
    exact h2.closeO (by rw [List.length_append, List.length_append]; simp [l]) (by rw [List.length_append, List.length_append]; simp [ln])
end
section
variable {X : Cx} {e b : Expr} {es : List Expr} {pos : Pos} {C : Addr} {f : Str}
def sFldS (C : Addr) (f : Str) (j : Nat) (me : ME) : MS := fun S => (me S).bind fun p => match p.2[j]? with
  | some (some (.ob C' ns ts)) => if C' = C ∧ ns.length < 1000 then some (.nx (p.2.set j (some (.ob C' (putN f ns) (putT f p.1 ns ts))))) else none
  | _ => none
theorem vs_fldS (j : Nat) {x : Str} {px pos' : Pos} {me : ME} (hv : VE X e me) (c : Cls X.K C) (n : NoAttr X.K C f) (hN : X.N[j]? = some x := by rfl) (hvs : Vis X.env.scope x := by first | exact Or.inl rfl | exact Or.inr (Or.inl rfl) | exact Or.inr (Or.inr rfl)) (hd : (x == ("__debug__" : Str)) = false := by decide)
    (hcd : (x == ("__classdict__" : Str)) = false := by decide) (hs : swapsWith e (some (.Attribute (.Name x px) f pos')) pos.line X.env = pure false := by rfl) : VS X [] (.Assign [.Attribute (.Name x px) f pos'] e pos) (sFldS C f j me) :=
  PS.imp (ps_fld (pe_var hN hvs hd hcd) hv hs) fun D σ H ⟨S, fr, fl, h, e, q⟩ => by
    obtain ⟨⟨t, S1⟩, e1, e⟩ := Option.bind_eq_some_iff.mp e
    simp only at e
    split at e
    · rename_i C' ns ts e0
      split at e
      · rename_i hc
        cases e
        obtain ⟨rfl, hl⟩ := hc
        refine ⟨S, fr, t, S1, h, e1, fun v H1 h1 => ?_⟩
        obtain ⟨o, ho, k⟩ := h1.take e0
        obtain ⟨a, dx, fs, rfl, ha, lf, k2⟩ := At.setO f k.at1
        refine ⟨_, ho, a, C', dx, fs, rfl, ha, c, n, by omega, ?_⟩
        have k3 := (AtS.of k.1 k2 : AtS X.K _ σ (S1.set j none) ((.ref a, .ob C' (putN f ns) (putT f t ns ts)) :: fr)).back ho
        rw [List.set_set] at k3
        exact q σ _ .refl k3
      · cases e
    · cases e
/-! ### methods -/
structure GoodM (P : Program) (w : World) (K : PySem.W.Frag) (mg : Str → Option Value) (base : Heap) (C : Addr) (x : Str) (k : Nat) (ps : List Str) (m : Fn) : Prop where
  ex : ∃ g fd, Cls K C ∧ Meth K C x g ∧ Binds K fd ps [] ∧ FnG P w K mg base k g fd ps (spV K ps.length m)
structure GoodI (P : Program) (w : World) (K : PySem.W.Frag) (mg : Str → Option Value) (base : Heap) (C : Addr) (x : Str) (k : Nat) (ps : List Str) (m : Fn) : Prop where
  ex : ∃ g fd, mg x = some (.ref C) ∧ Mk K C g ∧ Binds K fd ps [] ∧ FnG P w K mg base k g fd ps (spV K ps.length m)
def isC (C : Addr) (m : Str) : T → Bool
  | .ob C' ns _ => decide (C' = C) && (ixS m ns).isNone
  | .sh (.ob C' ns _) => decide (C' = C) && (ixS m ns).isNone
  | _ => false
theorem At.isC {K : PySem.W.Frag} {H : Hp} {ps : Ps} {v : V} {t : T} {m : Str} (h : At K H ((v, t) :: ps)) (e : VS.isC C m t = true) : ∃ a dx fs, v = .ref a ∧ H a = some (.ins C dx fs) ∧ fs.lookup m = none := by
  have fin : ∀ {C' : Addr} {ns : List Str}, (decide (C' = C) && (ixS m ns).isNone) = true → C' = C ∧ ixS m ns = none := fun h => by
    rw [Bool.and_eq_true, decide_eq_true_eq, Option.isNone_iff_eq_none] at h
    exact h
  cases t with
  | ob C' ns ts =>
    obtain ⟨rfl, h2⟩ := fin e
    obtain ⟨a, dx, vs, rfl, ha, ln, l, h1⟩ := h.openO
    exact ⟨a, dx, _, rfl, ha, ixS_none h2⟩
  | sh d =>
    cases d with
    | ob C' ns ds =>
      obtain ⟨rfl, h2⟩ := fin e
      obtain ⟨a, dx, vs, rfl, ha, _⟩ := h.kidsO
      exact ⟨a, dx, _, rfl, ha, ixS_none h2⟩
    | _ => cases e
  | _ => cases e
/-- x.m(..), x the name of slot j -/
def eMeth (C : Addr) (m : Str) (j : Nat) (f : Fn) (ms : List (Option Nat)) (ma : MA) : ME := fun S => match S[j]? with
  | some (some t) => if isC C m t = true then eCall f (some j :: ms) (aMv j ma) S else none
  | _ => none
theorem meth_imp {C : Addr} {m : Str} {j : Nat} {f : Fn} {ms : List (Option Nat)} {ma : MA} {n : Nat} {σ : St} {H : Hp} {Q : VK} (hn : (some j :: ms).length = n) (h : tV X.K (eMeth C m j f ms ma) σ H Q) :
    ∃ v, σ[j]? = some (some v) ∧ ∃ a dx fs, v = .ref a ∧ H a = some (.ins C dx fs) ∧ fs.lookup m = none ∧ (tVA' X.K ms ma) σ H fun vs H2 => spV X.K n f (v :: (vs ++ [])) H2 Q E0 := by
  obtain ⟨S, fr, t, S', h, e, q⟩ := h
  unfold eMeth at e
  split at e
  · rename_i t0 e0
    split at e
    · rename_i hc
      obtain ⟨v, hv, k⟩ := h.take e0
      obtain ⟨a, dx, fs, ea, ha, hl⟩ := At.isC k.at1 hc
      refine ⟨v, hv, a, dx, fs, ea, ha, hl, ?_⟩
      obtain ⟨S2, fr2, ts, S3, h2, e2, q2⟩ := call_imp' (X := X) hn ⟨S, fr, t, S', h, e, q⟩
      unfold aMv at e2
      split at e2
      · rename_i t1 e3
        obtain ⟨⟨us, S4⟩, e4, e5⟩ := Option.bind_eq_some_iff.mp e2
        simp only at e5
        split at e5
        · rename_i t2 e6
          cases e5
          refine ⟨S2, fr2, us, S4, h2, e4, fun vs H2 m2 l2 h4 => ?_⟩
          obtain ⟨v', hv', k5⟩ := h4.take e6
          rw [hv] at hv'
          cases hv'
          have z := q2 (v :: vs) H2 ⟨hv, m2⟩ (congrArg (· + 1) l2) k5
          exact z
        · cases e5
      · cases e2
    · cases e
  · cases e
theorem ve_meth (j : Nat) {x m : Str} {px apos : Pos} {k : Nat} {ps : List Str} {f : Fn} {ms : List (Option Nat)} {ma : MA} {pl : Sem Bool} (F : GoodM X.prog X.w X.K X.mg X.base C m k ps f) (hr : RoomG k X.A) (ha : VM X (e :: es) ms ma) (hn : (some j :: ms).length = ps.length := by rfl) (hN : X.N[j]? = some x := by rfl)
    (hv : Vis X.env.scope x := by first | exact Or.inl rfl | exact Or.inr (Or.inl rfl) | exact Or.inr (Or.inr rfl)) (hd : (x == ("__debug__" : Str)) = false := by decide) (hcd : (x == ("__classdict__" : Str)) = false := by decide)
    (hst : starEach (e :: es) X.env = (false, eval e X.env) :: starEach es X.env := by rfl) (hpl : (backTo pos (starEach es X.env)).any (·.1) = false := by rfl)
    (ht : eval (.Call (.Attribute (.Name x px) m apos) (e :: es) [] pos) X.env = (do
      let ov ← eval (.Name x px) X.env
      standAt apos.atName
      let (f, first) ← holding [ov] (getMethod ov m pl)
      callWith pos f first (backTo pos (starEach (e :: es) X.env)) (backToKw pos (keywordEach [] X.env))) := by rfl) : VE X (.Call (.Attribute (.Name x px) m apos) (e :: es) [] pos) (eMeth C m j f ms ma) := by
  obtain ⟨g, fd, c, hm, hb, F⟩ := F.ex
  exact PE.imp (pe_methG (pl := pl) (pe_var hN hv hd hcd) c hm F hr hb ha hst hpl ht) fun σ H Q h => meth_imp hn h
theorem ve_meth0 (j : Nat) {x m : Str} {px apos : Pos} {k : Nat} {ps : List Str} {f : Fn} {pl : Sem Bool} (F : GoodM X.prog X.w X.K X.mg X.base C m k ps f) (hr : RoomG k X.A) (hn : [some j].length = ps.length := by rfl) (hN : X.N[j]? = some x := by rfl)
    (hv : Vis X.env.scope x := by first | exact Or.inl rfl | exact Or.inr (Or.inl rfl) | exact Or.inr (Or.inr rfl)) (hd : (x == ("__debug__" : Str)) = false := by decide) (hcd : (x == ("__classdict__" : Str)) = false := by decide)
    (ht : eval (.Call (.Attribute (.Name x px) m apos) [] [] pos) X.env = (do
      let ov ← eval (.Name x px) X.env
      standAt apos.atName
      let (f, first) ← holding [ov] (getMethod ov m pl)
      callWith pos f first (backTo pos (starEach [] X.env)) (backToKw pos (keywordEach [] X.env))) := by rfl) : VE X (.Call (.Attribute (.Name x px) m apos) [] [] pos) (eMeth C m j f [] aNil) := by
  obtain ⟨g, fd, c, hm, hb, F⟩ := F.ex
  refine PE.imp (pe_methG0 (pl := pl) (pe_var hN hv hd hcd) c hm F hr hb ht) fun σ H Q h => ?_
  obtain ⟨v, hv, a, dx, fs, ea, h1, h2, S, fr, ts, S', h3, e, q⟩ := meth_imp (n := ps.length) hn h
  cases e
  exact ⟨v, hv, a, dx, fs, ea, h1, h2, q [] H trivial rfl h3⟩
/-! ### instances are made -/
def eNew (C : Addr) (f : Fn) (ms : List (Option Nat)) (ma : MA) : ME := fun S => (ma S).bind fun p => (f (.ob C [] [] :: p.1)).bind fun r => match r with
  | (.sh .non, some t :: ts) => if ts.length = ms.length then some (t, putB ms ts p.2) else none
  | _ => none
theorem ve_new {x : Str} {k : Nat} {ps : List Str} {f : Fn} {ms : List (Option Nat)} {ma : MA} {p : Pos} (F : GoodI X.prog X.w X.K X.mg X.base C x k ps f) (hr : RoomG (k + 1) X.A) (ha : VM X (e :: es) ms ma) (hn : ms.length + 1 = ps.length := by rfl) (hg : Gl X x := by rfl)
    (hdb : (x == ("__debug__" : Str)) = false := by decide) (he : starEach (e :: es) X.env = (false, eval e X.env) :: starEach es X.env := by rfl) (hpl : (backTo pos (starEach es X.env)).any (·.1) = false := by rfl) : VE X (.Call (.Name x p) (e :: es) [] pos) (eNew C f ms ma) := by
  obtain ⟨g, fd, hm, M, hb, F⟩ := F.ex
  refine PE.imp (pe_makeG M F hr hg hm hb ha hdb he hpl) fun σ H Q ⟨S, fr, t, S', h, e, q⟩ => ?_
  obtain ⟨⟨ts, S1⟩, e1, e⟩ := Option.bind_eq_some_iff.mp e
  obtain ⟨⟨r, ts'⟩, e2, e⟩ := Option.bind_eq_some_iff.mp e
  simp only at e
  split at e
  · rename_i t' ts'' heq
    cases heq
    split at e
    · rename_i hl
      cases e
      refine ⟨S, fr, ts, S1, h, e1, fun vs H1 mv l1 h1 => fun y dx hy hdx hne => ?_⟩
      rw [List.append_nil]
      have l2 := mv.length
      refine ⟨.ob C [] [] :: ts, fr ++ prs σ S1, .sh .non, some t :: ts'', by show vs.length + 1 = _; omega, by show ts.length + 1 = _; omega, ?_, e2, by show ts''.length + 1 = _; omega, fun v H2 h2 => ?_⟩
      · have k := h1.front
        rw [List.append_assoc] at k
        exact At.newO (vs := []) (ts := []) (ns := []) k rfl rfl hy hdx hne
      · have h3 : At X.K H2 ((v, .sh .non) :: (.ref y, t) :: (prs (vs.map some) ts'' ++ (fr ++ prs σ S1))) := h2
        refine ⟨h3.rep, q (.ref y) H2 ?_⟩
        have k : AtS X.K H2 σ S1 ((.ref y, t) :: (prs (vs.map some) ts'' ++ fr)) := AtS.of h1.1 (by
          have z := h3.tail
          have z2 : (.ref y, t) :: (prs (vs.map some) ts'' ++ (fr ++ prs σ S1)) = ((.ref y, t) :: (prs (vs.map some) ts'' ++ fr)) ++ prs σ S1 := by simp
          rw [← z2]
          exact z)
        exact AtS.putB (fr := (.ref y, t) :: fr) mv (k.perm List.perm_middle.symm)
    · cases e
  · cases e
end
end VS
/-! VS14: lists in lists: walked and appended to, while the outer list is lent. -/
namespace VS
open PySem PySem.Spec PyProof.Rows L2
section
variable {K : PySem.W.Frag} {H : Hp} {ps : Ps} {own : List Addr}
theorem AtA.openL {v : V} {ts : List T} (h : AtA K H own ((v, .lst ts) :: ps)) : ∃ a vs, v = .ref a ∧ H a = some (.lst vs) ∧ vs.length = ts.length ∧ AtA K H (a :: own) (vs.zip ts ++ ps) := by
  obtain ⟨G, fp, s, ⟨f, g, rfl, ⟨a, vs, f', rfl, rfl, ha, o1⟩, o2⟩, n, e, x⟩ := h
  refine ⟨a, vs, rfl, ha, o1.length, G, f' ++ g, s, o1.toP.append o2, ?_, fun b hb => e b ?_, fun b hb => ?_⟩
  · refine List.Perm.nodup ?_ n
    show (own ++ (a :: (f' ++ g))).Perm (a :: (own ++ (f' ++ g)))
    exact List.perm_middle
  · rcases List.mem_cons.mp (show b ∈ a :: (own ++ (f' ++ g)) from hb) with rfl | hb
    · exact List.mem_append_right _ List.mem_cons_self
    · rcases List.mem_append.mp hb with hb | hb
      · exact List.mem_append_left _ hb
      · exact List.mem_append_right _ (List.mem_cons_of_mem _ hb)
  · rcases List.mem_cons.mp hb with rfl | hb
    · rw [ha]; exact fun z => nomatch z
    · exact x b hb
theorem AtA.shutL {a : Addr} {vs : List V} {ts : List T} (h : AtA K H (a :: own) (vs.zip ts ++ ps)) (l : vs.length = ts.length) : AtA K (upd H a (.lst vs)) own ((.ref a, .lst ts) :: ps) := by
  obtain ⟨G, fp, s, o, n, e, x⟩ := h
  obtain ⟨f, g, rfl, o1, o2⟩ := o.split
  have n' : (a :: (own ++ (f ++ g))).Nodup := n
  have np : ∀ b ∈ own ++ (f ++ g), b ≠ a := fun b hb z => by
    subst z
    exact (List.nodup_cons.mp n').1 hb
  have k : ∀ b ∈ own ++ (f ++ g), upd H a (.lst vs) b = H b := fun b hb => upd_ne (np b hb)
  have ga : G a = none := e a List.mem_cons_self
  refine ⟨G, (a :: f) ++ g, fun b o q => ?_, ⟨a :: f, g, rfl, ⟨a, vs, f, rfl, rfl, upd_same, (o1.toS l).mono (Same.refl _) fun b hb => k b (List.mem_append_right _ (List.mem_append_left _ hb))⟩, o2.mono (Same.refl _) fun b hb => k b (List.mem_append_right _ (List.mem_append_right _ hb))⟩, ?_, fun b hb => ?_, fun b hb => ?_⟩
  · rw [upd_ne (ne_of_none q ga)]
    exact s b o q
  · exact List.Perm.nodup (List.perm_middle (l₁ := own) (l₂ := f ++ g)).symm n'
  · refine e b ?_
    show b ∈ a :: (own ++ (f ++ g))
    rcases List.mem_append.mp hb with hb | hb
    · exact List.mem_cons_of_mem _ (List.mem_append_left _ hb)
    · rcases List.mem_cons.mp (show b ∈ a :: (f ++ g) from hb) with rfl | hb
      · exact List.mem_cons_self
      · exact List.mem_cons_of_mem _ (List.mem_append_right _ hb)
  · rw [k b (List.mem_append_left _ hb)]
    exact x b (List.mem_cons_of_mem _ hb)
theorem AtA.shut {a : Addr} {vs : List V} {ts : List T} (h : AtA K H (a :: own) (vs.zip ts ++ ps)) (l : vs.length = ts.length) (ha : H a = some (.lst vs)) : AtA K H own ((.ref a, .lst ts) :: ps) := by
  have q := h.shutL l
  have e : upd H a (.lst vs) = H := by
    funext b
    by_cases hb : b = a
    · rw [hb, upd_same, ha]
    · rw [upd_ne hb]
  rw [e] at q
  exact q
theorem AtA.pin {v : V} {a : Addr} {t : T} (h : AtA K H own ((v, t) :: ps)) (e : v = .ref a) : AtA K H own ((v, .pin a t) :: ps) := by
  obtain ⟨G, fp, s, ⟨f, g, rfl, o1, o2⟩, r⟩ := h
  exact ⟨G, _, s, ⟨f, g, rfl, ⟨e, o1⟩, o2⟩, r⟩
theorem AtA.unpin {v : V} {a : Addr} {t : T} (h : AtA K H own ((v, .pin a t) :: ps)) : v = .ref a ∧ AtA K H own ((v, t) :: ps) := by
  obtain ⟨G, fp, s, ⟨f, g, rfl, ⟨e, o1⟩, o2⟩, r⟩ := h
  exact ⟨e, G, _, s, ⟨f, g, rfl, o1, o2⟩, r⟩
/-- an inner list pinned in its place, its children shared -/
theorem At.pinAt {v : V} {ts us : List T} {n : Nat} (h : At K H ((v, .lst ts) :: ps)) (e : ts[n]? = some (.lst us)) : ∃ a vs b ws, v = .ref a ∧ H a = some (.lst vs) ∧ vs.length = ts.length ∧ vs[n]? = some (.ref b) ∧ H b = some (.lst ws) ∧ ws.length = us.length ∧
    At K H ((v, .lst (ts.set n (.pin b (.lst ((us.map fz).map .sh))))) :: ps) := by
  obtain ⟨a, vs, rfl, ha, l, h1⟩ := AtA.openL h
  obtain ⟨w, A, B, z1, z2, z3⟩ := zip_at l e
  rw [z2, List.append_assoc] at h1
  have h2 := h1.perm (List.perm_middle (l₁ := A) (l₂ := B ++ ps))
  obtain ⟨b, ws, rfl, hb, l2, h3⟩ := AtA.openL h2
  have h4 := AtA.frzAll l2 h3
  rw [show (us.map fun t => T.sh (fz t)) = (us.map fz).map T.sh by rw [List.map_map]; rfl] at h4
  have h5 := (AtA.shut h4 (by rw [List.length_map, List.length_map]; exact l2) hb).pin rfl
  have h6 := h5.perm (List.perm_middle (l₁ := A) (l₂ := B ++ ps)).symm
  have h7 : AtA K H [a] (vs.zip (ts.set n (.pin b (.lst ((us.map fz).map .sh)))) ++ ps) := by
    rw [z3, List.append_assoc]
    exact h6
  exact ⟨a, vs, b, ws, rfl, ha, l, z1, hb, l2, AtA.shut h7 (by rw [List.length_set]; exact l) ha⟩
theorem At.unpinAt {v : V} {ts : List T} {u : T} {n : Nat} {b : Addr} (hn : n < ts.length) (h : At K H ((v, .lst (ts.set n (.pin b u))) :: ps)) : At K H ((v, .lst (ts.set n u)) :: ps) := by
  obtain ⟨a, vs, rfl, ha, l, h1⟩ := AtA.openL h
  obtain ⟨w, A, B, z1, z2, z3⟩ := zip_at l (List.getElem?_set_self hn)
  rw [z2, List.append_assoc] at h1
  have h2 := (h1.perm (List.perm_middle (l₁ := A) (l₂ := B ++ ps))).unpin.2
  have h3 := h2.perm (List.perm_middle (l₁ := A) (l₂ := B ++ ps)).symm
  have h7 : AtA K H [a] (vs.zip (ts.set n u) ++ ps) := by
    have z4 := z3 u
    rw [List.set_set] at z4
    rw [z4, List.append_assoc]
    exact h3
  exact AtA.shut h7 (by rw [List.length_set] at l ⊢; exact l) ha
/-- .. appended to -/
theorem At.pinApp {v x : V} {ts us : List T} {t : T} {n : Nat} {b : Addr} (hn : n < ts.length) (h : At K H ((v, .lst (ts.set n (.pin b (.lst us)))) :: (x, t) :: ps)) : ∃ ws, H b = some (.lst ws) ∧ ws.length = us.length ∧ At K (upd H b (.lst (ws ++ [x]))) ((v, .lst (ts.set n (.lst (us ++ [t])))) :: ps) := by
  obtain ⟨a, vs, rfl, ha, l, h1⟩ := AtA.openL h
  obtain ⟨w, A, B, z1, z2, z3⟩ := zip_at l (List.getElem?_set_self hn)
  rw [z2, List.append_assoc] at h1
  obtain ⟨rfl, h2⟩ := (h1.perm (List.perm_middle (l₁ := A) (l₂ := B ++ (x, t) :: ps))).unpin
  obtain ⟨b', ws, eb, hb, l2, h3⟩ := AtA.openL h2
  cases eb
  have hne : a ≠ b := fun z => by
    obtain ⟨G, fp, s, o, nd, _⟩ := h3
    have nd' : (b :: ([a] ++ fp)).Nodup := nd
    exact (List.nodup_cons.mp nd').1 (by rw [z]; exact List.mem_append_left _ List.mem_cons_self)
  have h4 : AtA K H [b, a] ((ws ++ [x]).zip (us ++ [t]) ++ (A ++ (B ++ ps))) := by
    rw [List.zip_append l2, List.append_assoc]
    refine h3.perm (List.Perm.append_left _ ?_)
    show (A ++ (B ++ (x, t) :: ps)).Perm ((x, t) :: (A ++ (B ++ ps)))
    rw [← List.append_assoc, ← List.append_assoc]
    exact List.perm_middle
  have h5 := AtA.shutL h4 (by rw [List.length_append, List.length_append]; simp [l2])
  have h6 := h5.perm (List.perm_middle (l₁ := A) (l₂ := B ++ ps)).symm
  have h7 : AtA K (upd H b (.lst (ws ++ [x]))) [a] (vs.zip (ts.set n (.lst (us ++ [t]))) ++ ps) := by
    have z4 := z3 (.lst (us ++ [t]))
    rw [List.set_set] at z4
    rw [z4, List.append_assoc]
    exact h6
  exact ⟨ws, hb, l2, AtA.shut h7 (by rw [List.length_set] at l ⊢; exact l) (by rw [upd_ne hne]; exact ha)⟩
/-- a shared inner list pinned in its place -/
theorem At.pinSh {v : V} {ts : List T} {ds : List D} {n : Nat} (h : At K H ((v, .lst ts) :: ps)) (e : ts[n]? = some (.sh (.lst ds))) : ∃ a vs b ws, v = .ref a ∧ H a = some (.lst vs) ∧ vs.length = ts.length ∧ vs[n]? = some (.ref b) ∧ SqL K H b ws ∧
    At K H ((v, .lst (ts.set n (.pin b (.sh (.lst ds))))) :: ps) := by
  obtain ⟨a, vs, rfl, ha, l, h1⟩ := AtA.openL h
  obtain ⟨w, A, B, z1, z2, z3⟩ := zip_at l e
  rw [z2, List.append_assoc] at h1
  have h2 := h1.perm (List.perm_middle (l₁ := A) (l₂ := B ++ ps))
  have h2' := h2
  obtain ⟨G, fp, s, ⟨f, g, rfl, ⟨rfl, b, ws, rfl, q, r⟩, o2⟩, _⟩ := h2'
  have h5 := h2.pin rfl
  have h6 := h5.perm (List.perm_middle (l₁ := A) (l₂ := B ++ ps)).symm
  have h7 : AtA K H [a] (vs.zip (ts.set n (.pin b (.sh (.lst ds)))) ++ ps) := by
    rw [z3, List.append_assoc]
    exact h6
  exact ⟨a, vs, b, ws, rfl, ha, l, z1, s.seq q, AtA.shut h7 (by rw [List.length_set]; exact l) ha⟩
theorem feeds_pinSh {a b : Addr} {ts : List T} {n : Nat} {ds : List D} (hn : n < ts.length) : Feeds K (Itl K b) [(.ref a, .lst (ts.set n (.pin b (.sh (.lst ds)))))] ds where
  go := fun H ps h i d hi => by
    obtain ⟨G, fp, s, ⟨f, g, rfl, o1, o2⟩, n0, e0, x0⟩ := (h : At K H ((.ref a, .lst (ts.set n (.pin b (.sh (.lst ds))))) :: ps))
    obtain ⟨a', vs, f', ea, ef, ha, os⟩ := id o1
    obtain ⟨w, fw, _, ⟨ew, ow⟩⟩ := os.get (List.getElem?_set_self hn)
    obtain ⟨_, b', ws, eb, q2, rs2⟩ := ow
    rw [ew] at eb
    cases eb
    obtain ⟨u, e11, r2⟩ := rs2.get hi
    refine ⟨⟨ws, u, s.seq q2, e11⟩, fun x H' ⟨e6, y⟩ => e6 ▸ ?_⟩
    have e12 := y ws (s.seq q2)
    rw [e11] at e12
    cases e12
    exact ⟨G, _, s, ⟨[], _, rfl, ⟨rfl, r2⟩, _, g, rfl, o1, o2⟩, n0, e0, x0⟩
  stop := fun H ps h i hi => by
    obtain ⟨G, fp, s, ⟨f, g, rfl, o1, o2⟩, n0, e0, x0⟩ := (h : At K H ((.ref a, .lst (ts.set n (.pin b (.sh (.lst ds))))) :: ps))
    obtain ⟨a', vs, f', ea, ef, ha, os⟩ := id o1
    obtain ⟨w, fw, _, ⟨ew, ow⟩⟩ := os.get (List.getElem?_set_self hn)
    obtain ⟨_, b', ws, eb, q2, rs2⟩ := ow
    rw [ew] at eb
    cases eb
    exact ⟨ws, s.seq q2, by rw [rs2.length]; exact hi⟩
theorem feeds_pin {a b : Addr} {ts : List T} {n : Nat} {ds : List D} (hn : n < ts.length) : Feeds K (Itl K b) [(.ref a, .lst (ts.set n (.pin b (.lst (ds.map .sh)))))] ds where
  go := fun H ps h i d hi => by
    obtain ⟨G, fp, s, ⟨f, g, rfl, o1, o2⟩, n0, e0, x0⟩ := (h : At K H ((.ref a, .lst (ts.set n (.pin b (.lst (ds.map .sh))))) :: ps))
    obtain ⟨a', vs, f', ea, ef, ha, os⟩ := id o1
    obtain ⟨w, fw, _, ⟨ew, ow⟩⟩ := os.get (List.getElem?_set_self hn)
    obtain ⟨b', ws, f2, eb, _, hb, os2⟩ := ow
    rw [ew] at eb
    cases eb
    obtain ⟨u, fu, e11, r2⟩ := os2.get (i := i) (t := .sh d) (by rw [List.getElem?_map, hi]; rfl)
    refine ⟨⟨ws, u, .of hb, e11⟩, fun x H' ⟨e6, y⟩ => e6 ▸ ?_⟩
    have e12 := y ws (.of hb)
    rw [e11] at e12
    cases e12
    exact ⟨G, _, s, ⟨[], _, rfl, ⟨rfl, r2.2⟩, _, g, rfl, o1, o2⟩, n0, e0, x0⟩
  stop := fun H ps h i hi => by
    obtain ⟨G, fp, s, ⟨f, g, rfl, o1, o2⟩, n0, e0, x0⟩ := (h : At K H ((.ref a, .lst (ts.set n (.pin b (.lst (ds.map .sh))))) :: ps))
    obtain ⟨a', vs, f', ea, ef, ha, os⟩ := id o1
    obtain ⟨w, fw, _, ⟨ew, ow⟩⟩ := os.get (List.getElem?_set_self hn)
    obtain ⟨b', ws, f2, eb, _, hb, os2⟩ := ow
    rw [ew] at eb
    cases eb
    have l := os2.length
    rw [List.length_map] at l
    exact ⟨ws, .of hb, by rw [l]; exact hi⟩
end
section
variable {X : Cx} {e b tg : Expr} {pos : Pos} {as bs : List Nat} {sts : List Stmt} {m : MS}
/-- x[i], x the name of slot j, i reckoned purely: its items; what x will be afterwards; the store without x -/
def iLoan (j : Nat) (mi : MP) : Sto → Option (List D × T × Sto) := fun S => match S[j]? with
  | some (some (.lst ts)) => (mi S).bind fun d => match d with
    | .int i => (ixN ts.length i).bind fun n => match ts[n]? with
      | some (.lst us) => some (us.map fz, .lst (ts.set n (.lst ((us.map fz).map .sh))), S.set j none)
      | some (.sh (.lst ds)) => some (ds, .lst ts, S.set j none)
      | _ => none
    | _ => none
  | _ => none
def iVL (K : PySem.W.Frag) (j : Nat) (mi : Sto → Option (List D × T × Sto)) : TI := fun σ H R => ∃ S fr ds t' S', AtS K H σ S fr ∧ mi S = some (ds, t', S') ∧
  ∀ J H' v t'', σ[j]? = some (some v) → Feeds K J [(v, t'')] ds → (∀ G ps, At K G ((v, t'') :: ps) → At K G ((v, t') :: ps)) → AtS K H' σ S' ((v, t'') :: fr) → R J H'
theorem vi_loan (j : Nat) {x : Str} {px : Pos} {mi : MP} (hb : VP X b mi) (hs : PlainIx b := by exact fun _ _ => rfl) (hN : X.N[j]? = some x := by rfl) (hv : Vis X.env.scope x := by first | exact Or.inl rfl | exact Or.inr (Or.inl rfl) | exact Or.inr (Or.inr rfl)) (hd : (x == ("__debug__" : Str)) = false := by decide)
    (hcd : (x == ("__classdict__" : Str)) = false := by decide) : PI X tg (.Subscript (.Name x px) b pos) (iVL X.K j (iLoan j mi)) :=
  PI.imp (pi_list (pe_ix ix_seq (pe_var hN hv hd hcd) hb hs)) fun σ H R ⟨S, fr, ds, t', S', h, e, q⟩ => by
    unfold iLoan at e
    split at e
    · rename_i ts e0
      obtain ⟨d, e1, e⟩ := Option.bind_eq_some_iff.mp e
      split at e
      · rename_i i
        obtain ⟨n, e2, e⟩ := Option.bind_eq_some_iff.mp e
        split at e
        · rename_i us e3
          cases e
          obtain ⟨v, hv, k⟩ := h.take e0
          obtain ⟨a, vs, b, ws, rfl, ha, l, hw, hb, l2, k2⟩ := At.pinAt k.at1 e3
          have hn : n < ts.length := (List.getElem?_eq_some_iff.mp e3).1
          refine ⟨_, hv, S, fr, .int i, h, e1, fun u ru => ?_⟩
          rw [show u = .int i from ru]
          refine IxAt.rIx (.inl ⟨a, vs, rfl, .inl (.of ha), (by unfold L2.atI; rw [l, e2]; exact hw)⟩) ⟨b, rfl, ⟨ws, .of hb⟩, ?_⟩
          exact q _ H (.ref a) _ hv (feeds_pin hn) (fun G ps g => At.unpinAt hn g) (AtS.of k.1 k2)
        · rename_i ds0 e3
          cases e
          obtain ⟨v, hv, k⟩ := h.take e0
          obtain ⟨a, vs, b, ws, rfl, ha, l, hw, hb, k2⟩ := At.pinSh k.at1 e3
          have hn : n < ts.length := (List.getElem?_eq_some_iff.mp e3).1
          refine ⟨_, hv, S, fr, .int i, h, e1, fun u ru => ?_⟩
          rw [show u = .int i from ru]
          refine IxAt.rIx (.inl ⟨a, vs, rfl, .inl (.of ha), (by unfold L2.atI; rw [l, e2]; exact hw)⟩) ⟨b, rfl, ⟨ws, hb⟩, ?_⟩
          exact q _ H (.ref a) _ hv (feeds_pinSh hn) (fun G ps g => by
            have z := At.unpinAt hn g
            rw [set_at e3] at z
            exact z) (AtS.of k.1 k2)
        · cases e
      · cases e
    · cases e
def restF (j : Nat) (t : T) : Fl → Fl
  | .nx S => .nx (S.set j (some t))
  | .bk S => .bk (S.set j (some t))
  | .ct S => .ct (S.set j (some t))
  | .rt r S => .rt r (S.set j (some t))
def mForL (j : Nat) (mi : Sto → Option (List D × T × Sto)) (g : T → Sto → Option Sto) (b : MS) : MS := fun S => (mi S).bind fun p => (loopF g b p.1 p.2.2).map (restF j p.2.1)
theorem FlOk.lent {K : PySem.W.Frag} {cs : List Nat} {D : Ends} {σ : St} {fr : Ps} {f : Fl} {j : Nat} {v : V} {t t' : T} (hv : σ[j]? = some (some v)) (hj : j ∉ cs) (un : ∀ G ps, At K G ((v, t') :: ps) → At K G ((v, t) :: ps)) (h : FlOk K cs D σ fr (restF j t f)) : FlOk K cs D σ ((v, t') :: fr) f := by
  have back : ∀ {σ' : St} {H' : Hp} {S : Sto} {fr : Ps}, Keep cs σ σ' → AtS K H' σ' S ((v, t') :: fr) → AtS K H' σ' (S.set j (some t)) fr := fun k h' => by
    have z := (AtS.of h'.1 (un _ _ h'.at1) : AtS K _ _ _ ((v, t) :: _))
    exact z.back ((k.2 j hj).trans hv)
  cases f with
  | nx S => exact fun σ' H' k h' => h σ' H' k (back k h')
  | bk S => exact fun σ' H' k h' => h σ' H' k (back k h')
  | ct S => exact fun σ' H' k h' => h σ' H' k (back k h')
  | rt r S => exact fun σ' u H' k h' => h σ' u H' k (back k (h'.sub ⟨[], (List.Perm.swap ..)⟩))
theorem vs_forL {it : Expr} {j : Nat} {mi : Sto → Option (List D × T × Sto)} {g : T → Sto → Option Sto} (hp : PassesOwn (model X.prog X.w) X.A X.env X.xe) (hc : X.calm = true) (hi : PI X tg it (iVL X.K j mi)) (hg : VG X as tg g) (hb : VSs X bs sts m) (hj : j ∉ as ++ bs := by decide) (hs : ∀ x, foldedSetIterable it X.env x = pure x := by intro _; rfl) :
    VS X (as ++ bs) (.For tg it sts [] pos) (mForL j mi g m) := PS.imp (ps_for hp hc hi hg hb hs) fun D σ H ⟨S, fr, f, h, e, q⟩ => by
  obtain ⟨⟨ds, t, S1⟩, e1, e2⟩ := Option.bind_eq_some_iff.mp e
  obtain ⟨f0, e2', rfl⟩ := Option.map_eq_some_iff.mp e2
  refine ⟨S, fr, ds, t, S1, h, e1, fun J H1 v t'' hv F un h1 => ?_⟩
  have q0 : FlOk X.K (as ++ bs) D σ ([(v, t'')] ++ fr) f0 := FlOk.lent hv hj un q
  refine ⟨fun i k σ1 H1 => ∃ S1, k = ds.length - i ∧ i ≤ ds.length ∧ AtS X.K H1 σ1 S1 ([(v, t'')] ++ fr) ∧ Keep (as ++ bs) σ σ1 ∧ loopF g m (ds.drop i) S1 = some f0, ⟨ds.length, S1, by simp, Nat.zero_le _, h1, .refl, e2'⟩, ?_⟩
  rintro i k σ1 H1 ⟨S2, rfl, hi, h2, k2, e3⟩
  have hat : At X.K H1 ([(v, t'')] ++ (fr ++ prs σ1 S2)) := by
    have z := h2.front
    rw [List.append_assoc] at z
    exact z
  by_cases hlt : i < ds.length
  · have hd : ds[i]? = some ds[i] := List.getElem?_eq_getElem hlt
    obtain ⟨go, yl⟩ := F.go H1 _ hat i _ hd
    rw [List.drop_eq_getElem_cons hlt] at e3
    obtain ⟨S3, e4, e5⟩ := Option.bind_eq_some_iff.mp e3
    obtain ⟨f1, e6, e7⟩ := Option.bind_eq_some_iff.mp e5
    refine .inr ⟨go, fun σ3 H3 => ∃ S3, AtS X.K H3 σ3 S3 ([(v, t'')] ++ fr) ∧ Keep (as ++ bs) σ σ3 ∧ loopF g m (ds.drop (i + 1)) S3 = some f0, fun σ3 H3 ⟨S4, a1, a2, a3⟩ => ⟨ds.length - (i + 1), by omega, S4, rfl, hlt, a1, a2, a3⟩, fun x H' y => ?_⟩
    have h3 := yl x H' y
    have h4 : AtS X.K H' σ1 S2 ((x, .sh ds[i]) :: ([(v, t'')] ++ fr)) := AtS.of h2.1 (by
      have z : (x, T.sh ds[i]) :: ([(v, t'')] ++ fr) ++ prs σ1 S2 = (x, T.sh ds[i]) :: ([(v, t'')] ++ (fr ++ prs σ1 S2)) := by simp
      rw [z]
      exact h3)
    refine ⟨S2, [(v, t'')] ++ fr, _, S3, h4, e4, fun σ2 k3 h5 => ⟨S3, [(v, t'')] ++ fr, f1, h5, e6, ?_⟩⟩
    have kk : ∀ {σ4 : St}, Keep bs σ2 σ4 → Keep (as ++ bs) σ σ4 := fun k4 => k2.add (k3.trans k4)
    cases f1 with
    | nx S4 => exact fun σ4 H4 k4 h6 => ⟨S4, h6, kk k4, e7⟩
    | ct S4 => exact fun σ4 H4 k4 h6 => ⟨S4, h6, kk k4, e7⟩
    | bk S4 =>
      cases e7
      exact fun σ4 H4 k4 h6 => q0 σ4 H4 (kk k4) h6
    | rt r S4 =>
      cases e7
      exact fun σ4 v H4 k4 h6 => q0 σ4 v H4 (kk k4) h6
  · have e8 : i = ds.length := by omega
    subst e8
    rw [List.drop_length] at e3
    cases e3
    exact .inl ⟨F.stop H1 _ hat _ (Nat.le_refl _), q0 σ1 H1 k2 h2⟩
/-- x[i].append(e), x the name of slot j; e does not speak of x -/
def sAppI (j : Nat) (mi : MP) (me : ME) : MS := fun S => match S[j]? with
  | some (some (.lst ts)) => (mi S).bind fun d => match d with
    | .int i => (ixN ts.length i).bind fun n => match ts[n]? with
      | some (.lst us) => (me (S.set j none)).bind fun p => if us.length < sizeLine then some (.nx (p.2.set j (some (.lst (ts.set n (.lst ((us.map fz).map .sh ++ [p.1]))))))) else none
      | _ => none
    | _ => none
  | _ => none
theorem vs_appI (j : Nat) {x : Str} {px ps apos cpos : Pos} {mi : MP} {me : ME} (hb : VP X b mi) (he : VE X e me) (hN : X.N[j]? = some x := by rfl) (hvs : Vis X.env.scope x := by first | exact Or.inl rfl | exact Or.inr (Or.inl rfl) | exact Or.inr (Or.inr rfl)) (hd : (x == ("__debug__" : Str)) = false := by decide)
    (hcd : (x == ("__classdict__" : Str)) = false := by decide) (hsx : PlainIx b := by exact fun _ _ => rfl) (hs2 : swapsWith (.Call (.Attribute (.Subscript (.Name x px) b ps) "append" apos) [e] [] cpos) none pos.line X.env = pure false := by rfl)
    (hbase : attributeBase (.Subscript (.Name x px) b ps) "append" X.env (eval (.Subscript (.Name x px) b ps) X.env) = eval (.Subscript (.Name x px) b ps) X.env := by rfl)
    (hfew : ((backTo cpos (starEach [e] X.env)).all (fun x => !x.1) && (backToKw cpos (keywordEach [] X.env)).all (fun x => x.1.isSome)
      && decide (([e] : List Expr).length + ([] : List Keyword).length + (if ([] : List Keyword).isEmpty then 0 else 1) < 30)) = true := by rfl)
    (hline : (apos.endLine == cpos.line) = true := by rfl) (hs : starEach [e] X.env = (false, eval e X.env) :: starEach [] X.env := by rfl) (hplain : (backTo cpos (starEach [] X.env)).any (·.1) = false := by rfl) :
    VS X [] (.Expr (.Call (.Attribute (.Subscript (.Name x px) b ps) "append" apos) [e] [] cpos) pos) (sAppI j mi me) :=
  PS.imp (ps_expr (pe_bm PySem.F.plainAttrs_list PySem.F.slot_list_append PySem.F.type_list_append mt_append (pe_ix ix_seq (pe_var hN hvs hd hcd) hb hsx) (pa_cons he pa_nil hs) hbase hfew hline hs hplain) hs2) fun D σ H ⟨S, fr, f, h, e, q⟩ => by
    unfold sAppI at e
    split at e
    · rename_i ts e0
      obtain ⟨d, e1, e⟩ := Option.bind_eq_some_iff.mp e
      split at e
      · rename_i i
        obtain ⟨n, e2, e⟩ := Option.bind_eq_some_iff.mp e
        split at e
        · rename_i us e3
          obtain ⟨⟨t, S1⟩, e4, e⟩ := Option.bind_eq_some_iff.mp e
          split at e
          · rename_i hl
            cases e
            obtain ⟨v, hv, k⟩ := h.take e0
            obtain ⟨a, vs, b, ws, rfl, ha, l, hw, hb, l2, k2⟩ := At.pinAt k.at1 e3
            have hn : n < ts.length := (List.getElem?_eq_some_iff.mp e3).1
            refine ⟨_, hv, S, fr, .int i, h, e1, fun u ru => ?_⟩
            rw [show u = .int i from ru]
            refine IxAt.rIx (w := .ref b) (.inl ⟨a, vs, rfl, .inl (.of ha), (by unfold L2.atI; rw [l, e2]; exact hw)⟩) ?_
            refine ⟨.inl ⟨rfl, ws, .of hb⟩, S.set j none, (.ref a, .lst (ts.set n (.pin b (.lst ((us.map fz).map .sh))))) :: fr, t, S1, AtS.of k.1 k2, e4, fun x H1 h1 => ?_⟩
            obtain ⟨ws', hb', l3, k3⟩ := At.pinApp hn h1.two.at1
            rw [List.length_map, List.length_map] at l3
            refine ⟨b, ws', x, rfl, rfl, hb', by rw [l3]; exact hl, ?_⟩
            have k4 := (AtS.of h1.1 k3 : AtS X.K _ σ S1 ((.ref a, .lst (ts.set n (.lst ((us.map fz).map .sh ++ [t])))) :: fr)).back hv
            exact q σ _ .refl k4
          · cases e
        · cases e
      · cases e
    · cases e
end
end VS
/-! VS15: comprehensions over a list that is lent. -/
namespace VS
open PySem PySem.Spec PyProof.Rows L2
section
variable {X : Cx} {e a b c : Expr} {es : List Expr} {pos : Pos}
def eLcL (j : Nat) (mi : Sto → Option (List D × T × Sto)) (g : T → Sto → Option Sto) (tt : MT) (te : ME) (own : List Nat) : ME := fun S => (mi S).bind fun p => (lcGo g tt te own p.1 (wipeS p.2.2 own) []).bind fun r => some (.lst r.1, r.2.set j (some p.2.1))
theorem lc_impL {j : Nat} {mi : Sto → Option (List D × T × Sto)} {g : T → Sto → Option Sto} {tt : MT} {te : ME} {as own : List Nat} {σ : St} {H : Hp} {Q : VK} (hw : ∀ i ∈ as, i ∈ own) (h : tV X.K (eLcL j mi g tt te own) σ H Q) : tLc (iVL X.K j mi) (gV X.K as g) (tVT X.K tt) (tV X.K te) own σ H Q := by
  obtain ⟨S, fr, t, S', h, e, q⟩ := h
  obtain ⟨⟨ds, tj, S1⟩, e1, e⟩ := Option.bind_eq_some_iff.mp e
  obtain ⟨⟨out, S2⟩, e2, e⟩ := Option.bind_eq_some_iff.mp e
  obtain ⟨rfl, rfl⟩ : T.lst out = t ∧ S2.set j (some tj) = S' := by simpa using e
  refine ⟨S, fr, ds, tj, S1, h, e1, fun J H1 v t'' hv F un h1 D hD => ?_⟩
  let hold : Ps := [(v, t'')]
  -- the state between two turns
  refine ⟨fun i k H2 => ∃ S3 acc, k = ds.length - i ∧ i ≤ ds.length ∧ AtS X.K H2 (L2.wipe σ own) (wipeS S3 own) ((.ref D, .lst acc) :: (hold ++ fr)) ∧ lcGo g tt te own (ds.drop i) (wipeS S3 own) acc = some (out, S2), ⟨ds.length, S1, [], by simp, Nat.zero_le _, ?_, e2⟩, ?_⟩
  · have k := AtS.wipe (AtS.of h1.1 (At.newL (vs := []) (ts := []) h1.front rfl hD) : AtS X.K _ σ S1 ((.ref D, .lst []) :: (hold ++ fr))) own
    exact k
  · rintro i k H2 ⟨S3, acc, rfl, hi, h2, e3⟩
    have hat : At X.K H2 (hold ++ (fr ++ ((.ref D, .lst acc) :: prs (L2.wipe σ own) (wipeS S3 own)))) := by
      refine h2.front.perm ?_
      have z : (V.ref D, T.lst acc) :: (hold ++ fr) ++ prs (L2.wipe σ own) (wipeS S3 own) = (V.ref D, T.lst acc) :: ((hold ++ fr) ++ prs (L2.wipe σ own) (wipeS S3 own)) := rfl
      rw [z, ← List.append_assoc]
      exact List.perm_middle.symm
    by_cases hlt : i < ds.length
    · have hd : ds[i]? = some ds[i] := List.getElem?_eq_getElem hlt
      obtain ⟨go, yl⟩ := F.go H2 _ hat i _ hd
      rw [List.drop_eq_getElem_cons hlt] at e3
      obtain ⟨S4, e4, e5⟩ := Option.bind_eq_some_iff.mp e3
      obtain ⟨⟨b, S5⟩, e6, e7⟩ := Option.bind_eq_some_iff.mp e5
      refine .inr ⟨go, fun H3 => ∃ S6 acc', AtS X.K H3 (L2.wipe σ own) (wipeS S6 own) ((.ref D, .lst acc') :: (hold ++ fr)) ∧ lcGo g tt te own (ds.drop (i + 1)) (wipeS S6 own) acc' = some (out, S2),
        fun H3 ⟨S6, acc', a1, a2⟩ => ⟨ds.length - (i + 1), by omega, S6, acc', rfl, hlt, a1, a2⟩, fun x H' y => ?_⟩
      have h3 := yl x H' y
      have h4 : AtS X.K H' (L2.wipe σ own) (wipeS S3 own) ((x, .sh ds[i]) :: (.ref D, .lst acc) :: (hold ++ fr)) := AtS.of h2.1 (by
        refine h3.perm ?_
        have z : hold ++ (fr ++ (V.ref D, T.lst acc) :: prs (L2.wipe σ own) (wipeS S3 own)) = (hold ++ fr) ++ (V.ref D, T.lst acc) :: prs (L2.wipe σ own) (wipeS S3 own) := by simp
        rw [z]
        exact (List.perm_middle).cons _)
      refine ⟨wipeS S3 own, (.ref D, .lst acc) :: (hold ++ fr), _, S4, h4, e4, fun σ2 k3 h5 => ?_⟩
      have ew : L2.wipe σ2 own = L2.wipe σ own := by
        have wl : ∀ (vs : List Nat) (τ : St), (L2.wipe τ vs).length = τ.length := fun vs τ => wipe_length τ vs
        apply List.ext_getElem?
        intro j
        have wm : ∀ (vs : List Nat) (τ : St), j ∈ vs → (L2.wipe τ vs)[j]? = if j < τ.length then some none else none := by
          intro vs
          induction vs with
          | nil => intro τ hj; cases hj
          | cons u us ih =>
            intro τ hj
            show ((L2.wipe τ us).set u none)[j]? = _
            rw [List.getElem?_set, wl]
            by_cases huj : u = j
            · rw [if_pos huj, huj]
            · rw [if_neg huj]
              rcases List.mem_cons.mp hj with z | z
              · exact absurd z.symm huj
              · exact ih τ z
        have wn : ∀ (vs : List Nat) (τ : St), j ∉ vs → (L2.wipe τ vs)[j]? = τ[j]? := by
          intro vs
          induction vs with
          | nil => intro τ _; rfl
          | cons u us ih =>
            intro τ hj
            show ((L2.wipe τ us).set u none)[j]? = _
            rw [List.getElem?_set_ne fun z => hj (by simp [z])]
            exact ih τ fun z => hj (List.mem_cons_of_mem _ z)
        have hl2 : σ2.length = σ.length := k3.1.trans (wl own σ)
        by_cases hj : j ∈ own
        · rw [wm own σ2 hj, wm own σ hj, hl2]
        · rw [wn own σ2 hj, wn own σ hj]
          have z := k3.2 j fun z => hj (hw j z)
          rw [z]
          exact wn own σ hj
      refine ⟨ew, S4, (.ref D, .lst acc) :: (hold ++ fr), b, S5, h5, e6, fun H3 h6 => ?_⟩
      cases b with
      | true =>
        obtain ⟨⟨tr, S6⟩, e8, e9⟩ := Option.bind_eq_some_iff.mp (show ((te S5).bind _) = some (out, S2) by simpa using e7)
        simp only at e9
        split at e9
        · rename_i hl
          refine iteT ⟨S5, (.ref D, .lst acc) :: (hold ++ fr), tr, S6, h6, e8, fun y' H4 h7 => ?_⟩
          obtain ⟨vs, ha, l, k2⟩ := h7.at1.append
          refine ⟨vs, ha, by rw [l]; exact hl, S6, acc ++ [tr], ?_, e9⟩
          have k3 := AtS.wipe (AtS.of h7.1 k2 : AtS X.K _ σ2 S6 ((.ref D, .lst (acc ++ [tr])) :: (hold ++ fr))) own
          rw [ew] at k3
          exact k3
        · cases e9
      | false =>
        refine iteF ⟨S5, acc, ?_, by simpa using e7⟩
        have k3 := AtS.wipe h6 own
        rw [ew] at k3
        exact k3
    · have e8 : i = ds.length := by omega
      subst e8
      rw [List.drop_length] at e3
      obtain ⟨rfl, rfl⟩ : acc = out ∧ wipeS S3 own = S2 := by simpa [lcGo] using e3
      refine .inl ⟨F.stop H2 _ hat _ (Nat.le_refl _), q _ _ ?_⟩
      have k := h2.unwipe
      have k1 : AtS X.K H2 σ (wipeS S3 own) ((v, t'') :: (.ref D, .lst acc) :: fr) := k.sub ⟨[], (List.Perm.swap ..)⟩
      have k2 : AtS X.K H2 σ (wipeS S3 own) ((v, tj) :: (.ref D, .lst acc) :: fr) := AtS.of k1.1 (un _ _ k1.at1)
      exact k2.back hv
theorem ve_lcL {elt tg it : Expr} {ifs : List Expr} {scope : Scope} (own : List (Str × Nat)) {j : Nat} {mi : Sto → Option (List D × T × Sto)} {g : T → Sto → Option Sto} {tt : MT} {te : ME} {as : List Nat} (hc : X.calm = true) (hN : X.N.Nodup) (hi : PI X tg it (iVL X.K j mi)) (ok : BlkOk X.N X.env.scope scope own)
    (hg : ∀ (s : Shared) (H : Hp) (C : Addr) (cl : List (Str × Addr)) (fp : List Addr), VG (X.blk s H scope (compEnvC scope cl C X.env) fp) as tg g) (ht : ∀ (s : Shared) (H : Hp) (C : Addr) (cl : List (Str × Addr)) (fp : List Addr), VTs (X.blk s H scope (compEnvC scope cl C X.env) fp) ifs tt)
    (he : ∀ (s : Shared) (H : Hp) (C : Addr) (cl : List (Str × Addr)) (fp : List Addr), VE (X.blk s H scope (compEnvC scope cl C X.env) fp) elt te) (hw : as = own.map (·.2) := by rfl) (hs : ∀ x, foldedSetIterable it X.env x = pure x := by intro _; rfl) :
    VE X (.ListComp elt [⟨tg, it, ifs, 0⟩] scope pos) (eLcL j mi g tt te (own.map (·.2))) := PE.imp (pe_lc hc hN hi ok hg ht he hs) fun σ H Q h => lc_impL (fun i hi => by rw [← hw]; exact hi) h
theorem vs_setLcL (i : Nat) {y : Str} {py : Pos} {elt tg it : Expr} {ifs : List Expr} {scope : Scope} (own : List (Str × Nat)) {spos : Pos} {j : Nat} {mi : Sto → Option (List D × T × Sto)} {g : T → Sto → Option Sto} {tt : MT} {te : ME} {as : List Nat} (hc : X.calm = true) (hN : X.N.Nodup) (hsw : swapsWith (.ListComp elt [⟨tg, it, ifs, 0⟩] scope pos) (some (.Name y py)) spos.line X.env = pure true) (hi : PI X tg it (iVL X.K j mi)) (ok : BlkOk X.N X.env.scope scope own)
    (hg : ∀ (s : Shared) (H : Hp) (C : Addr) (cl : List (Str × Addr)) (fp : List Addr), VG (X.blk s H scope (compEnvC scope cl C X.env) fp) as tg g) (ht : ∀ (s : Shared) (H : Hp) (C : Addr) (cl : List (Str × Addr)) (fp : List Addr), VTs (X.blk s H scope (compEnvC scope cl C X.env) fp) ifs tt)
    (he : ∀ (s : Shared) (H : Hp) (C : Addr) (cl : List (Str × Addr)) (fp : List Addr), VE (X.blk s H scope (compEnvC scope cl C X.env) fp) elt te) (hw : as = own.map (·.2) := by rfl) (hy : X.N[i]? = some y := by rfl) (hyl : X.env.scope.names.lookup y = some .local := by rfl) (hs : ∀ x, foldedSetIterable it X.env x = pure x := by intro _; rfl) :
    VS X [i] (.Assign [.Name y py] (.ListComp elt [⟨tg, it, ifs, 0⟩] scope pos) spos) (sAsg (eLcL j mi g tt te (own.map (·.2))) (putS i)) := PS.imp (ps_setLc hc hN hy hyl hsw hi ok hg ht he hs) fun D σ H ⟨S, fr, f, h, e, q⟩ => by
  obtain ⟨⟨t, S1⟩, e1, e⟩ := Option.bind_eq_some_iff.mp e
  obtain ⟨S2, e2, e⟩ := Option.bind_eq_some_iff.mp e
  cases e
  obtain ⟨hi, rfl⟩ := putS_some e2
  exact lc_impL (fun i hi => by rw [← hw]; exact hi) ⟨S, fr, t, S1, h, e1, fun v H' h' => q _ H' .set (h'.put hi)⟩
end
end VS
/-! VS16: texts to lists, tuples cut and joined, tables of the module. -/
namespace VS
open PySem PySem.Spec PyProof.Rows L2 HT
/-! ### t[::-1] -/
section
variable {prog : Program} {w : World} {A : Around} {E : Value → Shared → Prop} {s : Shared}
theorem adjust_rev (n : Nat) : Builtin.Slice.sliceAdjust none none (-1) (n : Int) = ((n : Int) - 1, -1) := by
  unfold Builtin.Slice.sliceAdjust
  simp
theorem places_rev (n : Nat) : Builtin.Slice.slicePlaces ((n : Int) - 1) (-1) (-1) = n := by
  unfold Builtin.Slice.slicePlaces
  simp
  omega
theorem sliceApplied_rev {sl : Addr} {vl vu vs : Value} {n : Nat} {Q : Int × Int × Nat → Shared → Prop} (hs : s.heap.IsSliceOf sl vl vu vs) (pl : IsPart vl none) (pu : IsPart vu none) (ps : IsPart vs (some (-1)))
    (h : Q ((n : Int) - 1, -1, n) s) : wpAny (model prog w) A (Builtin.Slice.sliceApplied (.ref sl) (pure (n : Int))) Q E s := by
  obtain ⟨os, hos, hcs, hds⟩ := id hs
  unfold Builtin.Slice.sliceApplied Builtin.Slice.sliceFields
  refine wpAny_bind (wpAny_bind (wpAny_field hos hds (x := vl) rfl (wpAny_bind (wpAny_field hos hds (x := vu) rfl (wpAny_bind (wpAny_field hos hds (x := vs) rfl (wpAny_pure ?_)))))))
  refine wpAny_bind (slicePart_ ps ?_)
  show wpAny _ _ (if ((-1 : Int) == 0) = true then _ else _) _ _ s
  rw [if_neg (by decide)]
  refine wpAny_bind (slicePart_ pl (wpAny_bind (slicePart_ pu (wpAny_bind (wpAny_pure ?_)))))
  show wpAny _ _ (match Builtin.Slice.sliceAdjust none none (-1) (n : Int) with | (lo, hi) => pure (lo, (-1 : Int), Builtin.Slice.slicePlaces lo hi (-1))) _ _ s
  rw [adjust_rev n]
  show wpAny _ _ (pure ((n : Int) - 1, (-1 : Int), Builtin.Slice.slicePlaces ((n : Int) - 1) (-1) (-1))) _ _ s
  rw [places_rev]
  exact wpAny_pure h
theorem fm_congr {α β : Type} {f g : α → Option β} : ∀ (l : List α), (∀ m ∈ l, f m = g m) → l.filterMap f = l.filterMap g
  | [], _ => rfl
  | a :: l, h => by
    rw [List.filterMap_cons, List.filterMap_cons, h a List.mem_cons_self, fm_congr l fun m hm => h m (List.mem_cons_of_mem _ hm)]
theorem pick_rev (xs : Array Value) : ((List.range xs.size).filterMap fun (m : Nat) => xs[(((xs.size : Int) - 1) + (m : Int) * -1).toNat]?).toArray = xs.toList.reverse.toArray := by
  congr 1
  apply List.ext_getElem?
  intro i
  have e : (List.range xs.size).filterMap (fun (m : Nat) => xs[(((xs.size : Int) - 1) + (m : Int) * -1).toNat]?) = (List.range xs.size).map fun m => xs[xs.size - 1 - m]! := by
    rw [← List.filterMap_eq_map]
    refine fm_congr _ fun m hm => ?_
    rw [List.mem_range] at hm
    have : (((xs.size : Int) - 1) + (m : Int) * -1).toNat = xs.size - 1 - m := by omega
    rw [this]
    simp only [Function.comp]
    rw [getElem!_pos xs _ (by omega), Array.getElem?_eq_getElem]
  rw [e]
  by_cases hi : i < xs.size
  · rw [List.getElem?_map, List.getElem?_range hi, List.getElem?_reverse (by simpa using hi)]
    simp only [Option.map_some, Array.length_toList]
    rw [getElem!_pos xs _ (by omega)]
    simp [Array.getElem?_eq_getElem (show xs.size - 1 - i < xs.size by omega)]
  · rw [List.getElem?_eq_none (by simpa using hi), List.getElem?_eq_none (by simpa using hi)]
theorem getItem_tuple_rev {t sl : Addr} {items : Array Value} {vl vu vs : Value} {Q : Value → Shared → Prop} (ht : IsTup s.heap t items) (hs : s.heap.IsSliceOf sl vl vu vs) (pl : IsPart vl none) (pu : IsPart vu none) (ps : IsPart vs (some (-1)))
    (h : Q (.ref s.heap.objs.size) { s with heap := s.heap.push { cls := .type "tuple", data := .seq items.toList.reverse.toArray } })
    (hsz : items.size ≤ sizeLine) : wpAny (model prog w) A (getItem (.ref t) (.ref sl)) Q E s := by
  have htake : sizeOk (.seq items.toList.reverse.toArray) := by
    show items.toList.reverse.toArray.size ≤ sizeLine
    rw [List.size_toArray, List.length_reverse, Array.length_toList]
    exact hsz
  obtain ⟨os, hos, hcs, hds⟩ := id hs
  have hTs : s.TypeIs (.ref sl) "slice" := ⟨os, hos, hcs⟩
  unfold getItem
  try with_reducible refine wpAny_holding ?_
  first | refine wpAny_bind (wpAny_pure ?_) | skip
  refine wpAny_bind (wpAny_sequenceKey ht.typeIs (by decide) ?_)
  refine wpAny_bind (wpAny_callSpecial?_slot (name := Str.ofString "__getitem__") ht.typeIs PyProof.Rows.slot_tuple_getitem
    (wpAny_call_entry PyProof.Rows.slot_tuple_getitem ht.typeIs entry_tuple_getitem ?_ (args_tuple_getitem _ _)))
  show wpAny _ _ (Builtin.Tuple.tupleItemsOf (.ref t) >>= _) _ _ s
  refine wpAny_bind (tupleItemsOf_ ht ?_)
  refine wpAny_bind (wpAny_typeOf hTs ?_)
  rw [if_pos (by decide)]
  refine wpAny_bind (sliceApplied_rev hs pl pu ps ?_)
  have hno : ¬ (((items.size : Int) - 1 == 0 && (-1 : Int) == 1 && items.size == items.size) = true) := by
    intro q
    rw [Bool.and_eq_true, Bool.and_eq_true] at q
    exact absurd q.1.2 (by decide)
  show wpAny _ _ (if ((items.size : Int) - 1 == 0 && (-1 : Int) == 1 && items.size == items.size) = true then _ else _) _ _ s
  rw [if_neg hno, pick_rev]
  first
    | exact wpAny_bind (m := Builtin.Tuple.tupleExact _) (wpAny_newObj_type (wpAny_pure ⟨_, rfl, wpAny_pure h⟩) htake)
    | exact wpAny_bind (m := Builtin.Tuple.tupleExact _) (wpAny_newObj_type (wpAny_bind (wpAny_pure (wpAny_pure ⟨_, rfl, wpAny_pure h⟩))) htake)
    | exact wpAny_bind (wpAny_bind (m := Builtin.Tuple.tupleExact _) (wpAny_newObj_type (wpAny_pure (wpAny_pure ⟨_, rfl, wpAny_pure h⟩)) htake))
    | exact wpAny_bind (wpAny_bind (m := Builtin.Tuple.tupleExact _) (wpAny_newObj_type (wpAny_pure ⟨_, rfl, wpAny_pure h⟩) htake))
end
section
variable {X : Cx}
def tRevT (K : PySem.W.Frag) (te : TE) : TE := fun σ H Q => te σ H fun x H1 => ∃ a xs, x = .ref a ∧ SqT K H1 a xs ∧ ∀ p, H1 p = none → Q (.ref p) (upd H1 p (.tup xs.reverse))
theorem pe_revT {e : Expr} {te : TE} {k : Nat} {p1 p2 p3 pos : Pos} (he : PE X e te) : PE X (.Subscript e (.Slice none none (some (.UnaryOp .USub (.Constant (.int 1) k p1) p2)) p3) pos) (tRevT X.K te) := by
  refine ⟨fun pins s σ H Q I h => ?_⟩
  refine Subscript_ (thn (he.run pins s σ H _ I h) fun v s1 ⟨x, H1, I1, r1, q1⟩ => ?_)
  obtain ⟨a, xs, ex, hx, q⟩ := q1
  subst ex
  cases r1
  have hst : PO X (some (.UnaryOp .USub (.Constant (.int 1) k p1) p2)) (tPart (tUn (rU fun i => .int (-i)) (tC (.int 1)))) := po_some (pe_un un_neg pe_int)
  refine wpAny_Slice (thn (po_none.run pins s1 σ H1 (fun o H2 => o = none ∧ H2 = H1) I1 ⟨rfl, rfl⟩) fun vl s2 ⟨l, H2, I2, pl, el, e2⟩ => ?_)
  subst el e2
  refine thn (po_none.run pins s2 σ H2 (fun o H3 => o = none ∧ H3 = H2) I2 ⟨rfl, rfl⟩) fun vu s3 ⟨u, H3, I3, pu, eu, e3⟩ => ?_
  subst eu e3
  refine thn (hst.run pins s3 σ H3 (fun o H4 => o = some (-1) ∧ H4 = H3) I3 ⟨1, rfl, -1, rfl, rfl, rfl⟩) fun vs s4 ⟨o, H4, I4, ps, eo, e4⟩ => ?_
  subst eo e4
  have I5 : Inv X pins σ H4 { s4 with heap := s4.heap.push { cls := .type "slice", data := .fields #[vl, vu, vs] } } := I4.kept (t' := s4.toks) fun b ob q => Heap.get?_push_of_some _ q
  obtain ⟨its, r, ht, hz⟩ := I5.tuple hx
  have hlen := r.length
  show wpAny (model X.prog X.w) X.A (subscriptTail e (.Slice none none (some (.UnaryOp .USub (.Constant (.int 1) k p1) p2)) p3) (.ref a) (.ref s4.heap.objs.size)) (EP X pins σ Q) X.xe { s4 with heap := s4.heap.push { cls := .type "slice", data := .fields #[vl, vu, vs] } }
  refine tail_any (ops := [.ref a, .ref s4.heap.objs.size]) ht.typeIs (PyProof.Rows.slot_tuple_getitem.lookup) ?_ (by with_unfolding_all rfl)
  refine getItem_tuple_rev ht (Heap.IsSliceOf.new _ vl vu vs) pl pu ps ?_ (by rw [List.size_toArray]; omega)
  refine ⟨.ref _, _, I5.laid (t' := s4.toks) (o := .tup xs.reverse) (fun b ob q => Heap.get?_push_of_some _ q) (Nat.le_refl _) ?_, rfl, q _ (I5.hok.fresh (Nat.le_refl _))⟩
  exact ⟨by rw [List.length_reverse]; exact hz, _, r.reverse, IsTup.new _ _⟩
end
section
variable {X : Cx} {a b c e : Expr} {es : List Expr} {pos : Pos}
/-- e[i:j], e a tuple -/
def eSlT (m : ME) (l h : Sto → Option (Option Int)) : ME := fun S => (m S).bind fun p => (l p.2).bind fun lo => (h p.2).bind fun hi => match fz p.1 with
  | .tup ds => some (.sh (.tup (cutD ds lo hi)), p.2)
  | _ => none
theorem At.cutT {K : PySem.W.Frag} {H : Hp} {ps : Ps} {us : List V} {ds : List D} {lo hi : Option Int} {p : Addr} (l2 : us.length = ds.length) (h3 : At K H (us.zip (ds.map .sh) ++ ps)) (hp : H p = none) :
    At K (upd H p (.tup (cutV us lo hi))) ((.ref p, .sh (.tup (cutD ds lo hi))) :: ps) := by
  have z := h3.cut (HT.sIx us.length 0 lo) (HT.sIx us.length us.length hi - HT.sIx us.length 0 lo)
  have e4 : (cutD ds lo hi).map T.sh = ((ds.map T.sh).drop (HT.sIx us.length 0 lo)).take (HT.sIx us.length us.length hi - HT.sIx us.length 0 lo) := by
    unfold cutD
    rw [List.map_take, List.map_drop, l2]
  have k : At K (upd H p (.tup (cutV us lo hi))) ((.ref p, .tup ((cutD ds lo hi).map .sh)) :: ps) := by
    refine At.newT ?_ ?_ hp
    · rw [e4]
      exact z
    · rw [List.length_map]
      show (cutD us lo hi).length = (cutD ds lo hi).length
      unfold cutD
      rw [List.length_take, List.length_take, List.length_drop, List.length_drop, l2]
  have k2 := k.freeze
  rw [fz_kids] at k2
  exact k2
theorem cutD_whole {α : Type} {ds : List α} {lo hi : Option Int} (h : HT.sIx ds.length 0 lo = 0 ∧ HT.sIx ds.length ds.length hi = ds.length) : cutD ds lo hi = ds := by
  unfold cutD
  rw [h.1, h.2]
  simp
theorem ve_slT {lo hi : Option Expr} {m : ME} {l h : Sto → Option (Option Int)} {p2 : Pos} (he : VE X e m) (hl : PO X lo (tPO X.K l)) (hh : PO X hi (tPO X.K h)) : VE X (.Subscript e (.Slice lo hi none p2) pos) (eSlT m l h) :=
  PE.imp (pe_slice sl_tupA he hl hh) fun σ H Q ⟨S, fr, t, S', h0, e, q⟩ => by
    obtain ⟨⟨t0, S1⟩, e1, e⟩ := Option.bind_eq_some_iff.mp e
    obtain ⟨lo', e2, e⟩ := Option.bind_eq_some_iff.mp e
    obtain ⟨hi', e3, e⟩ := Option.bind_eq_some_iff.mp e
    refine ⟨S, fr, t0, S1, h0, e1, fun v H1 h1 => ⟨S1, (v, .sh (fz t0)) :: fr, lo', h1.freeze, e2, S1, (v, .sh (fz t0)) :: fr, hi', h1.freeze, e3, ?_⟩⟩
    simp only at e
    split at e
    · rename_i ds ed
      obtain ⟨rfl, rfl⟩ : T.sh (.tup (cutD ds lo' hi')) = t ∧ S1 = S' := by simpa using e
      have h2 := h1.freeze
      rw [ed] at h2
      have h5 := h2
      obtain ⟨a, us, rfl, k, l2, h3⟩ := h2.at1.kidsT
      refine ⟨a, us, rfl, k, fun hw => q _ _ ?_, fun _ p hp => q _ _ (AtS.of h2.1 (At.cutT l2 h3 hp))⟩
      rw [l2] at hw
      rw [cutD_whole hw]
      exact h5
    · cases e
/-- e[::-1], e a tuple -/
def eRevT (m : ME) : ME := fun S => (m S).bind fun p => match fz p.1 with
  | .tup ds => some (.sh (.tup ds.reverse), p.2)
  | _ => none
theorem ve_revT {m : ME} {k : Nat} {p1 p2 p3 : Pos} (he : VE X e m) : VE X (.Subscript e (.Slice none none (some (.UnaryOp .USub (.Constant (.int 1) k p1) p2)) p3) pos) (eRevT m) :=
  PE.imp (pe_revT he) fun σ H Q ⟨S, fr, t, S', h0, e, q⟩ => by
    obtain ⟨⟨t0, S1⟩, e1, e⟩ := Option.bind_eq_some_iff.mp e
    refine ⟨S, fr, t0, S1, h0, e1, fun v H1 h1 => ?_⟩
    simp only at e
    split at e
    · rename_i ds ed
      obtain ⟨rfl, rfl⟩ : T.sh (.tup ds.reverse) = t ∧ S1 = S' := by simpa using e
      have h2 := h1.freeze
      rw [ed] at h2
      obtain ⟨a, us, rfl, k, l2, h3⟩ := h2.at1.kidsT
      refine ⟨a, us, rfl, k, fun p hp => q _ _ (AtS.of h2.1 ?_)⟩
      have k := At.newT (K := X.K) (ts := ds.reverse.map .sh) (by rw [List.map_reverse]; exact h3.rev (by rw [List.length_map]; exact l2)) (by rw [List.length_map, List.length_reverse, List.length_reverse]; exact l2) hp
      have k2 := k.freeze
      rw [fz_kids] at k2
      exact k2
    · cases e
/-- tuple + tuple -/
def catT (x y : T) : Option T := match fz x, fz y with
  | .tup xs, .tup ys => if xs.length + ys.length ≤ sizeLine then some (.sh (.tup (xs ++ ys))) else none
  | _, _ => none
theorem ot_cat : OpR X (binaryOp .Add) (rT X.K catT) := by
  intro pins s σ H x y v u Q I rx ry ⟨tx, ty, ps, t, h, e, q⟩
  unfold catT at e
  split at e
  · rename_i xs ys ex ey
    split at e
    · rename_i hl
      have z := Option.some.inj e
      subst z
      have h1 : At X.K H ((y, .sh (.tup ys)) :: (x, .sh (.tup xs)) :: ps) := by
        have k := h.freeze
        rw [ey] at k
        have k2 := (k.perm (.swap ..)).freeze
        rw [ex] at k2
        exact k2.perm (.swap ..)
      obtain ⟨b, vs2, rfl, k2, l2, h2⟩ := h1.kidsT
      obtain ⟨a, vs1, rfl, k1, l1, h3⟩ := ((h1.tail)).kidsT
      obtain ⟨a', vs1', e1, k1', l1', h3'⟩ := (h2.perm (qs := (.ref a, .sh (.tup xs)) :: (vs2.zip (ys.map .sh) ++ ps)) List.perm_middle).kidsT
      refine op_catA pins s σ H _ _ v u Q I rx ry ⟨a', b, vs1', vs2, e1, rfl, k1', k2, by rw [l1', l2]; exact hl, fun hx => ?_, fun _ hy => ?_, fun _ _ p hp => q _ _ ?_⟩
      · have : xs = [] := by
          rw [hx] at l1'
          exact List.eq_nil_of_length_eq_zero l1'.symm
        subst this
        exact q _ _ (h1.perm (.swap ..)).tail
      · have : ys = [] := by
          rw [hy] at l2
          exact List.eq_nil_of_length_eq_zero l2.symm
        subst this
        rw [List.append_nil] at q
        have k := h1.tail
        rw [show V.ref a = V.ref a' from e1] at k
        exact q _ _ k
      · have k := At.newT (K := X.K) (vs := vs1' ++ vs2) (ts := (xs ++ ys).map .sh) (p := p) (H := H) (ps := ps) (by
          rw [List.map_append, List.zip_append (by rw [List.length_map]; exact l1'), List.append_assoc]
          exact h3') (by simp [l1', l2]) hp
        have k2 := k.freeze
        rw [fz_kids] at k2
        exact k2
    · cases e
  · cases e
/-- list * int -/
theorem At.dupAll {K : PySem.W.Frag} {H : Hp} : ∀ {ds : List D} {vs : List V} {ps : Ps}, At K H (vs.zip (ds.map .sh) ++ ps) → At K H (vs.zip (ds.map .sh) ++ (vs.zip (ds.map .sh) ++ ps))
  | [], vs, ps, h => by simpa using h
  | d :: ds, [], ps, h => by simpa using h
  | d :: ds, v :: vs, ps, h => by
    have h1 : At K H ((v, .sh d) :: (vs.zip (ds.map .sh) ++ ps)) := h
    have h2 := h1.dup
    have h3 : At K H (vs.zip (ds.map .sh) ++ ((v, .sh d) :: (v, .sh d) :: ps)) := h2.perm (by
      refine (List.Perm.cons _ List.perm_middle.symm).trans ?_
      exact List.perm_middle.symm)
    have h4 := At.dupAll h3
    refine h4.perm ?_
    show (vs.zip (ds.map T.sh) ++ (vs.zip (ds.map T.sh) ++ ((v, T.sh d) :: (v, T.sh d) :: ps))).Perm ((v, T.sh d) :: (vs.zip (ds.map T.sh) ++ ((v, T.sh d) :: (vs.zip (ds.map T.sh) ++ ps))))
    refine (List.Perm.append_left _ (List.perm_middle.trans (List.Perm.cons _ List.perm_middle))).trans ?_
    refine List.perm_middle.trans (List.Perm.cons _ ?_)
    exact List.Perm.append_left _ (.refl _)
theorem At.repL {K : PySem.W.Frag} {H : Hp} {ds : List D} {vs : List V} (l : vs.length = ds.length) : ∀ {k : Nat} {ps : Ps}, At K H (vs.zip (ds.map .sh) ++ ps) → At K H ((List.replicate k vs).flatten.zip ((List.replicate k ds).flatten.map .sh) ++ ps)
  | 0, ps, h => h.drop
  | k + 1, ps, h => by
    have h2 := At.dupAll h
    rw [List.replicate_succ, List.replicate_succ, List.flatten_cons, List.flatten_cons, List.map_append, List.zip_append (by rw [List.length_map]; exact l), List.append_assoc]
    have h3 := At.repL l (k := k) (h2.perm (qs := vs.zip (ds.map .sh) ++ (vs.zip (ds.map .sh) ++ ps)) (.refl _))
    exact h3.perm (by
      rw [← List.append_assoc, ← List.append_assoc]
      exact List.perm_append_comm.append_right ps)
def repT (x y : T) : Option T := match x, fz y with
  | .lst ts, .int k => if shAll ts = true ∧ -(2 ^ 63) ≤ k ∧ k < 2 ^ 63 ∧ ts.length * k.toNat ≤ sizeLine then some (.lst (List.replicate k.toNat ts).flatten) else none
  | _, _ => none
theorem shAll_map : ∀ {ts : List T}, shAll ts = true → ts = (fzL ts).map .sh
  | [], _ => rfl
  | .sh d :: ts, h => by
    show _ = T.sh d :: (fzL ts).map .sh
    rw [← shAll_map (ts := ts) h]
  | .lst _ :: _, h => nomatch h
  | .tup _ :: _, h => nomatch h
  | .ob _ _ _ :: _, h => nomatch h
  | .dct _ _ :: _, h => nomatch h
  | .pin _ _ :: _, h => nomatch h
theorem ot_rep : OpR X (binaryOp .Mult) (rT X.K repT) := by
  intro pins s σ H x y v u Q I rx ry ⟨tx, ty, ps, t, h, e, q⟩
  unfold repT at e
  split at e
  · rename_i ts k ey
    split at e
    · rename_i hl
      have z := Option.some.inj e
      subst z
      obtain ⟨h1, h2, h3, h4⟩ := hl
      have ry' : Rep X.K H y (.int k) := by
        have r := h.freeze.rep
        rw [ey] at r
        exact r
      obtain ⟨a, vs, ex, ha, lv, ho⟩ := h.tail.open
      have k1 : At X.K H (vs.zip ts ++ ps) := by
        obtain ⟨G, fp, s, o, n, g, x⟩ := ho
        exact ⟨G, fp, s, o, (List.nodup_append.mp n).2.1, fun b hb => g b (List.mem_append_right _ hb), fun b hb => nomatch hb⟩
      have et := shAll_map h1
      have lz : vs.length = (fzL ts).length := by
        rw [fzL_map, List.length_map]
        exact lv
      rw [et] at k1
      refine op_rep pins s σ H _ _ v u Q I rx ry ⟨a, k, vs, ex, ry', ha, h2, h3, by rw [lv]; exact h4, fun p hp => q _ _ ?_⟩
      have k2 := At.repL lz (k := k.toNat) k1
      have e5 : (List.replicate k.toNat ts).flatten = (List.replicate k.toNat (fzL ts)).flatten.map .sh := by
        conv => lhs; rw [et]
        rw [List.map_flatten, List.map_replicate]
      rw [e5]
      refine At.newL k2 ?_ hp
      rw [List.length_map, List.length_flatten, List.length_flatten, List.map_replicate, List.map_replicate, lz]
    · cases e
  · cases e
/-- a.split(b) -/
def eSplit (ma mb : ME) : ME := fun S => (ma S).bind fun p => (mb p.2).bind fun q => match fz p.1, fz q.1 with
  | .str x, .str y => if (y.length == 0) = false ∧ x.length + 2 ≤ sizeLine then some (.lst ((Txt.split x y).map fun z => .sh (.str z)), q.2) else none
  | _, _ => none
theorem At.newStrs {K : PySem.W.Frag} {H : Hp} {ps : Ps} (ys : List Str) (h : At K H ps) : At K H ((ys.map V.str).zip (ys.map fun z => T.sh (.str z)) ++ ps) := by
  induction ys with
  | nil => exact h
  | cons y ys ih => exact ih.new (d := .str y) fun _ => rfl
theorem ve_split {apos : Pos} {ma mb : ME} (ha : VE X a ma) (hb : VE X b mb) (hs : starEach [b] X.env = [(false, eval b X.env)] := by rfl) (hbase : attributeBase a "split" X.env (eval a X.env) = eval a X.env := by rfl) (hline : (apos.endLine == pos.line) = true := by rfl) :
    VE X (.Call (.Attribute a "split" apos) [b] [] pos) (eSplit ma mb) := PE.imp (pe_split ha hb hs hbase hline) fun σ H Q ⟨S, fr, t, S', h, e, q⟩ => by
  obtain ⟨⟨ta, S1⟩, e1, e⟩ := Option.bind_eq_some_iff.mp e
  obtain ⟨⟨tb, S2⟩, e2, e⟩ := Option.bind_eq_some_iff.mp e
  simp only at e
  split at e
  · rename_i x y ex ey
    split at e
    · rename_i hl
      cases e
      refine ⟨S, fr, ta, S1, h, e1, fun v H1 h1 => ⟨?_, S1, (v, ta) :: fr, tb, _, h1, e2, fun u H2 h2 => ?_⟩⟩
      · have r := h1.rep
        rw [ex] at r
        exact ⟨x, r⟩
      · obtain ⟨r1, r2⟩ := h2.reps2
        rw [ex] at r1
        rw [ey] at r2
        refine ⟨x, y, r1, by rw [show u = .str y from r2], hl.1, hl.2, fun p hp => q _ _ (AtS.of h2.1 ?_)⟩
        exact At.newL (At.newStrs _ (h2.drops [_, _]).front) (by rw [List.length_map, List.length_map]) hp
    · cases e
  · cases e
/-- str(e) -/
def dStr : List D → Option D
  | [.int i] => if i.natAbs.log2 < 1920 then some (.str (toString i)) else none
  | [.str x] => some (.str x)
  | _ => none
theorem od_str : CallR X (.type "str") (rC X.K dStr) := by
  intro pins s σ H xs us Q I rx ⟨ds, d, r, e, q⟩
  unfold dStr at e
  split at e
  · split at e
    · rename_i hl
      have z := Option.some.inj e
      subst z
      obtain ⟨v, rfl, r1⟩ := r.one
      exact call_str_int pins s σ H _ us Q I rx ⟨_, by rw [show v = _ from r1], hl, q _ rfl⟩
    · cases e
  · have z := Option.some.inj e
    subst z
    obtain ⟨v, rfl, r1⟩ := r.one
    exact SkE.call_str_str pins s σ H _ us Q I rx ⟨_, by rw [show v = _ from r1], q _ rfl⟩
  · cases e
/-- int(text) -/
def dIntS : List D → Option D
  | [.str x] => if x.length ≤ 640 then (PySem.intText? x).map .int else none
  | _ => none
theorem od_intS : CallR X (.type "int") (rC X.K dIntS) := by
  intro pins s σ H xs us Q I rx ⟨ds, d, r, e, q⟩
  unfold dIntS at e
  split at e
  · split at e
    · rename_i hl
      obtain ⟨n, e1, rfl⟩ := Option.map_eq_some_iff.mp e
      obtain ⟨v, rfl, r1⟩ := r.one
      exact call_int_str pins s σ H _ us Q I rx ⟨_, _, by rw [show v = _ from r1], e1, hl, q _ rfl⟩
    · cases e
  · cases e
/-- is True, is not False -/
def dIsB : D → D → Option D
  | .bl a, .bl b => some (.bl (decide (a = b)))
  | _, _ => none
def dIsNotB : D → D → Option D
  | .bl a, .bl b => some (.bl (!decide (a = b)))
  | _, _ => none
theorem od_isB : OpR X (compareOp .Is) (rD X.K dIsB) := by
  intro pins s σ H x y v u Q I rx ry ⟨dx, dy, d, r1, r2, e, q⟩
  unfold dIsB at e
  split at e
  · have z := Option.some.inj e
    subst z
    exact op_isBl pins s σ H _ _ v u Q I rx ry ⟨_, _, r1, r2, q _ rfl⟩
  · cases e
theorem od_isNotB : OpR X (compareOp .IsNot) (rD X.K dIsNotB) := by
  intro pins s σ H x y v u Q I rx ry ⟨dx, dy, d, r1, r2, e, q⟩
  unfold dIsNotB at e
  split at e
  · have z := Option.some.inj e
    subst z
    exact op_notBl pins s σ H _ _ v u Q I rx ry ⟨_, _, r1, r2, q _ rfl⟩
  · cases e
theorem vss_never {as : List Nat} {st : List Stmt} : VSs X as st (fun _ => none) := ⟨fun pins s σ H D I ⟨_, _, _, _, e, _⟩ => nomatch e⟩
end
end VS
/-! VS17: index, tables of the module, isinstance of own classes. -/
namespace VS
open PySem PySem.Spec PyProof.Rows L2
section
variable {X : Cx} {a b c e : Expr} {es : List Expr} {pos : Pos}
/-! ### a.index(b) -/
def idxD (y : D) : List D → Option Nat
  | [] => none
  | d :: ds => if deq d y = true then some 0 else (idxD y ds).map (· + 1)
def indexD (x y : D) : Option D := match x with
  | .lst ds => if (sc y && ds.all sc) = true then (idxD y ds).map fun j => .int (j : Nat) else none
  | _ => none
theorem idxD_some {K : PySem.W.Frag} {H : Hp} {y : D} {u : V} (hy : sc y = true) (ru : Rep K H u y) : ∀ {ds : List D} {vs : List V} {j : Nat}, Reps K H vs ds → ds.all sc = true → idxD y ds = some j →
    ∃ z, vs[j]? = some z ∧ L2.eqV z u = true ∧ ∀ (m : Nat) (z' : V), m < j → vs[m]? = some z' → L2.eqV z' u = false
  | [], _, _, _, _, h => nomatch h
  | d :: ds, [], _, r, _, _ => r.elim
  | d :: ds, v :: vs, j, r, q, h => by
    rw [List.all_cons, Bool.and_eq_true] at q
    have e := Rep.eqV q.1 hy r.1 ru
    unfold idxD at h
    split at h
    · rename_i hd
      cases h
      exact ⟨v, rfl, by rw [e, hd], fun m z' hm => absurd hm (Nat.not_lt_zero m)⟩
    · rename_i hd
      obtain ⟨j', h1, rfl⟩ := Option.map_eq_some_iff.mp h
      obtain ⟨z, h2, h3, h4⟩ := idxD_some hy ru r.2 q.2 h1
      refine ⟨z, by simpa using h2, h3, fun m z' hm hz => ?_⟩
      cases m with
      | zero =>
        have : v = z' := by simpa using hz
        subst this
        rw [e]
        exact Bool.eq_false_iff.mpr hd
      | succ m => exact h4 m z' (by omega) (by simpa using hz)
theorem ve_index {apos : Pos} {ma mb : ME} (ha : VE X a ma) (hb : VE X b mb) (hbase : attributeBase a "index" X.env (eval a X.env) = eval a X.env := by rfl)
    (hfew : ((backTo pos (starEach [b] X.env)).all (fun x => !x.1) && (backToKw pos (keywordEach [] X.env)).all (fun x => x.1.isSome)
      && decide ([b].length + ([] : List Keyword).length + (if ([] : List Keyword).isEmpty then 0 else 1) < 30)) = true := by rfl)
    (hline : (apos.endLine == pos.line) = true := by rfl) (hs : starEach [b] X.env = (false, eval b X.env) :: starEach [] X.env := by rfl) (hpl : (backTo pos (starEach [] X.env)).any (·.1) = false := by rfl) :
    VE X (.Call (.Attribute a "index" apos) [b] [] pos) (e2M indexD ma mb) := PE.imp (pe_bm PySem.F.plainAttrs_list PySem.F.slot_list_index PySem.F.type_list_index mt_index ha (pa_cons hb pa_nil hs) hbase hfew hline hs hpl) fun σ H Q ⟨S, fr, t, S', h, e, q⟩ => by
  obtain ⟨⟨ta, S1⟩, e1, e⟩ := Option.bind_eq_some_iff.mp e
  obtain ⟨⟨tb, S2⟩, e2, e⟩ := Option.bind_eq_some_iff.mp e
  obtain ⟨d, e3, hs, rfl, rfl⟩ := sD_some e
  have e4 : indexD (fz ta) (fz tb) = some d := e3
  unfold indexD at e4
  split at e4
  · rename_i ds ed
    split at e4
    · rename_i hsc
      obtain ⟨hy, hds⟩ := Bool.and_eq_true_iff.mp hsc
      obtain ⟨j, e5, rfl⟩ := Option.map_eq_some_iff.mp e4
      refine ⟨S, fr, ta, S1, h, e1, fun v H1 h1 => ⟨?_, S1, (v, ta) :: fr, tb, _, h1, e2, fun u H2 h2 => ?_⟩⟩
      · have r := h1.rep
        rw [ed] at r
        obtain ⟨p, vs, rfl, k, _⟩ := r
        exact .inl ⟨rfl, vs, k⟩
      · obtain ⟨r1, r2⟩ := h2.reps2
        rw [ed] at r1
        obtain ⟨p, vs, rfl, k, rs⟩ := r1
        obtain ⟨z, h3, h4, h5⟩ := idxD_some hy r2 rs hds e5
        exact ⟨p, vs, u, j, z, rfl, rfl, k, r2.flat hy, rs.flat hds, h3, h4, h5, q _ _ ((h2.drops [_, _]).new fun _ => rfl)⟩
    · cases e4
  · cases e4

/-! ### a table of the module: texts to scalars -/
def TabC (K : PySem.W.Frag) (w : World) (mg : Str → Option Value) (x : Str) (tab : List (Str × D)) : Prop :=
  ∃ p es n, mg x = some (.ref p) ∧ KDict K w p es n ∧ (∀ z d, tab.lookup z = some d → ∃ u v, PySem.W.nsIn K p z = some (some u) ∧ RelV v u ∧ ∀ G, Rep K G v d) ∧ ∀ z, tab.lookup z = none → PySem.W.nsIn K p z = some none
def dInTab (tab : List (Str × D)) : D → Option D
  | .str z => some (.bl (tab.lookup z).isSome)
  | _ => none
def dNotInTab (tab : List (Str × D)) : D → Option D
  | .str z => some (.bl (!(tab.lookup z).isSome))
  | _ => none
def dIxTab (tab : List (Str × D)) : D → Option D
  | .str z => tab.lookup z
  | _ => none
theorem tab_at {K : PySem.W.Frag} {tab : List (Str × D)} {p : Addr} (h1 : ∀ z d, tab.lookup z = some d → ∃ u v, PySem.W.nsIn K p z = some (some u) ∧ RelV v u ∧ ∀ G, Rep K G v d) (h2 : ∀ z, tab.lookup z = none → PySem.W.nsIn K p z = some none) (z : Str) :
    ∃ r, PySem.W.nsIn K p z = some r ∧ r.isSome = (tab.lookup z).isSome := by
  cases e : tab.lookup z with
  | none => exact ⟨none, h2 z e, rfl⟩
  | some d =>
    obtain ⟨u, v, h3, _⟩ := h1 z d e
    exact ⟨some u, h3, rfl⟩
theorem vp_inTab {x : Str} {px : Pos} {tab : List (Str × D)} {m : MP} (t : TabC X.K X.w X.mg x tab) (ha : VP X a m) (hg : Gl X x := by rfl) (hd : (x == ("__debug__" : Str)) = false := by decide) (hm : behindInMarks .In (.Name x px) = false := by first | exact nobehind _ (by decide) (by decide) | rfl) :
    VP X (.Compare a [.In] [.Name x px] pos) (p1 (dInTab tab) m) := by
  obtain ⟨p, es, n, h0, D, h1, h2⟩ := t
  refine PE.imp (pe_cmpR (op_in_kd D) ha (pe_glob (v := .ref p) hg h0 rfl hd) hm) fun σ H Q ⟨S, fr, d, h, e, q⟩ => ?_
  obtain ⟨y, e1, e2⟩ := Option.bind_eq_some_iff.mp e
  refine ⟨S, fr, y, h, e1, fun v r => ?_⟩
  cases y with
  | str z =>
    have e3 := Option.some.inj e2
    subst e3
    obtain ⟨r', h3, h4⟩ := tab_at h1 h2 z
    exact ⟨z, r', r, rfl, h3, by rw [h4]; exact q _ rfl⟩
  | _ => cases e2
theorem vp_notInTab {x : Str} {px : Pos} {tab : List (Str × D)} {m : MP} (t : TabC X.K X.w X.mg x tab) (ha : VP X a m) (hg : Gl X x := by rfl) (hd : (x == ("__debug__" : Str)) = false := by decide) (hm : behindInMarks .NotIn (.Name x px) = false := by first | exact nobehind _ (by decide) (by decide) | rfl) :
    VP X (.Compare a [.NotIn] [.Name x px] pos) (p1 (dNotInTab tab) m) := by
  obtain ⟨p, es, n, h0, D, h1, h2⟩ := t
  refine PE.imp (pe_cmpR (op_notIn_kd D) ha (pe_glob (v := .ref p) hg h0 rfl hd) hm) fun σ H Q ⟨S, fr, d, h, e, q⟩ => ?_
  obtain ⟨y, e1, e2⟩ := Option.bind_eq_some_iff.mp e
  refine ⟨S, fr, y, h, e1, fun v r => ?_⟩
  cases y with
  | str z =>
    have e3 := Option.some.inj e2
    subst e3
    obtain ⟨r', h3, h4⟩ := tab_at h1 h2 z
    exact ⟨z, r', r, rfl, h3, by rw [h4]; exact q _ rfl⟩
  | _ => cases e2
theorem vb_inTab {x : Str} {px : Pos} {tab : List (Str × D)} {m : MP} (t : TabC X.K X.w X.mg x tab) (ha : VP X a m) (hg : Gl X x := by rfl) (hd : (x == ("__debug__" : Str)) = false := by decide) (hm : behindInMarks .In (.Name x px) = false := by first | exact nobehind _ (by decide) (by decide) | rfl) :
    VPB X (.Compare a [.In] [.Name x px] pos) (pB (p1 (dInTab tab) m)) := by
  obtain ⟨p, es, n, h0, D, h1, h2⟩ := t
  refine PT.imp (pt_cmpR (op_in_kd D) ha (pe_glob (v := .ref p) hg h0 rfl hd) hm) fun σ H Q ⟨S, fr, k, h, e, q⟩ => ?_
  obtain ⟨d, e0, e'⟩ := Option.bind_eq_some_iff.mp e
  obtain ⟨y, e1, e2⟩ := Option.bind_eq_some_iff.mp e0
  refine ⟨S, fr, y, h, e1, fun v r => ?_⟩
  cases y with
  | str z =>
    have e3 := Option.some.inj e2
    subst e3
    obtain ⟨r', h3, h4⟩ := tab_at h1 h2 z
    have e5 := asB_some e'
    injection e5 with e5
    exact ⟨z, r', r, rfl, h3, k, by rw [h4, e5], q⟩
  | _ => cases e2
theorem vb_notInTab {x : Str} {px : Pos} {tab : List (Str × D)} {m : MP} (t : TabC X.K X.w X.mg x tab) (ha : VP X a m) (hg : Gl X x := by rfl) (hd : (x == ("__debug__" : Str)) = false := by decide) (hm : behindInMarks .NotIn (.Name x px) = false := by first | exact nobehind _ (by decide) (by decide) | rfl) :
    VPB X (.Compare a [.NotIn] [.Name x px] pos) (pB (p1 (dNotInTab tab) m)) := by
  obtain ⟨p, es, n, h0, D, h1, h2⟩ := t
  refine PT.imp (pt_cmpR (op_notIn_kd D) ha (pe_glob (v := .ref p) hg h0 rfl hd) hm) fun σ H Q ⟨S, fr, k, h, e, q⟩ => ?_
  obtain ⟨d, e0, e'⟩ := Option.bind_eq_some_iff.mp e
  obtain ⟨y, e1, e2⟩ := Option.bind_eq_some_iff.mp e0
  refine ⟨S, fr, y, h, e1, fun v r => ?_⟩
  cases y with
  | str z =>
    have e3 := Option.some.inj e2
    subst e3
    obtain ⟨r', h3, h4⟩ := tab_at h1 h2 z
    have e5 := asB_some e'
    injection e5 with e5
    exact ⟨z, r', r, rfl, h3, k, by rw [h4, e5], q⟩
  | _ => cases e2
theorem vp_ixTab {x : Str} {px : Pos} {tab : List (Str × D)} {m : MP} (t : TabC X.K X.w X.mg x tab) (hb : VP X b m) (hg : Gl X x := by rfl) (hd : (x == ("__debug__" : Str)) = false := by decide) (hs : PlainIx b := by exact fun _ _ => rfl) : VP X (.Subscript (.Name x px) b pos) (p1 (dIxTab tab) m) := by
  obtain ⟨p, es, n, h0, D, h1, h2⟩ := t
  refine PE.imp (pe_ix ix_kdict (pe_glob (v := .ref p) hg h0 rfl hd) hb hs) fun σ H Q ⟨S, fr, d, h, e, q⟩ => ?_
  obtain ⟨y, e1, e2⟩ := Option.bind_eq_some_iff.mp e
  refine ⟨S, fr, y, h, e1, fun v r => ?_⟩
  cases y with
  | str z =>
    obtain ⟨u, v0, h3, h4, h5⟩ := h1 z d e2
    exact ⟨p, z, v0, rfl, r, ⟨es, n, u, D.at_, D.lit, h3, h4⟩, q _ (h5 H)⟩
  | _ => cases e2
/-! ### isinstance(e, C), C an own class -/
def dIsiC (C : Addr) : D → Option D
  | .ob C' _ _ => if C' = C then some (.bl true) else none
  | _ => none
theorem vp_isiC {x : Str} {C : Addr} {p1 p2 pos : Pos} {m : MP} (hm : X.mg "isinstance" = none) (hC : X.mg x = some (.ref C)) (c : C8.InsC X.K C) (he : VP X e m) (hv : bootBuiltins "isinstance" = some (.builtin "isinstance") := by decide +kernel) (hg : Gl X "isinstance" := by rfl) (hgC : Gl X x := by rfl)
    (hdC : (x == ("__debug__" : Str)) = false := by decide) (hs : starEach [e, .Name x p1] X.env = (false, eval e X.env) :: starEach [.Name x p1] X.env := by rfl) (hs2 : starEach [.Name x p1] X.env = (false, eval (.Name x p1) X.env) :: starEach [] X.env := by rfl)
    (hpl : (backTo pos (starEach [.Name x p1] X.env)).any (·.1) = false := by rfl) : VP X (.Call (.Name "isinstance" p2) [e, .Name x p1] [] pos) (VS.p1 (dIsiC C) m) :=
  PE.imp (pe_callB (C8.call_isC c) hg hm hv (pa_cons he (pa_cons (pe_glob (v := .ref C) hgC hC rfl hdC) pa_nil hs2) hs) (by decide) (by decide) hs hpl) fun σ H Q ⟨S, fr, d, h, e, q⟩ => by
    obtain ⟨y, e1, e2⟩ := Option.bind_eq_some_iff.mp e
    cases y with
    | ob C' ns ds =>
      simp only [dIsiC] at e2
      split at e2
      · rename_i hc
        subst hc
        cases e2
        refine ⟨S, fr, _, h, e1, fun v r => ?_⟩
        obtain ⟨a, dx, vs, rfl, ha, _⟩ := r
        exact ⟨a, dx, _, rfl, ha, q _ rfl⟩
      · cases e2
    | _ => cases e2
end
/-! ### the head's facts -/
def insB (K : PySem.W.Frag) (C : Addr) : Bool := decide (PySem.W.findIn K (.ref C) "__class__" = some (some (.builtin "object.__class__"))) && (decide (PySem.W.specialIn K (.builtin "object.__class__") "__get__" = some (some (.builtin "getset_descriptor.__get__"))) &&
  (decide (PySem.W.takesIn K (.builtin "object.__class__") = some true) && (decide (PySem.W.mroIn K C (.type "object") = some true) && decide (PySem.W.kitOne K (.ref C) (.ref C) = some true))))
theorem insB_ok {K : PySem.W.Frag} {C : Addr} (c : Cls K C) (h : insB K C = true) : C8.InsC K C := by
  unfold insB at h
  simp only [Bool.and_eq_true, decide_eq_true_eq] at h
  exact ⟨c, h.1, h.2.1, h.2.2.1, h.2.2.2.1, h.2.2.2.2⟩
theorem look_none {P : Params} : ∀ {l : List DictEntry} {ks : List Str} {z : Str}, l.map He.keyOf = He.keysIn P ks → z ∉ ks → l.find? (·.key.isStr z) = none ∧ l.any (·.refKey) = false
  | [], _, _, _, _ => ⟨rfl, rfl⟩
  | e :: r, [], _, h, _ => by cases h
  | e :: r, k :: ks, z, h, hz => by
    have h1 : He.keyOf e :: r.map He.keyOf = some (k, PyData.keyHash P k) :: He.keysIn P ks := h
    injection h1 with h2 h3
    obtain ⟨i1, i2⟩ := look_none h3 fun q => hz (List.mem_cons_of_mem _ q)
    unfold He.keyOf at h2
    split at h2
    · rename_i x t q
      obtain ⟨h5, _⟩ := Prod.mk.inj (Option.some.inj h2)
      have e1 : e.key.isStr z = false := by
        rw [q]
        show (x == z) = false
        rw [beq_eq_false_iff_ne]
        intro e
        exact hz (by rw [← e, h5]; exact List.mem_cons_self)
      have e2 : e.refKey = false := by
        unfold DictEntry.refKey
        rw [q]
      exact ⟨by rw [List.find?_cons, e1]; exact i1, by rw [List.any_cons, e2, i2]; rfl⟩
    · cases h2
theorem tab_none {P : Params} {K : PySem.W.Frag} {p : Addr} {ks : List Str} {z : Str} (h : He.dicW K p = some (He.keysIn P ks)) (hz : z ∉ ks) : PySem.W.nsIn K p z = some none := by
  unfold He.dicW at h
  split at h
  · rename_i q
    unfold PySem.W.nsIn
    rw [q]
    split at h
    · obtain ⟨h1, h2⟩ := look_none (Option.some.inj h) hz
      simp only [h1, h2] <;> rfl
    · cases h
  · cases h
def dvKs (tab : List (Str × D)) : List (Str × He.Dv) := tab.map fun q => (q.1, dvD q.2)
theorem lookup_mem {α : Type} {z : Str} {d : α} : ∀ {l : List (Str × α)}, l.lookup z = some d → (z, d) ∈ l
  | [], h => nomatch h
  | (k, v) :: l, h => by
    rw [List.lookup_cons] at h
    split at h
    · rename_i q
      cases h
      rw [eq_of_beq q]
      exact List.mem_cons_self
    · exact List.mem_cons_of_mem _ (lookup_mem h)
theorem lookup_not {α : Type} {z : Str} : ∀ {l : List (Str × α)}, l.lookup z = none → z ∉ l.map (·.1)
  | [], _ => fun h => nomatch h
  | (k, v) :: l, h => by
    rw [List.lookup_cons] at h
    split at h
    · cases h
    · rename_i q
      intro hm
      rcases List.mem_cons.mp hm with rfl | hm
      · simp at q
      · exact lookup_not h hm
theorem tabC_of {w : World} {K : PySem.W.Frag} {h : Heap} {mg : Str → Option Value} (X : K.In h) (G : h.Ns mainGlobals mg) {fa : List He.Fa} {fn : List He.DefD} {ts : List He.Tab} {x : Str} {tab : List (Str × D)} (c : (He.Fa.glo x).ok K = true) (ct : He.SaysT fa fn ts w K) (i : Nat)
    (hi : ts[i]? = some ((fun K => He.ga K x), tab.map (·.1))) (hv : He.valsB K (He.ga K x) (dvKs tab) = true) (hs : (tab.map (·.2)).all sc = true) : TabC K w mg x tab := by
  have e : ts.map (fun t => He.dicW K (t.1 K)) = ts.map fun t => some (He.keysIn w.params t.2) := congrArg (fun z : He.AlT => z.2) ct
  have e2 : (ts.map fun t => He.dicW K (t.1 K))[i]? = (ts.map fun t => some (He.keysIn w.params t.2))[i]? := by rw [e]
  rw [List.getElem?_map, List.getElem?_map, hi] at e2
  have e3 : He.dicW K (He.ga K x) = some (He.keysIn w.params (tab.map (·.1))) := Option.some.inj e2
  obtain ⟨es, n, D⟩ := He.dicW_ok e3
  refine ⟨_, es, n, He.glo_ok X G c, D, fun z d hz => ?_, fun z hz => tab_none e3 (lookup_not hz)⟩
  have hm := lookup_mem hz
  obtain ⟨u, h1, h2⟩ := He.valsB_ok hv (List.mem_map.mpr ⟨_, hm, rfl⟩)
  refine ⟨u, _, h1, h2, fun G => ?_⟩
  have r := reps_dv (K := K) (G := G) (ds := [d]) (by
    rw [List.all_cons, List.all_nil, Bool.and_true]
    exact List.all_eq_true.mp hs _ (List.mem_map.mpr ⟨_, hm, rfl⟩))
  exact r.1
end VS
namespace VS
open PySem
/-! ### the top's run asks for a text's road: by cases -/
def forceT (k : String) (b : Bool) (w : World) : World := { w with params := { w.params with followText := fun s => bif s == k then b else w.params.followText s } }
theorem forceT_eq (k : String) (w : World) : forceT k (w.params.followText k) w = w := by
  have e : (fun s => bif s == k then w.params.followText k else w.params.followText s) = w.params.followText := by
    funext s
    by_cases h : s = k
    · subst h
      simp
    · have : (s == k) = false := by simpa using h
      rw [this] <;> rfl
  unfold forceT
  rw [e]
theorem force_cases {P : World → Prop} (k : String) (h1 : ∀ w, P (forceT k true w)) (h2 : ∀ w, P (forceT k false w)) (w : World) : P w := by
  have e := forceT_eq k w
  rw [← e]
  cases w.params.followText k with
  | true => exact h1 w
  | false => exact h2 w
end VS
/-! VS18: dicts with keys. -/
namespace VS
open PySem PySem.Spec PyProof.Rows L2
/-! ### places of keys -/
def ixK (k : Key) : List Key → Option Nat
  | [] => none
  | g :: r => if k = g then some 0 else (ixK k r).map (· + 1)
theorem ixK_val {k : Key} {v : V} : ∀ {ks : List Key} {vs : List V} {n : Nat}, ixK k ks = some n → vs[n]? = some v → valV (ks.zip vs) k = some v
  | [], _, _, h, _ => by cases h
  | g :: r, [], n, _, h2 => by simp at h2
  | g :: r, w :: vs, n, h, h2 => by
    unfold ixK at h
    by_cases hf : k = g
    · rw [if_pos hf] at h
      cases h
      have e : w = v := by simpa using h2
      show valV ((g, w) :: r.zip vs) k = _
      rw [valV_pos hf.symm, e]
    · rw [if_neg hf] at h
      obtain ⟨j, h1, rfl⟩ := Option.map_eq_some_iff.mp h
      show valV ((g, w) :: r.zip vs) k = _
      rw [valV_neg (Ne.symm hf)]
      exact ixK_val h1 (by simpa using h2)
theorem ixK_none {k : Key} : ∀ {ks : List Key} {vs : List V}, ixK k ks = none → valV (ks.zip vs) k = none
  | [], _, _ => rfl
  | g :: r, [], _ => rfl
  | g :: r, w :: vs, h => by
    unfold ixK at h
    by_cases hf : k = g
    · rw [if_pos hf] at h
      cases h
    · rw [if_neg hf] at h
      show valV ((g, w) :: r.zip vs) k = _
      rw [valV_neg (Ne.symm hf)]
      exact ixK_none (Option.map_eq_none_iff.mp h)
theorem ixK_lt {k : Key} : ∀ {ks : List Key} {n : Nat}, ixK k ks = some n → n < ks.length
  | [], _, h => by cases h
  | g :: r, n, h => by
    unfold ixK at h
    by_cases hf : k = g
    · rw [if_pos hf] at h
      cases h
      exact Nat.succ_pos _
    · rw [if_neg hf] at h
      obtain ⟨j, h1, rfl⟩ := Option.map_eq_some_iff.mp h
      exact Nat.succ_lt_succ (ixK_lt h1)
theorem map_absent {k : Key} {v : V} : ∀ {ks : List Key} {vs : List V}, k ∉ ks → (ks.zip vs).map (fun kv => if kv.1 = k then (kv.1, v) else kv) = ks.zip vs
  | [], _, _ => rfl
  | g :: r, [], _ => rfl
  | g :: r, w :: vs, h => by
    rw [List.zip_cons_cons, List.map_cons, if_neg (fun z => h (by rw [show g = k from z]; exact List.mem_cons_self)), map_absent fun z => h (List.mem_cons_of_mem _ z)]
theorem map_at {k : Key} {v : V} : ∀ {ks : List Key} {vs : List V} {n : Nat}, ks.Nodup → ixK k ks = some n → ks.length = vs.length → (ks.zip vs).map (fun kv => if kv.1 = k then (kv.1, v) else kv) = ks.zip (vs.set n v)
  | [], _, _, _, h, _ => by cases h
  | g :: r, [], n, _, _, l => nomatch l
  | g :: r, w :: vs, n, nd, h, l => by
    unfold ixK at h
    by_cases hf : k = g
    · rw [if_pos hf] at h
      cases h
      rw [List.zip_cons_cons, List.map_cons, if_pos hf.symm, map_absent (by rw [hf]; exact (List.nodup_cons.mp nd).1)]
      rfl
    · rw [if_neg hf] at h
      obtain ⟨j, h1, rfl⟩ := Option.map_eq_some_iff.mp h
      rw [List.zip_cons_cons, List.map_cons, if_neg (Ne.symm hf), map_at (List.nodup_cons.mp nd).2 h1 (Nat.succ.inj l)]
      rfl
theorem putK_old {k : Key} {v : V} {ks : List Key} {vs : List V} {n : Nat} (nd : ks.Nodup) (h : ixK k ks = some n) (l : ks.length = vs.length) : putK (ks.zip vs) k v = ks.zip (vs.set n v) := by
  have hn := ixK_lt h
  have e : ((ks.zip vs).any fun kv => decide (kv.1 = k)) = true := by
    rw [valV_any, ixK_val h (List.getElem?_eq_getElem (show n < vs.length by omega))]
    rfl
  unfold putK
  rw [if_pos e]
  exact map_at nd h l
theorem putK_add {k : Key} {v : V} {ks : List Key} {vs : List V} (h : ixK k ks = none) (l : ks.length = vs.length) : putK (ks.zip vs) k v = (ks ++ [k]).zip (vs ++ [v]) := by
  rw [putK_new v (ixK_none h), List.zip_append l]
  rfl
/-! ### data -/
def getD (k : Key) : D → Option D
  | .dct ks ds => (ixK k ks).bind fun n => ds[n]?
  | _ => none
def keyD : D → Option Key
  | .str x => some (.inr x)
  | .int i => some (.inl i)
  | _ => none
theorem keyD_rep {K : PySem.W.Frag} {H : Hp} {d : D} {k : Key} {v : V} (e : keyD d = some k) (r : Rep K H v d) : v = kV k := by
  cases d with
  | str x => cases e; exact r
  | int i => cases e; exact r
  | _ => cases e
def dGetK (x y : D) : Option D := (keyD y).bind fun k => getD k x
theorem Rep.getD {K : PySem.W.Frag} {H : Hp} {k : Key} {d d' : D} {v : V} (r : Rep K H v d) (e : VS.getD k d = some d') : ∃ a u, v = .ref a ∧ DGet H a (kV k) (some u) ∧ Rep K H u d' := by
  cases d with
  | dct ks ds =>
    obtain ⟨n, h1, h2⟩ := Option.bind_eq_some_iff.mp (show ((ixK k ks).bind fun n => ds[n]?) = some d' from e)
    obtain ⟨a, vs, rfl, ha, ln, rs⟩ := r
    obtain ⟨u, h3, h4⟩ := rs.get h2
    exact ⟨a, u, rfl, .inl ⟨_, k, ha, rfl, (ixK_val h1 h3).symm⟩, h4⟩
  | _ => cases e
section
variable {X : Cx} {a b e : Expr} {pos : Pos}
/-- d[k], purely -/
theorem vp_getK {ma mb : MP} (hu : X.A.units + 64 < cLine) (ha : VP X a ma) (hb : VP X b mb) (hs : NoSl b := by exact fun _ _ => rfl) : VP X (.Subscript a b pos) (p2 dGetK ma mb) :=
  PE.imp (pe_dget (by omega) ha hb hs) fun σ H Q ⟨S, fr, d, h, e, q⟩ => by
    obtain ⟨x, y, h1, h2, h3⟩ := p2_some e
    obtain ⟨k, h4, h5⟩ := Option.bind_eq_some_iff.mp h3
    refine ⟨S, fr, x, h, h1, fun v r1 => ⟨S, fr, y, h, h2, fun u r2 => ?_⟩⟩
    obtain ⟨a, z, rfl, g, r3⟩ := Rep.getD r1 h5
    rw [keyD_rep h4 r2]
    exact ⟨a, z, rfl, g, q z r3⟩
/-- k in d -/
def dInK (x y : D) : Option D := match y with
  | .dct ks ds => (keyD x).map fun k => .bl (ixK k ks).isSome
  | _ => none
def dNotInK (x y : D) : Option D := match y with
  | .dct ks ds => (keyD x).map fun k => .bl (!(ixK k ks).isSome)
  | _ => none
theorem Rep.dget {K : PySem.W.Frag} {H : Hp} {k : Key} {ks : List Key} {ds : List D} {v : V} (r : Rep K H v (.dct ks ds)) : ∃ a o, v = .ref a ∧ DGet H a (kV k) o ∧ o.isSome = (ixK k ks).isSome := by
  obtain ⟨a, vs, rfl, ha, ln, rs⟩ := r
  cases h : ixK k ks with
  | none => exact ⟨a, none, rfl, .inl ⟨_, k, ha, rfl, (ixK_none h).symm⟩, rfl⟩
  | some n =>
    have hn := ixK_lt h
    exact ⟨a, _, rfl, .inl ⟨_, k, ha, rfl, (ixK_val h (List.getElem?_eq_getElem (show n < vs.length by omega))).symm⟩, rfl⟩
theorem vp_inK {ma mb : MP} (hu : X.A.units + 64 < cLine) (ha : VP X a ma) (hb : VP X b mb) (hm : behindInMarks .In b = false := by first | exact nobehind _ (by decide) (by decide) | rfl) : VP X (.Compare a [.In] [b] pos) (p2 dInK ma mb) :=
  PE.imp (pe_cmp (pc_din (by omega) ha hb) hm) fun σ H Q ⟨S, fr, d, h, e, q⟩ => by
    obtain ⟨x, y, h1, h2, h3⟩ := p2_some e
    refine ⟨S, fr, x, h, h1, fun v r1 => ⟨S, fr, y, h, h2, fun u r2 => ?_⟩⟩
    cases y with
    | dct ks ds =>
      obtain ⟨k, h4, h5⟩ := Option.map_eq_some_iff.mp (show (keyD x).map (fun k => D.bl (ixK k ks).isSome) = some d from h3)
      obtain ⟨a, o, rfl, g, eo⟩ := Rep.dget (k := k) r2
      rw [keyD_rep h4 r1]
      refine ⟨a, o, rfl, g, ?_⟩
      rw [eo]
      exact q _ (by rw [← h5]; rfl)
    | _ => cases h3
end
/-! ### a child of a tree, shared from now on -/
def kidK (k : Key) (t : T) : Option (D × T) := match t with
  | .dct ks ts => (ixK k ks).bind fun n => (ts[n]?).map fun u => (fz u, .dct ks (ts.set n (.sh (fz u))))
  | .sh d => (VS.getD k d).map fun d' => (d', .sh d)
  | _ => none
section
variable {K : PySem.W.Frag} {H : Hp} {ps : Ps}
theorem At.openD {v : V} {ks : List Key} {ts : List T} (h : At K H ((v, .dct ks ts) :: ps)) : ∃ a vs, v = .ref a ∧ H a = some (.dK (ks.zip vs)) ∧ ks.length = vs.length ∧ vs.length = ts.length ∧ AtA K H [a] (vs.zip ts ++ ps) := by
  obtain ⟨G, fp, s, ⟨f, g, rfl, ⟨a, vs, f', rfl, rfl, ha, ln, o1⟩, o2⟩, n, e, x⟩ := h
  refine ⟨a, vs, rfl, ha, ln, o1.length, G, f' ++ g, s, o1.toP.append o2, n, e, fun b hb => ?_⟩
  rw [List.mem_singleton.mp hb, ha]
  exact fun z => nomatch z
theorem AtA.closeD {a : Addr} {ks : List Key} {vs : List V} {ts : List T} (h : AtA K H [a] (vs.zip ts ++ ps)) (l : vs.length = ts.length) (ln : ks.length = vs.length) : At K (upd H a (.dK (ks.zip vs))) ((.ref a, .dct ks ts) :: ps) := by
  obtain ⟨G, fp, s, o, n, e, x⟩ := h
  obtain ⟨f, g, rfl, o1, o2⟩ := o.split
  have n' : (a :: (f ++ g)).Nodup := n
  have np : ∀ b ∈ f ++ g, b ≠ a := fun b hb z => by
    subst z
    exact (List.nodup_cons.mp n').1 hb
  have k : ∀ b ∈ f ++ g, upd H a (.dK (ks.zip vs)) b = H b := fun b hb => upd_ne (np b hb)
  have ga : G a = none := e a (List.mem_cons_self)
  refine ⟨G, (a :: f) ++ g, fun b o q => ?_, ⟨a :: f, g, rfl, ⟨a, vs, f, rfl, rfl, upd_same, ln, (o1.toS l).mono (Same.refl _) fun b hb => k b (List.mem_append_left _ hb)⟩, o2.mono (Same.refl _) fun b hb => k b (List.mem_append_right _ hb)⟩, n', e, fun b hb => nomatch hb⟩
  rw [upd_ne (ne_of_none q ga)]
  exact s b o q
theorem AtA.closedD {a : Addr} {ks : List Key} {vs : List V} {ts : List T} (h : AtA K H [a] (vs.zip ts ++ ps)) (l : vs.length = ts.length) (ln : ks.length = vs.length) (ha : H a = some (.dK (ks.zip vs))) : At K H ((.ref a, .dct ks ts) :: ps) := by
  have q := h.closeD (ks := ks) l ln
  have e : upd H a (.dK (ks.zip vs)) = H := by
    funext b
    by_cases hb : b = a
    · rw [hb, upd_same, ha]
    · rw [upd_ne hb]
  rw [e] at q
  exact q
theorem At.newD {ks : List Key} {vs : List V} {ts : List T} {p : Addr} (h : At K H (vs.zip ts ++ ps)) (l : vs.length = ts.length) (ln : ks.length = vs.length) (hp : H p = none) : At K (upd H p (.dK (ks.zip vs))) ((.ref p, .dct ks ts) :: ps) := by
  obtain ⟨G, fp, s, o, n, e, x⟩ := h
  obtain ⟨f, g, rfl, o1, o2⟩ := o.split
  have np : ∀ a ∈ f ++ g, a ≠ p := fun a ha z => by
    subst z
    rcases List.mem_append.mp ha with ha | ha
    · exact o1.trk a ha hp
    · exact o2.trk a ha hp
  have k : ∀ a ∈ f ++ g, upd H p (.dK (ks.zip vs)) a = H a := fun a ha => upd_ne (np a ha)
  have gp : G p = none := s.free hp
  refine ⟨G, (p :: f) ++ g, s.trans fun b o q => by rw [upd_ne (ne_of_none q hp)]; exact q, ⟨p :: f, g, rfl, ⟨p, vs, f, rfl, rfl, upd_same, ln, (o1.toS l).mono (Same.refl _) fun a ha => k a (List.mem_append_left _ ha)⟩, o2.mono (Same.refl _) fun a ha => k a (List.mem_append_right _ ha)⟩,
    ?_, fun a ha => ?_, fun a ha => nomatch ha⟩
  · show (p :: (f ++ g)).Nodup
    exact List.nodup_cons.mpr ⟨fun z => np p z rfl, n⟩
  · have ha : a ∈ p :: (f ++ g) := ha
    rcases List.mem_cons.mp ha with rfl | ha
    · exact gp
    · exact e a ha
theorem At.kidK {k : Key} {v : V} {t t' : T} {d : D} (h : At K H ((v, t) :: ps)) (e : VS.kidK k t = some (d, t')) : ∃ a u, v = .ref a ∧ DGet H a (kV k) (some u) ∧ At K H ((u, .sh d) :: (v, t') :: ps) := by
  cases t with
  | dct ks ts =>
    obtain ⟨n, e1, e2⟩ := Option.bind_eq_some_iff.mp (show ((ixK k ks).bind fun n => (ts[n]?).map fun u => (fz u, T.dct ks (ts.set n (.sh (fz u))))) = some (d, t') from e)
    obtain ⟨w, e3, e4⟩ := Option.map_eq_some_iff.mp e2
    cases e4
    obtain ⟨a, vs, rfl, ha, ln, l, h1⟩ := h.openD
    obtain ⟨u, A, B, z1, z2, z3⟩ := zip_at l e3
    rw [z2, List.append_assoc] at h1
    have h2 : AtA K H [a] ((u, w) :: (A ++ (B ++ ps))) := h1.perm (List.perm_middle (l₁ := A) (l₂ := B ++ ps))
    have h3 := (AtA.dup (AtA.freeze h2))
    have h4 : AtA K H [a] ((vs.zip (ts.set n (.sh (fz w)))) ++ ((u, .sh (fz w)) :: ps)) := h3.perm (by
      rw [z3]
      refine (List.Perm.cons _ List.perm_middle.symm).trans ?_
      rw [List.append_assoc]
      show ((u, T.sh (fz w)) :: (A ++ (u, T.sh (fz w)) :: (B ++ ps))).Perm (A ++ (((u, T.sh (fz w)) :: B) ++ ((u, T.sh (fz w)) :: ps)))
      refine List.perm_middle.symm.trans (List.Perm.append_left A ?_)
      show ((u, T.sh (fz w)) :: ((u, T.sh (fz w)) :: (B ++ ps))).Perm ((u, T.sh (fz w)) :: (B ++ ((u, T.sh (fz w)) :: ps)))
      exact List.Perm.cons _ List.perm_middle.symm)
    have h5 := AtA.closedD (ks := ks) h4 (by rw [List.length_set]; exact l) ln ha
    exact ⟨a, u, rfl, .inl ⟨_, k, .inl ha, rfl, (ixK_val e1 z1).symm⟩, h5.perm (.swap ..)⟩
  | sh d0 =>
    obtain ⟨d', e1, e2⟩ := Option.map_eq_some_iff.mp (show (VS.getD k d0).map (fun d' => (d', T.sh d0)) = some (d, t') from e)
    cases e2
    obtain ⟨G, fp, s, ⟨f1, g, rfl, ⟨rfl, o1⟩, o2⟩, n, e0, x⟩ := h
    obtain ⟨a, u, rfl, dg, r2⟩ := Rep.getD o1 e1
    refine ⟨a, u, rfl, ?_, G, [] ++ ([] ++ g), s, ⟨[], _, rfl, ⟨rfl, r2⟩, [], g, rfl, ⟨rfl, o1⟩, o2⟩, n, e0, x⟩
    rcases dg with ⟨kvs, k', a1, a2, a3⟩ | ⟨kvs, k', b, a1, a2, a3, a4⟩
    · exact .inl ⟨kvs, k', Same.rd s a1, a2, a3⟩
    · exact .inr ⟨kvs, k', b, Same.rd s a1, a2, s _ _ a3, a4⟩
  | _ => cases e
theorem zipSetD (v : V) (t : T) : ∀ (j : Nat) (vs : List V) (ts : List T), j < ts.length → vs.length = ts.length → Sub ((vs.set j v).zip (ts.set j t)) ((v, t) :: vs.zip ts) := by
  intro j
  induction j with
  | zero =>
    intro vs ts h l
    cases vs with
    | nil => cases ts <;> simp at h l
    | cons w vs =>
      cases ts with
      | nil => simp at h
      | cons u ts => exact (Sub.refl.skip).cons
  | succ j ih =>
    intro vs ts h l
    cases vs with
    | nil => cases ts <;> simp at h l
    | cons w vs =>
      cases ts with
      | nil => simp at h
      | cons u ts => exact ((ih vs ts (by simpa using h) (by simpa using l)).cons).trans (Sub.of_perm (.swap ..))
/-- d[k] = t -/
def putKT (k : Key) (t : T) (ks : List Key) (ts : List T) : Option T := match ixK k ks with
  | some n => if ks.Nodup then some (.dct ks (ts.set n t)) else none
  | none => if ks.length < sizeLine then some (.dct (ks ++ [k]) (ts ++ [t])) else none
theorem At.putK {v : V} {a : Addr} {k : Key} {t t' : T} {ks : List Key} {ts : List T} (h : At K H ((v, t) :: (.ref a, .dct ks ts) :: ps)) (e : putKT k t ks ts = some t') (hz : ks.length ≤ 1000000) : ∃ H', DPut H a (kV k) v H' ∧ At K H' ((.ref a, t') :: ps) := by
  obtain ⟨b, vs, h1, h2, ln, h3, h4⟩ := (h.perm (.swap ..)).openD
  cases h1
  unfold putKT at e
  have hl : (ks.zip vs).length < sizeLine := by rw [sizeLine_eq, List.length_zip]; omega
  split at e
  · rename_i n en
    split at e
    · rename_i nd
      cases e
      refine ⟨_, DPut.k h2 hl, ?_⟩
      rw [putK_old nd en ln]
      have hn := ixK_lt en
      refine AtA.closeD ?_ (by simp [h3]) (by simp [ln])
      exact (h4.perm (qs := (v, t) :: vs.zip ts ++ ps) (List.perm_middle)).sub ((zipSetD v t n vs ts (by omega) h3).append_right ps)
    · cases e
  · rename_i en
    split at e
    · cases e
      refine ⟨_, DPut.k h2 hl, ?_⟩
      rw [putK_add en ln]
      refine AtA.closeD ?_ (by simp [h3]) (by simp [ln])
      rw [List.zip_append h3]
      have p : (vs.zip ts ++ ((v, t) :: ps)).Perm (vs.zip ts ++ [v].zip [t] ++ ps) := by
        rw [List.append_assoc]
        exact .refl _
      exact h4.perm p
    · cases e
end
section
variable {X : Cx} {a b e : Expr} {pos : Pos}
/-- x[k], x the name of slot j -/
def eDixK (j : Nat) (mb : MP) : ME := fun S => match S[j]? with
  | some (some t) => (mb S).bind fun y => (keyD y).bind fun k => (kidK k t).map fun p => (.sh p.1, S.set j (some p.2))
  | _ => none
theorem ve_dixK (j : Nat) {x : Str} {px : Pos} {mb : MP} (hu : X.A.units + 64 < cLine) (hb : VP X b mb) (hs : NoSl b := by exact fun _ _ => rfl) (hN : X.N[j]? = some x := by rfl) (hv : Vis X.env.scope x := by first | exact Or.inl rfl | exact Or.inr (Or.inl rfl) | exact Or.inr (Or.inr rfl)) (hd : (x == ("__debug__" : Str)) = false := by decide)
    (hcd : (x == ("__classdict__" : Str)) = false := by decide) : VE X (.Subscript (.Name x px) b pos) (eDixK j mb) :=
  PE.imp (pe_dget (by omega) (pe_var hN hv hd hcd) hb hs) fun σ H Q ⟨S, fr, t, S', h, e, q⟩ => by
    unfold eDixK at e
    split at e
    · rename_i t0 e0
      obtain ⟨y, e1, e⟩ := Option.bind_eq_some_iff.mp e
      obtain ⟨k, e2, e⟩ := Option.bind_eq_some_iff.mp e
      obtain ⟨⟨d, t'⟩, e3, e4⟩ := Option.map_eq_some_iff.mp e
      cases e4
      obtain ⟨v, hv, ka⟩ := h.take e0
      obtain ⟨a, u, rfl, g, k2⟩ := At.kidK ka.at1 e3
      refine ⟨_, hv, S, fr, y, h, e1, fun w r => ?_⟩
      rw [keyD_rep e2 r]
      refine ⟨a, u, rfl, g, q u H ?_⟩
      have k3 : AtS X.K H σ (S.set j none) ((.ref a, t') :: (u, .sh d) :: fr) := AtS.of ka.1 (k2.perm (List.Perm.swap ..))
      have k4 := k3.back hv
      rw [List.set_set] at k4
      exact k4
    · cases e
/-- e[k], e a value -/
def eDixV (m : ME) (mb : MP) : ME := fun S => (m S).bind fun p => (mb p.2).bind fun y => (keyD y).bind fun k => (kidK k p.1).map fun q => (.sh q.1, p.2)
theorem ve_dixV {m : ME} {mb : MP} (hu : X.A.units + 64 < cLine) (ha : VE X a m) (hb : VP X b mb) (hs : NoSl b := by exact fun _ _ => rfl) : VE X (.Subscript a b pos) (eDixV m mb) :=
  PE.imp (pe_dget (by omega) ha hb hs) fun σ H Q ⟨S, fr, t, S', h, e, q⟩ => by
    obtain ⟨⟨t0, S1⟩, e1, e⟩ := Option.bind_eq_some_iff.mp e
    obtain ⟨y, e2, e⟩ := Option.bind_eq_some_iff.mp e
    obtain ⟨k, e3, e⟩ := Option.bind_eq_some_iff.mp e
    obtain ⟨⟨d, t'⟩, e4, e5⟩ := Option.map_eq_some_iff.mp e
    cases e5
    refine ⟨S, fr, t0, S1, h, e1, fun v H1 h1 => ⟨S1, (v, t0) :: fr, y, h1, e2, fun w r => ?_⟩⟩
    obtain ⟨a, u, rfl, g, k2⟩ := At.kidK h1.at1 e4
    rw [keyD_rep e3 r]
    refine ⟨a, u, rfl, g, q u H1 ?_⟩
    have k3 : AtS X.K H1 σ S1 ((.ref a, t') :: (u, .sh d) :: fr) := AtS.of h1.1 (k2.perm (.swap ..))
    exact k3.drop1
/-- {} -/
def eDctN : ME := fun S => some (.dct [] [], S)
theorem ve_dctN : VE X (.Dict [] [] pos) eDctN := PE.imp pe_dnewK fun σ H Q ⟨S, fr, t, S', h, e, q⟩ => by
  cases e
  intro p hp
  refine q _ _ (AtS.of h.1 ?_)
  exact At.newD (ks := []) (vs := []) (ts := []) h.front rfl rfl hp
/-- x[k] = e -/
def sDSet (j : Nat) (mv : ME) (mk : MP) : MS := fun S => (mv S).bind fun p => match p.2[j]? with
  | some (some (.dct ks ts)) => (mk p.2).bind fun y => (keyD y).bind fun k => if ks.length ≤ 1000000 then (putKT k p.1 ks ts).map fun t => .nx (p.2.set j (some t)) else none
  | _ => none
theorem vs_dset (j : Nat) {x : Str} {px ps : Pos} {mv : ME} {mk : MP} (hu : X.A.units + 64 < cLine) (hv : VE X e mv) (hk : VP X b mk) (ha : ∀ v, assign (.Subscript (.Name x px) b ps) X.env v = (do
      let ov ← holding [v] (eval (.Name x px) X.env)
      let iv ← holding [v, ov] (eval b X.env)
      standAt ps
      holding [v, ov, iv] (setItem ov iv v)
      release [v, ov, iv] []) := by intro _; rfl) (hN : X.N[j]? = some x := by rfl) (hvs : Vis X.env.scope x := by first | exact Or.inl rfl | exact Or.inr (Or.inl rfl) | exact Or.inr (Or.inr rfl)) (hd : (x == ("__debug__" : Str)) = false := by decide)
    (hcd : (x == ("__classdict__" : Str)) = false := by decide) (hs : swapsWithSole [.Subscript (.Name x px) b ps] e pos.line X.env = pure false := by rfl) (hw : swappedStores [.Subscript (.Name x px) b ps] e X.env = pure none := by rfl)
    (h1 : (assignEach [.Subscript (.Name x px) b ps] X.env).map (·.2) = [assign (.Subscript (.Name x px) b ps) X.env] := by rfl) : VS X [] (.Assign [.Subscript (.Name x px) b ps] e pos) (sDSet j mv mk) :=
  PS.imp (ps_asg hv (pg_sub (pe_var hN hvs hd hcd) hk (set_dict (by omega)) ha) hs hw h1) fun D σ H ⟨S, fr, f, h, e, q⟩ => by
    obtain ⟨⟨t, S1⟩, e1, e⟩ := Option.bind_eq_some_iff.mp e
    simp only at e
    split at e
    · rename_i ks ts e0
      obtain ⟨y, e2, e⟩ := Option.bind_eq_some_iff.mp e
      obtain ⟨k, e3, e⟩ := Option.bind_eq_some_iff.mp e
      split at e
      · rename_i hz
        obtain ⟨t', e4, e5⟩ := Option.map_eq_some_iff.mp e
        cases e5
        refine ⟨S, fr, t, S1, h, e1, fun v H1 h1 => ?_⟩
        obtain ⟨o, ho, k0⟩ := h1.take e0
        refine ⟨o, ho, S1, (v, t) :: fr, y, h1, e2, fun u r => ?_⟩
        rw [keyD_rep e3 r]
        have k1 : AtS X.K H1 σ (S1.set j none) ((v, t) :: (o, .dct ks ts) :: fr) := k0.perm (.swap ..)
        obtain ⟨a, _, ra, _⟩ := k0.at1.openD
        subst ra
        obtain ⟨H', dp, k2⟩ := At.putK k1.at1 e4 hz
        refine ⟨a, H', rfl, dp, ?_⟩
        have k3 := (AtS.of k1.1 k2 : AtS X.K H' σ (S1.set j none) ((.ref a, t') :: fr)).back ho
        rw [List.set_set] at k3
        exact q σ _ .refl k3
      · cases e
    · cases e
end
end VS
/-! VS19: walks over dicts and zip, dict(e), == of dicts, sorted, max and min of a list, list(range(..)). -/
namespace VS
open PySem PySem.Spec PyProof.Rows L2
/-! ### a dict is locked for good -/
section
variable {K : PySem.W.Frag} {G H : Hp} {d : Addr} {o : Obj} {kvs : List (Key × V)}
theorem lock_ne {b : Addr} {u : HO} (hd : G d = some (.dK kvs)) (h : G b = some u) (hu : ∀ l, u ≠ .dK l) : upd G d (.frz o (.dK kvs)) b = some u := by
  rw [upd_ne (fun z => by subst z; rw [hd] at h; exact hu _ (Option.some.inj h).symm)]
  exact h
mutual
theorem Rep.lock (hd : G d = some (.dK kvs)) : ∀ {x : D} {v : V}, Rep K G v x → Rep K (upd G d (.frz o (.dK kvs))) v x
  | .non, _, h => h
  | .bl _, _, h => h
  | .int _, _, h => h
  | .str _, _, h => h
  | .lst ds, v, h => by
    obtain ⟨a, vs, h1, h2, h3⟩ := h
    refine ⟨a, vs, h1, ?_, Reps.lock hd h3⟩
    rcases h2 with (h2 | ⟨o', h2⟩) | h2
    · exact .inl (.inl (lock_ne hd h2 fun _ z => nomatch z))
    · exact .inl (.inr ⟨o', lock_ne hd h2 fun _ z => nomatch z⟩)
    · exact .inr h2
  | .tup ds, v, h => by
    obtain ⟨a, vs, h1, h2, h3⟩ := h
    refine ⟨a, vs, h1, ?_, Reps.lock hd h3⟩
    rcases h2 with (h2 | ⟨o', h2⟩) | h2
    · exact .inl (.inl (lock_ne hd h2 fun _ z => nomatch z))
    · exact .inl (.inr ⟨o', lock_ne hd h2 fun _ z => nomatch z⟩)
    · exact .inr h2
  | .ob C ns ds, v, h => by
    obtain ⟨a, dx, vs, h1, h2, h3, h4⟩ := h
    exact ⟨a, dx, vs, h1, lock_ne hd h2 (fun _ z => nomatch z), h3, Reps.lock hd h4⟩
  | .dct ks ds, v, h => by
    obtain ⟨a, vs, h1, h2, h3, h4⟩ := h
    refine ⟨a, vs, h1, ?_, h3, Reps.lock hd h4⟩
    rcases h2 with h2 | ⟨o', h2⟩
    · by_cases e : a = d
      · subst e
        rw [hd] at h2
        cases h2
        exact .inr ⟨o, upd_same⟩
      · exact .inl (by rw [upd_ne e]; exact h2)
    · exact .inr ⟨o', lock_ne hd h2 fun _ z => nomatch z⟩
  | .lck a o' l, v, h => ⟨h.1, lock_ne hd h.2 fun _ z => nomatch z⟩
theorem Reps.lock (hd : G d = some (.dK kvs)) : ∀ {ds : List D} {vs : List V}, Reps K G vs ds → Reps K (upd G d (.frz o (.dK kvs))) vs ds
  | [], [], _ => trivial
  | x :: ds, v :: vs, h => ⟨Rep.lock hd h.1, Reps.lock hd h.2⟩
  | [], _ :: _, h => h.elim
  | _ :: _, [], h => h.elim
end
variable {H' : Hp}
mutual
theorem Own.lock (hd : G d = some (.dK kvs)) : ∀ {t : T} {v : V} {fp : List Addr}, (∀ a ∈ fp, H' a = H a) → Own K G H v t fp → Own K (upd G d (.frz o (.dK kvs))) H' v t fp
  | .sh x, v, fp, _, h => ⟨h.1, Rep.lock hd h.2⟩
  | .lst ts, v, fp, k, h => by
    obtain ⟨b, vs, f, h1, rfl, hb, h⟩ := h
    exact ⟨b, vs, f, h1, rfl, (k b List.mem_cons_self).trans hb, Owns.lock hd (fun a ha => k a (List.mem_cons_of_mem _ ha)) h⟩
  | .tup ts, v, fp, k, h => by
    obtain ⟨b, vs, f, h1, rfl, hb, h⟩ := h
    exact ⟨b, vs, f, h1, rfl, (k b List.mem_cons_self).trans hb, Owns.lock hd (fun a ha => k a (List.mem_cons_of_mem _ ha)) h⟩
  | .ob C ns ts, v, fp, k, h => by
    obtain ⟨b, dx, vs, f, h1, rfl, hb, l, h⟩ := h
    exact ⟨b, dx, vs, f, h1, rfl, (k b List.mem_cons_self).trans hb, l, Owns.lock hd (fun a ha => k a (List.mem_cons_of_mem _ ha)) h⟩
  | .dct ks ts, v, fp, k, h => by
    obtain ⟨b, vs, f, h1, rfl, hb, l, h⟩ := h
    exact ⟨b, vs, f, h1, rfl, (k b List.mem_cons_self).trans hb, l, Owns.lock hd (fun a ha => k a (List.mem_cons_of_mem _ ha)) h⟩
  | .pin b t, v, fp, k, h => ⟨h.1, Own.lock (t := t) hd k h.2⟩
theorem Owns.lock (hd : G d = some (.dK kvs)) : ∀ {ts : List T} {vs : List V} {fp : List Addr}, (∀ a ∈ fp, H' a = H a) → Owns K G H vs ts fp → Owns K (upd G d (.frz o (.dK kvs))) H' vs ts fp
  | [], [], fp, _, h => h
  | t :: ts, v :: vs, fp, k, h => by
    obtain ⟨f, g, rfl, h1, h2⟩ := h
    exact ⟨f, g, rfl, Own.lock hd (fun a ha => k a (List.mem_append_left _ ha)) h1, Owns.lock hd (fun a ha => k a (List.mem_append_right _ ha)) h2⟩
  | [], _ :: _, _, _, h => h.elim
  | _ :: _, [], _, _, h => h.elim
end
theorem OwnP.lock (hd : G d = some (.dK kvs)) : ∀ {ps : Ps} {fp : List Addr}, (∀ a ∈ fp, H' a = H a) → OwnP K G H ps fp → OwnP K (upd G d (.frz o (.dK kvs))) H' ps fp
  | [], fp, _, h => h
  | p :: ps, fp, k, h => by
    obtain ⟨f, g, rfl, h1, h2⟩ := h
    exact ⟨f, g, rfl, h1.lock hd fun a ha => k a (List.mem_append_left _ ha), OwnP.lock hd (fun a ha => k a (List.mem_append_right _ ha)) h2⟩
/-- a shared dict: open or locked; locked from now on -/
theorem At.lock {K : PySem.W.Frag} {H : Hp} {ps : Ps} {v : V} {ks : List Key} {ds : List D} (h : At K H ((v, .sh (.dct ks ds)) :: ps)) : ∃ d vs, v = .ref d ∧ ks.length = vs.length ∧
    ((H d = some (.dK (ks.zip vs)) ∧ ∀ o, At K (upd H d (.frz o (.dK (ks.zip vs)))) ((.ref d, .sh (.lck d o (ks.zip vs))) :: (v, .sh (.dct ks ds)) :: ps)) ∨
      ∃ o, H d = some (.frz o (.dK (ks.zip vs))) ∧ At K H ((.ref d, .sh (.lck d o (ks.zip vs))) :: (v, .sh (.dct ks ds)) :: ps)) := by
  have h0 := h
  obtain ⟨G, fp, s, ⟨f, g, rfl, ⟨rfl, a, vs, rfl, q, ln, r⟩, o2⟩, n, e, x⟩ := h
  refine ⟨a, vs, rfl, ln, ?_⟩
  rcases q with q | ⟨o, q⟩
  · refine .inl ⟨s _ _ q, fun o => ?_⟩
    have e' : ∀ b ∈ g, G b = none := fun b hb => e b hb
    have ne : ∀ b ∈ g, b ≠ a := fun b hb z => by subst z; rw [e' _ hb] at q; cases q
    refine ⟨upd G a (.frz o (.dK (ks.zip vs))), g, fun b u hb => ?_, ⟨[], g, rfl, ⟨rfl, rfl, upd_same⟩, [], g, rfl, ⟨rfl, a, vs, rfl, .inr ⟨o, upd_same⟩, ln, Reps.lock q r⟩, OwnP.lock q (fun b hb => upd_ne (ne b hb)) o2⟩, n, fun b hb => ?_, fun b hb => nomatch hb⟩
    · by_cases z : b = a
      · subst z
        rw [upd_same] at hb ⊢
        exact hb
      · rw [upd_ne z] at hb ⊢
        exact s _ _ hb
    · rw [upd_ne (ne b hb)]
      exact e' b hb
  · exact .inr ⟨o, s _ _ q, G, g, s, ⟨[], g, rfl, ⟨rfl, rfl, q⟩, [], g, rfl, ⟨rfl, a, vs, rfl, .inr ⟨o, q⟩, ln, r⟩, o2⟩, n, e, x⟩
end
/-! ### for k in d -/
def iKeysL (td : TE) : TI := fun σ H R => td σ H fun x H1 => ∃ d kvs, x = .ref d ∧ ((H1 d = some (.dK kvs) ∧ ∀ o, R (Itk d o kvs) (upd H1 d (.frz o (.dK kvs)))) ∨ ∃ o, H1 d = some (.frz o (.dK kvs)) ∧ R (Itk d o kvs) H1)
section
variable {X : Cx} {tg a b e : Expr} {td : TE} {pos : Pos}
theorem pi_keysL (he : PE X e td) : PI X tg e (iKeysL td) := by
  refine ⟨fun pins s σ H R I h => ?_⟩
  refine thn (he.run pins s σ H _ I h) fun u s1 ⟨x, H1, I1, rx, d, kvs, ex, q⟩ => ?_
  subst ex
  obtain rfl : u = Value.ref d := rx
  have go : ∀ (H2 : Hp) (o : Obj), Inv X pins σ H2 s1 → H2 d = some (.frz o (.dK kvs)) → R (Itk d o kvs) H2 → wpAny (model X.prog X.w) X.A (pyIter (.ref d)) (PIE X pins σ tg R) X.xe s1 := by
    intro H2 o I2 hd q
    obtain ⟨hs, hgd, hx, es, ep, vs, hdt, hsz, kv, hm⟩ := I2.frzK hd
    refine iter_keys hs hgd hx hdt (pi_one (tk := s1.toks) I2 _ (turn_keys _ hdt) ⟨_, Heap.get?_push_size _ rfl, rfl, ?_⟩ q)
    rw [hsz] <;> rfl
  rcases q with ⟨hd, q⟩ | ⟨o, hd, q⟩
  · obtain ⟨o, I2⟩ := I1.lock hd trivial
    exact go _ o I2 upd_same (q o)
  · exact go _ o I1 hd q
def kD : Key → D
  | .inl i => .int i
  | .inr x => .str x
theorem kD_rep {K : PySem.W.Frag} {G : Hp} (k : Key) : Rep K G (kV k) (kD k) := by
  cases k <;> rfl
theorem feeds_keys {K : PySem.W.Frag} {d : Addr} {o : Obj} {ks : List Key} {vs : List V} (l : ks.length = vs.length) : Feeds K (Itk d o (ks.zip vs)) [(.ref d, .sh (.lck d o (ks.zip vs)))] (ks.map kD) where
  go := fun H ps h i k hi => by
    have r : H d = some (.frz o (.dK (ks.zip vs))) := ((h : At K H ((.ref d, .sh (.lck d o (ks.zip vs))) :: ps)).rep).2
    rw [List.getElem?_map] at hi
    obtain ⟨k0, hk, rfl⟩ := Option.map_eq_some_iff.mp hi
    have hlt : i < ks.length := (List.getElem?_eq_some_iff.mp hk).1
    refine ⟨⟨r, by rw [List.length_zip]; omega⟩, fun x H' ⟨e6, k1, v1, e7, e8⟩ => e6 ▸ ?_⟩
    have e9 : (ks.zip vs)[i]? = some (k1, v1) := e7
    have e10 : ks[i]? = some k1 := by
      have := (List.getElem?_zip_eq_some.mp e9).1
      exact this
    rw [hk] at e10
    cases e10
    rw [e8]
    exact At.new h fun G => kD_rep k0
  stop := fun H ps h i hi => by
    have r : H d = some (.frz o (.dK (ks.zip vs))) := ((h : At K H ((.ref d, .sh (.lck d o (ks.zip vs))) :: ps)).rep).2
    refine ⟨r, ?_⟩
    rw [List.length_map] at hi
    rw [List.length_zip]
    omega
/-- over a dict's keys -/
def iKeys' (me : ME) : MI := fun S => (me S).bind fun p => match fz p.1 with
  | .dct ks _ => some (ks.map kD, p.2)
  | _ => none
theorem vi_keys {tg : Expr} {me : ME} (he : VE X e me) : VI X tg e (iKeys' me) := PI.imp (pi_keysL he) fun σ H R ⟨S, fr, ds, S', h, e, q⟩ => by
  obtain ⟨⟨t, S1⟩, e1, e⟩ := Option.bind_eq_some_iff.mp e
  refine ⟨S, fr, t, S1, h, e1, fun v H1 h1 => ?_⟩
  simp only at e
  split at e
  · rename_i ks xs ek
    cases e
    have h2 := h1.freeze
    rw [ek] at h2
    obtain ⟨d, vs, rfl, ln, h3⟩ := h2.at1.lock
    refine ⟨d, ks.zip vs, rfl, ?_⟩
    rcases h3 with ⟨hd, k⟩ | ⟨o, hd, k⟩
    · refine .inl ⟨hd, fun o => q _ _ _ (feeds_keys ln) ?_⟩
      exact (AtS.of h2.1 (k o) : AtS X.K _ σ S' ((.ref d, .sh (.lck d o (ks.zip vs))) :: (.ref d, .sh (.dct ks xs)) :: fr)).sub (Sub.refl.skip.cons)
    · refine .inr ⟨o, hd, q _ _ _ (feeds_keys ln) ?_⟩
      exact (AtS.of h2.1 k : AtS X.K _ σ S' ((.ref d, .sh (.lck d o (ks.zip vs))) :: (.ref d, .sh (.dct ks xs)) :: fr)).sub (Sub.refl.skip.cons)
  · cases e
end
end VS
/-! VS20: ranges with bounds of any size. -/
namespace VS
open PySem PySem.Spec PyProof.Rows L2
theorem turn_long {P : Program} {w : World} {K : PySem.W.Frag} {tg : Expr} (it : Addr) (lo : Int) (n : Nat) : Turn P w K tg (Itr lo n) [it] it (fun i h => IsLongIter h it (lo + (i : Nat) * 1) ((n : Int) - (i : Nat)) 1) where
  mem := by simp
  obj := fun i h st b hb => by
    have e : b = it := by simpa using hb
    subst e
    exact ⟨_, st, fun v z => by
      have z' : Data.fields _ = Data.cell v := z
      cases z'⟩
  keep := fun i h h' st k => k it (by simp) _ st
  item := by
    intro X hP hw hK hc i pins s σ H E I hf st hg
    subst hP hw hK
    obtain ⟨f0, f1, f2, f3, f4, f5⟩ := hf it (by simp)
    have W := Walks.longrange (prog := X.prog) (w := X.w) (I.ok.hd hc) it lo 1 n
    refine W.item i s _ _ hg st fun v h' tk hv st' kk => ?_
    obtain ⟨t, rfl⟩ := hv
    have I1 : Inv X pins σ H { s with heap := h', toks := tk } := I.turned (fun b o hb e => kk b o (by simpa using hb) e) f0 f1 f3 f4 f5
    refine ⟨_, rfl, go_of (s := { s with heap := h', toks := tk }) (n := "longrange_iterator") st' rfl rfl (by decide) ⟨.int (lo + i), H, I1, ⟨t, ?_⟩, ⟨rfl, rfl⟩, st', fun b hb => (hf b hb).1⟩⟩
    rw [Int.mul_one]
  done := by
    intro X hP hw hK hc i pins s σ H E I hf st hg
    subst hP hw hK
    obtain ⟨f0, f1, f2, f3, f4, f5⟩ := hf it (by simp)
    exact wpAny_pyNext_long_end (I.ok.hd hc) st (by have : n ≤ i := hg; omega) fun h' eb => ⟨rfl, I.turned (t' := s.toks) (fun b o hb e => eb b o hb e) f0 f1 f3 f4 f5⟩
  self := fun _ _ _ _ _ st h => wpAny_pyIter_longiter st h
section
variable {X : Cx} {tg : Expr}
theorem size_one (lo hi : Int) : (((hi - lo).toNat : Nat) : Int) - ((0 : Nat) : Int) = Builtin.Range.rangeSize lo hi 1 := by rw [rangeSize_one]; split <;> omega
theorem range_itB {pins : List (Addr × Obj)} {σ : St} {H : Hp} {s : Shared} {R : It → Hp → Prop} {E : Value → Shared → Prop} {lo hi : Int} {t u v : Tok} {tk : Nat} (I : Inv X pins σ H s)
    (q : R (Itr lo (hi - lo).toNat) H) : wpAny (model X.prog X.w) X.A (pyIter (.ref s.heap.objs.size)) (PIE X pins σ tg R) E { s with heap := s.heap.push { cls := .type "range", data := .fields #[.int lo t, .int hi u, .int 1 v] }, toks := tk } := by
  have I1 : Inv X pins σ H { s with heap := s.heap.push { cls := .type "range", data := .fields #[.int lo t, .int hi u, .int 1 v] }, toks := tk } := I.kept fun b o e => Heap.get?_push_of_some _ e
  have e1 : lo + ((0 : Nat) : Int) * 1 = lo := by simp
  have last : ∀ b ∈ [(s.heap.push { cls := .type "range", data := .fields #[.int lo t, .int hi u, .int 1 v] }).objs.size], FpOk X pins H b := fun b hb => by
    have e := List.mem_singleton.mp hb
    subst e
    exact I1.fpOk (Nat.le_refl _) (I1.hok.fresh (Nat.le_refl _))
  by_cases hs : Builtin.Range.small lo hi 1 = true
  · refine wpAny_pyIter_range (IsRange.new ..) hs ?_
    refine ⟨_, [(s.heap.push { cls := .type "range", data := .fields #[.int lo t, .int hi u, .int 1 v] }).objs.size], _, _, H, rfl, I1.kept (t' := tk) fun b o e => Heap.get?_push_of_some _ e, turn_range _ lo (hi - lo).toNat, ?_, last, q⟩
    show IsRangeIter _ _ (lo + ((0 : Nat) : Int) * 1) ((((hi - lo).toNat : Nat) : Int) - ((0 : Nat) : Int)) 1
    rw [e1, size_one]
    exact Heap.get?_push_size _ rfl
  · refine wpAny_pyIter_longrange (IsRange.new ..) (by simpa using hs) ?_
    refine ⟨_, [(s.heap.push { cls := .type "range", data := .fields #[.int lo t, .int hi u, .int 1 v] }).objs.size], _, _, H, rfl, I1.kept (t' := tk) fun b o e => Heap.get?_push_of_some _ e, turn_long _ lo (hi - lo).toNat, ?_, last, q⟩
    show IsLongIter _ _ (lo + ((0 : Nat) : Int) * 1) ((((hi - lo).toNat : Nat) : Int) - ((0 : Nat) : Int)) 1
    rw [e1, size_one]
    exact Heap.get?_push_size _ rfl
def iRng2B (ta : TA) : TI := fun σ H R => ta σ H fun vs H1 => ∃ i j : Int, vs = [.int i, .int j] ∧ R (Itr i (j - i).toNat) H1
theorem pi_range2B {a b : Expr} {ta : TA} {p pos : Pos} (hg : Gl X "range") (hm : X.mg "range" = none) (ha : PA X [a, b] ta) (hs : starEach [a, b] X.env = [(false, eval a X.env), (false, eval b X.env)] := by rfl) (hs2 : starEach [b] X.env = [(false, eval b X.env)] := by rfl) :
    PI X tg (.Call (.Name "range" p) [a, b] [] pos) (iRng2B ta) := by
  refine ⟨fun pins s σ H R I h => ?_⟩
  refine Call_ (ld_blt I hg hm boot_range (PyProof.Rows.callWith_type1 (thn (ha.run pos pins s σ H _ I h) fun us s1 ⟨vs, H1, I1, r1, q1⟩ => ?_) (by rw [hs, hs2]) (by rw [hs2]; rfl)))
  obtain ⟨i, j, e, q⟩ := q1
  subst e
  cases r1 with
  | cons r rr =>
    cases rr with
    | cons r' rr =>
      cases rr
      obtain ⟨t, rfl⟩ := r
      obtain ⟨t', rfl⟩ := r'
      exact call_range_2 (range_itB I1 q)
/-- range(a, b), bounds of any size -/
def iRng2L (m : Sto → Option (List D)) : MI := fun S => (m S).bind fun ds => match ds with
  | [.int i, .int j] => some (rngD i (j - i).toNat, S)
  | _ => none
theorem vi_range2L {a b : Expr} {p pos : Pos} {m : Sto → Option (List D)} (hm : X.mg "range" = none) (ha : VPA X [a, b] m) (hg : Gl X "range" := by rfl) (hs : starEach [a, b] X.env = [(false, eval a X.env), (false, eval b X.env)] := by rfl) (hs2 : starEach [b] X.env = [(false, eval b X.env)] := by rfl) :
    VI X tg (.Call (.Name "range" p) [a, b] [] pos) (iRng2L m) := PI.imp (pi_range2B hg hm ha hs hs2) fun σ H R ⟨S, fr, ds, S', h, e, q⟩ => by
  obtain ⟨xs, e1, e⟩ := Option.bind_eq_some_iff.mp e
  refine ⟨S, fr, xs, h, e1, fun vs r => ?_⟩
  split at e
  · rename_i i j
    cases e
    match vs, r with
    | [v, u], ⟨r1, r2, _⟩ =>
      rw [show v = .int i from r1, show u = .int j from r2]
      exact ⟨i, j, rfl, q _ H [] feeds_rng h⟩
  · cases e
end
/-! ### list(range(a, b)) -/
section
variable {prog : Program} {w : World} {A : Around} {s : Shared}
theorem ext_long {R : Result → Shared → Prop} {r : Addr} {a b c : Int} {t u v : Tok} {n : Nat} (hh : A.handled = none) (hr : IsRange s.heap r a b c t u v) (hsmall : Builtin.Range.small a b c = false)
    (hn : Builtin.Range.rangeSize a b c = n) (hlen : n ≤ 2 ^ 24) (S : Addr) (res : Value) (c₀ : Nat) (hS : s.heap.get? S = some { cls := .type "list", data := .seq #[] c₀ })
    (hR : ∀ h' tk acc' c', (∀ b o, b ≠ S → s.heap.get? b = some o → h'.get? b = some o) → h'.get? S = some { cls := .type "list", dict := none, data := .seq acc' c', slots := #[] } →
      ItemsOf (fun i v => ∃ t, v = .int (a + i * c) t) acc' n → R (.ok (.ret res)) { s with heap := h', toks := tk }) :
    wpAny (model prog w) A.in1 (Builtin.List.listExtendWith (.ref S) (.ref r) res)
      (fun fin s' => match fin with | .done f => R (.ok f) s' | .again c' => c'.quiet = true ∧ codeAny (model prog w) A c' R s') (fun e s' => R (.error e) s') s := by
  have hSr : S ≠ r := fun e => by rw [e, hr] at hS; simp at hS
  have hSlt : S < s.heap.objs.size := Heap.lt_size hS
  have hSI : S ≠ s.heap.objs.size := Nat.ne_of_lt hSlt
  have hSf : S ∉ [s.heap.objs.size] := fun hm => hSI (List.mem_singleton.mp hm)
  have W := (Walks.longrange (prog := prog) (w := w) (A := A.in1) hh s.heap.objs.size a c n).toS
  have key : ∀ (h : Heap) (c₁ tk : Nat), IsLongIter h s.heap.objs.size (a + ((0 : Nat) : Int) * c) ((n : Int) - ((0 : Nat) : Int)) c → (∀ b o, b ≠ S → s.heap.get? b = some o → h.get? b = some o) →
      h.get? S = some { cls := .type "list", data := .seq #[] c₁ } → codeAny (model prog w) A (.builtin "list.extend.loop" ⟨[.ref S, .ref s.heap.objs.size, res], []⟩) R { s with heap := h, toks := tk } := by
    intro h c₁ tk hit hk hS₁
    refine codeAny_extend_loopS W (by rw [sizeLine_eq]; omega) S hSf res n 0 _ #[] c₁ rfl (Nat.zero_le _) hit hS₁ (ItemsOf.nil _) fun s' acc' c' hm hS' hacc => ?_
    rw [Moved.eq_with hm]
    refine hR s'.heap s'.toks acc' c' (fun b o hb e => hm.heap b o (fun hmem => ?_) (hk b o hb e)) hS' hacc
    rcases List.mem_cons.mp hmem with e' | hmem
    · exact hb e'
    · exact absurd (Heap.lt_size e) (by rw [List.mem_singleton.mp hmem]; exact Nat.lt_irrefl _)
  unfold Builtin.List.listExtendWith
  refine wpAny_bind (wpAny_typeOf (T := "range") ⟨_, hr, rfl⟩ ?_)
  have h1 : Builtin.List.listSameRef (.ref S) (.ref r) = false := by simp [Builtin.List.listSameRef, hSr]
  have h2 : (Value.type "range" == Value.type "list") = false := by decide
  have h3 : (Value.type "range" == Value.type "tuple") = false := by decide
  simp only [h1, h2, h3, Bool.or_false, Bool.false_eq_true, if_false]
  refine wpAny_bind (wpAny_pyIter_longrange hr hsmall ?_)
  refine wpAny_bind (wpAny_holding (wpAny_hint_range (n := n) (Heap.get?_push_of_some _ hr) hn hlen ?_))
  have hit₁ : IsLongIter (s.heap.push { cls := .type "longrange_iterator", data := .fields #[rawInt a, rawInt (Builtin.Range.rangeSize a b c), rawInt c] }) s.heap.objs.size (a + ((0 : Nat) : Int) * c) ((n : Int) - ((0 : Nat) : Int)) c := by
    show IsLongIter _ _ _ _ _; rw [hn]; simpa using Heap.get?_push_size _ rfl
  have hS₁ := Heap.get?_push_of_some { cls := .type "longrange_iterator", data := .fields #[rawInt a, rawInt (Builtin.Range.rangeSize a b c), rawInt c] } hS
  refine wpAny_ite_split (fun _ => ?_) (fun _ => wpAny_pure ⟨plainId_quiet F.plain_extend_loop _, key _ c₀ _ hit₁ (fun b o _ e => Heap.get?_push_of_some _ e) hS₁⟩)
  refine wpAny_bind (wpAny_rule ?_)
  refine wpAny_bind ?_
  show wpAny _ _ (updateSeq S (·.push .none) >>= fun _ => updateSeq S (·.pop)) _ _ _
  refine wpAny_bind (wpAny_updateSeq hS₁ rfl ?_)
  have hS₂ := Heap.get?_update_self (Obj.mapSeq (·.push Value.none)) hS₁ rfl
  refine wpAny_updateSeq (hz := by seq_fits) hS₂ rfl ?_
  have hS₃ := Heap.get?_update_self (Obj.mapSeq (·.pop)) hS₂ rfl
  refine wpAny_pure ⟨plainId_quiet F.plain_extend_loop _, key _ _ _ ?_ (fun b o hb e => ?_) hS₃⟩
  · exact (Heap.get?_update_other _ _ hSI).trans ((Heap.get?_update_other _ _ hSI).trans hit₁)
  · exact (Heap.get?_update_other _ _ (Ne.symm hb)).trans ((Heap.get?_update_other _ _ (Ne.symm hb)).trans (Heap.get?_push_of_some _ e))
theorem init_long {R : Result → Shared → Prop} {r : Addr} {a b c : Int} {t u v : Tok} {n : Nat} (hh : A.handled = none) (hr : IsRange s.heap r a b c t u v) (hsmall : Builtin.Range.small a b c = false)
    (hn : Builtin.Range.rangeSize a b c = n) (hlen : n ≤ 2 ^ 24) (S : Addr) (hS : s.heap.get? S = some { cls := .type "list", data := .seq #[] })
    (hR : ∀ h' tk acc' c', (∀ b o, b ≠ S → s.heap.get? b = some o → h'.get? b = some o) → h'.get? S = some { cls := .type "list", dict := none, data := .seq acc' c', slots := #[] } →
      ItemsOf (fun i v => ∃ t, v = .int (a + i * c) t) acc' n → R (.ok (.ret .none)) { s with heap := h', toks := tk }) :
    wpAny (model prog w) A.in1 (Builtin.«list.__init__» ⟨[.ref S, .ref r], []⟩)
      (fun fin s' => match fin with | .done f => R (.ok f) s' | .again c' => c'.quiet = true ∧ codeAny (model prog w) A c' R s') (fun e s' => R (.error e) s') s := by
  have hSr : S ≠ r := fun e => by rw [e, hr] at hS; simp at hS
  show wpAny _ _ (do let old ← Builtin.List.listItems (.ref S); Builtin.List.listUpdate (.ref S) (fun _ => #[]); letGo old.toList.reverse; Builtin.List.listExtendWith (.ref S) (.ref r) .none) _ _ s
  refine wpAny_bind ?_
  unfold Builtin.List.listItems
  refine wpAny_bind (wpAny_seqItems hS rfl (wpAny_pure ?_))
  show wpAny _ _ (updateSeq S (fun _ => #[]) >>= fun _ => letGo (#[] : Array Value).toList.reverse >>= fun _ => Builtin.List.listExtendWith (.ref S) (.ref r) .none) _ _ s
  refine wpAny_bind (wpAny_updateSeq hS rfl ?_)
  have hS₂ := Heap.get?_update_self (Obj.mapSeq (fun _ => (#[] : Array Value))) hS rfl
  have oth : ∀ b o, b ≠ S → s.heap.get? b = some o → (s.heap.update S (Obj.mapSeq (fun _ => (#[] : Array Value)))).get? b = some o :=
    fun b o hb e => (Heap.get?_update_other _ _ (Ne.symm hb)).trans e
  refine wpAny_bind (wpAny_letGo ?_)
  refine ext_long hh (oth r _ (Ne.symm hSr) hr) hsmall hn hlen S .none _ hS₂ fun h' tk acc' c' hk hS' hacc => ?_
  exact hR h' tk acc' c' (fun b o hb e => hk b o hb (oth b o hb e)) hS' hacc
theorem call_list_long {E : Value → Shared → Prop} {Q : Value → Shared → Prop} {r : Addr} {a b c : Int} {t u v : Tok} {n : Nat} (hh : A.handled = none) (hr : IsRange s.heap r a b c t u v) (hsmall : Builtin.Range.small a b c = false)
    (hn : Builtin.Range.rangeSize a b c = n) (hlen : n ≤ 2 ^ 24)
    (hQ : ∀ h' tk acc' c', (∀ b o, s.heap.get? b = some o → h'.get? b = some o) →
      h'.get? s.heap.objs.size = some { cls := .type "list", dict := none, data := .seq acc' c', slots := #[] } → ItemsOf (fun i v => ∃ t, v = .int (a + i * c) t) acc' n → Q (.ref s.heap.objs.size) { s with heap := h', toks := tk }) :
    wpAny (model prog w) A (call (.type "list") [.ref r]) Q E s := by
  refine callType_codes (Q₁ := fun obj s₁ => obj = .ref s.heap.objs.size ∧ s₁ = { s with heap := s.heap.push { cls := .type "list", data := .seq #[] } }) F.called_list (F.typeCall_list_1 _) F.entry_list_init
    (code_list_new _ ⟨rfl, rfl⟩) fun obj s₁ h₁ => ?_
  obtain ⟨rfl, rfl⟩ := h₁
  have hS : (s.heap.push { cls := .type "list", data := .seq #[] }).get? s.heap.objs.size = some { cls := .type "list", data := .seq #[] } := Heap.get?_push_size _ rfl
  refine ⟨⟨_, hS, rfl⟩, F.args_list_init_2 _ _, init_long (A := A.in1) hh (Heap.get?_push_of_some _ hr) hsmall hn hlen _ hS fun h' tk acc' c' hk hS' hacc => ?_⟩
  exact ⟨rfl, hQ h' tk acc' c' (fun b o e => hk b o (Nat.ne_of_lt (Heap.lt_size e)) (Heap.get?_push_of_some _ e)) hS' hacc⟩
end
section
variable {X : Cx} {e a b : Expr} {pos : Pos} {te : St → Hp → (Int → Int → Hp → Prop) → Prop}
def tLstRgB (te : St → Hp → (Int → Int → Hp → Prop) → Prop) : TE := fun σ H Q => te σ H fun a b H1 => (b - a).toNat ≤ 2 ^ 24 ∧ ∀ q, H1 q = none → Q (.ref q) (upd H1 q (.lst (rgV a b)))
theorem pe_listRgB {p pos : Pos} (hc : X.calm = true) (hg : Gl X "list") (hm : X.mg "list" = none) (he : PRg X e te) (na : starEach [e] X.env = (false, eval e X.env) :: starEach [] X.env := by rfl) : PE X (.Call (.Name "list" p) [e] [] pos) (tLstRgB te) := by
  refine ⟨fun pins s σ H Q I h => ?_⟩
  refine Call_ (ld_blt I hg hm boot_list (PyProof.Rows.callWith_type1 (args_cons (thn (he pins s σ H _ I h) fun x s1 ⟨r, a, b, t, u, v, H1, ex, hr, I1, b5, q⟩ => args_nil ?_) na) na))
  subst ex
  have fin : ∀ (h' : Heap) (tk : Nat) (acc : Array Value) (c' : Nat), (∀ b o, s1.heap.get? b = some o → h'.get? b = some o) →
      h'.get? s1.heap.objs.size = some { cls := .type "list", dict := none, data := .seq acc c', slots := #[] } → ItemsOf (fun i v => ∃ t, v = .int (a + i * 1) t) acc (b - a).toNat → EP X pins σ Q (.ref s1.heap.objs.size) { s1 with heap := h', toks := tk } := fun h' tk acc c' hk e' hi => by
    refine ⟨.ref s1.heap.objs.size, upd H1 s1.heap.objs.size (.lst (rgV a b)), I1.laid hk (Nat.le_refl _) (show ObjOk X.prog X.w _ _ _ (.lst (rgV a b)) from ⟨?_, acc.toList, c', vals_rg hi, ?_⟩), rfl, q _ (I1.hok.fresh (Nat.le_refl _))⟩
    · rw [rgV_length, sizeLine_eq]; omega
    · rw [Array.toArray_toList]; exact e'
  by_cases hs : Builtin.Range.small a b 1 = true
  · exact call_list_range (n := (b - a).toNat) (I1.ok.hd hc) hr hs (rangeSize_nat a b) b5 fin
  · exact call_list_long (n := (b - a).toNat) (I1.ok.hd hc) hr (by simpa using hs) (rangeSize_nat a b) b5 fin
theorem At.ints {K : PySem.W.Frag} {H : Hp} {ps : Ps} (h : At K H ps) : ∀ ns : List Int, At K H ((ns.map V.int).zip (ns.map fun i => T.sh (.int i)) ++ ps)
  | [] => h
  | n :: ns => At.new (At.ints h ns) fun G => rfl
/-- list(range(a, b)) -/
def eLRg (ma mb : ME) : ME := fun S => (ma S).bind fun p => (mb p.2).bind fun q => match fz p.1, fz q.1 with
  | .int i, .int j => if (j - i).toNat ≤ 16777216 then some (.lst ((rngD i (j - i).toNat).map .sh), q.2) else none
  | _, _ => none
theorem ve_lRg {ma mb : ME} {p p2 pos2 : Pos} (hc : X.calm = true) (hm : X.mg "list" = none) (hmr : X.mg "range" = none) (ha : VE X a ma) (hb : VE X b mb) (hg : Gl X "list" := by rfl) (hgr : Gl X "range" := by rfl)
    (na : starEach [.Call (.Name "range" p2) [a, b] [] pos2] X.env = (false, eval (.Call (.Name "range" p2) [a, b] [] pos2) X.env) :: starEach [] X.env := by rfl) (nr : starEach [a, b] X.env = (false, eval a X.env) :: starEach [b] X.env := by rfl)
    (nb : starEach [b] X.env = (false, eval b X.env) :: starEach [] X.env := by rfl) (hp : (backTo pos2 (starEach [b] X.env)).any (·.1) = false := by rfl) : VE X (.Call (.Name "list" p) [.Call (.Name "range" p2) [a, b] [] pos2] [] pos) (eLRg ma mb) :=
  PE.imp (pe_listRgB hc hg hm (prg_2 hgr hmr ha hb nr nb hp) na) fun σ H Q ⟨S, fr, t, S', h, e, q⟩ => by
    obtain ⟨⟨ta, S1⟩, e1, e⟩ := Option.bind_eq_some_iff.mp e
    obtain ⟨⟨tb, S2⟩, e2, e⟩ := Option.bind_eq_some_iff.mp e
    refine ⟨S, fr, ta, S1, h, e1, fun v H1 h1 => ⟨S1, (v, ta) :: fr, tb, S2, h1, e2, fun u H2 h2 => ?_⟩⟩
    simp only at e
    split at e
    · rename_i i j ei ej
      split at e
      · rename_i hn
        cases e
        obtain ⟨r1, r2⟩ := h2.reps2
        rw [ei] at r1
        rw [ej] at r2
        refine ⟨i, j, r1, r2, by omega, fun p hp => q _ _ ?_⟩
        have z := At.ints h2.drop1.drop1.front ((List.range (j - i).toNat).map fun k => i + (k : Nat))
        rw [List.map_map, List.map_map] at z
        have w := At.newL (p := p) z (by simp) hp
        have ed : (rngD i (j - i).toNat).map T.sh = (List.range (j - i).toNat).map ((fun i => T.sh (.int i)) ∘ fun k => i + (k : Nat)) := by
          unfold rngD
          rw [List.map_map]
          rfl
        rw [ed]
        exact AtS.of h2.1 w
      · cases e
    · cases e
end
end VS
/-! VS21: zip; dict(e); == of dicts; sorted; max and min of a list; built-ins over values. -/
namespace VS
open PySem PySem.Spec PyProof.Rows L2
section
variable {K : PySem.W.Frag} {H : Hp} {ps : Ps}
theorem At.pick {vs : List V} {ts : List T} {i : Nat} {t : T} (h : At K H (vs.zip ts ++ ps)) (l : vs.length = ts.length) (e : ts[i]? = some t) : ∃ w, vs[i]? = some w ∧ At K H ((w, t) :: ps) := by
  obtain ⟨w, A, B, h1, h2, _⟩ := zip_at l e
  rw [h2] at h
  refine ⟨w, h1, h.sub ⟨A ++ B, ?_⟩⟩
  rw [List.append_assoc, List.append_assoc]
  have p : (A ++ ((w, t) :: B ++ ps)).Perm (A ++ (B ++ (w, t) :: ps)) := List.Perm.append_left A List.perm_middle.symm
  exact p
theorem At.repsAll : ∀ {vs : List V} {ts : List T}, vs.length = ts.length → At K H (vs.zip ts ++ ps) → Reps K H vs (ts.map fz)
  | [], [], _, _ => trivial
  | v :: vs, t :: ts, l, h => ⟨(At.freeze (ps := vs.zip ts ++ ps) h).rep, At.repsAll (Nat.succ.inj l) (At.tail (ps := vs.zip ts ++ ps) h)⟩
  | [], _ :: _, l, _ => nomatch l
  | _ :: _, [], l, _ => nomatch l
theorem feeds_zip {a b : Addr} {xs ys : List D} : Feeds K (Itz K a b) [(.ref a, .sh (.lst xs)), (.ref b, .sh (.lst ys))] ((xs.zip ys).map fun p => .tup [p.1, p.2]) where
  go := fun H ps h i d hi => by
    rw [List.getElem?_map] at hi
    obtain ⟨⟨dx, dy⟩, hz, rfl⟩ := Option.map_eq_some_iff.mp hi
    obtain ⟨hx, hy⟩ := List.getElem?_zip_eq_some.mp hz
    have h0 : At K H ((.ref a, .sh (.lst xs)) :: (.ref b, .sh (.lst ys)) :: ps) := h
    obtain ⟨a', vs, ea, sa, la, ka⟩ := (h0.dup).kids
    cases ea
    obtain ⟨wx, gx, k1⟩ := At.pick ka (by rw [List.length_map]; exact la) (show (xs.map T.sh)[i]? = some (.sh dx) by rw [List.getElem?_map, hx]; rfl)
    have k2 : At K H ((.ref b, .sh (.lst ys)) :: (wx, .sh dx) :: (.ref a, .sh (.lst xs)) :: ps) := k1.perm (by
      refine List.Perm.trans (List.Perm.cons _ (.swap ..)) (.swap ..))
    obtain ⟨b', us, eb, sb, lb, kb⟩ := (k2.dup).kids
    cases eb
    obtain ⟨wy, gy, k3⟩ := At.pick kb (by rw [List.length_map]; exact lb) (show (ys.map T.sh)[i]? = some (.sh dy) by rw [List.getElem?_map, hy]; rfl)
    refine ⟨⟨vs, us, wx, wy, sa, sb, gx, gy⟩, fun v H' ⟨T0, x, y, ev, hT, eH, qx, qy⟩ => ?_⟩
    have ex := qx _ sa
    rw [gx] at ex
    cases ex
    have ey := qy _ sb
    rw [gy] at ey
    cases ey
    rw [ev, eH]
    have k4 : At K H ([wx, wy].zip [T.sh dx, T.sh dy] ++ ((.ref a, .sh (.lst xs)) :: (.ref b, .sh (.lst ys)) :: ps)) := k3.perm (by
      show ((wy, T.sh dy) :: (V.ref b, T.sh (.lst ys)) :: (wx, T.sh dx) :: (V.ref a, T.sh (.lst xs)) :: ps).Perm ((wx, T.sh dx) :: (wy, T.sh dy) :: (V.ref a, T.sh (.lst xs)) :: (V.ref b, T.sh (.lst ys)) :: ps)
      refine List.Perm.trans (List.Perm.cons _ (.swap ..)) ?_
      refine List.Perm.trans (.swap ..) ?_
      exact List.Perm.cons _ (List.Perm.cons _ (.swap ..)))
    exact (At.newT k4 rfl hT).freeze
  stop := fun H ps h i hi => by
    have h0 : At K H ((.ref a, .sh (.lst xs)) :: (.ref b, .sh (.lst ys)) :: ps) := h
    obtain ⟨a', vs, ea, sa, la, _⟩ := h0.kids
    cases ea
    obtain ⟨b', us, eb, sb, lb, _⟩ := (h0.tail).kids
    cases eb
    rw [List.length_map, List.length_zip] at hi
    exact ⟨vs, us, sa, sb, by omega⟩
theorem At.kidsD {v : V} {ks : List Key} {ds : List D} (h : At K H ((v, .sh (.dct ks ds)) :: ps)) : ∃ a vs, v = .ref a ∧ Rd H a (.dK (ks.zip vs)) ∧ ks.length = vs.length ∧ vs.length = ds.length ∧ At K H (vs.zip (ds.map .sh) ++ ps) := by
  obtain ⟨G, fp, s, ⟨f, g, rfl, ⟨rfl, a, vs, rfl, q, ln, r⟩, o2⟩, n, e, x⟩ := h
  have all : ∀ (ds : List D) (vs : List V), Reps K G vs ds → OwnP K G H (vs.zip (ds.map T.sh)) [] := by
    intro ds
    induction ds with
    | nil => intro vs _; cases vs <;> rfl
    | cons d ds ih =>
      intro vs r
      cases vs with
      | nil => rfl
      | cons v vs => exact ⟨[], [], rfl, ⟨rfl, r.1⟩, ih vs r.2⟩
  exact ⟨a, vs, rfl, Same.rd s q, ln, r.length, G, g, s, (all ds vs r).append o2, n, e, x⟩
end
section
variable {X : Cx} {tg a b c e : Expr} {es : List Expr} {pos : Pos}
/-- for .. in zip(e, e2) -/
def iZip' (m : MA) : MI := fun S => (m S).bind fun p => match p.1 with
  | [t, u] => (match fz t, fz u with
    | .lst xs, .lst ys => some ((xs.zip ys).map fun p => .tup [p.1, p.2], p.2)
    | _, _ => none)
  | _ => none
theorem vi_zip {e e2 : Expr} {m : MA} {ms : List (Option Nat)} {p tpos : Pos} {elts : List Expr} {kk : Nat} (hm : X.mg "zip" = none) (ha : VM X [e, e2] ms m) (hg : Gl X "zip" := by rfl)
    (hs : starEach [e, e2] X.env = (false, eval e X.env) :: starEach [e2] X.env := by rfl) (hpl : (backTo pos (starEach [e2] X.env)).any (·.1) = false := by rfl) :
    VI X (.Tuple elts kk tpos) (.Call (.Name "zip" p) [e, e2] [] pos) (iZip' m) := PI.imp (pi_zip hg hm ha hs hpl) fun σ H R ⟨S, fr, ds, S', h, e, q⟩ => by
  obtain ⟨⟨ts, S1⟩, e1, e⟩ := Option.bind_eq_some_iff.mp e
  refine ⟨S, fr, ts, S1, h, e1, fun vs H1 _ l1 h1 => ?_⟩
  simp only at e
  split at e
  · rename_i t u
    split at e
    · rename_i xs ys ex ey
      cases e
      match vs, l1 with
      | [v, w], _ =>
        have h2 : AtS X.K H1 σ S' ((v, t) :: (w, u) :: fr) := h1
        have h3 := (h2.freeze.two).freeze.two
        rw [ex, ey] at h3
        obtain ⟨a, vs, rfl, sa, la, _⟩ := h3.at1.kids
        obtain ⟨b, us, rfl, sb, lb, _⟩ := h3.two.at1.kids
        exact ⟨a, b, vs, us, rfl, sa, sb, q _ H1 _ feeds_zip h3⟩
    · cases e
  · cases e
/-- dict(e) -/
def eDctC (m : MA) : ME := fun S => (m S).bind fun p => match p.1 with
  | [t] => (match fz t with
    | .dct ks ds => some (.dct ks (ds.map .sh), p.2)
    | _ => none)
  | _ => none
theorem ve_dctC {m : MA} {ms : List (Option Nat)} {p : Pos} (ha : VM X [e] ms m) (hm : X.mg "dict" = none) (hv : bootBuiltins "dict" = some (.type "dict") := by decide +kernel) (hg : Gl X "dict" := by rfl)
    (he : starEach [e] X.env = (false, eval e X.env) :: starEach [] X.env := by rfl) (hpl : (backTo pos (starEach [] X.env)).any (·.1) = false := by rfl) : VE X (.Call (.Name "dict" p) [e] [] pos) (eDctC m) :=
  PE.imp (pe_callTy call_dictD hg hm hv ha (by decide) (by decide) he hpl) fun σ H Q ⟨S, fr, t, S', h, e, q⟩ => by
    obtain ⟨⟨ts, S1⟩, e1, e⟩ := Option.bind_eq_some_iff.mp e
    refine ⟨S, fr, ts, S1, h, e1, fun vs H1 _ l1 h1 => ?_⟩
    simp only at e
    split at e
    · rename_i t0
      split at e
      · rename_i ks ds ed
        cases e
        match vs, l1 with
        | [v], _ =>
          have h2 : AtS X.K H1 σ S' ((v, .sh (fz t0)) :: fr) := AtS.freeze h1
          rw [ed] at h2
          obtain ⟨a, us, rfl, k, ln, l2, h3⟩ := h2.at1.kidsD
          exact ⟨a, _, rfl, k, fun p hp => q _ _ (AtS.of h2.1 (At.newD h3 (by rw [List.length_map]; exact l2) ln hp))⟩
      · cases e
    · cases e
/-! ### == of dicts -/
def hitsD (js : List Key) (ys : List D) : List Key → List D → Bool
  | k :: ks, x :: xs => match getD k (.dct js ys) with
    | none => false
    | some y => deq x y && hitsD js ys ks xs
  | _, _ => true
def okV (d : D) : Bool := okD d && decide ((py d).depth ≤ 60)
def eqDc (ks : List Key) (xs : List D) (js : List Key) (ys : List D) : Bool := ks.length == js.length && hitsD js ys ks xs
def dEqK (x y : D) : Option D := match x, y with
  | .dct ks xs, .dct js ys => if (xs.all okV && ys.all okV && js.length == ys.length) = true then some (.bl (eqDc ks xs js ys)) else none
  | _, _ => none
def dNeK (x y : D) : Option D := match x, y with
  | .dct ks xs, .dct js ys => if (xs.all okV && ys.all okV && js.length == ys.length) = true then some (.bl (!eqDc ks xs js ys)) else none
  | _, _ => none
theorem eqAt_of {pins : List (Addr × Obj)} {σ : St} {H : Hp} {s : Shared} (I : Inv X pins σ H s) (hu : X.A.units + 64 < cLine) {x y : D} {v u : V} {v' u' : Value} (ox : okV x = true) (oy : okV y = true) (rx : Rep X.K H v x) (ry : Rep X.K H u y) (r1 : RelV v v') (r2 : RelV u u') :
    SeqAt.EqAt X.A.in1 s v' u' (deq x y) := by
  obtain ⟨o1, o2⟩ := Bool.and_eq_true_iff.mp ox
  obtain ⟨o3, o4⟩ := Bool.and_eq_true_iff.mp oy
  obtain ⟨p1, p2⟩ := Bool.and_eq_true_iff.mp o1
  obtain ⟨p3, p4⟩ := Bool.and_eq_true_iff.mp o3
  obtain ⟨as, q1⟩ := Dp.reads I (py x) v v' (Rep.dp p1 rx) r1
  obtain ⟨bs, q2⟩ := Dp.reads I (py y) u u' (Rep.dp p3 ry) r2
  refine SeqAt.eqAt_reads _ _ X.A.in1 s v' u' as bs q1 q2 (SeqAt.canLay_of_shaped p2) (SeqAt.canLay_of_shaped p4) ?_
  have := of_decide_eq_true o2
  have hm := Nat.min_le_left (py x).depth (py y).depth
  show X.A.units + 1 + _ < cLine
  omega
theorem hits_of {pins : List (Addr × Obj)} {σ : St} {H : Hp} {s : Shared} (I : Inv X pins σ H s) (hu : X.A.units + 64 < cLine) {js : List Key} {ys : List D} {us : List V} {vb : List (Key × Value)} (rb : KV (js.zip us) vb) (rys : Reps X.K H us ys) (lj : js.length = us.length) (oys : ys.all okV = true) :
    ∀ {ks : List Key} {xs : List D} {vs : List V} {va : List (Key × Value)}, KV (ks.zip vs) va → Reps X.K H vs xs → ks.length = vs.length → xs.all okV = true → PySem.W.KeqHits X.A.in1 s vb va (hitsD js ys ks xs)
  | [], [], [], va, ra, _, _, _ => by
    cases ra
    exact .nil
  | k :: ks, x :: xs, v :: vs, va, ra, rxs, l, ox => by
    rw [List.zip_cons_cons] at ra
    cases ra with
    | @cons _ q _ qs hq hr =>
      obtain ⟨hk, hv⟩ := hq
      obtain ⟨k', v'⟩ := q
      cases (show k = k' from hk)
      rw [List.all_cons, Bool.and_eq_true] at ox
      have ih := hits_of I hu rb rys lj oys (show KV (ks.zip vs) qs from hr) rxs.2 (Nat.succ.inj l) ox.2
      have rr := rb.val k
      cases hx : ixK k js with
      | none =>
        rw [ixK_none hx] at rr
        have e : hitsD js ys (k :: ks) (x :: xs) = false := by
          unfold hitsD
          rw [show VS.getD k (.dct js ys) = none by show (ixK k js).bind _ = none; rw [hx]; rfl]
        rw [e]
        refine .miss ?_
        cases hy : valueAt vb k with
        | none => rfl
        | some y' => rw [hy] at rr; exact rr.elim
      | some n =>
        have hn := ixK_lt hx
        have hlu : n < us.length := by omega
        have hly : n < ys.length := by have := rys.length; omega
        rw [ixK_val hx (List.getElem?_eq_getElem hlu)] at rr
        obtain ⟨y', hy, ry'⟩ := rr.some_of
        have e : hitsD js ys (k :: ks) (x :: xs) = (deq x ys[n] && hitsD js ys ks xs) := by
          rw [hitsD]
          rw [show VS.getD k (.dct js ys) = some ys[n] by show (ixK k js).bind _ = _; rw [hx]; exact List.getElem?_eq_getElem hly]
        rw [e]
        obtain ⟨w, hw, rw'⟩ := rys.get (List.getElem?_eq_getElem hly)
        rw [List.getElem?_eq_getElem hlu] at hw
        cases hw
        exact .hit hy (eqAt_of I hu ox.1 (List.all_eq_true.mp oys _ (List.getElem_mem hly)) rxs.1 rw' hv ry') ih
  | [], _ :: _, [], _, _, r, _, _ => r.elim
  | [], [], _ :: _, _, _, _, l, _ => nomatch l
  | [], _ :: _, _ :: _, _, _, _, l, _ => nomatch l
  | _ :: _, [], [], _, _, _, l, _ => nomatch l
  | _ :: _, [], _ :: _, _, _, r, _, _ => r.elim
  | _ :: _, _ :: _, [], _, _, _, l, _ => nomatch l
theorem eqK_parts {pins : List (Addr × Obj)} {σ : St} {H : Hp} {s : Shared} (I : Inv X pins σ H s) (hu : X.A.units + 64 < cLine) {ks js : List Key} {xs ys : List D} {x y : V} {v u : Value} (r1 : Rep X.K H x (.dct ks xs)) (r2 : Rep X.K H y (.dct js ys)) (rx : RelV x v) (ry : RelV y u)
    (ok : (xs.all okV && ys.all okV && js.length == ys.length) = true) : ∃ a b va vb, v = .ref a ∧ u = .ref b ∧ (a == sysModules) = false ∧ (b == sysModules) = false ∧ s.heap.DictOf (mixKind X.prog X.w) a va ∧ s.heap.DictOf (mixKind X.prog X.w) b vb ∧
      PySem.W.KeqHits X.A.in1 s vb va (hitsD js ys ks xs) ∧ (va.length == vb.length) = (ks.length == js.length) := by
  rw [Bool.and_eq_true, Bool.and_eq_true] at ok
  obtain ⟨⟨o1, o2⟩, _⟩ := ok
  obtain ⟨a, vs, rfl, ha, l1, s1⟩ := r1
  obtain ⟨b, us, rfl, hb, l2, s2⟩ := r2
  obtain rfl : v = Value.ref a := rx
  obtain rfl : u = Value.ref b := ry
  obtain ⟨_, ya, va, ra, da⟩ := dk_rd I.hok ha
  obtain ⟨_, yb, vb, rb, db⟩ := dk_rd I.hok hb
  refine ⟨a, b, va, vb, rfl, rfl, ya, yb, da, db, hits_of I hu rb s2 l2 o2 ra s1 l1 o1, ?_⟩
  rw [← ra.length, ← rb.length, List.length_zip, List.length_zip, ← l1, ← l2, Nat.min_self, Nat.min_self]
theorem od_eqK (hu : X.A.units + 64 < cLine) : OpR X (compareOp .Eq) (rD X.K dEqK) := by
  intro pins s σ H x y v u Q I rx ry ⟨dx, dy, d, r1, r2, e, q⟩
  unfold dEqK at e
  split at e
  · rename_i ks xs js ys
    split at e
    · rename_i ok
      cases e
      obtain ⟨a, b, va, vb, rfl, rfl, ya, yb, da, db, hh, hl⟩ := eqK_parts I hu r1 r2 rx ry ok
      exact PySem.W.keq_eq ya yb da db (by omega) (fun _ => hh) (fin_bl I (q _ rfl) (by unfold eqDc; rw [hl]))
    · cases e
  · cases e
theorem od_neK (hu : X.A.units + 64 < cLine) : OpR X (compareOp .NotEq) (rD X.K dNeK) := by
  intro pins s σ H x y v u Q I rx ry ⟨dx, dy, d, r1, r2, e, q⟩
  unfold dNeK at e
  split at e
  · rename_i ks xs js ys
    split at e
    · rename_i ok
      cases e
      obtain ⟨a, b, va, vb, rfl, rfl, ya, yb, da, db, hh, hl⟩ := eqK_parts I hu r1 r2 rx ry ok
      exact PySem.W.keq_ne ya yb da db (by omega) (fun _ => hh) (fin_bl I (q _ rfl) (by unfold eqDc; rw [hl]))
    · cases e
  · cases e
/-! ### sorted(e), ints -/
def eSrt (m : MA) : ME := fun S => (m S).bind fun p => match p.1 with
  | [t] => (match fz t with
    | .lst ds => (intsD ds).map fun ns => (.lst ((PySem.W.sortI ns).map fun i => .sh (.int i)), p.2)
    | _ => none)
  | _ => none
theorem ve_srt {m : MA} {ms : List (Option Nat)} {p : Pos} (ha : VM X [e] ms m) (hm : X.mg "sorted" = none) (hv : bootBuiltins "sorted" = some (.builtin "sorted") := by decide +kernel) (hg : Gl X "sorted" := by rfl)
    (he : starEach [e] X.env = (false, eval e X.env) :: starEach [] X.env := by rfl) (hpl : (backTo pos (starEach [] X.env)).any (·.1) = false := by rfl) : VE X (.Call (.Name "sorted" p) [e] [] pos) (eSrt m) :=
  PE.imp (pe_callB cr_sortedI hg hm hv ha (by decide) (by decide) he hpl) fun σ H Q ⟨S, fr, t, S', h, e, q⟩ => by
    obtain ⟨⟨ts, S1⟩, e1, e⟩ := Option.bind_eq_some_iff.mp e
    refine ⟨S, fr, ts, S1, h, e1, fun vs H1 _ l1 h1 => ?_⟩
    simp only at e
    split at e
    · rename_i t0
      split at e
      · rename_i ds ed
        obtain ⟨ns, e2, e3⟩ := Option.map_eq_some_iff.mp e
        cases e3
        match vs, l1 with
        | [v], _ =>
          have h2 : AtS X.K H1 σ S' ((v, .sh (fz t0)) :: fr) := AtS.freeze h1
          rw [ed] at h2
          obtain ⟨a, us, rfl, k, rs⟩ := h2.at1.rep
          rw [ints_vals e2 rs] at k
          refine ⟨a, ns, rfl, k, fun ns' p pm pw hp => ?_⟩
          rw [PySem.W.eq_sortI pm pw]
          exact q _ _ (AtS.of h2.1 (At.newL (At.ints h2.drop1.front (PySem.W.sortI ns)) (by simp) hp))
      · cases e
    · cases e
/-! ### max(e), min(e) of a list of ints -/
def dMaxL : List D → Option D
  | [.lst ds] => (intsD ds).bind fun ns => ns.max?.map .int
  | _ => none
def dMinL : List D → Option D
  | [.lst ds] => (intsD ds).bind fun ns => ns.min?.map .int
  | _ => none
theorem od_maxL (hc : X.calm = true) : CallR X (.builtin "max") (rC X.K dMaxL) := by
  intro pins s σ H xs us Q I rx ⟨ds, d, r, e, q⟩
  unfold dMaxL at e
  split at e
  · rename_i ys
    obtain ⟨ks, e1, e⟩ := Option.bind_eq_some_iff.mp e
    obtain ⟨m, e2, rfl⟩ := Option.map_eq_some_iff.mp e
    obtain ⟨v, rfl, a, vs, rfl, k, rs⟩ := r.one
    rw [ints_vals e1 rs] at k
    obtain ⟨m1, m2⟩ := List.max?_eq_some_iff.mp e2
    refine cr_max hc pins s σ H _ us Q I rx ⟨a, ks, rfl, k, List.length_pos_of_mem m1, fun z hz hz2 => ?_⟩
    rw [show z = m from Int.le_antisymm (m2 z hz) (hz2 m m1)]
    exact q _ rfl
  · cases e
theorem od_minL (hc : X.calm = true) : CallR X (.builtin "min") (rC X.K dMinL) := by
  intro pins s σ H xs us Q I rx ⟨ds, d, r, e, q⟩
  unfold dMinL at e
  split at e
  · rename_i ys
    obtain ⟨ks, e1, e⟩ := Option.bind_eq_some_iff.mp e
    obtain ⟨m, e2, rfl⟩ := Option.map_eq_some_iff.mp e
    obtain ⟨v, rfl, a, vs, rfl, k, rs⟩ := r.one
    rw [ints_vals e1 rs] at k
    obtain ⟨m1, m2⟩ := List.min?_eq_some_iff.mp e2
    refine cr_min hc pins s σ H _ us Q I rx ⟨a, ks, rfl, k, List.length_pos_of_mem m1, fun z hz hz2 => ?_⟩
    rw [show z = m from Int.le_antisymm (hz2 m m1) (m2 z hz)]
    exact q _ rfl
  · cases e
/-- a built-in over values -/
def eCN (g : List D → Option D) (m : MA) : ME := fun S => (m S).bind fun p => sD (g (p.1.map fz)) p.2
theorem ve_callBN {x : Str} {p : Pos} {id : String} {g : List D → Option D} {m : MA} {ms : List (Option Nat)} (hc : CallR X (.builtin id) (rC X.K g)) (hm : X.mg x = none) (hv : bootBuiltins x = some (.builtin id)) (ha : VM X (e :: es) ms m) (hg : Gl X x := by rfl) (hn : x ≠ "__name__" := by decide)
    (hdb : (x == ("__debug__" : Str)) = false := by decide) (he : starEach (e :: es) X.env = (false, eval e X.env) :: starEach es X.env := by rfl) (hpl : (backTo pos (starEach es X.env)).any (·.1) = false := by rfl) : VE X (.Call (.Name x p) (e :: es) [] pos) (eCN g m) :=
  PE.imp (pe_callB hc hg hm hv ha hn hdb he hpl) fun σ H Q ⟨S, fr, t, S', h, e, q⟩ => by
    obtain ⟨⟨ts, S1⟩, e1, e⟩ := Option.bind_eq_some_iff.mp e
    obtain ⟨d, e2, hs, rfl, rfl⟩ := sD_some e
    refine ⟨S, fr, ts, _, h, e1, fun vs H1 _ l1 h1 => ?_⟩
    have z := At.repsAll l1 (show At X.K H1 (vs.zip ts ++ (fr ++ prs σ S')) by have := h1.front; rw [List.append_assoc] at this; exact this)
    exact ⟨_, d, z, e2, fun w r => q w H1 ((h1.drops _).new (scRep hs r))⟩
end
end VS
/-! VS22: a list unpacked into names. -/
namespace VS
open PySem PySem.Spec PyProof.Rows L2
section
variable {X : Cx} {as : List Nat} {es : List Expr} {pos : Pos}
def gLstS (n : Nat) (r : List T → Sto → Option Sto) : T → Sto → Option Sto := fun t S => (kidsL t).bind fun ts => if ts.length = n then r ts S else none
theorem vg_lst {k : Nat} {n : Nat} {r : List T → Sto → Option Sto} (hc : X.calm = true) (h : VGs X as es r) (hn : (assignEach es X.env).length = n := by rfl) (hst : (assignEach es X.env).findIdx? (·.1) = none := by rfl) : VG X as (.Tuple es k pos) (gLstS n r) :=
  PG.imp (pg_unl hc h hn hst) fun v σ H Q ⟨S, fr, t, S', h, e, q⟩ => by
    obtain ⟨ts, e1, e⟩ := Option.bind_eq_some_iff.mp e
    split at e
    · rename_i hl
      obtain ⟨a, vs, rfl, k1, l1, h1⟩ := h.at1.unl e1
      refine ⟨a, vs, rfl, k1, l1.trans hl, S, fr, ts, S', l1, AtS.of h.1 ?_, e, q⟩
      rw [List.append_assoc]
      exact h1
    · cases e
end
end VS
/-! VS23: defs that raise an exception of an own class with one field, and those who catch it. -/
namespace VS
open PySem PySem.Spec PyProof.Rows L2
/-! ### promises of a def that lets an exception out -/
structure FnX (P : Program) (w : World) (K : PySem.W.Frag) (mg : Str → Option Value) (base : Heap) (n : Nat) (g : Addr) (fd : FuncData) (ps : List Str) (sp : Sp) : Prop where
  size : ∀ ws G R X0, sp ws G R X0 → ws.length = ps.length
  go : ∀ (B : Around) (stk : List Env) (z : Shared) (G : Hp) (ar : Args) (us : List Value) (ws : List V) (R : VK) (X0 : XK), RoomG n B → Env0 P w K mg base B stk z G → BindsTo z fd ar (ps.zip us) → Vals ws us → sp ws G R X0 →
    codeAny (model P w) B (.call (.ref g) ar) (CR (L2.CX P w) stk P w G z R X0) z
section
variable {P : Program} {w : World} {K : PySem.W.Frag} {mg : Str → Option Value} {base : Heap}
theorem FnX.of {x qx : Str} {st : Stmt} {f : Addr} {fd : FuncData} {N ps : List Str} {n : Nat} {sp : Sp} (F : FunD K x qx (defArgs st) (defBody st) (defScope st) [] [] f fd) (S : FnScope N ps (defScope st)) (size : ∀ ws G R X0, sp ws G R X0 → ws.length = ps.length)
    (body : ∀ (cdv : Value) (B : Around) (stk : List Env) (z : Shared) (G : Hp) (ws : List V) (R : VK) (X0 : XK), RoomG n (B.deeper (envOfC qx (defScope st) z.heap.objs.size f cdv)) → sp ws G R X0 →
      ∃ t, PSs (cxOf (L2.CX P w) P w K mg base N qx (defScope st) f cdv B stk z G X0) (defBody st) t ∧ t { nx := fun _ G' => R .non G', rt := R } (L2.start N ws) G) : FnX P w K mg base (n + 1) f fd ps sp := by
  obtain ⟨oc, od, dV, kV, dc, pm, an, cdv, ct, osl, rfl, inK, isCode, _, _⟩ := F.ex
  refine ⟨size, fun B stk z G ar us ws R X0 room ev bnd rel want => ?_⟩
  have many := size _ _ _ _ want
  have keep := fun b o e => (ev.bs b o e).1
  have inZ : K.In z.heap := ev.mod.kin.keeps keep
  have noLim : z.heap.NoLimit := ev.mod.nolimit.keeps keep
  have kinds : ∀ y ∈ ps.zip us, (defScope st).names.lookup y.1 = some .local ∨ ((defScope st).names.lookup y.1 = some .cell ∧ ((cellsFrom (z.heap.objs.size + 1) (defScope st).names []).lookup y.1).isSome = true) := by
    rintro ⟨nm, v⟩ hy
    exact (S.par nm (List.of_mem_zip hy).1).imp id fun q => ⟨q, PySem.W.cellsFrom_some _ _ _ (.inl q)⟩
  refine codeAny_call_function room.room.depth (inZ _ _ inK) rfl S.co S.gen rfl (PySem.W.codeRec_of inZ isCode) (bnd _ _ _ _ (wpAny_newFunctionEnv_cells S.kind kinds ?_))
  rintro env rfl s1 made
  refine ⟨noLim.keeps made.toInCall.keep, codeAny_func ?_⟩
  obtain ⟨t, run, good⟩ := body cdv B stk z G ws R X0 (room.deep _) want
  have I := inv_start (x := made) (CX := L2.CX P w) (E := X0) S room.room.hd ev many rel
  refine wpAny_mono (run.run [] s1 (L2.start N ws) G _ I good) ?_ fun _ _ h => h
  have back : ∀ (σ' : St) (G' : Hp) (v : V) (u : Value) (z' : Shared), Inv (cxOf (L2.CX P w) P w K mg base N qx (defScope st) f cdv B stk z G X0) [] σ' G' z' → RelV v u → R v G' → CE stk P w G z R u z' :=
    fun σ' G' v u z' J rv q => ⟨v, G', J.os, J.bare, J.base, J.hok, rv, q⟩
  rintro (_ | _ | _ | u) z' hz
  · obtain ⟨σ', G', J, q⟩ := hz
    exact back σ' G' .non .none z' J rfl q
  · obtain ⟨_, _, _, q⟩ := hz
    exact q.elim
  · obtain ⟨_, _, _, q⟩ := hz
    exact q.elim
  · obtain ⟨v, σ', G', J, rv, q⟩ := hz
    exact back σ' G' v u z' J rv q
end
section
variable {X : Cx} {n : Nat} {g : Addr} {fd : FuncData} {ps : List Str} {sp : Sp} {y : Str} {p pos : Pos} {e : Expr} {es : List Expr} {t : TA} {E : St → XK}
theorem FnX.runs {pins : List (Addr × Obj)} {σ : St} {H : Hp} {s : Shared} {Q : VK} {us : List Value} {vs : List V} (F : FnX X.prog X.w X.K X.mg X.base n g fd ps sp) (room : RoomG n X.A) (bnd : Binds X.K fd ps []) (hx : PassesAt (L2.CX X.prog X.w) X σ (E σ)) (I : Inv X pins σ H s) (rel : Vals vs us) (want : sp vs H Q (E σ)) :
    wpAny (model X.prog X.w) X.A (call (.ref g) us) (EP X pins σ Q) X.xe s := by
  have many : us.length = ps.length := rel.length.symm.trans (F.size _ _ _ _ want)
  have b2 := bnd s us I.kIn (by rw [List.append_nil]; exact many)
  rw [List.append_nil] at b2
  refine wpAny_call (codeAny_mono (F.go X.A X.stack s H ⟨us, []⟩ us vs Q (E σ) room I.env0 b2 rel want) fun r s' hq => ?_)
  cases r with
  | error e => exact hx pins H s e s' I hq
  | ok fl =>
    cases fl with
    | ret u => exact I.after hq
    | next => exact False.elim hq
    | brk => exact False.elim hq
    | cont => exact False.elim hq
theorem pe_callX (F : FnX X.prog X.w X.K X.mg X.base n g fd ps sp) (room : RoomG n X.A) (gl : Gl X y) (at_ : X.mg y = some (.ref g)) (kp : PySem.W.keepIn X.K (.ref g) = true) (bnd : Binds X.K fd ps []) (hx : ∀ σ, PassesAt (L2.CX X.prog X.w) X σ (E σ)) (args : PA X (e :: es) t)
    (hdb : (y == ("__debug__" : Str)) = false := by decide) (he : starEach (e :: es) X.env = (false, eval e X.env) :: starEach es X.env := by rfl) (hpl : (backTo pos (starEach es X.env)).any (·.1) = false := by rfl) :
    PE X (.Call (.Name y p) (e :: es) [] pos) (tCallS sp E t) := by
  constructor
  intro pins s σ H Q I want
  refine wpAny_Call_Name_kw (ld_glob I gl at_ ?_ hdb)
  refine PySem.W.callWith_K (h₀ := X.base) I.ok.mod.kin kp (thn (args.run pos pins s σ H _ I want) ?_) he hpl
  rintro us s1 ⟨vs, H1, I1, rel, q⟩
  exact ⟨I1.kIn, F.runs room bnd (hx σ) I1 rel q⟩
end
/-! ### statements that raise -/
inductive Fx where
  | nx (S : Sto) | ra (i : Int) (S : Sto)
abbrev MX := Sto → Option Fx
def FxOk (K : PySem.W.Frag) (C : Addr) (fn : Str) (as : List Nat) (D : Ends) (W : WX) (σ : St) (fr : Ps) : Fx → Prop
  | .nx S => ∀ σ' H', Keep as σ σ' → AtS K H' σ' S fr → D.nx σ' H'
  | .ra i S => ∀ σ' H' d, Keep as σ σ' → H' d = none → AtS K H' σ' S fr → W (.ref C) (some d) σ' (upd H' d (.xd [(fn, .int i)]))
def tX (K : PySem.W.Frag) (C : Addr) (fn : Str) (as : List Nat) (W : WX) (m : MX) : TS := fun D σ H => ∃ S fr f, AtS K H σ S fr ∧ m S = some f ∧ FxOk K C fn as D W σ fr f
theorem FxOk.mono {K : PySem.W.Frag} {C : Addr} {fn : Str} {as bs : List Nat} {D : Ends} {W : WX} {σ : St} {fr : Ps} {f : Fx} (h : FxOk K C fn bs D W σ fr f) (k : ∀ i ∈ as, i ∈ bs) : FxOk K C fn as D W σ fr f := by
  cases f with
  | nx S => exact fun σ' H' q => h σ' H' (q.mono k)
  | ra i S => exact fun σ' H' d q => h σ' H' d (q.mono k)
theorem FxOk.after {K : PySem.W.Frag} {C : Addr} {fn : Str} {as bs : List Nat} {D : Ends} {W : WX} {σ σ1 : St} {fr : Ps} {f : Fx} (h : FxOk K C fn (as ++ bs) D W σ fr f) (k : Keep as σ σ1) : FxOk K C fn bs D W σ1 fr f := by
  cases f with
  | nx S => exact fun σ' H' q => h σ' H' (k.trans q)
  | ra i S => exact fun σ' H' d q => h σ' H' d (k.trans q)
section
variable {X : Cx} {C : Addr} {fn : Str} {W : WX} {e a b c : Expr} {es : List Expr} {pos : Pos} {st : Stmt} {sts : List Stmt} {as bs : List Nat} {m m' : MX}
theorem PS.nox {t : TS} (h : PS X.nox st t) : PS X st t := ⟨fun pins s σ H D I hw =>
  wpAny_mono (h.run pins s σ H D (I.wish _) hw) (fun _ _ q => q.unwish) fun _ _ z => False.elim z⟩
theorem PA.nox {t : TA} (h : PA X.nox es t) : PA X es t := ⟨fun pos pins s σ H Q I hw =>
  wpAny_mono (h.run pos pins s σ H Q (I.wish _) hw) (fun _ _ ⟨vs, H', I', r, q⟩ => ⟨vs, H', I'.unwish, r, q⟩) fun _ _ z => False.elim z⟩
/-- a statement that raises nothing -/
def xOf (m : MS) : MX := fun S => (m S).bind fun f => match f with
  | .nx S1 => some (.nx S1)
  | _ => none
theorem vx_of {m : MS} (h : VS X.nox as st m) : PS X st (tX X.K C fn as W (xOf m)) := PS.imp (VS.PS.nox h) fun D σ H ⟨S, fr, f, h, e, q⟩ => by
  obtain ⟨f1, e1, e2⟩ := Option.bind_eq_some_iff.mp e
  cases f1 with
  | nx S1 =>
    cases e2
    exact ⟨S, fr, .nx S1, h, e1, q⟩
  | _ => cases e2
def xNext : MX := fun S => some (.nx S)
theorem vxs_nil : PSs X [] (tX X.K C fn [] W xNext) := PSs.imp pss_nil fun D σ H ⟨S, fr, f, h, e, q⟩ => by
  cases e
  exact q σ H .refl h
def xSeq (m m' : MX) : MX := fun S => (m S).bind fun f => match f with
  | .nx S1 => m' S1
  | f => some f
theorem vxs_cons (h1 : PS X st (tX X.K C fn as W m)) (h2 : PSs X sts (tX X.K C fn bs W m')) : PSs X (st :: sts) (tX X.K C fn (as ++ bs) W (xSeq m m')) := PSs.imp (pss_cons h1 h2) fun D σ H ⟨S, fr, f, h, e, q⟩ => by
  obtain ⟨f1, e1, e2⟩ := Option.bind_eq_some_iff.mp e
  refine ⟨S, fr, f1, h, e1, ?_⟩
  cases f1 with
  | nx S1 => exact fun σ' H' k h' => ⟨S1, fr, f, h', e2, q.after k⟩
  | ra i S1 =>
    cases e2
    exact FxOk.mono (f := .ra i S1) q fun i hi => List.mem_append_left _ hi
def xIf (t : MT) (m m' : MX) : MX := fun S => (t S).bind fun x => if x.1 = true then m x.2 else m' x.2
theorem vx_if {t : MT} {s1 s2 : List Stmt} (hc : VT X.nox c t) (h1 : PSs X s1 (tX X.K C fn as W m)) (h2 : PSs X s2 (tX X.K C fn bs W m')) : PS X (.If c s1 s2 pos) (tX X.K C fn (as ++ bs) W (xIf t m m')) := PS.imp (ps_if (PT.nox hc) h1 h2) fun D σ H ⟨S, fr, f, h, e, q⟩ => by
  obtain ⟨⟨x, S1⟩, e1, e2⟩ := Option.bind_eq_some_iff.mp e
  refine ⟨S, fr, x, S1, h, e1, fun H1 h1 => ?_⟩
  cases x with
  | true => exact iteT ⟨S1, fr, f, h1, by simpa using e2, q.mono fun i hi => List.mem_append_left _ hi⟩
  | false => exact iteF ⟨S1, fr, f, h1, by simpa using e2, q.mono fun i hi => List.mem_append_right _ hi⟩
/-- over what is walked -/
def loopX (g : T → Sto → Option Sto) (b : MX) : List D → Sto → Option Fx
  | [], S => some (.nx S)
  | d :: ds, S => (g (.sh d) S).bind fun S1 => (b S1).bind fun f => match f with
    | .nx S2 => loopX g b ds S2
    | f => some f
def xFor (mi : MI) (g : T → Sto → Option Sto) (b : MX) : MX := fun S => (mi S).bind fun p => loopX g b p.1 p.2
theorem FxOk.hold {K : PySem.W.Frag} {D : Ends} {σ : St} {fr : Ps} (hold : Ps) {f : Fx} (h : FxOk K C fn as D W σ fr f) : FxOk K C fn as D W σ (hold ++ fr) f := by
  cases f with
  | nx S => exact fun σ' H' k h1 => h σ' H' k (AtS.of h1.1 (by have z := h1.front; rw [List.append_assoc] at z; exact At.drop z))
  | ra i S => exact fun σ' H' d k hd h1 => h σ' H' d k hd (AtS.of h1.1 (by have z := h1.front; rw [List.append_assoc] at z; exact At.drop z))
theorem vx_for {tg it : Expr} {mi : MI} {g : T → Sto → Option Sto} (hp : PassesOwn (model X.prog X.w) X.A X.env X.xe) (hc : X.calm = true) (hi : VI X tg it mi) (hg : VG X as tg g) (hb : PSs X sts (tX X.K C fn bs W m)) (hs : ∀ x, foldedSetIterable it X.env x = pure x := by intro _; rfl) :
    PS X (.For tg it sts [] pos) (tX X.K C fn (as ++ bs) W (xFor mi g m)) := PS.imp (ps_for hp hc hi hg hb hs) fun D σ H ⟨S, fr, f, h, e, q⟩ => by
  obtain ⟨⟨ds, S1⟩, e1, e2⟩ := Option.bind_eq_some_iff.mp e
  refine ⟨S, fr, ds, S1, h, e1, fun J H1 hold F h1 => ?_⟩
  refine ⟨fun i k σ1 H1 => ∃ S1, k = ds.length - i ∧ i ≤ ds.length ∧ AtS X.K H1 σ1 S1 (hold ++ fr) ∧ Keep (as ++ bs) σ σ1 ∧ loopX g m (ds.drop i) S1 = some f, ⟨ds.length, S1, by simp, Nat.zero_le _, h1, .refl, e2⟩, ?_⟩
  rintro i k σ1 H1 ⟨S2, rfl, hi, h2, k2, e3⟩
  have hat : At X.K H1 (hold ++ (fr ++ prs σ1 S2)) := by
    have z := h2.front
    rw [List.append_assoc] at z
    exact z
  by_cases hlt : i < ds.length
  · have hd : ds[i]? = some ds[i] := List.getElem?_eq_getElem hlt
    obtain ⟨go, yl⟩ := F.go H1 _ hat i _ hd
    rw [List.drop_eq_getElem_cons hlt] at e3
    obtain ⟨S3, e4, e5⟩ := Option.bind_eq_some_iff.mp e3
    obtain ⟨f1, e6, e7⟩ := Option.bind_eq_some_iff.mp e5
    refine .inr ⟨go, fun σ3 H3 => ∃ S3, AtS X.K H3 σ3 S3 (hold ++ fr) ∧ Keep (as ++ bs) σ σ3 ∧ loopX g m (ds.drop (i + 1)) S3 = some f, fun σ3 H3 ⟨S4, a1, a2, a3⟩ => ⟨ds.length - (i + 1), by omega, S4, rfl, hlt, a1, a2, a3⟩, fun x H' y => ?_⟩
    have h3 := yl x H' y
    have h4 : AtS X.K H' σ1 S2 ((x, .sh ds[i]) :: (hold ++ fr)) := AtS.of h2.1 (by
      have z : (x, T.sh ds[i]) :: (hold ++ fr) ++ prs σ1 S2 = (x, T.sh ds[i]) :: (hold ++ (fr ++ prs σ1 S2)) := by simp
      rw [z]
      exact h3)
    refine ⟨S2, hold ++ fr, _, S3, h4, e4, fun σ2 k3 h5 => ⟨S3, hold ++ fr, f1, h5, e6, ?_⟩⟩
    have kk : ∀ {σ4 : St}, Keep bs σ2 σ4 → Keep (as ++ bs) σ σ4 := fun k4 => k2.add (k3.trans k4)
    cases f1 with
    | nx S4 => exact fun σ4 H4 k4 h6 => ⟨S4, h6, kk k4, e7⟩
    | ra r S4 =>
      cases e7
      exact fun σ4 H4 d k4 hd h6 => FxOk.hold (f := .ra r S4) hold q σ4 H4 d (kk k4) hd h6
  · have e8 : i = ds.length := by omega
    subst e8
    rw [List.drop_length] at e3
    cases e3
    exact .inl ⟨F.stop H1 _ hat _ (Nat.le_refl _), FxOk.hold (f := .nx S2) hold q σ1 H1 k2 h2⟩
end
/-! ### an own class of exceptions with one field -/
/-- the promise of its __init__ -/
def spInit (K : PySem.W.Frag) (fn : Str) : Sp := fun vs H Q _ => ∃ (a C : Addr) (i : Int), vs = [.ref a, .int i] ∧ OexC K C ∧ PySem.W.findIn K (.ref C) fn = some none ∧ H a = some (exo a C none) ∧
  ∀ dx, H dx = none → dx ≠ a → Q .non (upd (upd H dx (exd dx [(fn, .int i)])) a (exo a C (some dx)))
structure RaiseC (P : Program) (w : World) (K : PySem.W.Frag) (mg : Str → Option Value) (base : Heap) (x : Str) (C : Addr) (fn : Str) (k : Nat) : Prop where
  oex : OexC K C
  gC : mg x = some (.ref C)
  no : PySem.W.findIn K (.ref C) fn = some none
  ini : ∃ fI fd ps, PySem.W.findIn K (.ref C) "__init__" = some (some (.ref fI)) ∧ PySem.W.typeIn K (.ref fI) = some (.type "function") ∧ Binds K fd ps [] ∧ FnOk P w K mg base CX0 k fI fd ps (spInit K fn)
section
variable {X : Cx} {C : Addr} {fn : Str} {W : WX} {e : Expr} {pos p pos2 : Pos} {x : Str} {k : Nat}
def xRaise (me : ME) : MX := fun S => (me S).bind fun p => match p.1 with
  | .sh (.int i) => some (.ra i p.2)
  | _ => none
theorem upd_let {H : Hp} {a d : Addr} {u1 u2 u3 u4 : HO} (ha : H a = none) (hne : d ≠ a) : upd (del (upd (upd (upd H a u1) d u2) a u3) a) d u4 = upd H d u4 := by
  funext b
  by_cases h1 : b = d
  · subst h1
    rw [upd_same, upd_same]
  · rw [upd_ne h1, upd_ne h1]
    by_cases h2 : b = a
    · subst h2
      rw [del_same, ha]
    · rw [del_ne h2, upd_ne h2, upd_ne h1, upd_ne h2]
theorem vx_raise {me : ME} (hc : X.calm = true) (tk : Takes X W) (T : RaiseC X.prog X.w X.K X.mg X.base x C fn k) (hr : RoomG (k + 1) X.A) (he : VE X.nox e me) (hg : Gl X x := by rfl) (hdb : (x == ("__debug__" : Str)) = false := by decide)
    (hst : starEach (e :: []) X.env = (false, eval e X.env) :: starEach [] X.env := by rfl) (hpl : (backTo pos (starEach [] X.env)).any (·.1) = false := by rfl) :
    PS X (.Raise (some (.Call (.Name x p) [e] [] pos)) none pos2) (tX X.K C fn [] W (xRaise me)) := by
  obtain ⟨fI, fd, ps, iC, tI, bd, F⟩ := T.ini
  refine PS.imp (ps_raise hc tk (pmk_oex T.oex iC tI F hr.room bd .nil pass0 hg T.gC (pa_cons (PE.nox he) pa_nil (hs := hst)) hdb hst hpl)) fun D σ H ⟨S, fr, f, h, e1, q⟩ => ?_
  obtain ⟨⟨t, S1⟩, e2, e3⟩ := Option.bind_eq_some_iff.mp e1
  simp only at e3
  split at e3
  · rename_i i
    cases e3
    refine ⟨S, fr, _, S1, h, e2, fun v H1 h1 => ?_⟩
    obtain rfl : v = .int i := h1.at1.rep
    refine ⟨by simp, fun a ha => ⟨a, C, i, rfl, T.oex, T.no, upd_same, fun dx hdx hne => ⟨rfl, dx, [(fn, .int i)], upd_same, ?_, ?_, ?_⟩⟩⟩
    · rw [upd_ne hne, upd_same]
    · rw [upd_ne hne] at hdx
      exact hdx
    · rw [upd_let ha hne]
      rw [upd_ne hne] at hdx
      exact q σ H1 dx .refl hdx h1.drop1
  · cases e3
end
/-! ### a def that raises -/
def spX (K : PySem.W.Frag) (C : Addr) (fn : Str) (n : Nat) (m : List T → Option Int) : Sp := fun vs H _ E => ∃ ts fr i, vs.length = n ∧ ts.length = n ∧ At K H (vs.zip ts ++ fr) ∧ m ts = some i ∧ ∀ H' d, H' d = none → At K H' fr → E (.ref C) (some d) (upd H' d (.xd [(fn, .int i)]))
def mkX (np ns : Nat) (b : MX) : List T → Option Int := fun ts => if ts.length = np then (b ((entry [] 0 ts).map some ++ List.replicate (ns - np) none)).bind fun f => match f with
  | .ra i _ => some i
  | _ => none else none
structure GoodX (P : Program) (w : World) (K : PySem.W.Frag) (mg : Str → Option Value) (base : Heap) (C : Addr) (fn x : Str) (k : Nat) (ps : List Str) (m : List T → Option Int) : Prop where
  ex : ∃ f fd, mg x = some (.ref f) ∧ PySem.W.keepIn K (.ref f) = true ∧ Binds K fd ps [] ∧ FnX P w K mg base k f fd ps (spX K C fn ps.length m)
section
variable {P : Program} {w : World} {K : PySem.W.Frag} {mg : Str → Option Value} {base : Heap} {C : Addr} {fn : Str}
theorem GoodX.mkD {x qx : Str} {st : Stmt} {f : Addr} {fd : FuncData} {N ps : List Str} {k : Nat} {as : List Nat} {b : MX} (F : FunD K x qx (defArgs st) (defBody st) (defScope st) [] [] f fd) (hm : mg x = some (.ref f)) (hbd : Binds K fd ps []) (S : FnScope N ps (defScope st))
    (hb : ∀ (cdv : Value) (A : Around) (outer : List Env) (s : Shared) (H : Hp) (E : XK), RoomG k (A.deeper (envOfC qx (defScope st) s.heap.objs.size f cdv)) → Takes (cxOf (L2.CX P w) P w K mg base N qx (defScope st) f cdv A outer s H E) (fun cls d _ H => E cls d H) →
      PSs (cxOf (L2.CX P w) P w K mg base N qx (defScope st) f cdv A outer s H E) (defBody st) (tX K C fn as (fun cls d _ H => E cls d H) b)) :
    GoodX P w K mg base C fn x (k + 1) ps (mkX ps.length N.length b) := by
  refine ⟨f, fd, hm, F.kp, hbd, FnX.of F S (fun vs H Q E ⟨_, _, _, h, _⟩ => h) fun cdv A outer s H vs Q E hr hsp => ⟨_, hb cdv A outer s H E hr (takes_of rfl rfl rfl rfl), ?_⟩⟩
  obtain ⟨ts, fr, i, l1, l2, h, e, q⟩ := hsp
  have hpl : ps.length ≤ N.length := by
    have := congrArg List.length S.pre
    rw [List.length_take] at this
    omega
  unfold mkX at e
  rw [if_pos l2] at e
  obtain ⟨fl, e1, e2⟩ := Option.bind_eq_some_iff.mp e
  have h1 := At.entryA [] 0 h
  have lz : vs.length = (entry [] 0 ts).length := by rw [entry_length, l1, l2]
  obtain ⟨p1, p2⟩ := prs_start (n := N.length - ps.length) lz
  have hst : L2.start N vs = vs.map some ++ List.replicate (N.length - ps.length) none := by
    unfold L2.start
    rw [l1]
  rw [hst]
  refine ⟨(entry [] 0 ts).map some ++ List.replicate (N.length - ps.length) none, dbl [] 0 vs ts ++ fr, fl, ⟨p2, by rw [p1]; exact h1⟩, e1, ?_⟩
  cases fl with
  | nx S' => cases e2
  | ra j S' =>
    cases e2
    exact fun σ' H' d kp hd h2 => q H' d hd (At.drop (ps := dbl [] 0 vs ts) (At.drop (ps := prs σ' S') h2.2))
end
end VS
/-! VS24: an exception of an own class that is caught: what the written part says, isinstance, its field. -/
namespace VS
open PySem PySem.Spec PyProof.Rows L2
def oexB (K : PySem.W.Frag) (C : Addr) : Bool := (match K.lookup C with
  | some ⟨.type "type", _, .cls cd, sl⟩ => (match cd.mro, sl.toList with
    | .ref C' :: bm, [_, _, _, _, some (.builtin n), _] => C' == C && (n == "ValueError.__new__" && (!cd.hasDel && (cd.hasDict && PySem.HandSPX.refsVE bm)))
    | _, _ => false)
  | _ => false)
theorem oexB_ok {K : PySem.W.Frag} {C : Addr} (q : oexB K C = true) : ∃ nm q N bs bm sn sub ab col dd k0 k1 k2 k3 k5, K.lookup C = some (excClassObj nm q C N bs bm true sn sub ab col dd k0 k1 k2 k3 k5 "ValueError.__new__") ∧ PySem.HandSPX.refsVE bm = true := by
  unfold oexB at q
  split at q
  · rename_i dd cd sl ho
    split at q
    · rename_i C' bm k0 k1 k2 k3 n k5 hm hs
      simp only [Bool.and_eq_true, beq_iff_eq, Bool.not_eq_true'] at q
      obtain ⟨rfl, rfl, hdel, hdct, ht⟩ := q
      obtain ⟨nm, bs, mro, ns, qn, hd, sn, sub, ab, col, del⟩ := cd
      dsimp only at hm hdel hdct
      subst hm hdel hdct
      have hsl : sl = #[k0, k1, k2, k3, some (.builtin "ValueError.__new__"), k5] := by
        obtain ⟨l⟩ := sl
        simp only at hs
        rw [hs]
      subst hsl
      exact ⟨nm, qn, ns, bs, bm, sn, sub, ab, col, dd, k0, k1, k2, k3, k5, ho, ht⟩
    · cases q
  · cases q
/-- what the written part says of the exception's class C (its __init__ at fI), of the class that is caught and of those that isinstance is asked for -/
structure XF (K : PySem.W.Frag) (C fI S : Addr) (fn : Str) : Prop where
  oex : OexC K C
  iC : PySem.W.findIn K (.ref C) "__init__" = some (some (.ref fI))
  tI : PySem.W.typeIn K (.ref fI) = some (.type "function")
  no : PySem.W.findIn K (.ref C) fn = some none
  xf : XfC K C
  ex : PySem.W.exmOne K (.ref C) (.ref S) = some true
  hcl : (PySem.W.clsIn K C).isSome = true
  ha : PySem.W.findIn K (.ref C) "__class__" = some (some (.builtin "object.__class__"))
  hn : PySem.W.specialIn K (.builtin "object.__class__") "__get__" = some (some (.builtin "getset_descriptor.__get__"))
  ht : PySem.W.takesIn K (.builtin "object.__class__") = some true
  hm : PySem.W.mroIn K C (.type "object") = some true
def xfB' (K : PySem.W.Frag) (C fI S : Addr) (fn : Str) : Bool := oexB K C && (decide (PySem.W.findIn K (.ref C) "__setattr__" = some (some (.builtin "object.__setattr__"))) && (decide (PySem.W.subIn K (.ref C) (.type "BaseException") = some true) && (decide (PySem.W.typeIn K (.ref C) = some (.type "type")) && (PySem.W.keepIn K (.ref C) &&
  (decide (PySem.W.findIn K (.ref C) "__init__" = some (some (.ref fI))) && (decide (PySem.W.typeIn K (.ref fI) = some (.type "function")) && (decide (PySem.W.findIn K (.ref C) fn = some none) && (xfB K C && (decide (PySem.W.exmOne K (.ref C) (.ref S) = some true) && ((PySem.W.clsIn K C).isSome &&
  (decide (PySem.W.findIn K (.ref C) "__class__" = some (some (.builtin "object.__class__"))) && (decide (PySem.W.specialIn K (.builtin "object.__class__") "__get__" = some (some (.builtin "getset_descriptor.__get__"))) && (decide (PySem.W.takesIn K (.builtin "object.__class__") = some true) && decide (PySem.W.mroIn K C (.type "object") = some true))))))))))))))
theorem XF.of {K : PySem.W.Frag} {C fI S : Addr} {fn : Str} (h : xfB' K C fI S fn = true) : XF K C fI S fn := by
  unfold xfB' at h
  simp only [Bool.and_eq_true, decide_eq_true_eq] at h
  obtain ⟨h1, h2, h3, h4, h5, h6, h7, h8, h9, h10, h11, h12, h13, h14, h15⟩ := h
  exact ⟨⟨oexB_ok h1, h2, h3, h4, h5⟩, h6, h7, h8, xfB_ok h9, h10, h11, h12, h13, h14, h15⟩
/-- the class's __init__: self.f = the argument -/
theorem init_reads {K : PySem.W.Frag} {fn p0 p1 : Str} {vs : List V} {H : Hp} {Q : VK} {E : XK} (h : spInit K fn vs H Q E) : (tOst K fn (tVar 0) (tVar 1)) { nx := fun _ H' => Q .non H', rt := Q } (L2.start [p0, p1] vs) H := by
  obtain ⟨a, C, i, rfl, T, no, ea, q⟩ := h
  exact ⟨_, rfl, _, rfl, a, C, rfl, T, no, .inl ⟨ea, q⟩⟩
/-- isinstance of the exception that the suite holds -/
def rIsX (K : PySem.W.Frag) (D a : Addr) (d : Option Addr) : List V → Hp → VK → Prop := fun xs H Q => (∃ dd fs, d = some dd ∧ H dd = some (.xd fs)) ∧ ((∃ c u b, xs = [.ref a, c] ∧ ClsV c u ∧ PySem.W.kitOne K (.ref D) u = some b ∧ Q (.bl b) H) ∨
  ∃ tp cs us b, xs = [.ref a, .ref tp] ∧ H tp = some (.tup cs) ∧ Paired ClsV cs us ∧ PySem.W.kitAny K (.ref D) us = some b ∧ Q (.bl b) H)
theorem call_isX {X : Cx} {a D fI S : Addr} {fn : Str} {oe : Obj} {d : Option Addr} {pn : List (Addr × Obj)} (T : XF X.K D fI S fn) (hz : Zc (.ref D) d oe) (hf : ∃ vs, oe.data = .fields vs) : CallR (X.suite a ((a, oe) :: pn)) (.builtin "isinstance") (rIsX X.K D a d) := by
  intro pins s σ H xs us Q I r h
  obtain ⟨⟨dd, fs, ed, ex⟩, h⟩ := h
  subst ed
  obtain ⟨hget, _⟩ := I.pin (a, oe) (List.mem_append.mpr (.inl List.mem_cons_self))
  obtain ⟨vs, hv⟩ := hf
  have hx : ObjOk X.prog X.w H s.heap dd (.xd fs) := I.hok dd _ ex
  obtain ⟨mA, hns, _⟩ := hx
  obtain ⟨od, ho, _⟩ := lookIn_ns hns
  have J : PySem.W.InstAt s.heap a oe D (some od) := ⟨hget, hz.1, by unfold PySem.W.notCls; rw [hv] <;> rfl, by rw [hz.2]; exact ho⟩
  have Z := PySem.W.kitx_exc (x := a) (ox := oe) (od := some od) T.hcl T.xf.ga T.xf.gg T.xf.exC T.ha T.hn T.ht T.hm
  rcases h with ⟨c, u, b, rfl, hc, e, q⟩ | ⟨tp, cs, ws, b, rfl, hT, hc, e, q⟩
  · obtain ⟨u1, u2, rfl, r1, r2⟩ := vals2 r
    have e2 := hc.eq r2
    subst e2
    cases (show u1 = Value.ref a from r1)
    exact PySem.W.kia_one Z I.kIn J e (fun z => nomatch z) fun tk => ⟨.bl b, H, I.tok tk, rfl, q⟩
  · obtain ⟨u1, u2, rfl, r1, r2⟩ := vals2 r
    cases (show u1 = Value.ref a from r1)
    cases (show u2 = Value.ref tp from r2)
    obtain ⟨_, its, rv, o, h1, h2, n, h3⟩ := (show ObjOk X.prog X.w H s.heap tp (.tup cs) from I.hok tp _ hT)
    have e3 := ClsV.all hc rv
    subst e3
    obtain ⟨oc, od', dt, sl⟩ := o
    simp only at h2 h3
    subst h2 h3
    exact PySem.W.kia_tup Z I.kIn J h1 e (fun z => nomatch z) fun tk => ⟨.bl b, H, I.tok tk, rfl, q⟩
theorem At.fresh {K : PySem.W.Frag} {H : Hp} {ps : Ps} {p : Addr} {u : HO} (h : At K H ps) (hp : H p = none) : At K (upd H p u) ps := by
  obtain ⟨G, fp, s, o, n, e, x⟩ := h
  have np : ∀ a ∈ fp, a ≠ p := fun a ha z => by
    subst z
    exact o.trk a ha hp
  exact ⟨G, fp, s.trans fun b o q => by rw [upd_ne (ne_of_none q hp)]; exact q, o.mono (Same.refl _) fun a ha => upd_ne (np a ha), n, e, fun a ha => nomatch ha⟩
end VS
/-! the run of the head, looked at in parts -/
namespace HandSHeadRun
open PySem PySem.W PySem.Calls PyProof.Rows
def RunA (r : OpenRow) (q : Program) (M : Nat) (loose : List PySem.Str) (w : World) : Prop :=
  ∀ os : OsState, (endF (stepQ (denQ tabQ) r.prog w) M r.prog w os).map (fun s => (looksF r.prog (boot_heap w.params) s.abs, seenQ q loose (importedModules r.prog.main.body) (fun s => xlAt q [] s && recOk r.toRowW.records s) s.abs)) = some (true, openGood q loose)
def RunB (r : OpenRow) (fa : List He.Fa) (fn : List He.DefD) (ts : List He.Tab) (ex : PySem.W.Frag → Bool) (M : Nat) (w : World) : Prop :=
  ∀ os : OsState, (endF (stepQ (denQ tabQ) r.prog w) M r.prog w os).map (fun s => He.obsX 4 fa fn ts [] ex (getT s)) = some (He.valX fn ts w)
theorem obsX_app {fa1 fa2 : List He.Fa} {fn1 fn2 : List He.DefD} {ts : List He.Tab} {ex : PySem.W.Frag → Bool} {w : World} {g : Addr → Option Obj} (h1 : He.obsX 4 fa1 fn1 ts [] ex g = He.valX fn1 ts w) (h2 : He.obsX 4 fa2 fn2 ts [] ex g = He.valX fn2 ts w) : He.obsX 4 (fa1 ++ fa2) (fn1 ++ fn2) ts [] ex g = He.valX (fn1 ++ fn2) ts w := by
  unfold He.obsX He.valX He.obsT He.valT He.obsD He.valD at *
  obtain ⟨a1, c1⟩ := Prod.mk.inj h1
  obtain ⟨a1, b1⟩ := Prod.mk.inj a1
  obtain ⟨a1, d1⟩ := Prod.mk.inj a1
  obtain ⟨a2, c2⟩ := Prod.mk.inj h2
  obtain ⟨a2, b2⟩ := Prod.mk.inj a2
  obtain ⟨a2, d2⟩ := Prod.mk.inj a2
  obtain ⟨x1, y1⟩ := Bool.and_eq_true_iff.mp a1
  obtain ⟨x2, y2⟩ := Bool.and_eq_true_iff.mp a2
  rw [List.all_append, List.all_append, x1, x2, y1, y2, List.map_append, List.map_append, d1, d2, b1, c1]
  rfl
theorem run_split {r : OpenRow} {q : Program} {fa1 fa2 : List He.Fa} {fn1 fn2 : List He.DefD} {ts : List He.Tab} {ex : PySem.W.Frag → Bool} {M : Nat} {loose : List PySem.Str} {w : World} (h1 : RunA r q M loose w) (h2 : RunB r fa1 fn1 ts ex M w) (h3 : RunB r fa2 fn2 ts ex M w) :
    RunEq r q (He.hookX 4 (fa1 ++ fa2) (fn1 ++ fn2) ts [] ex) (fun s => He.obsX 4 (fa1 ++ fa2) (fn1 ++ fn2) ts [] ex (getT s)) M loose w := by
  intro os
  have a := h1 os
  have b := h2 os
  have c := h3 os
  cases e : endF (stepQ (denQ tabQ) r.prog w) M r.prog w os with
  | none =>
    rw [e] at a
    cases a
  | some s =>
    rw [e] at a b c
    have a' := Option.some.inj a
    have b' := Option.some.inj b
    have c' := Option.some.inj c
    obtain ⟨a1, a2⟩ := Prod.mk.inj a'
    show some (_, _, _) = some (_, _, _)
    rw [a1, a2]
    exact congrArg (fun z => some (true, openGood q loose, z)) (obsX_app b' c')
end HandSHeadRun
/-! The functions, reckoned with. -/
namespace VS
open PySem PySem.Spec PyProof.Rows L2
/-! ### steps -/
theorem sSeq_nx {m m' : MS} {S S1 : Sto} (h : m S = some (.nx S1)) : sSeq m m' S = m' S1 := by unfold sSeq; rw [h]; rfl
theorem sSeq_rt {m m' : MS} {S S1 : Sto} {t : T} (h : m S = some (.rt t S1)) : sSeq m m' S = some (.rt t S1) := by unfold sSeq; rw [h]; rfl
theorem sSeq_ct {m m' : MS} {S S1 : Sto} (h : m S = some (.ct S1)) : sSeq m m' S = some (.ct S1) := by unfold sSeq; rw [h]; rfl
theorem sSeq_bk {m m' : MS} {S S1 : Sto} (h : m S = some (.bk S1)) : sSeq m m' S = some (.bk S1) := by unfold sSeq; rw [h]; rfl
theorem sIf_t {q : MT} {m m' : MS} {S S1 : Sto} (h : q S = some (true, S1)) : sIf q m m' S = m S1 := by unfold sIf; rw [h]; rfl
theorem sIf_f {q : MT} {m m' : MS} {S S1 : Sto} (h : q S = some (false, S1)) : sIf q m m' S = m' S1 := by unfold sIf; rw [h]; rfl
theorem while_mono {t : MT} {b : MS} : ∀ {n k : Nat} {S : Sto} {f : Fl}, mWhile t b n S = some f → n ≤ k → mWhile t b k S = some f
  | 0, _, _, _, h, _ => by cases h
  | n + 1, 0, _, _, _, l => by omega
  | n + 1, k + 1, S, f, h, l => by
    obtain ⟨⟨x, S2⟩, e2, e3⟩ := Option.bind_eq_some_iff.mp (show (t S).bind _ = some f from h)
    show (t S).bind _ = some f
    rw [e2]
    show (if x = true then _ else _) = some f
    have e3' : (if x = true then _ else _) = some f := e3
    cases x with
    | false => exact e3'
    | true =>
      rw [if_pos rfl] at e3' ⊢
      obtain ⟨f1, e4, e5⟩ := Option.bind_eq_some_iff.mp e3'
      rw [e4]
      cases f1 with
      | nx S3 => exact while_mono (n := n) (k := k) e5 (by omega)
      | ct S3 => exact while_mono (n := n) (k := k) e5 (by omega)
      | bk S3 => exact e5
      | rt r S3 => exact e5
theorem while_t {t : MT} {b : MS} {n : Nat} {S S1 S2 : Sto} (h : t S = some (true, S1)) (h2 : b S1 = some (.nx S2)) : mWhile t b (n + 1) S = mWhile t b n S2 := by
  show (t S).bind _ = _
  rw [h]
  show (b S1).bind _ = _
  rw [h2]
  rfl
theorem while_f {t : MT} {b : MS} {n : Nat} {S S1 : Sto} (h : t S = some (false, S1)) : mWhile t b (n + 1) S = some (.nx S1) := by
  show (t S).bind _ = _
  rw [h]
  rfl
theorem loop_nil {g : T → Sto → Option Sto} {b : MS} {S : Sto} : loopF g b [] S = some (.nx S) := rfl
theorem loop_nx {g : T → Sto → Option Sto} {b : MS} {d : D} {ds : List D} {S S1 S2 : Sto} (h : g (.sh d) S = some S1) (h2 : b S1 = some (.nx S2)) : loopF g b (d :: ds) S = loopF g b ds S2 := by
  show (g (.sh d) S).bind _ = _
  rw [h]
  show (b S1).bind _ = _
  rw [h2]
  rfl
theorem loop_ct {g : T → Sto → Option Sto} {b : MS} {d : D} {ds : List D} {S S1 S2 : Sto} (h : g (.sh d) S = some S1) (h2 : b S1 = some (.ct S2)) : loopF g b (d :: ds) S = loopF g b ds S2 := by
  show (g (.sh d) S).bind _ = _
  rw [h]
  show (b S1).bind _ = _
  rw [h2]
  rfl
theorem loop_bk {g : T → Sto → Option Sto} {b : MS} {d : D} {ds : List D} {S S1 S2 : Sto} (h : g (.sh d) S = some S1) (h2 : b S1 = some (.bk S2)) : loopF g b (d :: ds) S = some (.nx S2) := by
  show (g (.sh d) S).bind _ = _
  rw [h]
  show (b S1).bind _ = _
  rw [h2]
  rfl
theorem loop_rt {g : T → Sto → Option Sto} {b : MS} {d : D} {ds : List D} {S S1 S2 : Sto} {t : T} (h : g (.sh d) S = some S1) (h2 : b S1 = some (.rt t S2)) : loopF g b (d :: ds) S = some (.rt t S2) := by
  show (g (.sh d) S).bind _ = _
  rw [h]
  show (b S1).bind _ = _
  rw [h2]
  rfl
theorem sizeLine_val : sizeLine = 16777216 := by decide
/-! ### == on data -/
@[simp] theorem deq_int (i j : Int) : deq (.int i) (.int j) = (i == j) := rfl
@[simp] theorem deq_str (i j : Str) : deq (.str i) (.str j) = (i == j) := rfl
@[simp] theorem deq_bl (i j : Bool) : deq (.bl i) (.bl j) = (i == j) := rfl
@[simp] theorem sc2_int (i j : Int) : sc2 (.int i) (.int j) = true := rfl
@[simp] theorem sc2_str (i j : Str) : sc2 (.str i) (.str j) = true := rfl
@[simp] theorem sc2_bl (i j : Bool) : sc2 (.bl i) (.bl j) = true := rfl
@[simp] theorem sc_int (i : Int) : sc (.int i) = true := rfl
@[simp] theorem sc_str (i : Str) : sc (.str i) = true := rfl
@[simp] theorem sc_bl (i : Bool) : sc (.bl i) = true := rfl
@[simp] theorem sc_non : sc .non = true := rfl
/-- texts by their signs -/
abbrev tx (l : List Nat) : Str := ⟨l.toArray⟩
theorem tx_eta (x : Str) : tx x.cps.toList = x := by cases x; rfl
@[simp] theorem tx_len (l : List Nat) : (tx l).length = l.length := by show l.toArray.size = _; simp
@[simp] theorem tx_app (l m : List Nat) : tx l ++ tx m = tx (l ++ m) := by
  show (⟨l.toArray ++ m.toArray⟩ : Str) = _
  simp
theorem tx_inj {l m : List Nat} (h : tx l = tx m) : l = m := by
  have := congrArg (fun x => x.cps.toList) h
  simpa using this
@[simp] theorem tx_beq (l m : List Nat) : (tx l == tx m) = (l == m) := by
  rw [Bool.eq_iff_iff]
  simp only [beq_iff_eq]
  exact ⟨tx_inj, fun h => by rw [h]⟩
theorem atI_pos {α : Type} {xs : List α} {j : Nat} : L2.atI xs (j : Int) = xs[j]? := by
  unfold L2.atI ixN
  rw [if_pos (by omega)]
  by_cases h : j < xs.length
  · rw [if_pos (by omega)]
    simp
  · rw [if_neg (by omega)]
    simp
    omega
end VS
namespace VS
open PySem PySem.Spec PyProof.Rows L2
theorem lenOk_tx {l : List Nat} (h : l.length ≤ 10000000) : lenOk (tx l) = true := lenOk_iff.mpr (by rw [tx_len, sizeLine_val]; omega)
theorem dLen_tx {l : List Nat} (h : l.length ≤ 10000000) : dLen [.str (tx l)] = some (.int (l.length : Nat)) := by
  show (if lenOk (tx l) = true then some (D.int ((tx l).length : Nat)) else none) = _
  rw [if_pos (lenOk_tx h), tx_len]
theorem dIx_tx {l : List Nat} {j c : Nat} (h : l.length ≤ 10000000) (e : l[j]? = some c) : dIx (.str (tx l)) (.int (j : Nat)) = some (.str (tx [c])) := by
  show (if lenOk (tx l) = true then (L2.atI (tx l).cps.toList ((j : Nat) : Int)).map (fun c => D.str ⟨#[c]⟩) else none) = _
  rw [if_pos (lenOk_tx h), atI_pos, show (tx l).cps.toList = l by simp, e]
  rfl
@[simp] theorem sign1_tx {c : Nat} : sign1 (tx [c]) = some c := rfl
@[simp] theorem dIn_tx {c : Nat} {l : List Nat} : dIn (.str (tx [c])) (.str (tx l)) = some (.bl (decide (c ∈ l))) := by
  rw [dIn]
  rfl
@[simp] theorem dNotIn_tx {c : Nat} {l : List Nat} : dNotIn (.str (tx [c])) (.str (tx l)) = some (.bl (!decide (c ∈ l))) := by
  unfold dNotIn dNot
  rw [dIn_tx]
  rfl
theorem cutS_tx {l : List Nat} {a b : Nat} : cutS (tx l) (some (a : Nat)) (some (b : Nat)) = tx ((l.drop a).take (b - a)) := by
  unfold cutS
  rw [HT.sIx_nat, HT.sIx_nat, tx_len, show (tx l).cps.toList = l by simp]
  congr 2
  by_cases h : a ≤ l.length
  · rw [Nat.min_eq_left h]
    by_cases h2 : b ≤ l.length
    · rw [Nat.min_eq_left h2]
    · rw [Nat.min_eq_right (by omega), List.take_of_length_le (by rw [List.length_drop]; omega), List.take_of_length_le (by rw [List.length_drop]; omega)]
  · have e : min a l.length = l.length := Nat.min_eq_right (by omega)
    rw [e, List.drop_eq_nil_of_le (Nat.le_refl _), List.drop_eq_nil_of_le (by omega)]
    simp
theorem dSl_tx {l : List Nat} {a b : Nat} (h : l.length ≤ 10000000) : dSlS (some (a : Nat)) (some (b : Nat)) (.str (tx l)) = some (.str (tx ((l.drop a).take (b - a)))) := by
  show (if lenOk (tx l) = true then _ else _) = _
  rw [if_pos (lenOk_tx h), cutS_tx]
theorem mFor_of {mi : MI} {g : T → Sto → Option Sto} {b : MS} {S S1 : Sto} {ds : List D} (h : mi S = some (ds, S1)) : mFor mi g b S = loopF g b ds S1 := by
  unfold mFor
  rw [h]
  rfl
theorem near_nat {n : Nat} (h : n ≤ 1000000) : near (n : Int) = true := decide_eq_true ⟨by omega, by omega⟩
theorem iRng1_go {m : Sto → Option (List D)} {S : Sto} {j : Int} (h : m S = some [.int j]) (hn : near j = true) : iRng1' m S = some (rngD 0 j.toNat, S) := by
  unfold iRng1'
  rw [h]
  exact if_pos hn
theorem iRng2_go {m : Sto → Option (List D)} {S : Sto} {i j : Int} (h : m S = some [.int i, .int j]) (hn : near i = true) (hn2 : near j = true) : iRng2' m S = some (rngD i (j - i).toNat, S) := by
  unfold iRng2'
  rw [h]
  exact if_pos (by rw [hn, hn2]; rfl)
theorem iRng1_of {m : Sto → Option (List D)} {S : Sto} {n : Nat} (h : m S = some [.int (n : Nat)]) (hn : n ≤ 1000000) : iRng1' m S = some (rngD 0 n, S) := by
  rw [iRng1_go h (near_nat hn), Int.toNat_natCast]
theorem iRng2_of {m : Sto → Option (List D)} {S : Sto} {a b : Nat} (h : m S = some [.int (a : Nat), .int (b : Nat)]) (ha : a ≤ 1000000) (hb : b ≤ 1000000) : iRng2' m S = some (rngD (a : Nat) (b - a), S) := by
  rw [iRng2_go h (near_nat ha) (near_nat hb), show ((b : Int) - (a : Int)).toNat = b - a by omega]
/-- trees in slots -/
abbrev tS (l : List Nat) : T := .sh (.str (tx l))
abbrev tI (i : Nat) : T := .sh (.int (i : Int))
abbrev tZ (i : Int) : T := .sh (.int i)
abbrev tN : T := .sh .non
abbrev tBl (b : Bool) : T := .sh (.bl b)
@[simp] theorem fz_sh (d : D) : fz (.sh d) = d := rfl
@[simp] theorem fz_lst (ts : List T) : fz (.lst ts) = .lst (ts.map fz) := by rw [fz, fzL_map]
@[simp] theorem fz_tup (ts : List T) : fz (.tup ts) = .tup (ts.map fz) := by rw [fz, fzL_map]
theorem str_of {s : String} {l : List Nat} (h : s.toList.map Char.toNat = l) : Str.ofString s = tx l := by
  rw [Str.ofString_eq_toList, h]
end VS
namespace VS
open PySem PySem.Spec PyProof.Rows L2
@[simp] theorem asB_bl (b : Bool) : asB (.bl b) = some b := rfl
theorem rng_cons (a : Int) (n : Nat) : rngD a (n + 1) = .int a :: rngD (a + 1) n := by
  unfold rngD
  rw [List.range_succ_eq_map, List.map_cons, List.map_map]
  congr 1
  · simp
  · apply List.map_congr_left
    intro i _
    show D.int _ = D.int _
    congr 1
    show a + ((i + 1 : Nat) : Int) = a + 1 + (i : Int)
    omega
theorem rng_zero (a : Int) : rngD a 0 = [] := rfl
/-! ### numbers drawn from a script -/
abbrev drTail : MS := (sSeq (sAsg (ofP (p2 dMod (pCall dInt (paCons (p2 dAdd (p2 dAdd (p2 dMul (pV 2) (pC (.int 48271))) (p2 dMul (pV 5) (pC (.int 69621)))) (pC (.int 11))) ((fun _ => some [])))) (pC (.int 2147483647)))) (putS 7)) (sSeq (sAsg (ofP (p2 dMod (pCall dInt (paCons (p2 dAdd (p2 dDiv (p2 dMul (pV 7) (pV 7)) (pC (.int 4096))) (pV 7)) ((fun _ => some [])))) (pC (.int 2147483629)))) (putS 7)) (sApp 4 (ofP (p2 dMod (pCall dInt (paCons (p2 dAdd (p2 dDiv (p2 dMul (pV 7) (pV 7)) (pC (.int 4096))) (p2 dMul (pV 5) (pC (.int 7919)))) ((fun _ => some [])))) (pC (.int 2147483629))))))) 
abbrev drBody : MS := (sSeq (sAsg (eVar 5) (putS 2)) (sSeq (sIf (ofB (pB (p2 dGt (pCall dLen (paCons (pV 0) ((fun _ => some [])))) (pC (.int 0))))) (sSeq (sAsg (ofP (p2 dMod (pV 5) (pCall dLen (paCons (pV 0) ((fun _ => some [])))))) (putS 6)) (sSeq (sAsg (ofP (pCall dInt (paCons (p2 dIx (pV 0) (pV 6)) ((fun _ => some []))))) (putS 2)) (sIf (ofB (bAnd (pB (p2 dGe (pV 2) (p2 dPow (pC (.int 10)) (pC (.int 18))))) (pB (p2 dGt (p2 dIx (pV 3) (pV 6)) (pC (.int 0)))))) (sSeq (sApp 4 (ofP (p2 dMod (pCall dInt (paCons (p2 dIx (pV 3) (pV 6)) ((fun _ => some [])))) (pC (.int 1000003))))) (sSeq (sSetI 3 (ofP (p2 dDiv (pCall dInt (paCons (p2 dIx (pV 3) (pV 6)) ((fun _ => some [])))) (pC (.int 1000003)))) (eVar 6)) (sCont))) (sNext)))) (sNext)) drTail))
abbrev drLc : ME := (eLc (iList' (eVar 0)) (putS 2) (qYes) (ofP (pCall dAbs (paCons (pCall dInt (paCons (pV 2) ((fun _ => some [])))) ((fun _ => some []))))) [2])
def drF : MS := sSeq (sAsg drLc (putS 3)) (sSeq (sAsg (eLst (aNil)) (putS 4)) (sSeq (mFor (iRng1' (paCons (pV 1) ((fun _ => some [])))) (putS 5) drBody) (sRet (eMov 4))))
def fDraws : Fn := mkFn 2 8 [] drF
theorem fm_lo (a : Int) {b : Int} (h : 0 < b) : 0 ≤ a.fmod b := Int.fmod_nonneg_of_pos a h
theorem fm_hi (a : Int) {b : Int} (h : 0 < b) : a.fmod b < b := Int.fmod_lt_of_pos a h
theorem small_of {i : Int} (h1 : 0 ≤ i) (h2 : i < 2147483648) : small64 i = true := by
  unfold small64
  exact decide_eq_true (by omega)
abbrev drS (ns rs ds : List Int) (m : Int) (o2 : Option T) (o5 o6 o7 : Option T) : Sto := [some (.sh (.lst (ns.map .int))), some (tZ m), o2, some (.lst (rs.map tZ)), some (.lst (ds.map tZ)), o5, o6, o7]
theorem dMul_r {i j : Int} (h : small64 j = true) : dMul (.int i) (.int j) = some (.int (i * j)) := by
  show (if (small64 i || small64 j) = true then _ else _) = _
  rw [if_pos (by rw [h, Bool.or_true])]
theorem dMod_of {i j : Int} (h : 0 < j) : dMod (.int i) (.int j) = some (.int (i.fmod j)) := if_pos (Int.ne_of_gt h)
theorem dDiv_of {i j : Int} (h : j ≠ 0) (h2 : j.natAbs.log2 < 9000) : dDiv (.int i) (.int j) = some (.int (i.fdiv j)) := if_pos ⟨h, h2⟩
@[simp] theorem dAdd_ii {i j : Int} : dAdd (.int i) (.int j) = some (.int (i + j)) := rfl
@[simp] theorem dSub_ii {i j : Int} : dSub (.int i) (.int j) = some (.int (i - j)) := rfl
@[simp] theorem dInt_i {i : Int} : dInt [.int i] = some (.int i) := rfl
theorem p2_of {g : D → D → Option D} {ma mb : MP} {S : Sto} {x y z : D} (h1 : ma S = some x) (h2 : mb S = some y) (h3 : g x y = some z) : p2 g ma mb S = some z := by
  unfold p2
  rw [h1, Option.bind_some, h2, Option.bind_some, h3]
theorem pc1_of {g : List D → Option D} {ma : MP} {S : Sto} {x z : D} (h1 : ma S = some x) (h3 : g [x] = some z) : pCall g (paCons ma fun _ => some []) S = some z := by
  unfold pCall paCons
  rw [h1, Option.bind_some, Option.bind_some, Option.bind_some, h3]
theorem pB_of {m : MP} {S : Sto} {b : Bool} (h : m S = some (.bl b)) : pB m S = some b := by
  unfold pB
  rw [h, Option.bind_some]
  rfl
theorem ofB_of {m : MB} {S : Sto} {b : Bool} (h : m S = some b) : ofB m S = some (b, S) := by
  unfold ofB
  rw [h, Option.bind_some]
theorem sApp_of {j : Nat} {me : ME} {S S1 : Sto} {t : T} {ts us : List T} (h0 : S[j]? = some (some (.lst us))) (h : me S = some (t, S1)) (h2 : S1[j]? = some (some (.lst ts))) (h3 : ts.length < sizeLine) : sApp j me S = some (.nx (S1.set j (some (.lst (ts ++ [t]))))) := by
  unfold sApp
  rw [h0]
  show (me S).bind _ = _
  rw [h, Option.bind_some]
  simp only [h2]
  rw [if_pos h3]
theorem sAsg_of {m : ME} {g : T → Sto → Option Sto} {S S1 S2 : Sto} {t : T} (h : m S = some (t, S1)) (h2 : g t S1 = some S2) : sAsg m g S = some (.nx S2) := by
  unfold sAsg
  rw [h, Option.bind_some, h2, Option.bind_some]
theorem ofP_of {m : MP} {S : Sto} {d : D} (h : m S = some d) (hs : sc d = true) : ofP m S = some (.sh d, S) := by
  unfold ofP
  rw [h, Option.bind_some, if_pos hs]
theorem sSetI_of {j : Nat} {mv mk : ME} {S S1 S2 : Sto} {t : T} {i : Int} {ts : List T} {w : T} {n : Nat} (h : mv S = some (t, S1)) (h1 : S1[j]? = some (some w)) (h2 : mk S1 = some (.sh (.int i), S2)) (h3 : S2[j]? = some (some (.lst ts))) (h4 : ixN ts.length i = some n) : sSetI j mv mk S = some (.nx (S2.set j (some (.lst (ts.set n t))))) := by
  unfold sSetI
  rw [h, Option.bind_some]
  simp only [h1]
  rw [h2, Option.bind_some]
  simp only [h3]
  show (ixN ts.length i).bind _ = _
  rw [h4, Option.bind_some]
theorem dr_tail {ns rs ds : List Int} {m : Int} {c : Int} {k : Nat} {o6 o7 : Option T} (hd : ds.length ≤ 1000000) :
    ∃ d o7', 0 ≤ d ∧ drTail (drS ns rs ds m (some (tZ c)) (some (tI k)) o6 o7) = some (.nx (drS ns rs (ds ++ [d]) m (some (tZ c)) (some (tI k)) o6 o7')) := by
  have hwn : ds.length < sizeLine := by rw [sizeLine_val]; omega
  have p1 : (0 : Int) < 2147483647 := by omega
  have p2' : (0 : Int) < 2147483629 := by omega
  have s1 (i : Int) := dMul_r (i := i) (j := 48271) (small_of (by omega) (by omega))
  have s2 (i : Int) := dMul_r (i := i) (j := 69621) (small_of (by omega) (by omega))
  have s3 (i : Int) := dMul_r (i := i) (j := 7919) (small_of (by omega) (by omega))
  have v1 (i : Int) := dMod_of (i := i) p1
  have v2 (i : Int) := dMod_of (i := i) p2'
  have v3 (i : Int) := dDiv_of (i := i) (j := 4096) (by omega) (by decide +kernel)
  have b1 := fm_lo (c * 48271 + (k : Int) * 69621 + 11) p1
  have b2 := fm_hi (c * 48271 + (k : Int) * 69621 + 11) p1
  generalize e1 : (c * 48271 + (k : Int) * 69621 + 11).fmod 2147483647 = m1 at b1 b2
  have l1 (i : Int) := dMul_r (i := i) (j := m1) (small_of b1 (by omega))
  have b3 := fm_lo ((m1 * m1).fdiv 4096 + m1) p2'
  have b4 := fm_hi ((m1 * m1).fdiv 4096 + m1) p2'
  generalize e2 : ((m1 * m1).fdiv 4096 + m1).fmod 2147483629 = m2 at b3 b4
  have l2 (i : Int) := dMul_r (i := i) (j := m2) (small_of b3 (by omega))
  refine ⟨((m2 * m2).fdiv 4096 + (k : Int) * 7919).fmod 2147483629, some (tZ m2), fm_lo _ p2', ?_⟩
  have n1 : (sAsg (ofP (p2 dMod (pCall dInt (paCons (p2 dAdd (p2 dAdd (p2 dMul (pV 2) (pC (.int 48271))) (p2 dMul (pV 5) (pC (.int 69621)))) (pC (.int 11))) ((fun _ => some [])))) (pC (.int 2147483647)))) (putS 7)) (drS ns rs ds m (some (tZ c)) (some (tI k)) o6 o7) = some (.nx (drS ns rs ds m (some (tZ c)) (some (tI k)) o6 (some (tZ m1)))) := by
    exact sAsg_of (ofP_of (p2_of (pc1_of (p2_of (p2_of (p2_of rfl rfl (s1 _)) (p2_of rfl rfl (s2 _)) rfl) rfl rfl) rfl) rfl ((v1 _).trans (by rw [e1]))) (sc_int m1)) rfl
  have n2 : (sAsg (ofP (p2 dMod (pCall dInt (paCons (p2 dAdd (p2 dDiv (p2 dMul (pV 7) (pV 7)) (pC (.int 4096))) (pV 7)) ((fun _ => some [])))) (pC (.int 2147483629)))) (putS 7)) (drS ns rs ds m (some (tZ c)) (some (tI k)) o6 (some (tZ m1))) = some (.nx (drS ns rs ds m (some (tZ c)) (some (tI k)) o6 (some (tZ m2)))) := by
    exact sAsg_of (ofP_of (p2_of (pc1_of (p2_of (p2_of (p2_of rfl rfl (l1 _)) rfl (v3 _)) rfl rfl) rfl) rfl ((v2 _).trans (by rw [e2]))) (sc_int m2)) rfl
  rw [drTail, sSeq_nx n1, sSeq_nx n2, sApp_of (t := tZ (((m2 * m2).fdiv 4096 + (k : Int) * 7919).fmod 2147483629)) (S1 := drS ns rs ds m (some (tZ c)) (some (tI k)) o6 (some (tZ m2))) (ts := ds.map tZ) (us := ds.map tZ) rfl
    (ofP_of (p2_of (pc1_of (p2_of (p2_of (p2_of rfl rfl (l2 _)) rfl (v3 _)) (p2_of rfl rfl (s3 _)) rfl) rfl) rfl (v2 _)) rfl) rfl (by rw [List.length_map]; exact hwn)]
  have mm : ∀ x, (ds ++ [x]).map tZ = ds.map tZ ++ [tZ x] := fun x => by rw [List.map_append]; rfl
  unfold drS
  rw [mm]
  rfl
theorem dr_body {ns rs ds : List Int} {m : Int} {k : Nat} {o2 o6 o7 : Option T} (hr : rs.length = ns.length) (hd : ds.length ≤ 1000000) :
    ∃ rs' d o2' o6' o7', 0 ≤ d ∧ rs'.length = ns.length ∧ (drBody (drS ns rs ds m o2 (some (tI k)) o6 o7) = some (.nx (drS ns rs' (ds ++ [d]) m o2' (some (tI k)) o6' o7')) ∨ drBody (drS ns rs ds m o2 (some (tI k)) o6 o7) = some (.ct (drS ns rs' (ds ++ [d]) m o2' (some (tI k)) o6' o7'))) := by
  have hwn : ds.length < sizeLine := by rw [sizeLine_val]; omega
  have n0 : (sAsg (eVar 5) (putS 2)) (drS ns rs ds m o2 (some (tI k)) o6 o7) = some (.nx (drS ns rs ds m (some (tI k)) (some (tI k)) o6 o7)) := by
    simp [sAsg, eVar, putS]
  have ln : dLen [.lst (ns.map .int)] = some (.int (ns.length : Nat)) := by
    show some (D.int ((ns.map D.int).length : Nat)) = _
    rw [List.length_map]
  by_cases h0 : ns.length = 0
  · obtain ⟨d, o7', p, e⟩ := dr_tail (ns := ns) (rs := rs) (m := m) (c := k) (k := k) (o6 := o6) (o7 := o7) hd
    refine ⟨rs, d, some (tI k), o6, o7', p, hr, .inl ?_⟩
    rw [drBody, sSeq_nx n0, sSeq_nx (S1 := drS ns rs ds m (some (tI k)) (some (tI k)) o6 o7)]
    · exact e
    · rw [sIf_f (S1 := drS ns rs ds m (some (tI k)) (some (tI k)) o6 o7)]
      · rfl
      · simp only [ofB, pB, p2, pV, pC, pCall, paCons, List.getElem?_cons_zero, Option.bind_some, fz_sh, ln, h0, dGt, dCmp, asB_bl]
        rfl
  · have hn : 0 < ns.length := by omega
    have hk : k % ns.length < ns.length := Nat.mod_lt _ hn
    have t1 : (ofB (pB (p2 dGt (pCall dLen (paCons (pV 0) ((fun _ => some [])))) (pC (.int 0))))) (drS ns rs ds m (some (tI k)) (some (tI k)) o6 o7) = some (true, drS ns rs ds m (some (tI k)) (some (tI k)) o6 o7) := by
      have z : (0 : Int) < (ns.length : Int) := by omega
      simp only [ofB, pB, p2, pV, pC, pCall, paCons, List.getElem?_cons_zero, Option.bind_some, fz_sh, ln, dGt, dCmp, asB_bl, z, decide_true]
    have n1 : (sAsg (ofP (p2 dMod (pV 5) (pCall dLen (paCons (pV 0) ((fun _ => some [])))))) (putS 6)) (drS ns rs ds m (some (tI k)) (some (tI k)) o6 o7) = some (.nx (drS ns rs ds m (some (tI k)) (some (tI k)) (some (tI (k % ns.length))) o7)) := by
      have z : (ns.length : Int) ≠ 0 := by omega
      have y : (k : Int).fmod (ns.length : Int) = ((k % ns.length : Nat) : Int) := by
        rw [Int.fmod_eq_emod_of_nonneg _ (by omega)]
        rfl
      simp only [sAsg, ofP, p2, pV, pCall, paCons, List.getElem?_cons_zero, List.getElem?_cons_succ, Option.bind_some, fz_sh, ln, dMod, if_pos z, y, sc_int, if_true]
      rfl
    have i1 : dIx (.lst (ns.map .int)) (.int (k % ns.length : Nat)) = some (.int ns[k % ns.length]) := by
      show L2.atI (ns.map D.int) _ = _
      rw [atI_pos, List.getElem?_map, List.getElem?_eq_getElem hk]
      rfl
    have hk2 : k % ns.length < rs.length := by omega
    have i2 : dIx (.lst (rs.map .int)) (.int (k % ns.length : Nat)) = some (.int rs[k % ns.length]) := by
      show L2.atI (rs.map D.int) _ = _
      rw [atI_pos, List.getElem?_map, List.getElem?_eq_getElem hk2]
      rfl
    have n2 : (sAsg (ofP (pCall dInt (paCons (p2 dIx (pV 0) (pV 6)) ((fun _ => some []))))) (putS 2)) (drS ns rs ds m (some (tI k)) (some (tI k)) (some (tI (k % ns.length))) o7) = some (.nx (drS ns rs ds m (some (tZ ns[k % ns.length])) (some (tI k)) (some (tI (k % ns.length))) o7)) := by
      simp only [sAsg, ofP, p2, pV, pCall, paCons, List.getElem?_cons_zero, List.getElem?_cons_succ, Option.bind_some, fz_sh, i1, dInt, sc_int, if_true]
      rfl
    have fzr : fz (.lst (rs.map tZ)) = .lst (rs.map .int) := by
      rw [fz_lst, List.map_map]
      rfl
    have pw : dPow (.int 10) (.int 18) = some (.int 1000000000000000000) := by kernel_rfl
    have t2 : (ofB (bAnd (pB (p2 dGe (pV 2) (p2 dPow (pC (.int 10)) (pC (.int 18))))) (pB (p2 dGt (p2 dIx (pV 3) (pV 6)) (pC (.int 0)))))) (drS ns rs ds m (some (tZ ns[k % ns.length])) (some (tI k)) (some (tI (k % ns.length))) o7) = some (decide (1000000000000000000 ≤ ns[k % ns.length]) && decide (0 < rs[k % ns.length]), drS ns rs ds m (some (tZ ns[k % ns.length])) (some (tI k)) (some (tI (k % ns.length))) o7) := by
      simp only [ofB, bAnd, pB, p2, pV, pC, List.getElem?_cons_zero, List.getElem?_cons_succ, Option.bind_some, fz_sh, fzr, i2, pw, dGe, dGt, dCmp, asB_bl]
      by_cases z : 1000000000000000000 ≤ ns[k % ns.length]
      · simp [z]
      · simp [z]
    by_cases hc : (decide (1000000000000000000 ≤ ns[k % ns.length]) && decide (0 < rs[k % ns.length])) = true
    · rw [hc] at t2
      refine ⟨rs.set (k % ns.length) (rs[k % ns.length].fdiv 1000003), rs[k % ns.length].fmod 1000003, some (tZ ns[k % ns.length]), some (tI (k % ns.length)), o7, fm_lo _ (by decide), by rw [List.length_set]; exact hr, .inr ?_⟩
      have n3 : (sApp 4 (ofP (p2 dMod (pCall dInt (paCons (p2 dIx (pV 3) (pV 6)) ((fun _ => some [])))) (pC (.int 1000003))))) (drS ns rs ds m (some (tZ ns[k % ns.length])) (some (tI k)) (some (tI (k % ns.length))) o7) = some (.nx (drS ns rs (ds ++ [rs[k % ns.length].fmod 1000003]) m (some (tZ ns[k % ns.length])) (some (tI k)) (some (tI (k % ns.length))) o7)) := by
        have y : ds.length < 16777216 := by omega
        simp only [sApp, ofP, p2, pV, pC, pCall, paCons, List.getElem?_cons_zero, List.getElem?_cons_succ, Option.bind_some, fz_sh, fzr, i2, dInt, dMod, sc_int]
        simp [hwn]
      have ix : ixN (rs.map tZ).length ((k % ns.length : Nat) : Int) = some (k % ns.length) := by
        unfold ixN
        rw [List.length_map, if_pos (by omega), if_pos (by omega), Int.toNat_natCast]
      have n4 : (sSetI 3 (ofP (p2 dDiv (pCall dInt (paCons (p2 dIx (pV 3) (pV 6)) ((fun _ => some [])))) (pC (.int 1000003)))) (eVar 6)) (drS ns rs (ds ++ [rs[k % ns.length].fmod 1000003]) m (some (tZ ns[k % ns.length])) (some (tI k)) (some (tI (k % ns.length))) o7) = some (.nx (drS ns (rs.set (k % ns.length) (rs[k % ns.length].fdiv 1000003)) (ds ++ [rs[k % ns.length].fmod 1000003]) m (some (tZ ns[k % ns.length])) (some (tI k)) (some (tI (k % ns.length))) o7)) := by
        rw [sSetI_of (j := 3) (w := .lst (rs.map tZ)) (S1 := drS ns rs (ds ++ [rs[k % ns.length].fmod 1000003]) m (some (tZ ns[k % ns.length])) (some (tI k)) (some (tI (k % ns.length))) o7) (ofP_of (p2_of (pc1_of (p2_of (y := .int (k % ns.length : Nat)) (x := .lst (rs.map .int)) (congrArg some fzr) rfl i2) rfl) rfl (dDiv_of (by omega) (by decide +kernel))) rfl) rfl rfl rfl ix]
        unfold drS
        rw [List.map_set]
        rfl
      rw [drBody, sSeq_nx n0, sSeq_ct (S1 := drS ns (rs.set (k % ns.length) (rs[k % ns.length].fdiv 1000003)) (ds ++ [rs[k % ns.length].fmod 1000003]) m (some (tZ ns[k % ns.length])) (some (tI k)) (some (tI (k % ns.length))) o7)]
      rw [sIf_t t1, sSeq_nx n1, sSeq_nx n2, sIf_t t2, sSeq_nx n3, sSeq_nx n4]
      rfl
    · rw [Bool.not_eq_true] at hc
      rw [hc] at t2
      obtain ⟨d, o7', p, e⟩ := dr_tail (ns := ns) (rs := rs) (m := m) (c := ns[k % ns.length]) (k := k) (o6 := some (tI (k % ns.length))) (o7 := o7) hd
      refine ⟨rs, d, some (tZ ns[k % ns.length]), some (tI (k % ns.length)), o7', p, hr, .inl ?_⟩
      rw [drBody, sSeq_nx n0, sSeq_nx (S1 := drS ns rs ds m (some (tZ ns[k % ns.length])) (some (tI k)) (some (tI (k % ns.length))) o7)]
      · exact e
      · rw [sIf_t t1, sSeq_nx n1, sSeq_nx n2, sIf_f t2]
        rfl
theorem dr_loop {ns : List Int} {m : Int} : ∀ (n k : Nat) (rs ds : List Int) (o2 o5 o6 o7 : Option T), rs.length = ns.length → ds.length + n ≤ 1000000 → (∀ d ∈ ds, 0 ≤ d) →
    ∃ rs' ds' o2' o5' o6' o7', ds'.length = ds.length + n ∧ (∀ d ∈ ds', 0 ≤ d) ∧ loopF (putS 5) drBody (rngD (k : Nat) n) (drS ns rs ds m o2 o5 o6 o7) = some (.nx (drS ns rs' ds' m o2' o5' o6' o7'))
  | 0, k, rs, ds, o2, o5, o6, o7, hr, hd, hp => ⟨rs, ds, o2, o5, o6, o7, rfl, hp, rfl⟩
  | n + 1, k, rs, ds, o2, o5, o6, o7, hr, hd, hp => by
    obtain ⟨rs1, d, a2, a6, a7, p, hr1, h⟩ := dr_body (ns := ns) (rs := rs) (ds := ds) (m := m) (k := k) (o2 := o2) (o6 := o6) (o7 := o7) hr (by omega)
    obtain ⟨rs', ds', b2, b5, b6, b7, h1, h2, h3⟩ := dr_loop (ns := ns) (m := m) n (k + 1) rs1 (ds ++ [d]) a2 (some (tI k)) a6 a7 hr1 (by rw [List.length_append, List.length_singleton]; omega) (fun x hx => by
      rcases List.mem_append.mp hx with hx | hx
      · exact hp x hx
      · rw [List.mem_singleton.mp hx]; exact p)
    refine ⟨rs', ds', b2, b5, b6, b7, by rw [h1, List.length_append, List.length_singleton]; omega, h2, ?_⟩
    rw [rng_cons]
    rcases h with h | h
    · exact (loop_nx (S1 := drS ns rs ds m o2 (some (tI k)) o6 o7) rfl h).trans h3
    · exact (loop_ct (S1 := drS ns rs ds m o2 (some (tI k)) o6 o7) rfl h).trans h3
theorem dr_lc {ns : List Int} {m : Int} : ∀ (l : List Int) (acc : List Int), acc.length + l.length ≤ 16777215 → 
    ∃ rs : List Int, rs.length = acc.length + l.length ∧ lcGo (putS 2) qYes (ofP (pCall dAbs (paCons (pCall dInt (paCons (pV 2) ((fun _ => some [])))) ((fun _ => some []))))) [2] (l.map .int) [some (.sh (.lst (ns.map .int))), some (tZ m), none, none, none, none, none, none] (acc.map tZ) = some (rs.map tZ, [some (.sh (.lst (ns.map .int))), some (tZ m), none, none, none, none, none, none])
  | [], acc, _ => ⟨acc, rfl, rfl⟩
  | i :: l, acc, h => by
    rw [List.length_cons] at h
    obtain ⟨rs, h1, h2⟩ := dr_lc l (acc ++ [if i < 0 then -i else i]) (by rw [List.length_append, List.length_singleton]; omega)
    refine ⟨rs, by rw [h1, List.length_append, List.length_singleton, List.length_cons]; omega, ?_⟩
    have hs : acc.length < sizeLine := by rw [sizeLine_val]; omega
    rw [← h2, List.map_cons, lcGo]
    simp [putS, qYes, ofP, pCall, paCons, pV, dInt, dAbs, hs, wipeS]
theorem draws_eq {ns : List Int} {m : Nat} (hn : ns.length ≤ 1000000) (hm : m ≤ 1000000) : ∃ ds : List Int, ds.length = m ∧ (∀ d ∈ ds, 0 ≤ d) ∧ fDraws [.sh (.lst (ns.map .int)), tI m] = some (.lst (ds.map tZ), [some (.sh (.lst (ns.map .int))), some (tI m)]) := by
  obtain ⟨rs, h1, h2⟩ := dr_lc (ns := ns) (m := m) ns [] (by simp; omega)
  obtain ⟨rs', ds, o2, o5, o6, o7, h3, h4, h5⟩ := dr_loop (ns := ns) (m := m) m 0 rs [] none none none none (by simpa using h1) (by simpa using hm) (by simp)
  refine ⟨ds, by simpa using h3, h4, ?_⟩
  have e1 : (sAsg drLc (putS 3)) [some (.sh (.lst (ns.map .int))), some (tI m), none, none, none, none, none, none] = some (.nx [some (.sh (.lst (ns.map .int))), some (tI m), none, some (.lst (rs.map tZ)), none, none, none, none]) := by
    simp [sAsg, drLc, eLc, iList', eVar, wipeS]
    rw [show lcGo _ _ _ _ _ _ [] = _ from h2]
    simp [putS]
  have e2 : (sAsg (eLst (aNil)) (putS 4)) [some (.sh (.lst (ns.map .int))), some (tI m), none, some (.lst (rs.map tZ)), none, none, none, none] = some (.nx (drS ns rs [] m none none none none)) := rfl
  have ei : (iRng1' (paCons (pV 1) ((fun _ => some [])))) (drS ns rs [] m none none none none) = some (rngD 0 m, drS ns rs [] m none none none none) :=
    iRng1_of (by simp [paCons, pV]) hm
  show (drF [some (.sh (.lst (ns.map .int))), some (tI m), none, none, none, none, none, none]).bind _ = _
  rw [drF, sSeq_nx e1, sSeq_nx e2, sSeq_nx ((mFor_of ei).trans h5)]
  rfl
/-! ### the hand -/
def fTakeB : MS := (sSeq (sAsg (eIxN 0 (ofP (pC (.int 1)))) (putS 2)) (sSeq (sSetI 0 (ofP (p2 dAdd (pV 2) (pC (.int 1)))) (ofP (pC (.int 1)))) (sSeq (sAsg (eIxN 0 (ofP (pC (.int 0)))) (putS 3)) (sSeq (sIf (ofB (pB (p2 dGe (pV 2) (pCall dLen (paCons (pV 3) ((fun _ => some []))))))) (sRet (ofP (pC (.int 0)))) (sNext)) (sRet (ofP (p2 dMod (p2 dDiv (pCall dInt (paCons (p2 dIx (pV 3) (pV 2)) ((fun _ => some [])))) (pC (.int 7))) (pV 1))))))))
def fTake : Fn := mkFn 2 4 [] fTakeB
/-- a hand: numbers drawn and a place -/
abbrev hand (ds : List Int) (j : Nat) : T := .lst [.sh (.lst (ds.map .int)), tI j]
theorem take_eq {ds : List Int} {j m : Nat} (hm : 0 < m) : ∃ i : Nat, i < m ∧ fTake [hand ds j, tI m] = some (tI i, [some (hand ds (j + 1)), some (tI m)]) := by
  have ln : dLen [.lst (ds.map .int)] = some (.int (ds.length : Nat)) := by
    show some (D.int ((ds.map D.int).length : Nat)) = _
    rw [List.length_map]
  have n1 : (sAsg (eIxN 0 (ofP (pC (.int 1)))) (putS 2)) [some (hand ds j), some (tI m), none, none] = some (.nx [some (hand ds j), some (tI m), some (tI j), none]) := rfl
  have n2 : (sSetI 0 (ofP (p2 dAdd (pV 2) (pC (.int 1)))) (ofP (pC (.int 1)))) [some (hand ds j), some (tI m), some (tI j), none] = some (.nx [some (hand ds (j + 1)), some (tI m), some (tI j), none]) := rfl
  have n3 : (sAsg (eIxN 0 (ofP (pC (.int 0)))) (putS 3)) [some (hand ds (j + 1)), some (tI m), some (tI j), none] = some (.nx [some (hand ds (j + 1)), some (tI m), some (tI j), some (.sh (.lst (ds.map .int)))]) := rfl
  have t1 : (ofB (pB (p2 dGe (pV 2) (pCall dLen (paCons (pV 3) ((fun _ => some []))))))) [some (hand ds (j + 1)), some (tI m), some (tI j), some (.sh (.lst (ds.map .int)))] = some (decide (ds.length ≤ j), [some (hand ds (j + 1)), some (tI m), some (tI j), some (.sh (.lst (ds.map .int)))]) := by
    have z : ((ds.length : Int) ≤ (j : Int)) = (ds.length ≤ j) := propext (by omega)
    simp only [ofB, pB, p2, pV, pCall, paCons, List.getElem?_cons_zero, List.getElem?_cons_succ, Option.bind_some, fz_sh, ln, dGe, dCmp, asB_bl, z]
  by_cases h : ds.length ≤ j
  · refine ⟨0, hm, ?_⟩
    rw [decide_eq_true h] at t1
    show (fTakeB [some (hand ds j), some (tI m), none, none]).bind _ = _
    rw [fTakeB, sSeq_nx n1, sSeq_nx n2, sSeq_nx n3, sSeq_rt (t := tI 0) (S1 := [some (hand ds (j + 1)), some (tI m), some (tI j), some (.sh (.lst (ds.map .int)))]) (by rw [sIf_t t1]; rfl)]
    rfl
  · have h2 : j < ds.length := by omega
    rw [decide_eq_false h] at t1
    have i1 : dIx (.lst (ds.map .int)) (.int (j : Nat)) = some (.int ds[j]) := by
      show L2.atI (ds.map D.int) _ = _
      rw [atI_pos, List.getElem?_map, List.getElem?_eq_getElem h2]
      rfl
    have z : (0 : Int) < (m : Int) := by omega
    have y := fm_lo (ds[j].fdiv 7) z
    have y2 := fm_hi (ds[j].fdiv 7) z
    refine ⟨((ds[j].fdiv 7).fmod m).toNat, by omega, ?_⟩
    have e : (((((ds[j].fdiv 7).fmod m).toNat : Nat)) : Int) = (ds[j].fdiv 7).fmod m := Int.toNat_of_nonneg y
    have e2 : (sRet (ofP (p2 dMod (p2 dDiv (pCall dInt (paCons (p2 dIx (pV 3) (pV 2)) ((fun _ => some [])))) (pC (.int 7))) (pV 1)))) [some (hand ds (j + 1)), some (tI m), some (tI j), some (.sh (.lst (ds.map .int)))] = some (.rt (tI ((ds[j].fdiv 7).fmod m).toNat) [some (hand ds (j + 1)), some (tI m), some (tI j), some (.sh (.lst (ds.map .int)))]) := by
      unfold sRet
      rw [ofP_of (p2_of (p2_of (pc1_of (p2_of rfl rfl i1) rfl) rfl (dDiv_of (by omega) (by decide +kernel))) rfl (dMod_of z)) rfl, Option.bind_some]
      unfold tI
      rw [e]
    show (fTakeB [some (hand ds j), some (tI m), none, none]).bind _ = _
    rw [fTakeB, sSeq_nx n1, sSeq_nx n2, sSeq_nx n3, sSeq_nx (S1 := [some (hand ds (j + 1)), some (tI m), some (tI j), some (.sh (.lst (ds.map .int)))]) (by rw [sIf_f t1]; rfl), e2]
    rfl
end VS
namespace VS
open PySem PySem.Spec PyProof.Rows L2
theorem mkFn_rt {np ns : Nat} {as : List Nat} {b : MS} {ts : List T} {S S' : Sto} {t : T} (hl : ts.length = np) (hS : (entry as 0 ts).map some ++ List.replicate (ns - np) none = S) (h : b S = some (.rt t S')) : mkFn np ns as b ts = some (t, outs as S' 0 ts) := by
  unfold mkFn
  rw [if_pos hl, hS, h]
  rfl
theorem mkFn_nx {np ns : Nat} {as : List Nat} {b : MS} {ts : List T} {S S' : Sto} (hl : ts.length = np) (hS : (entry as 0 ts).map some ++ List.replicate (ns - np) none = S) (h : b S = some (.nx S')) : mkFn np ns as b ts = some (.sh .non, outs as S' 0 ts) := by
  unfold mkFn
  rw [if_pos hl, hS, h]
  rfl
theorem txtJoin (sep : Str) (l : List Str) : Txt.join sep l = Str.join sep l := StrLaws.glued_eq_join sep l
theorem sEMP0 : Str.ofString "" = tx [] := by decide +kernel
theorem join_flat : ∀ ls : List (List Nat), Txt.join (tx []) (ls.map tx) = tx ls.flatten
  | [] => by rw [txtJoin]; rfl
  | [a] => by rw [txtJoin]; show tx a = tx (a ++ []); rw [List.append_nil]
  | a :: b :: ls => by
    have ih := join_flat (b :: ls)
    rw [txtJoin] at ih ⊢
    show tx a ++ tx [] ++ Str.join (tx []) ((b :: ls).map tx) = _
    have e : tx a ++ tx [] = tx a := by rw [tx_app, List.append_nil]
    rw [ih, e]
    exact tx_app _ _
theorem flat_one : ∀ r : List Nat, (r.map fun c => [c]).flatten = r
  | [] => rfl
  | a :: r => by
    rw [List.map_cons, List.flatten_cons, flat_one r]
    rfl
theorem lc_step {g : T → Sto → Option Sto} {tt : MT} {te : ME} {own : List Nat} {d : D} {l : List D} {S S1 S2 S3 : Sto} {acc : List T} {t : T} (h1 : g (.sh d) S = some S1) (h2 : tt S1 = some (true, S2)) (h3 : te S2 = some (t, S3)) (h4 : acc.length < sizeLine) : lcGo g tt te own (d :: l) S acc = lcGo g tt te own l (wipeS S3 own) (acc ++ [t]) := by
  rw [lcGo, h1, Option.bind_some, h2, Option.bind_some]
  show (if true = true then _ else _) = _
  rw [if_pos rfl, h3, Option.bind_some, if_pos h4]
theorem lc_skip {g : T → Sto → Option Sto} {tt : MT} {te : ME} {own : List Nat} {d : D} {l : List D} {S S1 S2 : Sto} {acc : List T} (h1 : g (.sh d) S = some S1) (h2 : tt S1 = some (false, S2)) : lcGo g tt te own (d :: l) S acc = lcGo g tt te own l (wipeS S2 own) acc := by
  rw [lcGo, h1, Option.bind_some, h2, Option.bind_some]
  show (if false = true then _ else _) = _
  rw [if_neg (by decide)]
theorem strsD_map : ∀ ls : List (List Nat), strsD (ls.map fun l => D.str (tx l)) = some (ls.map tx)
  | [] => rfl
  | a :: ls => by
    show (strsD (ls.map fun l => D.str (tx l))).map _ = _
    rw [strsD_map ls]
    rfl
theorem joinD_flat {ls : List (List Nat)} (h : ls.flatten.length ≤ 10000000) : joinD (.str (tx [])) (.lst (ls.map fun l => .str (tx l))) = some (.str (tx ls.flatten)) := by
  have e : ((ls.map tx).map (·.length)).sum = ls.flatten.length := by
    rw [List.length_flatten, List.map_map]
    congr 1
  show ((strsD (ls.map fun l => D.str (tx l))).bind _) = _
  rw [strsD_map, Option.bind_some, e, tx_len, if_pos (by rw [List.length_nil, Nat.mul_zero]; omega), join_flat]
theorem fz_lst_tS (ls : List (List Nat)) : fz (.lst (ls.map tS)) = .lst (ls.map fun l => .str (tx l)) := by
  rw [fz_lst, List.map_map]
  rfl
theorem fz_lst_tZ (ls : List Int) : fz (.lst (ls.map tZ)) = .lst (ls.map .int) := by
  rw [fz_lst, List.map_map]
  rfl
theorem kid_tx {l : List Nat} {i c : Nat} (h : l.length ≤ 10000000) (e : l[i]? = some c) : kid (tS l) (i : Nat) = some (tS [c]) := by
  show (if lenOk (tx l) = true then _ else none) = _
  rw [if_pos (lenOk_tx h), atI_pos, show (tx l).cps.toList = l by simp, e]
  rfl
/-- one number taken from a hand in a slot -/
theorem take_c {S : Sto} {s j m : Nat} {ds : List Int} {me : ME} (h : S[s]? = some (some (hand ds j))) (hm : 0 < m) (e : me S = some (tI m, S)) :
    ∃ i, i < m ∧ eCall fTake [some s, none] (aMv s (aCons me aNil)) S = some (tI i, S.set s (some (hand ds (j + 1)))) := by
  obtain ⟨i, hi, ht⟩ := take_eq (ds := ds) (j := j) hm
  refine ⟨i, hi, ?_⟩
  have a1 : aMv s (aCons me aNil) S = some ([hand ds j, tI m], S.set s none) := by
    unfold aMv aCons aNil
    simp only [h, e, Option.bind_some]
  unfold eCall
  rw [a1, Option.bind_some]
  simp only [ht, Option.bind_some]
  show some (_, (S.set s none).set s (some (hand ds (j + 1)))) = _
  rw [List.set_set]
theorem take_c2 {S : Sto} {s s2 j m : Nat} {ds : List Int} (h : S[s]? = some (some (hand ds j))) (h2 : S[s2]? = some (some (tI m))) (hne : s ≠ s2) (hm : 0 < m) :
    ∃ i, i < m ∧ eCall fTake [some s, some s2] (aMv s (aMv s2 aNil)) S = some (tI i, S.set s (some (hand ds (j + 1)))) := by
  obtain ⟨i, hi, ht⟩ := take_eq (ds := ds) (j := j) hm
  refine ⟨i, hi, ?_⟩
  have e : (S.set s2 none)[s]? = some (some (hand ds j)) := by rw [List.getElem?_set_ne (Ne.symm hne), h]
  have a1 : aMv s (aMv s2 aNil) S = some ([hand ds j, tI m], (S.set s2 none).set s none) := by
    unfold aMv aNil
    simp only [h, h2, e, Option.bind_some]
  unfold eCall
  rw [a1, Option.bind_some]
  simp only [ht, Option.bind_some]
  show some (_, ((((S.set s2 none).set s none).set s (some (hand ds (j + 1))))).set s2 (some (tI m))) = _
  rw [List.set_set, List.set_comm _ _ hne, List.set_set]
  rw [set_at h2]

/-- a text of chosen length -/
def fRunB : MS := sRet (e2M joinD (ofP (pC (.str ""))) (eLc (iRng1E (e2 dAdd (ofP (pC (.int 1))) (eCall fTake [some 0, some 2] (aMv 0 (aMv 2 (aNil)))))) (putS 3) (qYes) (eIxN 1 (eCall fTake [some 0, none] (aMv 0 (aCons (ofP (pCall dLen (paCons (pV 1) ((fun _ => some []))))) (aNil))))) [3]))
def fRun : Fn := mkFn 3 4 [] fRunB
theorem run_lc {cs : List Nat} {u : T} {ds : List Int} (hc : 0 < cs.length) (hl : cs.length ≤ 10000000) : ∀ (l : List D) (j : Nat) (acc : List Nat), acc.length + l.length ≤ 16777215 →
    ∃ (r : List Nat) (j' : Nat), r.length = acc.length + l.length ∧ lcGo (putS 3) qYes (eIxN 1 (eCall fTake [some 0, none] (aMv 0 (aCons (ofP (pCall dLen (paCons (pV 1) ((fun _ => some []))))) (aNil))))) [3] l [some (hand ds j), some (tS cs), some u, none] (acc.map fun c => tS [c]) = some (r.map fun c => tS [c], [some (hand ds j'), some (tS cs), some u, none])
  | [], j, acc, h => ⟨acc, j, rfl, rfl⟩
  | d :: l, j, acc, h => by
    rw [List.length_cons] at h
    obtain ⟨i, hi, e⟩ := take_c (S := [some (hand ds j), some (tS cs), some u, some (.sh d)]) (s := 0) (j := j) (m := cs.length) (ds := ds) (me := ofP (pCall dLen (paCons (pV 1) ((fun _ => some []))))) rfl hc (ofP_of (pc1_of rfl (dLen_tx hl)) rfl)
    have hk := kid_tx hl (List.getElem?_eq_getElem hi)
    obtain ⟨r, j', h1, h2⟩ := run_lc (u := u) (ds := ds) hc hl l (j + 1) (acc ++ [cs[i]]) (by rw [List.length_append, List.length_singleton]; omega)
    refine ⟨r, j', by rw [h1, List.length_append, List.length_singleton, List.length_cons]; omega, ?_⟩
    have hs : (acc.map fun c => tS [c]).length < sizeLine := by rw [List.length_map, sizeLine_val]; omega
    have e1 : eIxN 1 (eCall fTake [some 0, none] (aMv 0 (aCons (ofP (pCall dLen (paCons (pV 1) ((fun _ => some []))))) (aNil)))) [some (hand ds j), some (tS cs), some u, some (.sh d)] = some (tS [cs[i]], [some (hand ds (j + 1)), some (tS cs), some u, some (.sh d)]) := by
      unfold eIxN
      simp only [List.getElem?_cons_zero, List.getElem?_cons_succ, e, Option.bind_some, fz_sh, List.set_cons_zero, hk, isSh, if_true]
    rw [lc_step (S1 := [some (hand ds j), some (tS cs), some u, some (.sh d)]) rfl rfl e1 hs, ← h2, List.map_append]
    rfl
theorem run_eq {cs : List Nat} {ds : List Int} {j most : Nat} (hc : 0 < cs.length) (hl : cs.length ≤ 10000000) (h0 : 0 < most) (hm : most ≤ 1000000) :
    ∃ (r : List Nat) (j' : Nat), 0 < r.length ∧ r.length ≤ most ∧ fRun [hand ds j, tS cs, tI most] = some (tS r, [some (hand ds j'), some (tS cs), some (tI most)]) := by
  obtain ⟨i, hi, e⟩ := take_c2 (S := [some (hand ds j), some (tS cs), some (tI most), none]) (s := 0) (s2 := 2) (j := j) (m := most) (ds := ds) rfl rfl (by decide) h0
  obtain ⟨r, j', h1, h2⟩ := run_lc (u := tI most) (ds := ds) hc hl (rngD 0 (1 + i)) (j + 1) [] (by unfold rngD; rw [List.length_map, List.length_range]; simp; omega)
  have hr : r.length = 1 + i := by
    rw [h1]
    unfold rngD
    rw [List.length_map, List.length_range]
    simp
  refine ⟨r, j', by omega, by omega, ?_⟩
  have e1 : (e2 dAdd (ofP (pC (.int 1))) (eCall fTake [some 0, some 2] (aMv 0 (aMv 2 (aNil))))) [some (hand ds j), some (tS cs), some (tI most), none] = some (tI (1 + i), [some (hand ds (j + 1)), some (tS cs), some (tI most), none]) := by
    unfold e2
    rw [show ofP (pC (.int 1)) [some (hand ds j), some (tS cs), some (tI most), none] = some (tI 1, [some (hand ds j), some (tS cs), some (tI most), none]) from rfl, Option.bind_some, e]
    rfl
  have e2 : iRng1E (e2 dAdd (ofP (pC (.int 1))) (eCall fTake [some 0, some 2] (aMv 0 (aMv 2 (aNil))))) [some (hand ds j), some (tS cs), some (tI most), none] = some (rngD 0 (1 + i), [some (hand ds (j + 1)), some (tS cs), some (tI most), none]) := by
    unfold iRng1E
    rw [e1, Option.bind_some]
    exact (if_pos (near_nat (by omega))).trans (by rw [Int.toNat_natCast])
  have e4 := flat_one r
  have e3 := joinD_flat (ls := r.map fun c => [c]) (by rw [e4]; omega)
  rw [e4, List.map_map] at e3
  have e5 : (eLc (iRng1E (VS.e2 dAdd (ofP (pC (.int 1))) (eCall fTake [some 0, some 2] (aMv 0 (aMv 2 (aNil)))))) (putS 3) (qYes) (eIxN 1 (eCall fTake [some 0, none] (aMv 0 (aCons (ofP (pCall dLen (paCons (pV 1) ((fun _ => some []))))) (aNil))))) [3]) [some (hand ds j), some (tS cs), some (tI most), none] = some (.lst (r.map fun c => tS [c]), [some (hand ds j'), some (tS cs), some (tI most), none]) := by
    unfold eLc
    rw [e2, Option.bind_some]
    show (lcGo _ _ _ _ _ [some (hand ds (j + 1)), some (tS cs), some (tI most), none] []).bind _ = _
    rw [show ([] : List T) = [].map fun c => tS [c] from rfl, h2, Option.bind_some]
  show (fRunB [some (hand ds j), some (tS cs), some (tI most), none]).bind _ = _
  unfold fRunB sRet e2M
  rw [show ofP (pC (.str "")) [some (hand ds j), some (tS cs), some (tI most), none] = some (tS [], [some (hand ds j), some (tS cs), some (tI most), none]) by rw [sEMP0]; rfl, Option.bind_some, e5, Option.bind_some, fz_lst, List.map_map]
  rw [show (fz ∘ fun c => tS [c]) = ((fun l => D.str (tx l)) ∘ fun c => [c]) from rfl]
  show ((sD (joinD (.str (tx [])) _) _).bind _).bind _ = _
  rw [e3]
  rfl
end VS
namespace VS
open PySem PySem.Spec PyProof.Rows L2
/-! ### reckoning step by step -/
theorem eCall_of {f : Fn} {ms : List (Option Nat)} {ma : MA} {S S1 : Sto} {ts : List T} {r : T} {ts' : List (Option T)} (h1 : ma S = some (ts, S1)) (h2 : f ts = some (r, ts')) (h3 : ts'.length = ms.length) : eCall f ms ma S = some (r, putB ms ts' S1) := by
  unfold eCall
  rw [h1, Option.bind_some]
  simp only [h2, Option.bind_some]
  rw [if_pos h3]
theorem e2_of {g : D → D → Option D} {ma mb : ME} {S S1 S2 : Sto} {t u : T} {d : D} (h1 : ma S = some (t, S1)) (h2 : mb S1 = some (u, S2)) (h3 : g (fz t) (fz u) = some d) (h4 : sc d = true) : e2 g ma mb S = some (.sh d, S2) := by
  unfold e2
  rw [h1, Option.bind_some]
  simp only [h2, Option.bind_some, h3]
  unfold sD
  rw [Option.bind_some, if_pos h4]
theorem e2M_of {g : D → D → Option D} {ma mb : ME} {S S1 S2 : Sto} {t u : T} {d : D} (h1 : ma S = some (t, S1)) (h2 : mb S1 = some (u, S2)) (h3 : g (fz t) (fz u) = some d) (h4 : sc d = true) : e2M g ma mb S = some (.sh d, S2) := by
  unfold e2M
  rw [h1, Option.bind_some]
  simp only [h2, Option.bind_some, h3]
  unfold sD
  rw [Option.bind_some, if_pos h4]
theorem e2T_of {g : T → T → Option T} {ma mb : ME} {S S1 S2 : Sto} {t u v : T} (h1 : ma S = some (t, S1)) (h2 : mb S1 = some (u, S2)) (h3 : g t u = some v) : e2T g ma mb S = some (v, S2) := by
  unfold e2T
  rw [h1, Option.bind_some]
  simp only [h2, Option.bind_some, h3]
theorem aCons_of {m : ME} {r : MA} {S S1 S2 : Sto} {t : T} {ts : List T} (h1 : m S = some (t, S1)) (h2 : r S1 = some (ts, S2)) : aCons m r S = some (t :: ts, S2) := by
  unfold aCons
  rw [h1, Option.bind_some]
  simp only [h2, Option.bind_some]
theorem aMv_of {i : Nat} {r : MA} {S S2 : Sto} {u t : T} {ts : List T} (h0 : S[i]? = some (some u)) (h1 : r S = some (ts, S2)) (h2 : S2[i]? = some (some t)) : aMv i r S = some (t :: ts, S2.set i none) := by
  unfold aMv
  simp only [h0, h1, Option.bind_some, h2]
theorem eFz_of {m : ME} {S S1 : Sto} {t : T} (h : m S = some (t, S1)) : eFz m S = some (.sh (fz t), S1) := by
  unfold eFz
  rw [h]
  rfl
theorem eLst_of {ma : MA} {S S1 : Sto} {ts : List T} (h : ma S = some (ts, S1)) (hl : ts.length ≤ 1000) : eLst ma S = some (.lst ts, S1) := by
  unfold eLst
  rw [h, Option.bind_some, if_pos hl]
theorem qB_of {m : ME} {S S1 : Sto} {b : Bool} (h : m S = some (.sh (.bl b), S1)) : qB m S = some (b, S1) := by
  unfold qB
  rw [h]
  rfl
theorem qNot_of {p : MT} {S S1 : Sto} {b : Bool} (h : p S = some (b, S1)) : qNot p S = some (!b, S1) := by
  unfold qNot
  rw [h]
  rfl
theorem sq_yes {q : MT} {m r : MS} {S S1 S' : Sto} {t : T} (h : q S = some (true, S1)) (h2 : m S1 = some (.rt t S')) : sSeq (sIf q m sNext) r S = some (.rt t S') := sSeq_rt (by rw [sIf_t h, h2])
theorem sq_no {q : MT} {m r : MS} {S S1 : Sto} (h : q S = some (false, S1)) : sSeq (sIf q m sNext) r S = r S1 := by
  rw [sSeq_nx (S1 := S1)]
  rw [sIf_f h]
  rfl
theorem sRet_of {me : ME} {S S' : Sto} {t : T} (h : me S = some (t, S')) : sRet me S = some (.rt t S') := by
  unfold sRet
  rw [h]
  rfl
theorem eIx_of {ma mb : ME} {S S1 S2 : Sto} {t u : T} {i : Int} {d : D} (h1 : ma S = some (t, S1)) (h2 : mb S1 = some (u, S2)) (h3 : fz u = .int i) (h4 : kid t i = some (.sh d)) : eIx ma mb S = some (.sh d, S2) := by
  unfold eIx
  rw [h1, Option.bind_some]
  simp only [h2, Option.bind_some, h3, h4]
  rfl
theorem eIxN_of {j : Nat} {mb : ME} {S S2 : Sto} {t0 t u : T} {i : Int} {d : D} (h0 : S[j]? = some (some t0)) (h2 : mb S = some (u, S2)) (h1 : S2[j]? = some (some t)) (h3 : fz u = .int i) (h4 : kid t i = some (.sh d)) : eIxN j mb S = some (.sh d, S2) := by
  unfold eIxN
  simp only [h0, h2, Option.bind_some, h1, h3, h4]
  rfl
theorem mForE_of {me : ME} {g : T → Sto → Option Sto} {b : MS} {S S1 : Sto} {t : T} {ds : List D} (h : me S = some (t, S1)) (h2 : fz t = .lst ds) : mFor (iList' me) g b S = loopF g b ds S1 := by
  refine mFor_of ?_
  unfold iList'
  rw [h, Option.bind_some]
  simp only [h2]
theorem iRng1E_of {m : ME} {S S1 : Sto} {n : Nat} (h : m S = some (tI n, S1)) (hn : n ≤ 1000000) : iRng1E m S = some (rngD 0 n, S1) := by
  unfold iRng1E
  rw [h, Option.bind_some]
  exact (if_pos (near_nat hn)).trans (by rw [Int.toNat_natCast])
theorem eVar_of {i : Nat} {S : Sto} {t : T} (h : S[i]? = some (some t)) : eVar i S = some (.sh (fz t), S.set i (some (.sh (fz t)))) := by
  unfold eVar
  rw [h]
  cases t with
  | sh d => rw [fz_sh, set_at h]
  | _ => rfl
theorem kid_lst {ts : List T} {i : Nat} {t : T} (h : ts[i]? = some t) : kid (.lst ts) (i : Nat) = some t := by
  show L2.atI ts _ = _
  rw [atI_pos, h]
theorem pa1_of {m : MP} {S : Sto} {x : D} (h : m S = some x) : paCons m (fun _ => some []) S = some [x] := by
  unfold paCons
  rw [h]
  rfl
theorem pa2_of {m m2 : MP} {S : Sto} {x y : D} (h : m S = some x) (h2 : m2 S = some y) : paCons m (paCons m2 (fun _ => some [])) S = some [x, y] := by
  unfold paCons
  rw [h, h2]
  rfl
end VS
namespace VS
open PySem PySem.Spec PyProof.Rows L2
/-! ### numbers drawn below given sizes -/
def cellB : MS := sSeq (sIf (ofB (pB (p2 dGt (pCall dLen (paCons (pV 0) ((fun _ => some [])))) (pC (.int 0))))) (sRet (ofP (p2 dIx (pV 0) (p2 dMod (pCall dInt (paCons (pV 1) ((fun _ => some [])))) (pCall dLen (paCons (pV 0) ((fun _ => some [])))))))) (sNext)) (sRet (ofP (pC (.int 0))))
def fCell : Fn := mkFn 2 2 [] cellB
abbrev d2Top : MS := (sSeq (sApp 6 (ofP (p2 dMod (pCall dInt (paCons (pV 5) ((fun _ => some [])))) (p2 dIx (pV 2) (pV 7))))) (sAsg (ofP (p2 dDiv (pV 5) (p2 dIx (pV 2) (pV 7)))) (putS 5)))
abbrev d2A : MS := (sAsg (ofP (p2 dMod (pCall dInt (paCons (p2 dAdd (p2 dMul (p2 dAdd (p2 dAdd (p2 dAdd (pV 4) (pC (.int 1))) (p2 dMul (pC (.int 31)) (pV 1))) (pV 7)) (pC (.int 48271))) (p2 dMul (pC (.int 69621)) (pV 7))) ((fun _ => some [])))) (p2 dIx (pV 3) (p2 dMod (pV 7) (pC (.int 8)))))) (putS 8))
abbrev d2B : MS := (sAsg (ofP (p2 dMod (pCall dInt (paCons (p2 dAdd (p2 dAdd (p2 dMul (pV 8) (pV 8)) (p2 dMul (pC (.int 16807)) (pV 7))) (pV 1)) ((fun _ => some [])))) (p2 dIx (pV 3) (p2 dMod (p2 dAdd (pV 7) (pC (.int 3))) (pC (.int 8)))))) (putS 9))
abbrev d2C : MS := (sAsg (ofP (p2 dMod (pCall dInt (paCons (p2 dAdd (p2 dAdd (p2 dMul (pV 9) (pC (.int 69621))) (p2 dMul (pV 8) (pC (.int 16807)))) (pV 7)) ((fun _ => some [])))) (p2 dIx (pV 3) (p2 dMod (p2 dAdd (pV 7) (pC (.int 5))) (pC (.int 8)))))) (putS 9))
abbrev d2D : MS := (sApp 6 (ofP (p2 dMod (pCall dInt (paCons (p2 dDiv (pV 9) (pC (.int 16))) ((fun _ => some [])))) (p2 dIx (pV 2) (pV 7)))))
abbrev d2Body : MS := (sIf (ofB (pB (p2 dGt (pV 5) (pC (.int 0))))) d2Top (sSeq d2A (sSeq d2B (sSeq d2C d2D))))
abbrev d2Pr : MS := (sAsg (eLst (aCons (ofP (pC (.int 2147483647))) (aCons (ofP (pC (.int 998244353))) (aCons (ofP (pC (.int 1000000007))) (aCons (ofP (pC (.int 1000000009))) (aCons (ofP (pC (.int 4294967291))) (aCons (ofP (pC (.int 1073741789))) (aCons (ofP (pC (.int 536870909))) (aCons (ofP (pC (.int 2305843009213693951))) (aNil)))))))))) (putS 3))
def d2F : MS := sSeq d2Pr (sSeq (sAsg (eC1 dAbs (eCall fCell [some 0, some 1] (aMv 0 (aMv 1 (aNil))))) (putS 4)) (sSeq (sAsg (ofP (pC (.int 0))) (putS 5)) (sSeq (sIf (ofB (pB (p2 dGe (pV 4) (p2 dPow (pC (.int 10)) (pC (.int 18)))))) (sAsg (eVar 4) (putS 5)) (sNext)) (sSeq (sAsg (eLst (aNil)) (putS 6)) (sSeq (mFor (iRng1' (paCons (pCall dLen (paCons (pV 2) ((fun _ => some [])))) ((fun _ => some [])))) (putS 7) d2Body) (sRet (eMov 6)))))))
def fDraws2 : Fn := mkFn 3 10 [] d2F
def PRM : List Int := [2147483647, 998244353, 1000000007, 1000000009, 4294967291, 1073741789, 536870909, 2305843009213693951]
theorem PRM_ok : ∀ p ∈ PRM, 0 < p ∧ p ≤ 2305843009213693951 := by decide
theorem dMul_l {i j : Int} (h : small64 i = true) : dMul (.int i) (.int j) = some (.int (i * j)) := by
  show (if (small64 i || small64 j) = true then _ else _) = _
  rw [if_pos (by rw [h, Bool.true_or])]
theorem small_big {i : Int} (h1 : 0 ≤ i) (h2 : i < 2305843009213693951) : small64 i = true := by
  unfold small64
  exact decide_eq_true (by omega)
theorem dLen_ints (ns : List Int) : dLen [.lst (ns.map .int)] = some (.int (ns.length : Nat)) := by
  show some (D.int ((ns.map D.int).length : Nat)) = _
  rw [List.length_map]
theorem dIx_ints {ns : List Int} {j : Nat} (h : j < ns.length) : dIx (.lst (ns.map .int)) (.int (j : Nat)) = some (.int ns[j]) := by
  show L2.atI (ns.map D.int) _ = _
  rw [atI_pos, List.getElem?_map, List.getElem?_eq_getElem h]
  rfl
theorem dMod_nat {k n : Nat} (h : 0 < n) : dMod (.int (k : Nat)) (.int (n : Nat)) = some (.int (k % n : Nat)) := by
  rw [dMod_of (by omega), Int.fmod_eq_emod_of_nonneg _ (by omega)]
  rfl
theorem cell_eq {ns : List Int} {place : Nat} : ∃ c : Int, fCell [.sh (.lst (ns.map .int)), tI place] = some (tZ c, [some (.sh (.lst (ns.map .int))), some (tI place)]) := by
  have tst : (ofB (pB (p2 dGt (pCall dLen (paCons (pV 0) ((fun _ => some [])))) (pC (.int 0))))) [some (.sh (.lst (ns.map .int))), some (tI place)] = some (decide (0 < ns.length), [some (.sh (.lst (ns.map .int))), some (tI place)]) := by
    refine ofB_of (pB_of (p2_of (pc1_of rfl (dLen_ints ns)) rfl ?_))
    show some (D.bl (decide ((0 : Int) < (ns.length : Int)))) = _
    congr 2
    rw [Bool.eq_iff_iff]
    simp
  by_cases h : 0 < ns.length
  · rw [decide_eq_true h] at tst
    have hk : place % ns.length < ns.length := Nat.mod_lt _ h
    refine ⟨ns[place % ns.length], ?_⟩
    have e : cellB [some (.sh (.lst (ns.map .int))), some (tI place)] = some (.rt (tZ ns[place % ns.length]) [some (.sh (.lst (ns.map .int))), some (tI place)]) :=
      sq_yes tst (sRet_of (ofP_of (p2_of rfl (p2_of (pc1_of rfl rfl) (pc1_of rfl (dLen_ints ns)) (dMod_nat h)) (dIx_ints hk)) rfl))
    exact mkFn_rt (np := 2) (ns := 2) (as := []) (S := [some (.sh (.lst (ns.map .int))), some (tI place)]) rfl rfl e
  · rw [decide_eq_false h] at tst
    refine ⟨0, ?_⟩
    have e : cellB [some (.sh (.lst (ns.map .int))), some (tI place)] = some (.rt (tZ 0) [some (.sh (.lst (ns.map .int))), some (tI place)]) := (sq_no tst).trans rfl
    exact mkFn_rt (np := 2) (ns := 2) (as := []) (S := [some (.sh (.lst (ns.map .int))), some (tI place)]) rfl rfl e
abbrev d2S (sc : T) (pl : Nat) (sz : T) (c r : Int) (ds : List Int) (o7 o8 o9 : Option T) : Sto := [some sc, some (tI pl), some sz, some (.lst (PRM.map tZ)), some (tZ c), some (tZ r), some (.lst (ds.map tZ)), o7, o8, o9]
theorem map_snoc (ds : List Int) (x : Int) : (ds ++ [x]).map tZ = ds.map tZ ++ [tZ x] := by rw [List.map_append]; rfl
theorem d2_body {sc sz : T} {szs : List Int} {pl k : Nat} {c r : Int} {ds : List Int} {o8 o9 : Option T} (hz : fz sz = .lst (szs.map .int)) (hk : k < szs.length) (h0 : 0 < szs[k]) (hb : szs[k].natAbs.log2 < 9000) (hd : ds.length ≤ 1000000) :
    ∃ d r' o8' o9', 0 ≤ d ∧ d < szs[k] ∧ d2Body (d2S sc pl sz c r ds (some (tI k)) o8 o9) = some (.nx (d2S sc pl sz c r' (ds ++ [d]) (some (tI k)) o8' o9')) := by
  have hwn : (ds.map tZ).length < sizeLine := by rw [List.length_map, sizeLine_val]; omega
  have tst : (ofB (pB (p2 dGt (pV 5) (pC (.int 0))))) (d2S sc pl sz c r ds (some (tI k)) o8 o9) = some (decide (0 < r), d2S sc pl sz c r ds (some (tI k)) o8 o9) :=
    ofB_of (pB_of (p2_of rfl rfl rfl))
  have ixz {o8 o9 : Option T} {r : Int} {ds : List Int} : (p2 dIx (pV 2) (pV 7)) (d2S sc pl sz c r ds (some (tI k)) o8 o9) = some (.int szs[k]) :=
    p2_of (x := .lst (szs.map .int)) (congrArg some hz) rfl (dIx_ints hk)
  by_cases hr : 0 < r
  · rw [decide_eq_true hr] at tst
    refine ⟨r.fmod szs[k], r.fdiv szs[k], o8, o9, fm_lo _ h0, fm_hi _ h0, ?_⟩
    rw [d2Body, sIf_t tst, d2Top]
    have n1 := sApp_of (j := 6) (me := ofP (p2 dMod (pCall dInt (paCons (pV 5) ((fun _ => some [])))) (p2 dIx (pV 2) (pV 7)))) (S := d2S sc pl sz c r ds (some (tI k)) o8 o9) (us := ds.map tZ) rfl (ofP_of (p2_of (pc1_of rfl rfl) ixz (dMod_of h0)) rfl) rfl hwn
    rw [sSeq_nx n1]
    have e : (d2S sc pl sz c r ds (some (tI k)) o8 o9).set 6 (some (.lst (ds.map tZ ++ [T.sh (D.int (r.fmod szs[k]))]))) = d2S sc pl sz c r (ds ++ [r.fmod szs[k]]) (some (tI k)) o8 o9 := by
      unfold d2S
      rw [map_snoc]
      rfl
    rw [e]
    exact sAsg_of (ofP_of (p2_of rfl ixz (dDiv_of (Int.ne_of_gt h0) hb)) rfl) rfl
  · rw [decide_eq_false hr] at tst
    have pr : ∀ (n : Nat) {o8 o9 : Option T}, ∃ p : Int, 0 < p ∧ p ≤ 2305843009213693951 ∧ dIx (.lst (PRM.map .int)) (.int (n % 8 : Nat)) = some (.int p) := fun n _ _ => by
      have h8 : n % 8 < PRM.length := Nat.mod_lt _ (by decide)
      exact ⟨PRM[n % 8], (PRM_ok _ (List.getElem_mem h8)).1, (PRM_ok _ (List.getElem_mem h8)).2, dIx_ints h8⟩
    have fzp : fz (.lst (PRM.map tZ)) = .lst (PRM.map .int) := fz_lst_tZ PRM
    obtain ⟨q1, a1, b1, i1⟩ := pr k (o8 := none) (o9 := none)
    obtain ⟨q2, a2, b2, i2⟩ := pr (k + 3) (o8 := none) (o9 := none)
    obtain ⟨q3, a3, b3, i3⟩ := pr (k + 5) (o8 := none) (o9 := none)
    have s1 (i : Int) := dMul_r (i := i) (j := 48271) (small_of (by omega) (by omega))
    have s2 (j : Int) := dMul_l (i := 69621) (j := j) (small_of (by omega) (by omega))
    have s3 (j : Int) := dMul_l (i := 31) (j := j) (small_of (by omega) (by omega))
    have s4 (j : Int) := dMul_l (i := 16807) (j := j) (small_of (by omega) (by omega))
    have s5 (i : Int) := dMul_r (i := i) (j := 69621) (small_of (by omega) (by omega))
    have s6 (i : Int) := dMul_r (i := i) (j := 16807) (small_of (by omega) (by omega))
    have m1 : ∃ f : Int, 0 ≤ f ∧ f < 2305843009213693951 ∧ d2A (d2S sc pl sz c r ds (some (tI k)) o8 o9) = some (.nx (d2S sc pl sz c r ds (some (tI k)) (some (tZ f)) o9)) :=
      ⟨_, fm_lo _ a1, Int.lt_of_lt_of_le (fm_hi _ a1) b1, sAsg_of (ofP_of (p2_of (pc1_of (p2_of (p2_of (p2_of (p2_of (p2_of rfl rfl rfl) (p2_of rfl rfl (s3 _)) rfl) rfl rfl) rfl (s1 _)) (p2_of rfl rfl (s2 _)) rfl) rfl) (p2_of (x := .lst (PRM.map .int)) (congrArg some fzp) (p2_of rfl rfl (dMod_nat (n := 8) (by decide))) i1) (dMod_of a1)) rfl) rfl⟩
    obtain ⟨f, f0, f1, n1⟩ := m1
    have sf (i : Int) := dMul_r (i := i) (j := f) (small_big f0 f1)
    have m2 : ∃ g : Int, 0 ≤ g ∧ g < 2305843009213693951 ∧ d2B (d2S sc pl sz c r ds (some (tI k)) (some (tZ f)) o9) = some (.nx (d2S sc pl sz c r ds (some (tI k)) (some (tZ f)) (some (tZ g)))) :=
      ⟨_, fm_lo _ a2, Int.lt_of_lt_of_le (fm_hi _ a2) b2, sAsg_of (ofP_of (p2_of (pc1_of (p2_of (p2_of (p2_of rfl rfl (sf _)) (p2_of rfl rfl (s4 _)) rfl) rfl rfl) rfl) (p2_of (x := .lst (PRM.map .int)) (congrArg some fzp) (p2_of (p2_of rfl rfl rfl) rfl (dMod_nat (k := k + 3) (n := 8) (by decide))) i2) (dMod_of a2)) rfl) rfl⟩
    obtain ⟨g, g0, g1, n2⟩ := m2
    have m3 : ∃ e : Int, 0 ≤ e ∧ d2C (d2S sc pl sz c r ds (some (tI k)) (some (tZ f)) (some (tZ g))) = some (.nx (d2S sc pl sz c r ds (some (tI k)) (some (tZ f)) (some (tZ e)))) :=
      ⟨_, fm_lo _ a3, sAsg_of (ofP_of (p2_of (pc1_of (p2_of (p2_of (p2_of rfl rfl (s5 _)) (p2_of rfl rfl (s6 _)) rfl) rfl rfl) rfl) (p2_of (x := .lst (PRM.map .int)) (congrArg some fzp) (p2_of (p2_of rfl rfl rfl) rfl (dMod_nat (k := k + 5) (n := 8) (by decide))) i3) (dMod_of a3)) rfl) rfl⟩
    obtain ⟨e, e0, n3⟩ := m3
    refine ⟨(e.fdiv 16).fmod szs[k], r, some (tZ f), some (tZ e), fm_lo _ h0, fm_hi _ h0, ?_⟩
    have n4 := sApp_of (j := 6) (me := ofP (p2 dMod (pCall dInt (paCons (p2 dDiv (pV 9) (pC (.int 16))) ((fun _ => some [])))) (p2 dIx (pV 2) (pV 7)))) (S := d2S sc pl sz c r ds (some (tI k)) (some (tZ f)) (some (tZ e))) (us := ds.map tZ) rfl (ofP_of (p2_of (pc1_of (p2_of rfl rfl (dDiv_of (by omega) (by decide +kernel))) rfl) ixz (dMod_of h0)) rfl) rfl hwn
    rw [d2Body, sIf_f tst, sSeq_nx n1, sSeq_nx n2, sSeq_nx n3, d2D, n4]
    unfold d2S
    rw [map_snoc]
    rfl
/-- what may be asked of a size -/
def SzOk (szs : List Int) : Prop := ∀ z ∈ szs, 0 < z ∧ z.natAbs.log2 < 9000
theorem d2_loop {sc sz : T} {szs : List Int} {pl : Nat} {c : Int} (hz : fz sz = .lst (szs.map .int)) (ok : SzOk szs) (hl : szs.length ≤ 1000000) : ∀ (n k : Nat) (r : Int) (ds : List Int) (o7 o8 o9 : Option T), k + n = szs.length → ds.length = k → (∀ (i : Nat) (a b : Int), ds[i]? = some a → szs[i]? = some b → 0 ≤ a ∧ a < b) →
    ∃ (ds' : List Int) (r' : Int) (o7' o8' o9' : Option T), ds'.length = szs.length ∧ (∀ (i : Nat) (a b : Int), ds'[i]? = some a → szs[i]? = some b → 0 ≤ a ∧ a < b) ∧ loopF (putS 7) d2Body (rngD (k : Nat) n) (d2S sc pl sz c r ds o7 o8 o9) = some (.nx (d2S sc pl sz c r' ds' o7' o8' o9'))
  | 0, k, r, ds, o7, o8, o9, h, hd, hp => ⟨ds, r, o7, o8, o9, by omega, hp, rfl⟩
  | n + 1, k, r, ds, o7, o8, o9, h, hd, hp => by
    have hk : k < szs.length := by omega
    have hok := ok szs[k] (List.getElem_mem hk)
    obtain ⟨d, r1, a8, a9, d0, d1, e⟩ := d2_body (sc := sc) (sz := sz) (pl := pl) (k := k) (c := c) (r := r) (ds := ds) (o8 := o8) (o9 := o9) hz hk hok.1 hok.2 (by omega)
    obtain ⟨ds', r', b7, b8, b9, h1, h2, h3⟩ := d2_loop (sc := sc) (pl := pl) (c := c) hz ok hl n (k + 1) r1 (ds ++ [d]) (some (tI k)) a8 a9 (by omega) (by rw [List.length_append, List.length_singleton]; omega) (fun i a b ha hb => by
      by_cases hi : i < ds.length
      · rw [List.getElem?_append_left hi] at ha
        exact hp i a b ha hb
      · have hi2 : i = k := by
          have := (List.getElem?_eq_some_iff.mp ha).1
          rw [List.length_append, List.length_singleton] at this
          omega
        rw [hi2, ← hd, List.getElem?_concat_length] at ha
        rw [hi2, List.getElem?_eq_getElem hk] at hb
        cases ha
        cases hb
        exact ⟨d0, d1⟩)
    refine ⟨ds', r', b7, b8, b9, h1, h2, ?_⟩
    rw [rng_cons, loop_nx (S1 := d2S sc pl sz c r ds (some (tI k)) o8 o9) rfl e]
    exact h3
/-- the draws: as many as sizes, each below its size -/
theorem draws2_eq {ns : List Int} {pl : Nat} {sz : T} {szs : List Int} (hz : fz sz = .lst (szs.map .int)) (ok : SzOk szs) (hl : szs.length ≤ 1000000) :
    ∃ ds : List Int, ds.length = szs.length ∧ (∀ (i : Nat) (a b : Int), ds[i]? = some a → szs[i]? = some b → 0 ≤ a ∧ a < b) ∧ fDraws2 [.sh (.lst (ns.map .int)), tI pl, sz] = some (.lst (ds.map tZ), [some (.sh (.lst (ns.map .int))), some (tI pl), some sz]) := by
  obtain ⟨c0, hc⟩ := cell_eq (ns := ns) (place := pl)
  let c : Int := if c0 < 0 then -c0 else c0
  have n1 : d2Pr [some (.sh (.lst (ns.map .int))), some (tI pl), some sz, none, none, none, none, none, none, none] = some (.nx [some (.sh (.lst (ns.map .int))), some (tI pl), some sz, some (.lst (PRM.map tZ)), none, none, none, none, none, none]) := by
    simp [d2Pr, sAsg, eLst, aCons, aNil, ofP, pC, putS, PRM]
  have n2 : (sAsg (eC1 dAbs (eCall fCell [some 0, some 1] (aMv 0 (aMv 1 (aNil))))) (putS 4)) [some (.sh (.lst (ns.map .int))), some (tI pl), some sz, some (.lst (PRM.map tZ)), none, none, none, none, none, none] = some (.nx [some (.sh (.lst (ns.map .int))), some (tI pl), some sz, some (.lst (PRM.map tZ)), some (tZ c), none, none, none, none, none]) := by
    refine sAsg_of (t := tZ c) (S1 := [some (.sh (.lst (ns.map .int))), some (tI pl), some sz, some (.lst (PRM.map tZ)), none, none, none, none, none, none]) ?_ rfl
    have e := eCall_of (f := fCell) (ms := [some 0, some 1]) (ts := [.sh (.lst (ns.map .int)), tI pl]) (S := [some (.sh (.lst (ns.map .int))), some (tI pl), some sz, some (.lst (PRM.map tZ)), none, none, none, none, none, none]) (S1 := [none, none, some sz, some (.lst (PRM.map tZ)), none, none, none, none, none, none]) (ma := aMv 0 (aMv 1 (aNil))) rfl hc rfl
    unfold eC1
    rw [e]
    rfl
  have n3 : (sAsg (ofP (pC (.int 0))) (putS 5)) [some (.sh (.lst (ns.map .int))), some (tI pl), some sz, some (.lst (PRM.map tZ)), some (tZ c), none, none, none, none, none] = some (.nx [some (.sh (.lst (ns.map .int))), some (tI pl), some sz, some (.lst (PRM.map tZ)), some (tZ c), some (tZ 0), none, none, none, none]) := rfl
  have pw : dPow (.int 10) (.int 18) = some (.int 1000000000000000000) := by kernel_rfl
  have tst : (ofB (pB (p2 dGe (pV 4) (p2 dPow (pC (.int 10)) (pC (.int 18)))))) [some (.sh (.lst (ns.map .int))), some (tI pl), some sz, some (.lst (PRM.map tZ)), some (tZ c), some (tZ 0), none, none, none, none] = some (decide (1000000000000000000 ≤ c), [some (.sh (.lst (ns.map .int))), some (tI pl), some sz, some (.lst (PRM.map tZ)), some (tZ c), some (tZ 0), none, none, none, none]) :=
    ofB_of (pB_of (p2_of rfl (p2_of rfl rfl pw) rfl))
  have n4 : ∃ r : Int, (sIf (ofB (pB (p2 dGe (pV 4) (p2 dPow (pC (.int 10)) (pC (.int 18)))))) (sAsg (eVar 4) (putS 5)) (sNext)) [some (.sh (.lst (ns.map .int))), some (tI pl), some sz, some (.lst (PRM.map tZ)), some (tZ c), some (tZ 0), none, none, none, none] = some (.nx [some (.sh (.lst (ns.map .int))), some (tI pl), some sz, some (.lst (PRM.map tZ)), some (tZ c), some (tZ r), none, none, none, none]) := by
    by_cases h : 1000000000000000000 ≤ c
    · rw [decide_eq_true h] at tst
      exact ⟨c, by rw [sIf_t tst]; rfl⟩
    · rw [decide_eq_false h] at tst
      exact ⟨0, by rw [sIf_f tst]; rfl⟩
  obtain ⟨r, n4⟩ := n4
  have n5 : (sAsg (eLst (aNil)) (putS 6)) [some (.sh (.lst (ns.map .int))), some (tI pl), some sz, some (.lst (PRM.map tZ)), some (tZ c), some (tZ r), none, none, none, none] = some (.nx (d2S (.sh (.lst (ns.map .int))) pl sz c r [] none none none)) := rfl
  obtain ⟨ds, r', o7, o8, o9, h1, h2, h3⟩ := d2_loop (sc := .sh (.lst (ns.map .int))) (pl := pl) (c := c) hz ok hl szs.length 0 r [] none none none (by omega) rfl (fun i a b ha _ => by simp at ha)
  have ei : (iRng1' (paCons (pCall dLen (paCons (pV 2) ((fun _ => some [])))) ((fun _ => some [])))) (d2S (.sh (.lst (ns.map .int))) pl sz c r [] none none none) = some (rngD 0 szs.length, d2S (.sh (.lst (ns.map .int))) pl sz c r [] none none none) := by
    exact iRng1_of (pa1_of (pc1_of (x := .lst (szs.map .int)) (congrArg some hz) (dLen_ints szs))) hl
  refine ⟨ds, h1, h2, ?_⟩
  have e : d2F [some (.sh (.lst (ns.map .int))), some (tI pl), some sz, none, none, none, none, none, none, none] = some (.rt (.lst (ds.map tZ)) ((d2S (.sh (.lst (ns.map .int))) pl sz c r' ds o7 o8 o9).set 6 none)) := by
    rw [d2F, sSeq_nx n1, sSeq_nx n2, sSeq_nx n3, sSeq_nx n4, sSeq_nx n5, sSeq_nx ((mFor_of ei).trans h3)]
    rfl
  exact mkFn_rt (np := 3) (ns := 10) (as := []) (S := [some (.sh (.lst (ns.map .int))), some (tI pl), some sz, none, none, none, none, none, none, none]) rfl rfl e
end VS
namespace K23
open PySem PySem.Spec PyProof.Rows L2 VS
def topS (i : Nat) : Stmt := PySem.Challenge.pw_swornon_k23_wrong_rows_of_papers.main.body.getD i (.Pass ⟨0, 0, 0, 0⟩)
def clsB : Stmt → List Stmt
  | .ClassDef _ _ _ b _ _ _ _ _ _ _ => b
  | _ => []
def methS (i j : Nat) : Stmt := (clsB (topS i)).getD j (.Pass ⟨0, 0, 0, 0⟩)
abbrev st_BadLine___init__ : Stmt := methS 3 0
abbrev st_Paper___init__ : Stmt := methS 13 0
abbrev st_read_number : Stmt := topS 14
abbrev st_read_token : Stmt := topS 15
abbrev st_read_count : Stmt := topS 16
abbrev st_read_paper : Stmt := topS 17
abbrev st_f_law_draws : Stmt := topS 19
abbrev st_f_law_take : Stmt := topS 20
abbrev st_f_law_wide : Stmt := topS 21
abbrev st_f_law_number : Stmt := topS 22
abbrev st_f_law_line : Stmt := topS 23
abbrev st_f_law_token : Stmt := topS 24
abbrev st_f_law_lines : Stmt := topS 25
abbrev st_f_law_rows : Stmt := topS 26
abbrev st_f_law_tokens : Stmt := topS 27
abbrev st_f_law_pick : Stmt := topS 28
abbrev st_f_law_wrong_first : Stmt := topS 29
abbrev st_f_law_wrong_name : Stmt := topS 30
abbrev st_f_law_wrong_token : Stmt := topS 31
abbrev st_f_law_spoilt_number : Stmt := topS 32
abbrev st_f_law_spoilt : Stmt := topS 33
abbrev st_f_law_row_of : Stmt := topS 34
abbrev st_law : Stmt := topS 35
def tab_COUNTS : List (Str × D) := [("on", .int 0), ("over", .int 0), ("pair", .int 2), ("write", .int 1), ("either", .int 1), ("all", .int 2), ("match", .int 2), ("sorted", .int 3), ("below", .int 3)]
/-! ### the defs as functions -/
def b_Paper___init__ (C_Paper : Addr) : MS := sSeq (sFldS C_Paper "text" 0 (eVar 1)) (sSeq (sFldS C_Paper "name" 0 (eVar 2)) (sFldS C_Paper "tokens" 0 (eVar 3)))
def Paper___init__ (C_Paper : Addr) : Fn := mkFn 4 4 [] (b_Paper___init__ C_Paper)
def b_read_number : MS := sSeq (sIf (ofB (bOr (bNot (pB (pChain dLe dLe (pC (.int 1)) (pCall dLen (paCons (pV 0) ((fun _ => some [])))) (pC (.int 12))))) (bAnd (pB (p2 dEq (p2 dIx (pV 0) (pC (.int 0))) (pC (.str "0")))) (pB (p2 dNe (pV 0) (pC (.str "0"))))))) (sRet (ofP (pC .non))) (sNext)) (sSeq (mFor (iStr' (pV 0)) (putS 1) (sIf (ofB (pB (p2 dNotIn (pV 1) (pC (.str "0123456789"))))) (sRet (ofP (pC .non))) (sNext))) (sRet (ofP (pCall dIntS (paCons (pV 0) ((fun _ => some [])))))))
def read_number : Fn := mkFn 1 2 [] b_read_number
def b_read_token : MS := sSeq (sAsg (eSplit (eVar 0) (ofP (pC (.str " ")))) (putS 1)) (sSeq (sAsg (eLc (iList' (eSlL (eVar 1) (oPart (some (pC (.int 1)))) (oPart none))) (putS 3) (qYes) (eCall read_number [some 3] (aMv 3 (aNil))) [3]) (putS 2)) (sSeq (sIf (ofB (pB (p2 dIn (pC .non) (pV 2)))) (sRet (ofP (pC .non))) (sNext)) (sSeq (sIf (ofB (pB (p2 dEq (p2 dIx (pV 1) (pC (.int 0))) (pC (.str "dead"))))) (sRet (eIf (ofB (pB (p2 dGt (pCall dLen (paCons (pV 2) ((fun _ => some [])))) (pC (.int 0))))) (eTup (aCons (ofP (pC (.str "dead"))) (aCons (eTupOf (aCons (eVar 2) (aNil))) (aNil)))) (ofP (pC .non)))) (sNext)) (sSeq (sIf (ofB (bOr (pB (p1 (dNotInTab tab_COUNTS) (p2 dIx (pV 1) (pC (.int 0))))) (pB (p2 dNe (pCall dLen (paCons (pV 2) ((fun _ => some [])))) (p1 (dIxTab tab_COUNTS) (p2 dIx (pV 1) (pC (.int 0)))))))) (sRet (ofP (pC .non))) (sNext)) (sRet (e2T catT (eTup (aCons (ofP (p2 dIx (pV 1) (pC (.int 0)))) (aNil))) (eTupOf (aCons (eVar 2) (aNil)))))))))
def read_token : Fn := mkFn 1 4 [] b_read_token
def b_read_count : MS := sSeq (sIf (ofB (pB (p2 dNe (pSlS (pV 0) (oPart none) (oPart (some (pC (.int 5))))) (pC (.str "text "))))) (sRet (ofP (pC .non))) (sNext)) (sSeq (sAsg (eCall read_number [none] (aCons (ofP (pSlS (pV 0) (oPart (some (pC (.int 5)))) (oPart none))) (aNil))) (putS 1)) (sSeq (sIf (ofB (pB (p2 dEq (pV 1) (pC (.int 0))))) (sRet (ofP (pC .non))) (sNext)) (sRet (eMov 1))))
def read_count : Fn := mkFn 1 2 [] b_read_count
def x_read_paper (C_Paper : Addr) : List T → Option Int := mkX 1 6 (xSeq (xOf (sAsg (eSplit (eVar 0) (ofP (pC (.str "\n")))) (putS 1))) (xSeq (xOf (sAsg (eCall read_count [none] (aCons (ofP (p2 dIx (pV 1) (pC (.int 0)))) (aNil))) (putS 2))) (xSeq (xIf (ofB (pB (p2 dIsN (pV 2) (pC .non)))) (xSeq (xRaise (ofP (pC (.int 1)))) (xNext)) (xNext)) (xSeq (xIf (ofB (pB (p2 dGt (p2 dAdd (pV 2) (pC (.int 2))) (pCall dLen (paCons (pV 1) ((fun _ => some []))))))) (xSeq (xRaise (ofP (p2 dAdd (pCall dLen (paCons (pV 1) ((fun _ => some [])))) (pC (.int 1))))) (xNext)) (xNext)) (xSeq (xIf (ofB (pB (p2 dNe (pSlS (p2 dIx (pV 1) (p2 dAdd (pV 2) (pC (.int 1)))) (oPart none) (oPart (some (pC (.int 5))))) (pC (.str "proc "))))) (xSeq (xRaise (ofP (p2 dAdd (pV 2) (pC (.int 2))))) (xNext)) (xNext)) (xSeq (xOf (sAsg (eLst (aNil)) (putS 3))) (xSeq (xFor (iRng2' (paCons (p2 dAdd (pV 2) (pC (.int 2))) (paCons (pCall dLen (paCons (pV 1) ((fun _ => some [])))) ((fun _ => some []))))) (putS 4) (xSeq (xOf (sAsg (eCall read_token [none] (aCons (ofP (p2 dIx (pV 1) (pV 4))) (aNil))) (putS 5))) (xSeq (xIf (ofB (pB (p2 dIsN (pV 5) (pC .non)))) (xSeq (xRaise (ofP (p2 dAdd (pV 4) (pC (.int 1))))) (xNext)) (xNext)) (xSeq (xOf (sApp 3 (eVar 5))) (xNext))))) (xSeq (xIf (ofB (pB (p2 dEq (pCall dLen (paCons (pV 3) ((fun _ => some [])))) (pC (.int 0))))) (xSeq (xRaise (ofP (p2 dAdd (pCall dLen (paCons (pV 1) ((fun _ => some [])))) (pC (.int 1))))) (xNext)) (xNext)) (xSeq (xOf (sRet (eNew C_Paper (Paper___init__ C_Paper) [none, none, none] (aCons (e2M joinD (ofP (pC (.str "\n"))) (eSlL (eVar 1) (oPart (some (pC (.int 1)))) (oPart (some (p2 dAdd (pV 2) (pC (.int 1))))))) (aCons (ofP (pSlS (p2 dIx (pV 1) (p2 dAdd (pV 2) (pC (.int 1)))) (oPart (some (pC (.int 5)))) (oPart none))) (aCons (eTupOf (aCons (eVar 3) (aNil))) (aNil))))))) (xNext))))))))))
def b_read_paper (C_Paper : Addr) : MS := sSeq (sAsg (eSplit (eVar 0) (ofP (pC (.str "\n")))) (putS 1)) (sSeq (sAsg (eCall read_count [none] (aCons (ofP (p2 dIx (pV 1) (pC (.int 0)))) (aNil))) (putS 2)) (sSeq (sIf (ofB (pB (p2 dIsN (pV 2) (pC .non)))) (sNever) (sNext)) (sSeq (sIf (ofB (pB (p2 dGt (p2 dAdd (pV 2) (pC (.int 2))) (pCall dLen (paCons (pV 1) ((fun _ => some []))))))) (sNever) (sNext)) (sSeq (sIf (ofB (pB (p2 dNe (pSlS (p2 dIx (pV 1) (p2 dAdd (pV 2) (pC (.int 1)))) (oPart none) (oPart (some (pC (.int 5))))) (pC (.str "proc "))))) (sNever) (sNext)) (sSeq (sAsg (eLst (aNil)) (putS 3)) (sSeq (mFor (iRng2' (paCons (p2 dAdd (pV 2) (pC (.int 2))) (paCons (pCall dLen (paCons (pV 1) ((fun _ => some [])))) ((fun _ => some []))))) (putS 4) (sSeq (sAsg (eCall read_token [none] (aCons (ofP (p2 dIx (pV 1) (pV 4))) (aNil))) (putS 5)) (sSeq (sIf (ofB (pB (p2 dIsN (pV 5) (pC .non)))) (sNever) (sNext)) (sApp 3 (eVar 5))))) (sSeq (sIf (ofB (pB (p2 dEq (pCall dLen (paCons (pV 3) ((fun _ => some [])))) (pC (.int 0))))) (sNever) (sNext)) (sRet (eNew C_Paper (Paper___init__ C_Paper) [none, none, none] (aCons (e2M joinD (ofP (pC (.str "\n"))) (eSlL (eVar 1) (oPart (some (pC (.int 1)))) (oPart (some (p2 dAdd (pV 2) (pC (.int 1))))))) (aCons (ofP (pSlS (p2 dIx (pV 1) (p2 dAdd (pV 2) (pC (.int 1)))) (oPart (some (pC (.int 5)))) (oPart none))) (aCons (eTupOf (aCons (eVar 3) (aNil))) (aNil)))))))))))))
def read_paper (C_Paper : Addr) : Fn := mkFn 1 6 [] (b_read_paper C_Paper)
def b_f_law_draws : MS := sSeq (sAsg (eLc (iList' (eVar 0)) (putS 2) (qYes) (ofP (pCall dAbs (paCons (pCall dInt (paCons (pV 2) ((fun _ => some [])))) ((fun _ => some []))))) [2]) (putS 3)) (sSeq (sAsg (eLst (aNil)) (putS 4)) (sSeq (mFor (iRng1' (paCons (pV 1) ((fun _ => some [])))) (putS 5) (sSeq (sAsg (eVar 5) (putS 2)) (sSeq (sIf (ofB (pB (p2 dGt (pCall dLen (paCons (pV 0) ((fun _ => some [])))) (pC (.int 0))))) (sSeq (sAsg (ofP (p2 dMod (pV 5) (pCall dLen (paCons (pV 0) ((fun _ => some [])))))) (putS 6)) (sSeq (sAsg (ofP (pCall dInt (paCons (p2 dIx (pV 0) (pV 6)) ((fun _ => some []))))) (putS 2)) (sIf (ofB (bAnd (pB (p2 dGe (pV 2) (p2 dPow (pC (.int 10)) (pC (.int 18))))) (pB (p2 dGt (p2 dIx (pV 3) (pV 6)) (pC (.int 0)))))) (sSeq (sApp 4 (ofP (p2 dMod (pCall dInt (paCons (p2 dIx (pV 3) (pV 6)) ((fun _ => some [])))) (pC (.int 1000003))))) (sSeq (sSetI 3 (ofP (p2 dDiv (pCall dInt (paCons (p2 dIx (pV 3) (pV 6)) ((fun _ => some [])))) (pC (.int 1000003)))) (eVar 6)) (sCont))) (sNext)))) (sNext)) (sSeq (sAsg (ofP (p2 dMod (pCall dInt (paCons (p2 dAdd (p2 dAdd (p2 dMul (pV 2) (pC (.int 48271))) (p2 dMul (pV 5) (pC (.int 69621)))) (pC (.int 11))) ((fun _ => some [])))) (pC (.int 2147483647)))) (putS 7)) (sSeq (sAsg (ofP (p2 dMod (pCall dInt (paCons (p2 dAdd (p2 dDiv (p2 dMul (pV 7) (pV 7)) (pC (.int 4096))) (pV 7)) ((fun _ => some [])))) (pC (.int 2147483629)))) (putS 7)) (sApp 4 (ofP (p2 dMod (pCall dInt (paCons (p2 dAdd (p2 dDiv (p2 dMul (pV 7) (pV 7)) (pC (.int 4096))) (p2 dMul (pV 5) (pC (.int 7919)))) ((fun _ => some [])))) (pC (.int 2147483629)))))))))) (sRet (eMov 4))))
def f_law_draws : Fn := mkFn 2 8 [] b_f_law_draws
def b_f_law_take : MS := sSeq (sAsg (eIxN 0 (ofP (pC (.int 1)))) (putS 2)) (sSeq (sSetI 0 (ofP (p2 dAdd (pV 2) (pC (.int 1)))) (ofP (pC (.int 1)))) (sSeq (sAsg (eIxN 0 (ofP (pC (.int 0)))) (putS 3)) (sSeq (sIf (ofB (pB (p2 dGe (pV 2) (pCall dLen (paCons (pV 3) ((fun _ => some []))))))) (sRet (ofP (pC (.int 0)))) (sNext)) (sRet (ofP (p2 dMod (p2 dDiv (pCall dInt (paCons (p2 dIx (pV 3) (pV 2)) ((fun _ => some [])))) (pC (.int 7))) (pV 1)))))))
def f_law_take : Fn := mkFn 2 4 [] b_f_law_take
def b_f_law_wide : MS := sSeq (sAsg (eCall f_law_take [some 0, none] (aMv 0 (aCons (ofP (pC (.int 100003))) (aNil)))) (putS 2)) (sRet (e2 dMod (eC1 dInt (e2 dAdd (ofP (p2 dMul (pV 2) (pC (.int 100003)))) (eCall f_law_take [some 0, none] (aMv 0 (aCons (ofP (pC (.int 100003))) (aNil)))))) (eVar 1)))
def f_law_wide : Fn := mkFn 2 3 [] b_f_law_wide
def b_f_law_number : MS := sSeq (sIf (qB (e2 dEq (eCall f_law_take [some 0, none] (aMv 0 (aCons (ofP (pC (.int 9))) (aNil)))) (ofP (pC (.int 0))))) (sRet (e2 dSub (ofP (p2 dSub (p2 dPow (pC (.int 10)) (pC (.int 12))) (pC (.int 1)))) (eCall f_law_take [some 0, none] (aMv 0 (aCons (ofP (pC (.int 2))) (aNil)))))) (sNext)) (sRet (e2 dMul (eCall f_law_wide [some 0, none] (aMv 0 (aCons (eIx (eLst (aCons (ofP (pC (.int 10))) (aCons (ofP (pC (.int 1000))) (aCons (ofP (p2 dPow (pC (.int 10)) (pC (.int 6)))) (aCons (ofP (p2 dPow (pC (.int 10)) (pC (.int 9)))) (aNil)))))) (eCall f_law_take [some 0, none] (aMv 0 (aCons (ofP (pC (.int 4))) (aNil))))) (aNil)))) (eIx (eLst (aCons (ofP (pC (.int 1))) (aCons (ofP (pC (.int 1))) (aCons (ofP (pC (.int 1))) (aCons (ofP (pC (.int 999))) (aNil)))))) (eCall f_law_take [some 0, none] (aMv 0 (aCons (ofP (pC (.int 4))) (aNil)))))))
def f_law_number : Fn := mkFn 1 1 [] b_f_law_number
def b_f_law_line : MS := sSeq (sAsg (ofP (pC (.str "abcdefghijklmnopqrstuvwxyz ABCXYZ 0123456789 <>=+-()[],:.;_#' "))) (putS 1)) (sSeq (sAsg (eLst (aCons (ofP (pC (.str ""))) (aCons (ofP (pC (.str "on"))) (aCons (ofP (pC (.str "over"))) (aCons (ofP (pC (.str "text 1"))) (aCons (ofP (pC (.str "proc x"))) (aCons (ofP (pC (.str "dead 0"))) (aCons (ofP (pC (.str "pair 0 1"))) (aCons (ofP (pC (.str "proc "))) (aCons (ofP (pC (.str " "))) (aCons (ofP (pC (.str "all 0 0"))) (aCons (ofP (pC (.str "text 0"))) (aCons (ofP (pC (.str "dead"))) (aNil)))))))))))))) (putS 2)) (sSeq (sIf (qB (e2 dEq (eCall f_law_take [some 0, none] (aMv 0 (aCons (ofP (pC (.int 3))) (aNil)))) (ofP (pC (.int 0))))) (sRet (eIxN 2 (eCall f_law_take [some 0, none] (aMv 0 (aCons (ofP (pCall dLen (paCons (pV 2) ((fun _ => some []))))) (aNil)))))) (sNext)) (sSeq (sAsg (ofP (pC (.str ""))) (putS 3)) (sSeq (mFor (iRng1E (eCall f_law_take [some 0, none] (aMv 0 (aCons (ofP (pC (.int 9))) (aNil))))) (putS 4) (sAsg (e2T addT (eVar 3) (eIxN 1 (eCall f_law_take [some 0, none] (aMv 0 (aCons (ofP (pCall dLen (paCons (pV 1) ((fun _ => some []))))) (aNil)))))) (putS 3))) (sSeq (sIf (qB (e2 dEq (eCall f_law_take [some 0, none] (aMv 0 (aCons (ofP (pC (.int 5))) (aNil)))) (ofP (pC (.int 0))))) (sAsg (e2T addT (eVar 3) (eIx (ofP (pC (.str "\t~{&"))) (eCall f_law_take [some 0, none] (aMv 0 (aCons (ofP (pC (.int 4))) (aNil)))))) (putS 3)) (sNext)) (sRet (eMov 3)))))))
def f_law_line : Fn := mkFn 1 5 [] b_f_law_line
def b_f_law_token : MS := sSeq (sAsg (eIx (eLst (aCons (ofP (pC (.str "on"))) (aCons (ofP (pC (.str "over"))) (aCons (ofP (pC (.str "dead"))) (aCons (ofP (pC (.str "pair"))) (aCons (ofP (pC (.str "write"))) (aCons (ofP (pC (.str "either"))) (aCons (ofP (pC (.str "all"))) (aCons (ofP (pC (.str "match"))) (aCons (ofP (pC (.str "sorted"))) (aCons (ofP (pC (.str "below"))) (aNil)))))))))))) (eCall f_law_take [some 0, none] (aMv 0 (aCons (ofP (pC (.int 10))) (aNil))))) (putS 1)) (sSeq (sIf (ofB (bOr (pB (p2 dEq (pV 1) (pC (.str "on")))) (pB (p2 dEq (pV 1) (pC (.str "over")))))) (sRet (eTup (aCons (eVar 1) (aNil)))) (sNext)) (sSeq (sIf (ofB (pB (p2 dEq (pV 1) (pC (.str "dead"))))) (sRet (eTup (aCons (eVar 1) (aCons (eTupOf (aCons (eLc (iRng1E (e2 dAdd (ofP (pC (.int 1))) (e2 dMul (eCall f_law_take [some 0, none] (aMv 0 (aCons (ofP (pC (.int 3))) (aNil)))) (eCall f_law_take [some 0, none] (aMv 0 (aCons (ofP (pC (.int 4))) (aNil))))))) (putS 3) (qYes) (eCall f_law_number [some 0] (aMv 0 (aNil))) [3]) (aNil))) (aNil))))) (sNext)) (sSeq (sAsg (ofP (pC (.int 1))) (putS 2)) (sSeq (sIf (qB (e2 dIn (eVar 1) (eLst (aCons (ofP (pC (.str "pair"))) (aCons (ofP (pC (.str "all"))) (aCons (ofP (pC (.str "match"))) (aNil))))))) (sAsg (ofP (pC (.int 2))) (putS 2)) (sNext)) (sSeq (sIf (qB (e2 dIn (eVar 1) (eLst (aCons (ofP (pC (.str "sorted"))) (aCons (ofP (pC (.str "below"))) (aNil)))))) (sAsg (ofP (pC (.int 3))) (putS 2)) (sNext)) (sRet (e2T catT (eTup (aCons (eVar 1) (aNil))) (eTupOf (aCons (eLc (iRng1' (paCons (pV 2) ((fun _ => some [])))) (putS 3) (qYes) (eCall f_law_number [some 0] (aMv 0 (aNil))) [3]) (aNil))))))))))
def f_law_token : Fn := mkFn 1 4 [] b_f_law_token
def b_f_law_lines : MS := sSeq (sAsg (e2 dAdd (ofP (pC (.int 1))) (eCall f_law_take [some 0, none] (aMv 0 (aCons (ofP (pC (.int 5))) (aNil))))) (putS 1)) (sSeq (sIf (qB (e2 dEq (eCall f_law_take [some 0, none] (aMv 0 (aCons (ofP (pC (.int 6))) (aNil)))) (ofP (pC (.int 0))))) (sAsg (e2 dAdd (ofP (pC (.int 6))) (eCall f_law_take [some 0, none] (aMv 0 (aCons (ofP (pC (.int 60))) (aNil))))) (putS 1)) (sNext)) (sSeq (sAsg (eLc (iRng1' (paCons (pCall dMin2 (paCons (pV 1) (paCons (pC (.int 5)) ((fun _ => some []))))) ((fun _ => some [])))) (putS 3) (qYes) (eCall f_law_line [some 0] (aMv 0 (aNil))) [3]) (putS 2)) (sRet (eLc (iRng1' (paCons (pV 1) ((fun _ => some [])))) (putS 3) (qYes) (ofP (p2 dIx (pV 2) (p2 dMod (pV 3) (pCall dLen (paCons (pV 2) ((fun _ => some []))))))) [3]))))
def f_law_lines : Fn := mkFn 1 4 [] b_f_law_lines
def b_f_law_rows : MS := sSeq (sAsg (e2T addT (e2T addT (eLst (aCons (ofP (p2 dAdd (pC (.str "text ")) (pCall dStr (paCons (pCall dLen (paCons (pV 0) ((fun _ => some [])))) ((fun _ => some [])))))) (aNil))) (eVar 0)) (eLst (aCons (ofP (p2 dAdd (pC (.str "proc ")) (pV 1))) (aNil)))) (putS 3)) (sSeq (mFor (iTup' (eVar 2)) (putS 4) (sSeq (sAsg (eSlT (eVar 4) (oPart (some (pC (.int 1)))) (oPart none)) (putS 5)) (sSeq (sIf (ofB (pB (p2 dEq (p2 dIx (pV 4) (pC (.int 0))) (pC (.str "dead"))))) (sAsg (eIxN 4 (ofP (pC (.int 1)))) (putS 5)) (sNext)) (sApp 3 (e2M joinD (ofP (pC (.str " "))) (e2T addT (eLst (aCons (ofP (p2 dIx (pV 4) (pC (.int 0)))) (aNil))) (eLc (iSeq' (eVar 5)) (putS 6) (qYes) (ofP (pCall dStr (paCons (pV 6) ((fun _ => some []))))) [6]))))))) (sRet (eMov 3)))
def f_law_rows : Fn := mkFn 3 7 [] b_f_law_rows
def b_f_law_tokens : MS := sSeq (sAsg (eLc (iRng1E (e2 dAdd (ofP (pC (.int 1))) (eCall f_law_take [some 0, none] (aMv 0 (aCons (ofP (pC (.int 7))) (aNil)))))) (putS 2) (qYes) (eCall f_law_token [some 0] (aMv 0 (aNil))) [2]) (putS 1)) (sSeq (sIf (qB (e2 dEq (eCall f_law_take [some 0, none] (aMv 0 (aCons (ofP (pC (.int 6))) (aNil)))) (ofP (pC (.int 0))))) (sAsg (e2T repT (eMov 1) (e2 dAdd (ofP (pC (.int 2))) (eCall f_law_take [some 0, none] (aMv 0 (aCons (ofP (pC (.int 9))) (aNil)))))) (putS 1)) (sNext)) (sRet (eTupOf (aCons (eVar 1) (aNil)))))
def f_law_tokens : Fn := mkFn 1 3 [] b_f_law_tokens
def b_f_law_pick : MS := sRet (eIxN 1 (eCall f_law_take [some 0, none] (aMv 0 (aCons (ofP (pCall dLen (paCons (pV 1) ((fun _ => some []))))) (aNil)))))
def f_law_pick : Fn := mkFn 2 2 [] b_f_law_pick
def b_f_law_wrong_first : MS := sSeq (sAsg (ofP (pCall dStr (paCons (pV 1) ((fun _ => some []))))) (putS 2)) (sSeq (sAsg (eLst (aCons (ofP (pC (.str ""))) (aCons (ofP (pC (.str "text"))) (aCons (ofP (pC (.str "text "))) (aCons (ofP (pC (.str "text 0"))) (aCons (ofP (p2 dAdd (pC (.str "text 0")) (pV 2))) (aCons (ofP (p2 dAdd (pC (.str "text -")) (pV 2))) (aCons (ofP (p2 dAdd (pC (.str "text +")) (pV 2))) (aCons (ofP (pC (.str "text x"))) (aCons (ofP (p2 dAdd (pC (.str "texts ")) (pV 2))) (aNil))))))))))) (putS 3)) (sSeq (sAsg (e2T addT (eVar 3) (eLst (aCons (ofP (p2 dAdd (p2 dAdd (pC (.str "text ")) (pV 2)) (pC (.str " ")))) (aCons (ofP (p2 dAdd (pC (.str " text ")) (pV 2))) (aCons (ofP (p2 dAdd (pC (.str "text  ")) (pV 2))) (aCons (ofP (p2 dAdd (p2 dAdd (pC (.str "text ")) (pV 2)) (pC (.str " 1")))) (aCons (ofP (p2 dAdd (pC (.str "Text ")) (pV 2))) (aCons (eVar 2) (aNil))))))))) (putS 3)) (sRet (eCall f_law_pick [some 0, none] (aMv 0 (aCons (e2T addT (eVar 3) (eLst (aCons (ofP (pC (.str "text 1000000000000"))) (aCons (ofP (p2 dAdd (p2 dAdd (pC (.str "text ")) (pV 2)) (pC (.str ".0")))) (aCons (ofP (pC (.str "text 1_0"))) (aCons (ofP (p2 dAdd (pC (.str "text\t")) (pV 2))) (aNil))))))) (aNil)))))))
def f_law_wrong_first : Fn := mkFn 2 4 [] b_f_law_wrong_first
def b_f_law_wrong_name : MS := sRet (eCall f_law_pick [some 0, none] (aMv 0 (aCons (eLst (aCons (ofP (pC (.str ""))) (aCons (ofP (pC (.str "proc"))) (aCons (ofP (pC (.str "procs x"))) (aCons (ofP (pC (.str "Proc x"))) (aCons (ofP (pC (.str " proc x"))) (aCons (ofP (pC (.str "pro x"))) (aCons (ofP (pC (.str "text 1"))) (aCons (ofP (pC (.str "proc\tx"))) (aNil)))))))))) (aNil))))
def f_law_wrong_name : Fn := mkFn 1 1 [] b_f_law_wrong_name
def b_f_law_wrong_token : MS := sSeq (sAsg (eLst (aCons (ofP (pC (.str ""))) (aCons (ofP (pC (.str "onn"))) (aCons (ofP (pC (.str "on "))) (aCons (ofP (pC (.str " on"))) (aCons (ofP (pC (.str "on 1"))) (aCons (ofP (pC (.str "over 0"))) (aCons (ofP (pC (.str "ON"))) (aCons (ofP (pC (.str "over "))) (aCons (ofP (pC (.str "dead"))) (aCons (ofP (pC (.str "dead "))) (aCons (ofP (pC (.str "dead x"))) (aCons (ofP (pC (.str "dead -1"))) (aCons (ofP (pC (.str "dead 01"))) (aNil))))))))))))))) (putS 1)) (sSeq (sAsg (e2T addT (eVar 1) (eLst (aCons (ofP (pC (.str "dead 1  2"))) (aCons (ofP (pC (.str "dead 1 2 "))) (aCons (ofP (pC (.str "dead 1000000000000"))) (aCons (ofP (pC (.str "dead 1 01"))) (aCons (ofP (pC (.str "dead 1,2"))) (aCons (ofP (pC (.str "dead +1"))) (aCons (ofP (pC (.str "dead 1_0"))) (aNil)))))))))) (putS 1)) (sSeq (sAsg (e2T addT (eVar 1) (eLst (aCons (ofP (pC (.str "pair"))) (aCons (ofP (pC (.str "pair 1"))) (aCons (ofP (pC (.str "pair 1 2 3"))) (aCons (ofP (pC (.str "pair 1 x"))) (aCons (ofP (pC (.str "pair -1 2"))) (aCons (ofP (pC (.str "pair 01 2"))) (aCons (ofP (pC (.str "pair 1 1000000000000"))) (aNil)))))))))) (putS 1)) (sSeq (sAsg (e2T addT (eVar 1) (eLst (aCons (ofP (pC (.str "met 0"))) (aCons (ofP (pC (.str "write"))) (aNil))))) (putS 1)) (sSeq (sAsg (e2T addT (eVar 1) (eLst (aCons (ofP (pC (.str "write 1 2"))) (aCons (ofP (pC (.str "write x"))) (aCons (ofP (pC (.str "either"))) (aCons (ofP (pC (.str "either 0 0"))) (aCons (ofP (pC (.str "all 1"))) (aCons (ofP (pC (.str "all 1 2 3"))) (aCons (ofP (pC (.str "all 1 -2"))) (aCons (ofP (pC (.str "match 1"))) (aNil))))))))))) (putS 1)) (sSeq (sAsg (e2T addT (eVar 1) (eLst (aCons (ofP (pC (.str "match 1 2 3"))) (aCons (ofP (pC (.str "match 0 00"))) (aCons (ofP (pC (.str "sorted 1 2"))) (aCons (ofP (pC (.str "sorted 1 2 3 4"))) (aCons (ofP (pC (.str "sorted 1 2 x"))) (aCons (ofP (pC (.str "below 1 2"))) (aNil))))))))) (putS 1)) (sSeq (sAsg (e2T addT (eVar 1) (eLst (aCons (ofP (pC (.str "dead 1 -2"))) (aCons (ofP (pC (.str "pair  1 2"))) (aCons (ofP (pC (.str "pair 1 2 "))) (aNil)))))) (putS 1)) (sRet (eCall f_law_pick [some 0, none] (aMv 0 (aCons (e2T addT (eVar 1) (eLst (aCons (ofP (pC (.str "below 1 2 3 4"))) (aCons (ofP (pC (.str "below 1 2 03"))) (aCons (ofP (pC (.str "text 1"))) (aCons (ofP (pC (.str "proc x"))) (aCons (ofP (pC (.str "pairs 1 2"))) (aCons (ofP (pC (.str "dead\t1"))) (aCons (ofP (pC (.str "on\t"))) (aNil)))))))))) (aNil)))))))))))
def f_law_wrong_token : Fn := mkFn 1 2 [] b_f_law_wrong_token
def b_f_law_spoilt_number : MS := sSeq (sAsg (eSplit (eVar 1) (ofP (pC (.str " ")))) (putS 2)) (sSeq (sIf (ofB (pB (p2 dEq (pCall dLen (paCons (pV 2) ((fun _ => some [])))) (pC (.int 1))))) (sRet (e2T addT (ofP (p2 dAdd (pV 1) (pC (.str " ")))) (eC1 dStr (eCall f_law_take [some 0, none] (aMv 0 (aCons (ofP (pC (.int 10))) (aNil))))))) (sNext)) (sSeq (sAsg (e2 dAdd (ofP (pC (.int 1))) (eCall f_law_take [some 0, none] (aMv 0 (aCons (ofP (p2 dSub (pCall dLen (paCons (pV 2) ((fun _ => some [])))) (pC (.int 1)))) (aNil))))) (putS 3)) (sSeq (sAsg (ofP (p2 dIx (pV 2) (pV 3))) (putS 4)) (sSeq (sAsg (eLst (aCons (ofP (p2 dAdd (pC (.str "0")) (pV 4))) (aCons (ofP (p2 dAdd (pC (.str "-")) (pV 4))) (aCons (ofP (p2 dAdd (pC (.str "+")) (pV 4))) (aCons (ofP (p2 dAdd (pV 4) (pC (.str "000000000000")))) (aCons (ofP (p2 dAdd (pV 4) (pC (.str "x")))) (aCons (ofP (p2 dAdd (pV 4) (pC (.str ",")))) (aCons (ofP (p2 dAdd (pV 4) (pC (.str "_0")))) (aCons (ofP (p2 dAdd (pV 4) (pC (.str ".")))) (aNil)))))))))) (putS 5)) (sSeq (sAsg (eIx (e2T addT (eVar 5) (eLst (aCons (ofP (p2 dAdd (pV 4) (pC (.str "\t")))) (aCons (ofP (p2 dAdd (pC (.str "\t")) (pV 4))) (aCons (ofP (pC (.str ""))) (aCons (ofP (p2 dAdd (pV 4) (pC (.str "b")))) (aNil))))))) (eCall f_law_take [some 0, none] (aMv 0 (aCons (ofP (pC (.int 12))) (aNil))))) (putS 4)) (sRet (e2M joinD (ofP (pC (.str " "))) (e2T addT (e2T addT (eSlL (eVar 2) (oPart none) (oPart (some (pV 3)))) (eLst (aCons (eVar 4) (aNil)))) (eSlL (eVar 2) (oPart (some (p2 dAdd (pV 3) (pC (.int 1))))) (oPart none))))))))))
def f_law_spoilt_number : Fn := mkFn 2 6 [] b_f_law_spoilt_number
def b_f_law_spoilt : MS := sSeq (sAsg (eCall f_law_take [some 0, none] (aMv 0 (aCons (ofP (pC (.int 8))) (aNil)))) (putS 3)) (sSeq (sAsg (ofP (p2 dAdd (pV 2) (pC (.int 2)))) (putS 4)) (sSeq (sIf (ofB (pB (p2 dEq (pV 3) (pC (.int 0))))) (sRet (eTup (aCons (e2T addT (eLst (aCons (eFz (eCall f_law_wrong_first [some 0, some 2] (aMv 0 (aMv 2 (aNil))))) (aNil))) (eSlL (eVar 1) (oPart (some (pC (.int 1)))) (oPart none))) (aCons (ofP (pC (.int 1))) (aNil))))) (sNext)) (sSeq (sIf (ofB (pB (p2 dEq (pV 3) (pC (.int 1))))) (sSeq (sAsg (eCall f_law_pick [some 0, none] (aMv 0 (aCons (eLst (aCons (ofP (p2 dSub (pCall dLen (paCons (pV 1) ((fun _ => some [])))) (pC (.int 1)))) (aCons (ofP (pCall dLen (paCons (pV 1) ((fun _ => some []))))) (aCons (ofP (p2 dAdd (pCall dLen (paCons (pV 1) ((fun _ => some [])))) (pC (.int 1)))) (aCons (ofP (pC (.int 999999999999))) (aNil)))))) (aNil)))) (putS 5)) (sRet (eTup (aCons (e2T addT (eLst (aCons (ofP (p2 dAdd (pC (.str "text ")) (pCall dStr (paCons (pV 5) ((fun _ => some [])))))) (aNil))) (eSlL (eVar 1) (oPart (some (pC (.int 1)))) (oPart none))) (aCons (ofP (p2 dAdd (pCall dLen (paCons (pV 1) ((fun _ => some [])))) (pC (.int 1)))) (aNil)))))) (sNext)) (sSeq (sIf (ofB (pB (p2 dEq (pV 3) (pC (.int 2))))) (sRet (eTup (aCons (e2T addT (e2T addT (eSlL (eVar 1) (oPart none) (oPart (some (p2 dSub (pV 4) (pC (.int 1)))))) (eLst (aCons (eFz (eCall f_law_wrong_name [some 0] (aMv 0 (aNil)))) (aNil)))) (eSlL (eVar 1) (oPart (some (pV 4))) (oPart none))) (aCons (eVar 4) (aNil))))) (sNext)) (sSeq (sIf (ofB (pB (p2 dEq (pV 3) (pC (.int 3))))) (sSeq (sAsg (e2 dAdd (ofP (pC (.int 1))) (eCall f_law_take [some 0, some 4] (aMv 0 (aMv 4 (aNil))))) (putS 6)) (sRet (eTup (aCons (eSlL (eVar 1) (oPart none) (oPart (some (pV 6)))) (aCons (ofP (p2 dAdd (pV 6) (pC (.int 1)))) (aNil)))))) (sNext)) (sSeq (sIf (ofB (pB (p2 dEq (pV 3) (pC (.int 4))))) (sRet (eTup (aCons (eIx (eLst (aCons (eFz (e2T addT (eVar 1) (eLst (aCons (ofP (pC (.str ""))) (aNil))))) (aCons (eFz (eLst (aCons (ofP (pC (.str ""))) (aNil)))) (aNil)))) (eCall f_law_take [some 0, none] (aMv 0 (aCons (ofP (pC (.int 2))) (aNil))))) (aCons (ofP (pC (.int 0))) (aNil))))) (sNext)) (sSeq (sAsg (e2 dAdd (eVar 4) (eCall f_law_take [some 0, none] (aMv 0 (aCons (ofP (p2 dSub (pCall dLen (paCons (pV 1) ((fun _ => some [])))) (pV 4))) (aNil))))) (putS 7)) (sSeq (sAsg (eIx (eLst (aCons (eFz (eCall f_law_wrong_token [some 0] (aMv 0 (aNil)))) (aCons (eFz (eCall f_law_spoilt_number [some 0, none] (aMv 0 (aCons (ofP (p2 dIx (pV 1) (pV 7))) (aNil))))) (aNil)))) (eCall f_law_take [some 0, none] (aMv 0 (aCons (ofP (pC (.int 2))) (aNil))))) (putS 8)) (sRet (eTup (aCons (e2T addT (e2T addT (eSlL (eVar 1) (oPart none) (oPart (some (pV 7)))) (eLst (aCons (eVar 8) (aNil)))) (eSlL (eVar 1) (oPart (some (p2 dAdd (pV 7) (pC (.int 1))))) (oPart none))) (aCons (ofP (p2 dAdd (pV 7) (pC (.int 1)))) (aNil)))))))))))))
def f_law_spoilt : Fn := mkFn 3 9 [] b_f_law_spoilt
def f_law_row_of (C_Paper : Addr) : Fn := fun ts => (x_read_paper C_Paper ts).map fun i => (tZ i, [none])
def b_law (C_Paper : Addr) : MS := sSeq (sAsg (eLst (aCons (eFz (eCall f_law_draws [some 0, none] (aMv 0 (aCons (ofP (pC (.int 220))) (aNil))))) (aCons (ofP (pC (.int 0))) (aNil)))) (putS 1)) (sSeq (sAsg (eCall f_law_lines [some 1] (aMv 1 (aNil))) (putS 2)) (sSeq (sAsg (eCall f_law_line [some 1] (aMv 1 (aNil))) (putS 3)) (sSeq (sAsg (eCall f_law_tokens [some 1] (aMv 1 (aNil))) (putS 4)) (sSeq (sAsg (eCall f_law_rows [some 2, some 3, some 4] (aMv 2 (aMv 3 (aMv 4 (aNil))))) (putS 5)) (sSeq (sAsg (eC1 dRepr (eTup (aCons (e2M joinD (ofP (pC (.str "\n"))) (eVar 2)) (aCons (eVar 3) (aCons (eVar 4) (aNil)))))) (putS 6)) (sSeq (mFor (iRng1' (paCons (pC (.int 4)) ((fun _ => some [])))) (putS 7) (sSeq (sAsg (eCall (read_paper C_Paper) [none] (aCons (e2M joinD (ofP (pC (.str "\n"))) (eVar 5)) (aNil))) (putS 8)) (sSeq (sIf (qB (e2 dNe (eC1 dRepr (eTup (aCons (eFldK C_Paper "text" 8) (aCons (eFldK C_Paper "name" 8) (aCons (eFldK C_Paper "tokens" 8) (aNil)))))) (eVar 6))) (sRet (ofP (pC (.bl false)))) (sNext)) (sSeq (sAsg (eCall f_law_spoilt [some 1, some 5, none] (aMv 1 (aMv 5 (aCons (ofP (pCall dLen (paCons (pV 2) ((fun _ => some []))))) (aNil))))) (gTupS 2 (gsCons (putS 9) (gsCons (putS 10) (gsNil))))) (sSeq (sIf (ofB (pB (p2 dEq (pV 10) (pC (.int 0))))) (sAsg (ofP (pCall dLen (paCons (pV 9) ((fun _ => some []))))) (putS 10)) (sNext)) (sSeq (sAsg (eCall f_law_take [some 1, none] (aMv 1 (aCons (ofP (pC (.int 6))) (aNil)))) (putS 11)) (sSeq (sIf (ofB (bAnd (pB (p2 dEq (pV 11) (pC (.int 0)))) (pB (p2 dLe (pV 10) (pCall dLen (paCons (pV 9) ((fun _ => some [])))))))) (sAsg (eSlL (eVar 9) (oPart none) (oPart (some (pV 10)))) (putS 9)) (sNext)) (sSeq (sIf (ofB (bAnd (pB (p2 dEq (pV 11) (pC (.int 1)))) (bAnd (pB (p2 dLt (pV 10) (pCall dLen (paCons (pV 9) ((fun _ => some [])))))) (pB (p2 dEq (pCall dLen (paCons (pV 9) ((fun _ => some [])))) (pCall dLen (paCons (pV 5) ((fun _ => some []))))))))) (sSeq (sAsg (ofP (pCall dMax2 (paCons (pV 10) (paCons (p2 dAdd (pCall dLen (paCons (pV 2) ((fun _ => some [])))) (pC (.int 2))) ((fun _ => some [])))))) (putS 12)) (sSeq (sAsg (e2 dAdd (eVar 12) (eCall f_law_take [some 1, none] (aMv 1 (aCons (ofP (p2 dSub (pCall dLen (paCons (pV 9) ((fun _ => some [])))) (pV 12))) (aNil))))) (putS 12)) (sAsg (e2T addT (e2T addT (eSlL (eVar 9) (oPart none) (oPart (some (pV 12)))) (eLst (aCons (eFz (eCall f_law_wrong_token [some 1] (aMv 1 (aNil)))) (aNil)))) (eSlL (eVar 9) (oPart (some (p2 dAdd (pV 12) (pC (.int 1))))) (oPart none))) (putS 9)))) (sNext)) (sIf (qOr (qB (e2 dNe (eCall (f_law_row_of C_Paper) [none] (aCons (e2M joinD (ofP (pC (.str "\n"))) (eVar 9)) (aNil))) (eVar 10))) (qB (e2 dNe (eCall (f_law_row_of C_Paper) [none] (aCons (e2M joinD (ofP (pC (.str "\n"))) (eVar 9)) (aNil))) (eVar 10)))) (sRet (ofP (pC (.bl false)))) (sNext)))))))))) (sSeq (sAsg (eCall (read_paper C_Paper) [none] (aCons (e2M joinD (ofP (pC (.str "\n"))) (eVar 5)) (aNil))) (putS 8)) (sRet (e2 dEq (eC1 dRepr (eTup (aCons (eFldK C_Paper "text" 8) (aCons (eFldK C_Paper "name" 8) (aCons (eFldK C_Paper "tokens" 8) (aNil)))))) (eVar 6))))))))))
def law (C_Paper : Addr) : Fn := mkFn 1 13 [] (b_law C_Paper)
@[simp] theorem ixn_Paper_0 : ixS "text" ([] : List Str) = none := by decide +kernel
@[simp] theorem ixs_Paper_0 : ixS "text" (["text", "name", "tokens"] : List Str) = some 0 := by decide +kernel
@[simp] theorem ixn_Paper_1 : ixS "name" (["text"] : List Str) = none := by decide +kernel
@[simp] theorem ixs_Paper_1 : ixS "name" (["text", "name", "tokens"] : List Str) = some 1 := by decide +kernel
@[simp] theorem ixn_Paper_2 : ixS "tokens" (["text", "name"] : List Str) = none := by decide +kernel
@[simp] theorem ixs_Paper_2 : ixS "tokens" (["text", "name", "tokens"] : List Str) = some 2 := by decide +kernel
/-! ### what the top has written -/
structure Tx (w : World) (K : PySem.W.Frag) (mg : Str → Option Value) : Prop where
  n_ValueError : mg "ValueError" = none
  n_abs : mg "abs" = none
  n_bool : mg "bool" = none
  n_int : mg "int" = none
  n_isinstance : mg "isinstance" = none
  n_len : mg "len" = none
  n_max : mg "max" = none
  n_min : mg "min" = none
  n_range : mg "range" = none
  n_repr : mg "repr" = none
  n_str : mg "str" = none
  n_tuple : mg "tuple" = none
  c_FIGURES : Cst K mg "FIGURES" (.str "0123456789")
  c_MOST_FIGURES : Cst K mg "MOST_FIGURES" (.int 12)
  t_COUNTS : TabC K w mg "COUNTS" tab_COUNTS
  g_Paper : mg "Paper" = some (.ref (He.ga K "Paper"))
  k_Paper : Cls K (He.ga K "Paper")
  n_Paper_tokens : NoAttr K (He.ga K "Paper") "tokens"
  n_Paper_name : NoAttr K (He.ga K "Paper") "name"
  n_Paper_text : NoAttr K (He.ga K "Paper") "text"
  i_Paper : Mk K (He.ga K "Paper") (He.ma K (He.ga K "Paper") "__init__")
  g_SwornError : mg "SwornError" = some (.ref (He.ga K "SwornError"))
  g_BadLine : mg "BadLine" = some (.ref (He.ga K "BadLine"))
  g_BadText : mg "BadText" = some (.ref (He.ga K "BadText"))
  g_BadProgram : mg "BadProgram" = some (.ref (He.ga K "BadProgram"))
  g_BadPaper : mg "BadPaper" = some (.ref (He.ga K "BadPaper"))
  g_BadStart : mg "BadStart" = some (.ref (He.ga K "BadStart"))
  g_NoProcedure : mg "NoProcedure" = some (.ref (He.ga K "NoProcedure"))
  xf : XF K (He.ga K "BadPaper") (He.ma K (He.ga K "BadLine") "__init__") (He.ga K "SwornError") "row"
  k_no : PySem.W.kitAny K (.ref (He.ga K "BadPaper")) [.ref (He.ga K "BadText"), .ref (He.ga K "BadProgram"), .ref (He.ga K "BadStart"), .ref (He.ga K "NoProcedure")] = some false
  k_ve : PySem.W.kitOne K (.ref (He.ga K "BadPaper")) (.type "ValueError") = some true
  k_bp : PySem.W.kitOne K (.ref (He.ga K "BadPaper")) (.ref (He.ga K "BadPaper")) = some true
  k_bl : PySem.W.kitOne K (.ref (He.ga K "BadPaper")) (.ref (He.ga K "BadLine")) = some true
  d_BadLine___init__ : ∃ fd, FunD K "__init__" "BadLine.__init__" (defArgs st_BadLine___init__) (defBody st_BadLine___init__) (defScope st_BadLine___init__) [] [] (He.ma K (He.ga K "BadLine") "__init__") fd
  d_Paper___init__ : ∃ fd, FunD K "__init__" "Paper.__init__" (defArgs st_Paper___init__) (defBody st_Paper___init__) (defScope st_Paper___init__) [] [] (He.ma K (He.ga K "Paper") "__init__") fd
  d_read_number : Def K mg "read_number" st_read_number
  d_read_token : Def K mg "read_token" st_read_token
  d_read_count : Def K mg "read_count" st_read_count
  d_read_paper : Def K mg "read_paper" st_read_paper
  d_f_law_draws : Def K mg "_law_draws" st_f_law_draws
  d_f_law_take : Def K mg "_law_take" st_f_law_take
  d_f_law_wide : Def K mg "_law_wide" st_f_law_wide
  d_f_law_number : Def K mg "_law_number" st_f_law_number
  d_f_law_line : Def K mg "_law_line" st_f_law_line
  d_f_law_token : Def K mg "_law_token" st_f_law_token
  d_f_law_lines : Def K mg "_law_lines" st_f_law_lines
  d_f_law_rows : Def K mg "_law_rows" st_f_law_rows
  d_f_law_tokens : Def K mg "_law_tokens" st_f_law_tokens
  d_f_law_pick : Def K mg "_law_pick" st_f_law_pick
  d_f_law_wrong_first : Def K mg "_law_wrong_first" st_f_law_wrong_first
  d_f_law_wrong_name : Def K mg "_law_wrong_name" st_f_law_wrong_name
  d_f_law_wrong_token : Def K mg "_law_wrong_token" st_f_law_wrong_token
  d_f_law_spoilt_number : Def K mg "_law_spoilt_number" st_f_law_spoilt_number
  d_f_law_spoilt : Def K mg "_law_spoilt" st_f_law_spoilt
  d_f_law_row_of : Def K mg "_law_row_of" st_f_law_row_of
  d_law : Def K mg "law" st_law
section
variable {P : Program} {w : World} {K : PySem.W.Frag} {mg : Str → Option Value} {base : Heap}
theorem sc_BadLine___init__ : FnScope ["self", "row"] ["self", "row"] (defScope st_BadLine___init__) := ⟨rfl, rfl, rfl, by decide +kernel, rfl, by decide +kernel, by decide +kernel⟩
theorem raiseC (T : Tx w K mg) : RaiseC P w K mg base "BadPaper" (He.ga K "BadPaper") "row" 1 := by
  obtain ⟨fd, F⟩ := T.d_BadLine___init__
  exact ⟨T.xf.oex, T.g_BadPaper, T.xf.no, _, fd, ["self", "row"], T.xf.iC, T.xf.tI, F.bindsN (ps := ["self", "row"]) fun _ _ _ _ _ _ us hl => match us, hl with | [_, _], _ => rfl, F.ok sc_BadLine___init__ (fun vs H Q E ⟨a, C, i, h, _⟩ => by rw [h]; rfl) (fun cdv A outer s H vs Q E hr h => ⟨_, pss_one (ps_ost (pv 0) (pv 1)), init_reads h⟩)⟩
theorem sc_Paper___init__ : FnScope ["self", "text", "name", "tokens"] ["self", "text", "name", "tokens"] (defScope st_Paper___init__) := ⟨rfl, rfl, rfl, by decide +kernel, rfl, by decide +kernel, by decide +kernel⟩
theorem good_Paper___init__ (T : Tx w K mg) : GoodI P w K mg base (He.ga K "Paper") "Paper" 1 ["self", "text", "name", "tokens"] (Paper___init__ (He.ga K "Paper")) := by
  obtain ⟨fd, F⟩ := T.d_Paper___init__
  refine ⟨_, fd, T.g_Paper, T.i_Paper, F.bindsN (ps := ["self", "text", "name", "tokens"]) fun _ _ _ _ _ _ us hl => match us, hl with | [_, _, _, _], _ => rfl, ?_⟩
  exact defOk (N := ["self", "text", "name", "tokens"]) (k := 0) [] F sc_Paper___init__ (fun cdv A outer s H E hr =>
    (vss_cons (vs_fldS 0 (ve_var 1) T.k_Paper T.n_Paper_text) (vss_cons (vs_fldS 0 (ve_var 2) T.k_Paper T.n_Paper_name) (vss_one (vs_fldS 0 (ve_var 3) T.k_Paper T.n_Paper_tokens))))) (by decide)
theorem sc_read_number : FnScope ["word", "sign"] ["word"] (defScope st_read_number) := ⟨rfl, rfl, rfl, by decide +kernel, rfl, by decide +kernel, by decide +kernel⟩
theorem good_read_number (T : Tx w K mg) : Good P w K mg base "read_number" 1 ["word"] read_number := by
  obtain ⟨f, fd, F, hm⟩ := T.d_read_number
  exact Good.mkD (N := ["word", "sign"]) (k := 0) [] F hm (F.bindsN (ps := ["word"]) fun _ _ _ _ _ _ us hl => match us, hl with | [_], _ => rfl) sc_read_number (fun cdv A outer s H E hr =>
    (vss_cons (vs_if (vt_p (vb_w (vw_or (vb_not (vb_chain od_le od_le vp_int (vp_callB od_len T.n_len boot_len (vpa_cons (vp_var 0) vpa_nil)) (vp_cst T.c_MOST_FIGURES))) (vw_or1 (vb_w (vw_and (vb_cmp (od_eq hr.units) (vp_ix (vp_var 0) vp_int) vp_str) (vw_and1 (vb_cmp (od_ne hr.units) (vp_var 0) vp_str)))))))) (vss_one (vs_ret (ve_p vp_non))) vss_nil) (vss_cons (vs_for PassesOwn.never rfl (vi_str (vp_var 0)) (vg_name 1 sc_read_number.nd) (vss_one (vs_if (vt_p (vb_cmp od_notIn (vp_var 1) (vp_cst T.c_FIGURES))) (vss_one (vs_ret (ve_p vp_non))) vss_nil))) (vss_one (vs_ret (ve_p (vp_callTy od_intS T.n_int (by decide +kernel) (vpa_cons (vp_var 0) vpa_nil)))))))) (by decide)
theorem sc_read_token : FnScope ["row", "words", "numbers", "word"] ["row"] (defScope st_read_token) := ⟨rfl, rfl, rfl, by decide +kernel, rfl, by decide +kernel, by decide +kernel⟩
theorem good_read_token (T : Tx w K mg) : Good P w K mg base "read_token" 2 ["row"] read_token := by
  obtain ⟨f, fd, F, hm⟩ := T.d_read_token
  have G_read_number := good_read_number (P := P) (w := w) (base := base) T
  exact Good.mkD (N := ["row", "words", "numbers", "word"]) (k := 1) [] F hm (F.bindsN (ps := ["row"]) fun _ _ _ _ _ _ us hl => match us, hl with | [_], _ => rfl) sc_read_token (fun cdv A outer s H E hr =>
    (vss_cons (vs_set 1 sc_read_token.nd (ve_split (ve_var 0) (ve_p vp_str))) (vss_cons (vs_setLc 2 [("word", 3)] rfl sc_read_token.nd (sw_true rfl rfl rfl (by decide +kernel)) (vi_list (ve_slL (ve_var 1) (vo_some vp_int) vo_none)) (blkOk_by (N := ["row", "words", "numbers", "word"]) (sc := defScope st_read_token) (by decide +kernel)) (fun _ _ _ _ _ => (vg_name 3 sc_read_token.nd)) (fun _ _ _ _ _ => vts_nil) (fun _ _ _ _ _ => (ve_call (G_read_number) (hr.mono (by decide)) (va_mv 3 va_nil)))) (vss_cons (vs_if (vt_p (vb_cmp od_in vp_non (vp_var 2))) (vss_one (vs_ret (ve_p vp_non))) vss_nil) (vss_cons (vs_if (vt_p (vb_cmp (od_eq hr.units) (vp_ix (vp_var 1) vp_int) vp_str)) (vss_one (vs_ret (ve_if (vt_p (vb_cmp od_gt (vp_callB od_len T.n_len boot_len (vpa_cons (vp_var 2) vpa_nil)) vp_int)) (ve_tup (va_cons (ve_p vp_str) (va_cons (ve_tupOf (va_cons (ve_var 2) va_nil) T.n_tuple) va_nil))) (ve_p vp_non)))) vss_nil) (vss_cons (vs_if (vt_p (vb_w (vw_or (vb_notInTab T.t_COUNTS (vp_ix (vp_var 1) vp_int)) (vw_or1 (vb_cmp (od_ne hr.units) (vp_callB od_len T.n_len boot_len (vpa_cons (vp_var 2) vpa_nil)) (vp_ixTab T.t_COUNTS (vp_ix (vp_var 1) vp_int))))))) (vss_one (vs_ret (ve_p vp_non))) vss_nil) (vss_one (vs_ret (ve_opT ot_cat (ve_tup (va_cons (ve_p (vp_ix (vp_var 1) vp_int)) va_nil)) (ve_tupOf (va_cons (ve_var 2) va_nil) T.n_tuple)))))))))) (by decide)
theorem sc_read_count : FnScope ["row", "count"] ["row"] (defScope st_read_count) := ⟨rfl, rfl, rfl, by decide +kernel, rfl, by decide +kernel, by decide +kernel⟩
theorem good_read_count (T : Tx w K mg) : Good P w K mg base "read_count" 2 ["row"] read_count := by
  obtain ⟨f, fd, F, hm⟩ := T.d_read_count
  have G_read_number := good_read_number (P := P) (w := w) (base := base) T
  exact Good.mkD (N := ["row", "count"]) (k := 1) [] F hm (F.bindsN (ps := ["row"]) fun _ _ _ _ _ _ us hl => match us, hl with | [_], _ => rfl) sc_read_count (fun cdv A outer s H E hr =>
    (vss_cons (vs_if (vt_p (vb_cmp (od_ne hr.units) (vp_slS (vp_var 0) vo_none (vo_some vp_int)) vp_str)) (vss_one (vs_ret (ve_p vp_non))) vss_nil) (vss_cons (vs_set 1 sc_read_count.nd (ve_call (G_read_number) (hr.mono (by decide)) (va_cons (ve_p (vp_slS (vp_var 0) (vo_some vp_int) vo_none)) va_nil))) (vss_cons (vs_if (vt_p (vb_cmp (od_eq hr.units) (vp_var 1) vp_int)) (vss_one (vs_ret (ve_p vp_non))) vss_nil) (vss_one (vs_ret (ve_mov 1))))))) (by decide)
theorem sc_read_paper : FnScope ["text", "rows", "count", "tokens", "at", "token"] ["text"] (defScope st_read_paper) := ⟨rfl, rfl, rfl, by decide +kernel, rfl, by decide +kernel, by decide +kernel⟩
theorem good_read_paper (T : Tx w K mg) : Good P w K mg base "read_paper" 3 ["text"] (read_paper (He.ga K "Paper")) := by
  obtain ⟨f, fd, F, hm⟩ := T.d_read_paper
  have G_Paper___init__ := good_Paper___init__ (P := P) (w := w) (base := base) T
  have G_read_token := good_read_token (P := P) (w := w) (base := base) T
  have G_read_count := good_read_count (P := P) (w := w) (base := base) T
  exact Good.mkD (N := ["text", "rows", "count", "tokens", "at", "token"]) (k := 2) [] F hm (F.bindsN (ps := ["text"]) fun _ _ _ _ _ _ us hl => match us, hl with | [_], _ => rfl) sc_read_paper (fun cdv A outer s H E hr =>
    (vss_cons (vs_set 1 sc_read_paper.nd (ve_split (ve_var 0) (ve_p vp_str))) (vss_cons (vs_set 2 sc_read_paper.nd (ve_call (G_read_count) (hr.mono (by decide)) (va_cons (ve_p (vp_ix (vp_var 1) vp_int)) va_nil))) (vss_cons (vs_if (vt_p (vb_cmp od_isN (vp_var 2) vp_non)) (vss_one vs_never) vss_nil) (vss_cons (vs_if (vt_p (vb_cmp od_gt (vp_op od_add (vp_var 2) vp_int) (vp_callB od_len T.n_len boot_len (vpa_cons (vp_var 1) vpa_nil)))) (vss_one vs_never) vss_nil) (vss_cons (vs_if (vt_p (vb_cmp (od_ne hr.units) (vp_slS (vp_ix (vp_var 1) (vp_op od_add (vp_var 2) vp_int)) vo_none (vo_some vp_int)) vp_str)) (vss_one vs_never) vss_nil) (vss_cons (vs_set 3 sc_read_paper.nd (ve_lst va_nil)) (vss_cons (vs_for PassesOwn.never rfl (vi_range2 T.n_range (vpa_cons (vp_op od_add (vp_var 2) vp_int) (vpa_cons (vp_callB od_len T.n_len boot_len (vpa_cons (vp_var 1) vpa_nil)) vpa_nil))) (vg_name 4 sc_read_paper.nd) (vss_cons (vs_set 5 sc_read_paper.nd (ve_call (G_read_token) (hr.mono (by decide)) (va_cons (ve_p (vp_ix (vp_var 1) (vp_var 4))) va_nil))) (vss_cons (vs_if (vt_p (vb_cmp od_isN (vp_var 5) vp_non)) (vss_one vs_never) vss_nil) (vss_one (vs_append 3 (ve_var 5)))))) (vss_cons (vs_if (vt_p (vb_cmp (od_eq hr.units) (vp_callB od_len T.n_len boot_len (vpa_cons (vp_var 3) vpa_nil)) vp_int)) (vss_one vs_never) vss_nil) (vss_one (vs_ret (ve_new (G_Paper___init__) (hr.mono (by decide)) (va_cons (ve_join (ve_p vp_str) (ve_slL (ve_var 1) (vo_some vp_int) (vo_some (vp_op od_add (vp_var 2) vp_int)))) (va_cons (ve_p (vp_slS (vp_ix (vp_var 1) (vp_op od_add (vp_var 2) vp_int)) (vo_some vp_int) vo_none)) (va_cons (ve_tupOf (va_cons (ve_var 3) va_nil) T.n_tuple) va_nil))))))))))))))) (by decide)
theorem goodX_read_paper (T : Tx w K mg) : GoodX P w K mg base (He.ga K "BadPaper") "row" "read_paper" 3 ["text"] (x_read_paper (He.ga K "Paper")) := by
  obtain ⟨f, fd, F, hm⟩ := T.d_read_paper
  have G_Paper___init__ := good_Paper___init__ (P := P) (w := w) (base := base) T
  have G_read_token := good_read_token (P := P) (w := w) (base := base) T
  have G_read_count := good_read_count (P := P) (w := w) (base := base) T
  have RC := raiseC (P := P) (w := w) (base := base) T
  exact GoodX.mkD (N := ["text", "rows", "count", "tokens", "at", "token"]) (k := 2) F hm (F.bindsN (ps := ["text"]) fun _ _ _ _ _ _ us hl => match us, hl with | [_], _ => rfl) sc_read_paper (fun cdv A outer s H E hr tk =>
    (vxs_cons (vx_of (vs_set 1 sc_read_paper.nd (ve_split (ve_var 0) (ve_p vp_str)))) (vxs_cons (vx_of (vs_set 2 sc_read_paper.nd (ve_call (G_read_count) (hr.mono (by decide)) (va_cons (ve_p (vp_ix (vp_var 1) vp_int)) va_nil)))) (vxs_cons (vx_if (vt_p (vb_cmp od_isN (vp_var 2) vp_non)) (vxs_cons (vx_raise rfl tk RC (hr.mono (by decide)) (ve_p vp_int)) vxs_nil) vxs_nil) (vxs_cons (vx_if (vt_p (vb_cmp od_gt (vp_op od_add (vp_var 2) vp_int) (vp_callB od_len T.n_len boot_len (vpa_cons (vp_var 1) vpa_nil)))) (vxs_cons (vx_raise rfl tk RC (hr.mono (by decide)) (ve_p (vp_op od_add (vp_callB od_len T.n_len boot_len (vpa_cons (vp_var 1) vpa_nil)) vp_int))) vxs_nil) vxs_nil) (vxs_cons (vx_if (vt_p (vb_cmp (od_ne hr.units) (vp_slS (vp_ix (vp_var 1) (vp_op od_add (vp_var 2) vp_int)) vo_none (vo_some vp_int)) vp_str)) (vxs_cons (vx_raise rfl tk RC (hr.mono (by decide)) (ve_p (vp_op od_add (vp_var 2) vp_int))) vxs_nil) vxs_nil) (vxs_cons (vx_of (vs_set 3 sc_read_paper.nd (ve_lst va_nil))) (vxs_cons (vx_for (passes_of rfl) rfl (vi_range2 T.n_range (vpa_cons (vp_op od_add (vp_var 2) vp_int) (vpa_cons (vp_callB od_len T.n_len boot_len (vpa_cons (vp_var 1) vpa_nil)) vpa_nil))) (vg_name 4 sc_read_paper.nd) (vxs_cons (vx_of (vs_set 5 sc_read_paper.nd (ve_call (G_read_token) (hr.mono (by decide)) (va_cons (ve_p (vp_ix (vp_var 1) (vp_var 4))) va_nil)))) (vxs_cons (vx_if (vt_p (vb_cmp od_isN (vp_var 5) vp_non)) (vxs_cons (vx_raise rfl tk RC (hr.mono (by decide)) (ve_p (vp_op od_add (vp_var 4) vp_int))) vxs_nil) vxs_nil) (vxs_cons (vx_of (vs_append 3 (ve_var 5))) vxs_nil)))) (vxs_cons (vx_if (vt_p (vb_cmp (od_eq hr.units) (vp_callB od_len T.n_len boot_len (vpa_cons (vp_var 3) vpa_nil)) vp_int)) (vxs_cons (vx_raise rfl tk RC (hr.mono (by decide)) (ve_p (vp_op od_add (vp_callB od_len T.n_len boot_len (vpa_cons (vp_var 1) vpa_nil)) vp_int))) vxs_nil) vxs_nil) (vxs_cons (vx_of (vs_ret (ve_new (G_Paper___init__) (hr.mono (by decide)) (va_cons (ve_join (ve_p vp_str) (ve_slL (ve_var 1) (vo_some vp_int) (vo_some (vp_op od_add (vp_var 2) vp_int)))) (va_cons (ve_p (vp_slS (vp_ix (vp_var 1) (vp_op od_add (vp_var 2) vp_int)) (vo_some vp_int) vo_none)) (va_cons (ve_tupOf (va_cons (ve_var 3) va_nil) T.n_tuple) va_nil)))))) vxs_nil))))))))))
theorem sc_f_law_draws : FnScope ["script", "many", "cell", "rests", "draws", "k", "at", "mixed"] ["script", "many"] (defScope st_f_law_draws) := ⟨rfl, rfl, rfl, by decide +kernel, rfl, by decide +kernel, by decide +kernel⟩
theorem good_f_law_draws (T : Tx w K mg) : Good P w K mg base "_law_draws" 1 ["script", "many"] f_law_draws := by
  obtain ⟨f, fd, F, hm⟩ := T.d_f_law_draws
  exact Good.mkD (N := ["script", "many", "cell", "rests", "draws", "k", "at", "mixed"]) (k := 0) [] F hm (F.bindsN (ps := ["script", "many"]) fun _ _ _ _ _ _ us hl => match us, hl with | [_, _], _ => rfl) sc_f_law_draws (fun cdv A outer s H E hr =>
    (vss_cons (vs_setLc 3 [("cell", 2)] rfl sc_f_law_draws.nd (sw_true rfl rfl rfl (by decide +kernel)) (vi_list (ve_var 0)) (blkOk_by (N := ["script", "many", "cell", "rests", "draws", "k", "at", "mixed"]) (sc := defScope st_f_law_draws) (by decide +kernel)) (fun _ _ _ _ _ => (vg_name 2 sc_f_law_draws.nd)) (fun _ _ _ _ _ => vts_nil) (fun _ _ _ _ _ => (ve_p (vp_callB od_abs T.n_abs (by decide +kernel) (vpa_cons (vp_callTy od_int T.n_int (by decide +kernel) (vpa_cons (vp_var 2) vpa_nil)) vpa_nil))))) (vss_cons (vs_set 4 sc_f_law_draws.nd (ve_lst va_nil)) (vss_cons (vs_for PassesOwn.never rfl (vi_range1 T.n_range (vpa_cons (vp_var 1) vpa_nil)) (vg_name 5 sc_f_law_draws.nd) (vss_cons (vs_set 2 sc_f_law_draws.nd (ve_var 5)) (vss_cons (vs_if (vt_p (vb_cmp od_gt (vp_callB od_len T.n_len boot_len (vpa_cons (vp_var 0) vpa_nil)) vp_int)) (vss_cons (vs_set 6 sc_f_law_draws.nd (ve_p (vp_op od_mod (vp_var 5) (vp_callB od_len T.n_len boot_len (vpa_cons (vp_var 0) vpa_nil))))) (vss_cons (vs_set 2 sc_f_law_draws.nd (ve_p (vp_callTy od_int T.n_int (by decide +kernel) (vpa_cons (vp_ix (vp_var 0) (vp_var 6)) vpa_nil)))) (vss_one (vs_if (vt_p (vb_w (vw_and (vb_cmp od_ge (vp_var 2) (vp_op od_pow vp_int vp_int)) (vw_and1 (vb_cmp od_gt (vp_ix (vp_var 3) (vp_var 6)) vp_int))))) (vss_cons (vs_append 4 (ve_p (vp_op od_mod (vp_callTy od_int T.n_int (by decide +kernel) (vpa_cons (vp_ix (vp_var 3) (vp_var 6)) vpa_nil)) vp_int))) (vss_cons (vs_setI 3 (ve_p (vp_op od_div (vp_callTy od_int T.n_int (by decide +kernel) (vpa_cons (vp_ix (vp_var 3) (vp_var 6)) vpa_nil)) vp_int)) (ve_var 6)) (vss_one vs_continue))) vss_nil)))) vss_nil) (vss_cons (vs_set 7 sc_f_law_draws.nd (ve_p (vp_op od_mod (vp_callTy od_int T.n_int (by decide +kernel) (vpa_cons (vp_op od_add (vp_op od_add (vp_op od_mul (vp_var 2) vp_int) (vp_op od_mul (vp_var 5) vp_int)) vp_int) vpa_nil)) vp_int))) (vss_cons (vs_set 7 sc_f_law_draws.nd (ve_p (vp_op od_mod (vp_callTy od_int T.n_int (by decide +kernel) (vpa_cons (vp_op od_add (vp_op od_div (vp_op od_mul (vp_var 7) (vp_var 7)) vp_int) (vp_var 7)) vpa_nil)) vp_int))) (vss_one (vs_append 4 (ve_p (vp_op od_mod (vp_callTy od_int T.n_int (by decide +kernel) (vpa_cons (vp_op od_add (vp_op od_div (vp_op od_mul (vp_var 7) (vp_var 7)) vp_int) (vp_op od_mul (vp_var 5) vp_int)) vpa_nil)) vp_int))))))))) (vss_one (vs_ret (ve_mov 4))))))) (by decide)
theorem sc_f_law_take : FnScope ["hand", "many", "at", "draws"] ["hand", "many"] (defScope st_f_law_take) := ⟨rfl, rfl, rfl, by decide +kernel, rfl, by decide +kernel, by decide +kernel⟩
theorem good_f_law_take (T : Tx w K mg) : Good P w K mg base "_law_take" 1 ["hand", "many"] f_law_take := by
  obtain ⟨f, fd, F, hm⟩ := T.d_f_law_take
  exact Good.mkD (N := ["hand", "many", "at", "draws"]) (k := 0) [] F hm (F.bindsN (ps := ["hand", "many"]) fun _ _ _ _ _ _ us hl => match us, hl with | [_, _], _ => rfl) sc_f_law_take (fun cdv A outer s H E hr =>
    (vss_cons (vs_set 2 sc_f_law_take.nd (ve_ixN 0 (ve_p vp_int))) (vss_cons (vs_setI 0 (ve_p (vp_op od_add (vp_var 2) vp_int)) (ve_p vp_int)) (vss_cons (vs_set 3 sc_f_law_take.nd (ve_ixN 0 (ve_p vp_int))) (vss_cons (vs_if (vt_p (vb_cmp od_ge (vp_var 2) (vp_callB od_len T.n_len boot_len (vpa_cons (vp_var 3) vpa_nil)))) (vss_one (vs_ret (ve_p vp_int))) vss_nil) (vss_one (vs_ret (ve_p (vp_op od_mod (vp_op od_div (vp_callTy od_int T.n_int (by decide +kernel) (vpa_cons (vp_ix (vp_var 3) (vp_var 2)) vpa_nil)) vp_int) (vp_var 1)))))))))) (by decide)
theorem sc_f_law_wide : FnScope ["hand", "many", "first"] ["hand", "many"] (defScope st_f_law_wide) := ⟨rfl, rfl, rfl, by decide +kernel, rfl, by decide +kernel, by decide +kernel⟩
theorem good_f_law_wide (T : Tx w K mg) : Good P w K mg base "_law_wide" 2 ["hand", "many"] f_law_wide := by
  obtain ⟨f, fd, F, hm⟩ := T.d_f_law_wide
  have G_f_law_take := good_f_law_take (P := P) (w := w) (base := base) T
  exact Good.mkD (N := ["hand", "many", "first"]) (k := 1) [] F hm (F.bindsN (ps := ["hand", "many"]) fun _ _ _ _ _ _ us hl => match us, hl with | [_, _], _ => rfl) sc_f_law_wide (fun cdv A outer s H E hr =>
    (vss_cons (vs_set 2 sc_f_law_wide.nd (ve_call (G_f_law_take) (hr.mono (by decide)) (va_mv 0 (va_cons (ve_p vp_int) va_nil)))) (vss_one (vs_ret (ve_op od_mod (ve_callTy1 od_int T.n_int (by decide +kernel) (ve_op od_add (ve_p (vp_op od_mul (vp_var 2) vp_int)) (ve_call (G_f_law_take) (hr.mono (by decide)) (va_mv 0 (va_cons (ve_p vp_int) va_nil))))) (ve_var 1)))))) (by decide)
theorem sc_f_law_number : FnScope ["hand"] ["hand"] (defScope st_f_law_number) := ⟨rfl, rfl, rfl, by decide +kernel, rfl, by decide +kernel, by decide +kernel⟩
theorem good_f_law_number (T : Tx w K mg) : Good P w K mg base "_law_number" 3 ["hand"] f_law_number := by
  obtain ⟨f, fd, F, hm⟩ := T.d_f_law_number
  have G_f_law_wide := good_f_law_wide (P := P) (w := w) (base := base) T
  have G_f_law_take := good_f_law_take (P := P) (w := w) (base := base) T
  exact Good.mkD (N := ["hand"]) (k := 2) [] F hm (F.bindsN (ps := ["hand"]) fun _ _ _ _ _ _ us hl => match us, hl with | [_], _ => rfl) sc_f_law_number (fun cdv A outer s H E hr =>
    (vss_cons (vs_if (vt_cmp (od_eq hr.units) (ve_call (G_f_law_take) (hr.mono (by decide)) (va_mv 0 (va_cons (ve_p vp_int) va_nil))) (ve_p vp_int)) (vss_one (vs_ret (ve_op od_sub (ve_p (vp_op od_sub (vp_op od_pow vp_int vp_int) vp_int)) (ve_call (G_f_law_take) (hr.mono (by decide)) (va_mv 0 (va_cons (ve_p vp_int) va_nil)))))) vss_nil) (vss_one (vs_ret (ve_op od_mul (ve_call (G_f_law_wide) (hr.mono (by decide)) (va_mv 0 (va_cons (ve_ix (ve_lst (va_cons (ve_p vp_int) (va_cons (ve_p vp_int) (va_cons (ve_p (vp_op od_pow vp_int vp_int)) (va_cons (ve_p (vp_op od_pow vp_int vp_int)) va_nil))))) (ve_call (G_f_law_take) (hr.mono (by decide)) (va_mv 0 (va_cons (ve_p vp_int) va_nil)))) va_nil))) (ve_ix (ve_lst (va_cons (ve_p vp_int) (va_cons (ve_p vp_int) (va_cons (ve_p vp_int) (va_cons (ve_p vp_int) va_nil))))) (ve_call (G_f_law_take) (hr.mono (by decide)) (va_mv 0 (va_cons (ve_p vp_int) va_nil))))))))) (by decide)
theorem sc_f_law_line : FnScope ["hand", "signs", "tricky", "line", "k"] ["hand"] (defScope st_f_law_line) := ⟨rfl, rfl, rfl, by decide +kernel, rfl, by decide +kernel, by decide +kernel⟩
theorem good_f_law_line (T : Tx w K mg) : Good P w K mg base "_law_line" 2 ["hand"] f_law_line := by
  obtain ⟨f, fd, F, hm⟩ := T.d_f_law_line
  have G_f_law_take := good_f_law_take (P := P) (w := w) (base := base) T
  exact Good.mkD (N := ["hand", "signs", "tricky", "line", "k"]) (k := 1) [] F hm (F.bindsN (ps := ["hand"]) fun _ _ _ _ _ _ us hl => match us, hl with | [_], _ => rfl) sc_f_law_line (fun cdv A outer s H E hr =>
    (vss_cons (vs_set 1 sc_f_law_line.nd (ve_p vp_str)) (vss_cons (vs_set 2 sc_f_law_line.nd (ve_lst (va_cons (ve_p vp_str) (va_cons (ve_p vp_str) (va_cons (ve_p vp_str) (va_cons (ve_p vp_str) (va_cons (ve_p vp_str) (va_cons (ve_p vp_str) (va_cons (ve_p vp_str) (va_cons (ve_p vp_str) (va_cons (ve_p vp_str) (va_cons (ve_p vp_str) (va_cons (ve_p vp_str) (va_cons (ve_p vp_str) va_nil)))))))))))))) (vss_cons (vs_if (vt_cmp (od_eq hr.units) (ve_call (G_f_law_take) (hr.mono (by decide)) (va_mv 0 (va_cons (ve_p vp_int) va_nil))) (ve_p vp_int)) (vss_one (vs_ret (ve_ixN 2 (ve_call (G_f_law_take) (hr.mono (by decide)) (va_mv 0 (va_cons (ve_p (vp_callB od_len T.n_len boot_len (vpa_cons (vp_var 2) vpa_nil))) va_nil)))))) vss_nil) (vss_cons (vs_set 3 sc_f_law_line.nd (ve_p vp_str)) (vss_cons (vs_for PassesOwn.never rfl (vi_range1E T.n_range (ve_call (G_f_law_take) (hr.mono (by decide)) (va_mv 0 (va_cons (ve_p vp_int) va_nil)))) (vg_name 4 sc_f_law_line.nd) (vss_one (vs_set 3 sc_f_law_line.nd (ve_opT ot_add (ve_var 3) (ve_ixN 1 (ve_call (G_f_law_take) (hr.mono (by decide)) (va_mv 0 (va_cons (ve_p (vp_callB od_len T.n_len boot_len (vpa_cons (vp_var 1) vpa_nil))) va_nil)))))))) (vss_cons (vs_if (vt_cmp (od_eq hr.units) (ve_call (G_f_law_take) (hr.mono (by decide)) (va_mv 0 (va_cons (ve_p vp_int) va_nil))) (ve_p vp_int)) (vss_one (vs_set 3 sc_f_law_line.nd (ve_opT ot_add (ve_var 3) (ve_ix (ve_p vp_str) (ve_call (G_f_law_take) (hr.mono (by decide)) (va_mv 0 (va_cons (ve_p vp_int) va_nil))))))) vss_nil) (vss_one (vs_ret (ve_mov 3)))))))))) (by decide)
theorem sc_f_law_token : FnScope ["hand", "kind", "many", "k"] ["hand"] (defScope st_f_law_token) := ⟨rfl, rfl, rfl, by decide +kernel, rfl, by decide +kernel, by decide +kernel⟩
theorem good_f_law_token (T : Tx w K mg) : Good P w K mg base "_law_token" 4 ["hand"] f_law_token := by
  obtain ⟨f, fd, F, hm⟩ := T.d_f_law_token
  have G_f_law_number := good_f_law_number (P := P) (w := w) (base := base) T
  have G_f_law_take := good_f_law_take (P := P) (w := w) (base := base) T
  exact Good.mkD (N := ["hand", "kind", "many", "k"]) (k := 3) [] F hm (F.bindsN (ps := ["hand"]) fun _ _ _ _ _ _ us hl => match us, hl with | [_], _ => rfl) sc_f_law_token (fun cdv A outer s H E hr =>
    (vss_cons (vs_set 1 sc_f_law_token.nd (ve_ix (ve_lst (va_cons (ve_p vp_str) (va_cons (ve_p vp_str) (va_cons (ve_p vp_str) (va_cons (ve_p vp_str) (va_cons (ve_p vp_str) (va_cons (ve_p vp_str) (va_cons (ve_p vp_str) (va_cons (ve_p vp_str) (va_cons (ve_p vp_str) (va_cons (ve_p vp_str) va_nil))))))))))) (ve_call (G_f_law_take) (hr.mono (by decide)) (va_mv 0 (va_cons (ve_p vp_int) va_nil))))) (vss_cons (vs_if (vt_p (vb_w (vw_or (vb_cmp (od_eq hr.units) (vp_var 1) vp_str) (vw_or1 (vb_cmp (od_eq hr.units) (vp_var 1) vp_str))))) (vss_one (vs_ret (ve_tup (va_cons (ve_var 1) va_nil)))) vss_nil) (vss_cons (vs_if (vt_p (vb_cmp (od_eq hr.units) (vp_var 1) vp_str)) (vss_one (vs_ret (ve_tup (va_cons (ve_var 1) (va_cons (ve_tupOf (va_cons (ve_lc [("k", 3)] rfl sc_f_law_token.nd (vi_range1E T.n_range (ve_op od_add (ve_p vp_int) (ve_op od_mul (ve_call (G_f_law_take) (hr.mono (by decide)) (va_mv 0 (va_cons (ve_p vp_int) va_nil))) (ve_call (G_f_law_take) (hr.mono (by decide)) (va_mv 0 (va_cons (ve_p vp_int) va_nil)))))) (blkOk_by (N := ["hand", "kind", "many", "k"]) (sc := defScope st_f_law_token) (by decide +kernel)) (fun _ _ _ _ _ => (vg_name 3 sc_f_law_token.nd)) (fun _ _ _ _ _ => vts_nil) (fun _ _ _ _ _ => (ve_call (G_f_law_number) (hr.mono (by decide)) (va_mv 0 va_nil)))) va_nil) T.n_tuple) va_nil))))) vss_nil) (vss_cons (vs_set 2 sc_f_law_token.nd (ve_p vp_int)) (vss_cons (vs_if (vt_cmp od_in (ve_var 1) (ve_lst (va_cons (ve_p vp_str) (va_cons (ve_p vp_str) (va_cons (ve_p vp_str) va_nil))))) (vss_one (vs_set 2 sc_f_law_token.nd (ve_p vp_int))) vss_nil) (vss_cons (vs_if (vt_cmp od_in (ve_var 1) (ve_lst (va_cons (ve_p vp_str) (va_cons (ve_p vp_str) va_nil)))) (vss_one (vs_set 2 sc_f_law_token.nd (ve_p vp_int))) vss_nil) (vss_one (vs_ret (ve_opT ot_cat (ve_tup (va_cons (ve_var 1) va_nil)) (ve_tupOf (va_cons (ve_lc [("k", 3)] rfl sc_f_law_token.nd (vi_range1 T.n_range (vpa_cons (vp_var 2) vpa_nil)) (blkOk_by (N := ["hand", "kind", "many", "k"]) (sc := defScope st_f_law_token) (by decide +kernel)) (fun _ _ _ _ _ => (vg_name 3 sc_f_law_token.nd)) (fun _ _ _ _ _ => vts_nil) (fun _ _ _ _ _ => (ve_call (G_f_law_number) (hr.mono (by decide)) (va_mv 0 va_nil)))) va_nil) T.n_tuple))))))))))) (by decide)
theorem sc_f_law_lines : FnScope ["hand", "many", "short", "k"] ["hand"] (defScope st_f_law_lines) := ⟨rfl, rfl, rfl, by decide +kernel, rfl, by decide +kernel, by decide +kernel⟩
theorem good_f_law_lines (T : Tx w K mg) : Good P w K mg base "_law_lines" 3 ["hand"] f_law_lines := by
  obtain ⟨f, fd, F, hm⟩ := T.d_f_law_lines
  have G_f_law_line := good_f_law_line (P := P) (w := w) (base := base) T
  have G_f_law_take := good_f_law_take (P := P) (w := w) (base := base) T
  exact Good.mkD (N := ["hand", "many", "short", "k"]) (k := 2) [] F hm (F.bindsN (ps := ["hand"]) fun _ _ _ _ _ _ us hl => match us, hl with | [_], _ => rfl) sc_f_law_lines (fun cdv A outer s H E hr =>
    (vss_cons (vs_set 1 sc_f_law_lines.nd (ve_op od_add (ve_p vp_int) (ve_call (G_f_law_take) (hr.mono (by decide)) (va_mv 0 (va_cons (ve_p vp_int) va_nil))))) (vss_cons (vs_if (vt_cmp (od_eq hr.units) (ve_call (G_f_law_take) (hr.mono (by decide)) (va_mv 0 (va_cons (ve_p vp_int) va_nil))) (ve_p vp_int)) (vss_one (vs_set 1 sc_f_law_lines.nd (ve_op od_add (ve_p vp_int) (ve_call (G_f_law_take) (hr.mono (by decide)) (va_mv 0 (va_cons (ve_p vp_int) va_nil)))))) vss_nil) (vss_cons (vs_set 2 sc_f_law_lines.nd (ve_lc [("k", 3)] rfl sc_f_law_lines.nd (vi_range1 T.n_range (vpa_cons (vp_callB (od_min2 rfl) T.n_min (by decide +kernel) (vpa_cons (vp_var 1) (vpa_cons vp_int vpa_nil))) vpa_nil)) (blkOk_by (N := ["hand", "many", "short", "k"]) (sc := defScope st_f_law_lines) (by decide +kernel)) (fun _ _ _ _ _ => (vg_name 3 sc_f_law_lines.nd)) (fun _ _ _ _ _ => vts_nil) (fun _ _ _ _ _ => (ve_call (G_f_law_line) (hr.mono (by decide)) (va_mv 0 va_nil))))) (vss_one (vs_ret (ve_lc [("k", 3)] rfl sc_f_law_lines.nd (vi_range1 T.n_range (vpa_cons (vp_var 1) vpa_nil)) (blkOk_by (N := ["hand", "many", "short", "k"]) (sc := defScope st_f_law_lines) (by decide +kernel)) (fun _ _ _ _ _ => (vg_name 3 sc_f_law_lines.nd)) (fun _ _ _ _ _ => vts_nil) (fun _ _ _ _ _ => (ve_p (vp_ix (vp_var 2) (vp_op od_mod (vp_var 3) (vp_callB od_len T.n_len boot_len (vpa_cons (vp_var 2) vpa_nil))))))))))))) (by decide)
theorem sc_f_law_rows : FnScope ["lines", "name", "tokens", "rows", "token", "parts", "part"] ["lines", "name", "tokens"] (defScope st_f_law_rows) := ⟨rfl, rfl, rfl, by decide +kernel, rfl, by decide +kernel, by decide +kernel⟩
theorem good_f_law_rows (T : Tx w K mg) : Good P w K mg base "_law_rows" 1 ["lines", "name", "tokens"] f_law_rows := by
  obtain ⟨f, fd, F, hm⟩ := T.d_f_law_rows
  exact Good.mkD (N := ["lines", "name", "tokens", "rows", "token", "parts", "part"]) (k := 0) [] F hm (F.bindsN (ps := ["lines", "name", "tokens"]) fun _ _ _ _ _ _ us hl => match us, hl with | [_, _, _], _ => rfl) sc_f_law_rows (fun cdv A outer s H E hr =>
    (vss_cons (vs_set 3 sc_f_law_rows.nd (ve_opT ot_add (ve_opT ot_add (ve_lst (va_cons (ve_p (vp_op od_add vp_str (vp_callTy od_str T.n_str (by decide +kernel) (vpa_cons (vp_callB od_len T.n_len boot_len (vpa_cons (vp_var 0) vpa_nil)) vpa_nil)))) va_nil)) (ve_var 0)) (ve_lst (va_cons (ve_p (vp_op od_add vp_str (vp_var 1))) va_nil)))) (vss_cons (vs_for PassesOwn.never rfl (vi_tup (ve_var 2)) (vg_name 4 sc_f_law_rows.nd) (vss_cons (vs_set 5 sc_f_law_rows.nd (ve_slT (ve_var 4) (vo_some vp_int) vo_none)) (vss_cons (vs_if (vt_p (vb_cmp (od_eq hr.units) (vp_ix (vp_var 4) vp_int) vp_str)) (vss_one (vs_set 5 sc_f_law_rows.nd (ve_ixN 4 (ve_p vp_int)))) vss_nil) (vss_one (vs_append 3 (ve_join (ve_p vp_str) (ve_opT ot_add (ve_lst (va_cons (ve_p (vp_ix (vp_var 4) vp_int)) va_nil)) (ve_lc [("part", 6)] rfl sc_f_law_rows.nd (vi_seq (ve_var 5)) (blkOk_by (N := ["lines", "name", "tokens", "rows", "token", "parts", "part"]) (sc := defScope st_f_law_rows) (by decide +kernel)) (fun _ _ _ _ _ => (vg_name 6 sc_f_law_rows.nd)) (fun _ _ _ _ _ => vts_nil) (fun _ _ _ _ _ => (ve_p (vp_callTy od_str T.n_str (by decide +kernel) (vpa_cons (vp_var 6) vpa_nil)))))))))))) (vss_one (vs_ret (ve_mov 3)))))) (by decide)
theorem sc_f_law_tokens : FnScope ["hand", "found", "k"] ["hand"] (defScope st_f_law_tokens) := ⟨rfl, rfl, rfl, by decide +kernel, rfl, by decide +kernel, by decide +kernel⟩
theorem good_f_law_tokens (T : Tx w K mg) : Good P w K mg base "_law_tokens" 5 ["hand"] f_law_tokens := by
  obtain ⟨f, fd, F, hm⟩ := T.d_f_law_tokens
  have G_f_law_take := good_f_law_take (P := P) (w := w) (base := base) T
  have G_f_law_token := good_f_law_token (P := P) (w := w) (base := base) T
  exact Good.mkD (N := ["hand", "found", "k"]) (k := 4) [] F hm (F.bindsN (ps := ["hand"]) fun _ _ _ _ _ _ us hl => match us, hl with | [_], _ => rfl) sc_f_law_tokens (fun cdv A outer s H E hr =>
    (vss_cons (vs_setLc 1 [("k", 2)] rfl sc_f_law_tokens.nd (sw_true rfl rfl rfl (by decide +kernel)) (vi_range1E T.n_range (ve_op od_add (ve_p vp_int) (ve_call (G_f_law_take) (hr.mono (by decide)) (va_mv 0 (va_cons (ve_p vp_int) va_nil))))) (blkOk_by (N := ["hand", "found", "k"]) (sc := defScope st_f_law_tokens) (by decide +kernel)) (fun _ _ _ _ _ => (vg_name 2 sc_f_law_tokens.nd)) (fun _ _ _ _ _ => vts_nil) (fun _ _ _ _ _ => (ve_call (G_f_law_token) (hr.mono (by decide)) (va_mv 0 va_nil)))) (vss_cons (vs_if (vt_cmp (od_eq hr.units) (ve_call (G_f_law_take) (hr.mono (by decide)) (va_mv 0 (va_cons (ve_p vp_int) va_nil))) (ve_p vp_int)) (vss_one (vs_set 1 sc_f_law_tokens.nd (ve_opT ot_rep (ve_mov 1) (ve_op od_add (ve_p vp_int) (ve_call (G_f_law_take) (hr.mono (by decide)) (va_mv 0 (va_cons (ve_p vp_int) va_nil))))))) vss_nil) (vss_one (vs_ret (ve_tupOf (va_cons (ve_var 1) va_nil) T.n_tuple)))))) (by decide)
theorem sc_f_law_pick : FnScope ["hand", "rows"] ["hand", "rows"] (defScope st_f_law_pick) := ⟨rfl, rfl, rfl, by decide +kernel, rfl, by decide +kernel, by decide +kernel⟩
theorem good_f_law_pick (T : Tx w K mg) : Good P w K mg base "_law_pick" 2 ["hand", "rows"] f_law_pick := by
  obtain ⟨f, fd, F, hm⟩ := T.d_f_law_pick
  have G_f_law_take := good_f_law_take (P := P) (w := w) (base := base) T
  exact Good.mkD (N := ["hand", "rows"]) (k := 1) [] F hm (F.bindsN (ps := ["hand", "rows"]) fun _ _ _ _ _ _ us hl => match us, hl with | [_, _], _ => rfl) sc_f_law_pick (fun cdv A outer s H E hr =>
    (vss_one (vs_ret (ve_ixN 1 (ve_call (G_f_law_take) (hr.mono (by decide)) (va_mv 0 (va_cons (ve_p (vp_callB od_len T.n_len boot_len (vpa_cons (vp_var 1) vpa_nil))) va_nil))))))) (by decide)
theorem sc_f_law_wrong_first : FnScope ["hand", "many", "told", "rows"] ["hand", "many"] (defScope st_f_law_wrong_first) := ⟨rfl, rfl, rfl, by decide +kernel, rfl, by decide +kernel, by decide +kernel⟩
theorem good_f_law_wrong_first (T : Tx w K mg) : Good P w K mg base "_law_wrong_first" 3 ["hand", "many"] f_law_wrong_first := by
  obtain ⟨f, fd, F, hm⟩ := T.d_f_law_wrong_first
  have G_f_law_pick := good_f_law_pick (P := P) (w := w) (base := base) T
  exact Good.mkD (N := ["hand", "many", "told", "rows"]) (k := 2) [] F hm (F.bindsN (ps := ["hand", "many"]) fun _ _ _ _ _ _ us hl => match us, hl with | [_, _], _ => rfl) sc_f_law_wrong_first (fun cdv A outer s H E hr =>
    (vss_cons (vs_set 2 sc_f_law_wrong_first.nd (ve_p (vp_callTy od_str T.n_str (by decide +kernel) (vpa_cons (vp_var 1) vpa_nil)))) (vss_cons (vs_set 3 sc_f_law_wrong_first.nd (ve_lst (va_cons (ve_p vp_str) (va_cons (ve_p vp_str) (va_cons (ve_p vp_str) (va_cons (ve_p vp_str) (va_cons (ve_p (vp_op od_add vp_str (vp_var 2))) (va_cons (ve_p (vp_op od_add vp_str (vp_var 2))) (va_cons (ve_p (vp_op od_add vp_str (vp_var 2))) (va_cons (ve_p vp_str) (va_cons (ve_p (vp_op od_add vp_str (vp_var 2))) va_nil))))))))))) (vss_cons (vs_set 3 sc_f_law_wrong_first.nd (ve_opT ot_add (ve_var 3) (ve_lst (va_cons (ve_p (vp_op od_add (vp_op od_add vp_str (vp_var 2)) vp_str)) (va_cons (ve_p (vp_op od_add vp_str (vp_var 2))) (va_cons (ve_p (vp_op od_add vp_str (vp_var 2))) (va_cons (ve_p (vp_op od_add (vp_op od_add vp_str (vp_var 2)) vp_str)) (va_cons (ve_p (vp_op od_add vp_str (vp_var 2))) (va_cons (ve_var 2) va_nil))))))))) (vss_one (vs_ret (ve_call (G_f_law_pick) (hr.mono (by decide)) (va_mv 0 (va_cons (ve_opT ot_add (ve_var 3) (ve_lst (va_cons (ve_p vp_str) (va_cons (ve_p (vp_op od_add (vp_op od_add vp_str (vp_var 2)) vp_str)) (va_cons (ve_p vp_str) (va_cons (ve_p (vp_op od_add vp_str (vp_var 2))) va_nil)))))) va_nil))))))))) (by decide)
theorem sc_f_law_wrong_name : FnScope ["hand"] ["hand"] (defScope st_f_law_wrong_name) := ⟨rfl, rfl, rfl, by decide +kernel, rfl, by decide +kernel, by decide +kernel⟩
theorem good_f_law_wrong_name (T : Tx w K mg) : Good P w K mg base "_law_wrong_name" 3 ["hand"] f_law_wrong_name := by
  obtain ⟨f, fd, F, hm⟩ := T.d_f_law_wrong_name
  have G_f_law_pick := good_f_law_pick (P := P) (w := w) (base := base) T
  exact Good.mkD (N := ["hand"]) (k := 2) [] F hm (F.bindsN (ps := ["hand"]) fun _ _ _ _ _ _ us hl => match us, hl with | [_], _ => rfl) sc_f_law_wrong_name (fun cdv A outer s H E hr =>
    (vss_one (vs_ret (ve_call (G_f_law_pick) (hr.mono (by decide)) (va_mv 0 (va_cons (ve_lst (va_cons (ve_p vp_str) (va_cons (ve_p vp_str) (va_cons (ve_p vp_str) (va_cons (ve_p vp_str) (va_cons (ve_p vp_str) (va_cons (ve_p vp_str) (va_cons (ve_p vp_str) (va_cons (ve_p vp_str) va_nil))))))))) va_nil)))))) (by decide)
theorem sc_f_law_wrong_token : FnScope ["hand", "rows"] ["hand"] (defScope st_f_law_wrong_token) := ⟨rfl, rfl, rfl, by decide +kernel, rfl, by decide +kernel, by decide +kernel⟩
theorem good_f_law_wrong_token (T : Tx w K mg) : Good P w K mg base "_law_wrong_token" 3 ["hand"] f_law_wrong_token := by
  obtain ⟨f, fd, F, hm⟩ := T.d_f_law_wrong_token
  have G_f_law_pick := good_f_law_pick (P := P) (w := w) (base := base) T
  exact Good.mkD (N := ["hand", "rows"]) (k := 2) [] F hm (F.bindsN (ps := ["hand"]) fun _ _ _ _ _ _ us hl => match us, hl with | [_], _ => rfl) sc_f_law_wrong_token (fun cdv A outer s H E hr =>
    (vss_cons (vs_set 1 sc_f_law_wrong_token.nd (ve_lst (va_cons (ve_p vp_str) (va_cons (ve_p vp_str) (va_cons (ve_p vp_str) (va_cons (ve_p vp_str) (va_cons (ve_p vp_str) (va_cons (ve_p vp_str) (va_cons (ve_p vp_str) (va_cons (ve_p vp_str) (va_cons (ve_p vp_str) (va_cons (ve_p vp_str) (va_cons (ve_p vp_str) (va_cons (ve_p vp_str) (va_cons (ve_p vp_str) va_nil))))))))))))))) (vss_cons (vs_set 1 sc_f_law_wrong_token.nd (ve_opT ot_add (ve_var 1) (ve_lst (va_cons (ve_p vp_str) (va_cons (ve_p vp_str) (va_cons (ve_p vp_str) (va_cons (ve_p vp_str) (va_cons (ve_p vp_str) (va_cons (ve_p vp_str) (va_cons (ve_p vp_str) va_nil)))))))))) (vss_cons (vs_set 1 sc_f_law_wrong_token.nd (ve_opT ot_add (ve_var 1) (ve_lst (va_cons (ve_p vp_str) (va_cons (ve_p vp_str) (va_cons (ve_p vp_str) (va_cons (ve_p vp_str) (va_cons (ve_p vp_str) (va_cons (ve_p vp_str) (va_cons (ve_p vp_str) va_nil)))))))))) (vss_cons (vs_set 1 sc_f_law_wrong_token.nd (ve_opT ot_add (ve_var 1) (ve_lst (va_cons (ve_p vp_str) (va_cons (ve_p vp_str) va_nil))))) (vss_cons (vs_set 1 sc_f_law_wrong_token.nd (ve_opT ot_add (ve_var 1) (ve_lst (va_cons (ve_p vp_str) (va_cons (ve_p vp_str) (va_cons (ve_p vp_str) (va_cons (ve_p vp_str) (va_cons (ve_p vp_str) (va_cons (ve_p vp_str) (va_cons (ve_p vp_str) (va_cons (ve_p vp_str) va_nil))))))))))) (vss_cons (vs_set 1 sc_f_law_wrong_token.nd (ve_opT ot_add (ve_var 1) (ve_lst (va_cons (ve_p vp_str) (va_cons (ve_p vp_str) (va_cons (ve_p vp_str) (va_cons (ve_p vp_str) (va_cons (ve_p vp_str) (va_cons (ve_p vp_str) va_nil))))))))) (vss_cons (vs_set 1 sc_f_law_wrong_token.nd (ve_opT ot_add (ve_var 1) (ve_lst (va_cons (ve_p vp_str) (va_cons (ve_p vp_str) (va_cons (ve_p vp_str) va_nil)))))) (vss_one (vs_ret (ve_call (G_f_law_pick) (hr.mono (by decide)) (va_mv 0 (va_cons (ve_opT ot_add (ve_var 1) (ve_lst (va_cons (ve_p vp_str) (va_cons (ve_p vp_str) (va_cons (ve_p vp_str) (va_cons (ve_p vp_str) (va_cons (ve_p vp_str) (va_cons (ve_p vp_str) (va_cons (ve_p vp_str) va_nil))))))))) va_nil))))))))))))) (by decide)
theorem sc_f_law_spoilt_number : FnScope ["hand", "row", "words", "at", "word", "turns"] ["hand", "row"] (defScope st_f_law_spoilt_number) := ⟨rfl, rfl, rfl, by decide +kernel, rfl, by decide +kernel, by decide +kernel⟩
theorem good_f_law_spoilt_number (T : Tx w K mg) : Good P w K mg base "_law_spoilt_number" 2 ["hand", "row"] f_law_spoilt_number := by
  obtain ⟨f, fd, F, hm⟩ := T.d_f_law_spoilt_number
  have G_f_law_take := good_f_law_take (P := P) (w := w) (base := base) T
  exact Good.mkD (N := ["hand", "row", "words", "at", "word", "turns"]) (k := 1) [] F hm (F.bindsN (ps := ["hand", "row"]) fun _ _ _ _ _ _ us hl => match us, hl with | [_, _], _ => rfl) sc_f_law_spoilt_number (fun cdv A outer s H E hr =>
    (vss_cons (vs_set 2 sc_f_law_spoilt_number.nd (ve_split (ve_var 1) (ve_p vp_str))) (vss_cons (vs_if (vt_p (vb_cmp (od_eq hr.units) (vp_callB od_len T.n_len boot_len (vpa_cons (vp_var 2) vpa_nil)) vp_int)) (vss_one (vs_ret (ve_opT ot_add (ve_p (vp_op od_add (vp_var 1) vp_str)) (ve_callTy1 od_str T.n_str (by decide +kernel) (ve_call (G_f_law_take) (hr.mono (by decide)) (va_mv 0 (va_cons (ve_p vp_int) va_nil))))))) vss_nil) (vss_cons (vs_set 3 sc_f_law_spoilt_number.nd (ve_op od_add (ve_p vp_int) (ve_call (G_f_law_take) (hr.mono (by decide)) (va_mv 0 (va_cons (ve_p (vp_op od_sub (vp_callB od_len T.n_len boot_len (vpa_cons (vp_var 2) vpa_nil)) vp_int)) va_nil))))) (vss_cons (vs_set 4 sc_f_law_spoilt_number.nd (ve_p (vp_ix (vp_var 2) (vp_var 3)))) (vss_cons (vs_set 5 sc_f_law_spoilt_number.nd (ve_lst (va_cons (ve_p (vp_op od_add vp_str (vp_var 4))) (va_cons (ve_p (vp_op od_add vp_str (vp_var 4))) (va_cons (ve_p (vp_op od_add vp_str (vp_var 4))) (va_cons (ve_p (vp_op od_add (vp_var 4) vp_str)) (va_cons (ve_p (vp_op od_add (vp_var 4) vp_str)) (va_cons (ve_p (vp_op od_add (vp_var 4) vp_str)) (va_cons (ve_p (vp_op od_add (vp_var 4) vp_str)) (va_cons (ve_p (vp_op od_add (vp_var 4) vp_str)) va_nil)))))))))) (vss_cons (vs_set 4 sc_f_law_spoilt_number.nd (ve_ix (ve_opT ot_add (ve_var 5) (ve_lst (va_cons (ve_p (vp_op od_add (vp_var 4) vp_str)) (va_cons (ve_p (vp_op od_add vp_str (vp_var 4))) (va_cons (ve_p vp_str) (va_cons (ve_p (vp_op od_add (vp_var 4) vp_str)) va_nil)))))) (ve_call (G_f_law_take) (hr.mono (by decide)) (va_mv 0 (va_cons (ve_p vp_int) va_nil))))) (vss_one (vs_ret (ve_join (ve_p vp_str) (ve_opT ot_add (ve_opT ot_add (ve_slL (ve_var 2) vo_none (vo_some (vp_var 3))) (ve_lst (va_cons (ve_var 4) va_nil))) (ve_slL (ve_var 2) (vo_some (vp_op od_add (vp_var 3) vp_int)) vo_none)))))))))))) (by decide)
theorem sc_f_law_spoilt : FnScope ["hand", "rows", "many", "kind", "first", "count", "cut", "at", "wrong"] ["hand", "rows", "many"] (defScope st_f_law_spoilt) := ⟨rfl, rfl, rfl, by decide +kernel, rfl, by decide +kernel, by decide +kernel⟩
theorem good_f_law_spoilt (T : Tx w K mg) : Good P w K mg base "_law_spoilt" 4 ["hand", "rows", "many"] f_law_spoilt := by
  obtain ⟨f, fd, F, hm⟩ := T.d_f_law_spoilt
  have G_f_law_spoilt_number := good_f_law_spoilt_number (P := P) (w := w) (base := base) T
  have G_f_law_wrong_token := good_f_law_wrong_token (P := P) (w := w) (base := base) T
  have G_f_law_take := good_f_law_take (P := P) (w := w) (base := base) T
  have G_f_law_wrong_name := good_f_law_wrong_name (P := P) (w := w) (base := base) T
  have G_f_law_pick := good_f_law_pick (P := P) (w := w) (base := base) T
  have G_f_law_wrong_first := good_f_law_wrong_first (P := P) (w := w) (base := base) T
  exact Good.mkD (N := ["hand", "rows", "many", "kind", "first", "count", "cut", "at", "wrong"]) (k := 3) [] F hm (F.bindsN (ps := ["hand", "rows", "many"]) fun _ _ _ _ _ _ us hl => match us, hl with | [_, _, _], _ => rfl) sc_f_law_spoilt (fun cdv A outer s H E hr =>
    (vss_cons (vs_set 3 sc_f_law_spoilt.nd (ve_call (G_f_law_take) (hr.mono (by decide)) (va_mv 0 (va_cons (ve_p vp_int) va_nil)))) (vss_cons (vs_set 4 sc_f_law_spoilt.nd (ve_p (vp_op od_add (vp_var 2) vp_int))) (vss_cons (vs_if (vt_p (vb_cmp (od_eq hr.units) (vp_var 3) vp_int)) (vss_one (vs_ret (ve_tup (va_cons (ve_opT ot_add (ve_lst (va_cons (ve_fz (ve_call (G_f_law_wrong_first) (hr.mono (by decide)) (va_mv 0 (va_mv 2 va_nil)))) va_nil)) (ve_slL (ve_var 1) (vo_some vp_int) vo_none)) (va_cons (ve_p vp_int) va_nil))))) vss_nil) (vss_cons (vs_if (vt_p (vb_cmp (od_eq hr.units) (vp_var 3) vp_int)) (vss_cons (vs_set 5 sc_f_law_spoilt.nd (ve_call (G_f_law_pick) (hr.mono (by decide)) (va_mv 0 (va_cons (ve_lst (va_cons (ve_p (vp_op od_sub (vp_callB od_len T.n_len boot_len (vpa_cons (vp_var 1) vpa_nil)) vp_int)) (va_cons (ve_p (vp_callB od_len T.n_len boot_len (vpa_cons (vp_var 1) vpa_nil))) (va_cons (ve_p (vp_op od_add (vp_callB od_len T.n_len boot_len (vpa_cons (vp_var 1) vpa_nil)) vp_int)) (va_cons (ve_p vp_int) va_nil))))) va_nil)))) (vss_one (vs_ret (ve_tup (va_cons (ve_opT ot_add (ve_lst (va_cons (ve_p (vp_op od_add vp_str (vp_callTy od_str T.n_str (by decide +kernel) (vpa_cons (vp_var 5) vpa_nil)))) va_nil)) (ve_slL (ve_var 1) (vo_some vp_int) vo_none)) (va_cons (ve_p (vp_op od_add (vp_callB od_len T.n_len boot_len (vpa_cons (vp_var 1) vpa_nil)) vp_int)) va_nil)))))) vss_nil) (vss_cons (vs_if (vt_p (vb_cmp (od_eq hr.units) (vp_var 3) vp_int)) (vss_one (vs_ret (ve_tup (va_cons (ve_opT ot_add (ve_opT ot_add (ve_slL (ve_var 1) vo_none (vo_some (vp_op od_sub (vp_var 4) vp_int))) (ve_lst (va_cons (ve_fz (ve_call (G_f_law_wrong_name) (hr.mono (by decide)) (va_mv 0 va_nil))) va_nil))) (ve_slL (ve_var 1) (vo_some (vp_var 4)) vo_none)) (va_cons (ve_var 4) va_nil))))) vss_nil) (vss_cons (vs_if (vt_p (vb_cmp (od_eq hr.units) (vp_var 3) vp_int)) (vss_cons (vs_set 6 sc_f_law_spoilt.nd (ve_op od_add (ve_p vp_int) (ve_call (G_f_law_take) (hr.mono (by decide)) (va_mv 0 (va_mv 4 va_nil))))) (vss_one (vs_ret (ve_tup (va_cons (ve_slL (ve_var 1) vo_none (vo_some (vp_var 6))) (va_cons (ve_p (vp_op od_add (vp_var 6) vp_int)) va_nil)))))) vss_nil) (vss_cons (vs_if (vt_p (vb_cmp (od_eq hr.units) (vp_var 3) vp_int)) (vss_one (vs_ret (ve_tup (va_cons (ve_ix (ve_lst (va_cons (ve_fz (ve_opT ot_add (ve_var 1) (ve_lst (va_cons (ve_p vp_str) va_nil)))) (va_cons (ve_fz (ve_lst (va_cons (ve_p vp_str) va_nil))) va_nil))) (ve_call (G_f_law_take) (hr.mono (by decide)) (va_mv 0 (va_cons (ve_p vp_int) va_nil)))) (va_cons (ve_p vp_int) va_nil))))) vss_nil) (vss_cons (vs_set 7 sc_f_law_spoilt.nd (ve_op od_add (ve_var 4) (ve_call (G_f_law_take) (hr.mono (by decide)) (va_mv 0 (va_cons (ve_p (vp_op od_sub (vp_callB od_len T.n_len boot_len (vpa_cons (vp_var 1) vpa_nil)) (vp_var 4))) va_nil))))) (vss_cons (vs_set 8 sc_f_law_spoilt.nd (ve_ix (ve_lst (va_cons (ve_fz (ve_call (G_f_law_wrong_token) (hr.mono (by decide)) (va_mv 0 va_nil))) (va_cons (ve_fz (ve_call (G_f_law_spoilt_number) (hr.mono (by decide)) (va_mv 0 (va_cons (ve_p (vp_ix (vp_var 1) (vp_var 7))) va_nil)))) va_nil))) (ve_call (G_f_law_take) (hr.mono (by decide)) (va_mv 0 (va_cons (ve_p vp_int) va_nil))))) (vss_one (vs_ret (ve_tup (va_cons (ve_opT ot_add (ve_opT ot_add (ve_slL (ve_var 1) vo_none (vo_some (vp_var 7))) (ve_lst (va_cons (ve_var 8) va_nil))) (ve_slL (ve_var 1) (vo_some (vp_op od_add (vp_var 7) vp_int)) vo_none)) (va_cons (ve_p (vp_op od_add (vp_var 7) vp_int)) va_nil))))))))))))))) (by decide)
theorem sc_f_law_row_of : FnScope ["text", "e"] ["text"] (defScope st_f_law_row_of) := ⟨rfl, rfl, rfl, by decide +kernel, rfl, by decide +kernel, by decide +kernel⟩
abbrev cC (K : PySem.W.Frag) (n : Str) : TE := tC (.ref (He.ga K n))
/-- the suite: what it reads -/
def rowT (K : PySem.W.Frag) (a : Addr) (d : Option Addr) : TS :=
  tSeq (tIfS (tOr (tB (tCB (rIsX K (He.ga K "BadPaper") a d) (tCons (tVar 1) (tCons (tTup (tCons (cC K "BadText") (tCons (cC K "BadProgram") (tCons (cC K "BadStart") (tCons (cC K "NoProcedure") tNil))))) tNil))))
      (tNot (tB (tCB (rIsX K (He.ga K "BadPaper") a d) (tCons (tVar 1) (tCons (tC (.ty "ValueError")) tNil)))))) (tRet (tC .non)) tNext)
    (tIfS (tAnd (tB (tCB (rIsX K (He.ga K "BadPaper") a d) (tCons (tVar 1) (tCons (cC K "BadPaper") tNil))))
      (tAnd (tB (tCB (rIsX K (He.ga K "BadPaper") a d) (tCons (tVar 1) (tCons (cC K "BadLine") tNil))))
        (tNot (tB (tCB (rIsi K) (tCons (tXf a (.ref (He.ga K "BadPaper")) d (He.ga K "BadPaper") "row" (tVar 1)) (tCons (tC (.ty "bool")) tNil)))))))
      (tRet (tXf a (.ref (He.ga K "BadPaper")) d (He.ga K "BadPaper") "row" (tVar 1))) tNext)
theorem rowT_reads {a dd : Addr} {H : Hp} {i : Int} {D : Ends} {v : V} (T : Tx w K mg) (hd : H dd = some (.xd [("row", .int i)])) (q : ∀ p u, H p = none → D.rt (.int i) (upd H p u)) :
    rowT K a (some dd) D [some v, some (.ref a)] H := by
  have fn : ∀ p u, H p = none → upd H p u dd = some (.xd [("row", .int i)]) := fun p u hp => by
    rw [upd_ne (ne_of_none hd hp)]
    exact hd
  refine ⟨_, rfl, by show 4 ≤ sizeLine; rw [sizeLine_val]; decide, fun p hp => ⟨⟨dd, _, rfl, fn p _ hp⟩, .inr ⟨p, _, _, false, rfl, upd_same, .cons (.own _) (.cons (.own _) (.cons (.own _) (.cons (.own _) .nil))), T.k_no, false, rfl, iteF ?_⟩⟩⟩
  have hdp := fn p (.tup [.ref (He.ga K "BadText"), .ref (He.ga K "BadProgram"), .ref (He.ga K "BadStart"), .ref (He.ga K "NoProcedure")]) hp
  refine ⟨_, rfl, ⟨dd, _, rfl, hdp⟩, .inl ⟨_, _, true, rfl, .ty _, T.k_ve, true, rfl, iteF ?_⟩⟩
  refine ⟨_, rfl, ⟨dd, _, rfl, hdp⟩, .inl ⟨_, _, true, rfl, .own _, T.k_bp, true, rfl, iteT ?_⟩⟩
  refine ⟨_, rfl, ⟨dd, _, rfl, hdp⟩, .inl ⟨_, _, true, rfl, .own _, T.k_bl, true, rfl, iteT ?_⟩⟩
  refine ⟨_, rfl, rfl, rfl, dd, _, .int i, rfl, hdp, by simp [List.lookup], ?_⟩
  refine ⟨.int i, _, .type "int", .type "bool", false, rfl, .ty _, .base (.int i), kit_ty (by decide +kernel), false, rfl, iteT ?_⟩
  exact ⟨_, rfl, rfl, rfl, dd, _, .int i, rfl, hdp, by simp [List.lookup], q p _ hp⟩
theorem good_f_law_row_of (T : Tx w K mg) : Good P w K mg base "_law_row_of" 4 ["text"] (f_law_row_of (He.ga K "Paper")) := by
  obtain ⟨f, fd, F, hm⟩ := T.d_f_law_row_of
  obtain ⟨a1, fd1, hm1, kp1, bd1, F1⟩ := (goodX_read_paper (P := P) (w := w) (base := base) T).ex
  refine ⟨f, fd, hm, F.kp, F.bindsN (ps := ["text"]) fun _ _ _ _ _ _ us hl => match us, hl with | [_], _ => rfl, ?_⟩
  refine FnG.of F sc_f_law_row_of (fun vs H Q E ⟨_, _, _, _, h, _⟩ => h) fun cdv B stk z G ws R X0 hr hsp => ?_
  refine ⟨_, pss_cons (ps_try_as (i := 1) (c := .ref (He.ga K "SwornError")) (tb := fun W => tDrop (tCallS (spX K (He.ga K "BadPaper") "row" 1 (x_read_paper (He.ga K "Paper"))) (WE W) (tCons (tVar 0) tNil))) (ts := fun a cls d D σ H => cls = .ref (He.ga K "BadPaper") ∧ rowT K a d D σ H) (Wout := fun _ _ _ _ => False) rfl rfl sc_f_law_row_of.nd rfl rfl ⟨rfl, by decide, .inl T.g_SwornError⟩ takes0
      (fun W pn xe tk _ => pss_one (ps_expr (pe_callX F1 hr rfl hm1 kp1 bd1 (fun σ => passAt tk σ) (pa_cons (pv 0) pa_nil))))
      (fun a oe cls d pn hz hf => ⟨fun pins s σ H D I h => by
        obtain ⟨rfl, h⟩ := h
        refine PSs.run (t := rowT K a d) ?_ pins s σ H D I h
        exact (pss_cons (ps_if (PW.pt (pw_or (pt_val (pe_callB (call_isX T.xf hz hf) (by rfl) T.n_isinstance rfl (pa_cons (pv 1) (pa_cons (pe_tup (pa_cons (pe_glob (by rfl) T.g_BadText rfl) (pa_cons (pe_glob (by rfl) T.g_BadProgram rfl) (pa_cons (pe_glob (by rfl) T.g_BadStart rfl) (pa_cons (pe_glob (by rfl) T.g_NoProcedure rfl) pa_nil))))) pa_nil))))
            (pw_or1 (pt_not (pt_val (pe_callB (call_isX T.xf hz hf) (by rfl) T.n_isinstance rfl (pa_cons (pv 1) (pa_cons (pe_bltn (by rfl) T.n_ValueError rfl rfl) pa_nil)))))))) (pss_one (ps_ret pe_non)) pss_nil)
          (pss_one (ps_if (PW.pt (pw_and (pt_val (pe_callB (call_isX T.xf hz hf) (by rfl) T.n_isinstance rfl (pa_cons (pv 1) (pa_cons (pe_glob (by rfl) T.g_BadPaper rfl) pa_nil))))
            (pw_and (pt_val (pe_callB (call_isX T.xf hz hf) (by rfl) T.n_isinstance rfl (pa_cons (pv 1) (pa_cons (pe_glob (by rfl) T.g_BadLine rfl) pa_nil))))
              (pw_and1 (pt_not (pt_val (pe_callB call_isi (by rfl) T.n_isinstance rfl (pa_cons (pe_xf T.xf.xf T.xf.no hz hf (pv 1)) (pa_cons (pe_bltn (by rfl) T.n_bool rfl rfl) pa_nil))))))))) (pss_one (ps_ret (pe_xf T.xf.xf T.xf.no hz hf (pv 1)))) pss_nil)))⟩)) (pss_one (ps_ret pe_non)), ?_⟩
  obtain ⟨ts, fr, r, ts', l1, l2, h, e, l3, q⟩ := hsp
  obtain ⟨i, e1, e2⟩ := Option.map_eq_some_iff.mp e
  cases e2
  match ws, l1 with
  | [v], _ =>
    refine ⟨v, rfl, ts, fr, i, rfl, l2, h, e1, fun H' dd hd hA => ⟨true, T.xf.ex, fun _ a ha => ⟨rfl, ?_⟩, fun z => nomatch z⟩⟩
    refine rowT_reads T upd_same fun p u hp => ?_
    refine q (.int i) _ ?_
    exact At.new (At.fresh (At.fresh hA hd) hp) fun _ => rfl
theorem sc_law : FnScope ["script", "hand", "lines", "name", "tokens", "rows", "due", "t", "back", "spoilt", "row", "extra", "at"] ["script"] (defScope st_law) := ⟨rfl, rfl, rfl, by decide +kernel, rfl, by decide +kernel, by decide +kernel⟩
theorem good_law (T : Tx w K mg) {f : Addr} {fd : FuncData} (F : FunD K "law" "law" (defArgs st_law) (defBody st_law) (defScope st_law) [] [] f fd) : FnG P w K mg base 6 f fd ["script"] (spV K 1 (law (He.ga K "Paper"))) := by
  have G_read_paper := good_read_paper (P := P) (w := w) (base := base) T
  have G_f_law_row_of := good_f_law_row_of (P := P) (w := w) (base := base) T
  have G_f_law_wrong_token := good_f_law_wrong_token (P := P) (w := w) (base := base) T
  have G_f_law_take := good_f_law_take (P := P) (w := w) (base := base) T
  have G_f_law_spoilt := good_f_law_spoilt (P := P) (w := w) (base := base) T
  have G_f_law_rows := good_f_law_rows (P := P) (w := w) (base := base) T
  have G_f_law_tokens := good_f_law_tokens (P := P) (w := w) (base := base) T
  have G_f_law_line := good_f_law_line (P := P) (w := w) (base := base) T
  have G_f_law_lines := good_f_law_lines (P := P) (w := w) (base := base) T
  have G_f_law_draws := good_f_law_draws (P := P) (w := w) (base := base) T
  exact defOk (N := ["script", "hand", "lines", "name", "tokens", "rows", "due", "t", "back", "spoilt", "row", "extra", "at"]) (k := 5) [] F sc_law (fun cdv A outer s H E hr =>
    (vss_cons (vs_set 1 sc_law.nd (ve_lst (va_cons (ve_fz (ve_call (G_f_law_draws) (hr.mono (by decide)) (va_mv 0 (va_cons (ve_p vp_int) va_nil)))) (va_cons (ve_p vp_int) va_nil)))) (vss_cons (vs_set 2 sc_law.nd (ve_call (G_f_law_lines) (hr.mono (by decide)) (va_mv 1 va_nil))) (vss_cons (vs_set 3 sc_law.nd (ve_call (G_f_law_line) (hr.mono (by decide)) (va_mv 1 va_nil))) (vss_cons (vs_set 4 sc_law.nd (ve_call (G_f_law_tokens) (hr.mono (by decide)) (va_mv 1 va_nil))) (vss_cons (vs_set 5 sc_law.nd (ve_call (G_f_law_rows) (hr.mono (by decide)) (va_mv 2 (va_mv 3 (va_mv 4 va_nil))))) (vss_cons (vs_set 6 sc_law.nd (ve_callB1 (od_repr hr.free hr.units) T.n_repr (by decide +kernel) (ve_tup (va_cons (ve_join (ve_p vp_str) (ve_var 2)) (va_cons (ve_var 3) (va_cons (ve_var 4) va_nil)))))) (vss_cons (vs_for PassesOwn.never rfl (vi_range1 T.n_range (vpa_cons vp_int vpa_nil)) (vg_name 7 sc_law.nd) (vss_cons (vs_set 8 sc_law.nd (ve_call (G_read_paper) (hr.mono (by decide)) (va_cons (ve_join (ve_p vp_str) (ve_var 5)) va_nil))) (vss_cons (vs_if (vt_cmp (od_ne hr.units) (ve_callB1 (od_repr hr.free hr.units) T.n_repr (by decide +kernel) (ve_tup (va_cons (ve_fldK 8 T.k_Paper T.n_Paper_text) (va_cons (ve_fldK 8 T.k_Paper T.n_Paper_name) (va_cons (ve_fldK 8 T.k_Paper T.n_Paper_tokens) va_nil))))) (ve_var 6)) (vss_one (vs_ret (ve_p vp_bl))) vss_nil) (vss_cons (vs_asg (ve_call (G_f_law_spoilt) (hr.mono (by decide)) (va_mv 1 (va_mv 5 (va_cons (ve_p (vp_callB od_len T.n_len boot_len (vpa_cons (vp_var 2) vpa_nil))) va_nil)))) (vg_tup rfl (vgs_cons (vg_name 9 sc_law.nd) (vgs_cons (vg_name 10 sc_law.nd) vgs_nil)))) (vss_cons (vs_if (vt_p (vb_cmp (od_eq hr.units) (vp_var 10) vp_int)) (vss_one (vs_set 10 sc_law.nd (ve_p (vp_callB od_len T.n_len boot_len (vpa_cons (vp_var 9) vpa_nil))))) vss_nil) (vss_cons (vs_set 11 sc_law.nd (ve_call (G_f_law_take) (hr.mono (by decide)) (va_mv 1 (va_cons (ve_p vp_int) va_nil)))) (vss_cons (vs_if (vt_p (vb_w (vw_and (vb_cmp (od_eq hr.units) (vp_var 11) vp_int) (vw_and1 (vb_cmp od_le (vp_var 10) (vp_callB od_len T.n_len boot_len (vpa_cons (vp_var 9) vpa_nil))))))) (vss_one (vs_set 9 sc_law.nd (ve_slL (ve_var 9) vo_none (vo_some (vp_var 10))))) vss_nil) (vss_cons (vs_if (vt_p (vb_w (vw_and (vb_cmp (od_eq hr.units) (vp_var 11) vp_int) (vw_and (vb_cmp od_lt (vp_var 10) (vp_callB od_len T.n_len boot_len (vpa_cons (vp_var 9) vpa_nil))) (vw_and1 (vb_cmp (od_eq hr.units) (vp_callB od_len T.n_len boot_len (vpa_cons (vp_var 9) vpa_nil)) (vp_callB od_len T.n_len boot_len (vpa_cons (vp_var 5) vpa_nil)))))))) (vss_cons (vs_set 12 sc_law.nd (ve_p (vp_callB (od_max2 rfl) T.n_max (by decide +kernel) (vpa_cons (vp_var 10) (vpa_cons (vp_op od_add (vp_callB od_len T.n_len boot_len (vpa_cons (vp_var 2) vpa_nil)) vp_int) vpa_nil))))) (vss_cons (vs_set 12 sc_law.nd (ve_op od_add (ve_var 12) (ve_call (G_f_law_take) (hr.mono (by decide)) (va_mv 1 (va_cons (ve_p (vp_op od_sub (vp_callB od_len T.n_len boot_len (vpa_cons (vp_var 9) vpa_nil)) (vp_var 12))) va_nil))))) (vss_one (vs_set 9 sc_law.nd (ve_opT ot_add (ve_opT ot_add (ve_slL (ve_var 9) vo_none (vo_some (vp_var 12))) (ve_lst (va_cons (ve_fz (ve_call (G_f_law_wrong_token) (hr.mono (by decide)) (va_mv 1 va_nil))) va_nil))) (ve_slL (ve_var 9) (vo_some (vp_op od_add (vp_var 12) vp_int)) vo_none)))))) vss_nil) (vss_one (vs_if (vt_w (vwt_or (vt_cmp (od_ne hr.units) (ve_call (G_f_law_row_of) (hr.mono (by decide)) (va_cons (ve_join (ve_p vp_str) (ve_var 9)) va_nil)) (ve_var 10)) (vwt_or1 (vt_cmp (od_ne hr.units) (ve_call (G_f_law_row_of) (hr.mono (by decide)) (va_cons (ve_join (ve_p vp_str) (ve_var 9)) va_nil)) (ve_var 10))))) (vss_one (vs_ret (ve_p vp_bl))) vss_nil)))))))))) (vss_cons (vs_set 8 sc_law.nd (ve_call (G_read_paper) (hr.mono (by decide)) (va_cons (ve_join (ve_p vp_str) (ve_var 5)) va_nil))) (vss_one (vs_ret (ve_cmp (od_eq hr.units) (ve_callB1 (od_repr hr.free hr.units) T.n_repr (by decide +kernel) (ve_tup (va_cons (ve_fldK 8 T.k_Paper T.n_Paper_text) (va_cons (ve_fldK 8 T.k_Paper T.n_Paper_name) (va_cons (ve_fldK 8 T.k_Paper T.n_Paper_tokens) va_nil))))) (ve_var 6))))))))))))) (by decide)
end
/-! ### the head -/
def fa : List He.Fa := [.glo "read_number", .glo "read_token", .glo "read_count", .glo "read_paper", .glo "_law_draws", .glo "_law_take", .glo "_law_wide", .glo "_law_number", .glo "_law_line", .glo "_law_token", .glo "_law_lines", .glo "_law_rows", .glo "_law_tokens", .glo "_law_pick", .glo "_law_wrong_first", .glo "_law_wrong_name", .glo "_law_wrong_token", .glo "_law_spoilt_number", .glo "_law_spoilt", .glo "_law_row_of", .glo "law", .glo "Paper", .cls "Paper", .noat "Paper" "tokens", .noat "Paper" "name", .noat "Paper" "text", .mkr "Paper", .glo "SwornError", .glo "BadLine", .glo "BadText", .glo "BadProgram", .glo "BadPaper", .glo "BadStart", .glo "NoProcedure", .free "ValueError", .free "abs", .free "bool", .free "int", .free "isinstance", .free "len", .free "max", .free "min", .free "range", .free "repr", .free "str", .free "tuple", .str "FIGURES" "0123456789", .int "MOST_FIGURES" 12, .glo "COUNTS"]
def dd_BadLine___init__ : He.DefD := ⟨("BadLine", some "__init__"), "__init__", "BadLine.__init__", defArgs st_BadLine___init__, defBody st_BadLine___init__, defScope st_BadLine___init__, [], []⟩
def dd_Paper___init__ : He.DefD := ⟨("Paper", some "__init__"), "__init__", "Paper.__init__", defArgs st_Paper___init__, defBody st_Paper___init__, defScope st_Paper___init__, [], []⟩
def dd_read_number : He.DefD := ⟨("read_number", none), "read_number", "read_number", defArgs st_read_number, defBody st_read_number, defScope st_read_number, [], []⟩
def dd_read_token : He.DefD := ⟨("read_token", none), "read_token", "read_token", defArgs st_read_token, defBody st_read_token, defScope st_read_token, [], []⟩
def dd_read_count : He.DefD := ⟨("read_count", none), "read_count", "read_count", defArgs st_read_count, defBody st_read_count, defScope st_read_count, [], []⟩
def dd_read_paper : He.DefD := ⟨("read_paper", none), "read_paper", "read_paper", defArgs st_read_paper, defBody st_read_paper, defScope st_read_paper, [], []⟩
def dd_f_law_draws : He.DefD := ⟨("_law_draws", none), "_law_draws", "_law_draws", defArgs st_f_law_draws, defBody st_f_law_draws, defScope st_f_law_draws, [], []⟩
def dd_f_law_take : He.DefD := ⟨("_law_take", none), "_law_take", "_law_take", defArgs st_f_law_take, defBody st_f_law_take, defScope st_f_law_take, [], []⟩
def dd_f_law_wide : He.DefD := ⟨("_law_wide", none), "_law_wide", "_law_wide", defArgs st_f_law_wide, defBody st_f_law_wide, defScope st_f_law_wide, [], []⟩
def dd_f_law_number : He.DefD := ⟨("_law_number", none), "_law_number", "_law_number", defArgs st_f_law_number, defBody st_f_law_number, defScope st_f_law_number, [], []⟩
def dd_f_law_line : He.DefD := ⟨("_law_line", none), "_law_line", "_law_line", defArgs st_f_law_line, defBody st_f_law_line, defScope st_f_law_line, [], []⟩
def dd_f_law_token : He.DefD := ⟨("_law_token", none), "_law_token", "_law_token", defArgs st_f_law_token, defBody st_f_law_token, defScope st_f_law_token, [], []⟩
def dd_f_law_lines : He.DefD := ⟨("_law_lines", none), "_law_lines", "_law_lines", defArgs st_f_law_lines, defBody st_f_law_lines, defScope st_f_law_lines, [], []⟩
def dd_f_law_rows : He.DefD := ⟨("_law_rows", none), "_law_rows", "_law_rows", defArgs st_f_law_rows, defBody st_f_law_rows, defScope st_f_law_rows, [], []⟩
def dd_f_law_tokens : He.DefD := ⟨("_law_tokens", none), "_law_tokens", "_law_tokens", defArgs st_f_law_tokens, defBody st_f_law_tokens, defScope st_f_law_tokens, [], []⟩
def dd_f_law_pick : He.DefD := ⟨("_law_pick", none), "_law_pick", "_law_pick", defArgs st_f_law_pick, defBody st_f_law_pick, defScope st_f_law_pick, [], []⟩
def dd_f_law_wrong_first : He.DefD := ⟨("_law_wrong_first", none), "_law_wrong_first", "_law_wrong_first", defArgs st_f_law_wrong_first, defBody st_f_law_wrong_first, defScope st_f_law_wrong_first, [], []⟩
def dd_f_law_wrong_name : He.DefD := ⟨("_law_wrong_name", none), "_law_wrong_name", "_law_wrong_name", defArgs st_f_law_wrong_name, defBody st_f_law_wrong_name, defScope st_f_law_wrong_name, [], []⟩
def dd_f_law_wrong_token : He.DefD := ⟨("_law_wrong_token", none), "_law_wrong_token", "_law_wrong_token", defArgs st_f_law_wrong_token, defBody st_f_law_wrong_token, defScope st_f_law_wrong_token, [], []⟩
def dd_f_law_spoilt_number : He.DefD := ⟨("_law_spoilt_number", none), "_law_spoilt_number", "_law_spoilt_number", defArgs st_f_law_spoilt_number, defBody st_f_law_spoilt_number, defScope st_f_law_spoilt_number, [], []⟩
def dd_f_law_spoilt : He.DefD := ⟨("_law_spoilt", none), "_law_spoilt", "_law_spoilt", defArgs st_f_law_spoilt, defBody st_f_law_spoilt, defScope st_f_law_spoilt, [], []⟩
def dd_f_law_row_of : He.DefD := ⟨("_law_row_of", none), "_law_row_of", "_law_row_of", defArgs st_f_law_row_of, defBody st_f_law_row_of, defScope st_f_law_row_of, [], []⟩
def dd_law : He.DefD := ⟨("law", none), "law", "law", defArgs st_law, defBody st_law, defScope st_law, [], []⟩
def fn : List He.DefD := [dd_BadLine___init__, dd_Paper___init__, dd_read_number, dd_read_token, dd_read_count, dd_read_paper, dd_f_law_draws, dd_f_law_take, dd_f_law_wide, dd_f_law_number, dd_f_law_line, dd_f_law_token, dd_f_law_lines, dd_f_law_rows, dd_f_law_tokens, dd_f_law_pick, dd_f_law_wrong_first, dd_f_law_wrong_name, dd_f_law_wrong_token, dd_f_law_spoilt_number, dd_f_law_spoilt, dd_f_law_row_of, dd_law]
def ex (K : PySem.W.Frag) : Bool := He.valsB K (He.ga K "COUNTS") (dvKs tab_COUNTS) && xfB' K (He.ga K "BadPaper") (He.ma K (He.ga K "BadLine") "__init__") (He.ga K "SwornError") "row" && decide (PySem.W.kitAny K (.ref (He.ga K "BadPaper")) [.ref (He.ga K "BadText"), .ref (He.ga K "BadProgram"), .ref (He.ga K "BadStart"), .ref (He.ga K "NoProcedure")] = some false) && decide (PySem.W.kitOne K (.ref (He.ga K "BadPaper")) (.type "ValueError") = some true) && decide (PySem.W.kitOne K (.ref (He.ga K "BadPaper")) (.ref (He.ga K "BadPaper")) = some true) && decide (PySem.W.kitOne K (.ref (He.ga K "BadPaper")) (.ref (He.ga K "BadLine")) = some true)
def ts : List He.Tab := [((fun K => He.ga K "COUNTS"), tab_COUNTS.map (·.1))]
abbrev R : PySem.W.OpenRow := PySem.W.OpenLaw.row PySem.Challenge.rw_swornon_k23_wrong_rows_of_papers
abbrev hk : PySem.W.Hook := He.hookX 4 fa fn ts [] ex
def ob (s : PySem.W.SharedT) : He.AlX := He.obsX 4 fa fn ts [] ex (HandSHeadRun.getT s)
theorem ob_eq (s : PySem.W.SharedT) : ob s = hk.obs s.abs := He.obsX_eq (HandSHeadRun.getT_eq s)
def loose0 : List Str := ["_wall", "SwornError", "BadLine", "BadText", "BadProgram", "BadPaper", "BadStart", "NoProcedure", "FIGURES", "MOST_FIGURES", "COUNTS", "Paper", "read_number", "read_token", "read_count", "read_paper", "_law_draws", "_law_take", "_law_wide", "_law_number", "_law_line", "_law_token", "_law_lines", "_law_rows", "_law_tokens"]
def loose1 : List Str := ["_law_pick", "_law_wrong_first", "_law_wrong_name", "_law_wrong_token", "_law_spoilt_number", "_law_spoilt", "_law_row_of"]
def loose : List Str := loose0 ++ loose1
theorem run (w : World) : HandSHeadRun.RunEq R (PySem.W.view R.prog [35]) hk ob 6000 loose w := by
  refine force_cases (P := fun w => HandSHeadRun.RunEq R (PySem.W.view R.prog [35]) hk ob 6000 loose w) "special-get-raises" (fun w => ?_) (fun w => ?_) w
  · intro os; kernel_rfl
  · intro os; kernel_rfl
theorem facts {w : World} {K : PySem.W.Frag} {h : Heap} {mg : Str → Option Value} (X : K.In h) (G : h.Ns mainGlobals mg) (c : He.SaysX fa fn ts [] ex w h K) : Tx w K mg := by
  have cd := c.t.d
  have ce := c.more
  unfold ex at ce
  simp only [Bool.and_eq_true] at ce
  obtain ⟨⟨⟨⟨⟨e0, e1⟩, e2⟩, e3⟩, e4⟩, e5⟩ := ce
  exact ⟨He.free_ok X G (cd.fact 34 (f := .free "ValueError") rfl),
    He.free_ok X G (cd.fact 35 (f := .free "abs") rfl),
    He.free_ok X G (cd.fact 36 (f := .free "bool") rfl),
    He.free_ok X G (cd.fact 37 (f := .free "int") rfl),
    He.free_ok X G (cd.fact 38 (f := .free "isinstance") rfl),
    He.free_ok X G (cd.fact 39 (f := .free "len") rfl),
    He.free_ok X G (cd.fact 40 (f := .free "max") rfl),
    He.free_ok X G (cd.fact 41 (f := .free "min") rfl),
    He.free_ok X G (cd.fact 42 (f := .free "range") rfl),
    He.free_ok X G (cd.fact 43 (f := .free "repr") rfl),
    He.free_ok X G (cd.fact 44 (f := .free "str") rfl),
    He.free_ok X G (cd.fact 45 (f := .free "tuple") rfl),
    cst_str X G (cd.fact 46 (f := .str "FIGURES" "0123456789") rfl),
    cst_int X G (cd.fact 47 (f := .int "MOST_FIGURES" 12) rfl),
    tabC_of X G (cd.fact 48 (f := .glo "COUNTS") rfl) c.t 0 rfl e0 (by rfl),
    He.glo_ok X G (cd.fact 21 (f := .glo "Paper") rfl),
    He.cls_ok (cd.fact 22 (f := .cls "Paper") rfl),
    He.noat_ok (cd.fact 23 (f := .noat "Paper" "tokens") rfl),
    He.noat_ok (cd.fact 24 (f := .noat "Paper" "name") rfl),
    He.noat_ok (cd.fact 25 (f := .noat "Paper" "text") rfl),
    He.mkr_ok (cd.fact 26 (f := .mkr "Paper") rfl),
    He.glo_ok X G (cd.fact 27 (f := .glo "SwornError") rfl),
    He.glo_ok X G (cd.fact 28 (f := .glo "BadLine") rfl),
    He.glo_ok X G (cd.fact 29 (f := .glo "BadText") rfl),
    He.glo_ok X G (cd.fact 30 (f := .glo "BadProgram") rfl),
    He.glo_ok X G (cd.fact 31 (f := .glo "BadPaper") rfl),
    He.glo_ok X G (cd.fact 32 (f := .glo "BadStart") rfl),
    He.glo_ok X G (cd.fact 33 (f := .glo "NoProcedure") rfl),
    XF.of e1,
    of_decide_eq_true e2,
    of_decide_eq_true e3,
    of_decide_eq_true e4,
    of_decide_eq_true e5,
    cd.def_ 0 (d := dd_BadLine___init__) rfl,
    cd.def_ 1 (d := dd_Paper___init__) rfl,
    def_of X G (cd.fact 0 (f := .glo "read_number") rfl) (cd.def_ 2 (d := dd_read_number) rfl),
    def_of X G (cd.fact 1 (f := .glo "read_token") rfl) (cd.def_ 3 (d := dd_read_token) rfl),
    def_of X G (cd.fact 2 (f := .glo "read_count") rfl) (cd.def_ 4 (d := dd_read_count) rfl),
    def_of X G (cd.fact 3 (f := .glo "read_paper") rfl) (cd.def_ 5 (d := dd_read_paper) rfl),
    def_of X G (cd.fact 4 (f := .glo "_law_draws") rfl) (cd.def_ 6 (d := dd_f_law_draws) rfl),
    def_of X G (cd.fact 5 (f := .glo "_law_take") rfl) (cd.def_ 7 (d := dd_f_law_take) rfl),
    def_of X G (cd.fact 6 (f := .glo "_law_wide") rfl) (cd.def_ 8 (d := dd_f_law_wide) rfl),
    def_of X G (cd.fact 7 (f := .glo "_law_number") rfl) (cd.def_ 9 (d := dd_f_law_number) rfl),
    def_of X G (cd.fact 8 (f := .glo "_law_line") rfl) (cd.def_ 10 (d := dd_f_law_line) rfl),
    def_of X G (cd.fact 9 (f := .glo "_law_token") rfl) (cd.def_ 11 (d := dd_f_law_token) rfl),
    def_of X G (cd.fact 10 (f := .glo "_law_lines") rfl) (cd.def_ 12 (d := dd_f_law_lines) rfl),
    def_of X G (cd.fact 11 (f := .glo "_law_rows") rfl) (cd.def_ 13 (d := dd_f_law_rows) rfl),
    def_of X G (cd.fact 12 (f := .glo "_law_tokens") rfl) (cd.def_ 14 (d := dd_f_law_tokens) rfl),
    def_of X G (cd.fact 13 (f := .glo "_law_pick") rfl) (cd.def_ 15 (d := dd_f_law_pick) rfl),
    def_of X G (cd.fact 14 (f := .glo "_law_wrong_first") rfl) (cd.def_ 16 (d := dd_f_law_wrong_first) rfl),
    def_of X G (cd.fact 15 (f := .glo "_law_wrong_name") rfl) (cd.def_ 17 (d := dd_f_law_wrong_name) rfl),
    def_of X G (cd.fact 16 (f := .glo "_law_wrong_token") rfl) (cd.def_ 18 (d := dd_f_law_wrong_token) rfl),
    def_of X G (cd.fact 17 (f := .glo "_law_spoilt_number") rfl) (cd.def_ 19 (d := dd_f_law_spoilt_number) rfl),
    def_of X G (cd.fact 18 (f := .glo "_law_spoilt") rfl) (cd.def_ 20 (d := dd_f_law_spoilt) rfl),
    def_of X G (cd.fact 19 (f := .glo "_law_row_of") rfl) (cd.def_ 21 (d := dd_f_law_row_of) rfl),
    def_of X G (cd.fact 20 (f := .glo "law") rfl) (cd.def_ 22 (d := dd_law) rfl)⟩
end K23
/-! The combinators as simp equations: each is opened only where it is applied to a state; `simp` then reckons a body from a state of slots. -/
namespace VS
open PySem PySem.Spec PyProof.Rows L2
def gS (S : Sto) (i : Nat) : Option (Option T) := S[i]?
def uS (S : Sto) (i : Nat) (o : Option T) : Sto := S.set i o
@[simp] theorem gS_0 {x0 : Option T} {S : Sto} : gS (x0 :: S) 0 = some x0 := rfl
@[simp] theorem uS_0 {x0 o : Option T} {S : Sto} : uS (x0 :: S) 0 o = o :: S := rfl
@[simp] theorem putS_0 {x0 : Option T} {t : T} {S : Sto} : putS 0 t (x0 :: S) = some (some t :: S) := if_pos (by simp only [List.length_cons]; omega)
@[simp] theorem gS_1 {x0 x1 : Option T} {S : Sto} : gS (x0 :: x1 :: S) 1 = some x1 := rfl
@[simp] theorem uS_1 {x0 x1 o : Option T} {S : Sto} : uS (x0 :: x1 :: S) 1 o = x0 :: o :: S := rfl
@[simp] theorem putS_1 {x0 x1 : Option T} {t : T} {S : Sto} : putS 1 t (x0 :: x1 :: S) = some (x0 :: some t :: S) := if_pos (by simp only [List.length_cons]; omega)
@[simp] theorem gS_2 {x0 x1 x2 : Option T} {S : Sto} : gS (x0 :: x1 :: x2 :: S) 2 = some x2 := rfl
@[simp] theorem uS_2 {x0 x1 x2 o : Option T} {S : Sto} : uS (x0 :: x1 :: x2 :: S) 2 o = x0 :: x1 :: o :: S := rfl
@[simp] theorem putS_2 {x0 x1 x2 : Option T} {t : T} {S : Sto} : putS 2 t (x0 :: x1 :: x2 :: S) = some (x0 :: x1 :: some t :: S) := if_pos (by simp only [List.length_cons]; omega)
@[simp] theorem gS_3 {x0 x1 x2 x3 : Option T} {S : Sto} : gS (x0 :: x1 :: x2 :: x3 :: S) 3 = some x3 := rfl
@[simp] theorem uS_3 {x0 x1 x2 x3 o : Option T} {S : Sto} : uS (x0 :: x1 :: x2 :: x3 :: S) 3 o = x0 :: x1 :: x2 :: o :: S := rfl
@[simp] theorem putS_3 {x0 x1 x2 x3 : Option T} {t : T} {S : Sto} : putS 3 t (x0 :: x1 :: x2 :: x3 :: S) = some (x0 :: x1 :: x2 :: some t :: S) := if_pos (by simp only [List.length_cons]; omega)
@[simp] theorem gS_4 {x0 x1 x2 x3 x4 : Option T} {S : Sto} : gS (x0 :: x1 :: x2 :: x3 :: x4 :: S) 4 = some x4 := rfl
@[simp] theorem uS_4 {x0 x1 x2 x3 x4 o : Option T} {S : Sto} : uS (x0 :: x1 :: x2 :: x3 :: x4 :: S) 4 o = x0 :: x1 :: x2 :: x3 :: o :: S := rfl
@[simp] theorem putS_4 {x0 x1 x2 x3 x4 : Option T} {t : T} {S : Sto} : putS 4 t (x0 :: x1 :: x2 :: x3 :: x4 :: S) = some (x0 :: x1 :: x2 :: x3 :: some t :: S) := if_pos (by simp only [List.length_cons]; omega)
@[simp] theorem gS_5 {x0 x1 x2 x3 x4 x5 : Option T} {S : Sto} : gS (x0 :: x1 :: x2 :: x3 :: x4 :: x5 :: S) 5 = some x5 := rfl
@[simp] theorem uS_5 {x0 x1 x2 x3 x4 x5 o : Option T} {S : Sto} : uS (x0 :: x1 :: x2 :: x3 :: x4 :: x5 :: S) 5 o = x0 :: x1 :: x2 :: x3 :: x4 :: o :: S := rfl
@[simp] theorem putS_5 {x0 x1 x2 x3 x4 x5 : Option T} {t : T} {S : Sto} : putS 5 t (x0 :: x1 :: x2 :: x3 :: x4 :: x5 :: S) = some (x0 :: x1 :: x2 :: x3 :: x4 :: some t :: S) := if_pos (by simp only [List.length_cons]; omega)
@[simp] theorem gS_6 {x0 x1 x2 x3 x4 x5 x6 : Option T} {S : Sto} : gS (x0 :: x1 :: x2 :: x3 :: x4 :: x5 :: x6 :: S) 6 = some x6 := rfl
@[simp] theorem uS_6 {x0 x1 x2 x3 x4 x5 x6 o : Option T} {S : Sto} : uS (x0 :: x1 :: x2 :: x3 :: x4 :: x5 :: x6 :: S) 6 o = x0 :: x1 :: x2 :: x3 :: x4 :: x5 :: o :: S := rfl
@[simp] theorem putS_6 {x0 x1 x2 x3 x4 x5 x6 : Option T} {t : T} {S : Sto} : putS 6 t (x0 :: x1 :: x2 :: x3 :: x4 :: x5 :: x6 :: S) = some (x0 :: x1 :: x2 :: x3 :: x4 :: x5 :: some t :: S) := if_pos (by simp only [List.length_cons]; omega)
@[simp] theorem gS_7 {x0 x1 x2 x3 x4 x5 x6 x7 : Option T} {S : Sto} : gS (x0 :: x1 :: x2 :: x3 :: x4 :: x5 :: x6 :: x7 :: S) 7 = some x7 := rfl
@[simp] theorem uS_7 {x0 x1 x2 x3 x4 x5 x6 x7 o : Option T} {S : Sto} : uS (x0 :: x1 :: x2 :: x3 :: x4 :: x5 :: x6 :: x7 :: S) 7 o = x0 :: x1 :: x2 :: x3 :: x4 :: x5 :: x6 :: o :: S := rfl
@[simp] theorem putS_7 {x0 x1 x2 x3 x4 x5 x6 x7 : Option T} {t : T} {S : Sto} : putS 7 t (x0 :: x1 :: x2 :: x3 :: x4 :: x5 :: x6 :: x7 :: S) = some (x0 :: x1 :: x2 :: x3 :: x4 :: x5 :: x6 :: some t :: S) := if_pos (by simp only [List.length_cons]; omega)
@[simp] theorem gS_8 {x0 x1 x2 x3 x4 x5 x6 x7 x8 : Option T} {S : Sto} : gS (x0 :: x1 :: x2 :: x3 :: x4 :: x5 :: x6 :: x7 :: x8 :: S) 8 = some x8 := rfl
@[simp] theorem uS_8 {x0 x1 x2 x3 x4 x5 x6 x7 x8 o : Option T} {S : Sto} : uS (x0 :: x1 :: x2 :: x3 :: x4 :: x5 :: x6 :: x7 :: x8 :: S) 8 o = x0 :: x1 :: x2 :: x3 :: x4 :: x5 :: x6 :: x7 :: o :: S := rfl
@[simp] theorem putS_8 {x0 x1 x2 x3 x4 x5 x6 x7 x8 : Option T} {t : T} {S : Sto} : putS 8 t (x0 :: x1 :: x2 :: x3 :: x4 :: x5 :: x6 :: x7 :: x8 :: S) = some (x0 :: x1 :: x2 :: x3 :: x4 :: x5 :: x6 :: x7 :: some t :: S) := if_pos (by simp only [List.length_cons]; omega)
@[simp] theorem gS_9 {x0 x1 x2 x3 x4 x5 x6 x7 x8 x9 : Option T} {S : Sto} : gS (x0 :: x1 :: x2 :: x3 :: x4 :: x5 :: x6 :: x7 :: x8 :: x9 :: S) 9 = some x9 := rfl
@[simp] theorem uS_9 {x0 x1 x2 x3 x4 x5 x6 x7 x8 x9 o : Option T} {S : Sto} : uS (x0 :: x1 :: x2 :: x3 :: x4 :: x5 :: x6 :: x7 :: x8 :: x9 :: S) 9 o = x0 :: x1 :: x2 :: x3 :: x4 :: x5 :: x6 :: x7 :: x8 :: o :: S := rfl
@[simp] theorem putS_9 {x0 x1 x2 x3 x4 x5 x6 x7 x8 x9 : Option T} {t : T} {S : Sto} : putS 9 t (x0 :: x1 :: x2 :: x3 :: x4 :: x5 :: x6 :: x7 :: x8 :: x9 :: S) = some (x0 :: x1 :: x2 :: x3 :: x4 :: x5 :: x6 :: x7 :: x8 :: some t :: S) := if_pos (by simp only [List.length_cons]; omega)
@[simp] theorem gS_10 {x0 x1 x2 x3 x4 x5 x6 x7 x8 x9 x10 : Option T} {S : Sto} : gS (x0 :: x1 :: x2 :: x3 :: x4 :: x5 :: x6 :: x7 :: x8 :: x9 :: x10 :: S) 10 = some x10 := rfl
@[simp] theorem uS_10 {x0 x1 x2 x3 x4 x5 x6 x7 x8 x9 x10 o : Option T} {S : Sto} : uS (x0 :: x1 :: x2 :: x3 :: x4 :: x5 :: x6 :: x7 :: x8 :: x9 :: x10 :: S) 10 o = x0 :: x1 :: x2 :: x3 :: x4 :: x5 :: x6 :: x7 :: x8 :: x9 :: o :: S := rfl
@[simp] theorem putS_10 {x0 x1 x2 x3 x4 x5 x6 x7 x8 x9 x10 : Option T} {t : T} {S : Sto} : putS 10 t (x0 :: x1 :: x2 :: x3 :: x4 :: x5 :: x6 :: x7 :: x8 :: x9 :: x10 :: S) = some (x0 :: x1 :: x2 :: x3 :: x4 :: x5 :: x6 :: x7 :: x8 :: x9 :: some t :: S) := if_pos (by simp only [List.length_cons]; omega)
@[simp] theorem gS_11 {x0 x1 x2 x3 x4 x5 x6 x7 x8 x9 x10 x11 : Option T} {S : Sto} : gS (x0 :: x1 :: x2 :: x3 :: x4 :: x5 :: x6 :: x7 :: x8 :: x9 :: x10 :: x11 :: S) 11 = some x11 := rfl
@[simp] theorem uS_11 {x0 x1 x2 x3 x4 x5 x6 x7 x8 x9 x10 x11 o : Option T} {S : Sto} : uS (x0 :: x1 :: x2 :: x3 :: x4 :: x5 :: x6 :: x7 :: x8 :: x9 :: x10 :: x11 :: S) 11 o = x0 :: x1 :: x2 :: x3 :: x4 :: x5 :: x6 :: x7 :: x8 :: x9 :: x10 :: o :: S := rfl
@[simp] theorem putS_11 {x0 x1 x2 x3 x4 x5 x6 x7 x8 x9 x10 x11 : Option T} {t : T} {S : Sto} : putS 11 t (x0 :: x1 :: x2 :: x3 :: x4 :: x5 :: x6 :: x7 :: x8 :: x9 :: x10 :: x11 :: S) = some (x0 :: x1 :: x2 :: x3 :: x4 :: x5 :: x6 :: x7 :: x8 :: x9 :: x10 :: some t :: S) := if_pos (by simp only [List.length_cons]; omega)
@[simp] theorem gS_12 {x0 x1 x2 x3 x4 x5 x6 x7 x8 x9 x10 x11 x12 : Option T} {S : Sto} : gS (x0 :: x1 :: x2 :: x3 :: x4 :: x5 :: x6 :: x7 :: x8 :: x9 :: x10 :: x11 :: x12 :: S) 12 = some x12 := rfl
@[simp] theorem uS_12 {x0 x1 x2 x3 x4 x5 x6 x7 x8 x9 x10 x11 x12 o : Option T} {S : Sto} : uS (x0 :: x1 :: x2 :: x3 :: x4 :: x5 :: x6 :: x7 :: x8 :: x9 :: x10 :: x11 :: x12 :: S) 12 o = x0 :: x1 :: x2 :: x3 :: x4 :: x5 :: x6 :: x7 :: x8 :: x9 :: x10 :: x11 :: o :: S := rfl
@[simp] theorem putS_12 {x0 x1 x2 x3 x4 x5 x6 x7 x8 x9 x10 x11 x12 : Option T} {t : T} {S : Sto} : putS 12 t (x0 :: x1 :: x2 :: x3 :: x4 :: x5 :: x6 :: x7 :: x8 :: x9 :: x10 :: x11 :: x12 :: S) = some (x0 :: x1 :: x2 :: x3 :: x4 :: x5 :: x6 :: x7 :: x8 :: x9 :: x10 :: x11 :: some t :: S) := if_pos (by simp only [List.length_cons]; omega)
@[simp] theorem gS_13 {x0 x1 x2 x3 x4 x5 x6 x7 x8 x9 x10 x11 x12 x13 : Option T} {S : Sto} : gS (x0 :: x1 :: x2 :: x3 :: x4 :: x5 :: x6 :: x7 :: x8 :: x9 :: x10 :: x11 :: x12 :: x13 :: S) 13 = some x13 := rfl
@[simp] theorem uS_13 {x0 x1 x2 x3 x4 x5 x6 x7 x8 x9 x10 x11 x12 x13 o : Option T} {S : Sto} : uS (x0 :: x1 :: x2 :: x3 :: x4 :: x5 :: x6 :: x7 :: x8 :: x9 :: x10 :: x11 :: x12 :: x13 :: S) 13 o = x0 :: x1 :: x2 :: x3 :: x4 :: x5 :: x6 :: x7 :: x8 :: x9 :: x10 :: x11 :: x12 :: o :: S := rfl
@[simp] theorem putS_13 {x0 x1 x2 x3 x4 x5 x6 x7 x8 x9 x10 x11 x12 x13 : Option T} {t : T} {S : Sto} : putS 13 t (x0 :: x1 :: x2 :: x3 :: x4 :: x5 :: x6 :: x7 :: x8 :: x9 :: x10 :: x11 :: x12 :: x13 :: S) = some (x0 :: x1 :: x2 :: x3 :: x4 :: x5 :: x6 :: x7 :: x8 :: x9 :: x10 :: x11 :: x12 :: some t :: S) := if_pos (by simp only [List.length_cons]; omega)
@[simp] theorem gS_14 {x0 x1 x2 x3 x4 x5 x6 x7 x8 x9 x10 x11 x12 x13 x14 : Option T} {S : Sto} : gS (x0 :: x1 :: x2 :: x3 :: x4 :: x5 :: x6 :: x7 :: x8 :: x9 :: x10 :: x11 :: x12 :: x13 :: x14 :: S) 14 = some x14 := rfl
@[simp] theorem uS_14 {x0 x1 x2 x3 x4 x5 x6 x7 x8 x9 x10 x11 x12 x13 x14 o : Option T} {S : Sto} : uS (x0 :: x1 :: x2 :: x3 :: x4 :: x5 :: x6 :: x7 :: x8 :: x9 :: x10 :: x11 :: x12 :: x13 :: x14 :: S) 14 o = x0 :: x1 :: x2 :: x3 :: x4 :: x5 :: x6 :: x7 :: x8 :: x9 :: x10 :: x11 :: x12 :: x13 :: o :: S := rfl
@[simp] theorem putS_14 {x0 x1 x2 x3 x4 x5 x6 x7 x8 x9 x10 x11 x12 x13 x14 : Option T} {t : T} {S : Sto} : putS 14 t (x0 :: x1 :: x2 :: x3 :: x4 :: x5 :: x6 :: x7 :: x8 :: x9 :: x10 :: x11 :: x12 :: x13 :: x14 :: S) = some (x0 :: x1 :: x2 :: x3 :: x4 :: x5 :: x6 :: x7 :: x8 :: x9 :: x10 :: x11 :: x12 :: x13 :: some t :: S) := if_pos (by simp only [List.length_cons]; omega)
@[simp] theorem gS_15 {x0 x1 x2 x3 x4 x5 x6 x7 x8 x9 x10 x11 x12 x13 x14 x15 : Option T} {S : Sto} : gS (x0 :: x1 :: x2 :: x3 :: x4 :: x5 :: x6 :: x7 :: x8 :: x9 :: x10 :: x11 :: x12 :: x13 :: x14 :: x15 :: S) 15 = some x15 := rfl
@[simp] theorem uS_15 {x0 x1 x2 x3 x4 x5 x6 x7 x8 x9 x10 x11 x12 x13 x14 x15 o : Option T} {S : Sto} : uS (x0 :: x1 :: x2 :: x3 :: x4 :: x5 :: x6 :: x7 :: x8 :: x9 :: x10 :: x11 :: x12 :: x13 :: x14 :: x15 :: S) 15 o = x0 :: x1 :: x2 :: x3 :: x4 :: x5 :: x6 :: x7 :: x8 :: x9 :: x10 :: x11 :: x12 :: x13 :: x14 :: o :: S := rfl
@[simp] theorem putS_15 {x0 x1 x2 x3 x4 x5 x6 x7 x8 x9 x10 x11 x12 x13 x14 x15 : Option T} {t : T} {S : Sto} : putS 15 t (x0 :: x1 :: x2 :: x3 :: x4 :: x5 :: x6 :: x7 :: x8 :: x9 :: x10 :: x11 :: x12 :: x13 :: x14 :: x15 :: S) = some (x0 :: x1 :: x2 :: x3 :: x4 :: x5 :: x6 :: x7 :: x8 :: x9 :: x10 :: x11 :: x12 :: x13 :: x14 :: some t :: S) := if_pos (by simp only [List.length_cons]; omega)
@[simp] theorem gS_16 {x0 x1 x2 x3 x4 x5 x6 x7 x8 x9 x10 x11 x12 x13 x14 x15 x16 : Option T} {S : Sto} : gS (x0 :: x1 :: x2 :: x3 :: x4 :: x5 :: x6 :: x7 :: x8 :: x9 :: x10 :: x11 :: x12 :: x13 :: x14 :: x15 :: x16 :: S) 16 = some x16 := rfl
@[simp] theorem uS_16 {x0 x1 x2 x3 x4 x5 x6 x7 x8 x9 x10 x11 x12 x13 x14 x15 x16 o : Option T} {S : Sto} : uS (x0 :: x1 :: x2 :: x3 :: x4 :: x5 :: x6 :: x7 :: x8 :: x9 :: x10 :: x11 :: x12 :: x13 :: x14 :: x15 :: x16 :: S) 16 o = x0 :: x1 :: x2 :: x3 :: x4 :: x5 :: x6 :: x7 :: x8 :: x9 :: x10 :: x11 :: x12 :: x13 :: x14 :: x15 :: o :: S := rfl
@[simp] theorem putS_16 {x0 x1 x2 x3 x4 x5 x6 x7 x8 x9 x10 x11 x12 x13 x14 x15 x16 : Option T} {t : T} {S : Sto} : putS 16 t (x0 :: x1 :: x2 :: x3 :: x4 :: x5 :: x6 :: x7 :: x8 :: x9 :: x10 :: x11 :: x12 :: x13 :: x14 :: x15 :: x16 :: S) = some (x0 :: x1 :: x2 :: x3 :: x4 :: x5 :: x6 :: x7 :: x8 :: x9 :: x10 :: x11 :: x12 :: x13 :: x14 :: x15 :: some t :: S) := if_pos (by simp only [List.length_cons]; omega)
@[simp] theorem gS_17 {x0 x1 x2 x3 x4 x5 x6 x7 x8 x9 x10 x11 x12 x13 x14 x15 x16 x17 : Option T} {S : Sto} : gS (x0 :: x1 :: x2 :: x3 :: x4 :: x5 :: x6 :: x7 :: x8 :: x9 :: x10 :: x11 :: x12 :: x13 :: x14 :: x15 :: x16 :: x17 :: S) 17 = some x17 := rfl
@[simp] theorem uS_17 {x0 x1 x2 x3 x4 x5 x6 x7 x8 x9 x10 x11 x12 x13 x14 x15 x16 x17 o : Option T} {S : Sto} : uS (x0 :: x1 :: x2 :: x3 :: x4 :: x5 :: x6 :: x7 :: x8 :: x9 :: x10 :: x11 :: x12 :: x13 :: x14 :: x15 :: x16 :: x17 :: S) 17 o = x0 :: x1 :: x2 :: x3 :: x4 :: x5 :: x6 :: x7 :: x8 :: x9 :: x10 :: x11 :: x12 :: x13 :: x14 :: x15 :: x16 :: o :: S := rfl
@[simp] theorem putS_17 {x0 x1 x2 x3 x4 x5 x6 x7 x8 x9 x10 x11 x12 x13 x14 x15 x16 x17 : Option T} {t : T} {S : Sto} : putS 17 t (x0 :: x1 :: x2 :: x3 :: x4 :: x5 :: x6 :: x7 :: x8 :: x9 :: x10 :: x11 :: x12 :: x13 :: x14 :: x15 :: x16 :: x17 :: S) = some (x0 :: x1 :: x2 :: x3 :: x4 :: x5 :: x6 :: x7 :: x8 :: x9 :: x10 :: x11 :: x12 :: x13 :: x14 :: x15 :: x16 :: some t :: S) := if_pos (by simp only [List.length_cons]; omega)
@[simp] theorem gS_18 {x0 x1 x2 x3 x4 x5 x6 x7 x8 x9 x10 x11 x12 x13 x14 x15 x16 x17 x18 : Option T} {S : Sto} : gS (x0 :: x1 :: x2 :: x3 :: x4 :: x5 :: x6 :: x7 :: x8 :: x9 :: x10 :: x11 :: x12 :: x13 :: x14 :: x15 :: x16 :: x17 :: x18 :: S) 18 = some x18 := rfl
@[simp] theorem uS_18 {x0 x1 x2 x3 x4 x5 x6 x7 x8 x9 x10 x11 x12 x13 x14 x15 x16 x17 x18 o : Option T} {S : Sto} : uS (x0 :: x1 :: x2 :: x3 :: x4 :: x5 :: x6 :: x7 :: x8 :: x9 :: x10 :: x11 :: x12 :: x13 :: x14 :: x15 :: x16 :: x17 :: x18 :: S) 18 o = x0 :: x1 :: x2 :: x3 :: x4 :: x5 :: x6 :: x7 :: x8 :: x9 :: x10 :: x11 :: x12 :: x13 :: x14 :: x15 :: x16 :: x17 :: o :: S := rfl
@[simp] theorem putS_18 {x0 x1 x2 x3 x4 x5 x6 x7 x8 x9 x10 x11 x12 x13 x14 x15 x16 x17 x18 : Option T} {t : T} {S : Sto} : putS 18 t (x0 :: x1 :: x2 :: x3 :: x4 :: x5 :: x6 :: x7 :: x8 :: x9 :: x10 :: x11 :: x12 :: x13 :: x14 :: x15 :: x16 :: x17 :: x18 :: S) = some (x0 :: x1 :: x2 :: x3 :: x4 :: x5 :: x6 :: x7 :: x8 :: x9 :: x10 :: x11 :: x12 :: x13 :: x14 :: x15 :: x16 :: x17 :: some t :: S) := if_pos (by simp only [List.length_cons]; omega)
@[simp] theorem gS_19 {x0 x1 x2 x3 x4 x5 x6 x7 x8 x9 x10 x11 x12 x13 x14 x15 x16 x17 x18 x19 : Option T} {S : Sto} : gS (x0 :: x1 :: x2 :: x3 :: x4 :: x5 :: x6 :: x7 :: x8 :: x9 :: x10 :: x11 :: x12 :: x13 :: x14 :: x15 :: x16 :: x17 :: x18 :: x19 :: S) 19 = some x19 := rfl
@[simp] theorem uS_19 {x0 x1 x2 x3 x4 x5 x6 x7 x8 x9 x10 x11 x12 x13 x14 x15 x16 x17 x18 x19 o : Option T} {S : Sto} : uS (x0 :: x1 :: x2 :: x3 :: x4 :: x5 :: x6 :: x7 :: x8 :: x9 :: x10 :: x11 :: x12 :: x13 :: x14 :: x15 :: x16 :: x17 :: x18 :: x19 :: S) 19 o = x0 :: x1 :: x2 :: x3 :: x4 :: x5 :: x6 :: x7 :: x8 :: x9 :: x10 :: x11 :: x12 :: x13 :: x14 :: x15 :: x16 :: x17 :: x18 :: o :: S := rfl
@[simp] theorem putS_19 {x0 x1 x2 x3 x4 x5 x6 x7 x8 x9 x10 x11 x12 x13 x14 x15 x16 x17 x18 x19 : Option T} {t : T} {S : Sto} : putS 19 t (x0 :: x1 :: x2 :: x3 :: x4 :: x5 :: x6 :: x7 :: x8 :: x9 :: x10 :: x11 :: x12 :: x13 :: x14 :: x15 :: x16 :: x17 :: x18 :: x19 :: S) = some (x0 :: x1 :: x2 :: x3 :: x4 :: x5 :: x6 :: x7 :: x8 :: x9 :: x10 :: x11 :: x12 :: x13 :: x14 :: x15 :: x16 :: x17 :: x18 :: some t :: S) := if_pos (by simp only [List.length_cons]; omega)
@[simp] theorem gS_20 {x0 x1 x2 x3 x4 x5 x6 x7 x8 x9 x10 x11 x12 x13 x14 x15 x16 x17 x18 x19 x20 : Option T} {S : Sto} : gS (x0 :: x1 :: x2 :: x3 :: x4 :: x5 :: x6 :: x7 :: x8 :: x9 :: x10 :: x11 :: x12 :: x13 :: x14 :: x15 :: x16 :: x17 :: x18 :: x19 :: x20 :: S) 20 = some x20 := rfl
@[simp] theorem uS_20 {x0 x1 x2 x3 x4 x5 x6 x7 x8 x9 x10 x11 x12 x13 x14 x15 x16 x17 x18 x19 x20 o : Option T} {S : Sto} : uS (x0 :: x1 :: x2 :: x3 :: x4 :: x5 :: x6 :: x7 :: x8 :: x9 :: x10 :: x11 :: x12 :: x13 :: x14 :: x15 :: x16 :: x17 :: x18 :: x19 :: x20 :: S) 20 o = x0 :: x1 :: x2 :: x3 :: x4 :: x5 :: x6 :: x7 :: x8 :: x9 :: x10 :: x11 :: x12 :: x13 :: x14 :: x15 :: x16 :: x17 :: x18 :: x19 :: o :: S := rfl
@[simp] theorem putS_20 {x0 x1 x2 x3 x4 x5 x6 x7 x8 x9 x10 x11 x12 x13 x14 x15 x16 x17 x18 x19 x20 : Option T} {t : T} {S : Sto} : putS 20 t (x0 :: x1 :: x2 :: x3 :: x4 :: x5 :: x6 :: x7 :: x8 :: x9 :: x10 :: x11 :: x12 :: x13 :: x14 :: x15 :: x16 :: x17 :: x18 :: x19 :: x20 :: S) = some (x0 :: x1 :: x2 :: x3 :: x4 :: x5 :: x6 :: x7 :: x8 :: x9 :: x10 :: x11 :: x12 :: x13 :: x14 :: x15 :: x16 :: x17 :: x18 :: x19 :: some t :: S) := if_pos (by simp only [List.length_cons]; omega)
@[simp] theorem gS_21 {x0 x1 x2 x3 x4 x5 x6 x7 x8 x9 x10 x11 x12 x13 x14 x15 x16 x17 x18 x19 x20 x21 : Option T} {S : Sto} : gS (x0 :: x1 :: x2 :: x3 :: x4 :: x5 :: x6 :: x7 :: x8 :: x9 :: x10 :: x11 :: x12 :: x13 :: x14 :: x15 :: x16 :: x17 :: x18 :: x19 :: x20 :: x21 :: S) 21 = some x21 := rfl
@[simp] theorem uS_21 {x0 x1 x2 x3 x4 x5 x6 x7 x8 x9 x10 x11 x12 x13 x14 x15 x16 x17 x18 x19 x20 x21 o : Option T} {S : Sto} : uS (x0 :: x1 :: x2 :: x3 :: x4 :: x5 :: x6 :: x7 :: x8 :: x9 :: x10 :: x11 :: x12 :: x13 :: x14 :: x15 :: x16 :: x17 :: x18 :: x19 :: x20 :: x21 :: S) 21 o = x0 :: x1 :: x2 :: x3 :: x4 :: x5 :: x6 :: x7 :: x8 :: x9 :: x10 :: x11 :: x12 :: x13 :: x14 :: x15 :: x16 :: x17 :: x18 :: x19 :: x20 :: o :: S := rfl
@[simp] theorem putS_21 {x0 x1 x2 x3 x4 x5 x6 x7 x8 x9 x10 x11 x12 x13 x14 x15 x16 x17 x18 x19 x20 x21 : Option T} {t : T} {S : Sto} : putS 21 t (x0 :: x1 :: x2 :: x3 :: x4 :: x5 :: x6 :: x7 :: x8 :: x9 :: x10 :: x11 :: x12 :: x13 :: x14 :: x15 :: x16 :: x17 :: x18 :: x19 :: x20 :: x21 :: S) = some (x0 :: x1 :: x2 :: x3 :: x4 :: x5 :: x6 :: x7 :: x8 :: x9 :: x10 :: x11 :: x12 :: x13 :: x14 :: x15 :: x16 :: x17 :: x18 :: x19 :: x20 :: some t :: S) := if_pos (by simp only [List.length_cons]; omega)
@[simp] theorem gS_22 {x0 x1 x2 x3 x4 x5 x6 x7 x8 x9 x10 x11 x12 x13 x14 x15 x16 x17 x18 x19 x20 x21 x22 : Option T} {S : Sto} : gS (x0 :: x1 :: x2 :: x3 :: x4 :: x5 :: x6 :: x7 :: x8 :: x9 :: x10 :: x11 :: x12 :: x13 :: x14 :: x15 :: x16 :: x17 :: x18 :: x19 :: x20 :: x21 :: x22 :: S) 22 = some x22 := rfl
@[simp] theorem uS_22 {x0 x1 x2 x3 x4 x5 x6 x7 x8 x9 x10 x11 x12 x13 x14 x15 x16 x17 x18 x19 x20 x21 x22 o : Option T} {S : Sto} : uS (x0 :: x1 :: x2 :: x3 :: x4 :: x5 :: x6 :: x7 :: x8 :: x9 :: x10 :: x11 :: x12 :: x13 :: x14 :: x15 :: x16 :: x17 :: x18 :: x19 :: x20 :: x21 :: x22 :: S) 22 o = x0 :: x1 :: x2 :: x3 :: x4 :: x5 :: x6 :: x7 :: x8 :: x9 :: x10 :: x11 :: x12 :: x13 :: x14 :: x15 :: x16 :: x17 :: x18 :: x19 :: x20 :: x21 :: o :: S := rfl
@[simp] theorem putS_22 {x0 x1 x2 x3 x4 x5 x6 x7 x8 x9 x10 x11 x12 x13 x14 x15 x16 x17 x18 x19 x20 x21 x22 : Option T} {t : T} {S : Sto} : putS 22 t (x0 :: x1 :: x2 :: x3 :: x4 :: x5 :: x6 :: x7 :: x8 :: x9 :: x10 :: x11 :: x12 :: x13 :: x14 :: x15 :: x16 :: x17 :: x18 :: x19 :: x20 :: x21 :: x22 :: S) = some (x0 :: x1 :: x2 :: x3 :: x4 :: x5 :: x6 :: x7 :: x8 :: x9 :: x10 :: x11 :: x12 :: x13 :: x14 :: x15 :: x16 :: x17 :: x18 :: x19 :: x20 :: x21 :: some t :: S) := if_pos (by simp only [List.length_cons]; omega)
@[simp] theorem gS_23 {x0 x1 x2 x3 x4 x5 x6 x7 x8 x9 x10 x11 x12 x13 x14 x15 x16 x17 x18 x19 x20 x21 x22 x23 : Option T} {S : Sto} : gS (x0 :: x1 :: x2 :: x3 :: x4 :: x5 :: x6 :: x7 :: x8 :: x9 :: x10 :: x11 :: x12 :: x13 :: x14 :: x15 :: x16 :: x17 :: x18 :: x19 :: x20 :: x21 :: x22 :: x23 :: S) 23 = some x23 := rfl
@[simp] theorem uS_23 {x0 x1 x2 x3 x4 x5 x6 x7 x8 x9 x10 x11 x12 x13 x14 x15 x16 x17 x18 x19 x20 x21 x22 x23 o : Option T} {S : Sto} : uS (x0 :: x1 :: x2 :: x3 :: x4 :: x5 :: x6 :: x7 :: x8 :: x9 :: x10 :: x11 :: x12 :: x13 :: x14 :: x15 :: x16 :: x17 :: x18 :: x19 :: x20 :: x21 :: x22 :: x23 :: S) 23 o = x0 :: x1 :: x2 :: x3 :: x4 :: x5 :: x6 :: x7 :: x8 :: x9 :: x10 :: x11 :: x12 :: x13 :: x14 :: x15 :: x16 :: x17 :: x18 :: x19 :: x20 :: x21 :: x22 :: o :: S := rfl
@[simp] theorem putS_23 {x0 x1 x2 x3 x4 x5 x6 x7 x8 x9 x10 x11 x12 x13 x14 x15 x16 x17 x18 x19 x20 x21 x22 x23 : Option T} {t : T} {S : Sto} : putS 23 t (x0 :: x1 :: x2 :: x3 :: x4 :: x5 :: x6 :: x7 :: x8 :: x9 :: x10 :: x11 :: x12 :: x13 :: x14 :: x15 :: x16 :: x17 :: x18 :: x19 :: x20 :: x21 :: x22 :: x23 :: S) = some (x0 :: x1 :: x2 :: x3 :: x4 :: x5 :: x6 :: x7 :: x8 :: x9 :: x10 :: x11 :: x12 :: x13 :: x14 :: x15 :: x16 :: x17 :: x18 :: x19 :: x20 :: x21 :: x22 :: some t :: S) := if_pos (by simp only [List.length_cons]; omega)
@[simp] theorem gS_24 {x0 x1 x2 x3 x4 x5 x6 x7 x8 x9 x10 x11 x12 x13 x14 x15 x16 x17 x18 x19 x20 x21 x22 x23 x24 : Option T} {S : Sto} : gS (x0 :: x1 :: x2 :: x3 :: x4 :: x5 :: x6 :: x7 :: x8 :: x9 :: x10 :: x11 :: x12 :: x13 :: x14 :: x15 :: x16 :: x17 :: x18 :: x19 :: x20 :: x21 :: x22 :: x23 :: x24 :: S) 24 = some x24 := rfl
@[simp] theorem uS_24 {x0 x1 x2 x3 x4 x5 x6 x7 x8 x9 x10 x11 x12 x13 x14 x15 x16 x17 x18 x19 x20 x21 x22 x23 x24 o : Option T} {S : Sto} : uS (x0 :: x1 :: x2 :: x3 :: x4 :: x5 :: x6 :: x7 :: x8 :: x9 :: x10 :: x11 :: x12 :: x13 :: x14 :: x15 :: x16 :: x17 :: x18 :: x19 :: x20 :: x21 :: x22 :: x23 :: x24 :: S) 24 o = x0 :: x1 :: x2 :: x3 :: x4 :: x5 :: x6 :: x7 :: x8 :: x9 :: x10 :: x11 :: x12 :: x13 :: x14 :: x15 :: x16 :: x17 :: x18 :: x19 :: x20 :: x21 :: x22 :: x23 :: o :: S := rfl
@[simp] theorem putS_24 {x0 x1 x2 x3 x4 x5 x6 x7 x8 x9 x10 x11 x12 x13 x14 x15 x16 x17 x18 x19 x20 x21 x22 x23 x24 : Option T} {t : T} {S : Sto} : putS 24 t (x0 :: x1 :: x2 :: x3 :: x4 :: x5 :: x6 :: x7 :: x8 :: x9 :: x10 :: x11 :: x12 :: x13 :: x14 :: x15 :: x16 :: x17 :: x18 :: x19 :: x20 :: x21 :: x22 :: x23 :: x24 :: S) = some (x0 :: x1 :: x2 :: x3 :: x4 :: x5 :: x6 :: x7 :: x8 :: x9 :: x10 :: x11 :: x12 :: x13 :: x14 :: x15 :: x16 :: x17 :: x18 :: x19 :: x20 :: x21 :: x22 :: x23 :: some t :: S) := if_pos (by simp only [List.length_cons]; omega)
@[simp] theorem gS_25 {x0 x1 x2 x3 x4 x5 x6 x7 x8 x9 x10 x11 x12 x13 x14 x15 x16 x17 x18 x19 x20 x21 x22 x23 x24 x25 : Option T} {S : Sto} : gS (x0 :: x1 :: x2 :: x3 :: x4 :: x5 :: x6 :: x7 :: x8 :: x9 :: x10 :: x11 :: x12 :: x13 :: x14 :: x15 :: x16 :: x17 :: x18 :: x19 :: x20 :: x21 :: x22 :: x23 :: x24 :: x25 :: S) 25 = some x25 := rfl
@[simp] theorem uS_25 {x0 x1 x2 x3 x4 x5 x6 x7 x8 x9 x10 x11 x12 x13 x14 x15 x16 x17 x18 x19 x20 x21 x22 x23 x24 x25 o : Option T} {S : Sto} : uS (x0 :: x1 :: x2 :: x3 :: x4 :: x5 :: x6 :: x7 :: x8 :: x9 :: x10 :: x11 :: x12 :: x13 :: x14 :: x15 :: x16 :: x17 :: x18 :: x19 :: x20 :: x21 :: x22 :: x23 :: x24 :: x25 :: S) 25 o = x0 :: x1 :: x2 :: x3 :: x4 :: x5 :: x6 :: x7 :: x8 :: x9 :: x10 :: x11 :: x12 :: x13 :: x14 :: x15 :: x16 :: x17 :: x18 :: x19 :: x20 :: x21 :: x22 :: x23 :: x24 :: o :: S := rfl
@[simp] theorem putS_25 {x0 x1 x2 x3 x4 x5 x6 x7 x8 x9 x10 x11 x12 x13 x14 x15 x16 x17 x18 x19 x20 x21 x22 x23 x24 x25 : Option T} {t : T} {S : Sto} : putS 25 t (x0 :: x1 :: x2 :: x3 :: x4 :: x5 :: x6 :: x7 :: x8 :: x9 :: x10 :: x11 :: x12 :: x13 :: x14 :: x15 :: x16 :: x17 :: x18 :: x19 :: x20 :: x21 :: x22 :: x23 :: x24 :: x25 :: S) = some (x0 :: x1 :: x2 :: x3 :: x4 :: x5 :: x6 :: x7 :: x8 :: x9 :: x10 :: x11 :: x12 :: x13 :: x14 :: x15 :: x16 :: x17 :: x18 :: x19 :: x20 :: x21 :: x22 :: x23 :: x24 :: some t :: S) := if_pos (by simp only [List.length_cons]; omega)
@[simp] theorem atI_0 {α : Type} {x0 : α} {l : List α} : L2.atI (x0 :: l) 0 = some x0 := (atI_pos (j := 0)).trans rfl
@[simp] theorem atI_1 {α : Type} {x0 x1 : α} {l : List α} : L2.atI (x0 :: x1 :: l) 1 = some x1 := (atI_pos (j := 1)).trans rfl
@[simp] theorem atI_2 {α : Type} {x0 x1 x2 : α} {l : List α} : L2.atI (x0 :: x1 :: x2 :: l) 2 = some x2 := (atI_pos (j := 2)).trans rfl
@[simp] theorem atI_3 {α : Type} {x0 x1 x2 x3 : α} {l : List α} : L2.atI (x0 :: x1 :: x2 :: x3 :: l) 3 = some x3 := (atI_pos (j := 3)).trans rfl
@[simp] theorem atI_4 {α : Type} {x0 x1 x2 x3 x4 : α} {l : List α} : L2.atI (x0 :: x1 :: x2 :: x3 :: x4 :: l) 4 = some x4 := (atI_pos (j := 4)).trans rfl
@[simp] theorem atI_5 {α : Type} {x0 x1 x2 x3 x4 x5 : α} {l : List α} : L2.atI (x0 :: x1 :: x2 :: x3 :: x4 :: x5 :: l) 5 = some x5 := (atI_pos (j := 5)).trans rfl
@[simp] theorem atI_6 {α : Type} {x0 x1 x2 x3 x4 x5 x6 : α} {l : List α} : L2.atI (x0 :: x1 :: x2 :: x3 :: x4 :: x5 :: x6 :: l) 6 = some x6 := (atI_pos (j := 6)).trans rfl
@[simp] theorem atI_7 {α : Type} {x0 x1 x2 x3 x4 x5 x6 x7 : α} {l : List α} : L2.atI (x0 :: x1 :: x2 :: x3 :: x4 :: x5 :: x6 :: x7 :: l) 7 = some x7 := (atI_pos (j := 7)).trans rfl
@[simp] theorem atI_8 {α : Type} {x0 x1 x2 x3 x4 x5 x6 x7 x8 : α} {l : List α} : L2.atI (x0 :: x1 :: x2 :: x3 :: x4 :: x5 :: x6 :: x7 :: x8 :: l) 8 = some x8 := (atI_pos (j := 8)).trans rfl
@[simp] theorem atI_9 {α : Type} {x0 x1 x2 x3 x4 x5 x6 x7 x8 x9 : α} {l : List α} : L2.atI (x0 :: x1 :: x2 :: x3 :: x4 :: x5 :: x6 :: x7 :: x8 :: x9 :: l) 9 = some x9 := (atI_pos (j := 9)).trans rfl
@[simp] theorem atI_n1_1 {α : Type} {x0 : α} : L2.atI [x0] (-1) = some x0 := rfl
@[simp] theorem atI_n1_2 {α : Type} {x0 x1 : α} : L2.atI [x0, x1] (-1) = some x1 := rfl
@[simp] theorem atI_n1_3 {α : Type} {x0 x1 x2 : α} : L2.atI [x0, x1, x2] (-1) = some x2 := rfl
@[simp] theorem atI_n1_4 {α : Type} {x0 x1 x2 x3 : α} : L2.atI [x0, x1, x2, x3] (-1) = some x3 := rfl
@[simp] theorem atI_n1_5 {α : Type} {x0 x1 x2 x3 x4 : α} : L2.atI [x0, x1, x2, x3, x4] (-1) = some x4 := rfl
@[simp] theorem atI_n1_6 {α : Type} {x0 x1 x2 x3 x4 x5 : α} : L2.atI [x0, x1, x2, x3, x4, x5] (-1) = some x5 := rfl
@[simp] theorem atI_n1_7 {α : Type} {x0 x1 x2 x3 x4 x5 x6 : α} : L2.atI [x0, x1, x2, x3, x4, x5, x6] (-1) = some x6 := rfl
@[simp] theorem atI_n1_8 {α : Type} {x0 x1 x2 x3 x4 x5 x6 x7 : α} : L2.atI [x0, x1, x2, x3, x4, x5, x6, x7] (-1) = some x7 := rfl

/-! ### pure -/
variable {S S1 S2 : Sto} {t u : T} {d x y z : D} {i j : Int} {b c : Bool}
@[simp] theorem q_pC : pC d S = some d := rfl
def kV (o : Option (Option T)) : Option D := match o with
  | some (some t) => some (fz t)
  | _ => none
@[simp] theorem q_pV {i : Nat} : pV i S = kV (gS S i) := rfl
@[simp] theorem kV_s : kV (some (some t)) = some (fz t) := rfl
def k2 (g : D → D → Option D) (a b : Option D) : Option D := a.bind fun x => b.bind fun y => g x y
@[simp] theorem q_p2 {g : D → D → Option D} {ma mb : MP} : p2 g ma mb S = k2 g (ma S) (mb S) := rfl
@[simp] theorem k2_s {g : D → D → Option D} : k2 g (some x) (some y) = g x y := rfl
def k1 (g : D → Option D) (a : Option D) : Option D := a.bind g
@[simp] theorem q_p1 {g : D → Option D} {ma : MP} : p1 g ma S = k1 g (ma S) := rfl
@[simp] theorem k1_s {g : D → Option D} : k1 g (some x) = g x := rfl
def kB (a : Option D) : Option Bool := a.bind asB
@[simp] theorem q_pB {m : MP} : pB m S = kB (m S) := rfl
@[simp] theorem kB_s : kB (some (.bl b)) = some b := rfl
def kBAnd (a b : Option Bool) : Option Bool := a.bind fun x => if x = true then b else some false
def kBOr (a b : Option Bool) : Option Bool := a.bind fun x => if x = true then some true else b
def kBNot (a : Option Bool) : Option Bool := a.bind fun x => some (!x)
@[simp] theorem q_bAnd {p q : MB} : bAnd p q S = kBAnd (p S) (q S) := rfl
@[simp] theorem q_bOr {p q : MB} : bOr p q S = kBOr (p S) (q S) := rfl
@[simp] theorem q_bNot {p : MB} : bNot p S = kBNot (p S) := rfl
@[simp] theorem kBAnd_t {o : Option Bool} : kBAnd (some true) o = o := rfl
@[simp] theorem kBAnd_f {o : Option Bool} : kBAnd (some false) o = some false := rfl
@[simp] theorem kBAnd_s : kBAnd (some b) (some c) = some (b && c) := by cases b <;> rfl
@[simp] theorem kBOr_t {o : Option Bool} : kBOr (some true) o = some true := rfl
@[simp] theorem kBOr_f {o : Option Bool} : kBOr (some false) o = o := rfl
@[simp] theorem kBOr_s : kBOr (some b) (some c) = some (b || c) := by cases b <;> rfl
@[simp] theorem kBNot_s : kBNot (some b) = some (!b) := rfl
def kPAnd (a b : Option D) : Option D := a.bind fun x => (asB x).bind fun x => if x = true then b else some (.bl false)
def kPOr (a b : Option D) : Option D := a.bind fun x => (asB x).bind fun x => if x = true then some (.bl true) else b
def kPNot (a : Option D) : Option D := a.bind fun x => (asB x).bind fun x => some (.bl (!x))
@[simp] theorem q_pAnd {p q : MP} : pAnd p q S = kPAnd (p S) (q S) := rfl
@[simp] theorem q_pOr {p q : MP} : pOr p q S = kPOr (p S) (q S) := rfl
@[simp] theorem q_pNot {p : MP} : pNot p S = kPNot (p S) := rfl
@[simp] theorem kPAnd_t {o : Option D} : kPAnd (some (.bl true)) o = o := rfl
@[simp] theorem kPAnd_f {o : Option D} : kPAnd (some (.bl false)) o = some (.bl false) := rfl
@[simp] theorem kPAnd_s : kPAnd (some (.bl b)) (some (.bl c)) = some (.bl (b && c)) := by cases b <;> rfl
@[simp] theorem kPOr_t {o : Option D} : kPOr (some (.bl true)) o = some (.bl true) := rfl
@[simp] theorem kPOr_f {o : Option D} : kPOr (some (.bl false)) o = o := rfl
@[simp] theorem kPOr_s : kPOr (some (.bl b)) (some (.bl c)) = some (.bl (b || c)) := by cases b <;> rfl
@[simp] theorem kPNot_s : kPNot (some (.bl b)) = some (.bl (!b)) := rfl
def kPIf (a : Option Bool) (p q : Option D) : Option D := a.bind fun x => if x = true then p else q
@[simp] theorem q_pIf {a : MB} {p q : MP} : pIf a p q S = kPIf (a S) (p S) (q S) := by
  unfold pIf kPIf
  cases a S with
  | none => rfl
  | some b => cases b <;> rfl
@[simp] theorem kPIf_t {p q : Option D} : kPIf (some true) p q = p := rfl
@[simp] theorem kPIf_f {p q : Option D} : kPIf (some false) p q = q := rfl
def kCh (g g' : D → D → Option D) (a b c : Option D) : Option D := a.bind fun x => b.bind fun y => (g x y).bind fun z => (asB z).bind fun k => if k = true then c.bind fun w => g' y w else some (.bl false)
@[simp] theorem q_pCh {g g' : D → D → Option D} {ma mb mc : MP} : pChain g g' ma mb mc S = kCh g g' (ma S) (mb S) (mc S) := rfl
def kCh2 (a b : Option D) : Option D := a.bind fun z => (asB z).bind fun k => if k = true then b else some (.bl false)
@[simp] theorem kCh_s {g g' : D → D → Option D} : kCh g g' (some x) (some y) (some z) = kCh2 (g x y) (g' y z) := rfl
@[simp] theorem kCh2_s : kCh2 (some (.bl b)) (some (.bl c)) = some (.bl (b && c)) := by cases b <;> rfl
def kA (a : Option D) (r : Option (List D)) : Option (List D) := a.bind fun x => r.bind fun xs => some (x :: xs)
@[simp] theorem q_pa {m : MP} {r : Sto → Option (List D)} : paCons m r S = kA (m S) (r S) := rfl
@[simp] theorem kA_s {xs : List D} : kA (some x) (some xs) = some (x :: xs) := rfl
def kC (g : List D → Option D) (a : Option (List D)) : Option D := a.bind g
@[simp] theorem q_pCall {g : List D → Option D} {m : Sto → Option (List D)} : pCall g m S = kC g (m S) := rfl
@[simp] theorem kC_s {g : List D → Option D} {xs : List D} : kC g (some xs) = g xs := rfl
def kO (a : Option D) : Option (Option Int) := a.bind fun d => match d with
  | .int i => some (some i)
  | _ => none
@[simp] theorem q_oN : oPart none S = some none := rfl
@[simp] theorem q_oS {m : MP} : oPart (some m) S = kO (m S) := rfl
@[simp] theorem kO_s : kO (some (.int i)) = some (some i) := rfl
def kSl (a : Option D) (l h : Option (Option Int)) : Option D := a.bind fun d => l.bind fun lo => h.bind fun hi => dSlS lo hi d
@[simp] theorem q_pSlS {m : MP} {l h : Sto → Option (Option Int)} : pSlS m l h S = kSl (m S) (l S) (h S) := rfl
@[simp] theorem kSl_s {lo hi : Option Int} : kSl (some d) (some lo) (some hi) = dSlS lo hi d := rfl
/-! ### values -/
@[simp] theorem sD_int : sD (some (.int i)) S = some (.sh (.int i), S) := rfl
@[simp] theorem sD_bl : sD (some (.bl b)) S = some (.sh (.bl b), S) := rfl
@[simp] theorem sD_str {x : Str} : sD (some (.str x)) S = some (.sh (.str x), S) := rfl
@[simp] theorem sD_non : sD (some .non) S = some (.sh .non, S) := rfl
@[simp] theorem q_ofP {m : MP} : ofP m S = sD (m S) S := rfl
def kOB (a : Option Bool) (S : Sto) : Option (Bool × Sto) := a.bind fun b => some (b, S)
@[simp] theorem q_ofB {m : MB} : ofB m S = kOB (m S) S := rfl
@[simp] theorem kOB_s : kOB (some b) S = some (b, S) := rfl
def kVar (o : Option (Option T)) (i : Nat) (S : Sto) : Option (T × Sto) := match o with
  | some (some t) => some (.sh (fz t), uS S i (some (.sh (fz t))))
  | _ => none
@[simp] theorem q_eVar {i : Nat} : eVar i S = kVar (gS S i) i S := by
  cases h : S[i]? with
  | none =>
    unfold eVar gS
    rw [h]
    rfl
  | some o =>
    cases o with
    | none =>
      unfold eVar gS
      rw [h]
      rfl
    | some t =>
      rw [eVar_of h]
      unfold gS
      rw [h]
      rfl
@[simp] theorem kVar_s {i : Nat} : kVar (some (some t)) i S = some (.sh (fz t), uS S i (some (.sh (fz t)))) := rfl
def kMov (o : Option (Option T)) (i : Nat) (S : Sto) : Option (T × Sto) := match o with
  | some (some t) => some (t, uS S i none)
  | _ => none
@[simp] theorem q_eMov {i : Nat} : eMov i S = kMov (gS S i) i S := rfl
@[simp] theorem kMov_s {i : Nat} : kMov (some (some t)) i S = some (t, uS S i none) := rfl
@[simp] theorem q_eC : eC d S = some (.sh d, S) := rfl
def kE2 (g : D → D → Option D) (a : Option (T × Sto)) (mb : ME) : Option (T × Sto) := a.bind fun p => (mb p.2).bind fun q => sD (g (fz p.1) (fz q.1)) q.2
def kE2' (g : D → D → Option D) (t : T) (a : Option (T × Sto)) : Option (T × Sto) := a.bind fun q => sD (g (fz t) (fz q.1)) q.2
@[simp] theorem q_e2 {g : D → D → Option D} {ma mb : ME} : e2 g ma mb S = kE2 g (ma S) mb := rfl
@[simp] theorem q_e2M {g : D → D → Option D} {ma mb : ME} : e2M g ma mb S = kE2 g (ma S) mb := rfl
@[simp] theorem kE2_s {g : D → D → Option D} {mb : ME} : kE2 g (some (t, S)) mb = kE2' g t (mb S) := rfl
@[simp] theorem kE2'_s {g : D → D → Option D} : kE2' g t (some (u, S)) = sD (g (fz t) (fz u)) S := rfl
def kQB (a : Option (T × Sto)) : Option (Bool × Sto) := a.bind fun p => (asB (fz p.1)).bind fun b => some (b, p.2)
@[simp] theorem q_qB {m : ME} : qB m S = kQB (m S) := rfl
@[simp] theorem kQB_s : kQB (some (.sh (.bl b), S)) = some (b, S) := rfl
def kQA (a : Option (Bool × Sto)) (q : MT) : Option (Bool × Sto) := a.bind fun x => if x.1 = true then q x.2 else some (false, x.2)
def kQO (a : Option (Bool × Sto)) (q : MT) : Option (Bool × Sto) := a.bind fun x => if x.1 = true then some (true, x.2) else q x.2
def kQN (a : Option (Bool × Sto)) : Option (Bool × Sto) := a.bind fun x => some (!x.1, x.2)
@[simp] theorem q_qAnd {p q : MT} : qAnd p q S = kQA (p S) q := rfl
@[simp] theorem q_qOr {p q : MT} : qOr p q S = kQO (p S) q := rfl
@[simp] theorem q_qNot {p : MT} : qNot p S = kQN (p S) := rfl
@[simp] theorem q_qYes : qYes S = some (true, S) := rfl
@[simp] theorem kQA_t {q : MT} : kQA (some (true, S)) q = q S := rfl
@[simp] theorem kQA_f {q : MT} : kQA (some (false, S)) q = some (false, S) := rfl
@[simp] theorem kQO_t {q : MT} : kQO (some (true, S)) q = some (true, S) := rfl
@[simp] theorem kQO_f {q : MT} : kQO (some (false, S)) q = q S := rfl
@[simp] theorem kQN_s : kQN (some (b, S)) = some (!b, S) := rfl
def kEIf (a : Option (Bool × Sto)) (p q : ME) : Option (T × Sto) := a.bind fun x => if x.1 = true then p x.2 else q x.2
@[simp] theorem q_eIf {a : MT} {p q : ME} : eIf a p q S = kEIf (a S) p q := rfl
@[simp] theorem kEIf_t {p q : ME} : kEIf (some (true, S)) p q = p S := rfl
@[simp] theorem kEIf_f {p q : ME} : kEIf (some (false, S)) p q = q S := rfl
def kX (a : Option (T × Sto)) (mb : ME) : Option (T × Sto) := a.bind fun p => (mb p.2).bind fun q => match fz q.1 with
  | .int i => (kid p.1 i).bind fun t => if isSh t = true then some (t, q.2) else none
  | _ => none
def kX1 (t : T) (a : Option (T × Sto)) : Option (T × Sto) := a.bind fun q => match fz q.1 with
  | .int i => (kid t i).bind fun t => if isSh t = true then some (t, q.2) else none
  | _ => none
def kX2 (o : Option T) (S : Sto) : Option (T × Sto) := o.bind fun t => if isSh t = true then some (t, S) else none
@[simp] theorem q_eIx {ma mb : ME} : eIx ma mb S = kX (ma S) mb := rfl
@[simp] theorem kX_s {mb : ME} : kX (some (t, S)) mb = kX1 t (mb S) := rfl
@[simp] theorem kX1_s : kX1 t (some (.sh (.int i), S)) = kX2 (kid t i) S := rfl
@[simp] theorem kX2_s : kX2 (some (.sh d)) S = some (.sh d, S) := rfl
@[simp] theorem kid_shl {ds : List D} : kid (.sh (.lst ds)) i = (L2.atI ds i).map T.sh := rfl
@[simp] theorem kid_sht {ds : List D} : kid (.sh (.tup ds)) i = (L2.atI ds i).map T.sh := rfl
@[simp] theorem kid_l {ts : List T} : kid (.lst ts) i = L2.atI ts i := rfl
@[simp] theorem kid_t {ts : List T} : kid (.tup ts) i = L2.atI ts i := rfl
def kXN (j : Nat) (o : Option (Option T)) (mb : ME) (S : Sto) : Option (T × Sto) := match o with
  | some (some _) => (mb S).bind fun q => match q.2[j]? with
    | some (some t0) => (match fz q.1 with
      | .int i => (kid t0 i).bind fun t => if isSh t = true then some (t, q.2) else none
      | _ => none)
    | _ => none
  | _ => none
def kXN1 (j : Nat) (a : Option (T × Sto)) : Option (T × Sto) := a.bind fun q => match q.2[j]? with
    | some (some t0) => (match fz q.1 with
      | .int i => (kid t0 i).bind fun t => if isSh t = true then some (t, q.2) else none
      | _ => none)
    | _ => none
def kXN2 (o : Option (Option T)) (i : Int) (S : Sto) : Option (T × Sto) := match o with
    | some (some t0) => (kid t0 i).bind fun t => if isSh t = true then some (t, S) else none
    | _ => none
@[simp] theorem q_eIxN {j : Nat} {mb : ME} : eIxN j mb S = kXN j (gS S j) mb S := rfl
@[simp] theorem kXN_s {j : Nat} {mb : ME} : kXN j (some (some t)) mb S = kXN1 j (mb S) := rfl
@[simp] theorem kXN1_s {k : Nat} : kXN1 k (some (.sh (.int i), S)) = kXN2 (gS S k) i S := by
  unfold kXN1 kXN2 gS
  rw [Option.bind_some]
  rfl
@[simp] theorem kXN2_s : kXN2 (some (some t)) i S = kX2 (kid t i) S := rfl
@[simp] theorem q_aNil : aNil S = some ([], S) := rfl
def kAC (a : Option (T × Sto)) (r : MA) : Option (List T × Sto) := a.bind fun p => (r p.2).bind fun q => some (p.1 :: q.1, q.2)
def kAC1 (t : T) (a : Option (List T × Sto)) : Option (List T × Sto) := a.bind fun q => some (t :: q.1, q.2)
@[simp] theorem q_aCons {m : ME} {r : MA} : aCons m r S = kAC (m S) r := rfl
@[simp] theorem kAC_s {r : MA} : kAC (some (t, S)) r = kAC1 t (r S) := rfl
@[simp] theorem kAC1_s {ts : List T} : kAC1 t (some (ts, S)) = some (t :: ts, S) := rfl
def kAM (i : Nat) (o : Option (Option T)) (r : Option (List T × Sto)) : Option (List T × Sto) := match o with
  | some (some _) => r.bind fun q => match q.2[i]? with
    | some (some t) => some (t :: q.1, q.2.set i none)
    | _ => none
  | _ => none
def kAM1 (i : Nat) (o : Option (Option T)) (ts : List T) (S : Sto) : Option (List T × Sto) := match o with
    | some (some t) => some (t :: ts, uS S i none)
    | _ => none
@[simp] theorem q_aMv {i : Nat} {r : MA} : aMv i r S = kAM i (gS S i) (r S) := rfl
@[simp] theorem kAM_s {i : Nat} {ts : List T} : kAM i (some (some t)) (some (ts, S)) = kAM1 i (gS S i) ts S := rfl
@[simp] theorem kAM1_s {i : Nat} {ts : List T} : kAM1 i (some (some t)) ts S = some (t :: ts, uS S i none) := rfl
def kCall (f : Fn) (ms : List (Option Nat)) (a : Option (List T × Sto)) : Option (T × Sto) := a.bind fun p => (f p.1).bind fun r => if r.2.length = ms.length then some (r.1, putB ms r.2 p.2) else none
def kCall1 (ms : List (Option Nat)) (S : Sto) (a : Option (T × List (Option T))) : Option (T × Sto) := a.bind fun r => if r.2.length = ms.length then some (r.1, putB ms r.2 S) else none
@[simp] theorem q_eCall {f : Fn} {ms : List (Option Nat)} {ma : MA} : eCall f ms ma S = kCall f ms (ma S) := rfl
@[simp] theorem kCall_s {f : Fn} {ms : List (Option Nat)} {ts : List T} : kCall f ms (some (ts, S)) = kCall1 ms S (f ts) := rfl
@[simp] theorem kCall1_s {ms : List (Option Nat)} {r : T} {ts : List (Option T)} : kCall1 ms S (some (r, ts)) = if ts.length = ms.length then some (r, putB ms ts S) else none := rfl
@[simp] theorem putB_nil : putB [] [] S = S := rfl
@[simp] theorem putB_s {i : Nat} {ms : List (Option Nat)} {ts : List (Option T)} : putB (some i :: ms) (some t :: ts) S = putB ms ts (uS S i (some t)) := rfl
@[simp] theorem putB_sn {i : Nat} {ms : List (Option Nat)} {ts : List (Option T)} : putB (some i :: ms) (none :: ts) S = putB ms ts S := rfl
@[simp] theorem putB_n {o : Option T} {ms : List (Option Nat)} {ts : List (Option T)} : putB (none :: ms) (o :: ts) S = putB ms ts S := rfl
def kLst (a : Option (List T × Sto)) : Option (T × Sto) := a.bind fun p => if p.1.length ≤ 1000 then some (.lst p.1, p.2) else none
def kTup (a : Option (List T × Sto)) : Option (T × Sto) := a.bind fun p => if p.1.length ≤ 1000 then some (mkTup p.1, p.2) else none
@[simp] theorem q_eLst {ma : MA} : eLst ma S = kLst (ma S) := rfl
@[simp] theorem q_eTup {ma : MA} : eTup ma S = kTup (ma S) := rfl
@[simp] theorem kLst_s {ts : List T} : kLst (some (ts, S)) = if ts.length ≤ 1000 then some (.lst ts, S) else none := rfl
@[simp] theorem kTup_s {ts : List T} : kTup (some (ts, S)) = if ts.length ≤ 1000 then some (mkTup ts, S) else none := rfl
theorem mkTup_sh {ts : List T} (h : shAll ts = true) : mkTup ts = .sh (.tup (fzL ts)) := if_pos h
@[simp] theorem mkTup1 : mkTup [.sh x] = .sh (.tup [x]) := rfl
@[simp] theorem mkTup2 : mkTup [.sh x, .sh y] = .sh (.tup [x, y]) := rfl
@[simp] theorem mkTup3 : mkTup [.sh x, .sh y, .sh z] = .sh (.tup [x, y, z]) := rfl
@[simp] theorem mkTup4 : mkTup [.sh x, .sh y, .sh z, .sh d] = .sh (.tup [x, y, z, d]) := rfl
@[simp] theorem mkTup5 {e : D} : mkTup [.sh x, .sh y, .sh z, .sh d, .sh e] = .sh (.tup [x, y, z, d, e]) := rfl
@[simp] theorem mkTup2_ll {ts us : List T} : mkTup [.lst ts, .lst us] = .tup [.lst ts, .lst us] := rfl
@[simp] theorem mkTup2_ls {ts : List T} : mkTup [.lst ts, .sh d] = .tup [.lst ts, .sh d] := rfl
@[simp] theorem mkTup2_sl {ts : List T} : mkTup [.sh d, .lst ts] = .tup [.sh d, .lst ts] := rfl
def kE2T (g : T → T → Option T) (a : Option (T × Sto)) (mb : ME) : Option (T × Sto) := a.bind fun p => (mb p.2).bind fun q => (g p.1 q.1).bind fun t => some (t, q.2)
def kE2T1 (g : T → T → Option T) (t : T) (a : Option (T × Sto)) : Option (T × Sto) := a.bind fun q => (g t q.1).bind fun t => some (t, q.2)
def kE2T2 (o : Option T) (S : Sto) : Option (T × Sto) := o.bind fun t => some (t, S)
@[simp] theorem q_e2T {g : T → T → Option T} {ma mb : ME} : e2T g ma mb S = kE2T g (ma S) mb := rfl
@[simp] theorem kE2T_s {g : T → T → Option T} {mb : ME} : kE2T g (some (t, S)) mb = kE2T1 g t (mb S) := rfl
@[simp] theorem kE2T1_s {g : T → T → Option T} : kE2T1 g t (some (u, S)) = kE2T2 (g t u) S := rfl
@[simp] theorem kE2T2_s : kE2T2 (some t) S = some (t, S) := rfl
@[simp] theorem addT_ll {xs ys : List T} (h : xs.length + ys.length ≤ 16777216) : addT (.lst xs) (.lst ys) = some (.lst (xs ++ ys)) := by
  show (if xs.length + ys.length ≤ sizeLine then _ else _) = _
  rw [if_pos (by rw [sizeLine_val]; exact h)]
@[simp] theorem addT_sl {xs : List D} {ys : List T} (h : xs.length + ys.length ≤ 16777216) : addT (.sh (.lst xs)) (.lst ys) = some (.lst (xs.map .sh ++ ys)) := by
  show (if (xs.map T.sh).length + ys.length ≤ sizeLine then _ else _) = _
  rw [if_pos (by rw [sizeLine_val, List.length_map]; exact h)]
@[simp] theorem addT_ls {xs : List T} {ys : List D} (h : xs.length + ys.length ≤ 16777216) : addT (.lst xs) (.sh (.lst ys)) = some (.lst (xs ++ ys.map .sh)) := by
  show (if xs.length + (ys.map T.sh).length ≤ sizeLine then _ else _) = _
  rw [if_pos (by rw [sizeLine_val, List.length_map]; exact h)]
@[simp] theorem addT_ss {xs ys : List D} (h : xs.length + ys.length ≤ 16777216) : addT (.sh (.lst xs)) (.sh (.lst ys)) = some (.lst (xs.map .sh ++ ys.map .sh)) := by
  show (if (xs.map T.sh).length + (ys.map T.sh).length ≤ sizeLine then _ else _) = _
  rw [if_pos (by rw [sizeLine_val, List.length_map, List.length_map]; exact h)]
@[simp] theorem addT_ii : addT (.sh (.int i)) (.sh (.int j)) = some (.sh (.int (i + j))) := rfl
def kList (a : Option (List T × Sto)) : Option (T × Sto) := a.bind fun p => match p.1 with
  | [t] => (items (fz t)).bind fun ds => some (.lst (ds.map .sh), p.2)
  | _ => none
def kList1 (o : Option (List D)) (S : Sto) : Option (T × Sto) := o.bind fun ds => some (.lst (ds.map .sh), S)
@[simp] theorem q_eList {ma : MA} : eList ma S = kList (ma S) := rfl
@[simp] theorem kList_s : kList (some ([t], S)) = kList1 (items (fz t)) S := rfl
@[simp] theorem kList1_s {ds : List D} : kList1 (some ds) S = some (.lst (ds.map .sh), S) := rfl
def kTupOf (a : Option (List T × Sto)) : Option (T × Sto) := a.bind fun p => match p.1 with
  | [t] => (items (fz t)).bind fun ds => some (.sh (.tup ds), p.2)
  | _ => none
def kTupOf1 (o : Option (List D)) (S : Sto) : Option (T × Sto) := o.bind fun ds => some (.sh (.tup ds), S)
@[simp] theorem q_eTupOf {ma : MA} : eTupOf ma S = kTupOf (ma S) := rfl
@[simp] theorem kTupOf_s : kTupOf (some ([t], S)) = kTupOf1 (items (fz t)) S := rfl
@[simp] theorem kTupOf1_s {ds : List D} : kTupOf1 (some ds) S = some (.sh (.tup ds), S) := rfl
@[simp] theorem items_l {ds : List D} : items (.lst ds) = some ds := rfl
@[simp] theorem items_t {ds : List D} : items (.tup ds) = some ds := rfl
def kC1 (g : List D → Option D) (a : Option (T × Sto)) : Option (T × Sto) := a.bind fun p => sD (g [fz p.1]) p.2
@[simp] theorem q_eC1 {g : List D → Option D} {m : ME} : eC1 g m S = kC1 g (m S) := rfl
@[simp] theorem kC1_s {g : List D → Option D} : kC1 g (some (t, S)) = sD (g [fz t]) S := rfl
def kFz (a : Option (T × Sto)) : Option (T × Sto) := a.bind fun p => some (.sh (fz p.1), p.2)
@[simp] theorem q_eFz {m : ME} : eFz m S = kFz (m S) := rfl
@[simp] theorem kFz_s : kFz (some (t, S)) = some (.sh (fz t), S) := rfl
def kSlL (a : Option (T × Sto)) (l h : Sto → Option (Option Int)) : Option (T × Sto) := a.bind fun p => (l p.2).bind fun lo => (h p.2).bind fun hi => match fz p.1 with
  | .lst ds => some (.lst ((VS.cutD ds lo hi).map .sh), p.2)
  | _ => none
def kSlL1 (t : D) (l h : Option (Option Int)) (S : Sto) : Option (T × Sto) := l.bind fun lo => h.bind fun hi => match t with
  | .lst ds => some (.lst ((VS.cutD ds lo hi).map .sh), S)
  | _ => none
@[simp] theorem q_eSlL {m : ME} {l h : Sto → Option (Option Int)} : eSlL m l h S = kSlL (m S) l h := rfl
@[simp] theorem kSlL_s {l h : Sto → Option (Option Int)} : kSlL (some (t, S)) l h = kSlL1 (fz t) (l S) (h S) S := rfl
@[simp] theorem kSlL1_s {ds : List D} {lo hi : Option Int} : kSlL1 (.lst ds) (some lo) (some hi) S = some (.lst ((VS.cutD ds lo hi).map .sh), S) := rfl
def kSlK (j : Nat) (o : Option (Option T)) (l h : Option (Option Int)) (S : Sto) : Option (T × Sto) := match o with
  | some (some (.lst ts)) => l.bind fun lo => h.bind fun hi => some (.lst ((VS.cutD (ts.map fz) lo hi).map .sh), uS S j (some (.lst ((ts.map fz).map .sh))))
  | _ => none
@[simp] theorem q_eSlK {j : Nat} {l h : Sto → Option (Option Int)} : eSlK j l h S = kSlK j (gS S j) (l S) (h S) S := by
  unfold eSlK kSlK gS uS
  rfl
@[simp] theorem kSlK_s {j : Nat} {ts : List T} {lo hi : Option Int} : kSlK j (some (some (.lst ts))) (some lo) (some hi) S = some (.lst ((VS.cutD (ts.map fz) lo hi).map .sh), uS S j (some (.lst ((ts.map fz).map .sh)))) := rfl
def kRevL (a : Option (T × Sto)) : Option (T × Sto) := a.bind fun p => match fz p.1 with
  | .lst ds => some (.lst (ds.reverse.map .sh), p.2)
  | _ => none
def kRevL1 (d : D) (S : Sto) : Option (T × Sto) := match d with
  | .lst ds => some (.lst (ds.reverse.map .sh), S)
  | _ => none
@[simp] theorem q_eRevL {m : ME} : eRevL m S = kRevL (m S) := rfl
@[simp] theorem kRevL_s : kRevL (some (t, S)) = kRevL1 (fz t) S := rfl
@[simp] theorem kRevL1_s {ds : List D} : kRevL1 (.lst ds) S = some (.lst (ds.reverse.map .sh), S) := rfl
def kEAnd (a : Option (T × Sto)) (r : ME) : Option (T × Sto) := a.bind fun x => (asB (fz x.1)).bind fun k => if k = true then r x.2 else some (.sh (.bl false), x.2)
def kEOr (a : Option (T × Sto)) (r : ME) : Option (T × Sto) := a.bind fun x => (asB (fz x.1)).bind fun k => if k = true then some (.sh (.bl true), x.2) else r x.2
def kENot (a : Option (T × Sto)) : Option (T × Sto) := a.bind fun x => (asB (fz x.1)).bind fun k => some (.sh (.bl (!k)), x.2)
@[simp] theorem q_eAnd {p r : ME} : eAnd p r S = kEAnd (p S) r := rfl
@[simp] theorem q_eOr {p r : ME} : eOr p r S = kEOr (p S) r := rfl
@[simp] theorem q_eNot {p : ME} : eNot p S = kENot (p S) := rfl
@[simp] theorem kEAnd_t {r : ME} : kEAnd (some (.sh (.bl true), S)) r = r S := rfl
@[simp] theorem kEAnd_f {r : ME} : kEAnd (some (.sh (.bl false), S)) r = some (.sh (.bl false), S) := rfl
@[simp] theorem kEOr_t {r : ME} : kEOr (some (.sh (.bl true), S)) r = some (.sh (.bl true), S) := rfl
@[simp] theorem kEOr_f {r : ME} : kEOr (some (.sh (.bl false), S)) r = r S := rfl
@[simp] theorem kENot_s : kENot (some (.sh (.bl b), S)) = some (.sh (.bl (!b)), S) := rfl
def kIK (j : Nat) (o : Option (Option T)) (a : Option (T × Sto)) : Option (T × Sto) := match o with
  | some (some _) => a.bind fun q => match q.2[j]? with
    | some (some t0) => (match fz q.1 with
      | .int i => (kidF t0 i).bind fun p => some (.sh p.1, q.2.set j (some p.2))
      | _ => none)
    | _ => none
  | _ => none
def kIK1 (j : Nat) (o : Option (Option T)) (i : Int) (S : Sto) : Option (T × Sto) := match o with
    | some (some t0) => (kidF t0 i).bind fun p => some (.sh p.1, S.set j (some p.2))
    | _ => none
def kIK2 (j : Nat) (o : Option (D × T)) (S : Sto) : Option (T × Sto) := o.bind fun p => some (.sh p.1, uS S j (some p.2))
@[simp] theorem q_eIxK {j : Nat} {mb : ME} : eIxK j mb S = kIK j (gS S j) (mb S) := rfl
@[simp] theorem kIK_s {k : Nat} : kIK k (some (some t)) (some (.sh (.int i), S)) = kIK1 k (gS S k) i S := by
  unfold kIK kIK1 gS
  rw [Option.bind_some]
  rfl
@[simp] theorem kIK1_s {k : Nat} : kIK1 k (some (some t)) i S = kIK2 k (kidF t i) S := rfl
@[simp] theorem kIK2_s {k : Nat} : kIK2 k (some (d, t)) S = some (.sh d, uS S k (some t)) := rfl
@[simp] theorem kidF_shl {ds : List D} : kidF (.sh (.lst ds)) i = (L2.atI ds i).map fun d => (d, .sh (.lst ds)) := by
  unfold kidF
  show ((L2.atI ds i).map T.sh).bind _ = _
  cases L2.atI ds i <;> rfl
@[simp] theorem kidF_sht {ds : List D} : kidF (.sh (.tup ds)) i = (L2.atI ds i).map fun d => (d, .sh (.tup ds)) := by
  unfold kidF
  show ((L2.atI ds i).map T.sh).bind _ = _
  cases L2.atI ds i <;> rfl
@[simp] theorem kidF_l2_0 {a b : T} : kidF (.lst [a, b]) 0 = some (fz a, .lst [.sh (fz a), b]) := rfl
@[simp] theorem kidF_l2_1 {a b : T} : kidF (.lst [a, b]) 1 = some (fz b, .lst [a, .sh (fz b)]) := rfl
/-! ### statements -/
@[simp] theorem q_sNext : sNext S = some (.nx S) := rfl
@[simp] theorem q_sBreak : sBreak S = some (.bk S) := rfl
@[simp] theorem q_sCont : sCont S = some (.ct S) := rfl
@[simp] theorem q_sRetN : sRetN S = some (.rt (.sh .non) S) := rfl
def kS (a : Option Fl) (m' : MS) : Option Fl := a.bind fun f => match f with
  | .nx S1 => m' S1
  | f => some f
@[simp] theorem q_sSeq {m m' : MS} : sSeq m m' S = kS (m S) m' := rfl
@[simp] theorem kS_nx {m' : MS} : kS (some (.nx S)) m' = m' S := rfl
@[simp] theorem kS_rt {m' : MS} : kS (some (.rt t S)) m' = some (.rt t S) := rfl
@[simp] theorem kS_bk {m' : MS} : kS (some (.bk S)) m' = some (.bk S) := rfl
@[simp] theorem kS_ct {m' : MS} : kS (some (.ct S)) m' = some (.ct S) := rfl
def kR (a : Option (T × Sto)) : Option Fl := a.bind fun p => some (.rt p.1 p.2)
@[simp] theorem q_sRet {m : ME} : sRet m S = kR (m S) := rfl
@[simp] theorem kR_s : kR (some (t, S)) = some (.rt t S) := rfl
def kIF (a : Option (Bool × Sto)) (m m' : MS) : Option Fl := a.bind fun x => if x.1 = true then m x.2 else m' x.2
@[simp] theorem q_sIf {a : MT} {m m' : MS} : sIf a m m' S = kIF (a S) m m' := rfl
@[simp] theorem kIF_t {m m' : MS} : kIF (some (true, S)) m m' = m S := rfl
@[simp] theorem kIF_f {m m' : MS} : kIF (some (false, S)) m m' = m' S := rfl
def kDrop (a : Option (T × Sto)) : Option Fl := a.bind fun p => some (.nx p.2)
@[simp] theorem q_sDrop {m : ME} : sDrop m S = kDrop (m S) := rfl
@[simp] theorem kDrop_s : kDrop (some (t, S)) = some (.nx S) := rfl
def kAs (a : Option (T × Sto)) (g : T → Sto → Option Sto) : Option Fl := a.bind fun p => (g p.1 p.2).bind fun S' => some (.nx S')
def kAs1 (a : Option Sto) : Option Fl := a.bind fun S' => some (.nx S')
@[simp] theorem q_sAsg {m : ME} {g : T → Sto → Option Sto} : sAsg m g S = kAs (m S) g := rfl
@[simp] theorem kAs_s {g : T → Sto → Option Sto} : kAs (some (t, S)) g = kAs1 (g t S) := rfl
@[simp] theorem kAs1_s : kAs1 (some S) = some (.nx S) := rfl
def kGT (n : Nat) (r : List T → Sto → Option Sto) (a : Option (List T)) (S : Sto) : Option Sto := a.bind fun ts => if ts.length = n then r ts S else none
@[simp] theorem q_gTup {n : Nat} {r : List T → Sto → Option Sto} : gTupS n r t S = kGT n r (kidsTu t) S := rfl
@[simp] theorem kGT_s {n : Nat} {r : List T → Sto → Option Sto} {ts : List T} : kGT n r (some ts) S = if ts.length = n then r ts S else none := rfl
@[simp] theorem kidsTu_t {ts : List T} : kidsTu (.tup ts) = some ts := rfl
@[simp] theorem kidsTu_s {ds : List D} : kidsTu (.sh (.tup ds)) = some (ds.map .sh) := rfl
@[simp] theorem q_gsNil : gsNil [] S = some S := rfl
def kGC (a : Option Sto) (r : List T → Sto → Option Sto) (ts : List T) : Option Sto := a.bind fun S1 => r ts S1
@[simp] theorem q_gsCons {g : T → Sto → Option Sto} {r : List T → Sto → Option Sto} {ts : List T} : gsCons g r (t :: ts) S = kGC (g t S) r ts := rfl
@[simp] theorem kGC_s {r : List T → Sto → Option Sto} {ts : List T} : kGC (some S) r ts = r ts S := rfl
def kSetI (j : Nat) (a : Option (T × Sto)) (mk : ME) : Option Fl := a.bind fun p => match p.2[j]? with
  | some (some _) => (mk p.2).bind fun q => (match q.2[j]?, fz q.1 with
    | some (some (.lst ts)), .int i => (ixN ts.length i).bind fun n => some (.nx (q.2.set j (some (.lst (ts.set n p.1)))))
    | _, _ => none)
  | _ => none
def kSetI1 (j : Nat) (t : T) (o : Option (Option T)) (a : Option (T × Sto)) : Option Fl := match o with
  | some (some _) => a.bind fun q => (match q.2[j]?, fz q.1 with
    | some (some (.lst ts)), .int i => (ixN ts.length i).bind fun n => some (.nx (q.2.set j (some (.lst (ts.set n t)))))
    | _, _ => none)
  | _ => none
def kSetI2 (j : Nat) (t : T) (o : Option (Option T)) (i : Int) (S : Sto) : Option Fl := match o with
    | some (some (.lst ts)) => (ixN ts.length i).bind fun n => some (.nx (uS S j (some (.lst (ts.set n t)))))
    | _ => none
def kSetI3 (j : Nat) (t : T) (ts : List T) (o : Option Nat) (S : Sto) : Option Fl := o.bind fun n => some (.nx (uS S j (some (.lst (ts.set n t)))))
@[simp] theorem q_sSetI {j : Nat} {mv mk : ME} : sSetI j mv mk S = kSetI j (mv S) mk := rfl
@[simp] theorem kSetI_s {j : Nat} {mk : ME} : kSetI j (some (t, S)) mk = kSetI1 j t (gS S j) (mk S) := rfl
@[simp] theorem kSetI1_s {k : Nat} : kSetI1 k t (some (some u)) (some (.sh (.int i), S)) = kSetI2 k t (gS S k) i S := by
  unfold kSetI1 kSetI2 gS uS
  simp only [Option.bind_some, fz_sh]
  cases S[k]? with
  | none => rfl
  | some o => cases o with
    | none => rfl
    | some v => cases v <;> rfl
@[simp] theorem kSetI2_s {k : Nat} {ts : List T} : kSetI2 k t (some (some (.lst ts))) i S = kSetI3 k t ts (ixN ts.length i) S := rfl
@[simp] theorem kSetI3_s {k n : Nat} {ts : List T} : kSetI3 k t ts (some n) S = some (.nx (uS S k (some (.lst (ts.set n t))))) := rfl
theorem ixN_nat {n k : Nat} (h : k < n) : ixN n (k : Int) = some k := by
  unfold ixN
  rw [if_pos (by omega), if_pos (by omega), Int.toNat_natCast]
@[simp] theorem ixN_pos {n : Nat} (h0 : 0 ≤ i) (h : i < (n : Int)) : ixN n i = some i.toNat := by
  unfold ixN
  rw [if_pos h0, if_pos h]
def kApp (j : Nat) (o : Option (Option T)) (a : Option (T × Sto)) : Option Fl := match o with
  | some (some (.lst _)) => a.bind fun p => (match p.2[j]? with
    | some (some (.lst ts)) => if ts.length < sizeLine then some (.nx (p.2.set j (some (.lst (ts ++ [p.1]))))) else none
    | _ => none)
  | _ => none
def kApp1 (j : Nat) (o : Option (Option T)) (t : T) (S : Sto) : Option Fl := match o with
    | some (some (.lst ts)) => if ts.length < sizeLine then some (.nx (uS S j (some (.lst (ts ++ [t]))))) else none
    | _ => none
@[simp] theorem q_sApp {j : Nat} {me : ME} : sApp j me S = kApp j (gS S j) (me S) := rfl
@[simp] theorem kApp_s {j : Nat} {ts : List T} : kApp j (some (some (.lst ts))) (some (t, S)) = kApp1 j (gS S j) t S := rfl
@[simp] theorem kApp1_s {j : Nat} {ts : List T} (h : ts.length < 16777216) : kApp1 j (some (some (.lst ts))) t S = some (.nx (uS S j (some (.lst (ts ++ [t]))))) := by
  show (if ts.length < sizeLine then _ else _) = _
  rw [if_pos (by rw [sizeLine_val]; exact h)]
def kAug (g : D → D → Option D) (j : Nat) (o : Option (Option T)) (a : Option (T × Sto)) : Option Fl := match o with
  | some (some (.sh d0)) => a.bind fun p => (g d0 (fz p.1)).bind fun d => if sc d = true then (putS j (.sh d) p.2).bind fun S2 => some (.nx S2) else none
  | _ => none
def kAug1 (j : Nat) (a : Option D) (S : Sto) : Option Fl := a.bind fun d => if sc d = true then (putS j (.sh d) S).bind fun S2 => some (.nx S2) else none
@[simp] theorem q_sAug {g : D → D → Option D} {j : Nat} {me : ME} : sAug g j me S = kAug g j (gS S j) (me S) := rfl
@[simp] theorem kAug_s {g : D → D → Option D} {j : Nat} : kAug g j (some (some (.sh d))) (some (t, S)) = kAug1 j (g d (fz t)) S := rfl
@[simp] theorem kAug1_s {j : Nat} : kAug1 j (some (.int i)) S = kAs1 (putS j (.sh (.int i)) S) := rfl
@[simp] theorem kAug1_str {j : Nat} {x : Str} : kAug1 j (some (.str x)) S = kAs1 (putS j (.sh (.str x)) S) := rfl
/-! ### loops -/
def kFor (a : Option (List D × Sto)) (g : T → Sto → Option Sto) (b : MS) : Option Fl := a.bind fun p => loopF g b p.1 p.2
@[simp] theorem q_mFor {mi : MI} {g : T → Sto → Option Sto} {b : MS} : mFor mi g b S = kFor (mi S) g b := rfl
@[simp] theorem kFor_s {g : T → Sto → Option Sto} {b : MS} {ds : List D} : kFor (some (ds, S)) g b = loopF g b ds S := rfl
@[simp] theorem loop_n {g : T → Sto → Option Sto} {b : MS} : loopF g b [] S = some (.nx S) := rfl
def kLp (a : Option Sto) (g : T → Sto → Option Sto) (b : MS) (ds : List D) : Option Fl := a.bind fun S1 => (b S1).bind fun f => match f with
    | .nx S2 => loopF g b ds S2
    | .ct S2 => loopF g b ds S2
    | .bk S2 => some (.nx S2)
    | .rt r S2 => some (.rt r S2)
def kLp1 (a : Option Fl) (g : T → Sto → Option Sto) (b : MS) (ds : List D) : Option Fl := a.bind fun f => match f with
    | .nx S2 => loopF g b ds S2
    | .ct S2 => loopF g b ds S2
    | .bk S2 => some (.nx S2)
    | .rt r S2 => some (.rt r S2)
@[simp] theorem loop_c {g : T → Sto → Option Sto} {b : MS} {ds : List D} : loopF g b (d :: ds) S = kLp (g (.sh d) S) g b ds := by
  show (g (.sh d) S).bind _ = (g (.sh d) S).bind _
  congr 1
@[simp] theorem kLp_s {g : T → Sto → Option Sto} {b : MS} {ds : List D} : kLp (some S) g b ds = kLp1 (b S) g b ds := rfl
@[simp] theorem kLp1_nx {g : T → Sto → Option Sto} {b : MS} {ds : List D} : kLp1 (some (.nx S)) g b ds = loopF g b ds S := rfl
@[simp] theorem kLp1_ct {g : T → Sto → Option Sto} {b : MS} {ds : List D} : kLp1 (some (.ct S)) g b ds = loopF g b ds S := rfl
@[simp] theorem kLp1_bk {g : T → Sto → Option Sto} {b : MS} {ds : List D} : kLp1 (some (.bk S)) g b ds = some (.nx S) := rfl
@[simp] theorem kLp1_rt {g : T → Sto → Option Sto} {b : MS} {ds : List D} : kLp1 (some (.rt t S)) g b ds = some (.rt t S) := rfl
def kIL (a : Option (T × Sto)) : Option (List D × Sto) := a.bind fun p => match fz p.1 with
  | .lst ds => some (ds, p.2)
  | _ => none
def kIL1 (d : D) (S : Sto) : Option (List D × Sto) := match d with
  | .lst ds => some (ds, S)
  | _ => none
@[simp] theorem q_iList {me : ME} : iList' me S = kIL (me S) := rfl
@[simp] theorem kIL_s : kIL (some (t, S)) = kIL1 (fz t) S := rfl
@[simp] theorem kIL1_s {ds : List D} : kIL1 (.lst ds) S = some (ds, S) := rfl
def kIT (a : Option (T × Sto)) : Option (List D × Sto) := a.bind fun p => match fz p.1 with
  | .tup ds => some (ds, p.2)
  | _ => none
def kIT1 (d : D) (S : Sto) : Option (List D × Sto) := match d with
  | .tup ds => some (ds, S)
  | _ => none
@[simp] theorem q_iTup {me : ME} : iTup' me S = kIT (me S) := rfl
@[simp] theorem kIT_s : kIT (some (t, S)) = kIT1 (fz t) S := rfl
@[simp] theorem kIT1_s {ds : List D} : kIT1 (.tup ds) S = some (ds, S) := rfl
def kIS (a : Option (T × Sto)) : Option (List D × Sto) := a.bind fun p => (items (fz p.1)).map fun ds => (ds, p.2)
def kIS1 (o : Option (List D)) (S : Sto) : Option (List D × Sto) := o.map fun ds => (ds, S)
@[simp] theorem q_iSeq {me : ME} : iSeq' me S = kIS (me S) := rfl
@[simp] theorem kIS_s : kIS (some (t, S)) = kIS1 (items (fz t)) S := rfl
@[simp] theorem kIS1_s {ds : List D} : kIS1 (some ds) S = some (ds, S) := rfl
def kIStr (a : Option D) (S : Sto) : Option (List D × Sto) := a.bind fun d => match d with
  | .str x => some (signs x, S)
  | _ => none
@[simp] theorem q_iStr {m : MP} : iStr' m S = kIStr (m S) S := rfl
@[simp] theorem kIStr_s {x : Str} : kIStr (some (.str x)) S = some (signs x, S) := rfl
def kR1 (a : Option (List D)) (S : Sto) : Option (List D × Sto) := a.bind fun ds => match ds with
  | [.int j] => if near j = true then some (rngD 0 j.toNat, S) else none
  | _ => none
@[simp] theorem q_iRng1 {m : Sto → Option (List D)} : iRng1' m S = kR1 (m S) S := rfl
theorem near_i (h0 : -4611686018427387904 ≤ i) (h1 : i < 4611686018427387904) : near i = true := decide_eq_true ⟨by omega, by omega⟩
@[simp] theorem kR1_s (h0 : -4611686018427387904 ≤ i) (h1 : i < 4611686018427387904) : kR1 (some [.int i]) S = some (rngD 0 i.toNat, S) := if_pos (near_i h0 h1)
def kR2 (a : Option (List D)) (S : Sto) : Option (List D × Sto) := a.bind fun ds => match ds with
  | [.int i, .int j] => if (near i && near j) = true then some (rngD i (j - i).toNat, S) else none
  | _ => none
@[simp] theorem q_iRng2 {m : Sto → Option (List D)} : iRng2' m S = kR2 (m S) S := rfl
@[simp] theorem kR2_s (h0 : -4611686018427387904 ≤ i) (h1 : i < 4611686018427387904) (h2 : -4611686018427387904 ≤ j) (h3 : j < 4611686018427387904) : kR2 (some [.int i, .int j]) S = some (rngD i (j - i).toNat, S) := if_pos (by rw [near_i h0 h1, near_i h2 h3]; rfl)
def kR1E (a : Option (T × Sto)) : Option (List D × Sto) := a.bind fun p => match fz p.1 with
  | .int j => if near j = true then some (rngD 0 j.toNat, p.2) else none
  | _ => none
@[simp] theorem q_iRng1E {m : ME} : iRng1E m S = kR1E (m S) := rfl
@[simp] theorem kR1E_s (h0 : -4611686018427387904 ≤ i) (h1 : i < 4611686018427387904) : kR1E (some (.sh (.int i), S)) = some (rngD 0 i.toNat, S) := if_pos (near_i h0 h1)
def kLc (a : Option (List D × Sto)) (g : T → Sto → Option Sto) (tt : MT) (te : ME) (own : List Nat) : Option (T × Sto) := a.bind fun p => (lcGo g tt te own p.1 (wipeS p.2 own) []).bind fun r => some (.lst r.1, r.2)
def kLc1 (a : Option (List T × Sto)) : Option (T × Sto) := a.bind fun r => some (.lst r.1, r.2)
@[simp] theorem q_eLc {mi : MI} {g : T → Sto → Option Sto} {tt : MT} {te : ME} {own : List Nat} : eLc mi g tt te own S = kLc (mi S) g tt te own := rfl
@[simp] theorem kLc_s {g : T → Sto → Option Sto} {tt : MT} {te : ME} {own : List Nat} {ds : List D} : kLc (some (ds, S)) g tt te own = kLc1 (lcGo g tt te own ds (wipeS S own) []) := rfl
@[simp] theorem kLc1_s {ts : List T} : kLc1 (some (ts, S)) = some (.lst ts, S) := rfl
@[simp] theorem wipe_n : wipeS S [] = S := rfl
@[simp] theorem wipe_c {v : Nat} {vs : List Nat} : wipeS S (v :: vs) = uS (wipeS S vs) v none := rfl
/-! ### instances -/
section
variable {C : Addr} {nm : Str} {ns : List Str} {ts us : List T} {ds : List D} {n j : Nat} {i : Int}
def kFldD (o : Option Nat) (ds : List D) : Option D := o.bind fun n => ds[n]?
@[simp] theorem dFld_s : dFld C nm (.ob C ns ds) = kFldD (ixS nm ns) ds := if_pos rfl
@[simp] theorem kFldD_s : kFldD (some n) ds = ds[n]? := rfl
def kFldF (o : Option Nat) (C : Addr) (ns : List Str) (ts : List T) : Option (D × T) := o.bind fun n => (ts[n]?).map fun u => (fz u, .ob C ns (ts.set n (.sh (fz u))))
def kFldF1 (n : Nat) (o : Option T) (C : Addr) (ns : List Str) (ts : List T) : Option (D × T) := o.map fun u => (fz u, .ob C ns (ts.set n (.sh (fz u))))
@[simp] theorem fldF_o : fldF C nm (.ob C ns ts) = kFldF (ixS nm ns) C ns ts := if_pos rfl
@[simp] theorem kFldF_s : kFldF (some n) C ns ts = kFldF1 n ts[n]? C ns ts := rfl
@[simp] theorem kFldF1_s : kFldF1 n (some t) C ns ts = some (fz t, .ob C ns (ts.set n (.sh (fz t)))) := rfl
@[simp] theorem fldF_s : fldF C nm (.sh d) = (dFld C nm d).map fun d' => (d', .sh d) := rfl
def kFldK (C : Addr) (nm : Str) (o : Option (Option T)) (j : Nat) (S : Sto) : Option (T × Sto) := match o with
  | some (some t) => (fldF C nm t).map fun p => (.sh p.1, S.set j (some p.2))
  | _ => none
def kFldK1 (o : Option (D × T)) (j : Nat) (S : Sto) : Option (T × Sto) := o.map fun p => (.sh p.1, uS S j (some p.2))
@[simp] theorem q_eFldK : eFldK C nm j S = kFldK C nm (gS S j) j S := rfl
@[simp] theorem kFldK_s : kFldK C nm (some (some t)) j S = kFldK1 (fldF C nm t) j S := rfl
@[simp] theorem kFldK1_s : kFldK1 (some (d, t)) j S = some (.sh d, uS S j (some t)) := rfl
def kFldV (C : Addr) (nm : Str) (a : Option (T × Sto)) : Option (T × Sto) := a.bind fun p => (fldF C nm p.1).map fun q => (.sh q.1, p.2)
def kFldV1 (o : Option (D × T)) (S : Sto) : Option (T × Sto) := o.map fun q => (.sh q.1, S)
@[simp] theorem q_eFldV {m : ME} : eFldV C nm m S = kFldV C nm (m S) := rfl
@[simp] theorem kFldV_s : kFldV C nm (some (t, S)) = kFldV1 (fldF C nm t) S := rfl
@[simp] theorem kFldV1_s : kFldV1 (some (d, t)) S = some (.sh d, S) := rfl
@[simp] theorem putN_n (h : ixS nm ns = none) : putN nm ns = ns ++ [nm] := by unfold putN; rw [h]
@[simp] theorem putT_n {α : Type} {a : α} {l : List α} (h : ixS nm ns = none) : putT nm a ns l = l ++ [a] := by unfold putT; rw [h]
theorem putN_s (h : ixS nm ns = some n) : putN nm ns = ns := by unfold putN; rw [h]
theorem putT_s {α : Type} {a : α} {l : List α} (h : ixS nm ns = some n) : putT nm a ns l = l.set n a := by unfold putT; rw [h]
def kFS (C : Addr) (nm : Str) (j : Nat) (a : Option (T × Sto)) : Option Fl := a.bind fun p => match p.2[j]? with
  | some (some (.ob C' ns ts)) => if C' = C ∧ ns.length < 1000 then some (.nx (p.2.set j (some (.ob C' (putN nm ns) (putT nm p.1 ns ts))))) else none
  | _ => none
def kFS1 (C : Addr) (nm : Str) (j : Nat) (t : T) (o : Option (Option T)) (S : Sto) : Option Fl := match o with
  | some (some (.ob C' ns ts)) => if C' = C ∧ ns.length < 1000 then some (.nx (uS S j (some (.ob C' (putN nm ns) (putT nm t ns ts))))) else none
  | _ => none
@[simp] theorem q_sFldS {me : ME} : sFldS C nm j me S = kFS C nm j (me S) := rfl
@[simp] theorem kFS_s : kFS C nm j (some (t, S)) = kFS1 C nm j t (gS S j) S := rfl
@[simp] theorem kFS1_s (h : ns.length < 1000) : kFS1 C nm j t (some (some (.ob C ns ts))) S = some (.nx (uS S j (some (.ob C (putN nm ns) (putT nm t ns ts))))) := if_pos ⟨rfl, h⟩
def kMeth (C : Addr) (nm : Str) (o : Option (Option T)) (j : Nat) (f : Fn) (ms : List (Option Nat)) (ma : MA) (S : Sto) : Option (T × Sto) := match o with
  | some (some t) => if isC C nm t = true then eCall f (some j :: ms) (aMv j ma) S else none
  | _ => none
@[simp] theorem q_eMeth {f : Fn} {ms : List (Option Nat)} {ma : MA} : eMeth C nm j f ms ma S = kMeth C nm (gS S j) j f ms ma S := rfl
@[simp] theorem kMeth_s {f : Fn} {ms : List (Option Nat)} {ma : MA} : kMeth C nm (some (some t)) j f ms ma S = if isC C nm t = true then eCall f (some j :: ms) (aMv j ma) S else none := rfl
@[simp] theorem isC_o : isC C nm (.ob C ns ts) = (ixS nm ns).isNone := by simp [isC]
@[simp] theorem isC_s : isC C nm (.sh (.ob C ns ds)) = (ixS nm ns).isNone := by simp [isC]
def kNew (C : Addr) (f : Fn) (ms : List (Option Nat)) (a : Option (List T × Sto)) : Option (T × Sto) := a.bind fun p => (f (.ob C [] [] :: p.1)).bind fun r => match r with
  | (.sh .non, some t :: ts) => if ts.length = ms.length then some (t, putB ms ts p.2) else none
  | _ => none
def kNew1 (ms : List (Option Nat)) (S : Sto) (a : Option (T × List (Option T))) : Option (T × Sto) := a.bind fun r => match r with
  | (.sh .non, some t :: ts) => if ts.length = ms.length then some (t, putB ms ts S) else none
  | _ => none
@[simp] theorem q_eNew {f : Fn} {ms : List (Option Nat)} {ma : MA} : eNew C f ms ma S = kNew C f ms (ma S) := rfl
@[simp] theorem kNew_s {f : Fn} {ms : List (Option Nat)} : kNew C f ms (some (ts, S)) = kNew1 ms S (f (.ob C [] [] :: ts)) := rfl
@[simp] theorem kNew1_s {ms : List (Option Nat)} {os : List (Option T)} : kNew1 ms S (some (.sh .non, some t :: os)) = if os.length = ms.length then some (t, putB ms os S) else none := rfl
/-! ### lists that are lent -/
def kLoan (o : Option (Option T)) (a : Option D) (j : Nat) (S : Sto) : Option (List D × T × Sto) := match o with
  | some (some (.lst ts)) => a.bind fun d => match d with
    | .int i => (ixN ts.length i).bind fun n => match ts[n]? with
      | some (.lst us) => some (us.map fz, .lst (ts.set n (.lst ((us.map fz).map .sh))), S.set j none)
      | some (.sh (.lst ds)) => some (ds, .lst ts, S.set j none)
      | _ => none
    | _ => none
  | _ => none
def kLoan1 (ts : List T) (o : Option Nat) (j : Nat) (S : Sto) : Option (List D × T × Sto) := o.bind fun n => match ts[n]? with
      | some (.lst us) => some (us.map fz, .lst (ts.set n (.lst ((us.map fz).map .sh))), uS S j none)
      | some (.sh (.lst ds)) => some (ds, .lst ts, uS S j none)
      | _ => none
def kLoan2 (ts : List T) (n : Nat) (o : Option T) (j : Nat) (S : Sto) : Option (List D × T × Sto) := match o with
      | some (.lst us) => some (us.map fz, .lst (ts.set n (.lst ((us.map fz).map .sh))), uS S j none)
      | some (.sh (.lst ds)) => some (ds, .lst ts, uS S j none)
      | _ => none
@[simp] theorem q_iLoan {mi : MP} : iLoan j mi S = kLoan (gS S j) (mi S) j S := rfl
@[simp] theorem kLoan_s : kLoan (some (some (.lst ts))) (some (.int i)) j S = kLoan1 ts (ixN ts.length i) j S := rfl
@[simp] theorem kLoan1_s : kLoan1 ts (some n) j S = kLoan2 ts n ts[n]? j S := rfl
@[simp] theorem kLoan2_s : kLoan2 ts n (some (.lst us)) j S = some (us.map fz, .lst (ts.set n (.lst ((us.map fz).map .sh))), uS S j none) := rfl
@[simp] theorem kLoan2_sh : kLoan2 ts n (some (.sh (.lst ds))) j S = some (ds, .lst ts, uS S j none) := rfl
def kForL (j : Nat) (g : T → Sto → Option Sto) (b : MS) (a : Option (List D × T × Sto)) : Option Fl := a.bind fun p => (loopF g b p.1 p.2.2).map (restF j p.2.1)
def kForL1 (j : Nat) (t : T) (a : Option Fl) : Option Fl := a.map (restF j t)
@[simp] theorem q_mForL {mi : Sto → Option (List D × T × Sto)} {g : T → Sto → Option Sto} {b : MS} : mForL j mi g b S = kForL j g b (mi S) := rfl
@[simp] theorem kForL_s {g : T → Sto → Option Sto} {b : MS} : kForL j g b (some (ds, t, S)) = kForL1 j t (loopF g b ds S) := rfl
@[simp] theorem kForL1_nx : kForL1 j t (some (.nx S)) = some (.nx (uS S j (some t))) := rfl
@[simp] theorem kForL1_rt : kForL1 j t (some (.rt u S)) = some (.rt u (uS S j (some t))) := rfl
def kLcL (j : Nat) (a : Option (List D × T × Sto)) (g : T → Sto → Option Sto) (tt : MT) (te : ME) (own : List Nat) : Option (T × Sto) := a.bind fun p => (lcGo g tt te own p.1 (wipeS p.2.2 own) []).bind fun r => some (.lst r.1, r.2.set j (some p.2.1))
def kLcL1 (j : Nat) (t : T) (a : Option (List T × Sto)) : Option (T × Sto) := a.bind fun r => some (.lst r.1, uS r.2 j (some t))
@[simp] theorem q_eLcL {mi : Sto → Option (List D × T × Sto)} {g : T → Sto → Option Sto} {tt : MT} {te : ME} {own : List Nat} : eLcL j mi g tt te own S = kLcL j (mi S) g tt te own := rfl
@[simp] theorem kLcL_s {g : T → Sto → Option Sto} {tt : MT} {te : ME} {own : List Nat} : kLcL j (some (ds, t, S)) g tt te own = kLcL1 j t (lcGo g tt te own ds (wipeS S own) []) := rfl
@[simp] theorem kLcL1_s : kLcL1 j t (some (ts, S)) = some (.lst ts, uS S j (some t)) := rfl
def kAppI (j : Nat) (o : Option (Option T)) (a : Option D) (me : ME) (S : Sto) : Option Fl := match o with
  | some (some (.lst ts)) => a.bind fun d => match d with
    | .int i => (ixN ts.length i).bind fun n => match ts[n]? with
      | some (.lst us) => (me (S.set j none)).bind fun p => if us.length < sizeLine then some (.nx (p.2.set j (some (.lst (ts.set n (.lst ((us.map fz).map .sh ++ [p.1]))))))) else none
      | _ => none
    | _ => none
  | _ => none
def kAppI1 (j : Nat) (ts : List T) (o : Option Nat) (me : ME) (S : Sto) : Option Fl := o.bind fun n => match ts[n]? with
      | some (.lst us) => (me (S.set j none)).bind fun p => if us.length < sizeLine then some (.nx (p.2.set j (some (.lst (ts.set n (.lst ((us.map fz).map .sh ++ [p.1]))))))) else none
      | _ => none
def kAppI2 (j : Nat) (ts : List T) (n : Nat) (o : Option T) (me : ME) (S : Sto) : Option Fl := match o with
      | some (.lst us) => (me (S.set j none)).bind fun p => if us.length < sizeLine then some (.nx (p.2.set j (some (.lst (ts.set n (.lst ((us.map fz).map .sh ++ [p.1]))))))) else none
      | _ => none
def kAppI3 (j : Nat) (ts : List T) (n : Nat) (us : List T) (a : Option (T × Sto)) : Option Fl := a.bind fun p => if us.length < sizeLine then some (.nx (uS p.2 j (some (.lst (ts.set n (.lst ((us.map fz).map .sh ++ [p.1]))))))) else none
@[simp] theorem q_sAppI {mi : MP} {me : ME} : sAppI j mi me S = kAppI j (gS S j) (mi S) me S := rfl
@[simp] theorem kAppI_s {me : ME} : kAppI j (some (some (.lst ts))) (some (.int i)) me S = kAppI1 j ts (ixN ts.length i) me S := rfl
@[simp] theorem kAppI1_s {me : ME} : kAppI1 j ts (some n) me S = kAppI2 j ts n ts[n]? me S := rfl
@[simp] theorem kAppI2_s {me : ME} : kAppI2 j ts n (some (.lst us)) me S = kAppI3 j ts n us (me (uS S j none)) := rfl
@[simp] theorem kAppI3_s (h : us.length < 16777216) : kAppI3 j ts n us (some (t, S)) = some (.nx (uS S j (some (.lst (ts.set n (.lst ((us.map fz).map .sh ++ [t]))))))) := by
  show (if us.length < sizeLine then _ else _) = _
  rw [if_pos (by rw [sizeLine_val]; exact h)]
end
/-! ### calls of defs -/
def kFn (as : List Nat) (ts : List T) (a : Option Fl) : Option (T × List (Option T)) := a.bind fun f => match f with
  | .nx S => some (.sh .non, outs as S 0 ts)
  | .rt t S => some (t, outs as S 0 ts)
  | _ => none
theorem q_mkFn {np ns : Nat} {as : List Nat} {m : MS} {ts : List T} (h : ts.length = np) : mkFn np ns as m ts = kFn as ts (m ((entry as 0 ts).map some ++ List.replicate (ns - np) none)) := if_pos h
@[simp] theorem kFn_nx {as : List Nat} {ts : List T} : kFn as ts (some (.nx S)) = some (.sh .non, outs as S 0 ts) := rfl
@[simp] theorem kFn_rt {as : List Nat} {ts : List T} : kFn as ts (some (.rt t S)) = some (t, outs as S 0 ts) := rfl
@[simp] theorem entry_n {as : List Nat} {i : Nat} : entry as i [] = [] := rfl
@[simp] theorem entry_c {as : List Nat} {i : Nat} {ts : List T} : entry as i (t :: ts) = (if i ∈ as then .sh (fz t) else t) :: entry as (i + 1) ts := rfl
@[simp] theorem outs_n {as : List Nat} {i : Nat} : outs as S i [] = [] := rfl
@[simp] theorem outs_c {as : List Nat} {i : Nat} {ts : List T} : outs as S i (t :: ts) = (if i ∈ as then some (.sh (fz t)) else (gS S i).getD none) :: outs as S (i + 1) ts := rfl
/-! ### data -/
@[simp] theorem dAdd_i : dAdd (.int i) (.int j) = some (.int (i + j)) := rfl
@[simp] theorem dAddI_i : dAddI (.int i) (.int j) = some (.int (i + j)) := rfl
@[simp] theorem dSub_i : dSub (.int i) (.int j) = some (.int (i - j)) := rfl
theorem small_i (h0 : -18446744073709551616 < i) (h1 : i < 18446744073709551616) : VS.small64 i = true := decide_eq_true ⟨by omega, by omega⟩
@[simp] theorem dMul_il (h0 : -18446744073709551616 < i) (h1 : i < 18446744073709551616) : dMul (.int i) (.int j) = some (.int (i * j)) := if_pos (by rw [small_i h0 h1]; rfl)
theorem dMul_ir (h0 : -18446744073709551616 < j) (h1 : j < 18446744073709551616) : dMul (.int i) (.int j) = some (.int (i * j)) := if_pos (by rw [small_i h0 h1]; exact Bool.or_true _)
theorem log2_64 {n : Nat} (h : n < 18446744073709551616) : n.log2 < 9000 := by
  rcases Nat.eq_zero_or_pos n with rfl | hp
  · decide +kernel
  · exact Nat.lt_of_lt_of_le ((Nat.log2_lt (k := 64) (Nat.pos_iff_ne_zero.mp hp)).mpr h) (by decide)
@[simp] theorem dDiv_i (h0 : 0 < j) (h1 : j < 18446744073709551616) : dDiv (.int i) (.int j) = some (.int (i / j)) := by
  have e : dDiv (.int i) (.int j) = some (.int (i.fdiv j)) := if_pos ⟨by omega, log2_64 (by omega)⟩
  rw [e, Int.fdiv_eq_ediv_of_nonneg _ (by omega)]
@[simp] theorem dMod_i (h0 : 0 < j) : dMod (.int i) (.int j) = some (.int (i % j)) := by
  have e : dMod (.int i) (.int j) = some (.int (i.fmod j)) := if_pos (by omega)
  rw [e, Int.fmod_eq_emod_of_nonneg _ (by omega)]
@[simp] theorem dPow_i (h0 : 0 ≤ j) (h1 : j ≤ 1000000) (h2 : -18446744073709551616 < i) (h3 : i < 18446744073709551616) : dPow (.int i) (.int j) = some (.int (i ^ j.toNat)) := if_pos ⟨h0, h1, by omega⟩
@[simp] theorem dLt_i : dLt (.int i) (.int j) = some (.bl (decide (i < j))) := rfl
@[simp] theorem dLe_i : dLe (.int i) (.int j) = some (.bl (decide (i ≤ j))) := rfl
@[simp] theorem dGt_i : dGt (.int i) (.int j) = some (.bl (decide (j < i))) := rfl
@[simp] theorem dGe_i : dGe (.int i) (.int j) = some (.bl (decide (j ≤ i))) := rfl
@[simp] theorem dEq_i : dEq (.int i) (.int j) = some (.bl (i == j)) := rfl
@[simp] theorem dEq_s {x y : Str} : dEq (.str x) (.str y) = some (.bl (x == y)) := rfl
@[simp] theorem dEq_b : dEq (.bl b) (.bl c) = some (.bl (b == c)) := rfl
@[simp] theorem dNe_i : dNe (.int i) (.int j) = some (.bl (!(i == j))) := rfl
@[simp] theorem dNe_s {x y : Str} : dNe (.str x) (.str y) = some (.bl (!(x == y))) := rfl
@[simp] theorem dNe_b : dNe (.bl b) (.bl c) = some (.bl (!(b == c))) := rfl
@[simp] theorem dIsN_n : dIsN x .non = some (.bl (isNonD x)) := by cases x <;> rfl
@[simp] theorem dIsNotN_n : dIsNotN x .non = some (.bl (!isNonD x)) := by cases x <;> rfl
@[simp] theorem isNon_n : isNonD .non = true := rfl
@[simp] theorem isNon_i : isNonD (.int i) = false := rfl
@[simp] theorem isNon_b : isNonD (.bl b) = false := rfl
@[simp] theorem isNon_s {x : Str} : isNonD (.str x) = false := rfl
@[simp] theorem isNon_l {xs : List D} : isNonD (.lst xs) = false := rfl
@[simp] theorem isNon_t {xs : List D} : isNonD (.tup xs) = false := rfl
@[simp] theorem dLen_l {xs : List D} : dLen [.lst xs] = some (.int (xs.length : Nat)) := rfl
@[simp] theorem dLen_t {xs : List D} : dLen [.tup xs] = some (.int (xs.length : Nat)) := rfl
@[simp] theorem dInt_i' : dInt [.int i] = some (.int i) := rfl
@[simp] theorem dInt_b : dInt [.bl b] = some (.int (if b then 1 else 0)) := rfl
@[simp] theorem dAbs_i : dAbs [.int i] = some (.int (if i < 0 then -i else i)) := rfl
@[simp] theorem dMax2_i : dMax2 [.int i, .int j] = some (.int (if j > i then j else i)) := rfl
@[simp] theorem dMin2_i : dMin2 [.int i, .int j] = some (.int (if j < i then j else i)) := rfl
@[simp] theorem dNeg_i : dNeg (.int i) = some (.int (-i)) := rfl
@[simp] theorem dIsi_ii : dIsi "int" (.int i) = some (.bl true) := (if_neg (by intro h; cases h)).trans (congrArg (Option.map D.bl) (by decide +kernel : kitB "int" "int" = some true))
@[simp] theorem dIsi_ib : dIsi "int" (.bl b) = some (.bl true) := (if_neg (by intro h; cases h)).trans (congrArg (Option.map D.bl) (by decide +kernel : kitB "bool" "int" = some true))
@[simp] theorem dIsi_in : dIsi "int" .non = some (.bl false) := (if_neg (by intro h; cases h)).trans (congrArg (Option.map D.bl) (by decide +kernel : kitB "NoneType" "int" = some false))
@[simp] theorem dIsi_il {xs : List D} : dIsi "int" (.lst xs) = some (.bl false) := (if_neg (by intro h; cases h)).trans (congrArg (Option.map D.bl) (by decide +kernel : kitB "list" "int" = some false))
@[simp] theorem dIsi_it {xs : List D} : dIsi "int" (.tup xs) = some (.bl false) := (if_neg (by intro h; cases h)).trans (congrArg (Option.map D.bl) (by decide +kernel : kitB "tuple" "int" = some false))
@[simp] theorem dIsi_is {x : Str} : dIsi "int" (.str x) = some (.bl false) := (if_neg (by intro h; cases h)).trans (congrArg (Option.map D.bl) (by decide +kernel : kitB "str" "int" = some false))
@[simp] theorem dIsi_bi : dIsi "bool" (.int i) = some (.bl false) := (if_neg (by intro h; cases h)).trans (congrArg (Option.map D.bl) (by decide +kernel : kitB "int" "bool" = some false))
@[simp] theorem dIsi_bb : dIsi "bool" (.bl b) = some (.bl true) := (if_neg (by intro h; cases h)).trans (congrArg (Option.map D.bl) (by decide +kernel : kitB "bool" "bool" = some true))
@[simp] theorem dIsi_bn : dIsi "bool" .non = some (.bl false) := (if_neg (by intro h; cases h)).trans (congrArg (Option.map D.bl) (by decide +kernel : kitB "NoneType" "bool" = some false))
@[simp] theorem dIsi_bl {xs : List D} : dIsi "bool" (.lst xs) = some (.bl false) := (if_neg (by intro h; cases h)).trans (congrArg (Option.map D.bl) (by decide +kernel : kitB "list" "bool" = some false))
@[simp] theorem dIsi_bt {xs : List D} : dIsi "bool" (.tup xs) = some (.bl false) := (if_neg (by intro h; cases h)).trans (congrArg (Option.map D.bl) (by decide +kernel : kitB "tuple" "bool" = some false))
@[simp] theorem dIsi_bs {x : Str} : dIsi "bool" (.str x) = some (.bl false) := (if_neg (by intro h; cases h)).trans (congrArg (Option.map D.bl) (by decide +kernel : kitB "str" "bool" = some false))
@[simp] theorem dIsi_tt {xs : List D} : dIsi "tuple" (.tup xs) = some (.bl true) := (if_neg (by intro h; cases h)).trans (congrArg (Option.map D.bl) (by decide +kernel : kitB "tuple" "tuple" = some true))
@[simp] theorem dIsi_tl {xs : List D} : dIsi "tuple" (.lst xs) = some (.bl false) := (if_neg (by intro h; cases h)).trans (congrArg (Option.map D.bl) (by decide +kernel : kitB "list" "tuple" = some false))
@[simp] theorem dIsi_tn : dIsi "tuple" .non = some (.bl false) := (if_neg (by intro h; cases h)).trans (congrArg (Option.map D.bl) (by decide +kernel : kitB "NoneType" "tuple" = some false))
@[simp] theorem dIsi_ti : dIsi "tuple" (.int i) = some (.bl false) := (if_neg (by intro h; cases h)).trans (congrArg (Option.map D.bl) (by decide +kernel : kitB "int" "tuple" = some false))
@[simp] theorem dIsi_lt {xs : List D} : dIsi "list" (.tup xs) = some (.bl false) := (if_neg (by intro h; cases h)).trans (congrArg (Option.map D.bl) (by decide +kernel : kitB "tuple" "list" = some false))
@[simp] theorem dIsi_ll {xs : List D} : dIsi "list" (.lst xs) = some (.bl true) := (if_neg (by intro h; cases h)).trans (congrArg (Option.map D.bl) (by decide +kernel : kitB "list" "list" = some true))
@[simp] theorem dIsi_ln : dIsi "list" .non = some (.bl false) := (if_neg (by intro h; cases h)).trans (congrArg (Option.map D.bl) (by decide +kernel : kitB "NoneType" "list" = some false))
@[simp] theorem dIx_l {xs : List D} : dIx (.lst xs) (.int i) = L2.atI xs i := rfl
@[simp] theorem dIx_t {xs : List D} : dIx (.tup xs) (.int i) = L2.atI xs i := rfl
@[simp] theorem atI_map {α β : Type} {f : α → β} {l : List α} : L2.atI (l.map f) i = (L2.atI l i).map f := by
  unfold L2.atI
  rw [List.length_map]
  cases ixN l.length i with
  | none => rfl
  | some n => simp
@[simp] theorem atI_int {l : List Int} (h0 : 0 ≤ i) (h : i < (l.length : Int)) : L2.atI l i = some (l.getD i.toNat 0) := by
  have hj : i.toNat < l.length := by omega
  rw [show i = ((i.toNat : Nat) : Int) by omega, atI_pos, List.getElem?_eq_getElem hj, Int.toNat_natCast, List.getD_eq_getElem?_getD, List.getElem?_eq_getElem hj]
  rfl
@[simp] theorem atI_bool {l : List Bool} (h0 : 0 ≤ i) (h : i < (l.length : Int)) : L2.atI l i = some (l.getD i.toNat false) := by
  have hj : i.toNat < l.length := by omega
  rw [show i = ((i.toNat : Nat) : Int) by omega, atI_pos, List.getElem?_eq_getElem hj, Int.toNat_natCast, List.getD_eq_getElem?_getD, List.getElem?_eq_getElem hj]
  rfl
theorem atI_neg1 {α : Type} {l : List α} {a : α} : L2.atI (l ++ [a]) (-1) = some a := by
  unfold L2.atI ixN
  rw [if_neg (by omega), List.length_append, List.length_singleton, if_pos (by omega)]
  show (some _).bind _ = _
  rw [Option.bind_some]
  have e : (-1 + ((l.length + 1 : Nat) : Int)).toNat = l.length := by omega
  rw [e, List.getElem?_append_right (Nat.le_refl _), Nat.sub_self]
  rfl
@[simp] theorem fz_shc : (fz ∘ T.sh) = id := rfl
@[simp] theorem fz_lst_z {ds : List Int} : fz (.lst (ds.map fun i => T.sh (.int i))) = .lst (ds.map .int) := fz_lst_tZ ds
@[simp] theorem map_fz_z {ds : List Int} : (ds.map fun i => T.sh (.int i)).map fz = ds.map .int := by rw [List.map_map]; rfl
@[simp] theorem fz_ob {C : Addr} {ns : List Str} {ts : List T} : fz (.ob C ns ts) = .ob C ns (ts.map fz) := by rw [fz, fzL_map]
@[simp] theorem fz_dct {ks : List Key} {ts : List T} : fz (.dct ks ts) = .dct ks (ts.map fz) := by rw [fz, fzL_map]
@[simp] theorem co_fz_tZ : (fz ∘ tZ) = D.int := rfl
@[simp] theorem co_fz_sh {α : Type} {f : α → D} : (fz ∘ T.sh ∘ f) = f := rfl
@[simp] theorem co_sh_int : (T.sh ∘ D.int) = tZ := rfl
theorem sh_int_map {ds : List Int} : (ds.map D.int).map T.sh = ds.map tZ := by rw [List.map_map]; rfl
@[simp] theorem dAll_b {l : List Bool} : dAll [.lst (l.map .bl)] = some (.bl (l.all id)) := by
  show (blsD (l.map .bl)).map _ = _
  rw [show blsD (l.map .bl) = some l by induction l with | nil => rfl | cons a l ih => show (blsD (l.map .bl)).map _ = _; rw [ih]; rfl]
  rfl
@[simp] theorem dAny_b {l : List Bool} : dAny [.lst (l.map .bl)] = some (.bl (l.any id)) := by
  show (blsD (l.map .bl)).map _ = _
  rw [show blsD (l.map .bl) = some l by induction l with | nil => rfl | cons a l ih => show (blsD (l.map .bl)).map _ = _; rw [ih]; rfl]
  rfl
@[simp] theorem dSum_i {l : List Int} : dSum [.lst (l.map .int)] = some (.int l.sum) := by
  show (intsD (l.map .int)).map _ = _
  rw [show intsD (l.map .int) = some l by induction l with | nil => rfl | cons a l ih => show (intsD (l.map .int)).map _ = _; rw [ih]; rfl]
  rfl
@[simp] theorem cutD_map {α β : Type} {f : α → β} {l : List α} {lo hi : Option Int} : VS.cutD (l.map f) lo hi = (VS.cutD l lo hi).map f := by
  unfold VS.cutD
  rw [List.length_map, List.map_take, List.map_drop]
/-- forwards: name what a body gives, then reckon at the name's equation -/
theorem ev {α : Type} (a : α) : ∃ r, a = r := ⟨a, rfl⟩
end VS
/-! simp equations of VS16, VS17 -/
namespace VS
open PySem PySem.Spec PyProof.Rows L2
variable {S S1 S2 : Sto} {t u : T} {d x y z : D} {i j : Int} {b c : Bool}
def kSlT (a : Option (T × Sto)) (l h : Sto → Option (Option Int)) : Option (T × Sto) := a.bind fun p => (l p.2).bind fun lo => (h p.2).bind fun hi => match fz p.1 with
  | .tup ds => some (.sh (.tup (VS.cutD ds lo hi)), p.2)
  | _ => none
def kSlT1 (t : D) (l h : Option (Option Int)) (S : Sto) : Option (T × Sto) := l.bind fun lo => h.bind fun hi => match t with
  | .tup ds => some (.sh (.tup (VS.cutD ds lo hi)), S)
  | _ => none
@[simp] theorem q_eSlT {m : ME} {l h : Sto → Option (Option Int)} : eSlT m l h S = kSlT (m S) l h := rfl
@[simp] theorem kSlT_s {l h : Sto → Option (Option Int)} : kSlT (some (t, S)) l h = kSlT1 (fz t) (l S) (h S) S := rfl
@[simp] theorem kSlT1_s {ds : List D} {lo hi : Option Int} : kSlT1 (.tup ds) (some lo) (some hi) S = some (.sh (.tup (VS.cutD ds lo hi)), S) := rfl
def kRevT (a : Option (T × Sto)) : Option (T × Sto) := a.bind fun p => match fz p.1 with
  | .tup ds => some (.sh (.tup ds.reverse), p.2)
  | _ => none
def kRevT1 (d : D) (S : Sto) : Option (T × Sto) := match d with
  | .tup ds => some (.sh (.tup ds.reverse), S)
  | _ => none
@[simp] theorem q_eRevT {m : ME} : eRevT m S = kRevT (m S) := rfl
@[simp] theorem kRevT_s : kRevT (some (t, S)) = kRevT1 (fz t) S := rfl
@[simp] theorem kRevT1_s {ds : List D} : kRevT1 (.tup ds) S = some (.sh (.tup ds.reverse), S) := rfl
@[simp] theorem catT_s {xs ys : List D} (h : xs.length + ys.length ≤ 16777216) : catT (.sh (.tup xs)) (.sh (.tup ys)) = some (.sh (.tup (xs ++ ys))) := by
  show (if xs.length + ys.length ≤ sizeLine then _ else _) = _
  rw [if_pos (by rw [sizeLine_val]; exact h)]
theorem repT_s {ts : List T} {k : Nat} (hs : shAll ts = true) (hk : k < 1000000) (h : ts.length * k ≤ 16777216) : repT (.lst ts) (.sh (.int (k : Nat))) = some (.lst (List.replicate k ts).flatten) := by
  show (if shAll ts = true ∧ -(2 ^ 63) ≤ ((k : Nat) : Int) ∧ ((k : Nat) : Int) < 2 ^ 63 ∧ ts.length * ((k : Nat) : Int).toNat ≤ sizeLine then _ else _) = _
  rw [if_pos ⟨hs, by omega, by omega, by rw [sizeLine_val, Int.toNat_natCast]; exact h⟩, Int.toNat_natCast]
def kSplit (a : Option (T × Sto)) (mb : ME) : Option (T × Sto) := a.bind fun p => (mb p.2).bind fun q => match fz p.1, fz q.1 with
  | .str x, .str y => if (y.length == 0) = false ∧ x.length + 2 ≤ sizeLine then some (.lst ((Txt.split x y).map fun z => .sh (.str z)), q.2) else none
  | _, _ => none
def kSplit1 (t : D) (a : Option (T × Sto)) : Option (T × Sto) := a.bind fun q => match t, fz q.1 with
  | .str x, .str y => if (y.length == 0) = false ∧ x.length + 2 ≤ sizeLine then some (.lst ((Txt.split x y).map fun z => .sh (.str z)), q.2) else none
  | _, _ => none
def kSplit2 (t u : D) (S : Sto) : Option (T × Sto) := match t, u with
  | .str x, .str y => if (y.length == 0) = false ∧ x.length + 2 ≤ sizeLine then some (.lst ((Txt.split x y).map fun z => .sh (.str z)), S) else none
  | _, _ => none
@[simp] theorem q_eSplit {ma mb : ME} : eSplit ma mb S = kSplit (ma S) mb := rfl
@[simp] theorem kSplit_s {mb : ME} : kSplit (some (t, S)) mb = kSplit1 (fz t) (mb S) := rfl
@[simp] theorem kSplit1_s : kSplit1 d (some (t, S)) = kSplit2 d (fz t) S := rfl
theorem kSplit2_s {x y : Str} {ys : List Str} (h : Txt.split x y = ys) (h1 : (y.length == 0) = false) (h2 : x.length ≤ 10000000) : kSplit2 (.str x) (.str y) S = some (.lst (ys.map fun z => .sh (.str z)), S) := by
  subst h
  exact if_pos ⟨h1, by rw [sizeLine_val]; omega⟩
theorem log2_64' {n : Nat} (h : n < 18446744073709551616) : n.log2 < 1920 := by
  rcases Nat.eq_zero_or_pos n with rfl | hp
  · decide +kernel
  · exact Nat.lt_of_lt_of_le ((Nat.log2_lt (k := 64) (Nat.pos_iff_ne_zero.mp hp)).mpr h) (by decide)
theorem dStr_i (h0 : -18446744073709551616 < i) (h1 : i < 18446744073709551616) : dStr [.int i] = some (.str (toString i)) := if_pos (log2_64' (by omega))
@[simp] theorem dStr_s {x : Str} : dStr [.str x] = some (.str x) := rfl
theorem dIntS_s {x : Str} {n : Int} (h : PySem.intText? x = some n) (hl : x.length ≤ 640) : dIntS [.str x] = some (.int n) := by
  show (if x.length ≤ 640 then _ else _) = _
  rw [if_pos hl, h]
  rfl
@[simp] theorem dIsB_b : dIsB (.bl b) (.bl c) = some (.bl (decide (b = c))) := rfl
@[simp] theorem dIsNotB_b : dIsNotB (.bl b) (.bl c) = some (.bl (!decide (b = c))) := rfl
@[simp] theorem dInTab_s {tab : List (Str × D)} {x : Str} : dInTab tab (.str x) = some (.bl (tab.lookup x).isSome) := rfl
@[simp] theorem dNotInTab_s {tab : List (Str × D)} {x : Str} : dNotInTab tab (.str x) = some (.bl (!(tab.lookup x).isSome)) := rfl
@[simp] theorem dIxTab_s {tab : List (Str × D)} {x : Str} : dIxTab tab (.str x) = tab.lookup x := rfl
@[simp] theorem dIsiC_ob {C : Addr} {ns : List Str} {xs : List D} : dIsiC C (.ob C ns xs) = some (.bl true) := if_pos rfl
@[simp] theorem dIsi_ss {x : Str} : dIsi "str" (.str x) = some (.bl true) := (if_neg (by intro h; cases h)).trans (congrArg (Option.map D.bl) (by decide +kernel : kitB "str" "str" = some true))
end VS
/-! simp equations of VS18 .. VS21 -/
namespace VS
open PySem PySem.Spec PyProof.Rows L2
variable {S S1 S2 : Sto} {t u : T} {d x y z : D} {i j : Int} {b c : Bool} {k g : Key} {ks js : List Key} {ds es : List D} {ts us : List T}
/-! ### keys -/
theorem ixK_nil : ixK k [] = none := rfl
theorem ixK_n (h : k ≠ g) : ixK k (g :: ks) = (ixK k ks).map (· + 1) := if_neg h
theorem ixK_0 : ixK k (k :: ks) = some 0 := if_pos rfl
theorem ixK_1 {a : Key} (h : k ≠ a) : ixK k (a :: k :: ks) = some 1 := by rw [ixK_n h, ixK_0]; rfl
theorem ixK_2 {a a2 : Key} (h : k ≠ a) (h2 : k ≠ a2) : ixK k (a :: a2 :: k :: ks) = some 2 := by rw [ixK_n h, ixK_1 h2]; rfl
theorem ixK_no : ∀ {ks : List Key}, k ∉ ks → ixK k ks = none
  | [], _ => rfl
  | g :: r, h => by
    rw [ixK_n fun e => h (by rw [e]; exact List.mem_cons_self), ixK_no fun m => h (List.mem_cons_of_mem _ m)]
    rfl
theorem dGet_dct {nm : Str} {n : Nat} (h : ixK (.inr nm) ks = some n) : dGetK (.dct ks ds) (.str nm) = ds[n]? := by
  show (ixK (.inr nm) ks).bind _ = _
  rw [h]
  rfl
theorem kidK_shd {n : Nat} (h : ixK k ks = some n) (h2 : ds[n]? = some d) : kidK k (.sh (.dct ks ds)) = some (d, .sh (.dct ks ds)) := by
  show ((ixK k ks).bind _).map _ = _
  rw [h, Option.bind_some, h2]
  rfl
theorem kidK_dct {n : Nat} (h : ixK k ks = some n) (h2 : ts[n]? = some t) : kidK k (.dct ks ts) = some (fz t, .dct ks (ts.set n (.sh (fz t)))) := by
  show (ixK k ks).bind _ = _
  rw [h, Option.bind_some, h2]
  rfl
theorem putKT_new (h : ixK k ks = none) (hz : ks.length < 16777216) : putKT k t ks ts = some (.dct (ks ++ [k]) (ts ++ [t])) := by
  unfold putKT
  rw [h]
  exact if_pos (by rw [sizeLine_val]; exact hz)
theorem putKT_old {n : Nat} (h : ixK k ks = some n) (nd : ks.Nodup) : putKT k t ks ts = some (.dct ks (ts.set n t)) := by
  unfold putKT
  rw [h]
  exact if_pos nd
@[simp] theorem dInK_s {nm : Str} : dInK (.str nm) (.dct ks ds) = some (.bl (ixK (.inr nm) ks).isSome) := rfl
@[simp] theorem dNotInK_s {nm : Str} : dNotInK (.str nm) (.dct ks ds) = some (.bl (!(ixK (.inr nm) ks).isSome)) := rfl
/-! ### subscripts -/
def kDK (j : Nat) (o : Option (Option T)) (a : Option D) (S : Sto) : Option (T × Sto) := match o with
  | some (some t) => a.bind fun y => (keyD y).bind fun k => (kidK k t).map fun p => (.sh p.1, S.set j (some p.2))
  | _ => none
def kDK1 (j : Nat) (o : Option (D × T)) (S : Sto) : Option (T × Sto) := o.map fun p => (.sh p.1, uS S j (some p.2))
@[simp] theorem q_eDixK {j : Nat} {mb : MP} : eDixK j mb S = kDK j (gS S j) (mb S) S := rfl
@[simp] theorem kDK_s {j : Nat} {nm : Str} : kDK j (some (some t)) (some (.str nm)) S = kDK1 j (kidK (.inr nm) t) S := rfl
@[simp] theorem kDK1_s {j : Nat} : kDK1 j (some (d, t)) S = some (.sh d, uS S j (some t)) := rfl
def kDV (a : Option (T × Sto)) (mb : MP) : Option (T × Sto) := a.bind fun p => (mb p.2).bind fun y => (keyD y).bind fun k => (kidK k p.1).map fun q => (.sh q.1, p.2)
def kDV1 (t : T) (a : Option D) (S : Sto) : Option (T × Sto) := a.bind fun y => (keyD y).bind fun k => (kidK k t).map fun q => (.sh q.1, S)
def kDV2 (o : Option (D × T)) (S : Sto) : Option (T × Sto) := o.map fun q => (.sh q.1, S)
@[simp] theorem q_eDixV {m : ME} {mb : MP} : eDixV m mb S = kDV (m S) mb := rfl
@[simp] theorem kDV_s {mb : MP} : kDV (some (t, S)) mb = kDV1 t (mb S) S := rfl
@[simp] theorem kDV1_s {nm : Str} : kDV1 t (some (.str nm)) S = kDV2 (kidK (.inr nm) t) S := rfl
@[simp] theorem kDV2_s : kDV2 (some (d, t)) S = some (.sh d, S) := rfl
@[simp] theorem q_eDctN : eDctN S = some (.dct [] [], S) := rfl
def kDS (j : Nat) (a : Option (T × Sto)) (mk : MP) : Option Fl := a.bind fun p => match p.2[j]? with
  | some (some (.dct ks ts)) => (mk p.2).bind fun y => (keyD y).bind fun k => if ks.length ≤ 1000000 then (putKT k p.1 ks ts).map fun t => .nx (p.2.set j (some t)) else none
  | _ => none
def kDS1 (j : Nat) (t : T) (o : Option (Option T)) (a : Option D) (S : Sto) : Option Fl := match o with
  | some (some (.dct ks ts)) => a.bind fun y => (keyD y).bind fun k => if ks.length ≤ 1000000 then (putKT k t ks ts).map fun t => .nx (S.set j (some t)) else none
  | _ => none
def kDS2 (j : Nat) (o : Option T) (S : Sto) : Option Fl := o.map fun t => .nx (uS S j (some t))
@[simp] theorem q_sDSet {j : Nat} {mv : ME} {mk : MP} : sDSet j mv mk S = kDS j (mv S) mk := rfl
@[simp] theorem kDS_s {j : Nat} {mk : MP} : kDS j (some (t, S)) mk = kDS1 j t (gS S j) (mk S) S := rfl
@[simp] theorem kDS1_s {j : Nat} {nm : Str} (h : ks.length ≤ 1000000) : kDS1 j t (some (some (.dct ks ts))) (some (.str nm)) S = kDS2 j (putKT (.inr nm) t ks ts) S := if_pos h
@[simp] theorem kDS2_s {j : Nat} : kDS2 j (some t) S = some (.nx (uS S j (some t))) := rfl
def kDC (a : Option (List T × Sto)) : Option (T × Sto) := a.bind fun p => match p.1 with
  | [t] => (match fz t with
    | .dct ks ds => some (.dct ks (ds.map .sh), p.2)
    | _ => none)
  | _ => none
def kDC1 (d : D) (S : Sto) : Option (T × Sto) := match d with
    | .dct ks ds => some (.dct ks (ds.map .sh), S)
    | _ => none
@[simp] theorem q_eDctC {m : MA} : eDctC m S = kDC (m S) := rfl
@[simp] theorem kDC_s : kDC (some ([t], S)) = kDC1 (fz t) S := rfl
@[simp] theorem kDC1_s : kDC1 (.dct ks ds) S = some (.dct ks (ds.map .sh), S) := rfl
/-! ### built-ins -/
def kCN (g : List D → Option D) (a : Option (List T × Sto)) : Option (T × Sto) := a.bind fun p => sD (g (p.1.map fz)) p.2
@[simp] theorem q_eCN {g : List D → Option D} {m : MA} : eCN g m S = kCN g (m S) := rfl
@[simp] theorem kCN_1 {g : List D → Option D} : kCN g (some ([t], S)) = sD (g [fz t]) S := rfl
@[simp] theorem kCN_2 {g : List D → Option D} : kCN g (some ([t, u], S)) = sD (g [fz t, fz u]) S := rfl
def kSrt (a : Option (List T × Sto)) : Option (T × Sto) := a.bind fun p => match p.1 with
  | [t] => (match fz t with
    | .lst ds => (intsD ds).map fun ns => (.lst ((PySem.W.sortI ns).map fun i => .sh (.int i)), p.2)
    | _ => none)
  | _ => none
def kSrt1 (d : D) (S : Sto) : Option (T × Sto) := match d with
    | .lst ds => (intsD ds).map fun ns => (.lst ((PySem.W.sortI ns).map fun i => .sh (.int i)), S)
    | _ => none
def kSrt2 (o : Option (List Int)) (S : Sto) : Option (T × Sto) := o.map fun ns => (.lst ((PySem.W.sortI ns).map fun i => .sh (.int i)), S)
@[simp] theorem q_eSrt {m : MA} : eSrt m S = kSrt (m S) := rfl
@[simp] theorem kSrt_s : kSrt (some ([t], S)) = kSrt1 (fz t) S := rfl
@[simp] theorem kSrt1_s : kSrt1 (.lst ds) S = kSrt2 (intsD ds) S := rfl
@[simp] theorem kSrt2_s {ns : List Int} : kSrt2 (some ns) S = some (.lst ((PySem.W.sortI ns).map fun i => .sh (.int i)), S) := rfl
theorem intsD_map : ∀ ns : List Int, intsD (ns.map .int) = some ns
  | [] => rfl
  | n :: ns => by
    show (intsD (ns.map .int)).map _ = _
    rw [intsD_map ns]
    rfl
theorem dMaxL_s {ns : List Int} {m : Int} (h : ns.max? = some m) : dMaxL [.lst (ns.map .int)] = some (.int m) := by
  show (intsD (ns.map .int)).bind _ = _
  rw [intsD_map, Option.bind_some, h]
  rfl
theorem dMinL_s {ns : List Int} {m : Int} (h : ns.min? = some m) : dMinL [.lst (ns.map .int)] = some (.int m) := by
  show (intsD (ns.map .int)).bind _ = _
  rw [intsD_map, Option.bind_some, h]
  rfl
def kLR (a : Option (T × Sto)) (mb : ME) : Option (T × Sto) := a.bind fun p => (mb p.2).bind fun q => match fz p.1, fz q.1 with
  | .int i, .int j => if (j - i).toNat ≤ 16777216 then some (.lst ((rngD i (j - i).toNat).map .sh), q.2) else none
  | _, _ => none
def kLR1 (d : D) (a : Option (T × Sto)) : Option (T × Sto) := a.bind fun q => match d, fz q.1 with
  | .int i, .int j => if (j - i).toNat ≤ 16777216 then some (.lst ((rngD i (j - i).toNat).map .sh), q.2) else none
  | _, _ => none
def kLR2 (d e : D) (S : Sto) : Option (T × Sto) := match d, e with
  | .int i, .int j => if (j - i).toNat ≤ 16777216 then some (.lst ((rngD i (j - i).toNat).map .sh), S) else none
  | _, _ => none
@[simp] theorem q_eLRg {ma mb : ME} : eLRg ma mb S = kLR (ma S) mb := rfl
@[simp] theorem kLR_s {mb : ME} : kLR (some (t, S)) mb = kLR1 (fz t) (mb S) := rfl
@[simp] theorem kLR1_s : kLR1 d (some (t, S)) = kLR2 d (fz t) S := rfl
theorem kLR2_s (h : (j - i).toNat ≤ 16777216) : kLR2 (.int i) (.int j) S = some (.lst ((rngD i (j - i).toNat).map .sh), S) := if_pos h
/-! ### walks -/
def kKy (a : Option (T × Sto)) : Option (List D × Sto) := a.bind fun p => match fz p.1 with
  | .dct ks _ => some (ks.map kD, p.2)
  | _ => none
def kKy1 (d : D) (S : Sto) : Option (List D × Sto) := match d with
  | .dct ks _ => some (ks.map kD, S)
  | _ => none
@[simp] theorem q_iKeys {me : ME} : iKeys' me S = kKy (me S) := rfl
@[simp] theorem kKy_s : kKy (some (t, S)) = kKy1 (fz t) S := rfl
@[simp] theorem kKy1_s : kKy1 (.dct ks ds) S = some (ks.map kD, S) := rfl
def kR2L (a : Option (List D)) (S : Sto) : Option (List D × Sto) := a.bind fun ds => match ds with
  | [.int i, .int j] => some (rngD i (j - i).toNat, S)
  | _ => none
@[simp] theorem q_iRng2L {m : Sto → Option (List D)} : iRng2L m S = kR2L (m S) S := rfl
@[simp] theorem kR2L_s : kR2L (some [.int i, .int j]) S = some (rngD i (j - i).toNat, S) := rfl
def kZp (a : Option (List T × Sto)) : Option (List D × Sto) := a.bind fun p => match p.1 with
  | [t, u] => (match fz t, fz u with
    | .lst xs, .lst ys => some ((xs.zip ys).map fun p => .tup [p.1, p.2], p.2)
    | _, _ => none)
  | _ => none
def kZp1 (d e : D) (S : Sto) : Option (List D × Sto) := match d, e with
    | .lst xs, .lst ys => some ((xs.zip ys).map fun p => .tup [p.1, p.2], S)
    | _, _ => none
@[simp] theorem q_iZip {m : MA} : iZip' m S = kZp (m S) := rfl
@[simp] theorem kZp_s : kZp (some ([t, u], S)) = kZp1 (fz t) (fz u) S := rfl
@[simp] theorem kZp1_s : kZp1 (.lst ds) (.lst es) S = some ((ds.zip es).map fun p => .tup [p.1, p.2], S) := rfl
@[simp] theorem q_gLst {n : Nat} {r : List T → Sto → Option Sto} : gLstS n r t S = kGT n r (kidsL t) S := rfl
@[simp] theorem kidsL_l : kidsL (.lst ts) = some ts := rfl
@[simp] theorem kidsL_s : kidsL (.sh (.lst ds)) = some (ds.map .sh) := rfl
/-! ### equality of dicts -/
theorem dEqK_s (h1 : ds.all okV = true) (h2 : es.all okV = true) (h3 : js.length = es.length) : dEqK (.dct ks ds) (.dct js es) = some (.bl (eqDc ks ds js es)) := if_pos (by rw [h1, h2, h3]; simp)
theorem dNeK_s (h1 : ds.all okV = true) (h2 : es.all okV = true) (h3 : js.length = es.length) : dNeK (.dct ks ds) (.dct js es) = some (.bl (!eqDc ks ds js es)) := if_pos (by rw [h1, h2, h3]; simp)
end VS
namespace VS
open PySem PySem.Spec PyProof.Rows L2
/-- a comprehension, element by element -/
theorem lc_map {α : Type} {inj : α → D} {f : α → T} {g : T → Sto → Option Sto} {te : ME} {own : List Nat} {S : Sto} {S' : α → Sto} (h1 : ∀ a, g (.sh (inj a)) S = some (S' a)) (h3 : ∀ a, wipeS (S' a) own = S) :
    ∀ (l : List α) (acc : List T), (∀ a ∈ l, te (S' a) = some (f a, S' a)) → acc.length + l.length ≤ 16777215 → lcGo g qYes te own (l.map inj) S acc = some (acc ++ l.map f, S)
  | [], acc, _, _ => by rw [List.map_nil, List.map_nil, List.append_nil]; rfl
  | a :: l, acc, h2, h => by
    rw [List.length_cons] at h
    have ih := lc_map (f := f) h1 h3 l (acc ++ [f a]) (fun x hx => h2 x (List.mem_cons_of_mem _ hx)) (by rw [List.length_append, List.length_singleton]; omega)
    rw [List.map_cons, lc_step (h1 a) rfl (h2 a List.mem_cons_self) (by rw [sizeLine_val]; omega), h3 a, ih, List.append_assoc]
    rfl
theorem lc_map0 {α : Type} {inj : α → D} {f : α → T} {g : T → Sto → Option Sto} {te : ME} {own : List Nat} {S : Sto} {S' : α → Sto} (l : List α) (h1 : ∀ a, g (.sh (inj a)) S = some (S' a)) (h3 : ∀ a, wipeS (S' a) own = S) (h2 : ∀ a ∈ l, te (S' a) = some (f a, S' a)) (h : l.length ≤ 16777215) : lcGo g qYes te own (l.map inj) S [] = some (l.map f, S) :=
  lc_map h1 h3 l [] h2 (by simpa using h)
/-- a comprehension with a test -/
theorem lc_filt {α : Type} {inj : α → D} {f : α → T} {p : α → Bool} {g : T → Sto → Option Sto} {tt : MT} {te : ME} {own : List Nat} {S : Sto} {S' : α → Sto} (h1 : ∀ a, g (.sh (inj a)) S = some (S' a)) (h3 : ∀ a, wipeS (S' a) own = S) :
    ∀ (l : List α) (acc : List T), (∀ a ∈ l, tt (S' a) = some (p a, S' a)) → (∀ a ∈ l, p a = true → te (S' a) = some (f a, S' a)) → acc.length + l.length ≤ 16777215 → lcGo g tt te own (l.map inj) S acc = some (acc ++ (l.filter p).map f, S)
  | [], acc, _, _, _ => by rw [List.map_nil, List.filter_nil, List.map_nil, List.append_nil]; rfl
  | a :: l, acc, ht, h2, h => by
    rw [List.length_cons] at h
    have e := ht a List.mem_cons_self
    cases hp : p a with
    | false =>
      rw [hp] at e
      have ih := lc_filt (f := f) (p := p) (tt := tt) h1 h3 l acc (fun x hx => ht x (List.mem_cons_of_mem _ hx)) (fun x hx => h2 x (List.mem_cons_of_mem _ hx)) (by omega)
      rw [List.map_cons, lc_skip (h1 a) e, h3 a, ih, List.filter_cons_of_neg (by rw [hp]; decide)]
    | true =>
      rw [hp] at e
      have ih := lc_filt (f := f) (p := p) (tt := tt) h1 h3 l (acc ++ [f a]) (fun x hx => ht x (List.mem_cons_of_mem _ hx)) (fun x hx => h2 x (List.mem_cons_of_mem _ hx)) (by rw [List.length_append, List.length_singleton]; omega)
      rw [List.map_cons, lc_step (h1 a) e (h2 a List.mem_cons_self hp) (by rw [sizeLine_val]; omega), h3 a, ih, List.filter_cons_of_pos hp, List.append_assoc]
      rfl
theorem lc_filt0 {α : Type} {inj : α → D} {f : α → T} {p : α → Bool} {g : T → Sto → Option Sto} {tt : MT} {te : ME} {own : List Nat} {S : Sto} {S' : α → Sto} (l : List α) (h1 : ∀ a, g (.sh (inj a)) S = some (S' a)) (h3 : ∀ a, wipeS (S' a) own = S) (ht : ∀ a ∈ l, tt (S' a) = some (p a, S' a)) (h2 : ∀ a ∈ l, p a = true → te (S' a) = some (f a, S' a)) (h : l.length ≤ 16777215) : lcGo g tt te own (l.map inj) S [] = some ((l.filter p).map f, S) :=
  lc_filt h1 h3 l [] ht h2 (by simpa using h)
theorem rngD_map (lo : Int) (n : Nat) : rngD lo n = (List.range n).map fun (i : Nat) => D.int (lo + (i : Int)) := rfl
/-- a loop that goes on to its end: st is what the loop carries -/
theorem loop_fold {α σ : Type} {inj : α → D} {g : T → Sto → Option Sto} {b : MS} {F : σ → Sto} {step : σ → α → σ} : ∀ (l : List α) (st : σ), (∀ a ∈ l, ∀ st, ∃ S1, g (.sh (inj a)) (F st) = some S1 ∧ b S1 = some (.nx (F (step st a)))) → loopF g b (l.map inj) (F st) = some (.nx (F (l.foldl step st)))
  | [], st, _ => rfl
  | a :: l, st, h => by
    obtain ⟨S1, e1, e2⟩ := h a List.mem_cons_self st
    rw [List.map_cons, loop_nx e1 e2, List.foldl_cons]
    exact loop_fold l _ fun x hx => h x (List.mem_cons_of_mem _ hx)
end VS
namespace VS
open PySem PySem.Spec PyProof.Rows L2
/-- d can be shown: its ints are small, its depth at most k, its text at most n signs -/
structure Sh (d : D) (k n : Nat) : Prop where
  a : (py d).showable = true
  b : (py d).depth ≤ k
  c : (py d).shown.length ≤ n
  p : pureD d = true
theorem Sh.shows {d : D} {k n : Nat} (h : Sh d k n) (hk : k ≤ 40) (hn : n ≤ 10000000) : VS.shows d = true := by
  unfold VS.shows
  rw [h.p, h.a, decide_eq_true (Nat.le_trans h.b hk), decide_eq_true (Nat.le_trans h.c hn)]
  rfl
theorem Sh.mono {d : D} {k n k' n' : Nat} (h : Sh d k n) (hk : k ≤ k') (hn : n ≤ n') : Sh d k' n' := ⟨h.a, Nat.le_trans h.b hk, Nat.le_trans h.c hn, h.p⟩
theorem Sh.int {i : Int} (h : i.natAbs.log2 < 1920) : Sh (.int i) 0 2000 := by
  refine ⟨?_, Nat.le_refl _, ?_, rfl⟩
  · show decide _ = true
    exact decide_eq_true h
  · show (Str.ofString (toString i)).length ≤ 2000
    rw [PySem.ofString_length]
    exact Nat.le_trans (PySem.int_text_length_le (k := 1920) (by decide) h) (by decide)
theorem Sh.int10 {i : Int} {k : Nat} (hk : 0 < k) (hk2 : k ≤ 500) (h : i.natAbs < 10 ^ k) : Sh (.int i) 0 (k + 1) := by
  have hl : i.natAbs.log2 < 1920 := by
    rcases Nat.eq_zero_or_pos i.natAbs with e | e
    · rw [e]; decide +kernel
    · refine (Nat.log2_lt (Nat.pos_iff_ne_zero.mp e)).mpr (Nat.lt_of_lt_of_le h ?_)
      exact Nat.le_trans (Nat.pow_le_pow_right (by decide) hk2) (by decide +kernel)
  refine ⟨?_, Nat.le_refl _, ?_, rfl⟩
  · show decide _ = true
    exact decide_eq_true hl
  · show (Str.ofString (toString i)).length ≤ k + 1
    rw [PySem.ofString_length]
    exact PySem.int_text_length_le10 hk h
theorem pyL_map (ds : List D) : pyL ds = ds.map py := by
  induction ds with
  | nil => rfl
  | cons d ds ih => show py d :: pyL ds = _; rw [ih]; rfl
theorem showAll_of : ∀ {ds : List D} {k n : Nat}, (∀ d ∈ ds, Sh d k n) → PyData.showableAll (pyL ds) = true ∧ PyData.depthAll (pyL ds) ≤ k ∧ ((PyData.shownAll (pyL ds)).map (·.length)).sum ≤ ds.length * n ∧ (PyData.shownAll (pyL ds)).length = ds.length ∧ pureL ds = true
  | [], k, n, _ => ⟨rfl, Nat.zero_le _, by show (0 : Nat) ≤ _; omega, rfl, rfl⟩
  | d :: ds, k, n, h => by
    obtain ⟨a, b, c, e, f⟩ := showAll_of (ds := ds) (k := k) (n := n) fun x hx => h x (List.mem_cons_of_mem _ hx)
    have hd := h d List.mem_cons_self
    refine ⟨?_, ?_, ?_, ?_, ?_⟩
    · show (PyData.showable (py d) && PyData.showableAll (pyL ds)) = true
      rw [hd.a, a]
      rfl
    · show max (PyData.depth (py d)) (PyData.depthAll (pyL ds)) ≤ k
      exact Nat.max_le.mpr ⟨hd.b, b⟩
    · show (PyData.shown (py d)).length + ((PyData.shownAll (pyL ds)).map (·.length)).sum ≤ (ds.length + 1) * n
      have := hd.c
      rw [Nat.add_mul]
      omega
    · show (PyData.shownAll (pyL ds)).length + 1 = ds.length + 1
      rw [e]
    · show (pureD d && pureL ds) = true
      rw [hd.p, f]
      rfl
theorem Sh.lst {ds : List D} {k n : Nat} (h : ∀ d ∈ ds, Sh d k n) : Sh (.lst ds) (k + 1) (ds.length * n + 2 * ds.length + 3) := by
  obtain ⟨a, b, c, e, f⟩ := showAll_of h
  refine ⟨a, ?_, ?_, f⟩
  · show PyData.depthAll (pyL ds) + 1 ≤ k + 1
    omega
  · have := PySem.listText_len_le (PyData.shownAll (pyL ds))
    rw [e] at this
    show (listText (PyData.shownAll (pyL ds))).length ≤ _
    omega
theorem Sh.tup {ds : List D} {k n : Nat} (h : ∀ d ∈ ds, Sh d k n) : Sh (.tup ds) (k + 1) (ds.length * n + 2 * ds.length + 3) := by
  obtain ⟨a, b, c, e, f⟩ := showAll_of h
  refine ⟨a, ?_, ?_, f⟩
  · show PyData.depthAll (pyL ds) + 1 ≤ k + 1
    omega
  · have := PySem.tupleText_len_le (PyData.shownAll (pyL ds))
    rw [e] at this
    show (tupleText (PyData.shownAll (pyL ds))).length ≤ _
    omega
end VS
namespace K23
open PySem PySem.Spec PyProof.Rows L2 VS TL
theorem l_text : ("text " : Str) = tx [116,101,120,116,32] := by decide +kernel
theorem l_proc : ("proc " : Str) = tx [112,114,111,99,32] := by decide +kernel
theorem l_sp : (" " : Str) = tx [32] := by decide +kernel
theorem l_nl : ("\n" : Str) = tx [10] := by decide +kernel
theorem l_0 : ("0" : Str) = tx [48] := by decide +kernel
theorem l_digs : ("0123456789" : Str) = tx [48,49,50,51,52,53,54,55,56,57] := by decide +kernel
theorem l_dead : ("dead" : Str) = tx [100,101,97,100] := by decide +kernel
abbrev DEAD : List Nat := [100,101,97,100]
/-- a token -/
structure Tk where
  w : List Nat
  ns : List Nat
structure TkOk (t : Tk) : Prop where
  n : ∀ n ∈ t.ns, n < 1000000000000
  l : t.ns.length ≤ 7
  wl : t.w.length ≤ 6
  sp : 32 ∉ t.w
  nl : 10 ∉ t.w
  wc : ∀ c ∈ t.w, c < 128
  d : t.w = DEAD → 0 < t.ns.length
  k : t.w ≠ DEAD → tab_COUNTS.lookup (tx t.w) = some (.int (t.ns.length : Nat))
abbrev nD (n : Nat) : D := .int (n : Int)
def tkD (t : Tk) : D := if t.w = DEAD then .tup [.str (tx t.w), .tup (t.ns.map nD)] else .tup (.str (tx t.w) :: t.ns.map nD)
abbrev nT (n : Nat) : Str := tx (numL n)
theorem str_num (n : Nat) : Str.ofString (toString ((n : Nat) : Int)) = nT n := by
  have e := tl_num n
  show Str.ofString (toString ((n : Nat) : Int)) = tx (numL n)
  rw [← e]
def rowL (t : Tk) : List Nat := joinL [32] (t.w :: t.ns.map numL)
theorem txj (y : List Nat) (ls : List (List Nat)) : Txt.join (tx y) (ls.map tx) = tx (joinL y ls) := by
  rw [join_eq]
  have e := tl_join (tx y) (ls.map tx)
  have h1 : tl (tx y) = y := by show (tx y).cps.toList = y; simp [tx]
  have h2 : (ls.map tx).map tl = ls := by
    rw [List.map_map]
    have : tl ∘ tx = id := by funext l; show (tx l).cps.toList = l; simp [tx]
    rw [this, List.map_id]
  rw [h1, h2] at e
  rw [← e]
theorem tl_tx (l : List Nat) : tl (tx l) = l := by show (tx l).cps.toList = l; simp [tx]
theorem split_tx {s : Nat} (hs : s < 256) {ps : List (List Nat)} (hne : ps ≠ []) (hp : ∀ p ∈ ps, s ∉ p) : Txt.split (tx (joinL [s] ps)) (tx [s]) = ps.map tx := by
  rw [← txj]
  refine split_join (S := []) (tl_tx [s]) ?_ (by simpa using hne) ?_
  · simp [tx, hs]
  · intro p h
    obtain ⟨q, h1, rfl⟩ := List.mem_map.mp h
    rw [tl_tx]
    exact hp q h1
theorem joinL_one (S p : List Nat) : joinL S [p] = p := rfl
theorem joinL_cons (S p q : List Nat) (r : List (List Nat)) : joinL S (p :: q :: r) = p ++ (S ++ joinL S (q :: r)) := rfl
/-- a part that is itself joined -/
theorem joinL_mid (S : List Nat) : ∀ (a b c : List (List Nat)), b ≠ [] → joinL S (a ++ joinL S b :: c) = joinL S (a ++ (b ++ c))
  | [], [p], [], _ => rfl
  | [], [p], d :: c, _ => rfl
  | [], p :: q :: r, [], _ => by simp [joinL_one]
  | [], p :: q :: r, d :: c, _ => by
    have ih := joinL_mid S [] (q :: r) (d :: c) (by simp)
    rw [List.nil_append, List.nil_append] at ih ⊢
    rw [List.cons_append] at ih
    rw [joinL_cons, joinL_cons, List.cons_append, List.cons_append, joinL_cons, ← ih, joinL_cons]
    simp [List.append_assoc]
  | [x], [], c, h => absurd rfl h
  | [x], p :: r, c, _ => by
    have ih := joinL_mid S [] (p :: r) c (by simp)
    rw [List.nil_append, List.nil_append, List.cons_append] at ih
    show joinL S (x :: joinL S (p :: r) :: c) = joinL S (x :: p :: (r ++ c))
    rw [joinL_cons, joinL_cons, ih]
  | x :: y :: a, b, c, h => by
    have ih := joinL_mid S (y :: a) b c h
    show joinL S (x :: y :: (a ++ joinL S b :: c)) = joinL S (x :: y :: (a ++ (b ++ c)))
    rw [joinL_cons, joinL_cons]
    exact congrArg (fun z => x ++ (S ++ z)) ih
theorem joinL_len (S : List Nat) : ∀ (ps : List (List Nat)), (joinL S ps).length ≤ (ps.map (·.length)).sum + ps.length * S.length
  | [] => by show 0 ≤ _; omega
  | [p] => by simp [joinL_one]
  | p :: q :: r => by
    have ih := joinL_len S (q :: r)
    rw [joinL_cons, List.map_cons, List.sum_cons, List.length_cons, Nat.add_mul, List.length_append, List.length_append]
    omega
theorem joinL_bd {S : List Nat} {ps : List (List Nat)} {k : Nat} (h : ∀ p ∈ ps, p.length ≤ k) : (joinL S ps).length ≤ ps.length * (k + S.length) := by
  refine Nat.le_trans (joinL_len S ps) ?_
  have : (ps.map (·.length)).sum ≤ ps.length * k := by
    induction ps with
    | nil => simp
    | cons p ps ih =>
      have h1 := h p List.mem_cons_self
      have h2 := ih fun q hq => h q (List.mem_cons_of_mem _ hq)
      rw [List.map_cons, List.sum_cons, List.length_cons, Nat.add_mul]
      omega
  rw [Nat.mul_add]
  omega
theorem joinL_mem {S : List Nat} {c : Nat} : ∀ {ps : List (List Nat)}, c ∈ joinL S ps → c ∈ S ∨ ∃ p ∈ ps, c ∈ p
  | [], h => by cases h
  | [p], h => .inr ⟨p, List.mem_singleton.mpr rfl, h⟩
  | p :: q :: r, h => by
    rw [joinL_cons] at h
    rcases List.mem_append.mp h with h | h
    · exact .inr ⟨p, List.mem_cons_self, h⟩
    · rcases List.mem_append.mp h with h | h
      · exact .inl h
      · rcases joinL_mem h with h | ⟨x, h1, h2⟩
        · exact .inl h
        · exact .inr ⟨x, List.mem_cons_of_mem _ h1, h2⟩
theorem sumlen_le {ps : List (List Nat)} {k : Nat} (h : ∀ p ∈ ps, p.length ≤ k) : (ps.map (·.length)).sum ≤ ps.length * k := by
  induction ps with
  | nil => simp
  | cons p ps ih =>
    have h1 := h p List.mem_cons_self
    have h2 := ih fun q hq => h q (List.mem_cons_of_mem _ hq)
    rw [List.map_cons, List.sum_cons, List.length_cons, Nat.add_mul]
    omega
/-- the joined text, by the model's join -/
theorem joinD_tx {y : List Nat} {ls : List (List Nat)} {k : Nat} (h : ∀ p ∈ ls, p.length ≤ k) (hk : ls.length * (k + y.length) ≤ 10000000) : joinD (.str (tx y)) (.lst (ls.map fun l => .str (tx l))) = some (.str (tx (joinL y ls))) := by
  show (some _).bind _ = _
  rw [Option.bind_some]
  show (strsD (ls.map fun l => D.str (tx l))).bind _ = _
  rw [strsD_map, Option.bind_some, List.map_map, List.length_map]
  have e : ((·.length) ∘ tx : List Nat → Nat) = (·.length) := by funext l; exact tx_len l
  have h2 := sumlen_le h
  rw [Nat.mul_add] at hk
  have e2 : (ls.map ((fun x : Str => x.length) ∘ tx)) = ls.map (·.length) := by
    apply List.map_congr_left
    intro l _
    exact tx_len l
  rw [e2, tx_len, if_pos (by omega), txj]
theorem num_len {n : Nat} (h : n < 1000000000000) : (numL n).length ≤ 12 := numL_len (by decide) h
theorem num_pos (n : Nat) : 0 < (numL n).length := by
  have := numL_ne n
  cases h : numL n with
  | nil => exact absurd h this
  | cons => simp
theorem num_zero : ∀ (n : Nat), (numL n).head? = some 48 → n = 0 := by
  intro n
  induction n using Nat.strongRecOn with
  | _ n ih =>
    intro h
    by_cases c : n < 10
    · rw [numL_lt c] at h
      have : 48 + n = 48 := by simpa using h
      omega
    · rw [numL_step (by omega)] at h
      have hp := num_pos (n / 10)
      have e : (numL (n / 10) ++ [48 + n % 10]).head? = (numL (n / 10)).head? := by
        cases q : numL (n / 10) with
        | nil => rw [q] at hp; simp at hp
        | cons => rfl
      rw [e] at h
      have := ih (n / 10) (by omega) h
      omega
theorem num_mem {n c : Nat} (h : c ∈ numL n) : 48 ≤ c ∧ c ≤ 57 := numL_digits n c h
theorem rowL_split {t : Tk} (h : 32 ∉ t.w) : Txt.split (tx (rowL t)) (tx [32]) = (t.w :: t.ns.map numL).map tx := by
  refine split_tx (by decide) (by simp) fun p hp => ?_
  rcases List.mem_cons.mp hp with rfl | hp
  · exact h
  · obtain ⟨n, _, rfl⟩ := List.mem_map.mp hp
    exact numL_free (by omega)
theorem rowL_len {t : Tk} (ok : TkOk t) : (rowL t).length ≤ 104 := by
  have h := joinL_bd (S := [32]) (ps := t.w :: t.ns.map numL) (k := 12) (by
    intro p hp
    rcases List.mem_cons.mp hp with rfl | hp
    · exact Nat.le_trans ok.wl (by decide)
    · obtain ⟨n, h1, rfl⟩ := List.mem_map.mp hp
      exact num_len (ok.n n h1))
  have h2 := ok.l
  rw [List.length_cons, List.length_map] at h
  have : (t.ns.length + 1) * (12 + [32].length) ≤ 8 * 13 := Nat.mul_le_mul (by omega) (by decide)
  unfold rowL
  omega
theorem rowL_nl {t : Tk} (ok : TkOk t) : 10 ∉ rowL t := by
  intro h
  rcases joinL_mem h with h | ⟨p, h1, h2⟩
  · simp at h
  · rcases List.mem_cons.mp h1 with rfl | h1
    · exact ok.nl h2
    · obtain ⟨n, _, rfl⟩ := List.mem_map.mp h1
      have := num_mem h2
      omega
/-- a line, a name -/
structure LnOk (x : List Nat) : Prop where
  l : x.length ≤ 9
  nl : 10 ∉ x
  c : ∀ c ∈ x, c < 128
def headL (n : Nat) : List Nat := [116,101,120,116,32] ++ numL n
def procL (l : List Nat) : List Nat := [112,114,111,99,32] ++ l
def rowsL (lines : List (List Nat)) (name : List Nat) (ts : List Tk) : List (List Nat) := headL lines.length :: (lines ++ (procL name :: ts.map rowL))
structure PpOk (lines : List (List Nat)) (name : List Nat) (ts : List Tk) : Prop where
  l : ∀ l ∈ lines, LnOk l
  n : LnOk name
  t : ∀ t ∈ ts, TkOk t
  l0 : 0 < lines.length
  l1 : lines.length ≤ 65
  t0 : 0 < ts.length
  t1 : ts.length ≤ 70
theorem rows_len {lines : List (List Nat)} {name : List Nat} {ts : List Tk} (ok : PpOk lines name ts) : ∀ p ∈ rowsL lines name ts, p.length ≤ 104 := by
  intro p hp
  rcases List.mem_cons.mp hp with rfl | hp
  · have := num_len (n := lines.length) (by have := ok.l1; omega)
    show ([116,101,120,116,32] ++ numL lines.length).length ≤ 104
    rw [List.length_append]
    simp
    omega
  · rcases List.mem_append.mp hp with hp | hp
    · exact Nat.le_trans (ok.l p hp).l (by decide)
    · rcases List.mem_cons.mp hp with rfl | hp
      · have := ok.n.l
        show ([112,114,111,99,32] ++ name).length ≤ 104
        rw [List.length_append]
        simp
        omega
      · obtain ⟨t, h1, rfl⟩ := List.mem_map.mp hp
        exact rowL_len (ok.t t h1)
theorem rows_nl {lines : List (List Nat)} {name : List Nat} {ts : List Tk} (ok : PpOk lines name ts) : ∀ p ∈ rowsL lines name ts, 10 ∉ p := by
  intro p hp
  rcases List.mem_cons.mp hp with rfl | hp
  · intro h
    rcases List.mem_append.mp h with h | h
    · simp at h
    · have := num_mem h
      omega
  · rcases List.mem_append.mp hp with hp | hp
    · exact (ok.l p hp).nl
    · rcases List.mem_cons.mp hp with rfl | hp
      · intro h
        rcases List.mem_append.mp h with h | h
        · simp at h
        · exact ok.n.nl h
      · obtain ⟨t, h1, rfl⟩ := List.mem_map.mp hp
        exact rowL_nl (ok.t t h1)
theorem rows_count {lines : List (List Nat)} {name : List Nat} {ts : List Tk} (ok : PpOk lines name ts) : (rowsL lines name ts).length = lines.length + ts.length + 2 := by
  unfold rowsL
  rw [List.length_cons, List.length_append, List.length_cons, List.length_map]
  omega
def paperL (lines : List (List Nat)) (name : List Nat) (ts : List Tk) : List Nat := joinL [10] (rowsL lines name ts)
theorem paper_split {lines : List (List Nat)} {name : List Nat} {ts : List Tk} (ok : PpOk lines name ts) : Txt.split (tx (paperL lines name ts)) (tx [10]) = (rowsL lines name ts).map tx :=
  split_tx (by decide) (by simp [rowsL]) (rows_nl ok)
theorem paper_len {lines : List (List Nat)} {name : List Nat} {ts : List Tk} (ok : PpOk lines name ts) : (paperL lines name ts).length ≤ 20000 := by
  have h := joinL_bd (S := [10]) (rows_len ok)
  have h1 := ok.l1
  have h2 := ok.t1
  rw [rows_count ok] at h
  have : (lines.length + ts.length + 2) * (104 + [10].length) ≤ 137 * 105 := Nat.mul_le_mul (by omega) (by decide)
  unfold paperL
  omega
theorem lines_split {lines : List (List Nat)} (h0 : lines ≠ []) (h : ∀ l ∈ lines, LnOk l) : Txt.split (tx (joinL [10] lines)) (tx [10]) = lines.map tx := split_tx (by decide) h0 fun l hl => (h l hl).nl
theorem lines_len {lines : List (List Nat)} (h1 : lines.length ≤ 65) (h : ∀ l ∈ lines, LnOk l) : (joinL [10] lines).length ≤ 650 := by
  have h2 := joinL_bd (S := [10]) (k := 9) fun l hl => (h l hl).l
  have : lines.length * (9 + [10].length) ≤ 65 * 10 := Nat.mul_le_mul h1 (by decide)
  omega
theorem paper_mid {lines : List (List Nat)} {name : List Nat} {ts : List Tk} (h0 : lines ≠ []) : joinL [10] (headL lines.length :: joinL [10] lines :: procL name :: ts.map rowL) = paperL lines name ts :=
  joinL_mid [10] [headL lines.length] lines (procL name :: ts.map rowL) h0
end K23
namespace K23
open PySem PySem.Spec PyProof.Rows L2 VS TL
theorem cut_tail {α : Type} {x : α} {l : List α} : VS.cutD (x :: l) (some 1) none = l := by
  unfold VS.cutD
  have h1 : HT.sIx (x :: l).length 0 (some 1) = 1 := by
    show (if (1 : Int) < 0 then ((1 : Int) + ((x :: l).length : Nat)).toNat else min (1 : Int).toNat (x :: l).length) = 1
    rw [if_neg (by decide), List.length_cons]
    show min 1 _ = 1
    omega
  have h2 : HT.sIx (x :: l).length (x :: l).length none = (x :: l).length := rfl
  rw [h1, h2]
  simp
theorem beq_tx_t {a b : List Nat} (h : a = b) : ((tx a == tx b) : Bool) = true := by rw [tx_beq]; exact beq_iff_eq.mpr h
theorem beq_tx_f {a b : List Nat} (h : a ≠ b) : ((tx a == tx b) : Bool) = false := by rw [tx_beq]; exact beq_eq_false_iff_ne.mpr h
theorem row_join {t : Tk} (ok : TkOk t) : joinD (.str (tx [32])) (.lst (D.str (tx t.w) :: t.ns.map fun n => D.str (nT n))) = some (.str (tx (rowL t))) := by
  have h := joinD_tx (y := [32]) (ls := t.w :: t.ns.map numL) (k := 12) (by
    intro p hp
    rcases List.mem_cons.mp hp with rfl | hp
    · exact Nat.le_trans ok.wl (by decide)
    · obtain ⟨n, h1, rfl⟩ := List.mem_map.mp hp
      exact num_len (ok.n n h1)) (by
    have := ok.l
    rw [List.length_cons, List.length_map]
    have : (t.ns.length + 1) * (12 + [32].length) ≤ 8 * 13 := Nat.mul_le_mul (by omega) (by decide)
    omega)
  rw [List.map_cons, List.map_map] at h
  exact h
theorem signs_tx (l : List Nat) : VS.signs (tx l) = l.map fun c => D.str (tx [c]) := by
  show (tx l).cps.toList.map _ = _
  rw [show (tx l).cps.toList = l by simp [tx]]
theorem num_int {n : Nat} (h : n < 1000000000000) : PySem.intText? (nT n) = some (n : Int) := by
  have := num_len h
  rw [← str_num]
  exact int_num (by omega)
theorem num_one : numL 0 = [48] := by rw [numL_lt (by decide)]
abbrev rnB : MS := sIf (ofB (pB (p2 dNotIn (pV 1) (pC (.str "0123456789"))))) (sRet (ofP (pC .non))) (sNext)
theorem rn_loop {w : List Nat} : ∀ (l : List Nat), (∀ c ∈ l, 48 ≤ c ∧ c ≤ 57) → ∀ o, ∃ o', loopF (putS 1) rnB (l.map fun c => D.str (tx [c])) [some (tS w), o] = some (.nx [some (tS w), o'])
  | [], _, o => ⟨o, rfl⟩
  | c :: l, h, o => by
    have hc := h c List.mem_cons_self
    obtain ⟨o', e⟩ := rn_loop l (fun x hx => h x (List.mem_cons_of_mem _ hx)) (some (tS [c]))
    refine ⟨o', ?_⟩
    have hm : c ∈ [48,49,50,51,52,53,54,55,56,57] := by
      simp
      omega
    rw [List.map_cons, loop_nx (S1 := [some (tS w), some (tS [c])]) (S2 := [some (tS w), some (tS [c])]) rfl ?_]
    · exact e
    · have hd : dNotIn (.str (tx [c])) (.str (tx [48,49,50,51,52,53,54,55,56,57])) = some (.bl false) := by
        rw [dNotIn_tx, decide_eq_true hm]
        rfl
      unfold rnB
      simp -implicitDefEqProofs (disch := first | omega | (simp <;> omega) | fail) [-dNotIn_tx, l_digs, hd]
theorem read_number_eq {n : Nat} (h : n < 1000000000000) : read_number [tS (numL n)] = some (tI n, [some (tS (numL n))]) := by
  have hl := num_len h
  have hp := num_pos n
  have hlen : dLen [.str (nT n)] = some (.int ((numL n).length : Nat)) := dLen_tx (by omega)
  have h1 : (decide ((1 : Int) ≤ ((numL n).length : Nat)) && decide (((numL n).length : Int) ≤ 12)) = true := by
    rw [decide_eq_true (by omega), decide_eq_true (by omega)]
    rfl
  obtain ⟨o', hlo⟩ := rn_loop (w := numL n) (numL n) (fun c hc => num_mem hc) none
  obtain ⟨c0, r0, hc0⟩ : ∃ c r, numL n = c :: r := by
    cases q : numL n with
    | nil => rw [q] at hp; simp at hp
    | cons c r => exact ⟨c, r, rfl⟩
  have hix : dIx (.str (nT n)) (.int ((0 : Nat) : Int)) = some (.str (tx [c0])) := dIx_tx (by omega) (by rw [hc0]; rfl)
  have hix' : dIx (.str (nT n)) (.int 0) = some (.str (tx [c0])) := hix
  have hin := dIntS_s (num_int h) (by rw [tx_len]; omega)
  have hcs : (nT n).cps.toList = numL n := by simp [tx]
  obtain ⟨r, hr⟩ := ev (read_number [tS (numL n)])
  rw [hr]
  by_cases cz : c0 = 48
  · have hn0 : n = 0 := num_zero n (by rw [hc0, cz]; rfl)
    have e1 : ((tx [c0] == tx [48]) : Bool) = true := beq_tx_t (by rw [cz])
    have e2 : ((nT n == tx [48]) : Bool) = true := beq_tx_t (by rw [hn0, num_one])
    simp -implicitDefEqProofs (disch := first | omega | (simp <;> omega) | fail) [read_number, b_read_number, q_mkFn, l_0, hlen, h1, hix', e1, e2, signs_tx, hlo, hin] at hr
    exact hr.symm
  · have e1 : ((tx [c0] == tx [48]) : Bool) = false := beq_tx_f (fun e => cz (List.cons.inj e).1)
    simp -implicitDefEqProofs (disch := first | omega | (simp <;> omega) | fail) [read_number, b_read_number, q_mkFn, l_0, hlen, h1, hix', e1, signs_tx, hlo, hin] at hr
    exact hr.symm
end K23
namespace K23
open PySem PySem.Spec PyProof.Rows L2 VS TL
theorem sc_nD (ns : List Nat) : (ns.map nD).all sc = true := by
  induction ns with
  | nil => rfl
  | cons n ns ih => show (true && _) = true; rw [Bool.true_and]; exact ih
theorem none_in (ns : List Nat) : dIn .non (.lst (ns.map nD)) = some (.bl false) := by
  have h : (ns.map nD).any (fun d => deq d .non) = false := by
    induction ns with
    | nil => rfl
    | cons n ns ih => show (false || _) = false; rw [Bool.false_or]; exact ih
  unfold dIn
  simp only [items, Option.bind_some, sc, Bool.true_and, sc_nD, if_true, h]
theorem dSl_from {l : List Nat} {a : Nat} (h : l.length ≤ 10000000) (ha : a ≤ l.length) : dSlS (some (a : Int)) none (.str (tx l)) = some (.str (tx (l.drop a))) := by
  show (if lenOk (tx l) = true then _ else _) = _
  rw [if_pos (lenOk_tx h)]
  unfold cutS
  rw [HT.sIx_nat, tx_len, Nat.min_eq_left ha, show (tx l).cps.toList = l by simp]
  show some (D.str (tx ((l.drop a).take (l.length - a)))) = _
  rw [List.take_of_length_le (by rw [List.length_drop]; omega)]
abbrev wsT (t : Tk) : T := .lst (tS t.w :: t.ns.map fun n => tS (numL n))
theorem read_token_eq {t : Tk} (ok : TkOk t) : read_token [tS (rowL t)] = some (.sh (tkD t), [some (tS (rowL t))]) := by
  have hl := ok.l
  have hrl := rowL_len ok
  have hs : ∀ S, kSplit2 (.str (tx (rowL t))) (.str (tx [32])) S = some (wsT t, S) := fun S => by
    rw [kSplit2_s (rowL_split ok.sp) rfl (by rw [tx_len]; omega)]
    simp [Function.comp_def]
  have lc : ∀ w0 : T, lcGo (putS 3) qYes (eCall read_number [some 3] (aMv 3 (aNil))) [3] (t.ns.map fun n => D.str (nT n)) [some (tS (rowL t)), some w0, none, none] [] = some (t.ns.map tI, [some (tS (rowL t)), some w0, none, none]) := fun w0 =>
    lc_map0 (inj := fun n => D.str (nT n)) (f := tI) (S := [some (tS (rowL t)), some w0, none, none]) (S' := fun n => [some (tS (rowL t)), some w0, none, some (tS (numL n))]) t.ns (fun a => rfl) (fun a => rfl) (fun n hn => by
      have h1 := read_number_eq (ok.n n hn)
      simp -implicitDefEqProofs (disch := first | omega | (simp <;> omega) | fail) [h1]) (by omega)
  have hni := none_in t.ns
  obtain ⟨r, hr⟩ := ev (read_token [tS (rowL t)])
  rw [hr]
  unfold tkD
  by_cases c : t.w = DEAD
  · have c1 := ok.d c
    rw [if_pos c]
    have e1 : ((tx t.w == tx DEAD) : Bool) = true := beq_tx_t c
    simp -implicitDefEqProofs (disch := first | omega | (simp <;> omega) | fail) [read_token, b_read_token, q_mkFn, l_sp, l_dead, hs, cut_tail, Function.comp_def, lc, hni, e1, c1] at hr
    rw [c]
    exact hr.symm
  · have c1 := ok.k c
    rw [if_neg c]
    have e1 : ((tx t.w == tx DEAD) : Bool) = false := beq_tx_f c
    simp -implicitDefEqProofs (disch := first | omega | (simp <;> omega) | fail) [read_token, b_read_token, q_mkFn, l_sp, l_dead, hs, cut_tail, Function.comp_def, lc, hni, e1, c1] at hr
    exact hr.symm
theorem read_count_eq {n : Nat} (h0 : 0 < n) (h : n < 1000000000000) : ∃ o, read_count [tS (headL n)] = some (tI n, [o]) := by
  have hl := num_len h
  have h1 := read_number_eq h
  have s1 : dSlS none (some 5) (.str (tx (headL n))) = some (.str (tx [116,101,120,116,32])) := by
    have e := dSl_tx (l := headL n) (a := 0) (b := 5) (by unfold headL; rw [List.length_append]; simp; omega)
    have e2 : dSlS none (some 5) (.str (tx (headL n))) = dSlS (some ((0 : Nat) : Int)) (some ((5 : Nat) : Int)) (.str (tx (headL n))) := rfl
    rw [e2, e]
    rfl
  have s2 : dSlS (some 5) none (.str (tx (headL n))) = some (.str (nT n)) := by
    exact dSl_from (l := headL n) (a := 5) (by unfold headL; rw [List.length_append]; simp; omega) (by unfold headL; rw [List.length_append]; simp)
  have hn : ((n : Int) == 0) = false := beq_eq_false_iff_ne.mpr (by omega)
  obtain ⟨r, hr⟩ := ev (read_count [tS (headL n)])
  rw [hr]
  simp -implicitDefEqProofs (disch := first | omega | (simp <;> omega) | fail) [read_count, b_read_count, q_mkFn, l_text, s1, s2, h1, hn] at hr
  exact ⟨_, hr.symm⟩
end K23
namespace K23
open PySem PySem.Spec PyProof.Rows L2 VS TL
theorem tk_fn : f_law_take = fTake := rfl
/-- the hand, folded -/
def hd (ds : List Int) (j : Nat) : T := hand ds j
theorem take_ex (ds : List Int) (j : Nat) (m : Int) (h : 0 < m) : ∃ i : Nat, (i : Int) < m ∧ f_law_take [hd ds j, .sh (.int m)] = some (tI i, [some (hd ds (j + 1)), some (.sh (.int m))]) := by
  obtain ⟨i, h1, h2⟩ := take_eq (ds := ds) (j := j) (m := m.toNat) (by omega)
  have e : ((m.toNat : Nat) : Int) = m := by omega
  refine ⟨i, by omega, ?_⟩
  rw [tk_fn]
  show fTake [hand ds j, .sh (.int m)] = some (tI i, [some (hand ds (j + 1)), some (.sh (.int m))])
  rw [← e]
  exact h2
noncomputable def tk (ds : List Int) (j : Nat) (m : Int) : Nat := if h : 0 < m then (take_ex ds j m h).choose else 0
theorem tk_lt {ds : List Int} {j : Nat} {m : Int} (h : 0 < m) : (tk ds j m : Int) < m := by
  unfold tk
  rw [dif_pos h]
  exact (take_ex ds j m h).choose_spec.1
theorem take_s {ds : List Int} {j : Nat} {m : Int} (h : 0 < m) : f_law_take [hd ds j, .sh (.int m)] = some (tI (tk ds j m), [some (hd ds (j + 1)), some (.sh (.int m))]) := by
  unfold tk
  rw [dif_pos h]
  exact (take_ex ds j m h).choose_spec.2

abbrev SG : List Nat := [97,98,99,100,101,102,103,104,105,106,107,108,109,110,111,112,113,114,115,116,117,118,119,120,121,122,32,65,66,67,88,89,90,32,48,49,50,51,52,53,54,55,56,57,32,60,62,61,43,45,40,41,91,93,44,58,46,59,95,35,39,32]
theorem l_sg : ("abcdefghijklmnopqrstuvwxyz ABCXYZ 0123456789 <>=+-()[],:.;_#' " : Str) = tx SG := by decide +kernel
theorem l_tr0 : ("" : Str) = tx [] := by decide +kernel
theorem l_tr1 : ("on" : Str) = tx [111,110] := by decide +kernel
theorem l_tr2 : ("over" : Str) = tx [111,118,101,114] := by decide +kernel
theorem l_tr3 : ("text 1" : Str) = tx [116,101,120,116,32,49] := by decide +kernel
theorem l_tr4 : ("proc x" : Str) = tx [112,114,111,99,32,120] := by decide +kernel
theorem l_tr5 : ("dead 0" : Str) = tx [100,101,97,100,32,48] := by decide +kernel
theorem l_tr6 : ("pair 0 1" : Str) = tx [112,97,105,114,32,48,32,49] := by decide +kernel
theorem l_tr7 : ("proc " : Str) = tx [112,114,111,99,32] := by decide +kernel
theorem l_tr8 : (" " : Str) = tx [32] := by decide +kernel
theorem l_tr9 : ("all 0 0" : Str) = tx [97,108,108,32,48,32,48] := by decide +kernel
theorem l_tr10 : ("text 0" : Str) = tx [116,101,120,116,32,48] := by decide +kernel
theorem l_tr11 : ("dead" : Str) = tx [100,101,97,100] := by decide +kernel
abbrev TR : List (List Nat) := [[], [111,110], [111,118,101,114], [116,101,120,116,32,49], [112,114,111,99,32,120], [100,101,97,100,32,48], [112,97,105,114,32,48,32,49], [112,114,111,99,32], [32], [97,108,108,32,48,32,48], [116,101,120,116,32,48], [100,101,97,100]]
abbrev TB : List Nat := [9,126,123,38]
theorem l_tb : ("\t~{&" : Str) = tx TB := by decide +kernel
theorem l_k0 : ("on" : Str) = tx [111,110] := by decide +kernel
theorem l_k1 : ("over" : Str) = tx [111,118,101,114] := by decide +kernel
theorem l_k3 : ("pair" : Str) = tx [112,97,105,114] := by decide +kernel
theorem l_k4 : ("write" : Str) = tx [119,114,105,116,101] := by decide +kernel
theorem l_k5 : ("either" : Str) = tx [101,105,116,104,101,114] := by decide +kernel
theorem l_k6 : ("all" : Str) = tx [97,108,108] := by decide +kernel
theorem l_k7 : ("match" : Str) = tx [109,97,116,99,104] := by decide +kernel
theorem l_k8 : ("sorted" : Str) = tx [115,111,114,116,101,100] := by decide +kernel
theorem l_k9 : ("below" : Str) = tx [98,101,108,111,119] := by decide +kernel
abbrev KD : List (List Nat) := [[111,110], [111,118,101,114], [100,101,97,100], [112,97,105,114], [119,114,105,116,101], [101,105,116,104,101,114], [97,108,108], [109,97,116,99,104], [115,111,114,116,101,100], [98,101,108,111,119]]

theorem tI_of {z : Int} (h : 0 ≤ z) : tI z.toNat = tZ z := by
  show T.sh (D.int ((z.toNat : Nat) : Int)) = _
  rw [Int.toNat_of_nonneg h]
theorem wide_eq {ds : List Int} {j : Nat} {m : Int} (h : 0 < m) : ∃ v : Nat, (v : Int) < m ∧ f_law_wide [hd ds j, .sh (.int m)] = some (tI v, [some (hd ds (j + 1 + 1)), some (.sh (.int m))]) := by
  obtain ⟨a, ha⟩ := ev (tk ds j 100003)
  obtain ⟨b, hb⟩ := ev (tk ds (j + 1) 100003)
  have ha2 := tk_lt (ds := ds) (j := j) (m := 100003) (by omega)
  rw [ha] at ha2
  have hm : 0 ≤ ((a : Int) * 100003 + b) % m := Int.emod_nonneg _ (by omega)
  have hm2 : ((a : Int) * 100003 + b) % m < m := Int.emod_lt_of_pos _ h
  refine ⟨(((a : Int) * 100003 + b) % m).toNat, by omega, ?_⟩
  obtain ⟨r, hr⟩ := ev (f_law_wide [hd ds j, .sh (.int m)])
  rw [hr]
  simp -implicitDefEqProofs (disch := first | omega | (simp <;> omega) | fail) [f_law_wide, b_f_law_wide, q_mkFn, take_s, ha, hb] at hr
  rw [tI_of hm]
  exact hr.symm
theorem number_eq (ds : List Int) (j : Nat) : ∃ (n j' : Nat), n < 1000000000000 ∧ f_law_number [hd ds j] = some (tI n, [some (hd ds j')]) := by
  obtain ⟨a, ha⟩ := ev (tk ds j 9)
  by_cases c : a = 0
  · obtain ⟨b, hb⟩ := ev (tk ds (j + 1) 2)
    have hb2 := tk_lt (ds := ds) (j := j + 1) (m := 2) (by omega)
    rw [hb] at hb2
    have c' : ((a : Int) == 0) = true := beq_iff_eq.mpr (by omega)
    refine ⟨999999999999 - b, j + 1 + 1, by omega, ?_⟩
    obtain ⟨r, hr⟩ := ev (f_law_number [hd ds j])
    rw [hr]
    simp -implicitDefEqProofs (disch := first | omega | (simp <;> omega) | fail) [f_law_number, b_f_law_number, q_mkFn, take_s, ha, hb, c'] at hr
    have ez : tI (999999999999 - b) = tZ (999999999999 - (b : Int)) := by
      show T.sh (D.int ((999999999999 - b : Nat) : Int)) = _
      rw [show (((999999999999 - b : Nat)) : Int) = 999999999999 - (b : Int) by omega]
    rw [ez]
    exact hr.symm
  · have c' : ((a : Int) == 0) = false := beq_eq_false_iff_ne.mpr (by omega)
    obtain ⟨b, hb⟩ := ev (tk ds (j + 1) 4)
    have hb2 := tk_lt (ds := ds) (j := j + 1) (m := 4) (by omega)
    rw [hb] at hb2
    obtain ⟨u, hu0, hu1, hu⟩ : ∃ u : Int, 0 < u ∧ u ≤ 1000000000 ∧ L2.atI [tZ 10, tZ 1000, tZ 1000000, tZ 1000000000] (b : Int) = some (tZ u) := by
      rcases (by omega : b = 0 ∨ b = 1 ∨ b = 2 ∨ b = 3) with rfl | rfl | rfl | rfl
      · exact ⟨10, by omega, by omega, rfl⟩
      · exact ⟨1000, by omega, by omega, rfl⟩
      · exact ⟨1000000, by omega, by omega, rfl⟩
      · exact ⟨1000000000, by omega, by omega, rfl⟩
    obtain ⟨v, hv1, hv⟩ := wide_eq (ds := ds) (j := j + 1 + 1) hu0
    obtain ⟨d, hd'⟩ := ev (tk ds (j + 1 + 1 + 1 + 1) 4)
    have hd2 := tk_lt (ds := ds) (j := j + 1 + 1 + 1 + 1) (m := 4) (by omega)
    rw [hd'] at hd2
    obtain ⟨x, hx0, hx1, hx⟩ : ∃ x : Int, 0 < x ∧ x ≤ 999 ∧ L2.atI [tZ 1, tZ 1, tZ 1, tZ 999] (d : Int) = some (tZ x) := by
      rcases (by omega : d = 0 ∨ d = 1 ∨ d = 2 ∨ d = 3) with rfl | rfl | rfl | rfl
      · exact ⟨1, by omega, by omega, rfl⟩
      · exact ⟨1, by omega, by omega, rfl⟩
      · exact ⟨1, by omega, by omega, rfl⟩
      · exact ⟨999, by omega, by omega, rfl⟩
    have hm1 : (v : Int) * x < 1000000000000 := by
      have h1 : (v : Int) * x ≤ 1000000000 * 999 := Int.mul_le_mul (by omega) hx1 (by omega) (by omega)
      omega
    have hm0 : 0 ≤ (v : Int) * x := Int.mul_nonneg (by omega) (by omega)
    refine ⟨((v : Int) * x).toNat, j + 1 + 1 + 1 + 1 + 1, by omega, ?_⟩
    obtain ⟨r, hr⟩ := ev (f_law_number [hd ds j])
    rw [hr]
    simp -implicitDefEqProofs (disch := first | omega | (simp <;> omega) | fail) [f_law_number, b_f_law_number, q_mkFn, take_s, ha, c', hb, hu, hv, hd', hx] at hr
    rw [tI_of hm0]
    exact hr.symm
end K23
namespace K23
open PySem PySem.Spec PyProof.Rows L2 VS TL
theorem dAdd_tx {a b : List Nat} (h : a.length + b.length ≤ 10000000) : dAdd (.str (tx a)) (.str (tx b)) = some (.str (tx (a ++ b))) := by
  show (if (tx a).length + (tx b).length ≤ sizeLine then _ else _) = _
  rw [if_pos (by rw [tx_len, tx_len, sizeLine_val]; omega), tx_app]
theorem addT_tx {a b : List Nat} (h : a.length + b.length ≤ 10000000) : addT (tS a) (tS b) = some (tS (a ++ b)) := by
  show (dAdd (.str (tx a)) (.str (tx b))).map T.sh = _
  rw [dAdd_tx h]
  rfl
theorem SG_ok : ∀ c ∈ SG, c < 128 ∧ c ≠ 10 := by decide
theorem TB_ok : ∀ c ∈ TB, c < 128 ∧ c ≠ 10 := by decide
theorem SG_len : SG.length = 62 := by decide
theorem TR_ok : ∀ l ∈ TR, l.length ≤ 9 ∧ ∀ c ∈ l, c < 128 ∧ c ≠ 10 := by decide
abbrev lnB : MS := (sAsg (e2T addT (eVar 3) (eIxN 1 (eCall f_law_take [some 0, none] (aMv 0 (aCons (ofP (pCall dLen (paCons (pV 1) ((fun _ => some []))))) (aNil)))))) (putS 3))
theorem ln_loop {ds : List Int} {tr : T} : ∀ (l : List D) (j : Nat) (acc : List Nat) (o : Option T), acc.length + l.length ≤ 9 → (∀ c ∈ acc, c < 128 ∧ c ≠ 10) → ∃ (j' : Nat) (acc' : List Nat) (o' : Option T), acc'.length = acc.length + l.length ∧ (∀ c ∈ acc', c < 128 ∧ c ≠ 10) ∧
    loopF (putS 4) lnB l [some (hd ds j), some (tS SG), some tr, some (tS acc), o] = some (.nx [some (hd ds j'), some (tS SG), some tr, some (tS acc'), o'])
  | [], j, acc, o, _, hc => ⟨j, acc, o, rfl, hc, rfl⟩
  | d :: l, j, acc, o, h, hc => by
    rw [List.length_cons] at h
    obtain ⟨i, hi⟩ := ev (tk ds j 62)
    have hi2 := tk_lt (ds := ds) (j := j) (m := 62) (by omega)
    rw [hi] at hi2
    have hlt : i < SG.length := by rw [SG_len]; omega
    have hk : kid (tS SG) (i : Nat) = some (tS [SG[i]]) := kid_tx (by rw [SG_len]; omega) (List.getElem?_eq_getElem hlt)
    obtain ⟨c, hcc⟩ := ev SG[i]
    have hcm : c ∈ SG := by rw [← hcc]; exact List.getElem_mem hlt
    rw [hcc] at hk
    have hlen : dLen [.str (tx SG)] = some (.int 62) := by rw [dLen_tx (by rw [SG_len]; omega), SG_len]; rfl
    have ha := addT_tx (a := acc) (b := [c]) (by simp; omega)
    obtain ⟨j', acc', o', h1, h2, h3⟩ := ln_loop (ds := ds) (tr := tr) l (j + 1) (acc ++ [c]) (some (.sh d)) (by simp; omega) (by
      intro x hx
      rcases List.mem_append.mp hx with hx | hx
      · exact hc x hx
      · rw [List.mem_singleton.mp hx]
        exact SG_ok c hcm)
    refine ⟨j', acc', o', by rw [h1, List.length_append, List.length_singleton, List.length_cons]; omega, h2, ?_⟩
    rw [loop_nx (S1 := [some (hd ds j), some (tS SG), some tr, some (tS acc), some (.sh d)]) (S2 := [some (hd ds (j + 1)), some (tS SG), some tr, some (tS (acc ++ [c])), some (.sh d)]) rfl ?_]
    · exact h3
    · unfold lnB
      simp -implicitDefEqProofs (disch := first | omega | (simp <;> omega) | fail) [hlen, take_s, hi, hk, ha]
theorem line_eq (ds : List Int) (j : Nat) : ∃ (l : List Nat) (j' : Nat), LnOk l ∧ f_law_line [hd ds j] = some (tS l, [some (hd ds j')]) := by
  obtain ⟨a, ha⟩ := ev (tk ds j 3)
  by_cases c : a = 0
  · have c' : ((a : Int) == 0) = true := beq_iff_eq.mpr (by omega)
    obtain ⟨b, hb⟩ := ev (tk ds (j + 1) 12)
    have hb2 := tk_lt (ds := ds) (j := j + 1) (m := 12) (by omega)
    rw [hb] at hb2
    have hlt : b < TR.length := by show b < 12; omega
    have hx : L2.atI (TR.map tS) (b : Nat) = some (tS TR[b]) := by rw [atI_pos, List.getElem?_map, List.getElem?_eq_getElem hlt]; rfl
    obtain ⟨l, hl⟩ := ev TR[b]
    have hm : l ∈ TR := by rw [← hl]; exact List.getElem_mem hlt
    rw [hl] at hx
    obtain ⟨k1, k2⟩ := TR_ok l hm
    refine ⟨l, j + 1 + 1, ⟨k1, fun z => (k2 10 z).2 rfl, fun x hx => (k2 x hx).1⟩, ?_⟩
    have hx' : L2.atI [tS [], tS [111,110], tS [111,118,101,114], tS [116,101,120,116,32,49], tS [112,114,111,99,32,120], tS [100,101,97,100,32,48], tS [112,97,105,114,32,48,32,49], tS [112,114,111,99,32], tS [32], tS [97,108,108,32,48,32,48], tS [116,101,120,116,32,48], tS [100,101,97,100]] (b : Nat) = some (tS l) := hx
    obtain ⟨r, hr⟩ := ev (f_law_line [hd ds j])
    rw [hr]
    simp -implicitDefEqProofs (disch := first | omega | (simp <;> omega) | fail) [f_law_line, b_f_law_line, q_mkFn, l_sg, l_tr0, l_tr1, l_tr2, l_tr3, l_tr4, l_tr5, l_tr6, l_tr7, l_tr8, l_tr9, l_tr10, l_tr11, take_s, ha, c', hb, hx'] at hr
    exact hr.symm
  · have c' : ((a : Int) == 0) = false := beq_eq_false_iff_ne.mpr (by omega)
    obtain ⟨n, hn⟩ := ev (tk ds (j + 1) 9)
    have hn2 := tk_lt (ds := ds) (j := j + 1) (m := 9) (by omega)
    rw [hn] at hn2
    obtain ⟨tr, htr⟩ := ev (T.lst (TR.map tS))
    obtain ⟨j', acc, o', h1, h2, h3⟩ := ln_loop (ds := ds) (tr := T.lst (TR.map tS)) (rngD 0 n) (j + 1 + 1) [] none (by unfold rngD; simp; omega) (by simp)
    have hal : acc.length ≤ 8 := by
      rw [h1]
      unfold rngD
      simp
      omega
    have h3' : loopF (putS 4) lnB (rngD 0 n) [some (hd ds (j + 1 + 1)), some (tS SG), some (.lst [tS [], tS [111,110], tS [111,118,101,114], tS [116,101,120,116,32,49], tS [112,114,111,99,32,120], tS [100,101,97,100,32,48], tS [112,97,105,114,32,48,32,49], tS [112,114,111,99,32], tS [32], tS [97,108,108,32,48,32,48], tS [116,101,120,116,32,48], tS [100,101,97,100]]), some (tS []), none] = some (.nx [some (hd ds j'), some (tS SG), some tr, some (tS acc), o']) := by rw [← htr]; exact h3
    obtain ⟨e, he⟩ := ev (tk ds j' 5)
    by_cases ce : e = 0
    · have ce' : ((e : Int) == 0) = true := beq_iff_eq.mpr (by omega)
      obtain ⟨q, hq⟩ := ev (tk ds (j' + 1) 4)
      have hq2 := tk_lt (ds := ds) (j := j' + 1) (m := 4) (by omega)
      rw [hq] at hq2
      have hlt : q < TB.length := by show q < 4; omega
      have hk : kid (tS TB) (q : Nat) = some (tS [TB[q]]) := kid_tx (by decide) (List.getElem?_eq_getElem hlt)
      obtain ⟨x, hx⟩ := ev TB[q]
      have hxm : x ∈ TB := by rw [← hx]; exact List.getElem_mem hlt
      rw [hx] at hk
      have had := addT_tx (a := acc) (b := [x]) (by simp; omega)
      refine ⟨acc ++ [x], j' + 1 + 1, ⟨by simp; omega, ?_, ?_⟩, ?_⟩
      · intro z
        rcases List.mem_append.mp z with z | z
        · exact (h2 10 z).2 rfl
        · exact (TB_ok x hxm).2 (List.mem_singleton.mp z).symm
      · intro y z
        rcases List.mem_append.mp z with z | z
        · exact (h2 y z).1
        · rw [List.mem_singleton.mp z]
          exact (TB_ok x hxm).1
      · obtain ⟨r, hr⟩ := ev (f_law_line [hd ds j])
        rw [hr]
        simp -implicitDefEqProofs (disch := first | omega | (simp <;> omega) | fail) [f_law_line, b_f_law_line, q_mkFn, l_sg, l_tb, l_tr0, l_tr1, l_tr2, l_tr3, l_tr4, l_tr5, l_tr6, l_tr7, l_tr8, l_tr9, l_tr10, l_tr11, take_s, ha, c', hn, h3', he, ce', hq, hk, had] at hr
        exact hr.symm
    · have ce' : ((e : Int) == 0) = false := beq_eq_false_iff_ne.mpr (by omega)
      refine ⟨acc, j' + 1, ⟨by omega, fun z => (h2 10 z).2 rfl, fun y z => (h2 y z).1⟩, ?_⟩
      obtain ⟨r, hr⟩ := ev (f_law_line [hd ds j])
      rw [hr]
      simp -implicitDefEqProofs (disch := first | omega | (simp <;> omega) | fail) [f_law_line, b_f_law_line, q_mkFn, l_sg, l_tb, l_tr0, l_tr1, l_tr2, l_tr3, l_tr4, l_tr5, l_tr6, l_tr7, l_tr8, l_tr9, l_tr10, l_tr11, take_s, ha, c', hn, h3', he, ce'] at hr
      exact hr.symm
end K23
namespace K23
open PySem PySem.Spec PyProof.Rows L2 VS TL
theorem dIn3 {w a b c : List Nat} : dIn (.str (tx w)) (.lst [.str (tx a), .str (tx b), .str (tx c)]) = some (.bl (a == w || (b == w || c == w))) := by
  unfold dIn
  simp only [items, Option.bind_some, sc, Bool.true_and, List.all_cons, List.all_nil, Bool.and_true, if_true, List.any_cons, List.any_nil, deq_str, tx_beq, Bool.or_false]
theorem dIn2 {w a b : List Nat} : dIn (.str (tx w)) (.lst [.str (tx a), .str (tx b)]) = some (.bl (a == w || b == w)) := by
  unfold dIn
  simp only [items, Option.bind_some, sc, Bool.true_and, List.all_cons, List.all_nil, Bool.and_true, if_true, List.any_cons, List.any_nil, deq_str, tx_beq, Bool.or_false]
theorem nm_lc {ds : List Int} {a : T} {b : Option T} : ∀ (l : List D) (j : Nat) (acc : List T), acc.length + l.length ≤ 100 → ∃ (ns : List Nat) (j' : Nat), ns.length = l.length ∧ (∀ n ∈ ns, n < 1000000000000) ∧
    lcGo (putS 3) qYes (eCall f_law_number [some 0] (aMv 0 (aNil))) [3] l [some (hd ds j), some a, b, none] acc = some (acc ++ ns.map tI, [some (hd ds j'), some a, b, none])
  | [], j, acc, _ => ⟨[], j, rfl, by simp, by rw [List.map_nil, List.append_nil]; rfl⟩
  | d :: l, j, acc, h => by
    rw [List.length_cons] at h
    obtain ⟨n, j1, hn, e⟩ := number_eq ds j
    obtain ⟨ns, j', h1, h2, h3⟩ := nm_lc (ds := ds) (a := a) (b := b) l j1 (acc ++ [tI n]) (by simp; omega)
    refine ⟨n :: ns, j', by simp [h1], ?_, ?_⟩
    · intro x hx
      rcases List.mem_cons.mp hx with rfl | hx
      · exact hn
      · exact h2 x hx
    · have e1 : eCall f_law_number [some 0] (aMv 0 (aNil)) [some (hd ds j), some a, b, some (.sh d)] = some (tI n, [some (hd ds j1), some a, b, some (.sh d)]) := by simp -implicitDefEqProofs (disch := first | omega | (simp <;> omega) | fail) [e]
      rw [lc_step (S1 := [some (hd ds j), some a, b, some (.sh d)]) rfl rfl e1 (by rw [sizeLine_val]; omega)]
      show lcGo _ _ _ _ l [some (hd ds j1), some a, b, none] _ = _
      rw [h3, List.append_assoc]
      rfl
theorem KD_ne : ∀ l ∈ KD, l.length ≤ 6 ∧ 32 ∉ l ∧ 10 ∉ l ∧ ∀ c ∈ l, c < 128 := by decide
theorem tk_ok {w : List Nat} {ns : List Nat} (hw : w ∈ KD) (hn : ∀ n ∈ ns, n < 1000000000000) (hl : ns.length ≤ 7) (hd : w = DEAD → 0 < ns.length) (hk : w ≠ DEAD → tab_COUNTS.lookup (tx w) = some (.int (ns.length : Nat))) : TkOk ⟨w, ns⟩ := by
  obtain ⟨h1, h2, h3, h4⟩ := KD_ne w hw
  exact ⟨hn, hl, h1, h2, h3, h4, hd, hk⟩

theorem lk0 : tab_COUNTS.lookup (tx [111,110]) = some (.int 0) := by
  simp [tab_COUNTS, l_k0, l_k1, l_k3, l_k4, l_k5, l_k6, l_k7, l_k8, l_k9, List.lookup]
theorem lk1 : tab_COUNTS.lookup (tx [111,118,101,114]) = some (.int 0) := by
  simp [tab_COUNTS, l_k0, l_k1, l_k3, l_k4, l_k5, l_k6, l_k7, l_k8, l_k9, List.lookup]
theorem lk3 : tab_COUNTS.lookup (tx [112,97,105,114]) = some (.int 2) := by
  simp [tab_COUNTS, l_k0, l_k1, l_k3, l_k4, l_k5, l_k6, l_k7, l_k8, l_k9, List.lookup]
theorem lk4 : tab_COUNTS.lookup (tx [119,114,105,116,101]) = some (.int 1) := by
  simp [tab_COUNTS, l_k0, l_k1, l_k3, l_k4, l_k5, l_k6, l_k7, l_k8, l_k9, List.lookup]
theorem lk5 : tab_COUNTS.lookup (tx [101,105,116,104,101,114]) = some (.int 1) := by
  simp [tab_COUNTS, l_k0, l_k1, l_k3, l_k4, l_k5, l_k6, l_k7, l_k8, l_k9, List.lookup]
theorem lk6 : tab_COUNTS.lookup (tx [97,108,108]) = some (.int 2) := by
  simp [tab_COUNTS, l_k0, l_k1, l_k3, l_k4, l_k5, l_k6, l_k7, l_k8, l_k9, List.lookup]
theorem lk7 : tab_COUNTS.lookup (tx [109,97,116,99,104]) = some (.int 2) := by
  simp [tab_COUNTS, l_k0, l_k1, l_k3, l_k4, l_k5, l_k6, l_k7, l_k8, l_k9, List.lookup]
theorem lk8 : tab_COUNTS.lookup (tx [115,111,114,116,101,100]) = some (.int 3) := by
  simp [tab_COUNTS, l_k0, l_k1, l_k3, l_k4, l_k5, l_k6, l_k7, l_k8, l_k9, List.lookup]
theorem lk9 : tab_COUNTS.lookup (tx [98,101,108,111,119]) = some (.int 3) := by
  simp [tab_COUNTS, l_k0, l_k1, l_k3, l_k4, l_k5, l_k6, l_k7, l_k8, l_k9, List.lookup]
theorem token_eq (ds : List Int) (j : Nat) : ∃ (t : Tk) (j' : Nat), TkOk t ∧ f_law_token [hd ds j] = some (.sh (tkD t), [some (hd ds j')]) := by
  obtain ⟨i, hi⟩ := ev (tk ds j 10)
  have hi2 := tk_lt (ds := ds) (j := j) (m := 10) (by omega)
  rw [hi] at hi2
  obtain ⟨r, hr⟩ := ev (f_law_token [hd ds j])
  rw [hr]
  rcases (by omega : i = 0 ∨ i = 1 ∨ i = 2 ∨ i = 3 ∨ i = 4 ∨ i = 5 ∨ i = 6 ∨ i = 7 ∨ i = 8 ∨ i = 9) with rfl | rfl | rfl | rfl | rfl | rfl | rfl | rfl | rfl | rfl
  · refine ⟨⟨[111,110], []⟩, j + 1, tk_ok (by decide) (by simp) (by simp) (by decide) (fun _ => lk0), ?_⟩
    simp -implicitDefEqProofs (disch := first | omega | (simp <;> omega) | fail) [f_law_token, b_f_law_token, q_mkFn, l_k0, l_k1, l_dead, l_k3, l_k4, l_k5, l_k6, l_k7, l_k8, l_k9, take_s, hi] at hr
    exact hr.symm
  · refine ⟨⟨[111,118,101,114], []⟩, j + 1, tk_ok (by decide) (by simp) (by simp) (by decide) (fun _ => lk1), ?_⟩
    simp -implicitDefEqProofs (disch := first | omega | (simp <;> omega) | fail) [f_law_token, b_f_law_token, q_mkFn, l_k0, l_k1, l_dead, l_k3, l_k4, l_k5, l_k6, l_k7, l_k8, l_k9, take_s, hi] at hr
    exact hr.symm
  · obtain ⟨a, ha⟩ := ev (tk ds (j + 1) 3)
    have ha2 := tk_lt (ds := ds) (j := j + 1) (m := 3) (by omega)
    rw [ha] at ha2
    obtain ⟨b, hb⟩ := ev (tk ds (j + 1 + 1) 4)
    have hb2 := tk_lt (ds := ds) (j := j + 1 + 1) (m := 4) (by omega)
    rw [hb] at hb2
    have hab : (a : Int) * b ≤ 2 * 3 := Int.mul_le_mul (by omega) (by omega) (by omega) (by omega)
    have hab0 : (0 : Int) ≤ (a : Int) * b := Int.mul_nonneg (by omega) (by omega)
    obtain ⟨p, hp⟩ := ev ((a : Int) * b)
    rw [hp] at hab hab0
    obtain ⟨ns, j', h1, h2, h3⟩ := nm_lc (ds := ds) (a := tS DEAD) (b := none) (rngD 0 (1 + p).toNat) (j + 1 + 1 + 1) [] (by unfold rngD; simp; omega)
    have hl : ns.length = (1 + p).toNat := by rw [h1]; unfold rngD; simp
    rw [List.nil_append] at h3
    refine ⟨⟨[100,101,97,100], ns⟩, j', tk_ok (by decide) h2 (by omega) (fun _ => by omega) (fun z => absurd rfl z), ?_⟩
    simp -implicitDefEqProofs (disch := first | omega | (simp <;> omega) | fail) [f_law_token, b_f_law_token, q_mkFn, l_k0, l_k1, l_dead, l_k3, l_k4, l_k5, l_k6, l_k7, l_k8, l_k9, take_s, hi, ha, hb, hp, h3, Function.comp_def] at hr
    unfold tkD
    rw [if_pos rfl]
    exact hr.symm
  · obtain ⟨ns, j', h1, h2, h3⟩ := nm_lc (ds := ds) (a := tS [112,97,105,114]) (b := some (tZ 2)) (rngD 0 2) (j + 1) [] (by unfold rngD; simp)
    have hl : ns.length = 2 := by rw [h1]; rfl
    rw [List.nil_append] at h3
    refine ⟨⟨[112,97,105,114], ns⟩, j', tk_ok (by decide) h2 (by omega) (fun z => absurd z (by decide)) (fun _ => by rw [hl]; exact lk3), ?_⟩
    simp -implicitDefEqProofs (disch := first | omega | (simp <;> omega) | fail) [f_law_token, b_f_law_token, q_mkFn, l_k0, l_k1, l_dead, l_k3, l_k4, l_k5, l_k6, l_k7, l_k8, l_k9, take_s, hi, h3, dIn3, dIn2, hl, Function.comp_def] at hr
    unfold tkD
    rw [if_neg (by show ¬ ([112,97,105,114] = DEAD); decide)]
    exact hr.symm
  · obtain ⟨ns, j', h1, h2, h3⟩ := nm_lc (ds := ds) (a := tS [119,114,105,116,101]) (b := some (tZ 1)) (rngD 0 1) (j + 1) [] (by unfold rngD; simp)
    have hl : ns.length = 1 := by rw [h1]; rfl
    rw [List.nil_append] at h3
    refine ⟨⟨[119,114,105,116,101], ns⟩, j', tk_ok (by decide) h2 (by omega) (fun z => absurd z (by decide)) (fun _ => by rw [hl]; exact lk4), ?_⟩
    simp -implicitDefEqProofs (disch := first | omega | (simp <;> omega) | fail) [f_law_token, b_f_law_token, q_mkFn, l_k0, l_k1, l_dead, l_k3, l_k4, l_k5, l_k6, l_k7, l_k8, l_k9, take_s, hi, h3, dIn3, dIn2, hl, Function.comp_def] at hr
    unfold tkD
    rw [if_neg (by show ¬ ([119,114,105,116,101] = DEAD); decide)]
    exact hr.symm
  · obtain ⟨ns, j', h1, h2, h3⟩ := nm_lc (ds := ds) (a := tS [101,105,116,104,101,114]) (b := some (tZ 1)) (rngD 0 1) (j + 1) [] (by unfold rngD; simp)
    have hl : ns.length = 1 := by rw [h1]; rfl
    rw [List.nil_append] at h3
    refine ⟨⟨[101,105,116,104,101,114], ns⟩, j', tk_ok (by decide) h2 (by omega) (fun z => absurd z (by decide)) (fun _ => by rw [hl]; exact lk5), ?_⟩
    simp -implicitDefEqProofs (disch := first | omega | (simp <;> omega) | fail) [f_law_token, b_f_law_token, q_mkFn, l_k0, l_k1, l_dead, l_k3, l_k4, l_k5, l_k6, l_k7, l_k8, l_k9, take_s, hi, h3, dIn3, dIn2, hl, Function.comp_def] at hr
    unfold tkD
    rw [if_neg (by show ¬ ([101,105,116,104,101,114] = DEAD); decide)]
    exact hr.symm
  · obtain ⟨ns, j', h1, h2, h3⟩ := nm_lc (ds := ds) (a := tS [97,108,108]) (b := some (tZ 2)) (rngD 0 2) (j + 1) [] (by unfold rngD; simp)
    have hl : ns.length = 2 := by rw [h1]; rfl
    rw [List.nil_append] at h3
    refine ⟨⟨[97,108,108], ns⟩, j', tk_ok (by decide) h2 (by omega) (fun z => absurd z (by decide)) (fun _ => by rw [hl]; exact lk6), ?_⟩
    simp -implicitDefEqProofs (disch := first | omega | (simp <;> omega) | fail) [f_law_token, b_f_law_token, q_mkFn, l_k0, l_k1, l_dead, l_k3, l_k4, l_k5, l_k6, l_k7, l_k8, l_k9, take_s, hi, h3, dIn3, dIn2, hl, Function.comp_def] at hr
    unfold tkD
    rw [if_neg (by show ¬ ([97,108,108] = DEAD); decide)]
    exact hr.symm
  · obtain ⟨ns, j', h1, h2, h3⟩ := nm_lc (ds := ds) (a := tS [109,97,116,99,104]) (b := some (tZ 2)) (rngD 0 2) (j + 1) [] (by unfold rngD; simp)
    have hl : ns.length = 2 := by rw [h1]; rfl
    rw [List.nil_append] at h3
    refine ⟨⟨[109,97,116,99,104], ns⟩, j', tk_ok (by decide) h2 (by omega) (fun z => absurd z (by decide)) (fun _ => by rw [hl]; exact lk7), ?_⟩
    simp -implicitDefEqProofs (disch := first | omega | (simp <;> omega) | fail) [f_law_token, b_f_law_token, q_mkFn, l_k0, l_k1, l_dead, l_k3, l_k4, l_k5, l_k6, l_k7, l_k8, l_k9, take_s, hi, h3, dIn3, dIn2, hl, Function.comp_def] at hr
    unfold tkD
    rw [if_neg (by show ¬ ([109,97,116,99,104] = DEAD); decide)]
    exact hr.symm
  · obtain ⟨ns, j', h1, h2, h3⟩ := nm_lc (ds := ds) (a := tS [115,111,114,116,101,100]) (b := some (tZ 3)) (rngD 0 3) (j + 1) [] (by unfold rngD; simp)
    have hl : ns.length = 3 := by rw [h1]; rfl
    rw [List.nil_append] at h3
    refine ⟨⟨[115,111,114,116,101,100], ns⟩, j', tk_ok (by decide) h2 (by omega) (fun z => absurd z (by decide)) (fun _ => by rw [hl]; exact lk8), ?_⟩
    simp -implicitDefEqProofs (disch := first | omega | (simp <;> omega) | fail) [f_law_token, b_f_law_token, q_mkFn, l_k0, l_k1, l_dead, l_k3, l_k4, l_k5, l_k6, l_k7, l_k8, l_k9, take_s, hi, h3, dIn3, dIn2, hl, Function.comp_def] at hr
    unfold tkD
    rw [if_neg (by show ¬ ([115,111,114,116,101,100] = DEAD); decide)]
    exact hr.symm
  · obtain ⟨ns, j', h1, h2, h3⟩ := nm_lc (ds := ds) (a := tS [98,101,108,111,119]) (b := some (tZ 3)) (rngD 0 3) (j + 1) [] (by unfold rngD; simp)
    have hl : ns.length = 3 := by rw [h1]; rfl
    rw [List.nil_append] at h3
    refine ⟨⟨[98,101,108,111,119], ns⟩, j', tk_ok (by decide) h2 (by omega) (fun z => absurd z (by decide)) (fun _ => by rw [hl]; exact lk9), ?_⟩
    simp -implicitDefEqProofs (disch := first | omega | (simp <;> omega) | fail) [f_law_token, b_f_law_token, q_mkFn, l_k0, l_k1, l_dead, l_k3, l_k4, l_k5, l_k6, l_k7, l_k8, l_k9, take_s, hi, h3, dIn3, dIn2, hl, Function.comp_def] at hr
    unfold tkD
    rw [if_neg (by show ¬ ([98,101,108,111,119] = DEAD); decide)]
    exact hr.symm
end K23
namespace K23
open PySem PySem.Spec PyProof.Rows L2 VS TL
theorem ls_lc {ds : List Int} {a : T} {b : Option T} : ∀ (l : List D) (j : Nat) (acc : List T), acc.length + l.length ≤ 100 → ∃ (ls : List (List Nat)) (j' : Nat), ls.length = l.length ∧ (∀ x ∈ ls, LnOk x) ∧
    lcGo (putS 3) qYes (eCall f_law_line [some 0] (aMv 0 (aNil))) [3] l [some (hd ds j), some a, b, none] acc = some (acc ++ ls.map tS, [some (hd ds j'), some a, b, none])
  | [], j, acc, _ => ⟨[], j, rfl, by simp, by rw [List.map_nil, List.append_nil]; rfl⟩
  | d :: l, j, acc, h => by
    rw [List.length_cons] at h
    obtain ⟨n, j1, hn, e⟩ := line_eq ds j
    obtain ⟨ns, j', h1, h2, h3⟩ := ls_lc (ds := ds) (a := a) (b := b) l j1 (acc ++ [tS n]) (by simp; omega)
    refine ⟨n :: ns, j', by simp [h1], ?_, ?_⟩
    · intro x hx
      rcases List.mem_cons.mp hx with rfl | hx
      · exact hn
      · exact h2 x hx
    · have e1 : eCall f_law_line [some 0] (aMv 0 (aNil)) [some (hd ds j), some a, b, some (.sh d)] = some (tS n, [some (hd ds j1), some a, b, some (.sh d)]) := by simp -implicitDefEqProofs (disch := first | omega | (simp <;> omega) | fail) [e]
      rw [lc_step (S1 := [some (hd ds j), some a, b, some (.sh d)]) rfl rfl e1 (by rw [sizeLine_val]; omega)]
      show lcGo _ _ _ _ l [some (hd ds j1), some a, b, none] _ = _
      rw [h3, List.append_assoc]
      rfl
theorem tks_lc {ds : List Int} {b : Option T} : ∀ (l : List D) (j : Nat) (acc : List T), acc.length + l.length ≤ 100 → ∃ (ts : List Tk) (j' : Nat), ts.length = l.length ∧ (∀ x ∈ ts, TkOk x) ∧
    lcGo (putS 2) qYes (eCall f_law_token [some 0] (aMv 0 (aNil))) [2] l [some (hd ds j), b, none] acc = some (acc ++ ts.map fun t => T.sh (tkD t), [some (hd ds j'), b, none])
  | [], j, acc, _ => ⟨[], j, rfl, by simp, by rw [List.map_nil, List.append_nil]; rfl⟩
  | d :: l, j, acc, h => by
    rw [List.length_cons] at h
    obtain ⟨n, j1, hn, e⟩ := token_eq ds j
    obtain ⟨ns, j', h1, h2, h3⟩ := tks_lc (ds := ds) (b := b) l j1 (acc ++ [T.sh (tkD n)]) (by simp; omega)
    refine ⟨n :: ns, j', by simp [h1], ?_, ?_⟩
    · intro x hx
      rcases List.mem_cons.mp hx with rfl | hx
      · exact hn
      · exact h2 x hx
    · have e1 : eCall f_law_token [some 0] (aMv 0 (aNil)) [some (hd ds j), b, some (.sh d)] = some (.sh (tkD n), [some (hd ds j1), b, some (.sh d)]) := by simp -implicitDefEqProofs (disch := first | omega | (simp <;> omega) | fail) [e]
      rw [lc_step (S1 := [some (hd ds j), b, some (.sh d)]) rfl rfl e1 (by rw [sizeLine_val]; omega)]
      show lcGo _ _ _ _ l [some (hd ds j1), b, none] _ = _
      rw [h3, List.append_assoc]
      rfl
/-- the last part of _law_lines: many lines out of the short ones -/
theorem lines_end {h0 : T} {sh : List (List Nat)} {m : Nat} (hs : 0 < sh.length) (hm : m ≤ 65) : ∃ ls : List (List Nat), ls.length = m ∧ (∀ x ∈ ls, x ∈ sh) ∧
    lcGo (putS 3) qYes (ofP (p2 dIx (pV 2) (p2 dMod (pV 3) (pCall dLen (paCons (pV 2) ((fun _ => some []))))))) [3] (rngD 0 m) [some h0, some (tI m), some (.lst (sh.map tS)), none] [] = some (ls.map tS, [some h0, some (tI m), some (.lst (sh.map tS)), none]) := by
  refine ⟨(List.range m).map fun k => sh.getD (k % sh.length) [], by simp, ?_, ?_⟩
  · intro x hx
    obtain ⟨k, _, rfl⟩ := List.mem_map.mp hx
    have hk : k % sh.length < sh.length := Nat.mod_lt _ hs
    rw [List.getD_eq_getElem?_getD, List.getElem?_eq_getElem hk]
    exact List.getElem_mem hk
  · rw [rngD_map, List.map_map]
    refine lc_map0 (S' := fun k => [some h0, some (tI m), some (.lst (sh.map tS)), some (tZ (0 + (k : Int)))]) (f := tS ∘ fun k => sh.getD (k % sh.length) []) (List.range m) (fun a => rfl) (fun a => rfl) (fun k _ => ?_) (by simp; omega)
    have hk : k % sh.length < sh.length := Nat.mod_lt _ hs
    have hx : L2.atI (sh.map fun l => D.str (tx l)) ((k : Int) % (sh.length : Nat)) = some (.str (tx (sh.getD (k % sh.length) []))) := by
      rw [show (k : Int) % ((sh.length : Nat) : Int) = ((k % sh.length : Nat) : Int) by omega, atI_pos, List.getElem?_map, List.getElem?_eq_getElem hk, List.getD_eq_getElem?_getD, List.getElem?_eq_getElem hk]
      rfl
    obtain ⟨z, hz⟩ := ev (sh.getD (k % sh.length) [])
    rw [hz] at hx
    show _ = some (tS (sh.getD (k % sh.length) []), _)
    rw [hz]
    simp -implicitDefEqProofs (disch := first | omega | (simp <;> omega) | fail) [Function.comp_def, hx]
theorem lines_eq (ds : List Int) (j : Nat) : ∃ (ls : List (List Nat)) (j' : Nat), (∀ x ∈ ls, LnOk x) ∧ 0 < ls.length ∧ ls.length ≤ 65 ∧ f_law_lines [hd ds j] = some (.lst (ls.map tS), [some (hd ds j')]) := by
  obtain ⟨a, ha⟩ := ev (tk ds j 5)
  have ha2 := tk_lt (ds := ds) (j := j) (m := 5) (by omega)
  rw [ha] at ha2
  obtain ⟨b, hb⟩ := ev (tk ds (j + 1) 6)
  by_cases c : b = 0
  · have c' : ((b : Int) == 0) = true := beq_iff_eq.mpr (by omega)
    obtain ⟨e, he⟩ := ev (tk ds (j + 1 + 1) 60)
    have he2 := tk_lt (ds := ds) (j := j + 1 + 1) (m := 60) (by omega)
    rw [he] at he2
    obtain ⟨sh, j', h1, h2, h3⟩ := ls_lc (ds := ds) (a := tZ (6 + (e : Int))) (b := none) (rngD 0 5) (j + 1 + 1 + 1) [] (by unfold rngD; simp)
    have hl : sh.length = 5 := by rw [h1]; rfl
    obtain ⟨ls, g1, g2, g3⟩ := lines_end (h0 := hd ds j') (sh := sh) (m := 6 + e) (by omega) (by omega)
    refine ⟨ls, j', fun x hx => h2 x (g2 x hx), by omega, by omega, ?_⟩
    have em : (6 : Int) + (e : Int) = ((6 + e : Nat) : Int) := by omega
    have c2 : ((5 : Int) < 6 + (e : Int)) = True := by simp; omega
    have e3 : (6 + (e : Int)).toNat = 6 + e := by omega
    rw [List.nil_append] at h3
    rw [show tI (6 + e) = tZ (6 + (e : Int)) by rw [em]] at g3
    obtain ⟨r, hr⟩ := ev (f_law_lines [hd ds j])
    rw [hr]
    simp -implicitDefEqProofs (disch := first | omega | (simp <;> omega) | fail) [f_law_lines, b_f_law_lines, q_mkFn, take_s, ha, hb, c', he, c2, h3, e3, g3] at hr
    exact hr.symm
  · have c' : ((b : Int) == 0) = false := beq_eq_false_iff_ne.mpr (by omega)
    obtain ⟨sh, j', h1, h2, h3⟩ := ls_lc (ds := ds) (a := tZ (1 + (a : Int))) (b := none) (rngD 0 (1 + a)) (j + 1 + 1) [] (by unfold rngD; simp; omega)
    have hl : sh.length = 1 + a := by rw [h1]; unfold rngD; simp
    obtain ⟨ls, g1, g2, g3⟩ := lines_end (h0 := hd ds j') (sh := sh) (m := 1 + a) (by omega) (by omega)
    refine ⟨ls, j', fun x hx => h2 x (g2 x hx), by omega, by omega, ?_⟩
    have em : (1 : Int) + (a : Int) = ((1 + a : Nat) : Int) := by omega
    have c2 : ((5 : Int) < 1 + (a : Int)) = False := by simp; omega
    have e3 : (1 + (a : Int)).toNat = 1 + a := by omega
    rw [List.nil_append] at h3
    rw [show tI (1 + a) = tZ (1 + (a : Int)) by rw [em]] at g3
    obtain ⟨r, hr⟩ := ev (f_law_lines [hd ds j])
    rw [hr]
    simp -implicitDefEqProofs (disch := first | omega | (simp <;> omega) | fail) [f_law_lines, b_f_law_lines, q_mkFn, take_s, ha, hb, c', c2, h3, e3, g3] at hr
    exact hr.symm
theorem tokens_eq (ds : List Int) (j : Nat) : ∃ (ts : List Tk) (j' : Nat), (∀ x ∈ ts, TkOk x) ∧ 0 < ts.length ∧ ts.length ≤ 70 ∧ f_law_tokens [hd ds j] = some (.sh (.tup (ts.map tkD)), [some (hd ds j')]) := by
  obtain ⟨a, ha⟩ := ev (tk ds j 7)
  have ha2 := tk_lt (ds := ds) (j := j) (m := 7) (by omega)
  rw [ha] at ha2
  obtain ⟨ts, j1, h1, h2, h3⟩ := tks_lc (ds := ds) (b := none) (rngD 0 (1 + (a : Int)).toNat) (j + 1) [] (by unfold rngD; simp; omega)
  have hl : ts.length = 1 + a := by rw [h1]; unfold rngD; simp; omega
  rw [List.nil_append] at h3
  obtain ⟨b, hb⟩ := ev (tk ds j1 6)
  by_cases c : b = 0
  · have c' : ((b : Int) == 0) = true := beq_iff_eq.mpr (by omega)
    obtain ⟨e, he⟩ := ev (tk ds (j1 + 1) 9)
    have he2 := tk_lt (ds := ds) (j := j1 + 1) (m := 9) (by omega)
    rw [he] at he2
    have hlen : (List.replicate (2 + e) ts).flatten.length = (2 + e) * ts.length := by rw [List.length_flatten, List.map_replicate, List.sum_replicate_nat]
    have hb1 : (2 + e) * ts.length ≤ 10 * 7 := Nat.mul_le_mul (by omega) (by omega)
    have hb0 : 0 < (2 + e) * ts.length := Nat.mul_pos (by omega) (by omega)
    refine ⟨(List.replicate (2 + e) ts).flatten, j1 + 1 + 1, ?_, by omega, by omega, ?_⟩
    · intro x hx
      obtain ⟨l, hl1, hl2⟩ := List.mem_flatten.mp hx
      rw [(List.mem_replicate.mp hl1).2] at hl2
      exact h2 x hl2
    · have hsa : shAll (ts.map fun t => T.sh (tkD t)) = true := by
        clear h1 h2 h3 hl hlen hb1 hb0
        induction ts with
        | nil => rfl
        | cons t ts ih => exact ih
      have hrep := repT_s (k := 2 + e) hsa (by omega) (by
        rw [List.length_map]
        have : ts.length * (2 + e) ≤ 7 * 10 := Nat.mul_le_mul (by omega) (by omega)
        omega)
      rw [show T.sh (.int ((2 + e : Nat) : Int)) = T.sh (.int (2 + (e : Int))) by rw [show (((2 + e : Nat)) : Int) = 2 + (e : Int) by omega], show (List.replicate (2 + e) (ts.map fun t => T.sh (tkD t))).flatten = (List.replicate (2 + e) ts).flatten.map fun t => T.sh (tkD t) by rw [List.map_flatten, List.map_replicate]] at hrep
      obtain ⟨us, hus⟩ := ev ((List.replicate (2 + e) ts).flatten)
      rw [hus] at hrep hlen
      rw [hus]
      obtain ⟨r, hr⟩ := ev (f_law_tokens [hd ds j])
      rw [hr]
      simp -implicitDefEqProofs (disch := first | omega | (simp <;> omega) | fail) [f_law_tokens, b_f_law_tokens, q_mkFn, take_s, ha, h3, hb, c', he, hrep, Function.comp_def] at hr
      exact hr.symm
  · have c' : ((b : Int) == 0) = false := beq_eq_false_iff_ne.mpr (by omega)
    refine ⟨ts, j1 + 1, h2, by omega, by omega, ?_⟩
    obtain ⟨r, hr⟩ := ev (f_law_tokens [hd ds j])
    rw [hr]
    simp -implicitDefEqProofs (disch := first | omega | (simp <;> omega) | fail) [f_law_tokens, b_f_law_tokens, q_mkFn, take_s, ha, h3, hb, c', Function.comp_def] at hr
    exact hr.symm
end K23
namespace K23
open PySem PySem.Spec PyProof.Rows L2 VS TL
theorem dStr_n {n : Nat} (h : n < 1000000000000) : dStr [.int (n : Int)] = some (.str (nT n)) := by
  rw [dStr_i (by omega) (by omega)]
  exact congrArg (fun z => some (D.str z)) (str_num n)
abbrev PN : List Str := ["text", "name", "tokens"]
abbrev ppT (C : Addr) (a b : List Nat) (xs : List D) : T := .ob C PN [tS a, tS b, .sh (.tup xs)]
theorem init_eq {C : Addr} {a b : List Nat} {xs : List D} : Paper___init__ C [.ob C [] [], tS a, tS b, .sh (.tup xs)] = some (tN, [some (ppT C a b xs), some (tS a), some (tS b), some (.sh (.tup xs))]) := by
  obtain ⟨r, hr⟩ := ev (Paper___init__ C [.ob C [] [], tS a, tS b, .sh (.tup xs)])
  rw [hr]
  simp -implicitDefEqProofs (disch := first | omega | (simp <;> omega) | fail) [Paper___init__, b_Paper___init__, q_mkFn] at hr
  exact hr.symm
abbrev lnsD (lines : List (List Nat)) : D := .lst (lines.map fun l => .str (tx l))
abbrev rwB : MS := sSeq (sAsg (eSlT (eVar 4) (oPart (some (pC (.int 1)))) (oPart none)) (putS 5)) (sSeq (sIf (ofB (pB (p2 dEq (p2 dIx (pV 4) (pC (.int 0))) (pC (.str "dead"))))) (sAsg (eIxN 4 (ofP (pC (.int 1)))) (putS 5)) (sNext)) (sApp 3 (e2M joinD (ofP (pC (.str " "))) (e2T addT (eLst (aCons (ofP (p2 dIx (pV 4) (pC (.int 0)))) (aNil))) (eLc (iSeq' (eVar 5)) (putS 6) (qYes) (ofP (pCall dStr (paCons (pV 6) ((fun _ => some []))))) [6])))))
theorem rw_step {lt nt tt : T} {t : Tk} {acc : List T} {o4 o5 : Option T} (ok : TkOk t) (hl : acc.length ≤ 1000) : ∃ o5', rwB [some lt, some nt, some tt, some (.lst acc), some (.sh (tkD t)), o5, none] = some (.nx [some lt, some nt, some tt, some (.lst (acc ++ [tS (rowL t)])), some (.sh (tkD t)), o5', none]) := by
  have hl := ok.l
  have hj := row_join ok
  have lc : ∀ d, lcGo (putS 6) qYes (ofP (pCall dStr (paCons (pV 6) ((fun _ => some []))))) [6] (t.ns.map nD) [some lt, some nt, some tt, some (.lst acc), some (.sh d), some (.sh (.tup (t.ns.map nD))), none] [] = some (t.ns.map (fun n => tS (numL n)), [some lt, some nt, some tt, some (.lst acc), some (.sh d), some (.sh (.tup (t.ns.map nD))), none]) := fun d =>
    lc_map0 (S' := fun n => [some lt, some nt, some tt, some (.lst acc), some (.sh d), some (.sh (.tup (t.ns.map nD))), some (tI n)]) t.ns (fun a => rfl) (fun a => rfl) (fun n hn => by
      have h2 := dStr_n (ok.n n hn)
      simp -implicitDefEqProofs (disch := first | omega | (simp <;> omega) | fail) [h2]) (by omega)
  by_cases c : t.w = DEAD
  · unfold tkD
    rw [if_pos c]
    obtain ⟨r, hr⟩ := ev (rwB [some lt, some nt, some tt, some (.lst acc), some (.sh (.tup [.str (tx t.w), .tup (t.ns.map nD)])), o5, none])
    rw [hr]
    unfold rwB at hr
    simp -implicitDefEqProofs (disch := first | omega | (simp <;> omega) | fail) [l_dead, l_sp, beq_tx_t c, cut_tail, lc, Function.comp_def, hj] at hr
    exact ⟨_, hr.symm⟩
  · unfold tkD
    rw [if_neg c]
    obtain ⟨r, hr⟩ := ev (rwB [some lt, some nt, some tt, some (.lst acc), some (.sh (.tup (.str (tx t.w) :: t.ns.map nD))), o5, none])
    rw [hr]
    unfold rwB at hr
    simp -implicitDefEqProofs (disch := first | omega | (simp <;> omega) | fail) [l_dead, l_sp, beq_tx_f c, cut_tail, lc, Function.comp_def, hj] at hr
    exact ⟨_, hr.symm⟩
theorem rw_loop {lt nt tt : T} : ∀ (ts : List Tk) (acc : List T) (o4 o5 : Option T), (∀ t ∈ ts, TkOk t) → acc.length + ts.length ≤ 1000 → ∃ o4' o5', loopF (putS 4) rwB (ts.map tkD) [some lt, some nt, some tt, some (.lst acc), o4, o5, none] = some (.nx [some lt, some nt, some tt, some (.lst (acc ++ ts.map fun t => tS (rowL t))), o4', o5', none])
  | [], acc, o4, o5, _, _ => ⟨o4, o5, by rw [List.map_nil, List.map_nil, List.append_nil]; rfl⟩
  | t :: ts, acc, o4, o5, ok, h => by
    rw [List.length_cons] at h
    obtain ⟨o5', e⟩ := rw_step (lt := lt) (nt := nt) (tt := tt) (acc := acc) (o4 := o4) (o5 := o5) (ok t List.mem_cons_self) (by omega)
    obtain ⟨p4, p5, e2⟩ := rw_loop (lt := lt) (nt := nt) (tt := tt) ts (acc ++ [tS (rowL t)]) (some (.sh (tkD t))) o5' (fun x hx => ok x (List.mem_cons_of_mem _ hx)) (by simp; omega)
    refine ⟨p4, p5, ?_⟩
    rw [List.map_cons, loop_nx (S1 := [some lt, some nt, some tt, some (.lst acc), some (.sh (tkD t)), o5, none]) rfl e, e2, List.append_assoc]
    rfl
theorem rows_eq {lines : List (List Nat)} {name : List Nat} {ts : List Tk} (ok : PpOk lines name ts) : f_law_rows [.sh (lnsD lines), tS name, .sh (.tup (ts.map tkD))] = some (.lst ((rowsL lines name ts).map tS), [some (.sh (lnsD lines)), some (tS name), some (.sh (.tup (ts.map tkD)))]) := by
  have h1 := ok.l1
  have h2 := ok.t1
  have h3 := ok.n.l
  have hn := dStr_n (n := lines.length) (by omega)
  have hnl := num_len (n := lines.length) (by omega)
  have ha := dAdd_tx (a := [116,101,120,116,32]) (b := numL lines.length) (by simp; omega)
  have hb := dAdd_tx (a := [112,114,111,99,32]) (b := name) (by simp; omega)
  obtain ⟨o4, o5, e⟩ := rw_loop (lt := .sh (lnsD lines)) (nt := tS name) (tt := .sh (.tup (ts.map tkD))) ts ((headL lines.length :: (lines ++ [procL name])).map tS) none none ok.t (by simp; omega)
  have e' : loopF (putS 4) rwB (ts.map tkD) [some (.sh (lnsD lines)), some (tS name), some (.sh (.tup (ts.map tkD))), some (.lst (tS ([116,101,120,116,32] ++ numL lines.length) :: (lines.map tS ++ [tS ([112,114,111,99,32] ++ name)]))), none, none, none] = some (.nx [some (.sh (lnsD lines)), some (tS name), some (.sh (.tup (ts.map tkD))), some (.lst ((rowsL lines name ts).map tS)), o4, o5, none]) := by
    have q : ((headL lines.length :: (lines ++ [procL name])).map tS) = tS ([116,101,120,116,32] ++ numL lines.length) :: (lines.map tS ++ [tS ([112,114,111,99,32] ++ name)]) := by
      rw [List.map_cons, List.map_append]
      rfl
    rw [q] at e
    rw [e, ← q]
    congr 6
    unfold rowsL
    simp [Function.comp_def]
  obtain ⟨r, hr⟩ := ev (f_law_rows [.sh (lnsD lines), tS name, .sh (.tup (ts.map tkD))])
  rw [hr]
  generalize hq1 : [116,101,120,116,32] ++ numL lines.length = q1 at ha e'
  generalize hq2 : [112,114,111,99,32] ++ name = q2 at hb e'
  simp -implicitDefEqProofs (disch := first | omega | (simp <;> omega) | fail) [f_law_rows, b_f_law_rows, q_mkFn, l_text, l_proc, hn, ha, hb, Function.comp_def, e'] at hr
  exact hr.symm
end K23
namespace K23
open PySem PySem.Spec PyProof.Rows L2 VS TL
abbrev sD' (l : List Nat) : D := .str (tx l)
abbrev rpB : MS := sSeq (sAsg (eCall read_token [none] (aCons (ofP (p2 dIx (pV 1) (pV 4))) (aNil))) (putS 5)) (sSeq (sIf (ofB (pB (p2 dIsN (pV 5) (pC .non)))) (sNever) (sNext)) (sApp 3 (eVar 5)))
theorem atI_app {α : Type} {a b : List α} {k : Nat} {x : α} (h : b[k]? = some x) (n : Nat) (e : n = a.length + k) : L2.atI (a ++ b) (n : Int) = some x := by
  rw [e, atI_pos, List.getElem?_append_right (by omega), show a.length + k - a.length = k by omega]
  exact h
theorem rows_at {lines : List (List Nat)} {name : List Nat} {pre suf : List Tk} {t : Tk} : L2.atI ((rowsL lines name (pre ++ t :: suf)).map sD') (((lines.length + 2 + pre.length : Nat)) : Int) = some (sD' (rowL t)) := by
  have e : (rowsL lines name (pre ++ t :: suf)).map sD' = ((headL lines.length :: (lines ++ (procL name :: pre.map rowL))).map sD') ++ (sD' (rowL t) :: (suf.map rowL).map sD') := by
    unfold rowsL
    simp
  rw [e]
  refine atI_app (k := 0) rfl _ ?_
  simp
  omega
theorem rows_proc {lines : List (List Nat)} {name : List Nat} {ts : List Tk} : L2.atI ((rowsL lines name ts).map sD') ((lines.length : Int) + 1) = some (sD' (procL name)) := by
  have e : (rowsL lines name ts).map sD' = ((headL lines.length :: lines).map sD') ++ (sD' (procL name) :: (ts.map rowL).map sD') := by
    unfold rowsL
    simp
  rw [e]
  exact atI_app (k := 0) rfl (lines.length + 1) (by simp)
theorem rows_lines {lines : List (List Nat)} {name : List Nat} {ts : List Tk} : VS.cutD ((rowsL lines name ts).map sD') (some 1) (some ((lines.length : Int) + 1)) = lines.map sD' := by
  have e : (rowsL lines name ts).map sD' = sD' (headL lines.length) :: (lines.map sD' ++ ((procL name :: ts.map rowL).map sD')) := by
    unfold rowsL
    simp
  rw [e]
  have ln : (sD' (headL lines.length) :: (lines.map sD' ++ ((procL name :: ts.map rowL).map sD'))).length = lines.length + ts.length + 2 := by simp; omega
  unfold VS.cutD
  rw [ln]
  have h1 : HT.sIx (lines.length + ts.length + 2) 0 (some 1) = 1 := by
    rw [show (1 : Int) = ((1 : Nat) : Int) from rfl, HT.sIx_nat]
    omega
  have h2 : HT.sIx (lines.length + ts.length + 2) (lines.length + ts.length + 2) (some ((lines.length : Int) + 1)) = lines.length + 1 := by
    rw [show (lines.length : Int) + 1 = ((lines.length + 1 : Nat) : Int) by omega, HT.sIx_nat]
    omega
  rw [h1, h2, List.drop_one, List.tail_cons, List.take_append_of_le_length (by simp), List.take_of_length_le (by simp)]
theorem rp_loop {p0 : T} {lines : List (List Nat)} {name : List Nat} {all : List Tk} : ∀ (suf pre : List Tk) (o4 o5 : Option T), all = pre ++ suf → (∀ t ∈ suf, TkOk t) → all.length ≤ 70 → lines.length ≤ 65 → ∃ o4' o5', loopF (putS 4) rpB (rngD (((lines.length + 2 + pre.length : Nat)) : Int) suf.length) [some p0, some (.lst ((rowsL lines name all).map tS)), some (tI lines.length), some (.lst (pre.map fun t => .sh (tkD t))), o4, o5] =
    some (.nx [some p0, some (.lst ((rowsL lines name all).map tS)), some (tI lines.length), some (.lst (all.map fun t => .sh (tkD t))), o4', o5'])
  | [], pre, o4, o5, h, _, _, _ => ⟨o4, o5, by rw [h, List.append_nil]; rfl⟩
  | t :: suf, pre, o4, o5, h, ok, hl, hn => by
    have hpl : pre.length ≤ 70 := by rw [h] at hl; simp at hl; omega
    obtain ⟨p4, p5, e⟩ := rp_loop (p0 := p0) (lines := lines) (name := name) (all := all) suf (pre ++ [t]) (some (.sh (.int (((lines.length + 2 + pre.length : Nat)) : Int)))) (some (.sh (tkD t))) (by rw [h]; simp) (fun x hx => ok x (List.mem_cons_of_mem _ hx)) hl hn
    refine ⟨p4, p5, ?_⟩
    have hat : L2.atI ((rowsL lines name all).map sD') (((lines.length + 2 + pre.length : Nat)) : Int) = some (sD' (rowL t)) := by rw [h]; exact rows_at
    have hrt := read_token_eq (ok t List.mem_cons_self)
    have hno : isNonD (tkD t) = false := by unfold tkD; split <;> rfl
    obtain ⟨k, hk⟩ := ev (((lines.length + 2 + pre.length : Nat)) : Int)
    rw [hk] at hat e
    rw [List.length_cons, rng_cons, hk]
    have hs : rpB [some p0, some (.lst ((rowsL lines name all).map tS)), some (tI lines.length), some (.lst (pre.map fun t => .sh (tkD t))), some (.sh (.int k)), o5] = some (.nx [some p0, some (.lst ((rowsL lines name all).map tS)), some (tI lines.length), some (.lst ((pre ++ [t]).map fun t => .sh (tkD t))), some (.sh (.int k)), some (.sh (tkD t))]) := by
      rw [List.map_append]
      obtain ⟨r, hr⟩ := ev (rpB [some p0, some (.lst ((rowsL lines name all).map tS)), some (tI lines.length), some (.lst (pre.map fun t => .sh (tkD t))), some (.sh (.int k)), o5])
      rw [hr]
      unfold rpB at hr
      simp -implicitDefEqProofs (disch := first | omega | (simp <;> omega) | fail) [-atI_map, Function.comp_def, hat, hrt, hno] at hr
      exact hr.symm
    rw [loop_nx (S1 := [some p0, some (.lst ((rowsL lines name all).map tS)), some (tI lines.length), some (.lst (pre.map fun t => .sh (tkD t))), some (.sh (.int k)), o5]) rfl hs]
    have hk2 : k + 1 = (((lines.length + 2 + (pre ++ [t]).length : Nat)) : Int) := by rw [← hk, List.length_append, List.length_singleton]; omega
    rw [hk2]
    exact e
theorem read_paper_eq {C : Addr} {lines : List (List Nat)} {name : List Nat} {ts : List Tk} (ok : PpOk lines name ts) : read_paper C [tS (paperL lines name ts)] = some (ppT C (joinL [10] lines) name (ts.map tkD), [some (tS (paperL lines name ts))]) := by
  have h1 := ok.l1
  have h2 := ok.t1
  have h3 := ok.n.l
  have h4 := ok.t0
  have hpl := paper_len ok
  have hrc := rows_count ok
  have hs : ∀ S, kSplit2 (.str (tx (paperL lines name ts))) (.str (tx [10])) S = some (.lst ((rowsL lines name ts).map tS), S) := fun S => by
    rw [kSplit2_s (paper_split ok) rfl (by rw [tx_len]; omega), List.map_map]
    rfl
  have hat0 : L2.atI ((rowsL lines name ts).map sD') 0 = some (sD' (headL lines.length)) := by
    unfold rowsL
    rw [List.map_cons]
    exact atI_0
  obtain ⟨oc, hc⟩ := read_count_eq (n := lines.length) ok.l0 (by omega)
  have hpr := rows_proc (lines := lines) (name := name) (ts := ts)
  have hcut := rows_lines (lines := lines) (name := name) (ts := ts)
  have s1 : dSlS none (some 5) (.str (tx (procL name))) = some (.str (tx [112,114,111,99,32])) := by
    have e := dSl_tx (l := procL name) (a := 0) (b := 5) (by unfold procL; rw [List.length_append]; simp; omega)
    have e2 : dSlS none (some 5) (.str (tx (procL name))) = dSlS (some ((0 : Nat) : Int)) (some ((5 : Nat) : Int)) (.str (tx (procL name))) := rfl
    rw [e2, e]
    rfl
  have s2 : dSlS (some 5) none (.str (tx (procL name))) = some (.str (tx name)) := dSl_from (l := procL name) (a := 5) (by unfold procL; rw [List.length_append]; simp; omega) (by unfold procL; rw [List.length_append]; simp)
  obtain ⟨o4, o5, hlo⟩ := rp_loop (p0 := tS (paperL lines name ts)) (lines := lines) (name := name) (all := ts) ts [] none none rfl ok.t h2 h1
  have hj := joinD_tx (y := [10]) (ls := lines) (k := 9) (fun l hl => (ok.l l hl).l) (by simp; omega)
  have hin := init_eq (C := C) (a := joinL [10] lines) (b := name) (xs := ts.map tkD)
  obtain ⟨jl, hjl⟩ := ev (joinL [10] lines)
  rw [hjl] at hj hin
  rw [hjl]
  have hlo' : loopF (putS 4) rpB (rngD ((lines.length : Int) + 2) ts.length) [some (tS (paperL lines name ts)), some (.lst ((rowsL lines name ts).map tS)), some (tI lines.length), some (.lst []), none, none] = some (.nx [some (tS (paperL lines name ts)), some (.lst ((rowsL lines name ts).map tS)), some (tI lines.length), some (.lst (ts.map fun t => .sh (tkD t))), o4, o5]) := by
    have e : (((lines.length + 2 + ([] : List Tk).length : Nat)) : Int) = (lines.length : Int) + 2 := by simp
    rw [e] at hlo
    exact hlo
  have hrl : (rowsL lines name ts).length = lines.length + ts.length + 2 := hrc
  obtain ⟨m, hm⟩ := ev (lines.length + ts.length + 2)
  rw [hm] at hrl
  have hx1 : ((m : Int) < (lines.length : Int) + 2) = False := by simp; omega
  have hx2 : ((m : Int) - ((lines.length : Int) + 2)).toNat = ts.length := by omega
  have hx4 : (m : Int) < 1000000 := by omega
  have hx3 : ((ts.length : Int) == 0) = false := beq_eq_false_iff_ne.mpr (by omega)
  obtain ⟨R, hR⟩ := ev (rowsL lines name ts)
  rw [hR] at hs hat0 hpr hcut hlo' hrl
  obtain ⟨pl, hpl'⟩ := ev (paperL lines name ts)
  rw [hpl'] at hs hlo'
  rw [hpl']
  obtain ⟨r, hr⟩ := ev (read_paper C [tS pl])
  rw [hr]
  simp -implicitDefEqProofs (disch := first | omega | (simp <;> omega) | fail) [-atI_map, -cutD_map, read_paper, b_read_paper, q_mkFn, l_text, l_proc, l_nl, hs, hat0, hc, hrl, hx1, Function.comp_def, hpr, s1, hx2, hlo', hx3, hcut, hj, s2, hin] at hr
  exact hr.symm
end K23
namespace K23
open PySem PySem.Spec PyProof.Rows L2 VS TL
abbrev ptD (a b : List Nat) (xs : List D) : D := .tup [.str (tx a), .str (tx b), .tup xs]
theorem Sh.str {l : List Nat} {k : Nat} (h : ∀ c ∈ l, c < 128) (hk : l.length ≤ k) : Sh (.str (tx l)) 0 (10 * k + 2) := by
  refine ⟨rfl, Nat.le_refl _, ?_, rfl⟩
  have e := StrLaws.reprText_len (tx l) fun c hc => by
    have : c ∈ l := by simpa [tx] using hc
    have := h c this
    exact Nat.lt_trans this (by decide)
  rw [tx_len l] at e
  show (reprText (tx l)).length ≤ _
  omega
theorem sh_tk {t : Tk} (ok : TkOk t) : Sh (tkD t) 2 3000 := by
  have hl := ok.l
  have hn : ∀ d ∈ t.ns.map nD, Sh d 0 14 := fun d hd => by
    obtain ⟨n, h1, rfl⟩ := List.mem_map.mp hd
    have := ok.n n h1
    exact (Sh.int10 (k := 13) (by decide) (by decide) (by show ((n : Int)).natAbs < _; omega)).mono (by decide) (by decide)
  have hw : Sh (.str (tx t.w)) 0 62 := Sh.str ok.wc ok.wl
  have bd : t.ns.length * 14 ≤ 7 * 14 := Nat.mul_le_mul hl (by decide)
  unfold tkD
  split
  · have h1 : ∀ d ∈ [D.str (tx t.w), .tup (t.ns.map nD)], Sh d 1 200 := fun d hd => by
      rcases List.mem_cons.mp hd with rfl | hd
      · exact hw.mono (by decide) (by decide)
      · rw [List.mem_singleton.mp hd]
        refine (Sh.tup hn).mono (by decide) ?_
        rw [List.length_map]
        omega
    exact (Sh.tup h1).mono (by decide) (by simp)
  · have h1 : ∀ d ∈ D.str (tx t.w) :: t.ns.map nD, Sh d 1 200 := fun d hd => by
      rcases List.mem_cons.mp hd with rfl | hd
      · exact hw.mono (by decide) (by decide)
      · exact (hn d hd).mono (by decide) (by decide)
    refine (Sh.tup h1).mono (by decide) ?_
    rw [List.length_cons, List.length_map]
    omega
theorem told_ok {lines : List (List Nat)} {name : List Nat} {ts : List Tk} (ok : PpOk lines name ts) (hc : ∀ c ∈ joinL [10] lines, c < 128) : ∃ s : Str, dRepr [ptD (joinL [10] lines) name (ts.map tkD)] = some (.str s) := by
  have hll := lines_len ok.l1 ok.l
  have h1 := ok.t1
  have hn := ok.n.l
  have hx : Sh (.tup (ts.map tkD)) 3 220000 := by
    refine (Sh.tup (k := 2) (n := 3000) fun d hd => ?_).mono (by decide) ?_
    · obtain ⟨t, ht, rfl⟩ := List.mem_map.mp hd
      exact sh_tk (ok.t t ht)
    · rw [List.length_map]
      omega
  have h : Sh (ptD (joinL [10] lines) name (ts.map tkD)) 4 700000 := by
    refine (Sh.tup (k := 3) (n := 220000) fun d hd => ?_).mono (by decide) (by simp)
    rcases List.mem_cons.mp hd with rfl | hd
    · exact (Sh.str hc hll).mono (by decide) (by decide)
    · rcases List.mem_cons.mp hd with rfl | hd
      · exact (Sh.str ok.n.c hn).mono (by decide) (by decide)
      · rw [List.mem_singleton.mp hd]
        exact hx
  have hs := h.shows (by decide) (by decide)
  exact ⟨_, if_pos hs⟩
theorem lines_c {lines : List (List Nat)} (h : ∀ l ∈ lines, LnOk l) : ∀ c ∈ joinL [10] lines, c < 128 := fun c hc => by
  rcases joinL_mem hc with hc | ⟨p, h1, h2⟩
  · rw [List.mem_singleton.mp hc]
    decide
  · exact (h p h1).c c h2
end K23
namespace VS
open PySem PySem.Spec PyProof.Rows L2
/-! simp equations of VS23 -/
variable {S S1 : Sto} {t : T} {i : Int}
def kXS (a : Option Fx) (m : MX) : Option Fx := a.bind fun f => match f with
  | .nx S1 => m S1
  | f => some f
@[simp] theorem q_xSeq {m m' : MX} : xSeq m m' S = kXS (m S) m' := rfl
@[simp] theorem kXS_nx {m : MX} : kXS (some (.nx S)) m = m S := rfl
@[simp] theorem kXS_ra {m : MX} : kXS (some (.ra i S)) m = some (.ra i S) := rfl
def kXO (a : Option Fl) : Option Fx := a.bind fun f => match f with
  | .nx S1 => some (.nx S1)
  | _ => none
@[simp] theorem q_xOf {m : MS} : xOf m S = kXO (m S) := rfl
@[simp] theorem kXO_nx : kXO (some (.nx S)) = some (.nx S) := rfl
def kXI (a : Option (Bool × Sto)) (m m' : MX) : Option Fx := a.bind fun x => if x.1 = true then m x.2 else m' x.2
@[simp] theorem q_xIf {t : MT} {m m' : MX} : xIf t m m' S = kXI (t S) m m' := rfl
@[simp] theorem kXI_t {m m' : MX} : kXI (some (true, S)) m m' = m S := rfl
@[simp] theorem kXI_f {m m' : MX} : kXI (some (false, S)) m m' = m' S := rfl
def kXR (a : Option (T × Sto)) : Option Fx := a.bind fun p => match p.1 with
  | .sh (.int i) => some (.ra i p.2)
  | _ => none
@[simp] theorem q_xRaise {m : ME} : xRaise m S = kXR (m S) := rfl
@[simp] theorem kXR_s : kXR (some (.sh (.int i), S)) = some (.ra i S) := rfl
@[simp] theorem q_xNext : xNext S = some (.nx S) := rfl
def kXF (a : Option (List D × Sto)) (g : T → Sto → Option Sto) (b : MX) : Option Fx := a.bind fun p => loopX g b p.1 p.2
@[simp] theorem q_xFor {mi : MI} {g : T → Sto → Option Sto} {b : MX} : xFor mi g b S = kXF (mi S) g b := rfl
@[simp] theorem kXF_s {g : T → Sto → Option Sto} {b : MX} {ds : List D} : kXF (some (ds, S)) g b = loopX g b ds S := rfl
def kXM (a : Option Fx) : Option Int := a.bind fun f => match f with
  | .ra i _ => some i
  | _ => none
theorem q_mkX16 {b : MX} : mkX 1 6 b [t] = kXM (b [some t, none, none, none, none, none]) := rfl
@[simp] theorem kXM_ra : kXM (some (.ra i S)) = some i := rfl
theorem loopX_nx {g : T → Sto → Option Sto} {b : MX} {d : D} {ds : List D} {S S1 S2 : Sto} (h : g (.sh d) S = some S1) (h2 : b S1 = some (.nx S2)) : loopX g b (d :: ds) S = loopX g b ds S2 := by
  show (g (.sh d) S).bind _ = _
  rw [h]
  show (b S1).bind _ = _
  rw [h2]
  rfl
theorem loopX_ra {g : T → Sto → Option Sto} {b : MX} {d : D} {ds : List D} {S S1 S2 : Sto} {i : Int} (h : g (.sh d) S = some S1) (h2 : b S1 = some (.ra i S2)) : loopX g b (d :: ds) S = some (.ra i S2) := by
  show (g (.sh d) S).bind _ = _
  rw [h]
  show (b S1).bind _ = _
  rw [h2]
  rfl
end VS
namespace K23
open PySem PySem.Spec PyProof.Rows L2 VS TL
def TkB (x : List Nat) : Prop := ∃ o, read_token [tS x] = some (tN, [o])
def TkG (x : List Nat) : Prop := ∃ d o, read_token [tS x] = some (.sh d, [o]) ∧ isNonD d = false
def CtB (x : List Nat) : Prop := ∃ o, read_count [tS x] = some (tN, [o])
def CtN (x : List Nat) (n : Nat) : Prop := ∃ o, read_count [tS x] = some (tI n, [o])
def PrB (x : List Nat) : Prop := x.take 5 ≠ [112,114,111,99,32]
structure Rws (ws : List (List Nat)) : Prop where
  ne : ws ≠ []
  nl : ∀ p ∈ ws, 10 ∉ p
  l : ∀ p ∈ ws, p.length ≤ 300
  m : ws.length ≤ 200
inductive Err (ws : List (List Nat)) (r : Nat) : Prop where
  | a (w : List Nat) (h : ws[0]? = some w) (b : CtB w) (e : r = 1)
  | b (w : List Nat) (n : Nat) (h : ws[0]? = some w) (c : CtN w n) (l : ws.length < n + 2) (e : r = ws.length + 1)
  | c (w : List Nat) (n : Nat) (x : List Nat) (h : ws[0]? = some w) (c : CtN w n) (hx : ws[n + 1]? = some x) (p : PrB x) (e : r = n + 2)
  | d (w : List Nat) (n : Nat) (x y : List Nat) (h : ws[0]? = some w) (c : CtN w n) (hx : ws[n + 1]? = some x) (p : ¬ PrB x) (l : n + 2 < r) (hy : ws[r - 1]? = some y) (b : TkB y) (g : ∀ k z, n + 2 ≤ k → k < r - 1 → ws[k]? = some z → TkG z)
  | e (w : List Nat) (n : Nat) (x : List Nat) (h : ws[0]? = some w) (c : CtN w n) (hx : ws[n + 1]? = some x) (p : ¬ PrB x) (l : ws.length = n + 2) (e : r = ws.length + 1)
theorem rw_split {ws : List (List Nat)} (R : Rws ws) (S : Sto) : kSplit2 (.str (tx (joinL [10] ws))) (.str (tx [10])) S = some (.lst (ws.map tS), S) := by
  have h := joinL_bd (S := [10]) R.l
  have h2 : ws.length * (300 + [10].length) ≤ 200 * 301 := Nat.mul_le_mul R.m (by decide)
  rw [kSplit2_s (split_tx (by decide) R.ne R.nl) rfl (by rw [tx_len]; omega), List.map_map]
  rfl
theorem rw_at {ws : List (List Nat)} {k : Nat} {w : List Nat} (h : ws[k]? = some w) : L2.atI (ws.map sD') (k : Int) = some (sD' w) := by
  rw [atI_pos, List.getElem?_map, h]
  rfl
theorem cut5 {x : List Nat} (h : x.length ≤ 300) : dSlS none (some 5) (.str (tx x)) = some (.str (tx (x.take 5))) := by
  have e := dSl_tx (l := x) (a := 0) (b := 5) (by omega)
  have e2 : dSlS none (some 5) (.str (tx x)) = dSlS (some ((0 : Nat) : Int)) (some ((5 : Nat) : Int)) (.str (tx x)) := rfl
  rw [e2, e]
  rfl
abbrev xpB : MX := xSeq (xOf (sAsg (eCall read_token [none] (aCons (ofP (p2 dIx (pV 1) (pV 4))) (aNil))) (putS 5))) (xSeq (xIf (ofB (pB (p2 dIsN (pV 5) (pC .non)))) (xSeq (xRaise (ofP (p2 dAdd (pV 4) (pC (.int 1))))) (xNext)) (xNext)) (xSeq (xOf (sApp 3 (eVar 5))) (xNext)))
theorem xp_good {ws : List (List Nat)} {k : Nat} {z : List Nat} {p0 p2 : T} {acc : List T} {o5 : Option T} (hz : ws[k]? = some z) (g : TkG z) (ha : acc.length ≤ 1000) : ∃ t o5', xpB [some p0, some (.lst (ws.map tS)), some p2, some (.lst acc), some (tI k), o5] = some (.nx [some p0, some (.lst (ws.map tS)), some p2, some (.lst (acc ++ [t])), some (tI k), o5']) := by
  obtain ⟨d, o, h1, h2⟩ := g
  have hat := rw_at hz
  refine ⟨.sh d, some (.sh d), ?_⟩
  unfold xpB
  simp -implicitDefEqProofs (disch := first | omega | (simp <;> omega) | fail) [-atI_map, Function.comp_def, hat, h1, h2]
theorem xp_bad {ws : List (List Nat)} {k : Nat} {z : List Nat} {p0 p2 : T} {acc : List T} {o5 : Option T} (hz : ws[k]? = some z) (b : TkB z) : ∃ S, xpB [some p0, some (.lst (ws.map tS)), some p2, some (.lst acc), some (tI k), o5] = some (.ra ((k : Int) + 1) S) := by
  obtain ⟨o, h1⟩ := b
  have hat := rw_at hz
  refine ⟨[some p0, some (.lst (ws.map tS)), some p2, some (.lst acc), some (tI k), some tN], ?_⟩
  unfold xpB
  simp -implicitDefEqProofs (disch := first | omega | (simp <;> omega) | fail) [-atI_map, Function.comp_def, hat, h1]
theorem xp_loop {ws : List (List Nat)} {p0 p2 : T} (hm : ws.length ≤ 200) : ∀ (m k : Nat) (acc : List T) (o4 o5 : Option T) (y : List Nat) (rest : List D), acc.length ≤ k → k + m ≤ 200 → ws[k + m]? = some y → TkB y → (∀ j z, k ≤ j → j < k + m → ws[j]? = some z → TkG z) → ∃ S, loopX (putS 4) xpB (rngD (k : Nat) (m + 1) ++ rest) [some p0, some (.lst (ws.map tS)), some p2, some (.lst acc), o4, o5] = some (.ra (((k + m : Nat) : Int) + 1) S)
  | 0, k, acc, o4, o5, y, rest, ha, hk, hy, b, g => by
    obtain ⟨S, e⟩ := xp_bad (p0 := p0) (p2 := p2) (acc := acc) (o5 := o5) (z := y) (ws := ws) (k := k) (by simpa using hy) b
    exact ⟨S, by rw [rng_cons, List.cons_append, loopX_ra (S1 := [some p0, some (.lst (ws.map tS)), some p2, some (.lst acc), some (tI k), o5]) rfl e]; rfl⟩
  | m + 1, k, acc, o4, o5, y, rest, ha, hk, hy, b, g => by
    have hlt : k < ws.length := by
      have := (List.getElem?_eq_some_iff.mp hy).1
      omega
    obtain ⟨t, o, e⟩ := xp_good (p0 := p0) (p2 := p2) (acc := acc) (o5 := o5) (List.getElem?_eq_getElem hlt) (g k _ (Nat.le_refl _) (by omega) (List.getElem?_eq_getElem hlt)) (by omega)
    obtain ⟨S, ih⟩ := xp_loop (p0 := p0) (p2 := p2) hm m (k + 1) (acc ++ [t]) (some (tI k)) o y rest (by simp; omega) (by omega) (by rw [← hy]; congr 1; omega) b (fun j z h1 h2 h3 => g j z (by omega) (by omega) h3)
    refine ⟨S, ?_⟩
    rw [rng_cons, List.cons_append, loopX_nx (S1 := [some p0, some (.lst (ws.map tS)), some p2, some (.lst acc), some (tI k), o5]) rfl e]
    rw [show ((k : Int) + 1) = ((k + 1 : Nat) : Int) by omega]
    rw [ih]
    rw [show k + 1 + m = k + (m + 1) by omega]
end K23
namespace K23
open PySem PySem.Spec PyProof.Rows L2 VS TL
theorem rw_lens (ws : List (List Nat)) : dLen [.lst (ws.map sD')] = some (.int (ws.length : Nat)) := by
  show some (D.int ((ws.map sD').length : Nat)) = _
  rw [List.length_map]
theorem err_x {C : Addr} {ws : List (List Nat)} {r : Nat} (R : Rws ws) (e : Err ws r) : x_read_paper C [tS (joinL [10] ws)] = some (r : Int) := by
  have hs := rw_split R
  have hm := R.m
  have hlen : (List.map (fun x => D.str (tx x)) ws).length = ws.length := List.length_map ..
  generalize joinL [10] ws = J at *
  cases e with
  | a w h b e =>
    obtain ⟨o, h1⟩ := b
    have hat := rw_at h
    rw [show ((0 : Nat) : Int) = 0 from rfl] at hat
    subst e
    obtain ⟨q, hq⟩ := ev (x_read_paper C [tS J])
    rw [hq]
    simp -implicitDefEqProofs (disch := first | omega | (simp <;> omega) | fail) [-atI_map, x_read_paper, q_mkX16, Function.comp_def, l_nl, hs, hat, h1] at hq
    exact hq.symm
  | b w n h c l e =>
    obtain ⟨o, h1⟩ := c
    have hat := rw_at h
    rw [show ((0 : Nat) : Int) = 0 from rfl] at hat
    have hx : (ws.length : Int) < (n : Int) + 2 := by omega
    have he : (r : Int) = (ws.length : Int) + 1 := by omega
    rw [he]
    obtain ⟨q, hq⟩ := ev (x_read_paper C [tS J])
    rw [hq]
    generalize hn : (ws.length : Int) = m at *
    simp -implicitDefEqProofs (disch := first | omega | (simp <;> omega) | fail) [-atI_map, x_read_paper, q_mkX16, Function.comp_def, l_nl, hs, hat, h1, hlen, hn, hx] at hq
    exact hq.symm
  | c w n x h c hx p e =>
    obtain ⟨o, h1⟩ := c
    have hat := rw_at h
    rw [show ((0 : Nat) : Int) = 0 from rfl] at hat
    have hl := (List.getElem?_eq_some_iff.mp hx).1
    have hat2 := rw_at hx
    rw [show ((n + 1 : Nat) : Int) = (n : Int) + 1 by omega] at hat2
    have hx2 : ¬ (ws.length : Int) < (n : Int) + 2 := by omega
    have he : (r : Int) = (n : Int) + 2 := by omega
    have s1 := cut5 (R.l x (List.mem_of_getElem? hx))
    have pb : ((tx (x.take 5) == tx [112,114,111,99,32]) : Bool) = false := beq_tx_f p
    rw [he]
    obtain ⟨q, hq⟩ := ev (x_read_paper C [tS J])
    rw [hq]
    generalize hn : (ws.length : Int) = m at *
    generalize x.take 5 = x5 at *
    simp -implicitDefEqProofs (disch := first | omega | (simp <;> omega) | fail) [-atI_map, -tx_beq, x_read_paper, q_mkX16, Function.comp_def, l_nl, l_proc, hs, hat, h1, hlen, hn, hx2, hat2, s1, pb] at hq
    exact hq.symm
  | d w n x y h c hx p l hy b g =>
    obtain ⟨o, h1⟩ := c
    have hat := rw_at h
    rw [show ((0 : Nat) : Int) = 0 from rfl] at hat
    have hl := (List.getElem?_eq_some_iff.mp hx).1
    have hl2 := (List.getElem?_eq_some_iff.mp hy).1
    have hat2 := rw_at hx
    rw [show ((n + 1 : Nat) : Int) = (n : Int) + 1 by omega] at hat2
    have hx2 : ¬ (ws.length : Int) < (n : Int) + 2 := by omega
    have s1 := cut5 (R.l x (List.mem_of_getElem? hx))
    have pb : ((tx (x.take 5) == tx [112,114,111,99,32]) : Bool) = true := beq_tx_t (Classical.byContradiction p)
    obtain ⟨k2, hk2⟩ : ∃ k2, ws.length = (n + 2) + (r - 1 - (n + 2) + 1) + k2 := ⟨ws.length - ((n + 2) + (r - 1 - (n + 2) + 1)), by omega⟩
    obtain ⟨S, LP⟩ := xp_loop (p0 := tS J) (p2 := tI n) hm (r - 1 - (n + 2)) (n + 2) [] none none y (rngD (((n + 2 + (r - 1 - (n + 2) + 1) : Nat)) : Int) k2) (by simp) (by omega) (by rw [← hy]; congr 1; omega) b (fun j z h1 h2 h3 => g j z h1 (by omega) h3)
    have hr2 : (((n + 2 + (r - 1 - (n + 2)) : Nat) : Int) + 1) = (r : Int) := by omega
    rw [hr2] at LP
    have hrn : ∀ (a : Int) (m k : Nat), rngD a m ++ rngD (a + (m : Int)) k = rngD a (m + k) := by
      intro a m k
      induction m generalizing a with
      | zero => simp [rngD]
      | succ m ih =>
        rw [rng_cons, List.cons_append, show m + 1 + k = (m + k) + 1 by omega, rng_cons, ← ih (a + 1)]
        congr 3
        omega
    have hj := hrn ((n + 2 : Nat) : Int) (r - 1 - (n + 2) + 1) k2
    rw [show (((n + 2 : Nat) : Int) + ((r - 1 - (n + 2) + 1 : Nat) : Int)) = (((n + 2 + (r - 1 - (n + 2) + 1) : Nat)) : Int) by omega] at hj
    rw [hj] at LP
    have hcnt : r - 1 - (n + 2) + 1 + k2 = ((ws.length : Int) - ((n : Int) + 2)).toNat := by omega
    rw [hcnt, show ((n + 2 : Nat) : Int) = (n : Int) + 2 by omega] at LP
    have hb1 : (ws.length : Int) ≤ 200 := by omega
    have hb2 : (n : Int) ≤ 200 := by omega
    have hb3 : (0 : Int) ≤ (n : Int) := by omega
    unfold xpB at LP
    obtain ⟨q, hq⟩ := ev (x_read_paper C [tS J])
    rw [hq]
    generalize x.take 5 = x5 at *
    generalize (r : Int) = ri at *
    simp -implicitDefEqProofs (disch := first | omega | (simp <;> omega) | fail) [-atI_map, -tx_beq, x_read_paper, q_mkX16, Function.comp_def, l_nl, l_proc, hs, hat, h1, hlen, hx2, hat2, s1, pb, LP] at hq
    exact hq.symm
  | e w n x h c hx p l e =>
    obtain ⟨o, h1⟩ := c
    have hat := rw_at h
    rw [show ((0 : Nat) : Int) = 0 from rfl] at hat
    have hat2 := rw_at hx
    rw [show ((n + 1 : Nat) : Int) = (n : Int) + 1 by omega] at hat2
    have hx2 : ¬ (ws.length : Int) < (n : Int) + 2 := by omega
    have s1 := cut5 (R.l x (List.mem_of_getElem? hx))
    have pb : ((tx (x.take 5) == tx [112,114,111,99,32]) : Bool) = true := beq_tx_t (Classical.byContradiction p)
    have he : (r : Int) = (ws.length : Int) + 1 := by omega
    have hz : ((ws.length : Int) - ((n : Int) + 2)).toNat = 0 := by omega
    have hr0 : rngD ((n : Int) + 2) 0 = [] := rfl
    have l0 : ∀ (b : MX) S, loopX (putS 4) b [] S = some (.nx S) := fun _ _ => rfl
    have hb1 : (ws.length : Int) ≤ 200 := by omega
    have hb2 : (n : Int) ≤ 200 := by omega
    have hb3 : (0 : Int) ≤ (n : Int) := by omega
    rw [he]
    obtain ⟨q, hq⟩ := ev (x_read_paper C [tS J])
    rw [hq]
    generalize x.take 5 = x5 at *
    simp -implicitDefEqProofs (disch := first | omega | (simp <;> omega) | fail) [-atI_map, -tx_beq, x_read_paper, q_mkX16, Function.comp_def, l_nl, l_proc, hs, hat, h1, hlen, hx2, hat2, s1, pb, hz, hr0, l0] at hq
    exact hq.symm
theorem Err.pre {ws ws' : List (List Nat)} {r : Nat} (e : Err ws r) (h1 : r ≤ ws.length) (h2 : ws'.take r = ws.take r) (h3 : r ≤ ws'.length) : Err ws' r := by
  have at' : ∀ k, k < r → ws'[k]? = ws[k]? := fun k hk => by
    rw [← List.getElem?_take_of_lt hk, h2, List.getElem?_take_of_lt hk]
  cases e with
  | a w h b e => exact .a w (by rw [at' 0 (by omega)]; exact h) b e
  | b w n h c l e => omega
  | c w n x h c hx p e =>
    exact .c w n x (by rw [at' 0 (by omega)]; exact h) c (by rw [at' (n + 1) (by omega)]; exact hx) p e
  | d w n x y h c hx p l hy b g =>
    exact .d w n x y (by rw [at' 0 (by omega)]; exact h) c (by rw [at' (n + 1) (by omega)]; exact hx) p l (by rw [at' (r - 1) (by omega)]; exact hy) b (fun k z a1 a2 a3 => g k z a1 a2 (by rw [← at' k (by omega)]; exact a3))
  | e w n x h c hx p l e => omega
end K23
namespace K23
open PySem PySem.Spec PyProof.Rows L2 VS TL
/-! ### words that are no numbers -/
def RdB (x : List Nat) : Prop := read_number [tS x] = some (tN, [some (tS x)])
theorem rn_loop_bad {w : List Nat} : ∀ (l : List Nat), (∃ c ∈ l, ¬ (48 ≤ c ∧ c ≤ 57)) → ∀ o, ∃ o', loopF (putS 1) rnB (l.map fun c => D.str (tx [c])) [some (tS w), o] = some (.rt tN [some (tS w), o'])
  | [], h, o => by
    obtain ⟨c, h, _⟩ := h
    cases h
  | c :: l, h, o => by
    by_cases hc : 48 ≤ c ∧ c ≤ 57
    · obtain ⟨o', e⟩ := rn_loop_bad l (by
        obtain ⟨d, h1, h2⟩ := h
        rcases List.mem_cons.mp h1 with rfl | h1
        · exact absurd hc h2
        · exact ⟨d, h1, h2⟩) (some (tS [c]))
      refine ⟨o', ?_⟩
      have hm : c ∈ [48,49,50,51,52,53,54,55,56,57] := by
        simp
        omega
      rw [List.map_cons, loop_nx (S1 := [some (tS w), some (tS [c])]) (S2 := [some (tS w), some (tS [c])]) rfl ?_]
      · exact e
      · have hd : dNotIn (.str (tx [c])) (.str (tx [48,49,50,51,52,53,54,55,56,57])) = some (.bl false) := by
          rw [dNotIn_tx, decide_eq_true hm]
          rfl
        unfold rnB
        simp -implicitDefEqProofs (disch := first | omega | (simp <;> omega) | fail) [-dNotIn_tx, l_digs, hd]
    · refine ⟨some (tS [c]), ?_⟩
      have hm : c ∉ [48,49,50,51,52,53,54,55,56,57] := by
        simp
        omega
      rw [List.map_cons]
      refine loop_rt (S1 := [some (tS w), some (tS [c])]) rfl ?_
      have hd : dNotIn (.str (tx [c])) (.str (tx [48,49,50,51,52,53,54,55,56,57])) = some (.bl true) := by
        rw [dNotIn_tx, decide_eq_false hm]
        rfl
      unfold rnB
      simp -implicitDefEqProofs (disch := first | omega | (simp <;> omega) | fail) [-dNotIn_tx, l_digs, hd]
theorem rn_bad {x : List Nat} (hx : x.length ≤ 10000) (h : x.length = 0 ∨ 12 < x.length ∨ (x.head? = some 48 ∧ x ≠ [48]) ∨ ∃ c ∈ x, ¬ (48 ≤ c ∧ c ≤ 57)) : RdB x := by
  unfold RdB
  have hlen : dLen [.str (tx x)] = some (.int (x.length : Nat)) := dLen_tx (by omega)
  obtain ⟨r, hr⟩ := ev (read_number [tS x])
  rw [hr]
  by_cases c1 : 1 ≤ x.length ∧ x.length ≤ 12
  · have h1 : (decide ((1 : Int) ≤ (x.length : Nat)) && decide ((x.length : Int) ≤ 12)) = true := by
      rw [decide_eq_true (by omega), decide_eq_true (by omega)]
      rfl
    obtain ⟨c0, r0, hc0⟩ : ∃ c r, x = c :: r := by
      cases q : x with
      | nil => rw [q] at c1; simp at c1
      | cons c r => exact ⟨c, r, rfl⟩
    have hix : dIx (.str (tx x)) (.int ((0 : Nat) : Int)) = some (.str (tx [c0])) := dIx_tx (by omega) (by rw [hc0]; rfl)
    have hix' : dIx (.str (tx x)) (.int 0) = some (.str (tx [c0])) := hix
    by_cases c2 : c0 = 48 ∧ x ≠ [48]
    · have e1 : ((tx [c0] == tx [48]) : Bool) = true := beq_tx_t (by rw [c2.1])
      have e2 : ((tx x == tx [48]) : Bool) = false := beq_tx_f c2.2
      clear hc0 h
      simp -implicitDefEqProofs (disch := first | omega | (simp <;> omega) | fail) [-tx_beq, read_number, b_read_number, q_mkFn, l_0, hlen, h1, hix', e1, e2] at hr
      exact hr.symm
    · have hb : ∃ c ∈ x, ¬ (48 ≤ c ∧ c ≤ 57) := by
        rcases h with h | h | h | h
        · omega
        · omega
        · rw [hc0] at h
          simp only [List.head?_cons, Option.some.injEq] at h
          exact absurd ⟨h.1, by rw [hc0]; exact h.2⟩ c2
        · exact h
      obtain ⟨o', hlo⟩ := rn_loop_bad (w := x) x hb none
      unfold rnB at hlo
      by_cases c3 : c0 = 48
      · have e1 : ((tx [c0] == tx [48]) : Bool) = true := beq_tx_t (by rw [c3])
        have e2 : ((tx x == tx [48]) : Bool) = true := beq_tx_t (Classical.byContradiction fun q => c2 ⟨c3, q⟩)
        clear hc0 h c2
        simp -implicitDefEqProofs (disch := first | omega | (simp <;> omega) | fail) [-tx_beq, read_number, b_read_number, q_mkFn, l_0, hlen, h1, hix', e1, e2, signs_tx, hlo] at hr
        exact hr.symm
      · have e1 : ((tx [c0] == tx [48]) : Bool) = false := beq_tx_f (fun e => c3 (List.cons.inj e).1)
        clear hc0 h c2
        simp -implicitDefEqProofs (disch := first | omega | (simp <;> omega) | fail) [-tx_beq, read_number, b_read_number, q_mkFn, l_0, hlen, h1, hix', e1, signs_tx, hlo] at hr
        exact hr.symm
  · have h1 : (decide ((1 : Int) ≤ (x.length : Nat)) && decide ((x.length : Int) ≤ 12)) = false := by
      rw [Bool.and_eq_false_iff]
      rcases Nat.lt_or_ge x.length 1 with q | q
      · exact .inl (decide_eq_false (by omega))
      · exact .inr (decide_eq_false (by omega))
    clear h
    simp -implicitDefEqProofs (disch := first | omega | (simp <;> omega) | fail) [-tx_beq, read_number, b_read_number, q_mkFn, l_0, hlen, h1] at hr
    exact hr.symm
/-- a row whose words behind the first one are not all numbers -/
theorem tk_words {w : List Nat} {qs : List (List Nat)} (hw : 32 ∉ w) (hq : ∀ q ∈ qs, 32 ∉ q) (hl : ∀ q ∈ w :: qs, q.length ≤ 100) (hm : qs.length ≤ 50) (hn : ∀ q ∈ qs, RdB q ∨ ∃ n : Nat, read_number [tS q] = some (tI n, [some (tS q)])) (hb : ∃ q ∈ qs, RdB q) : TkB (joinL [32] (w :: qs)) := by
  have hjl := joinL_bd (S := [32]) hl
  have hjl2 : (w :: qs).length * (100 + [32].length) ≤ 51 * 101 := Nat.mul_le_mul (by simp; omega) (by decide)
  have hs : ∀ S, kSplit2 (.str (tx (joinL [32] (w :: qs)))) (.str (tx [32])) S = some (.lst (tS w :: qs.map tS), S) := fun S => by
    rw [kSplit2_s (split_tx (by decide) (by simp) (fun p hp => by
      rcases List.mem_cons.mp hp with rfl | hp
      · exact hw
      · exact hq p hp)) rfl (by rw [tx_len]; omega), List.map_map]
    rfl
  let f : List Nat → D := fun q => match read_number [tS q] with
    | some (t, _) => fz t
    | none => .non
  have hf : ∀ q ∈ qs, read_number [tS q] = some (.sh (f q), [some (tS q)]) ∧ (f q = .non ∨ ∃ n : Nat, f q = nD n) ∧ (RdB q → f q = .non) := fun q h => by
    rcases hn q h with e | ⟨n, e⟩
    · have e' : read_number [tS q] = some (tN, [some (tS q)]) := e
      refine ⟨?_, .inl ?_, fun _ => ?_⟩ <;> simp only [f, e'] <;> rfl
    · refine ⟨?_, .inr ⟨n, ?_⟩, fun b => ?_⟩
      · simp only [f, e]
        rfl
      · simp only [f, e]
        rfl
      · have b' : read_number [tS q] = some (tN, [some (tS q)]) := b
        rw [e] at b'
        cases b'
  have lc : ∀ p0 w0 : T, lcGo (putS 3) qYes (eCall read_number [some 3] (aMv 3 (aNil))) [3] (qs.map fun q => D.str (tx q)) [some p0, some w0, none, none] [] = some (qs.map fun q => .sh (f q), [some p0, some w0, none, none]) := fun p0 w0 =>
    lc_map0 (inj := fun q => D.str (tx q)) (f := fun q => .sh (f q)) (S := [some p0, some w0, none, none]) (S' := fun q => [some p0, some w0, none, some (tS q)]) qs (fun a => rfl) (fun a => rfl) (fun q h => by
      have h1 := (hf q h).1
      generalize f q = fq at *
      simp -implicitDefEqProofs (disch := first | omega | (simp <;> omega) | fail) [h1]) (by omega)
  have hsc : (qs.map f).all sc = true := by
    rw [List.all_eq_true]
    intro d hd
    obtain ⟨q, h1, rfl⟩ := List.mem_map.mp hd
    rcases (hf q h1).2.1 with e | ⟨n, e⟩ <;> rw [e] <;> rfl
  have hany : (qs.map f).any (fun d => deq d .non) = true := by
    rw [List.any_eq_true]
    obtain ⟨q, h1, h2⟩ := hb
    exact ⟨.non, List.mem_map.mpr ⟨q, h1, (hf q h1).2.2 h2⟩, rfl⟩
  have hni : dIn .non (.lst (qs.map f)) = some (.bl true) := by
    unfold dIn
    simp only [items, Option.bind_some, sc, Bool.true_and, hsc, if_true, hany]
  have ffe : ∀ l : List (List Nat), (l.map fun q => T.sh (f q)).map fz = l.map f := fun l => by
    rw [List.map_map]
    rfl
  have lc := lc (tS (joinL [32] (w :: qs)))
  have fq : fz (.lst (qs.map fun q => T.sh (f q))) = .lst (qs.map f) := by rw [fz_lst, ffe]
  clear_value f
  refine ⟨some (tS (joinL [32] (w :: qs))), ?_⟩
  generalize joinL [32] (w :: qs) = J at *
  obtain ⟨r, hr⟩ := ev (read_token [tS J])
  rw [hr]
  generalize hW : (qs.map fun q => T.sh (f q)) = W at *
  generalize qs.map f = WD at *
  simp -implicitDefEqProofs (disch := first | omega | (simp <;> omega) | fail) [read_token, b_read_token, q_mkFn, l_sp, hs, cut_tail, Function.comp_def, lc, fq, hni] at hr
  exact hr.symm
end K23
namespace K23
open PySem PySem.Spec PyProof.Rows L2 VS TL
/-! ### picks -/
theorem atI_in {α : Type} {xs : List α} {b : Nat} (h : b < xs.length) : ∃ x ∈ xs, L2.atI xs (b : Int) = some x := ⟨xs[b], List.getElem_mem h, by rw [atI_pos, List.getElem?_eq_getElem h]⟩
theorem pick_s {ds : List Int} {j : Nat} {xs : List D} (h0 : 0 < xs.length) (h1 : xs.length ≤ 1000) : ∃ x ∈ xs, f_law_pick [hd ds j, .lst (xs.map .sh)] = some (.sh x, [some (hd ds (j + 1)), some (.lst (xs.map .sh))]) := by
  have hp : (0 : Int) < (xs.length : Int) := by omega
  have hlt := tk_lt (ds := ds) (j := j) hp
  obtain ⟨a, ha⟩ := ev (tk ds j (xs.length : Int))
  rw [ha] at hlt
  obtain ⟨x, hx, hat⟩ := atI_in (xs := xs) (b := a) (by omega)
  have hk : L2.atI (xs.map T.sh) (a : Int) = some (.sh x) := by
    rw [atI_pos, List.getElem?_map, ← atI_pos, hat]
    rfl
  have hl : dLen [.lst xs] = some (.int (xs.length : Nat)) := rfl
  have hf : fz (.lst (xs.map T.sh)) = .lst xs := by
    rw [fz_lst, List.map_map]
    exact congrArg D.lst (List.map_id _)
  have ts := take_s (ds := ds) (j := j) hp
  rw [ha] at ts
  refine ⟨x, hx, ?_⟩
  obtain ⟨r, hr⟩ := ev (f_law_pick [hd ds j, .lst (xs.map .sh)])
  rw [hr]
  generalize xs.map T.sh = XT at *
  generalize ((xs.length : Nat) : Int) = L at *
  simp -implicitDefEqProofs (disch := first | omega | (simp <;> omega) | fail) [f_law_pick, b_f_law_pick, q_mkFn, hl, hf, ts, hk] at hr
  exact hr.symm
theorem pick_str {ds : List Int} {j : Nat} {xs : List Str} (h0 : 0 < xs.length) (h1 : xs.length ≤ 1000) : ∃ x ∈ xs, f_law_pick [hd ds j, .lst (xs.map fun s => .sh (.str s))] = some (.sh (.str x), [some (hd ds (j + 1)), some (.lst (xs.map fun s => .sh (.str s)))]) := by
  obtain ⟨x, hx, e⟩ := pick_s (ds := ds) (j := j) (xs := xs.map .str) (by simpa using h0) (by simpa using h1)
  obtain ⟨s, hs, rfl⟩ := List.mem_map.mp hx
  rw [List.map_map] at e
  exact ⟨s, hs, e⟩
/-! ### what is wrong by its text -/
def isN : Option (T × List (Option T)) → Bool
  | some (.sh .non, [_]) => true
  | _ => false
theorem isN_of {e : Option (T × List (Option T))} (h : isN e = true) : ∃ o, e = some (tN, [o]) := by
  unfold isN at h
  split at h
  · exact ⟨_, rfl⟩
  · cases h
def rowB (s : Str) : Bool := s.cps.toList.all (· != 10) && decide (s.cps.toList.length ≤ 60)
def badTk (s : Str) : Bool := isN (read_token [.sh (.str s)]) && rowB s
def badCt (s : Str) : Bool := isN (read_count [.sh (.str s)]) && rowB s
def badPr (s : Str) : Bool := (s.cps.toList.take 5 != [112,114,111,99,32]) && rowB s
def RowOk (x : List Nat) : Prop := 10 ∉ x ∧ x.length ≤ 300
theorem rowB_of {s : Str} (h : rowB s = true) : RowOk s.cps.toList := by
  unfold rowB at h
  obtain ⟨h1, h2⟩ := Bool.and_eq_true_iff.mp h
  refine ⟨fun h => ?_, Nat.le_trans (of_decide_eq_true h2) (by decide)⟩
  have := List.all_eq_true.mp h1 10 h
  simp at this
theorem badTk_of {s : Str} (h : badTk s = true) : ∃ x, s = tx x ∧ TkB x ∧ RowOk x := by
  obtain ⟨h1, h2⟩ := Bool.and_eq_true_iff.mp h
  refine ⟨s.cps.toList, (tx_eta s).symm, ?_, rowB_of h2⟩
  show ∃ o, read_token [.sh (.str (tx s.cps.toList))] = _
  rw [tx_eta]
  exact isN_of h1
theorem badCt_of {s : Str} (h : badCt s = true) : ∃ x, s = tx x ∧ CtB x ∧ RowOk x := by
  obtain ⟨h1, h2⟩ := Bool.and_eq_true_iff.mp h
  refine ⟨s.cps.toList, (tx_eta s).symm, ?_, rowB_of h2⟩
  show ∃ o, read_count [.sh (.str (tx s.cps.toList))] = _
  rw [tx_eta]
  exact isN_of h1
theorem badPr_of {s : Str} (h : badPr s = true) : ∃ x, s = tx x ∧ PrB x ∧ RowOk x := by
  obtain ⟨h1, h2⟩ := Bool.and_eq_true_iff.mp h
  refine ⟨s.cps.toList, (tx_eta s).symm, ?_, rowB_of h2⟩
  unfold PrB
  intro e
  rw [e] at h1
  simp at h1
def wt1 : List Str := ["", "onn", "on ", " on", "on 1", "over 0", "ON", "over ", "dead", "dead ", "dead x", "dead -1", "dead 01"]
def wt2 : List Str := ["dead 1  2", "dead 1 2 ", "dead 1000000000000", "dead 1 01", "dead 1,2", "dead +1", "dead 1_0"]
def wt3 : List Str := ["pair", "pair 1", "pair 1 2 3", "pair 1 x", "pair -1 2", "pair 01 2", "pair 1 1000000000000"]
def wt4 : List Str := ["met 0", "write"]
def wt5 : List Str := ["write 1 2", "write x", "either", "either 0 0", "all 1", "all 1 2 3", "all 1 -2", "match 1"]
def wt6 : List Str := ["match 1 2 3", "match 0 00", "sorted 1 2", "sorted 1 2 3 4", "sorted 1 2 x", "below 1 2"]
def wt7 : List Str := ["dead 1 -2", "pair  1 2", "pair 1 2 "]
def wt8 : List Str := ["below 1 2 3 4", "below 1 2 03", "text 1", "proc x", "pairs 1 2", "dead\t1", "on\t"]
def wtS : List Str := wt1 ++ wt2 ++ wt3 ++ wt4 ++ wt5 ++ wt6 ++ wt7 ++ wt8
theorem wt_bad : wtS.all badTk = true := by decide +kernel
theorem wt_len : wtS.length ≤ 100 ∧ 0 < wtS.length := by decide +kernel
theorem wrong_token_eq (ds : List Int) (j : Nat) : ∃ (x : List Nat) (j' : Nat), TkB x ∧ RowOk x ∧ f_law_wrong_token [hd ds j] = some (tS x, [some (hd ds j')]) := by
  obtain ⟨s, hs, e⟩ := pick_str (ds := ds) (j := j) (xs := wtS) wt_len.2 (by have := wt_len.1; omega)
  obtain ⟨x, rfl, h1, h2⟩ := badTk_of (List.all_eq_true.mp wt_bad s hs)
  refine ⟨x, j + 1, h1, h2, ?_⟩
  have e2 : f_law_pick [hd ds j, .lst [.sh (.str ""), .sh (.str "onn"), .sh (.str "on "), .sh (.str " on"), .sh (.str "on 1"), .sh (.str "over 0"), .sh (.str "ON"), .sh (.str "over "), .sh (.str "dead"), .sh (.str "dead "), .sh (.str "dead x"), .sh (.str "dead -1"), .sh (.str "dead 01"),
    .sh (.str "dead 1  2"), .sh (.str "dead 1 2 "), .sh (.str "dead 1000000000000"), .sh (.str "dead 1 01"), .sh (.str "dead 1,2"), .sh (.str "dead +1"), .sh (.str "dead 1_0"),
    .sh (.str "pair"), .sh (.str "pair 1"), .sh (.str "pair 1 2 3"), .sh (.str "pair 1 x"), .sh (.str "pair -1 2"), .sh (.str "pair 01 2"), .sh (.str "pair 1 1000000000000"),
    .sh (.str "met 0"), .sh (.str "write"),
    .sh (.str "write 1 2"), .sh (.str "write x"), .sh (.str "either"), .sh (.str "either 0 0"), .sh (.str "all 1"), .sh (.str "all 1 2 3"), .sh (.str "all 1 -2"), .sh (.str "match 1"),
    .sh (.str "match 1 2 3"), .sh (.str "match 0 00"), .sh (.str "sorted 1 2"), .sh (.str "sorted 1 2 3 4"), .sh (.str "sorted 1 2 x"), .sh (.str "below 1 2"),
    .sh (.str "dead 1 -2"), .sh (.str "pair  1 2"), .sh (.str "pair 1 2 "),
    .sh (.str "below 1 2 3 4"), .sh (.str "below 1 2 03"), .sh (.str "text 1"), .sh (.str "proc x"), .sh (.str "pairs 1 2"), .sh (.str "dead\t1"), .sh (.str "on\t")]] = some (tS x, [some (hd ds (j + 1)), some (.lst (wtS.map fun s => .sh (.str s)))]) := e
  obtain ⟨r, hr⟩ := ev (f_law_wrong_token [hd ds j])
  rw [hr]
  generalize (.lst (wtS.map fun s => .sh (.str s)) : T) = WW at *
  simp -implicitDefEqProofs (disch := first | omega | (simp <;> omega) | fail) [f_law_wrong_token, b_f_law_wrong_token, q_mkFn, e2] at hr
  exact hr.symm
def wnS : List Str := ["", "proc", "procs x", "Proc x", " proc x", "pro x", "text 1", "proc\tx"]
theorem wn_bad : wnS.all badPr = true := by decide +kernel
theorem wrong_name_eq (ds : List Int) (j : Nat) : ∃ (x : List Nat) (j' : Nat), PrB x ∧ RowOk x ∧ f_law_wrong_name [hd ds j] = some (tS x, [some (hd ds j')]) := by
  obtain ⟨s, hs, e⟩ := pick_str (ds := ds) (j := j) (xs := wnS) (by decide) (by decide)
  obtain ⟨x, rfl, h1, h2⟩ := badPr_of (List.all_eq_true.mp wn_bad s hs)
  refine ⟨x, j + 1, h1, h2, ?_⟩
  have e2 : f_law_pick [hd ds j, .lst [.sh (.str ""), .sh (.str "proc"), .sh (.str "procs x"), .sh (.str "Proc x"), .sh (.str " proc x"), .sh (.str "pro x"), .sh (.str "text 1"), .sh (.str "proc\tx")]] = some (tS x, [some (hd ds (j + 1)), some (.lst (wnS.map fun s => .sh (.str s)))]) := e
  obtain ⟨r, hr⟩ := ev (f_law_wrong_name [hd ds j])
  rw [hr]
  generalize (.lst (wnS.map fun s => .sh (.str s)) : T) = WW at *
  simp -implicitDefEqProofs (disch := first | omega | (simp <;> omega) | fail) [f_law_wrong_name, b_f_law_wrong_name, q_mkFn, e2] at hr
  exact hr.symm
/-! ### the first row -/
def wfS (m : Nat) : List Str := ["", "text", "text ", "text 0", ("text 0" : Str) ++ nT m, ("text -" : Str) ++ nT m, ("text +" : Str) ++ nT m, "text x", ("texts " : Str) ++ nT m,
  ("text " : Str) ++ nT m ++ (" " : Str), (" text " : Str) ++ nT m, ("text  " : Str) ++ nT m, ("text " : Str) ++ nT m ++ (" 1" : Str), ("Text " : Str) ++ nT m, nT m,
  "text 1000000000000", ("text " : Str) ++ nT m ++ (".0" : Str), "text 1_0", ("text\t" : Str) ++ nT m]
theorem wf_bad : ∀ m < 66, (wfS m).all badCt = true := by decide +kernel
theorem dAdd_lit {a b : Str} (ha : a.length ≤ 1000) (hb : b.length ≤ 1000) : dAdd (.str a) (.str b) = some (.str (a ++ b)) := by
  show (if a.length + b.length ≤ sizeLine then _ else none) = _
  rw [if_pos (by rw [sizeLine_val]; omega)]
theorem wrong_first_eq (ds : List Int) (j m : Nat) (hm : m < 66) : ∃ (x : List Nat) (j' : Nat), CtB x ∧ RowOk x ∧ f_law_wrong_first [hd ds j, tI m] = some (tS x, [some (hd ds j'), some (tI m)]) := by
  obtain ⟨s, hs, e⟩ := pick_str (ds := ds) (j := j) (xs := wfS m) (by unfold wfS; simp) (by unfold wfS; simp)
  obtain ⟨x, rfl, h1, h2⟩ := badCt_of (List.all_eq_true.mp (wf_bad m hm) s hs)
  refine ⟨x, j + 1, h1, h2, ?_⟩
  have hn := num_len (n := m) (by omega)
  have hT : (nT m).length ≤ 12 := by rw [tx_len]; exact hn
  have a1 := dAdd_lit (a := "text 0") (b := nT m) (by decide +kernel) (by omega)
  have a2 := dAdd_lit (a := "text -") (b := nT m) (by decide +kernel) (by omega)
  have a3 := dAdd_lit (a := "text +") (b := nT m) (by decide +kernel) (by omega)
  have a4 := dAdd_lit (a := "texts ") (b := nT m) (by decide +kernel) (by omega)
  have a5 := dAdd_lit (a := "text ") (b := nT m) (by decide +kernel) (by omega)
  have h5 : (("text " : Str) ++ nT m).length ≤ 100 := by
    rw [l_text, tx_app, tx_len, List.length_append]
    simp
    omega
  have a6 := dAdd_lit (a := ("text " : Str) ++ nT m) (b := " ") (by omega) (by decide +kernel)
  have a7 := dAdd_lit (a := " text ") (b := nT m) (by decide +kernel) (by omega)
  have a8 := dAdd_lit (a := "text  ") (b := nT m) (by decide +kernel) (by omega)
  have a9 := dAdd_lit (a := ("text " : Str) ++ nT m) (b := " 1") (by omega) (by decide +kernel)
  have a10 := dAdd_lit (a := "Text ") (b := nT m) (by decide +kernel) (by omega)
  have a11 := dAdd_lit (a := ("text " : Str) ++ nT m) (b := ".0") (by omega) (by decide +kernel)
  have a12 := dAdd_lit (a := "text\t") (b := nT m) (by decide +kernel) (by omega)
  have hst : dStr [.int (m : Nat)] = some (.str (nT m)) := dStr_n (by omega)
  unfold wfS at e
  simp only [List.map_cons, List.map_nil] at e
  generalize ("text 0" : Str) ++ nT m = b1 at *
  generalize ("text -" : Str) ++ nT m = b2 at *
  generalize ("text +" : Str) ++ nT m = b3 at *
  generalize ("texts " : Str) ++ nT m = b4 at *
  generalize (" text " : Str) ++ nT m = b7 at *
  generalize ("text  " : Str) ++ nT m = b8 at *
  generalize ("Text " : Str) ++ nT m = b10 at *
  generalize ("text\t" : Str) ++ nT m = b12 at *
  generalize ("text " : Str) ++ nT m = b5 at *
  generalize b5 ++ (" " : Str) = b6 at *
  generalize b5 ++ (" 1" : Str) = b9 at *
  generalize b5 ++ (".0" : Str) = b11 at *
  generalize nT m = bm at *
  clear hs h1 h2 hn hT h5
  obtain ⟨r, hr⟩ := ev (f_law_wrong_first [hd ds j, tI m])
  rw [hr]
  simp -implicitDefEqProofs (disch := first | omega | (simp <;> omega) | fail) [f_law_wrong_first, b_f_law_wrong_first, q_mkFn, hst, a1, a2, a3, a4, a5, a6, a7, a8, a9, a10, a11, a12, e] at hr
  exact hr.symm
end K23
namespace K23
open PySem PySem.Spec PyProof.Rows L2 VS TL
theorem tk_of (ds : List Int) (j : Nat) {m : Int} (h : 0 < m) : ∃ a : Nat, tk ds j m = a ∧ (a : Int) < m := ⟨_, rfl, tk_lt h⟩
theorem s_min : ("-" : Str) = tx [45] := by decide +kernel
theorem s_plus : ("+" : Str) = tx [43] := by decide +kernel
theorem s_zz : ("000000000000" : Str) = tx [48,48,48,48,48,48,48,48,48,48,48,48] := by decide +kernel
theorem s_x : ("x" : Str) = tx [120] := by decide +kernel
theorem s_com : ("," : Str) = tx [44] := by decide +kernel
theorem s_u0 : ("_0" : Str) = tx [95,48] := by decide +kernel
theorem s_dot : ("." : Str) = tx [46] := by decide +kernel
theorem s_tab : ("\t" : Str) = tx [9] := by decide +kernel
theorem s_b : ("b" : Str) = tx [98] := by decide +kernel
theorem s_emp : ("" : Str) = tx [] := by decide +kernel
theorem on_bad : ∀ d < 10, badTk (tx ([111,110] ++ [32] ++ numL d)) = true := by decide +kernel
theorem over_bad : ∀ d < 10, badTk (tx ([111,118,101,114] ++ [32] ++ numL d)) = true := by decide +kernel
theorem k_on : (("on" : Str)) = tx [111,110] := by decide +kernel
theorem k_over : (("over" : Str)) = tx [111,118,101,114] := by decide +kernel
theorem lookup0 {w : List Nat} (h : tab_COUNTS.lookup (tx w) = some (.int 0)) : w = [111,110] ∨ w = [111,118,101,114] := by
  unfold tab_COUNTS at h
  simp only [List.lookup] at h
  split at h
  · rename_i e
    rw [k_on] at e
    exact .inl (by simpa using e)
  · split at h
    · rename_i e
      rw [k_over] at e
      exact .inr (by simpa using e)
    · exfalso
      repeat' (split at h)
      all_goals first | (cases h) | (simp at h)
/-- a number's word, turned -/
def turns (W : List Nat) : List (List Nat) := [48 :: W, 45 :: W, 43 :: W, W ++ [48,48,48,48,48,48,48,48,48,48,48,48], W ++ [120], W ++ [44], W ++ [95,48], W ++ [46], W ++ [9], 9 :: W, [], W ++ [98]]
theorem turns_ok {n : Nat} (h : n < 1000000000000) : ∀ x ∈ turns (numL n), RdB x ∧ 32 ∉ x ∧ 10 ∉ x ∧ x.length ≤ 30 := by
  have hl := num_len h
  have hp := num_pos n
  have hm : ∀ c ∈ numL n, 48 ≤ c ∧ c ≤ 57 := fun c hc => num_mem hc
  generalize numL n = W at *
  have s32 : 32 ∉ W := fun h => by have := hm 32 h; omega
  have s10 : 10 ∉ W := fun h => by have := hm 10 h; omega
  intro x hx
  have go : ∀ y : List Nat, y.length ≤ 30 → 32 ∉ y → 10 ∉ y → (y.length = 0 ∨ 12 < y.length ∨ (y.head? = some 48 ∧ y ≠ [48]) ∨ ∃ c ∈ y, ¬ (48 ≤ c ∧ c ≤ 57)) → RdB y ∧ 32 ∉ y ∧ 10 ∉ y ∧ y.length ≤ 30 := fun y h1 h2 h3 h4 => ⟨rn_bad (by omega) h4, h2, h3, h1⟩
  unfold turns at hx
  simp only [List.mem_cons, List.not_mem_nil, or_false] at hx
  rcases hx with rfl | rfl | rfl | rfl | rfl | rfl | rfl | rfl | rfl | rfl | rfl | rfl
  · refine go _ (by simp; omega) (by simp [s32]) (by simp [s10]) (.inr (.inr (.inl ⟨rfl, fun e => ?_⟩)))
    have : W = [] := (List.cons.inj e).2
    rw [this] at hp
    simp at hp
  · exact go _ (by simp; omega) (by simp [s32]) (by simp [s10]) (.inr (.inr (.inr ⟨45, by simp, by omega⟩)))
  · exact go _ (by simp; omega) (by simp [s32]) (by simp [s10]) (.inr (.inr (.inr ⟨43, by simp, by omega⟩)))
  · exact go _ (by simp; omega) (by simp [s32]) (by simp [s10]) (.inr (.inl (by simp; omega)))
  · exact go _ (by simp; omega) (by simp [s32]) (by simp [s10]) (.inr (.inr (.inr ⟨120, by simp, by omega⟩)))
  · exact go _ (by simp; omega) (by simp [s32]) (by simp [s10]) (.inr (.inr (.inr ⟨44, by simp, by omega⟩)))
  · exact go _ (by simp; omega) (by simp [s32]) (by simp [s10]) (.inr (.inr (.inr ⟨95, by simp, by omega⟩)))
  · exact go _ (by simp; omega) (by simp [s32]) (by simp [s10]) (.inr (.inr (.inr ⟨46, by simp, by omega⟩)))
  · exact go _ (by simp; omega) (by simp [s32]) (by simp [s10]) (.inr (.inr (.inr ⟨9, by simp, by omega⟩)))
  · exact go _ (by simp; omega) (by simp [s32]) (by simp [s10]) (.inr (.inr (.inr ⟨9, by simp, by omega⟩)))
  · exact go _ (by simp) (by simp) (by simp) (.inl rfl)
  · exact go _ (by simp; omega) (by simp [s32]) (by simp [s10]) (.inr (.inr (.inr ⟨98, by simp, by omega⟩)))
theorem cut_to {α : Type} {l : List α} {k : Nat} : VS.cutD l none (some (k : Int)) = l.take k := by
  unfold VS.cutD
  rw [HT.sIx_nat]
  show (l.drop 0).take (min k l.length - 0) = _
  rw [List.drop_zero, Nat.sub_zero]
  rcases Nat.le_total k l.length with h | h
  · rw [Nat.min_eq_left h]
  · rw [Nat.min_eq_right h, List.take_length, List.take_of_length_le h]
theorem cut_fr {α : Type} {l : List α} {k : Nat} : VS.cutD l (some (k : Int)) none = l.drop k := by
  unfold VS.cutD
  rw [HT.sIx_nat]
  show (l.drop (min k l.length)).take (l.length - min k l.length) = _
  rcases Nat.le_total k l.length with h | h
  · rw [Nat.min_eq_left h, List.take_of_length_le (by rw [List.length_drop]; omega)]
  · rw [Nat.min_eq_right h, List.drop_length, List.drop_of_length_le h]
    simp
theorem spoilt_number_eq {t : Tk} (ok : TkOk t) (ds : List Int) (j : Nat) : ∃ (x : List Nat) (j' : Nat), TkB x ∧ RowOk x ∧ f_law_spoilt_number [hd ds j, tS (rowL t)] = some (tS x, [some (hd ds j'), some (tS (rowL t))]) := by
  have hrl := rowL_len ok
  have hs : ∀ S, kSplit2 (.str (tx (rowL t))) (.str (tx [32])) S = some (.lst (tS t.w :: t.ns.map fun n => tS (numL n)), S) := fun S => by
    rw [kSplit2_s (rowL_split ok.sp) rfl (by rw [tx_len]; omega)]
    simp [Function.comp_def]
  by_cases c : t.ns.length = 0
  · have hn : t.ns = [] := List.length_eq_zero_iff.mp c
    have hw : t.w = [111,110] ∨ t.w = [111,118,101,114] := by
      refine lookup0 ?_
      have hd : t.w ≠ DEAD := fun e => by have := ok.d e; omega
      rw [ok.k hd, c]
      rfl
    have hrow : rowL t = t.w := by unfold rowL; rw [hn]; rfl
    obtain ⟨d, hd1, hd2⟩ := tk_of ds j (m := 10) (by omega)
    have hb : badTk (tx (t.w ++ [32] ++ numL d)) = true := by
      rcases hw with e | e <;> rw [e]
      · exact on_bad d (by omega)
      · exact over_bad d (by omega)
    obtain ⟨x, hx, h1, h2⟩ := badTk_of hb
    have hx' : t.w ++ [32] ++ numL d = x := tx_inj hx
    refine ⟨x, j + 1, h1, h2, ?_⟩
    have hwl := ok.wl
    have hnl := num_len (n := d) (by omega)
    have a1 := dAdd_tx (a := rowL t) (b := [32]) (by simp; omega)
    have a2 := addT_tx (a := rowL t ++ [32]) (b := numL d) (by simp; omega)
    rw [hrow, hx'] at a2
    rw [hrow] at a1
    have hst : dStr [.int (d : Nat)] = some (.str (nT d)) := dStr_n (by omega)
    rw [hn] at hs
    rw [hrow] at hs ⊢
    obtain ⟨r, hr⟩ := ev (f_law_spoilt_number [hd ds j, tS t.w])
    rw [hr]
    clear hb hx hw
    generalize t.w ++ [32] = w2 at *
    simp -implicitDefEqProofs (disch := first | omega | (simp <;> omega) | fail) [-tx_app, f_law_spoilt_number, b_f_law_spoilt_number, q_mkFn, l_sp, hs, take_s, hd1, hst, a1, a2] at hr
    exact hr.symm
  · obtain ⟨a, ha1, ha2⟩ := tk_of ds j (m := (t.ns.length : Int)) (by omega)
    have halt : a < t.ns.length := by omega
    obtain ⟨b, hb1, hb2⟩ := tk_of ds (j + 1) (m := 12) (by omega)
    have hn12 := ok.n _ (List.getElem_mem halt)
    have hT := turns_ok hn12
    have hnl := num_len hn12
    have hword : L2.atI (sD' t.w :: t.ns.map fun n => sD' (numL n)) ((1 : Int) + (a : Int)) = some (sD' (numL t.ns[a])) := by
      rw [show (1 : Int) + (a : Int) = ((a + 1 : Nat) : Int) by omega, atI_pos, List.getElem?_cons_succ, List.getElem?_map, List.getElem?_eq_getElem halt]
      rfl
    generalize hW : numL t.ns[a] = W at *
    obtain ⟨x, hx, hat⟩ := atI_in (xs := turns W) (b := b) (by unfold turns; simp; omega)
    obtain ⟨x1, x2, x3, x4⟩ := hT x hx
    have hat' : L2.atI [tS (48 :: W), tS (45 :: W), tS (43 :: W), tS (W ++ [48,48,48,48,48,48,48,48,48,48,48,48]), tS (W ++ [120]), tS (W ++ [44]), tS (W ++ [95,48]), tS (W ++ [46]), tS (W ++ [9]), tS (9 :: W), tS [], tS (W ++ [98])] (b : Int) = some (tS x) := by
      have e : L2.atI ((turns W).map tS) (b : Int) = some (tS x) := by
        rw [atI_pos, List.getElem?_map, ← atI_pos, hat]
        rfl
      exact e
    have hwl := ok.wl
    have hl7 := ok.l
    obtain ⟨L, hL⟩ := ev (t.ns.map numL)
    have hLl : L.length = t.ns.length := by rw [← hL, List.length_map]
    have hLm : ∀ q ∈ L, ∃ n, n < 1000000000000 ∧ q = numL n := fun q hq => by
      rw [← hL] at hq
      obtain ⟨n, h1, rfl⟩ := List.mem_map.mp hq
      exact ⟨n, ok.n n h1, rfl⟩
    have hLq : ∀ q ∈ L, 32 ∉ q ∧ 10 ∉ q ∧ q.length ≤ 12 := fun q hq => by
      obtain ⟨n, h1, rfl⟩ := hLm q hq
      exact ⟨fun h => by have := num_mem h; omega, fun h => by have := num_mem h; omega, num_len h1⟩
    obtain ⟨Q, hQ⟩ := ev (L.take a ++ x :: L.drop (a + 1))
    have hQm : ∀ q ∈ Q, q = x ∨ q ∈ L := fun q hq => by
      rw [← hQ] at hq
      rcases List.mem_append.mp hq with h | h
      · exact .inr (List.mem_of_mem_take h)
      · rcases List.mem_cons.mp h with h | h
        · exact .inl h
        · exact .inr (List.mem_of_mem_drop h)
    have hQl : Q.length ≤ 50 := by
      rw [← hQ]
      simp
      omega
    have hB : TkB (joinL [32] (t.w :: Q)) := by
      refine tk_words ok.sp (fun q hq => ?_) (fun q hq => ?_) hQl (fun q hq => ?_) ⟨x, ?_, x1⟩
      · rcases hQm q hq with rfl | h
        · exact x2
        · exact (hLq q h).1
      · rcases List.mem_cons.mp hq with rfl | hq
        · omega
        · rcases hQm q hq with rfl | h
          · omega
          · have := (hLq q h).2.2; omega
      · rcases hQm q hq with rfl | h
        · exact .inl x1
        · obtain ⟨n, h1, rfl⟩ := hLm q h
          exact .inr ⟨n, read_number_eq h1⟩
      · rw [← hQ]
        simp
    have hall : ∀ q ∈ t.w :: Q, q.length ≤ 30 ∧ 10 ∉ q := fun q hq => by
      rcases List.mem_cons.mp hq with rfl | hq
      · exact ⟨by omega, ok.nl⟩
      · rcases hQm q hq with rfl | h
        · exact ⟨x4, x3⟩
        · exact ⟨by have := (hLq q h).2.2; omega, (hLq q h).2.1⟩
    have hQl8 : Q.length ≤ 7 := by
      rw [← hQ]
      simp
      omega
    have hR : RowOk (joinL [32] (t.w :: Q)) := by
      refine ⟨fun h => ?_, ?_⟩
      · rcases joinL_mem h with h | ⟨p, h1, h2⟩
        · simp at h
        · exact (hall p h1).2 h2
      · have h1 := joinL_bd (S := [32]) (k := 30) fun p hp => (hall p hp).1
        have h2 : (t.w :: Q).length * (30 + [32].length) ≤ 8 * 31 := Nat.mul_le_mul (by simp; omega) (by decide)
        exact Nat.le_trans h1 (Nat.le_trans h2 (by decide))
    refine ⟨joinL [32] (t.w :: Q), j + 1 + 1, hB, hR, ?_⟩
    have tks := take_s (ds := ds) (j := j) (m := (t.ns.length : Int)) (by omega)
    rw [ha1] at tks
    obtain ⟨m, hm⟩ : ∃ m : Int, m = (t.ns.length : Int) + 1 := ⟨_, rfl⟩
    rw [show (t.ns.length : Int) = m - 1 by omega] at tks
    obtain ⟨WT, hWT⟩ := ev (tS t.w :: L.map tS)
    obtain ⟨WD, hWD⟩ := ev (sD' t.w :: L.map sD')
    have hfz : WT.map fz = WD := by
      rw [← hWT, ← hWD, List.map_cons, List.map_map]
      rfl
    have hLW : (t.ns.map fun n => tS (numL n)) = L.map tS := by
      rw [← hL, List.map_map]
      rfl
    rw [hLW, hWT] at hs
    have hlen : dLen [.lst WD] = some (.int m) := by
      show some (D.int (WD.length : Nat)) = _
      rw [← hWD, List.length_cons, List.length_map, hLl, hm]
      rfl
    have hm1 : (m == 1) = false := beq_eq_false_iff_ne.mpr (by omega)
    have hat2 : L2.atI WD (1 + (a : Int)) = some (sD' W) := by
      rw [← hWD, ← hL, List.map_map]
      exact hword
    have hc1 : VS.cutD WD none (some (1 + (a : Int))) = (t.w :: L.take a).map sD' := by
      rw [show (1 : Int) + (a : Int) = ((a + 1 : Nat) : Int) by omega, cut_to, ← hWD, List.take_succ_cons, ← List.map_take]
      rfl
    have hc2 : VS.cutD WD (some (1 + (a : Int) + 1)) none = (L.drop (a + 1)).map sD' := by
      rw [show (1 : Int) + (a : Int) + 1 = ((a + 2 : Nat) : Int) by omega, cut_fr, ← hWD, List.drop_succ_cons, ← List.map_drop]
    have hj := joinD_tx (y := [32]) (ls := t.w :: Q) (k := 30) (fun p hp => (hall p hp).1) (by
      have h2 : (t.w :: Q).length * (30 + [32].length) ≤ 8 * 31 := Nat.mul_le_mul (by simp; omega) (by decide)
      omega)
    rw [← hQ] at hj ⊢
    have a1 := dAdd_tx (a := [48]) (b := W) (by simp; omega)
    have a2 := dAdd_tx (a := [45]) (b := W) (by simp; omega)
    have a3 := dAdd_tx (a := [43]) (b := W) (by simp; omega)
    have a4 := dAdd_tx (a := W) (b := [48,48,48,48,48,48,48,48,48,48,48,48]) (by simp; omega)
    have a5 := dAdd_tx (a := W) (b := [120]) (by simp; omega)
    have a6 := dAdd_tx (a := W) (b := [44]) (by simp; omega)
    have a7 := dAdd_tx (a := W) (b := [95,48]) (by simp; omega)
    have a8 := dAdd_tx (a := W) (b := [46]) (by simp; omega)
    have a9 := dAdd_tx (a := W) (b := [9]) (by simp; omega)
    have a10 := dAdd_tx (a := [9]) (b := W) (by simp; omega)
    have a11 := dAdd_tx (a := W) (b := [98]) (by simp; omega)
    simp only [List.singleton_append] at a1 a2 a3 a10
    clear hT hLm hLq hQm hall hR hB hword hat x1 x2 x3 x4 hx
    generalize (48 :: W) = b1 at *
    generalize (45 :: W) = b2 at *
    generalize (43 :: W) = b3 at *
    generalize W ++ [48,48,48,48,48,48,48,48,48,48,48,48] = b4 at *
    generalize W ++ [120] = b5 at *
    generalize W ++ [44] = b6 at *
    generalize W ++ [95,48] = b7 at *
    generalize W ++ [46] = b8 at *
    generalize W ++ [9] = b9 at *
    generalize (9 :: W) = b10 at *
    generalize W ++ [98] = b11 at *
    have ll1 : (L.take a).length ≤ 10 := by rw [List.length_take]; omega
    have ll2 : (L.drop (a + 1)).length ≤ 10 := by rw [List.length_drop]; omega
    simp only [List.map_cons, List.map_append, List.cons_append] at hj hc1
    clear hQl hQl8
    generalize L.take a = LA at *
    generalize L.drop (a + 1) = LB at *
    generalize joinL [32] (t.w :: (LA ++ x :: LB)) = J at *
    generalize rowL t = RW at *
    clear hWT hWD
    obtain ⟨r, hr⟩ := ev (f_law_spoilt_number [hd ds j, tS RW])
    rw [hr]
    simp -implicitDefEqProofs (disch := first | omega | (simp <;> omega) | fail) [-tx_app, -tx_beq, -cutD_map, -atI_map, Function.comp_def, f_law_spoilt_number, b_f_law_spoilt_number, q_mkFn, l_sp, l_0, s_min, s_plus, s_zz, s_x, s_com, s_u0, s_dot, s_tab, s_b, s_emp, hs, hfz, hlen, hm1, tks, take_s, hb1, hat2, hat', hc1, hc2, hj, a1, a2, a3, a4, a5, a6, a7, a8, a9, a10, a11] at hr
    exact hr.symm
end K23
namespace K23
open PySem PySem.Spec PyProof.Rows L2 VS TL
/-- what is told of the rows of a paper -/
structure Rw (R : List (List Nat)) (n : Nat) (ts : List Tk) (name : List Nat) : Prop where
  len : R.length = n + ts.length + 2
  h0 : R[0]? = some (headL n)
  hp : R[n + 1]? = some (procL name)
  ht : ∀ (c : Nat) (t : Tk), ts[c]? = some t → R[n + 2 + c]? = some (rowL t)
  ok : ∀ p ∈ R, RowOk p
  n0 : 0 < n
  n1 : n < 66
  t0 : 0 < ts.length
  t1 : ts.length ≤ 70
  tk : ∀ t ∈ ts, TkOk t
theorem rw_of {lines : List (List Nat)} {name : List Nat} {ts : List Tk} (ok : PpOk lines name ts) : Rw (rowsL lines name ts) lines.length ts name where
  len := rows_count ok
  h0 := rfl
  hp := by
    unfold rowsL
    rw [List.getElem?_cons_succ, List.getElem?_append_right (Nat.le_refl _), Nat.sub_self]
    rfl
  ht := fun c t h => by
    unfold rowsL
    rw [show lines.length + 2 + c = lines.length + (c + 1) + 1 by omega, List.getElem?_cons_succ, List.getElem?_append_right (by omega), show lines.length + (c + 1) - lines.length = c + 1 by omega, List.getElem?_cons_succ, List.getElem?_map, h]
    rfl
  ok := fun p hp => ⟨rows_nl ok p hp, Nat.le_trans (rows_len ok p hp) (by decide)⟩
  n0 := ok.l0
  n1 := by have := ok.l1; omega
  t0 := ok.t0
  t1 := ok.t1
  tk := ok.t
theorem proc_ok {name : List Nat} : ¬ PrB (procL name) := fun h => h rfl
theorem tk_good {t : Tk} (ok : TkOk t) : TkG (rowL t) := ⟨tkD t, _, read_token_eq ok, by unfold tkD; split <;> rfl⟩
theorem ct_head {n : Nat} (h0 : 0 < n) (h : n < 1000000000000) : CtN (headL n) n := read_count_eq h0 h
theorem e_tk : TkB [] := by
  obtain ⟨x, hx, h1, _⟩ := badTk_of (List.all_eq_true.mp wt_bad "" (by decide +kernel))
  have : x = [] := by
    have e : (tx x) = tx [] := by rw [← hx]; exact s_emp
    exact tx_inj e
  rw [this] at h1
  exact h1
theorem e_ct : CtB [] := by
  obtain ⟨x, hx, h1, _⟩ := badCt_of (s := "") (by decide +kernel)
  have : x = [] := by
    have e : (tx x) = tx [] := by rw [← hx]; exact s_emp
    exact tx_inj e
  rw [this] at h1
  exact h1
section
variable {R : List (List Nat)} {n : Nat} {ts : List Tk} {name : List Nat}
theorem rws_of (W : Rw R n ts name) {ws : List (List Nat)} (ne : ws ≠ []) (h : ∀ p ∈ ws, p ∈ R ∨ RowOk p) (hl : ws.length ≤ 200) : Rws ws := ⟨ne, fun p hp => (h p hp).elim (fun q => (W.ok p q).1) (·.1), fun p hp => (h p hp).elim (fun q => (W.ok p q).2) (·.2), hl⟩
theorem good_at (W : Rw R n ts name) {k : Nat} {z : List Nat} (h1 : n + 2 ≤ k) (hz : R[k]? = some z) : TkG z := by
  have hl := (List.getElem?_eq_some_iff.mp hz).1
  rw [W.len] at hl
  have hc : k - (n + 2) < ts.length := by omega
  have e := W.ht (k - (n + 2)) _ (List.getElem?_eq_getElem hc)
  rw [show n + 2 + (k - (n + 2)) = k by omega, hz] at e
  rw [Option.some.inj e]
  exact tk_good (W.tk _ (List.getElem_mem hc))
/-- one row behind the head put in the place of another -/
theorem put_at {k : Nat} {x : List Nat} (hk : k < R.length) : (R.take k ++ x :: R.drop (k + 1)).length = R.length ∧ (R.take k ++ x :: R.drop (k + 1))[k]? = some x ∧ (∀ j, j < k → (R.take k ++ x :: R.drop (k + 1))[j]? = R[j]?) ∧ ∀ p ∈ R.take k ++ x :: R.drop (k + 1), p ∈ R ∨ p = x := by
  have hl : (R.take k).length = k := by rw [List.length_take]; omega
  refine ⟨?_, ?_, fun j hj => ?_, fun p hp => ?_⟩
  · simp
    omega
  · rw [List.getElem?_append_right (by omega), hl, Nat.sub_self]
    rfl
  · rw [List.getElem?_append_left (by omega), List.getElem?_take_of_lt hj]
  · rcases List.mem_append.mp hp with h | h
    · exact .inl (List.mem_of_mem_take h)
    · rcases List.mem_cons.mp h with h | h
      · exact .inr h
      · exact .inl (List.mem_of_mem_drop h)
theorem err_put (W : Rw R n ts name) {c : Nat} {x : List Nat} (hc : c < ts.length) (b : TkB x) : Err (R.take (n + 2 + c) ++ x :: R.drop (n + 2 + c + 1)) (n + 2 + c + 1) := by
  have hl := W.len
  obtain ⟨p1, p2, p3, p4⟩ := put_at (R := R) (x := x) (k := n + 2 + c) (by omega)
  have hn1 := W.n1
  exact .d (headL n) n (procL name) x (by rw [p3 0 (by omega)]; exact W.h0) (ct_head W.n0 (by omega)) (by rw [p3 (n + 1) (by omega)]; exact W.hp) proc_ok (by omega) (by rw [show n + 2 + c + 1 - 1 = n + 2 + c by omega]; exact p2) b (fun k z h1 h2 h3 => good_at W h1 (by rw [← p3 k (by omega)]; exact h3))
end
theorem tI_z {k : Nat} {z : Int} (h : ((k : Nat) : Int) = z) : tI k = tZ z := congrArg (fun z => T.sh (D.int z)) h
theorem fz_put (A B : List D) (x : List Nat) : fz (.lst (A.map .sh ++ tS x :: B.map .sh)) = .lst (A ++ sD' x :: B) := by
  rw [fz_lst, List.map_append, List.map_cons, List.map_map, List.map_map]
  show D.lst (A.map (fun d => fz (.sh d)) ++ sD' x :: B.map (fun d => fz (.sh d))) = _
  have h : ∀ l : List D, l.map (fun d => fz (.sh d)) = l := fun l => by
    induction l with
    | nil => rfl
    | cons d l ih => rw [List.map_cons, ih]; rfl
  rw [h, h]
theorem cut1 {α : Type} {l : List α} : VS.cutD l (some 1) none = l.drop 1 := cut_fr (k := 1)
theorem spoilt5 {R : List (List Nat)} {n : Nat} {ts : List Tk} {name : List Nat} (W : Rw R n ts name) {RT : T} (hfz : fz RT = .lst (R.map sD')) (ds : List Int) (j : Nat) {a : Nat} (ha1 : tk ds j 8 = a) (h5 : 5 ≤ a) :
    ∃ (X Y : T) (ws : List (List Nat)) (r0 r j' : Nat), f_law_spoilt [hd ds j, RT, tI n] = some (X, [some (hd ds j'), some (.sh (.lst (R.map sD'))), some (tI n)]) ∧ kidsTu X = some [Y, tI r0] ∧ fz Y = .lst (ws.map sD') ∧ Rws ws ∧ Err ws r ∧ 0 < r ∧ (r0 = r ∨ (r0 = 0 ∧ r = ws.length)) := by
  have hlen := W.len
  have hn0 := W.n0
  have hn1 := W.n1
  have ht0 := W.t0
  have ht1 := W.t1
  have hL : dLen [.lst (R.map sD')] = some (.int (R.length : Nat)) := rw_lens R
  obtain ⟨WD, hWD⟩ := ev (R.map sD')
  rw [hWD] at hfz hL ⊢
  obtain ⟨c, hc1, hc2⟩ := tk_of ds (j + 1) (m := (R.length : Int) - ((n : Int) + 2)) (by omega)
  have tks := take_s (ds := ds) (j := j + 1) (m := (R.length : Int) - ((n : Int) + 2)) (by omega)
  rw [hc1] at tks
  have hct : c < ts.length := by omega
  obtain ⟨t, ht⟩ : ∃ t, ts[c]? = some t := ⟨_, List.getElem?_eq_getElem hct⟩
  have htk := W.tk t (List.mem_of_getElem? ht)
  obtain ⟨x, j1, x1, x2, e1⟩ := wrong_token_eq ds (j + 1 + 1)
  obtain ⟨y, j2, y1, y2, e2⟩ := spoilt_number_eq htk ds j1
  obtain ⟨b, hb1, hb2⟩ := tk_of ds j2 (m := 2) (by omega)
  obtain ⟨z, hat, z1, z2⟩ : ∃ z, L2.atI [tS x, tS y] (b : Int) = some (tS z) ∧ TkB z ∧ RowOk z := by
    rcases (by omega : b = 0 ∨ b = 1) with rfl | rfl
    · exact ⟨x, rfl, x1, x2⟩
    · exact ⟨y, rfl, y1, y2⟩
  obtain ⟨F, hF⟩ := ev ((n : Int) + 2)
  rw [hF] at tks
  have hrow : L2.atI WD (F + (c : Int)) = some (sD' (rowL t)) := by
    rw [show F + (c : Int) = ((n + 2 + c : Nat) : Int) by omega, ← hWD]
    exact rw_at (W.ht c t ht)
  have hq1 : VS.cutD WD none (some (F + (c : Int))) = (R.take (n + 2 + c)).map sD' := by rw [show F + (c : Int) = ((n + 2 + c : Nat) : Int) by omega, cut_to, ← hWD, List.map_take]
  have hq2 : VS.cutD WD (some (F + (c : Int) + 1)) none = (R.drop (n + 2 + c + 1)).map sD' := by rw [show F + (c : Int) + 1 = ((n + 2 + c + 1 : Nat) : Int) by omega, cut_fr, ← hWD, List.map_drop]
  have n0 : ((a : Int) == 0) = false := beq_eq_false_iff_ne.mpr (by omega)
  have n1 : ((a : Int) == 1) = false := beq_eq_false_iff_ne.mpr (by omega)
  have n2 : ((a : Int) == 2) = false := beq_eq_false_iff_ne.mpr (by omega)
  have n3 : ((a : Int) == 3) = false := beq_eq_false_iff_ne.mpr (by omega)
  have n4 : ((a : Int) == 4) = false := beq_eq_false_iff_ne.mpr (by omega)
  obtain ⟨p1, p2, p3, p4⟩ := put_at (R := R) (x := z) (k := n + 2 + c) (by omega)
  have hE := err_put W hct z1
  have hR : Rws (R.take (n + 2 + c) ++ z :: R.drop (n + 2 + c + 1)) := by
    refine rws_of W (by simp) (fun p hp => ?_) (by rw [p1]; omega)
    rcases p4 p hp with h | h
    · exact .inl h
    · rw [h]; exact .inr z2
  refine ⟨.tup [.lst (((R.take (n + 2 + c)).map sD').map .sh ++ tS z :: ((R.drop (n + 2 + c + 1)).map sD').map .sh), tI (n + 2 + c + 1)], .lst (((R.take (n + 2 + c)).map sD').map .sh ++ tS z :: ((R.drop (n + 2 + c + 1)).map sD').map .sh), R.take (n + 2 + c) ++ z :: R.drop (n + 2 + c + 1), n + 2 + c + 1, n + 2 + c + 1, j2 + 1, ?_, rfl, ?_, hR, hE, Nat.succ_pos _, .inl rfl⟩
  · obtain ⟨q, hq⟩ := ev (f_law_spoilt [hd ds j, RT, tI n])
    rw [hq]
    have l1 : ((R.take (n + 2 + c)).map sD').length ≤ 200 := by simp; omega
    have l2 : ((R.drop (n + 2 + c + 1)).map sD').length ≤ 200 := by simp; omega
    rw [tI_z (k := n + 2 + c + 1) (z := F + (c : Int) + 1) (by omega)]
    generalize (R.take (n + 2 + c)).map sD' = D1 at *
    generalize (R.drop (n + 2 + c + 1)).map sD' = D2 at *
    generalize (R.length : Int) = M at *
    simp -implicitDefEqProofs (disch := first | omega | (simp <;> omega) | fail) [-cutD_map, -atI_map, f_law_spoilt, b_f_law_spoilt, q_mkFn, take_s, ha1, n0, n1, n2, n3, n4, hF, hL, tks, e1, e2, hb1, hat, hfz, hrow, hq1, hq2] at hq
    exact hq.symm
  · rw [fz_put, List.map_append, List.map_cons]
theorem spoilt_eq {R : List (List Nat)} {n : Nat} {ts : List Tk} {name : List Nat} (W : Rw R n ts name) {RT : T} (hfz : fz RT = .lst (R.map sD')) (ds : List Int) (j : Nat) :
    ∃ (X Y : T) (ws : List (List Nat)) (r0 r j' : Nat), f_law_spoilt [hd ds j, RT, tI n] = some (X, [some (hd ds j'), some (.sh (.lst (R.map sD'))), some (tI n)]) ∧ kidsTu X = some [Y, tI r0] ∧ fz Y = .lst (ws.map sD') ∧ Rws ws ∧ Err ws r ∧ 0 < r ∧ (r0 = r ∨ (r0 = 0 ∧ r = ws.length)) := by
  have hlen := W.len
  have hn0 := W.n0
  have hn1 := W.n1
  have ht0 := W.t0
  have ht1 := W.t1
  have hL : dLen [.lst (R.map sD')] = some (.int (R.length : Nat)) := rw_lens R
  have hfz0 := hfz
  obtain ⟨WD, hWD⟩ := ev (R.map sD')
  rw [hWD] at hfz hL ⊢
  obtain ⟨a, ha1, ha2⟩ := tk_of ds j (m := 8) (by omega)
  rcases (by omega : a = 0 ∨ a = 1 ∨ a = 2 ∨ a = 3 ∨ a = 4 ∨ 5 ≤ a) with rfl | rfl | rfl | rfl | rfl | h5
  · obtain ⟨x, j1, x1, x2, e1⟩ := wrong_first_eq ds (j + 1) n hn1
    have hc : VS.cutD WD (some 1) none = (R.drop 1).map sD' := by rw [cut1, ← hWD, List.map_drop]
    refine ⟨.tup [.lst (tS x :: ((R.drop 1).map sD').map .sh), tI 1], .lst (tS x :: ((R.drop 1).map sD').map .sh), x :: R.drop 1, 1, 1, j1, ?_, rfl, ?_, ?_, .a x rfl x1 rfl, by omega, .inl rfl⟩
    · obtain ⟨q, hq⟩ := ev (f_law_spoilt [hd ds j, RT, tI n])
      rw [hq]
      have l1 : ((R.drop 1).map sD').length ≤ 200 := by simp; omega
      generalize (R.drop 1).map sD' = D1 at *
      simp -implicitDefEqProofs (disch := first | omega | (simp <;> omega) | fail) [-cutD_map, -atI_map, f_law_spoilt, b_f_law_spoilt, q_mkFn, take_s, ha1, e1, hfz, hc] at hq
      exact hq.symm
    · rw [fz_lst, List.map_cons, List.map_map]
      exact congrArg D.lst (congrArg (D.str (tx x) :: ·) (List.map_id _))
    · refine rws_of W (by simp) (fun p hp => ?_) (by simp; omega)
      rcases List.mem_cons.mp hp with rfl | h
      · exact .inr x2
      · exact .inl (List.mem_of_mem_drop h)
  · obtain ⟨cd, hcd, e1⟩ := pick_s (ds := ds) (j := j + 1) (xs := [.int ((R.length : Int) - 1), .int (R.length : Int), .int ((R.length : Int) + 1), .int 999999999999]) (by simp) (by simp)
    obtain ⟨c, hc, rfl⟩ : ∃ c : Nat, (R.length < c + 2 ∧ 0 < c ∧ c < 1000000000000) ∧ cd = .int (c : Nat) := by
      simp only [List.mem_cons, List.not_mem_nil, or_false] at hcd
      rcases hcd with rfl | rfl | rfl | rfl
      · exact ⟨R.length - 1, by omega, by congr 1; omega⟩
      · exact ⟨R.length, by omega, rfl⟩
      · exact ⟨R.length + 1, by omega, by congr 1⟩
      · exact ⟨999999999999, by omega, rfl⟩
    have hc1 : VS.cutD WD (some 1) none = (R.drop 1).map sD' := by rw [cut1, ← hWD, List.map_drop]
    have hst : dStr [.int (c : Nat)] = some (.str (nT c)) := dStr_n hc.2.2
    have hnl := num_len hc.2.2
    have ad : dAdd (.str (tx [116,101,120,116,32])) (.str (nT c)) = some (.str (tx (headL c))) := dAdd_tx (a := [116,101,120,116,32]) (b := numL c) (by simp; omega)
    refine ⟨.tup [.lst (tS (headL c) :: ((R.drop 1).map sD').map .sh), tI (R.length + 1)], .lst (tS (headL c) :: ((R.drop 1).map sD').map .sh), headL c :: R.drop 1, R.length + 1, R.length + 1, j + 1 + 1, ?_, rfl, ?_, ?_, .b (headL c) c rfl (ct_head hc.2.1 hc.2.2) (by simp; omega) (by simp; omega), by omega, .inl rfl⟩
    · obtain ⟨q, hq⟩ := ev (f_law_spoilt [hd ds j, RT, tI n])
      rw [hq]
      have l1 : ((R.drop 1).map sD').length ≤ 200 := by simp; omega
      have e1' : f_law_pick [hd ds (j + 1), .lst [.sh (.int ((R.length : Int) - 1)), .sh (.int (R.length : Int)), .sh (.int ((R.length : Int) + 1)), .sh (.int 999999999999)]] = _ := e1
      rw [show tI (R.length + 1) = tZ ((R.length : Int) + 1) from rfl]
      generalize (R.drop 1).map sD' = D1 at *
      generalize (R.length : Int) = M at *
      simp -implicitDefEqProofs (disch := first | omega | (simp <;> omega) | fail) [-cutD_map, -atI_map, -tx_app, f_law_spoilt, b_f_law_spoilt, q_mkFn, take_s, ha1, e1', hfz, hc1, hL, hst, l_text, ad] at hq
      exact hq.symm
    · rw [fz_lst, List.map_cons, List.map_map]
      exact congrArg D.lst (congrArg (D.str (tx (headL c)) :: ·) (List.map_id _))
    · refine rws_of W (by simp) (fun p hp => ?_) (by simp; omega)
      rcases List.mem_cons.mp hp with rfl | h
      · refine .inr ⟨fun h => ?_, ?_⟩
        · unfold headL at h
          rcases List.mem_append.mp h with h | h
          · simp at h
          · have := num_mem h
            omega
        · unfold headL
          simp
          omega
      · exact .inl (List.mem_of_mem_drop h)
  · obtain ⟨x, j1, x1, x2, e1⟩ := wrong_name_eq ds (j + 1)
    obtain ⟨p1, p2, p3, p4⟩ := put_at (R := R) (x := x) (k := n + 1) (by omega)
    obtain ⟨F, hF⟩ := ev ((n : Int) + 2)
    have hc1 : VS.cutD WD none (some (F - 1)) = (R.take (n + 1)).map sD' := by rw [show F - 1 = ((n + 1 : Nat) : Int) by omega, cut_to, ← hWD, List.map_take]
    have hc2 : VS.cutD WD (some F) none = (R.drop (n + 1 + 1)).map sD' := by rw [show F = ((n + 1 + 1 : Nat) : Int) by omega, cut_fr, ← hWD, List.map_drop]
    refine ⟨.tup [.lst (((R.take (n + 1)).map sD').map .sh ++ tS x :: ((R.drop (n + 1 + 1)).map sD').map .sh), tI (n + 2)], .lst (((R.take (n + 1)).map sD').map .sh ++ tS x :: ((R.drop (n + 1 + 1)).map sD').map .sh), R.take (n + 1) ++ x :: R.drop (n + 1 + 1), n + 2, n + 2, j1, ?_, rfl, ?_, ?_, .c (headL n) n x (by rw [p3 0 (by omega)]; exact W.h0) (ct_head W.n0 (by omega)) p2 x1 rfl, by omega, .inl rfl⟩
    · obtain ⟨q, hq⟩ := ev (f_law_spoilt [hd ds j, RT, tI n])
      rw [hq]
      have l1 : ((R.take (n + 1)).map sD').length ≤ 200 := by simp; omega
      have l2 : ((R.drop (n + 1 + 1)).map sD').length ≤ 200 := by simp; omega
      rw [show tI (n + 2) = tZ F by rw [← hF]; rfl]
      generalize (R.take (n + 1)).map sD' = D1 at *
      generalize (R.drop (n + 1 + 1)).map sD' = D2 at *
      simp -implicitDefEqProofs (disch := first | omega | (simp <;> omega) | fail) [-cutD_map, -atI_map, f_law_spoilt, b_f_law_spoilt, q_mkFn, take_s, ha1, e1, hfz, hF, hc1, hc2] at hq
      exact hq.symm
    · rw [fz_put, List.map_append, List.map_cons]
    · refine rws_of W (by simp) (fun p hp => ?_) (by rw [p1]; omega)
      rcases p4 p hp with h | h
      · exact .inl h
      · rw [h]; exact .inr x2
  · obtain ⟨b, hb1, hb2⟩ := tk_of ds (j + 1) (m := (n : Int) + 2) (by omega)
    have tks := take_s (ds := ds) (j := j + 1) (m := (n : Int) + 2) (by omega)
    rw [hb1] at tks
    obtain ⟨F, hF⟩ := ev ((n : Int) + 2)
    rw [hF] at tks
    have hc1 : VS.cutD WD none (some (1 + (b : Int))) = (R.take (b + 1)).map sD' := by rw [show (1 : Int) + (b : Int) = ((b + 1 : Nat) : Int) by omega, cut_to, ← hWD, List.map_take]
    have hlt : (R.take (b + 1)).length = b + 1 := by rw [List.length_take]; omega
    have h0 : (R.take (b + 1))[0]? = some (headL n) := by rw [List.getElem?_take_of_lt (by omega)]; exact W.h0
    have hE : Err (R.take (b + 1)) (b + 1 + 1) := by
      rcases Nat.lt_or_ge b (n + 1) with h | h
      · exact .b (headL n) n h0 (ct_head W.n0 (by omega)) (by omega) (by omega)
      · exact .e (headL n) n (procL name) h0 (ct_head W.n0 (by omega)) (by rw [List.getElem?_take_of_lt (by omega)]; exact W.hp) proc_ok (by omega) (by omega)
    refine ⟨.tup [.lst (((R.take (b + 1)).map sD').map .sh), tI (b + 1 + 1)], .lst (((R.take (b + 1)).map sD').map .sh), R.take (b + 1), b + 1 + 1, b + 1 + 1, j + 1 + 1, ?_, rfl, ?_, ?_, hE, by omega, .inl rfl⟩
    · obtain ⟨q, hq⟩ := ev (f_law_spoilt [hd ds j, RT, tI n])
      rw [hq]
      have l1 : ((R.take (b + 1)).map sD').length ≤ 200 := by simp; omega
      rw [tI_z (k := b + 1 + 1) (z := 1 + (b : Int) + 1) (by omega)]
      generalize (R.take (b + 1)).map sD' = D1 at *
      simp -implicitDefEqProofs (disch := first | omega | (simp <;> omega) | fail) [-cutD_map, -atI_map, f_law_spoilt, b_f_law_spoilt, q_mkFn, take_s, ha1, tks, hfz, hF, hc1] at hq
      exact hq.symm
    · rw [fz_lst, List.map_map]
      exact congrArg D.lst (List.map_id _)
    · exact rws_of W (fun h => by rw [h] at hlt; simp at hlt) (fun p hp => .inl (List.mem_of_mem_take hp)) (by omega)
  · obtain ⟨b, hb1, hb2⟩ := tk_of ds (j + 1) (m := 2) (by omega)
    have lW : WD.length ≤ 200 := by rw [← hWD, List.length_map]; omega
    rcases (by omega : b = 0 ∨ b = 1) with rfl | rfl
    · have hl0 : (R ++ [([] : List Nat)]).length = n + 2 + ts.length + 1 := by simp; omega
      have at' : ∀ k, k < R.length → (R ++ [([] : List Nat)])[k]? = R[k]? := fun k hk => List.getElem?_append_left hk
      refine ⟨.sh (.tup [.lst (WD ++ [.str ""]), .int 0]), .sh (.lst (WD ++ [.str ""])), R ++ [[]], 0, n + 2 + ts.length + 1, j + 1 + 1, ?_, rfl, ?_, ?_, .d (headL n) n (procL name) [] (by rw [at' 0 (by omega)]; exact W.h0) (ct_head W.n0 (by omega)) (by rw [at' (n + 1) (by omega)]; exact W.hp) proc_ok (by omega) (by rw [List.getElem?_append_right (by omega), show n + 2 + ts.length + 1 - 1 - R.length = 0 by omega]; rfl) e_tk (fun k z h1 h2 h3 => good_at W h1 (by rw [← at' k (by omega)]; exact h3)), by omega, .inr ⟨rfl, hl0.symm⟩⟩
      · obtain ⟨q, hq⟩ := ev (f_law_spoilt [hd ds j, RT, tI n])
        rw [hq]
        simp -implicitDefEqProofs (disch := first | omega | (simp <;> omega) | fail) [-cutD_map, f_law_spoilt, b_f_law_spoilt, q_mkFn, take_s, ha1, hb1, hfz] at hq
        exact hq.symm
      · show D.lst (WD ++ [.str ""]) = _
        rw [List.map_append, hWD, s_emp]
        rfl
      · refine rws_of W (by simp) (fun p hp => ?_) (by omega)
        rcases List.mem_append.mp hp with h | h
        · exact .inl h
        · rw [List.mem_singleton.mp h]
          exact .inr ⟨by simp, by simp⟩
    · refine ⟨.sh (.tup [.lst [.str ""], .int 0]), .sh (.lst [.str ""]), [[]], 0, 1, j + 1 + 1, ?_, rfl, ?_, ?_, .a [] rfl e_ct rfl, by omega, .inr ⟨rfl, rfl⟩⟩
      · obtain ⟨q, hq⟩ := ev (f_law_spoilt [hd ds j, RT, tI n])
        rw [hq]
        simp -implicitDefEqProofs (disch := first | omega | (simp <;> omega) | fail) [-cutD_map, f_law_spoilt, b_f_law_spoilt, q_mkFn, take_s, ha1, hb1, hfz] at hq
        exact hq.symm
      · show D.lst [.str ""] = _
        rw [s_emp]
        rfl
      · refine rws_of W (by simp) (fun p hp => ?_) (by simp)
        rw [List.mem_singleton.mp hp]
        exact .inr ⟨by simp, by simp⟩
  · rw [← hWD]; exact spoilt5 W hfz0 ds j ha1 h5
end K23
namespace K23
open PySem PySem.Spec PyProof.Rows L2 VS TL
theorem row_of {C : Addr} {ws : List (List Nat)} {r : Nat} (R : Rws ws) (e : Err ws r) : f_law_row_of C [tS (joinL [10] ws)] = some (tI r, [none]) := by
  show ((x_read_paper C [tS (joinL [10] ws)]).map fun i => (tZ i, [none])) = _
  rw [err_x R e]
  rfl
theorem rows_join {ws : List (List Nat)} (R : Rws ws) : joinD (.str (tx [10])) (.lst (ws.map sD')) = some (.str (tx (joinL [10] ws))) := joinD_tx (y := [10]) (k := 300) R.l (by
  have : ws.length * (300 + [10].length) ≤ 200 * 301 := Nat.mul_le_mul R.m (by decide)
  omega)
abbrev ckA1 (C : Addr) : MS := (sAsg (eCall (read_paper C) [none] (aCons (e2M joinD (ofP (pC (.str "\n"))) (eVar 5)) (aNil))) (putS 8))
abbrev ckA2 (C : Addr) : MS := (sIf (qB (e2 dNe (eC1 dRepr (eTup (aCons (eFldK C "text" 8) (aCons (eFldK C "name" 8) (aCons (eFldK C "tokens" 8) (aNil)))))) (eVar 6))) (sRet (ofP (pC (.bl false)))) (sNext))
abbrev ckB : MS := (sAsg (eCall f_law_spoilt [some 1, some 5, none] (aMv 1 (aMv 5 (aCons (ofP (pCall dLen (paCons (pV 2) ((fun _ => some []))))) (aNil))))) (gTupS 2 (gsCons (putS 9) (gsCons (putS 10) (gsNil)))))
abbrev ckC : MS := (sIf (ofB (pB (p2 dEq (pV 10) (pC (.int 0))))) (sAsg (ofP (pCall dLen (paCons (pV 9) ((fun _ => some []))))) (putS 10)) (sNext))
abbrev ckD : MS := (sAsg (eCall f_law_take [some 1, none] (aMv 1 (aCons (ofP (pC (.int 6))) (aNil)))) (putS 11))
abbrev ckE : MS := (sIf (ofB (bAnd (pB (p2 dEq (pV 11) (pC (.int 0)))) (pB (p2 dLe (pV 10) (pCall dLen (paCons (pV 9) ((fun _ => some [])))))))) (sAsg (eSlL (eVar 9) (oPart none) (oPart (some (pV 10)))) (putS 9)) (sNext))
abbrev ckF : MS := (sIf (ofB (bAnd (pB (p2 dEq (pV 11) (pC (.int 1)))) (bAnd (pB (p2 dLt (pV 10) (pCall dLen (paCons (pV 9) ((fun _ => some [])))))) (pB (p2 dEq (pCall dLen (paCons (pV 9) ((fun _ => some [])))) (pCall dLen (paCons (pV 5) ((fun _ => some []))))))))) (sSeq (sAsg (ofP (pCall dMax2 (paCons (pV 10) (paCons (p2 dAdd (pCall dLen (paCons (pV 2) ((fun _ => some [])))) (pC (.int 2))) ((fun _ => some [])))))) (putS 12)) (sSeq (sAsg (e2 dAdd (eVar 12) (eCall f_law_take [some 1, none] (aMv 1 (aCons (ofP (p2 dSub (pCall dLen (paCons (pV 9) ((fun _ => some [])))) (pV 12))) (aNil))))) (putS 12)) (sAsg (e2T addT (e2T addT (eSlL (eVar 9) (oPart none) (oPart (some (pV 12)))) (eLst (aCons (eFz (eCall f_law_wrong_token [some 1] (aMv 1 (aNil)))) (aNil)))) (eSlL (eVar 9) (oPart (some (p2 dAdd (pV 12) (pC (.int 1))))) (oPart none))) (putS 9)))) (sNext))
abbrev ckG (C : Addr) : MS := (sIf (qOr (qB (e2 dNe (eCall (f_law_row_of C) [none] (aCons (e2M joinD (ofP (pC (.str "\n"))) (eVar 9)) (aNil))) (eVar 10))) (qB (e2 dNe (eCall (f_law_row_of C) [none] (aCons (e2M joinD (ofP (pC (.str "\n"))) (eVar 9)) (aNil))) (eVar 10)))) (sRet (ofP (pC (.bl false)))) (sNext))
abbrev lwB (C : Addr) : MS := (sSeq (sAsg (eCall (read_paper C) [none] (aCons (e2M joinD (ofP (pC (.str "\n"))) (eVar 5)) (aNil))) (putS 8)) (sSeq (sIf (qB (e2 dNe (eC1 dRepr (eTup (aCons (eFldK C "text" 8) (aCons (eFldK C "name" 8) (aCons (eFldK C "tokens" 8) (aNil)))))) (eVar 6))) (sRet (ofP (pC (.bl false)))) (sNext)) (sSeq (sAsg (eCall f_law_spoilt [some 1, some 5, none] (aMv 1 (aMv 5 (aCons (ofP (pCall dLen (paCons (pV 2) ((fun _ => some []))))) (aNil))))) (gTupS 2 (gsCons (putS 9) (gsCons (putS 10) (gsNil))))) (sSeq (sIf (ofB (pB (p2 dEq (pV 10) (pC (.int 0))))) (sAsg (ofP (pCall dLen (paCons (pV 9) ((fun _ => some []))))) (putS 10)) (sNext)) (sSeq (sAsg (eCall f_law_take [some 1, none] (aMv 1 (aCons (ofP (pC (.int 6))) (aNil)))) (putS 11)) (sSeq (sIf (ofB (bAnd (pB (p2 dEq (pV 11) (pC (.int 0)))) (pB (p2 dLe (pV 10) (pCall dLen (paCons (pV 9) ((fun _ => some [])))))))) (sAsg (eSlL (eVar 9) (oPart none) (oPart (some (pV 10)))) (putS 9)) (sNext)) (sSeq (sIf (ofB (bAnd (pB (p2 dEq (pV 11) (pC (.int 1)))) (bAnd (pB (p2 dLt (pV 10) (pCall dLen (paCons (pV 9) ((fun _ => some [])))))) (pB (p2 dEq (pCall dLen (paCons (pV 9) ((fun _ => some [])))) (pCall dLen (paCons (pV 5) ((fun _ => some []))))))))) (sSeq (sAsg (ofP (pCall dMax2 (paCons (pV 10) (paCons (p2 dAdd (pCall dLen (paCons (pV 2) ((fun _ => some [])))) (pC (.int 2))) ((fun _ => some [])))))) (putS 12)) (sSeq (sAsg (e2 dAdd (eVar 12) (eCall f_law_take [some 1, none] (aMv 1 (aCons (ofP (p2 dSub (pCall dLen (paCons (pV 9) ((fun _ => some [])))) (pV 12))) (aNil))))) (putS 12)) (sAsg (e2T addT (e2T addT (eSlL (eVar 9) (oPart none) (oPart (some (pV 12)))) (eLst (aCons (eFz (eCall f_law_wrong_token [some 1] (aMv 1 (aNil)))) (aNil)))) (eSlL (eVar 9) (oPart (some (p2 dAdd (pV 12) (pC (.int 1))))) (oPart none))) (putS 9)))) (sNext)) (sIf (qOr (qB (e2 dNe (eCall (f_law_row_of C) [none] (aCons (e2M joinD (ofP (pC (.str "\n"))) (eVar 9)) (aNil))) (eVar 10))) (qB (e2 dNe (eCall (f_law_row_of C) [none] (aCons (e2M joinD (ofP (pC (.str "\n"))) (eVar 9)) (aNil))) (eVar 10)))) (sRet (ofP (pC (.bl false)))) (sNext)))))))))
section
variable {C : Addr} {sc lt nt tt due t7 : T} {ds : List Int} {j : Nat} {o8 o9 o10 o11 o12 : Option T}
theorem ckG_step {h0 rt Y : T} {ws : List (List Nat)} {r : Nat} (hY : fz Y = .lst (ws.map sD')) (R : Rws ws) (e : Err ws r) : ∃ o9', ckG C [some sc, some h0, some lt, some nt, some tt, some rt, some due, some t7, o8, some Y, some (tI r), o11, o12] =
    some (.nx [some sc, some h0, some lt, some nt, some tt, some rt, some due, some t7, o8, o9', some (tI r), o11, o12]) := by
  have h1 := row_of (C := C) R e
  have h2 := rows_join R
  obtain ⟨J, hJ⟩ := ev (joinL [10] ws)
  rw [hJ] at h1 h2
  obtain ⟨WD, hW⟩ := ev (ws.map sD')
  rw [hW] at hY h2
  obtain ⟨q, hq⟩ := ev (ckG C [some sc, some h0, some lt, some nt, some tt, some rt, some due, some t7, o8, some Y, some (tI r), o11, o12])
  rw [hq]
  unfold ckG at hq
  simp -implicitDefEqProofs (disch := first | omega | (simp <;> omega) | fail) [h1, h2, hY, l_nl] at hq
  exact ⟨_, hq.symm⟩
theorem ckF_no {h0 rt Y : T} {ws : List (List Nat)} {WR : List D} {r e : Nat} (hY : fz Y = .lst (ws.map sD')) (hR : fz rt = .lst WR) (hn : ¬ (e = 1 ∧ r < ws.length ∧ ws.length = WR.length)) : ckF [some sc, some h0, some lt, some nt, some tt, some rt, some due, some t7, o8, some Y, some (tI r), some (tI e), o12] =
    some (.nx [some sc, some h0, some lt, some nt, some tt, some rt, some due, some t7, o8, some Y, some (tI r), some (tI e), o12]) := by
  have hL : dLen [.lst (ws.map sD')] = some (.int (ws.length : Nat)) := rw_lens ws
  obtain ⟨WD, hW⟩ := ev (ws.map sD')
  rw [hW] at hY hL
  have hL2 : dLen [.lst WR] = some (.int (WR.length : Nat)) := rfl
  obtain ⟨q, hq⟩ := ev (ckF [some sc, some h0, some lt, some nt, some tt, some rt, some due, some t7, o8, some Y, some (tI r), some (tI e), o12])
  rw [hq]
  unfold ckF at hq
  by_cases e1 : e = 1
  · have k1 : ((e : Int) == 1) = true := beq_iff_eq.mpr (by omega)
    by_cases e2 : r < ws.length
    · have k2 : (r : Int) < (ws.length : Int) := by omega
      have k3 : ((ws.length : Int) == (WR.length : Int)) = false := beq_eq_false_iff_ne.mpr (by intro h; exact hn ⟨e1, e2, by omega⟩)
      generalize (ws.length : Int) = M at *
      generalize (WR.length : Int) = M2 at *
      simp -implicitDefEqProofs (disch := first | omega | (simp <;> omega) | fail) [k1, k2, k3, hY, hR, hL, hL2] at hq
      exact hq.symm
    · have k2 : ¬ (r : Int) < (ws.length : Int) := by omega
      generalize (ws.length : Int) = M at *
      simp -implicitDefEqProofs (disch := first | omega | (simp <;> omega) | fail) [k1, k2, hY, hR, hL, hL2] at hq
      exact hq.symm
  · have k1 : ((e : Int) == 1) = false := beq_eq_false_iff_ne.mpr (by omega)
    simp -implicitDefEqProofs (disch := first | omega | (simp <;> omega) | fail) [k1, hY, hR, hL, hL2] at hq
    exact hq.symm
theorem ckF_yes {rt Y : T} {ws : List (List Nat)} {LN WR : List D} {r n : Nat} (hY : fz Y = .lst (ws.map sD')) (hR : fz rt = .lst WR) (hl : fz lt = .lst LN) (hln : LN.length = n) (hn : n ≤ 100) (R : Rws ws) (e : Err ws r) (h2 : r < ws.length) (h3 : ws.length = WR.length) (h4 : n + 2 < ws.length) : ∃ (Y' : T) (ws' : List (List Nat)) (j' : Nat) (o12' : Option T) (rt' lt' : T), ckF [some sc, some (hd ds j), some lt, some nt, some tt, some rt, some due, some t7, o8, some Y, some (tI r), some (tI 1), o12] =
    some (.nx [some sc, some (hd ds j'), some lt, some nt, some tt, some rt, some due, some t7, o8, some Y', some (tI r), some (tI 1), o12']) ∧ fz Y' = .lst (ws'.map sD') ∧ Rws ws' ∧ Err ws' r := by
  have hL : dLen [.lst (ws.map sD')] = some (.int (ws.length : Nat)) := rw_lens ws
  have hL2 : dLen [.lst WR] = some (.int (WR.length : Nat)) := rfl
  have hL3 : dLen [.lst LN] = some (.int (n : Nat)) := by rw [← hln]; rfl
  have hm := R.m
  obtain ⟨A, hA⟩ := ev (max r (n + 2))
  have hA1 : r ≤ A := by omega
  have hA2 : A < ws.length := by omega
  obtain ⟨F, hF⟩ := ev ((n : Int) + 2)
  have hmax : dMax2 [.int (r : Nat), .int F] = some (.int (A : Nat)) := by
    rw [dMax2_i]
    congr 2
    split <;> omega
  obtain ⟨c, hc1, hc2⟩ := tk_of ds j (m := (ws.length : Int) - (A : Int)) (by omega)
  have tks := take_s (ds := ds) (j := j) (m := (ws.length : Int) - (A : Int)) (by omega)
  rw [hc1] at tks
  obtain ⟨x, j1, x1, x2, e1⟩ := wrong_token_eq ds (j + 1)
  obtain ⟨p1, p2, p3, p4⟩ := put_at (R := ws) (x := x) (k := A + c) (by omega)
  obtain ⟨WD, hW⟩ := ev (ws.map sD')
  have hq1 : VS.cutD WD none (some ((A : Int) + (c : Int))) = (ws.take (A + c)).map sD' := by rw [show (A : Int) + (c : Int) = ((A + c : Nat) : Int) by omega, cut_to, ← hW, List.map_take]
  have hq2 : VS.cutD WD (some ((A : Int) + (c : Int) + 1)) none = (ws.drop (A + c + 1)).map sD' := by rw [show (A : Int) + (c : Int) + 1 = ((A + c + 1 : Nat) : Int) by omega, cut_fr, ← hW, List.map_drop]
  have hE : Err (ws.take (A + c) ++ x :: ws.drop (A + c + 1)) r := e.pre (by omega) (by
    rw [List.take_append_of_le_length (by rw [List.length_take]; omega), List.take_take, Nat.min_eq_left (by omega)]) (by rw [p1]; omega)
  have hRw : Rws (ws.take (A + c) ++ x :: ws.drop (A + c + 1)) := by
    refine ⟨by simp, fun p hp => ?_, fun p hp => ?_, by rw [p1]; exact hm⟩
    · rcases p4 p hp with h | h
      · exact R.nl p h
      · rw [h]; exact x2.1
    · rcases p4 p hp with h | h
      · exact R.l p h
      · rw [h]; exact x2.2
  rw [hW] at hY hL
  have k2 : (r : Int) < (ws.length : Int) := by omega
  have k3 : ((ws.length : Int) == (WR.length : Int)) = true := beq_iff_eq.mpr (by omega)
  refine ⟨.lst (((ws.take (A + c)).map sD').map .sh ++ tS x :: ((ws.drop (A + c + 1)).map sD').map .sh), _, j1, some (tZ ((A : Int) + (c : Int))), rt, lt, ?_, ?_, hRw, hE⟩
  · obtain ⟨q, hq⟩ := ev (ckF [some sc, some (hd ds j), some lt, some nt, some tt, some rt, some due, some t7, o8, some Y, some (tI r), some (tI 1), o12])
    rw [hq]
    have l1 : ((ws.take (A + c)).map sD').length ≤ 200 := by simp; omega
    have l2 : ((ws.drop (A + c + 1)).map sD').length ≤ 200 := by simp; omega
    generalize (ws.take (A + c)).map sD' = D1 at *
    generalize (ws.drop (A + c + 1)).map sD' = D2 at *
    generalize (ws.length : Int) = M at *
    generalize (WR.length : Int) = M2 at *
    unfold ckF at hq
    simp -implicitDefEqProofs (disch := first | omega | (simp <;> omega) | fail) [-cutD_map, -atI_map, k2, k3, hY, hR, hl, hL, hL2, hL3, -dMax2_i, hF, hmax, tks, e1, hq1, hq2] at hq
    exact hq.symm
  · rw [fz_put, List.map_append, List.map_cons]
end
end K23
namespace K23
open PySem PySem.Spec PyProof.Rows L2 VS TL
section
variable {C : Addr} {sc lt nt tt t7 : T} {ds : List Int} {j : Nat} {o8 o9 o10 o11 o12 : Option T}
theorem ckC_step {h0 rt Y due : T} {ws : List (List Nat)} {r0 r : Nat} (hY : fz Y = .lst (ws.map sD')) (hr : 0 < r) (h : r0 = r ∨ (r0 = 0 ∧ r = ws.length)) : ckC [some sc, some h0, some lt, some nt, some tt, some rt, some due, some t7, o8, some Y, some (tI r0), o11, o12] =
    some (.nx [some sc, some h0, some lt, some nt, some tt, some rt, some due, some t7, o8, some Y, some (tI r), o11, o12]) := by
  have hL : dLen [.lst (ws.map sD')] = some (.int (ws.length : Nat)) := rw_lens ws
  obtain ⟨WD, hW⟩ := ev (ws.map sD')
  rw [hW] at hY hL
  obtain ⟨q, hq⟩ := ev (ckC [some sc, some h0, some lt, some nt, some tt, some rt, some due, some t7, o8, some Y, some (tI r0), o11, o12])
  rw [hq]
  unfold ckC at hq
  rcases h with rfl | ⟨rfl, h⟩
  · have k1 : ((r0 : Int) == 0) = false := beq_eq_false_iff_ne.mpr (by omega)
    simp -implicitDefEqProofs (disch := first | omega | (simp <;> omega) | fail) [k1] at hq
    exact hq.symm
  · rw [show (tI r : T) = tZ (ws.length : Int) by rw [h]]
    generalize (ws.length : Int) = M at *
    simp -implicitDefEqProofs (disch := first | omega | (simp <;> omega) | fail) [hY, hL] at hq
    exact hq.symm
theorem ckD_step {rt due : T} : ∃ e : Nat, ckD [some sc, some (hd ds j), some lt, some nt, some tt, some rt, some due, some t7, o8, o9, o10, o11, o12] =
    some (.nx [some sc, some (hd ds (j + 1)), some lt, some nt, some tt, some rt, some due, some t7, o8, o9, o10, some (tI e), o12]) := by
  have tks := take_s (ds := ds) (j := j) (m := 6) (by omega)
  obtain ⟨e, he⟩ := ev (tk ds j 6)
  rw [he] at tks
  obtain ⟨q, hq⟩ := ev (ckD [some sc, some (hd ds j), some lt, some nt, some tt, some rt, some due, some t7, o8, o9, o10, o11, o12])
  rw [hq]
  unfold ckD at hq
  simp -implicitDefEqProofs (disch := first | omega | (simp <;> omega) | fail) [tks] at hq
  exact ⟨_, hq.symm⟩
theorem ckE_step {h0 rt Y due : T} {ws : List (List Nat)} {r e : Nat} (hY : fz Y = .lst (ws.map sD')) (R : Rws ws) (er : Err ws r) (hr : 0 < r) : ∃ (Y' : T) (ws' : List (List Nat)), ckE [some sc, some h0, some lt, some nt, some tt, some rt, some due, some t7, o8, some Y, some (tI r), some (tI e), o12] =
    some (.nx [some sc, some h0, some lt, some nt, some tt, some rt, some due, some t7, o8, some Y', some (tI r), some (tI e), o12]) ∧ fz Y' = .lst (ws'.map sD') ∧ Rws ws' ∧ Err ws' r := by
  have hL : dLen [.lst (ws.map sD')] = some (.int (ws.length : Nat)) := rw_lens ws
  obtain ⟨WD, hW⟩ := ev (ws.map sD')
  have hc : VS.cutD WD none (some (r : Int)) = (ws.take r).map sD' := by rw [cut_to, ← hW, List.map_take]
  have hY0 := hY
  rw [hW] at hY hL
  have hm := R.m
  obtain ⟨q, hq⟩ := ev (ckE [some sc, some h0, some lt, some nt, some tt, some rt, some due, some t7, o8, some Y, some (tI r), some (tI e), o12])
  rw [hq]
  unfold ckE at hq
  by_cases e1 : e = 0
  · have k1 : ((e : Int) == 0) = true := beq_iff_eq.mpr (by omega)
    by_cases e2 : r ≤ ws.length
    · have k2 : (r : Int) ≤ (ws.length : Int) := by omega
      have ht : (ws.take r).length = r := by rw [List.length_take]; omega
      refine ⟨.lst (((ws.take r).map sD').map .sh), ws.take r, ?_, ?_, ⟨fun h => ?_, fun p hp => R.nl p (List.mem_of_mem_take hp), fun p hp => R.l p (List.mem_of_mem_take hp), by omega⟩, er.pre e2 (by rw [List.take_take, Nat.min_self]) (by omega)⟩
      · generalize (ws.take r).map sD' = D1 at *
        generalize (ws.length : Int) = M at *
        simp -implicitDefEqProofs (disch := first | omega | (simp <;> omega) | fail) [-cutD_map, k1, k2, hY, hL, hc] at hq
        exact hq.symm
      · rw [fz_lst, List.map_map]
        exact congrArg D.lst (List.map_id _)
      · rw [h] at ht
        simp at ht
        omega
    · have k2 : ¬ (r : Int) ≤ (ws.length : Int) := by omega
      refine ⟨Y, ws, ?_, hY0, R, er⟩
      generalize (ws.length : Int) = M at *
      simp -implicitDefEqProofs (disch := first | omega | (simp <;> omega) | fail) [-cutD_map, k1, k2, hY, hL, hc] at hq
      exact hq.symm
  · have k1 : ((e : Int) == 0) = false := beq_eq_false_iff_ne.mpr (by omega)
    refine ⟨Y, ws, ?_, hY0, R, er⟩
    simp -implicitDefEqProofs (disch := first | omega | (simp <;> omega) | fail) [-cutD_map, k1, hY, hL, hc] at hq
    exact hq.symm
theorem ckB_step {rt due : T} {R : List (List Nat)} {LN : List D} {n : Nat} {ts : List Tk} {name : List Nat} (W : Rw R n ts name) (hfz : fz rt = .lst (R.map sD')) (hl : fz lt = .lst LN) (hn : LN.length = n) : ∃ (Y : T) (ws : List (List Nat)) (r0 r j' : Nat), ckB [some sc, some (hd ds j), some lt, some nt, some tt, some rt, some due, some t7, o8, o9, o10, o11, o12] =
    some (.nx [some sc, some (hd ds j'), some lt, some nt, some tt, some (.sh (.lst (R.map sD'))), some due, some t7, o8, some Y, some (tI r0), o11, o12]) ∧ fz Y = .lst (ws.map sD') ∧ Rws ws ∧ Err ws r ∧ 0 < r ∧ (r0 = r ∨ (r0 = 0 ∧ r = ws.length)) := by
  obtain ⟨X, Y, ws, r0, r, j', h1, h2, h3⟩ := spoilt_eq W hfz ds j
  refine ⟨Y, ws, r0, r, j', ?_, h3⟩
  have hL3 : dLen [.lst LN] = some (.int (n : Nat)) := by rw [← hn]; rfl
  obtain ⟨RD, hRD⟩ := ev (R.map sD')
  rw [hRD] at h1
  rw [hRD]
  obtain ⟨q, hq⟩ := ev (ckB [some sc, some (hd ds j), some lt, some nt, some tt, some rt, some due, some t7, o8, o9, o10, o11, o12])
  rw [hq]
  unfold ckB at hq
  simp -implicitDefEqProofs (disch := first | omega | (simp <;> omega) | fail) [h1, h2, hl, hL3] at hq
  exact hq.symm
theorem ckA_step {h0 rt : T} {lines : List (List Nat)} {name : List Nat} {ts : List Tk} {s : Str} (ok : PpOk lines name ts) (hs : dRepr [ptD (joinL [10] lines) name (ts.map tkD)] = some (.str s)) (h7 : fz rt = .lst ((rowsL lines name ts).map sD')) :
    ∃ o8' rt' : T, fz rt' = .lst ((rowsL lines name ts).map sD') ∧ (ckA1 C [some sc, some h0, some lt, some nt, some tt, some rt, some (.sh (.str s)), some t7, o8, o9, o10, o11, o12] =
      some (.nx [some sc, some h0, some lt, some nt, some tt, some rt', some (.sh (.str s)), some t7, some o8', o9, o10, o11, o12])) ∧ 
      ckA2 C [some sc, some h0, some lt, some nt, some tt, some rt', some (.sh (.str s)), some t7, some o8', o9, o10, o11, o12] =
      some (.nx [some sc, some h0, some lt, some nt, some tt, some rt', some (.sh (.str s)), some t7, some o8', o9, o10, o11, o12]) := by
  have hrd := read_paper_eq (C := C) ok
  have hjr' : joinD (.str (tx [10])) (.lst ((rowsL lines name ts).map sD')) = some (.str (tx (paperL lines name ts))) := joinD_tx (y := [10]) (ls := rowsL lines name ts) (k := 104) (rows_len ok) (by
    have h1 := ok.l1
    have h2 := ok.t1
    rw [rows_count ok]
    have : (lines.length + ts.length + 2) * (104 + [10].length) ≤ 137 * 105 := Nat.mul_le_mul (by omega) (by decide)
    omega)
  refine ⟨ppT C (joinL [10] lines) name (ts.map tkD), .sh (.lst ((rowsL lines name ts).map sD')), rfl, ?_, ?_⟩
  · obtain ⟨jl, hjl⟩ := ev (joinL [10] lines)
    rw [hjl] at hrd
    rw [hjl]
    obtain ⟨xs, hxs⟩ := ev (ts.map tkD)
    rw [hxs] at hrd
    rw [hxs]
    obtain ⟨R, hR⟩ := ev ((rowsL lines name ts).map sD')
    rw [hR] at h7 hjr'
    rw [hR]
    obtain ⟨pl, hpl⟩ := ev (paperL lines name ts)
    rw [hpl] at hrd hjr'
    obtain ⟨q, hq⟩ := ev (ckA1 C [some sc, some h0, some lt, some nt, some tt, some rt, some (.sh (.str s)), some t7, o8, o9, o10, o11, o12])
    rw [hq]
    unfold ckA1 at hq
    simp -implicitDefEqProofs (disch := first | omega | (simp <;> omega) | fail) [hrd, h7, hjr', l_nl] at hq
    exact hq.symm
  · obtain ⟨jl, hjl⟩ := ev (joinL [10] lines)
    rw [hjl] at hs
    rw [hjl]
    obtain ⟨xs, hxs⟩ := ev (ts.map tkD)
    rw [hxs] at hs
    rw [hxs]
    obtain ⟨R, hR⟩ := ev ((rowsL lines name ts).map sD')
    rw [hR]
    obtain ⟨q, hq⟩ := ev (ckA2 C [some sc, some h0, some lt, some nt, some tt, some (.sh (.lst R)), some (.sh (.str s)), some t7, some (ppT C jl name xs), o9, o10, o11, o12])
    rw [hq]
    unfold ckA2 at hq
    simp -implicitDefEqProofs (disch := first | omega | (simp <;> omega) | fail) [hs] at hq
    exact hq.symm
theorem lw_step {rt : T} {lines : List (List Nat)} {name : List Nat} {ts : List Tk} {s : Str} (ok : PpOk lines name ts) (hs : dRepr [ptD (joinL [10] lines) name (ts.map tkD)] = some (.str s)) (h7 : fz rt = .lst ((rowsL lines name ts).map sD')) (hl : fz lt = .lst (lines.map sD')) :
    ∃ (rt' : T) (j' : Nat) (o8' o9' o10' o11' o12' : Option T), fz rt' = .lst ((rowsL lines name ts).map sD') ∧ lwB C [some sc, some (hd ds j), some lt, some nt, some tt, some rt, some (.sh (.str s)), some t7, o8, o9, o10, o11, o12] =
      some (.nx [some sc, some (hd ds j'), some lt, some nt, some tt, some rt', some (.sh (.str s)), some t7, o8', o9', o10', o11', o12']) := by
  have W := rw_of ok
  have hln : (lines.map sD').length = lines.length := List.length_map _
  obtain ⟨t8, rt1, g1, a1, a2⟩ := ckA_step (C := C) (sc := sc) (lt := lt) (nt := nt) (tt := tt) (t7 := t7) (o8 := o8) (o9 := o9) (o10 := o10) (o11 := o11) (o12 := o12) (h0 := hd ds j) ok hs h7
  obtain ⟨Y, ws, r0, r, j1, b1, b2, b3, b4, b5, b6⟩ := ckB_step (sc := sc) (lt := lt) (nt := nt) (tt := tt) (t7 := t7) (o8 := some t8) (o9 := o9) (o10 := o10) (o11 := o11) (o12 := o12) (ds := ds) (j := j) (due := .sh (.str s)) W g1 hl hln
  have c1 := ckC_step (sc := sc) (lt := lt) (nt := nt) (tt := tt) (t7 := t7) (o8 := some t8) (o11 := o11) (o12 := o12) (h0 := hd ds j1) (rt := .sh (.lst ((rowsL lines name ts).map sD'))) (due := .sh (.str s)) b2 b5 b6
  obtain ⟨e, d1⟩ := ckD_step (sc := sc) (lt := lt) (nt := nt) (tt := tt) (t7 := t7) (o8 := some t8) (o9 := some Y) (o10 := some (tI r)) (o11 := o11) (o12 := o12) (ds := ds) (j := j1) (rt := .sh (.lst ((rowsL lines name ts).map sD'))) (due := .sh (.str s))
  obtain ⟨Y2, ws2, e1, e2, e3, e4⟩ := ckE_step (sc := sc) (lt := lt) (nt := nt) (tt := tt) (t7 := t7) (o8 := some t8) (o12 := o12) (h0 := hd ds (j1 + 1)) (rt := .sh (.lst ((rowsL lines name ts).map sD'))) (due := .sh (.str s)) (e := e) b2 b3 b4 b5
  have hF : ∃ (Y3 : T) (ws3 : List (List Nat)) (j3 : Nat) (o12' : Option T), ckF [some sc, some (hd ds (j1 + 1)), some lt, some nt, some tt, some (.sh (.lst ((rowsL lines name ts).map sD'))), some (.sh (.str s)), some t7, some t8, some Y2, some (tI r), some (tI e), o12] =
      some (.nx [some sc, some (hd ds j3), some lt, some nt, some tt, some (.sh (.lst ((rowsL lines name ts).map sD'))), some (.sh (.str s)), some t7, some t8, some Y3, some (tI r), some (tI e), o12']) ∧ fz Y3 = .lst (ws3.map sD') ∧ Rws ws3 ∧ Err ws3 r := by
    by_cases h : e = 1 ∧ r < ws2.length ∧ ws2.length = ((rowsL lines name ts).map sD').length
    · obtain ⟨rfl, h1, h2⟩ := h
      have hle : ((rowsL lines name ts).map sD').length = lines.length + ts.length + 2 := by rw [List.length_map, rows_count ok]
      have ht := ok.t0
      have hl1 := ok.l1
      obtain ⟨Y', ws', j', o12', _, _, f1, f2, f3, f4⟩ := ckF_yes (sc := sc) (lt := lt) (nt := nt) (tt := tt) (t7 := t7) (o8 := some t8) (o12 := o12) (ds := ds) (j := j1 + 1) (rt := .sh (.lst ((rowsL lines name ts).map sD'))) (due := .sh (.str s)) e2 rfl hl hln (by omega) e3 e4 h1 h2 (by omega)
      exact ⟨Y', ws', j', o12', f1, f2, f3, f4⟩
    · exact ⟨Y2, ws2, j1 + 1, o12, ckF_no e2 rfl h, e2, e3, e4⟩
  obtain ⟨Y3, ws3, j3, o12', f1, f2, f3, f4⟩ := hF
  obtain ⟨o9', g1'⟩ := ckG_step (C := C) (sc := sc) (lt := lt) (nt := nt) (tt := tt) (t7 := t7) (o8 := some t8) (o11 := some (tI e)) (o12 := o12') (h0 := hd ds j3) (rt := .sh (.lst ((rowsL lines name ts).map sD'))) (due := .sh (.str s)) f2 f3 f4
  refine ⟨.sh (.lst ((rowsL lines name ts).map sD')), j3, some t8, o9', some (tI r), some (tI e), o12', rfl, ?_⟩
  show sSeq (ckA1 C) (sSeq (ckA2 C) (sSeq ckB (sSeq ckC (sSeq ckD (sSeq ckE (sSeq ckF (ckG C))))))) _ = _
  rw [sSeq_nx a1, sSeq_nx a2, sSeq_nx b1, sSeq_nx c1, sSeq_nx d1, sSeq_nx e1, sSeq_nx f1, g1']
end
end K23
namespace K23
open PySem PySem.Spec PyProof.Rows L2 VS TL
theorem rows_eq2 {lines : List (List Nat)} {name : List Nat} {ts : List Tk} (ok : PpOk lines name ts) : f_law_rows [.lst (lines.map tS), tS name, .sh (.tup (ts.map tkD))] = some (.lst ((rowsL lines name ts).map tS), [some (.sh (lnsD lines)), some (tS name), some (.sh (.tup (ts.map tkD)))]) := by
  have h1 := ok.l1
  have h2 := ok.t1
  have h3 := ok.n.l
  have hn := dStr_n (n := lines.length) (by omega)
  have hnl := num_len (n := lines.length) (by omega)
  have ha := dAdd_tx (a := [116,101,120,116,32]) (b := numL lines.length) (by simp; omega)
  have hb := dAdd_tx (a := [112,114,111,99,32]) (b := name) (by simp; omega)
  obtain ⟨o4, o5, e⟩ := rw_loop (lt := .sh (lnsD lines)) (nt := tS name) (tt := .sh (.tup (ts.map tkD))) ts ((headL lines.length :: (lines ++ [procL name])).map tS) none none ok.t (by simp; omega)
  have e' : loopF (putS 4) rwB (ts.map tkD) [some (.sh (lnsD lines)), some (tS name), some (.sh (.tup (ts.map tkD))), some (.lst (tS ([116,101,120,116,32] ++ numL lines.length) :: (lines.map tS ++ [tS ([112,114,111,99,32] ++ name)]))), none, none, none] = some (.nx [some (.sh (lnsD lines)), some (tS name), some (.sh (.tup (ts.map tkD))), some (.lst ((rowsL lines name ts).map tS)), o4, o5, none]) := by
    have q : ((headL lines.length :: (lines ++ [procL name])).map tS) = tS ([116,101,120,116,32] ++ numL lines.length) :: (lines.map tS ++ [tS ([112,114,111,99,32] ++ name)]) := by
      rw [List.map_cons, List.map_append]
      rfl
    rw [q] at e
    rw [e, ← q]
    congr 6
    unfold rowsL
    simp [Function.comp_def]
  obtain ⟨r, hr⟩ := ev (f_law_rows [.lst (lines.map tS), tS name, .sh (.tup (ts.map tkD))])
  rw [hr]
  generalize hq1 : [116,101,120,116,32] ++ numL lines.length = q1 at ha e'
  generalize hq2 : [112,114,111,99,32] ++ name = q2 at hb e'
  simp -implicitDefEqProofs (disch := first | omega | (simp <;> omega) | fail) [f_law_rows, b_f_law_rows, q_mkFn, l_text, l_proc, hn, ha, hb, Function.comp_def, e'] at hr
  exact hr.symm
abbrev fsB (C : Addr) : MS := sSeq (sAsg (eCall (read_paper C) [none] (aCons (e2M joinD (ofP (pC (.str "\n"))) (eVar 5)) (aNil))) (putS 8)) (sRet (e2 dEq (eC1 dRepr (eTup (aCons (eFldK C "text" 8) (aCons (eFldK C "name" 8) (aCons (eFldK C "tokens" 8) (aNil)))))) (eVar 6)))
section
variable {C : Addr} {sc lt nt tt : T} {ds : List Int}
theorem lw_loop {lines : List (List Nat)} {name : List Nat} {ts : List Tk} {s : Str} (ok : PpOk lines name ts) (hs : dRepr [ptD (joinL [10] lines) name (ts.map tkD)] = some (.str s)) (hl : fz lt = .lst (lines.map sD')) :
    ∀ (l : List D) (rt : T) (j : Nat) (o7 o8 o9 o10 o11 o12 : Option T), fz rt = .lst ((rowsL lines name ts).map sD') → ∃ (rt' : T) (j' : Nat) (o7' o8' o9' o10' o11' o12' : Option T), fz rt' = .lst ((rowsL lines name ts).map sD') ∧
      loopF (putS 7) (lwB C) l [some sc, some (hd ds j), some lt, some nt, some tt, some rt, some (.sh (.str s)), o7, o8, o9, o10, o11, o12] =
      some (.nx [some sc, some (hd ds j'), some lt, some nt, some tt, some rt', some (.sh (.str s)), o7', o8', o9', o10', o11', o12'])
  | [], rt, j, o7, o8, o9, o10, o11, o12, h => ⟨rt, j, o7, o8, o9, o10, o11, o12, h, rfl⟩
  | d :: l, rt, j, o7, o8, o9, o10, o11, o12, h => by
    obtain ⟨rt1, j1, p8, p9, p10, p11, p12, g1, g2⟩ := lw_step (C := C) (sc := sc) (lt := lt) (nt := nt) (tt := tt) (t7 := .sh d) (ds := ds) (j := j) (o8 := o8) (o9 := o9) (o10 := o10) (o11 := o11) (o12 := o12) ok hs h hl
    obtain ⟨rt2, j2, q7, q8, q9, q10, q11, q12, g3, g4⟩ := lw_loop ok hs hl l rt1 j1 (some (.sh d)) p8 p9 p10 p11 p12 g1
    refine ⟨rt2, j2, q7, q8, q9, q10, q11, q12, g3, ?_⟩
    rw [loop_nx (S1 := [some sc, some (hd ds j), some lt, some nt, some tt, some rt, some (.sh (.str s)), some (.sh d), o8, o9, o10, o11, o12]) rfl g2]
    exact g4
theorem fs_eq {h0 rt : T} {o7 o8 o9 o10 o11 o12 : Option T} {lines : List (List Nat)} {name : List Nat} {ts : List Tk} {s : Str} (ok : PpOk lines name ts) (hs : dRepr [ptD (joinL [10] lines) name (ts.map tkD)] = some (.str s)) (h7 : fz rt = .lst ((rowsL lines name ts).map sD')) :
    ∃ S', fsB C [some sc, some h0, some lt, some nt, some tt, some rt, some (.sh (.str s)), o7, o8, o9, o10, o11, o12] = some (.rt (.sh (.bl true)) (some sc :: S')) := by
  have hrd := read_paper_eq (C := C) ok
  have hjr' : joinD (.str (tx [10])) (.lst ((rowsL lines name ts).map sD')) = some (.str (tx (paperL lines name ts))) := joinD_tx (y := [10]) (ls := rowsL lines name ts) (k := 104) (rows_len ok) (by
    have h1 := ok.l1
    have h2 := ok.t1
    rw [rows_count ok]
    have : (lines.length + ts.length + 2) * (104 + [10].length) ≤ 137 * 105 := Nat.mul_le_mul (by omega) (by decide)
    omega)
  obtain ⟨jl, hjl⟩ := ev (joinL [10] lines)
  rw [hjl] at hrd hs
  obtain ⟨xs, hxs⟩ := ev (ts.map tkD)
  rw [hxs] at hrd hs
  obtain ⟨R, hR⟩ := ev ((rowsL lines name ts).map sD')
  rw [hR] at h7 hjr'
  obtain ⟨pl, hpl⟩ := ev (paperL lines name ts)
  rw [hpl] at hrd hjr'
  obtain ⟨q, hq⟩ := ev (fsB C [some sc, some h0, some lt, some nt, some tt, some rt, some (.sh (.str s)), o7, o8, o9, o10, o11, o12])
  rw [hq]
  unfold fsB at hq
  simp -implicitDefEqProofs (disch := first | omega | (simp <;> omega) | fail) [hrd, h7, hjr', l_nl, hs] at hq
  exact ⟨_, hq.symm⟩
end
theorem law_true (C : Addr) (ns : List Int) (hl : ns.length ≤ 63) (hb : ∀ i ∈ ns, Builtin.Int.intBits i ≤ 1048576) : ∃ ts', law C [.sh (.lst (ns.map .int))] = some (.sh (.bl true), ts') ∧ ts'.length = 1 := by
  obtain ⟨ds, d1, d2, d3⟩ := draws_eq (ns := ns) (m := 220) (by omega) (by decide)
  have d4 : f_law_draws [.sh (.lst (ns.map .int)), .sh (.int 220)] = some (.lst (ds.map tZ), [some (.sh (.lst (ns.map .int))), some (.sh (.int 220))]) := d3
  obtain ⟨lines, j1, l1, l2, l3, l4⟩ := lines_eq ds 0
  have l4' : f_law_lines [.lst [.sh (.lst (ds.map .int)), .sh (.int 0)]] = some (.lst (lines.map tS), [some (hd ds j1)]) := l4
  obtain ⟨name, j2, n1, n2⟩ := line_eq ds j1
  obtain ⟨ts, j3, t1, t2, t3, t4⟩ := tokens_eq ds j2
  have ok : PpOk lines name ts := ⟨l1, n1, t1, l2, l3, t2, t3⟩
  have hj := joinD_tx (y := [10]) (ls := lines) (k := 9) (fun l hl => (ok.l l hl).l) (by simp; omega)
  obtain ⟨s, hs⟩ := told_ok ok (lines_c ok.l)
  have hrw := rows_eq2 ok
  obtain ⟨rt', j', q7, q8, q9, q10, q11, q12, e0, hlo⟩ := lw_loop (C := C) (sc := .sh (.lst (ns.map .int))) (lt := .sh (lnsD lines)) (nt := tS name) (tt := .sh (.tup (ts.map tkD))) (ds := ds) ok hs rfl (rngD 0 4) (.lst ((rowsL lines name ts).map tS)) j3 none none none none none none (by
    rw [fz_lst, List.map_map]
    rfl)
  obtain ⟨S', hfs⟩ := fs_eq (C := C) (sc := .sh (.lst (ns.map .int))) (lt := .sh (lnsD lines)) (nt := tS name) (tt := .sh (.tup (ts.map tkD))) (h0 := hd ds j') (o7 := q7) (o8 := q8) (o9 := q9) (o10 := q10) (o11 := q11) (o12 := q12) ok hs e0
  obtain ⟨jl, hjl⟩ := ev (joinL [10] lines)
  rw [hjl] at hj hs
  obtain ⟨xs, hxs⟩ := ev (ts.map tkD)
  rw [hxs] at t4 hs hrw hlo hfs
  obtain ⟨R, hR⟩ := ev ((rowsL lines name ts).map tS)
  rw [hR] at hrw hlo
  obtain ⟨r, hr⟩ := ev (law C [.sh (.lst (ns.map .int))])
  rw [hr]
  unfold lwB at hlo
  unfold fsB at hfs
  unfold law b_law at hr
  generalize sSeq (sAsg (eCall (read_paper C) [none] (aCons (e2M joinD (ofP (pC (.str "\n"))) (eVar 5)) (aNil))) (putS 8)) (sRet (e2 dEq (eC1 dRepr (eTup (aCons (eFldK C "text" 8) (aCons (eFldK C "name" 8) (aCons (eFldK C "tokens" 8) (aNil)))))) (eVar 6))) = FB at hfs hr
  simp only [l_nl] at hlo
  simp -implicitDefEqProofs (disch := first | omega | (simp <;> omega) | fail) [q_mkFn, d4, l4', n2, t4, l_nl, Function.comp_def, hj, hs, hrw, hlo, hfs] at hr
  exact ⟨_, hr.symm, rfl⟩
end K23
set_option maxHeartbeats 0
open PySem PySem.W PySem.Calls PyProof.Rows
theorem PySem.Challenge.cw_swornon_k23_wrong_rows_of_papers_holds : PySem.Challenge.rw_swornon_k23_wrong_rows_of_papers.Holds := by
  w_on; o_law
  refine HandSHeadRun.head_any (r := OpenLaw.row PySem.Challenge.rw_swornon_k23_wrong_rows_of_papers) (q := view (OpenLaw.row PySem.Challenge.rw_swornon_k23_wrong_rows_of_papers).prog [35]) (H := K23.hk) (ob := K23.ob) (M := 6000) (loose := K23.loose) (d := HandSHeadRun.topDef (OpenLaw.row PySem.Challenge.rw_swornon_k23_wrong_rows_of_papers).prog 35) (kwd := []) K23.ob_eq
    (by kernel_rfl) (fun s => by kernel_rfl) K23.run (by kernel_rfl) (by kernel_rfl) (by kernel_rfl) (by rfl) (by first | assumption | decide +kernel) (by decide +kernel) ⟨rfl, rfl, rfl, rfl, rfl, by decide +kernel⟩ ?hw ?hc
  case hw => w_witness2
  case hc =>
    refine VS.walk_ofG (l := PySem.Challenge.rw_swornon_k23_wrong_rows_of_papers) (n := 63) (k := 6) (x := "script") rfl (by decide) (by kernel_rfl) ⟨rfl, by decide, by decide⟩ ?F
    intro w mg fa h Y G hmg0
    obtain ⟨K, KX, c⟩ := Y
    have hmg : mg ("law" : PySem.Str) = some (.ref fa) := by
      have e : (HandSHeadRun.topDef (OpenLaw.row PySem.Challenge.rw_swornon_k23_wrong_rows_of_papers).prog 35).name = ("law" : PySem.Str) := by kernel_rfl
      rw [← e]
      exact hmg0
    have T := K23.facts KX G c
    obtain ⟨f0, fd, F, hm⟩ := T.d_law
    have ef : f0 = fa := by
      rw [hmg] at hm
      exact (PySem.Value.ref.inj (Option.some.inj hm)).symm
    subst ef
    have b := L2.FunD.bindsA (ps := ["script"]) F fun _ _ _ _ _ _ us hl => match us, hl with | [_], _ => rfl
    refine ⟨K, fd, VS.spV K 1 (K23.law (He.ga K "Paper")), KX, fun s v => b s [v] rfl, fun H a ns hl hb _ hS => VS.spV_law hS (K23.law_true (He.ga K "Paper") ns hl hb), fun base _ _ => ?_⟩
    exact K23.good_law (P := (PySem.Challenge.rw_swornon_k23_wrong_rows_of_papers).prog) (w := w) (base := base) T F
