import PyProof.Rows.All
import Wide.All
import OpenK.AllK
import Wide.FinOn
import HandS.ForMost
import HandS.ForExc
import HandS.Wide
import HandS.Deep
import HandS.TupAny
import HandS.TupMul
import HandS.TupLe
import KE.KDictLaw
import PyProof.P3Eq
import PyProof.ReprRoads
import PyProof.P3In
import HandS.Rev
import HandS.RevTup
import HandS.Conv
import HandS.IsInst
import HandS.WordsExc
import HandS.Style
import HandS.More
import HandS.Zip
import HandS.Iter
import HandS.Walk
import KE.GoesMore
import KE.GoesEnum
import HandS.HeadEnd
import HandS.EndBits
import HandS.Defaults
import HandS.HeadHook2
import HandS.SortRule
import HandS.ExcValue
import HandS.ExcOwn
import PyProof.TupleOfSeq
import KE.KStateDown
import HandS.Base
import HandS.Call
import HandS.Ends
import HandS.Words
import HandS.Head0
import HandS.Head1
import HandS.Head2
import HandS.HeadHook1
import PySem.Challenge.RW_cutandjoin_k70_whole_makers_and_counts
set_option Elab.async false
set_option linter.all false
set_option maxRecDepth 100000
set_option maxHeartbeats 1000000
/-! Vs0: trees of data, what stands for them in the abstract heap, the state of a def's body. -/
namespace Vs
open PySem PySem.Spec L2
open PyProof.Rows hiding St

abbrev D := PyData
/-- a value as a tree: data that never changes, or a list that one name alone holds -/
inductive Tr where
  | leaf (d : D)
  | lst (ts : List Tr)
  | dct (ks : List D) (ts : List Tr)

mutual
def Tr.view : Tr → D
  | .leaf d => d
  | .lst ts => .list (Tr.views ts)
  | .dct ks ts => .dict (ks.zip (Tr.views ts))
def Tr.views : List Tr → List D
  | [] => []
  | t :: ts => t.view :: Tr.views ts
end
@[simp] theorem view_leaf (d : D) : (Tr.leaf d).view = d := by simp only [Tr.view]
@[simp] theorem view_lst (ts : List Tr) : (Tr.lst ts).view = .list (Tr.views ts) := by simp only [Tr.view]
@[simp] theorem view_dct (ks : List D) (ts : List Tr) : (Tr.dct ks ts).view = .dict (ks.zip (Tr.views ts)) := by simp only [Tr.view]
@[simp] theorem views_nil : Tr.views [] = [] := by simp only [Tr.views]
@[simp] theorem views_cons (t : Tr) (ts : List Tr) : Tr.views (t :: ts) = t.view :: Tr.views ts := by simp only [Tr.views]
theorem views_map (ts : List Tr) : Tr.views ts = ts.map Tr.view := by
  induction ts with
  | nil => simp
  | cons t ts ih => simp [ih]

/-! ### parts of heaps -/
def Sub (F H : Hp) : Prop := ∀ a o, F a = some o → H a = some o
theorem Sub.refl {F : Hp} : Sub F F := fun _ _ h => h
theorem Sub.trans {F G H : Hp} (x : Sub F G) (y : Sub G H) : Sub F H := fun a o h => y a o (x a o h)
/-- data of a key -/
def keyD : Key → D
  | .inl i => .int i
  | .inr x => .str x
/-- a dict's keys and values -/
inductive DKd : HO → List D → List V → Prop
  | k {kvs : List (Key × V)} : DKd (.dK kvs) (kvs.map fun p => keyD p.1) (kvs.map (·.2))
  | t {kvs : List (List Key × V)} : DKd (.dT kvs) (kvs.map fun p => .tuple (p.1.map keyD)) (kvs.map (·.2))
theorem DKd.len {o : HO} {ks : List D} {vs : List V} (h : DKd o ks vs) : ks.length = vs.length := by
  cases h <;> simp
/-! what stands for data -/
mutual
inductive Dq (K : PySem.W.Frag) (F : Hp) : V → D → Prop
  | non : Dq K F .non .none
  | bl (b : Bool) : Dq K F (.bl b) (.bool b)
  | int (i : Int) : Dq K F (.int i) (.int i)
  | str (x : Str) : Dq K F (.str x) (.str x)
  | lst {a : Addr} {xs : List V} {ds : List D} : SqL K F a xs → DqAll K F xs ds → Dq K F (.ref a) (.list ds)
  | tup {a : Addr} {xs : List V} {ds : List D} : SqT K F a xs → DqAll K F xs ds → Dq K F (.ref a) (.tuple ds)
  | dct {a : Addr} {o : HO} {ks : List D} {vs : List V} {xs : List (D × D)} : F a = some o → DKd o ks vs → xs.map (·.1) = ks → DqAll K F vs (xs.map (·.2)) → Dq K F (.ref a) (.dict xs)
inductive DqAll (K : PySem.W.Frag) (F : Hp) : List V → List D → Prop
  | nil : DqAll K F [] []
  | cons {v : V} {vs : List V} {d : D} {ds : List D} : Dq K F v d → DqAll K F vs ds → DqAll K F (v :: vs) (d :: ds)
end
section
variable {K : PySem.W.Frag} {F G H : Hp} {a : Addr} {xs : List V}
theorem rd_mono {u : HO} (s : Sub F G) (r : Rd F a u) : Rd G a u := by
  rcases r with r | ⟨o, r⟩
  · exact .inl (s _ _ r)
  · exact .inr ⟨o, s _ _ r⟩
theorem sqL_mono (s : Sub F G) (r : SqL K F a xs) : SqL K G a xs := by
  rcases r with r | r
  · exact .inl (rd_mono s r)
  · exact .inr r
theorem sqT_mono (s : Sub F G) (r : SqT K F a xs) : SqT K G a xs := by
  rcases r with r | r
  · exact .inl (rd_mono s r)
  · exact .inr r
mutual
theorem dq_mono (s : Sub F G) : ∀ {d : D} {v : V}, Dq K F v d → Dq K G v d
  | _, _, .non => .non
  | _, _, .bl b => .bl b
  | _, _, .int i => .int i
  | _, _, .str x => .str x
  | _, _, .lst hs ha => .lst (sqL_mono s hs) (dqAll_mono s ha)
  | _, _, .tup hs ha => .tup (sqT_mono s hs) (dqAll_mono s ha)
  | _, _, .dct h1 h2 h3 ha => .dct (s _ _ h1) h2 h3 (dqAll_mono s ha)
theorem dqAll_mono (s : Sub F G) : ∀ {ds : List D} {vs : List V}, DqAll K F vs ds → DqAll K G vs ds
  | _, _, .nil => .nil
  | _, _, .cons h1 h2 => .cons (dq_mono s h1) (dqAll_mono s h2)
end
theorem dqAll_len : ∀ {vs : List V} {ds : List D}, DqAll K F vs ds → vs.length = ds.length
  | _, _, .nil => rfl
  | _, _, .cons _ h => by rw [List.length_cons, List.length_cons, dqAll_len h]
theorem dqAll_at : ∀ {vs : List V} {ds : List D} {i : Nat} {d : D}, DqAll K F vs ds → ds[i]? = some d → ∃ v, vs[i]? = some v ∧ Dq K F v d
  | _, _, _, _, .nil, e => by simp at e
  | _, _, 0, _, .cons h _, e => by simp at e; subst e; exact ⟨_, rfl, h⟩
  | _, _, i + 1, _, .cons _ h, e => by
    obtain ⟨v, e1, h1⟩ := dqAll_at (i := i) h (by simpa using e)
    exact ⟨v, by simpa using e1, h1⟩
theorem dqAll_at' {vs : List V} {ds : List D} {i : Nat} {v : V} (h : DqAll K F vs ds) (e : vs[i]? = some v) : ∃ d, ds[i]? = some d ∧ Dq K F v d := by
  have hl := dqAll_len h
  have hi : i < ds.length := by
    have := (List.getElem?_eq_some_iff.mp e).1
    omega
  obtain ⟨w, e1, h1⟩ := dqAll_at h (List.getElem?_eq_getElem hi)
  rw [e] at e1
  cases e1
  exact ⟨_, List.getElem?_eq_getElem hi, h1⟩
theorem dqAll_app : ∀ {vs ws : List V} {ds es : List D}, DqAll K F vs ds → DqAll K F ws es → DqAll K F (vs ++ ws) (ds ++ es)
  | _, _, _, _, .nil, g => g
  | _, _, _, _, .cons h t, g => .cons h (dqAll_app t g)
theorem dqAll_take : ∀ {vs : List V} {ds : List D} (n : Nat), DqAll K F vs ds → DqAll K F (vs.take n) (ds.take n)
  | _, _, 0, _ => .nil
  | _, _, _ + 1, .nil => .nil
  | _, _, n + 1, .cons h t => .cons h (dqAll_take n t)
theorem dqAll_drop : ∀ {vs : List V} {ds : List D} (n : Nat), DqAll K F vs ds → DqAll K F (vs.drop n) (ds.drop n)
  | _, _, 0, h => h
  | _, _, _ + 1, .nil => .nil
  | _, _, n + 1, .cons _ t => dqAll_drop n t
end

/-! ### what stands for a tree; its own addresses -/
mutual
inductive OwnT (K : PySem.W.Frag) (F H : Hp) : V → Tr → List Addr → Prop
  | leaf {v : V} {d : D} : Dq K F v d → OwnT K F H v (.leaf d) []
  | lst {a : Addr} {vs : List V} {ts : List Tr} {l : List (V × Tr)} {S : List Addr} : H a = some (.lst vs) → vs = l.map (·.1) → ts = l.map (·.2) → OwnL K F H l S → OwnT K F H (.ref a) (.lst ts) (a :: S)
  | dct {a : Addr} {o : HO} {ks : List D} {vs : List V} {ts : List Tr} {l : List (V × Tr)} {S : List Addr} : H a = some o → DKd o ks vs → vs = l.map (·.1) → ts = l.map (·.2) → OwnL K F H l S → OwnT K F H (.ref a) (.dct ks ts) (a :: S)
inductive OwnL (K : PySem.W.Frag) (F H : Hp) : List (V × Tr) → List Addr → Prop
  | nil : OwnL K F H [] []
  | cons {v : V} {t : Tr} {l : List (V × Tr)} {S1 S2 : List Addr} : OwnT K F H v t S1 → OwnL K F H l S2 → OwnL K F H ((v, t) :: l) (S1 ++ S2)
end
section
variable {K : PySem.W.Frag} {F G H H' : Hp}
mutual
theorem OwnT.congr (s : Sub F G) : ∀ {v : V} {t : Tr} {S : List Addr}, OwnT K F H v t S → (∀ a ∈ S, H' a = H a) → OwnT K G H' v t S
  | _, _, _, .leaf h, _ => .leaf (dq_mono s h)
  | _, _, _, .lst (a := a) h e1 e2 hl, k => .lst ((k a List.mem_cons_self).trans h) e1 e2 (OwnL.congr s hl fun b hb => k b (List.mem_cons_of_mem _ hb))
  | _, _, _, .dct (a := a) h e0 e1 e2 hl, k => .dct ((k a List.mem_cons_self).trans h) e0 e1 e2 (OwnL.congr s hl fun b hb => k b (List.mem_cons_of_mem _ hb))
theorem OwnL.congr (s : Sub F G) : ∀ {l : List (V × Tr)} {S : List Addr}, OwnL K F H l S → (∀ a ∈ S, H' a = H a) → OwnL K G H' l S
  | _, _, .nil, _ => .nil
  | _, _, .cons h hl, k => .cons (OwnT.congr s h fun b hb => k b (List.mem_append_left _ hb)) (OwnL.congr s hl fun b hb => k b (List.mem_append_right _ hb))
end
mutual
theorem OwnT.there : ∀ {v : V} {t : Tr} {S : List Addr}, OwnT K F H v t S → ∀ a ∈ S, ∃ o, H a = some o
  | _, _, _, .leaf h, a, ha => by cases ha
  | _, _, _, .lst (a := b) h e1 e2 hl, a, ha => by
    rcases List.mem_cons.mp ha with rfl | ha
    · exact ⟨_, h⟩
    · exact OwnL.there hl a ha
  | _, _, _, .dct (a := b) h _ e1 e2 hl, a, ha => by
    rcases List.mem_cons.mp ha with rfl | ha
    · exact ⟨_, h⟩
    · exact OwnL.there hl a ha
theorem OwnL.there : ∀ {l : List (V × Tr)} {S : List Addr}, OwnL K F H l S → ∀ a ∈ S, ∃ o, H a = some o
  | _, _, .nil, a, ha => by cases ha
  | _, _, .cons h hl, a, ha => by
    rcases List.mem_append.mp ha with ha | ha
    · exact OwnT.there h a ha
    · exact OwnL.there hl a ha
end
mutual
/-- its data, over any heap that has its own objects and what never changes -/
theorem OwnT.dp (s : Sub F G) : ∀ {v : V} {t : Tr} {S : List Addr}, OwnT K F H v t S → (∀ a ∈ S, G a = H a) → Dq K G v t.view
  | _, _, _, .leaf h, _ => by rw [view_leaf]; exact dq_mono s h
  | _, _, _, .lst (a := a) h e1 e2 hl, k => by
    rw [view_lst, e2]
    refine .lst (SqL.of ((k a List.mem_cons_self).trans h)) ?_
    rw [e1]
    exact OwnL.dps s hl fun b hb => k b (List.mem_cons_of_mem _ hb)
  | _, _, _, .dct (a := a) (ks := ks) (vs := vs) (ts := ts) h e0 e1 e2 hl, k => by
    have q := OwnL.dps s hl fun b hb => k b (List.mem_cons_of_mem _ hb)
    rw [← e1, ← e2] at q
    have n1 := e0.len
    have n2 := dqAll_len q
    show Dq K G (.ref a) (Tr.dct ks ts).view
    rw [view_dct]
    refine .dct ((k a List.mem_cons_self).trans h) e0 ?_ ?_
    · rw [List.map_fst_zip]
      omega
    · rw [List.map_snd_zip]
      · exact q
      · omega
theorem OwnL.dps (s : Sub F G) : ∀ {l : List (V × Tr)} {S : List Addr}, OwnL K F H l S → (∀ a ∈ S, G a = H a) → DqAll K G (l.map (·.1)) (Tr.views (l.map (·.2)))
  | _, _, .nil, _ => by rw [List.map_nil, List.map_nil, views_nil]; exact .nil
  | _, _, .cons h hl, k => by
    rw [List.map_cons, List.map_cons, views_cons]
    exact .cons (OwnT.dp s h fun b hb => k b (List.mem_append_left _ hb)) (OwnL.dps s hl fun b hb => k b (List.mem_append_right _ hb))
end
theorem OwnL.app : ∀ {l m : List (V × Tr)} {S S' : List Addr}, OwnL K F H l S → OwnL K F H m S' → OwnL K F H (l ++ m) (S ++ S')
  | _, _, _, _, .nil, g => g
  | _, _, _, _, .cons h hl, g => by
    rw [List.append_assoc]
    exact .cons h (OwnL.app hl g)
theorem OwnL.split : ∀ {l m : List (V × Tr)} {S : List Addr}, OwnL K F H (l ++ m) S → ∃ S1 S2, S = S1 ++ S2 ∧ OwnL K F H l S1 ∧ OwnL K F H m S2
  | [], _, S, g => ⟨[], S, rfl, .nil, g⟩
  | (v, t) :: l, m, S, g => by
    cases g with
    | cons h hl =>
      obtain ⟨S1, S2, e, g1, g2⟩ := OwnL.split (l := l) hl
      subst e
      exact ⟨_, S2, (List.append_assoc _ _ _).symm, .cons h g1, g2⟩
theorem OwnL.perm {l m : List (V × Tr)} (p : l.Perm m) : ∀ {S : List Addr}, OwnL K F H l S → ∃ S', S.Perm S' ∧ OwnL K F H m S' := by
  induction p with
  | nil => exact fun {S} h => ⟨S, .refl _, h⟩
  | cons x _ ih =>
    intro S h
    cases h with
    | cons h hl =>
      obtain ⟨S', q, g⟩ := ih hl
      exact ⟨_, q.append_left _, .cons h g⟩
  | swap x y l =>
    intro S h
    cases h with
    | cons h hl =>
      cases hl with
      | cons h2 hl =>
        refine ⟨_, ?_, .cons h2 (.cons h hl)⟩
        rw [← List.append_assoc, ← List.append_assoc]
        exact List.Perm.append_right _ List.perm_append_comm
  | trans _ _ ih1 ih2 =>
    intro S h
    obtain ⟨S1, q1, g1⟩ := ih1 h
    obtain ⟨S2, q2, g2⟩ := ih2 g1
    exact ⟨S2, q1.trans q2, g2⟩
theorem OwnL.subl {l m : List (V × Tr)} (p : m.Sublist l) : ∀ {S : List Addr}, OwnL K F H l S → ∃ S', S'.Sublist S ∧ OwnL K F H m S' := by
  induction p with
  | slnil => exact fun {S} h => ⟨S, .refl _, h⟩
  | cons x _ ih =>
    intro S h
    cases h with
    | cons h hl =>
      obtain ⟨S', q, g⟩ := ih hl
      exact ⟨S', q.trans (List.sublist_append_right _ _), g⟩
  | cons_cons x _ ih =>
    intro S h
    cases h with
    | cons h hl =>
      obtain ⟨S', q, g⟩ := ih hl
      exact ⟨_, (List.Sublist.refl _).append q, .cons h g⟩
end

/-! ### a state: values and their trees, apart from one another; o: an address that is not in them -/
def StO (K : PySem.W.Frag) (no : List Addr) (H : Hp) (l : List (V × Tr)) : Prop :=
  ∃ (F : Hp) (S : List Addr), Sub F H ∧ OwnL K F H l S ∧ S.Nodup ∧ (∀ a ∈ S, F a = none) ∧ ∀ a ∈ no, a ∉ S ∧ F a = none
abbrev St8 (K : PySem.W.Frag) (H : Hp) (l : List (V × Tr)) : Prop := StO K [] H l
section
variable {K : PySem.W.Frag} {no : List Addr} {H H' : Hp} {l m items : List (V × Tr)} {v : V} {t : Tr} {a p : Addr} {d : D} {ts : List Tr} {vs : List V}
theorem StO.perm (h : StO K no H l) (q : l.Perm m) : StO K no H m := by
  obtain ⟨F, S, s, o, nd, f, n⟩ := h
  obtain ⟨S', q', o'⟩ := o.perm q
  exact ⟨F, S', s, o', q'.nodup_iff.mp nd, fun a ha => f a (q'.mem_iff.mpr ha), fun a ha => ⟨fun z => (n a ha).1 (q'.mem_iff.mpr z), (n a ha).2⟩⟩
theorem StO.subl (h : StO K no H l) (q : m.Sublist l) : StO K no H m := by
  obtain ⟨F, S, s, o, nd, f, n⟩ := h
  obtain ⟨S', q', o'⟩ := o.subl q
  exact ⟨F, S', s, o', nd.sublist q', fun a ha => f a (q'.subset ha), fun a ha => ⟨fun z => (n a ha).1 (q'.subset z), (n a ha).2⟩⟩
theorem StO.tail (h : StO K no H ((v, t) :: l)) : StO K no H l := h.subl (List.sublist_cons_self _ _)
theorem StO.st8 (h : StO K no H l) : St8 K H l := by
  obtain ⟨F, S, s, o, nd, f, n⟩ := h
  exact ⟨F, S, s, o, nd, f, fun a ha => by cases ha⟩
/-- data of the first one -/
theorem StO.dp (h : StO K no H ((v, t) :: l)) : Dq K H v t.view := by
  obtain ⟨F, S, s, o, nd, f, n⟩ := h
  cases o with
  | cons o1 o2 => exact o1.dp s fun _ _ => rfl
theorem perm_of_mem {α : Type} {x : α} {l : List α} (q : x ∈ l) : ∃ m, l.Perm (x :: m) := by
  obtain ⟨l1, l2, e⟩ := List.append_of_mem q
  exact ⟨l1 ++ l2, e ▸ List.perm_middle⟩
theorem StO.dp_mem (h : StO K no H l) (q : (v, t) ∈ l) : Dq K H v t.view := by
  obtain ⟨m, p⟩ := perm_of_mem q
  exact (h.perm p).dp
/-- an atom is laid beside -/
theorem StO.atom (h : StO K no H l) (e : ∀ F : Hp, Dq K F v d) : StO K no H ((v, .leaf d) :: l) := by
  obtain ⟨F, S, s, o, nd, f, n⟩ := h
  exact ⟨F, S, s, .cons (S1 := []) (.leaf (e F)) o, nd, f, n⟩
theorem StO.int (h : StO K no H l) (i : Int) : StO K no H ((.int i, .leaf (.int i)) :: l) := h.atom fun _ => .int i
theorem StO.bl (h : StO K no H l) (b : Bool) : StO K no H ((.bl b, .leaf (.bool b)) :: l) := h.atom fun _ => .bl b
theorem StO.str (h : StO K no H l) (x : Str) : StO K no H ((.str x, .leaf (.str x)) :: l) := h.atom fun _ => .str x
theorem StO.non (h : StO K no H l) : StO K no H ((.non, .leaf .none) :: l) := h.atom fun _ => .non
/-- a leaf may be held twice -/
theorem StO.dup (h : StO K no H ((v, .leaf d) :: l)) : StO K no H ((v, .leaf d) :: (v, .leaf d) :: l) := by
  obtain ⟨F, S, s, o, nd, f, n⟩ := h
  cases o with
  | cons o1 o2 =>
    cases o1 with
    | leaf q => exact ⟨F, _, s, .cons (S1 := []) (.leaf q) (.cons (S1 := []) (.leaf q) o2), nd, f, n⟩
theorem StO.dup_mem (h : StO K no H l) (q : (v, .leaf d) ∈ l) : StO K no H ((v, .leaf d) :: l) := by
  obtain ⟨m, p⟩ := perm_of_mem q
  exact (h.perm p).dup.perm (p.symm.cons _)
/-- parts of a leaf -/
theorem StO.part_tup {ds : List D} (h : StO K no H ((.ref a, .leaf (.tuple ds)) :: l)) :
    ∃ vs : List V, SqT K H a vs ∧ vs.length = ds.length ∧ (∀ (i : Nat) (v : V), vs[i]? = some v → ∃ d, ds[i]? = some d ∧ StO K no H ((v, .leaf d) :: (.ref a, .leaf (.tuple ds)) :: l)) ∧
      StO K no H (vs.zip (ds.map .leaf) ++ (.ref a, .leaf (.tuple ds)) :: l) := by
  obtain ⟨F, S, s, o, nd, f, n⟩ := h
  cases o with
  | cons o1 o2 =>
    cases o1 with
    | leaf q =>
      cases q with
      | tup hs ha =>
        refine ⟨_, sqT_mono s hs, dqAll_len ha, fun i v e => ?_, ⟨F, _, s, ?_, nd, f, n⟩⟩
        · obtain ⟨d, e1, h1⟩ := dqAll_at' ha e
          exact ⟨d, e1, F, _, s, .cons (S1 := []) (.leaf h1) (.cons (S1 := []) (.leaf (.tup hs ha)) o2), nd, f, n⟩
        · have g : ∀ {vs : List V} {ds : List D}, DqAll K F vs ds → OwnL K F H (vs.zip (ds.map .leaf)) [] := by
            intro vs ds ha
            induction vs generalizing ds with
            | nil => cases ha; exact .nil
            | cons v vs ih =>
              cases ha with
              | cons h1 h2 => exact .cons (S1 := []) (.leaf h1) (ih h2)
          exact OwnL.app (S := []) (g ha) (.cons (S1 := []) (.leaf (.tup hs ha)) o2)
theorem StO.part_lst {ds : List D} (h : StO K no H ((.ref a, .leaf (.list ds)) :: l)) :
    ∃ vs : List V, SqL K H a vs ∧ vs.length = ds.length ∧ (∀ (i : Nat) (v : V), vs[i]? = some v → ∃ d, ds[i]? = some d ∧ StO K no H ((v, .leaf d) :: (.ref a, .leaf (.list ds)) :: l)) ∧
      StO K no H (vs.zip (ds.map .leaf) ++ (.ref a, .leaf (.list ds)) :: l) := by
  obtain ⟨F, S, s, o, nd, f, n⟩ := h
  cases o with
  | cons o1 o2 =>
    cases o1 with
    | leaf q =>
      cases q with
      | lst hs ha =>
        refine ⟨_, sqL_mono s hs, dqAll_len ha, fun i v e => ?_, ⟨F, _, s, ?_, nd, f, n⟩⟩
        · obtain ⟨d, e1, h1⟩ := dqAll_at' ha e
          exact ⟨d, e1, F, _, s, .cons (S1 := []) (.leaf h1) (.cons (S1 := []) (.leaf (.lst hs ha)) o2), nd, f, n⟩
        · have g : ∀ {vs : List V} {ds : List D}, DqAll K F vs ds → OwnL K F H (vs.zip (ds.map .leaf)) [] := by
            intro vs ds ha
            induction vs generalizing ds with
            | nil => cases ha; exact .nil
            | cons v vs ih =>
              cases ha with
              | cons h1 h2 => exact .cons (S1 := []) (.leaf h1) (ih h2)
          exact OwnL.app (S := []) (g ha) (.cons (S1 := []) (.leaf (.lst hs ha)) o2)
theorem nodup_app_left {α : Type} {l m : List α} (h : (l ++ m).Nodup) : l.Nodup := h.sublist (List.sublist_append_left _ _)
theorem nodup_app_right {α : Type} {l m : List α} (h : (l ++ m).Nodup) : m.Nodup := h.sublist (List.sublist_append_right _ _)
theorem nodup_app_ne {α : Type} {l m : List α} (h : (l ++ m).Nodup) {x : α} (h1 : x ∈ l) (h2 : x ∈ m) : False :=
  (List.nodup_append.mp h).2.2 x h1 x h2 rfl
/-- it is never changed from now on -/
theorem StO.freeze (h : StO K no H ((v, t) :: l)) : StO K no H ((v, .leaf t.view) :: l) := by
  obtain ⟨F, S, s, o, nd, f, n⟩ := h
  cases o with
  | cons o1 o2 =>
    rename_i S1 S2
    have hs : Sub F (fun a => if a ∈ S1 then H a else F a) := fun a o e => by
      show (if a ∈ S1 then H a else F a) = some o
      by_cases ha : a ∈ S1
      · rw [f a (List.mem_append_left _ ha)] at e; cases e
      · rw [if_neg ha]; exact e
    refine ⟨fun a => if a ∈ S1 then H a else F a, S2, fun a o e => ?_, .cons (S1 := []) (.leaf ?_) (o2.congr hs fun _ _ => rfl), nodup_app_right nd, fun a ha => ?_, fun a ha => ?_⟩
    · have e' : (if a ∈ S1 then H a else F a) = some o := e
      by_cases ha : a ∈ S1
      · rw [if_pos ha] at e'; exact e'
      · rw [if_neg ha] at e'; exact s a o e'
    · exact o1.dp hs fun a ha => by show (if a ∈ S1 then H a else F a) = H a; rw [if_pos ha]
    · show (if a ∈ S1 then H a else F a) = none
      rw [if_neg fun z => nodup_app_ne nd z ha]
      exact f a (List.mem_append_right _ ha)
    · obtain ⟨h1, h2⟩ := n a ha
      refine ⟨fun z => h1 (List.mem_append_right _ z), ?_⟩
      show (if a ∈ S1 then H a else F a) = none
      rw [if_neg fun z => h1 (List.mem_append_left _ z)]
      exact h2
theorem StO.freeze_mid {l1 l2 : List (V × Tr)} (h : StO K no H (l1 ++ (v, t) :: l2)) : StO K no H (l1 ++ (v, .leaf t.view) :: l2) :=
  ((h.perm List.perm_middle).freeze).perm List.perm_middle.symm
theorem StO.freeze_all : ∀ {items l : List (V × Tr)}, StO K no H (items ++ l) → StO K no H (items.map (fun p => (p.1, Tr.leaf p.2.view)) ++ l)
  | [], _, h => h
  | (v, t) :: items, l, h => by
    have h1 : StO K no H ((v, t) :: (items ++ l)) := h
    have h2 : StO K no H ((items ++ (v, .leaf t.view) :: l)) := h1.freeze.perm List.perm_middle.symm
    have h3 := StO.freeze_all h2
    exact h3.perm List.perm_middle
/-- a list is opened -/
theorem StO.openL (h : StO K no H ((.ref a, .lst ts) :: l)) : ∃ its : List (V × Tr), ts = its.map (·.2) ∧ H a = some (.lst (its.map (·.1))) ∧ StO K (a :: no) H (its ++ l) := by
  obtain ⟨F, S, s, o, nd, f, n⟩ := h
  cases o with
  | cons o1 o2 =>
    rename_i S1 S2
    cases o1 with
    | lst ha e1 e2 hl =>
      rename_i vs its S3
      refine ⟨its, e2, by rw [← e1]; exact ha, F, S3 ++ S2, s, hl.app o2, (List.nodup_cons.mp nd).2, fun b hb => f b (List.mem_cons_of_mem _ hb), fun b hb => ?_⟩
      rcases List.mem_cons.mp hb with rfl | hb
      · exact ⟨(List.nodup_cons.mp nd).1, f b List.mem_cons_self⟩
      · exact ⟨fun z => (n b hb).1 (List.mem_cons_of_mem _ z), (n b hb).2⟩
theorem sub_upd {F H : Hp} {a : Addr} {o : HO} (s : Sub F H) (n : F a = none) : Sub F (upd H a o) := fun b u e => by
  have hb : b ≠ a := fun z => by rw [z, n] at e; cases e
  rw [upd_ne hb]
  exact s b u e
/-- .. and closed, changed or new -/
theorem StO.closeL {its : List (V × Tr)} (h : StO K (a :: no) H (its ++ l)) (hno : a ∉ no) : StO K no (upd H a (.lst (its.map (·.1)))) ((.ref a, .lst (its.map (·.2))) :: l) := by
  obtain ⟨F, S, s, o, nd, f, n⟩ := h
  obtain ⟨S1, S2, e, o1, o2⟩ := o.split
  subst e
  obtain ⟨na, fa⟩ := n a List.mem_cons_self
  have k : ∀ b ∈ S1 ++ S2, upd H a (.lst (its.map (·.1))) b = H b := fun b hb => upd_ne fun z => na (z ▸ hb)
  refine ⟨F, (a :: S1) ++ S2, sub_upd s fa, .cons (.lst upd_same rfl rfl (o1.congr .refl fun b hb => k b (List.mem_append_left _ hb))) (o2.congr .refl fun b hb => k b (List.mem_append_right _ hb)), List.nodup_cons.mpr ⟨na, nd⟩, fun b hb => ?_, fun b hb => ?_⟩
  · rcases List.mem_cons.mp hb with rfl | hb
    · exact fa
    · exact f b hb
  · obtain ⟨h1, h2⟩ := n b (List.mem_cons_of_mem _ hb)
    refine ⟨fun z => ?_, h2⟩
    rcases List.mem_cons.mp z with rfl | z
    · exact hno hb
    · exact h1 z
/-- a free address is in none of them -/
theorem StO.fresh (h : StO K no H l) (hp : H p = none) : StO K (p :: no) H l := by
  obtain ⟨F, S, s, o, nd, f, n⟩ := h
  refine ⟨F, S, s, o, nd, f, fun a ha => ?_⟩
  rcases List.mem_cons.mp ha with rfl | ha
  · refine ⟨fun z => ?_, ?_⟩
    · obtain ⟨vs, e⟩ := o.there a z
      rw [hp] at e; cases e
    · cases q : F a with
      | none => rfl
      | some u => rw [s a u q] at hp; cases hp
  · exact n a ha
/-- a new list -/
theorem St8.newL {its : List (V × Tr)} (h : St8 K H (its ++ l)) (hp : H p = none) : St8 K (upd H p (.lst (its.map (·.1)))) ((.ref p, .lst (its.map (·.2))) :: l) :=
  (h.fresh hp).closeL (by simp)
/-- a new tuple of leaves -/
theorem St8.newT {its : List (V × Tr)} {ds : List D} (h : St8 K H (its ++ l)) (hd : its.map (·.2) = ds.map Tr.leaf) (hp : H p = none) : St8 K (upd H p (.tup (its.map (·.1)))) ((.ref p, .leaf (.tuple ds)) :: l) := by
  obtain ⟨F, S, s, o, nd, f, n⟩ := h.fresh hp
  obtain ⟨S1, S2, e, o1, o2⟩ := o.split
  subst e
  obtain ⟨na, fa⟩ := n p List.mem_cons_self
  have k : ∀ b ∈ S1 ++ S2, upd H p (.tup (its.map (·.1))) b = H b := fun b hb => upd_ne fun z => na (z ▸ hb)
  have sF : Sub F (upd F p (.tup (its.map (·.1)))) := sub_upd .refl fa
  have g : ∀ {its : List (V × Tr)} {ds : List D} {S : List Addr}, OwnL K F H its S → its.map (·.2) = ds.map Tr.leaf → DqAll K F (its.map (·.1)) ds := by
    intro its
    induction its with
    | nil =>
      intro ds S o e
      cases ds with
      | nil => exact .nil
      | cons _ _ => cases e
    | cons x its ih =>
      intro ds S o e
      cases ds with
      | nil => cases e
      | cons d ds =>
        obtain ⟨v, t⟩ := x
        rw [List.map_cons, List.map_cons] at e
        injection e with e1 e2
        have e1 : t = .leaf d := e1
        subst e1
        cases o with
        | cons o1 o2 =>
          cases o1 with
          | leaf q => exact .cons q (ih o2 e2)
  refine ⟨upd F p (.tup (its.map (·.1))), S2, fun b u e => ?_, .cons (S1 := []) (.leaf (.tup (SqT.of upd_same) (dqAll_mono sF (g o1 hd)))) (o2.congr sF fun b hb => k b (List.mem_append_right _ hb)), nodup_app_right nd, fun b hb => ?_, fun b hb => by cases hb⟩
  · by_cases hb : b = p
    · subst hb
      rw [upd_same] at e ⊢
      exact e
    · rw [upd_ne hb] at e ⊢
      exact s b u e
  · have hb' : b ≠ p := fun z => na (z ▸ List.mem_append_right _ hb)
    rw [upd_ne hb']
    exact f b (List.mem_append_right _ hb)
/-- a heap that grew, or changed elsewhere -/
theorem St8.grow (h : St8 K H l) (k : ∀ a o, H a = some o → H' a = some o) : St8 K H' l := by
  obtain ⟨F, S, s, o, nd, f, n⟩ := h
  refine ⟨F, S, fun a o e => k a o (s a o e), o.congr .refl fun a ha => ?_, nd, f, n⟩
  obtain ⟨vs, e⟩ := o.there a ha
  rw [e]
  exact k a _ e
theorem St8.upd_new {o : HO} (h : St8 K H l) (hp : H p = none) : St8 K (upd H p o) l :=
  h.grow fun a u e => by rw [upd_ne (ne_of_none e hp)]; exact e
end
end Vs

set_option Elab.async false
set_option linter.all false
set_option maxRecDepth 100000
set_option maxHeartbeats 1000000
/-! Vs1: what a def's body knows, outcomes, readings by functions, names, constants, operators, tests. -/
namespace Vs
open PySem PySem.Spec L2
open PyProof.Rows hiding St

/-- what a name holds: a tree; the flag says that it is the value of which L tells -/
abbrev Nv := List (Option (Tr × Bool))
structure Exn where
  cls : Str
  arg : Option (Str × D) := none
inductive Out (α : Type) where
  | ok (a : α) (e : Nv)
  | exc (x : Exn) (e : Nv)
  | bad
def Out.bind {α β : Type} (o : Out α) (f : α → Nv → Out β) : Out β :=
  match o with
  | .ok a e => f a e
  | .exc x e => .exc x e
  | .bad => .bad
@[simp] theorem bind_ok {α β : Type} (a : α) (e : Nv) (f : α → Nv → Out β) : (Out.ok a e).bind f = f a e := id rfl
@[simp] theorem bind_exc {α β : Type} (x : Exn) (e : Nv) (f : α → Nv → Out β) : (Out.exc x e : Out α).bind f = .exc x e := id rfl
@[simp] theorem bind_bad {α β : Type} (f : α → Nv → Out β) : (Out.bad : Out α).bind f = .bad := id rfl
/-- the value of an expression: its own tree, or what a name holds -/
inductive Rv where
  | tmp (t : Tr)
  | at (i : Nat)
abbrev Xp := Nv → Out Rv
abbrev Tt := Nv → Out Bool

def pr1 : Option V → Option (Tr × Bool) → List (V × Tr)
  | some v, some (t, _) => [(v, t)]
  | _, _ => []
def prs : St → Nv → List (V × Tr)
  | [], _ => []
  | _ :: _, [] => []
  | x :: σ, y :: e => pr1 x y ++ prs σ e
theorem prs_put : ∀ {σ : St} {e : Nv} {i : Nat} {v : V} (t : Tr) (b : Bool), σ[i]? = some (some v) → i < e.length → (prs σ (e.set i (some (t, b)))).Perm ((v, t) :: prs σ (e.set i none))
  | [], _, _, _, _, _, h, _ => by simp at h
  | _ :: _, [], _, _, _, _, _, h => by simp at h
  | x :: σ, y :: e, 0, v, t, b, h, _ => by
    simp at h
    subst h
    simp [prs, pr1]
  | x :: σ, y :: e, i + 1, v, t, b, h, hl => by
    have ih := prs_put (σ := σ) (e := e) (i := i) (v := v) t b (by simpa using h) (by simpa using hl)
    rw [List.set_cons_succ, List.set_cons_succ]
    show (pr1 x y ++ prs σ (e.set i (some (t, b)))).Perm ((v, t) :: (pr1 x y ++ prs σ (e.set i none)))
    exact (ih.append_left _).trans List.perm_middle
theorem prs_none : ∀ {σ : St} {e : Nv} {i : Nat} (x : Option V), e[i]? = some none → prs (σ.set i x) e = prs σ e
  | [], _, _, _, _ => rfl
  | y :: σ, [], _, _, h => by simp at h
  | y :: σ, z :: e, 0, x, h => by
    simp at h
    subst h
    cases x <;> cases y <;> rfl
  | y :: σ, z :: e, i + 1, x, h => by
    rw [List.set_cons_succ]
    show _ ++ prs (σ.set i x) e = _ ++ prs σ e
    rw [prs_none x (by simpa using h)]
theorem set_self {α : Type} : ∀ {l : List α} {i : Nat} {x : α}, l[i]? = some x → l.set i x = l
  | [], _, _, h => by simp at h
  | y :: l, 0, x, h => by simp at h; subst h; rfl
  | y :: l, i + 1, x, h => by rw [List.set_cons_succ, set_self (by simpa using h)]
theorem set_set' {α : Type} (l : List α) (i : Nat) (x y : α) : (l.set i x).set i y = l.set i y := by simp
theorem lt_of_at {α : Type} {l : List α} {i : Nat} {x : α} (h : l[i]? = some x) : i < l.length := (List.getElem?_eq_some_iff.mp h).1
theorem prs_take {σ : St} {e : Nv} {i : Nat} {v : V} {t : Tr} {b : Bool} (h : σ[i]? = some (some v)) (he : e[i]? = some (some (t, b))) : (prs σ e).Perm ((v, t) :: prs σ (e.set i none)) := by
  have q := prs_put t b h (lt_of_at he)
  rw [set_self he] at q
  exact q

/-- the state of a body -/
structure Rel (K : PySem.W.Frag) (L : Nat → Option V) (σ : St) (e : Nv) (τ : List (V × Tr)) (H : Hp) : Prop where
  len : e.length = σ.length
  ok : ∀ (i : Nat) (t : Tr) (b : Bool), e[i]? = some (some (t, b)) → ∃ v, σ[i]? = some (some v) ∧ (b = true → L i = some v)
  st : St8 K H (τ ++ prs σ e)
section
variable {K : PySem.W.Frag} {mg : Str → Option Value} {L : Nat → Option V} {σ : St} {e e' : Nv} {τ τ' : List (V × Tr)} {H H' : Hp} {i : Nat} {t : Tr} {b : Bool} {v : V} {d : D}
theorem Rel.map (R : Rel K L σ e τ H) (h : St8 K H (τ ++ prs σ e) → St8 K H' (τ' ++ prs σ e)) : Rel K L σ e τ' H' := ⟨R.len, R.ok, h R.st⟩
theorem Rel.perm (R : Rel K L σ e τ H) (p : τ.Perm τ') : Rel K L σ e τ' H := R.map fun s => s.perm (p.append_right _)
theorem Rel.subl (R : Rel K L σ e τ H) (p : τ'.Sublist τ) : Rel K L σ e τ' H := R.map fun s => s.subl (p.append (.refl _))
theorem Rel.tail (R : Rel K L σ e ((v, t) :: τ) H) : Rel K L σ e τ H := R.subl (List.sublist_cons_self _ _)
theorem ok_set {i : Nat} {y : Option (Tr × Bool)} (h : ∀ (i : Nat) (t : Tr) (b : Bool), e[i]? = some (some (t, b)) → ∃ v, σ[i]? = some (some v) ∧ (b = true → L i = some v))
    (hy : ∀ t b, y = some (t, b) → ∃ v, σ[i]? = some (some v) ∧ (b = true → L i = some v)) : ∀ (j : Nat) (t : Tr) (b : Bool), (e.set i y)[j]? = some (some (t, b)) → ∃ v, σ[j]? = some (some v) ∧ (b = true → L j = some v) := by
  intro j t b hj
  by_cases hij : i = j
  · subst hij
    rw [List.getElem?_set] at hj
    split at hj
    · split at hj
      · exact hy t b (Option.some.inj hj)
      · cases hj
    · exact h i t b hj
  · rw [List.getElem?_set_ne hij] at hj
    exact h j t b hj
/-- a name's tree is taken out -/
theorem Rel.take (R : Rel K L σ e τ H) (he : e[i]? = some (some (t, b))) : ∃ v, σ[i]? = some (some v) ∧ (b = true → L i = some v) ∧ Rel K L σ (e.set i none) ((v, t) :: τ) H := by
  obtain ⟨v, h1, h2⟩ := R.ok i t b he
  refine ⟨v, h1, h2, by rw [List.length_set]; exact R.len, ok_set R.ok (fun _ _ z => by cases z), ?_⟩
  exact R.st.perm (((prs_take h1 he).append_left τ).trans List.perm_middle)
/-- .. and put back -/
theorem Rel.put (R : Rel K L σ e ((v, t) :: τ) H) (h1 : σ[i]? = some (some v)) (h2 : b = true → L i = some v) (hn : e[i]? = some none) : Rel K L σ (e.set i (some (t, b))) τ H := by
  have hl := lt_of_at hn
  refine ⟨by rw [List.length_set]; exact R.len, ok_set R.ok (fun t' b' z => by cases z; exact ⟨v, h1, h2⟩), ?_⟩
  have q := prs_put (e := e) t b h1 hl
  rw [set_self hn] at q
  exact R.st.perm (List.perm_middle.symm.trans (q.symm.append_left τ))
theorem Rel.lost (R : Rel K L σ e τ H) : Rel K L σ (e.set i none) τ H := by
  refine ⟨by rw [List.length_set]; exact R.len, ok_set R.ok (fun _ _ z => by cases z), ?_⟩
  cases q : e[i]? with
  | none =>
    rw [List.set_eq_of_length_le (List.getElem?_eq_none_iff.mp q)]
    exact R.st
  | some y =>
    cases y with
    | none => rw [set_self q]; exact R.st
    | some y =>
      obtain ⟨t, b⟩ := y
      obtain ⟨v, _, _, R'⟩ := R.take q
      exact R'.tail.st
/-- a name is stored -/
theorem Rel.store (R : Rel K L σ e ((v, t) :: τ) H) (hi : i < σ.length) : Rel K L (σ.set i (some v)) (e.set i (some (t, false))) τ H := by
  have R0 : Rel K L σ (e.set i none) ((v, t) :: τ) H := R.lost
  have hie : i < e.length := by rw [R.len]; exact hi
  have hn : (e.set i none)[i]? = some none := by rw [List.getElem?_set_self hie]
  have R1 : Rel K L (σ.set i (some v)) (e.set i none) ((v, t) :: τ) H := by
    refine ⟨by rw [List.length_set, List.length_set]; exact R.len, fun j t' b' hj => ?_, ?_⟩
    · have hij : i ≠ j := fun z => by
        subst z
        rw [hn] at hj
        cases hj
      rw [List.getElem?_set_ne hij]
      exact R0.ok j t' b' hj
    · rw [prs_none _ hn]
      exact R0.st
  have R2 := R1.put (i := i) (b := false) (by rw [List.getElem?_set_self hi]) (fun z => by cases z) hn
  rw [set_set'] at R2
  exact R2
theorem Rel.grow (R : Rel K L σ e τ H) (k : ∀ a o, H a = some o → H' a = some o) : Rel K L σ e τ H' := R.map fun s => s.grow k
theorem Rel.atom (R : Rel K L σ e τ H) (h : ∀ F : Hp, Dq K F v d) : Rel K L σ e ((v, .leaf d) :: τ) H := R.map fun s => s.atom h
theorem Rel.dp_mem (R : Rel K L σ e τ H) (q : (v, t) ∈ τ) : Dq K H v t.view := R.st.dp_mem (List.mem_append_left _ q)
theorem Rel.dp_at (R : Rel K L σ e τ H) (he : e[i]? = some (some (t, b))) (hs : σ[i]? = some (some v)) : Dq K H v t.view := by
  obtain ⟨w, h1, _, R'⟩ := R.take he
  rw [hs] at h1
  cases h1
  exact R'.dp_mem List.mem_cons_self
end

/-! ### readings by functions -/
/-- how an exception lies -/
def XRep (mg : Str → Option Value) (x : Exn) (cls : Value) (d : Option Addr) (H : Hp) (τ τ' : List (V × Tr)) : Prop :=
  ∃ C, mg x.cls = some (.ref C) ∧ cls = .ref C ∧ match x.arg with
    | none => d = none ∧ τ' = τ
    | some (f, z) => ∃ dd v, d = some dd ∧ H dd = some (.xd [(f, v)]) ∧ τ' = (v, .leaf z) :: τ
def Pst (K : PySem.W.Frag) (mg : Str → Option Value) (W : WX) (L : Nat → Option V) (σ : St) (τ : List (V × Tr)) {α : Type} (o : Out α) (k : α → Nv → Prop) : Prop :=
  match o with
  | .ok a e => k a e
  | .exc x e => ∀ cls d H τ', XRep mg x cls d H τ τ' → Rel K L σ e τ' H → W cls d σ H
  | .bad => False
section
variable {K : PySem.W.Frag} {mg : Str → Option Value} {W : WX} {L : Nat → Option V} {σ : St} {τ τ' : List (V × Tr)} {α β : Type} {o : Out α} {f : α → Nv → Out β} {k k' : α → Nv → Prop}
theorem Pst.bind {k : β → Nv → Prop} (h : Pst K mg W L σ τ (o.bind f) k) : Pst K mg W L σ τ o (fun a e => Pst K mg W L σ τ (f a e) k) := by
  cases o with
  | ok a e => exact h
  | exc x e => exact h
  | bad => exact h
theorem Pst.mono (h : Pst K mg W L σ τ o k) (s : τ.Sublist τ') (g : ∀ a e, o = .ok a e → k a e → k' a e) : Pst K mg W L σ τ' o k' := by
  cases o with
  | ok a e => exact g a e rfl h
  | exc x e =>
    intro cls d H τ1 hx R
    obtain ⟨C, h1, h2, h3⟩ := hx
    cases q : x.arg with
    | none =>
      rw [q] at h3
      obtain ⟨h3, h4⟩ := h3
      subst h4
      exact h cls d H τ ⟨C, h1, h2, by rw [q]; exact ⟨h3, rfl⟩⟩ (R.subl s)
    | some p =>
      obtain ⟨f, z⟩ := p
      rw [q] at h3
      obtain ⟨dd, v, h3, h4, h5⟩ := h3
      subst h5
      exact h cls d H ((v, .leaf z) :: τ) ⟨C, h1, h2, by rw [q]; exact ⟨dd, v, h3, h4, rfl⟩⟩ (R.subl (s.cons_cons _))
  | bad => exact h
end
abbrev PstV (α : Type) := St → List (V × Tr) → α → V → List (V × Tr) → Prop
/-- an expression's reading by a function -/
def tR (K : PySem.W.Frag) (mg : Str → Option Value) (W : WX) {α : Type} (p : PstV α) (f : Nv → Out α) : TE := fun σ H Q =>
  ∃ (L : Nat → Option V) (e : Nv) (τ : List (V × Tr)), Rel K L σ e τ H ∧ Pst K mg W L σ τ (f e) fun a e' => ∀ v H' τ', p σ τ a v τ' → Rel K L σ e' τ' H' → Q v H'
/-- as it stands; as an own tree; as data -/
def pX : PstV Rv := fun σ τ r v τ' => match r with
  | .tmp t => τ' = (v, t) :: τ
  | .at i => τ' = τ ∧ σ[i]? = some (some v)
def pO : PstV Tr := fun _ τ t v τ' => τ' = (v, t) :: τ
def pD : PstV D := fun _ τ d v τ' => τ' = (v, .leaf d) :: τ
/-- a test's -/
def tTs (K : PySem.W.Frag) (mg : Str → Option Value) (W : WX) (g : Tt) : TT := fun σ H Q =>
  ∃ (L : Nat → Option V) (e : Nv) (τ : List (V × Tr)), Rel K L σ e τ H ∧ Pst K mg W L σ τ (g e) fun b e' => ∀ H', Rel K L σ e' τ H' → Q b H'
abbrev SE (X : Cx) (W : WX) (ex : Expr) (f : Xp) : Prop := PE X ex (tR X.K X.mg W pX f)
abbrev SO (X : Cx) (W : WX) (ex : Expr) (f : Nv → Out Tr) : Prop := PE X ex (tR X.K X.mg W pO f)
abbrev SD (X : Cx) (W : WX) (ex : Expr) (f : Nv → Out D) : Prop := PE X ex (tR X.K X.mg W pD f)
abbrev STt (X : Cx) (W : WX) (ex : Expr) (g : Tt) : Prop := PT X ex (tTs X.K X.mg W g)
theorem PE.imp {X : Cx} {e : Expr} {t t' : TE} (h : PE X e t) (g : ∀ σ H Q, t' σ H Q → t σ H Q) : PE X e t' := ⟨fun pins s σ H Q I q => h.run pins s σ H Q I (g σ H Q q)⟩
theorem PT.imp {X : Cx} {e : Expr} {t t' : TT} (h : PT X e t) (g : ∀ σ H Q, t' σ H Q → t σ H Q) : PT X e t' := ⟨fun pins s σ H Q I q => h.run pins s σ H Q I (g σ H Q q)⟩
theorem PW.imp {X : Cx} {e : Expr} {t t' : TT} (h : PW X e t) (g : ∀ σ H Q, t' σ H Q → t σ H Q) : PW X e t' := ⟨fun wh pins s σ H Q I q => h.run wh pins s σ H Q I (g σ H Q q)⟩
section
variable {K : PySem.W.Frag} {mg : Str → Option Value} {W : WX} {L : Nat → Option V} {σ : St} {e : Nv} {τ : List (V × Tr)} {H : Hp} {Q : VK} {α β : Type}
/-- the first part of a longer run -/
theorem tR.fst {p : PstV α} {f : Nv → Out α} {g : α → Nv → Out β} {k : β → Nv → Prop} (R : Rel K L σ e τ H) (h : Pst K mg W L σ τ ((f e).bind g) k)
    (n : ∀ a e1 v H1 τ1, f e = .ok a e1 → Pst K mg W L σ τ (g a e1) k → p σ τ a v τ1 → Rel K L σ e1 τ1 H1 → Q v H1) : tR K mg W p f σ H Q :=
  ⟨L, e, τ, R, h.bind.mono (.refl _) fun a e1 q hk v H1 τ1 hp R1 => n a e1 v H1 τ1 q hk hp R1⟩
/-- a part in the middle: more is held -/
theorem tR.mid {p : PstV α} {f : Nv → Out α} {g : α → Nv → Out β} {k : β → Nv → Prop} {τ0 : List (V × Tr)} (R : Rel K L σ e τ H) (s : τ0.Sublist τ) (h : Pst K mg W L σ τ0 ((f e).bind g) k)
    (n : ∀ a e1 v H1 τ1, f e = .ok a e1 → Pst K mg W L σ τ0 (g a e1) k → p σ τ a v τ1 → Rel K L σ e1 τ1 H1 → Q v H1) : tR K mg W p f σ H Q :=
  ⟨L, e, τ, R, h.bind.mono s fun a e1 q hk v H1 τ1 hp R1 => n a e1 v H1 τ1 q hk hp R1⟩
theorem tTs.mid {f : Tt} {g : Bool → Nv → Out β} {k : β → Nv → Prop} {τ0 : List (V × Tr)} {Q : Bool → Hp → Prop} (R : Rel K L σ e τ H) (s : τ0.Sublist τ) (h : Pst K mg W L σ τ0 ((f e).bind g) k)
    (n : ∀ b e1 H1, f e = .ok b e1 → Pst K mg W L σ τ0 (g b e1) k → Rel K L σ e1 τ H1 → Q b H1) : tTs K mg W f σ H Q :=
  ⟨L, e, τ, R, h.bind.mono s fun a e1 q hk H1 R1 => n a e1 H1 q hk R1⟩
end

/-! ### what a value is, when it is asked -/
def rview (r : Rv) (e : Nv) : Option D :=
  match r with
  | .tmp t => some t.view
  | .at i => (match e[i]? with
    | some (some (t, _)) => some t.view
    | _ => none)
@[simp] theorem rview_tmp (t : Tr) (e : Nv) : rview (.tmp t) e = some t.view := id rfl
/-- it is held -/
def Hd (σ : St) (τ : List (V × Tr)) (r : Rv) (v : V) : Prop :=
  match r with
  | .tmp t => (v, t) ∈ τ
  | .at i => σ[i]? = some (some v)
section
variable {K : PySem.W.Frag} {L : Nat → Option V} {σ : St} {e : Nv} {τ τ' : List (V × Tr)} {H : Hp} {r : Rv} {v : V} {d : D}
theorem Hd.mono (h : Hd σ τ r v) (s : τ.Sublist τ') : Hd σ τ' r v := by
  cases r with
  | tmp t => exact s.subset h
  | «at» i => exact h
theorem pX.hd (h : pX σ τ r v τ') : Hd σ τ' r v ∧ τ.Sublist τ' := by
  cases r with
  | tmp t =>
    have h : τ' = (v, t) :: τ := h
    subst h
    exact ⟨List.mem_cons_self, List.sublist_cons_self _ _⟩
  | «at» i => obtain ⟨h1, h2⟩ := h; subst h1; exact ⟨h2, .refl _⟩
theorem Hd.dp (h : Hd σ τ r v) (R : Rel K L σ e τ H) (q : rview r e = some d) : Dq K H v d := by
  cases r with
  | tmp t =>
    have q : some t.view = some d := q
    rw [← Option.some.inj q]
    exact R.dp_mem h
  | «at» i =>
    have h : σ[i]? = some (some v) := h
    unfold rview at q
    dsimp only at q
    cases he : e[i]? with
    | none => rw [he] at q; cases q
    | some y =>
      cases y with
      | none => rw [he] at q; cases q
      | some y =>
        obtain ⟨t, b⟩ := y
        rw [he] at q
        have q : some t.view = some d := q
        rw [← Option.some.inj q]
        exact R.dp_at he h
end

/-! ### data to values: freezing -/
/-- as an own tree -/
def own (r : Rv) (e : Nv) : Out Tr :=
  match r with
  | .tmp t => .ok t e
  | .at i => (match e[i]? with
    | some (some (t, b)) => .ok (.leaf t.view) (e.set i (some (.leaf t.view, b)))
    | _ => .bad)
def ow (f : Xp) : Nv → Out Tr := fun e => (f e).bind own
def vl (f : Xp) : Nv → Out D := fun e => (f e).bind fun r e1 => (own r e1).bind fun t e2 => .ok t.view e2
theorem SE.own {X : Cx} {W : WX} {ex : Expr} {f : Xp} (h : SE X W ex f) : SO X W ex (ow f) := by
  refine PE.imp h fun σ H Q ⟨L, e, τ, R, q⟩ => ?_
  refine tR.fst (g := Vs.own) R q fun r e1 v H1 τ1 _ q1 p1 R1 => ?_
  cases r with
  | tmp t => exact q1 v H1 τ1 p1 R1
  | «at» i =>
    obtain ⟨p1, p2⟩ := p1
    subst p1
    unfold Vs.own at q1
    dsimp only at q1
    split at q1
    · rename_i t b he
      obtain ⟨w, h1, h2, R2⟩ := R1.take he
      rw [p2] at h1
      cases h1
      refine q1 v H1 _ rfl ?_
      have R3 : Rel X.K L σ (e1.set i none) ((v, .leaf t.view) :: (v, .leaf t.view) :: τ1) H1 := R2.map fun s => s.freeze.dup
      have R4 := R3.put (i := i) p2 h2 (by rw [List.getElem?_set_self (lt_of_at he)])
      rw [set_set'] at R4
      exact R4
    · exact q1.elim
theorem SE.val {X : Cx} {W : WX} {ex : Expr} {f : Xp} (h : SE X W ex f) : SD X W ex (vl f) := by
  refine PE.imp (SE.own h) fun σ H Q ⟨L, e, τ, R, q⟩ => ?_
  have q' : Pst X.K X.mg W L σ τ ((ow f e).bind fun t e2 => .ok t.view e2) (fun a e' => ∀ v H' τ', pD σ τ a v τ' → Rel X.K L σ e' τ' H' → Q v H') := by
    have z : ((ow f e).bind fun t e2 => Out.ok t.view e2) = vl f e := by
      unfold ow vl
      cases f e <;> rfl
    rw [z]
    exact q
  refine tR.fst R q' fun t e1 v H1 τ1 _ q1 p1 R1 => ?_
  subst p1
  exact q1 v H1 _ rfl (R1.map fun s => s.freeze)

/-! ### names, constants -/
def nm (i : Nat) : Xp := fun e => match e[i]? with
  | some (some _) => .ok (.at i) e
  | _ => .bad
def ct (d : D) : Xp := fun e => .ok (.tmp (.leaf d)) e
section
variable {X : Cx} {W : WX} {i : Nat} {x : Str} {pos : Pos}
theorem se_nm (hN : X.N[i]? = some x) (hv : Vis X.env.scope x) (hd : (x == ("__debug__" : Str)) = false := by decide) (hcd : (x == ("__classdict__" : Str)) = false := by decide) : SE X W (.Name x pos) (nm i) := by
  refine PE.imp (pe_var (i := i) hN hv hd hcd) fun σ H Q ⟨L, e, τ, R, q⟩ => ?_
  unfold nm at q
  split at q
  · rename_i y he
    obtain ⟨t, b⟩ := y
    obtain ⟨v, h1, _⟩ := R.ok i t b he
    exact ⟨v, h1, q v H τ ⟨rfl, h1⟩ R⟩
  · exact q.elim
theorem se_atom {ex : Expr} {v : V} {d : D} (h : PE X ex (tC v)) (hd : ∀ F : Hp, Dq X.K F v d) : SE X W ex (ct d) :=
  PE.imp h fun σ H Q ⟨L, e, τ, R, q⟩ => q v H _ rfl (R.atom hd)
theorem se_int {n : Int} {j} : SE X W (.Constant (.int n) j pos) (ct (.int n)) := se_atom pe_int fun _ => .int n
theorem se_bl {b : Bool} {j} : SE X W (.Constant (.bool b) j pos) (ct (.bool b)) := se_atom pe_bl fun _ => .bl b
theorem se_non {j} : SE X W (.Constant .none j pos) (ct .none) := se_atom pe_non fun _ => .non
theorem se_str {z : Str} {j} : SE X W (.Constant (.str z) j pos) (ct (.str z)) := se_atom pe_str fun _ => .str z
theorem se_gint {n : Int} {t : Tok} (hg : Gl X x) (hm : X.mg x = some (.int n t)) (hd : (x == ("__debug__" : Str)) = false := by decide) : SE X W (.Name x pos) (ct (.int n)) :=
  se_atom (pe_glob (v := V.int n) hg hm ⟨_, rfl⟩ hd) fun _ => .int n
end

/-! ### operators whose result is an atom -/
def un1 (o : D → Option D) (fa : Xp) : Xp := fun e => (fa e).bind fun r e1 =>
  match rview r e1 with
  | some x => (match o x with
    | some d => .ok (.tmp (.leaf d)) e1
    | none => .bad)
  | none => .bad
def bin (o : D → D → Option D) (fa fb : Xp) : Xp := fun e => (fa e).bind fun r e1 => (fb e1).bind fun s e2 =>
  match rview r e2, rview s e2 with
  | some x, some y => (match o x y with
    | some d => .ok (.tmp (.leaf d)) e2
    | none => .bad)
  | _, _ => .bad
section
variable {X : Cx} {W : WX} {ex : Expr} {fa fb : Xp}
theorem bin_reads {o : D → D → Option D} {r : R2} {K : PySem.W.Frag} {mg : Str → Option Value}
    (hr : ∀ x y dx dy d H (Q : VK), Dq K H x dx → Dq K H y dy → o dx dy = some d → (∀ v, (∀ F : Hp, Dq K F v d) → Q v H) → r x y H Q) (σ : St) (H : Hp) (Q : VK)
    (h : tR K mg W pX (bin o fa fb) σ H Q) : tOp r (tR K mg W pX fa) (tR K mg W pX fb) σ H Q := by
  obtain ⟨L, e, τ, R, q⟩ := h
  refine tR.fst R q fun r1 e1 x H1 τ1 _ q1 p1 R1 => ?_
  obtain ⟨d1, s1⟩ := p1.hd
  refine tR.mid R1 s1 q1 fun r2 e2 y H2 τ2 _ q2 p2 R2 => ?_
  obtain ⟨d2, s2⟩ := p2.hd
  cases h1 : rview r1 e2 with
  | none => rw [h1] at q2; exact q2.elim
  | some dx =>
    cases h2 : rview r2 e2 with
    | none => rw [h1, h2] at q2; exact q2.elim
    | some dy =>
      rw [h1, h2] at q2
      dsimp only at q2
      cases h3 : o dx dy with
      | none => rw [h3] at q2; exact q2.elim
      | some d =>
        rw [h3] at q2
        refine hr x y dx dy d H2 Q ((d1.mono s2).dp R2 h1) (d2.dp R2 h2) h3 fun v hv => ?_
        exact q2 v H2 _ rfl ((R2.subl (s1.trans s2)).atom hv)
theorem se_bin {o : D → D → Option D} {r : R2} (h : PE X ex (tOp r (tR X.K X.mg W pX fa) (tR X.K X.mg W pX fb)))
    (hr : ∀ x y dx dy d H (Q : VK), Dq X.K H x dx → Dq X.K H y dy → o dx dy = some d → (∀ v, (∀ F : Hp, Dq X.K F v d) → Q v H) → r x y H Q) : SE X W ex (bin o fa fb) :=
  PE.imp h (bin_reads hr)
theorem se_un {o : D → Option D} {r : V → Hp → VK → Prop} (h : PE X ex (tUn r (tR X.K X.mg W pX fa)))
    (hr : ∀ x dx d H (Q : VK), Dq X.K H x dx → o dx = some d → (∀ v, (∀ F : Hp, Dq X.K F v d) → Q v H) → r x H Q) : SE X W ex (un1 o fa) := by
  refine PE.imp h fun σ H Q ⟨L, e, τ, R, q⟩ => ?_
  refine tR.fst R q fun r1 e1 x H1 τ1 _ q1 p1 R1 => ?_
  obtain ⟨d1, s1⟩ := p1.hd
  cases h1 : rview r1 e1 with
  | none => rw [h1] at q1; exact q1.elim
  | some dx =>
    rw [h1] at q1
    dsimp only at q1
    cases h3 : o dx with
    | none => rw [h3] at q1; exact q1.elim
    | some d =>
      rw [h3] at q1
      refine hr x dx d H1 Q (d1.dp R1 h1) h3 fun v hv => ?_
      exact q1 v H1 _ rfl ((R1.subl s1).atom hv)
end
end Vs

set_option Elab.async false
set_option linter.all false
set_option maxRecDepth 100000
set_option maxHeartbeats 1000000
/-! Vs2: operators over data, comparisons, tests. -/
namespace Vs
open PySem PySem.Spec L2
open PyProof.Rows hiding St

/-! ### the items of a tuple or a list -/
/-- leaves, all of them -/
def leaves : List Tr → Option (List D)
  | [] => some []
  | .leaf d :: ts => (leaves ts).map (d :: ·)
  | _ :: _ => none
theorem leaves_eq : ∀ {ts : List Tr} {ds : List D}, leaves ts = some ds → ts = ds.map Tr.leaf
  | [], ds, h => by
    have h : some [] = some ds := h
    cases h
    rfl
  | .leaf d :: ts, ds, h => by
    have h : (leaves ts).map (d :: ·) = some ds := h
    cases q : leaves ts with
    | none => rw [q] at h; cases h
    | some es =>
      rw [q] at h
      cases h
      rw [leaves_eq q]
      rfl
  | .lst _ :: _, _, h => by cases h
  | .dct _ _ :: _, _, h => by cases h
@[simp] theorem leaves_map (ds : List D) : leaves (ds.map Tr.leaf) = some ds := by
  induction ds with
  | nil => rfl
  | cons d ds ih => show (leaves (ds.map Tr.leaf)).map (d :: ·) = _; rw [ih]; rfl
@[simp] theorem leaves_nil : leaves [] = some [] := id rfl
@[simp] theorem views_leaves (ds : List D) : Tr.views (ds.map Tr.leaf) = ds := by
  induction ds with
  | nil => simp
  | cons d ds ih => simp [ih]
/-- the tree that a value has -/
def rtree (r : Rv) (e : Nv) : Option Tr :=
  match r with
  | .tmp t => some t
  | .at i => (match e[i]? with
    | some (some (t, _)) => some t
    | _ => none)
@[simp] theorem rtree_tmp (t : Tr) (e : Nv) : rtree (.tmp t) e = some t := id rfl
theorem rview_tree (r : Rv) (e : Nv) : rview r e = (rtree r e).map Tr.view := by
  cases r with
  | tmp t => rfl
  | «at» i =>
    unfold rview rtree
    dsimp only
    cases e[i]? with
    | none => rfl
    | some y => cases y <;> rfl
/-- true: a tuple -/
def titems : Tr → Option (Bool × List D)
  | .leaf (.tuple ds) => some (true, ds)
  | .leaf (.list ds) => some (false, ds)
  | .lst ts => (leaves ts).map fun ds => (false, ds)
  | _ => none
def ritems (r : Rv) (e : Nv) : Option (Bool × List D) := (rtree r e).bind titems
@[simp] theorem titems_tup (ds : List D) : titems (.leaf (.tuple ds)) = some (true, ds) := id rfl
@[simp] theorem titems_fl (ds : List D) : titems (.leaf (.list ds)) = some (false, ds) := id rfl
@[simp] theorem titems_lst (ds : List D) : titems (.lst (ds.map Tr.leaf)) = some (false, ds) := by
  show (leaves (ds.map Tr.leaf)).map _ = _
  rw [leaves_map]; rfl
@[simp] theorem titems_nil : titems (.lst []) = some (false, []) := id rfl
section
variable {K : PySem.W.Frag} {L : Nat → Option V} {σ : St} {e : Nv} {τ τ' : List (V × Tr)} {H : Hp} {r : Rv} {v : V} {d : D} {t : Tr}
/-- where its items lie -/
def Sqx (K : PySem.W.Frag) (H : Hp) (t : Tr) (a : Addr) (vs : List V) : Prop :=
  match t with
  | .leaf (.tuple _) => SqT K H a vs
  | .leaf _ => SqL K H a vs
  | .lst _ => H a = some (.lst vs)
  | .dct _ _ => False
theorem Sqx.sq {t : Tr} {a : Addr} {vs : List V} {k : Bool} {ds : List D} (h : Sqx K H t a vs) (q : titems t = some (k, ds)) : if k = true then SqT K H a vs else SqL K H a vs := by
  cases t with
  | leaf d =>
    cases d with
    | tuple xs => have q : some (true, xs) = some (k, ds) := q; cases q; exact h
    | list xs => have q : some (false, xs) = some (k, ds) := q; cases q; exact h
    | _ => cases q
  | lst ts =>
    have q : (leaves ts).map (fun ds => (false, ds)) = some (k, ds) := q
    cases q1 : leaves ts with
    | none => rw [q1] at q; cases q
    | some es => rw [q1] at q; cases q; exact SqL.of h
  | dct _ _ => cases q
theorem St8.itemsX {no : List Addr} {l : List (V × Tr)} {k : Bool} {ds : List D} (h : StO K no H ((v, t) :: l)) (q : titems t = some (k, ds)) :
    ∃ a vs, v = .ref a ∧ Sqx K H t a vs ∧ vs.length = ds.length ∧ StO K no H (vs.zip (ds.map Tr.leaf) ++ (v, t) :: l) := by
  cases t with
  | leaf d =>
    cases d with
    | tuple xs =>
      have q : some (true, xs) = some (k, ds) := q
      cases q
      have hd := h.dp
      rw [view_leaf] at hd
      cases hd with
      | tup hs ha =>
        obtain ⟨vs, h1, h2, _, h3⟩ := h.part_tup
        exact ⟨_, vs, rfl, h1, h2, h3⟩
    | list xs =>
      have q : some (false, xs) = some (k, ds) := q
      cases q
      have hd := h.dp
      rw [view_leaf] at hd
      cases hd with
      | lst hs ha =>
        obtain ⟨vs, h1, h2, _, h3⟩ := h.part_lst
        exact ⟨_, vs, rfl, h1, h2, h3⟩
    | _ => cases q
  | lst ts =>
    have q : (leaves ts).map (fun ds => (false, ds)) = some (k, ds) := q
    cases q1 : leaves ts with
    | none => rw [q1] at q; cases q
    | some es =>
      rw [q1] at q
      cases q
      have e1 := leaves_eq q1
      obtain ⟨F, S, s, o, nd, f, n⟩ := h
      cases o with
      | cons o1 o2 =>
        rename_i S1 S2
        cases o1 with
        | lst ha e2 e3 hl =>
          rename_i a vs l' S3
          refine ⟨a, vs, rfl, ha, ?_, F, (a :: S3) ++ S2, s, ?_, nd, f, n⟩
          · have := congrArg List.length (e1.symm.trans e3)
            rw [List.length_map, List.length_map] at this
            rw [e2, List.length_map, this]
          · have e4 : l'.map (·.2) = ds.map Tr.leaf := e3.symm.trans e1
            have g : ∀ {l' : List (V × Tr)} {es : List D} {S : List Addr}, OwnL K F H l' S → l'.map (·.2) = es.map Tr.leaf → OwnL K F H ((l'.map (·.1)).zip (es.map Tr.leaf)) [] := by
              intro l'
              induction l' with
              | nil =>
                intro es S _ e
                cases es with
                | nil => exact .nil
                | cons _ _ => cases e
              | cons x l' ih =>
                intro es S o e
                cases es with
                | nil => cases e
                | cons d es =>
                  obtain ⟨w, t⟩ := x
                  rw [List.map_cons, List.map_cons] at e
                  injection e with ea eb
                  have ea : t = .leaf d := ea
                  subst ea
                  cases o with
                  | cons o1 o2 =>
                    cases o1 with
                    | leaf q => exact .cons (S1 := []) (.leaf q) (ih o2 eb)
            have g2 := g hl e4
            rw [e2]
            exact OwnL.app (S := []) g2 (.cons (.lst ha e2 e3 hl) o2)
  | dct _ _ => cases q
theorem Hd.itemsX {k : Bool} {ds : List D} (h : Hd σ τ r v) (R : Rel K L σ e τ H) (q : ritems r e = some (k, ds)) :
    ∃ t a vs, rtree r e = some t ∧ titems t = some (k, ds) ∧ v = .ref a ∧ Sqx K H t a vs ∧ vs.length = ds.length ∧ Rel K L σ e (vs.zip (ds.map Tr.leaf) ++ τ) H := by
  unfold ritems at q
  have go : ∀ {t : Tr} {m l : List (V × Tr)}, (v, t) ∈ m → titems t = some (k, ds) → St8 K H m → ∃ a vs, v = .ref a ∧ Sqx K H t a vs ∧ vs.length = ds.length ∧ St8 K H (vs.zip (ds.map Tr.leaf) ++ m) := by
    intro t m l hm ht hs
    obtain ⟨m', p⟩ := perm_of_mem hm
    obtain ⟨a, vs, h1, h2, h3, h4⟩ := St8.itemsX (hs.perm p) ht
    exact ⟨a, vs, h1, h2, h3, h4.perm (p.symm.append_left _)⟩
  cases r with
  | tmp t =>
    have h : (v, t) ∈ τ := h
    obtain ⟨a, vs, h1, h2, h3, h4⟩ := go (l := []) (List.mem_append_left (prs σ e) h) q R.st
    exact ⟨t, a, vs, rfl, q, h1, h2, h3, R.len, R.ok, by rw [List.append_assoc]; exact h4⟩
  | «at» i =>
    have h : σ[i]? = some (some v) := h
    unfold rtree at q
    dsimp only at q
    cases he : e[i]? with
    | none => rw [he] at q; cases q
    | some y =>
      cases y with
      | none => rw [he] at q; cases q
      | some y =>
        obtain ⟨t, b⟩ := y
        rw [he] at q
        have hm : (v, t) ∈ prs σ e := (prs_take h he).symm.subset List.mem_cons_self
        obtain ⟨a, vs, h1, h2, h3, h4⟩ := go (l := []) (List.mem_append_right τ hm) q R.st
        exact ⟨t, a, vs, by unfold rtree; dsimp only; rw [he], q, h1, h2, h3, R.len, R.ok, by rw [List.append_assoc]; exact h4⟩
theorem Hd.items {k : Bool} {ds : List D} (h : Hd σ τ r v) (R : Rel K L σ e τ H) (q : ritems r e = some (k, ds)) :
    ∃ a vs, v = .ref a ∧ (if k = true then SqT K H a vs else SqL K H a vs) ∧ vs.length = ds.length ∧ Rel K L σ e (vs.zip (ds.map Tr.leaf) ++ τ) H := by
  obtain ⟨t, a, vs, _, h2, h3, h4, h5, h6⟩ := h.itemsX R q
  exact ⟨a, vs, h3, h4.sq h2, h5, h6⟩
/-- a leaf that is held is held once more -/
theorem Hd.leaf (h : Hd σ τ r v) (R : Rel K L σ e τ H) (q : rtree r e = some (.leaf d)) : Rel K L σ e ((v, .leaf d) :: τ) H := by
  cases r with
  | tmp t =>
    have h : (v, t) ∈ τ := h
    have q : some t = some (Tr.leaf d) := q
    cases q
    exact R.map fun s => s.dup_mem (List.mem_append_left _ h)
  | «at» i =>
    have h : σ[i]? = some (some v) := h
    unfold rtree at q
    dsimp only at q
    cases he : e[i]? with
    | none => rw [he] at q; cases q
    | some y =>
      cases y with
      | none => rw [he] at q; cases q
      | some y =>
        obtain ⟨t, b⟩ := y
        rw [he] at q
        have q : some t = some (Tr.leaf d) := q
        cases q
        have hm : (v, Tr.leaf d) ∈ prs σ e := (prs_take h he).symm.subset List.mem_cons_self
        exact R.map fun s => s.dup_mem (List.mem_append_right _ hm)
end
theorem titems_tuple {t : Tr} {ds : List D} (h : titems t = some (true, ds)) : t = .leaf (.tuple ds) := by
  cases t with
  | leaf d =>
    cases d with
    | tuple xs => have h : some (true, xs) = some (true, ds) := h; cases h; rfl
    | list xs => have h : some (false, xs) = some (true, ds) := h; cases h
    | _ => cases h
  | lst ts =>
    have h : (leaves ts).map (fun ds => (false, ds)) = some (true, ds) := h
    cases q : leaves ts with
    | none => rw [q] at h; cases h
    | some es => rw [q] at h; cases h
  | dct _ _ => cases h
theorem zip_fst {vs : List V} {ds : List D} (h : vs.length = ds.length) : (vs.zip (ds.map Tr.leaf)).map (·.1) = vs := by
  rw [List.map_fst_zip]
  rw [List.length_map]; omega
theorem zip_snd {vs : List V} {ds : List D} (h : vs.length = ds.length) : (vs.zip (ds.map Tr.leaf)).map (·.2) = ds.map Tr.leaf := by
  rw [List.map_snd_zip]
  rw [List.length_map]; omega

/-! ### a new tuple, a new list from parts that are held -/
section
variable {K : PySem.W.Frag} {L : Nat → Option V} {σ : St} {e : Nv} {τ τ' : List (V × Tr)} {H : Hp} {p : Addr} {vs : List V} {ds : List D}
theorem Rel.newT (R : Rel K L σ e (vs.zip (ds.map Tr.leaf) ++ τ) H) (hl : vs.length = ds.length) (hp : H p = none) : Rel K L σ e ((.ref p, .leaf (.tuple ds)) :: τ) (upd H p (.tup vs)) := by
  refine ⟨R.len, R.ok, ?_⟩
  have s := R.st
  rw [List.append_assoc] at s
  have s2 := St8.newT (ds := ds) s (zip_snd hl) hp
  rw [zip_fst hl] at s2
  exact s2
theorem Rel.newL (R : Rel K L σ e (vs.zip (ds.map Tr.leaf) ++ τ) H) (hl : vs.length = ds.length) (hp : H p = none) : Rel K L σ e ((.ref p, .lst (ds.map Tr.leaf)) :: τ) (upd H p (.lst vs)) := by
  refine ⟨R.len, R.ok, ?_⟩
  have s := R.st
  rw [List.append_assoc] at s
  have s2 := St8.newL s hp
  rw [zip_fst hl, zip_snd hl] at s2
  exact s2
end

/-! ### + -/
theorem op_catL {X : Cx} : OpR X (binaryOp .Add) (fun x y H Q => ∃ l b xs zs, x = .ref l ∧ y = .ref b ∧ SqL X.K H l xs ∧ SqL X.K H b zs ∧ xs.length + zs.length ≤ sizeLine ∧ ∀ p, H p = none → Q (.ref p) (upd H p (.lst (xs ++ zs)))) := by
  intro pins s σ H x y v u Q I rx ry h
  obtain ⟨l, b, xs, zs, rfl, rfl, hH, hB, hz, q⟩ := h
  cases rx
  cases ry
  obtain ⟨its, r, hl, _⟩ := I.list hH
  obtain ⟨its2, r2, hl2, _⟩ := I.list hB
  have e1 := r.length
  have e2 := r2.length
  obtain ⟨⟨c1, d1, k1, sl1⟩, ho, hc, n1, hd⟩ := hl.isList
  obtain ⟨⟨c2, d2, k2, sl2⟩, ho2, hc2, n2, hd2⟩ := hl2.isList
  simp only at hc hd hc2 hd2
  subst hc hd hc2 hd2
  have ea : its.toArray ++ its2.toArray = (its ++ its2).toArray := by simp
  refine concat_meets ⟨_, ho, rfl⟩ ⟨_, ho2, rfl⟩ noFill_list_add seq_list_add PySem.F.slot_list_add PySem.F.entry_list_add (PySem.F.args_list_add_2 _ _)
    (list_addW l b its.toArray its2.toArray n1 n2 d1 d2 sl1 sl2 (by rw [List.size_toArray, List.size_toArray]; omega)) ⟨ho, ho2, ?_⟩
  rw [ea]
  exact ⟨.ref _, _, I.lnew (t' := s.toks) (r.append r2) (by rw [List.length_append]; omega), rfl, q _ I.fresh⟩
def addD (r s : Rv) (e : Nv) : Out Rv :=
  match rtree r e, rtree s e with
  | some (.leaf (.int i)), some (.leaf (.int j)) => .ok (.tmp (.leaf (.int (i + j)))) e
  | some (.leaf (.str x)), some (.leaf (.str y)) => if x.length + y.length ≤ sizeLine then .ok (.tmp (.leaf (.str (x ++ y)))) e else .bad
  | some t, some u => (match titems t, titems u with
    | some (true, xs), some (true, ys) => if xs.length + ys.length ≤ sizeLine then .ok (.tmp (.leaf (.tuple (xs ++ ys)))) e else .bad
    | some (false, xs), some (false, ys) => if xs.length + ys.length ≤ sizeLine then .ok (.tmp (.lst ((xs ++ ys).map .leaf))) e else .bad
    | _, _ => .bad)
  | _, _ => .bad
def addX (fa fb : Xp) : Xp := fun e => (fa e).bind fun r e1 => (fb e1).bind fun s e2 => addD r s e2
section
variable {X : Cx} {W : WX} {a b ex : Expr} {fa fb : Xp} {pos : Pos}
/-- two values, then what is asked of both -/
theorem se_two {g : Rv → Rv → Nv → Out Rv} {r : R2} (h : PE X ex (tOp r (tR X.K X.mg W pX fa) (tR X.K X.mg W pX fb)))
    (hr : ∀ (L : Nat → Option V) (σ : St) (e : Nv) (τ τ0 : List (V × Tr)) (H : Hp) (x y : V) (r1 r2 : Rv) (Q : VK), τ0.Sublist τ → Rel X.K L σ e τ H → Hd σ τ r1 x → Hd σ τ r2 y →
      Pst X.K X.mg W L σ τ0 (g r1 r2 e) (fun a e' => ∀ v H' τ', pX σ τ0 a v τ' → Rel X.K L σ e' τ' H' → Q v H') → r x y H Q) :
    SE X W ex (fun e => (fa e).bind fun r e1 => (fb e1).bind fun s e2 => g r s e2) := by
  refine PE.imp h fun σ H Q ⟨L, e, τ, R, q⟩ => ?_
  refine tR.fst R q fun r1 e1 x H1 τ1 _ q1 p1 R1 => ?_
  obtain ⟨d1, s1⟩ := p1.hd
  refine tR.mid R1 s1 q1 fun r2 e2 y H2 τ2 _ q2 p2 R2 => ?_
  obtain ⟨d2, s2⟩ := p2.hd
  exact hr L σ e2 τ2 τ H2 x y r1 r2 Q (s1.trans s2) R2 (d1.mono s2) d2 q2
theorem dp_int {K : PySem.W.Frag} {H : Hp} {v : V} {i : Int} (h : Dq K H v (.int i)) : v = .int i := by cases h; rfl
theorem dp_bl {K : PySem.W.Frag} {H : Hp} {v : V} {i : Bool} (h : Dq K H v (.bool i)) : v = .bl i := by cases h; rfl
theorem dp_str {K : PySem.W.Frag} {H : Hp} {v : V} {i : Str} (h : Dq K H v (.str i)) : v = .str i := by cases h; rfl
theorem dp_non {K : PySem.W.Frag} {H : Hp} {v : V} (h : Dq K H v .none) : v = .non := by cases h; rfl
theorem Hd.leaf_dp {K : PySem.W.Frag} {L : Nat → Option V} {σ : St} {e : Nv} {τ : List (V × Tr)} {H : Hp} {r : Rv} {v : V} {d : D} (h : Hd σ τ r v) (R : Rel K L σ e τ H) (q : rtree r e = some (.leaf d)) : Dq K H v d := by
  refine h.dp R ?_
  rw [rview_tree, q]
  show some (Tr.leaf d).view = _
  rw [view_leaf]
theorem se_add (ha : SE X W a fa) (hb : SE X W b fb) : SE X W (.BinOp a .Add b pos) (addX fa fb) := by
  refine se_two (g := addD) (pe_op ((op_add.or op_add_str).or (op_catA.or op_catL)) ha hb) fun L σ e τ τ0 H x y r1 r2 Q sb R d1 d2 q => ?_
  unfold addD at q
  split at q
  · rename_i i j h1 h2
    have e1 := dp_int (d1.leaf_dp R h1)
    have e2 := dp_int (d2.leaf_dp R h2)
    exact .inl (.inl ⟨i, j, e1, e2, q _ _ _ rfl ((R.subl sb).atom fun _ => .int _)⟩)
  · rename_i z w h1 h2
    have e1 := dp_str (d1.leaf_dp R h1)
    have e2 := dp_str (d2.leaf_dp R h2)
    split at q
    · rename_i hz
      exact .inl (.inr ⟨z, w, e1, e2, hz, q _ _ _ rfl ((R.subl sb).atom fun _ => .str _)⟩)
    · exact q.elim
  · rename_i t u h1 h2
    split at q
    · rename_i xs ys h3 h4
      split at q
      · rename_i hz
        have i1 : ritems r1 e = some (true, xs) := by unfold ritems; rw [h1]; exact h3
        have i2 : ritems r2 e = some (true, ys) := by unfold ritems; rw [h2]; exact h4
        obtain ⟨pa, vs, ea, sa, la, R1⟩ := d1.items R i1
        obtain ⟨pb, ws, eb, sb', lb, R2⟩ := (d2.mono (List.sublist_append_right _ _)).items R1 i2
        rw [if_pos rfl] at sa sb'
        refine .inr (.inl ⟨pa, pb, vs, ws, ea, eb, sa, sb', by omega, fun hn => ?_, fun _ hn => ?_, fun _ _ p hp => ?_⟩)
        · have hx : xs = [] := List.eq_nil_of_length_eq_zero (by rw [← la, hn]; rfl)
          subst hx
          have e4 := titems_tuple h4
          subst e4
          refine q _ _ _ rfl ?_
          have R3 := d2.leaf R h2
          rw [eb] at R3
          exact (R3.subl (sb.cons_cons _))
        · have hy : ys = [] := List.eq_nil_of_length_eq_zero (by rw [← lb, hn]; rfl)
          subst hy
          have e3 := titems_tuple h3
          subst e3
          refine q _ _ _ rfl ?_
          have R3 := d1.leaf R h1
          rw [ea] at R3
          rw [List.append_nil]
          exact (R3.subl (sb.cons_cons _))
        · refine q _ _ _ rfl ?_
          have R3 : Rel X.K L σ e ((vs ++ ws).zip ((xs ++ ys).map Tr.leaf) ++ τ0) H := by
            rw [List.map_append, List.zip_append (by rw [List.length_map]; exact la), List.append_assoc]
            refine (R2.perm ?_).subl (((List.Sublist.refl _).append ((List.Sublist.refl _).append sb)))
            rw [← List.append_assoc, ← List.append_assoc]
            exact List.perm_append_comm.append_right _
          exact R3.newT (by rw [List.length_append, List.length_append]; omega) hp
      · exact q.elim
    · rename_i xs ys h3 h4
      split at q
      · rename_i hz
        have i1 : ritems r1 e = some (false, xs) := by unfold ritems; rw [h1]; exact h3
        have i2 : ritems r2 e = some (false, ys) := by unfold ritems; rw [h2]; exact h4
        obtain ⟨pa, vs, ea, sa, la, R1⟩ := d1.items R i1
        obtain ⟨pb, ws, eb, sb', lb, R2⟩ := (d2.mono (List.sublist_append_right _ _)).items R1 i2
        rw [if_neg Bool.false_ne_true] at sa sb'
        refine .inr (.inr ⟨pa, pb, vs, ws, ea, eb, sa, sb', by omega, fun p hp => ?_⟩)
        refine q _ _ _ rfl ?_
        have R3 : Rel X.K L σ e ((vs ++ ws).zip ((xs ++ ys).map Tr.leaf) ++ τ0) H := by
          rw [List.map_append, List.zip_append (by rw [List.length_map]; exact la), List.append_assoc]
          refine (R2.perm ?_).subl (((List.Sublist.refl _).append ((List.Sublist.refl _).append sb)))
          rw [← List.append_assoc, ← List.append_assoc]
          exact List.perm_append_comm.append_right _
        exact R3.newL (by rw [List.length_append, List.length_append]; omega) hp
      · exact q.elim
    · exact q.elim
  · exact q.elim
end
end Vs

set_option Elab.async false
set_option linter.all false
set_option maxRecDepth 100000
set_option maxHeartbeats 1000000
/-! Vs3: numbers, equality, membership, tests. -/
namespace Vs
open PySem PySem.Spec L2
open PyProof.Rows hiding St

/-! ### numbers -/
def subD : D → D → Option D
  | .int i, .int j => some (.int (i - j))
  | _, _ => none
def fdivD : D → D → Option D
  | .int i, .int j => if 0 < j ∧ j.natAbs.log2 < 9000 then some (.int (i / j)) else none
  | _, _ => none
def modD : D → D → Option D
  | .int i, .int j => if 0 < j then some (.int (i % j)) else none
  | _, _ => none
def powD : D → D → Option D
  | .int i, .int j => if 0 ≤ j ∧ (Builtin.Int.intBits i : Int) * j ≤ 2 ^ 27 then some (.int (i ^ j.toNat)) else none
  | _, _ => none
def shlD : D → D → Option D
  | .int i, .int j => if 0 ≤ j ∧ j ≤ 1000000 ∧ i.natAbs < 2 ^ 64 then some (.int (i * 2 ^ j.toNat)) else none
  | _, _ => none
def shrD : D → D → Option D
  | .int i, .int j => if 0 ≤ j then some (.int (i / 2 ^ j.toNat)) else none
  | _, _ => none
def andD : D → D → Option D
  | .int i, .int j => some (.int (Builtin.bitAnd i j))
  | _, _ => none
def orD : D → D → Option D
  | .int i, .int j => some (.int (Builtin.bitOr i j))
  | _, _ => none
def negD : D → Option D
  | .int i => some (.int (-i))
  | _ => none
section
variable {X : Cx} {W : WX} {a b ex : Expr} {fa fb : Xp} {pos : Pos}
theorem op_powW : OpR X (binaryOp .Pow) (rI (fun i j => 0 ≤ j ∧ (Builtin.Int.intBits i : Int) * j ≤ 2 ^ 27) fun i j => .int (i ^ j.toNat)) := opI fun _ _ _ _ _ _ _ hc q => pow_int hc.1 hc.2 q
/-- an operator on two ints -/
theorem se_ii {C : Int → Int → Prop} {f : Int → Int → Int} {o : D → D → Option D} (h : PE X ex (tOp (rI C fun i j => .int (f i j)) (tR X.K X.mg W pX fa) (tR X.K X.mg W pX fb)))
    (ho : ∀ dx dy d, o dx dy = some d → ∃ i j, dx = .int i ∧ dy = .int j ∧ C i j ∧ d = .int (f i j)) : SE X W ex (bin o fa fb) :=
  se_bin h fun x y dx dy d H Q hx hy q k => by
    obtain ⟨i, j, rfl, rfl, c, rfl⟩ := ho dx dy d q
    exact ⟨i, j, dp_int hx, dp_int hy, c, k _ fun _ => .int _⟩
theorem ii_of {C : Int → Int → Prop} [∀ i j, Decidable (C i j)] {f : Int → Int → Int} {dx dy d : D} (h : (match dx, dy with
    | .int i, .int j => if C i j then some (PyData.int (f i j) : D) else none
    | _, _ => none) = some d) : ∃ i j, dx = .int i ∧ dy = .int j ∧ C i j ∧ d = .int (f i j) := by
  split at h
  · split at h
    · rename_i i j hc
      cases h
      exact ⟨_, _, rfl, rfl, hc, rfl⟩
    · cases h
  · cases h
theorem se_sub (ha : SE X W a fa) (hb : SE X W b fb) : SE X W (.BinOp a .Sub b pos) (bin subD fa fb) :=
  se_bin (pe_op op_sub ha hb) fun x y dx dy d H Q hx hy q k => by
    unfold subD at q
    split at q
    · cases q
      exact ⟨_, _, dp_int hx, dp_int hy, k _ fun _ => .int _⟩
    · cases q
theorem se_fdiv (ha : SE X W a fa) (hb : SE X W b fb) : SE X W (.BinOp a .FloorDiv b pos) (bin fdivD fa fb) :=
  se_ii (pe_op op_fdivW ha hb) fun dx dy d q => by
    unfold fdivD at q
    exact ii_of (C := fun _ j => 0 < j ∧ j.natAbs.log2 < 9000) (f := fun i j => i / j) q
theorem se_mod (ha : SE X W a fa) (hb : SE X W b fb) : SE X W (.BinOp a .Mod b pos) (bin modD fa fb) :=
  se_ii (pe_op op_mod ha hb) fun dx dy d q => by
    unfold modD at q
    exact ii_of (C := fun _ j => 0 < j) (f := fun i j => i % j) q
theorem se_pow (ha : SE X W a fa) (hb : SE X W b fb) : SE X W (.BinOp a .Pow b pos) (bin powD fa fb) :=
  se_ii (pe_op op_powW ha hb) fun dx dy d q => by
    unfold powD at q
    exact ii_of (C := fun i j => 0 ≤ j ∧ (Builtin.Int.intBits i : Int) * j ≤ 2 ^ 27) (f := fun i j => i ^ j.toNat) q
theorem se_shl (ha : SE X W a fa) (hb : SE X W b fb) : SE X W (.BinOp a .LShift b pos) (bin shlD fa fb) :=
  se_ii (pe_op op_shl ha hb) fun dx dy d q => by
    unfold shlD at q
    exact ii_of (C := fun i j => 0 ≤ j ∧ j ≤ 1000000 ∧ i.natAbs < 2 ^ 64) (f := fun i j => i * 2 ^ j.toNat) q
theorem se_shr (ha : SE X W a fa) (hb : SE X W b fb) : SE X W (.BinOp a .RShift b pos) (bin shrD fa fb) :=
  se_ii (pe_op op_shr ha hb) fun dx dy d q => by
    unfold shrD at q
    exact ii_of (C := fun _ j => 0 ≤ j) (f := fun i j => i / 2 ^ j.toNat) q
theorem se_and2 (ha : SE X W a fa) (hb : SE X W b fb) : SE X W (.BinOp a .BitAnd b pos) (bin andD fa fb) :=
  se_bin (pe_op op_and ha hb) fun x y dx dy d H Q hx hy q k => by
    unfold andD at q
    split at q
    · cases q
      exact ⟨_, _, dp_int hx, dp_int hy, k _ fun _ => .int _⟩
    · cases q
theorem se_or2 (ha : SE X W a fa) (hb : SE X W b fb) : SE X W (.BinOp a .BitOr b pos) (bin orD fa fb) :=
  se_bin (pe_op op_or ha hb) fun x y dx dy d H Q hx hy q k => by
    unfold orD at q
    split at q
    · cases q
      exact ⟨_, _, dp_int hx, dp_int hy, k _ fun _ => .int _⟩
    · cases q
theorem se_neg (ha : SE X W a fa) : SE X W (.UnaryOp .USub a pos) (un1 negD fa) :=
  se_un (pe_un un_neg ha) fun x dx d H Q hx q k => by
    unfold negD at q
    split at q
    · cases q
      exact ⟨_, dp_int hx, k _ fun _ => .int _⟩
    · cases q
end

/-! ### * : ints, an own list times an int, a tuple times an int -/
def mulOk (i j : Int) : Bool := decide (i.natAbs.log2 + j.natAbs.log2 < 1000000)
def repOk (n : Nat) (k : Int) : Bool := decide (-(2 ^ 62) < k) && decide (k < 2 ^ 62) && decide (n * k.toNat ≤ sizeLine)
def repL (ds : List D) (k : Int) : List D := (List.replicate k.toNat ds).flatten
def mulV (r s : Rv) (e : Nv) : Out Rv :=
  match rtree r e, rtree s e with
  | some (.leaf (.int i)), some (.leaf (.int j)) => if mulOk i j = true then .ok (.tmp (.leaf (.int (i * j)))) e else .bad
  | some (.leaf (.tuple xs)), some (.leaf (.int k)) => if (repOk xs.length k && decide (xs.length ≤ 1000) && decide (k ≤ 1000)) = true then .ok (.tmp (.leaf (.tuple (repL xs k)))) e else .bad
  | some (.lst ts), some (.leaf (.int k)) => (match leaves ts with
    | some xs => if repOk xs.length k = true then .ok (.tmp (.lst ((repL xs k).map .leaf))) e else .bad
    | none => .bad)
  | _, _ => .bad
def mulX (fa fb : Xp) : Xp := fun e => (fa e).bind fun r e1 => (fb e1).bind fun s e2 => mulV r s e2
theorem flatten_rep_zip {vs : List V} {ds : List D} (h : vs.length = ds.length) : ∀ n : Nat,
    ((List.replicate n vs).flatten).zip (((List.replicate n ds).flatten).map Tr.leaf) = (List.replicate n (vs.zip (ds.map Tr.leaf))).flatten
  | 0 => rfl
  | n + 1 => by
    rw [List.replicate_succ, List.replicate_succ, List.replicate_succ, List.flatten_cons, List.flatten_cons, List.flatten_cons, List.map_append, List.zip_append (by rw [List.length_map]; exact h), flatten_rep_zip h n]
theorem len_rep {α : Type} (n : Nat) (xs : List α) : ((List.replicate n xs).flatten).length = n * xs.length := by
  induction n with
  | zero => simp
  | succ n ih => rw [List.replicate_succ, List.flatten_cons, List.length_append, ih, Nat.succ_mul, Nat.add_comm]
section
variable {K : PySem.W.Frag} {L : Nat → Option V} {σ : St} {e : Nv} {τ τ' : List (V × Tr)} {H : Hp} {vs : List V} {ds : List D}
/-- leaves that are held are held once more -/
theorem StO.dup_all {no : List Addr} {l : List (V × Tr)} (h : StO K no H (vs.zip (ds.map Tr.leaf) ++ l)) : StO K no H (vs.zip (ds.map Tr.leaf) ++ (vs.zip (ds.map Tr.leaf) ++ l)) := by
  have go : ∀ (m : List (V × Tr)) (l : List (V × Tr)), (∀ p ∈ m, ∃ d, p.2 = Tr.leaf d) → StO K no H (m ++ l) → StO K no H (m ++ (m ++ l)) := by
    intro m
    induction m with
    | nil => exact fun l _ h => h
    | cons p m ih =>
      intro l hp h
      obtain ⟨v, t⟩ := p
      obtain ⟨d, ed⟩ := hp _ List.mem_cons_self
      have ed : t = Tr.leaf d := ed
      subst ed
      have h1 : StO K no H ((v, Tr.leaf d) :: (m ++ l)) := h
      have h2 : StO K no H (m ++ ((v, Tr.leaf d) :: (v, Tr.leaf d) :: l)) := h1.dup.perm (by
        have a1 : ((v, Tr.leaf d) :: (v, Tr.leaf d) :: (m ++ l)).Perm ((v, Tr.leaf d) :: (m ++ (v, Tr.leaf d) :: l)) := List.Perm.cons _ List.perm_middle.symm
        exact a1.trans List.perm_middle.symm)
      have h3 := ih _ (fun p hp' => hp p (List.mem_cons_of_mem _ hp')) h2
      refine h3.perm ?_
      show (m ++ (m ++ ((v, Tr.leaf d) :: (v, Tr.leaf d) :: l))).Perm ((v, Tr.leaf d) :: (m ++ ((v, Tr.leaf d) :: (m ++ l))))
      have b1 : (m ++ ((v, Tr.leaf d) :: (v, Tr.leaf d) :: l)).Perm ((v, Tr.leaf d) :: (v, Tr.leaf d) :: (m ++ l)) := List.perm_middle.trans (List.Perm.cons _ List.perm_middle)
      refine (b1.append_left m).trans ?_
      refine List.perm_middle.trans (List.Perm.cons _ ?_)
      exact List.Perm.refl _
  refine go _ _ (fun p hp => ?_) h
  obtain ⟨h1, h2⟩ := List.of_mem_zip hp
  obtain ⟨d, _, e⟩ := List.mem_map.mp h2
  exact ⟨d, e.symm⟩
theorem Rel.dup_all (R : Rel K L σ e (vs.zip (ds.map Tr.leaf) ++ τ) H) : Rel K L σ e (vs.zip (ds.map Tr.leaf) ++ (vs.zip (ds.map Tr.leaf) ++ τ)) H := by
  refine ⟨R.len, R.ok, ?_⟩
  have s := R.st
  rw [List.append_assoc] at s
  have s2 := s.dup_all
  rw [List.append_assoc, List.append_assoc]
  exact s2
theorem Rel.rep_all : ∀ (n : Nat) {τ : List (V × Tr)}, Rel K L σ e (vs.zip (ds.map Tr.leaf) ++ τ) H → Rel K L σ e ((List.replicate n (vs.zip (ds.map Tr.leaf))).flatten ++ τ) H
  | 0, _, R => R.subl (List.sublist_append_right _ _)
  | n + 1, τ, R => by
    have R2 := R.dup_all
    rw [List.replicate_succ, List.flatten_cons, List.append_assoc]
    have R3 : Rel K L σ e (vs.zip (ds.map Tr.leaf) ++ (vs.zip (ds.map Tr.leaf) ++ τ)) H := R2
    have R4 := Rel.rep_all n (τ := vs.zip (ds.map Tr.leaf) ++ τ) R3
    refine R4.perm ?_
    rw [← List.append_assoc, ← List.append_assoc]
    exact List.perm_append_comm.append_right _
end
/-- a tuple times an int: nothing, itself, or a new one -/
theorem op_repA {X : Cx} : OpR X (binaryOp .Mult) (fun x y H Q => ∃ l k xs, x = .ref l ∧ y = .int k ∧ SqT X.K H l xs ∧ xs.length ≤ 1000 ∧ k ≤ 1000 ∧ -(2 ^ 62) < k ∧
    ((xs = [] ∨ k = 1) → Q (.ref l) H) ∧ (¬ (xs = [] ∨ k = 1) → ∀ p, H p = none → Q (.ref p) (upd H p (.tup (List.replicate k.toNat xs).flatten)))) := by
  intro pins s σ H x y v u Q I rx ry h
  obtain ⟨l, k, xs, rfl, rfl, hT, hz, h2, h3, q1, q2⟩ := h
  by_cases big : xs ≠ [] ∧ 2 ≤ k
  · refine op_repT pins s σ H _ _ v u Q I rx ry ⟨l, k, xs, rfl, rfl, hT, big.1, big.2, h2, hz, fun p hp => q2 (fun z => ?_) p hp⟩
    rcases z with z | z
    · exact big.1 z
    · omega
  · cases rx
    obtain ⟨t, rfl⟩ := ry
    obtain ⟨its, r, ⟨⟨cls, dd, data, sl⟩, ho, hc, n, hd⟩, hs⟩ := I.tuple hT
    simp only at hc hd
    subst hc hd
    have hle : its.length = xs.length := r.length.symm
    have c0 : (decide (k < -(2 ^ 63)) || decide (k ≥ 2 ^ 63)) = false := by
      rw [decide_eq_false (by omega), decide_eq_false (by omega)] <;> rfl
    have hem : its.toArray.isEmpty = decide (xs = []) := by
      cases its with
      | nil =>
        have : xs = [] := List.eq_nil_of_length_eq_zero (by rw [← hle]; rfl)
        subst this; rfl
      | cons a b =>
        cases xs with
        | nil => simp at hle
        | cons _ _ => rfl
    refine wpAny_binaryOp_repeat_ref (T := "tuple") (U := "int") (by decide) ⟨_, ho, rfl⟩ (fun s' => typeIs_int s' k t) noFill_tuple_mul F.fills_int_mul F.slot_int_rmul repeat_tuple F.slot_int_index.lookup
      (call_meets F.slot_int_rmul (typeIs_int s k t) F.entry_int_rmul (F.args_int_rmul_2 _ _) (int_rmul_tuple k t l its.toArray n dd sl)
        ⟨ho, rfl, ⟨_, ho, rfl⟩, ?_⟩)
    by_cases one : xs = [] ∨ k = 1
    · have c1 : (its.toArray.isEmpty || k == 1) = true := by
        rw [hem]
        rcases one with z | z
        · rw [decide_eq_true z]; rfl
        · rw [z]; simp
      have m1 : Meets (Builtin.«tuple.__mul__» ⟨[.ref l, .int k t], []⟩) (fun _ R s => s.heap.get? l = some { cls := .type "tuple", dict := dd, data := .seq its.toArray n, slots := sl } ∧ R (.ok (.ret (Value.ref l))) s) :=
        .of_wp fun prog w A R s h => by
          obtain ⟨hp, g, d, tk, os⟩ := s
          obtain ⟨hl, h⟩ := h
          have f1 := AutoSeq1.idx_int
          wp_walk using wpAny_loadPart' hl
          repeat (first
            | (refine wpAny_ite_false (decide_eq_false (by rw [c0]; exact Bool.false_ne_true)) ?_; wp_walk using wpAny_loadPart' hl)
            | (refine wpAny_ite_true (decide_eq_true c1) ?_; wp_walk using wpAny_loadPart' hl))
          all_goals first
            | exact ⟨_, rfl, h⟩
            | trace_state
      exact call_meets F.slot_tuple_mul ⟨_, ho, rfl⟩ F.entry_tuple_mul (F.args_tuple_mul_2 _ _) m1 ⟨ho, .ref l, H, I, rfl, q1 one⟩
    · have hx : xs ≠ [] := fun z => one (.inl z)
      have hk : k ≤ 0 := by
        by_cases h4 : k ≤ 0
        · exact h4
        · by_cases h5 : k = 1
          · exact absurd (.inr h5) one
          · exact absurd ⟨hx, by omega⟩ big
      have c1 : (its.toArray.isEmpty || k == 1) = false := by
        rw [hem, decide_eq_false hx, Bool.false_or]
        exact beq_eq_false_iff_ne.mpr (by omega)
      have c2 : (decide (k ≤ 0) || its.toArray.isEmpty) = true := by
        rw [decide_eq_true hk] <;> rfl
      have m2 : Meets (Builtin.«tuple.__mul__» ⟨[.ref l, .int k t], []⟩) (fun _ R s => s.heap.get? l = some { cls := .type "tuple", dict := dd, data := .seq its.toArray n, slots := sl } ∧
          R (.ok (.ret (Value.ref s.heap.objs.size))) { s with heap := s.heap.push { cls := Value.type "tuple", data := Data.seq #[] }, toks := s.toks }) :=
        .of_wp fun prog w A R s h => by
          obtain ⟨hp, g, d, tk, os⟩ := s
          obtain ⟨hl, h⟩ := h
          have f1 := AutoSeq1.idx_int
          wp_walk using wpAny_loadPart' hl
          repeat (first
            | (refine wpAny_ite_false (decide_eq_false (by rw [c0]; exact Bool.false_ne_true)) ?_; wp_walk using wpAny_loadPart' hl)
            | (refine wpAny_ite_false (decide_eq_false (by rw [c1]; exact Bool.false_ne_true)) ?_; wp_walk using wpAny_loadPart' hl)
            | (refine wpAny_ite_true (decide_eq_true c2) ?_; wp_walk using wpAny_loadPart' hl))
          all_goals first
            | exact ⟨_, rfl, h⟩
            | trace_state
      refine call_meets F.slot_tuple_mul ⟨_, ho, rfl⟩ F.entry_tuple_mul (F.args_tuple_mul_2 _ _) m2 ⟨ho, ?_⟩
      have q3 := q2 one s.heap.objs.size (I.hok.fresh (Nat.le_refl _))
      have hk0 : k.toNat = 0 := by omega
      rw [hk0] at q3
      refine ⟨.ref s.heap.objs.size, _, I.laid (t' := s.toks) (o := .tup []) (fun b ob q => Heap.get?_push_of_some _ q) (Nat.le_refl _) ?_, rfl, q3⟩
      exact ⟨Nat.zero_le _, [], .nil, IsTup.new _ _⟩
section
variable {X : Cx} {W : WX} {a b ex : Expr} {fa fb : Xp} {pos : Pos}
theorem mulOk_of {i j : Int} (h : mulOk i j = true) : CMulW i j := of_decide_eq_true (p := i.natAbs.log2 + j.natAbs.log2 < 1000000) h
theorem repOk_of {n : Nat} {k : Int} (h : repOk n k = true) : -(2 ^ 62) < k ∧ k < 2 ^ 62 ∧ n * k.toNat ≤ sizeLine := by
  unfold repOk at h
  rw [Bool.and_eq_true, Bool.and_eq_true, decide_eq_true_eq, decide_eq_true_eq, decide_eq_true_eq] at h
  exact ⟨h.1.1, h.1.2, h.2⟩
theorem se_mul (ha : SE X W a fa) (hb : SE X W b fb) : SE X W (.BinOp a .Mult b pos) (mulX fa fb) := by
  refine se_two (g := mulV) (pe_op (op_mulW.or (op_repA.or op_rep)) ha hb) fun L σ e τ τ0 H x y r1 r2 Q sb R d1 d2 q => ?_
  unfold mulV at q
  split at q
  · rename_i i j h1 h2
    have e1 := dp_int (d1.leaf_dp R h1)
    have e2 := dp_int (d2.leaf_dp R h2)
    split at q
    · rename_i hc
      exact .inl ⟨i, j, e1, e2, mulOk_of hc, q _ _ _ rfl ((R.subl sb).atom fun _ => .int _)⟩
    · exact q.elim
  · rename_i xs k h1 h2
    have e2 := dp_int (d2.leaf_dp R h2)
    split at q
    · rename_i hc
      rw [Bool.and_eq_true, Bool.and_eq_true, decide_eq_true_eq, decide_eq_true_eq] at hc
      obtain ⟨⟨hc, hz⟩, hk⟩ := hc
      obtain ⟨k1, k2, k3⟩ := repOk_of hc
      have i1 : ritems r1 e = some (true, xs) := by unfold ritems; rw [h1]; rfl
      obtain ⟨pa, vs, ea, sa, la, R1⟩ := d1.items R i1
      rw [if_pos rfl] at sa
      refine .inr (.inl ⟨pa, k, vs, ea, e2, sa, by omega, hk, k1, fun hn => ?_, fun hn p hp => ?_⟩)
      · have R3 := d1.leaf R h1
        rw [ea] at R3
        have er : repL xs k = xs := by
          rcases hn with z | z
          · have hx : xs = [] := List.eq_nil_of_length_eq_zero (by rw [← la, z]; rfl)
            subst hx
            unfold repL
            simp
          · subst z
            unfold repL
            simp
        refine q _ _ _ rfl ?_
        rw [er]
        exact R3.subl (sb.cons_cons _)
      · refine q _ _ _ rfl ?_
        have R2 := (R1.rep_all k.toNat).subl ((List.Sublist.refl _).append sb)
        rw [← flatten_rep_zip la] at R2
        exact R2.newT (by rw [len_rep, len_rep, la]) hp
    · exact q.elim
  · rename_i ts k h1 h2
    have e2 := dp_int (d2.leaf_dp R h2)
    split at q
    · rename_i xs h3
      split at q
      · rename_i hc
        obtain ⟨k1, k2, k3⟩ := repOk_of hc
        have i1 : ritems r1 e = some (false, xs) := by
          unfold ritems
          rw [h1]
          show (leaves ts).map _ = _
          rw [h3]; rfl
        obtain ⟨t, pa, vs, h4, h5, ea, sa, la, R1⟩ := d1.itemsX R i1
        rw [h1] at h4
        cases h4
        refine .inr (.inr ⟨pa, k, vs, ea, e2, sa, by omega, by omega, by rw [la]; exact k3, fun p hp => ?_⟩)
        refine q _ _ _ rfl ?_
        have R2 := (R1.rep_all k.toNat).subl ((List.Sublist.refl _).append sb)
        rw [← flatten_rep_zip la] at R2
        exact R2.newL (by rw [len_rep, len_rep, la]) hp
      · exact q.elim
    · exact q.elim
  · exact q.elim
end
end Vs

set_option Elab.async false
set_option linter.all false
set_option maxRecDepth 100000
set_option maxHeartbeats 1000000
/-! Vs4: equality, order, membership, tests, and, or, not, if. -/
namespace Vs
open PySem PySem.Spec L2
open PyProof.Rows hiding St

/-! ### data as the library reads it -/
mutual
def noLst : D → Bool
  | .list _ => false
  | .tuple xs => noLsts xs
  | .dict xs => noLstKv xs
  | _ => true
def noLsts : List D → Bool
  | [] => true
  | x :: xs => noLst x && noLsts xs
def noLstKv : List (D × D) → Bool
  | [] => true
  | (_, v) :: xs => noLst v && noLstKv xs
end
theorem noLstKv_vals : ∀ {xs : List (D × D)}, noLstKv xs = noLsts (xs.map (·.2))
  | [] => by simp [noLstKv, noLsts]
  | (k, v) :: xs => by simp [noLstKv, noLsts, noLstKv_vals (xs := xs)]
theorem reads_key {k : Key} {u : Value} {h : Heap} (r : keyIs k u = true) : Reads h u (keyD k) [] := by
  rcases keyIs_shape r with ⟨i, t, rfl, rfl⟩ | ⟨x, t, rfl, rfl⟩
  · exact .int i t
  · exact .str x t
theorem keyIs_of {k : Key} {u : Value} (r : RelV (kV k) u) : keyIs k u = true := by
  cases k with
  | inl i => obtain ⟨t, rfl⟩ := r; exact keyIs_int i t
  | inr x => obtain ⟨t, rfl⟩ := r; exact keyIs_str x t
theorem readsAll_keys {P : Program} {w : World} {vs : List (Key × Value)} {es : List DictEntry} {h : Heap} (p : Pairs (mixKind P w) es vs) : ∀ {kvs : List (Key × V)}, KV kvs vs →
    ReadsAll h (es.map (·.key)) (kvs.map fun p => keyD p.1) [] ∧ Vals (kvs.map (·.2)) (es.map (·.val)) := by
  induction p with
  | nil => intro kvs kv; cases kv; exact ⟨.nil, .nil⟩
  | cons h1 h2 _ ih =>
    intro kvs kv
    cases kv with
    | cons r t =>
      obtain ⟨i1, i2⟩ := ih t
      refine ⟨.cons (as := []) (reads_key ?_) i1, .cons ?_ i2⟩
      · rw [r.1]; exact h1
      · show RelV _ (DictEntry.val _)
        rw [h2]; exact r.2
theorem readsAll_flat {h : Heap} : ∀ {ks : List Key} {us : List Value}, Vals (ks.map kV) us → ReadsAll h us (ks.map keyD) []
  | [], _, .nil => .nil
  | k :: ks, _, .cons r t => .cons (as := []) (reads_key (keyIs_of r)) (readsAll_flat t)
theorem DKd.inv {o : HO} {ks : List D} {vs : List V} (h : DKd o ks vs) : (∃ kvs : List (Key × V), o = .dK kvs ∧ ks = (kvs.map fun p => keyD p.1) ∧ vs = kvs.map (·.2)) ∨
    ∃ kvs : List (List Key × V), o = .dT kvs ∧ ks = (kvs.map fun p => .tuple (p.1.map keyD)) ∧ vs = kvs.map (·.2) := by
  cases h with
  | k => exact .inl ⟨_, rfl, rfl, rfl⟩
  | t => exact .inr ⟨_, rfl, rfl, rfl⟩
section
variable {X : Cx} {pins : List (Addr × Obj)} {σ : St} {H : Hp} {s : Shared}
/-- a dict's keys are read, its values stand as told -/
theorem dct_reads (I : Inv X pins σ H s) {a : Addr} {o : HO} {ks : List D} {vs : List V} (ha : H a = some o) (hk : DKd o ks vs) :
    ∃ ob es ep, s.heap.get? a = some ob ∧ ob.cls = .type "dict" ∧ ob.data = .dict es ep ∧ a ≠ sysModules ∧ ReadsAll s.heap (es.toList.map (·.key)) ks [] ∧ Vals vs (es.toList.map (·.val)) := by
  have hO := I.hok _ _ ha
  rcases hk.inv with ⟨kvs, rfl, rfl, rfl⟩ | ⟨kvs, rfl, rfl, rfl⟩
  · obtain ⟨hz, hsm, vs, kv, o, es, ep, ho, hx, hd, _, hp, _⟩ := hO
    obtain ⟨r1, r2⟩ := readsAll_keys (h := s.heap) hp kv
    exact ⟨o, es, ep, ho, hx.1, hd, by simpa using hsm, r1, r2⟩
  · obtain ⟨hz, hsm, ys, py, o, es, ep, ho, hx, hd, he, _⟩ := hO
    have g : ∀ {kvs : List (List Key × V)} {ys : List (List Key × Addr × Value)}, Paired (fun (p : List Key × V) (q : List Key × Addr × Value) => p.1 = q.1 ∧ H q.2.1 = some (.tup (p.1.map kV)) ∧ RelV p.2 q.2.2) kvs ys →
        ReadsAll s.heap ((ys.map (entryOfKey (tupleKind (mixKind X.prog X.w)))).map (·.key)) (kvs.map fun p => .tuple (p.1.map keyD)) [] ∧ Vals (kvs.map (·.2)) ((ys.map (entryOfKey (tupleKind (mixKind X.prog X.w)))).map (·.val)) := by
      intro kvs ys py
      induction py with
      | nil => exact ⟨.nil, .nil⟩
      | cons r _ ih =>
        obtain ⟨r1, r2, r3⟩ := r
        obtain ⟨i1, i2⟩ := ih
        obtain ⟨its, rv, ⟨o, ho, hc, n, hd⟩, _⟩ := I.tuple (SqT.of r2)
        exact ⟨.cons (as := []) (.tuple ho hc hd (readsAll_flat rv)) i1, .cons r3 i2⟩
    obtain ⟨r1, r2⟩ := g py
    rw [← he] at r1 r2
    exact ⟨o, es, ep, ho, hx.1, hd, by simpa using hsm, r1, r2⟩
mutual
theorem Dq.reads (I : Inv X pins σ H s) : ∀ {d : D} {v : V} {u : Value}, Dq X.K H v d → RelV v u → ∃ as, Reads s.heap u d as ∧ (noLst d = true → sysModules ∉ as)
  | _, _, _, .non, r => by cases r; exact ⟨_, .none, by simp⟩
  | _, _, _, .bl b, r => by cases r; exact ⟨_, .bool b, by simp⟩
  | _, _, _, .int i, r => by obtain ⟨t, rfl⟩ := r; exact ⟨_, .int i t, by simp⟩
  | _, _, _, .str x, r => by obtain ⟨t, rfl⟩ := r; exact ⟨_, .str x t, by simp⟩
  | _, _, _, .lst hs ha, r => by
    cases r
    obtain ⟨its, rv, ⟨o, n, ho, hc, _, hd⟩, _⟩ := I.list hs
    obtain ⟨as, hr, _⟩ := DqAll.reads I ha rv
    exact ⟨_, Reads.list ho hc hd hr, fun z => by simp [noLst] at z⟩
  | _, _, _, .tup hs ha, r => by
    cases r
    obtain ⟨its, rv, ⟨o, ho, hc, n, hd⟩, _⟩ := I.tuple hs
    obtain ⟨as, hr, hm⟩ := DqAll.reads I ha rv
    exact ⟨_, Reads.tuple ho hc hd hr, fun z => hm (by simpa [noLst] using z)⟩
  | _, _, _, .dct (a := a) (xs := xs) ha hk e1 hv, r => by
    cases r
    obtain ⟨o, es, ep, ho, hc, hd, hne, r1, r2⟩ := dct_reads I ha hk
    obtain ⟨as, hr, hm⟩ := DqAll.reads I hv r2
    rw [← e1] at r1
    refine ⟨_, Reads.dict ho hc hd r1 hr, fun z => ?_⟩
    have hm' := hm (by rw [← noLstKv_vals]; simpa [noLst] using z)
    simp only [List.mem_append, List.mem_cons, not_or]
    exact ⟨⟨fun q => hne q.symm, by simp⟩, hm'⟩
theorem DqAll.reads (I : Inv X pins σ H s) : ∀ {ds : List D} {vs : List V} {us : List Value}, DqAll X.K H vs ds → Vals vs us → ∃ as, ReadsAll s.heap us ds as ∧ (noLsts ds = true → sysModules ∉ as)
  | _, _, _, .nil, r => by cases r; exact ⟨_, .nil, by simp⟩
  | _, _, _, .cons h1 h2, r => by
    cases r with
    | cons r1 r2 =>
      obtain ⟨as, q1, m1⟩ := Dq.reads I h1 r1
      obtain ⟨bs, q2, m2⟩ := DqAll.reads I h2 r2
      refine ⟨_, .cons q1 q2, fun z => ?_⟩
      simp only [noLsts, Bool.and_eq_true] at z
      simp only [List.mem_append, not_or]
      exact ⟨m1 z.1, m2 z.2⟩
end
end

/-! ### == and != -/
def eqD (neg : Bool) : D → D → Option D := fun x y => if (SeqAt.shaped x && SeqAt.shaped y) = true then some (.bool (neg != PyData.eqv x y)) else none
section
variable {X : Cx} {W : WX} {a b ex : Expr} {fa fb f : Xp} {pos : Pos}
theorem op_eqQ (hu : X.A.units + 64 < cLine) : OpR X (compareOp .Eq) (fun x y H Q => ∃ d e, Dq X.K H x d ∧ Dq X.K H y e ∧ SeqAt.shaped d = true ∧ SeqAt.shaped e = true ∧ Q (.bl (PyData.eqv d e)) H) := by
  intro pins s σ H x y v u Q I rx ry h
  obtain ⟨d, e, hd, he, sd, se, q⟩ := h
  obtain ⟨as, r1, _⟩ := Dq.reads I hd rx
  obtain ⟨bs, r2, _⟩ := Dq.reads I he ry
  exact SeqAt.compareEq_shaped r1 r2 sd se hu ⟨.bl _, H, I, rfl, q⟩
theorem op_neQ (hu : X.A.units + 64 < cLine) : OpR X (compareOp .NotEq) (fun x y H Q => ∃ d e, Dq X.K H x d ∧ Dq X.K H y e ∧ SeqAt.shaped d = true ∧ SeqAt.shaped e = true ∧ Q (.bl (!PyData.eqv d e)) H) := by
  intro pins s σ H x y v u Q I rx ry h
  obtain ⟨d, e, hd, he, sd, se, q⟩ := h
  obtain ⟨as, r1, _⟩ := Dq.reads I hd rx
  obtain ⟨bs, r2, _⟩ := Dq.reads I he ry
  exact SeqAt.compareNe_shaped r1 r2 sd se hu ⟨.bl _, H, I, rfl, q⟩
theorem eqD_false {x y d : D} (h : eqD false x y = some d) : SeqAt.shaped x = true ∧ SeqAt.shaped y = true ∧ d = .bool (PyData.eqv x y) := by
  unfold eqD at h
  split at h
  · rename_i hc
    rw [Bool.and_eq_true] at hc
    cases h
    exact ⟨hc.1, hc.2, by simp⟩
  · cases h
theorem eqD_true {x y d : D} (h : eqD true x y = some d) : SeqAt.shaped x = true ∧ SeqAt.shaped y = true ∧ d = .bool (!PyData.eqv x y) := by
  unfold eqD at h
  split at h
  · rename_i hc
    rw [Bool.and_eq_true] at hc
    cases h
    exact ⟨hc.1, hc.2, by simp⟩
  · cases h
/-- a value that is a bool, as a test -/
def tst (f : Xp) : Tt := fun e => (f e).bind fun r e1 =>
  match rview r e1 with
  | some (.bool b) => .ok b e1
  | _ => .bad
theorem tst_reads {K : PySem.W.Frag} {mg : Str → Option Value} {t : TE} (g : ∀ σ H Q, tR K mg W pX f σ H Q → t σ H Q) (σ : St) (H : Hp) (Q : Bool → Hp → Prop) (h : tTs K mg W (tst f) σ H Q) : tTest t σ H Q := by
  obtain ⟨L, e, τ, R, q⟩ := h
  refine g _ _ _ (tR.fst R q fun r e1 v H1 τ1 _ q1 p1 R1 => ?_)
  obtain ⟨d1, s1⟩ := p1.hd
  split at q1
  · rename_i c hc
    exact ⟨c, dp_bl (d1.dp R1 hc), q1 H1 (R1.subl s1)⟩
  · exact q1.elim
theorem st_of {t : TE} (h : PT X ex (tTest t)) (g : ∀ σ H Q, tR X.K X.mg W pX f σ H Q → t σ H Q) : STt X W ex (tst f) := PT.imp h (tst_reads g)
/-- .. by its value -/
theorem st_val (h : SE X W ex f) (he : ∀ whole, isTrue ex X.env whole = (do let v ← whole; standAt ex.pos; holding [v] (truthy v)) := by intro _; rfl) : STt X W ex (tst f) := st_of (pt_val h he) fun _ _ _ z => z
abbrev rEqQ (K : PySem.W.Frag) (neg : Bool) : R2 := fun x y H Q => ∃ d e, Dq K H x d ∧ Dq K H y e ∧ SeqAt.shaped d = true ∧ SeqAt.shaped e = true ∧ Q (.bl (neg != PyData.eqv d e)) H
theorem eq_reads {K : PySem.W.Frag} {mg : Str → Option Value} (neg : Bool) (σ : St) (H : Hp) (Q : VK) (h : tR K mg W pX (bin (eqD neg) fa fb) σ H Q) :
    tOp (rEqQ K neg) (tR K mg W pX fa) (tR K mg W pX fb) σ H Q :=
  bin_reads (fun x y dx dy d H Q hx hy q k => by
    unfold eqD at q
    split at q
    · rename_i hc
      rw [Bool.and_eq_true] at hc
      cases q
      exact ⟨_, _, hx, hy, hc.1, hc.2, k _ fun _ => .bl _⟩
    · cases q) σ H Q h
theorem op_eqB (hu : X.A.units + 64 < cLine) : OpR X (compareOp .Eq) (rEqQ X.K false) := fun pins s σ H x y v u Q I rx ry ⟨d, e, h1, h2, h3, h4, q⟩ =>
  op_eqQ hu pins s σ H x y v u Q I rx ry ⟨d, e, h1, h2, h3, h4, by simpa using q⟩
theorem op_neB (hu : X.A.units + 64 < cLine) : OpR X (compareOp .NotEq) (rEqQ X.K true) := fun pins s σ H x y v u Q I rx ry ⟨d, e, h1, h2, h3, h4, q⟩ =>
  op_neQ hu pins s σ H x y v u Q I rx ry ⟨d, e, h1, h2, h3, h4, by simpa using q⟩
theorem se_eq (hu : X.A.units + 64 < cLine) (ha : SE X W a fa) (hb : SE X W b fb) : SE X W (.Compare a [.Eq] [b] pos) (bin (eqD false) fa fb) := PE.imp (pe_cmpR (op_eqB hu) ha hb (nomark _)) (eq_reads false)
theorem se_ne (hu : X.A.units + 64 < cLine) (ha : SE X W a fa) (hb : SE X W b fb) : SE X W (.Compare a [.NotEq] [b] pos) (bin (eqD true) fa fb) := PE.imp (pe_cmpR (op_neB hu) ha hb (nomark _)) (eq_reads true)
theorem st_eq (hu : X.A.units + 64 < cLine) (ha : SE X W a fa) (hb : SE X W b fb) : STt X W (.Compare a [.Eq] [b] pos) (tst (bin (eqD false) fa fb)) := st_of (pt_cmpR (op_eqB hu) ha hb (nomark _)) (eq_reads false)
theorem st_ne (hu : X.A.units + 64 < cLine) (ha : SE X W a fa) (hb : SE X W b fb) : STt X W (.Compare a [.NotEq] [b] pos) (tst (bin (eqD true) fa fb)) := st_of (pt_cmpR (op_neB hu) ha hb (nomark _)) (eq_reads true)
end

/-! ### order -/
def ordI (op : CmpOp) (i j : Int) : Bool :=
  match op with
  | .Lt => decide (i < j)
  | .LtE => decide (i ≤ j)
  | .Gt => decide (j < i)
  | .GtE => decide (j ≤ i)
  | _ => false
mutual
/-- may be put in order: ints, tuples of such -/
def cmpb : D → D → Bool
  | .int _, .int _ => true
  | .tuple xs, .tuple ys => cmpbA xs ys
  | _, _ => false
def cmpbA : List D → List D → Bool
  | x :: xs, y :: ys => cmpb x y && cmpbA xs ys
  | _, _ => true
end
mutual
def ordB (op : CmpOp) : D → D → Bool
  | .int i, .int j => ordI op i j
  | .tuple xs, .tuple ys => ordA op xs ys
  | _, _ => false
def ordA (op : CmpOp) : List D → List D → Bool
  | [], ys => ordI op 0 ys.length
  | x :: xs, [] => ordI op ((x :: xs).length : Nat) 0
  | x :: xs, y :: ys => if PyData.eqv x y = true then ordA op xs ys else ordB op x y
end
abbrev Ord4 (op : CmpOp) : Prop := op = .Lt ∨ op = .LtE ∨ op = .Gt ∨ op = .GtE
theorem rcOp_int {op : CmpOp} (h : Ord4 op) {A : Around} {s : Shared} (i j : Int) (t u : Tok) : Ob.RcOp op A s (.int i t) (.int j u) (ordI op i j) := by
  rcases h with rfl | rfl | rfl | rfl
  · exact Ob.RcOp.lt_int i j t u
  · exact Ob.RcOp.le_int i j t u
  · exact Ob.RcOp.gt_int i j t u
  · exact Ob.RcOp.ge_int i j t u
theorem rcOp_tuples {op : CmpOp} (h : Ord4 op) {A : Around} {s : Shared} {l b : Addr} {items items2 : Array Value} {e r : Nat → Bool} (hl : s.heap.IsTuple l items) (hb : s.heap.IsTuple b items2) (hu : A.units < cLine)
    (he : ∀ j (h1 : j < items.size) (h2 : j < items2.size), SeqAt.EqAt A.in1 s items[j] items2[j] (e j)) (hr : ∀ j (h1 : j < items.size) (h2 : j < items2.size), e j = false → Ob.RcOp op A.in1 s items[j] items2[j] (r j)) :
    Ob.RcOp op A s (.ref l) (.ref b) (Ob.lexAt e r (ordI op items.size items2.size) 0 (min items.size items2.size)) := by
  rcases h with rfl | rfl | rfl | rfl
  · have := Ob.RcOp.tuples_lt hl hb hu he hr
    simpa [ordI] using this
  · have := Ob.RcOp.tuples_le hl hb hu he hr
    simpa [ordI] using this
  · have := Ob.RcOp.tuples_gt hl hb hu he hr
    simpa [ordI, gt_iff_lt] using this
  · have := Ob.RcOp.tuples_ge hl hb hu he hr
    simpa [ordI, ge_iff_le] using this
theorem lexAt_shift {e r : Nat → Bool} {z : Bool} : ∀ (k i : Nat), Ob.lexAt e r z (i + 1) k = Ob.lexAt (fun j => e (j + 1)) (fun j => r (j + 1)) z i k
  | 0, _ => rfl
  | k + 1, i => by
    rw [Ob.lexAt_succ, Ob.lexAt_succ, lexAt_shift k (i + 1)]
def ordI_shift (op : CmpOp) (i j : Int) : ordI op (i + 1) (j + 1) = ordI op i j := by
  cases op <;> simp [ordI] <;> omega
theorem ordA_lex {op : CmpOp} : ∀ (xs ys : List D),
    Ob.lexAt (fun j => PyData.eqv (xs.getD j .none) (ys.getD j .none)) (fun j => ordB op (xs.getD j .none) (ys.getD j .none)) (ordI op xs.length ys.length) 0 (min xs.length ys.length) = ordA op xs ys
  | [], ys => by
    simp only [ordA]
    simp [Ob.lexAt]
  | x :: xs, [] => by
    simp only [ordA]
    simp [Ob.lexAt]
  | x :: xs, y :: ys => by
    simp only [ordA]
    rw [List.length_cons, List.length_cons, Nat.succ_min_succ, Ob.lexAt_succ, lexAt_shift]
    by_cases he : PyData.eqv x y = true
    · rw [if_pos he]
      have e0 : PyData.eqv ((x :: xs).getD 0 .none) ((y :: ys).getD 0 .none) = true := he
      rw [if_pos e0]
      have e1 : ordI op ((xs.length + 1 : Nat) : Int) ((ys.length + 1 : Nat) : Int) = ordI op xs.length ys.length := by
        have := ordI_shift op xs.length ys.length
        simpa using this
      rw [e1]
      exact ordA_lex xs ys
    · rw [if_neg he]
      have e0 : ¬ PyData.eqv ((x :: xs).getD 0 .none) ((y :: ys).getD 0 .none) = true := he
      rw [if_neg e0]
      rfl
theorem cmpbA_at : ∀ {xs ys : List D} {j : Nat}, cmpbA xs ys = true → j < xs.length → j < ys.length → cmpb (xs.getD j .none) (ys.getD j .none) = true
  | [], _, _, _, h, _ => by simp at h
  | _ :: _, [], _, _, _, h => by simp at h
  | x :: xs, y :: ys, 0, h, _, _ => by
    simp only [cmpbA, Bool.and_eq_true] at h
    exact h.1
  | x :: xs, y :: ys, j + 1, h, h1, h2 => by
    simp only [cmpbA, Bool.and_eq_true] at h
    exact cmpbA_at (j := j) h.2 (by simpa using h1) (by simpa using h2)
theorem readsAll_len {h : Heap} : ∀ {us : List Value} {ds : List D} {as : List Addr}, ReadsAll h us ds as → us.length = ds.length
  | _, _, _, .nil => rfl
  | _, _, _, .cons _ t => by rw [List.length_cons, List.length_cons, readsAll_len t]
theorem readsAll_at {h : Heap} : ∀ {us : List Value} {ds : List D} {as : List Addr} {j : Nat} (h1 : j < us.length), ReadsAll h us ds as → ∃ bs, Reads h us[j] (ds.getD j .none) bs
  | _, _, _, _, h1, .nil => by simp at h1
  | _, _, _, 0, _, .cons r _ => ⟨_, r⟩
  | _, _, _, j + 1, h1, .cons _ t => by
    obtain ⟨bs, r⟩ := readsAll_at (j := j) (by simpa using h1) t
    exact ⟨bs, by simpa using r⟩
theorem canLayAll0_at : ∀ (xs : List D) {j : Nat}, PyData.canLayAll0 xs = true → j < xs.length → (xs.getD j .none).canLay0 = true
  | [], _, _, h => by simp at h
  | x :: xs, 0, h, _ => by
    simp only [PyData.canLayAll0, Bool.and_eq_true] at h
    exact h.1
  | x :: xs, j + 1, h, h1 => by
    simp only [PyData.canLayAll0, Bool.and_eq_true] at h
    exact canLayAll0_at xs (j := j) h.2 (by simpa using h1)
theorem depthAll_at : ∀ (xs : List D) {j : Nat}, j < xs.length → (xs.getD j .none).depth ≤ PyData.depthAll xs
  | [], _, h => by simp at h
  | x :: xs, 0, _ => by
    simp only [PyData.depthAll]
    exact Nat.le_max_left _ _
  | x :: xs, j + 1, h1 => by
    simp only [PyData.depthAll]
    exact Nat.le_trans (depthAll_at xs (j := j) (by simpa using h1)) (Nat.le_max_right _ _)
theorem rcOp_reads {op : CmpOp} (ho : Ord4 op) : ∀ (n : Nat) (d e : D) (A : Around) (s : Shared) (u v : Value) (as bs : List Addr), d.depth ≤ n → cmpb d e = true → d.canLay0 = true → e.canLay0 = true → Reads s.heap u d as → Reads s.heap v e bs → A.units + n < cLine → Ob.RcOp op A s u v (ordB op d e) := by
  intro n
  induction n with
  | zero =>
    intro d e A s u v as bs hn hc h1 h2 r1 r2 hu
    cases d with
    | int i =>
      cases e with
      | int j =>
        cases r1; cases r2
        simp only [ordB]
        exact rcOp_int ho _ _ _ _
      | _ => simp [cmpb] at hc
    | tuple xs => simp [PyData.depth] at hn
    | _ => simp [cmpb] at hc
  | succ n ih =>
    intro d e A s u v as bs hn hc h1 h2 r1 r2 hu
    cases d with
    | int i =>
      cases e with
      | int j =>
        cases r1; cases r2
        simp only [ordB]
        exact rcOp_int ho _ _ _ _
      | _ => simp [cmpb] at hc
    | tuple xs =>
      cases e with
      | tuple ys =>
        simp only [cmpb] at hc
        simp only [PyData.canLay0] at h1 h2
        simp only [PyData.depth] at hn
        cases r1 with
        | tuple g1 g2 g3 g4 =>
          cases r2 with
          | tuple k1 k2 k3 k4 =>
            rename_i a o vs m a' o' vs' m'
            have l1 := readsAll_len g4
            have l2 := readsAll_len k4
            simp only [ordB]
            rw [← ordA_lex]
            have z1 : vs.size = xs.length := by rw [← l1]; simp
            have z2 : vs'.size = ys.length := by rw [← l2]; simp
            rw [← z1, ← z2]
            refine rcOp_tuples ho ⟨o, g1, g2, m, by rw [g3]⟩ ⟨o', k1, k2, m', by rw [k3]⟩ (by omega) (fun j j1 j2 => ?_) (fun j j1 j2 hf => ?_)
            · obtain ⟨c1, p1⟩ := readsAll_at (j := j) (by simpa using j1) g4
              obtain ⟨c2, p2⟩ := readsAll_at (j := j) (by simpa using j2) k4
              have l3 : j < xs.length := by rw [← z1]; exact j1
              have l4 : j < ys.length := by rw [← z2]; exact j2
              have b1 := depthAll_at xs l3
              have b2 := depthAll_at ys l4
              exact SeqAt.eqAt_reads _ _ A.in1 s _ _ _ _ (by simpa using p1) (by simpa using p2) (canLayAll0_at xs h1 l3) (canLayAll0_at ys h2 l4) (by
                show A.units + 1 + min _ _ < cLine
                omega)
            · obtain ⟨c1, p1⟩ := readsAll_at (j := j) (by simpa using j1) g4
              obtain ⟨c2, p2⟩ := readsAll_at (j := j) (by simpa using j2) k4
              have l3 : j < xs.length := by rw [← z1]; exact j1
              have l4 : j < ys.length := by rw [← z2]; exact j2
              have b1 := depthAll_at xs l3
              exact ih _ _ A.in1 s _ _ _ _ (by omega) (cmpbA_at hc l3 l4) (canLayAll0_at xs h1 l3) (canLayAll0_at ys h2 l4) (by simpa using p1) (by simpa using p2) (by
                show A.units + 1 + n < cLine
                omega)
      | _ => simp [cmpb] at hc
    | _ => simp [cmpb] at hc
end Vs

set_option Elab.async false
set_option linter.all false
set_option maxRecDepth 100000
set_option maxHeartbeats 1000000
/-! Vs5: order, membership, is None, tests joined, if. -/
namespace Vs
open PySem PySem.Spec L2
open PyProof.Rows hiding St

/-! ### a < b, .. -/
def ordD (op : CmpOp) : D → D → Option D := fun x y => if (cmpb x y && (SeqAt.shaped x && SeqAt.shaped y)) = true then some (.bool (ordB op x y)) else none
abbrev rOrd (K : PySem.W.Frag) (op : CmpOp) : R2 := fun x y H Q => ∃ d e, Dq K H x d ∧ Dq K H y e ∧ cmpb d e = true ∧ SeqAt.shaped d = true ∧ SeqAt.shaped e = true ∧ Q (.bl (ordB op d e)) H
section
variable {X : Cx} {W : WX} {a b ex : Expr} {fa fb f : Xp} {pos : Pos}
theorem op_ord {op : CmpOp} (ho : Ord4 op) (hu : X.A.units + 64 < cLine) : OpR X (compareOp op) (rOrd X.K op) := by
  intro pins s σ H x y v u Q I rx ry h
  obtain ⟨d, e, hd, he, hc, sd, se, q⟩ := h
  obtain ⟨as, r1, _⟩ := Dq.reads I hd rx
  obtain ⟨bs, r2, _⟩ := Dq.reads I he ry
  have R := rcOp_reads ho 64 d e X.A s v u as bs (SeqAt.depth_of_shaped sd) hc (SeqAt.canLay_of_shaped sd) (SeqAt.canLay_of_shaped se) r1 r2 hu
  have z := R X.prog X.w X.xe (EP X pins σ Q) ⟨.bl _, H, I, rfl, q⟩
  rcases ho with rfl | rfl | rfl | rfl <;> exact z
theorem ord_reads {K : PySem.W.Frag} {mg : Str → Option Value} (op : CmpOp) (σ : St) (H : Hp) (Q : VK) (h : tR K mg W pX (bin (ordD op) fa fb) σ H Q) :
    tOp (rOrd K op) (tR K mg W pX fa) (tR K mg W pX fb) σ H Q :=
  bin_reads (fun x y dx dy d H Q hx hy q k => by
    unfold ordD at q
    split at q
    · rename_i hc
      rw [Bool.and_eq_true, Bool.and_eq_true] at hc
      cases q
      exact ⟨_, _, hx, hy, hc.1, hc.2.1, hc.2.2, k _ fun _ => .bl _⟩
    · cases q) σ H Q h
theorem ord_nomark {op : CmpOp} (ho : Ord4 op) (b : Expr) : behindInMarks op b = false := by
  rcases ho with rfl | rfl | rfl | rfl <;> exact nomark _
theorem se_ord {op : CmpOp} (ho : Ord4 op) (hu : X.A.units + 64 < cLine) (ha : SE X W a fa) (hb : SE X W b fb) : SE X W (.Compare a [op] [b] pos) (bin (ordD op) fa fb) := PE.imp (pe_cmpR (op_ord ho hu) ha hb (ord_nomark ho b)) (ord_reads op)
theorem st_ord {op : CmpOp} (ho : Ord4 op) (hu : X.A.units + 64 < cLine) (ha : SE X W a fa) (hb : SE X W b fb) : STt X W (.Compare a [op] [b] pos) (tst (bin (ordD op) fa fb)) := st_of (pt_cmpR (op_ord ho hu) ha hb (ord_nomark ho b)) (ord_reads op)
theorem oLt : Ord4 .Lt := .inl rfl
theorem oLe : Ord4 .LtE := .inr (.inl rfl)
theorem oGt : Ord4 .Gt := .inr (.inr (.inl rfl))
theorem oGe : Ord4 .GtE := .inr (.inr (.inr rfl))
end

/-! ### a < b < c, of ints -/
def chX (op op' : CmpOp) (fa fb fc : Xp) : Xp := fun e => (fa e).bind fun r e1 => (fb e1).bind fun s e2 =>
  match rview r e2, rview s e2 with
  | some (.int i), some (.int j) => if ordI op i j = true then (fc e2).bind (fun t e3 => match rview t e3 with
      | some (.int k) => .ok (.tmp (.leaf (.bool (ordI op' j k)))) e3
      | _ => .bad) else .ok (.tmp (.leaf (.bool false))) e2
  | _, _ => .bad
def rOrdI (op : CmpOp) : R2 := fun x y H Q => ∃ i j, x = .int i ∧ y = .int j ∧ Q (.bl (ordI op i j)) H
section
variable {X : Cx} {W : WX} {a b c ex : Expr} {fa fb fc f : Xp} {pos : Pos}
theorem op_ordI {op : CmpOp} (ho : Ord4 op) : OpR X (compareOp op) (rOrdI op) := by
  rcases ho with rfl | rfl | rfl | rfl
  · exact op_lt
  · exact op_le
  · exact op_gt
  · exact op_ge
theorem ch_reads {K : PySem.W.Frag} {mg : Str → Option Value} {op op' : CmpOp} (σ : St) (H : Hp) (Q : VK) (h : tR K mg W pX (chX op op' fa fb fc) σ H Q) :
    tChain (rOrdI op) (rOrdI op') (tR K mg W pX fa) (tR K mg W pX fb) (tR K mg W pX fc) σ H Q := by
  obtain ⟨L, e, τ, R, q⟩ := h
  refine tR.fst R q fun r1 e1 x H1 τ1 _ q1 p1 R1 => ?_
  obtain ⟨d1, s1⟩ := p1.hd
  refine tR.mid R1 s1 q1 fun r2 e2 y H2 τ2 _ q2 p2 R2 => ?_
  obtain ⟨d2, s2⟩ := p2.hd
  split at q2
  · rename_i i j h1 h2
    have ei := dp_int ((d1.mono s2).dp R2 h1)
    have ej := dp_int (d2.dp R2 h2)
    refine ⟨i, j, ei, ej, ordI op i j, rfl, ?_⟩
    by_cases hc : ordI op i j = true
    · rw [if_pos hc] at q2
      rw [if_pos hc]
      refine tR.mid R2 (s1.trans s2) q2 fun r3 e3 z H3 τ3 _ q3 p3 R3 => ?_
      obtain ⟨d3, s3⟩ := p3.hd
      split at q3
      · rename_i k h3
        exact ⟨j, k, ej, dp_int (d3.dp R3 h3), q3 _ _ _ rfl ((R3.subl ((s1.trans s2).trans s3)).atom fun _ => .bl _)⟩
      · exact q3.elim
    · rw [if_neg hc] at q2
      rw [if_neg hc]
      exact q2 _ _ _ rfl ((R2.subl (s1.trans s2)).atom fun _ => .bl _)
  · exact q2.elim
theorem se_ch {op op' : CmpOp} (ho : Ord4 op) (ho' : Ord4 op') (ha : SE X W a fa) (hb : SE X W b fb) (hc : SE X W c fc) (hm : lastMarks [op, op'] [b, c] = false := by with_unfolding_all rfl) :
    SE X W (.Compare a [op, op'] [b, c] pos) (chX op op' fa fb fc) := PE.imp (pe_chain (op_ordI ho) (op_ordI ho') ha hb hc hm) ch_reads
theorem st_ch {op op' : CmpOp} (ho : Ord4 op) (ho' : Ord4 op') (ha : SE X W a fa) (hb : SE X W b fb) (hc : SE X W c fc) (hm : lastMarks [op, op'] [b, c] = false := by with_unfolding_all rfl) :
    STt X W (.Compare a [op, op'] [b, c] pos) (tst (chX op op' fa fb fc)) := st_of (pt_chain (op_ordI ho) (op_ordI ho') ha hb hc hm) ch_reads
end

/-! ### x in xs -/
def inD (neg : Bool) : D → D → Option D
  | x, .list ys => if (SeqAt.shaped x && SeqAt.shaped (.list ys)) = true then some (.bool (neg != ys.any fun z => PyData.eqv z x)) else none
  | x, .tuple ys => if (SeqAt.shaped x && SeqAt.shaped (.tuple ys)) = true then some (.bool (neg != ys.any fun z => PyData.eqv z x)) else none
  | _, _ => none
def rInQ (K : PySem.W.Frag) (neg : Bool) : R2 := fun x y H Q => ∃ d ds, Dq K H x d ∧ (Dq K H y (.list ds) ∨ Dq K H y (.tuple ds)) ∧ SeqAt.shaped d = true ∧ (SeqAt.shaped (.list ds) = true ∨ SeqAt.shaped (.tuple ds) = true) ∧ Q (.bl (neg != ds.any fun z => PyData.eqv z d)) H
theorem shaped_lt {ds : List D} (h : SeqAt.shaped (.list ds) = true ∨ SeqAt.shaped (.tuple ds) = true) : PyData.canLayAll0 ds = true := by
  rcases h with h | h
  · have := SeqAt.canLay_of_shaped h
    simpa [PyData.canLay0] using this
  · have := SeqAt.canLay_of_shaped h
    simpa [PyData.canLay0] using this
section
variable {X : Cx} {W : WX} {a b c ex : Expr} {fa fb fc f : Xp} {pos : Pos}
theorem room_inQ {A : Around} {d : D} {ds : List D} (hu : A.units + 65 < cLine) (sd : SeqAt.shaped d = true) : A.units + 1 + min (PyData.depthAll ds) d.depth < cLine := by
  have h1 := SeqAt.depth_of_shaped sd
  have h2 : min (PyData.depthAll ds) d.depth ≤ d.depth := Nat.min_le_right _ _
  omega
theorem op_inQ (hu : X.A.units + 65 < cLine) : OpR X (compareOp .In) (rInQ X.K false) := by
  intro pins s σ H x y v u Q I rx ry h
  obtain ⟨d, ds, hd, he, sd, se, q⟩ := h
  obtain ⟨as, r1, _⟩ := Dq.reads I hd rx
  have q' : EP X pins σ Q (.bool (ds.any fun z => PyData.eqv z d)) s := ⟨.bl _, H, I, rfl, by simpa using q⟩
  rcases he with he | he
  · obtain ⟨bs, r2, _⟩ := Dq.reads I he ry
    exact SeqAt.in_list_reads r2 r1 (shaped_lt se) (SeqAt.canLay_of_shaped sd) (room_inQ hu sd) q'
  · obtain ⟨bs, r2, _⟩ := Dq.reads I he ry
    exact SeqAt.in_tuple_reads r2 r1 (shaped_lt se) (SeqAt.canLay_of_shaped sd) (room_inQ hu sd) q'
theorem op_notInQ (hu : X.A.units + 65 < cLine) : OpR X (compareOp .NotIn) (rInQ X.K true) := by
  intro pins s σ H x y v u Q I rx ry h
  obtain ⟨d, ds, hd, he, sd, se, q⟩ := h
  obtain ⟨as, r1, _⟩ := Dq.reads I hd rx
  have q' : EP X pins σ Q (.bool (!(ds.any fun z => PyData.eqv z d))) s := ⟨.bl _, H, I, rfl, by simpa using q⟩
  rcases he with he | he
  · obtain ⟨bs, r2, _⟩ := Dq.reads I he ry
    exact SeqAt.notIn_list_reads r2 r1 (shaped_lt se) (SeqAt.canLay_of_shaped sd) (room_inQ hu sd) q'
  · obtain ⟨bs, r2, _⟩ := Dq.reads I he ry
    exact SeqAt.notIn_tuple_reads r2 r1 (shaped_lt se) (SeqAt.canLay_of_shaped sd) (room_inQ hu sd) q'
theorem in_reads {K : PySem.W.Frag} {mg : Str → Option Value} (neg : Bool) (σ : St) (H : Hp) (Q : VK) (h : tR K mg W pX (bin (inD neg) fa fb) σ H Q) :
    tOp (rInQ K neg) (tR K mg W pX fa) (tR K mg W pX fb) σ H Q :=
  bin_reads (fun x y dx dy d H Q hx hy q k => by
    unfold inD at q
    split at q
    · split at q
      · rename_i hc
        rw [Bool.and_eq_true] at hc
        cases q
        exact ⟨_, _, hx, .inl hy, hc.1, .inl hc.2, k _ fun _ => .bl _⟩
      · cases q
    · split at q
      · rename_i hc
        rw [Bool.and_eq_true] at hc
        cases q
        exact ⟨_, _, hx, .inr hy, hc.1, .inr hc.2, k _ fun _ => .bl _⟩
      · cases q
    · cases q) σ H Q h
theorem se_in (hu : X.A.units + 65 < cLine) (ha : SE X W a fa) (hb : SE X W b fb) (hm : behindInMarks .In b = false) : SE X W (.Compare a [.In] [b] pos) (bin (inD false) fa fb) := PE.imp (pe_cmpR (op_inQ hu) ha hb hm) (in_reads false)
theorem st_in (hu : X.A.units + 65 < cLine) (ha : SE X W a fa) (hb : SE X W b fb) (hm : behindInMarks .In b = false) : STt X W (.Compare a [.In] [b] pos) (tst (bin (inD false) fa fb)) := st_of (pt_cmpR (op_inQ hu) ha hb hm) (in_reads false)
theorem se_notIn (hu : X.A.units + 65 < cLine) (ha : SE X W a fa) (hb : SE X W b fb) (hm : behindInMarks .NotIn b = false) : SE X W (.Compare a [.NotIn] [b] pos) (bin (inD true) fa fb) := PE.imp (pe_cmpR (op_notInQ hu) ha hb hm) (in_reads true)
theorem st_notIn (hu : X.A.units + 65 < cLine) (ha : SE X W a fa) (hb : SE X W b fb) (hm : behindInMarks .NotIn b = false) : STt X W (.Compare a [.NotIn] [b] pos) (tst (bin (inD true) fa fb)) := st_of (pt_cmpR (op_notInQ hu) ha hb hm) (in_reads true)

/-! ### x is None -/
def isN (neg : Bool) : D → D → Option D
  | .none, .none => some (.bool (neg != true))
  | _, .none => some (.bool (neg != false))
  | _, _ => none
theorem dq_isN {K : PySem.W.Frag} {H : Hp} {v : V} {d : D} (h : Dq K H v d) (hn : d ≠ .none) : decide (v = .non) = false := by
  cases h <;> first | rfl | exact absurd rfl hn
theorem isN_reads {K : PySem.W.Frag} {mg : Str → Option Value} (neg : Bool) (σ : St) (H : Hp) (Q : VK) (h : tR K mg W pX (bin (isN neg) fa fb) σ H Q) :
    tOp (fun x y H Q => y = .non ∧ Q (.bl (neg != decide (x = .non))) H) (tR K mg W pX fa) (tR K mg W pX fb) σ H Q :=
  bin_reads (fun x y dx dy d H Q hx hy q k => by
    unfold isN at q
    split at q
    · cases q
      have ex := dp_non hx
      subst ex
      exact ⟨dp_non hy, k _ fun _ => .bl _⟩
    · rename_i hn
      cases q
      rw [dq_isN hx (fun z => hn z)]
      exact ⟨dp_non hy, k _ fun _ => .bl _⟩
    · cases q) σ H Q h
theorem op_isN' : OpR X (compareOp .Is) (fun x y H Q => y = .non ∧ Q (.bl (false != decide (x = .non))) H) := fun pins s σ H x y v u Q I rx ry ⟨h1, h2⟩ => op_isN pins s σ H x y v u Q I rx ry ⟨h1, by simpa using h2⟩
theorem op_notN' : OpR X (compareOp .IsNot) (fun x y H Q => y = .non ∧ Q (.bl (true != decide (x = .non))) H) := fun pins s σ H x y v u Q I rx ry ⟨h1, h2⟩ => op_notN pins s σ H x y v u Q I rx ry ⟨h1, by simpa using h2⟩
theorem se_isN (ha : SE X W a fa) (hb : SE X W b fb) : SE X W (.Compare a [.Is] [b] pos) (bin (isN false) fa fb) := PE.imp (pe_cmpR op_isN' ha hb (nomark _)) (isN_reads false)
theorem st_isN (ha : SE X W a fa) (hb : SE X W b fb) : STt X W (.Compare a [.Is] [b] pos) (tst (bin (isN false) fa fb)) := st_of (pt_cmpR op_isN' ha hb (nomark _)) (isN_reads false)
theorem se_notN (ha : SE X W a fa) (hb : SE X W b fb) : SE X W (.Compare a [.IsNot] [b] pos) (bin (isN true) fa fb) := PE.imp (pe_cmpR op_notN' ha hb (nomark _)) (isN_reads true)
theorem st_notN (ha : SE X W a fa) (hb : SE X W b fb) : STt X W (.Compare a [.IsNot] [b] pos) (tst (bin (isN true) fa fb)) := st_of (pt_cmpR op_notN' ha hb (nomark _)) (isN_reads true)
end

/-! ### and, or, not, if -/
def andT (g h : Tt) : Tt := fun e => (g e).bind fun b e1 => if b = true then h e1 else .ok false e1
def orT (g h : Tt) : Tt := fun e => (g e).bind fun b e1 => if b = true then .ok true e1 else h e1
def notT (g : Tt) : Tt := fun e => (g e).bind fun b e1 => .ok (!b) e1
def ifX (g : Tt) (fa fb : Xp) : Xp := fun e => (g e).bind fun b e1 => if b = true then fa e1 else fb e1
def andX (fa fb : Xp) : Xp := fun e => (fa e).bind fun r e1 => match rview r e1 with
  | some (.bool b) => if b = true then fb e1 else .ok (.tmp (.leaf (.bool false))) e1
  | _ => .bad
def orX (fa fb : Xp) : Xp := fun e => (fa e).bind fun r e1 => match rview r e1 with
  | some (.bool b) => if b = true then .ok (.tmp (.leaf (.bool true))) e1 else fb e1
  | _ => .bad
def notX (fa : Xp) : Xp := fun e => (fa e).bind fun r e1 => match rview r e1 with
  | some (.bool b) => .ok (.tmp (.leaf (.bool (!b)))) e1
  | _ => .bad
abbrev SWt (X : Cx) (W : WX) (ex : Expr) (g : Tt) : Prop := PW X ex (tTs X.K X.mg W g)
section
variable {X : Cx} {W : WX} {a b c ex : Expr} {fa fb fc f : Xp} {g h : Tt} {pos : Pos} {rest : List Expr}
theorem sw_and1 (ha : STt X W a g) : SWt X W (.BoolOp .And [a] pos) g := pw_and1 ha
theorem sw_or1 (ha : STt X W a g) : SWt X W (.BoolOp .Or [a] pos) g := pw_or1 ha
theorem sw_and (ha : STt X W a g) (hb : SWt X W (.BoolOp .And (b :: rest) pos) h) : SWt X W (.BoolOp .And (a :: b :: rest) pos) (andT g h) :=
  PW.imp (pw_and ha hb) fun σ H Q ⟨L, e, τ, R, q⟩ => tTs.mid R (.refl _) q fun k e1 H1 _ q1 R1 => by
    cases k with
    | true => exact ⟨L, e1, τ, R1, q1⟩
    | false => exact q1 H1 R1
theorem sw_or (ha : STt X W a g) (hb : SWt X W (.BoolOp .Or (b :: rest) pos) h) : SWt X W (.BoolOp .Or (a :: b :: rest) pos) (orT g h) :=
  PW.imp (pw_or ha hb) fun σ H Q ⟨L, e, τ, R, q⟩ => tTs.mid R (.refl _) q fun k e1 H1 _ q1 R1 => by
    cases k with
    | true => exact q1 H1 R1
    | false => exact ⟨L, e1, τ, R1, q1⟩
theorem st_w (h : SWt X W ex g) : STt X W ex g := h.pt
theorem st_not (ha : STt X W a g) : STt X W (.UnaryOp .Not a pos) (notT g) :=
  PT.imp (pt_not ha) fun σ H Q ⟨L, e, τ, R, q⟩ => tTs.mid R (.refl _) q fun k e1 H1 _ q1 R1 => q1 H1 R1
theorem se_if (hc : STt X W c g) (ha : SE X W a fa) (hb : SE X W b fb) : SE X W (.IfExp c a b pos) (ifX g fa fb) :=
  PE.imp (pe_ifExp hc ha hb) fun σ H Q ⟨L, e, τ, R, q⟩ => tTs.mid R (.refl _) q fun k e1 H1 _ q1 R1 => by
    cases k with
    | true => exact ⟨L, e1, τ, R1, q1⟩
    | false => exact ⟨L, e1, τ, R1, q1⟩
theorem se_one {op : BoolOp} (h : SE X W a f) : SE X W (.BoolOp op [a] pos) f := pe_one h
theorem se_and (ha : SE X W a fa) (hb : SE X W (.BoolOp .And (b :: rest) pos) fb) : SE X W (.BoolOp .And (a :: b :: rest) pos) (andX fa fb) := by
  refine PE.imp (pe_and ha hb) fun σ H Q ⟨L, e, τ, R, q⟩ => ?_
  refine tR.fst R q fun r1 e1 x H1 τ1 _ q1 p1 R1 => ?_
  obtain ⟨d1, s1⟩ := p1.hd
  split at q1
  · rename_i k hk
    refine ⟨k, dp_bl (d1.dp R1 hk), ?_⟩
    cases k with
    | true => exact ⟨L, e1, τ, R1.subl s1, q1⟩
    | false => exact q1 _ _ _ rfl ((R1.subl s1).atom fun _ => .bl _)
  · exact q1.elim
theorem se_or (ha : SE X W a fa) (hb : SE X W (.BoolOp .Or (b :: rest) pos) fb) : SE X W (.BoolOp .Or (a :: b :: rest) pos) (orX fa fb) := by
  refine PE.imp (pe_or ha hb) fun σ H Q ⟨L, e, τ, R, q⟩ => ?_
  refine tR.fst R q fun r1 e1 x H1 τ1 _ q1 p1 R1 => ?_
  obtain ⟨d1, s1⟩ := p1.hd
  split at q1
  · rename_i k hk
    refine ⟨k, dp_bl (d1.dp R1 hk), ?_⟩
    cases k with
    | false => exact ⟨L, e1, τ, R1.subl s1, q1⟩
    | true => exact q1 _ _ _ rfl ((R1.subl s1).atom fun _ => .bl _)
  · exact q1.elim
theorem se_not (ha : SE X W a fa) : SE X W (.UnaryOp .Not a pos) (notX fa) := by
  refine PE.imp (pe_not ha) fun σ H Q ⟨L, e, τ, R, q⟩ => ?_
  refine tR.fst R q fun r1 e1 x H1 τ1 _ q1 p1 R1 => ?_
  obtain ⟨d1, s1⟩ := p1.hd
  split at q1
  · rename_i k hk
    exact ⟨k, dp_bl (d1.dp R1 hk), q1 _ _ _ rfl ((R1.subl s1).atom fun _ => .bl _)⟩
  · exact q1.elim
end
end Vs

set_option Elab.async false
set_option linter.all false
set_option maxRecDepth 100000
set_option maxHeartbeats 1000000
/-! Vs6: list(reversed(a list)). -/
namespace Vs
open PySem PySem.Spec L2
open PyProof.Rows hiding St
section
variable {prog : Program} {w : World} {A : Around} {E : Value → Shared → Prop} {s : Shared} {it l S : Addr} {items : Array Value}
theorem ext_rev {R : Result → Shared → Prop} (hh : A.handled = none) (hit : s.heap.IsRevIter it l ((items.size : Int) - 1)) (hl : s.heap.IsList l items) (hne : l ≠ it) (hn : items.size ≤ sizeLine)
    (hSi : S ≠ it) (hSl : S ≠ l) (res : Value) (c₀ : Nat) (hS : s.heap.get? S = some { cls := .type "list", data := .seq #[] c₀ })
    (hR : ∀ (h' : Heap) (tk : Nat) (acc' : Array Value) (c' : Nat), (∀ b o, b ≠ S → b ≠ it → s.heap.get? b = some o → h'.get? b = some o) → h'.get? S = some { cls := .type "list", dict := none, data := .seq acc' c', slots := #[] } →
      ItemsOf (fun i v => items[items.size - 1 - i]? = some v) acc' items.size → R (.ok (.ret res)) { s with heap := h', toks := tk }) :
    wpAny (model prog w) A.in1 (Builtin.List.listExtendWith (.ref S) (.ref it) res)
      (fun fin s' => match fin with
        | .done f => R (.ok f) s'
        | .again c' => c'.quiet = true ∧ codeAny (model prog w) A c' R s') (fun e s' => R (.error e) s') s := by
  have Wk := (Walks.listRev (prog := prog) (w := w) (A := A.in1) hh it l hne items).toS
  have hSf : S ∉ [it, l] := fun z => by
    rcases List.mem_cons.mp z with z | z
    · exact hSi z
    · exact hSl (List.mem_singleton.mp z)
  have hT : s.TypeIs (.ref it) "list_reverseiterator" := hit.typeIs
  have h1 : Builtin.List.listSameRef (.ref S) (.ref it) = false := by simp [Builtin.List.listSameRef, hSi]
  unfold Builtin.List.listExtendWith
  refine wpAny_bind (wpAny_typeOf hT ?_)
  rw [if_neg (by rw [h1] <;> decide)]
  refine wpAny_bind (wpAny_pyIter_revIter hit ?_)
  refine wpAny_bind (wpAny_holding ?_)
  unfold Builtin.List.listLengthHint
  refine wpAny_bind (wpAny_specialOf hT RT.nolen_lri ?_)
  show wpAny _ A.in1 (specialOf (Value.ref it) (Str.ofString "__length_hint__") >>= _) _ _ s
  refine wpAny_bind (wpAny_specialOf hT RT.hint_lri ?_)
  generalize hid : ("list_reverseiterator.__length_hint__" : String) = id0
  wp_delta
  rw [show splitId id0 = some ("list_reverseiterator", "__length_hint__") from by subst hid; decide +kernel]
  subst hid
  refine wpAny_bind (wpAny_isInstance (b := true) hT (by rw [isSubtype_type]; kernel_rfl) ?_)
  refine wpAny_pure ?_
  rw [if_neg (by decide)]
  have e0 : ((items.size : Nat) : Int) - 1 - ((0 : Nat) : Int) = (items.size : Int) - 1 := by omega
  refine wpAny_pure ⟨plainId_quiet F.plain_extend_loop _, codeAny_extend_loopS Wk hn _ hSf _ items.size 0 _ _ _ rfl (Nat.zero_le _) ⟨Nat.zero_le _, by rw [e0]; exact hit, hl⟩ hS (ItemsOf.nil _) fun s' acc' c' hm hS' hacc => ?_⟩
  rw [Moved.eq_with hm]
  refine hR s'.heap s'.toks acc' c' (fun b o hb hb2 e => hm.heap b o (fun hmem => ?_) e) hS' hacc
  rcases List.mem_cons.mp hmem with z | hmem
  · exact hb z
  · exact hb2 (List.mem_singleton.mp hmem)
theorem init_rev {R : Result → Shared → Prop} (hh : A.handled = none) (hit : s.heap.IsRevIter it l ((items.size : Int) - 1)) (hl : s.heap.IsList l items) (hne : l ≠ it) (hn : items.size ≤ sizeLine)
    (hSi : S ≠ it) (hSl : S ≠ l) (hS : s.heap.get? S = some { cls := .type "list", data := .seq #[] })
    (hR : ∀ (h' : Heap) (tk : Nat) (acc' : Array Value) (c' : Nat), (∀ b o, b ≠ S → b ≠ it → s.heap.get? b = some o → h'.get? b = some o) → h'.get? S = some { cls := .type "list", dict := none, data := .seq acc' c', slots := #[] } →
      ItemsOf (fun i v => items[items.size - 1 - i]? = some v) acc' items.size → R (.ok (.ret .none)) { s with heap := h', toks := tk }) :
    wpAny (model prog w) A.in1 (Builtin.«list.__init__» ⟨[.ref S, .ref it], []⟩)
      (fun fin s' => match fin with
        | .done f => R (.ok f) s'
        | .again c' => c'.quiet = true ∧ codeAny (model prog w) A c' R s') (fun e s' => R (.error e) s') s := by
  show wpAny _ _ (do
    let old ← Builtin.List.listItems (.ref S)
    Builtin.List.listUpdate (.ref S) (fun _ => #[])
    letGo old.toList.reverse
    Builtin.List.listExtendWith (.ref S) (.ref it) .none) _ _ s
  refine wpAny_bind ?_
  unfold Builtin.List.listItems
  refine wpAny_bind (wpAny_seqItems hS rfl (wpAny_pure ?_))
  show wpAny _ _ (updateSeq S (fun _ => #[]) >>= fun _ => letGo (#[] : Array Value).toList.reverse >>= fun _ => _) _ _ s
  refine wpAny_bind (wpAny_updateSeq hS rfl ?_)
  have hS₂ := Heap.get?_update_self (Obj.mapSeq (fun _ => (#[] : Array Value))) hS rfl
  have oth : ∀ b o, b ≠ S → s.heap.get? b = some o → (s.heap.update S (Obj.mapSeq (fun _ => (#[] : Array Value)))).get? b = some o :=
    fun b o hb e => by rw [Heap.get?_update_other _ _ (Ne.symm hb)]; exact e
  refine wpAny_bind (wpAny_letGo ?_)
  refine ext_rev (s := { s with heap := s.heap.update S (Obj.mapSeq (fun _ => (#[] : Array Value))) }) hh (hit.at fun o e => oth it o (Ne.symm hSi) e) ?_ hne hn hSi hSl .none _ hS₂ fun h' tk acc' c' hk hS' hacc => ?_
  · obtain ⟨o, e, r⟩ := hl
    exact ⟨o, oth l o (Ne.symm hSl) e, r⟩
  · exact hR h' tk acc' c' (fun b o hb hb2 e => hk b o hb hb2 (oth b o hb e)) hS' hacc
theorem call_list_rev {Q : Value → Shared → Prop} (hh : A.handled = none) (hit : s.heap.IsRevIter it l ((items.size : Int) - 1)) (hl : s.heap.IsList l items) (hne : l ≠ it) (hn : items.size ≤ sizeLine)
    (hQ : ∀ (h' : Heap) (tk : Nat) (acc' : Array Value) (c' : Nat), (∀ b o, b ≠ it → s.heap.get? b = some o → h'.get? b = some o) → h'.get? s.heap.objs.size = some { cls := .type "list", dict := none, data := .seq acc' c', slots := #[] } →
      ItemsOf (fun i v => items[items.size - 1 - i]? = some v) acc' items.size → Q (.ref s.heap.objs.size) { s with heap := h', toks := tk }) :
    wpAny (model prog w) A (call (.type "list") [.ref it]) Q E s := by
  refine callType_codes (Q₁ := fun obj s₁ => obj = .ref s.heap.objs.size ∧ s₁ = { s with heap := s.heap.push { cls := .type "list", data := .seq #[] } }) PySem.F.called_list (PySem.F.typeCall_list_1 _) PySem.F.entry_list_init
    (code_list_new _ ⟨rfl, rfl⟩) fun obj s₁ h₁ => ?_
  obtain ⟨rfl, rfl⟩ := h₁
  have hS : (s.heap.push { cls := .type "list", data := .seq #[] }).get? s.heap.objs.size = some { cls := .type "list", data := .seq #[] } := Heap.get?_push_size _ rfl
  obtain ⟨oi, hoi, _⟩ := id hit
  obtain ⟨ol, hol, _⟩ := id hl
  refine ⟨⟨_, hS, rfl⟩, PySem.F.args_list_init_2 _ _, init_rev (A := A.in1) (s := { s with heap := s.heap.push { cls := .type "list", data := .seq #[] } }) hh (hit.at fun o e => Heap.get?_push_of_some _ e) (hl.push _) hne hn
    (Nat.ne_of_gt (Heap.lt_size hoi)) (Nat.ne_of_gt (Heap.lt_size hol)) hS (fun h' tk acc' c' hk hS' hacc => ?_)⟩
  exact ⟨rfl, hQ h' tk acc' c' (fun b o hb e => hk b o (Nat.ne_of_lt (Heap.lt_size e)) hb (Heap.get?_push_of_some _ e)) hS' hacc⟩
end
def tListRev (K : PySem.W.Frag) (te : TE) : TE := fun σ H Q => te σ H fun v H1 => ∃ (a : Addr) (xs : List V), v = .ref a ∧ SqL K H1 a xs ∧ ∀ q, H1 q = none → Q (.ref q) (upd H1 q (.lst xs.reverse))
theorem pe_listRev {X : Cx} {e : Expr} {te : TE} {p p2 pos pos2 : Pos} (hc : X.calm = true) (hg : Gl X "list") (hm : X.mg "list" = none) (hg2 : Gl X "reversed") (hm2 : X.mg "reversed" = none) (he : PE X e te)
    (hs : starEach [e] X.env = (false, eval e X.env) :: starEach [] X.env := by rfl)
    (hs2 : starEach [.Call (.Name "reversed" p2) [e] [] pos2] X.env = (false, eval (.Call (.Name "reversed" p2) [e] [] pos2) X.env) :: starEach [] X.env := by rfl) :
    PE X (.Call (.Name "list" p) [.Call (.Name "reversed" p2) [e] [] pos2] [] pos) (tListRev X.K te) := by
  refine ⟨fun pins s σ H Q I h => ?_⟩
  refine Call_ (ld_blt I hg hm boot_list (PyProof.Rows.callWith_type1 (args_cons (Call_ (ld_blt I hg2 hm2 PyProof.Rows.boot_reversed
    (PyProof.Rows.callWith_type1 (args_cons (thn (he.run pins s σ H _ I h) fun u s1 ⟨v, H1, I1, r1, q1⟩ => args_nil ?_) hs) hs rfl))) hs2) hs2 rfl))
  obtain ⟨a, xs, ev, hq, q⟩ := q1
  subst ev
  obtain rfl : u = Value.ref a := r1
  obtain ⟨its, rv, p', hz⟩ := I1.list hq
  refine call_reversed_list p'.isList (args_nil ?_)
  have k0 : ∀ b o, s1.heap.get? b = some o → (s1.heap.push (revObj a ((its.toArray.size : Int) - 1))).get? b = some o := fun b o e => Heap.get?_push_of_some _ e
  have I2 : Inv X pins σ H1 { s1 with heap := s1.heap.push (revObj a ((its.toArray.size : Int) - 1)) } := I1.kept (t' := s1.toks) k0
  obtain ⟨f0, f1, f2, f3, f4, f5⟩ := I1.fpOk (H' := H1) (b := s1.heap.objs.size) (Nat.le_refl _) (I1.hok.fresh (Nat.le_refl _))
  have hl := p'.isList
  obtain ⟨ol, hol, _⟩ := id hl
  have hne : a ≠ s1.heap.objs.size := Nat.ne_of_lt (Heap.lt_size hol)
  have hn : its.toArray.size ≤ sizeLine := by rw [List.size_toArray, ← rv.length]; exact hz
  refine call_list_rev (s := { s1 with heap := s1.heap.push (revObj a ((its.toArray.size : Int) - 1)) }) (I1.ok.hd hc) ⟨_, Heap.get?_push_size _ rfl, rfl, rfl⟩ (hl.push _) hne hn fun h' tk acc c' hk hnew hi => ?_
  -- the new list is laid first, then the iterator turns
  have hD : H1 (s1.heap.push (revObj a ((its.toArray.size : Int) - 1))).objs.size = none := I2.hok.fresh (Nat.le_refl _)
  have I3 := I2.laid (a := (s1.heap.push (revObj a ((its.toArray.size : Int) - 1))).objs.size) (o := .lst xs.reverse) (t' := tk)
    (h' := (s1.heap.push (revObj a ((its.toArray.size : Int) - 1))).push { cls := .type "list", data := .seq acc.toList.toArray c' })
    (fun b o e => Heap.get?_push_of_some _ e) (Nat.le_refl _) ⟨by rw [List.length_reverse]; exact hz, acc.toList, c', RT.vals_rev rv hi, Heap.get?_push_size _ rfl⟩
  have hsz : (s1.heap.push (revObj a ((its.toArray.size : Int) - 1))).objs.size = s1.heap.objs.size + 1 := Heap.size_push _ _
  have I4 := I3.turned (it := s1.heap.objs.size) (h' := h') (t' := tk) (fun b o hb e => ?_) ?_ f1 f3 f4 f5
  · exact ⟨.ref _, _, I4, rfl, q _ hD⟩
  · rcases Heap.get?_push_cases e with ⟨eb, eo⟩ | e
    · subst eb
      subst eo
      have hn2 : h'.get? (s1.heap.push (revObj a ((its.toArray.size : Int) - 1))).objs.size = some { cls := .type "list", dict := none, data := .seq acc c', slots := #[] } := hnew
      rw [hn2]
    · exact hk b o hb e
  · rw [upd_ne (by rw [hsz]; exact Nat.ne_of_lt (Nat.lt_succ_self _))]
    exact f0
end Vs

set_option Elab.async false
set_option linter.all false
set_option maxRecDepth 100000
set_option maxHeartbeats 1000000
/-! Vs7: displays, subscripts, slices, calls of built-ins. -/
namespace Vs
open PySem PySem.Spec L2
open PyProof.Rows hiding St

/-! ### several parts -/
def evs {α : Type} (c : Xp → Nv → Out α) : List Xp → Nv → Out (List α)
  | [], e => .ok [] e
  | f :: fs, e => (c f e).bind fun a e1 => (evs c fs e1).bind fun as e2 => .ok (a :: as) e2
section
variable {K : PySem.W.Frag} {mg : Str → Option Value} {W : WX} {fs : List Xp} {f : Xp}
/-- the reading of an argument list whose parts are own trees -/
def tAO (K : PySem.W.Frag) (mg : Str → Option Value) (W : WX) (fs : List Xp) : TA := fun σ H Q => ∃ (L : Nat → Option V) (e : Nv) (τ : List (V × Tr)), Rel K L σ e τ H ∧
  Pst K mg W L σ τ (evs ow fs e) fun ts e' => ∀ vs H', vs.length = ts.length → Rel K L σ e' (vs.zip ts ++ τ) H' → Q vs H'
/-- .. data -/
def tAD (K : PySem.W.Frag) (mg : Str → Option Value) (W : WX) (fs : List Xp) : TA := fun σ H Q => ∃ (L : Nat → Option V) (e : Nv) (τ : List (V × Tr)), Rel K L σ e τ H ∧
  Pst K mg W L σ τ (evs vl fs e) fun ds e' => ∀ vs H', vs.length = ds.length → Rel K L σ e' (vs.zip (ds.map Tr.leaf) ++ τ) H' → Q vs H'
theorem Pst.join {α β : Type} {L : Nat → Option V} {σ : St} {τ : List (V × Tr)} {o : Out α} {f : α → Nv → Out β} {k : β → Nv → Prop} (h : Pst K mg W L σ τ o (fun a e => Pst K mg W L σ τ (f a e) k)) : Pst K mg W L σ τ (o.bind f) k := by
  cases o with
  | ok a e => exact h
  | exc x e => exact h
  | bad => exact h
theorem aO_cons (σ : St) (H : Hp) (Q : List V → Hp → Prop) (h : tAO K mg W (f :: fs) σ H Q) : tCons (tR K mg W pO (ow f)) (tAO K mg W fs) σ H Q := by
  obtain ⟨L, e, τ, R, q⟩ := h
  refine tR.fst R q fun t e1 v H1 τ1 _ q1 p1 R1 => ?_
  have p1 : τ1 = (v, t) :: τ := p1
  subst p1
  refine ⟨L, e1, (v, t) :: τ, R1, (Pst.bind q1).mono (List.sublist_cons_self _ _) fun ts e2 _ q2 vs H2 hl R2 => ?_⟩
  exact q2 (v :: vs) H2 (by rw [List.length_cons, List.length_cons, hl]) (R2.perm (by
    show (vs.zip ts ++ (v, t) :: τ).Perm ((v, t) :: (vs.zip ts ++ τ))
    exact List.perm_middle))
theorem aD_cons (σ : St) (H : Hp) (Q : List V → Hp → Prop) (h : tAD K mg W (f :: fs) σ H Q) : tCons (tR K mg W pD (vl f)) (tAD K mg W fs) σ H Q := by
  obtain ⟨L, e, τ, R, q⟩ := h
  refine tR.fst R q fun d e1 v H1 τ1 _ q1 p1 R1 => ?_
  have p1 : τ1 = (v, .leaf d) :: τ := p1
  subst p1
  refine ⟨L, e1, (v, .leaf d) :: τ, R1, (Pst.bind q1).mono (List.sublist_cons_self _ _) fun ds e2 _ q2 vs H2 hl R2 => ?_⟩
  exact q2 (v :: vs) H2 (by rw [List.length_cons, List.length_cons, hl]) (R2.perm (by
    show (vs.zip (ds.map Tr.leaf) ++ (v, Tr.leaf d) :: τ).Perm ((v, Tr.leaf d) :: (vs.zip (ds.map Tr.leaf) ++ τ))
    exact List.perm_middle))
theorem aO_nil (σ : St) (H : Hp) (Q : List V → Hp → Prop) (h : tAO K mg W [] σ H Q) : tNil σ H Q := by
  obtain ⟨L, e, τ, R, q⟩ := h
  exact q [] H rfl R
theorem aD_nil (σ : St) (H : Hp) (Q : List V → Hp → Prop) (h : tAD K mg W [] σ H Q) : tNil σ H Q := by
  obtain ⟨L, e, τ, R, q⟩ := h
  exact q [] H rfl R
end
theorem PA.imp {X : Cx} {es : List Expr} {t t' : TA} (h : PA X es t) (g : ∀ σ H Q, t' σ H Q → t σ H Q) : PA X es t' := ⟨fun pos pins s σ H Q I q => h.run pos pins s σ H Q I (g σ H Q q)⟩
abbrev SAO (X : Cx) (W : WX) (es : List Expr) (fs : List Xp) : Prop := PA X es (tAO X.K X.mg W fs)
abbrev SAD (X : Cx) (W : WX) (es : List Expr) (fs : List Xp) : Prop := PA X es (tAD X.K X.mg W fs)
/-- [a, b]; (a, b) -/
def lstX (fs : List Xp) : Xp := fun e => (evs ow fs e).bind fun ts e1 => if ts.length ≤ sizeLine then .ok (.tmp (.lst ts)) e1 else .bad
def tupX (fs : List Xp) : Xp := fun e => (evs vl fs e).bind fun ds e1 => if ds.length ≤ sizeLine then .ok (.tmp (.leaf (.tuple ds))) e1 else .bad
section
variable {X : Cx} {W : WX} {a b ex : Expr} {es : List Expr} {fa fb f : Xp} {fs : List Xp} {pos : Pos}
theorem ao_nil : SAO X W [] [] := PA.imp pa_nil aO_nil
theorem ao_cons (h : SE X W a f) (hr : SAO X W es fs) (hs : starEach (a :: es) X.env = (false, eval a X.env) :: starEach es X.env := by rfl) : SAO X W (a :: es) (f :: fs) := PA.imp (pa_cons (SE.own h) hr hs) aO_cons
theorem ad_nil : SAD X W [] [] := PA.imp pa_nil aD_nil
theorem ad_cons (h : SE X W a f) (hr : SAD X W es fs) (hs : starEach (a :: es) X.env = (false, eval a X.env) :: starEach es X.env := by rfl) : SAD X W (a :: es) (f :: fs) := PA.imp (pa_cons (SE.val h) hr hs) aD_cons
theorem se_lst (h : SAO X W es fs) : SE X W (.List es pos) (lstX fs) := by
  refine PE.imp (pe_lst h) fun σ H Q ⟨L, e, τ, R, q⟩ => ?_
  refine ⟨L, e, τ, R, (Pst.bind q).mono (.refl _) fun ts e1 _ q1 vs H1 hl R1 => ?_⟩
  split at q1
  · rename_i hz
    refine ⟨by omega, fun p hp => q1 _ _ _ rfl ?_⟩
    refine ⟨R1.len, R1.ok, ?_⟩
    have s := R1.st
    rw [List.append_assoc] at s
    have s2 := St8.newL s hp
    rw [List.map_fst_zip (by omega), List.map_snd_zip (by omega)] at s2
    exact s2
  · exact q1.elim
theorem se_tup (h : SAD X W es fs) {k : Nat} : SE X W (.Tuple es k pos) (tupX fs) := by
  refine PE.imp (pe_tup h) fun σ H Q ⟨L, e, τ, R, q⟩ => ?_
  refine ⟨L, e, τ, R, (Pst.bind q).mono (.refl _) fun ds e1 _ q1 vs H1 hl R1 => ?_⟩
  split at q1
  · rename_i hz
    refine ⟨by omega, fun p hp => q1 _ _ _ rfl ?_⟩
    exact R1.newT hl hp
  · exact q1.elim
end

/-! ### xs[i] -/
def atD (ds : List D) (i : Int) : Option D := atI ds i
def idxV (r s : Rv) (e : Nv) : Out Rv :=
  match rview s e with
  | some (.int i) => (match ritems r e with
    | some (_, ds) => (match atD ds i with
      | some d => .ok (.tmp (.leaf d)) e
      | none => .bad)
    | none => .bad)
  | _ => .bad
def idxX (fa fb : Xp) : Xp := fun e => (fa e).bind fun r e1 => (fb e1).bind fun s e2 => idxV r s e2
section
variable {X : Cx} {W : WX} {a b ex : Expr} {es : List Expr} {fa fb f : Xp} {fs : List Xp} {pos : Pos}
theorem zip_at {vs : List V} {ds : List D} {i : Nat} {d : D} (hl : vs.length = ds.length) (h : ds[i]? = some d) : ∃ v, vs[i]? = some v ∧ (v, Tr.leaf d) ∈ vs.zip (ds.map Tr.leaf) := by
  have hi := lt_of_at h
  have hv : i < vs.length := by omega
  refine ⟨vs[i], List.getElem?_eq_getElem hv, ?_⟩
  have hd : ds[i] = d := by rw [List.getElem?_eq_getElem hi] at h; exact Option.some.inj h
  rw [List.mem_iff_getElem]
  refine ⟨i, by rw [List.length_zip, List.length_map]; omega, ?_⟩
  rw [List.getElem_zip, List.getElem_map, hd]
theorem atI_some {α : Type} {xs : List α} {i : Int} {x : α} (h : atI xs i = some x) : ∃ j, ixN xs.length i = some j ∧ xs[j]? = some x := by
  unfold atI at h
  cases q : ixN xs.length i with
  | none => rw [q] at h; cases h
  | some j => rw [q] at h; exact ⟨j, rfl, h⟩
theorem atI_of {α : Type} {xs : List α} {i : Int} {x : α} {j : Nat} (h : ixN xs.length i = some j) (h2 : xs[j]? = some x) : atI xs i = some x := by
  unfold atI
  rw [h]
  exact h2
theorem Rel.pick {K : PySem.W.Frag} {L : Nat → Option V} {σ : St} {e : Nv} {τ : List (V × Tr)} {H : Hp} {v : V} {d : D} (R : Rel K L σ e τ H) (h : (v, Tr.leaf d) ∈ τ) : Rel K L σ e ((v, .leaf d) :: τ) H :=
  R.map fun s => s.dup_mem (List.mem_append_left _ h)
theorem se_idx (ha : SE X W a fa) (hb : SE X W b fb) (hs : PlainIx b) : SE X W (.Subscript a b pos) (idxX fa fb) := by
  refine se_two (g := idxV) (pe_ix (ix_list.or ix_tup) ha hb hs) fun L σ e τ τ0 H x y r1 r2 Q sb R d1 d2 q => ?_
  unfold idxV at q
  split at q
  · rename_i i hi
    have e2 := dp_int (d2.dp R hi)
    split at q
    · rename_i k ds hd
      split at q
      · rename_i d hat
        obtain ⟨pa, vs, ea, sa, la, R1⟩ := d1.items R hd
        obtain ⟨j, j1, j2⟩ := atI_some hat
        obtain ⟨v, v1, v2⟩ := zip_at la j2
        have hv : atI vs i = some v := atI_of (by rw [la]; exact j1) v1
        have R2 := ((R1.pick (List.mem_append_left _ v2)).subl ((((List.sublist_append_right _ _).trans (.refl _)).cons_cons _)))
        have R3 : Rel X.K L σ e ((v, .leaf d) :: τ0) H := R2.subl (sb.cons_cons _)
        cases k with
        | true => exact .inr ⟨pa, vs, i, v, ea, e2, sa, hv, q _ _ _ rfl R3⟩
        | false => exact .inl ⟨pa, vs, i, v, ea, e2, sa, hv, q _ _ _ rfl R3⟩
      · exact q.elim
    · exact q.elim
  · exact q.elim
end

/-! ### xs[lo:hi] -/
def partX (f : Option Xp) : Nv → Out (Option Int) := fun e =>
  match f with
  | none => .ok none e
  | some f => (f e).bind fun r e1 => match rview r e1 with
    | some (.int i) => .ok (some i) e1
    | _ => .bad
def cutD {α : Type} (xs : List α) (lo hi : Option Int) : List α := (xs.drop (HT.sIx xs.length 0 lo)).take (HT.sIx xs.length xs.length hi - HT.sIx xs.length 0 lo)
def slV (r : Rv) (lo hi : Option Int) (e : Nv) : Out Rv :=
  match ritems r e with
  | some (true, ds) => .ok (.tmp (.leaf (.tuple (cutD ds lo hi)))) e
  | some (false, ds) => .ok (.tmp (.lst ((cutD ds lo hi).map .leaf))) e
  | none => .bad
def slX (fa : Xp) (lo hi : Option Xp) : Xp := fun e => (fa e).bind fun r e1 => (partX lo e1).bind fun l e2 => (partX hi e2).bind fun h e3 => slV r l h e3
section
variable {K : PySem.W.Frag} {mg : Str → Option Value} {W : WX}
/-- the reading of a slice's part -/
def tPt (K : PySem.W.Frag) (mg : Str → Option Value) (W : WX) (f : Option Xp) : TO := fun σ H Q => ∃ (L : Nat → Option V) (e : Nv) (τ : List (V × Tr)), Rel K L σ e τ H ∧
  Pst K mg W L σ τ (partX f e) fun o e' => ∀ H', Rel K L σ e' τ H' → Q o H'
end
section
variable {X : Cx} {W : WX} {a b ex : Expr} {es : List Expr} {fa fb f : Xp} {fs : List Xp} {pos p2 : Pos} {lo hi : Option Expr} {fl fh : Option Xp}
theorem PO.imp {e : Option Expr} {t t' : TO} (h : PO X e t) (g : ∀ σ H Q, t' σ H Q → t σ H Q) : PO X e t' := ⟨fun pins s σ H Q I q => h.run pins s σ H Q I (g σ H Q q)⟩
theorem spt_none : PO X none (tPt X.K X.mg W none) := PO.imp po_none fun σ H Q ⟨L, e, τ, R, q⟩ => q H R
theorem spt_some (h : SE X W a f) : PO X (some a) (tPt X.K X.mg W (some f)) := by
  refine PO.imp (po_some h) fun σ H Q ⟨L, e, τ, R, q⟩ => ?_
  refine tR.fst R q fun r e1 v H1 τ1 _ q1 p1 R1 => ?_
  obtain ⟨d1, s1⟩ := p1.hd
  split at q1
  · rename_i i hi
    exact ⟨i, dp_int (d1.dp R1 hi), q1 H1 (R1.subl s1)⟩
  · exact q1.elim
theorem cutD_len {α : Type} (xs : List α) (lo hi : Option Int) {β : Type} (ys : List β) (h : xs.length = ys.length) : (cutD xs lo hi).length = (cutD ys lo hi).length := by
  unfold cutD
  rw [List.length_take, List.length_take, List.length_drop, List.length_drop, h]
theorem cutD_zip {vs : List V} {ds : List D} (h : vs.length = ds.length) (lo hi : Option Int) : ((cutD vs lo hi).zip ((cutD ds lo hi).map Tr.leaf)).Sublist (vs.zip (ds.map Tr.leaf)) := by
  have e1 : (cutD vs lo hi).zip ((cutD ds lo hi).map Tr.leaf) = ((vs.zip (ds.map Tr.leaf)).drop (HT.sIx vs.length 0 lo)).take (HT.sIx vs.length vs.length hi - HT.sIx vs.length 0 lo) := by
    unfold cutD
    rw [← h, List.map_take, List.map_drop]
    simp only [List.zip, List.drop_zipWith, List.take_zipWith]
  rw [e1]
  exact (List.take_sublist _ _).trans (List.drop_sublist _ _)
theorem se_sl (ha : SE X W a fa) (hl : PO X lo (tPt X.K X.mg W fl)) (hh : PO X hi (tPt X.K X.mg W fh)) : SE X W (.Subscript a (.Slice lo hi none p2) pos) (slX fa fl fh) := by
  refine PE.imp (pe_slice (sl_list.or sl_tupA) ha hl hh) fun σ H Q ⟨L, e, τ, R, q⟩ => ?_
  refine tR.fst R q fun r1 e1 x H1 τ1 _ q1 p1 R1 => ?_
  obtain ⟨d1, s1⟩ := p1.hd
  refine ⟨L, e1, τ1, R1, (Pst.bind q1).mono s1 fun l e2 _ q2 H2 R2 => ?_⟩
  refine ⟨L, e2, τ1, R2, (Pst.bind q2).mono s1 fun h e3 _ q3 H3 R3 => ?_⟩
  unfold slV at q3
  split at q3
  · rename_i ds hd
    obtain ⟨t, pa, vs, h1, h2, ea, sx, la, R4⟩ := d1.itemsX R3 hd
    have sa := sx.sq h2
    refine .inr ⟨pa, vs, ea, sa, fun hw => ?_, fun hw p hp => ?_⟩
    · have et := titems_tuple h2
      subst et
      have R5 := d1.leaf R3 h1
      rw [ea] at R5
      have ec : cutD ds l h = ds := by
        unfold cutD
        rw [la] at hw
        rw [hw.1, hw.2]
        simp
      refine q3 _ _ _ rfl ?_
      rw [ec]
      exact R5.subl (s1.cons_cons _)
    · refine q3 _ _ _ rfl ?_
      have R5 : Rel X.K L σ e3 ((cutD vs l h).zip ((cutD ds l h).map Tr.leaf) ++ τ) H3 := R4.subl ((cutD_zip la l h).append s1)
      exact R5.newT (cutD_len _ _ _ _ la) hp
  · rename_i ds hd
    obtain ⟨t, pa, vs, h1, h2, ea, sx, la, R4⟩ := d1.itemsX R3 hd
    have sa := sx.sq h2
    refine .inl ⟨pa, vs, ea, sa, fun p hp => ?_⟩
    refine q3 _ _ _ rfl ?_
    have R5 : Rel X.K L σ e3 ((cutD vs l h).zip ((cutD ds l h).map Tr.leaf) ++ τ) H3 := R4.subl ((cutD_zip la l h).append s1)
    exact R5.newL (cutD_len _ _ _ _ la) hp
  · exact q3.elim
end
end Vs

set_option Elab.async false
set_option linter.all false
set_option maxRecDepth 100000
set_option maxHeartbeats 1000000
/-! Vs8: calls of built-ins. -/
namespace Vs
open PySem PySem.Spec L2
open PyProof.Rows hiding St

def call1 (g : Rv → Nv → Out Rv) (fa : Xp) : Xp := fun e => (fa e).bind g
def call2 (g : Rv → Rv → Nv → Out Rv) (fa fb : Xp) : Xp := fun e => (fa e).bind fun r e1 => (fb e1).bind fun s e2 => g r s e2
section
variable {X : Cx} {W : WX} {a b ex : Expr} {fa fb f : Xp} {pos p : Pos} {x : Str}
theorem se_b1 {g : Rv → Nv → Out Rv} {r : List V → Hp → VK → Prop} (h : PE X ex (tCB r (tCons (tR X.K X.mg W pX fa) tNil)))
    (hr : ∀ (L : Nat → Option V) (σ : St) (e : Nv) (τ τ0 : List (V × Tr)) (H : Hp) (v : V) (r1 : Rv) (Q : VK), τ0.Sublist τ → Rel X.K L σ e τ H → Hd σ τ r1 v →
      Pst X.K X.mg W L σ τ0 (g r1 e) (fun a e' => ∀ v H' τ', pX σ τ0 a v τ' → Rel X.K L σ e' τ' H' → Q v H') → r [v] H Q) : SE X W ex (call1 g fa) := by
  refine PE.imp h fun σ H Q ⟨L, e, τ, R, q⟩ => ?_
  refine tR.fst R q fun r1 e1 v H1 τ1 _ q1 p1 R1 => ?_
  obtain ⟨d1, s1⟩ := p1.hd
  exact hr L σ e1 τ1 τ H1 v r1 Q s1 R1 d1 q1
theorem se_b2 {g : Rv → Rv → Nv → Out Rv} {r : List V → Hp → VK → Prop} (h : PE X ex (tCB r (tCons (tR X.K X.mg W pX fa) (tCons (tR X.K X.mg W pX fb) tNil))))
    (hr : ∀ (L : Nat → Option V) (σ : St) (e : Nv) (τ τ0 : List (V × Tr)) (H : Hp) (v u : V) (r1 r2 : Rv) (Q : VK), τ0.Sublist τ → Rel X.K L σ e τ H → Hd σ τ r1 v → Hd σ τ r2 u →
      Pst X.K X.mg W L σ τ0 (g r1 r2 e) (fun a e' => ∀ v H' τ', pX σ τ0 a v τ' → Rel X.K L σ e' τ' H' → Q v H') → r [v, u] H Q) : SE X W ex (call2 g fa fb) := by
  refine PE.imp h fun σ H Q ⟨L, e, τ, R, q⟩ => ?_
  refine tR.fst R q fun r1 e1 v H1 τ1 _ q1 p1 R1 => ?_
  obtain ⟨d1, s1⟩ := p1.hd
  refine tR.mid R1 s1 q1 fun r2 e2 u H2 τ2 _ q2 p2 R2 => ?_
  obtain ⟨d2, s2⟩ := p2.hd
  exact hr L σ e2 τ2 τ H2 v u r1 r2 Q (s1.trans s2) R2 (d1.mono s2) d2 q2
/-- a built-in of one argument that gives an atom of the argument's data -/
def atom1 (o : D → Option D) (r : Rv) (e : Nv) : Out Rv :=
  match rview r e with
  | some x => (match o x with
    | some d => .ok (.tmp (.leaf d)) e
    | none => .bad)
  | none => .bad
theorem se_atom1 {o : D → Option D} {r : List V → Hp → VK → Prop} (h : PE X ex (tCB r (tCons (tR X.K X.mg W pX fa) tNil)))
    (hr : ∀ v dx d H (Q : VK), Dq X.K H v dx → o dx = some d → (∀ v, (∀ F : Hp, Dq X.K F v d) → Q v H) → r [v] H Q) : SE X W ex (call1 (atom1 o) fa) :=
  se_b1 h fun L σ e τ τ0 H v r1 Q sb R d1 q => by
    unfold atom1 at q
    split at q
    · rename_i dx hx
      split at q
      · rename_i d hd
        exact hr v dx d H Q (d1.dp R hx) hd fun v' hv => q _ _ _ rfl ((R.subl sb).atom hv)
      · exact q.elim
    · exact q.elim

/-! ### abs, int, len -/
def absD : D → Option D
  | .int i => some (.int (if i < 0 then -i else i))
  | _ => none
def intD : D → Option D
  | .int i => some (.int i)
  | .bool k => some (.int (if k then 1 else 0))
  | _ => none
def lenD : D → Option D
  | .tuple ds => some (.int ds.length)
  | .list ds => some (.int ds.length)
  | .str z => if z.length ≤ sizeLine then some (.int z.length) else none
  | _ => none
section
theorem se_abs (ha : SE X W a fa) (hg : Gl X "abs") (hm : X.mg "abs" = none) (hn : starEach [a] X.env = (false, eval a X.env) :: starEach [] X.env := by rfl) : SE X W (.Call (.Name "abs" p) [a] [] pos) (call1 (atom1 absD) fa) :=
  se_atom1 (pe_callB call_abs hg hm (by decide +kernel) (pa_cons ha pa_nil hn) (he := hn)) fun v dx d H Q hx q k => by
    unfold absD at q
    split at q
    · cases q; exact ⟨_, by rw [dp_int hx], k _ fun _ => .int _⟩
    · cases q
theorem se_int_ (ha : SE X W a fa) (hg : Gl X "int") (hm : X.mg "int" = none) (hn : starEach [a] X.env = (false, eval a X.env) :: starEach [] X.env := by rfl) : SE X W (.Call (.Name "int" p) [a] [] pos) (call1 (atom1 intD) fa) :=
  se_atom1 (pe_callTy call_int1 hg hm boot_int (pa_cons ha pa_nil hn) (he := hn)) fun v dx d H Q hx q k => by
    unfold intD at q
    split at q
    · cases q; exact .inl ⟨_, by rw [dp_int hx], k _ fun _ => .int _⟩
    · cases q; exact .inr ⟨_, by rw [dp_bl hx], k _ fun _ => .int _⟩
    · cases q
theorem se_len (ha : SE X W a fa) (hg : Gl X "len") (hm : X.mg "len" = none) (hn : starEach [a] X.env = (false, eval a X.env) :: starEach [] X.env := by rfl) : SE X W (.Call (.Name "len" p) [a] [] pos) (call1 (atom1 lenD) fa) :=
  se_atom1 (pe_callB call_len hg hm PySem.boot_len (pa_cons ha pa_nil hn) (he := hn)) fun v dx d H Q hx q k => by
    unfold lenD at q
    split at q
    · cases q
      cases hx with
      | tup hs hd => exact ⟨_, _, rfl, .inr ⟨_, hs, (dqAll_len hd).symm⟩, k _ fun _ => .int _⟩
    · cases q
      cases hx with
      | lst hs hd => exact ⟨_, _, rfl, .inl ⟨_, hs, (dqAll_len hd).symm⟩, k _ fun _ => .int _⟩
    · split at q
      · rename_i hz
        cases q
        cases hx
        exact ⟨_, _, rfl, ⟨hz, rfl⟩, k _ fun _ => .int _⟩
      · cases q
    · cases q
end

/-! ### sums, least and greatest ones, all, any -/
def intsOf : List D → Option (List Int)
  | [] => some []
  | .int i :: ds => (intsOf ds).map (i :: ·)
  | _ :: _ => none
def bolsOf : List D → Option (List Bool)
  | [] => some []
  | .bool i :: ds => (bolsOf ds).map (i :: ·)
  | _ :: _ => none
@[simp] theorem intsOf_map (ns : List Int) : intsOf (ns.map PyData.int) = some ns := by
  induction ns with
  | nil => rfl
  | cons n ns ih => show (intsOf (ns.map PyData.int)).map _ = _; rw [ih]; rfl
@[simp] theorem bolsOf_map (ns : List Bool) : bolsOf (ns.map PyData.bool) = some ns := by
  induction ns with
  | nil => rfl
  | cons n ns ih => show (bolsOf (ns.map PyData.bool)).map _ = _; rw [ih]; rfl
@[simp] theorem intsOf_nil : intsOf [] = some [] := id rfl
@[simp] theorem bolsOf_nil : bolsOf [] = some [] := id rfl
theorem ints_vals {K : PySem.W.Frag} {F : Hp} : ∀ {vs : List V} {ds : List D} {ns : List Int}, DqAll K F vs ds → intsOf ds = some ns → vs = ns.map V.int
  | _, _, _, .nil, q => by
    have q : some [] = some _ := q
    cases q; rfl
  | _, _, ns, .cons (d := d) (ds := ds) h t, q => by
    cases d with
    | int i =>
      have q : (intsOf ds).map (i :: ·) = some ns := q
      cases q1 : intsOf ds with
      | none => rw [q1] at q; cases q
      | some ms =>
        rw [q1] at q
        cases q
        rw [dp_int h, ints_vals t q1]
        rfl
    | _ => cases q
theorem bols_vals {K : PySem.W.Frag} {F : Hp} : ∀ {vs : List V} {ds : List D} {ns : List Bool}, DqAll K F vs ds → bolsOf ds = some ns → vs = ns.map V.bl
  | _, _, _, .nil, q => by
    have q : some [] = some _ := q
    cases q; rfl
  | _, _, ns, .cons (d := d) (ds := ds) h t, q => by
    cases d with
    | bool i =>
      have q : (bolsOf ds).map (i :: ·) = some ns := q
      cases q1 : bolsOf ds with
      | none => rw [q1] at q; cases q
      | some ms =>
        rw [q1] at q
        cases q
        rw [dp_bl h, bols_vals t q1]
        rfl
    | _ => cases q
def sumD : D → Option D
  | .list ds => (intsOf ds).map fun ns => .int ns.sum
  | _ => none
def allD : D → Option D
  | .list ds => (bolsOf ds).map fun bs => .bool (bs.all id)
  | _ => none
def anyD : D → Option D
  | .list ds => (bolsOf ds).map fun bs => .bool (bs.any id)
  | _ => none
def leastI : Int → List Int → Int
  | m, [] => m
  | m, n :: ns => leastI (if n < m then n else m) ns
def mostI : Int → List Int → Int
  | m, [] => m
  | m, n :: ns => mostI (if m < n then n else m) ns
theorem leastI_spec : ∀ (ns : List Int) (m : Int), leastI m ns ∈ m :: ns ∧ ∀ y ∈ m :: ns, leastI m ns ≤ y
  | [], m => ⟨by simp [leastI], by simp [leastI]⟩
  | n :: ns, m => by
    obtain ⟨h1, h2⟩ := leastI_spec ns (if n < m then n else m)
    show leastI (if n < m then n else m) ns ∈ m :: n :: ns ∧ ∀ y ∈ m :: n :: ns, leastI (if n < m then n else m) ns ≤ y
    generalize leastI (if n < m then n else m) ns = z at h1 h2 ⊢
    have h3 := h2 _ List.mem_cons_self
    refine ⟨?_, fun y hy => ?_⟩
    · rcases List.mem_cons.mp h1 with e | e
      · split at e
        · rw [e]; simp
        · rw [e]; simp
      · exact List.mem_cons_of_mem _ (List.mem_cons_of_mem _ e)
    · rcases List.mem_cons.mp hy with e | e
      · subst e; split at h3 <;> omega
      · rcases List.mem_cons.mp e with e | e
        · subst e; split at h3 <;> omega
        · exact h2 y (List.mem_cons_of_mem _ e)
theorem mostI_spec : ∀ (ns : List Int) (m : Int), mostI m ns ∈ m :: ns ∧ ∀ y ∈ m :: ns, y ≤ mostI m ns
  | [], m => ⟨by simp [mostI], by simp [mostI]⟩
  | n :: ns, m => by
    obtain ⟨h1, h2⟩ := mostI_spec ns (if m < n then n else m)
    show mostI (if m < n then n else m) ns ∈ m :: n :: ns ∧ ∀ y ∈ m :: n :: ns, y ≤ mostI (if m < n then n else m) ns
    generalize mostI (if m < n then n else m) ns = z at h1 h2 ⊢
    have h3 := h2 _ List.mem_cons_self
    refine ⟨?_, fun y hy => ?_⟩
    · rcases List.mem_cons.mp h1 with e | e
      · split at e
        · rw [e]; simp
        · rw [e]; simp
      · exact List.mem_cons_of_mem _ (List.mem_cons_of_mem _ e)
    · rcases List.mem_cons.mp hy with e | e
      · subst e; split at h3 <;> omega
      · rcases List.mem_cons.mp e with e | e
        · subst e; split at h3 <;> omega
        · exact h2 y (List.mem_cons_of_mem _ e)
def minD : D → Option D
  | .list ds => (match intsOf ds with
    | some (n :: ns) => some (.int (leastI n ns))
    | _ => none)
  | _ => none
def maxD : D → Option D
  | .list ds => (match intsOf ds with
    | some (n :: ns) => some (.int (mostI n ns))
    | _ => none)
  | _ => none
def min2D : D → D → Option D
  | .int i, .int j => some (.int (if j < i then j else i))
  | _, _ => none
def max2D : D → D → Option D
  | .int i, .int j => some (.int (if j > i then j else i))
  | _, _ => none
def atom2 (o : D → D → Option D) (r s : Rv) (e : Nv) : Out Rv :=
  match rview r e, rview s e with
  | some x, some y => (match o x y with
    | some d => .ok (.tmp (.leaf d)) e
    | none => .bad)
  | _, _ => .bad
theorem se_atom2 {o : D → D → Option D} {r : List V → Hp → VK → Prop} (h : PE X ex (tCB r (tCons (tR X.K X.mg W pX fa) (tCons (tR X.K X.mg W pX fb) tNil))))
    (hr : ∀ v u dx dy d H (Q : VK), Dq X.K H v dx → Dq X.K H u dy → o dx dy = some d → (∀ v, (∀ F : Hp, Dq X.K F v d) → Q v H) → r [v, u] H Q) : SE X W ex (call2 (atom2 o) fa fb) :=
  se_b2 h fun L σ e τ τ0 H v u r1 r2 Q sb R d1 d2 q => by
    unfold atom2 at q
    split at q
    · rename_i dx dy hx hy
      split at q
      · rename_i d hd
        exact hr v u dx dy d H Q (d1.dp R hx) (d2.dp R hy) hd fun v' hv => q _ _ _ rfl ((R.subl sb).atom hv)
      · exact q.elim
    · exact q.elim
section
theorem list_ints {K : PySem.W.Frag} {H : Hp} {v : V} {ds : List D} {ns : List Int} (h : Dq K H v (.list ds)) (q : intsOf ds = some ns) : ∃ a, v = .ref a ∧ SqL K H a (ns.map V.int) := by
  cases h with
  | lst hs hd => exact ⟨_, rfl, by rw [← ints_vals hd q]; exact hs⟩
theorem list_bols {K : PySem.W.Frag} {H : Hp} {v : V} {ds : List D} {ns : List Bool} (h : Dq K H v (.list ds)) (q : bolsOf ds = some ns) : ∃ a, v = .ref a ∧ SqL K H a (ns.map V.bl) := by
  cases h with
  | lst hs hd => exact ⟨_, rfl, by rw [← bols_vals hd q]; exact hs⟩
theorem map_some {α β : Type} {o : Option α} {f : α → β} {y : β} (h : o.map f = some y) : ∃ x, o = some x ∧ f x = y := by
  cases o with
  | none => cases h
  | some x => exact ⟨x, rfl, Option.some.inj h⟩
theorem se_sum (hc : X.calm = true) (ha : SE X W a fa) (hg : Gl X "sum") (hm : X.mg "sum" = none) (hn : starEach [a] X.env = (false, eval a X.env) :: starEach [] X.env := by rfl) : SE X W (.Call (.Name "sum" p) [a] [] pos) (call1 (atom1 sumD) fa) :=
  se_atom1 (pe_callB (cr_sum hc) hg hm (by decide +kernel) (pa_cons ha pa_nil hn) (he := hn)) fun v dx d H Q hx q k => by
    unfold sumD at q
    split at q
    · obtain ⟨ns, h1, h2⟩ := map_some q
      subst h2
      obtain ⟨pa, rfl, hs⟩ := list_ints hx h1
      exact ⟨pa, ns, rfl, hs, k _ fun _ => .int _⟩
    · cases q
theorem se_all (hc : X.calm = true) (ha : SE X W a fa) (hg : Gl X "all") (hm : X.mg "all" = none) (hn : starEach [a] X.env = (false, eval a X.env) :: starEach [] X.env := by rfl) : SE X W (.Call (.Name "all" p) [a] [] pos) (call1 (atom1 allD) fa) :=
  se_atom1 (pe_callB (cr_all hc) hg hm (by decide +kernel) (pa_cons ha pa_nil hn) (he := hn)) fun v dx d H Q hx q k => by
    unfold allD at q
    split at q
    · obtain ⟨ns, h1, h2⟩ := map_some q
      subst h2
      obtain ⟨pa, rfl, hs⟩ := list_bols hx h1
      exact ⟨pa, ns, rfl, hs, k _ fun _ => .bl _⟩
    · cases q
theorem se_any (hc : X.calm = true) (ha : SE X W a fa) (hg : Gl X "any") (hm : X.mg "any" = none) (hn : starEach [a] X.env = (false, eval a X.env) :: starEach [] X.env := by rfl) : SE X W (.Call (.Name "any" p) [a] [] pos) (call1 (atom1 anyD) fa) :=
  se_atom1 (pe_callB (cr_any hc) hg hm (by decide +kernel) (pa_cons ha pa_nil hn) (he := hn)) fun v dx d H Q hx q k => by
    unfold anyD at q
    split at q
    · obtain ⟨ns, h1, h2⟩ := map_some q
      subst h2
      obtain ⟨pa, rfl, hs⟩ := list_bols hx h1
      exact ⟨pa, ns, rfl, hs, k _ fun _ => .bl _⟩
    · cases q
theorem se_min (hc : X.calm = true) (ha : SE X W a fa) (hg : Gl X "min") (hm : X.mg "min" = none) (hn : starEach [a] X.env = (false, eval a X.env) :: starEach [] X.env := by rfl) : SE X W (.Call (.Name "min" p) [a] [] pos) (call1 (atom1 minD) fa) :=
  se_atom1 (pe_callB (cr_min hc) hg hm (by decide +kernel) (pa_cons ha pa_nil hn) (he := hn)) fun v dx d H Q hx q k => by
    unfold minD at q
    split at q
    · split at q
      · rename_i n ns h1
        cases q
        obtain ⟨pa, rfl, hs⟩ := list_ints hx h1
        refine ⟨pa, n :: ns, rfl, hs, by simp, fun m h2 h3 => ?_⟩
        obtain ⟨h4, h5⟩ := leastI_spec ns n
        have e : m = leastI n ns := Int.le_antisymm (h3 _ h4) (h5 _ h2)
        rw [e]
        exact k _ fun _ => .int _
      · cases q
    · cases q
theorem se_max (hc : X.calm = true) (ha : SE X W a fa) (hg : Gl X "max") (hm : X.mg "max" = none) (hn : starEach [a] X.env = (false, eval a X.env) :: starEach [] X.env := by rfl) : SE X W (.Call (.Name "max" p) [a] [] pos) (call1 (atom1 maxD) fa) :=
  se_atom1 (pe_callB (cr_max hc) hg hm (by decide +kernel) (pa_cons ha pa_nil hn) (he := hn)) fun v dx d H Q hx q k => by
    unfold maxD at q
    split at q
    · split at q
      · rename_i n ns h1
        cases q
        obtain ⟨pa, rfl, hs⟩ := list_ints hx h1
        refine ⟨pa, n :: ns, rfl, hs, by simp, fun m h2 h3 => ?_⟩
        obtain ⟨h4, h5⟩ := mostI_spec ns n
        have e : m = mostI n ns := Int.le_antisymm (h5 _ h2) (h3 _ h4)
        rw [e]
        exact k _ fun _ => .int _
      · cases q
    · cases q
theorem se_min2 (hc : X.calm = true) (ha : SE X W a fa) (hb : SE X W b fb) (hg : Gl X "min") (hm : X.mg "min" = none) (hn : starEach [a, b] X.env = (false, eval a X.env) :: starEach [b] X.env := by rfl) (hn2 : starEach [b] X.env = (false, eval b X.env) :: starEach [] X.env := by rfl)
    (hpl : (backTo pos (starEach [b] X.env)).any (·.1) = false := by rfl) : SE X W (.Call (.Name "min" p) [a, b] [] pos) (call2 (atom2 min2D) fa fb) :=
  se_atom2 (pe_callB (call_min2 hc) hg hm (by decide +kernel) (pa_cons ha (pa_cons hb pa_nil hn2) hn) (he := hn) (hpl := hpl)) fun v u dx dy d H Q hx hy q k => by
    unfold min2D at q
    split at q
    · cases q; exact ⟨_, _, by rw [dp_int hx, dp_int hy], k _ fun _ => .int _⟩
    · cases q
theorem se_max2 (hc : X.calm = true) (ha : SE X W a fa) (hb : SE X W b fb) (hg : Gl X "max") (hm : X.mg "max" = none) (hn : starEach [a, b] X.env = (false, eval a X.env) :: starEach [b] X.env := by rfl) (hn2 : starEach [b] X.env = (false, eval b X.env) :: starEach [] X.env := by rfl)
    (hpl : (backTo pos (starEach [b] X.env)).any (·.1) = false := by rfl) : SE X W (.Call (.Name "max" p) [a, b] [] pos) (call2 (atom2 max2D) fa fb) :=
  se_atom2 (pe_callB (call_max2 hc) hg hm (by decide +kernel) (pa_cons ha (pa_cons hb pa_nil hn2) hn) (he := hn) (hpl := hpl)) fun v u dx dy d H Q hx hy q k => by
    unfold max2D at q
    split at q
    · cases q; exact ⟨_, _, by rw [dp_int hx, dp_int hy], k _ fun _ => .int _⟩
    · cases q
end

/-! ### tuple(xs), list(xs) -/
def tupV (r : Rv) (e : Nv) : Out Rv :=
  match ritems r e with
  | some (_, ds) => .ok (.tmp (.leaf (.tuple ds))) e
  | none => .bad
def lstV (r : Rv) (e : Nv) : Out Rv :=
  match ritems r e with
  | some (_, ds) => .ok (.tmp (.lst (ds.map .leaf))) e
  | none => .bad
section
theorem se_tupOf (ha : SE X W a fa) (hg : Gl X "tuple") (hm : X.mg "tuple" = none) (hn : starEach [a] X.env = (false, eval a X.env) :: starEach [] X.env := by rfl) : SE X W (.Call (.Name "tuple" p) [a] [] pos) (call1 tupV fa) :=
  se_b1 (pe_callTy call_tuple_of hg hm boot_tuple (pa_cons ha pa_nil hn) (he := hn)) fun L σ e τ τ0 H v r1 Q sb R d1 q => by
    unfold tupV at q
    split at q
    · rename_i k ds hd
      obtain ⟨t, pa, vs, h1, h2, ea, sx, la, R1⟩ := d1.itemsX R hd
      have sa := sx.sq h2
      subst ea
      refine ⟨pa, vs, rfl, ?_⟩
      cases k with
      | true =>
        have et := titems_tuple h2
        subst et
        have R5 := d1.leaf R h1
        exact .inr ⟨sa, q _ _ _ rfl (R5.subl (sb.cons_cons _))⟩
      | false =>
        refine .inl ⟨sa, fun p hp => q _ _ _ rfl ?_⟩
        exact (R1.subl ((List.Sublist.refl _).append sb)).newT la hp
    · exact q.elim
theorem se_lstOf (ha : SE X W a fa) (hg : Gl X "list") (hm : X.mg "list" = none) (hn : starEach [a] X.env = (false, eval a X.env) :: starEach [] X.env := by rfl) : SE X W (.Call (.Name "list" p) [a] [] pos) (call1 lstV fa) :=
  se_b1 (pe_callTy call_list_of hg hm boot_list (pa_cons ha pa_nil hn) (he := hn)) fun L σ e τ τ0 H v r1 Q sb R d1 q => by
    unfold lstV at q
    split at q
    · rename_i k ds hd
      obtain ⟨pa, vs, ea, sa, la, R1⟩ := d1.items R hd
      subst ea
      refine ⟨pa, vs, rfl, ?_, fun p hp => q _ _ _ rfl ?_⟩
      · cases k with
        | true => exact .inr sa
        | false => exact .inl sa
      · exact (R1.subl ((List.Sublist.refl _).append sb)).newL la hp
    · exact q.elim
theorem rev_zip : ∀ {vs : List V} {ds : List D}, vs.length = ds.length → vs.reverse.zip (ds.reverse.map Tr.leaf) = (vs.zip (ds.map Tr.leaf)).reverse
  | [], [], _ => rfl
  | [], _ :: _, h => by cases h
  | _ :: _, [], h => by cases h
  | v :: vs, d :: ds, h => by
    have h' : vs.length = ds.length := Nat.succ.inj h
    rw [List.reverse_cons, List.reverse_cons, List.map_append, List.zip_append (by rw [List.length_map, List.length_reverse, List.length_reverse, h']), rev_zip h']
    show _ ++ [(v, Tr.leaf d)] = ((v, Tr.leaf d) :: vs.zip (ds.map Tr.leaf)).reverse
    rw [List.reverse_cons]
/-- list(reversed(xs)) -/
def revV (r : Rv) (e : Nv) : Out Rv :=
  match ritems r e with
  | some (false, ds) => .ok (.tmp (.lst (ds.reverse.map .leaf))) e
  | _ => .bad
theorem se_lstRev {p2 pos2 : Pos} (hc : X.calm = true) (ha : SE X W a fa) (hg : Gl X "list") (hm : X.mg "list" = none) (hg2 : Gl X "reversed") (hm2 : X.mg "reversed" = none) (hs : starEach [a] X.env = (false, eval a X.env) :: starEach [] X.env := by rfl)
    (hs2 : starEach [.Call (.Name "reversed" p2) [a] [] pos2] X.env = (false, eval (.Call (.Name "reversed" p2) [a] [] pos2) X.env) :: starEach [] X.env := by rfl) :
    SE X W (.Call (.Name "list" p) [.Call (.Name "reversed" p2) [a] [] pos2] [] pos) (call1 revV fa) := by
  refine PE.imp (pe_listRev hc hg hm hg2 hm2 ha hs hs2) fun σ H Q ⟨L, e, τ, R, q⟩ => ?_
  refine tR.fst R q fun r1 e1 v H1 τ1 _ q1 p1 R1 => ?_
  obtain ⟨d1, s1⟩ := p1.hd
  unfold revV at q1
  split at q1
  · rename_i ds hd
    obtain ⟨pa, vs, ea, sa, la, R2⟩ := d1.items R1 hd
    refine ⟨pa, vs, ea, sa, fun p hp => q1 _ _ _ rfl ?_⟩
    have ez := rev_zip la
    have R3 : Rel X.K L σ e1 (vs.reverse.zip (ds.reverse.map Tr.leaf) ++ τ) H1 := by
      rw [ez]
      exact (R2.subl ((List.Sublist.refl _).append s1)).perm ((List.reverse_perm _).symm.append_right _)
    exact R3.newL (by rw [List.length_reverse, List.length_reverse, la]) hp
  · exact q1.elim
end
end
end Vs

set_option Elab.async false
set_option linter.all false
set_option maxRecDepth 100000
set_option maxHeartbeats 1000000
/-! Vs9: isinstance, repr. -/
namespace Vs
open PySem PySem.Spec L2
open PyProof.Rows hiding St

inductive Ty where
  | int | bool | str | tuple | list | dict
def Ty.name : Ty → String
  | .int => "int" | .bool => "bool" | .str => "str" | .tuple => "tuple" | .list => "list" | .dict => "dict"
def isD : Ty → D → Bool
  | .int, .int _ => true
  | .int, .bool _ => true
  | .bool, .bool _ => true
  | .str, .str _ => true
  | .tuple, .tuple _ => true
  | .list, .list _ => true
  | .dict, .dict _ => true
  | _, _ => false
def tyOf : D → String
  | .none => "NoneType" | .bool _ => "bool" | .int _ => "int" | .str _ => "str" | .list _ => "list" | .tuple _ => "tuple" | .dict _ => "dict"
theorem kit_all : (["NoneType", "bool", "int", "str", "list", "tuple", "dict"].all fun a => ["int", "bool", "str", "tuple", "list", "dict"].all fun b => kitB a b == some ((a == b) || (a == "bool" && b == "int"))) = true := by decide +kernel
theorem kit_one (T : Ty) (d : D) : kitB (tyOf d) T.name = some (isD T d) := by
  have h := kit_all
  rw [List.all_eq_true] at h
  have h1 := h (tyOf d) (by cases d <;> simp [tyOf])
  rw [List.all_eq_true] at h1
  have h2 := h1 T.name (by cases T <;> simp [Ty.name])
  have h3 : kitB (tyOf d) T.name = some ((tyOf d == T.name) || (tyOf d == "bool" && T.name == "int")) := by simpa using h2
  rw [h3]
  cases d <;> cases T <;> rfl
theorem dq_tyx {K : PySem.W.Frag} {H : Hp} {v : V} {d : D} (h : Dq K H v d) : TyX K H v (.type (tyOf d)) := by
  cases h with
  | non => exact .base .non
  | bl b => exact .base (.bl b)
  | int i => exact .base (.int i)
  | str x => exact .base (.str x)
  | lst hs _ =>
    rcases hs with (hs | ⟨o, hs⟩) | ⟨o, its, n, hs, hc, _⟩
    · exact .base (.lst hs)
    · exact .base (.frz hs)
    · exact .kList hs hc
  | tup hs _ =>
    rcases hs with (hs | ⟨o, hs⟩) | ⟨o, its, n, hs, hc, _⟩
    · exact .base (.tup hs)
    · exact .fTuple hs
    · exact .kTuple hs hc
  | dct ha hk _ _ =>
    rcases hk.inv with ⟨kvs, rfl, _⟩ | ⟨kvs, rfl, _⟩
    · exact .base (.dK ha)
    · exact .base (.dT ha)
section
variable {X : Cx} {W : WX} {a b ex : Expr} {fa fb f : Xp} {pos p p2 : Pos} {x : Str}
theorem se_isi {T : Ty} (ha : SE X W a fa) (hg : Gl X "isinstance") (hm : X.mg "isinstance" = none) {tn : Str} (hg2 : Gl X tn) (hm2 : X.mg tn = none) (hv : bootBuiltins tn = some (.type T.name)) (hnn : tn ≠ "__name__" := by decide) (hdb : (tn == ("__debug__" : Str)) = false := by decide)
    (hn : starEach [a, .Name tn p2] X.env = (false, eval a X.env) :: starEach [.Name tn p2] X.env := by rfl) (hn2 : starEach [.Name tn p2] X.env = (false, eval (.Name tn p2) X.env) :: starEach [] X.env := by rfl)
    (hpl : (backTo pos (starEach [.Name tn p2] X.env)).any (·.1) = false := by rfl) : SE X W (.Call (.Name "isinstance" p) [a, .Name tn p2] [] pos) (call1 (atom1 fun d => some (.bool (isD T d))) fa) := by
  refine PE.imp (pe_callB call_isi hg hm (by decide +kernel) (pa_cons ha (pa_cons (pe_bltn (v := .ty T.name) hg2 hm2 hv rfl hnn hdb) pa_nil hn2) hn) (he := hn) (hpl := hpl)) fun σ H Q ⟨L, e, τ, R, q⟩ => ?_
  refine tR.fst R q fun r1 e1 v H1 τ1 _ q1 p1 R1 => ?_
  obtain ⟨d1, s1⟩ := p1.hd
  unfold atom1 at q1
  split at q1
  · rename_i dx hx
    have hq := d1.dp R1 hx
    exact ⟨v, .ty T.name, .type (tyOf dx), .type T.name, isD T dx, rfl, .ty _, dq_tyx hq, kit_ty (kit_one T dx), q1 _ _ _ rfl ((R1.subl s1).atom fun _ => .bl _)⟩
  · exact q1.elim
end

/-! ### repr -/
def showOk (d : D) : Bool := d.showable && (!d.hasDict || noLst d) && decide (d.depth ≤ 60) && decide (d.shown.length ≤ sizeLine)
def reprD (d : D) : Option D := if showOk d = true then some (.str d.shown) else none
theorem showOk_of {d : D} (h : showOk d = true) : d.showable = true ∧ (d.hasDict = true → noLst d = true) ∧ d.depth ≤ 60 ∧ d.shown.length ≤ sizeLine := by
  unfold showOk at h
  rw [Bool.and_eq_true, Bool.and_eq_true, Bool.and_eq_true, decide_eq_true_eq, decide_eq_true_eq] at h
  refine ⟨h.1.1.1, fun z => ?_, h.1.2, h.2⟩
  have h2 := h.1.1.2
  rw [z] at h2
  simpa using h2
section
variable {X : Cx} {W : WX} {a b ex : Expr} {fa fb f : Xp} {pos p p2 : Pos} {x : Str}
theorem call_reprQ (hgd : X.A.guards = some []) (hu : X.A.units + 64 < cLine) : CallR X (.builtin "repr") (fun xs H Q => ∃ v d, xs = [v] ∧ Dq X.K H v d ∧ showOk d = true ∧ Q (.str d.shown) H) := by
  intro pins s σ H xs us Q I r h
  obtain ⟨v, d, rfl, hd, hs, q⟩ := h
  obtain ⟨u, rfl, ru⟩ := vals1 r
  obtain ⟨s1, s2, s3, s4⟩ := showOk_of hs
  obtain ⟨as, rd, hsm⟩ := Dq.reads I hd ru
  have fin : ∀ (h' : Heap) (t : Tok) (tk : Nat), (∀ b o, s.heap.get? b = some o → h'.get? b = some o) → EP X pins σ Q (.str d.shown t) { s with heap := h', toks := tk } := fun h' t tk hk => ⟨.str _, H, I.kept hk, ⟨_, rfl⟩, q⟩
  cases hd with
  | non =>
    cases ru
    refine P.repr_of_none ?_
    have z : (PyData.none).shown = ("None" : Str) := by simp only [PyData.shown]
    rw [← z]
    exact fin s.heap _ _ fun _ _ e => e
  | bl b =>
    cases ru
    refine P.repr_of_bool ?_
    have z : (PyData.bool b).shown = (if b then "True" else "False" : Str) := by simp only [PyData.shown]
    rw [← z]
    exact fin s.heap _ _ fun _ _ e => e
  | int i =>
    obtain ⟨t, rfl⟩ := ru
    have z : (PyData.int i).shown = (toString i : String) := by simp only [PyData.shown]
    refine P.repr_of_int (by simpa [PyData.showable] using s1) ?_
    rw [← z]
    exact fin s.heap _ _ fun _ _ e => e
  | str x =>
    obtain ⟨t, rfl⟩ := ru
    have z : (PyData.str x).shown = reprText x := by simp only [PyData.shown]
    rw [z] at s4
    refine P.repr_of_str ?_ s4
    rw [← z]
    exact fin s.heap _ _ fun _ _ e => e
  | lst _ _ =>
    cases ru
    exact repr_of_reads' (h₀ := s.heap) rd s1 (fun z => hsm (s2 z)) hgd (by omega) (fun _ _ e => e) (fun h' t tk hk => fin h' t tk hk) s4
  | tup _ _ =>
    cases ru
    exact repr_of_reads' (h₀ := s.heap) rd s1 (fun z => hsm (s2 z)) hgd (by omega) (fun _ _ e => e) (fun h' t tk hk => fin h' t tk hk) s4
  | dct _ _ _ _ =>
    cases ru
    exact repr_of_reads' (h₀ := s.heap) rd s1 (fun z => hsm (s2 z)) hgd (by omega) (fun _ _ e => e) (fun h' t tk hk => fin h' t tk hk) s4
theorem se_repr (hgd : X.A.guards = some []) (hu : X.A.units + 64 < cLine) (ha : SE X W a fa) (hg : Gl X "repr") (hm : X.mg "repr" = none) (hn : starEach [a] X.env = (false, eval a X.env) :: starEach [] X.env := by rfl)
    (hpl : (backTo pos (starEach [] X.env)).any (·.1) = false := by rfl) : SE X W (.Call (.Name "repr" p) [a] [] pos) (call1 (atom1 reprD) fa) := by
  refine PE.imp (pe_callB (call_reprQ hgd hu) hg hm boot_repr (pa_cons ha pa_nil hn) (he := hn) (hpl := hpl)) fun σ H Q ⟨L, e, τ, R, q⟩ => ?_
  refine tR.fst R q fun r1 e1 v H1 τ1 _ q1 p1 R1 => ?_
  obtain ⟨d1, s1⟩ := p1.hd
  unfold atom1 reprD at q1
  split at q1
  · rename_i dx hx
    have hq := d1.dp R1 hx
    split at q1
    · rename_i d hd
      split at hd
      · rename_i hok
        cases hd
        exact ⟨v, dx, rfl, hq, hok, q1 _ _ _ rfl ((R1.subl s1).atom fun _ => .str _)⟩
      · cases hd
    · exact q1.elim
  · exact q1.elim
end
end Vs

set_option Elab.async false
set_option linter.all false
set_option maxRecDepth 100000
set_option maxHeartbeats 1000000
/-! Vs10: arguments as they stand; a def as a function on trees; calls. -/
namespace Vs
open PySem PySem.Spec L2
open PyProof.Rows hiding St

def Atx (σ : St) : List Rv → List V → Prop
  | [], [] => True
  | .tmp _ :: rs, _ :: vs => Atx σ rs vs
  | .at i :: rs, v :: vs => σ[i]? = some (some v) ∧ Atx σ rs vs
  | _, _ => False
def tms : List Rv → List V → List (V × Tr)
  | .tmp t :: rs, v :: vs => (v, t) :: tms rs vs
  | .at _ :: rs, _ :: vs => tms rs vs
  | _, _ => []
def sel (f : Xp) : Xp := f
def tAX (K : PySem.W.Frag) (mg : Str → Option Value) (W : WX) (fs : List Xp) : TA := fun σ H Q => ∃ (L : Nat → Option V) (e : Nv) (τ : List (V × Tr)), Rel K L σ e τ H ∧
  Pst K mg W L σ τ (evs sel fs e) fun rs e' => ∀ vs H', Atx σ rs vs → Rel K L σ e' (tms rs vs ++ τ) H' → Q vs H'
section
variable {K : PySem.W.Frag} {mg : Str → Option Value} {W : WX} {fs : List Xp} {f : Xp}
theorem aX_cons (σ : St) (H : Hp) (Q : List V → Hp → Prop) (h : tAX K mg W (f :: fs) σ H Q) : tCons (tR K mg W pX f) (tAX K mg W fs) σ H Q := by
  obtain ⟨L, e, τ, R, q⟩ := h
  have q : Pst K mg W L σ τ ((f e).bind fun a e1 => (evs sel fs e1).bind fun as e2 => .ok (a :: as) e2) _ := q
  refine tR.fst R q fun r e1 v H1 τ1 _ q1 p1 R1 => ?_
  cases r with
  | tmp t =>
    have p1 : τ1 = (v, t) :: τ := p1
    subst p1
    refine ⟨L, e1, (v, t) :: τ, R1, (Pst.bind q1).mono (List.sublist_cons_self _ _) fun rs e2 _ q2 vs H2 hl R2 => ?_⟩
    exact q2 (v :: vs) H2 hl (R2.perm List.perm_middle)
  | «at» i =>
    obtain ⟨p1, p2⟩ := p1
    subst p1
    refine ⟨L, e1, _, R1, (Pst.bind q1).mono (.refl _) fun rs e2 _ q2 vs H2 hl R2 => ?_⟩
    exact q2 (v :: vs) H2 ⟨p2, hl⟩ R2
theorem aX_nil (σ : St) (H : Hp) (Q : List V → Hp → Prop) (h : tAX K mg W [] σ H Q) : tNil σ H Q := by
  obtain ⟨L, e, τ, R, q⟩ := h
  exact q [] H trivial R
end
abbrev SAX (X : Cx) (W : WX) (es : List Expr) (fs : List Xp) : Prop := PA X es (tAX X.K X.mg W fs)
section
variable {X : Cx} {W : WX} {a : Expr} {es : List Expr} {f : Xp} {fs : List Xp}
theorem ax_nil : SAX X W [] [] := PA.imp pa_nil aX_nil
theorem ax_cons (h : SE X W a f) (hr : SAX X W es fs) (hs : starEach (a :: es) X.env = (false, eval a X.env) :: starEach es X.env := by rfl) : SAX X W (a :: es) (f :: fs) := PA.imp (pa_cons h hr hs) aX_cons
end

/-- the arguments' trees: of a name that is lent (true) its own, otherwise data -/
def pas : List Rv → List Bool → Nv → Option (List Tr × Nv)
  | [], _, e => some ([], e)
  | .tmp t :: rs, m :: ms, e => (pas rs ms e).map fun p => ((if m = true then t else .leaf t.view) :: p.1, p.2)
  | .at i :: rs, m :: ms, e => match e[i]? with
    | some (some (t, b)) => if m = true then (pas rs ms (e.set i none)).map fun p => (t :: p.1, p.2) else (pas rs ms (e.set i (some (.leaf t.view, b)))).map fun p => (.leaf t.view :: p.1, p.2)
    | _ => none
  | _ :: _, [], _ => none
def flg (e : Nv) (i : Nat) : Bool := match e[i]? with
  | some (some (_, b)) => b
  | _ => false
/-- what was lent comes back -/
def bak (e0 : Nv) : List Rv → List Bool → List Tr → Nv → Nv
  | .at i :: rs, true :: ms, p :: ps, e => bak e0 rs ms ps (e.set i (some (p, flg e0 i)))
  | .tmp _ :: rs, true :: ms, _ :: ps, e => bak e0 rs ms ps e
  | _ :: rs, false :: ms, ps, e => bak e0 rs ms ps e
  | _, _, _, e => e
def io : List Bool → List V → List Tr → List (V × Tr)
  | true :: ms, v :: vs, p :: ps => (v, p) :: io ms vs ps
  | false :: ms, _ :: vs, ps => io ms vs ps
  | _, _, _ => []
section
variable {K : PySem.W.Frag} {L : Nat → Option V} {σ : St} {H H0 : Hp}
theorem pas_ok : ∀ {rs : List Rv} {ms : List Bool} {vs : List V} {e e1 : Nv} {τ : List (V × Tr)} {ts : List Tr}, Atx σ rs vs → Rel K L σ e (tms rs vs ++ τ) H → pas rs ms e = some (ts, e1) →
    vs.length = ts.length ∧ Rel K L σ e1 (vs.zip ts ++ τ) H
  | [], ms, [], e, e1, τ, ts, _, R, q => by
    simp only [pas, Option.some.injEq, Prod.mk.injEq] at q
    obtain ⟨rfl, rfl⟩ := q
    exact ⟨rfl, R⟩
  | .tmp t :: rs, m :: ms, v :: vs, e, e1, τ, ts, h, R, q => by
    simp only [pas, Option.map_eq_some_iff, Prod.mk.injEq] at q
    obtain ⟨⟨ts', e'⟩, q, rfl, rfl⟩ := q
    have R0 : Rel K L σ e ((v, if m = true then t else .leaf t.view) :: (tms rs vs ++ τ)) H := by
      have R : Rel K L σ e ((v, t) :: (tms rs vs ++ τ)) H := R
      cases m with
      | true => exact R
      | false => exact R.map fun s => s.freeze
    have R' : Rel K L σ e (tms rs vs ++ (v, if m = true then t else .leaf t.view) :: τ) H := R0.perm List.perm_middle.symm
    obtain ⟨h1, h2⟩ := pas_ok (τ := (v, if m = true then t else .leaf t.view) :: τ) (show Atx σ rs vs from h) R' q
    exact ⟨by simp [h1], h2.perm List.perm_middle⟩
  | .at i :: rs, m :: ms, v :: vs, e, e1, τ, ts, h, R, q => by
    obtain ⟨hv, h⟩ := h
    simp only [pas] at q
    split at q
    · rename_i t b he
      obtain ⟨w, k1, k2, R2⟩ := R.take he
      rw [hv] at k1
      cases k1
      split at q
      · simp only [Option.map_eq_some_iff, Prod.mk.injEq] at q
        obtain ⟨⟨ts', e'⟩, q, rfl, rfl⟩ := q
        have R' : Rel K L σ (e.set i none) (tms rs vs ++ (v, t) :: τ) H := R2.perm List.perm_middle.symm
        obtain ⟨h1, h2⟩ := pas_ok h R' q
        exact ⟨by simp [h1], h2.perm List.perm_middle⟩
      · simp only [Option.map_eq_some_iff, Prod.mk.injEq] at q
        obtain ⟨⟨ts', e'⟩, q, rfl, rfl⟩ := q
        have R3 : Rel K L σ (e.set i none) ((v, .leaf t.view) :: (v, .leaf t.view) :: (tms rs vs ++ τ)) H := R2.map fun s => s.freeze.dup
        have R4 := R3.put (i := i) hv k2 (by rw [List.getElem?_set_self (lt_of_at he)])
        rw [set_set'] at R4
        obtain ⟨h1, h2⟩ := pas_ok (τ := (v, .leaf t.view) :: τ) h (R4.perm List.perm_middle.symm) q
        exact ⟨by simp [h1], h2.perm List.perm_middle⟩
    · cases q
  | _ :: _, [], _, _, _, _, _, _, _, q => by
    rename_i r _ _ _ _ _ _ _ _
    cases r <;> simp [pas] at q
  | [], _, _ :: _, _, _, _, _, h, _, _ => h.elim
  | .tmp _ :: _, _ :: _, [], _, _, _, _, h, _, _ => h.elim
  | .at _ :: _, _ :: _, [], _, _, _, _, h, _, _ => h.elim
theorem bak_ok {e0 : Nv} {τ0 : List (V × Tr)} (R0 : Rel K L σ e0 τ0 H0) : ∀ {rs : List Rv} {ms : List Bool} {vs : List V} {ps : List Tr} {e : Nv} {τ : List (V × Tr)}, Atx σ rs vs → Rel K L σ e (io ms vs ps ++ τ) H → Rel K L σ (bak e0 rs ms ps e) τ H
  | .at i :: rs, true :: ms, v :: vs, p :: ps, e, τ, h, R => by
    obtain ⟨hv, h⟩ := h
    have R : Rel K L σ e ((v, p) :: (io ms vs ps ++ τ)) H := R
    have hl : i < e.length := by rw [R.len]; exact lt_of_at hv
    have R1 := (R.lost (i := i)).put (i := i) (b := flg e0 i) hv (fun z => ?_) (by rw [List.getElem?_set_self hl])
    · rw [set_set'] at R1
      exact (show Rel K L σ (bak e0 rs ms ps (e.set i (some (p, flg e0 i)))) τ H from bak_ok R0 h R1)
    · unfold flg at z
      split at z
      · rename_i t b he
        obtain ⟨w, k1, k2⟩ := R0.ok i t b he
        rw [hv] at k1
        cases k1
        exact k2 z
      · cases z
  | .tmp t :: rs, true :: ms, v :: vs, p :: ps, e, τ, h, R => (show Rel K L σ (bak e0 rs ms ps e) τ H from bak_ok (vs := vs) R0 (show Atx σ rs vs from h) (Rel.tail (v := v) (t := p) R))
  | .tmp t :: rs, false :: ms, v :: vs, ps, e, τ, h, R => (show Rel K L σ (bak e0 rs ms ps e) τ H from bak_ok (vs := vs) R0 (show Atx σ rs vs from h) R)
  | .at i :: rs, false :: ms, v :: vs, ps, e, τ, h, R => (show Rel K L σ (bak e0 rs ms ps e) τ H from bak_ok (vs := vs) R0 h.2 R)
  | [], ms, vs, ps, e, τ, h, R => by
    have z : bak e0 [] ms ps e = e := by unfold bak; rfl
    rw [z]
    exact R.subl (List.sublist_append_right _ _)
  | .at i :: rs, true :: ms, v :: vs, [], e, τ, h, R => by
    have z : bak e0 (.at i :: rs) (true :: ms) [] e = e := by unfold bak; rfl
    rw [z]
    exact R.subl (List.sublist_append_right _ _)
  | .tmp i :: rs, true :: ms, v :: vs, [], e, τ, h, R => by
    have z : bak e0 (.tmp i :: rs) (true :: ms) [] e = e := by unfold bak; rfl
    rw [z]
    exact R.subl (List.sublist_append_right _ _)
  | r :: rs, [], v :: vs, ps, e, τ, h, R => by
    have z : bak e0 (r :: rs) [] ps e = e := by cases r <;> (unfold bak; rfl)
    rw [z]
    exact R.subl (List.sublist_append_right _ _)
  | .tmp _ :: _, _, [], _, _, _, h, _ => h.elim
  | .at _ :: _, _, [], _, _, _, h, _ => h.elim
end

theorem evs_length {α : Type} {c : Xp → Nv → Out α} : ∀ {fs : List Xp} {e e1 : Nv} {as : List α}, evs c fs e = .ok as e1 → as.length = fs.length
  | [], e, e1, as, h => by
    unfold evs at h
    cases h
    rfl
  | f :: fs, e, e1, as, h => by
    unfold evs at h
    cases q : c f e with
    | ok a e2 =>
      rw [q] at h
      simp only [bind_ok] at h
      cases q2 : evs c fs e2 with
      | ok as2 e3 =>
        rw [q2] at h
        simp only [bind_ok] at h
        cases h
        simp [evs_length q2]
      | exc x e3 => rw [q2] at h; cases h
      | bad => rw [q2] at h; cases h
    | exc x e2 => rw [q] at h; cases h
    | bad => rw [q] at h; cases h
/-! ### a def as a function on trees -/
inductive Ret where
  | ok (r : Tr) (ps : List Tr)
  | exc (x : Exn) (ps : List Tr)
  | bad
abbrev Mir := List Tr → Ret
def spM (K : PySem.W.Frag) (mg : Str → Option Value) (ms : List Bool) (F : Mir) : Sp := fun vs H Q E => vs.length = ms.length ∧ ∃ ts ρ, vs.length = ts.length ∧ St8 K H (vs.zip ts ++ ρ) ∧
  match F ts with
  | .ok r ps => ∀ v H', St8 K H' ((v, r) :: (io ms vs ps ++ ρ)) → Q v H'
  | .exc x ps => ∀ cls d H' τ', XRep mg x cls d H' (io ms vs ps ++ ρ) τ' → St8 K H' τ' → E cls d H'
  | .bad => False
/-- as FnOk, where no guard stands -/
structure FnG (P : Program) (w : World) (K : PySem.W.Frag) (mg : Str → Option Value) (base : Heap) (k : Nat) (f : Addr) (fd : FuncData) (ps : List Str) (sp : Sp) : Prop where
  len : ∀ vs H Q E, sp vs H Q E → vs.length = ps.length
  run : ∀ (A : Around) (outer : List Env) (s : Shared) (H : Hp) (args : Args) (us : List Value) (vs : List V) (Q : VK) (E : XK), Room k A → A.guards = some [] →
    Env0 P w K mg base A outer s H → BindsTo s fd args (ps.zip us) → Vals vs us → sp vs H Q E → codeAny (model P w) A (.call (.ref f) args) (CR (L2.CX P w) outer P w H s Q E) s
theorem FnG.mono {P : Program} {w : World} {K : PySem.W.Frag} {mg : Str → Option Value} {base : Heap} {j k : Nat} {f : Addr} {fd : FuncData} {ps : List Str} {sp : Sp} (F : FnG P w K mg base j f fd ps sp) (h : j ≤ k) :
    FnG P w K mg base k f fd ps sp := ⟨F.len, fun A outer s H args us vs Q E hr => F.run A outer s H args us vs Q E (hr.mono h)⟩
theorem fnG_of {P : Program} {w : World} {K : PySem.W.Frag} {mg : Str → Option Value} {base : Heap} {k : Nat} {x qual : Str} {st : Stmt} {f : Addr} {fd : FuncData} {N ps : List Str} {sp : Sp}
    (F : Fun K x qual st f fd) (S : FnScope N ps (defScope st)) (len : ∀ vs H Q E, sp vs H Q E → vs.length = ps.length)
    (hb : ∀ (cdv : Value) (A : Around) (outer : List Env) (s : Shared) (H : Hp) (vs : List V) (Q : VK) (E : XK), Room k (A.deeper (envOfC qual (defScope st) s.heap.objs.size f cdv)) → A.guards = some [] → sp vs H Q E →
      ∃ t, PSs (cxOf (L2.CX P w) P w K mg base N qual (defScope st) f cdv A outer s H E) (defBody st) t ∧ t { nx := fun _ H' => Q .non H', rt := Q } (start N vs) H) : FnG P w K mg base (k + 1) f fd ps sp := by
  obtain ⟨oc, od, kV, doc, pm, an, cdv, ct, osl, rfl, lk, hcd⟩ := F.ex
  refine ⟨len, fun A outer s H args us vs Q E hr hgd e0 bnd rv z => ?_⟩
  have nl := len _ _ _ _ z
  have kIn : K.In s.heap := e0.mod.kin.keeps fun b o q => (e0.bs b o q).1
  have nolim : s.heap.NoLimit := e0.mod.nolimit.keeps fun b o q => (e0.bs b o q).1
  have kinds : ∀ y ∈ ps.zip us, (defScope st).names.lookup y.1 = some .local ∨
      ((defScope st).names.lookup y.1 = some .cell ∧ ((cellsFrom (s.heap.objs.size + 1) (defScope st).names []).lookup y.1).isSome = true) := by
    rintro ⟨n, u⟩ hy
    rcases S.par n (List.of_mem_zip hy).1 with q | q
    · exact .inl q
    · exact .inr ⟨q, PySem.W.cellsFrom_some _ _ _ (.inl q)⟩
  refine codeAny_call_function hr.depth (kIn _ _ lk) rfl S.co S.gen rfl
    (PySem.W.codeRec_of kIn hcd) (bnd _ _ _ _ ?_)
  refine wpAny_newFunctionEnv_cells S.kind kinds fun en hen s1 ic => ?_
  subst hen
  refine ⟨nolim.keeps ic.toInCall.keep, codeAny_func ?_⟩
  obtain ⟨t, ht, hq⟩ := hb cdv A outer s H vs Q E (hr.deeper _) hgd z
  have I : Inv (cxOf (L2.CX P w) P w K mg base N qual (defScope st) f cdv A outer s H E) [] (start N vs) H s1 :=
    inv_start S hr.hd e0 nl rv ic
  refine wpAny_mono (ht.run [] s1 (start N vs) H _ I hq)
    (fun fl s' hs => ?_) fun e s' hs => hs
  have ends : ∀ {σ' : St} {H' : Hp} {v : V} {u : Value},
      Inv (cxOf (L2.CX P w) P w K mg base N qual (defScope st) f cdv A outer s H E) [] σ' H' s' → RelV v u → Q v H' → CE outer P w H s Q u s' := by
    intro σ' H' v u J rv q
    exact ⟨v, H', J.os, J.bare, J.base, J.hok, rv, q⟩
  cases fl with
  | ret u => obtain ⟨v, σ', H', J, rv, q⟩ := hs; exact ends J rv q
  | next => obtain ⟨σ', H', J, q⟩ := hs; exact ends (v := V.non) (u := Value.none) J rfl q
  | brk => obtain ⟨_, _, _, q⟩ := hs; exact q.elim
  | cont => obtain ⟨_, _, _, q⟩ := hs; exact q.elim

/-- an exception of a callee reaches what is wanted here -/
def PassX (X : Cx) (W : WX) : Prop := ∀ (pins : List (Addr × Obj)) (σ : St) (H : Hp) (s : Shared) (u : Value) (s' : Shared) (E : XK), Inv X pins σ H s → (∀ cls d H', E cls d H' → W cls d σ H') → L2.CX X.prog X.w X.stack H s E u s' → X.xe u s'
abbrev W0 : WX := fun _ _ _ _ => False
theorem passX_tk {X : Cx} {W : WX} (tk : Takes X W) : PassX X W := fun pins σ H s u s' E I hW c => tk u s' (XE.of_call I hW c)
theorem passX0 {X : Cx} : PassX X W0 := fun pins σ H s u s' E I hW c => by
  obtain ⟨_, _, H', cls, d, _, _, _, _, _, _, _, z⟩ := c
  exact (hW _ _ _ z).elim
def tCallG (sp : Sp) (W : WX) (t : TA) : TE := fun σ H Q => t σ H fun vs H1 => sp vs H1 Q fun cls d H' => W cls d σ H'
def prm {α : Type} (pr : List Nat) (l : List α) : List α := pr.filterMap fun i => l[i]?
/-- how a call's keywords bind: n by place, ks by name, pr their order -/
def KwB (fd : FuncData) (ps ks : List Str) (n : Nat) (pr : List Nat) : Prop := ∀ (s : Shared) (us ws : List Value), us.length = n → ws.length = ks.length → BindsTo s fd ⟨us, ks.zip ws⟩ (ps.zip (prm pr (us ++ ws)))
def tCallGK (sp : Sp) (W : WX) (n m : Nat) (pr : List Nat) (t tk : TA) : TE := fun σ H Q => t σ H fun vs H1 => tk σ H1 fun zs H2 => vs.length = n ∧ zs.length = m ∧ sp (prm pr (vs ++ zs)) H2 Q fun cls d H' => W cls d σ H'
theorem Vals.prm {vs : List V} {us : List Value} (r : Vals vs us) : ∀ pr : List Nat, Vals (prm pr vs) (prm pr us)
  | [] => .nil
  | i :: pr => by
    unfold Vs.prm
    rw [List.filterMap_cons, List.filterMap_cons]
    cases h : vs[i]? with
    | none =>
      have : us[i]? = none := by
        rw [List.getElem?_eq_none_iff] at h ⊢
        rw [← r.length]
        exact h
      rw [this]
      exact Vals.prm r pr
    | some v =>
      obtain ⟨u, hu, ru⟩ := r.get h
      rw [hu]
      exact .cons ru (Vals.prm r pr)
section
variable {X : Cx} {W : WX} {k : Nat} {f : Addr} {fd : FuncData} {ps ks : List Str} {sp : Sp} {x : Str} {p pos : Pos} {e : Expr} {es : List Expr} {t tk : TA} {kws : List Keyword} {n : Nat} {pr : List Nat}
theorem run_fnG {pins : List (Addr × Obj)} {σ : St} {H : Hp} {s : Shared} {Q : VK} {us : List Value} {vs : List V} {as : List Value} {kw : List (Str × Value)} (F : FnG X.prog X.w X.K X.mg X.base k f fd ps sp) (hr : Room k X.A) (hgd : X.A.guards = some []) (hx : PassX X W)
    (hb : vs.length = ps.length → BindsTo s fd ⟨as, kw⟩ (ps.zip us)) (I : Inv X pins σ H s) (r : Vals vs us) (h : sp vs H Q fun cls d H' => W cls d σ H') : wpAny (model X.prog X.w) X.A (call (.ref f) as kw) (EP X pins σ Q) X.xe s := by
  refine wpAny_call (codeAny_mono (F.run X.A X.stack s H ⟨as, kw⟩ us vs Q _ hr hgd I.env0 (hb (F.len _ _ _ _ h)) r h) fun r s' hq => ?_)
  cases r with
  | error u => exact hx pins σ H s u s' _ I (fun _ _ _ q => q) hq
  | ok fl =>
    cases fl with
    | ret u => exact I.after hq
    | next => exact False.elim hq
    | brk => exact False.elim hq
    | cont => exact False.elim hq
theorem pe_callG (F : FnG X.prog X.w X.K X.mg X.base k f fd ps sp) (hr : Room k X.A) (hgd : X.A.guards = some []) (hx : PassX X W) (hg : Gl X x) (hm : X.mg x = some (.ref f)) (hk : PySem.W.keepIn X.K (.ref f) = true) (hb : Binds X.K fd ps [])
    (ha : PA X (e :: es) t) (hdb : (x == ("__debug__" : Str)) = false := by decide) (he : starEach (e :: es) X.env = (false, eval e X.env) :: starEach es X.env := by rfl)
    (hpl : (backTo pos (starEach es X.env)).any (·.1) = false := by rfl) : PE X (.Call (.Name x p) (e :: es) [] pos) (tCallG sp W t) := by
  refine ⟨fun pins s σ H Q I h => wpAny_Call_Name_kw (ld_glob I hg hm ?_ hdb)⟩
  refine PySem.W.callWith_K (h₀ := X.base) I.ok.mod.kin hk
    (thn (ha.run pos pins s σ H _ I h) fun us s1 ⟨vs, H1, I1, r, q⟩ => ⟨I1.kIn, ?_⟩) he hpl
  refine run_fnG (us := us) F hr hgd hx (fun hl => ?_) I1 r q
  have z := hb s1 us I1.kIn (by rw [List.append_nil, ← r.length]; exact hl)
  rw [List.append_nil] at z
  exact z
theorem pe_callG0 (F : FnG X.prog X.w X.K X.mg X.base k f fd ps sp) (hr : Room k X.A) (hgd : X.A.guards = some []) (hx : PassX X W) (hg : Gl X x) (hm : X.mg x = some (.ref f)) (hk : PySem.W.keepIn X.K (.ref f) = true) (hb : Binds X.K fd ps [])
    (hdb : (x == ("__debug__" : Str)) = false := by decide) : PE X (.Call (.Name x p) [] [] pos) (tCallG sp W tNil) := by
  refine ⟨fun pins s σ H Q I h => wpAny_Call_Name_kw (ld_glob I hg hm ?_ hdb)⟩
  refine PySem.W.callWith_K0 I.kIn hk (run_fnG (us := []) F hr hgd hx (fun hl => ?_) I .nil h)
  exact hb s [] I.kIn hl
theorem pe_callGK0 (F : FnG X.prog X.w X.K X.mg X.base k f fd ps sp) (hr : Room k X.A) (hgd : X.A.guards = some []) (hx : PassX X W) (hg : Gl X x) (hm : X.mg x = some (.ref f)) (hk : PySem.W.keepIn X.K (.ref f) = true) (hb : KwB fd ps ks 0 pr)
    (hkw : PK X kws tk) (hall : (backToKw pos (keywordEach kws X.env)).all (·.1.isSome) = true := by rfl) (hks : (backToKw pos (keywordEach kws X.env)).filterMap (·.1) = ks := by rfl) (hdb : (x == ("__debug__" : Str)) = false := by decide)
    (hpl : ((backTo pos (starEach [] X.env)).any (·.1) || (backToKw pos (keywordEach kws X.env)).any (·.1.isNone)) = false := by rfl) : PE X (.Call (.Name x p) [] kws pos) (tCallGK sp W 0 ks.length pr tNil tk) := by
  refine ⟨fun pins s σ H Q I h => wpAny_Call_Name_kw (ld_glob I hg hm ?_ hdb)⟩
  refine PySem.W.callWith_KW0 (h₀ := X.base) I.ok.mod.kin hk hall ?_ hpl
  refine thn (hkw.run pos pins s σ H _ I h) fun ws s2 ⟨zs, H2, I2, rz, l1, l2, q2⟩ => ⟨I2.kIn, ?_⟩
  rw [hks]
  exact run_fnG F hr hgd hx (fun _ => hb s2 [] ws rfl (by rw [← rz.length]; exact l2)) I2 (Vals.prm (Vals.append .nil rz) pr) q2
theorem pe_callGK (F : FnG X.prog X.w X.K X.mg X.base k f fd ps sp) (hr : Room k X.A) (hgd : X.A.guards = some []) (hx : PassX X W) (hg : Gl X x) (hm : X.mg x = some (.ref f)) (hk : PySem.W.keepIn X.K (.ref f) = true) (hb : KwB fd ps ks n pr)
    (ha : PA X (e :: es) t) (hkw : PK X kws tk) (hall : (backToKw pos (keywordEach kws X.env)).all (·.1.isSome) = true := by rfl) (hks : (backToKw pos (keywordEach kws X.env)).filterMap (·.1) = ks := by rfl) (hdb : (x == ("__debug__" : Str)) = false := by decide)
    (he : starEach (e :: es) X.env = (false, eval e X.env) :: starEach es X.env := by rfl)
    (hpl : ((backTo pos (starEach (e :: es) X.env)).any (·.1) || (backToKw pos (keywordEach kws X.env)).any (·.1.isNone)) = false := by rfl) : PE X (.Call (.Name x p) (e :: es) kws pos) (tCallGK sp W n ks.length pr t tk) := by
  refine ⟨fun pins s σ H Q I h => wpAny_Call_Name_kw (ld_glob I hg hm ?_ hdb)⟩
  refine PySem.W.callWith_KW (h₀ := X.base) I.ok.mod.kin hk hall (thn (ha.run pos pins s σ H _ I h)
    fun us s1 ⟨vs, H1, I1, r, q⟩ => thn (hkw.run pos pins s1 σ H1 _ I1 q) fun ws s2 ⟨zs, H2, I2, rz, l1, l2, q2⟩ => ⟨I2.kIn, ?_⟩) hpl he
  rw [hks]
  exact run_fnG F hr hgd hx (fun _ => hb s2 us ws (by rw [← r.length]; exact l1) (by rw [← rz.length]; exact l2)) I2 (Vals.prm (r.append rz) pr) q2
end

/-! ### .. on trees -/
def retX (e1 : Nv) (rs : List Rv) (ms : List Bool) (e2 : Nv) : Ret → Out Rv
  | .ok r ps => .ok (.tmp r) (bak e1 rs ms ps e2)
  | .exc x ps => .exc x (bak e1 rs ms ps e2)
  | .bad => .bad
def appX (F : Mir) (ms : List Bool) (rs : List Rv) : Xp := fun e1 => match pas rs ms e1 with
  | none => .bad
  | some p => retX e1 rs ms p.2 (F p.1)
def callX (F : Mir) (ms : List Bool) (fs : List Xp) : Xp := fun e => (evs sel fs e).bind fun rs e1 => appX F ms rs e1
def callK (F : Mir) (ms : List Bool) (pr : List Nat) (fs gs : List Xp) : Xp := fun e => (evs sel fs e).bind fun rs e1 => (evs sel gs e1).bind fun rs' e2 => appX F ms (prm pr (rs ++ rs')) e2
section
variable {K : PySem.W.Frag} {mg : Str → Option Value} {W : WX} {L : Nat → Option V} {σ : St} {e : Nv} {τ τ0 : List (V × Tr)} {H : Hp} {F : Mir} {ms : List Bool} {Q : VK}
theorem Atx.length : ∀ {rs : List Rv} {vs : List V}, Atx σ rs vs → rs.length = vs.length
  | [], [], _ => rfl
  | .tmp _ :: rs, _ :: vs, h => by simp [Atx.length (show Atx σ rs vs from h)]
  | .at _ :: rs, _ :: vs, h => by simp [Atx.length (show Atx σ rs vs from h.2)]
  | [], _ :: _, h => h.elim
  | .tmp _ :: _, [], h => h.elim
  | .at _ :: _, [], h => h.elim
theorem io_two (vs : List V) (ps : List Tr) (ρ : List (V × Tr)) (x : V × Tr) (π : List (V × Tr)) : (x :: (io ms vs ps ++ (τ ++ π))).Perm ((x :: (io ms vs ps ++ τ)) ++ π) := by
  rw [List.cons_append, List.append_assoc]
theorem app_ok {k : Rv → Nv → Prop} {rs : List Rv} {vs : List V} (R : Rel K L σ e (tms rs vs ++ τ) H) (hA : Atx σ rs vs) (hn : vs.length = ms.length) (q : Pst K mg W L σ τ (appX F ms rs e) k)
    (n : ∀ r e' v H', k r e' → pX σ τ r v ((v, match r with | .tmp t => t | .at _ => .leaf .none) :: τ) → Rel K L σ e' ((v, match r with | .tmp t => t | .at _ => .leaf .none) :: τ) H' → Q v H') : spM K mg ms F vs H Q fun cls d H' => W cls d σ H' := by
  unfold appX at q
  split at q
  · exact q.elim
  · rename_i p hp
    obtain ⟨ts, e1⟩ := p
    obtain ⟨h1, R1⟩ := pas_ok hA R hp
    refine ⟨hn, ts, τ ++ prs σ e1, h1, by rw [← List.append_assoc]; exact R1.st, ?_⟩
    cases hF : F ts with
    | ok r ps =>
      simp only [hF, retX] at q
      intro v H' st
      have Rv : Rel K L σ e1 (io ms vs ps ++ (v, r) :: τ) H' := ⟨R1.len, R1.ok, st.perm (by
        rw [List.append_assoc]
        exact List.perm_middle.symm)⟩
      have R2 := bak_ok R hA Rv
      exact n _ _ v H' q rfl R2
    | exc x ps =>
      simp only [hF, retX] at q
      intro cls d H' τ' hx st
      obtain ⟨C, g1, g2, g3⟩ := hx
      cases z : x.arg with
      | none =>
        simp only [z] at g3
        obtain ⟨g3, rfl⟩ := g3
        have Rv : Rel K L σ e1 (io ms vs ps ++ τ) H' := ⟨R1.len, R1.ok, by rw [List.append_assoc]; exact st⟩
        exact q cls d H' τ ⟨C, g1, g2, by simp only [z]; exact ⟨g3, trivial⟩⟩ (bak_ok R hA Rv)
      | some p =>
        obtain ⟨fn, zd⟩ := p
        simp only [z] at g3
        obtain ⟨dd, v, g3, g4, rfl⟩ := g3
        have Rv : Rel K L σ e1 (io ms vs ps ++ (v, .leaf zd) :: τ) H' := ⟨R1.len, R1.ok, st.perm (by
          rw [List.append_assoc]
          exact List.perm_middle.symm)⟩
        exact q cls d H' _ ⟨C, g1, g2, by simp only [z]; exact ⟨dd, v, g3, g4, rfl⟩⟩ (bak_ok R hA Rv)
    | bad =>
      simp only [hF, retX] at q
      exact q.elim
end
section
variable {X : Cx} {W : WX} {k : Nat} {f : Addr} {fd : FuncData} {ps ks : List Str} {x : Str} {p pos : Pos} {ex : Expr} {es : List Expr} {t tk : TA} {kws : List Keyword} {n : Nat} {pr : List Nat} {F : Mir} {ms : List Bool} {fs gs : List Xp} {fa : Xp}
abbrev FnM (X : Cx) (k : Nat) (f : Addr) (fd : FuncData) (ps : List Str) (ms : List Bool) (F : Mir) : Prop := FnG X.prog X.w X.K X.mg X.base k f fd ps (spM X.K X.mg ms F)
theorem se_call (FO : FnM X k f fd ps ms F) (hr : Room k X.A) (hgd : X.A.guards = some []) (hx : PassX X W) (hg : Gl X x) (hm : X.mg x = some (.ref f)) (hk : PySem.W.keepIn X.K (.ref f) = true) (hb : Binds X.K fd ps [])
    (ha : SAX X W (ex :: es) (fa :: fs)) (hn : (fa :: fs).length = ms.length := by rfl) (hdb : (x == ("__debug__" : Str)) = false := by decide) (he : starEach (ex :: es) X.env = (false, eval ex X.env) :: starEach es X.env := by rfl)
    (hpl : (backTo pos (starEach es X.env)).any (·.1) = false := by rfl) : SE X W (.Call (.Name x p) (ex :: es) [] pos) (callX F ms (fa :: fs)) := by
  refine PE.imp (pe_callG FO hr hgd hx hg hm hk hb ha hdb he hpl) fun σ H Q ⟨L, e, τ, R, q⟩ => ?_
  refine ⟨L, e, τ, R, (Pst.bind q).mono (.refl _) fun rs e1 q0 q1 vs H1 hA R1 => ?_⟩
  have hl := Atx.length hA
  have hl2 : rs.length = (fa :: fs).length := evs_length q0
  refine app_ok R1 hA (by omega) q1 fun r e' v H' kk hp R' => ?_
  cases r with
  | tmp t => exact kk v H' _ hp R'
  | «at» i => exact absurd hp.1 (by intro z; have := congrArg List.length z; simp at this)
theorem kX_cons {K : PySem.W.Frag} {mg : Str → Option Value} {W : WX} {fs : List Xp} {f : Xp} (σ : St) (H : Hp) (Q : List V → Hp → Prop) (h : tAX K mg W (f :: fs) σ H Q) : tCons (tR K mg W pX f) (tAX K mg W fs) σ H Q := aX_cons σ H Q h
abbrev SKX (X : Cx) (W : WX) (kws : List Keyword) (fs : List Xp) : Prop := PK X kws (tAX X.K X.mg W fs)
theorem PK.imp {X : Cx} {kws : List Keyword} {t t' : TA} (h : PK X kws t) (g : ∀ σ H Q, t' σ H Q → t σ H Q) : PK X kws t' := ⟨fun pos pins s σ H Q I q => h.run pos pins s σ H Q I (g σ H Q q)⟩
theorem kx_nil : SKX X W [] [] := PK.imp pk_nil aX_nil
theorem kx_cons {nm : Option Str} {kpos : Pos} (h : SE X W ex fa) (hr : SKX X W kws fs) : SKX X W (⟨nm, ex, kpos⟩ :: kws) (fa :: fs) := PK.imp (pk_cons h hr) aX_cons
theorem atx_iff {σ : St} : ∀ {rs : List Rv} {vs : List V}, Atx σ rs vs ↔ rs.length = vs.length ∧ ∀ p ∈ rs.zip vs, ∀ i, p.1 = .at i → σ[i]? = some (some p.2)
  | [], [] => by simp [Atx]
  | .tmp t :: rs, v :: vs => by
    have ih := atx_iff (σ := σ) (rs := rs) (vs := vs)
    simp only [Atx, ih, List.length_cons, List.zip_cons_cons, List.mem_cons, forall_eq_or_imp, Nat.add_right_cancel_iff]
    constructor
    · rintro ⟨h1, h2⟩
      exact ⟨h1, ⟨fun i z => by (cases z), h2⟩⟩
    · rintro ⟨h1, _, h2⟩
      exact ⟨h1, h2⟩
  | .at j :: rs, v :: vs => by
    have ih := atx_iff (σ := σ) (rs := rs) (vs := vs)
    simp only [Atx, ih, List.length_cons, List.zip_cons_cons, List.mem_cons, forall_eq_or_imp, Nat.add_right_cancel_iff]
    constructor
    · rintro ⟨h0, h1, h2⟩
      exact ⟨h1, fun i z => by (cases z; exact h0), h2⟩
    · rintro ⟨h1, h0, h2⟩
      exact ⟨h0 j rfl, h1, h2⟩
  | [], _ :: _ => by simp [Atx]
  | .tmp _ :: _, [] => by simp [Atx]
  | .at _ :: _, [] => by simp [Atx]
def tmg : Rv × V → Option (V × Tr)
  | (.tmp t, v) => some (v, t)
  | _ => none
theorem tms_eq : ∀ (rs : List Rv) (vs : List V), tms rs vs = (rs.zip vs).filterMap tmg
  | [], [] => rfl
  | [], _ :: _ => rfl
  | .tmp _ :: _, [] => rfl
  | .at _ :: _, [] => rfl
  | .tmp t :: rs, v :: vs => by
    rw [List.zip_cons_cons, List.filterMap_cons]
    show _ :: tms rs vs = _ :: _
    rw [tms_eq rs vs]
  | .at t :: rs, v :: vs => by
    rw [List.zip_cons_cons, List.filterMap_cons]
    show tms rs vs = _
    rw [tms_eq rs vs]
    rfl
theorem prm_range {α : Type} : ∀ (l : List α), prm (List.range l.length) l = l
  | [] => rfl
  | x :: l => by
    unfold prm
    rw [List.length_cons, List.range_succ_eq_map, List.filterMap_cons]
    simp only [List.getElem?_cons_zero, List.filterMap_map]
    show x :: _ = _
    congr 1
    exact (prm_range l)
theorem prm_perm {α : Type} {pr : List Nat} {l : List α} (h : pr.Perm (List.range l.length)) : (prm pr l).Perm l := by
  have := h.filterMap fun i => l[i]?
  have z := prm_range l
  unfold prm at z ⊢
  rw [z] at this
  exact this
theorem prm_zip {α β : Type} {l : List α} {m : List β} (h : l.length = m.length) : ∀ pr : List Nat, (prm pr l).zip (prm pr m) = prm pr (l.zip m)
  | [] => rfl
  | i :: pr => by
    have ih := prm_zip h pr
    unfold prm at ih ⊢
    rw [List.filterMap_cons, List.filterMap_cons, List.filterMap_cons]
    by_cases hi : i < l.length
    · rw [List.getElem?_eq_getElem hi, List.getElem?_eq_getElem (by omega : i < m.length), List.getElem?_eq_getElem (by rw [List.length_zip]; omega : i < (l.zip m).length), List.getElem_zip]
      simp only [List.zip_cons_cons, ih]
    · rw [List.getElem?_eq_none (by omega), List.getElem?_eq_none (by omega), List.getElem?_eq_none (by rw [List.length_zip]; omega)]
      exact ih
theorem atx_prm {σ : St} {rs : List Rv} {vs : List V} {pr : List Nat} (h : Atx σ rs vs) (hp : pr.Perm (List.range rs.length)) : Atx σ (prm pr rs) (prm pr vs) ∧ (tms (prm pr rs) (prm pr vs)).Perm (tms rs vs) := by
  obtain ⟨h1, h2⟩ := atx_iff.mp h
  have hz := prm_zip h1 pr
  have hlz : (rs.zip vs).length = rs.length := by rw [List.length_zip]; omega
  have pz : ((prm pr rs).zip (prm pr vs)).Perm (rs.zip vs) := by
    rw [hz]
    exact prm_perm (by rw [hlz]; exact hp)
  refine ⟨atx_iff.mpr ⟨?_, fun p hm => h2 p (pz.mem_iff.mp hm)⟩, ?_⟩
  · rw [(prm_perm hp).length_eq, (prm_perm (l := vs) (by rw [← h1]; exact hp)).length_eq]
    exact h1
  · rw [tms_eq, tms_eq]
    exact pz.filterMap _
theorem atx_append {σ : St} : ∀ {rs rs' : List Rv} {vs vs' : List V}, Atx σ rs vs → Atx σ rs' vs' → Atx σ (rs ++ rs') (vs ++ vs')
  | [], _, [], _, _, h => h
  | .tmp _ :: rs, rs', _ :: vs, vs', h, h' => (show Atx σ (rs ++ rs') (vs ++ vs') from atx_append (rs := rs) (vs := vs) h h')
  | .at _ :: rs, rs', _ :: vs, vs', h, h' => ⟨h.1, (show Atx σ (rs ++ rs') (vs ++ vs') from atx_append (rs := rs) (vs := vs) h.2 h')⟩
  | [], _, _ :: _, _, h, _ => h.elim
  | .tmp _ :: _, _, [], _, h, _ => h.elim
  | .at _ :: _, _, [], _, h, _ => h.elim
theorem tms_append {σ : St} : ∀ {rs rs' : List Rv} {vs vs' : List V}, Atx σ rs vs → tms (rs ++ rs') (vs ++ vs') = tms rs vs ++ tms rs' vs'
  | [], _, [], _, _ => rfl
  | .tmp t :: rs, _, v :: vs, _, h => by
    show (v, t) :: tms (rs ++ _) (vs ++ _) = (v, t) :: (tms rs vs ++ _)
    rw [tms_append (show Atx σ rs vs from h)]
  | .at _ :: rs, rs', _ :: vs, vs', h => (show tms (rs ++ rs') (vs ++ vs') = tms rs vs ++ tms rs' vs' from tms_append (σ := σ) (rs := rs) (vs := vs) h.2)
  | [], _, _ :: _, _, h => h.elim
  | .tmp _ :: _, _, [], _, h => h.elim
  | .at _ :: _, _, [], _, h => h.elim
theorem keyed {K : PySem.W.Frag} {mg : Str → Option Value} {m n : Nat} (hn : n + m = ms.length) (hp : pr.Perm (List.range (n + m))) {σ : St} {H : Hp} {Q : VK} {L : Nat → Option V} {e2 : Nv} {τ : List (V × Tr)} {rs rs' : List Rv} {vs zs : List V}
    (l1 : rs.length = n) (l2 : rs'.length = m) (hA : Atx σ rs vs) (hA' : Atx σ rs' zs) (R2 : Rel K L σ e2 (tms rs' zs ++ (tms rs vs ++ τ)) H)
    (q2 : Pst K mg W L σ τ (appX F ms (prm pr (rs ++ rs')) e2) fun a e' => ∀ v H' τ', pX σ τ a v τ' → Rel K L σ e' τ' H' → Q v H') :
    vs.length = n ∧ zs.length = m ∧ spM K mg ms F (prm pr (vs ++ zs)) H Q fun cls d H' => W cls d σ H' := by
  have a1 := Atx.length hA
  have a2 := Atx.length hA'
  have hA2 := atx_append hA hA'
  have hp2 : pr.Perm (List.range (rs ++ rs').length) := by rw [List.length_append, l1, l2]; exact hp
  obtain ⟨hA3, pt⟩ := atx_prm hA2 hp2
  refine ⟨by omega, by omega, app_ok (R2.perm ?_) hA3 ?_ q2 fun r e' v H' kk hp' R' => ?_⟩
  · rw [tms_append hA] at pt
    exact (show (tms rs' zs ++ (tms rs vs ++ τ)).Perm (tms rs vs ++ tms rs' zs ++ τ) by
      rw [List.append_assoc]
      exact List.perm_append_comm_assoc _ _ _).trans (pt.symm.append_right τ)
  · rw [(prm_perm (l := vs ++ zs) (by rw [List.length_append, ← a1, ← a2, l1, l2]; exact hp)).length_eq, List.length_append]
    omega
  · cases r with
    | tmp t => exact kk v H' _ hp' R'
    | «at» i => exact absurd hp'.1 (by intro z; have := congrArg List.length z; simp at this)
theorem se_callK0 (FO : FnM X k f fd ps ms F) (hr : Room k X.A) (hgd : X.A.guards = some []) (hx : PassX X W) (hg : Gl X x) (hm : X.mg x = some (.ref f)) (hk : PySem.W.keepIn X.K (.ref f) = true) (hb : KwB fd ps ks 0 pr)
    (hkw : SKX X W kws gs) (hp : pr.Perm (List.range (0 + ks.length)) := by decide) (hn : 0 + ks.length = ms.length := by rfl) (hg2 : gs.length = ks.length := by rfl)
    (hall : (backToKw pos (keywordEach kws X.env)).all (·.1.isSome) = true := by rfl) (hks : (backToKw pos (keywordEach kws X.env)).filterMap (·.1) = ks := by rfl) (hdb : (x == ("__debug__" : Str)) = false := by decide)
    (hpl : ((backTo pos (starEach [] X.env)).any (·.1) || (backToKw pos (keywordEach kws X.env)).any (·.1.isNone)) = false := by rfl) : SE X W (.Call (.Name x p) [] kws pos) (callK F ms pr [] gs) := by
  refine PE.imp (pe_callGK0 FO hr hgd hx hg hm hk hb hkw hall hks hdb hpl) fun σ H Q ⟨L, e, τ, R, q⟩ => ?_
  have q : Pst X.K X.mg W L σ τ ((evs sel gs e).bind fun rs' e2 => appX F ms (prm pr ([] ++ rs')) e2) _ := q
  refine ⟨L, e, τ, R, (Pst.bind q).mono (.refl _) fun rs' e1 q0 q1 zs H1 hA R1 => ?_⟩
  exact keyed (rs := []) (vs := []) hn hp rfl ((evs_length q0).trans hg2) trivial hA R1 q1
theorem se_callK (FO : FnM X k f fd ps ms F) (hr : Room k X.A) (hgd : X.A.guards = some []) (hx : PassX X W) (hg : Gl X x) (hm : X.mg x = some (.ref f)) (hk : PySem.W.keepIn X.K (.ref f) = true) (hb : KwB fd ps ks n pr)
    (ha : SAX X W (ex :: es) (fa :: fs)) (hkw : SKX X W kws gs) (hp : pr.Perm (List.range (n + ks.length)) := by decide) (hn : n + ks.length = ms.length := by rfl) (hf2 : (fa :: fs).length = n := by rfl) (hg2 : gs.length = ks.length := by rfl)
    (hall : (backToKw pos (keywordEach kws X.env)).all (·.1.isSome) = true := by rfl) (hks : (backToKw pos (keywordEach kws X.env)).filterMap (·.1) = ks := by rfl) (hdb : (x == ("__debug__" : Str)) = false := by decide)
    (he : starEach (ex :: es) X.env = (false, eval ex X.env) :: starEach es X.env := by rfl)
    (hpl : ((backTo pos (starEach (ex :: es) X.env)).any (·.1) || (backToKw pos (keywordEach kws X.env)).any (·.1.isNone)) = false := by rfl) : SE X W (.Call (.Name x p) (ex :: es) kws pos) (callK F ms pr (fa :: fs) gs) := by
  refine PE.imp (pe_callGK FO hr hgd hx hg hm hk hb ha hkw hall hks hdb he hpl) fun σ H Q ⟨L, e, τ, R, q⟩ => ?_
  refine ⟨L, e, τ, R, (Pst.bind q).mono (.refl _) fun rs e1 q0 q1 vs H1 hA R1 => ?_⟩
  refine ⟨L, e1, _, R1, (Pst.bind q1).mono (List.sublist_append_right _ _) fun rs' e2 q2 q3 zs H2 hA2 R2 => ?_⟩
  exact keyed hn hp ((evs_length q0).trans hf2) ((evs_length q2).trans hg2) hA hA2 R2 q3
end
end Vs

set_option Elab.async false
set_option linter.all false
set_option maxRecDepth 100000
set_option maxHeartbeats 1000000
/-! Vs11: statements. -/
namespace Vs
open PySem PySem.Spec L2
open PyProof.Rows hiding St

inductive Fl where
  | nx
  | bk
  | ct
  | rt (t : Tr)
abbrev Sm := Nv → Out Fl
/-- what is wanted behind -/
def Fin (K : PySem.W.Frag) (mg : Str → Option Value) (W : WX) (L : Nat → Option V) (n : Nat) (τ : List (V × Tr)) (D : Ends) (o : Out Fl) : Prop :=
  match o with
  | .ok .nx e' => ∀ σ' H', σ'.length = n → Rel K L σ' e' τ H' → D.nx σ' H'
  | .ok .bk e' => ∀ σ' H', σ'.length = n → Rel K L σ' e' τ H' → D.bk σ' H'
  | .ok .ct e' => ∀ σ' H', σ'.length = n → Rel K L σ' e' τ H' → D.ct σ' H'
  | .ok (.rt t) e' => ∀ v σ' H', σ'.length = n → Rel K L σ' e' ((v, t) :: τ) H' → D.rt v H'
  | .exc x e' => ∀ cls d σ' H' τ', σ'.length = n → XRep mg x cls d H' τ τ' → Rel K L σ' e' τ' H' → W cls d σ' H'
  | .bad => False
def tSt (K : PySem.W.Frag) (mg : Str → Option Value) (W : WX) (f : Sm) : TS := fun D σ H => ∃ (L : Nat → Option V) (e : Nv) (τ : List (V × Tr)), Rel K L σ e τ H ∧ Fin K mg W L σ.length τ D (f e)
abbrev SS (X : Cx) (W : WX) (st : Stmt) (f : Sm) : Prop := PS X st (tSt X.K X.mg W f)
abbrev SSs (X : Cx) (W : WX) (st : List Stmt) (f : Sm) : Prop := PSs X st (tSt X.K X.mg W f)
theorem PS.imp {X : Cx} {st : Stmt} {t t' : TS} (h : PS X st t) (g : ∀ D σ H, t' D σ H → t D σ H) : PS X st t' := ⟨fun pins s σ H D I q => h.run pins s σ H D I (g D σ H q)⟩
theorem PSs.imp {X : Cx} {st : List Stmt} {t t' : TS} (h : PSs X st t) (g : ∀ D σ H, t' D σ H → t D σ H) : PSs X st t' := ⟨fun pins s σ H D I q => h.run pins s σ H D I (g D σ H q)⟩
section
variable {K : PySem.W.Frag} {mg : Str → Option Value} {W : WX} {L : Nat → Option V} {σ : St} {e : Nv} {τ τ' : List (V × Tr)} {H : Hp} {n : Nat} {D D' : Ends} {α : Type}
theorem XRep.more {x : Exn} {cls : Value} {d : Option Addr} {H : Hp} {τ1 τ' : List (V × Tr)} (hx : XRep mg x cls d H τ' τ1) (s : τ.Sublist τ') : ∃ τ2, XRep mg x cls d H τ τ2 ∧ τ2.Sublist τ1 := by
  obtain ⟨C, h1, h2, h3⟩ := hx
  cases q : x.arg with
  | none =>
    rw [q] at h3
    obtain ⟨h3, h4⟩ := h3
    exact ⟨τ, ⟨C, h1, h2, by rw [q]; exact ⟨h3, rfl⟩⟩, by rw [h4]; exact s⟩
  | some p =>
    obtain ⟨f, z⟩ := p
    rw [q] at h3
    obtain ⟨dd, v, h3, h4, h5⟩ := h3
    exact ⟨(v, .leaf z) :: τ, ⟨C, h1, h2, by rw [q]; exact ⟨dd, v, h3, h4, rfl⟩⟩, by rw [h5]; exact s.cons_cons _⟩
/-- more is held -/
theorem Fin.subl {o : Out Fl} (h : Fin K mg W L n τ D o) (s : τ.Sublist τ') : Fin K mg W L n τ' D o := by
  cases o with
  | ok f e =>
    cases f with
    | nx => exact fun σ' H' hl R => h σ' H' hl (R.subl s)
    | bk => exact fun σ' H' hl R => h σ' H' hl (R.subl s)
    | ct => exact fun σ' H' hl R => h σ' H' hl (R.subl s)
    | rt t => exact fun v σ' H' hl R => h v σ' H' hl (R.subl (s.cons_cons _))
  | exc x e =>
    intro cls d σ' H' τ1 hl hx R
    obtain ⟨τ2, hx2, s2⟩ := hx.more s
    exact h cls d σ' H' τ2 hl hx2 (R.subl s2)
  | bad => exact h
theorem Fin.pst {o : Out α} {f : α → Nv → Out Fl} (hn : σ.length = n) (h : Fin K mg W L n τ D (o.bind f)) : Pst K mg W L σ τ o (fun a e' => Fin K mg W L n τ D (f a e')) := by
  cases o with
  | ok a e => exact h
  | exc x e => exact fun cls d H τ' hx R => h cls d σ H τ' hn hx R
  | bad => exact h
theorem Fin.ends {o : Out Fl} (h : Fin K mg W L n τ D o) (h1 : ∀ σ H, D.nx σ H → D'.nx σ H) (h2 : ∀ σ H, D.bk σ H → D'.bk σ H) (h3 : ∀ σ H, D.ct σ H → D'.ct σ H) (h4 : ∀ v H, D.rt v H → D'.rt v H) : Fin K mg W L n τ D' o := by
  cases o with
  | ok f e =>
    cases f with
    | nx => exact fun σ' H' hl R => h1 _ _ (h σ' H' hl R)
    | bk => exact fun σ' H' hl R => h2 _ _ (h σ' H' hl R)
    | ct => exact fun σ' H' hl R => h3 _ _ (h σ' H' hl R)
    | rt t => exact fun v σ' H' hl R => h4 _ _ (h v σ' H' hl R)
  | exc x e => exact h
  | bad => exact h
/-- an expression first -/
theorem st_fst {p : PstV α} {f : Nv → Out α} {g : α → Nv → Out Fl} {Q : VK} (R : Rel K L σ e τ H) (h : Fin K mg W L σ.length τ D ((f e).bind g))
    (k : ∀ a e1 v H1 τ1, f e = .ok a e1 → Fin K mg W L σ.length τ D (g a e1) → p σ τ a v τ1 → Rel K L σ e1 τ1 H1 → Q v H1) : tR K mg W p f σ H Q :=
  ⟨L, e, τ, R, (Fin.pst rfl h).mono (.refl _) fun a e1 q hk v H1 τ1 hp R1 => k a e1 v H1 τ1 q hk hp R1⟩
end

/-! ### one after another -/
def nxS : Sm := fun e => .ok .nx e
def bkS : Sm := fun e => .ok .bk e
def ctS : Sm := fun e => .ok .ct e
def seqS (f g : Sm) : Sm := fun e => (f e).bind fun fl e1 => match fl with
  | .nx => g e1
  | fl => .ok fl e1
section
variable {X : Cx} {W : WX} {st : Stmt} {sts : List Stmt} {f g : Sm} {pos : Pos}
theorem ss_nil : SSs X W [] nxS := PSs.imp pss_nil fun D σ H ⟨L, e, τ, R, q⟩ => q σ H rfl R
theorem seq_reads {K : PySem.W.Frag} {mg : Str → Option Value} (D : Ends) (σ : St) (H : Hp) (h : tSt K mg W (seqS f g) D σ H) : tSeq (tSt K mg W f) (tSt K mg W g) D σ H := by
  obtain ⟨L, e, τ, R, q⟩ := h
  refine ⟨L, e, τ, R, ?_⟩
  unfold seqS at q
  cases hf : f e with
  | ok fl e1 =>
    rw [hf] at q
    cases fl with
    | nx => exact fun σ' H' hl R' => ⟨L, e1, τ, R', by rw [hl]; exact q⟩
    | bk => exact q
    | ct => exact q
    | rt t => exact q
  | exc x e1 => rw [hf] at q; exact q
  | bad => rw [hf] at q; exact q
theorem ss_cons (h1 : SS X W st f) (h2 : SSs X W sts g) : SSs X W (st :: sts) (seqS f g) := PSs.imp (pss_cons h1 h2) seq_reads
theorem ss_break : SS X W (.Break pos) bkS := PS.imp ps_break fun D σ H ⟨L, e, τ, R, q⟩ => q σ H rfl R
theorem ss_cont : SS X W (.Continue pos) ctS := PS.imp ps_continue fun D σ H ⟨L, e, τ, R, q⟩ => q σ H rfl R
theorem ss_pass : SS X W (.Pass pos) nxS := PS.imp ps_pass fun D σ H ⟨L, e, τ, R, q⟩ => q σ H rfl R
theorem ss_doc {x j pos'} : SS X W (.Expr (.Constant (.str x) j pos) pos') nxS := PS.imp ps_doc fun D σ H ⟨L, e, τ, R, q⟩ => q σ H rfl R
/-- an expression for what it does -/
def exS (f : Xp) : Sm := fun e => (f e).bind fun _ e1 => .ok .nx e1
theorem ss_expr {ex : Expr} {fx : Xp} (h : SE X W ex fx) (hs : swapsWith ex none pos.line X.env = pure false := by rfl) : SS X W (.Expr ex pos) (exS fx) := by
  refine PS.imp (ps_expr h hs) fun D σ H ⟨L, e, τ, R, q⟩ => ?_
  refine st_fst R q fun r e1 v H1 τ1 _ q1 p1 R1 => q1 σ H1 rfl ?_
  exact R1.subl p1.hd.2
/-- return -/
def mv (r : Rv) (e : Nv) : Out Tr :=
  match r with
  | .tmp t => .ok t e
  | .at i => (match e[i]? with
    | some (some (t, false)) => .ok t (e.set i none)
    | some (some (t, true)) => .ok (.leaf t.view) (e.set i (some (.leaf t.view, true)))
    | _ => .bad)
def rtS (f : Xp) : Sm := fun e => (f e).bind fun r e1 => (mv r e1).bind fun t e2 => .ok (.rt t) e2
theorem ss_ret {ex : Expr} {fx : Xp} (h : SE X W ex fx) : SS X W (.Return (some ex) pos) (rtS fx) := by
  refine PS.imp (ps_ret h) fun D σ H ⟨L, e, τ, R, q⟩ => ?_
  refine st_fst (g := fun r e1 => (mv r e1).bind fun t e2 => .ok (.rt t) e2) R q fun r e1 v H1 τ1 _ q1 p1 R1 => ?_
  cases r with
  | tmp t =>
    have p1 : τ1 = (v, t) :: τ := p1
    subst p1
    exact q1 v σ H1 rfl R1
  | «at» i =>
    obtain ⟨p1, p2⟩ := p1
    subst p1
    unfold mv at q1
    dsimp only at q1
    split at q1
    · rename_i t he
      obtain ⟨w, h1, h2, R2⟩ := R1.take he
      rw [p2] at h1
      cases h1
      exact q1 v σ H1 rfl R2
    · rename_i t he
      obtain ⟨w, h1, h2, R2⟩ := R1.take he
      rw [p2] at h1
      cases h1
      refine q1 v σ H1 rfl ?_
      have R3 : Rel X.K L σ (e1.set i none) ((v, .leaf t.view) :: (v, .leaf t.view) :: τ1) H1 := R2.map fun s => s.freeze.dup
      have R4 := R3.put (i := i) p2 h2 (by rw [List.getElem?_set_self (lt_of_at he)])
      rw [set_set'] at R4
      exact R4
    · exact q1.elim
def rnS : Sm := fun e => .ok (.rt (.leaf .none)) e
theorem ss_retN : SS X W (.Return none pos) rnS := PS.imp ps_retN fun D σ H ⟨L, e, τ, R, q⟩ => q V.non σ H rfl (R.atom fun _ => .non)
/-- if -/
def ifS (c : Tt) (f g : Sm) : Sm := fun e => (c e).bind fun b e1 => if b = true then f e1 else g e1
theorem ss_if {c : Expr} {a b : List Stmt} {tc : Tt} (hc : STt X W c tc) (ha : SSs X W a f) (hb : SSs X W b g) : SS X W (.If c a b pos) (ifS tc f g) := by
  refine PS.imp (ps_if hc ha hb) fun D σ H ⟨L, e, τ, R, q⟩ => ?_
  refine ⟨L, e, τ, R, (Fin.pst rfl q).mono (.refl _) fun b e1 _ q1 H1 R1 => ?_⟩
  by_cases hb : b = true
  · rw [if_pos hb] at q1 ⊢
    exact ⟨L, e1, τ, R1, q1⟩
  · rw [if_neg hb] at q1 ⊢
    exact ⟨L, e1, τ, R1, q1⟩
/-- while, so many turns at most -/
def whS (c : Tt) (f : Sm) : Nat → Sm
  | 0, _ => .bad
  | n + 1, e => (c e).bind fun b e1 => if b = true then (f e1).bind fun fl e2 => match fl with
    | .nx => whS c f n e2
    | .ct => whS c f n e2
    | .bk => .ok .nx e2
    | .rt t => .ok (.rt t) e2 else .ok .nx e1
theorem ss_while {c : Expr} {a : List Stmt} {tc : Tt} {n : Nat} (hp : PassesOwn (model X.prog X.w) X.A X.env X.xe) (hc : STt X W c tc) (ha : SSs X W a f) : SS X W (.While c a [] pos) (whS tc f n) := by
  refine PS.imp (ps_while hp hc ha) fun D σ H ⟨L, e, τ, R, q⟩ => ?_
  refine ⟨fun m σ' H' => ∃ e', σ'.length = σ.length ∧ Rel X.K L σ' e' τ H' ∧ Fin X.K X.mg W L σ.length τ D (whS tc f m e'), ⟨n, e, rfl, R, q⟩, fun m σ1 H1 ⟨e1, hl, R1, q1⟩ => ?_⟩
  cases m with
  | zero => exact q1.elim
  | succ m =>
    rw [← hl] at q1
    refine ⟨L, e1, τ, R1, (Fin.pst rfl q1).mono (.refl _) fun b e2 _ q2 H2 R2 => ?_⟩
    by_cases hb : b = true
    · rw [if_pos hb] at q2 ⊢
      refine ⟨fun σ' H' => ∃ e', σ'.length = σ.length ∧ Rel X.K L σ' e' τ H' ∧ Fin X.K X.mg W L σ.length τ D (whS tc f m e'), fun σ' H' h => ⟨m, Nat.lt_succ_self m, h⟩, L, e2, τ, R2, ?_⟩
      cases hf : f e2 with
      | ok fl e3 =>
        rw [hf] at q2
        cases fl with
        | nx => exact fun σ' H' hl' R' => ⟨e3, hl'.trans hl, R', by rw [← hl]; exact q2⟩
        | ct => exact fun σ' H' hl' R' => ⟨e3, hl'.trans hl, R', by rw [← hl]; exact q2⟩
        | bk => exact q2
        | rt t => exact q2
      | exc x e3 => rw [hf] at q2; exact q2
      | bad => rw [hf] at q2; exact q2
    · rw [if_neg hb] at q2 ⊢
      exact q2 σ1 H2 rfl R2
/-- try, where the body raises nothing -/
def nox {α : Type} : Out α → Out α
  | .exc _ _ => .bad
  | o => o
def tryS (f : Sm) : Sm := fun e => nox (f e)
theorem ss_try {body : List Stmt} {h : ExceptHandler} {hs : List ExceptHandler} (hb : SSs X.nox W0 body f) : SS X W (.Try body (h :: hs) [] [] pos) (tryS f) := by
  refine PS.imp (ps_try_thru0 hb) fun D σ H ⟨L, e, τ, R, q⟩ => ?_
  refine ⟨L, e, τ, R, ?_⟩
  unfold tryS at q
  cases hf : f e with
  | ok fl e1 => rw [hf] at q; cases fl <;> exact q
  | exc x e1 => rw [hf] at q; exact q.elim
  | bad => rw [hf] at q; exact q
end

/-! ### names -/
def asS (i : Nat) (f : Xp) : Sm := fun e => (ow f e).bind fun t e1 => if i < e1.length then .ok .nx (e1.set i (some (t, false))) else .bad
section
variable {X : Cx} {W : WX} {i j : Nat} {x y : Str} {ex a b : Expr} {f : Xp} {fs : List Xp} {pos pos' px py pt pt2 : Pos} {kt k2 : Nat}
theorem ss_set (hN : X.N.Nodup) (hi : X.N[i]? = some x) (hx : Loc X.env.scope x) (h : SE X W ex f) (hs : swapsWith ex (some (.Name x pos')) pos.line X.env = pure false := by rfl)
    (hf : X.fn x = true ∨ X.env.scope.names.lookup x = some .local := by first | exact .inl rfl | exact .inr rfl | assumption) : SS X W (.Assign [.Name x pos'] ex pos) (asS i f) := by
  refine PS.imp (ps_set hN hi hx (SE.own h) hs hf) fun D σ H ⟨L, e, τ, R, q⟩ => ?_
  refine st_fst (g := fun t e1 => if i < e1.length then Out.ok .nx (e1.set i (some (t, false))) else .bad) R q fun t e1 v H1 τ1 _ q1 p1 R1 => ?_
  have p1 : τ1 = (v, t) :: τ := p1
  subst p1
  split at q1
  · rename_i hl
    rw [R1.len] at hl
    exact q1 _ H1 (by rw [List.length_set]) (R1.store hl)
  · exact q1.elim
/-- a, b = x, y -/
def stoL : List Nat → List Tr → Nv → Option Nv
  | [], [], e => some e
  | i :: is, t :: ts, e => if i < e.length then stoL is ts (e.set i (some (t, false))) else none
  | _, _, _ => none
def parS (is : List Nat) (fs : List Xp) : Sm := fun e => (evs ow fs e).bind fun ts e1 => match stoL is ts e1 with
  | some e2 => .ok .nx e2
  | none => .bad
def setL (σ : St) : List Nat → List V → St
  | i :: is, v :: vs => setL (σ.set i (some v)) is vs
  | _, _ => σ
theorem setL_length : ∀ (is : List Nat) (vs : List V) (σ : St), (setL σ is vs).length = σ.length
  | [], _, _ => rfl
  | _ :: _, [], _ => rfl
  | i :: is, v :: vs, σ => by
    show (setL (σ.set i (some v)) is vs).length = _
    rw [setL_length is vs, List.length_set]
theorem stoL_ok {K : PySem.W.Frag} {L : Nat → Option V} {τ : List (V × Tr)} {H : Hp} : ∀ {is : List Nat} {ts : List Tr} {vs : List V} {e e' : Nv} {σ : St}, stoL is ts e = some e' → vs.length = ts.length → Rel K L σ e (vs.zip ts ++ τ) H → Rel K L (setL σ is vs) e' τ H
  | [], [], [], e, e', σ, h, _, R => by
    cases h
    exact R
  | i :: is, t :: ts, v :: vs, e, e', σ, h, hl, R => by
    unfold stoL at h
    split at h
    · rename_i hi
      rw [R.len] at hi
      exact (show Rel K L (setL (σ.set i (some v)) is vs) e' τ H from stoL_ok (is := is) (ts := ts) (vs := vs) h (by simpa using hl) (Rel.store R hi))
    · cases h
  | [], [], _ :: _, _, _, _, _, hl, _ => by simp at hl
  | _ :: _, _ :: _, [], _, _, _, _, hl, _ => by simp at hl
  | [], _ :: _, _, _, _, _, h, _, _ => by simp [stoL] at h
  | _ :: _, [], _, _, _, _, h, _, _ => by simp [stoL] at h
theorem par_ok {K : PySem.W.Frag} {mg : Str → Option Value} {is : List Nat} {D : Ends} {σ : St} {H : Hp} {Q : List V → Hp → Prop} (h : tSt K mg W (parS is fs) D σ H) (n : ∀ vs H', vs.length = is.length → D.nx (setL σ is vs) H' → Q vs H') : tAO K mg W fs σ H Q := by
  obtain ⟨L, e, τ, R, q⟩ := h
  refine ⟨L, e, τ, R, (Fin.pst rfl q).mono (.refl _) fun ts e1 _ q1 vs H1 hl R1 => ?_⟩
  split at q1
  · rename_i e2 he
    refine n vs H1 ?_ (q1 _ H1 (setL_length is vs σ) (stoL_ok he hl R1))
    have : ∀ (is : List Nat) (ts : List Tr) (e e2 : Nv), stoL is ts e = some e2 → ts.length = is.length := by
      intro is
      induction is with
      | nil => intro ts e e2 h; cases ts with
        | nil => rfl
        | cons t ts => simp [stoL] at h
      | cons i is ih => intro ts e e2 h; cases ts with
        | nil => simp [stoL] at h
        | cons t ts =>
          unfold stoL at h
          split at h
          · simp [ih ts _ _ h]
          · cases h
    rw [hl]
    exact this _ _ _ _ he
  · exact q1.elim
theorem ss_par2 (hc : X.calm = true) (hN : X.N.Nodup) (hi : X.N[i]? = some x) (hj : X.N[j]? = some y) (hij : i ≠ j) (hx : X.env.scope.names.lookup x = some .local) (hy : X.env.scope.names.lookup y = some .local) (ha : SAO X W [a, b] fs)
    (hw : swappedStores [.Tuple [.Name x px, .Name y py] kt pt] (.Tuple [a, b] k2 pt2) X.env = pure (some [x, y]))
    (hs : swapsWithSole [.Tuple [.Name x px, .Name y py] kt pt] (.Tuple [a, b] k2 pt2) pos.line X.env = pure false := by rfl) :
    SS X W (.Assign [.Tuple [.Name x px, .Name y py] kt pt] (.Tuple [a, b] k2 pt2) pos) (parS [i, j] fs) := by
  refine PS.imp (ps_par hc hN hi hj hij hx hy ha hw hs) fun D σ H h => par_ok h fun vs H' hl q => ?_
  match vs, hl with
  | [v, w], _ => exact ⟨v, w, rfl, q⟩
theorem ss_par3 {l : Nat} {z : Str} {c : Expr} {pz : Pos} (hc : X.calm = true) (hN : X.N.Nodup) (hi : X.N[i]? = some x) (hj : X.N[j]? = some y) (hl : X.N[l]? = some z) (hij : i ≠ j) (hil : i ≠ l) (hjl : j ≠ l) (hx : X.env.scope.names.lookup x = some .local) (hy : X.env.scope.names.lookup y = some .local) (hz : X.env.scope.names.lookup z = some .local)
    (ha : SAO X W [a, b, c] fs) (hw : swappedStores [.Tuple [.Name x px, .Name y py, .Name z pz] kt pt] (.Tuple [a, b, c] k2 pt2) X.env = pure (some [x, y, z]))
    (hs : swapsWithSole [.Tuple [.Name x px, .Name y py, .Name z pz] kt pt] (.Tuple [a, b, c] k2 pt2) pos.line X.env = pure false := by rfl) :
    SS X W (.Assign [.Tuple [.Name x px, .Name y py, .Name z pz] kt pt] (.Tuple [a, b, c] k2 pt2) pos) (parS [i, j, l] fs) := by
  refine PS.imp (ps_par3 hc hN hi hj hl hij hil hjl hx hy hz ha hw hs) fun D σ H h => par_ok h fun vs H' hl q => ?_
  match vs, hl with
  | [u, v, w], _ => exact ⟨u, v, w, rfl, q⟩
end
end Vs

set_option Elab.async false
set_option linter.all false
set_option maxRecDepth 100000
set_option maxHeartbeats 2000000
/-! Vs12: enumerate over a tuple or a list, from any number. -/
namespace Vs
open PySem PySem.Spec L2
open PyProof.Rows hiding St

/-- a tuple (true) or a list -/
def SQ (K : PySem.W.Frag) (k : Bool) (H : Hp) (a : Addr) (xs : List V) : Prop := if k = true then SqT K H a xs else SqL K H a xs
def IAt (k : Bool) (h : Heap) (it a : Addr) (i : Nat) : Prop := if k = true then h.IsTupleIter it a i else h.IsListIter it a i
def LAt (k : Bool) (h : Heap) (a : Addr) (its : Array Value) : Prop := if k = true then h.IsTuple a its else h.IsList a its
def ItN (K : PySem.W.Frag) (k : Bool) (c : Int) (a : Addr) : It :=
  ⟨fun i H => ∃ (xs : List V) (x : V), SQ K k H a xs ∧ xs[i]? = some x,
   fun i H v H' => ∃ T x, v = .ref T ∧ H T = none ∧ H' = upd H T (.tup [.int (c + (i : Nat)), x]) ∧ ∀ xs, SQ K k H a xs → xs[i]? = some x,
   fun i H => ∃ xs : List V, SQ K k H a xs ∧ xs.length = i⟩
section
variable {X : Cx} {pins : List (Addr × Obj)} {σ : St} {H : Hp} {s : Shared} {a : Addr} {xs ys : List V} {k : Bool}
theorem sq_at (I : Inv X pins σ H s) (h : SQ X.K k H a xs) : ∃ its : List Value, Vals xs its ∧ LAt k s.heap a its.toArray := by
  cases k with
  | true =>
    obtain ⟨its, h1, h2, _⟩ := I.tuple (show SqT X.K H a xs from h)
    exact ⟨its, h1, h2⟩
  | false =>
    obtain ⟨its, h1, h2, _⟩ := I.list (show SqL X.K H a xs from h)
    exact ⟨its, h1, h2.isList⟩
theorem sq_inj (I : Inv X pins σ H s) (h : SQ X.K k H a xs) (h' : SQ X.K k H a ys) : xs = ys := by
  cases k with
  | true => exact I.tuple_inj (show SqT X.K H a xs from h) h'
  | false => exact I.list_inj (show SqL X.K H a xs from h) h'
end
theorem lat_ne {k : Bool} {h : Heap} {a it e : Addr} {i : Nat} {its : Array Value} (h1 : LAt k h a its) (h2 : IAt k h it a i) : a ≠ it := by
  rintro rfl
  cases k with
  | true =>
    obtain ⟨o, q, c, _⟩ := (show h.IsTuple a its from h1)
    obtain ⟨o', q', c', _⟩ := (show h.IsTupleIter a a i from h2)
    rw [q] at q'
    cases q'
    rw [c] at c'
    exact absurd c' (by decide)
  | false =>
    obtain ⟨o, q, c, _⟩ := (show h.IsList a its from h1)
    obtain ⟨o', q', c', _⟩ := (show h.IsListIter a a i from h2)
    rw [q] at q'
    cases q'
    rw [c] at c'
    exact absurd c' (by decide)
theorem lat_enum {k : Bool} {h : Heap} {a it e : Addr} {c : Int} {old : Value} {its : Array Value} (h1 : LAt k h a its) (h2 : IsEnum h e it c old) : e ≠ a := by
  rintro rfl
  have h2 : h.get? e = some _ := h2
  cases k with
  | true =>
    obtain ⟨o, q, c, _⟩ := (show h.IsTuple e its from h1)
    rw [h2] at q
    cases q
    exact absurd (Value.type.inj c) (by decide)
  | false =>
    obtain ⟨o, q, c, _⟩ := (show h.IsList e its from h1)
    rw [h2] at q
    cases q
    exact absurd (Value.type.inj c) (by decide)
theorem draw_of {prog : Program} {w : World} {A : Around} (hh : A.handled = none) (k : Bool) (it l : Addr) (hne : l ≠ it) (items : Array Value) :
    Draws prog w A it [it, l] items.size (fun i v => items[i]? = some v) (fun i h => IAt k h it l i ∧ LAt k h l items) := by
  cases k with
  | true => exact Draws.tuple hh it l hne items
  | false => exact Draws.list hh it l hne items
theorem turn_enumN {P : Program} {w : World} {K : PySem.W.Frag} {elts : List Expr} {kk : Nat} {tpos : Pos} (k : Bool) (c : Int) (a e it : Addr) :
    Turn P w K (.Tuple elts kk tpos) (ItN K k c a) [e, it] e (fun i h => (∃ old, IsEnum h e it (c + (i : Nat)) old) ∧ IAt k h it a i ∧ e ≠ it) where
  mem := by simp
  obj := fun i h st b hb => by
    obtain ⟨⟨old, he⟩, hi, _⟩ := st
    have e' : b = e ∨ b = it := by simpa using hb
    rcases e' with z | z
    · rw [z]
      exact ⟨_, he, fun v q => nomatch q⟩
    · rw [z]
      cases k with
      | true =>
        obtain ⟨o, ho, hc, hd⟩ := (show h.IsTupleIter it a i from hi)
        exact ⟨o, ho, fun v q => by rw [hd] at q; cases q⟩
      | false =>
        obtain ⟨o, ho, hc, hd⟩ := (show h.IsListIter it a i from hi)
        exact ⟨o, ho, fun v q => by rw [hd] at q; cases q⟩
  keep := fun i h h' st kp => by
    obtain ⟨⟨old, he⟩, hi, hne⟩ := st
    refine ⟨⟨old, kp e (by simp) _ he⟩, ?_, hne⟩
    cases k with
    | true => exact (show h.IsTupleIter it a i from hi).at fun o q => kp it (by simp) o q
    | false => exact (show h.IsListIter it a i from hi).at fun o q => kp it (by simp) o q
  item := by
    intro X hP hw hK hc i pins s σ H E I hf st hg
    subst hP hw hK
    obtain ⟨⟨old, he⟩, hit, hne⟩ := st
    obtain ⟨xs, x, hq, hx⟩ := hg
    obtain ⟨its, rv, p⟩ := sq_at I hq
    obtain ⟨u, hu, ru⟩ := rv.get hx
    have D := draw_of (prog := X.prog) (w := X.w) (A := X.A.in1) (I.ok.hd hc) k it a (lat_ne (e := e) p hit) its.toArray
    have hel : e < s.heap.objs.size := Heap.lt_size he
    have hil : it < s.heap.objs.size := by
      obtain ⟨_, q⟩ := D.live i s.heap ⟨hit, p⟩
      exact Heap.lt_size q
    have hlt : i < its.toArray.size := by
      have := lt_of_at hu
      simpa using this
    refine wpAny_pyNext_enum_itemC D he ⟨hit, p⟩ hlt hne (by simp [hne, lat_enum p he]) fun y h' tk hP ho hst hT hsz hkp => ?_
    have hy : y = u := by
      have hP : its[i]? = some y := by simpa using hP
      rw [hu] at hP
      cases hP
      rfl
    subst hy
    refine ⟨_, rfl, wpAny_letOwnedTupleGo_enum (s := { s with heap := h', toks := tk + 1 }) ho fun h'' he' sb => ?_⟩
    have hT2 : h''.get? s.heap.objs.size = some { cls := .type "tuple", data := .seq #[.int (c + (i : Nat)) tk, y] } := (sb.2 _ (Nat.ne_of_gt hel)).trans hT
    have new : ObjOk X.prog X.w (upd H s.heap.objs.size (.tup [.int (c + (i : Nat)), x])) h'' s.heap.objs.size (.tup [.int (c + (i : Nat)), x]) :=
      ⟨by show 2 ≤ sizeLine; decide, [.int (c + (i : Nat)) tk, y], .cons ⟨_, rfl⟩ (.cons ru .nil), ⟨_, hT2, rfl, _, rfl⟩⟩
    have I1 : Inv X pins σ (upd H s.heap.objs.size (.tup [.int (c + (i : Nat)), x])) { s with heap := h'', toks := tk + 1 } :=
      I.turnedNew (ch := [e, it]) (fun b ob hb q => (sb.2 b (fun z => hb (by simp [z]))).trans (hkp b ob (fun z => hb (by simp [z])) (fun z => hb (by simp [z])) q)) hf (Nat.le_refl _) new
    refine ⟨.ref s.heap.objs.size, _, I1, rfl, ⟨_, x, rfl, I.hok.fresh (Nat.le_refl _), rfl, fun ys hy => by rw [sq_inj I hy hq]; exact hx⟩, ⟨⟨y, ?_⟩, ?_, hne⟩, fun b hb => ?_⟩
    · have e1 : c + ((i + 1 : Nat) : Int) = c + (i : Int) + 1 := by omega
      rw [e1]
      exact he'
    · have hi2 := hst.1
      cases k with
      | true => exact (show h'.IsTupleIter it a (i + 1) from hi2).at fun o q => (sb.2 it (Ne.symm hne)).trans q
      | false => exact (show h'.IsListIter it a (i + 1) from hi2).at fun o q => (sb.2 it (Ne.symm hne)).trans q
    · have hb' : b < s.heap.objs.size := by
        have e' : b = e ∨ b = it := by simpa using hb
        rcases e' with z | z
        · rw [z]; exact hel
        · rw [z]; exact hil
      rw [upd_ne (Nat.ne_of_lt hb')]
      exact (hf b hb).1
  done := by
    intro X hP hw hK hc i pins s σ H E I hf st hg
    subst hP hw hK
    obtain ⟨⟨old, he⟩, hit, hne⟩ := st
    obtain ⟨xs, hq, hx⟩ := hg
    obtain ⟨its, rv, p⟩ := sq_at I hq
    obtain ⟨f0, f1, f2, f3, f4, f5⟩ := hf it (by simp)
    have hl := rv.length
    have D := draw_of (prog := X.prog) (w := X.w) (A := X.A.in1) (I.ok.hd hc) k it a (lat_ne (e := e) p hit) its.toArray
    have hz : its.toArray.size = i := by simp; omega
    exact wpAny_pyNext_enum_endD D he (by rw [hz]; exact ⟨hit, p⟩) fun h' eb => ⟨rfl, I.turned (t' := s.toks) (fun b o hb q => eb b o hb q) f0 f1 f3 f4 f5⟩
  self := fun A i s Q E st h => let ⟨⟨_, he⟩, _⟩ := st; wpAny_pyIter_enum he h

theorem meets_enum1 {v : Value} {o : Obj} {G : Heap → Prop} (B : Begins v o G) :
    Meets (Builtin.«enumerate.__new__» ⟨[.type "enumerate", v], []⟩) (fun _ R s => G s.heap ∧
      R (.ok (.ret (.ref (s.heap.push o).objs.size))) { s with heap := (s.heap.push o).push { cls := .type "enumerate", data := .fields #[.none, .bool false, .ref s.heap.objs.size, rawInt 0, .none, .none] } }) :=
  .of_wp fun prog w A R s h => by
    obtain ⟨hp, g, d, tk, os⟩ := s
    obtain ⟨h1, h⟩ := h
    have hsub := sub_enumerate
    have q1 : ∀ {A' : Around} {E : Value → Shared → Prop} {Q : Value → Shared → Prop},
        Q (.ref hp.objs.size) ⟨hp.push o, g, d, tk, os⟩ → wpAny (model prog w) A' (pyIter v) Q E ⟨hp, g, d, tk, os⟩ :=
      fun q => B.iter prog w _ _ ⟨hp, g, d, tk, os⟩ _ h1 q
    wp_walk using q1
    refine wpAny_stack_any fun st => wpAny_pure ?_
    split
    · rename_i c _ _ _ _ _
      cases (c == Value.type "enumerate") <;> (wp_walk using q1; exact ⟨_, rfl, h⟩)
    · wp_walk using q1
      exact ⟨_, rfl, h⟩
theorem lat_begins (k : Bool) (l : Addr) (items : Array Value) : ∃ o, Begins (.ref l) o (fun h => LAt k h l items) ∧ ∀ h : Heap, ∀ it, h.get? it = some o → IAt k h it l 0 := by
  cases k with
  | true => exact ⟨_, begins_tuple l items, fun h it q => ⟨_, q, rfl, rfl⟩⟩
  | false => exact ⟨_, begins_list l items, fun h it q => ⟨_, q, rfl, rfl⟩⟩
section
variable {prog : Program} {w : World} {A : Around} {E : Value → Shared → Prop} {s : Shared}
theorem enum_made {v : Value} {o : Obj} {c : Int} {Q : Value → Shared → Prop} (hf : o.isFreed = false)
    (h : ∀ h', IsEnum h' (s.heap.objs.size + 1) s.heap.objs.size c .none → h'.get? s.heap.objs.size = some o → h'.objs.size = s.heap.objs.size + 2 →
      (∀ b o, s.heap.get? b = some o → h'.get? b = some o) → Q (.ref (s.heap.objs.size + 1)) { s with heap := h' }) :
    (∃ ob, ((s.heap.push o).push { cls := .type "enumerate", data := .fields #[.none, .bool false, .ref s.heap.objs.size, rawInt c, .none, .none] }).get? (s.heap.push o).objs.size = some ob ∧ ob.cls = .type "enumerate") ∧
      Q (.ref (s.heap.push o).objs.size) { s with heap := (s.heap.push o).push { cls := .type "enumerate", data := .fields #[.none, .bool false, .ref s.heap.objs.size, rawInt c, .none, .none] } } := by
  have hz : (s.heap.push o).objs.size = s.heap.objs.size + 1 := Heap.size_push ..
  have he : IsEnum ((s.heap.push o).push { cls := .type "enumerate", data := .fields #[.none, .bool false, .ref s.heap.objs.size, rawInt c, .none, .none] }) (s.heap.objs.size + 1) s.heap.objs.size c .none := by
    have := Heap.get?_push_size (s.heap.push o) (o := { cls := .type "enumerate", data := .fields #[.none, .bool false, .ref s.heap.objs.size, rawInt c, .none, .none] }) rfl
    rw [hz] at this
    exact this
  rw [hz]
  exact ⟨⟨_, he, rfl⟩, h _ he (Heap.get?_push_of_some _ (Heap.get?_push_size _ hf)) (by rw [Heap.size_push, hz]) fun b o x => Heap.get?_push_of_some _ (Heap.get?_push_of_some _ x)⟩
theorem call_enum1 {v : Value} {o : Obj} {G : Heap → Prop} {Q : Value → Shared → Prop} (B : Begins v o G) (h1 : G s.heap)
    (h : ∀ h', IsEnum h' (s.heap.objs.size + 1) s.heap.objs.size 0 .none → h'.get? s.heap.objs.size = some o → h'.objs.size = s.heap.objs.size + 2 →
      (∀ b o, s.heap.get? b = some o → h'.get? b = some o) → Q (.ref (s.heap.objs.size + 1)) { s with heap := h' }) :
    wpAny (model prog w) A (call (.type "enumerate") [v]) Q E s :=
  callType_new F.called_enumerate (by decide) (F.typeCall_enumerate_1 _) (F.newCall_enumerate_1 _) (fun obj => F.args_object_init_2 obj _) F.entry_enumerate_new (meets_enum1 B) ⟨h1, enum_made (v := v) B.free h⟩
end
def iEn1 (K : PySem.W.Frag) (ta : TA) : TI := fun σ H R => ta σ H fun vs H1 => ∃ k a xs, vs = [.ref a] ∧ SQ K k H1 a xs ∧ R (ItN K k 0 a) H1
def iEn2 (K : PySem.W.Frag) (ta : TA) : TI := fun σ H R => ta σ H fun vs H1 => ∃ k a xs c, vs = [.ref a, .int c] ∧ SQ K k H1 a xs ∧ -(2 ^ 62) ≤ c ∧ c < 2 ^ 62 ∧ R (ItN K k c a) H1
section
variable {X : Cx} {e b : Expr} {ta : TA} {p pos tpos : Pos} {elts : List Expr} {kk : Nat}
theorem enum_pie {pins : List (Addr × Obj)} {σ : St} {H : Hp} {s : Shared} {R : It → Hp → Prop} {k : Bool} {c : Int} {a : Addr} {its : Array Value} {o : Obj} (I : Inv X pins σ H s) (hio : ∀ h : Heap, ∀ it, h.get? it = some o → IAt k h it a 0) (q : R (ItN X.K k c a) H)
    (h' : Heap) (he : IsEnum h' (s.heap.objs.size + 1) s.heap.objs.size c .none) (hit : h'.get? s.heap.objs.size = some o) (hk : ∀ b o, s.heap.get? b = some o → h'.get? b = some o) :
    wpAny (model X.prog X.w) X.A (pyIter (.ref (s.heap.objs.size + 1))) (PIE X pins σ (.Tuple elts kk tpos) R) X.xe { s with heap := h' } := by
  refine wpAny_pyIter_enum he ?_
  have I2 : Inv X pins σ H { s with heap := h' } := I.kept (t' := s.toks) hk
  refine ⟨s.heap.objs.size + 1, [s.heap.objs.size + 1, s.heap.objs.size], _, _, H, rfl, I2, turn_enumN k c a (s.heap.objs.size + 1) s.heap.objs.size, ⟨⟨.none, ?_⟩, hio _ _ hit, Nat.succ_ne_self _⟩, fun b hb => ?_, q⟩
  · have e1 : c + ((0 : Nat) : Int) = c := by omega
    rw [e1]
    exact he
  · have e' : b = s.heap.objs.size + 1 ∨ b = s.heap.objs.size := by simpa using hb
    have hle : s.heap.objs.size ≤ b := by
      rcases e' with z | z
      · rw [z]
        exact Nat.le_add_right _ _
      · rw [z]
        exact Nat.le_refl _
    exact I.fpOk hle (I.hok.fresh hle)
theorem pi_enum1 (hg : Gl X "enumerate") (hm : X.mg "enumerate" = none) (ha : PA X [e] ta) (hs : starEach [e] X.env = [(false, eval e X.env)] := by rfl) :
    PI X (.Tuple elts kk tpos) (.Call (.Name "enumerate" p) [e] [] pos) (iEn1 X.K ta) := by
  refine ⟨fun pins s σ H R I h => Call_ (ld_blt I hg hm boot_enumerate (PyProof.Rows.callWith_type1 (thn (ha.run pos pins s σ H _ I h) fun us s1 ⟨vs, H1, I1, r1, q1⟩ => ?_) hs rfl))⟩
  obtain ⟨k, a, xs, ex, hq, q⟩ := q1
  subst ex
  cases r1 with
  | cons r rr =>
    cases rr
    cases r
    obtain ⟨its, rv, pl⟩ := sq_at I1 hq
    obtain ⟨o, B, hio⟩ := lat_begins k a its.toArray
    exact call_enum1 B pl fun h' he hit hsz hk => enum_pie (its := its.toArray) I1 hio q h' he hit hk
theorem pi_enum2 (hg : Gl X "enumerate") (hm : X.mg "enumerate" = none) (ha : PA X [e, b] ta) (hs : starEach [e, b] X.env = [(false, eval e X.env), (false, eval b X.env)] := by rfl) (hs2 : starEach [b] X.env = [(false, eval b X.env)] := by rfl) :
    PI X (.Tuple elts kk tpos) (.Call (.Name "enumerate" p) [e, b] [] pos) (iEn2 X.K ta) := by
  refine ⟨fun pins s σ H R I h => Call_ (ld_blt I hg hm boot_enumerate (PyProof.Rows.callWith_type1 (thn (ha.run pos pins s σ H _ I h) fun us s1 ⟨vs, H1, I1, r1, q1⟩ => ?_) (by rw [hs, hs2]) (by rw [hs2]; rfl)))⟩
  obtain ⟨k, a, xs, c, ex, hq, b1, b2, q⟩ := q1
  subst ex
  obtain ⟨u1, u2, rfl, r, r2⟩ := Vals.two r1
  cases r
  obtain ⟨t, rfl⟩ := r2
  obtain ⟨its, rv, pl⟩ := sq_at I1 hq
  obtain ⟨o, B, hio⟩ := lat_begins k a its.toArray
  exact enum_begins B pl (by omega) (by omega) fun h' he hit hsz hk => enum_pie (its := its.toArray) I1 hio q h' he hit hk
end
end Vs

set_option Elab.async false
set_option linter.all false
set_option maxRecDepth 100000
set_option maxHeartbeats 2000000
/-! Vs13: targets, what is walked, for, comprehensions. -/
namespace Vs
open PySem PySem.Spec L2
open PyProof.Rows hiding St

/-! ### targets that take data -/
abbrev Sd := D → Nv → Option Nv
def stN (i : Nat) : Sd := fun d e => if i < e.length then some (e.set i (some (.leaf d, false))) else none
def stA : List Sd → List D → Nv → Option Nv
  | [], [], e => some e
  | f :: fs, d :: ds, e => (f d e).bind fun e1 => stA fs ds e1
  | _, _, _ => none
def stT (fs : List Sd) : Sd := fun d e => match d with
  | .tuple ds => stA fs ds e
  | _ => none
def Out1 (is : List Nat) (σ σ' : St) : Prop := σ'.length = σ.length ∧ ∀ j, j ∉ is → σ'[j]? = σ[j]?
theorem Out1.refl {is : List Nat} {σ : St} : Out1 is σ σ := ⟨rfl, fun _ _ => rfl⟩
theorem Out1.trans {is : List Nat} {σ σ1 σ2 : St} (h : Out1 is σ σ1) (k : Out1 is σ1 σ2) : Out1 is σ σ2 := ⟨k.1.trans h.1, fun j hj => (k.2 j hj).trans (h.2 j hj)⟩
theorem Out1.mono {is js : List Nat} {σ σ' : St} (h : Out1 is σ σ') (s : ∀ i ∈ is, i ∈ js) : Out1 js σ σ' := ⟨h.1, fun j hj => h.2 j fun z => hj (s j z)⟩
/-- only the places is are written -/
def GOk (K : PySem.W.Frag) (g : TG) (is : List Nat) (f : Sd) : Prop := ∀ (L : Nat → Option V) (σ : St) (e e' : Nv) (τ : List (V × Tr)) (H : Hp) (v : V) (d : D) (Q : St → Hp → Prop), Rel K L σ e ((v, .leaf d) :: τ) H → f d e = some e' →
  (∀ σ', Out1 is σ σ' → Rel K L σ' e' τ H → Q σ' H) → g v σ H Q
def GsOk (K : PySem.W.Frag) (g : TGs) (n : Nat) (is : List Nat) (fs : List Sd) : Prop := fs.length = n ∧ ∀ (L : Nat → Option V) (σ : St) (e e' : Nv) (τ : List (V × Tr)) (H : Hp) (vs : List V) (ds : List D) (Q : St → Hp → Prop), vs.length = ds.length → Rel K L σ e (vs.zip (ds.map Tr.leaf) ++ τ) H → stA fs ds e = some e' →
  (∀ σ', Out1 is σ σ' → Rel K L σ' e' τ H → Q σ' H) → g vs σ H Q
def SG (X : Cx) (tg : Expr) (g : TG) (is : List Nat) (f : Sd) : Prop := PG X tg g ∧ GOk X.K g is f
def SGs (X : Cx) (ts : List Expr) (g : TGs) (is : List Nat) (fs : List Sd) : Prop := PGs X ts g ∧ GsOk X.K g ts.length is fs
theorem stA_len : ∀ {fs : List Sd} {ds : List D} {e e' : Nv}, stA fs ds e = some e' → ds.length = fs.length
  | [], [], _, _, _ => rfl
  | f :: fs, d :: ds, e, e', h => by
    unfold stA at h
    cases q : f d e with
    | none => rw [q] at h; cases h
    | some e1 => rw [q] at h; simp [stA_len (show stA fs ds e1 = some e' from h)]
  | [], _ :: _, _, _, h => by simp [stA] at h
  | _ :: _, [], _, _, h => by simp [stA] at h
section
variable {X : Cx} {i : Nat} {x : Str} {pos : Pos} {tg : Expr} {ts : List Expr} {is js : List Nat} {f : Sd} {fs : List Sd} {g : TG} {gs : TGs}
theorem sg_name (hN : X.N.Nodup) (hi : X.N[i]? = some x) (hx : Loc X.env.scope x) (hf : X.fn x = true ∨ X.env.scope.names.lookup x = some .local := by first | exact .inl rfl | exact .inr rfl | assumption) : SG X (.Name x pos) (gName i) [i] (stN i) := by
  refine ⟨pg_name hN hi hx hf, fun L σ e e' τ H v d Q R h k => ?_⟩
  unfold stN at h
  split at h
  · rename_i hl
    cases h
    rw [R.len] at hl
    exact k _ ⟨by rw [List.length_set], fun j hj => List.getElem?_set_ne (by simpa using fun z => hj (by simp [z]))⟩ (R.store hl)
  · cases h
theorem sgs_nil : SGs X [] gNil [] [] := by
  refine ⟨pgs_nil, rfl, fun L σ e e' τ H vs ds Q hl R h k => ?_⟩
  have := stA_len h
  have h1 : ds = [] := List.eq_nil_of_length_eq_zero (by simpa using this)
  subst h1
  have h2 : vs = [] := List.eq_nil_of_length_eq_zero (by simpa using hl)
  subst h2
  cases h
  exact ⟨rfl, k _ .refl R⟩
theorem sgs_cons (h1 : SG X tg g is f) (h2 : SGs X ts gs js fs) (hs : (assignEach (tg :: ts) X.env).map (·.2) = assign tg X.env :: (assignEach ts X.env).map (·.2) := by rfl) : SGs X (tg :: ts) (gCons g gs) (is ++ js) (f :: fs) := by
  obtain ⟨p1, o1⟩ := h1
  obtain ⟨p2, hl2, o2⟩ := h2
  refine ⟨pgs_cons p1 p2 hs, by simp [hl2], fun L σ e e' τ H vs ds Q hl R h k => ?_⟩
  cases ds with
  | nil => simp [stA] at h
  | cons d ds =>
    cases vs with
    | nil => simp at hl
    | cons v vs =>
      unfold stA at h
      cases q : f d e with
      | none => rw [q] at h; cases h
      | some e1 =>
        rw [q] at h
        have h : stA fs ds e1 = some e' := h
        exact ⟨v, vs, rfl, o1 L σ e e1 _ H v d _ R q fun σ1 k1 R1 => o2 L σ1 e1 e' τ H vs ds Q (by simpa using hl) R1 h fun σ2 k2 R2 =>
          k σ2 ((k1.mono (js := is ++ js) fun _ => List.mem_append_left _).trans (k2.mono (js := is ++ js) fun _ => List.mem_append_right _)) R2⟩
theorem sg_tup {k n : Nat} {K : PySem.W.Frag} (hc : X.calm = true) (h : SGs X ts gs is fs) (hK : X.K = K := by rfl) (hn2 : ts.length = n := by rfl) (hn : (assignEach ts X.env).length = ts.length := by rfl) (hst : (assignEach ts X.env).findIdx? (·.1) = none := by rfl) : SG X (.Tuple ts k pos) (gTup K n gs) is (stT fs) := by
  subst hK hn2
  obtain ⟨p, hl, o⟩ := h
  refine ⟨pg_tup (n := ts.length) hc p hn hst, fun L σ e e' τ H v d Q R hd kk => ?_⟩
  unfold stT at hd
  split at hd
  · rename_i ds
    obtain ⟨a, vs, rfl, h1, h2, s⟩ := St8.itemsX (t := .leaf (.tuple ds)) R.st rfl
    refine ⟨a, vs, rfl, h1, ?_, o L σ e e' τ H vs ds Q h2 ⟨R.len, R.ok, ?_⟩ hd kk⟩
    · rw [h2, stA_len hd, hl]
    · have := s.st8
      rw [List.append_assoc]
      exact this.subl ((List.Sublist.refl _).append (List.sublist_cons_self _ _))
  · cases hd
/-- target = value, the value as data -/
def unS (f : Sd) (g : Xp) : Sm := fun e => (vl g e).bind fun d e1 => match f d e1 with
  | some e2 => .ok .nx e2
  | none => .bad
theorem ss_asg {W : WX} {ex : Expr} {fx : Xp} (he : SE X W ex fx) (hg : SG X tg g is f) (hs : swapsWithSole [tg] ex pos.line X.env = pure false := by rfl) (hw : swappedStores [tg] ex X.env = pure none := by rfl)
    (h1 : (assignEach [tg] X.env).map (·.2) = [assign tg X.env] := by rfl) : SS X W (.Assign [tg] ex pos) (unS f fx) := by
  obtain ⟨p, o⟩ := hg
  refine PS.imp (ps_asg (SE.val he) p hs hw h1) fun D σ H ⟨L, e, τ, R, q⟩ => ?_
  refine st_fst R q fun d e1 v H1 τ1 _ q1 p1 R1 => ?_
  have p1 : τ1 = (v, .leaf d) :: τ := p1
  subst p1
  split at q1
  · rename_i e2 h2
    exact o L σ e1 e2 τ H1 v d _ R1 h2 fun σ' k R' => q1 σ' H1 k.1 R'
  · exact q1.elim
end

/-! ### what is walked -/
structure JOk (K : PySem.W.Frag) (J : It) (ds : List D) (κ : List (V × Tr)) : Prop where
  go : ∀ i H ρ, i < ds.length → St8 K H (κ ++ ρ) → J.go i H
  stop : ∀ H ρ, St8 K H (κ ++ ρ) → J.stop ds.length H
  yld : ∀ i d H ρ x H', ds[i]? = some d → St8 K H (κ ++ ρ) → J.yld i H x H' → St8 K H' ((x, .leaf d) :: (κ ++ ρ))
def tIt (K : PySem.W.Frag) (mg : Str → Option Value) (W : WX) (f : Nv → Out (List D)) : TI := fun σ H R => ∃ (L : Nat → Option V) (e : Nv) (τ : List (V × Tr)), Rel K L σ e τ H ∧
  Pst K mg W L σ τ (f e) fun ds e' => ∀ J H' κ, JOk K J ds κ → Rel K L σ e' (κ ++ τ) H' → R J H'
abbrev SI (X : Cx) (W : WX) (tg iter : Expr) (f : Nv → Out (List D)) : Prop := PI X tg iter (tIt X.K X.mg W f)
theorem PI.imp {X : Cx} {tg iter : Expr} {t t' : TI} (h : PI X tg iter t) (g : ∀ σ H R, t' σ H R → t σ H R) : PI X tg iter t' := ⟨fun pins s σ H R I q => h.run pins s σ H R I (g σ H R q)⟩
section
variable {K : PySem.W.Frag} {H H' : Hp} {a b : Addr} {d d2 : D} {ds es : List D} {k : Bool} {J : It} {ρ : List (V × Tr)} {x : V} {i : Nat}
theorem parts (h : St8 K H ((.ref a, .leaf d) :: ρ)) (q : titems (.leaf d) = some (k, ds)) : ∃ vs, SQ K k H a vs ∧ vs.length = ds.length ∧ St8 K H (vs.zip (ds.map Tr.leaf) ++ (.ref a, .leaf d) :: ρ) := by
  obtain ⟨a', vs, e, h1, h2, h3⟩   := St8.itemsX h q
  cases e
  exact ⟨vs, h1.sq q, h2, h3.st8⟩
theorem item_at {vs : List V} {l : List (V × Tr)} (hl : vs.length = ds.length) (h : St8 K H (vs.zip (ds.map Tr.leaf) ++ l)) (hd : ds[i]? = some d) (hx : vs[i]? = some x) : St8 K H ((x, .leaf d) :: l) := by
  obtain ⟨v, v1, v2⟩ := zip_at hl hd
  rw [hx] at v1
  cases v1
  have := StO.dup_mem h (List.mem_append_left _ v2)
  exact this.subl ((List.sublist_append_right _ _).cons_cons _)
theorem jok_sq (w : ∀ vs, Walk J vs.length (fun H => SQ K k H a vs) (YAt vs)) (q : titems (.leaf d) = some (k, ds)) : JOk K J ds [(.ref a, .leaf d)] where
  go := fun i H ρ hi h => by
    obtain ⟨vs, h1, h2, h3⟩ := parts h q
    exact (w vs).goes i H (by omega) h1
  stop := fun H ρ h => by
    obtain ⟨vs, h1, h2, h3⟩ := parts h q
    have := (w vs).stops H h1
    rw [h2] at this
    exact this
  yld := fun i d' H ρ x H' hd h y => by
    obtain ⟨vs, h1, h2, h3⟩ := parts h q
    have hi := lt_of_at hd
    obtain ⟨rfl, hx⟩ := (w vs).yields i H x H' (by omega) h1 y
    exact item_at h2 h3 hd hx
def enumD (c : Int) (ds : List D) : List D := ds.mapIdx fun i d => .tuple [.int (c + (i : Nat)), d]
theorem jok_enum {c : Int} (q : titems (.leaf d) = some (k, ds)) : JOk K (ItN K k c a) (enumD c ds) [(.ref a, .leaf d)] where
  go := fun i H ρ hi h => by
    obtain ⟨vs, h1, h2, h3⟩ := parts h q
    have hi : i < vs.length := by simpa [enumD, h2] using hi
    exact ⟨vs, vs[i], h1, List.getElem?_eq_getElem hi⟩
  stop := fun H ρ h => by
    obtain ⟨vs, h1, h2, h3⟩ := parts h q
    exact ⟨vs, h1, by simp [enumD, h2]⟩
  yld := fun i d' H ρ x H' hd h y => by
    obtain ⟨vs, h1, h2, h3⟩ := parts h q
    obtain ⟨T, y, rfl, hT, rfl, hy⟩ := y
    have hi : i < ds.length := by simpa [enumD] using lt_of_at hd
    have hd' : d' = .tuple [.int (c + (i : Nat)), ds[i]] := by
      simp only [enumD, List.getElem?_mapIdx, List.getElem?_eq_getElem hi, Option.map_some, Option.some.injEq] at hd
      exact hd.symm
    subst hd'
    have s1 := item_at h2 h3 (List.getElem?_eq_getElem hi) (hy vs h1)
    exact St8.newT (its := [(.int (c + (i : Nat)), .leaf (.int (c + (i : Nat)))), (y, .leaf ds[i])]) (ds := [.int (c + (i : Nat)), ds[i]]) (StO.int s1 _) rfl hT
def zipD (ds es : List D) : List D := (ds.zip es).map fun p => .tuple [p.1, p.2]
theorem zip_yld {xs ys : List V} {T : Addr} {y : V} {d' : D} (q1 : titems (.leaf d) = some (k, ds)) (q2 : titems (.leaf d2) = some (k, es)) (hd : (zipD ds es)[i]? = some d') (h : St8 K H ((.ref a, .leaf d) :: (.ref b, .leaf d2) :: ρ)) (hT : H T = none)
    (hx : ∀ vs, SQ K k H a vs → vs[i]? = some x) (hy : ∀ vs, SQ K k H b vs → vs[i]? = some y) : St8 K (upd H T (.tup [x, y])) ((.ref T, .leaf d') :: (.ref a, .leaf d) :: (.ref b, .leaf d2) :: ρ) := by
  obtain ⟨vs, h1, h2, h3⟩ := parts h q1
  have hi : i < (ds.zip es).length := by simpa [zipD] using lt_of_at hd
  have hi2 : i < ds.length ∧ i < es.length := by rw [List.length_zip] at hi; omega
  have hd' : d' = .tuple [ds[i], es[i]] := by
    simp only [zipD, List.getElem?_map, List.getElem?_eq_getElem hi, Option.map_some, Option.some.injEq, List.getElem_zip] at hd
    exact hd.symm
  subst hd'
  have s1 := item_at h2 h3 (List.getElem?_eq_getElem hi2.1) (hx vs h1)
  have s2 : St8 K H ((.ref b, .leaf d2) :: (x, .leaf ds[i]) :: (.ref a, .leaf d) :: ρ) := s1.perm (by
    have p1 : ((x, Tr.leaf ds[i]) :: (.ref a, .leaf d) :: (.ref b, .leaf d2) :: ρ).Perm ((.ref b, .leaf d2) :: ([(x, Tr.leaf ds[i]), (.ref a, .leaf d)] ++ ρ)) := List.perm_middle (l₁ := [(x, Tr.leaf ds[i]), (.ref a, .leaf d)])
    exact p1)
  obtain ⟨ws, k1, k2, k3⟩ := parts s2 q2
  have s3 := item_at k2 k3 (List.getElem?_eq_getElem hi2.2) (hy ws k1)
  refine St8.newT (its := [(x, .leaf ds[i]), (y, .leaf es[i])]) (ds := [ds[i], es[i]]) (s3.perm ?_) rfl hT
  have p1 : ((y, Tr.leaf es[i]) :: (.ref b, .leaf d2) :: (x, .leaf ds[i]) :: (.ref a, .leaf d) :: ρ).Perm ((x, .leaf ds[i]) :: (y, Tr.leaf es[i]) :: (.ref b, .leaf d2) :: (.ref a, .leaf d) :: ρ) := List.perm_middle (l₁ := [(y, Tr.leaf es[i]), (.ref b, .leaf d2)])
  exact p1.trans (((List.Perm.swap _ _ _).cons _).cons _)
theorem jok_zipL (q1 : titems (.leaf d) = some (false, ds)) (q2 : titems (.leaf d2) = some (false, es)) : JOk K (Itz K a b) (zipD ds es) [(.ref a, .leaf d), (.ref b, .leaf d2)] where
  go := fun i H ρ hi h => by
    obtain ⟨vs, h1, h2, _⟩ := parts h q1
    obtain ⟨ws, k1, k2, _⟩ := parts (StO.tail h) q2
    have hi : i < vs.length ∧ i < ws.length := by simpa [zipD, h2, k2, Nat.lt_min] using hi
    exact ⟨vs, ws, vs[i], ws[i], h1, k1, List.getElem?_eq_getElem hi.1, List.getElem?_eq_getElem hi.2⟩
  stop := fun H ρ h => by
    obtain ⟨vs, h1, h2, _⟩ := parts h q1
    obtain ⟨ws, k1, k2, _⟩ := parts (StO.tail h) q2
    exact ⟨vs, ws, h1, k1, by simp only [zipD, List.length_map, List.length_zip]; omega⟩
  yld := fun i d' H ρ x H' hd h y => by
    obtain ⟨T, x', y', rfl, hT, rfl, hx, hy⟩ := y
    exact zip_yld (xs := []) (ys := []) q1 q2 hd h hT hx hy
theorem jok_zipT (q1 : titems (.leaf d) = some (true, ds)) (q2 : titems (.leaf d2) = some (true, es)) : JOk K (RZ.ItzT K a b) (zipD ds es) [(.ref a, .leaf d), (.ref b, .leaf d2)] where
  go := fun i H ρ hi h => by
    obtain ⟨vs, h1, h2, _⟩ := parts h q1
    obtain ⟨ws, k1, k2, _⟩ := parts (StO.tail h) q2
    have hi : i < vs.length ∧ i < ws.length := by simpa [zipD, h2, k2, Nat.lt_min] using hi
    exact ⟨vs, ws, vs[i], ws[i], h1, k1, List.getElem?_eq_getElem hi.1, List.getElem?_eq_getElem hi.2⟩
  stop := fun H ρ h => by
    obtain ⟨vs, h1, h2, _⟩ := parts h q1
    obtain ⟨ws, k1, k2, _⟩ := parts (StO.tail h) q2
    exact ⟨vs, ws, h1, k1, by simp only [zipD, List.length_map, List.length_zip]; omega⟩
  yld := fun i d' H ρ x H' hd h y => by
    obtain ⟨T, x', y', rfl, hT, rfl, hx, hy⟩ := y
    exact zip_yld (xs := []) (ys := []) q1 q2 hd h hT hx hy
def rngD (lo : Int) (n : Nat) : List D := (List.range n).map fun i => .int (lo + (i : Nat))
theorem jok_rng {lo : Int} {n : Nat} : JOk K (Itr lo n) (rngD lo n) [] where
  go := fun i H ρ hi h => show i < n by simpa [rngD] using hi
  stop := fun H ρ h => by simp [rngD, Itr]
  yld := fun i d' H ρ x H' hd h y => by
    obtain ⟨rfl, rfl⟩ := y
    have hi : i < n := by simpa [rngD] using lt_of_at hd
    simp only [rngD, List.getElem?_map, List.getElem?_range hi, Option.map_some, Option.some.injEq] at hd
    subst hd
    exact StO.int h _
end
end Vs

set_option Elab.async false
set_option linter.all false
set_option maxRecDepth 100000
set_option maxHeartbeats 2000000
/-! Vs14: for, comprehensions. -/
namespace Vs
open PySem PySem.Spec L2
open PyProof.Rows hiding St

/-! ### iterables -/
def iSq (K : PySem.W.Frag) (tl : TE) : TI := fun σ H R => tl σ H fun x H1 => ∃ k a xs, x = .ref a ∧ SQ K k H1 a xs ∧ R (if k = true then Itt K a else Itl K a) H1
section
variable {X : Cx} {tg l : Expr} {tl : TE}
theorem pi_sq (hl : PE X l tl) : PI X tg l (iSq X.K tl) := by
  refine ⟨fun pins s σ H R I h => thn (hl.run pins s σ H _ I h) fun v s1 ⟨x, H1, I1, r1, q1⟩ => ?_⟩
  obtain ⟨k, a, xs, e, hq, q⟩ := q1
  subst e
  cases r1
  have fr : ∀ b ∈ [s1.heap.objs.size], FpOk X pins H1 b := fun b hb => by
    have e : b = s1.heap.objs.size := by simpa using hb
    subst e
    exact I1.fpOk (Nat.le_refl _) (I1.hok.fresh (Nat.le_refl _))
  cases k with
  | true =>
    obtain ⟨its, rv, p, _⟩ := I1.tuple (show SqT X.K H1 a xs from hq)
    exact wpAny_pyIter_tuple (show s1.heap.IsTuple a its.toArray from p) ⟨s1.heap.objs.size, [s1.heap.objs.size], _, _, H1, rfl,
      I1.kept (t' := s1.toks) fun b o e => Heap.get?_push_of_some _ e, turn_tuple a _, ⟨_, Heap.get?_push_size _ rfl, rfl, rfl⟩, fr, q⟩
  | false =>
    obtain ⟨its, rv, p, _⟩ := I1.list (show SqL X.K H1 a xs from hq)
    exact wpAny_pyIter_list p.isList ⟨s1.heap.objs.size, [s1.heap.objs.size], _, _, H1, rfl,
      I1.kept (t' := s1.toks) fun b o e => Heap.get?_push_of_some _ e, turn_list a _, ⟨_, Heap.get?_push_size _ rfl, rfl, rfl⟩, fr, q⟩
end
def itD (d : D) : Option (List D) := (titems (.leaf d)).map (·.2)
def sqI (f : Xp) : Nv → Out (List D) := fun e => (vl f e).bind fun d e1 => match titems (.leaf d) with
  | some (_, ds) => .ok ds e1
  | none => .bad
def rng1I (fs : List Xp) : Nv → Out (List D) := fun e => (evs vl fs e).bind fun ds e1 => match ds with
  | [.int j] => if -(2 ^ 62) ≤ j ∧ j < 2 ^ 62 then .ok (rngD 0 j.toNat) e1 else .bad
  | _ => .bad
def rng2I (fs : List Xp) : Nv → Out (List D) := fun e => (evs vl fs e).bind fun ds e1 => match ds with
  | [.int i, .int j] => if -(2 ^ 62) ≤ i ∧ i < 2 ^ 62 ∧ -(2 ^ 62) ≤ j ∧ j < 2 ^ 62 then .ok (rngD i (j - i).toNat) e1 else .bad
  | _ => .bad
def enum1I (fs : List Xp) : Nv → Out (List D) := fun e => (evs vl fs e).bind fun ds e1 => match ds with
  | [d] => (match titems (.leaf d) with
    | some (_, es) => .ok (enumD 0 es) e1
    | none => .bad)
  | _ => .bad
def enum2I (fs : List Xp) : Nv → Out (List D) := fun e => (evs vl fs e).bind fun ds e1 => match ds with
  | [d, .int c] => (match titems (.leaf d) with
    | some (_, es) => if -(2 ^ 62) ≤ c ∧ c < 2 ^ 62 then .ok (enumD c es) e1 else .bad
    | none => .bad)
  | _ => .bad
def zipI (fs : List Xp) : Nv → Out (List D) := fun e => (evs vl fs e).bind fun ds e1 => match ds with
  | [d, d2] => (match titems (.leaf d), titems (.leaf d2) with
    | some (k, es), some (k2, es2) => if k = k2 then .ok (zipD es es2) e1 else .bad
    | _, _ => .bad)
  | _ => .bad
section
variable {K : PySem.W.Frag} {mg : Str → Option Value} {W : WX} {L : Nat → Option V} {σ : St} {e : Nv} {τ : List (V × Tr)} {H : Hp} {x : V} {d : D} {k : Bool} {ds : List D} {fs : List Xp}
theorem Rel.isq (R : Rel K L σ e ((x, .leaf d) :: τ) H) (q : titems (.leaf d) = some (k, ds)) : ∃ a xs, x = .ref a ∧ SQ K k H a xs := by
  obtain ⟨a, vs, h0, h1, h2, h3⟩ := St8.itemsX R.st q
  exact ⟨a, vs, h0, h1.sq q⟩
/-- a list of data arguments -/
theorem args_it {f : List D → Nv → Out (List D)} {R : It → Hp → Prop} {Q : List V → Hp → Prop} (h : tIt K mg W (fun e => (evs vl fs e).bind f) σ H R)
    (n : ∀ (L : Nat → Option V) (e1 : Nv) (τ : List (V × Tr)) (ds : List D) (vs : List V) (H1 : Hp), vs.length = ds.length → Rel K L σ e1 (vs.zip (ds.map Tr.leaf) ++ τ) H1 →
      (Pst K mg W L σ τ (f ds e1) fun ds e' => ∀ J H' κ, JOk K J ds κ → Rel K L σ e' (κ ++ τ) H' → R J H') → Q vs H1) : tAD K mg W fs σ H Q := by
  obtain ⟨L, e, τ, R0, q⟩ := h
  exact ⟨L, e, τ, R0, (Pst.bind q).mono (.refl _) fun ds e1 _ q1 vs H1 hl R1 => n L e1 τ ds vs H1 hl R1 q1⟩
end
section
variable {X : Cx} {W : WX} {tg l a b : Expr} {f : Xp} {fs : List Xp} {p pos tpos : Pos} {elts : List Expr} {kk : Nat}
theorem si_sq (h : SE X W l f) : SI X W tg l (sqI f) := by
  refine PI.imp (pi_sq (SE.val h)) fun σ H R ⟨L, e, τ, R0, q⟩ => ?_
  refine tR.fst R0 q fun d e1 v H1 τ1 _ q1 p1 R1 => ?_
  have p1 : τ1 = (v, .leaf d) :: τ := p1
  subst p1
  split at q1
  · rename_i k ds hq
    obtain ⟨a, xs, rfl, hs⟩ := R1.isq hq
    refine ⟨k, a, xs, rfl, hs, q1 _ H1 _ (jok_sq (k := k) (fun vs => ?_) hq) R1⟩
    cases k with
    | true => exact walk_tup
    | false => exact walk_list
  · exact q1.elim
theorem dq_int {K : PySem.W.Frag} {H : Hp} {v : V} {j : Int} (h : Dq K H v (.int j)) : v = .int j := by
  cases h
  rfl
theorem si_rng1 (hg : Gl X "range") (hm : X.mg "range" = none) (ha : SAD X W [a] fs) (hs : starEach [a] X.env = [(false, eval a X.env)] := by rfl) : SI X W tg (.Call (.Name "range" p) [a] [] pos) (rng1I fs) := by
  refine PI.imp (pi_range1 hg hm ha hs) fun σ H R h => args_it h fun L e1 τ ds vs H1 hl R1 q1 => ?_
  split at q1
  · rename_i j
    match vs, hl with
    | [v], _ =>
      have hv := dq_int (view_leaf (.int j) ▸ R1.dp_mem (v := v) (t := .leaf (.int j)) (by simp))
      subst hv
      split at q1
      · rename_i hb
        exact ⟨j, rfl, hb.1, hb.2, q1 _ H1 [] (by simpa using jok_rng (K := X.K) (lo := 0) (n := j.toNat)) (R1.subl (List.sublist_append_right _ _))⟩
      · exact q1.elim
  · exact q1.elim
theorem si_rng2 (hg : Gl X "range") (hm : X.mg "range" = none) (ha : SAD X W [a, b] fs) (hs : starEach [a, b] X.env = [(false, eval a X.env), (false, eval b X.env)] := by rfl) (hs2 : starEach [b] X.env = [(false, eval b X.env)] := by rfl) : SI X W tg (.Call (.Name "range" p) [a, b] [] pos) (rng2I fs) := by
  refine PI.imp (pi_range2 hg hm ha hs hs2) fun σ H R h => args_it h fun L e1 τ ds vs H1 hl R1 q1 => ?_
  split at q1
  · rename_i i j
    match vs, hl with
    | [v, w], _ =>
      have hv := dq_int (view_leaf (.int i) ▸ R1.dp_mem (v := v) (t := .leaf (.int i)) (by simp))
      have hw := dq_int (view_leaf (.int j) ▸ R1.dp_mem (v := w) (t := .leaf (.int j)) (by simp))
      subst hv hw
      split at q1
      · rename_i hb
        exact ⟨i, j, rfl, hb, q1 _ H1 [] jok_rng (R1.subl (List.sublist_append_right _ _))⟩
      · exact q1.elim
  · exact q1.elim
theorem si_enum1 (hg : Gl X "enumerate") (hm : X.mg "enumerate" = none) (ha : SAD X W [a] fs) (hs : starEach [a] X.env = [(false, eval a X.env)] := by rfl) : SI X W (.Tuple elts kk tpos) (.Call (.Name "enumerate" p) [a] [] pos) (enum1I fs) := by
  refine PI.imp (pi_enum1 hg hm ha hs) fun σ H R h => args_it h fun L e1 τ ds vs H1 hl R1 q1 => ?_
  split at q1
  · rename_i d
    split at q1
    · rename_i k es hq
      match vs, hl with
      | [v], _ =>
        have R2 : Rel X.K L σ e1 ((v, .leaf d) :: τ) H1 := R1
        obtain ⟨x, xs, rfl, hsq⟩ := R2.isq hq
        exact ⟨k, x, xs, rfl, hsq, q1 _ H1 _ (jok_enum hq) R2⟩
    · exact q1.elim
  · exact q1.elim
theorem si_enum2 (hg : Gl X "enumerate") (hm : X.mg "enumerate" = none) (ha : SAD X W [a, b] fs) (hs : starEach [a, b] X.env = [(false, eval a X.env), (false, eval b X.env)] := by rfl) (hs2 : starEach [b] X.env = [(false, eval b X.env)] := by rfl) : SI X W (.Tuple elts kk tpos) (.Call (.Name "enumerate" p) [a, b] [] pos) (enum2I fs) := by
  refine PI.imp (pi_enum2 hg hm ha hs hs2) fun σ H R h => args_it h fun L e1 τ ds vs H1 hl R1 q1 => ?_
  split at q1
  · rename_i d c
    split at q1
    · rename_i k es hq
      match vs, hl with
      | [v, w], _ =>
        have R2 : Rel X.K L σ e1 ((v, .leaf d) :: (w, .leaf (.int c)) :: τ) H1 := R1
        have hw := dq_int (view_leaf (.int c) ▸ R1.dp_mem (v := w) (t := .leaf (.int c)) (by simp))
        subst hw
        obtain ⟨x, xs, rfl, hsq⟩ := R2.isq hq
        split at q1
        · rename_i hb
          exact ⟨k, x, xs, c, rfl, hsq, hb.1, hb.2, q1 _ H1 [(.ref x, .leaf d)] (jok_enum hq) (R2.subl ((List.sublist_cons_self _ _).cons_cons _))⟩
        · exact q1.elim
    · exact q1.elim
  · exact q1.elim
theorem si_zip (hg : Gl X "zip") (hm : X.mg "zip" = none) (ha : SAD X W [a, b] fs) (hs : starEach [a, b] X.env = (false, eval a X.env) :: starEach [b] X.env := by rfl) (hpl : (backTo pos (starEach [b] X.env)).any (·.1) = false := by rfl) :
    SI X W (.Tuple elts kk tpos) (.Call (.Name "zip" p) [a, b] [] pos) (zipI fs) := by
  refine PI.imp (RZ.pi_zipA hg hm ha hs hpl) fun σ H R h => args_it h fun L e1 τ ds vs H1 hl R1 q1 => ?_
  split at q1
  · rename_i d d2
    split at q1
    · rename_i k es k2 es2 hq hq2
      split at q1
      · rename_i hk
        subst hk
        match vs, hl with
        | [v, w], _ =>
          have R2 : Rel X.K L σ e1 ((v, .leaf d) :: (w, .leaf d2) :: τ) H1 := R1
          obtain ⟨x, xs, rfl, hsq⟩ := R2.isq hq
          obtain ⟨y, ys, rfl, hsq2⟩ := R2.tail.isq hq2
          cases k with
          | true => exact ⟨x, y, xs, ys, rfl, .inr ⟨hsq, hsq2, q1 _ H1 [_, _] (jok_zipT hq hq2) R2⟩⟩
          | false => exact ⟨x, y, xs, ys, rfl, .inl ⟨hsq, hsq2, q1 _ H1 [_, _] (jok_zipL hq hq2) R2⟩⟩
      · exact q1.elim
    · exact q1.elim
  · exact q1.elim
end

/-! ### for -/
def forL (g : Sd) (f : Sm) : List D → Sm
  | [], e => .ok .nx e
  | d :: ds, e => match g d e with
    | none => .bad
    | some e1 => (f e1).bind fun fl e2 => match fl with
      | .nx => forL g f ds e2
      | .ct => forL g f ds e2
      | .bk => .ok .nx e2
      | .rt t => .ok (.rt t) e2
def forS (fi : Nv → Out (List D)) (g : Sd) (f : Sm) : Sm := fun e => (fi e).bind fun ds e1 => forL g f ds e1
section
variable {X : Cx} {W : WX} {tg iter : Expr} {body : List Stmt} {f : Sm} {fi : Nv → Out (List D)} {g : TG} {is : List Nat} {fg : Sd} {pos : Pos}
theorem Rel.more {K : PySem.W.Frag} {L : Nat → Option V} {σ : St} {e : Nv} {κ τ : List (V × Tr)} {H H' : Hp} {p : V × Tr} (R : Rel K L σ e (κ ++ τ) H) (h : St8 K H' (p :: (κ ++ (τ ++ prs σ e)))) : Rel K L σ e (p :: (κ ++ τ)) H' :=
  ⟨R.len, R.ok, by rw [List.cons_append, List.append_assoc]; exact h⟩
theorem Rel.assoc {K : PySem.W.Frag} {L : Nat → Option V} {σ : St} {e : Nv} {κ τ : List (V × Tr)} {H : Hp} (R : Rel K L σ e (κ ++ τ) H) : St8 K H (κ ++ (τ ++ prs σ e)) := by
  rw [← List.append_assoc]
  exact R.st
theorem ss_for (hp : PassesOwn (model X.prog X.w) X.A X.env X.xe) (hc : X.calm = true) (hi : SI X W tg iter fi) (hg : SG X tg g is fg) (hb : SSs X W body f) (hs : ∀ x, foldedSetIterable iter X.env x = pure x := by intro _; rfl) :
    SS X W (.For tg iter body [] pos) (forS fi fg f) := by
  obtain ⟨pg, og⟩ := hg
  refine PS.imp (ps_for hp hc hi pg hb hs) fun D σ H ⟨L, e, τ, R, q⟩ => ?_
  refine ⟨L, e, τ, R, (Fin.pst rfl q).mono (.refl _) fun ds e1 _ q1 J H1 κ hJ R1 => ?_⟩
  refine ⟨fun i m σ' H' => ∃ e', σ'.length = σ.length ∧ i ≤ ds.length ∧ m = ds.length - i ∧ Rel X.K L σ' e' (κ ++ τ) H' ∧ Fin X.K X.mg W L σ.length τ D (forL fg f (ds.drop i) e'), ⟨_, e1, rfl, Nat.zero_le _, rfl, R1, q1⟩, ?_⟩
  rintro i m σ' H' ⟨e', hl, hi', rfl, R', q'⟩
  by_cases hlt : i < ds.length
  · refine .inr ⟨hJ.go i H' _ hlt R'.assoc, fun σ2 H2 => ∃ e2, σ2.length = σ.length ∧ i + 1 ≤ ds.length ∧ Rel X.K L σ2 e2 (κ ++ τ) H2 ∧ Fin X.K X.mg W L σ.length τ D (forL fg f (ds.drop (i + 1)) e2),
      fun σ2 H2 ⟨e2, k1, k2, k3, k4⟩ => ⟨ds.length - (i + 1), by omega, e2, k1, k2, rfl, k3, k4⟩, fun x H2 y => ?_⟩
    have hd : ds[i]? = some ds[i] := List.getElem?_eq_getElem hlt
    have R2 := R'.more (hJ.yld i _ H' _ x H2 hd R'.assoc y)
    rw [List.drop_eq_getElem_cons hlt] at q'
    unfold forL at q'
    split at q'
    · exact q'.elim
    · rename_i e2 hge
      refine og L σ' e' e2 _ H2 x _ _ R2 hge fun σ2 ho R3 => ⟨L, e2, κ ++ τ, R3, ?_⟩
      have hl2 : σ2.length = σ.length := ho.1.trans hl
      rw [hl2]
      cases hf : f e2 with
      | ok fl e3 =>
        rw [hf] at q'
        cases fl with
        | nx => exact fun σ3 H3 hl3 R4 => ⟨e3, hl3, hlt, R4, q'⟩
        | ct => exact fun σ3 H3 hl3 R4 => ⟨e3, hl3, hlt, R4, q'⟩
        | bk => exact fun σ3 H3 hl3 R4 => q' σ3 H3 hl3 (R4.subl (List.sublist_append_right _ _))
        | rt t => exact fun v σ3 H3 hl3 R4 => q' v σ3 H3 hl3 (R4.subl ((List.sublist_append_right _ _).cons_cons _))
      | exc x e3 =>
        rw [hf] at q'
        exact Fin.subl (D := D) (o := .exc x e3) q' (List.sublist_append_right _ _)
      | bad => rw [hf] at q'; exact q'
  · have hn : i = ds.length := by omega
    subst hn
    rw [List.drop_length] at q'
    exact .inl ⟨hJ.stop H' _ R'.assoc, q' σ' H' hl (R'.subl (List.sublist_append_right _ _))⟩
end
end Vs

set_option Elab.async false
set_option linter.all false
set_option maxRecDepth 100000
set_option maxHeartbeats 2000000
/-! Vs15: comprehensions. -/
namespace Vs
open PySem PySem.Spec L2
open PyProof.Rows hiding St

def Good {α : Type} (o : Out α) (k : α → Nv → Prop) : Prop := match o with
  | .ok a e => k a e
  | _ => False
section
variable {K : PySem.W.Frag} {mg : Str → Option Value} {W : WX} {L : Nat → Option V} {σ : St} {τ : List (V × Tr)} {α β : Type} {o : Out α} {f : α → Nv → Out β}
theorem Good.of_nox {k : α → Nv → Prop} (h : Pst K mg W L σ τ (nox o) k) : Good o k := by
  cases o with
  | ok a e => exact h
  | exc x e => exact h.elim
  | bad => exact h.elim
theorem Good.bind {k : β → Nv → Prop} (h : Good (o.bind f) k) : Good o fun a e => Good (f a e) k := by
  cases o with
  | ok a e => exact h
  | exc x e => exact h.elim
  | bad => exact h.elim
theorem Good.pst {k k' : α → Nv → Prop} (h : Good o k) (g : ∀ a e, o = .ok a e → k a e → k' a e) : Pst K mg W L σ τ o k' := by
  cases o with
  | ok a e => exact g a e rfl h
  | exc x e => exact h.elim
  | bad => exact h.elim
end
/-- the names of a block forgotten -/
def wipeE : List Nat → Nv → Nv
  | [], e => e
  | v :: vs, e => (wipeE vs e).set v none
theorem wipeE_length (vs : List Nat) (e : Nv) : (wipeE vs e).length = e.length := by
  induction vs with
  | nil => rfl
  | cons v vs ih => unfold wipeE; rw [List.length_set, ih]
theorem wipeE_at {vs : List Nat} {e : Nv} {v : Nat} (h : v ∈ vs) (hl : v < e.length) : (wipeE vs e)[v]? = some none := by
  induction vs with
  | nil => simp at h
  | cons w vs ih =>
    unfold wipeE
    by_cases hw : w = v
    · subst hw
      rw [List.getElem?_set_self (by rw [wipeE_length]; exact hl)]
    · rw [List.getElem?_set_ne hw]
      exact ih (by simpa [Ne.symm hw] using h)
theorem wipe_at {vs : List Nat} {σ : St} {j : Nat} : (wipe σ vs)[j]? = if j ∈ vs ∧ j < σ.length then some none else σ[j]? := by
  induction vs with
  | nil => simp [wipe]
  | cons w vs ih =>
    unfold wipe
    by_cases hw : w = j
    · subst hw
      by_cases hl : w < σ.length
      · rw [List.getElem?_set_self (by rw [wipe_length]; exact hl), if_pos ⟨List.mem_cons_self, hl⟩]
      · rw [List.getElem?_eq_none (by rw [List.length_set, wipe_length]; omega), if_neg (fun z => hl z.2), List.getElem?_eq_none (by omega)]
    · rw [List.getElem?_set_ne hw, ih]
      simp [Ne.symm hw]
theorem wipe_same {vs is : List Nat} {σ σ2 : St} (h : Out1 is (wipe σ vs) σ2) (s : ∀ i ∈ is, i ∈ vs) : wipe σ2 vs = wipe σ vs := by
  apply List.ext_getElem?
  intro j
  have hl : σ2.length = σ.length := h.1.trans (wipe_length σ vs)
  rw [wipe_at, wipe_at, hl]
  by_cases hj : j ∈ vs ∧ j < σ.length
  · rw [if_pos hj, if_pos hj]
  · rw [if_neg hj, if_neg hj]
    by_cases hjv : j ∈ vs
    · have : σ.length ≤ j := by
        by_cases q : j < σ.length
        · exact absurd ⟨hjv, q⟩ hj
        · omega
      rw [List.getElem?_eq_none (by omega), List.getElem?_eq_none (by omega)]
    · rw [h.2 j fun z => hjv (s j z), wipe_at, if_neg hj]
section
variable {K : PySem.W.Frag} {L : Nat → Option V} {σ σ2 : St} {e : Nv} {τ : List (V × Tr)} {H : Hp} {vs : List Nat}
theorem wipeE_rel (R : Rel K L σ e τ H) : ∀ vs : List Nat, Rel K L σ (wipeE vs e) τ H
  | [] => R
  | v :: vs => (wipeE_rel R vs).lost
theorem prs_wipe : ∀ (vs : List Nat) (σ : St) (e : Nv), e.length = σ.length → (∀ v ∈ vs, v < e.length → e[v]? = some none) → prs (wipe σ vs) e = prs σ e
  | [], _, _, _, _ => rfl
  | v :: vs, σ, e, hl, h => by
    unfold wipe
    by_cases hv : v < e.length
    · rw [prs_none none (h v List.mem_cons_self hv), prs_wipe vs σ e hl fun w hw => h w (List.mem_cons_of_mem _ hw)]
    · rw [List.set_eq_of_length_le (by rw [wipe_length]; omega), prs_wipe vs σ e hl fun w hw => h w (List.mem_cons_of_mem _ hw)]
/-- into the block, and out -/
theorem wipe_in (R : Rel K L σ e τ H) (vs : List Nat) : Rel K L (wipe σ vs) (wipeE vs e) τ H := by
  have R1 := wipeE_rel R vs
  refine ⟨by rw [wipeE_length, wipe_length]; exact R.len, fun i t b hi => ?_, ?_⟩
  · obtain ⟨v, h1, h2⟩ := R1.ok i t b hi
    refine ⟨v, ?_, h2⟩
    rw [wipe_at, if_neg ?_]
    · exact h1
    · rintro ⟨h3, h4⟩
      rw [wipeE_at h3 (by rw [R.len]; exact h4)] at hi
      cases hi
  · rw [prs_wipe vs σ _ R1.len fun v hv hl => wipeE_at hv (by rw [wipeE_length] at hl; exact hl)]
    exact R1.st
theorem wipe_out (R : Rel K L (wipe σ vs) e τ H) (he : wipeE vs e = e) : Rel K L σ e τ H := by
  have hl : e.length = σ.length := R.len.trans (wipe_length σ vs)
  refine ⟨hl, fun i t b hi => ?_, ?_⟩
  · obtain ⟨v, h1, h2⟩ := R.ok i t b hi
    exact ⟨v, (wipe_some h1).1, h2⟩
  · have := R.st
    rw [prs_wipe vs σ e hl fun v hv hlt => by rw [← he]; exact wipeE_at hv hlt] at this
    exact this
theorem wipeE_idem (vs : List Nat) (e : Nv) : wipeE vs (wipeE vs e) = wipeE vs e := by
  have key : ∀ us : List Nat, (∀ u ∈ us, u ∈ vs) → wipeE us (wipeE vs e) = wipeE vs e := by
    intro us
    induction us with
    | nil => intro _; rfl
    | cons u us ih =>
      intro h
      show (wipeE us (wipeE vs e)).set u none = wipeE vs e
      rw [ih fun w hw => h w (List.mem_cons_of_mem _ hw)]
      by_cases hu : u < e.length
      · exact set_self (wipeE_at (h u List.mem_cons_self) hu)
      · exact List.set_eq_of_length_le (by rw [wipeE_length]; omega)
  exact key vs fun _ h => h
/-- one more item -/
theorem Rel.push {a : Addr} {ts : List Tr} {y : V} {t : Tr} (R : Rel K L σ e ((.ref a, .lst ts) :: (y, t) :: τ) H) : ∃ acc, H a = some (.lst acc) ∧ acc.length = ts.length ∧ Rel K L σ e ((.ref a, .lst (ts ++ [t])) :: τ) (upd H a (.lst (acc ++ [y]))) := by
  have s0 : St8 K H ((.ref a, .lst ts) :: ((y, t) :: τ ++ prs σ e)) := R.st
  obtain ⟨its, h1, h2, h3⟩ := StO.openL s0
  refine ⟨its.map (·.1), h2, by rw [h1]; simp, R.len, R.ok, ?_⟩
  have h4 : StO K [a] H ((its ++ [(y, t)]) ++ (τ ++ prs σ e)) := by
    rw [List.append_assoc]
    exact h3
  have h5 := StO.closeL h4 (by simp)
  rw [List.map_append, List.map_append, ← h1] at h5
  exact h5
end

def ytt : Tt := fun e => .ok true e
abbrev SPt (X : Cx) (W : WX) (ifs : List Expr) (g : Tt) : Prop := PTs X ifs (tTs X.K X.mg W g)
theorem PTs.imp {X : Cx} {ifs : List Expr} {t t' : TT} (h : PTs X ifs t) (g : ∀ σ H Q, t' σ H Q → t σ H Q) : PTs X ifs t' := ⟨fun pins s σ H Q I q => h.run pins s σ H Q I (g σ H Q q)⟩
theorem spt_nil {X : Cx} {W : WX} : SPt X W [] ytt := PTs.imp pts_nil fun σ H Q ⟨L, e, τ, R, q⟩ => q H R
theorem spt_one {X : Cx} {W : WX} {c : Expr} {g : Tt} (h : STt X W c g) : SPt X W [c] g := pts_one h

/-- [elt for .. in .. if ..] -/
def lcL (vs : List Nat) (g : Sd) (ft : Tt) (fe : Xp) : List D → List Tr → Nv → Out (List Tr)
  | [], acc, e => .ok acc e
  | d :: ds, acc, e => match g d e with
    | none => .bad
    | some e1 => (ft e1).bind fun b e2 => if b = true then (ow fe e2).bind fun t e3 => if acc.length < sizeLine then lcL vs g ft fe ds (acc ++ [t]) (wipeE vs e3) else .bad else lcL vs g ft fe ds acc (wipeE vs e2)
def lcT (vs : List Nat) (fi : Nv → Out (List D)) (g : Sd) (ft : Tt) (fe : Xp) : Nv → Out Tr := fun e => (fi e).bind fun ds e1 => nox ((lcL vs g ft fe ds [] (wipeE vs e1)).bind fun ts e2 => .ok (.lst ts) e2)
def lcX (vs : List Nat) (fi : Nv → Out (List D)) (g : Sd) (ft : Tt) (fe : Xp) : Xp := fun e => (lcT vs fi g ft fe e).bind fun t e1 => .ok (.tmp t) e1
section
variable {K : PySem.W.Frag} {mg : Str → Option Value} {W : WX} {vs is : List Nat} {fi : Nv → Out (List D)} {g : TG} {fg : Sd} {ft : Tt} {fe : Xp}
theorem lc_reads (og : GOk K g is fg) (hs : ∀ i ∈ is, i ∈ vs) (σ : St) (H : Hp) (Q : VK) (h : tR K mg W pO (lcT vs fi fg ft fe) σ H Q) : tLc (tIt K mg W fi) g (tTs K mg W0 ft) (tR K mg W0 pO (ow fe)) vs σ H Q := by
  obtain ⟨L, e, τ, R, q⟩ := h
  refine ⟨L, e, τ, R, (Pst.bind q).mono (.refl _) fun ds e1 _ q1 J H1 κ hJ R1 A hA => ?_⟩
  have q2 := (Good.of_nox q1).bind
  refine ⟨fun i m H' => ∃ e' ts, i ≤ ds.length ∧ m = ds.length - i ∧ wipeE vs e' = e' ∧ Rel K L (wipe σ vs) e' (κ ++ ((.ref A, .lst ts) :: τ)) H' ∧
      Good (lcL vs fg ft fe (ds.drop i) ts e') fun a e2 => ∀ v H' τ', pO σ τ (.lst a) v τ' → Rel K L σ e2 τ' H' → Q v H', ⟨_, wipeE vs e1, [], Nat.zero_le _, rfl, wipeE_idem vs e1, ?_, q2⟩, ?_⟩
  · have R2 := wipe_in R1 vs
    have R3 : Rel K L (wipe σ vs) (wipeE vs e1) ((.ref A, .lst []) :: (κ ++ τ)) (upd H1 A (.lst [])) := R2.map fun s => St8.newL (its := []) s hA
    exact R3.perm List.perm_middle.symm
  · rintro i m H' ⟨e', ts, hi', rfl, he', R', q'⟩
    by_cases hlt : i < ds.length
    · refine .inr ⟨hJ.go i H' _ hlt R'.assoc, fun H2 => ∃ e2 ts2, i + 1 ≤ ds.length ∧ wipeE vs e2 = e2 ∧ Rel K L (wipe σ vs) e2 (κ ++ ((.ref A, .lst ts2) :: τ)) H2 ∧
          Good (lcL vs fg ft fe (ds.drop (i + 1)) ts2 e2) (fun a e2 => ∀ v H' τ', pO σ τ (.lst a) v τ' → Rel K L σ e2 τ' H' → Q v H'), fun H2 ⟨e2, ts2, k1, k2, k3, k4⟩ => ⟨ds.length - (i + 1), by omega, e2, ts2, k1, rfl, k2, k3, k4⟩, fun x H2 y => ?_⟩
      have hd : ds[i]? = some ds[i] := List.getElem?_eq_getElem hlt
      have R2 := R'.more (hJ.yld i _ H' _ x H2 hd R'.assoc y)
      rw [List.drop_eq_getElem_cons hlt] at q'
      unfold lcL at q'
      split at q'
      · exact q'.elim
      · rename_i e2 hge
        refine og L (wipe σ vs) e' e2 _ H2 x _ _ R2 hge fun σ2 ho R3 => ⟨wipe_same ho hs, L, e2, _, R3, (Good.bind q').pst fun b e3 _ q3 H3 R4 => ?_⟩
        by_cases hb : b = true
        · rw [if_pos hb] at q3 ⊢
          refine ⟨L, e3, _, R4, (Good.bind q3).pst fun t e4 _ q4 w H4 τ4 p4 R5 => ?_⟩
          have p4 : τ4 = (w, t) :: (κ ++ ((.ref A, .lst ts) :: τ)) := p4
          subst p4
          have R6 : Rel K L σ2 e4 ((.ref A, .lst ts) :: (w, t) :: (κ ++ τ)) H4 := R5.perm (((List.perm_middle (l₁ := κ)).cons _).trans (.swap _ _ _))
          obtain ⟨acc, h1, h2, R7⟩ := R6.push
          split at q4
          · rename_i hz
            have R8 := wipe_in R7 vs
            rw [wipe_same ho hs] at R8
            exact ⟨acc, h1, by omega, wipeE vs e4, ts ++ [t], hlt, wipeE_idem vs e4, R8.perm List.perm_middle.symm, q4⟩
          · exact q4.elim
        · rw [if_neg hb] at q3 ⊢
          have R8 := wipe_in R4 vs
          rw [wipe_same ho hs] at R8
          exact ⟨wipeE vs e3, ts, hlt, wipeE_idem vs e3, R8, q3⟩
    · have hn : i = ds.length := by omega
      subst hn
      rw [List.drop_length] at q'
      refine .inl ⟨hJ.stop H' _ R'.assoc, ?_⟩
      exact q' (.ref A) H' _ rfl (wipe_out (R'.subl (List.sublist_append_right _ _)) he')
end
section
variable {X : Cx} {W : WX} {elt tg iter : Expr} {ifs : List Expr} {scope : Scope} {own : List (Str × Nat)} {pos spos py : Pos} {i : Nat} {y : Str} {is : List Nat} {fi : Nv → Out (List D)} {g : TG} {fg : Sd} {ft : Tt} {fe : Xp}
theorem se_lc (hc : X.calm = true) (hN : X.N.Nodup) (hi : SI X W tg iter fi) (ok : BlkOk X.N X.env.scope scope own)
    (hg : ∀ (s : Shared) (H : Hp) (C : Addr) (cl : List (Str × Addr)) (fp : List Addr), SG (X.blk s H scope (compEnvC scope cl C X.env) fp) tg g is fg)
    (ht : ∀ (s : Shared) (H : Hp) (C : Addr) (cl : List (Str × Addr)) (fp : List Addr), SPt (X.blk s H scope (compEnvC scope cl C X.env) fp) W0 ifs ft)
    (he : ∀ (s : Shared) (H : Hp) (C : Addr) (cl : List (Str × Addr)) (fp : List Addr), SE (X.blk s H scope (compEnvC scope cl C X.env) fp) W0 elt fe) (h2 : ∀ i ∈ is, i ∈ own.map (·.2) := by decide) (hs : ∀ x, foldedSetIterable iter X.env x = pure x := by intro _; rfl) :
    SE X W (.ListComp elt [⟨tg, iter, ifs, 0⟩] scope pos) (lcX (own.map (·.2)) fi fg ft fe) := by
  have og : GOk X.K g is fg := (hg X.s_0 X.H_0 0 [] []).2
  refine PE.imp (pe_lc (tt := tTs X.K X.mg W0 ft) (te := tR X.K X.mg W0 pO (ow fe)) hc hN hi ok (fun s H C cl fp => (hg s H C cl fp).1) ht (fun s H C cl fp => SE.own (he s H C cl fp)) hs) fun σ H Q ⟨L, e, τ, R, q⟩ => ?_
  refine lc_reads og h2 σ H Q ⟨L, e, τ, R, (Pst.bind q).mono (.refl _) fun t e1 _ q1 v H1 τ1 p1 R1 => q1 v H1 τ1 p1 R1⟩
/-- name = [..], on one line -/
def asT (i : Nat) (f : Nv → Out Tr) : Sm := fun e => (f e).bind fun t e1 => if i < e1.length then .ok .nx (e1.set i (some (t, false))) else .bad
theorem ss_setLc (hc : X.calm = true) (hN : X.N.Nodup) (hy : X.N[i]? = some y) (hyl : X.env.scope.names.lookup y = some .local)
    (hsw : swapsWith (.ListComp elt [⟨tg, iter, ifs, 0⟩] scope pos) (some (.Name y py)) spos.line X.env = pure true) (hi : SI X W tg iter fi) (ok : BlkOk X.N X.env.scope scope own)
    (hg : ∀ (s : Shared) (H : Hp) (C : Addr) (cl : List (Str × Addr)) (fp : List Addr), SG (X.blk s H scope (compEnvC scope cl C X.env) fp) tg g is fg)
    (ht : ∀ (s : Shared) (H : Hp) (C : Addr) (cl : List (Str × Addr)) (fp : List Addr), SPt (X.blk s H scope (compEnvC scope cl C X.env) fp) W0 ifs ft)
    (he : ∀ (s : Shared) (H : Hp) (C : Addr) (cl : List (Str × Addr)) (fp : List Addr), SE (X.blk s H scope (compEnvC scope cl C X.env) fp) W0 elt fe) (h2 : ∀ i ∈ is, i ∈ own.map (·.2) := by decide) (hs : ∀ x, foldedSetIterable iter X.env x = pure x := by intro _; rfl) :
    SS X W (.Assign [.Name y py] (.ListComp elt [⟨tg, iter, ifs, 0⟩] scope pos) spos) (asT i (lcT (own.map (·.2)) fi fg ft fe)) := by
  have og : GOk X.K g is fg := (hg X.s_0 X.H_0 0 [] []).2
  refine PS.imp (ps_setLc (tt := tTs X.K X.mg W0 ft) (te := tR X.K X.mg W0 pO (ow fe)) hc hN hy hyl hsw hi ok (fun s H C cl fp => (hg s H C cl fp).1) ht (fun s H C cl fp => SE.own (he s H C cl fp)) hs) fun D σ H ⟨L, e, τ, R, q⟩ => ?_
  refine lc_reads og h2 σ H _ (st_fst R q fun t e1 v H1 τ1 _ q1 p1 R1 => ?_)
  have p1 : τ1 = (v, t) :: τ := p1
  subst p1
  split at q1
  · rename_i hl
    rw [R1.len] at hl
    exact q1 _ H1 (by rw [List.length_set]) (R1.store hl)
  · exact q1.elim
end
end Vs

set_option Elab.async false
set_option linter.all false
set_option maxRecDepth 100000
set_option maxHeartbeats 2000000
/-! Vs16: items of any list, methods of lists, stores at a place. -/
namespace Vs
open PySem PySem.Spec L2
open PyProof.Rows hiding St

theorem upd_id {H : Hp} {a : Addr} {o : HO} (h : H a = some o) : upd H a o = H := by
  funext b
  by_cases hb : b = a
  · rw [hb, upd_same, h]
  · rw [upd_ne hb]
def tat : Tr → Int → Option D
  | .leaf (.tuple ds), i => atI ds i
  | .leaf (.list ds), i => atI ds i
  | .lst ts, i => (match atI ts i with
    | some (.leaf d) => some d
    | _ => none)
  | _, _ => none
section
variable {K : PySem.W.Frag} {L : Nat → Option V} {σ : St} {e : Nv} {τ : List (V × Tr)} {H : Hp} {v : V} {t : Tr} {i : Int} {d : D} {r : Rv}
theorem st_at {l : List (V × Tr)} (h : St8 K H ((v, t) :: l)) (q : tat t i = some d) : ∃ k a vs w, v = .ref a ∧ SQ K k H a vs ∧ atI vs i = some w ∧ St8 K H ((w, .leaf d) :: (v, t) :: l) := by
  have go : ∀ {k : Bool} {ds : List D}, titems t = some (k, ds) → atI ds i = some d → ∃ k a vs w, v = .ref a ∧ SQ K k H a vs ∧ atI vs i = some w ∧ St8 K H ((w, .leaf d) :: (v, t) :: l) := by
    intro k ds hq hat
    obtain ⟨a, vs, h0, h1, h2, h3⟩ := St8.itemsX h hq
    obtain ⟨j, j1, j2⟩ := atI_some hat
    obtain ⟨w, w1, w2⟩ := zip_at h2 j2
    refine ⟨k, a, vs, w, h0, h1.sq hq, atI_of (by rw [h2]; exact j1) w1, ?_⟩
    have := StO.dup_mem h3 (List.mem_append_left _ w2)
    exact this.subl ((List.sublist_append_right _ _).cons_cons _)
  cases t with
  | leaf d' =>
    cases d' with
    | tuple ds => exact go rfl q
    | list ds => exact go rfl q
    | _ => cases q
  | lst ts =>
    have q : (match atI ts i with
      | some (.leaf d) => some d
      | _ => none) = some d := q
    split at q
    · rename_i d' hat
      cases q
      have hd := h.dp
      rw [view_lst] at hd
      cases hd with
      | lst _ _ =>
        rename_i a vs _ _
        obtain ⟨its, h1, h2, h3⟩ := StO.openL h
        obtain ⟨j, j1, j2⟩ := atI_some hat
        rw [h1, List.getElem?_map] at j2
        cases hj : its[j]? with
        | none => rw [hj] at j2; cases j2
        | some p =>
          rw [hj] at j2
          obtain ⟨w, u⟩ := p
          have j2 : u = .leaf d := Option.some.inj j2
          subst j2
          refine ⟨false, a, its.map (·.1), w, rfl, SqL.of h2, atI_of (j := j) (by rw [List.length_map]; rw [h1, List.length_map] at j1; exact j1) (by rw [List.getElem?_map, hj]; rfl), ?_⟩
          have hm : (w, Tr.leaf d) ∈ its ++ l := List.mem_append_left _ (List.mem_of_getElem? hj)
          have h4 := StO.closeL (its := its) (l := (w, .leaf d) :: l) ((StO.dup_mem h3 hm).perm List.perm_middle.symm) (by simp)
          rw [upd_id h2, ← h1] at h4
          exact h4.perm (.swap _ _ _)
    · cases q
  | dct _ _ => cases q
theorem Hd.at_ (h : Hd σ τ r v) (R : Rel K L σ e τ H) (q : rtree r e = some t) (q2 : tat t i = some d) : ∃ k a vs w, v = .ref a ∧ SQ K k H a vs ∧ atI vs i = some w ∧ Rel K L σ e ((w, .leaf d) :: τ) H := by
  have go : (v, t) ∈ τ ++ prs σ e := by
    cases r with
    | tmp t' =>
      cases q
      exact List.mem_append_left _ h
    | «at» j =>
      have h : σ[j]? = some (some v) := h
      unfold rtree at q
      dsimp only at q
      split at q
      · rename_i t' b he
        cases q
        exact List.mem_append_right _ ((prs_take h he).symm.subset List.mem_cons_self)
      · cases q
  obtain ⟨m, p⟩ := perm_of_mem go
  obtain ⟨k, a, vs, w, h0, h1, h2, h3⟩ := st_at (R.st.perm p) q2
  exact ⟨k, a, vs, w, h0, h1, h2, R.len, R.ok, h3.perm ((p.symm).cons _)⟩
end
def ixV (r s : Rv) (e : Nv) : Out Rv :=
  match rview s e, rtree r e with
  | some (.int i), some t => (match tat t i with
    | some d => .ok (.tmp (.leaf d)) e
    | none => .bad)
  | _, _ => .bad
def ixX (fa fb : Xp) : Xp := fun e => (fa e).bind fun r e1 => (fb e1).bind fun s e2 => ixV r s e2
section
variable {X : Cx} {W : WX} {a b ex : Expr} {es : List Expr} {fa fb f : Xp} {fs : List Xp} {pos : Pos}
theorem se_ix (ha : SE X W a fa) (hb : SE X W b fb) (hs : PlainIx b) : SE X W (.Subscript a b pos) (ixX fa fb) := by
  refine se_two (g := ixV) (pe_ix (ix_list.or ix_tup) ha hb hs) fun L σ e τ τ0 H x y r1 r2 Q sb R d1 d2 q => ?_
  unfold ixV at q
  split at q
  · rename_i i t hi ht
    have e2 := dp_int (d2.dp R hi)
    split at q
    · rename_i d hat
      obtain ⟨k, pa, vs, w, ea, sa, hv, R1⟩ := d1.at_ R ht hat
      have R3 : Rel X.K L σ e ((w, .leaf d) :: τ0) H := R1.subl (sb.cons_cons _)
      cases k with
      | true => exact .inr ⟨pa, vs, i, w, ea, e2, sa, hv, q _ _ _ rfl R3⟩
      | false => exact .inl ⟨pa, vs, i, w, ea, e2, sa, hv, q _ _ _ rfl R3⟩
    · exact q.elim
  · exact q.elim
end

/-! ### xs.append, xs.pop, xs.extend of a name -/
section
variable {K : PySem.W.Frag} {L : Nat → Option V} {σ : St} {e : Nv} {τ : List (V × Tr)} {H : Hp} {v : V} {t : Tr} {i : Nat} {b : Bool} {ts : List Tr}
/-- a name's own list, taken out and opened -/
theorem Rel.lst (R : Rel K L σ e τ H) (he : e[i]? = some (some (.lst ts, b))) (hv : σ[i]? = some (some v)) : ∃ (a : Addr) (its : List (V × Tr)), v = .ref a ∧ ts = its.map (·.2) ∧ H a = some (.lst (its.map (·.1))) ∧ StO K [a] H (its ++ (τ ++ prs σ (e.set i none))) := by
  obtain ⟨w, h1, h2, R1⟩ := R.take he
  rw [hv] at h1
  cases h1
  have s0 : St8 K H ((v, .lst ts) :: (τ ++ prs σ (e.set i none))) := R1.st
  have hd := s0.dp
  rw [view_lst] at hd
  cases hd with
  | lst _ _ =>
    rename_i a vs _ _
    obtain ⟨its, k1, k2, k3⟩ := StO.openL s0
    exact ⟨a, its, rfl, k1, k2, k3⟩
/-- .. closed and put back -/
theorem Rel.lstBack {a : Addr} {its : List (V × Tr)} {τ' : List (V × Tr)} (R : Rel K L σ e τ H) (he : e[i]? = some (some (t, b))) (hv : σ[i]? = some (some (.ref a))) {H' : Hp} (h : StO K [a] H' (its ++ (τ' ++ prs σ (e.set i none)))) :
    Rel K L σ (e.set i (some (.lst (its.map (·.2)), b))) τ' (upd H' a (.lst (its.map (·.1)))) := by
  obtain ⟨w, h1, h2, R1⟩ := R.take he
  rw [hv] at h1
  cases h1
  have s1 := StO.closeL h (by simp)
  have R2 : Rel K L σ (e.set i none) ((.ref a, .lst (its.map (·.2))) :: τ') (upd H' a (.lst (its.map (·.1)))) := ⟨R1.len, R1.ok, s1⟩
  have R3 := R2.put (i := i) hv h2 (by rw [List.getElem?_set_self (lt_of_at he)])
  rw [set_set'] at R3
  exact R3
end
def isL (e : Nv) (i : Nat) : Bool := match e[i]? with
  | some (some (.lst _, _)) => true
  | _ => false
def apV (i : Nat) (t : Tr) (e1 : Nv) : Out Rv := match e1[i]? with
  | some (some (.lst ts, b)) => if ts.length < sizeLine then .ok (.tmp (.leaf .none)) (e1.set i (some (.lst (ts ++ [t]), b))) else .bad
  | _ => .bad
def apX (i : Nat) (f : Xp) : Xp := fun e => if isL e i = true then (ow f e).bind (apV i) else .bad
/-- the data's items, new: no other names them -/
def exV (i : Nat) (r : Rv) (e1 : Nv) : Out Rv := match r with
  | .tmp (.lst us) => (match e1[i]? with
    | some (some (.lst ts, b)) => if ts.length + us.length ≤ sizeLine then .ok (.tmp (.leaf .none)) (e1.set i (some (.lst (ts ++ us), b))) else .bad
    | _ => .bad)
  | _ => .bad
def exX (i : Nat) (f : Xp) : Xp := fun e => if isL e i = true then (f e).bind (exV i) else .bad
def poX (i : Nat) : Xp := fun e => match e[i]? with
  | some (some (.lst ts, b)) => (match ts.getLast? with
    | some t => .ok (.tmp t) (e.set i (some (.lst ts.dropLast, b)))
    | none => .bad)
  | _ => .bad
section
variable {X : Cx} {W : WX} {i : Nat} {x : Str} {ex : Expr} {f : Xp} {npos apos cpos : Pos}
theorem isL_ty {K : PySem.W.Frag} {L : Nat → Option V} {σ : St} {e : Nv} {τ : List (V × Tr)} {H : Hp} {i : Nat} (R : Rel K L σ e τ H) (h : isL e i = true) : ∃ v, σ[i]? = some (some v) ∧ tyV K "list" v H := by
  unfold isL at h
  split at h
  · rename_i ts b he
    obtain ⟨v, h1, _⟩ := R.ok i _ b he
    obtain ⟨a, its, rfl, k1, k2, k3⟩ := R.lst he h1
    exact ⟨_, h1, .inl ⟨rfl, _, SqL.of k2⟩⟩
  · cases h
theorem perm_set {α : Type} : ∀ {l : List α} {j : Nat} {x : α} (h : j < l.length), (x :: l).Perm (l[j] :: l.set j x)
  | y :: l, 0, x, h => .swap _ _ _
  | y :: l, j + 1, x, h => by
    have h' : j < l.length := by simpa using h
    rw [List.set_cons_succ, List.getElem_cons_succ]
    exact (List.Perm.swap _ _ _).trans (((perm_set (x := x) h').cons y).trans (.swap _ _ _))
theorem StO.less {K : PySem.W.Frag} {no no' : List Addr} {H : Hp} {l : List (V × Tr)} (h : StO K no H l) (s : no'.Sublist no) : StO K no' H l := by
  obtain ⟨F, S, h1, h2, h3, h4, h5⟩ := h
  exact ⟨F, S, h1, h2, h3, h4, fun a ha => h5 a (s.subset ha)⟩
theorem tvar_fst {K : PySem.W.Frag} {L : Nat → Option V} {σ : St} {e : Nv} {τ : List (V × Tr)} {H : Hp} {Q : VK} {v : V} (h : σ[i]? = some (some v)) (q : Q v H) : tVar i σ H Q := ⟨v, h, q⟩
theorem se_append (hN : X.N[i]? = some x) (hv : Vis X.env.scope x) (ha : SE X W ex f) (hd : (x == ("__debug__" : Str)) = false := by decide) (hcd : (x == ("__classdict__" : Str)) = false := by decide)
    (hbase : attributeBase (.Name x npos) "append" X.env (eval (.Name x npos) X.env) = eval (.Name x npos) X.env := by rfl)
    (hfew : ((backTo cpos (starEach [ex] X.env)).all (fun x => !x.1) && (backToKw cpos (keywordEach [] X.env)).all (fun x => x.1.isSome)
      && decide ([ex].length + ([] : List Keyword).length + (if ([] : List Keyword).isEmpty then 0 else 1) < 30)) = true := by rfl)
    (hline : (apos.endLine == cpos.line) = true := by rfl) (hs : starEach [ex] X.env = (false, eval ex X.env) :: starEach [] X.env := by rfl) (hplain : (backTo cpos (starEach [] X.env)).any (·.1) = false := by rfl) :
    SE X W (.Call (.Attribute (.Name x npos) "append" apos) [ex] [] cpos) (apX i f) := by
  refine PE.imp (pe_bm F.plainAttrs_list F.slot_list_append F.type_list_append mt_append (pe_var (i := i) hN hv hd hcd) (pa_cons (SE.own ha) pa_nil hs) hbase hfew hline hs hplain) fun σ H Q ⟨L, e, τ, R, q⟩ => ?_
  unfold apX at q
  split at q
  · rename_i hL
    obtain ⟨v, hv, hty⟩ := isL_ty R hL
    refine ⟨v, hv, hty, ?_⟩
    refine tR.fst (g := apV i) R q fun t e1 w H1 τ1 _ q1 p1 R1 => ?_
    have p1 : τ1 = (w, t) :: τ := p1
    subst p1
    unfold apV at q1
    split at q1
    · rename_i ts b he
      obtain ⟨a, its, rfl, h1, h2, h3⟩ := R1.lst he hv
      split at q1
      · rename_i hz
        have hl : (its.map (·.1)).length = ts.length := by rw [h1]; simp
        refine ⟨a, _, w, rfl, rfl, h2, by omega, q1 _ _ _ rfl ?_⟩
        have h4 : StO X.K [a] H1 ((its ++ [(w, t)]) ++ (τ ++ prs σ (e1.set i none))) := by
          rw [List.append_assoc]
          exact h3
        have R2 := R1.lstBack he hv h4
        rw [List.map_append, List.map_append, ← h1] at R2
        exact R2.atom fun _ => .non
      · exact q1.elim
    · exact q1.elim
  · exact q.elim
theorem se_extend (hN : X.N[i]? = some x) (hv : Vis X.env.scope x) (ha : SE X W ex f) (hd : (x == ("__debug__" : Str)) = false := by decide) (hcd : (x == ("__classdict__" : Str)) = false := by decide)
    (hbase : attributeBase (.Name x npos) "extend" X.env (eval (.Name x npos) X.env) = eval (.Name x npos) X.env := by rfl)
    (hfew : ((backTo cpos (starEach [ex] X.env)).all (fun x => !x.1) && (backToKw cpos (keywordEach [] X.env)).all (fun x => x.1.isSome)
      && decide ([ex].length + ([] : List Keyword).length + (if ([] : List Keyword).isEmpty then 0 else 1) < 30)) = true := by rfl)
    (hline : (apos.endLine == cpos.line) = true := by rfl) (hs : starEach [ex] X.env = (false, eval ex X.env) :: starEach [] X.env := by rfl) (hplain : (backTo cpos (starEach [] X.env)).any (·.1) = false := by rfl) :
    SE X W (.Call (.Attribute (.Name x npos) "extend" apos) [ex] [] cpos) (exX i f) := by
  refine PE.imp (pe_bm F.plainAttrs_list F.slot_list_extend F.type_list_extend mt_extend (pe_var (i := i) hN hv hd hcd) (pa_cons ha pa_nil hs) hbase hfew hline hs hplain) fun σ H Q ⟨L, e, τ, R, q⟩ => ?_
  unfold exX at q
  split at q
  · rename_i hL
    obtain ⟨v, hv, hty⟩ := isL_ty R hL
    refine ⟨v, hv, hty, ?_⟩
    refine tR.fst (g := exV i) R q fun r e1 w H1 τ1 _ q1 p1 R1 => ?_
    unfold exV at q1
    split at q1
    · rename_i us _
      have p1 : τ1 = (w, .lst us) :: τ := p1
      subst p1
      split at q1
      · rename_i ts b he
        obtain ⟨a, its, rfl, h1, h2, h3⟩ := R1.lst he hv
        split at q1
        · rename_i hz
          have h4 : StO X.K [a] H1 ((w, .lst us) :: (its ++ (τ ++ prs σ (e1.set i none)))) := h3.perm List.perm_middle
          have hdp := h4.dp
          rw [view_lst] at hdp
          cases hdp with
          | lst _ _ =>
            rename_i a2 _ _ _
            obtain ⟨its2, k1, k2, k3⟩ := StO.openL h4
            have hl : (its.map (·.1)).length = ts.length := by rw [h1]; simp
            have hl2 : (its2.map (·.1)).length = us.length := by rw [k1]; simp
            refine ⟨a, a2, _, _, rfl, rfl, h2, k2, by omega, q1 _ _ _ rfl ?_⟩
            have h5 : StO X.K [a] H1 ((its ++ its2) ++ (τ ++ prs σ (e1.set i none))) := (k3.less (List.sublist_cons_self _ _)).perm (by
              rw [List.append_assoc]
              exact List.perm_append_comm_assoc _ _ _)
            have R2 := R1.lstBack he hv h5
            rw [List.map_append, List.map_append, ← h1, ← k1] at R2
            exact R2.atom fun _ => .non
        · exact q1.elim
      · exact q1.elim
    · exact q1.elim
  · exact q.elim
theorem se_pop (hN : X.N[i]? = some x) (hv : Vis X.env.scope x) (hd : (x == ("__debug__" : Str)) = false := by decide) (hcd : (x == ("__classdict__" : Str)) = false := by decide)
    (hbase : attributeBase (.Name x npos) "pop" X.env (eval (.Name x npos) X.env) = eval (.Name x npos) X.env := by rfl) (hline : (apos.endLine == cpos.line) = true := by rfl) :
    SE X W (.Call (.Attribute (.Name x npos) "pop" apos) [] [] cpos) (poX i) := by
  refine PE.imp (pe_bm0 F.plainAttrs_list F.slot_list_pop F.type_list_pop mt_pop (pe_var (i := i) hN hv hd hcd) hbase hline) fun σ H Q ⟨L, e, τ, R, q⟩ => ?_
  unfold poX at q
  split at q
  · rename_i ts b he
    obtain ⟨v, hv, hty⟩ := isL_ty (i := i) R (by unfold isL; rw [he])
    obtain ⟨a, its, rfl, h1, h2, h3⟩ := R.lst he hv
    split at q
    · rename_i t ht
      have hne : its ≠ [] := by
        rintro rfl
        rw [h1] at ht
        simp at ht
      obtain ⟨its', p, rfl⟩ : ∃ its' p, its = its' ++ [p] := ⟨its.dropLast, its.getLast hne, (List.dropLast_concat_getLast hne).symm⟩
      obtain ⟨y, u⟩ := p
      rw [h1] at ht
      have hu : u = t := by simpa using ht
      subst hu
      refine ⟨_, hv, hty, a, _, y, rfl, rfl, h2, by simp, q _ _ _ rfl ?_⟩
      have h4 : StO X.K [a] H (its' ++ (((y, u) :: τ) ++ prs σ (e.set i none))) := by
        rw [List.append_assoc] at h3
        exact h3
      have R2 := R.lstBack he hv h4
      rw [h1]
      simp only [List.map_append, List.map_cons, List.map_nil, List.dropLast_concat]
      exact R2
    · exact q.elim
  · exact q.elim
end

/-! ### x[k] = v of a name -/
def stV (i : Nat) (t : Tr) (d : D) (e2 : Nv) : Out Fl := match d, e2[i]? with
  | .int k, some (some (.lst ts, b)) => (match ixN ts.length k with
    | some j => .ok .nx (e2.set i (some (.lst (ts.set j t), b)))
    | none => .bad)
  | _, _ => .bad
def sbS (i : Nat) (fi fv : Xp) : Sm := fun e => (ow fv e).bind fun t e1 => if isL e1 i = true then (vl fi e1).bind fun d e2 => stV i t d e2 else .bad
section
variable {X : Cx} {W : WX} {i : Nat} {x : Str} {ex ix : Expr} {fv fi : Xp} {npos apos pos : Pos}
theorem ss_sub (hN : X.N[i]? = some x) (hv : Vis X.env.scope x) (hi : SE X W ix fi) (he : SE X W ex fv) (hd : (x == ("__debug__" : Str)) = false := by decide) (hcd : (x == ("__classdict__" : Str)) = false := by decide)
    (ha : ∀ v, assign (.Subscript (.Name x npos) ix apos) X.env v = (do
      let ov ← holding [v] (eval (.Name x npos) X.env)
      let iv ← holding [v, ov] (eval ix X.env)
      standAt apos
      holding [v, ov, iv] (setItem ov iv v)
      release [v, ov, iv] []) := by intro _; rfl)
    (hs : swapsWithSole [.Subscript (.Name x npos) ix apos] ex pos.line X.env = pure false := by rfl) (hw : swappedStores [.Subscript (.Name x npos) ix apos] ex X.env = pure none := by rfl)
    (h1 : (assignEach [.Subscript (.Name x npos) ix apos] X.env).map (·.2) = [assign (.Subscript (.Name x npos) ix apos) X.env] := by rfl) :
    SS X W (.Assign [.Subscript (.Name x npos) ix apos] ex pos) (sbS i fi fv) := by
  refine PS.imp (ps_asg (SE.own he) (pg_sub (pe_var (i := i) hN hv hd hcd) (SE.val hi) set_list ha) hs hw h1) fun D σ H ⟨L, e, τ, R, q⟩ => ?_
  refine st_fst R q fun t e1 v H1 τ1 _ q1 p1 R1 => ?_
  have p1 : τ1 = (v, t) :: τ := p1
  subst p1
  split at q1
  · rename_i hL
    obtain ⟨o, hv, hty⟩ := isL_ty R1 hL
    refine ⟨o, hv, L, e1, _, R1, (Fin.pst rfl q1).mono (List.sublist_cons_self _ _) fun d e2 _ q2 w H2 τ2 p2 R2 => ?_⟩
    have p2 : τ2 = (w, .leaf d) :: (v, t) :: τ := p2
    subst p2
    unfold stV at q2
    split at q2
    · rename_i k ts b he2 _
      have hw := dq_int (view_leaf (.int k) ▸ R2.dp_mem (v := w) (t := .leaf (.int k)) List.mem_cons_self)
      subst hw
      obtain ⟨a, its, rfl, k1, k2, k3⟩ := R2.tail.lst he2 hv
      split at q2
      · rename_i j hj
        refine ⟨a, _, k, j, rfl, rfl, k2, by rw [← hj, k1]; simp, q2 σ _ rfl ?_⟩
        have hjl : j < its.length := by
          have := (ixN_seq hj).2.1
          rw [k1] at this
          simpa using this
        have h4 : StO X.K [a] H2 (its.set j (v, t) ++ (τ ++ prs σ (e2.set i none))) := by
          have p3 : ((v, t) :: its).Perm (its[j] :: its.set j (v, t)) := perm_set hjl
          have := (k3.perm (show (its ++ ((v, t) :: τ ++ prs σ (e2.set i none))).Perm ((its[j] :: its.set j (v, t)) ++ (τ ++ prs σ (e2.set i none))) from
            List.perm_middle.trans (p3.append_right _)))
          exact this.tail
        have R3 := R2.tail.lstBack he2 hv h4
        rw [List.map_set, List.map_set, ← k1] at R3
        exact R3
      · exact q2.elim
    · exact q2.elim
  · exact q1.elim
end
end Vs

set_option Elab.async false
set_option linter.all false
set_option maxRecDepth 100000
set_option maxHeartbeats 2000000
/-! Vs17: a list within a name's list. -/
namespace Vs
open PySem PySem.Spec L2
open PyProof.Rows hiding St

/-- x[c] != [] -/
def neX (i : Nat) (c : Int) : Xp := fun e => match e[i]? with
  | some (some (.lst ts, b)) => (match atI ts c with
    | some u => if SeqAt.shaped u.view = true then .ok (.tmp (.leaf (.bool (true != PyData.eqv u.view (.list []))))) e else .bad
    | none => .bad)
  | _ => .bad
/-- x[c].pop() -/
def ppX (i : Nat) (c : Int) : Xp := fun e => match e[i]? with
  | some (some (.lst ts, b)) => (match ixN ts.length c with
    | some j => (match ts[j]? with
      | some (.lst us) => (match us.getLast? with
        | some t => .ok (.tmp t) (e.set i (some (.lst (ts.set j (.lst us.dropLast)), b)))
        | none => .bad)
      | _ => .bad)
    | none => .bad)
  | _ => .bad
section
variable {X : Cx} {W : WX} {i : Nat} {x : Str} {c : Int} {npos cpos ipos apos lpos pos : Pos} {j}
theorem st_neSub (hu : X.A.units + 64 < cLine) (hN : X.N[i]? = some x) (hv : Vis X.env.scope x) (hs : PlainIx (.Constant (.int c) j cpos)) (hd : (x == ("__debug__" : Str)) = false := by decide) (hcd : (x == ("__classdict__" : Str)) = false := by decide) :
    STt X W (.Compare (.Subscript (.Name x npos) (.Constant (.int c) j cpos) ipos) [.NotEq] [.List [] lpos] pos) (tst (neX i c)) := by
  refine st_of (pt_cmpR (op_neB hu) (pe_ix ix_list (pe_var (i := i) hN hv hd hcd) pe_int hs) (pe_lst pa_nil) (nomark _)) fun σ H Q ⟨L, e, τ, R, q⟩ => ?_
  unfold neX at q
  split at q
  · rename_i ts b he
    obtain ⟨v, h1, _⟩ := R.ok i _ b he
    obtain ⟨a, its, rfl, k1, k2, k3⟩ := R.lst he h1
    split at q
    · rename_i u hat
      split at q
      · rename_i hsh
        obtain ⟨k, j1, j2⟩ := atI_some hat
        rw [k1, List.getElem?_map] at j2
        cases hj : its[k]? with
        | none => rw [hj] at j2; cases j2
        | some p =>
          rw [hj] at j2
          obtain ⟨w, u'⟩ := p
          have j2 : u' = u := Option.some.inj j2
          subst j2
          have hdq : Dq X.K H w u'.view := k3.dp_mem (List.mem_append_left _ (List.mem_of_getElem? hj))
          refine ⟨_, h1, a, _, c, w, rfl, rfl, SqL.of k2, atI_of (j := k) (by rw [List.length_map]; rw [k1, List.length_map] at j1; exact j1) (by rw [List.getElem?_map, hj]; rfl), by decide, fun p hp => ?_⟩
          have sb : Sub H (upd H p (.lst [])) := fun a o h => by
            by_cases hb : a = p
            · rw [hb, hp] at h; cases h
            · rw [upd_ne hb]; exact h
          refine ⟨u'.view, .list [], dq_mono sb hdq, .lst (SqL.of upd_same) .nil, hsh, by decide, q _ _ _ rfl ((R.grow sb).atom fun _ => .bl _)⟩
      · exact q.elim
    · exact q.elim
  · exact q.elim
theorem list_split {α : Type} : ∀ {l : List α} {j : Nat} {x : α}, l[j]? = some x → ∃ l1 l2, l = l1 ++ x :: l2 ∧ l1.length = j ∧ ∀ y, l.set j y = l1 ++ y :: l2
  | [], _, _, h => by simp at h
  | z :: l, 0, x, h => by
    simp at h
    subst h
    exact ⟨[], l, rfl, rfl, fun _ => rfl⟩
  | z :: l, j + 1, x, h => by
    obtain ⟨l1, l2, h1, h2, h3⟩ := list_split (l := l) (j := j) (x := x) (by simpa using h)
    exact ⟨z :: l1, l2, by rw [h1]; rfl, by simp [h2], fun y => by rw [List.set_cons_succ, h3]; rfl⟩
theorem se_popSub (hN : X.N[i]? = some x) (hv : Vis X.env.scope x) (hs : PlainIx (.Constant (.int c) j cpos)) (hd : (x == ("__debug__" : Str)) = false := by decide) (hcd : (x == ("__classdict__" : Str)) = false := by decide)
    (hbase : attributeBase (.Subscript (.Name x npos) (.Constant (.int c) j cpos) ipos) "pop" X.env (eval (.Subscript (.Name x npos) (.Constant (.int c) j cpos) ipos) X.env) = eval (.Subscript (.Name x npos) (.Constant (.int c) j cpos) ipos) X.env := by rfl) (hline : (apos.endLine == pos.line) = true := by rfl) :
    SE X W (.Call (.Attribute (.Subscript (.Name x npos) (.Constant (.int c) j cpos) ipos) "pop" apos) [] [] pos) (ppX i c) := by
  refine PE.imp (pe_bm0 F.plainAttrs_list F.slot_list_pop F.type_list_pop mt_pop (pe_ix ix_list (pe_var (i := i) hN hv hd hcd) pe_int hs) hbase hline) fun σ H Q ⟨L, e, τ, R, q⟩ => ?_
  unfold ppX at q
  split at q
  · rename_i ts b he
    obtain ⟨v, h1, _⟩ := R.ok i _ b he
    obtain ⟨a, its, rfl, k1, k2, k3⟩ := R.lst he h1
    split at q
    · rename_i k hk
      split at q
      · rename_i us hus
        rw [k1, List.getElem?_map] at hus
        cases hj : its[k]? with
        | none => rw [hj] at hus; cases hus
        | some p =>
          rw [hj] at hus
          obtain ⟨w, u'⟩ := p
          have hus : u' = .lst us := Option.some.inj hus
          subst hus
          obtain ⟨l1, l2, e1, e2, e3⟩ := list_split hj
          split at q
          · rename_i t ht
            have s1 : StO X.K [a] H ((w, .lst us) :: (l1 ++ l2 ++ (τ ++ prs σ (e.set i none)))) := by
              rw [e1] at k3
              exact k3.perm (by
                rw [List.append_assoc, List.append_assoc]
                exact List.perm_middle)
            have hdp := s1.dp
            rw [view_lst] at hdp
            cases hdp with
            | lst _ _ =>
              rename_i a2 _ _ _
              obtain ⟨its2, m1, m2, m3⟩ := StO.openL s1
              have hne : its2 ≠ [] := by
                rintro rfl
                rw [m1] at ht
                simp at ht
              obtain ⟨its', p, rfl⟩ : ∃ its' p, its2 = its' ++ [p] := ⟨its2.dropLast, its2.getLast hne, (List.dropLast_concat_getLast hne).symm⟩
              obtain ⟨y, u⟩ := p
              rw [m1] at ht
              have hu : u = t := by simpa using ht
              subst hu
              have na : a2 ≠ a := by
                intro z
                obtain ⟨F', S, g1, g2, g3, g4, g5⟩ := s1
                cases g2 with
                | cons o1 o2 =>
                  cases o1 with
                  | lst _ _ _ _ => exact (g5 a List.mem_cons_self).1 (by rw [← z]; simp)
              refine ⟨_, h1, a, _, c, .ref a2, rfl, rfl, SqL.of k2, atI_of (j := k) (by rw [List.length_map]; rw [k1, List.length_map] at hk; exact hk) (by rw [List.getElem?_map, hj]; rfl), .inl ⟨rfl, _, SqL.of m2⟩,
                a2, _, y, rfl, rfl, m2, by simp, q _ _ _ rfl ?_⟩
              have s2 := StO.closeL (its := its') (l := (y, u) :: (l1 ++ l2 ++ (τ ++ prs σ (e.set i none)))) (by
                rw [List.append_assoc] at m3
                exact m3) (by simp [na])
              have s3 : StO X.K [a] (upd H a2 (.lst (its'.map (·.1)))) (its.set k (.ref a2, .lst (its'.map (·.2))) ++ ((y, u) :: τ ++ prs σ (e.set i none))) := s2.perm (by
                rw [e3]
                have p1 : ((V.ref a2, Tr.lst (its'.map (·.2))) :: (y, u) :: (l1 ++ l2 ++ (τ ++ prs σ (e.set i none)))).Perm ((V.ref a2, Tr.lst (its'.map (·.2))) :: (l1 ++ l2 ++ ((y, u) :: (τ ++ prs σ (e.set i none))))) := List.perm_middle.symm.cons _
                refine p1.trans ?_
                rw [List.append_assoc, List.append_assoc]
                exact List.perm_middle.symm)
              have R2 := R.lstBack he h1 s3
              have z1 : (its.set k (V.ref a2, Tr.lst (its'.map (·.2)))).map (·.1) = its.map (·.1) := by
                rw [List.map_set]
                apply set_self
                rw [List.getElem?_map, hj]
                rfl
              rw [z1, upd_id (by rw [upd_ne (Ne.symm na)]; exact k2), List.map_set, ← k1] at R2
              rw [m1]
              simp only [List.map_append, List.map_cons, List.map_nil, List.dropLast_concat]
              exact R2
          · exact q.elim
      · exact q.elim
    · exact q.elim
  · exact q.elim
end
end Vs

set_option Elab.async false
set_option linter.all false
set_option maxRecDepth 100000
set_option maxHeartbeats 2000000
/-! Vs18: a def. -/
namespace Vs
open PySem PySem.Spec L2
open PyProof.Rows hiding St

def outs : List Bool → Nv → Option (List Tr)
  | [], _ => some []
  | true :: ms, some (t, true) :: e => (outs ms e).map (t :: ·)
  | false :: ms, _ :: e => outs ms e
  | _, _ => none
def endM (ms : List Bool) : Out Fl → Ret
  | .ok .nx e => (match outs ms e with
    | some ps => .ok (.leaf .none) ps
    | none => .bad)
  | .ok (.rt t) e => (match outs ms e with
    | some ps => .ok t ps
    | none => .bad)
  | .exc x e => (match outs ms e with
    | some ps => .exc x ps
    | none => .bad)
  | _ => .bad
def inE (n : Nat) (ts : List Tr) : Nv := ts.map (fun t => some (t, true)) ++ List.replicate n none
def mkM (n : Nat) (ms : List Bool) (f : Sm) : Mir := fun ts => if ts.length = ms.length then endM ms (f (inE n ts)) else .bad
theorem io_sub : ∀ {ms : List Bool} {vs : List V} {σ : St} {e : Nv} {ps : List Tr}, ms.length = vs.length → (∀ (i : Nat) (t : Tr), e[i]? = some (some (t, true)) → ∃ v, σ[i]? = some (some v) ∧ vs[i]? = some v) → outs ms e = some ps → (io ms vs ps).Sublist (prs σ e)
  | [], _, _, _, _, _, _, _ => List.nil_sublist _
  | true :: ms, v :: vs, σ, e, ps, hl, h, q => by
    cases e with
    | nil => simp [outs] at q
    | cons x e =>
      cases x with
      | none => simp [outs] at q
      | some x =>
        obtain ⟨t, b⟩ := x
        cases b with
        | false => simp [outs] at q
        | true =>
          simp only [outs, Option.map_eq_some_iff] at q
          obtain ⟨ps', q, rfl⟩ := q
          obtain ⟨w, h1, h2⟩ := h 0 t rfl
          have h2 : v = w := by simpa using h2
          subst h2
          cases σ with
          | nil => simp at h1
          | cons y σ =>
            have h1 : y = some v := by simpa using h1
            subst h1
            exact (io_sub (ms := ms) (vs := vs) (σ := σ) (e := e) (by simpa using hl) (fun i t hi => by simpa using h (i + 1) t (by simpa using hi)) q).cons_cons _
  | false :: ms, v :: vs, σ, e, ps, hl, h, q => by
    cases e with
    | nil => simp [outs] at q
    | cons x e =>
      have q : outs ms e = some ps := q
      cases σ with
      | nil =>
        have z := io_sub (ms := ms) (vs := vs) (σ := []) (e := e) (by simpa using hl) (fun i t hi => by
          obtain ⟨w, h1, _⟩ := h (i + 1) t (by simpa using hi)
          simp at h1) q
        exact z
      | cons y σ =>
        have z := io_sub (ms := ms) (vs := vs) (σ := σ) (e := e) (by simpa using hl) (fun i t hi => by simpa using h (i + 1) t (by simpa using hi)) q
        exact z.trans (List.sublist_append_right _ _)
  | _ :: _, [], _, _, _, hl, _, _ => by simp at hl
theorem prs_in : ∀ {vs : List V} {ts : List Tr} (n : Nat) (m : Nat), vs.length = ts.length → prs (vs.map some ++ List.replicate n none) (inE m ts) = vs.zip ts
  | [], [], n, m, _ => by
    unfold inE
    induction n generalizing m with
    | zero => rfl
    | succ n ih =>
      cases m with
      | zero => rfl
      | succ m => exact ih m
  | v :: vs, t :: ts, n, m, h => by
    show (v, t) :: prs (vs.map some ++ List.replicate n none) (inE m ts) = (v, t) :: vs.zip ts
    rw [prs_in n m (by simpa using h)]
  | [], _ :: _, _, _, h => by simp at h
  | _ :: _, [], _, _, h => by simp at h
section
variable {P : Program} {w : World} {K : PySem.W.Frag} {mg : Str → Option Value} {base : Heap} {k n : Nat} {x qual : Str} {st : Stmt} {f : Addr} {fd : FuncData} {N ps : List Str} {ms : List Bool} {g : Sm}
theorem fn_mk (F : Fun K x qual st f fd) (S : FnScope N ps (defScope st)) (hn : N.length = ps.length + n) (hm : ms.length = ps.length)
    (hb : ∀ (cdv : Value) (A : Around) (outer : List Env) (s : Shared) (H : Hp) (E : XK), Room k (A.deeper (envOfC qual (defScope st) s.heap.objs.size f cdv)) → A.guards = some [] →
      SSs (cxOf (L2.CX P w) P w K mg base N qual (defScope st) f cdv A outer s H E) (fun cls d _ H => E cls d H) (defBody st) g) : FnG P w K mg base (k + 1) f fd ps (spM K mg ms (mkM n ms g)) := by
  refine fnG_of F S (fun vs H Q E h => h.1.trans hm) fun cdv A outer s H vs Q E hr hgd ⟨hl, ts, ρ, hts, hst, h⟩ => ?_
  refine ⟨_, hb cdv A outer s H E hr hgd, fun i => vs[i]?, inE n ts, ρ, ?_, ?_⟩
  · have hNn : N.length - vs.length = n := by omega
    refine ⟨?_, fun i t b hi => ?_, ?_⟩
    · unfold inE L2.start
      simp
      omega
    · unfold inE at hi
      by_cases hil : i < ts.length
      · rw [List.getElem?_append_left (by simpa using hil), List.getElem?_map, List.getElem?_eq_getElem hil] at hi
        have hiv : i < vs.length := by omega
        refine ⟨vs[i], ?_, fun _ => List.getElem?_eq_getElem hiv⟩
        unfold L2.start
        rw [List.getElem?_append_left (by simpa using hiv), List.getElem?_map, List.getElem?_eq_getElem hiv]
        rfl
      · rw [List.getElem?_append_right (by simpa using hil), List.getElem?_replicate] at hi
        split at hi <;> cases hi
    · unfold L2.start
      rw [prs_in _ n hts]
      exact hst.perm List.perm_append_comm
  · have hlen : (L2.start N vs).length = N.length := by
      unfold L2.start
      simp
      omega
    unfold mkM at h
    rw [if_pos (by omega)] at h
    have key : ∀ {σ' : St} {e : Nv} {τ : List (V × Tr)} {H' : Hp} {ps' : List Tr}, Rel K (fun i => vs[i]?) σ' e τ H' → outs ms e = some ps' → (io ms vs ps').Sublist (prs σ' e) := fun R q =>
      io_sub (by omega) (fun i t hi => by
        obtain ⟨v, h1, h2⟩ := R.ok i t true hi
        exact ⟨v, h1, h2 rfl⟩) q
    cases hg : g (inE n ts) with
    | ok fl e =>
      rw [hg] at h
      cases fl with
      | nx =>
        unfold endM at h
        dsimp only at h
        cases ho : outs ms e with
        | none => rw [ho] at h; exact h.elim
        | some ps' =>
          rw [ho] at h
          intro σ' H' hl' R
          refine h .non H' (StO.non ((R.st.subl ((List.Sublist.refl _).append (key R ho))).perm List.perm_append_comm))
      | bk => exact h.elim
      | ct => exact h.elim
      | rt t =>
        unfold endM at h
        dsimp only at h
        cases ho : outs ms e with
        | none => rw [ho] at h; exact h.elim
        | some ps' =>
          rw [ho] at h
          intro v σ' H' hl' R
          refine h v H' ((R.st.subl ((List.Sublist.refl _).append (key R ho))).perm ?_)
          exact List.perm_append_comm.cons _
    | exc xx e =>
      rw [hg] at h
      unfold endM at h
      dsimp only at h
      cases ho : outs ms e with
      | none => rw [ho] at h; exact h.elim
      | some ps' =>
        rw [ho] at h
        intro cls d σ' H' τ' hl' hx R
        obtain ⟨C, g1, g2, g3⟩ := hx
        cases z : xx.arg with
        | none =>
          rw [z] at g3
          obtain ⟨g3, rfl⟩ := g3
          exact h cls d H' _ ⟨C, g1, g2, by rw [z]; exact ⟨g3, rfl⟩⟩ ((R.st.subl ((List.Sublist.refl _).append (key R ho))).perm List.perm_append_comm)
        | some p =>
          obtain ⟨fn, zd⟩ := p
          rw [z] at g3
          obtain ⟨dd, v, g3, g4, rfl⟩ := g3
          refine h cls d H' _ ⟨C, g1, g2, by rw [z]; exact ⟨dd, v, g3, g4, rfl⟩⟩ ((R.st.subl ((List.Sublist.refl _).append (key R ho))).perm ?_)
          exact List.perm_append_comm.cons _
    | bad =>
      rw [hg] at h
      exact h.elim
end
end Vs

set_option Elab.async false
set_option linter.all false
set_option maxRecDepth 100000
set_option maxHeartbeats 2000000
/-! Vs19: the law's end. -/
namespace Vs
open PySem PySem.Spec L2
open PyProof.Rows hiding St

/-- what is wanted of the law's call -/
def EndOk (s₁ : Shared) (r : Result) (t : Shared) : Prop := r = .ok (.ret (.bool true)) ∧ OldK s₁.heap t.heap ∧ t.os = s₁.os ∧ AllBare t.gens
section
variable {P : Program} {w : World} {K : PySem.W.Frag} {mg mb : Str → Option Value} {k : Nat} {fa a : Addr} {fd : FuncData} {x : Str} {sp : Sp} {s₁ : Shared} {vs : List Value} {ns : List Int}
/-- the state ahead of the law's call; at most the script is tracked -/
structure Ahead (K : PySem.W.Frag) (mg mb : Str → Option Value) (a : Addr) (vs : List Value) (ns : List Int) (s₁ : Shared) : Prop where
  kin : K.In s₁.heap
  glo : s₁.heap.Ns mainGlobals mg
  blt : s₁.heap.Ns builtinsNs mb
  boot : ∀ x : Str, x ≠ "__name__" → mb x = bootBuiltins x
  lim : s₁.heap.NoLimit
  gens : s₁.gens = #[]
  obj : s₁.heap.get? a = some { cls := .type "list", data := .seq vs.toArray }
  nums : IntsAre vs ns
  fits : ns.length ≤ sizeLine
theorem Ahead.env0 (h : Ahead K mg mb a vs ns s₁) {H : Hp} (ho : HOk P w H s₁.heap) (hA : ∀ b, H b ≠ none → b = a) (hK : H a ≠ none → K.lookup a = none) :
    Env0 P w K mg (hidT s₁.heap H) callerA [] s₁ H ∧ K.In (hidT s₁.heap H) ∧ (hidT s₁.heap H).Ns mainGlobals mg := by
  have one : ∀ {b : Addr} {u : HO}, H b = some u → b = a := fun q => hA _ (by rw [q]; exact fun z => nomatch z)
  have dic : ∀ {b : Addr} {o : Obj} {es : Array DictEntry} {ep : Nat}, s₁.heap.get? b = some o → o.data = .dict es ep → H b = none := by
    intro b o es ep e d
    cases q : H b with
    | none => rfl
    | some u =>
      cases one q
      have z := h.obj
      rw [e] at z
      cases z
      exact nomatch d
  have nsK : ∀ {b : Addr} {m : Str → Option Value}, s₁.heap.Ns b m → (hidT s₁.heap H).Ns b m := by
    rintro b m ⟨o, es, ep, e, d, r⟩
    exact ⟨o, es, ep, hidT_get e (dic e d), d, r⟩
  have kb : K.In (hidT s₁.heap H) := by
    intro b o e
    refine hidT_get (h.kin b o e) ?_
    cases q : H b with
    | none => rfl
    | some u =>
      cases one q
      rw [hK (by rw [q]; exact fun z => nomatch z)] at e
      cases e
  obtain ⟨mc, l1, l2⟩ := h.lim
  have md : Mod K mg (hidT s₁.heap H) := ⟨kb, nsK h.glo, ⟨mb, nsK h.blt, h.boot⟩, mc, nsK l1, l2⟩
  refine ⟨⟨rfl, md, fun b o e => of_hidT e, Nat.le_of_eq (hidT_size _ _), trivial, ?_, ho, .of_eq h.gens⟩, kb, nsK h.glo⟩
  intro b hb
  exact absurd (show b ∈ ([] : List Addr) from hb) List.not_mem_nil
theorem Ahead.run (h : Ahead K mg mb a vs ns s₁) (hr : Room k callerA) (hgd : callerA.guards = some [])
    (F : ∀ base : Heap, K.In base → base.Ns mainGlobals mg → FnG P w K mg base k fa fd [x] sp) (hbind : ∀ (s : Shared) (u : Value), BindsTo s fd ⟨[u], []⟩ [(x, u)])
    {H : Hp} (hO : Only H) (ho : HOk P w H s₁.heap) (hA : ∀ b, H b ≠ none → b = a) (hK : H a ≠ none → K.lookup a = none) (hsp : sp [.ref a] H (fun v _ => v = .bl true) fun _ _ _ => False) :
    codeAny (model P w) callerA (.call (.ref fa) ⟨[.ref a], []⟩) (EndOk s₁) s₁ := by
  obtain ⟨e0, kb, nb⟩ := h.env0 ho hA hK
  refine codeAny_mono ((F _ kb nb).run callerA [] s₁ H ⟨[.ref a], []⟩ [.ref a]
    [.ref a] _ _ hr hgd e0 (hbind s₁ (.ref a)) (.cons rfl .nil) hsp) fun r t hq => ?_
  match r, hq with
  | .error u, hq =>
    obtain ⟨_, _, _, _, _, _, _, _, _, _, _, _, z⟩ := hq
    exact z.elim
  | .ok .next, hq => exact False.elim hq
  | .ok .brk, hq => exact False.elim hq
  | .ok .cont, hq => exact False.elim hq
  | .ok (.ret u), hq =>
    obtain ⟨v, H', os, bare, un, ho', rv, qv⟩ := hq
    cases (show v = .bl true from qv)
    cases (show u = Value.bool true from rv)
    refine ⟨rfl, OldK.of_keep fun b o e => ?_, os, bare⟩
    cases q : H b with
    | none => exact un.keep b o e q (fun z => absurd (show b ∈ ([] : List Addr) from z) List.not_mem_nil) List.not_mem_nil
    | some u =>
      rcases hO b with z | ⟨ob, xs, z⟩
      · rw [q] at z
        cases z
      · obtain ⟨e1, _⟩ := ho b _ z
        obtain ⟨e2, _⟩ := ho' b _ (un.frzs b ob _ z)
        rw [e] at e1
        cases e1
        exact e2
theorem Ahead.call (h : Ahead K mg mb a vs ns s₁) (hr : Room k callerA) (hgd : callerA.guards = some [])
    (F : ∀ base : Heap, K.In base → base.Ns mainGlobals mg → FnG P w K mg base k fa fd [x] sp) (hbind : ∀ (s : Shared) (u : Value), BindsTo s fd ⟨[u], []⟩ [(x, u)])
    (hsp : ∀ H : Hp, Only H → SqL K H a (ns.map V.int) → sp [.ref a] H (fun v _ => v = .bl true) fun _ _ _ => False) : codeAny (model P w) callerA (.call (.ref fa) ⟨[.ref a], []⟩) (EndOk s₁) s₁ := by
  have rv := vals_ints h.nums
  cases hk : K.lookup a with
  | some o =>
    have e := h.kin a o hk
    rw [h.obj] at e
    cases e
    have hO : Only fun _ => none := fun _ => .inl rfl
    refine h.run hr hgd F hbind hO (fun b u z => nomatch z) (fun b z => absurd rfl z) (fun z => absurd rfl z) (hsp _ hO (.inr ⟨_, vs.toArray, _, hk, rfl, rfl, rfl, ?_, ?_⟩))
    · rw [List.size_toArray, h.nums.length]
      exact h.fits
    · simpa using rv
  | none =>
    have only : ∀ b u, (upd (fun _ => none) a (.frz { cls := .type "list", data := .seq vs.toArray } (.lst (ns.map V.int)))) b = some u → b = a ∧ u = .frz { cls := .type "list", data := .seq vs.toArray } (.lst (ns.map V.int)) := by
      intro b u z
      by_cases hb : b = a
      · subst hb
        rw [upd_same] at z
        cases z
        exact ⟨rfl, rfl⟩
      · rw [upd_ne hb] at z
        cases z
    have hO : Only (upd (fun _ => none) a (.frz { cls := .type "list", data := .seq vs.toArray } (.lst (ns.map V.int)))) := by
      intro b
      cases q : (upd (fun _ => none) a (.frz { cls := .type "list", data := .seq vs.toArray } (.lst (ns.map V.int)))) b with
      | none => exact .inl rfl
      | some u =>
        obtain ⟨_, rfl⟩ := only b u q
        exact .inr ⟨_, _, rfl⟩
    refine h.run hr hgd F hbind hO (fun b u z => ?_) (fun b z => ?_) (fun _ => hk) (hsp _ hO (.inl (.inr ⟨_, upd_same⟩)))
    · obtain ⟨rfl, rfl⟩ := only b u z
      exact ⟨h.obj, by rw [List.length_map]; exact h.fits, vs, _, rv, h.obj⟩
    · by_cases hb : b = a
      · exact hb
      · exact absurd (upd_ne hb) z
end
theorem walk_G {l : PySem.W.OpenLaw} {n k : Nat} {q : Program} {loose : List Str} {XP : (Str → Option Value) → Heap → Prop} {YP : World → Heap → Prop} {d : DefRec} {x : Str}
    (hn : l.most = some n) (hn2 : n ≤ sizeLine) (hdf : d.params.defaults = []) (hr : Room k callerA) (hgd : callerA.guards = some [])
    (F : ∀ (w : World) (mg : Str → Option Value) (fa : Addr) (h : Heap), YP w h → h.Ns mainGlobals mg → mg d.name = some (.ref fa) →
      ∃ (K : PySem.W.Frag) (fd : FuncData) (sp : Sp), K.In h ∧ (∀ (s : Shared) (u : Value), BindsTo s fd ⟨[u], []⟩ [(x, u)]) ∧
        (∀ (H : Hp) (a : Addr) (ns : List Int), ns.length ≤ n → (∀ z ∈ ns, Builtin.Int.intBits z ≤ 1048576) → Only H → SqL K H a (ns.map V.int) → sp [.ref a] H (fun v _ => v = .bl true) fun _ _ _ => False) ∧
        ∀ base : Heap, K.In base → base.Ns mainGlobals mg → FnG l.prog w K mg base k fa fd [x] sp) :
    PySem.W.WalkO q loose XP YP l.row.toRowW d [] (fun f vs => PySem.call f vs) := by
  refine Att.attach_callB hn hdf fun w s₀ s₁ mg mb fa o pm cd doc a vs ns G Y ho hd hcd hmg hobj hints hlen hbits hg => ?_
  obtain ⟨K, fd, sp, KX, hb, hsp, hF⟩ := F w mg fa _ Y G.T.g hmg
  have h : Ahead K mg mb a vs ns s₁ := ⟨KX, G.T.g, G.T.b, G.T.builtins, G.T.nolimit, hg, hobj, hints, Nat.le_trans hlen hn2⟩
  exact h.call hr hgd hF hb fun H hO hS => hsp H a ns hlen hbits hO hS
end Vs

set_option Elab.async false
set_option linter.all false
set_option maxRecDepth 100000
set_option maxHeartbeats 2000000
/-! Vs20: what the printed proofs lean on. -/
namespace Vs
open PySem PySem.Spec L2
open PyProof.Rows hiding St

def visB (sc : Scope) (x : Str) : Bool := match sc.names.lookup x with
  | some .local => true
  | some .cell => true
  | some .free => true
  | _ => false
def locB (sc : Scope) (x : Str) : Bool := match sc.names.lookup x with
  | some .local => true
  | some .cell => true
  | _ => false
theorem vis_by {sc : Scope} {x : Str} (h : visB sc x = true) : Vis sc x := by
  unfold visB at h
  unfold Vis
  split at h
  · rename_i q; exact .inl q
  · rename_i q; exact .inr (.inl q)
  · rename_i q; exact .inr (.inr q)
  · cases h
theorem loc_by {sc : Scope} {x : Str} (h : locB sc x = true) : L2.Loc sc x := by
  unfold locB at h
  unfold L2.Loc
  split at h
  · rename_i q; exact .inl q
  · rename_i q; exact .inr q
  · cases h
section
variable {P : Program} {w : World} {K : PySem.W.Frag} {mg : Str → Option Value} {base : Heap} {k n : Nat} {x qual : Str} {st : Stmt} {f : Addr} {fd : FuncData} {N ps ks : List Str} {ms : List Bool} {g : Sm} {pr : List Nat}
abbrev FnS (K : PySem.W.Frag) (x : Str) (st : Stmt) (f : Addr) (fd : FuncData) : Prop := FunD K x x (defArgs st) (defBody st) (defScope st) [] [] f fd
theorem FnS.fun (F : FnS K x st f fd) : Fun K x x st f fd := by
  obtain ⟨oc, od, dV, kV, doc, pm, an, cdv, ct, osl, h1, h2, h3, h4, h5⟩ := F.ex
  rcases h4 with ⟨_, rfl⟩ | ⟨e, _⟩
  · exact ⟨⟨oc, od, kV, doc, pm, an, cdv, ct, osl, h1, h2, h3⟩, F.kp⟩
  · exact absurd rfl e
theorem FnS.kwB (F : FnS K x st f fd) (h : ∀ (kV doc pm : Value) (an : Option Addr) (cdv ct : Value) (us ws : List Value), us.length = n → ws.length = ks.length →
    bindArgs (PySem.W.fnOf x x (defArgs st) (defBody st) (defScope st) .none kV doc pm an cdv ct) ⟨us, ks.zip ws⟩ = pure (ps.zip (prm pr (us ++ ws)))) : KwB fd ps ks n pr := by
  obtain ⟨oc, od, dV, kV, doc, pm, an, cdv, ct, osl, rfl, lk, hcd, hD, hK⟩ := F.ex
  rcases hD with ⟨_, rfl⟩ | ⟨e, _⟩
  · exact fun s us ws h1 h2 => .of_eq (h kV doc pm an cdv ct us ws h1 h2)
  · exact absurd rfl e
/-- a def that keeps its promise -/
def Kept (P : Program) (w : World) (K : PySem.W.Frag) (mg : Str → Option Value) (base : Heap) (k : Nat) (x : Str) (st : Stmt) (ps : List Str) (ms : List Bool) (F : Mir) : Prop :=
  ∃ (f : Addr) (fd : FuncData), mg x = some (.ref f) ∧ FnS K x st f fd ∧ FnG P w K mg base k f fd ps (spM K mg ms F)
theorem Kept.mono {F : Mir} {k' : Nat} (h : Kept P w K mg base k x st ps ms F) (hk : k ≤ k') : Kept P w K mg base k' x st ps ms F := by
  obtain ⟨f, fd, h1, h2, h3⟩ := h
  exact ⟨f, fd, h1, h2, h3.mono hk⟩
structure Here (X : Cx) (k : Nat) : Prop where
  room : Room k X.A
  gd : X.A.guards = some []
theorem Here.u {X : Cx} (h : Here X k) : X.A.units + 64 < cLine := h.room.units
theorem Here.u5 {X : Cx} (h : Here X k) : X.A.units + 65 < cLine := by
  have := h.room.un
  omega
theorem kept_mk {f : Addr} {fd : FuncData} (hm : mg x = some (.ref f)) (F : FnS K x st f fd) (S : FnScope N ps (defScope st)) (hn : N.length = ps.length + n) (hms : ms.length = ps.length)
    (hb : ∀ (cdv : Value) (A : Around) (outer : List Env) (s : Shared) (H : Hp) (E : XK), Here (cxOf (L2.CX P w) P w K mg base N x (defScope st) f cdv A outer s H E) k →
      SSs (cxOf (L2.CX P w) P w K mg base N x (defScope st) f cdv A outer s H E) (fun cls d _ H => E cls d H) (defBody st) g) : Kept P w K mg base (k + 1) x st ps ms (mkM n ms g) :=
  ⟨f, fd, hm, F, fn_mk F.fun S hn hms fun cdv A outer s H E hr hgd => hb cdv A outer s H E ⟨hr, hgd⟩⟩
theorem takes_cx {N : List Str} {qual : Str} {sc : Scope} {f : Addr} {cdv : Value} {A : Around} {outer : List Env} {s : Shared} {H : Hp} {E : XK} :
    PassX (cxOf (L2.CX P w) P w K mg base N qual sc f cdv A outer s H E) (fun cls d _ H => E cls d H) := passX_tk (takes_of rfl rfl rfl rfl)
end
section
variable {X : Cx} {W : WX} {k k' : Nat} {x : Str} {st : Stmt} {ps ks : List Str} {ms : List Bool} {F : Mir} {p pos : Pos} {ex : Expr} {es : List Expr} {kws : List Keyword} {n : Nat} {pr : List Nat} {fs gs : List Xp} {fa : Xp}
theorem sc_call (KP : Kept X.prog X.w X.K X.mg X.base k x st ps ms F) (hh : Here X k') (hx : PassX X W)
    (hb : ∀ (kV doc pm : Value) (an : Option Addr) (cdv ct : Value) (us : List Value), us.length = ps.length → bindArgs (PySem.W.fnOf x x (defArgs st) (defBody st) (defScope st) .none kV doc pm an cdv ct) ⟨us, []⟩ = pure (ps.zip us))
    (ha : SAX X W (ex :: es) (fa :: fs)) (hk : k ≤ k' := by decide) (hn : (fa :: fs).length = ms.length := by rfl) (hg : Gl X x := by rfl) (hdb : (x == ("__debug__" : Str)) = false := by decide) (he : starEach (ex :: es) X.env = (false, eval ex X.env) :: starEach es X.env := by rfl)
    (hpl : (backTo pos (starEach es X.env)).any (·.1) = false := by rfl) : SE X W (.Call (.Name x p) (ex :: es) [] pos) (callX F ms (fa :: fs)) := by
  obtain ⟨f, fd, h1, h2, h3⟩ := KP
  exact se_call (h3.mono hk) hh.room hh.gd hx hg h1 h2.kp (h2.bindsN hb) ha hn hdb he hpl
theorem sc_callK0 (KP : Kept X.prog X.w X.K X.mg X.base k x st ps ms F) (hh : Here X k') (hx : PassX X W)
    (hb : ∀ (kV doc pm : Value) (an : Option Addr) (cdv ct : Value) (us ws : List Value), us.length = 0 → ws.length = ks.length →
      bindArgs (PySem.W.fnOf x x (defArgs st) (defBody st) (defScope st) .none kV doc pm an cdv ct) ⟨us, ks.zip ws⟩ = pure (ps.zip (prm pr (us ++ ws))))
    (hkw : SKX X W kws gs) (hk : k ≤ k' := by decide) (hp : pr.Perm (List.range (0 + ks.length)) := by decide) (hn : 0 + ks.length = ms.length := by rfl) (hg2 : gs.length = ks.length := by rfl) (hg : Gl X x := by rfl)
    (hall : (backToKw pos (keywordEach kws X.env)).all (·.1.isSome) = true := by rfl) (hks : (backToKw pos (keywordEach kws X.env)).filterMap (·.1) = ks := by rfl) (hdb : (x == ("__debug__" : Str)) = false := by decide)
    (hpl : ((backTo pos (starEach [] X.env)).any (·.1) || (backToKw pos (keywordEach kws X.env)).any (·.1.isNone)) = false := by rfl) : SE X W (.Call (.Name x p) [] kws pos) (callK F ms pr [] gs) := by
  obtain ⟨f, fd, h1, h2, h3⟩ := KP
  exact se_callK0 (h3.mono hk) hh.room hh.gd hx hg h1 h2.kp (h2.kwB hb) hkw hp hn hg2 hall hks hdb hpl
theorem sc_callK (KP : Kept X.prog X.w X.K X.mg X.base k x st ps ms F) (hh : Here X k') (hx : PassX X W)
    (hb : ∀ (kV doc pm : Value) (an : Option Addr) (cdv ct : Value) (us ws : List Value), us.length = n → ws.length = ks.length →
      bindArgs (PySem.W.fnOf x x (defArgs st) (defBody st) (defScope st) .none kV doc pm an cdv ct) ⟨us, ks.zip ws⟩ = pure (ps.zip (prm pr (us ++ ws))))
    (ha : SAX X W (ex :: es) (fa :: fs)) (hkw : SKX X W kws gs) (hk : k ≤ k' := by decide) (hp : pr.Perm (List.range (n + ks.length)) := by decide) (hn : n + ks.length = ms.length := by rfl) (hf2 : (fa :: fs).length = n := by rfl) (hg2 : gs.length = ks.length := by rfl) (hg : Gl X x := by rfl)
    (hall : (backToKw pos (keywordEach kws X.env)).all (·.1.isSome) = true := by rfl) (hks : (backToKw pos (keywordEach kws X.env)).filterMap (·.1) = ks := by rfl) (hdb : (x == ("__debug__" : Str)) = false := by decide)
    (he : starEach (ex :: es) X.env = (false, eval ex X.env) :: starEach es X.env := by rfl)
    (hpl : ((backTo pos (starEach (ex :: es) X.env)).any (·.1) || (backToKw pos (keywordEach kws X.env)).any (·.1.isNone)) = false := by rfl) : SE X W (.Call (.Name x p) (ex :: es) kws pos) (callK F ms pr (fa :: fs) gs) := by
  obtain ⟨f, fd, h1, h2, h3⟩ := KP
  exact se_callK (h3.mono hk) hh.room hh.gd hx hg h1 h2.kp (h2.kwB hb) ha hkw hp hn hf2 hg2 hall hks hdb he hpl
/-- the name in the i-th slot -/
theorem sc_nm {pos : Pos} (i : Nat) (hN : X.N[i]? = some x := by rfl) (hv : visB X.env.scope x = true := by rfl) (hd : (x == ("__debug__" : Str)) = false := by decide) (hcd : (x == ("__classdict__" : Str)) = false := by decide) : SE X W (.Name x pos) (nm i) := se_nm hN (vis_by hv) hd hcd
end
end Vs

set_option Elab.async false
set_option linter.all false
set_option maxRecDepth 100000
set_option maxHeartbeats 2000000
/-! Vs21: small dicts; a def below all levels. -/
namespace Vs
open PySem PySem.Spec L2
open PyProof.Rows hiding St
section
variable {P : Program} {w : World} {K : PySem.W.Frag} {mg : Str → Option Value} {base : Heap} {k n : Nat} {x qual : Str} {st : Stmt} {f : Addr} {fd : FuncData} {N ps ks : List Str} {ms : List Bool} {g : Sm} {pr : List Nat}
theorem kept_bad (hm : mg x = some (.ref f)) (F : FnS K x st f fd) (hms : ms.length = ps.length) : Kept P w K mg base k x st ps ms fun _ => .bad :=
  ⟨f, fd, hm, F, fun vs H Q E h => h.1.trans hms, fun A outer s H args us vs Q E _ _ _ _ _ h => by
    obtain ⟨_, ts, ρ, _, _, z⟩ := h
    exact z.elim⟩
end
section
variable {K : PySem.W.Frag} {H : Hp} {l : List (V × Tr)} {p : Addr}
theorem own_dqs {F G : Hp} : ∀ {its : List (V × Tr)} {ds : List D} {S : List Addr}, OwnL K F G its S → its.map (·.2) = ds.map Tr.leaf → DqAll K F (its.map (·.1)) ds
  | [], [], _, _, _ => .nil
  | [], _ :: _, _, _, e => by simp at e
  | _ :: _, [], _, _, e => by simp at e
  | (v, t) :: its, d :: ds, S, o, e => by
    rw [List.map_cons, List.map_cons] at e
    injection e with e1 e2
    have e1 : t = .leaf d := e1
    subst e1
    cases o with
    | cons o1 o2 =>
      cases o1 with
      | leaf q => exact .cons q (own_dqs o2 e2)
/-- a new object that stands for data -/
theorem St8.newD {its : List (V × Tr)} {ds : List D} {o : HO} {d : D} (h : St8 K H (its ++ l)) (hd : its.map (·.2) = ds.map Tr.leaf) (hp : H p = none) (mk : ∀ F : Hp, F p = some o → DqAll K F (its.map (·.1)) ds → Dq K F (.ref p) d) :
    St8 K (upd H p o) ((.ref p, .leaf d) :: l) := by
  obtain ⟨F, S, s, ow, nd, f, n⟩ := h.fresh hp
  obtain ⟨S1, S2, e, o1, o2⟩ := ow.split
  subst e
  obtain ⟨na, fa⟩ := n p List.mem_cons_self
  have k : ∀ b ∈ S1 ++ S2, upd H p o b = H b := fun b hb => upd_ne fun z => na (z ▸ hb)
  have sF : Sub F (upd F p o) := sub_upd .refl fa
  refine ⟨upd F p o, S2, fun b u e => ?_, .cons (S1 := []) (.leaf (mk _ upd_same (dqAll_mono sF (own_dqs o1 hd)))) (o2.congr sF fun b hb => k b (List.mem_append_right _ hb)), nodup_app_right nd, fun b hb => ?_, fun b hb => by cases hb⟩
  · by_cases hb : b = p
    · subst hb
      rw [upd_same] at e ⊢
      exact e
    · rw [upd_ne hb] at e ⊢
      exact s b u e
  · have hb' : b ≠ p := fun z => na (z ▸ List.mem_append_right _ hb)
    rw [upd_ne hb']
    exact f b (List.mem_append_right _ hb)
end
def dct0X : Xp := fun e => .ok (.tmp (.leaf (.dict []))) e
def dct1X (k : Int) (i : Nat) : Xp := fun e => (own (.at i) e).bind fun t e1 => .ok (.tmp (.leaf (.dict [(.int k, t.view)]))) e1
def tD1 (k : Int) (i : Nat) : TE := fun σ H Q => ∃ v, σ[i]? = some (some v) ∧ ∀ p, H p = none → Q (.ref p) (upd H p (.dK [(.inl k, v)]))
section
variable {X : Cx} {W : WX} {pos p1 p2 : Pos} {x : Str} {k : Int} {j}
theorem se_dct0 : SE X W (.Dict [] [] pos) dct0X := by
  refine PE.imp pe_dnewK fun σ H Q ⟨L, e, τ, R, q⟩ p hp => q _ _ _ rfl ?_
  exact R.map fun s => St8.newD (its := []) (ds := []) s rfl hp fun F hF _ => .dct hF (DKd.k (kvs := [])) rfl .nil
theorem pe_dct1 {i : Nat} (hN : X.N[i]? = some x) (hv : Vis X.env.scope x) (hd : (x == ("__debug__" : Str)) = false := by decide) (hcd : (x == ("__classdict__" : Str)) = false := by decide) :
    PE X (.Dict [some (.Constant (.int k) j p1)] [.Name x p2] pos) (tD1 k i) := by
  refine ⟨fun pins s σ H Q I ⟨v, hσ, h⟩ => ?_⟩
  have fr : H s.heap.objs.size = none := I.hok.fresh (Nat.le_refl _)
  have I1 : Inv X pins σ (upd H s.heap.objs.size (.dK [])) { s with heap := s.heap.push { cls := .type "dict", data := .dict #[] } } :=
    I.laid (a := s.heap.objs.size) (o := .dK []) (t' := s.toks) (fun _ _ q => Heap.get?_push_of_some _ q) (Nat.le_refl _) (dk_empty s.heap I.big)
  refine wpAny_Dict_pairs (knd := mixKind X.prog X.w) (pairs := [(eval (.Constant (.int k) j p1) X.env, do let x ← eval (.Name x p2) X.env; standAt pos; pure x)]) rfl (by simp) (show 1 ≤ 15 by decide) ?_
  refine evalPairs_cons (thn (pe_int.run pins _ σ _ (fun y H2 => y = .int k ∧ H2 = upd H s.heap.objs.size (.dK [])) I1 ⟨rfl, rfl⟩) fun kv s1 ⟨y, H1, I2, r1, ey, eH⟩ => ?_)
  subst ey eH
  refine wpAny_bind (thn ((pe_var hN hv hd hcd).run pins s1 σ _ (fun y H2 => y = v ∧ H2 = upd H s.heap.objs.size (.dK [])) I2 ⟨v, hσ, rfl, rfl⟩) fun vv s2 ⟨y, H2, I3, r2, ey, eH⟩ => ?_)
  subst ey eH
  refine wpAny_bind (wpAny_standAt (wpAny_pure (evalPairs_nil ?_)))
  obtain ⟨t, rfl⟩ := r1
  obtain ⟨z1, z2, vs, z3, z4⟩ := I3.hok s.heap.objs.size (.dK []) upd_same
  have hvs : vs = [] := by
    cases z3
    rfl
  subst hvs
  refine ⟨[(.inl k, vv)], ⟨keyIs_int k t, rfl, trivial⟩, z4, fun h' hdo sb => ?_⟩
  have I4 : Inv X pins σ (upd (upd H s.heap.objs.size (.dK [])) s.heap.objs.size (.dK [(.inl k, y)])) { s2 with heap := h', toks := s2.toks + [(Value.int k t, vv)].length } := by
    refine I3.write (x := s.heap.objs.size) (e := s.heap.objs.size) (by rw [upd_same]; trivial) (.inl rfl) (fun b u hb e => (sb.2 b hb).trans e) ?_ ?_
    · obtain ⟨o, es, ep, q, _⟩ := hdo
      exact ⟨o, q⟩
    · exact ⟨show 1 ≤ sizeLine by decide, z2, [(.inl k, vv)], .cons ⟨rfl, r2⟩ .nil, hdo⟩
  have e5 : upd (upd H s.heap.objs.size (.dK [])) s.heap.objs.size (.dK [(.inl k, y)]) = upd H s.heap.objs.size (.dK [(.inl k, y)]) := by
    funext b
    by_cases hb : b = s.heap.objs.size
    · rw [hb, upd_same, upd_same]
    · rw [upd_ne hb, upd_ne hb, upd_ne hb]
  rw [e5] at I4
  exact ⟨.ref s.heap.objs.size, _, I4, rfl, h _ fr⟩
theorem sc_dct1 (i : Nat) (hN : X.N[i]? = some x := by rfl) (hv : visB X.env.scope x = true := by rfl) (hd : (x == ("__debug__" : Str)) = false := by decide) (hcd : (x == ("__classdict__" : Str)) = false := by decide) :
    SE X W (.Dict [some (.Constant (.int k) j p1)] [.Name x p2] pos) (dct1X k i) := by
  refine PE.imp (pe_dct1 (i := i) hN (vis_by hv) hd hcd) fun σ H Q ⟨L, e, τ, R, q⟩ => ?_
  unfold dct1X own at q
  dsimp only at q
  split at q
  · rename_i t b he
    obtain ⟨v, h1, h2, R1⟩ := R.take he
    refine ⟨v, h1, fun p hp => q _ _ _ rfl ?_⟩
    have R3 : Rel X.K L σ (e.set i none) ((v, .leaf t.view) :: (v, .leaf t.view) :: τ) H := R1.map fun s => s.freeze.dup
    have R4 := R3.put (i := i) h1 h2 (by rw [List.getElem?_set_self (lt_of_at he)])
    rw [set_set'] at R4
    refine R4.map fun s => St8.newD (its := [(v, .leaf t.view)]) (ds := [t.view]) s rfl hp fun F hF hq => ?_
    exact .dct hF (DKd.k (kvs := [(.inl k, v)])) rfl hq
  · exact q.elim
end
end Vs

set_option Elab.async false
set_option linter.all false
set_option maxRecDepth 100000
set_option maxHeartbeats 1000000
/-! Vs22: a list that holds lists, taken as data where it is added. -/
namespace Vs
open PySem PySem.Spec L2
open PyProof.Rows hiding St
def fzV (r : Rv) (e1 : Nv) : Out Rv := match rtree r e1 with
  | some (.lst ts) => (match leaves ts with
    | some _ => .ok r e1
    | none => (own r e1).bind fun t e2 => .ok (.tmp (.leaf t.view)) e2)
  | _ => .ok r e1
def fzX (f : Xp) : Xp := fun e => (f e).bind fzV
theorem se_fz {X : Cx} {W : WX} {ex : Expr} {f : Xp} (h : SE X W ex f) : SE X W ex (fzX f) := by
  refine PE.imp h fun σ H Q ⟨L, e, τ, R, q⟩ => ?_
  refine tR.fst (g := fzV) R q fun r e1 v H1 τ1 _ q1 p1 R1 => ?_
  unfold fzV at q1
  split at q1
  · split at q1
    · exact q1 v H1 τ1 p1 R1
    · cases r with
      | tmp t =>
        have p1 : τ1 = (v, t) :: τ := p1
        subst p1
        exact q1 v H1 _ rfl (R1.map fun s => s.freeze)
      | «at» i =>
        obtain ⟨p1, p2⟩ := p1
        subst p1
        unfold Vs.own at q1
        dsimp only at q1
        split at q1
        · rename_i t b he
          obtain ⟨w, h1, h2, R2⟩ := R1.take he
          rw [p2] at h1
          cases h1
          refine q1 v H1 _ rfl ?_
          have R3 : Rel X.K L σ (e1.set i none) ((v, .leaf t.view) :: (v, .leaf t.view) :: τ1) H1 := R2.map fun s => s.freeze.dup
          have R4 := R3.put (i := i) p2 h2 (by rw [List.getElem?_set_self (lt_of_at he)])
          rw [set_set'] at R4
          rw [view_leaf]
          exact R4
        · exact q1.elim
  · exact q1 v H1 τ1 p1 R1
end Vs

set_option Elab.async false
set_option linter.all false
set_option maxRecDepth 100000
set_option maxHeartbeats 1000000
/-! Vs23: a tree taken as data at once. -/
namespace Vs
open PySem PySem.Spec L2
open PyProof.Rows hiding St
def frV (r : Rv) (e1 : Nv) : Out Rv := (own r e1).bind fun t e2 => .ok (.tmp (.leaf t.view)) e2
def frX (f : Xp) : Xp := fun e => (f e).bind frV
theorem se_fr {X : Cx} {W : WX} {ex : Expr} {f : Xp} (h : SE X W ex f) : SE X W ex (frX f) := by
  refine PE.imp h fun σ H Q ⟨L, e, τ, R, q⟩ => ?_
  refine tR.fst (g := frV) R q fun r e1 v H1 τ1 _ q1 p1 R1 => ?_
  unfold frV at q1
  cases r with
  | tmp t =>
    have p1 : τ1 = (v, t) :: τ := p1
    subst p1
    exact q1 v H1 _ rfl (R1.map fun s => s.freeze)
  | «at» i =>
    obtain ⟨p1, p2⟩ := p1
    subst p1
    unfold Vs.own at q1
    dsimp only at q1
    split at q1
    · rename_i t b he
      obtain ⟨w, h1, h2, R2⟩ := R1.take he
      rw [p2] at h1
      cases h1
      refine q1 v H1 _ rfl ?_
      have R3 : Rel X.K L σ (e1.set i none) ((v, .leaf t.view) :: (v, .leaf t.view) :: τ1) H1 := R2.map fun s => s.freeze.dup
      have R4 := R3.put (i := i) p2 h2 (by rw [List.getElem?_set_self (lt_of_at he)])
      rw [set_set'] at R4
      rw [view_leaf]
      exact R4
    · exact q1.elim
end Vs

set_option Elab.async false
set_option linter.all false
set_option maxRecDepth 100000
set_option maxHeartbeats 1000000
/-! Vs24: x, y = a, b where a block reads x or y. -/
namespace Vs
open PySem PySem.Spec L2
open PyProof.Rows hiding St
section
variable {X : Cx} {W : WX} {i j : Nat} {x y : Str} {a b : Expr} {fs : List Xp} {pos px py pt pt2 : Pos} {kt k2 : Nat}
theorem ss_parC2 (hc : X.calm = true) (hN : X.N.Nodup) (hi : X.N[i]? = some x) (hj : X.N[j]? = some y) (hx : L2.Loc X.env.scope x) (hy : L2.Loc X.env.scope y) (ha : SAO X W [a, b] fs)
    (hfx : X.fn x = true ∨ X.env.scope.names.lookup x = some .local := by first | exact .inl rfl | exact .inr rfl | assumption)
    (hfy : X.fn y = true ∨ X.env.scope.names.lookup y = some .local := by first | exact .inl rfl | exact .inr rfl | assumption)
    (hw : swappedStores [.Tuple [.Name x px, .Name y py] kt pt] (.Tuple [a, b] k2 pt2) X.env = pure none := by rfl)
    (hs : swapsWithSole [.Tuple [.Name x px, .Name y py] kt pt] (.Tuple [a, b] k2 pt2) pos.line X.env = pure false := by rfl) :
    SS X W (.Assign [.Tuple [.Name x px, .Name y py] kt pt] (.Tuple [a, b] k2 pt2) pos) (parS [i, j] fs) := by
  refine PS.imp (ps_asg (pe_tup ha) (pg_tup (n := 2) hc (pgs_cons (pg_name hN hi hx hfx) (pgs_cons (pg_name hN hj hy hfy) pgs_nil))) hs hw) fun D σ H ⟨L, e, τ, R, q⟩ => ?_
  refine ⟨L, e, τ, R, (Fin.pst rfl q).mono (.refl _) fun ts e1 _ q1 vs H1 hl R1 => ?_⟩
  split at q1
  · rename_i e2 he
    match ts, vs, hl, he, R1 with
    | [t, u], [v, w], hl, he, R1 =>
      refine ⟨(show 2 ≤ sizeLine by decide), fun p hp => ⟨p, [v, w], rfl, SqT.of upd_same, rfl, v, [w], rfl, w, [], rfl, rfl, ?_⟩⟩
      have R2 : Rel X.K L σ e1 ([v, w].zip [t, u] ++ τ) (upd H1 p (.tup [v, w])) := R1.map fun s => s.upd_new hp
      exact q1 _ (upd H1 p (.tup [v, w])) (setL_length [i, j] [v, w] σ) (stoL_ok he hl R2)
    | [], _, _, he, _ => cases he
    | [t], _, _, he, _ => simp [stoL] at he
    | t :: u :: r :: ts, _, _, he, _ => simp [stoL] at he
  · exact q1.elim
end
end Vs

set_option Elab.async false
set_option linter.all false
set_option maxRecDepth 100000
set_option maxHeartbeats 2000000
/-! Vs25: [.. for .. in enumerate(name, c)] over a name's own list, which stays its own. -/
namespace Vs
open PySem PySem.Spec L2
open PyProof.Rows hiding St
section
variable {K : PySem.W.Frag} {H H' : Hp} {a b : Addr} {t : Tr} {ds : List D} {k : Bool} {ρ : List (V × Tr)} {x : V} {i : Nat}
theorem partsT (h : St8 K H ((.ref a, t) :: ρ)) (q : titems t = some (k, ds)) : ∃ vs, SQ K k H a vs ∧ vs.length = ds.length ∧ St8 K H (vs.zip (ds.map Tr.leaf) ++ (.ref a, t) :: ρ) := by
  obtain ⟨a', vs, e, h1, h2, h3⟩ := St8.itemsX h q
  cases e
  exact ⟨vs, h1.sq q, h2, h3.st8⟩
theorem jok_enumT {c : Int} (q : titems t = some (k, ds)) : JOk K (ItN K k c a) (enumD c ds) [(.ref a, t)] where
  go := fun i H ρ hi h => by
    obtain ⟨vs, h1, h2, h3⟩ := partsT h q
    have hi : i < vs.length := by simpa [enumD, h2] using hi
    exact ⟨vs, vs[i], h1, List.getElem?_eq_getElem hi⟩
  stop := fun H ρ h => by
    obtain ⟨vs, h1, h2, h3⟩ := partsT h q
    exact ⟨vs, h1, by simp [enumD, h2]⟩
  yld := fun i d' H ρ x H' hd h y => by
    obtain ⟨vs, h1, h2, h3⟩ := partsT h q
    obtain ⟨T, y, rfl, hT, rfl, hy⟩ := y
    have hi : i < ds.length := by simpa [enumD] using lt_of_at hd
    have hd' : d' = .tuple [.int (c + (i : Nat)), ds[i]] := by
      simp only [enumD, List.getElem?_mapIdx, List.getElem?_eq_getElem hi, Option.map_some, Option.some.injEq] at hd
      exact hd.symm
    subst hd'
    have s1 := item_at h2 h3 (List.getElem?_eq_getElem hi) (hy vs h1)
    exact St8.newT (its := [(.int (c + (i : Nat)), .leaf (.int (c + (i : Nat)))), (y, .leaf ds[i])]) (ds := [.int (c + (i : Nat)), ds[i]]) (StO.int s1 _) rfl hT
end
/-- what is walked: the list that name i holds -/
def tItB (K : PySem.W.Frag) (i : Nat) (f : List D → List D) : TI := fun σ H R => ∃ (L : Nat → Option V) (e : Nv) (τ : List (V × Tr)) (t : Tr) (b k : Bool) (ds : List D), Rel K L σ e τ H ∧ e[i]? = some (some (t, b)) ∧ titems t = some (k, ds) ∧
  ∀ J a, σ[i]? = some (some (.ref a)) → JOk K J (f ds) [(.ref a, t)] → R J H
def SIB (X : Cx) (tg iter : Expr) (i : Nat) (f : List D → List D) : Prop := PI X tg iter (tItB X.K i f)
section
variable {X : Cx} {tg : Expr} {p px pc pos tpos : Pos} {elts : List Expr} {kk i j2 : Nat} {x : Str} {c : Int}
theorem si_enumB (hg : Gl X "enumerate") (hm : X.mg "enumerate" = none) (hN : X.N[i]? = some x) (hv : Vis X.env.scope x) (hc : -(2 ^ 62) ≤ c ∧ c < 2 ^ 62)
    (hd : (x == ("__debug__" : Str)) = false := by decide) (hcd : (x == ("__classdict__" : Str)) = false := by decide)
    (hs : starEach [.Name x px, .Constant (.int c) j2 pc] X.env = [(false, eval (.Name x px) X.env), (false, eval (.Constant (.int c) j2 pc) X.env)] := by rfl) (hs2 : starEach [.Constant (.int c) j2 pc] X.env = [(false, eval (.Constant (.int c) j2 pc) X.env)] := by rfl) :
    SIB X (.Tuple elts kk tpos) (.Call (.Name "enumerate" p) [.Name x px, .Constant (.int c) j2 pc] [] pos) i (enumD c) := by
  refine PI.imp (pi_enum2 hg hm (pa_cons (pe_var hN hv hd hcd) (pa_cons pe_int pa_nil hs2) hs) hs hs2) fun σ H R ⟨L, e, τ, t, b, k, ds, R0, he, q, h⟩ => ?_
  obtain ⟨v, h1, h2, R1⟩ := R0.take he
  obtain ⟨a, vs, e0, k1, k2, k3⟩ := St8.itemsX R1.st q
  subst e0
  exact ⟨_, h1, k, a, vs, c, rfl, k1.sq q, hc.1, hc.2, h _ a h1 (jok_enumT q)⟩
end
def lcBT (i : Nat) (f : List D → List D) (vs : List Nat) (g : Sd) (ft : Tt) (fe : Xp) : Nv → Out Tr := fun e => match e[i]? with
  | some (some (t, b)) => (match titems t with
    | some (_, ds) => nox ((lcL vs g ft fe (f ds) [] (wipeE vs (e.set i none))).bind fun ts e2 => match e2[i]? with
      | some none => .ok (.lst ts) (e2.set i (some (t, b)))
      | _ => .bad)
    | none => .bad)
  | _ => .bad
def lcBX (i : Nat) (f : List D → List D) (vs : List Nat) (g : Sd) (ft : Tt) (fe : Xp) : Xp := fun e => (lcBT i f vs g ft fe e).bind fun t e1 => .ok (.tmp t) e1
section
variable {K : PySem.W.Frag} {mg : Str → Option Value} {W : WX} {vs is : List Nat} {i : Nat} {f : List D → List D} {g : TG} {fg : Sd} {ft : Tt} {fe : Xp}
theorem lcB_reads (og : GOk K g is fg) (hs : ∀ i ∈ is, i ∈ vs) (σ : St) (H : Hp) (Q : VK) (h : tR K mg W pO (lcBT i f vs fg ft fe) σ H Q) : tLc (tItB K i f) g (tTs K mg W0 ft) (tR K mg W0 pO (ow fe)) vs σ H Q := by
  obtain ⟨L, e, τ, R, q⟩ := h
  unfold lcBT at q
  split at q
  · rename_i t b he
    split at q
    · rename_i k ds hq
      refine ⟨L, e, τ, t, b, k, ds, R, he, hq, fun J a hσ hJ A hA => ?_⟩
      obtain ⟨v, h1, h2, R1⟩ := R.take he
      rw [hσ] at h1
      cases h1
      have q2 := (Good.of_nox q).bind
      generalize f ds = es at *
      refine ⟨fun i' m H' => ∃ e' ts, i' ≤ es.length ∧ m = es.length - i' ∧ wipeE vs e' = e' ∧ Rel K L (wipe σ vs) e' ([(.ref a, t)] ++ ((.ref A, .lst ts) :: τ)) H' ∧
          Good (lcL vs fg ft fe (es.drop i') ts e') fun a' e2 => Good (match e2[i]? with
            | some none => Out.ok (Tr.lst a') (e2.set i (some (t, b)))
            | _ => .bad) fun a e2 => ∀ v H' τ', pO σ τ a v τ' → Rel K L σ e2 τ' H' → Q v H', ⟨_, wipeE vs (e.set i none), [], Nat.zero_le _, rfl, wipeE_idem vs _, ?_, q2⟩, ?_⟩
      · have R2 := wipe_in R1 vs
        have R3 : Rel K L (wipe σ vs) (wipeE vs (e.set i none)) ((.ref A, .lst []) :: ([(.ref a, t)] ++ τ)) (upd H A (.lst [])) := R2.map fun s => St8.newL (its := []) s hA
        exact R3.perm List.perm_middle.symm
      · rintro i' m H' ⟨e', ts, hi', rfl, he', R', q'⟩
        by_cases hlt : i' < es.length
        · refine .inr ⟨hJ.go i' H' _ hlt R'.assoc, fun H2 => ∃ e2 ts2, i' + 1 ≤ es.length ∧ wipeE vs e2 = e2 ∧ Rel K L (wipe σ vs) e2 ([(.ref a, t)] ++ ((.ref A, .lst ts2) :: τ)) H2 ∧
              Good (lcL vs fg ft fe (es.drop (i' + 1)) ts2 e2) (fun a' e2 => Good (match e2[i]? with
                | some none => Out.ok (Tr.lst a') (e2.set i (some (t, b)))
                | _ => .bad) fun a e2 => ∀ v H' τ', pO σ τ a v τ' → Rel K L σ e2 τ' H' → Q v H'), fun H2 ⟨e2, ts2, k1, k2, k3, k4⟩ => ⟨es.length - (i' + 1), by omega, e2, ts2, k1, rfl, k2, k3, k4⟩, fun x H2 y => ?_⟩
          have hd : es[i']? = some es[i'] := List.getElem?_eq_getElem hlt
          have R2 := R'.more (hJ.yld i' _ H' _ x H2 hd R'.assoc y)
          rw [List.drop_eq_getElem_cons hlt] at q'
          unfold lcL at q'
          split at q'
          · exact q'.elim
          · rename_i e2 hge
            refine og L (wipe σ vs) e' e2 _ H2 x _ _ R2 hge fun σ2 ho R3 => ⟨wipe_same ho hs, L, e2, _, R3, (Good.bind q').pst fun bb e3 _ q3 H3 R4 => ?_⟩
            by_cases hb : bb = true
            · rw [if_pos hb] at q3 ⊢
              refine ⟨L, e3, _, R4, (Good.bind q3).pst fun u e4 _ q4 w H4 τ4 p4 R5 => ?_⟩
              have p4 : τ4 = (w, u) :: ([(.ref a, t)] ++ ((.ref A, .lst ts) :: τ)) := p4
              subst p4
              have R6 : Rel K L σ2 e4 ((.ref A, .lst ts) :: (w, u) :: ([(.ref a, t)] ++ τ)) H4 := R5.perm (((List.perm_middle (l₁ := [(V.ref a, t)])).cons _).trans (.swap _ _ _))
              obtain ⟨acc, h1, h2, R7⟩ := R6.push
              split at q4
              · rename_i hz
                have R8 := wipe_in R7 vs
                rw [wipe_same ho hs] at R8
                exact ⟨acc, h1, by omega, wipeE vs e4, ts ++ [u], hlt, wipeE_idem vs e4, R8.perm List.perm_middle.symm, q4⟩
              · exact q4.elim
            · rw [if_neg hb] at q3 ⊢
              have R8 := wipe_in R4 vs
              rw [wipe_same ho hs] at R8
              exact ⟨wipeE vs e3, ts, hlt, wipeE_idem vs e3, R8, q3⟩
        · have hn : i' = es.length := by omega
          subst hn
          rw [List.drop_length] at q'
          refine .inl ⟨hJ.stop H' _ R'.assoc, ?_⟩
          have q' : Good (match e'[i]? with
            | some none => Out.ok (Tr.lst ts) (e'.set i (some (t, b)))
            | _ => .bad) (fun a e2 => ∀ v H' τ', pO σ τ a v τ' → Rel K L σ e2 τ' H' → Q v H') := q'
          split at q'
          · rename_i hn
            have R9 : Rel K L σ e' ((.ref a, t) :: (.ref A, .lst ts) :: τ) H' := wipe_out R' he'
            exact q' (.ref A) H' _ rfl (R9.put hσ h2 hn)
          · exact q'.elim
    · exact q.elim
  · exact q.elim
end
section
variable {X : Cx} {W : WX} {elt tg iter : Expr} {ifs : List Expr} {scope : Scope} {own : List (Str × Nat)} {pos : Pos} {i : Nat} {is : List Nat} {f : List D → List D} {g : TG} {fg : Sd} {ft : Tt} {fe : Xp}
theorem se_lcB (hc : X.calm = true) (hN : X.N.Nodup) (hi : SIB X tg iter i f) (ok : BlkOk X.N X.env.scope scope own)
    (hg : ∀ (s : Shared) (H : Hp) (C : Addr) (cl : List (Str × Addr)) (fp : List Addr), SG (X.blk s H scope (compEnvC scope cl C X.env) fp) tg g is fg)
    (ht : ∀ (s : Shared) (H : Hp) (C : Addr) (cl : List (Str × Addr)) (fp : List Addr), SPt (X.blk s H scope (compEnvC scope cl C X.env) fp) W0 ifs ft)
    (he : ∀ (s : Shared) (H : Hp) (C : Addr) (cl : List (Str × Addr)) (fp : List Addr), SE (X.blk s H scope (compEnvC scope cl C X.env) fp) W0 elt fe) (h2 : ∀ i ∈ is, i ∈ own.map (·.2) := by decide) (hs : ∀ x, foldedSetIterable iter X.env x = pure x := by intro _; rfl) :
    SE X W (.ListComp elt [⟨tg, iter, ifs, 0⟩] scope pos) (lcBX i f (own.map (·.2)) fg ft fe) := by
  have og : GOk X.K g is fg := (hg X.s_0 X.H_0 0 [] []).2
  refine PE.imp (pe_lc (tt := tTs X.K X.mg W0 ft) (te := tR X.K X.mg W0 pO (ow fe)) hc hN hi ok (fun s H C cl fp => (hg s H C cl fp).1) ht (fun s H C cl fp => SE.own (he s H C cl fp)) hs) fun σ H Q ⟨L, e, τ, R, q⟩ => ?_
  refine lcB_reads og h2 σ H Q ⟨L, e, τ, R, (Pst.bind q).mono (.refl _) fun t e1 _ q1 v H1 τ1 p1 R1 => q1 v H1 τ1 p1 R1⟩
end
end Vs

set_option Elab.async false
set_option linter.all false
set_option maxRecDepth 100000
set_option maxHeartbeats 2000000
/-! Vs26: sorted(xs), xs a list or a tuple of pairs of ints. -/
namespace Vs
open PySem PySem.Spec L2
open PyProof.Rows hiding St
section
variable {prog : Program} {w : World} {A : Around} {E : Value → Shared → Prop} {s : Shared}
theorem sorted_seqO {l : Addr} {vs : List Value} {ltv : Value → Value → Bool} {Q : Value → Shared → Prop} {T : String} {o : Obj} {n : Nat} (O : SrtO.Swo ltv) (hT : T = "list" ∨ T = "tuple") (ho : s.heap.get? l = some o) (hc : o.cls = .type T)
    (hd : o.data = .seq vs.toArray n) (hz : vs.length ≤ sizeLine)
    (hS : 2 ≤ vs.length → ∀ (h1 : Heap) (a : Addr), (∀ b u, s.heap.get? b = some u → b ≠ a ∧ h1.get? b = some u) → h1.get? a = some (seqObj "list" vs.toArray 0) → SrtO.SortableO prog w A.in1.in1 { s with heap := h1 } a vs ltv)
    (h : ∀ (h2 : Heap) (d : Addr) (out : List Value), SrtO.Srtd ltv out → SrtO.Stb ltv out vs → (∀ b u, s.heap.get? b = some u → h2.get? b = some u) → s.heap.get? d = none → (∃ k, h2.get? d = some (seqObj "list" out.toArray k)) → Q (.ref d) { s with heap := h2 }) :
    wpAny (model prog w) A (call (.builtin "sorted") [.ref l]) Q E s := by
  refine Calls.call_function_entry kind_sorted plain_sorted entry_sorted (args_sorted1 _) ?_
  unfold Builtin.«sorted»
  refine wpAny_bind (m := checkCount "sorted" 1 1 _) (wpAny_pure ?_)
  refine wpAny_bind (wpAny_collect_seq l hT ho hc hd (fun g kg => ?_) (by simpa using hz))
  rw [List.toList_toArray]
  refine wpAny_bind (wpAny_newList ?_ hz)
  have at1 : (g.push (seqObj "list" vs.toArray 0)).get? g.objs.size = some (seqObj "list" vs.toArray 0) := Heap.get?_push_size _ rfl
  have old : ∀ b u, s.heap.get? b = some u → b ≠ g.objs.size ∧ (g.push (seqObj "list" vs.toArray 0)).get? b = some u := fun b u q =>
    ⟨Nat.ne_of_lt (Heap.lt_size (kg b u q)), Heap.get?_push_of_some _ (kg b u q)⟩
  have new : s.heap.get? g.objs.size = none := by
    cases q : s.heap.get? g.objs.size with
    | none => rfl
    | some u => exact absurd rfl (old _ u q).1
  refine wpAny_bind (wpAny_holding (wpAny_call_entry slot_list_sort ⟨_, at1, rfl⟩ entry_list_sort (SrtO.list_sort_ord O at1 hz (fun h2 => hS h2 _ _ old at1) fun out hs hb => ⟨_, rfl, ?_⟩) (args_list_sort _)))
  refine wpAny_pure ⟨_, rfl, h _ _ out hs hb (fun b u q => ?_) new (sortedHeap_at (n := 0) at1)⟩
  obtain ⟨n1, n2⟩ := old b u q
  rw [sortedHeap_old n1 (Heap.lt_size n2)]
  exact n2
end
section
variable {X : Cx}
/-- sorted(xs): xs a list or a tuple of pairs of ints -/
def rSortedQ (K : PySem.W.Frag) : List V → Hp → VK → Prop := fun vs H Q => ∃ (a : Addr) (xs : List V) (k : V → Int × Int), vs = [V.ref a] ∧ (SqL K H a xs ∨ SqT K H a xs) ∧ (∀ x ∈ xs, ∃ t, x = V.ref t ∧ SqT K H t [.int (k x).1, .int (k x).2]) ∧
  ∀ ys p, SrtO.Srtd (ltP k) ys → SrtO.Stb (ltP k) ys xs → H p = none → Q (.ref p) (upd H p (.lst ys))
theorem cr_sortedQ : CallR X (.builtin "sorted") (rSortedQ X.K) := by
  intro pins s σ H vs us Q I r h
  obtain ⟨a, xs, k, rfl, hs, hx, q⟩ := h
  obtain ⟨its, T, o, n, rv, hT, ho, hc, hd, hz⟩ : ∃ (its : List Value) (T : String) (o : Obj) (n : Nat), Vals xs its ∧ (T = "list" ∨ T = "tuple") ∧ s.heap.get? a = some o ∧ o.cls = .type T ∧ o.data = .seq its.toArray n ∧ xs.length ≤ sizeLine := by
    rcases hs with hs | hs
    · obtain ⟨its, rv, hl, hz⟩ := I.list hs
      obtain ⟨o, ho, hc, n, hd⟩ := hl.isList
      exact ⟨its, "list", o, n, rv, .inl rfl, ho, hc, hd, hz⟩
    · obtain ⟨its, rv, ⟨o, ho, hc, n, hd⟩, hz⟩ := I.tuple hs
      exact ⟨its, "tuple", o, n, rv, .inr rfl, ho, hc, hd, hz⟩
  obtain ⟨u, rfl, ru⟩ := vals1 r
  obtain rfl : u = Value.ref a := ru
  obtain ⟨e1, e2⟩ := refs_back rv fun x m => by
    obtain ⟨t, e, _⟩ := hx x m
    exact ⟨t, e⟩
  have pr : ∀ v ∈ its, Srt.IsPair s.heap v (k (backV v)).1 (k (backV v)).2 := fun v hv => by
    obtain ⟨t, rfl⟩ := e2 v hv
    have hm : V.ref t ∈ xs := by
      rw [e1]
      exact List.mem_map.mpr ⟨_, hv, rfl⟩
    obtain ⟨t', e, ht⟩ := hx _ hm
    cases e
    obtain ⟨js, r2, ⟨o2, ho2, hc2, n2, hd2⟩, _⟩ := I.tuple ht
    obtain ⟨u1, u2, rfl, ri, rj⟩ := vals2 r2
    obtain ⟨t1, rfl⟩ := ri
    obtain ⟨t2, rfl⟩ := rj
    exact ⟨t, o2, t1, t2, n2, rfl, ho2, hc2, hd2⟩
  have hzi : its.length ≤ sizeLine := by rw [← rv.length]; exact hz
  refine sorted_seqO (SrtO.swo_lex fun u => k (backV u)) hT ho hc hd hzi (fun h2 h1 b old ha => ?_) fun h2 d out hs1 hb1 kp hn hat => ?_
  · refine SrtO.pairs_sortableO (s := { s with heap := h1 }) (k := fun u => k (backV u)) (by omega) (fun v hm => (pr v hm).keeps fun b' o' e _ => (old b' o' e).2) fun o' e c => ?_
    rw [ha] at e
    cases e
    exact absurd (Value.type.inj c) (by decide)
  · have h3 : ∀ u ∈ out, ∃ a, u = Value.ref a := fun u hu => e2 u (hb1.perm.mem_iff.mp hu)
    have hHd : H d = none := I.hok.gone hn
    obtain ⟨m, hm⟩ := hat
    have hb : SrtO.Stb (ltP k) (out.map backV) xs := by
      rw [e1]
      exact SrtO.Stb.map (ltP_swo k) backV hb1
    refine ⟨.ref d, upd H d (.lst (out.map backV)), I.laidN (t' := s.toks) kp hn hHd ⟨?_, out, m, vals_back h3, hm⟩, rfl, q _ d (SrtO.srtd_map hs1) hb hHd⟩
    rw [hb.len]
    exact hz
end
end Vs

set_option Elab.async false
set_option linter.all false
set_option maxRecDepth 100000
set_option maxHeartbeats 2000000
/-! Vs27: sorted(..) of pairs, as a function on trees. -/
namespace Vs
open PySem PySem.Spec L2
open PyProof.Rows hiding St
/-! ### a plain sort -/
section
variable {α : Type} (lt : α → α → Bool)
def insP (p : α) : List α → List α
  | [] => [p]
  | q :: l => if lt q p = true then q :: insP p l else p :: q :: l
def srtP : List α → List α
  | [] => []
  | p :: l => insP lt p (srtP l)
variable {lt}
theorem insP_perm (p : α) : ∀ l : List α, (insP lt p l).Perm (p :: l)
  | [] => List.Perm.refl _
  | q :: l => by
    unfold insP
    split
    · exact ((insP_perm p l).cons q).trans (List.Perm.swap p q l)
    · exact List.Perm.refl _
theorem insP_cls (p x : α) : ∀ l : List α, SrtO.Swo lt → (insP lt p l).filter (SrtO.eqv lt x) = (p :: l).filter (SrtO.eqv lt x)
  | [], _ => rfl
  | q :: l, O => by
    unfold insP
    split
    · rename_i h
      rw [List.filter_cons, insP_cls p x l O, List.filter_cons, List.filter_cons (x := p), List.filter_cons]
      by_cases h1 : SrtO.eqv lt x p = true
      · by_cases h2 : SrtO.eqv lt x q = true
        · have e := SrtO.eqv_trans (v := p) O h2
          rw [h1] at e
          have := (SrtO.eqv_iff.mp e.symm).1
          rw [h] at this
          cases this
        · simp only [h1, h2, if_true, if_false, Bool.false_eq_true]
      · by_cases h2 : SrtO.eqv lt x q = true
        · simp only [h1, h2, if_true, if_false, Bool.false_eq_true]
        · simp only [h1, h2, if_false, Bool.false_eq_true]
    · rfl
theorem insP_srtd (O : SrtO.Swo lt) (p : α) : ∀ {l : List α}, SrtO.Srtd lt l → SrtO.Srtd lt (insP lt p l)
  | [], _ => SrtO.srtd_one p
  | q :: l, h => by
    unfold insP
    split
    · rename_i hq
      refine List.pairwise_cons.mpr ⟨fun y hy => ?_, insP_srtd O p (List.pairwise_cons.mp h).2⟩
      rcases List.mem_cons.mp ((insP_perm p l).mem_iff.mp hy) with rfl | hy
      · exact O.asym _ _ hq
      · exact SrtO.srtd_head h y hy
    · rename_i hq
      have hq : lt q p = false := by simpa using hq
      refine List.pairwise_cons.mpr ⟨fun y hy => ?_, h⟩
      exact SrtO.Swo.le_all O h hq y hy
theorem srtP_stb (O : SrtO.Swo lt) : ∀ l : List α, SrtO.Stb lt (srtP lt l) l
  | [] => SrtO.Stb.refl _
  | p :: l => by
    have ih := srtP_stb O l
    refine ⟨(insP_perm p _).trans (ih.perm.cons p), fun x => ?_⟩
    show (insP lt p (srtP lt l)).filter _ = _
    rw [insP_cls p x _ O, List.filter_cons, List.filter_cons, ih.cls x]
theorem srtP_srtd (O : SrtO.Swo lt) : ∀ l : List α, SrtO.Srtd lt (srtP lt l)
  | [] => List.Pairwise.nil
  | p :: l => insP_srtd O p (srtP_srtd O l)
end
theorem swo_lexB : SrtO.Swo SrtO.lexB := by
  refine ⟨fun x y h => ?_, fun x y z h1 h2 => ?_⟩
  · have a := SrtO.lexB_iff.mp h
    refine SrtO.lexB_no.mpr ?_
    omega
  · have a := SrtO.lexB_no.mp h1
    have b := SrtO.lexB_no.mp h2
    refine SrtO.lexB_no.mpr ?_
    omega
def prD (p : Int × Int) : D := .tuple [.int p.1, .int p.2]
def prK : D → Option (Int × Int)
  | .tuple [.int i, .int j] => some (i, j)
  | _ => none
def prKs : List D → Option (List (Int × Int))
  | [] => some []
  | d :: ds => match prK d, prKs ds with
    | some p, some ps => some (p :: ps)
    | _, _ => none
theorem prK_eq {d : D} {p : Int × Int} (h : prK d = some p) : d = prD p := by
  unfold prK at h
  split at h
  · cases h; rfl
  · cases h
theorem prKs_eq : ∀ {ds : List D} {ps : List (Int × Int)}, prKs ds = some ps → ds = ps.map prD
  | [], ps, h => by
    cases h
    rfl
  | d :: ds, ps, h => by
    unfold prKs at h
    split at h
    · rename_i p qs h1 h2
      cases h
      rw [List.map_cons, ← prK_eq h1, ← prKs_eq h2]
    · cases h
def srtV (r : Rv) (e : Nv) : Out Rv := match ritems r e with
  | some (_, ds) => (match prKs ds with
    | some ps => .ok (.tmp (.lst (((srtP SrtO.lexB ps).map prD).map .leaf))) e
    | none => .bad)
  | none => .bad
section
variable {X : Cx}
/-- sorted(xs): for what each item is as a pair -/
def rSortedR (K : PySem.W.Frag) : List V → Hp → VK → Prop := fun vs H Q => ∃ (a : Addr) (xs : List V), vs = [V.ref a] ∧ (SqL K H a xs ∨ SqT K H a xs) ∧ (∀ x ∈ xs, ∃ t i j, x = V.ref t ∧ SqT K H t [.int i, .int j]) ∧
  ∀ (k : V → Int × Int) ys p, (∀ x ∈ xs, ∀ t i j, x = V.ref t → SqT K H t [.int i, .int j] → k x = (i, j)) → SrtO.Srtd (ltP k) ys → SrtO.Stb (ltP k) ys xs → H p = none → Q (.ref p) (upd H p (.lst ys))
theorem cr_sortedR : CallR X (.builtin "sorted") (rSortedR X.K) := by
  intro pins s σ H vs us Q I r h
  obtain ⟨a, xs, rfl, hs, hx, q⟩ := h
  classical
  let k : V → Int × Int := fun x => if h : ∃ p : Int × Int, ∃ t, x = V.ref t ∧ SqT X.K H t [.int p.1, .int p.2] then h.choose else (0, 0)
  have hk : ∀ x t i j, x = V.ref t → SqT X.K H t [.int i, .int j] → k x = (i, j) := fun x t i j e ht => by
    have hex : ∃ p : Int × Int, ∃ t, x = V.ref t ∧ SqT X.K H t [.int p.1, .int p.2] := ⟨(i, j), t, e, ht⟩
    have e1 : k x = hex.choose := by
      show (if h : _ then _ else _) = _
      rw [dif_pos hex]
    obtain ⟨t', e', ht'⟩ := hex.choose_spec
    rw [e1]
    rw [e] at e'
    cases e'
    have := I.tuple_inj ht' ht
    simp only [List.cons.injEq, V.int.injEq, and_true] at this
    exact Prod.ext this.1 this.2
  refine cr_sortedQ pins s σ H [V.ref a] us Q I r ⟨a, xs, k, rfl, hs, fun x hm => ?_, fun ys p h1 h2 h3 => q k ys p (fun x _ t i j e ht => hk x t i j e ht) h1 h2 h3⟩
  obtain ⟨t, i, j, e, ht⟩ := hx x hm
  refine ⟨t, e, ?_⟩
  rw [hk x t i j e ht]
  exact ht
end
section
variable {X : Cx} {W : WX} {a : Expr} {fa : Xp} {p pos : Pos}
theorem dq_pair {K : PySem.W.Frag} {H : Hp} {v : V} {q : Int × Int} (h : Dq K H v (prD q)) : ∃ t, v = .ref t ∧ SqT K H t [.int q.1, .int q.2] := by
  cases h with
  | tup hs ha =>
    rename_i t xs
    cases ha with
    | cons h1 hr =>
      cases hr with
      | cons h2 hr =>
        cases hr
        cases h1
        cases h2
        exact ⟨t, rfl, hs⟩
theorem zip_prD {k : V → Int × Int} : ∀ {vs : List V} {ps : List (Int × Int)}, vs.length = ps.length → (∀ (i : Nat) (v : V) (q : Int × Int), vs[i]? = some v → ps[i]? = some q → k v = q) →
    vs.zip ((ps.map prD).map Tr.leaf) = vs.map (fun v => (v, Tr.leaf (prD (k v)))) ∧ ps = vs.map k
  | [], [], _, _ => ⟨rfl, rfl⟩
  | v :: vs, q :: ps, hl, h => by
    have e := h 0 v q rfl rfl
    obtain ⟨h1, h2⟩ := zip_prD (vs := vs) (ps := ps) (by simpa using hl) fun i v' q' a b => h (i + 1) v' q' (by simpa using a) (by simpa using b)
    constructor
    · rw [List.map_cons, List.map_cons, List.zip_cons_cons, h1, List.map_cons, e]
    · rw [List.map_cons, e, ← h2]
  | [], _ :: _, hl, _ => by simp at hl
  | _ :: _, [], hl, _ => by simp at hl
theorem se_sorted (ha : SE X W a fa) (hg : Gl X "sorted") (hm : X.mg "sorted" = none) (hn : starEach [a] X.env = (false, eval a X.env) :: starEach [] X.env := by rfl) : SE X W (.Call (.Name "sorted" p) [a] [] pos) (call1 srtV fa) :=
  se_b1 (pe_callB cr_sortedR hg hm (by decide +kernel) (pa_cons ha pa_nil hn) (he := hn)) fun L σ e τ τ0 H v r1 Q sb R d1 q => by
    unfold srtV at q
    split at q
    · rename_i kk ds hd
      split at q
      · rename_i ps hps
        obtain ⟨pa, vs, ea, sa, la, R1⟩ := d1.items R hd
        subst ea
        have hds := prKs_eq hps
        subst hds
        have dq : ∀ i v q', vs[i]? = some v → ps[i]? = some q' → Dq X.K H v (prD q') := fun i v q' h1 h2 => by
          have hm : (v, Tr.leaf (prD q')) ∈ vs.zip ((ps.map prD).map Tr.leaf) := by
            refine List.mem_of_getElem? (i := i) ?_
            rw [List.getElem?_zip_eq_some]
            exact ⟨h1, by rw [List.getElem?_map, List.getElem?_map, h2]; rfl⟩
          have := R1.dp_mem (List.mem_append_left _ hm)
          rwa [view_leaf] at this
        have hlen : vs.length = ps.length := by rw [la, List.length_map]
        refine ⟨pa, vs, rfl, ?_, fun x hx => ?_, fun k ys pp hk hs hb hp => ?_⟩
        · cases kk with
          | true => exact .inr sa
          | false => exact .inl sa
        · obtain ⟨i, hi, rfl⟩ := List.mem_iff_getElem.mp hx
          obtain ⟨t, e1, e2⟩ := dq_pair (dq i _ _ (List.getElem?_eq_getElem hi) (List.getElem?_eq_getElem (by omega : i < ps.length)))
          exact ⟨t, _, _, e1, e2⟩
        · have hkv : ∀ i v q', vs[i]? = some v → ps[i]? = some q' → k v = q' := fun i v q' h1 h2 => by
            obtain ⟨t, e1, e2⟩ := dq_pair (dq i v q' h1 h2)
            exact hk v (List.mem_of_getElem? h1) t q'.1 q'.2 e1 e2
          obtain ⟨z1, z2⟩ := zip_prD (k := k) (vs := vs) (ps := ps) hlen hkv
          have hb2 : SrtO.Stb SrtO.lexB (ys.map k) (vs.map k) := SrtO.Stb.map swo_lexB k hb
          have hs2 : SrtO.Srtd SrtO.lexB (ys.map k) := SrtO.srtd_map hs
          have hst := srtP_stb swo_lexB ps
          rw [z2] at hst
          have heq : ys.map k = srtP SrtO.lexB ps := by
            rw [z2]
            refine SrtO.stb_uniq swo_lexB hs2 (srtP_srtd swo_lexB _) ⟨hb2.perm.trans hst.perm.symm, fun x => (hb2.cls x).trans (hst.cls x).symm⟩
          obtain ⟨y1, _⟩ := zip_prD (k := k) (vs := ys) (ps := ys.map k) (by simp) (fun i v q' h1 h2 => by
            rw [List.getElem?_map, h1] at h2
            exact Option.some.inj h2)
          have hperm : (vs.zip ((ps.map prD).map Tr.leaf)).Perm (ys.zip (((ys.map k).map prD).map Tr.leaf)) := by
            rw [z1, y1]
            exact (hb.perm.map _).symm
          refine q _ _ _ rfl ?_
          rw [← heq]
          refine Rel.newL (vs := ys) (ds := (ys.map k).map prD) ?_ (by simp) hp
          exact (R1.perm (hperm.append_right _)).subl ((List.Sublist.refl _).append sb)
      · exact q.elim
    · exact q.elim
end
end Vs

set_option linter.all false
/-! Ser: series of integers, their product, inverse and powers. -/
namespace Ser
abbrev Sr := Nat → Int
def sh (a : Sr) : Sr := fun i => a (i + 1)
def cv : Sr → Sr → Sr
  | a, b, 0 => a 0 * b 0
  | a, b, n + 1 => a 0 * b (n + 1) + cv (sh a) b n
def u1 : Sr := fun n => if n = 0 then 1 else 0
def z0 : Sr := fun _ => 0
def ad (a b : Sr) : Sr := fun n => a n + b n
def sm (r : Int) (a : Sr) : Sr := fun n => r * a n
def th (a : Sr) : Sr := fun n => (n : Int) * a n
theorem cv_zero (a b : Sr) : cv a b 0 = a 0 * b 0 := by unfold cv; rfl
theorem cv_succ (a b : Sr) (n : Nat) : cv a b (n + 1) = a 0 * b (n + 1) + cv (sh a) b n := by
  conv => lhs; unfold cv
/-- only the first places count -/
theorem cv_congr : ∀ (n : Nat) {a a' b b' : Sr}, (∀ i, i ≤ n → a i = a' i) → (∀ i, i ≤ n → b i = b' i) → cv a b n = cv a' b' n
  | 0, a, a', b, b', ha, hb => by rw [cv_zero, cv_zero, ha 0 (Nat.le_refl _), hb 0 (Nat.le_refl _)]
  | n + 1, a, a', b, b', ha, hb => by
    rw [cv_succ, cv_succ, ha 0 (Nat.zero_le _), hb (n + 1) (Nat.le_refl _), cv_congr n (a := sh a) (a' := sh a') (fun i hi => ha (i + 1) (by omega)) fun i hi => hb i (by omega)]
theorem cv_ad_l : ∀ (n : Nat) (a b c : Sr), cv (ad a b) c n = cv a c n + cv b c n
  | 0, a, b, c => by simp only [cv_zero, ad]; rw [Int.add_mul]
  | n + 1, a, b, c => by
    rw [cv_succ, cv_succ, cv_succ, show sh (ad a b) = ad (sh a) (sh b) from rfl, cv_ad_l n]
    simp only [ad]
    rw [Int.add_mul]
    omega
theorem cv_ad_r : ∀ (n : Nat) (a b c : Sr), cv a (ad b c) n = cv a b n + cv a c n
  | 0, a, b, c => by simp only [cv_zero, ad]; rw [Int.mul_add]
  | n + 1, a, b, c => by
    rw [cv_succ, cv_succ, cv_succ, cv_ad_r n]
    simp only [ad]
    rw [Int.mul_add]
    omega
theorem cv_sm_l : ∀ (n : Nat) (r : Int) (a b : Sr), cv (sm r a) b n = r * cv a b n
  | 0, r, a, b => by simp only [cv_zero, sm]; rw [Int.mul_assoc]
  | n + 1, r, a, b => by
    rw [cv_succ, cv_succ, show sh (sm r a) = sm r (sh a) from rfl, cv_sm_l n, Int.mul_add]
    simp only [sm]
    rw [Int.mul_assoc]
theorem cv_sm_r : ∀ (n : Nat) (r : Int) (a b : Sr), cv a (sm r b) n = r * cv a b n
  | 0, r, a, b => by simp only [cv_zero, sm]; rw [Int.mul_left_comm]
  | n + 1, r, a, b => by
    rw [cv_succ, cv_succ, cv_sm_r n, Int.mul_add]
    simp only [sm]
    rw [Int.mul_left_comm]
theorem sh_cv (a b : Sr) : sh (cv a b) = ad (sm (a 0) (sh b)) (cv (sh a) b) := by
  funext n
  show cv a b (n + 1) = a 0 * b (n + 1) + cv (sh a) b n
  exact cv_succ a b n
theorem cv_assoc : ∀ (n : Nat) (a b c : Sr), cv (cv a b) c n = cv a (cv b c) n
  | 0, a, b, c => by simp only [cv_zero]; rw [Int.mul_assoc]
  | n + 1, a, b, c => by
    rw [cv_succ, cv_succ, sh_cv, cv_ad_l, cv_sm_l, cv_assoc n, cv_succ b c n, cv_zero, Int.mul_add, Int.mul_assoc]
    omega
/-- the other way round -/
theorem cv_last : ∀ (n : Nat) (a b : Sr), cv a b (n + 1) = cv a (sh b) n + a (n + 1) * b 0
  | 0, a, b => by simp only [cv_succ, cv_zero, sh]
  | n + 1, a, b => by
    rw [cv_succ, cv_last n, cv_succ a (sh b) n]
    simp only [sh]
    omega
theorem cv_comm : ∀ (n : Nat) (a b : Sr), cv a b n = cv b a n
  | 0, a, b => by rw [cv_zero, cv_zero, Int.mul_comm]
  | n + 1, a, b => by
    rw [cv_succ, cv_last n b a, cv_comm n (sh a) b, Int.mul_comm (a 0)]
    omega
theorem cvA (a b c : Sr) : cv (cv a b) c = cv a (cv b c) := funext fun n => cv_assoc n a b c
theorem cvC (a b : Sr) : cv a b = cv b a := funext fun n => cv_comm n a b
theorem cvL (a b c : Sr) : cv a (cv b c) = cv b (cv a c) := by rw [← cvA, cvC a b, cvA]
theorem cv_z0 : ∀ (n : Nat) (b : Sr), cv z0 b n = 0
  | 0, b => by simp [cv_zero, z0]
  | n + 1, b => by rw [cv_succ, show sh z0 = z0 from rfl, cv_z0 n]; simp [z0]
theorem cv_u1 (b : Sr) : cv u1 b = b := by
  funext n
  cases n with
  | zero => simp [cv_zero, u1]
  | succ n =>
    rw [cv_succ, show sh u1 = z0 from funext fun i => by simp [sh, u1, z0], cv_z0]
    simp [u1]
theorem cv_u1r (b : Sr) : cv b u1 = b := by rw [cvC, cv_u1]
theorem cvDl (a b c : Sr) : cv (ad a b) c = ad (cv a c) (cv b c) := funext fun n => cv_ad_l n a b c
theorem cvDr (a b c : Sr) : cv a (ad b c) = ad (cv a b) (cv a c) := funext fun n => cv_ad_r n a b c
theorem cvSl (r : Int) (a b : Sr) : cv (sm r a) b = sm r (cv a b) := funext fun n => cv_sm_l n r a b
theorem cvSr (r : Int) (a b : Sr) : cv a (sm r b) = sm r (cv a b) := funext fun n => cv_sm_r n r a b
/-- the rate of change of a product -/
theorem th_cv : ∀ (n : Nat) (a b : Sr), (n : Int) * cv a b n = cv (th a) b n + cv a (th b) n
  | 0, a, b => by simp [cv_zero, th]
  | n + 1, a, b => by
    rw [cv_succ, cv_succ (th a) b, cv_succ a (th b), show sh (th a) = ad (th (sh a)) (sh a) from funext fun i => by
      simp only [sh, th, ad]
      rw [show ((i + 1 : Nat) : Int) = (i : Int) + 1 from rfl, Int.add_mul, Int.one_mul], cv_ad_l]
    have ih := th_cv n (sh a) b
    have e1 : a 0 * (((n + 1 : Nat) : Int) * b (n + 1)) = (n : Int) * (a 0 * b (n + 1)) + a 0 * b (n + 1) := by
      rw [show ((n + 1 : Nat) : Int) = (n : Int) + 1 from rfl, Int.mul_left_comm, Int.add_mul, Int.one_mul]
    have e2 : ((n + 1 : Nat) : Int) * (a 0 * b (n + 1) + cv (sh a) b n) = (n : Int) * (a 0 * b (n + 1)) + a 0 * b (n + 1) + ((n : Int) * cv (sh a) b n + cv (sh a) b n) := by
      rw [show ((n + 1 : Nat) : Int) = (n : Int) + 1 from rfl, Int.mul_add, Int.add_mul, Int.add_mul, Int.one_mul, Int.one_mul]
    have e3 : sh (th b) = ad (th (sh b)) (sh b) := funext fun i => by
      simp only [sh, th, ad]
      rw [show ((i + 1 : Nat) : Int) = (i : Int) + 1 from rfl, Int.add_mul, Int.one_mul]
    rw [e2, ih]
    simp only [th] at e1 ⊢
    rw [e1]
    simp only [show ((0 : Nat) : Int) = 0 from rfl, Int.zero_mul]
    omega
theorem thP (a b : Sr) : th (cv a b) = ad (cv (th a) b) (cv a (th b)) := funext fun n => th_cv n a b
theorem th_u1 : th u1 = z0 := funext fun n => by
  cases n with
  | zero => rfl
  | succ n => simp [th, u1, z0]

/-! ### the inverse -/
def ivL (a : Sr) : Nat → List Int
  | 0 => [1]
  | n + 1 => ivL a n ++ [-(cv (sh a) (fun i => (ivL a n).getD i 0) n)]
def iv (a : Sr) : Sr := fun n => (ivL a n).getD n 0
theorem ivL_len (a : Sr) : ∀ n, (ivL a n).length = n + 1
  | 0 => rfl
  | n + 1 => by
    unfold ivL
    rw [List.length_append, ivL_len a n]
    rfl
theorem ivL_get (a : Sr) : ∀ (n i : Nat), i ≤ n → (ivL a n).getD i 0 = iv a i
  | 0, i, h => by
    have : i = 0 := by omega
    subst this
    rfl
  | n + 1, i, h => by
    by_cases hi : i = n + 1
    · subst hi
      rfl
    · have e : (ivL a (n + 1)).getD i 0 = (ivL a n).getD i 0 := by
        conv => lhs; unfold ivL
        rw [List.getD_eq_getElem?_getD, List.getElem?_append_left (by rw [ivL_len]; omega), List.getD_eq_getElem?_getD]
      rw [e]
      exact ivL_get a n i (by omega)
theorem iv_zero (a : Sr) : iv a 0 = 1 := rfl
theorem iv_succ (a : Sr) (n : Nat) : iv a (n + 1) = -(cv (sh a) (iv a) n) := by
  have e : iv a (n + 1) = -(cv (sh a) (fun i => (ivL a n).getD i 0) n) := by
    show (ivL a (n + 1)).getD (n + 1) 0 = _
    conv => lhs; unfold ivL
    rw [List.getD_eq_getElem?_getD, List.getElem?_append_right (by rw [ivL_len]; omega), ivL_len]
    simp
  rw [e]
  congr 1
  exact cv_congr n (fun _ _ => rfl) fun i hi => ivL_get a n i hi
theorem cv_iv {a : Sr} (h : a 0 = 1) : cv a (iv a) = u1 := funext fun n => by
  cases n with
  | zero => simp [cv_zero, h, iv_zero, u1]
  | succ n =>
    rw [cv_succ, iv_succ, h]
    simp [u1]
    omega
theorem iv_unique {a b : Sr} (h : a 0 = 1) (hb : cv a b = u1) : b = iv a := by
  have e : cv (cv a (iv a)) b = cv (iv a) (cv a b) := by rw [cvC a (iv a), cvA]
  rw [cv_iv h, cv_u1, hb, cv_u1r] at e
  exact e
theorem iv_iv {a : Sr} (h : a 0 = 1) : iv (iv a) = a := (iv_unique (a := iv a) rfl (by rw [cvC, cv_iv h])).symm

/-! ### powers -/
def pn (a : Sr) : Nat → Sr
  | 0 => u1
  | k + 1 => cv (pn a k) a
def pw (a : Sr) (p : Int) : Sr := if 0 ≤ p then pn a p.toNat else pn (iv a) (-p).toNat
theorem pn_zero_at {a : Sr} (h : a 0 = 1) : ∀ k, pn a k 0 = 1
  | 0 => rfl
  | k + 1 => by unfold pn; rw [cv_zero, pn_zero_at h k, h]; rfl
theorem pw_at0 {a : Sr} (h : a 0 = 1) (p : Int) : pw a p 0 = 1 := by
  unfold pw
  split
  · exact pn_zero_at h _
  · exact pn_zero_at (iv_zero a) _
theorem sm_sm (r s : Int) (a : Sr) : sm r (sm s a) = sm (r * s) a := funext fun n => by simp only [sm]; rw [Int.mul_assoc]
theorem ad_sm (r s : Int) (a : Sr) : ad (sm r a) (sm s a) = sm (r + s) a := funext fun n => by simp only [sm, ad]; rw [Int.add_mul]
theorem sm_one (a : Sr) : sm 1 a = a := funext fun n => by simp [sm]
theorem pn_rate (a : Sr) : ∀ k : Nat, cv a (th (pn a k)) = sm (k : Int) (cv (th a) (pn a k))
  | 0 => by
    show cv a (th u1) = _
    rw [th_u1, cvC]
    funext n
    rw [cv_z0]
    simp [sm]
  | k + 1 => by
    have ih := pn_rate a k
    show cv a (th (cv (pn a k) a)) = _
    rw [thP, cvDr, ← cvA a (th (pn a k)) a, ih, cvSl, cvA (th a) (pn a k) a, ← cvA a (pn a k) (th a), cvC a (pn a k), cvC (cv (pn a k) a) (th a)]
    show ad (sm (k : Int) (cv (th a) (pn a (k + 1)))) (cv (th a) (pn a (k + 1))) = _
    rw [show ((k + 1 : Nat) : Int) = (k : Int) + 1 from rfl, ← ad_sm, sm_one]
theorem iv_rate {a : Sr} (h : a 0 = 1) : cv a (th (iv a)) = sm (-1) (cv (th a) (iv a)) := by
  have e := thP a (iv a)
  rw [cv_iv h, th_u1] at e
  funext n
  have en := congrFun e n
  simp only [z0, ad, sm] at en ⊢
  omega
theorem pw_rate {a : Sr} (h : a 0 = 1) (p : Int) : cv a (th (pw a p)) = sm p (cv (th a) (pw a p)) := by
  unfold pw
  split
  · rename_i hp
    rw [pn_rate a p.toNat, show ((p.toNat : Nat) : Int) = p by omega]
  · rename_i hp
    have r := pn_rate (iv a) (-p).toNat
    have e1 : cv a (cv a (cv (iv a) (th (pn (iv a) (-p).toNat)))) = cv a (th (pn (iv a) (-p).toNat)) := by rw [← cvA a (iv a), cv_iv h, cv_u1]
    rw [r, cvSr, cvSr] at e1
    rw [← e1, ← cvA a (th (iv a)), iv_rate h, cvSl, cvSr, cvA (th a) (iv a), cvL a (th a), ← cvA a (iv a), cv_iv h, cv_u1, sm_sm]
    congr 1
    omega

/-! ### powers by the rate of change -/
/-- the weights -/
def wt (a : Sr) (p : Int) (n : Nat) : Sr := fun k => ((k : Int) * p - n + k) * a k
def lpL (a : Sr) (p : Int) : Nat → List Int
  | 0 => [1]
  | n + 1 => lpL a p n ++ [(cv (sh (wt a p (n + 1))) (fun i => (lpL a p n).getD i 0) n) / ((n + 1 : Nat) : Int)]
def lp (a : Sr) (p : Int) : Sr := fun n => (lpL a p n).getD n 0
theorem lpL_len (a : Sr) (p : Int) : ∀ n, (lpL a p n).length = n + 1
  | 0 => rfl
  | n + 1 => by
    unfold lpL
    rw [List.length_append, lpL_len a p n]
    rfl
theorem cv_wt (a g : Sr) (p : Int) (m : Nat) : ∀ n, n ≤ m → cv (wt a p m) g n = p * cv (th a) g n - cv a (th g) n - ((m : Int) - n) * cv a g n := by
  intro n _
  have e1 : wt a p m = ad (ad (sm p (th a)) (sm (-(m : Int)) a)) (th a) := funext fun k => by
    simp only [wt, ad, sm, th]
    rw [Int.add_mul, Int.sub_mul, Int.neg_mul, ← Int.mul_assoc, Int.mul_comm p]
    omega
  rw [e1, cv_ad_l, cv_ad_l, cv_sm_l, cv_sm_l]
  have e2 := th_cv n a g
  rw [Int.sub_mul, Int.neg_mul]
  omega
/-- the recurrence holds of the power -/
theorem pw_rec {a : Sr} (h : a 0 = 1) (p : Int) (n : Nat) : cv (sh (wt a p (n + 1))) (pw a p) n = ((n + 1 : Nat) : Int) * pw a p (n + 1) := by
  have r := congrFun (pw_rate h p) (n + 1)
  have e := cv_wt a (pw a p) p (n + 1) (n + 1) (Nat.le_refl _)
  simp only [sm] at r
  rw [r, cv_succ] at e
  have e3 : wt a p (n + 1) 0 = -((n + 1 : Nat) : Int) := by
    simp only [wt, h]
    omega
  rw [e3, Int.sub_self (((n + 1 : Nat) : Int)), Int.zero_mul, Int.neg_mul, Int.sub_self] at e
  omega
theorem lpL_get {a : Sr} (h : a 0 = 1) (p : Int) : ∀ (n i : Nat), i ≤ n → (lpL a p n).getD i 0 = pw a p i
  | 0, i, hi => by
    have : i = 0 := by omega
    subst this
    rw [pw_at0 h]
    rfl
  | n + 1, i, hi => by
    unfold lpL
    by_cases he : i = n + 1
    · subst he
      rw [List.getD_eq_getElem?_getD, List.getElem?_append_right (by rw [lpL_len]; omega), lpL_len]
      have e : cv (sh (wt a p (n + 1))) (fun i => (lpL a p n).getD i 0) n = cv (sh (wt a p (n + 1))) (pw a p) n := cv_congr n (fun _ _ => rfl) fun i hi => lpL_get h p n i hi
      rw [e, pw_rec h]
      simp
      rw [Int.mul_ediv_cancel_left]
      omega
    · rw [List.getD_eq_getElem?_getD, List.getElem?_append_left (by rw [lpL_len]; omega), ← List.getD_eq_getElem?_getD]
      exact lpL_get h p n i (by omega)
/-! ### the laws of powers -/
theorem pn_add (a : Sr) (j : Nat) : ∀ k, pn a (j + k) = cv (pn a j) (pn a k)
  | 0 => (cv_u1r _).symm
  | k + 1 => by
    show cv (pn a (j + k)) a = cv (pn a j) (cv (pn a k) a)
    rw [pn_add a j k, cvA]
theorem pn_cv (a b : Sr) : ∀ k, pn (cv a b) k = cv (pn a k) (pn b k)
  | 0 => (cv_u1 _).symm
  | k + 1 => by
    show cv (pn (cv a b) k) (cv a b) = cv (cv (pn a k) a) (cv (pn b k) b)
    rw [pn_cv a b k, cvA, cvA, cvL (pn b k) a b]
theorem pn_u1 : ∀ k, pn u1 k = u1
  | 0 => rfl
  | k + 1 => by
    show cv (pn u1 k) u1 = u1
    rw [cv_u1r, pn_u1 k]
theorem pn_inv {a : Sr} (h : a 0 = 1) (k : Nat) : cv (pn a k) (pn (iv a) k) = u1 := by rw [← pn_cv, cv_iv h, pn_u1]
theorem pw_nat (a : Sr) (k : Nat) : pw a (k : Int) = pn a k := by
  unfold pw
  rw [if_pos (by omega)]
  rfl
theorem pw_neg (a : Sr) (k : Nat) : pw a (-(k : Int)) = pn (iv a) k := by
  unfold pw
  split
  · have : k = 0 := by omega
    subst this
    rfl
  · rw [show (-(-(k : Int))).toNat = k by omega]
/-- one factor more -/
theorem pw_succ {a : Sr} (h : a 0 = 1) (p : Int) : pw a (p + 1) = cv (pw a p) a := by
  by_cases hp : 0 ≤ p
  · obtain ⟨k, rfl⟩ : ∃ k : Nat, p = k := ⟨p.toNat, by omega⟩
    rw [pw_nat, show ((k : Int) + 1) = ((k + 1 : Nat) : Int) from rfl, pw_nat]
    rfl
  · obtain ⟨k, rfl⟩ : ∃ k : Nat, p = -((k + 1 : Nat) : Int) := ⟨(-p - 1).toNat, by omega⟩
    rw [pw_neg, show (-((k + 1 : Nat) : Int) + 1) = -(k : Int) by omega, pw_neg]
    show pn (iv a) k = cv (cv (pn (iv a) k) (iv a)) a
    rw [cvA, cvC (iv a) a, cv_iv h, cv_u1r]
theorem pw_pred {a : Sr} (h : a 0 = 1) (p : Int) : pw a (p - 1) = cv (pw a p) (iv a) := by
  have e := pw_succ h (p - 1)
  rw [show p - 1 + 1 = p by omega] at e
  rw [e, cvA, cv_iv h, cv_u1r]
theorem pw_add {a : Sr} (h : a 0 = 1) (p : Int) : ∀ q : Int, pw a (p + q) = cv (pw a p) (pw a q) := by
  have up : ∀ k : Nat, pw a (p + (k : Int)) = cv (pw a p) (pw a k) := by
    intro k
    induction k with
    | zero =>
      show pw a (p + 0) = cv (pw a p) (pw a ((0 : Nat) : Int))
      rw [Int.add_zero, pw_nat]
      exact (cv_u1r _).symm
    | succ k ih =>
      rw [show p + ((k + 1 : Nat) : Int) = p + k + 1 by omega, pw_succ h, ih, show ((k + 1 : Nat) : Int) = (k : Int) + 1 from rfl, pw_succ h, cvA]
  have dn : ∀ k : Nat, pw a (p - (k : Int)) = cv (pw a p) (pw a (-(k : Int))) := by
    intro k
    induction k with
    | zero =>
      show pw a (p - 0) = cv (pw a p) (pw a (-((0 : Nat) : Int)))
      rw [Int.sub_zero, pw_neg]
      exact (cv_u1r _).symm
    | succ k ih =>
      rw [show p - ((k + 1 : Nat) : Int) = p - k - 1 by omega, pw_pred h, ih, show (-((k + 1 : Nat) : Int)) = -(k : Int) - 1 by omega, pw_pred h, cvA]
  intro q
  by_cases hq : 0 ≤ q
  · obtain ⟨k, rfl⟩ : ∃ k : Nat, q = k := ⟨q.toNat, by omega⟩
    exact up k
  · obtain ⟨k, rfl⟩ : ∃ k : Nat, q = -(k : Int) := ⟨(-q).toNat, by omega⟩
    have := dn k
    rw [← this]
    congr 1
theorem pw_three {a : Sr} (h : a 0 = 1) (p : Int) : pw (pw a p) 3 = pw a (p * 3) := by
  rw [show p * 3 = p + p + p by omega, pw_add h, pw_add h, show (3 : Int) = ((3 : Nat) : Int) from rfl, pw_nat]
  show cv (cv (cv u1 (pw a p)) (pw a p)) (pw a p) = _
  rw [cv_u1]
end Ser

set_option Elab.async false
set_option linter.all false
set_option maxRecDepth 100000
set_option maxHeartbeats 1000000
/-! Ev: the functions on trees, evaluated. -/
namespace Vs
open PySem PySem.Spec L2
open PyProof.Rows hiding St

set_option checkBinderAnnotations false in
def bnd {α β : Type} (o : Out α) [f : α → Nv → Out β] : Out β := o.bind f
@[simp ↓] theorem bind_b {α β : Type} (o : Out α) (f : α → Nv → Out β) : o.bind f = @bnd α β o f := id rfl
@[simp] theorem bnd_ok {α β : Type} (a : α) (e : Nv) (f : α → Nv → Out β) : @bnd α β (Out.ok a e) f = f a e := id rfl
@[simp] theorem bnd_exc {α β : Type} (x : Exn) (e : Nv) (f : α → Nv → Out β) : @bnd α β (Out.exc x e : Out α) f = .exc x e := id rfl
@[simp] theorem bnd_bad {α β : Type} (f : α → Nv → Out β) : @bnd α β (Out.bad : Out α) f = .bad := id rfl
/-- bounds, not looked into -/
def okR (i : Int) : Prop := -(2 ^ 62) ≤ i ∧ i < 2 ^ 62
instance (i : Int) : Decidable (okR i) := inferInstanceAs (Decidable (_ ∧ _))
def ltZ (n : Nat) : Prop := n < sizeLine
instance (n : Nat) : Decidable (ltZ n) := inferInstanceAs (Decidable (_ < _))
def leZ (n : Nat) : Prop := n ≤ sizeLine
instance (n : Nat) : Decidable (leZ n) := inferInstanceAs (Decidable (_ ≤ _))
theorem z1000 : 1000000 ≤ sizeLine := by decide
theorem leZ_of {n : Nat} (h : n ≤ 1000000) : leZ n := Nat.le_trans h z1000
theorem ltZ_of {n : Nat} (h : n < 1000000) : ltZ n := Nat.lt_of_lt_of_le h z1000
theorem okR_of {i : Int} (h0 : -1000000 ≤ i) (h1 : i ≤ 1000000) : okR i := by
  unfold okR
  omega
@[simp] theorem v_nm (i : Nat) (e : Nv) : nm i e = match e[i]? with | some (some _) => Out.ok (Rv.at i) e | _ => .bad := by
  unfold nm
  rcases e[i]? with _ | _ | _ <;> rfl
@[simp] theorem v_ct (d : D) (e : Nv) : ct d e = .ok (.tmp (.leaf d)) e := id rfl
@[simp] theorem v_rview (i : Nat) (e : Nv) : rview (.at i) e = match e[i]? with | some (some (t, _)) => some t.view | _ => none := id rfl
@[simp] theorem v_rtree (i : Nat) (e : Nv) : rtree (.at i) e = match e[i]? with | some (some (t, _)) => some t | _ => none := id rfl
@[simp] theorem v_bin (o : D → D → Option D) (fa fb : Xp) (e : Nv) : bin o fa fb e = (fa e).bind fun r e1 => (fb e1).bind fun s e2 =>
  match rview r e2, rview s e2 with
  | some x, some y => (match o x y with | some d => .ok (.tmp (.leaf d)) e2 | none => .bad)
  | _, _ => .bad := id rfl
@[simp] theorem v_un1 (o : D → Option D) (fa : Xp) (e : Nv) : un1 o fa e = (fa e).bind fun r e1 =>
  match rview r e1 with
  | some x => (match o x with | some d => .ok (.tmp (.leaf d)) e1 | none => .bad)
  | none => .bad := id rfl
@[simp] theorem v_add (fa fb : Xp) (e : Nv) : addX fa fb e = (fa e).bind fun r e1 => (fb e1).bind fun s e2 => addD r s e2 := id rfl
@[simp] theorem v_mul (fa fb : Xp) (e : Nv) : mulX fa fb e = (fa e).bind fun r e1 => (fb e1).bind fun s e2 => mulV r s e2 := id rfl
@[simp] theorem v_ix (fa fb : Xp) (e : Nv) : ixX fa fb e = (fa e).bind fun r e1 => (fb e1).bind fun s e2 => ixV r s e2 := id rfl
@[simp] theorem v_tst (f : Xp) (e : Nv) : tst f e = (f e).bind fun r e1 => match rview r e1 with | some (.bool b) => .ok b e1 | _ => .bad := id rfl
@[simp] theorem v_andT (g h : Tt) (e : Nv) : andT g h e = (g e).bind fun b e1 => if b = true then h e1 else .ok false e1 := id rfl
@[simp] theorem v_orT (g h : Tt) (e : Nv) : orT g h e = (g e).bind fun b e1 => if b = true then .ok true e1 else h e1 := id rfl
@[simp] theorem v_notT (g : Tt) (e : Nv) : notT g e = (g e).bind fun b e1 => .ok (!b) e1 := id rfl
@[simp] theorem v_ifX (g : Tt) (fa fb : Xp) (e : Nv) : ifX g fa fb e = (g e).bind fun b e1 => if b = true then fa e1 else fb e1 := id rfl
@[simp] theorem v_andX (fa fb : Xp) (e : Nv) : andX fa fb e = (fa e).bind fun r e1 => match rview r e1 with
  | some (.bool b) => if b = true then fb e1 else .ok (.tmp (.leaf (.bool false))) e1
  | _ => .bad := id rfl
@[simp] theorem v_notX (fa : Xp) (e : Nv) : notX fa e = (fa e).bind fun r e1 => match rview r e1 with
  | some (.bool b) => .ok (.tmp (.leaf (.bool (!b)))) e1
  | _ => .bad := id rfl
@[simp] theorem v_call1 (g : Rv → Nv → Out Rv) (fa : Xp) (e : Nv) : call1 g fa e = (fa e).bind g := id rfl
@[simp] theorem v_call2 (g : Rv → Rv → Nv → Out Rv) (fa fb : Xp) (e : Nv) : call2 g fa fb e = (fa e).bind fun r e1 => (fb e1).bind fun s e2 => g r s e2 := id rfl
@[simp] theorem v_atom1 (o : D → Option D) (r : Rv) (e : Nv) : atom1 o r e = match rview r e with
  | some x => (match o x with | some d => .ok (.tmp (.leaf d)) e | none => .bad)
  | none => .bad := id rfl
@[simp] theorem v_atom2 (o : D → D → Option D) (r s : Rv) (e : Nv) : atom2 o r s e = match rview r e, rview s e with
  | some x, some y => (match o x y with | some d => .ok (.tmp (.leaf d)) e | none => .bad)
  | _, _ => .bad := id rfl
@[simp] theorem v_seq (f g : Sm) (e : Nv) : seqS f g e = (f e).bind fun fl e1 => match fl with | .nx => g e1 | fl => .ok fl e1 := id rfl
@[simp] theorem v_nx (e : Nv) : nxS e = .ok .nx e := id rfl
@[simp] theorem v_bk (e : Nv) : bkS e = .ok .bk e := id rfl
@[simp] theorem v_ifS (c : Tt) (f g : Sm) (e : Nv) : ifS c f g e = (c e).bind fun b e1 => if b = true then f e1 else g e1 := id rfl
@[simp] theorem v_exS (f : Xp) (e : Nv) : exS f e = (f e).bind fun _ e1 => .ok .nx e1 := id rfl
@[simp] theorem v_rtS (f : Xp) (e : Nv) : rtS f e = (f e).bind fun r e1 => (mv r e1).bind fun t e2 => .ok (.rt t) e2 := id rfl
@[simp] theorem v_mvt (t : Tr) (e : Nv) : mv (.tmp t) e = .ok t e := id rfl
@[simp] theorem v_mva (i : Nat) (e : Nv) : mv (.at i) e = match e[i]? with
  | some (some (t, false)) => .ok t (e.set i none)
  | some (some (t, true)) => .ok (.leaf t.view) (e.set i (some (.leaf t.view, true)))
  | _ => .bad := id rfl
@[simp] theorem v_ow (f : Xp) (e : Nv) : ow f e = (f e).bind own := id rfl
@[simp] theorem v_ownt (t : Tr) (e : Nv) : own (.tmp t) e = .ok t e := id rfl
@[simp] theorem v_owna (i : Nat) (e : Nv) : own (.at i) e = match e[i]? with
  | some (some (t, b)) => .ok (.leaf t.view) (e.set i (some (.leaf t.view, b)))
  | _ => .bad := id rfl
@[simp] theorem v_vl (f : Xp) (e : Nv) : vl f e = (f e).bind fun r e1 => (own r e1).bind fun t e2 => .ok t.view e2 := id rfl
@[simp] theorem v_asS (i : Nat) (f : Xp) (e : Nv) : asS i f e = (ow f e).bind fun t e1 => if i < e1.length then .ok .nx (e1.set i (some (t, false))) else .bad := id rfl
@[simp] theorem v_asT (i : Nat) (f : Nv → Out Tr) (e : Nv) : asT i f e = (f e).bind fun t e1 => if i < e1.length then .ok .nx (e1.set i (some (t, false))) else .bad := id rfl
@[simp] theorem v_evn {α : Type} (c : Xp → Nv → Out α) (e : Nv) : evs c [] e = .ok [] e := id rfl
@[simp] theorem v_evc {α : Type} (c : Xp → Nv → Out α) (f : Xp) (fs : List Xp) (e : Nv) : evs c (f :: fs) e = (c f e).bind fun a e1 => (evs c fs e1).bind fun as e2 => .ok (a :: as) e2 := id rfl
@[simp] theorem v_sel (f : Xp) (e : Nv) : sel f e = f e := id rfl
@[simp] theorem v_lst (fs : List Xp) (e : Nv) (h : fs.length ≤ 1000) : lstX fs e = (evs ow fs e).bind fun ts e1 => .ok (.tmp (.lst ts)) e1 := by
  unfold lstX
  cases q : evs ow fs e with
  | ok ts e1 =>
    simp only [bind_ok]
    rw [if_pos (Nat.le_trans (by rw [evs_length q]; exact h) (by decide : 1000 ≤ sizeLine))]
  | exc x e1 => rfl
  | bad => rfl
@[simp] theorem v_tup (fs : List Xp) (e : Nv) (h : fs.length ≤ 1000) : tupX fs e = (evs vl fs e).bind fun ds e1 => .ok (.tmp (.leaf (.tuple ds))) e1 := by
  unfold tupX
  cases q : evs vl fs e with
  | ok ts e1 =>
    simp only [bind_ok]
    rw [if_pos (Nat.le_trans (by rw [evs_length q]; exact h) (by decide : 1000 ≤ sizeLine))]
  | exc x e1 => rfl
  | bad => rfl
@[simp] theorem v_par (is : List Nat) (fs : List Xp) (e : Nv) : parS is fs e = (evs ow fs e).bind fun ts e1 => match stoL is ts e1 with | some e2 => .ok .nx e2 | none => .bad := id rfl
@[simp] theorem v_sto0 (e : Nv) : stoL [] [] e = some e := id rfl
@[simp] theorem v_stoc (i : Nat) (is : List Nat) (t : Tr) (ts : List Tr) (e : Nv) : stoL (i :: is) (t :: ts) e = if i < e.length then stoL is ts (e.set i (some (t, false))) else none := id rfl
@[simp] theorem v_call (F : Mir) (ms : List Bool) (fs : List Xp) (e : Nv) : callX F ms fs e = (evs sel fs e).bind fun rs e1 => appX F ms rs e1 := id rfl
@[simp] theorem v_callK (F : Mir) (ms : List Bool) (pr : List Nat) (fs gs : List Xp) (e : Nv) : callK F ms pr fs gs e = (evs sel fs e).bind fun rs e1 => (evs sel gs e1).bind fun rs' e2 => appX F ms (prm pr (rs ++ rs')) e2 := id rfl
@[simp] theorem v_app (F : Mir) (ms : List Bool) (rs : List Rv) (e : Nv) : appX F ms rs e = match pas rs ms e with | none => .bad | some p => retX e rs ms p.2 (F p.1) := id rfl
@[simp] theorem v_pas0 (ms : List Bool) (e : Nv) : pas [] ms e = some ([], e) := id rfl
@[simp] theorem v_past (t : Tr) (rs : List Rv) (m : Bool) (ms : List Bool) (e : Nv) : pas (.tmp t :: rs) (m :: ms) e = (pas rs ms e).map fun p => ((if m = true then t else .leaf t.view) :: p.1, p.2) := id rfl
@[simp] theorem v_pasa (i : Nat) (rs : List Rv) (m : Bool) (ms : List Bool) (e : Nv) : pas (.at i :: rs) (m :: ms) e = match e[i]? with
    | some (some (t, b)) => if m = true then (pas rs ms (e.set i none)).map fun p => (t :: p.1, p.2) else (pas rs ms (e.set i (some (.leaf t.view, b)))).map fun p => (.leaf t.view :: p.1, p.2)
    | _ => none := id rfl
@[simp] theorem v_reto (e1 : Nv) (rs : List Rv) (ms : List Bool) (e2 : Nv) (r : Tr) (ps : List Tr) : retX e1 rs ms e2 (.ok r ps) = .ok (.tmp r) (bak e1 rs ms ps e2) := id rfl
@[simp] theorem v_bakn (e0 : Nv) (ms : List Bool) (ps : List Tr) (e : Nv) : bak e0 [] ms ps e = e := by unfold bak; rfl
@[simp] theorem v_bakf (e0 : Nv) (r : Rv) (rs : List Rv) (ms : List Bool) (ps : List Tr) (e : Nv) : bak e0 (r :: rs) (false :: ms) ps e = bak e0 rs ms ps e := by cases r <;> rfl
@[simp] theorem v_baka (e0 : Nv) (i : Nat) (rs : List Rv) (ms : List Bool) (p : Tr) (ps : List Tr) (e : Nv) : bak e0 (.at i :: rs) (true :: ms) (p :: ps) e = bak e0 rs ms ps (e.set i (some (p, flg e0 i))) := id rfl
@[simp] theorem v_bakt (e0 : Nv) (t : Tr) (rs : List Rv) (ms : List Bool) (p : Tr) (ps : List Tr) (e : Nv) : bak e0 (.tmp t :: rs) (true :: ms) (p :: ps) e = bak e0 rs ms ps e := id rfl
@[simp] theorem v_flg (e : Nv) (i : Nat) : flg e i = match e[i]? with | some (some (_, b)) => b | _ => false := id rfl
@[simp] theorem v_mk (n : Nat) (ms : List Bool) (f : Sm) (ts : List Tr) : mkM n ms f ts = if ts.length = ms.length then endM ms (f (inE n ts)) else .bad := id rfl
@[simp] theorem v_fz (f : Xp) (e : Nv) : fzX f e = (f e).bind fzV := id rfl
theorem mk_ok {n : Nat} {ms : List Bool} {f : Sm} {ts : List Tr} (h : ts.length = ms.length) : mkM n ms f ts = endM ms (f (inE n ts)) := by
  rw [v_mk, if_pos h]
theorem fdiv_ok {i j : Int} (h : 0 < j) (h2 : j ≤ 1000000) : fdivD (.int i) (.int j) = some (.int (i / j)) := by
  unfold fdivD
  refine if_pos ⟨h, ?_⟩
  have h3 : j.natAbs < 2 ^ 20 := by omega
  have h4 := (Nat.log2_lt (show j.natAbs ≠ 0 by omega)).mpr h3
  omega
@[simp] theorem v_inE (n : Nat) (ts : List Tr) : inE n ts = ts.map (fun t => some (t, true)) ++ List.replicate n none := id rfl
@[simp] theorem v_ern (ms : List Bool) (e : Nv) : endM ms (.ok .nx e) = match outs ms e with | some ps => .ok (.leaf .none) ps | none => .bad := id rfl
@[simp] theorem v_ert (ms : List Bool) (t : Tr) (e : Nv) : endM ms (.ok (.rt t) e) = match outs ms e with | some ps => .ok t ps | none => .bad := id rfl
@[simp] theorem v_out0 (e : Nv) : outs [] e = some [] := id rfl
@[simp] theorem v_outt (ms : List Bool) (t : Tr) (e : Nv) : outs (true :: ms) (some (t, true) :: e) = (outs ms e).map (t :: ·) := id rfl
@[simp] theorem v_outf (ms : List Bool) (x : Option (Tr × Bool)) (e : Nv) : outs (false :: ms) (x :: e) = outs ms e := id rfl
@[simp] theorem v_ap (i : Nat) (f : Xp) (e : Nv) : apX i f e = if isL e i = true then (ow f e).bind (apV i) else .bad := id rfl
@[simp] theorem v_apV (i : Nat) (t : Tr) (e : Nv) : apV i t e = match e[i]? with
  | some (some (.lst ts, b)) => if ltZ ts.length then .ok (.tmp (.leaf .none)) (e.set i (some (.lst (ts ++ [t]), b))) else .bad
  | _ => .bad := id rfl
@[simp] theorem v_isL (e : Nv) (i : Nat) : isL e i = match e[i]? with | some (some (.lst _, _)) => true | _ => false := id rfl
@[simp] theorem v_for (fi : Nv → Out (List D)) (g : Sd) (f : Sm) (e : Nv) : forS fi g f e = (fi e).bind fun ds e1 => forL g f ds e1 := id rfl
@[simp] theorem v_sqI (f : Xp) (e : Nv) : sqI f e = (vl f e).bind fun d e1 => match titems (.leaf d) with | some (_, ds) => .ok ds e1 | none => .bad := id rfl
theorem v_rng1 (fs : List Xp) (e : Nv) : rng1I fs e = (evs vl fs e).bind fun ds e1 => match ds with
  | [.int j] => if okR j then .ok (rngD 0 j.toNat) e1 else .bad
  | _ => .bad := id rfl
theorem v_rng2 (fs : List Xp) (e : Nv) : rng2I fs e = (evs vl fs e).bind fun ds e1 => match ds with
  | [.int i, .int j] => if okR i ∧ okR j then .ok (rngD i (j - i).toNat) e1 else .bad
  | _ => .bad := by
  show (evs vl fs e).bind _ = (evs vl fs e).bind _
  congr 1
  funext ds e1
  rcases ds with _ | ⟨d, _ | ⟨d2, _ | ⟨d3, r⟩⟩⟩
  · rfl
  · cases d <;> rfl
  · cases d <;> first | rfl | (cases d2 <;> first | rfl | simp only [okR, and_assoc])
  · cases d <;> first | rfl | (cases d2 <;> rfl)
theorem rng1_ok {n : Nat} {j : Int} {e e0 : Nv} (hrg : okR j) (hnn : j.toNat = n) {fs : List Xp} (h : evs vl fs e0 = .ok [.int j] e) : rng1I fs e0 = .ok (rngD 0 n) e := by
  rw [v_rng1, h, bind_ok]
  simp only [hrg, hnn, if_true]
theorem rng2_ok {n : Nat} {i j : Int} {e e0 : Nv} (h1 : okR i) (h2 : okR j) (hnn : (j - i).toNat = n) {fs : List Xp} (h : evs vl fs e0 = .ok [.int i, .int j] e) : rng2I fs e0 = .ok (rngD i n) e := by
  rw [v_rng2, h, bind_ok]
  simp only [h1, h2, hnn, and_self, if_true]
/-- [.. for .. in range] as ints -/
theorem lcX_ok {vs : List Nat} {fi : Nv → Out (List D)} {g : Sd} {ft : Tt} {fe : Xp} {e e1 e2 : Nv} {ds : List D} {ts : List Tr} (h : fi e = .ok ds e1) (h2 : lcL vs g ft fe ds [] (wipeE vs e1) = .ok ts e2) : lcX vs fi g ft fe e = .ok (.tmp (.lst ts)) e2 := by
  show ((fi e).bind fun ds e1 => nox ((lcL vs g ft fe ds [] (wipeE vs e1)).bind fun ts e2 => .ok (Tr.lst ts) e2)).bind _ = _
  rw [h, bind_ok, h2]
  rfl
@[simp] theorem v_lcX (vs : List Nat) (fi : Nv → Out (List D)) (g : Sd) (ft : Tt) (fe : Xp) (e : Nv) : lcX vs fi g ft fe e = (lcT vs fi g ft fe e).bind fun t e1 => .ok (.tmp t) e1 := id rfl
@[simp] theorem v_lcT (vs : List Nat) (fi : Nv → Out (List D)) (g : Sd) (ft : Tt) (fe : Xp) (e : Nv) : lcT vs fi g ft fe e = (fi e).bind fun ds e1 => nox ((lcL vs g ft fe ds [] (wipeE vs e1)).bind fun ts e2 => .ok (.lst ts) e2) := id rfl
@[simp] theorem v_nox {α : Type} (a : α) (e : Nv) : nox (.ok a e) = .ok a e := id rfl
@[simp] theorem v_wip0 (e : Nv) : wipeE [] e = e := id rfl
@[simp] theorem v_wipc (v : Nat) (vs : List Nat) (e : Nv) : wipeE (v :: vs) e = (wipeE vs e).set v none := id rfl
@[simp] theorem v_ytt (e : Nv) : ytt e = .ok true e := id rfl
@[simp] theorem v_stN (i : Nat) (d : D) (e : Nv) : stN i d e = if i < e.length then some (e.set i (some (.leaf d, false))) else none := id rfl
@[simp] theorem v_stT (fs : List Sd) (ds : List D) (e : Nv) : stT fs (.tuple ds) e = stA fs ds e := id rfl
@[simp] theorem v_stA0 (e : Nv) : stA [] [] e = some e := id rfl
@[simp] theorem v_stAc (f : Sd) (fs : List Sd) (d : D) (ds : List D) (e : Nv) : stA (f :: fs) (d :: ds) e = (f d e).bind fun e1 => stA fs ds e1 := id rfl
@[simp] theorem v_tupV (r : Rv) (e : Nv) : tupV r e = match ritems r e with | some (_, ds) => .ok (.tmp (.leaf (.tuple ds))) e | none => .bad := id rfl
@[simp] theorem v_lstV (r : Rv) (e : Nv) : lstV r e = match ritems r e with | some (_, ds) => .ok (.tmp (.lst (ds.map .leaf))) e | none => .bad := id rfl
@[simp] theorem v_ritems (r : Rv) (e : Nv) : ritems r e = (rtree r e).bind titems := id rfl
@[simp] theorem v_ixV (r s : Rv) (e : Nv) : ixV r s e = match rview s e, rtree r e with
  | some (.int i), some t => (match tat t i with | some d => .ok (.tmp (.leaf d)) e | none => .bad)
  | _, _ => .bad := by
  unfold ixV
  rcases rview s e with _ | d
  · rfl
  · cases d <;> rcases rtree r e with _ | t <;> rfl
@[simp] theorem v_sub (i j : Int) : subD (.int i) (.int j) = some (.int (i - j)) := id rfl
@[simp] theorem v_neg (i : Int) : negD (.int i) = some (.int (-i)) := id rfl
@[simp] theorem v_mod (i j : Int) : modD (.int i) (.int j) = if 0 < j then some (.int (i % j)) else none := id rfl
@[simp] theorem v_fdiv (i j : Int) : fdivD (.int i) (.int j) = if 0 < j ∧ j.natAbs.log2 < 9000 then some (.int (i / j)) else none := id rfl
@[simp] theorem v_pow (i j : Int) : powD (.int i) (.int j) = if 0 ≤ j ∧ (Builtin.Int.intBits i : Int) * j ≤ 2 ^ 27 then some (.int (i ^ j.toNat)) else none := id rfl
@[simp] theorem v_abs (i : Int) : absD (.int i) = some (.int (if i < 0 then -i else i)) := id rfl
@[simp] theorem v_int (i : Int) : intD (.int i) = some (.int i) := id rfl
@[simp] theorem v_lent (ds : List D) : lenD (.tuple ds) = some (.int ds.length) := id rfl
@[simp] theorem v_lenl (ds : List D) : lenD (.list ds) = some (.int ds.length) := id rfl
@[simp] theorem v_min2 (i j : Int) : min2D (.int i) (.int j) = some (.int (if j < i then j else i)) := id rfl
@[simp] theorem shaped_int (i : Int) : SeqAt.shaped (.int i) = true := by
  unfold SeqAt.shaped
  simp [PyData.canLay0, PyData.depth]
@[simp] theorem v_eqi (n : Bool) (i j : Int) : eqD n (.int i) (.int j) = some (.bool (n != decide (i = j))) := by
  unfold eqD
  simp [PyData.eqv]
  by_cases h : i = j <;> simp [h]
@[simp] theorem v_ordi (op : CmpOp) (i j : Int) : ordD op (.int i) (.int j) = some (.bool (ordI op i j)) := by
  unfold ordD
  simp [cmpb, ordB]
@[simp] theorem v_lt (i j : Int) : ordI .Lt i j = decide (i < j) := id rfl
@[simp] theorem v_le (i j : Int) : ordI .LtE i j = decide (i ≤ j) := id rfl
@[simp] theorem v_gt (i j : Int) : ordI .Gt i j = decide (j < i) := id rfl
@[simp] theorem v_ge (i j : Int) : ordI .GtE i j = decide (j ≤ i) := id rfl
@[simp] theorem v_adda (k : Nat) (s : Rv) (e : Nv) : addD (.at k) s e = match e[k]? with | some (some (t, _)) => addD (.tmp t) s e | _ => .bad := by
  unfold addD
  rw [v_rtree]
  rcases e[k]? with _ | _ | ⟨t, b⟩
  · rfl
  · rfl
  · rfl
@[simp] theorem v_addb (t : Tr) (k : Nat) (e : Nv) : addD (.tmp t) (.at k) e = match e[k]? with | some (some (u, _)) => addD (.tmp t) (.tmp u) e | _ => .bad := by
  unfold addD
  rw [v_rtree, rtree_tmp]
  rcases e[k]? with _ | _ | ⟨u, b⟩
  · cases t with
    | leaf d => cases d <;> rfl
    | _ => rfl
  · cases t with
    | leaf d => cases d <;> rfl
    | _ => rfl
  · rfl
@[simp] theorem v_mula (k : Nat) (s : Rv) (e : Nv) : mulV (.at k) s e = match e[k]? with | some (some (t, _)) => mulV (.tmp t) s e | _ => .bad := by
  unfold mulV
  rw [v_rtree]
  rcases e[k]? with _ | _ | ⟨t, b⟩
  · rfl
  · rfl
  · rfl
@[simp] theorem v_mulb (t : Tr) (k : Nat) (e : Nv) : mulV (.tmp t) (.at k) e = match e[k]? with | some (some (u, _)) => mulV (.tmp t) (.tmp u) e | _ => .bad := by
  unfold mulV
  rw [v_rtree, rtree_tmp]
  rcases e[k]? with _ | _ | ⟨u, b⟩
  · cases t with
    | leaf d => cases d <;> rfl
    | _ => rfl
  · cases t with
    | leaf d => cases d <;> rfl
    | _ => rfl
  · rfl
@[simp] theorem v_addi (i j : Int) (e : Nv) : addD (.tmp (.leaf (.int i))) (.tmp (.leaf (.int j))) e = .ok (.tmp (.leaf (.int (i + j)))) e := id rfl
@[simp] theorem v_isL' (a b : Tr × Bool) : (some (some a) : Option (Option (Tr × Bool))) = some (some b) ↔ a = b := by simp
/-- ints as data -/
abbrev nD (l : List Int) : List D := l.map PyData.int
abbrev nT (l : List Int) : List Tr := l.map fun i => Tr.leaf (.int i)
theorem nT_eq (l : List Int) : nT l = (nD l).map Tr.leaf := by simp [nT, nD]
@[simp] theorem leaves_nT (l : List Int) : leaves (l.map fun i => Tr.leaf (.int i)) = some (l.map PyData.int) := by
  have := leaves_map (l.map PyData.int)
  rw [List.map_map] at this
  exact this
@[simp] theorem views_nT (l : List Int) : Tr.views (l.map fun i => Tr.leaf (.int i)) = l.map PyData.int := by
  have := views_leaves (l.map PyData.int)
  rw [List.map_map] at this
  exact this
@[simp] theorem titems_nT (l : List Int) : titems (.lst (l.map fun i => Tr.leaf (.int i))) = some (false, l.map PyData.int) := by
  show (leaves _).map _ = _
  rw [leaves_nT]
  rfl
@[simp] theorem ints_nD (l : List Int) : intsOf (l.map PyData.int) = some l := by
  induction l with
  | nil => rfl
  | cons x l ih => show (intsOf (l.map PyData.int)).map _ = _; rw [ih]; rfl
@[simp] theorem v_sum (l : List Int) : sumD (.list (l.map PyData.int)) = some (.int l.sum) := by
  show (intsOf _).map _ = _
  rw [ints_nD]
  rfl
theorem sum_ok {f : Xp} {e e1 : Nv} {l : List Int} {c : Int} (h : f e = .ok (.tmp (.lst (nT l))) e1) (hc : l.sum = c) : call1 (atom1 sumD) f e = .ok (.tmp (.leaf (.int c))) e1 := by
  show (f e).bind _ = _
  rw [h, bind_ok]
  simp [hc]
@[simp] theorem bols_nD (l : List Bool) : bolsOf (l.map PyData.bool) = some l := by
  induction l with
  | nil => rfl
  | cons x l ih => show (bolsOf (l.map PyData.bool)).map _ = _; rw [ih]; rfl
theorem atI_map {α β : Type} (f : α → β) (l : List α) (i : Int) : atI (l.map f) i = (atI l i).map f := by
  unfold atI
  rw [List.length_map]
  cases ixN l.length i with
  | none => rfl
  | some j => simp
theorem atI_pos {α : Type} {l : List α} {i : Nat} (h : i < l.length) : atI l (i : Int) = some l[i] := atI_nat (by simp [h])
end Vs

set_option Elab.async false
set_option linter.all false
set_option maxRecDepth 100000
set_option maxHeartbeats 1000000
/-! Gn: what stands in no law. -/
namespace Hd
open PySem PySem.Spec L2 Vs
open PyProof.Rows hiding St
open Ser
theorem lcL_pure (vs : List Nat) (g : Sd) (ft : Tt) (fe : Xp) (e : Nv) (val : D → D) : ∀ (ds : List D) (acc : List Tr),
    (∀ d ∈ ds, ∃ e1 e2 e3, g d e = some e1 ∧ ft e1 = .ok true e2 ∧ ow fe e2 = .ok (Tr.leaf (val d)) e3 ∧ wipeE vs e3 = e) → acc.length + ds.length ≤ sizeLine → lcL vs g ft fe ds acc e = .ok (acc ++ ds.map fun d => Tr.leaf (val d)) e
  | [], acc, _, _ => by simp [lcL]
  | d :: ds, acc, h, hl => by
    obtain ⟨e1, e2, e3, h1, h2, h3, h4⟩ := h d (List.mem_cons_self ..)
    unfold lcL
    simp only [List.length_cons] at hl
    have ih := lcL_pure vs g ft fe e val ds (acc ++ [Tr.leaf (val d)]) (fun d hd => h d (List.mem_cons_of_mem _ hd)) (by simp; omega)
    rw [h1]
    simp only [h2, bind_ok, if_true, h3]
    rw [if_pos (by omega), h4, ih]
    simp
theorem lcL_rng (vs : List Nat) (g : Sd) (ft : Tt) (fe : Xp) (e : Nv) (lo : Int) (n : Nat) (val : Nat → Int)
    (h : ∀ j, j < n → ∃ e1 e2 e3, g (.int (lo + (j : Nat))) e = some e1 ∧ ft e1 = .ok true e2 ∧ ow fe e2 = .ok (Tr.leaf (.int (val j))) e3 ∧ wipeE vs e3 = e) (hn : n ≤ sizeLine) :
    lcL vs g ft fe (rngD lo n) [] e = .ok (nT ((List.range n).map val)) e := by
  have := lcL_pure vs g ft fe e (fun d => match d with
    | .int i => .int (val (i - lo).toNat)
    | _ => .none) (rngD lo n) [] (fun d hd => by
      simp only [rngD, List.mem_map, List.mem_range] at hd
      obtain ⟨j, hj, rfl⟩ := hd
      have e1 : (lo + (j : Int) - lo).toNat = j := by omega
      simp only [e1]
      exact h j hj) (by simp [rngD]; exact hn)
  rw [this]
  simp only [rngD, nT, List.map_map, List.nil_append]
  congr 1
  apply List.map_congr_left
  intro j hj
  have e1 : (lo + (j : Int) - lo).toNat = j := by omega
  simp only [Function.comp, e1]
theorem forL_inv {g : Sd} {f : Sm} {P : Nat → Nv → Prop} : ∀ {ds : List D} {e : Nv} {k : Nat}, P k e → (∀ i d e, ds[i]? = some d → P (k + i) e → ∃ e1 e2, g d e = some e1 ∧ f e1 = .ok .nx e2 ∧ P (k + i + 1) e2) → ∃ e', forL g f ds e = .ok .nx e' ∧ P (k + ds.length) e'
  | [], e, k, h0, _ => ⟨e, rfl, h0⟩
  | d :: ds, e, k, h0, hs => by
    obtain ⟨e1, e2, h1, h2, h3⟩ := hs 0 d e rfl h0
    obtain ⟨e', h4, h5⟩ := forL_inv (ds := ds) (e := e2) (k := k + 1) h3 fun i d' e0 hd hp => by
      have := hs (i + 1) d' e0 (by simpa using hd) (by rw [show k + (i + 1) = k + 1 + i by omega]; exact hp)
      rw [show k + (i + 1) + 1 = k + 1 + i + 1 by omega] at this
      exact this
    refine ⟨e', ?_, by rw [List.length_cons, show k + (ds.length + 1) = k + 1 + ds.length by omega]; exact h5⟩
    unfold forL
    rw [h1]
    simp only [h2, bind_ok]
    exact h4
theorem forL_0 {g : Sd} {f : Sm} {P : Nat → Nv → Prop} {ds : List D} {e : Nv} (h0 : P 0 e) (hs : ∀ i d e, ds[i]? = some d → P i e → ∃ e1 e2, g d e = some e1 ∧ f e1 = .ok .nx e2 ∧ P (i + 1) e2) : ∃ e', forL g f ds e = .ok .nx e' ∧ P ds.length e' := by
  have := forL_inv (k := 0) (g := g) (f := f) (P := P) (ds := ds) h0 fun i d e hd hp => by
    rw [Nat.zero_add] at hp ⊢
    exact hs i d e hd hp
  rw [Nat.zero_add] at this
  exact this
/-- a row -/
def row (L : Nat) (a : Sr) : List Int := (List.range L).map a
@[simp] theorem row_len (L : Nat) (a : Sr) : (row L a).length = L := by simp [row]
theorem row_at {L : Nat} {a : Sr} {i : Nat} (h : i < L) : (row L a)[i]? = some (a i) := by simp [row, h]
theorem row_succ (L : Nat) (a : Sr) : row (L + 1) a = row L a ++ [a L] := by simp [row, List.range_succ]
theorem row_congr {L : Nat} {a b : Sr} (h : ∀ i, i < L → a i = b i) : row L a = row L b := by
  apply List.map_congr_left
  intro i hi
  exact h i (List.mem_range.mp hi)
theorem tat_row {L : Nat} {a : Sr} {i : Int} (h0 : 0 ≤ i) (h : i < L) : tat (.leaf (.tuple (nD (row L a)))) i = some (.int (a i.toNat)) := by
  show atI (nD (row L a)) i = _
  obtain ⟨k, rfl⟩ : ∃ k : Nat, i = k := ⟨i.toNat, by omega⟩
  have hk : k < L := by omega
  exact atI_nat (by rw [List.getElem?_map, row_at hk]; rfl)
theorem tat_lrow {L : Nat} {a : Sr} {i : Int} (h0 : 0 ≤ i) (h : i < L) : tat (.lst (nT (row L a))) i = some (.int (a i.toNat)) := by
  obtain ⟨k, rfl⟩ : ∃ k : Nat, i = k := ⟨i.toNat, by omega⟩
  have hk : k < L := by omega
  have e : atI (nT (row L a)) (k : Int) = some (.leaf (.int (a k))) := atI_nat (by rw [List.getElem?_map, row_at hk]; rfl)
  unfold tat
  simp only [e]
  rfl
theorem sum_cv (a b : Sr) : ∀ n : Nat, ((List.range (n + 1)).map fun j => a j * b (n - j)).sum = cv a b n
  | 0 => by simp [cv_zero]
  | n + 1 => by
    rw [List.range_succ_eq_map, List.map_cons, List.sum_cons, List.map_map, cv_succ, ← sum_cv (sh a) b n]
    congr 2
    apply List.map_congr_left
    intro j hj
    simp only [Function.comp, sh]
    congr 2
    omega
/-- bounds -/
def bd (L : Nat) (a : Sr) (p : Nat) : Prop := ∀ i, i < L → (a i).natAbs < 2 ^ p
theorem mul_ok {x y : Int} {p q : Nat} (h1 : x.natAbs < 2 ^ p) (h2 : y.natAbs < 2 ^ q) (h : p + q < 1000000) : mulOk x y = true := by
  unfold mulOk
  have l1 : x.natAbs.log2 ≤ p := by
    by_cases h0 : x.natAbs = 0
    · rw [h0]; simp
    · exact Nat.le_of_lt ((Nat.log2_lt h0).mpr h1)
  have l2 : y.natAbs.log2 ≤ q := by
    by_cases h0 : y.natAbs = 0
    · rw [h0]; simp
    · exact Nat.le_of_lt ((Nat.log2_lt h0).mpr h2)
  exact decide_eq_true (by omega)
theorem v_muli {x y : Int} {e : Nv} (h : mulOk x y = true) : mulV (.tmp (.leaf (.int x))) (.tmp (.leaf (.int y))) e = .ok (.tmp (.leaf (.int (x * y)))) e := by
  unfold mulV
  simp [h]
abbrev T (l : List Int) : Tr := .leaf (.tuple (nD l))
theorem small13 {n : Nat} (h : n ≤ 13) : n ≤ sizeLine := Nat.le_trans h (by decide)
theorem repL_one (x : D) (k : Nat) : repL [x] (k : Int) = List.replicate k x := by
  unfold repL
  rw [Int.toNat_natCast]
  induction k with
  | zero => rfl
  | succ k ih => rw [List.replicate_succ, List.flatten_cons, ih]; rfl
theorem v_rep {x : D} {k : Nat} {e : Nv} (h : k ≤ 1000) : mulV (.tmp (.leaf (.tuple [x]))) (.tmp (.leaf (.int (k : Int)))) e = .ok (.tmp (.leaf (.tuple (List.replicate k x)))) e := by
  unfold mulV
  have hr : repOk 1 (k : Int) = true := by
    unfold repOk
    have : (k : Nat) ≤ sizeLine := Nat.le_trans h (by decide)
    simp
    omega
  simp [hr, repL_one]
  omega
theorem v_addt {xs ys : List D} {e : Nv} (h : xs.length + ys.length ≤ 100000) : addD (.tmp (.leaf (.tuple xs))) (.tmp (.leaf (.tuple ys))) e = .ok (.tmp (.leaf (.tuple (xs ++ ys)))) e := by
  unfold addD
  have : xs.length + ys.length ≤ sizeLine := Nat.le_trans h (by decide)
  simp [this]
theorem nat_mul {x y : Int} {p q : Nat} (h1 : x.natAbs < 2 ^ p) (h2 : y.natAbs < 2 ^ q) : (x * y).natAbs < 2 ^ (p + q) := by
  rw [Int.natAbs_mul, Nat.pow_add]
  exact Nat.mul_lt_mul'' h1 h2
theorem cv_lt {p q : Nat} : ∀ (n : Nat) {a b : Sr}, (∀ i, i ≤ n → (a i).natAbs < 2 ^ p) → (∀ i, i ≤ n → (b i).natAbs < 2 ^ q) → (cv a b n).natAbs < (n + 1) * 2 ^ (p + q)
  | 0, a, b, ha, hb => by
    rw [cv_zero]
    have := nat_mul (ha 0 (Nat.le_refl _)) (hb 0 (Nat.le_refl _))
    omega
  | n + 1, a, b, ha, hb => by
    rw [cv_succ]
    have h1 := nat_mul (ha 0 (Nat.zero_le _)) (hb (n + 1) (Nat.le_refl _))
    have h2 := cv_lt n (a := sh a) (b := b) (fun i hi => ha (i + 1) (by omega)) fun i hi => hb i (by omega)
    have h3 := Int.natAbs_add_le (a 0 * b (n + 1)) (cv (sh a) b n)
    have h4 : (n + 1 + 1) * 2 ^ (p + q) = (n + 1) * 2 ^ (p + q) + 2 ^ (p + q) := by rw [Nat.add_mul, Nat.one_mul]
    omega
theorem thirteen {n p : Nat} (h : n < 13) : (n + 1) * 2 ^ p ≤ 2 ^ (p + 4) := by
  rw [Nat.pow_add, Nat.mul_comm]
  exact Nat.mul_le_mul_left _ (by omega)
theorem bd_mono {L : Nat} {a : Sr} {p q : Nat} (h : bd L a p) (hpq : p ≤ q) : bd L a q := fun i hi => Nat.lt_of_lt_of_le (h i hi) (Nat.pow_le_pow_right (by decide) hpq)
theorem bd_less {L M : Nat} {a : Sr} {p : Nat} (h : bd L a p) (hM : M ≤ L) : bd M a p := fun i hi => h i (by omega)
theorem bd_cv {L : Nat} {a b : Sr} {p q : Nat} (hL : L ≤ 13) (ha : bd L a p) (hb : bd L b q) : bd L (cv a b) (p + q + 4) := fun i hi =>
  Nat.lt_of_lt_of_le (cv_lt i (fun j hj => ha j (by omega)) fun j hj => hb j (by omega)) (thirteen (by omega))
theorem bd_iv {L : Nat} {a : Sr} {p : Nat} (hL : L ≤ 13) (ha : bd L a p) : bd L (iv a) ((p + 4) * 12 + 1) := by
  have key : ∀ n, n < L → ∀ i, i ≤ n → (iv a i).natAbs < 2 ^ ((p + 4) * n + 1) := by
    intro n
    induction n with
    | zero =>
      intro _ i hi
      have : i = 0 := by omega
      subst this
      rw [iv_zero]
      simp
    | succ n ih =>
      intro hn i hi
      by_cases he : i = n + 1
      · subst he
        rw [iv_succ, Int.natAbs_neg]
        have h1 := cv_lt n (a := sh a) (b := iv a) (p := p) (q := (p + 4) * n + 1) (fun j hj => ha (j + 1) (by omega)) fun j hj => ih (by omega) j hj
        refine Nat.lt_of_lt_of_le h1 (Nat.le_trans (thirteen (by omega)) (Nat.pow_le_pow_right (by decide) ?_))
        rw [Nat.mul_add]
        omega
      · refine Nat.lt_of_lt_of_le (ih (by omega) i (by omega)) (Nat.pow_le_pow_right (by decide) ?_)
        rw [Nat.mul_add]
        omega
  intro i hi
  refine Nat.lt_of_lt_of_le (key i hi i (Nat.le_refl _)) (Nat.pow_le_pow_right (by decide) ?_)
  have : (p + 4) * i ≤ (p + 4) * 12 := Nat.mul_le_mul_left _ (by omega)
  omega
theorem bd_pn {L : Nat} {a : Sr} {p : Nat} (hL : L ≤ 13) (ha : bd L a p) : ∀ k, bd L (pn a k) ((p + 4) * k + 1)
  | 0 => fun i hi => by
    show (u1 i).natAbs < _
    unfold u1
    split <;> simp
  | k + 1 => by
    have := bd_cv hL (bd_pn hL ha k) ha
    refine bd_mono this ?_
    rw [Nat.mul_add]
    omega
def few (l : List Int) : Bool := l.all fun i => decide (i.natAbs ≤ 10 ^ 30)
theorem pow_30 : powD (.int 10) (.int 30) = some (.int (10 ^ 30)) := by
  rw [Vs.v_pow, if_pos (by decide)]
  rfl
theorem abs_le (i : Int) : decide ((if i < 0 then -i else i) ≤ (10 : Int) ^ 30) = decide (i.natAbs ≤ 10 ^ 30) := by
  have : ((if i < 0 then -i else i) ≤ (10 : Int) ^ 30) ↔ i.natAbs ≤ 10 ^ 30 := by
    split <;> omega
  simp only [this]
/-- a row cut off -/
def cut (L : Nat) (a : Sr) : Sr := fun i => if i < L then a i else 0
theorem row_cut (L : Nat) (a : Sr) : row L (cut L a) = row L a := row_congr fun i hi => if_pos hi
theorem few_bd {L : Nat} {a : Sr} (h : few (row L a) = true) : bd L a 100 := by
  intro i hi
  unfold few at h
  rw [List.all_eq_true] at h
  have := h (a i) (List.mem_of_getElem? (row_at hi))
  have h2 := of_decide_eq_true this
  have : (10 : Nat) ^ 30 < 2 ^ 100 := by decide
  omega
/-- None, texts, ints, tuples of these, so deep at most -/
def plain : Nat → D → Prop
  | 0, _ => False
  | _ + 1, .none => True
  | _ + 1, .int _ => True
  | _ + 1, .str x => SeqAt.shaped (.str x) = true
  | n + 1, .tuple ds => ds.length ≤ 1000 ∧ ∀ d ∈ ds, plain n d
  | _ + 1, _ => False
theorem zip_ok {fs : List Xp} {e0 e : Nv} {ds es : List D} (h : evs vl fs e0 = .ok [.tuple ds, .tuple es] e) : zipI fs e0 = .ok (zipD ds es) e := by
  unfold zipI
  rw [h, bind_ok]
  rfl
theorem all_ok {f : Xp} {e e1 : Nv} {n : Nat} (h : f e = .ok (.tmp (.lst (List.replicate n (Tr.leaf (.bool true))))) e1) : call1 (atom1 allD) f e = .ok (.tmp (.leaf (.bool true))) e1 := by
  show (f e).bind _ = _
  rw [h, bind_ok]
  have e1 : Tr.views (List.replicate n (Tr.leaf (PyData.bool true))) = (List.replicate n true).map PyData.bool := by
    rw [views_map]
    simp
  have e2 : allD (.list (Tr.views (List.replicate n (Tr.leaf (PyData.bool true))))) = some (.bool true) := by
    rw [e1]
    show (bolsOf _).map _ = _
    rw [bols_nD]
    simp
  simp only [v_atom1, rview_tmp, view_lst, e2]
theorem isN_ne {d : D} (h : d ≠ .none) : isN false d .none = some (.bool false) := by
  cases d <;> first | rfl | exact absurd rfl h
def bagT (cs : List Int) (cur mix : Int) : Tr := .lst [.lst (nT cs), .leaf (.int cur), .leaf (.int mix)]
theorem bag1 (cs : List Int) (cur mix : Int) : tat (bagT cs cur mix) 1 = some (.int cur) := rfl
theorem bag2 (cs : List Int) (cur mix : Int) : tat (bagT cs cur mix) 2 = some (.int mix) := rfl
theorem canLay_nD (l : List Int) : PyData.canLayAll0 (nD l) = true := by
  induction l with
  | nil => rfl
  | cons x l ih =>
    show PyData.canLayAll0 (.int x :: nD l) = true
    unfold PyData.canLayAll0
    rw [ih]
    simp [PyData.canLay0]
theorem shaped_nl (l : List Int) : SeqAt.shaped (.list (nD l)) = true := by
  have hd : ∀ l : List Int, PyData.depthAll (nD l) ≤ 1 := by
    intro l
    induction l with
    | nil => simp [nD, PyData.depthAll]
    | cons x l ih =>
      show PyData.depthAll (.int x :: nD l) ≤ 1
      unfold PyData.depthAll
      simp [PyData.depth]
      omega
  have := hd l
  unfold SeqAt.shaped PyData.canLay0 PyData.depth
  rw [canLay_nD]
  simp
  omega
theorem eqv_nil (l : List Int) : PyData.eqv (.list (nD l)) (.list []) = decide (l = []) := by
  cases l <;> simp [PyData.eqv, PyData.eqvAll, nD]
theorem ne_ok (cs : List Int) (cur mix : Int) (b : Bool) (e : Nv) : neX 0 0 (some (bagT cs cur mix, b) :: e) = .ok (.tmp (.leaf (.bool (decide (cs ≠ []))))) (some (bagT cs cur mix, b) :: e) := by
  have hv : (Tr.lst (nT cs)).view = .list (nD cs) := by simp
  have h0 : atI [Tr.lst (nT cs), .leaf (.int cur), .leaf (.int mix)] 0 = some (.lst (nT cs)) := rfl
  show (match atI [Tr.lst (nT cs), .leaf (.int cur), .leaf (.int mix)] 0 with
    | some u => if SeqAt.shaped u.view = true then Out.ok (Rv.tmp (.leaf (.bool (true != PyData.eqv u.view (.list []))))) (some (bagT cs cur mix, b) :: e) else .bad
    | none => .bad) = _
  rw [h0]
  simp only [hv, shaped_nl, if_true, eqv_nil]
  by_cases h : cs = [] <;> simp [h]
theorem pop_ok (cs : List Int) (c cur mix : Int) (b : Bool) (e : Nv) : ppX 0 0 (some (bagT (cs ++ [c]) cur mix, b) :: e) = .ok (.tmp (.leaf (.int c))) (some (bagT cs cur mix, b) :: e) := by
  show (match (nT (cs ++ [c])).getLast? with
    | some t => Out.ok (Rv.tmp t) (some (.lst ([Tr.lst (nT (cs ++ [c])), .leaf (.int cur), .leaf (.int mix)].set 0 (.lst (nT (cs ++ [c])).dropLast)), b) :: e)
    | none => .bad) = _
  simp [bagT]
theorem set1_ok (cs : List Int) (cur mix v : Int) (b : Bool) (e : Nv) : stV 0 (.leaf (.int v)) (.int 1) (some (bagT cs cur mix, b) :: e) = .ok .nx (some (bagT cs v mix, b) :: e) := rfl
theorem set2_ok (cs : List Int) (cur mix v : Int) (b : Bool) (e : Nv) : stV 0 (.leaf (.int v)) (.int 2) (some (bagT cs cur mix, b) :: e) = .ok .nx (some (bagT cs cur v, b) :: e) := rfl
@[simp] theorem v_sbS (i : Nat) (fi fv : Xp) (e : Nv) : sbS i fi fv e = (ow fv e).bind fun t e1 => if isL e1 i = true then (vl fi e1).bind fun d e2 => stV i t d e2 else .bad := id rfl
theorem bagL (cs : List Int) (cur mix : Int) (b : Bool) (e : Nv) : isL (some (bagT cs cur mix, b) :: e) 0 = true := rfl
theorem pow_9 : powD (.int 10) (.int 9) = some (.int 1000000000) := by
  rw [Vs.v_pow, if_pos (by decide)]
  rfl
abbrev wc : Tt := andT (tst (bin (eqD false) (ixX (nm 0) (ct (.int 1))) (ct (.int 0)))) (tst (neX 0 0))
abbrev wb : Sm := seqS (asS 2 (ppX 0 0)) (seqS (sbS 0 (ct (.int 1)) (ifX (tst (bin (ordD .Gt) (nm 2) (bin powD (ct (.int 10)) (ct (.int 9))))) (nm 2) (ct (.int 0)))) nxS)
theorem wc_ok (cs : List Int) (cur mix : Int) (n : Tr) (x y : Option (Tr × Bool)) : wc [some (bagT cs cur mix, true), some (n, true), x, y] = .ok (decide (cur = 0) && decide (cs ≠ [])) [some (bagT cs cur mix, true), some (n, true), x, y] := by
  by_cases h : cur = 0
  · simp [bag1, ne_ok, h]
  · simp [bag1, h]
theorem wb_ok (cs : List Int) (c cur mix : Int) (n : Tr) (x y : Option (Tr × Bool)) : wb [some (bagT (cs ++ [c]) cur mix, true), some (n, true), x, y] = .ok .nx [some (bagT cs (if 1000000000 < c then c else 0) mix, true), some (n, true), some (.leaf (.int c), false), y] := by
  by_cases h : 1000000000 < c
  · simp [pop_ok, bagL, pow_9, -Vs.v_pow, h, set1_ok, -v_isL]
  · simp [pop_ok, bagL, pow_9, -Vs.v_pow, h, set1_ok, -v_isL]
theorem loop_ok (mix : Int) (n : Tr) (y : Option (Tr × Bool)) : ∀ (k : Nat) (cs : List Int) (cur : Int) (x : Option (Tr × Bool)), cs.length ≤ k → (∀ c ∈ cs, 0 ≤ c) → 0 ≤ cur → ∀ fuel, k < fuel →
    ∃ cs' cur' x', (∀ c ∈ cs', 0 ≤ c) ∧ cs'.length ≤ cs.length ∧ 0 ≤ cur' ∧ whS wc wb fuel [some (bagT cs cur mix, true), some (n, true), x, y] = .ok .nx [some (bagT cs' cur' mix, true), some (n, true), x', y] := by
  intro k
  induction k with
  | zero =>
    intro cs cur x hl hc h0 fuel hf
    obtain ⟨fuel, rfl⟩ : ∃ f, fuel = f + 1 := ⟨fuel - 1, by omega⟩
    have : cs = [] := List.eq_nil_of_length_eq_zero (by omega)
    subst this
    refine ⟨[], cur, x, hc, Nat.le_refl _, h0, ?_⟩
    unfold whS
    rw [wc_ok]
    simp
  | succ k ih =>
    intro cs cur x hl hc h0 fuel hf
    obtain ⟨fuel, rfl⟩ : ∃ f, fuel = f + 1 := ⟨fuel - 1, by omega⟩
    by_cases h : cur = 0 ∧ cs ≠ []
    · obtain ⟨hz, hne⟩ := h
      obtain ⟨cs', c, rfl⟩ : ∃ cs' c, cs = cs' ++ [c] := ⟨cs.dropLast, cs.getLast hne, (List.dropLast_concat_getLast hne).symm⟩
      obtain ⟨cs2, cur2, x2, h1, h2, h3, h4⟩ := ih cs' (if 1000000000 < c then c else 0) (some (.leaf (.int c), false)) (by simp at hl; omega) (fun z hz => hc z (by simp [hz])) (by have := hc c (by simp); split <;> omega) fuel (by omega)
      refine ⟨cs2, cur2, x2, h1, by simp; omega, h3, ?_⟩
      unfold whS
      rw [wc_ok, bind_ok, if_pos (by simp [hz]), wb_ok, bind_ok]
      exact h4
    · refine ⟨cs, cur, x, hc, Nat.le_refl _, h0, ?_⟩
      unfold whS
      rw [wc_ok, bind_ok, if_neg (by simpa using h)]
theorem fdiv_big {i j : Int} (h : 0 < j) (h2 : j ≤ 1000000000) : fdivD (.int i) (.int j) = some (.int (i / j)) := by
  unfold fdivD
  refine if_pos ⟨h, ?_⟩
  have h3 : j.natAbs < 2 ^ 30 := by omega
  have h4 := (Nat.log2_lt (show j.natAbs ≠ 0 by omega)).mpr h3
  omega
def Bag (t : Tr) : Prop := ∃ cs cur mix, t = bagT cs cur mix ∧ (∀ c ∈ cs, 0 ≤ c) ∧ cs.length ≤ 100 ∧ 0 ≤ cur ∧ 0 ≤ mix ∧ mix < 2147483647
theorem pow_12 : powD (.int 10) (.int 12) = some (.int 1000000000000) := by
  rw [Vs.v_pow, if_pos (by decide)]
  rfl
theorem pow_6 : powD (.int 10) (.int 6) = some (.int 1000000) := by
  rw [Vs.v_pow, if_pos (by decide)]
  rfl
/-- so great at most, as the way wants it -/
def lim (w : Int) : Nat := if w = 0 then 3 else if w = 1 then 50 else 1000000000000
/-- a comprehension that turns the state -/
theorem lcL_turn {vs : List Nat} {g : Sd} {ft : Tt} {fe : Xp} {P : Nv → Prop} {Q : Int → Prop} : ∀ {ds : List D} {acc : List Tr} {e : Nv}, P e →
    (∀ d ∈ ds, ∀ e, P e → ∃ e1 e2 e3 v, g d e = some e1 ∧ ft e1 = .ok true e2 ∧ ow fe e2 = .ok (Tr.leaf (.int v)) e3 ∧ Q v ∧ P (wipeE vs e3)) → acc.length + ds.length ≤ sizeLine →
    ∃ l e', l.length = ds.length ∧ (∀ v ∈ l, Q v) ∧ P e' ∧ lcL vs g ft fe ds acc e = .ok (acc ++ nT l) e'
  | [], acc, e, hP, _, _ => ⟨[], e, rfl, fun v hv => (by cases hv), hP, (by simp [lcL])⟩
  | d :: ds, acc, e, hP, h, hl => by
    obtain ⟨e1, e2, e3, v, h1, h2, h3, h4, h5⟩ := h d List.mem_cons_self e hP
    simp only [List.length_cons] at hl
    obtain ⟨l, e', k1, k2, k3, k4⟩ := lcL_turn (ds := ds) (acc := acc ++ [Tr.leaf (.int v)]) h5 (fun d hd => h d (List.mem_cons_of_mem _ hd)) (by simp; omega)
    refine ⟨v :: l, e', by simp [k1], fun w hw => ?_, k3, ?_⟩
    · rcases List.mem_cons.mp hw with rfl | hw
      · exact h4
      · exact k2 w hw
    · unfold lcL
      rw [h1]
      simp only [h2, bind_ok, if_true, h3]
      rw [if_pos (by omega), k4]
      simp
@[simp] theorem v_slX (fa : Xp) (lo hi : Option Xp) (e : Nv) : slX fa lo hi e = (fa e).bind fun r e1 => (partX lo e1).bind fun l e2 => (partX hi e2).bind fun h e3 => slV r l h e3 := id rfl
@[simp] theorem v_prn (e : Nv) : partX none e = .ok none e := id rfl
@[simp] theorem v_prs (f : Xp) (e : Nv) : partX (some f) e = (f e).bind fun r e1 => match rview r e1 with
    | some (.int i) => .ok (some i) e1
    | _ => .bad := id rfl
@[simp] theorem v_slV (r : Rv) (lo hi : Option Int) (e : Nv) : slV r lo hi e = match ritems r e with
  | some (true, ds) => .ok (.tmp (.leaf (.tuple (cutD ds lo hi)))) e
  | some (false, ds) => .ok (.tmp (.lst ((cutD ds lo hi).map .leaf))) e
  | none => .bad := id rfl
theorem cut_to {α : Type} (xs : List α) (k : Nat) : cutD xs none (some (k : Int)) = xs.take k := by
  unfold Vs.cutD
  rw [HT.sIx_none, HT.sIx_nat, List.drop_zero, Nat.sub_zero]
  by_cases h : k ≤ xs.length
  · rw [Nat.min_eq_left h]
  · rw [Nat.min_eq_right (by omega), List.take_of_length_le (by omega), List.take_of_length_le (by omega)]
theorem cut_from {α : Type} (xs : List α) (k : Nat) : cutD xs (some (k : Int)) none = xs.drop k := by
  unfold Vs.cutD
  rw [HT.sIx_none, HT.sIx_nat]
  by_cases h : k ≤ xs.length
  · rw [Nat.min_eq_left h, List.take_of_length_le (by simp)]
  · rw [Nat.min_eq_right (by omega), List.drop_of_length_le (by omega), List.drop_of_length_le (by omega)]
    simp
theorem pow_10 : powD (.int 10) (.int 10) = some (.int 10000000000) := by
  rw [Vs.v_pow, if_pos (by decide)]
  rfl
theorem pow_8 : powD (.int 10) (.int 8) = some (.int 100000000) := by
  rw [Vs.v_pow, if_pos (by decide)]
  rfl
theorem all_views (p : D → Bool) (ds : List D) : allD (.list (Tr.views (ds.map fun d => Tr.leaf (.bool (p d))))) = some (.bool (ds.all p)) := by
  have e3 : Tr.views (ds.map fun d => Tr.leaf (PyData.bool (p d))) = (ds.map p).map PyData.bool := by
    rw [views_map]
    simp
  rw [e3]
  show (bolsOf _).map _ = _
  rw [bols_nD]
  simp [List.all_map, Function.comp_def]
theorem all_pure {f : Xp} {e e1 : Nv} {ds : List D} {p : D → Bool} (h : f e = .ok (.tmp (.lst (ds.map fun d => Tr.leaf (.bool (p d))))) e1) : call1 (atom1 allD) f e = .ok (.tmp (.leaf (.bool (ds.all p)))) e1 := by
  show (f e).bind _ = _
  rw [h, bind_ok]
  obtain ⟨bs, hbs⟩ : ∃ bs, bs = ds.map p := ⟨_, rfl⟩
  have e1' : (ds.map fun d => Tr.leaf (PyData.bool (p d))) = bs.map fun b => Tr.leaf (.bool b) := by rw [hbs, List.map_map]; rfl
  have e2 : allD (.list (Tr.views (bs.map fun b => Tr.leaf (.bool b)))) = some (.bool (bs.all id)) := by
    have e3 : Tr.views (bs.map fun b => Tr.leaf (PyData.bool b)) = bs.map PyData.bool := by
      rw [views_map]
      simp
    rw [e3]
    show (bolsOf _).map _ = _
    rw [bols_nD]
    rfl
  have e4 : bs.all id = ds.all p := by
    rw [hbs]
    simp [List.all_map, Function.comp_def]
  rw [e1']
  simp only [v_atom1, rview_tmp, view_lst, e2, e4]
theorem enumD_cons (c : Int) (x : D) (xs : List D) : enumD c (x :: xs) = .tuple [.int c, x] :: enumD (c + 1) xs := by
  unfold enumD
  rw [List.mapIdx_cons]
  congr 1
  · simp
  · congr 1
    funext i d
    rw [show c + ((i + 1 : Nat) : Int) = c + 1 + (i : Int) by omega]
theorem lcT_ok {vs : List Nat} {fi : Nv → Out (List D)} {g : Sd} {ft : Tt} {fe : Xp} {e e1 e2 : Nv} {ds : List D} {ts : List Tr} (h : fi e = .ok ds e1) (h2 : lcL vs g ft fe ds [] (wipeE vs e1) = .ok ts e2) : lcT vs fi g ft fe e = .ok (.lst ts) e2 := by
  rw [v_lcT, h, bind_ok, h2]
  rfl
/-- a text of signs, so long at most -/
structure Tx (x : Str) (n : Nat) : Prop where
  ok : PyData.strOk x = true
  len : x.length ≤ n
theorem strOk_app {x y : Str} (h1 : PyData.strOk x = true) (h2 : PyData.strOk y = true) : PyData.strOk (x ++ y) = true := by
  unfold PyData.strOk at *
  show ((x.cps ++ y.cps).all _) = true
  rw [Array.all_append, h1, h2]
  rfl
theorem len_app (x y : Str) : (x ++ y).length = x.length + y.length := by
  show (x.cps ++ y.cps).size = _
  exact Array.size_append
theorem Tx.app {x y : Str} {n m : Nat} (h : Tx x n) (k : Tx y m) : Tx (x ++ y) (n + m) := ⟨strOk_app h.ok k.ok, by rw [len_app]; have := h.len; have := k.len; omega⟩
theorem Tx.mono {x : Str} {n m : Nat} (h : Tx x n) (k : n ≤ m) : Tx x m := ⟨h.ok, Nat.le_trans h.len k⟩
theorem textFrom_tx (b : Nat) : ∀ (ts : List Str) (k : Nat) (acc : Str) (n : Nat), Tx acc n → (∀ t ∈ ts, Tx t b) → Tx (textFrom k acc ts) (n + ts.length * (b + 2))
  | [], k, acc, n, h, _ => by
    show Tx acc _
    exact h.mono (by simp)
  | t :: ts, k, acc, n, h, hb => by
    show Tx (textFrom (k + 1) (acc ++ (if k > 0 then ", " else "" : String) ++ t) ts) _
    have hs : Tx ((if k > 0 then ", " else "" : String) : Str) 2 := by
      split
      · exact ⟨by decide +kernel, by decide +kernel⟩
      · exact ⟨by decide +kernel, by decide +kernel⟩
    refine (textFrom_tx b ts (k + 1) _ _ ((h.app hs).app (hb t List.mem_cons_self)) fun t ht => hb t (List.mem_cons_of_mem _ ht)).mono ?_
    rw [List.length_cons, Nat.add_mul]
    omega
theorem join_tx (b : Nat) : ∀ (ts : List Str), (∀ t ∈ ts, Tx t b) → Tx (Str.join ", " ts) (ts.length * (b + 2))
  | [], _ => ⟨by decide +kernel, Nat.zero_le _⟩
  | [x], h => by
    show Tx x _
    exact (h x List.mem_cons_self).mono (by simp)
  | x :: y :: r, h => by
    show Tx (x ++ ", " ++ Str.join ", " (y :: r)) _
    have hs : Tx ((", " : String) : Str) 2 := ⟨by decide +kernel, by decide +kernel⟩
    have := ((h x List.mem_cons_self).app hs).app (join_tx b (y :: r) fun t ht => h t (List.mem_cons_of_mem _ ht))
    refine this.mono ?_
    simp only [List.length_cons, Nat.add_mul]
    omega
theorem listText_tx {b : Nat} {ts : List Str} (h : ∀ t ∈ ts, Tx t b) : Tx (listText ts) (2 + ts.length * (b + 2)) := by
  unfold listText
  have h1 := textFrom_tx b ts 0 (("[" : String) : Str) 1 ⟨by decide +kernel, by decide +kernel⟩ h
  have h2 : Tx (("]" : String) : Str) 1 := ⟨by decide +kernel, by decide +kernel⟩
  exact (h1.app h2).mono (by omega)
theorem tupleText_tx {b : Nat} {ts : List Str} (h : ∀ t ∈ ts, Tx t b) : Tx (tupleText ts) (3 + ts.length * (b + 2)) := by
  unfold tupleText
  have h1 : Tx (("(" : String) : Str) 1 := ⟨by decide +kernel, by decide +kernel⟩
  have h2 : Tx (((if ts.length == 1 then ",)" else ")" : String)) : Str) 2 := by
    split
    · exact ⟨by decide +kernel, by decide +kernel⟩
    · exact ⟨by decide +kernel, by decide +kernel⟩
  exact ((h1.app (join_tx b ts h)).app h2).mono (by omega)
theorem strOk_of (s : String) : PyData.strOk (Str.ofString s) = true := by
  unfold PyData.strOk
  rw [Str.ofString_eq_toList]
  simp only [List.all_toArray, List.all_map, List.all_eq_true]
  intro c _
  have h := c.valid
  simp only [Function.comp, decide_eq_true_eq]
  rcases h with h | h
  · exact Nat.lt_trans h (by decide)
  · exact h.2
theorem int_tx {i : Int} (h : i.natAbs.log2 < 1920) : Tx (PyData.int i).shown 1921 := by
  have z : (PyData.int i).shown = (toString i : String) := by simp only [PyData.shown]
  rw [z]
  exact ⟨strOk_of _, int_text_len_1921 h⟩
/-- its text is so long at most, it is so deep at most; dicts hold no lists -/
structure Fine (d : D) (n k : Nat) (h : Bool) : Prop where
  sh : d.showable = true
  tx : Tx d.shown n
  dep : d.depth ≤ k
  dic : d.hasDict = true → h = true ∧ noLst d = true
theorem Fine.repr {d : D} {n k : Nat} {h : Bool} (f : Fine d n k h) (hn : n ≤ 1000000) (hk : k ≤ 60) : reprD d = some (.str d.shown) ∧ SeqAt.shaped (.str d.shown) = true := by
  constructor
  · unfold reprD
    rw [if_pos]
    unfold showOk
    rw [f.sh]
    have h1 : d.shown.length ≤ sizeLine := Nat.le_trans f.tx.len (Nat.le_trans hn z1000)
    have h2 : d.depth ≤ 60 := Nat.le_trans f.dep hk
    have h3 : (!d.hasDict || noLst d) = true := by
      cases q : d.hasDict with
      | false => rfl
      | true => simp [(f.dic q).2]
    simp [h1, h2, h3]
  · unfold SeqAt.shaped
    simp [PyData.canLay0, PyData.depth, f.tx.ok]
/-- m: it holds no lists; otherwise: it holds no dicts -/
structure Fn (d : D) (n k : Nat) (m : Bool) : Prop where
  sh : d.showable = true
  tx : Tx d.shown n
  dep : d.depth ≤ k
  md : (bif m then noLst d else !d.hasDict) = true
theorem Fn.fine {d : D} {n k : Nat} {m : Bool} (f : Fn d n k m) : Fine d n k true := ⟨f.sh, f.tx, f.dep, fun h => ⟨rfl, by
  have := f.md
  cases m with
  | true => exact this
  | false => simp [h] at this⟩⟩
theorem Fn.mono {d : D} {n k n' k' : Nat} {m : Bool} (f : Fn d n k m) (h : n ≤ n') (h' : k ≤ k') : Fn d n' k' m := ⟨f.sh, f.tx.mono h, Nat.le_trans f.dep h', f.md⟩
theorem fn_int {i : Int} {m : Bool} (h : i.natAbs.log2 < 1920) : Fn (.int i) 1921 1 m := ⟨by simp [PyData.showable, h], int_tx h, by simp [PyData.depth], by cases m <;> simp [PyData.hasDict, noLst]⟩
theorem fn_none {m : Bool} : Fn .none 4 1 m := ⟨rfl, by
  simp only [PyData.shown]
  exact ⟨by decide +kernel, by decide +kernel⟩, by simp [PyData.depth], by cases m <;> simp [PyData.hasDict, noLst]⟩
theorem fn_bool (b : Bool) {m : Bool} : Fn (.bool b) 5 1 m := ⟨by simp [PyData.showable], by
  simp only [PyData.shown]
  cases b <;> exact ⟨by decide +kernel, by decide +kernel⟩, by simp [PyData.depth], by cases m <;> simp [PyData.hasDict, noLst]⟩
theorem fn_str {x : Str} {n : Nat} {m : Bool} (h : PyData.strOk (reprText x) = true) (h2 : (reprText x).length ≤ n) : Fn (.str x) n 1 m := ⟨by simp [PyData.showable], by
  simp only [PyData.shown]
  exact ⟨h, h2⟩, by simp [PyData.depth], by cases m <;> simp [PyData.hasDict, noLst]⟩
theorem fn_all {n k : Nat} {m : Bool} : ∀ {xs : List D}, (∀ x ∈ xs, Fn x n k m) → PyData.showableAll xs = true ∧ (∀ t ∈ PyData.shownAll xs, Tx t n) ∧ PyData.depthAll xs ≤ k ∧ (bif m then noLsts xs else !PyData.hasDictAll xs) = true ∧ (PyData.shownAll xs).length = xs.length
  | [], _ => ⟨rfl, fun t ht => by simp [PyData.shownAll] at ht, by simp [PyData.depthAll], by cases m <;> simp [PyData.hasDictAll, noLsts], by simp [PyData.shownAll]⟩
  | x :: xs, h => by
    obtain ⟨a, b, c, d, e⟩ := fn_all fun y hy => h y (List.mem_cons_of_mem _ hy)
    have f := h x List.mem_cons_self
    refine ⟨by simp [PyData.showableAll, f.sh, a], fun t ht => ?_, by simp only [PyData.depthAll]; exact Nat.max_le.mpr ⟨f.dep, c⟩, ?_, by simp [PyData.shownAll, e]⟩
    · simp only [PyData.shownAll, List.mem_cons] at ht
      rcases ht with rfl | ht
      · exact f.tx
      · exact b t ht
    · have g := f.md
      cases m with
      | true =>
        simp only [cond_true] at *
        simp [noLsts, g, d]
      | false =>
        simp only [cond_false, Bool.not_eq_true'] at *
        simp [PyData.hasDictAll, g, d]
theorem fn_tup {n k : Nat} {m : Bool} {xs : List D} (h : ∀ x ∈ xs, Fn x n k m) : Fn (.tuple xs) (3 + xs.length * (n + 2)) (k + 1) m := by
  obtain ⟨a, b, c, d, e⟩ := fn_all h
  refine ⟨by simp [PyData.showable, a], ?_, by simp [PyData.depth]; omega, by cases m <;> simpa [PyData.hasDict, noLst] using d⟩
  have := tupleText_tx b
  rw [e] at this
  simpa only [PyData.shown] using this
theorem fn_lst {n k : Nat} {xs : List D} (h : ∀ x ∈ xs, Fn x n k false) : Fn (.list xs) (3 + xs.length * (n + 2)) (k + 1) false := by
  obtain ⟨a, b, c, d, e⟩ := fn_all h
  refine ⟨by simp [PyData.showable, a], ?_, by simp [PyData.depth]; omega, by simpa [PyData.hasDict] using d⟩
  have := listText_tx b
  rw [e] at this
  have := this.mono (show _ ≤ 3 + xs.length * (n + 2) by omega)
  simpa only [PyData.shown] using this
theorem fn_dct0 : Fn (.dict []) 3 2 true := ⟨by simp [PyData.showable, PyData.showableKv], by
  simp only [PyData.shown, PyData.shownKv]
  exact ⟨by decide +kernel, by decide +kernel⟩, by simp [PyData.depth, PyData.depthKv], by simp [noLst, noLstKv]⟩
theorem fn_dct1 {x y : D} {n p k : Nat} (hx : Fn x n k true) (hy : Fn y p k true) : Fn (.dict [(x, y)]) (n + p + 4) (k + 1) true := ⟨by simp [PyData.showable, PyData.showableKv, hx.sh, hy.sh], by
  simp only [PyData.shown, PyData.shownKv]
  have h1 : Tx (("{" : String) : Str) 1 := ⟨by decide +kernel, by decide +kernel⟩
  have h2 : Tx (("}" : String) : Str) 1 := ⟨by decide +kernel, by decide +kernel⟩
  have h3 : Tx ((": " : String) : Str) 2 := ⟨by decide +kernel, by decide +kernel⟩
  exact ((h1.app ((hx.tx.app h3).app hy.tx)).app h2).mono (by omega), by have := hx.dep; have := hy.dep; simp [PyData.depth, PyData.depthKv]; omega, by
  have h1 : noLst x = true := hx.md
  have h2 : noLst y = true := hy.md
  simp [noLst, noLstKv, h1, h2]⟩
theorem leaves_views : ∀ {ts : List Tr} {ds : List D}, leaves ts = some ds → Tr.views ts = ds
  | ts, ds, h => by
    rw [leaves_eq h, views_map, List.map_map]
    exact List.map_id' ds
def frz (ts : List Tr) : Tr := match leaves ts with
  | some _ => .lst ts
  | none => .leaf (.list (Tr.views ts))
theorem fz_ok (ts : List Tr) (e : Nv) : fzV (.tmp (.lst ts)) e = .ok (.tmp (frz ts)) e := by
  unfold fzV frz
  simp only [rtree]
  cases h : leaves ts with
  | some ds => rfl
  | none => simp
theorem titems_frz (ts : List Tr) : titems (frz ts) = some (false, Tr.views ts) := by
  unfold frz
  cases h : leaves ts with
  | some ds =>
    show (leaves ts).map _ = _
    rw [h, leaves_views h]
    rfl
  | none => rfl
theorem addF {t u : Tr} {xs ys : List D} {e : Nv} (h : titems t = some (false, xs)) (h' : titems u = some (false, ys)) (hl : xs.length + ys.length ≤ 100000) : addD (.tmp t) (.tmp u) e = .ok (.tmp (.lst ((xs ++ ys).map .leaf))) e := by
  have hz : xs.length + ys.length ≤ sizeLine := Nat.le_trans hl (by decide)
  unfold addD
  simp only [rtree]
  split
  · rename_i h1 h2
    cases h1
    simp [titems] at h
  · rename_i h1 h2
    cases h1
    simp [titems] at h
  · rename_i h1 h2
    cases h1
    cases h2
    simp only [h, h', hz, if_true]
  · rename_i h1
    exact absurd rfl (h1 t u rfl)
theorem lcL_true {vs : List Nat} {g : Sd} {ft : Tt} {fe : Xp} {P : Nv → Prop} : ∀ {ds : List D} {acc : List Tr} {e : Nv}, P e →
    (∀ d ∈ ds, ∀ e, P e → ∃ e1 e2 e3, g d e = some e1 ∧ ft e1 = .ok true e2 ∧ ow fe e2 = .ok (Tr.leaf (.bool true)) e3 ∧ P (wipeE vs e3)) → acc.length + ds.length ≤ sizeLine →
    ∃ e', P e' ∧ lcL vs g ft fe ds acc e = .ok (acc ++ List.replicate ds.length (Tr.leaf (.bool true))) e'
  | [], acc, e, h0, _, _ => ⟨e, h0, by simp [lcL]⟩
  | d :: ds, acc, e, h0, h, hl => by
    obtain ⟨e1, e2, e3, h1, h2, h3, h4⟩ := h d (List.mem_cons_self ..) e h0
    simp only [List.length_cons] at hl
    obtain ⟨e', k1, k2⟩ := lcL_true (acc := acc ++ [Tr.leaf (.bool true)]) h4 (fun d hd => h d (List.mem_cons_of_mem _ hd)) (by simp; omega)
    refine ⟨e', k1, ?_⟩
    unfold lcL
    rw [h1]
    simp only [h2, bind_ok, if_true, h3]
    rw [if_pos (by omega), k2]
    simp [List.replicate_succ]
@[simp] theorem v_rev (r : Rv) (e : Nv) : revV r e = match ritems r e with
  | some (false, ds) => .ok (.tmp (.lst (ds.reverse.map .leaf))) e
  | _ => .bad := id rfl
@[simp] theorem v_try (f : Sm) (e : Nv) : tryS f e = nox (f e) := id rfl
def absI (i : Int) : Int := if i < 0 then -i else i
theorem absI_nn (i : Int) : 0 ≤ absI i := by
  unfold absI
  split <;> omega
end Hd

set_option Elab.async false
set_option linter.all false
/-! Eu: rates of logarithms; rows of makers, lots of makers. -/
namespace Ser
/-- the rate of the logarithm -/
def lg (c : Sr) : Sr := cv (th c) (iv c)
theorem lg_zero (c : Sr) : lg c 0 = 0 := by
  unfold lg
  rw [cv_zero]
  simp [th]
theorem iv_mul {a b : Sr} (ha : a 0 = 1) (hb : b 0 = 1) : iv (cv a b) = cv (iv a) (iv b) :=
  (iv_unique (by rw [cv_zero, ha, hb]; rfl) (by rw [cvA, cvL b (iv a) (iv b), ← cvA, cv_iv ha, cv_iv hb, cv_u1])).symm
theorem lg_th {c : Sr} (h : c 0 = 1) : cv c (lg c) = th c := by
  unfold lg
  rw [cvL, cv_iv h, cv_u1r]
theorem lg_rec {c : Sr} (h : c 0 = 1) (n : Nat) : (n : Int) * c n = cv (lg c) c n := by
  rw [cvC, lg_th h]
  rfl
theorem lg_unique {c s : Sr} (h : c 0 = 1) (hs : cv c s = th c) : s = lg c := by
  have e : cv (iv c) (cv c s) = cv (iv c) (th c) := by rw [hs]
  rw [← cvA, cvC (iv c) c, cv_iv h, cv_u1] at e
  rw [e, cvC]
  rfl
theorem lg_mul {a b : Sr} (ha : a 0 = 1) (hb : b 0 = 1) : lg (cv a b) = ad (lg a) (lg b) := by
  refine (lg_unique (by rw [cv_zero, ha, hb]; rfl) ?_).symm
  rw [thP, cvDr, cvA a b (lg a), cvL a b (lg a), lg_th ha, cvA a b (lg b), lg_th hb, cvC b (th a)]
theorem lg_pw {a : Sr} (h : a 0 = 1) (p : Int) : lg (pw a p) = sm p (lg a) := by
  refine (lg_unique (pw_at0 h p) ?_).symm
  have e : cv (iv a) (cv a (th (pw a p))) = cv (iv a) (sm p (cv (th a) (pw a p))) := by rw [pw_rate h p]
  rw [← cvA, cvC (iv a) a, cv_iv h, cv_u1, cvSr] at e
  rw [e, cvSr]
  unfold lg
  rw [cvL (iv a) (th a) (pw a p), cvC (pw a p), cvA, cvC (iv a) (pw a p)]
theorem lg_u1 : lg u1 = z0 := by
  unfold lg
  rw [th_u1]
  exact funext fun n => cv_z0 n _
/-! ### rows -/
def one_ (M : Sr) : Sr := ad u1 (sm (-1) M)
theorem one_zero {M : Sr} (h : M 0 = 0) : one_ M 0 = 1 := by simp [one_, ad, sm, u1, h]
def rws (M : Sr) : Sr := iv (one_ M)
theorem rws_zero (M : Sr) : rws M 0 = 1 := rfl
theorem rws_succ (M : Sr) (n : Nat) : rws M (n + 1) = cv (sh M) (rws M) n := by
  unfold rws
  rw [iv_succ]
  have : sh (one_ M) = sm (-1) (sh M) := funext fun i => by simp [sh, one_, ad, sm, u1]
  rw [this, cv_sm_l]
  omega
theorem th_one (M : Sr) : th (one_ M) = sm (-1) (th M) := funext fun n => by
  simp only [th, one_, ad, sm, u1]
  split
  · rename_i h
    subst h
    simp
  · rw [Int.zero_add, Int.mul_left_comm]
theorem lg_rows {M : Sr} (h : M 0 = 0) : lg (rws M) = cv (th M) (rws M) := by
  refine (lg_unique (rws_zero M) ?_).symm
  have ha := one_zero h
  have e := iv_rate ha
  rw [th_one, cvSl, sm_sm, show (-1 : Int) * -1 = 1 from rfl, sm_one] at e
  have e2 : cv (iv (one_ M)) (cv (one_ M) (th (iv (one_ M)))) = cv (iv (one_ M)) (cv (th M) (iv (one_ M))) := by rw [e]
  rw [← cvA, cvC (iv (one_ M)) (one_ M), cv_iv ha, cv_u1] at e2
  exact e2.symm
theorem th_pn (M : Sr) : ∀ k : Nat, th (pn M (k + 1)) = sm ((k + 1 : Nat) : Int) (cv (th M) (pn M k))
  | 0 => by
    show th (cv u1 M) = sm 1 (cv (th M) u1)
    rw [cv_u1, cv_u1r, sm_one]
  | k + 1 => by
    have ih := th_pn M k
    show th (cv (pn M (k + 1)) M) = _
    rw [thP, ih, cvSl, cvA (th M) (pn M k) M, cvC (pn M (k + 1)) (th M)]
    show ad (sm _ (cv (th M) (pn M (k + 1)))) _ = _
    rw [show ((k + 1 + 1 : Nat) : Int) = ((k + 1 : Nat) : Int) + 1 from rfl, ← ad_sm, sm_one]
def gsum (M : Sr) : Nat → Sr
  | 0 => z0
  | k + 1 => ad (gsum M k) (pn M k)
theorem gsum_one (M : Sr) : ∀ k, cv (one_ M) (gsum M k) = ad u1 (sm (-1) (pn M k))
  | 0 => funext fun n => by
    show cv (one_ M) z0 n = _
    rw [cvC, cv_z0]
    simp only [pn, ad, sm]
    omega
  | k + 1 => by
    show cv (one_ M) (ad (gsum M k) (pn M k)) = _
    rw [cvDr, gsum_one M k]
    unfold one_
    rw [cvDl, cv_u1, cvSl]
    funext n
    show _ = u1 n + -1 * cv (pn M k) M n
    rw [cvC (pn M k) M]
    simp only [ad, sm]
    omega
theorem gsum_rows {M : Sr} (h : M 0 = 0) (k : Nat) : rws M = ad (gsum M k) (cv (rws M) (pn M k)) := by
  have e : cv (rws M) (cv (one_ M) (gsum M k)) = cv (rws M) (ad u1 (sm (-1) (pn M k))) := by rw [gsum_one]
  rw [← cvA, cvC (rws M) (one_ M)] at e
  unfold rws at e
  rw [cv_iv (one_zero h), cv_u1, cvDr, cv_u1r, cvSr] at e
  funext n
  have en := congrFun e n
  simp only [ad, sm] at en ⊢
  unfold rws
  omega
theorem low {M : Sr} (h : M 0 = 0) : ∀ (k : Nat) (x : Sr) (i : Nat), i < k → cv x (pn M k) i = 0
  | 0, _, _, hi => by omega
  | k + 1, x, i, hi => by
    show cv x (cv (pn M k) M) i = 0
    rw [cvC (pn M k) M, ← cvA]
    cases i with
    | zero =>
      rw [cv_zero, cv_zero, h]
      simp
    | succ i =>
      rw [cv_succ, cv_zero, h]
      have e : sh (cv x M) = sh (cv M x) := by rw [cvC]
      rw [e, sh_cv, h]
      have e2 : ad (sm 0 (sh x)) (cv (sh M) x) = cv (sh M) x := funext fun n => by simp [ad, sm]
      rw [e2, low h k (cv (sh M) x) i (by omega)]
      simp
theorem low2 {M y : Sr} (h : M 0 = 0) (hy : y 0 = 0) (k : Nat) : cv y (pn M k) k = 0 := by
  cases k with
  | zero =>
    rw [cv_zero, hy]
    simp
  | succ k =>
    rw [cv_succ, hy, low h (k + 1) (sh y) k (by omega)]
    simp
theorem own_total {M : Sr} (h : M 0 = 0) (n : Nat) : cv (th M) (gsum M n) n = lg (rws M) n := by
  have ht : th M 0 = 0 := by simp [th]
  rw [lg_rows h]
  have e : cv (th M) (rws M) = ad (cv (th M) (gsum M n)) (cv (th M) (cv (rws M) (pn M n))) := by
    conv => lhs; rw [gsum_rows h n]
    rw [cvDr]
  rw [e, ← cvA]
  simp only [ad]
  rw [low2 h (by rw [cv_zero, ht]; simp) n]
  omega
theorem gterm_zero {M : Sr} (h : M 0 = 0) {j n : Nat} (hn : n ≤ j) : cv (th M) (pn M j) n = 0 := by
  by_cases hj : n < j
  · exact low h j (th M) n hj
  · have : n = j := by omega
    subst this
    exact low2 h (by simp [th]) n
theorem own_total_le {M : Sr} (h : M 0 = 0) (n : Nat) : ∀ d, cv (th M) (gsum M (n + d)) n = lg (rws M) n
  | 0 => own_total h n
  | d + 1 => by
    show cv (th M) (ad (gsum M (n + d)) (pn M (n + d))) n = _
    rw [cv_ad_r, gterm_zero h (by omega), own_total_le h n d]
    omega
def tot (M : Sr) (k : Nat) : Sr := sm 27720 (cv (th M) (gsum M k))
theorem tot_zero (M : Sr) : tot M 0 = z0 := funext fun n => by
  show 27720 * cv (th M) z0 n = 0
  rw [cvC, cv_z0]
  rfl
theorem tot_succ (M : Sr) (k n : Nat) : tot M (k + 1) n = tot M k n + 27720 * cv (th M) (pn M k) n := by
  show 27720 * cv (th M) (ad (gsum M k) (pn M k)) n = _
  rw [cv_ad_r, Int.mul_add]
  rfl
theorem tot_same {M : Sr} (h : M 0 = 0) {k n : Nat} (hn : n ≤ k) : tot M (k + 1) n = tot M k n := by
  rw [tot_succ, gterm_zero h hn]
  omega
theorem tot_term (M : Sr) {k : Nat} (hk : k < 12) (n : Nat) : ((n : Int) * pn M (k + 1) n) * (27720 / ((k + 1 : Nat) : Int)) = 27720 * cv (th M) (pn M k) n := by
  have e := congrFun (th_pn M k) n
  simp only [th, sm] at e
  have d : ∀ k : Nat, k < 12 → (27720 : Int) / ((k + 1 : Nat) : Int) * ((k + 1 : Nat) : Int) = 27720 := by decide
  have h1 := d k hk
  generalize (27720 : Int) / ((k + 1 : Nat) : Int) = q at *
  have e' : (n : Int) * pn M (k + 1) n = ((k + 1 : Nat) : Int) * cv (th M) (pn M k) n := e
  rw [e', Int.mul_comm _ q, ← Int.mul_assoc, h1]
theorem tot_end {M : Sr} (h : M 0 = 0) {L n : Nat} (hn : n ≤ L) : tot M L n / 27720 = lg (rws M) n := by
  have := own_total_le h n (L - n)
  rw [show n + (L - n) = L by omega] at this
  show 27720 * cv (th M) (gsum M L) n / 27720 = _
  rw [this]
  exact Int.mul_ediv_cancel_left _ (by decide)
/-! ### sums over divisors -/
def dterm (m : Sr) (n i : Nat) : Int := if n % (i + 1) = 0 then ((i + 1 : Nat) : Int) * m (i + 1) else 0
def dsum (m : Sr) (k n : Nat) : Int := ((List.range k).map (dterm m n)).sum
theorem dsum_zero (m : Sr) (n : Nat) : dsum m 0 n = 0 := rfl
theorem dsum_succ (m : Sr) (k n : Nat) : dsum m (k + 1) n = dsum m k n + dterm m n k := by
  simp [dsum, List.range_succ]
theorem dsum_congr {m m' : Sr} {n : Nat} : ∀ {k : Nat}, (∀ i, 1 ≤ i → i ≤ k → m i = m' i) → dsum m k n = dsum m' k n
  | 0, _ => rfl
  | k + 1, h => by
    rw [dsum_succ, dsum_succ, dsum_congr fun i h1 h2 => h i h1 (by omega)]
    unfold dterm
    rw [h (k + 1) (by omega) (by omega)]
theorem dsum_more (m : Sr) {k n : Nat} (hn : 1 ≤ n) : ∀ j, k + j ≥ n → n ≤ k → dsum m (k + j) n = dsum m k n
  | 0, _, _ => rfl
  | j + 1, _, hk => by
    show dsum m (k + j + 1) n = _
    rw [dsum_succ, dsum_more m hn j (by omega) hk]
    have : n % (k + j + 1) = n := Nat.mod_eq_of_lt (by omega)
    unfold dterm
    rw [this, if_neg (by omega)]
    omega
def mono (d : Nat) : Sr := fun i => if i = d then 1 else 0
theorem cv_mono : ∀ (d : Nat) (b : Sr) (n : Nat), cv (mono d) b n = if d ≤ n then b (n - d) else 0
  | 0, b, n => by
    have : mono 0 = u1 := rfl
    rw [this, cv_u1]
    simp
  | d + 1, b, 0 => by
    rw [cv_zero]
    simp [mono]
  | d + 1, b, n + 1 => by
    have e : sh (mono (d + 1)) = mono d := funext fun i => by simp [sh, mono]
    rw [cv_succ, e, cv_mono d b n]
    simp [mono]
def ind (d : Nat) : Sr := fun n => if n % d = 0 then 1 else 0
theorem rws_mono {d : Nat} (hd : 1 ≤ d) : rws (mono d) = ind d := by
  have h0 : mono d 0 = 0 := by simp [mono]; omega
  refine (iv_unique (one_zero h0) ?_).symm
  unfold one_
  rw [cvDl, cv_u1, cvSl]
  funext n
  simp only [ad, sm, cv_mono, u1, ind]
  by_cases hn : d ≤ n
  · have : (n - d) % d = n % d := by
      conv => rhs; rw [show n = n - d + d by omega, Nat.add_mod_right]
    rw [if_pos hn, this]
    have : n ≠ 0 := by omega
    simp only [this, if_false]
    split <;> omega
  · rw [if_neg hn, Nat.mod_eq_of_lt (by omega)]
    by_cases h : n = 0
    · simp [h]
    · simp [h]
theorem lg_mono {d : Nat} (hd : 1 ≤ d) {n : Nat} (hn : 1 ≤ n) : lg (rws (mono d)) n = if n % d = 0 then (d : Int) else 0 := by
  have h0 : mono d 0 = 0 := by simp [mono]; omega
  rw [lg_rows h0, rws_mono hd]
  have e : th (mono d) = sm (d : Int) (mono d) := funext fun i => by
    simp only [th, sm, mono]
    split
    · rename_i h
      rw [h]
    · simp
  rw [e, cv_sm_l, cv_mono]
  by_cases h : d ≤ n
  · rw [if_pos h]
    have : (n - d) % d = n % d := by
      conv => rhs; rw [show n = n - d + d by omega, Nat.add_mod_right]
    simp only [ind, this]
    split <;> omega
  · rw [if_neg h, Nat.mod_eq_of_lt (by omega), if_neg (by omega)]
    omega
theorem euler_exists (m : Sr) : ∀ k, ∃ P : Sr, P 0 = 1 ∧ ∀ n, 1 ≤ n → lg P n = dsum m k n
  | 0 => ⟨u1, rfl, fun n _ => by rw [lg_u1]; rfl⟩
  | k + 1 => by
    obtain ⟨P, h1, h2⟩ := euler_exists m k
    refine ⟨cv P (pw (rws (mono (k + 1))) (m (k + 1))), by rw [cv_zero, h1, pw_at0 (rws_zero _)]; rfl, fun n hn => ?_⟩
    rw [lg_mul h1 (pw_at0 (rws_zero _) _), lg_pw (rws_zero _)]
    simp only [ad, sm]
    rw [h2 n hn, lg_mono (by omega) hn, dsum_succ]
    unfold dterm
    split
    · rw [Int.mul_comm]
    · simp
/-- what goes before the first unlike place -/
theorem lg_same {c P : Sr} (hc : c 0 = 1) (hP : P 0 = 1) : ∀ n, (∀ k, 1 ≤ k → k < n → lg c k = lg P k) → ∀ k, k < n → c k = P k := by
  intro n h k
  induction k using Nat.strongRecOn with
  | _ k ih =>
    intro hk
    cases k with
    | zero => rw [hc, hP]
    | succ k =>
      have e1 := lg_rec hc (k + 1)
      have e2 := lg_rec hP (k + 1)
      rw [cv_succ, lg_zero, Int.zero_mul, Int.zero_add] at e1 e2
      have e3 : cv (sh (lg c)) c k = cv (sh (lg P)) P k := cv_congr k (fun i hi => h (i + 1) (by omega) (by omega)) fun i hi => ih i (by omega) (by omega)
      rw [e3, ← e2] at e1
      exact Int.eq_of_mul_eq_mul_left (by omega) e1
theorem lg_next {c P : Sr} (hc : c 0 = 1) (hP : P 0 = 1) {N : Nat} (h : ∀ k, 1 ≤ k → k < N + 1 → lg c k = lg P k) : ((N + 1 : Nat) : Int) * (c (N + 1) - P (N + 1)) = lg c (N + 1) - lg P (N + 1) := by
  have hs := lg_same hc hP (N + 1) h
  have e1 := lg_rec hc (N + 1)
  have e2 := lg_rec hP (N + 1)
  rw [cv_succ, lg_zero, Int.zero_mul, Int.zero_add] at e1 e2
  have e3 : cv (sh (lg c)) c N = cv (ad (sh (lg P)) (sm (lg c (N + 1) - lg P (N + 1)) (mono N))) P N := cv_congr N (fun i hi => by
    simp only [ad, sm, mono, sh]
    by_cases hiN : i = N
    · rw [if_pos hiN, hiN]
      omega
    · rw [if_neg hiN, h (i + 1) (by omega) (by omega)]
      omega) fun i hi => hs i (by omega)
  rw [e3, cv_ad_l, cv_sm_l, cv_mono, if_pos (Nat.le_refl N), Nat.sub_self, hP, ← e2] at e1
  rw [Int.mul_sub]
  omega
/-! ### makers of lots -/
def lmL (s : Sr) : Nat → List Int
  | 0 => []
  | n + 1 => lmL s n ++ [(s (n + 1) - dsum (fun i => (lmL s n).getD (i - 1) 0) n (n + 1)) / ((n + 1 : Nat) : Int)]
def lm (s : Sr) : Sr := fun n => (lmL s n).getD (n - 1) 0
theorem lmL_len (s : Sr) : ∀ n, (lmL s n).length = n
  | 0 => rfl
  | n + 1 => by
    unfold lmL
    simp [lmL_len s n]
theorem lmL_get (s : Sr) : ∀ (n i : Nat), 1 ≤ i → i ≤ n → (lmL s n).getD (i - 1) 0 = lm s i
  | 0, i, h1, h2 => by omega
  | n + 1, i, h1, h2 => by
    by_cases hi : i = n + 1
    · subst hi
      rfl
    · rw [← lmL_get s n i h1 (by omega)]
      conv => lhs; unfold lmL
      rw [List.getD_eq_getElem?_getD, List.getD_eq_getElem?_getD, List.getElem?_append_left (by rw [lmL_len]; omega)]
theorem lm_succ (s : Sr) (n : Nat) : lm s (n + 1) = (s (n + 1) - dsum (lm s) n (n + 1)) / ((n + 1 : Nat) : Int) := by
  have e : dsum (fun i => (lmL s n).getD (i - 1) 0) n (n + 1) = dsum (lm s) n (n + 1) := dsum_congr fun i h1 h2 => lmL_get s n i h1 h2
  show (lmL s (n + 1)).getD (n + 1 - 1) 0 = _
  conv => lhs; unfold lmL
  rw [e, List.getD_eq_getElem?_getD, List.getElem?_append_right (by rw [lmL_len]; omega), lmL_len]
  simp
theorem lot_exact {c : Sr} (hc : c 0 = 1) : ∀ n, 1 ≤ n → dsum (lm (lg c)) n n = lg c n := by
  intro n
  induction n using Nat.strongRecOn with
  | _ n ih =>
    intro hn
    obtain ⟨N, rfl⟩ : ∃ N, n = N + 1 := ⟨n - 1, by omega⟩
    obtain ⟨P, hP, hl⟩ := euler_exists (lm (lg c)) N
    have e := lg_next hc hP (N := N) fun k h1 h2 => by
      rw [hl k h1, ← ih k h2 h1]
      obtain ⟨j, rfl⟩ : ∃ j, N = k + j := ⟨N - k, by omega⟩
      exact (dsum_more _ h1 j (by omega) (Nat.le_refl k)).symm
    rw [hl (N + 1) (by omega)] at e
    have q : lm (lg c) (N + 1) = c (N + 1) - P (N + 1) := by
      rw [lm_succ, ← e]
      exact Int.mul_ediv_cancel_left _ (by omega)
    rw [dsum_succ]
    unfold dterm
    rw [Nat.mod_self, if_pos rfl, q, e]
    omega
/-- lots of makers: a series with these sums -/
theorem lots_exists (m : Sr) (k : Nat) : ∃ P : Sr, P 0 = 1 ∧ ∀ n, 1 ≤ n → n ≤ k → lg P n = dsum m n n := by
  obtain ⟨P, h1, h2⟩ := euler_exists m k
  refine ⟨P, h1, fun n hn hk => ?_⟩
  rw [h2 n hn]
  obtain ⟨j, rfl⟩ : ∃ j, k = n + j := ⟨k - n, by omega⟩
  exact dsum_more m hn j (by omega) (Nat.le_refl n)
end Ser

set_option Elab.async false
set_option linter.all false
/-! Eu2: lots of makers, their uniqueness. -/
namespace Ser
theorem dsum_self (m : Sr) {n : Nat} (hn : 1 ≤ n) : dsum m n n = dsum m (n - 1) n + (n : Int) * m n := by
  obtain ⟨k, rfl⟩ : ∃ k, n = k + 1 := ⟨n - 1, by omega⟩
  rw [dsum_succ]
  unfold dterm
  rw [Nat.mod_self, if_pos rfl]
  rfl
/-- makers are told by their sums over divisors -/
theorem dsum_uniq {m m' : Sr} {L : Nat} (h : ∀ n, 1 ≤ n → n ≤ L → dsum m n n = dsum m' n n) : ∀ n, 1 ≤ n → n ≤ L → m n = m' n := by
  intro n
  induction n using Nat.strongRecOn with
  | _ n ih =>
    intro h1 hL
    have e := h n h1 hL
    rw [dsum_self m h1, dsum_self m' h1, dsum_congr fun i i1 i2 => ih i (by omega) i1 (by omega)] at e
    exact Int.eq_of_mul_eq_mul_left (a := (n : Int)) (by omega) (by omega)
theorem lot_of {P m : Sr} (hP : P 0 = 1) {L : Nat} (h : ∀ n, 1 ≤ n → n ≤ L → lg P n = dsum m n n) : ∀ n, 1 ≤ n → n ≤ L → lm (lg P) n = m n :=
  dsum_uniq fun n h1 h2 => by rw [lot_exact hP n h1, h n h1 h2]
theorem dsum_ad (m m' : Sr) (k n : Nat) : dsum (Ser.ad m m') k n = dsum m k n + dsum m' k n := by
  induction k with
  | zero => rfl
  | succ k ih =>
    rw [dsum_succ, dsum_succ, dsum_succ, ih]
    unfold dterm
    split
    · simp only [Ser.ad]
      rw [Int.mul_add]
      omega
    · omega
/-- of a product: both added -/
theorem lot_mul {a b : Sr} (ha : a 0 = 1) (hb : b 0 = 1) (n : Nat) (hn : 1 ≤ n) : lm (lg (cv a b)) n = lm (lg a) n + lm (lg b) n := by
  have hc : cv a b 0 = 1 := by rw [cv_zero, ha, hb]; rfl
  exact lot_of (P := cv a b) (m := Ser.ad (lm (lg a)) (lm (lg b))) hc (L := n) (fun k h1 _ => by
    rw [dsum_ad, lot_exact ha k h1, lot_exact hb k h1, lg_mul ha hb]
    rfl) n hn (Nat.le_refl n)
/-- the next item, n + 1 times -/
theorem lot_rec {P : Sr} (hP : P 0 = 1) {s : Sr} {L : Nat} (h : ∀ n, 1 ≤ n → n ≤ L → lg P n = s n) {k : Nat} (hk : k < L) : cv (sh s) P k = ((k + 1 : Nat) : Int) * P (k + 1) := by
  have e := lg_rec hP (k + 1)
  rw [cv_succ, lg_zero, Int.zero_mul, Int.zero_add] at e
  rw [e]
  exact cv_congr k (fun i hi => (h (i + 1) (by omega) (by omega)).symm) fun _ _ => rfl
/-- letters alone -/
theorem lot_letters {P : Sr} (hP : P 0 = 1) {l : Int} {L : Nat} (h : ∀ n, 1 ≤ n → n ≤ L → lg P n = l) {k : Nat} (hk : k < L) : ((k + 1 : Nat) : Int) * P (k + 1) = (l + k) * P k := by
  have e1 := lot_rec hP (s := fun _ => l) h hk
  cases k with
  | zero =>
    rw [cv_zero] at e1
    rw [← e1]
    simp [sh]
  | succ k =>
    have e2 := lot_rec hP (s := fun _ => l) h (k := k) (by omega)
    rw [cv_succ] at e1
    have : sh (sh fun _ : Nat => l) = sh fun _ => l := rfl
    rw [this, e2] at e1
    have h0 : sh (fun _ : Nat => l) 0 = l := rfl
    rw [h0] at e1
    rw [← e1, Int.add_mul]
end Ser

set_option Elab.async false
set_option linter.all false
set_option maxRecDepth 100000
set_option maxHeartbeats 2000000
namespace Hd
open PySem PySem.Spec L2 Vs
open PyProof.Rows hiding St
abbrev WH : Nat := 1099511627776
def m_row_makers : Mir := mkM 3 [false] ((seqS (asS 1 (lstX []))
  (seqS (forS (rng2I [(ct (.int 1)), (call1 (atom1 lenD) (nm 0))]) (stN 2) (seqS (exS (apX 1 (bin subD (ixX (nm 0) (nm 2)) (call1 (atom1 sumD) (lcX [3] (rng2I [(ct (.int 1)), (nm 2)]) (stN 3) ytt (mulX (ixX (nm 1) (bin subD (nm 3) (ct (.int 1)))) (ixX (nm 0) (bin subD (nm 2) (nm 3)))))))))
  nxS))
  (seqS (rtS (call1 tupV (nm 1)))
  nxS))))
def m_rows_of_makers : Mir := mkM 3 [false] ((seqS (asS 1 (lstX [(ct (.int 1))]))
  (seqS (forS (rng2I [(ct (.int 1)), (addX (call1 (atom1 lenD) (nm 0)) (ct (.int 1)))]) (stN 2) (seqS (exS (apX 1 (call1 (atom1 sumD) (lcX [3] (rng2I [(ct (.int 1)), (addX (nm 2) (ct (.int 1)))]) (stN 3) ytt (mulX (ixX (nm 0) (bin subD (nm 3) (ct (.int 1)))) (ixX (nm 1) (bin subD (nm 2) (nm 3))))))))
  nxS))
  (seqS (rtS (call1 tupV (nm 1)))
  nxS))))
def m_divisor_sum : Mir := mkM 2 [true, false] ((seqS (rtS (call1 (atom1 sumD) (lcBX 0 (enumD 1) [2, 3] (stT [(stN 2), (stN 3)]) (tst (bin (eqD false) (bin modD (nm 1) (nm 2)) (ct (.int 0)))) (mulX (nm 2) (nm 3)))))
  nxS))
def m_lot_makers : Mir := mkM 5 [false] ((seqS (parS [1, 2] [(lstX []), (lstX [])])
  (seqS (forS (rng2I [(ct (.int 1)), (call1 (atom1 lenD) (nm 0))]) (stN 3) (seqS (asS 4 (bin subD (mulX (nm 3) (ixX (nm 0) (nm 3))) (call1 (atom1 sumD) (lcX [5] (rng2I [(ct (.int 1)), (nm 3)]) (stN 5) ytt (mulX (ixX (nm 2) (bin subD (nm 5) (ct (.int 1)))) (ixX (nm 0) (bin subD (nm 3) (nm 5))))))))
  (seqS (exS (apX 2 (nm 4)))
  (seqS (exS (apX 1 (bin fdivD (bin subD (nm 4) (callX m_divisor_sum [true, false] [(nm 1), (nm 3)])) (nm 3))))
  nxS))))
  (seqS (rtS (call1 tupV (nm 1)))
  nxS))))
def m_lots_of_makers : Mir := mkM 4 [false] ((seqS (parS [1, 2] [(lstX [(ct (.int 1))]), (lcX [3] (rng2I [(ct (.int 1)), (addX (call1 (atom1 lenD) (nm 0)) (ct (.int 1)))]) (stN 3) ytt (callX m_divisor_sum [true, false] [(slX (nm 0) none (some (nm 3))), (nm 3)]))])
  (seqS (forS (rng2I [(ct (.int 1)), (addX (call1 (atom1 lenD) (nm 0)) (ct (.int 1)))]) (stN 3) (seqS (exS (apX 1 (bin fdivD (call1 (atom1 sumD) (lcX [4] (rng2I [(ct (.int 1)), (addX (nm 3) (ct (.int 1)))]) (stN 4) ytt (mulX (ixX (nm 2) (bin subD (nm 4) (ct (.int 1)))) (ixX (nm 1) (bin subD (nm 3) (nm 4)))))) (nm 3))))
  nxS))
  (seqS (rtS (call1 tupV (nm 1)))
  nxS))))
def m_row_joined : Mir := mkM 3 [false, false] ((seqS (asS 2 (lstX []))
  (seqS (forS (rng1I [(call2 (atom2 min2D) (call1 (atom1 lenD) (nm 0)) (call1 (atom1 lenD) (nm 1)))]) (stN 3) (seqS (exS (apX 2 (call1 (atom1 sumD) (lcX [4] (rng1I [(addX (nm 3) (ct (.int 1)))]) (stN 4) ytt (mulX (ixX (nm 0) (nm 4)) (ixX (nm 1) (bin subD (nm 3) (nm 4))))))))
  nxS))
  (seqS (rtS (call1 tupV (nm 2)))
  nxS))))
def m_law_own_bag : Mir := mkM 3 [false] ((seqS (asT 1 (lcT [3] (sqI (slX (nm 0) none (some (ct (.int 63))))) (stN 3) ytt (call1 (atom1 absD) (nm 3))))
  (seqS (asS 2 (addX (ct (.int 1234567)) (call1 (atom1 lenD) (nm 1))))
  (seqS (forS (sqI (nm 1)) (stN 3) (seqS (asS 2 (bin modD (addX (addX (mulX (nm 2) (ct (.int 48271))) (bin modD (call1 (atom1 intD) (nm 3)) (ct (.int 2147483629)))) (ct (.int 7))) (ct (.int 2147483647))))
  nxS))
  (seqS (rtS (lstX [(call1 revV (call1 lstV (nm 1))), (ct (.int 0)), (nm 2)]))
  nxS)))))
def m_law_draw : Mir := mkM 2 [true, false] ((seqS (whS (andT (tst (bin (eqD false) (ixX (nm 0) (ct (.int 1))) (ct (.int 0)))) (tst (neX 0 0))) (seqS (asS 2 (ppX 0 0))
  (seqS (sbS 0 (ct (.int 1)) (ifX (tst (bin (ordD .Gt) (nm 2) (bin powD (ct (.int 10)) (ct (.int 9))))) (nm 2) (ct (.int 0))))
  nxS)) WH)
  (seqS (ifS (tst (bin (ordD .Gt) (ixX (nm 0) (ct (.int 1))) (ct (.int 0)))) (seqS (asS 3 (bin modD (call1 (atom1 intD) (ixX (nm 0) (ct (.int 1)))) (nm 1)))
  (seqS (sbS 0 (ct (.int 1)) (bin fdivD (ixX (nm 0) (ct (.int 1))) (nm 1)))
  (seqS (rtS (nm 3))
  nxS))) nxS)
  (seqS (sbS 0 (ct (.int 2)) (bin modD (addX (mulX (ixX (nm 0) (ct (.int 2))) (ct (.int 48271))) (ct (.int 11))) (ct (.int 2147483647))))
  (seqS (rtS (bin modD (bin fdivD (bin modD (mulX (ixX (nm 0) (ct (.int 2))) (ixX (nm 0) (ct (.int 2)))) (ct (.int 2147483629))) (ct (.int 7))) (nm 1)))
  nxS)))))
def m_law_pick : Mir := mkM 0 [true, false] ((seqS (rtS (ixX (nm 1) (callX m_law_draw [true, false] [(nm 0), (call1 (atom1 lenD) (nm 1))])))
  nxS))
def m_law_number : Mir := mkM 1 [true, false] ((seqS (ifS (tst (bin (eqD false) (nm 1) (ct (.int 4)))) (seqS (asS 1 (callX m_law_draw [true, false] [(nm 0), (ct (.int 4))]))
  nxS) nxS)
  (seqS (ifS (tst (bin (eqD false) (nm 1) (ct (.int 0)))) (seqS (rtS (bin subD (callX m_law_draw [true, false] [(nm 0), (ct (.int 7))]) (ct (.int 3))))
  nxS) nxS)
  (seqS (ifS (tst (bin (eqD false) (nm 1) (ct (.int 1)))) (seqS (rtS (bin subD (callX m_law_draw [true, false] [(nm 0), (ct (.int 101))]) (ct (.int 50))))
  nxS) nxS)
  (seqS (ifS (tst (bin (eqD false) (nm 1) (ct (.int 2)))) (seqS (asS 2 (call2 (atom2 min2D) (addX (mulX (callX m_law_draw [true, false] [(nm 0), (ct (.int 1000001))]) (bin powD (ct (.int 10)) (ct (.int 6)))) (callX m_law_draw [true, false] [(nm 0), (bin powD (ct (.int 10)) (ct (.int 6)))])) (bin powD (ct (.int 10)) (ct (.int 12)))))
  (seqS (rtS (ifX (tst (bin (eqD false) (callX m_law_draw [true, false] [(nm 0), (ct (.int 2))]) (ct (.int 0)))) (nm 2) (un1 negD (nm 2))))
  nxS)) nxS)
  (seqS (rtS (callX m_law_pick [true, false] [(nm 0), (lstX [(bin powD (ct (.int 10)) (ct (.int 12))), (un1 negD (bin powD (ct (.int 10)) (ct (.int 12)))), (bin subD (bin powD (ct (.int 10)) (ct (.int 12))) (ct (.int 1))), (ct (.int 0)), (ct (.int 1)), (un1 negD (ct (.int 1)))])]))
  nxS))))))
def m_law_numbers : Mir := mkM 1 [true, false, false] ((seqS (rtS (call1 tupV (lcX [3] (rng1I [(nm 1)]) (stN 3) ytt (callX m_law_number [true, false] [(nm 0), (nm 2)]))))
  nxS))
def m_law_same : Nat → Mir
  | 0 => fun _ => .bad
  | n + 1 => mkM 2 [false, false] ((seqS (ifS (tst (bin (isN false) (nm 1) (ct .none))) (seqS (rtS (bin (isN false) (nm 0) (ct .none)))
  nxS) nxS)
  (seqS (ifS (tst (call1 (atom1 fun d => some (.bool (isD .str d))) (nm 1))) (seqS (rtS (andX (call1 (atom1 fun d => some (.bool (isD .str d))) (nm 0)) (bin (eqD false) (nm 0) (nm 1))))
  nxS) nxS)
  (seqS (ifS (tst (call1 (atom1 fun d => some (.bool (isD .tuple d))) (nm 1))) (seqS (ifS (orT (notT (tst (call1 (atom1 fun d => some (.bool (isD .tuple d))) (nm 0)))) (tst (bin (eqD true) (call1 (atom1 lenD) (nm 0)) (call1 (atom1 lenD) (nm 1))))) (seqS (rtS (ct (.bool false)))
  nxS) nxS)
  (seqS (rtS (call1 (atom1 allD) (lcX [2, 3] (zipI [(nm 0), (nm 1)]) (stT [(stN 2), (stN 3)]) ytt (callX (m_law_same n) [false, false] [(nm 2), (nm 3)]))))
  nxS)) nxS)
  (seqS (rtS (andX (call1 (atom1 fun d => some (.bool (isD .int d))) (nm 0)) (andX (notX (call1 (atom1 fun d => some (.bool (isD .bool d))) (nm 0))) (bin (eqD false) (nm 0) (nm 1)))))
  nxS)))))
def m_law_may_be_handed : Mir := mkM 1 [false] ((seqS (rtS (call1 (atom1 allD) (lcX [1] (sqI (nm 0)) (stN 1) ytt (bin (ordD .LtE) (call1 (atom1 absD) (nm 1)) (bin powD (ct (.int 10)) (ct (.int 30)))))))
  nxS))
def m_law_row_makers : Mir := mkM 3 [false] ((seqS (asS 1 (lstX []))
  (seqS (forS (rng2I [(ct (.int 1)), (call1 (atom1 lenD) (nm 0))]) (stN 2) (seqS (exS (apX 1 (bin subD (ixX (nm 0) (nm 2)) (call1 (atom1 sumD) (lcX [3] (rng2I [(ct (.int 1)), (nm 2)]) (stN 3) ytt (mulX (ixX (nm 1) (bin subD (nm 3) (ct (.int 1)))) (ixX (nm 0) (bin subD (nm 2) (nm 3)))))))))
  nxS))
  (seqS (rtS (call1 tupV (nm 1)))
  nxS))))
def m_law_rows_of : Mir := mkM 3 [false] ((seqS (asS 1 (lstX [(ct (.int 1))]))
  (seqS (forS (rng2I [(ct (.int 1)), (addX (call1 (atom1 lenD) (nm 0)) (ct (.int 1)))]) (stN 2) (seqS (exS (apX 1 (call1 (atom1 sumD) (lcX [3] (rng2I [(ct (.int 1)), (addX (nm 2) (ct (.int 1)))]) (stN 3) ytt (mulX (ixX (nm 0) (bin subD (nm 3) (ct (.int 1)))) (ixX (nm 1) (bin subD (nm 2) (nm 3))))))))
  nxS))
  (seqS (rtS (call1 tupV (nm 1)))
  nxS))))
def m_law_by_divisors : Mir := mkM 2 [true, false] ((seqS (asS 2 (call1 (atom1 lenD) (nm 0)))
  (seqS (rtS (call1 (atom1 sumD) (lcX [3] (rng2I [(ct (.int 1)), (addX (call2 (atom2 min2D) (nm 1) (nm 2)) (ct (.int 1)))]) (stN 3) (tst (bin (eqD false) (bin modD (call1 (atom1 intD) (nm 1)) (nm 3)) (ct (.int 0)))) (mulX (nm 3) (ixX (nm 0) (bin subD (nm 3) (ct (.int 1))))))))
  nxS)))
def m_law_lots_of : Mir := mkM 6 [true] ((seqS (asS 1 (lcX [5] (rng2I [(ct (.int 1)), (addX (call1 (atom1 lenD) (nm 0)) (ct (.int 1)))]) (stN 5) ytt (callX m_law_by_divisors [true, false] [(nm 0), (nm 5)])))
  (seqS (asS 2 (lstX [(ct (.int 1))]))
  (seqS (forS (rng2I [(ct (.int 1)), (addX (call1 (atom1 lenD) (nm 0)) (ct (.int 1)))]) (stN 3) (seqS (asS 4 (call1 (atom1 sumD) (lcX [6] (rng2I [(ct (.int 1)), (addX (nm 3) (ct (.int 1)))]) (stN 6) ytt (mulX (ixX (nm 1) (bin subD (nm 6) (ct (.int 1)))) (ixX (nm 2) (bin subD (nm 3) (nm 6)))))))
  (seqS (exS (apX 2 (bin fdivD (nm 4) (nm 3))))
  nxS)))
  (seqS (rtS (call1 tupV (nm 2)))
  nxS)))))
def m_law_lot_makers : Mir := mkM 5 [false] ((seqS (parS [1, 2] [(lstX []), (lstX [])])
  (seqS (forS (rng2I [(ct (.int 1)), (call1 (atom1 lenD) (nm 0))]) (stN 3) (seqS (asS 4 (bin subD (mulX (nm 3) (ixX (nm 0) (nm 3))) (call1 (atom1 sumD) (lcX [5] (rng2I [(ct (.int 1)), (nm 3)]) (stN 5) ytt (mulX (ixX (nm 1) (bin subD (nm 5) (ct (.int 1)))) (ixX (nm 0) (bin subD (nm 3) (nm 5))))))))
  (seqS (exS (apX 2 (bin fdivD (bin subD (nm 4) (callX m_law_by_divisors [true, false] [(nm 2), (nm 3)])) (nm 3))))
  (seqS (exS (apX 1 (nm 4)))
  nxS))))
  (seqS (rtS (call1 tupV (nm 2)))
  nxS))))
def m_law_are_row_makers_right : Mir := mkM 4 [false] ((seqS (asS 1 (callX m_law_row_makers [false] [(nm 0)]))
  (seqS (parS [2, 3, 4] [(callX m_row_makers [false] [(nm 0)]), (callK m_row_makers [false] [0] [] [(nm 0)]), (callX m_row_makers [false] [(nm 0)])])
  (seqS (ifS (orT (notT (tst (callX (m_law_same 8) [false, false] [(nm 2), (nm 1)]))) (orT (notT (tst (callX (m_law_same 8) [false, false] [(nm 3), (nm 1)]))) (notT (tst (callX (m_law_same 8) [false, false] [(nm 4), (nm 1)]))))) (seqS (rtS (ct (.bool false)))
  nxS) nxS)
  (seqS (rtS (orX (notX (callX m_law_may_be_handed [false] [(nm 1)])) (callX (m_law_same 8) [false, false] [(callX m_rows_of_makers [false] [(nm 2)]), (nm 0)])))
  nxS)))))
def m_law_are_lot_makers_right : Mir := mkM 4 [false] ((seqS (asS 1 (callX m_law_lot_makers [false] [(nm 0)]))
  (seqS (parS [2, 3, 4] [(callX m_lot_makers [false] [(nm 0)]), (callK m_lot_makers [false] [0] [] [(nm 0)]), (callX m_lot_makers [false] [(nm 0)])])
  (seqS (ifS (orT (notT (tst (callX (m_law_same 8) [false, false] [(nm 2), (nm 1)]))) (orT (notT (tst (callX (m_law_same 8) [false, false] [(nm 3), (nm 1)]))) (notT (tst (callX (m_law_same 8) [false, false] [(nm 4), (nm 1)]))))) (seqS (rtS (ct (.bool false)))
  nxS) nxS)
  (seqS (rtS (orX (notX (callX m_law_may_be_handed [false] [(nm 1)])) (callX (m_law_same 8) [false, false] [(callX m_lots_of_makers [false] [(nm 2)]), (nm 0)])))
  nxS)))))
def m_law_are_rows_right : Mir := mkM 4 [false] ((seqS (asS 1 (callX m_law_rows_of [false] [(nm 0)]))
  (seqS (parS [2, 3, 4] [(callX m_rows_of_makers [false] [(nm 0)]), (callK m_rows_of_makers [false] [0] [] [(nm 0)]), (callX m_rows_of_makers [false] [(nm 0)])])
  (seqS (ifS (orT (notT (tst (callX (m_law_same 8) [false, false] [(nm 2), (nm 1)]))) (orT (notT (tst (callX (m_law_same 8) [false, false] [(nm 3), (nm 1)]))) (notT (tst (callX (m_law_same 8) [false, false] [(nm 4), (nm 1)]))))) (seqS (rtS (ct (.bool false)))
  nxS) nxS)
  (seqS (rtS (orX (notX (callX m_law_may_be_handed [false] [(nm 1)])) (callX (m_law_same 8) [false, false] [(callX m_row_makers [false] [(nm 2)]), (nm 0)])))
  nxS)))))
def m_law_are_lots_right : Mir := mkM 4 [true] ((seqS (asS 1 (callX m_law_lots_of [true] [(nm 0)]))
  (seqS (parS [2, 3, 4] [(callX m_lots_of_makers [false] [(nm 0)]), (callK m_lots_of_makers [false] [0] [] [(nm 0)]), (callX m_lots_of_makers [false] [(nm 0)])])
  (seqS (ifS (orT (notT (tst (callX (m_law_same 8) [false, false] [(nm 2), (nm 1)]))) (orT (notT (tst (callX (m_law_same 8) [false, false] [(nm 3), (nm 1)]))) (notT (tst (callX (m_law_same 8) [false, false] [(nm 4), (nm 1)]))))) (seqS (rtS (ct (.bool false)))
  nxS) nxS)
  (seqS (rtS (orX (notX (callX m_law_may_be_handed [false] [(nm 1)])) (callX (m_law_same 8) [false, false] [(callX m_lot_makers [false] [(nm 2)]), (nm 0)])))
  nxS)))))
def m_law_are_counts_right : Mir := mkM 0 [false] ((seqS (rtS (andX (callX m_law_are_row_makers_right [false] [(nm 0)]) (callX m_law_are_lot_makers_right [false] [(nm 0)])))
  nxS))
def m_law_are_makers_right : Mir := mkM 0 [true] ((seqS (rtS (andX (callX m_law_are_rows_right [false] [(nm 0)]) (callX m_law_are_lots_right [true] [(nm 0)])))
  nxS))
def m_law_made_rows : Mir := mkM 9 [false] ((seqS (parS [1, 2] [(lstX []), (lstX [(frX (lstX [(tupX [])]))])])
  (seqS (forS (enum1I [(nm 0)]) (stT [(stN 3), (stN 4)]) (seqS (exS (exX 1 (lcX [8] (rng1I [(nm 4)]) (stN 8) ytt (tupX [(addX (nm 3) (ct (.int 1))), (nm 8)]))))
  nxS))
  (seqS (forS (rng2I [(ct (.int 1)), (addX (call1 (atom1 lenD) (nm 0)) (ct (.int 1)))]) (stN 5) (seqS (asS 6 (lstX []))
  (seqS (forS (sqI (nm 1)) (stN 7) (seqS (ifS (tst (bin (ordD .LtE) (ixX (nm 7) (ct (.int 0))) (nm 5))) (seqS (exS (exX 6 (lcX [9] (sqI (ixX (nm 2) (bin subD (nm 5) (ixX (nm 7) (ct (.int 0)))))) (stN 9) ytt (addX (nm 9) (tupX [(nm 7)])))))
  nxS) nxS)
  nxS))
  (seqS (exS (apX 2 (nm 6)))
  nxS))))
  (seqS (rtS (nm 2))
  nxS)))))
def m_law_are_things_right : Mir := mkM 8 [true] ((seqS (asS 1 (call1 tupV (lcX [6] (rng1I [(addX (ct (.int 2)) (callX m_law_draw [true, false] [(nm 0), (ct (.int 5))]))]) (stN 6) ytt (callX m_law_draw [true, false] [(nm 0), (ct (.int 3))]))))
  (seqS (asS 2 (callX m_law_made_rows [false] [(nm 1)]))
  (seqS (asT 3 (lcT [7] (sqI (nm 2)) (stN 7) ytt (lcX [8] (sqI (nm 7)) (stN 8) (tst (bin (eqD false) (call1 srtV (nm 8)) (call1 lstV (nm 8)))) (nm 8))))
  (seqS (parS [4, 5] [(call1 tupV (lcX [7] (sqI (nm 2)) (stN 7) ytt (call1 (atom1 lenD) (nm 7)))), (call1 tupV (lcX [7] (sqI (nm 3)) (stN 7) ytt (call1 (atom1 lenD) (nm 7))))])
  (seqS (ifS (orT (notT (tst (callX (m_law_same 8) [false, false] [(callX m_rows_of_makers [false] [(nm 1)]), (nm 4)]))) (notT (tst (callX (m_law_same 8) [false, false] [(callX m_lots_of_makers [false] [(nm 1)]), (nm 5)])))) (seqS (rtS (ct (.bool false)))
  nxS) nxS)
  (seqS (rtS (andX (callX (m_law_same 8) [false, false] [(callX m_row_makers [false] [(nm 4)]), (nm 1)]) (callX (m_law_same 8) [false, false] [(callX m_lot_makers [false] [(nm 5)]), (nm 1)])))
  nxS)))))))
def m_law_are_letters_right : Mir := mkM 6 [true] ((seqS (parS [1, 2] [(callX m_law_pick [true, false] [(nm 0), (lstX [(ct (.int 0)), (ct (.int 1)), (ct (.int 2)), (ct (.int 3)), (ct (.int 10)), (callX m_law_draw [true, false] [(nm 0), (ct (.int 101))]), (bin powD (ct (.int 10)) (ct (.int 6)))])]), (addX (ct (.int 1)) (callX m_law_draw [true, false] [(nm 0), (ct (.int 12))]))])
  (seqS (parS [3, 4, 5] [(addX (tupX [(nm 1)]) (mulX (tupX [(ct (.int 0))]) (bin subD (nm 2) (ct (.int 1))))), (lstX [(ct (.int 1))]), (lstX [(ct (.int 1))])])
  (seqS (forS (rng2I [(ct (.int 1)), (addX (nm 2) (ct (.int 1)))]) (stN 6) (seqS (exS (apX 4 (mulX (ixX (nm 4) (bin subD (nm 6) (ct (.int 1)))) (nm 1))))
  (seqS (exS (apX 5 (bin fdivD (mulX (ixX (nm 5) (bin subD (nm 6) (ct (.int 1)))) (bin subD (addX (nm 1) (nm 6)) (ct (.int 1)))) (nm 6))))
  nxS)))
  (seqS (ifS (notT (tst (callX (m_law_same 8) [false, false] [(callX m_rows_of_makers [false] [(nm 3)]), (call1 tupV (nm 4))]))) (seqS (rtS (ct (.bool false)))
  nxS) nxS)
  (seqS (rtS (callX (m_law_same 8) [false, false] [(callX m_lots_of_makers [false] [(nm 3)]), (call1 tupV (nm 5))]))
  nxS))))))
def m_law_are_joined_right : Mir := mkM 11 [true] ((seqS (forS (sqI (lstX [(ct (.int 1)), (ct (.int 2))])) (stN 1) (seqS (parS [2, 3] [(addX (tupX [(ct (.int 1))]) (callX m_law_numbers [true, false, false] [(nm 0), (ct (.int 12)), (nm 1)])), (addX (tupX [(ct (.int 1))]) (callX m_law_numbers [true, false, false] [(nm 0), (bin subD (ct (.int 12)) (callX m_law_draw [true, false] [(nm 0), (ct (.int 4))])), (nm 1)]))])
  (seqS (asS 4 (call2 (atom2 min2D) (call1 (atom1 lenD) (nm 2)) (call1 (atom1 lenD) (nm 3))))
  (seqS (asS 5 (call1 tupV (lcX [8] (rng1I [(nm 4)]) (stN 8) ytt (call1 (atom1 sumD) (lcX [11] (rng1I [(addX (nm 8) (ct (.int 1)))]) (stN 11) ytt (mulX (ixX (nm 2) (nm 11)) (ixX (nm 3) (bin subD (nm 8) (nm 11)))))))))
  (seqS (asS 6 (call1 tupV (lcX [9, 10] (zipI [(callX m_law_lot_makers [false] [(nm 2)]), (callX m_law_lot_makers [false] [(nm 3)])]) (stT [(stN 9), (stN 10)]) ytt (addX (nm 9) (nm 10)))))
  (seqS (asS 7 (callX m_row_joined [false, false] [(nm 2), (nm 3)]))
  (seqS (ifS (orT (notT (tst (callX (m_law_same 8) [false, false] [(nm 7), (nm 5)]))) (notT (tst (callX (m_law_same 8) [false, false] [(callX m_lot_makers [false] [(nm 7)]), (nm 6)])))) (seqS (rtS (ct (.bool false)))
  nxS) nxS)
  (seqS (ifS (notT (tst (callX (m_law_same 8) [false, false] [(callX m_row_makers [false] [(nm 7)]), (callX m_law_row_makers [false] [(nm 5)])]))) (seqS (rtS (ct (.bool false)))
  nxS) nxS)
  nxS))))))))
  (seqS (rtS (ct (.bool true)))
  nxS)))
def m_law_are_told_right : Mir := mkM 11 [true] ((seqS (unS (stT [(stN 1), (stN 2)]) (callX m_law_pick [true, false] [(nm 0), (lstX [(tupX [(bin powD (ct (.int 10)) (ct (.int 10))), (ct (.int 3))]), (tupX [(un1 negD (bin powD (ct (.int 10)) (ct (.int 10)))), (ct (.int 3))]), (tupX [(ct (.int 1000)), (ct (.int 10))]), (tupX [(un1 negD (ct (.int 1000))), (ct (.int 10))]), (tupX [(bin powD (ct (.int 10)) (ct (.int 12))), (ct (.int 2))]), (tupX [(ct (.int 316)), (ct (.int 12))])])]))
  (seqS (parS [3, 4] [(addX (tupX [(nm 1)]) (mulX (tupX [(ct (.int 0))]) (bin subD (nm 2) (ct (.int 1))))), (lstX [(ct (.int 1))])])
  (seqS (forS (rng1I [(nm 2)]) (stN 5) (seqS (exS (apX 4 (mulX (ixX (nm 4) (nm 5)) (nm 1))))
  nxS))
  (seqS (asS 6 (callX m_rows_of_makers [false] [(nm 3)]))
  (seqS (ifS (orT (notT (tst (callX (m_law_same 8) [false, false] [(nm 6), (call1 tupV (nm 4))]))) (notT (tst (callX m_law_are_counts_right [false] [(nm 6)])))) (seqS (rtS (ct (.bool false)))
  nxS) nxS)
  (seqS (asS 7 (lstX [(nm 1)]))
  (seqS (forS (rng2I [(ct (.int 1)), (nm 2)]) (stN 5) (seqS (exS (apX 7 (mulX (ixX (nm 7) (bin subD (nm 5) (ct (.int 1)))) (un1 negD (nm 1)))))
  nxS))
  (seqS (asS 8 (callX m_row_makers [false] [(addX (tupX [(ct (.int 1))]) (nm 3))]))
  (seqS (ifS (orT (notT (tst (callX (m_law_same 8) [false, false] [(nm 8), (call1 tupV (nm 7))]))) (notT (tst (callX m_law_are_makers_right [true] [(nm 8)])))) (seqS (rtS (ct (.bool false)))
  nxS) nxS)
  (seqS (asS 9 (addX (tupX [(ct (.int 1))]) (callX m_law_numbers [true, false, false] [(nm 0), (ct (.int 2)), (ct (.int 2))])))
  (seqS (forS (rng1I [(ct (.int 2))]) (stN 10) (seqS (asS 11 (ifX (tst (bin (eqD false) (nm 10) (ct (.int 0)))) (callX m_law_row_makers [false] [(nm 9)]) (callX m_law_lot_makers [false] [(nm 9)])))
  (seqS (asS 8 (ifX (tst (bin (eqD false) (nm 10) (ct (.int 0)))) (callX m_row_makers [false] [(nm 9)]) (callX m_lot_makers [false] [(nm 9)])))
  (seqS (ifS (orT (notT (tst (callX (m_law_same 8) [false, false] [(nm 8), (nm 11)]))) (notT (tst (callX m_law_are_makers_right [true] [(nm 8)])))) (seqS (rtS (ct (.bool false)))
  nxS) nxS)
  nxS))))
  (seqS (rtS (ct (.bool true)))
  nxS)))))))))))))
def m_law_is_all_right : Mir := mkM 5 [true] ((seqS (asS 1 (callX m_law_pick [true, false] [(nm 0), (lstX [(ct (.int 0)), (ct (.int 1)), (callX m_law_draw [true, false] [(nm 0), (ct (.int 13))])])]))
  (seqS (asS 2 (lstX [(callX m_law_numbers [true, false, false] [(nm 0), (nm 1), (callX m_law_draw [true, false] [(nm 0), (ct (.int 5))])])]))
  (seqS (asS 2 (addX (nm 2) (lcX [5] (sqI (lstX [(ct (.int 0)), (ct (.int 1)), (callX m_law_pick [true, false] [(nm 0), (lstX [(ct (.int 2)), (ct (.int 3))])]), (ct (.int 4))])) (stN 5) ytt (callX m_law_numbers [true, false, false] [(nm 0), (ct (.int 12)), (nm 5)]))))
  (seqS (asS 2 (addX (nm 2) (lstX [(callX m_law_numbers [true, false, false] [(nm 0), (bin subD (ct (.int 12)) (callX m_law_draw [true, false] [(nm 0), (ct (.int 6))])), (callX m_law_draw [true, false] [(nm 0), (ct (.int 2))])]), (tupX [])])))
  (seqS (asS 3 (call1 (atom1 reprD) (nm 2)))
  (seqS (forS (sqI (nm 2)) (stN 4) (seqS (ifS (orT (notT (tst (callX m_law_are_counts_right [false] [(addX (tupX [(ct (.int 1))]) (nm 4))]))) (notT (tst (callX m_law_are_makers_right [true] [(nm 4)])))) (seqS (rtS (ct (.bool false)))
  nxS) nxS)
  nxS))
  (seqS (ifS (orT (notT (tst (callX m_law_are_things_right [true] [(nm 0)]))) (notT (tst (callX m_law_are_letters_right [true] [(nm 0)])))) (seqS (rtS (ct (.bool false)))
  nxS) nxS)
  (seqS (ifS (orT (notT (tst (callX m_law_are_joined_right [true] [(nm 0)]))) (notT (tst (callX m_law_are_told_right [true] [(nm 0)])))) (seqS (rtS (ct (.bool false)))
  nxS) nxS)
  (seqS (rtS (bin (eqD false) (call1 (atom1 reprD) (nm 2)) (nm 3)))
  nxS))))))))))
def m_law : Mir := mkM 1 [false] ((seqS (asS 1 (callX m_law_own_bag [false] [(nm 0)]))
  (seqS (tryS (seqS (rtS (callX m_law_is_all_right [true] [(nm 1)]))
  nxS))
  nxS)))
end Hd

set_option Elab.async false
set_option linter.all false
set_option maxRecDepth 100000
set_option maxHeartbeats 1000000
/-! Dn: draws and comparisons (k70). -/
namespace Hd
open PySem PySem.Spec L2 Vs
open PyProof.Rows hiding St
open Ser
theorem same_ok : ∀ (n : Nat) (d : D), plain n d → m_law_same n [.leaf d, .leaf d] = .ok (.leaf (.bool true)) []
  | 0, _, h => h.elim
  | n + 1, .none, _ => by
    simp [m_law_same, isN]
  | n + 1, .int i, _ => by
    simp [m_law_same, isN, isD]
  | n + 1, .str x, h => by
    have h : SeqAt.shaped (.str x) = true := h
    have he : eqD false (.str x) (.str x) = some (.bool true) := by
      unfold eqD
      simp [h, PyData.eqv]
    simp [m_law_same, isN, isD, he]
  | n + 1, .tuple ds, h => by
    obtain ⟨hl, hd⟩ := h
    have ih := fun d hd' => same_ok n d (hd d hd')
    have hz : zipI [(nm 0), (nm 1)] [some (.leaf (.tuple ds), true), some (.leaf (.tuple ds), true), none, none] = .ok (zipD ds ds) [some (.leaf (.tuple ds), true), some (.leaf (.tuple ds), true), none, none] := zip_ok (by simp)
    have hlc := lcL_pure [2, 3] (stT [(Vs.stN 2), (Vs.stN 3)]) ytt (callX (m_law_same n) [false, false] [(nm 2), (nm 3)]) [some (.leaf (.tuple ds), true), some (.leaf (.tuple ds), true), none, none] (fun _ => .bool true) (zipD ds ds) []
      (fun p hp => by
        simp only [zipD, List.mem_map] at hp
        obtain ⟨⟨x, y⟩, hxy, rfl⟩ := hp
        have hx : y = x ∧ x ∈ ds := by
          rw [List.mem_iff_getElem] at hxy
          obtain ⟨i, hi, he⟩ := hxy
          rw [List.getElem_zip] at he
          cases he
          exact ⟨rfl, List.getElem_mem _⟩
        obtain ⟨rfl, hx⟩ := hx
        obtain ⟨e2, he2⟩ : ∃ e2, e2 = [some (Tr.leaf (PyData.tuple ds), true), some (Tr.leaf (PyData.tuple ds), true), some (Tr.leaf y, false), some (Tr.leaf y, false)] := ⟨_, rfl⟩
        refine ⟨e2, e2, e2, by rw [he2]; simp, rfl, by rw [he2]; simp [ih y hx], by rw [he2]; simp⟩)
      (by simp [zipD]; exact Nat.le_trans hl (by decide))
    have hrep : (zipD ds ds).map (fun d => Tr.leaf (PyData.bool true)) = List.replicate ds.length (Tr.leaf (.bool true)) := by
      rw [List.map_const']
      simp [zipD]
    rw [hrep, List.nil_append] at hlc
    have hx := lcX_ok (vs := [2, 3]) hz hlc
    have hall : ∀ k, allD (.list (Tr.views (List.replicate k (Tr.leaf (.bool true))))) = some (.bool true) := fun k => by
      have e1 : Tr.views (List.replicate k (Tr.leaf (PyData.bool true))) = (List.replicate k true).map PyData.bool := by
        rw [views_map]
        simp
      rw [e1]
      show (bolsOf _).map _ = _
      rw [bols_nD]
      simp
    have hal := hall ds.length
    generalize List.replicate ds.length (Tr.leaf (PyData.bool true)) = rp at hx hal
    simp [m_law_same, isN, isD, hx, -v_lcX, hal]
theorem plain_row (l : List Int) (h : l.length ≤ 1000) (n : Nat) : plain (n + 2) (.tuple (nD l)) := by
  refine ⟨by simpa using h, fun d hd => ?_⟩
  obtain ⟨i, _, rfl⟩ := List.mem_map.mp hd
  trivial
theorem same_row (l : List Int) (h : l.length ≤ 1000) : m_law_same 8 [T l, T l] = .ok (.leaf (.bool true)) [] := same_ok 8 _ (plain_row l h 6)
theorem srow {L : Nat} {a : Sr} (h : L ≤ 13) : m_law_same 8 [T (row L a), T (row L a)] = .ok (.leaf (.bool true)) [] := same_row _ (by simp; omega)
theorem handed (l : List Int) (hl : l.length ≤ 1000) : m_law_may_be_handed [T l] = .ok (.leaf (.bool (few l))) [] := by
  have hlc := lcL_pure [1] (Vs.stN 1) ytt (bin (ordD .LtE) (call1 (atom1 absD) (nm 1)) (bin powD (ct (.int 10)) (ct (.int 30)))) [some (T l, true), none] (fun d => match d with
    | .int i => .bool (decide (i.natAbs ≤ 10 ^ 30))
    | _ => .none) (nD l) [] (fun d hd => by
      obtain ⟨i, _, rfl⟩ := List.mem_map.mp hd
      refine ⟨[some (T l, true), some (.leaf (.int i), false)], [some (T l, true), some (.leaf (.int i), false)], [some (T l, true), some (.leaf (.int i), false)], by simp, rfl, ?_, by simp⟩
      simp [pow_30, -Vs.v_pow]
      split <;> omega) (by simp; exact Nat.le_trans hl (by decide))
  have e1 : ([] ++ (nD l).map fun d => Tr.leaf (match d with
    | .int i => .bool (decide (i.natAbs ≤ 10 ^ 30))
    | _ => .none)) = (l.map fun i => decide (i.natAbs ≤ 10 ^ 30)).map fun b => Tr.leaf (.bool b) := by
    simp [nD]
  rw [e1] at hlc
  obtain ⟨bs, hbs⟩ : ∃ bs, bs = l.map fun i => decide (i.natAbs ≤ 10 ^ 30) := ⟨_, rfl⟩
  rw [← hbs] at hlc
  have e2 : allD (.list (Tr.views (bs.map fun b => Tr.leaf (.bool b)))) = some (.bool (few l)) := by
    have e3 : Tr.views (bs.map fun b => Tr.leaf (PyData.bool b)) = bs.map PyData.bool := by
      rw [views_map]
      simp
    rw [e3]
    show (bolsOf _).map _ = _
    rw [bols_nD, hbs]
    simp [few, List.all_map, Function.comp_def]
  have hx : lcX [1] (sqI (nm 0)) (Vs.stN 1) ytt (bin (ordD .LtE) (call1 (atom1 absD) (nm 1)) (bin powD (ct (.int 10)) (ct (.int 30)))) [some (T l, true), none] = .ok (.tmp (.lst (bs.map fun b => Tr.leaf (.bool b)))) [some (T l, true), none] :=
    lcX_ok (e1 := [some (T l, true), none]) (by simp) hlc
  simp [m_law_may_be_handed, hx, -v_lcX, e2]
theorem draw_ok {t : Tr} (hb : Bag t) {n : Int} (h1 : 1 ≤ n) (h2 : n ≤ 1000000000) : ∃ r t', Bag t' ∧ 0 ≤ r ∧ r < n ∧ m_law_draw [t, .leaf (.int n)] = .ok (.leaf (.int r)) [t'] := by
  obtain ⟨cs, cur, mix, rfl, hc, hl, h0, m0, m1⟩ := hb
  obtain ⟨cs', cur', x', k1, k2, k3, k4⟩ := loop_ok mix (.leaf (.int n)) none 100 cs cur none hl hc h0 WH (by decide)
  by_cases hcur : 0 < cur'
  · refine ⟨cur' % n, bagT cs' (cur' / n) mix, ⟨cs', cur' / n, mix, rfl, k1, by omega, Int.ediv_nonneg k3 (by omega), m0, m1⟩, Int.emod_nonneg _ (by omega), Int.emod_lt_of_pos _ (by omega), ?_⟩
    have hn : 0 < n := by omega
    simp [m_law_draw, k4, bag1, hcur, hn, fdiv_big hn h2, bagL, set1_ok, -v_isL]
  · have hz : cur' = 0 := by omega
    subst hz
    have hn : 0 < n := by omega
    have e1 : 0 ≤ (mix * 48271 + 11) % 2147483647 := Int.emod_nonneg _ (by decide)
    have e2 : (mix * 48271 + 11) % 2147483647 < 2147483647 := Int.emod_lt_of_pos _ (by decide)
    have hm1 : mulOk mix 48271 = true := mul_ok (p := 31) (q := 16) (by omega) (by decide) (by decide)
    generalize hM : (mix * 48271 + 11) % 2147483647 = M at *
    have hm2 : mulOk M M = true := mul_ok (p := 31) (q := 31) (by omega) (by omega) (by decide)
    refine ⟨M * M % 2147483629 / 7 % n, bagT cs' 0 M, ⟨cs', 0, M, rfl, k1, by omega, Int.le_refl _, e1, e2⟩, Int.emod_nonneg _ (by omega), Int.emod_lt_of_pos _ (by omega), ?_⟩
    simp [m_law_draw, k4, bag1, bag2, hn, fdiv_big (show (0 : Int) < 7 by decide) (by decide), bagL, set2_ok, -v_isL, v_muli hm1, v_muli hm2, hM]
theorem pick_ok {t : Tr} (hb : Bag t) {ds : List D} (h0 : ds ≠ []) (hl : ds.length ≤ 1000) : ∃ d t', d ∈ ds ∧ Bag t' ∧ m_law_pick [t, .leaf (.list ds)] = .ok (.leaf d) [t'] := by
  have hp : 0 < ds.length := List.length_pos_iff.mpr h0
  obtain ⟨r, t', k1, k2, k3, k4⟩ := draw_ok hb (n := (ds.length : Int)) (by omega) (by omega)
  obtain ⟨j, rfl⟩ : ∃ j : Nat, r = j := ⟨r.toNat, by omega⟩
  have hj : j < ds.length := by omega
  have ht : tat (.leaf (.list ds)) (j : Int) = some ds[j] := by
    show atI ds (j : Int) = _
    exact atI_nat (List.getElem?_eq_getElem hj)
  refine ⟨ds[j], t', List.getElem_mem hj, k1, ?_⟩
  simp [m_law_pick, k4, ht]
abbrev nb : Sm := seqS (ifS (tst (bin (eqD false) (nm 1) (ct (.int 0)))) (seqS (rtS (bin subD (callX m_law_draw [true, false] [(nm 0), (ct (.int 7))]) (ct (.int 3))))
  nxS) nxS)
  (seqS (ifS (tst (bin (eqD false) (nm 1) (ct (.int 1)))) (seqS (rtS (bin subD (callX m_law_draw [true, false] [(nm 0), (ct (.int 101))]) (ct (.int 50))))
  nxS) nxS)
  (seqS (ifS (tst (bin (eqD false) (nm 1) (ct (.int 2)))) (seqS (asS 2 (call2 (atom2 min2D) (addX (mulX (callX m_law_draw [true, false] [(nm 0), (ct (.int 1000001))]) (bin powD (ct (.int 10)) (ct (.int 6)))) (callX m_law_draw [true, false] [(nm 0), (bin powD (ct (.int 10)) (ct (.int 6)))])) (bin powD (ct (.int 10)) (ct (.int 12)))))
  (seqS (rtS (ifX (tst (bin (eqD false) (callX m_law_draw [true, false] [(nm 0), (ct (.int 2))]) (ct (.int 0)))) (nm 2) (un1 negD (nm 2))))
  nxS)) nxS)
  (seqS (rtS (callX m_law_pick [true, false] [(nm 0), (lstX [(bin powD (ct (.int 10)) (ct (.int 12))), (un1 negD (bin powD (ct (.int 10)) (ct (.int 12)))), (bin subD (bin powD (ct (.int 10)) (ct (.int 12))) (ct (.int 1))), (ct (.int 0)), (ct (.int 1)), (un1 negD (ct (.int 1)))])]))
  nxS)))
theorem nb_ok {t : Tr} (hb : Bag t) {w : Int} (h0 : 0 ≤ w) (h4 : w < 4) (b : Bool) : ∃ v t', v.natAbs ≤ lim w ∧ Bag t' ∧ ∃ x y, nb [some (t, true), some (.leaf (.int w), b), none] = .ok (.rt (.leaf (.int v))) [some (t', true), x, y] := by
  rcases (show w = 0 ∨ w = 1 ∨ w = 2 ∨ w = 3 by omega) with rfl | rfl | rfl | rfl
  · obtain ⟨r, t', k1, k2, k3, k4⟩ := draw_ok hb (n := 7) (by decide) (by decide)
    refine ⟨r - 3, t', by simp [lim]; omega, k1, some (.leaf (.int 0), b), none, ?_⟩
    simp [k4]
  · obtain ⟨r, t', k1, k2, k3, k4⟩ := draw_ok hb (n := 101) (by decide) (by decide)
    refine ⟨r - 50, t', by simp [lim]; omega, k1, some (.leaf (.int 1), b), none, ?_⟩
    simp [k4]
  · obtain ⟨r, t1, k1, k2, k3, k4⟩ := draw_ok hb (n := 1000001) (by decide) (by decide)
    obtain ⟨r2, t2, l1, l2, l3, l4⟩ := draw_ok k1 (n := 1000000) (by decide) (by decide)
    obtain ⟨r3, t3, m1, m2, m3, m4⟩ := draw_ok l1 (n := 2) (by decide) (by decide)
    have hm : mulOk r 1000000 = true := mul_ok (p := 20) (q := 20) (by omega) (by decide) (by decide)
    obtain ⟨z, hz⟩ : ∃ z, z = (if 1000000000000 < r * 1000000 + r2 then 1000000000000 else r * 1000000 + r2) := ⟨_, rfl⟩
    have hzb : z.natAbs ≤ 1000000000000 := by rw [hz]; split <;> omega
    by_cases h3 : r3 = 0
    · refine ⟨z, t3, by simp [lim]; exact hzb, m1, some (.leaf (.int 2), b), none, ?_⟩
      simp [k4, l4, m4, v_muli hm, pow_6, pow_12, -Vs.v_pow, h3, hz]
    · refine ⟨-z, t3, by simp [lim]; exact hzb, m1, some (.leaf (.int 2), b), some (.leaf (.int z), false), ?_⟩
      simp [k4, l4, m4, v_muli hm, pow_6, pow_12, -Vs.v_pow, h3, hz]
  · obtain ⟨d, t', k1, k2, k3⟩ := pick_ok hb (ds := [.int 1000000000000, .int (-1000000000000), .int 999999999999, .int 0, .int 1, .int (-1)]) (by simp) (by simp)
    obtain ⟨v, rfl, hv⟩ : ∃ v, d = .int v ∧ v.natAbs ≤ 1000000000000 := by
      simp at k1
      rcases k1 with rfl | rfl | rfl | rfl | rfl | rfl <;> exact ⟨_, rfl, by decide⟩
    refine ⟨v, t', by simp [lim]; exact hv, k2, some (.leaf (.int 3), b), none, ?_⟩
    simp [k3, pow_12, -Vs.v_pow]
theorem number_ok {t : Tr} (hb : Bag t) {w : Int} (h0 : 0 ≤ w) (h4 : w ≤ 4) : ∃ v t', v.natAbs ≤ 1000000000000 ∧ (w < 4 → v.natAbs ≤ lim w) ∧ Bag t' ∧ m_law_number [t, .leaf (.int w)] = .ok (.leaf (.int v)) [t'] := by
  by_cases h : w = 4
  · subst h
    obtain ⟨r, t1, k1, k2, k3, k4⟩ := draw_ok hb (n := 4) (by decide) (by decide)
    obtain ⟨v, t', l1, l2, x, y, l3⟩ := nb_ok k1 k2 k3 false
    refine ⟨v, t', ?_, fun h => absurd h (by decide), l2, ?_⟩
    · unfold lim at l1
      split at l1
      · omega
      · split at l1 <;> omega
    · unfold m_law_number
      rw [mk_ok (by simp), v_seq]
      have he : (ifS (tst (bin (eqD false) (nm 1) (ct (.int 4)))) (seqS (asS 1 (callX m_law_draw [true, false] [(nm 0), (ct (.int 4))])) nxS) nxS) (inE 1 [t, .leaf (.int 4)]) = .ok .nx [some (t1, true), some (.leaf (.int r), false), none] := by
        simp [k4]
      rw [he, bind_ok]
      have l3' := l3
      show endM [true, false] (nb _) = _
      rw [l3']
      simp
  · obtain ⟨v, t', l1, l2, x, y, l3⟩ := nb_ok hb h0 (by omega) true
    refine ⟨v, t', ?_, fun _ => l1, l2, ?_⟩
    · unfold lim at l1
      split at l1
      · omega
      · split at l1 <;> omega
    · unfold m_law_number
      rw [mk_ok (by simp), v_seq]
      have he : (ifS (tst (bin (eqD false) (nm 1) (ct (.int 4)))) (seqS (asS 1 (callX m_law_draw [true, false] [(nm 0), (ct (.int 4))])) nxS) nxS) (inE 1 [t, .leaf (.int w)]) = .ok .nx [some (t, true), some (.leaf (.int w), true), none] := by
        simp [h]
      rw [he, bind_ok]
      show endM [true, false] (nb _) = _
      rw [l3]
      simp
theorem numbers_ok {t : Tr} (hb : Bag t) {w : Int} (h0 : 0 ≤ w) (h4 : w ≤ 4) {m : Nat} (hm : m ≤ 1000) : ∃ l t', l.length = m ∧ (∀ v ∈ l, v.natAbs ≤ 1000000000000 ∧ (w < 4 → v.natAbs ≤ lim w)) ∧ Bag t' ∧ m_law_numbers [t, .leaf (.int (m : Int)), .leaf (.int w)] = .ok (T l) [t'] := by
  have hr := rng1_ok (n := m) (j := (m : Int)) (okR_of (by omega) (by omega)) (by omega) (fs := [(nm 1)]) (e0 := [some (t, true), some (.leaf (.int (m : Int)), true), some (.leaf (.int w), true), none])
    (e := [some (t, true), some (.leaf (.int (m : Int)), true), some (.leaf (.int w), true), none]) (by simp)
  obtain ⟨l, e', k1, k2, ⟨t', k3, rfl⟩, k4⟩ := lcL_turn (vs := [3]) (g := Vs.stN 3) (ft := ytt) (fe := callX m_law_number [true, false] [(nm 0), (nm 2)]) (P := fun e => ∃ t', Bag t' ∧ e = [some (t', true), some (.leaf (.int (m : Int)), true), some (.leaf (.int w), true), none])
    (Q := fun v => v.natAbs ≤ 1000000000000 ∧ (w < 4 → v.natAbs ≤ lim w)) (ds := rngD 0 m) (acc := []) (e := [some (t, true), some (.leaf (.int (m : Int)), true), some (.leaf (.int w), true), none]) ⟨t, hb, rfl⟩ (by
      rintro d hd e ⟨t1, hb1, rfl⟩
      obtain ⟨v, t2, l1, l2, l3, l4⟩ := number_ok hb1 h0 h4
      refine ⟨[some (t1, true), some (.leaf (.int (m : Int)), true), some (.leaf (.int w), true), some (.leaf d, false)], [some (t1, true), some (.leaf (.int (m : Int)), true), some (.leaf (.int w), true), some (.leaf d, false)],
        [some (t2, true), some (.leaf (.int (m : Int)), true), some (.leaf (.int w), true), some (.leaf d, false)], v, by simp, rfl, by simp [l4], ⟨l1, l2⟩, t2, l3, rfl⟩) (by simp [rngD]; exact Nat.le_trans hm (by decide))
  have hx := lcX_ok (vs := [3]) hr k4
  refine ⟨l, t', by simpa [rngD] using k1, k2, k3, ?_⟩
  rw [List.nil_append] at hx
  simp [m_law_numbers, hx, -v_lcX]
theorem own_bag {ns : List Int} (hl : ns.length ≤ 63) : ∃ t, Bag t ∧ m_law_own_bag [.leaf (.list (nD ns))] = .ok t [] := by
  have hct : cutD (nD ns) none (some 63) = nD ns := by
    rw [show (63 : Int) = ((63 : Nat) : Int) from rfl, cut_to]
    exact List.take_of_length_le (by simpa [nD] using hl)
  have habs : ∀ i, absD (.int i) = some (.int (absI i)) := fun i => rfl
  obtain ⟨ds, hds⟩ : ∃ ds, ds = nD ns := ⟨_, rfl⟩
  obtain ⟨bs, hbs⟩ : ∃ bs, bs = nD (ns.map absI) := ⟨_, rfl⟩
  have hbl : bs.length = ns.length := by rw [hbs]; simp [nD]
  have h2 : sqI (slX (nm 0) none (some (ct (.int 63)))) [some (.leaf (.list ds), true), none, none, none] = .ok ds [some (.leaf (.list ds), true), none, none, none] := by
    have hv : Tr.views (ds.map Tr.leaf) = ds := by
      rw [views_map, List.map_map]
      exact List.map_id' ds
    rw [← hds] at hct
    simp [hct, hv]
  have h1 := lcL_pure [3] (Vs.stN 3) ytt (call1 (atom1 absD) (nm 3)) [some (.leaf (.list ds), true), none, none, none] (fun d => match d with
    | .int i => .int (absI i)
    | _ => .none) ds [] (fun d hd => by
      rw [hds] at hd
      obtain ⟨i, hi, rfl⟩ := List.mem_map.mp hd
      exact ⟨[some (.leaf (.list ds), true), none, none, some (.leaf (.int i), false)], _, _, by simp, rfl, by simp [habs, -v_abs]; rfl, by simp⟩) (by
      have : ds.length = ns.length := by rw [hds]; simp [nD]
      rw [this]
      exact Nat.le_trans (by simpa using hl) (show 63 ≤ sizeLine by decide))
  have he : ([] ++ ds.map fun d => Tr.leaf (match d with
    | .int i => .int (absI i)
    | _ => .none)) = bs.map .leaf := by
    rw [hds, hbs, List.nil_append]
    simp [nD]
  rw [he] at h1
  have h3 := lcT_ok (vs := [3]) h2 h1
  obtain ⟨e', h4, x, mx, m0, m1, rfl⟩ := forL_0 (g := Vs.stN 3) (f := (seqS (asS 2 (Vs.bin modD (addX (addX (mulX (nm 2) (ct (.int 48271))) (Vs.bin modD (call1 (atom1 intD) (nm 3)) (ct (.int 2147483629)))) (ct (.int 7))) (ct (.int 2147483647)))) nxS)) (ds := bs)
    (e := [some (.leaf (.list ds), true), some (.leaf (.list bs), false), some (.leaf (.int (1234567 + (bs.length : Int))), false), none])
    (P := fun i e => ∃ x mx, 0 ≤ mx ∧ mx < 2147483647 ∧ e = [some (.leaf (.list ds), true), some (.leaf (.list bs), false), some (.leaf (.int mx), false), x]) ⟨none, _, by omega, by omega, rfl⟩ (by
    rintro i d e hd ⟨x, mx, m0, m1, rfl⟩
    have hm := List.mem_of_getElem? hd
    rw [hbs] at hm
    obtain ⟨j, hj, rfl⟩ := List.mem_map.mp hm
    have mm : mulOk mx 48271 = true := mul_ok (p := 31) (q := 16) (by omega) (by decide) (by decide)
    refine ⟨[some (.leaf (.list ds), true), some (.leaf (.list bs), false), some (.leaf (.int mx), false), some (.leaf (.int j), false)], _, by simp, by simp [v_muli mm]; rfl, _, (mx * 48271 + j % 2147483629 + 7) % 2147483647, by omega, by omega, rfl⟩)
  have hb2 : bs.reverse = nD ((ns.map absI).reverse) := by
    rw [hbs]
    simp [nD]
  have hv : Tr.views (bs.map Tr.leaf) = bs := by
    rw [views_map, List.map_map]
    exact List.map_id' bs
  refine ⟨bagT ((ns.map absI).reverse) 0 mx, ⟨_, _, _, rfl, fun c hc => ?_, by simp; omega, by decide, m0, m1⟩, ?_⟩
  · obtain ⟨i, _, rfl⟩ := List.mem_map.mp (List.mem_reverse.mp hc)
    exact absI_nn i
  · rw [← hds]
    unfold bagT
    rw [nT_eq, ← hb2]
    simp [m_law_own_bag, h3, h4, hv, -v_lcT]
theorem pick_int {t : Tr} (hb : Bag t) {l : List Int} (h0 : l ≠ []) (hl : l.length ≤ 1000) : ∃ i t', i ∈ l ∧ Bag t' ∧ m_law_pick [t, .leaf (.list (l.map .int))] = .ok (.leaf (.int i)) [t'] := by
  obtain ⟨d, t', h1, h2, h3⟩ := pick_ok hb (ds := l.map .int) (by simpa using h0) (by simpa using hl)
  obtain ⟨i, hi, rfl⟩ := List.mem_map.mp h1
  exact ⟨i, t', hi, h2, h3⟩
end Hd

set_option Elab.async false
set_option linter.all false
set_option maxRecDepth 100000
set_option maxHeartbeats 1000000
/-! Mk: makers (k70). -/
namespace Hd
open PySem PySem.Spec L2 Vs
open PyProof.Rows hiding St
open Ser
theorem lcL_f {ι : Type} (f : ι → D) (p : ι → Bool) (val : ι → D) (vs : List Nat) (g : Sd) (ft : Tt) (fe : Xp) (e : Nv) : ∀ (l : List ι) (acc : List Tr),
    (∀ i ∈ l, ∃ e1 e2, g (f i) e = some e1 ∧ ft e1 = .ok (p i) e2 ∧ (p i = true → ∃ e3, ow fe e2 = .ok (Tr.leaf (val i)) e3 ∧ wipeE vs e3 = e) ∧ (p i = false → wipeE vs e2 = e)) → acc.length + l.length ≤ sizeLine →
    lcL vs g ft fe (l.map f) acc e = .ok (acc ++ (l.filter p).map fun i => Tr.leaf (val i)) e
  | [], acc, _, _ => by simp [lcL]
  | i :: l, acc, h, hl => by
    obtain ⟨e1, e2, h1, h2, h3, h4⟩ := h i (List.mem_cons_self ..)
    rw [List.map_cons]
    unfold lcL
    simp only [List.length_cons] at hl
    rw [h1]
    simp only [h2, bind_ok]
    cases hp : p i with
    | true =>
      obtain ⟨e3, h5, h6⟩ := h3 hp
      have ih := lcL_f f p val vs g ft fe e l (acc ++ [Tr.leaf (val i)]) (fun d hd => h d (List.mem_cons_of_mem _ hd)) (by simp; omega)
      simp only [if_true, h5, bind_ok]
      rw [if_pos (by omega), h6, ih, List.filter_cons, if_pos hp]
      simp
    | false =>
      have ih := lcL_f f p val vs g ft fe e l acc (fun d hd => h d (List.mem_cons_of_mem _ hd)) (by omega)
      simp only [Bool.false_eq_true, if_false]
      rw [h4 hp, ih, List.filter_cons, if_neg (by simp [hp])]
theorem sum_filter {ι : Type} (p : ι → Bool) (v : ι → Int) : ∀ l : List ι, ((l.filter p).map v).sum = (l.map fun i => if p i = true then v i else 0).sum
  | [] => rfl
  | i :: l => by
    rw [List.filter_cons, List.map_cons, List.sum_cons, ← sum_filter p v l]
    split <;> simp
def sq (b : Bool) (xs : List D) : D := bif b then .tuple xs else .list xs
theorem titems_sq (b : Bool) (xs : List D) : titems (.leaf (sq b xs)) = some (b, xs) := by cases b <;> rfl
theorem lenD_sq (b : Bool) (xs : List D) : lenD (sq b xs) = some (.int xs.length) := by cases b <;> rfl
theorem tat_sq {b : Bool} {L : Nat} {a : Sr} {i : Int} (h0 : 0 ≤ i) (h : i < L) : tat (.leaf (sq b (nD (row L a)))) i = some (.int (a i.toNat)) := by
  cases b with
  | true => exact tat_row h0 h
  | false =>
    have := tat_row (a := a) h0 h
    exact this
theorem enum2_ok {fs : List Xp} {e0 e : Nv} {b : Bool} {ds : List D} (h : evs vl fs e0 = .ok [sq b ds, .int 1] e) : enum2I fs e0 = .ok (enumD 1 ds) e := by
  unfold enum2I
  rw [h, bind_ok]
  simp only [titems_sq]
  rw [if_pos (by decide)]
theorem enum_row (k : Nat) (m : Sr) : enumD 1 (nD (row k (sh m))) = (List.range k).map fun i => PyData.tuple [.int (1 + (i : Nat)), .int (m (i + 1))] := by
  unfold enumD
  apply List.ext_getElem?
  intro i
  rw [List.getElem?_mapIdx, List.getElem?_map]
  by_cases hi : i < k
  · rw [row_at hi]
    simp [hi, sh]
  · rw [List.getElem?_eq_none (by simp; omega), List.getElem?_eq_none (by simp; omega)]
    rfl
theorem lt_two {i : Nat} (h : i < 1000) : ((1 + (i : Int)) : Int).natAbs < 2 ^ 10 := by omega
theorem lcBX_ok {i : Nat} {f : List D → List D} {vs : List Nat} {g : Sd} {ft : Tt} {fe : Xp} {e e2 : Nv} {t : Tr} {b k : Bool} {ds : List D} {ts : List Tr} (he : e[i]? = some (some (t, b))) (hq : titems t = some (k, ds))
    (h : lcL vs g ft fe (f ds) [] (wipeE vs (e.set i none)) = .ok ts e2) (hn : e2[i]? = some none) : lcBX i f vs g ft fe e = .ok (.tmp (.lst ts)) (e2.set i (some (t, b))) := by
  unfold lcBX lcBT
  rw [he]
  simp only [hq, h, bind_ok, hn]
  rfl
theorem divisor_ok {k n : Nat} {m : Sr} {p : Nat} {t : Tr} {b : Bool} (ht : titems t = some (b, nD (row k (sh m)))) (hk : k ≤ 100) (hb : ∀ i, 1 ≤ i → i ≤ k → (m i).natAbs < 2 ^ p) (hp : p < 900000) :
    m_divisor_sum [t, .leaf (.int (n : Int))] = .ok (.leaf (.int (dsum m k n))) [t] := by
  have hl := lcL_f (fun i : Nat => PyData.tuple [.int (1 + (i : Nat)), .int (m (i + 1))]) (fun i => decide (n % (i + 1) = 0)) (fun i => .int ((1 + (i : Int)) * m (i + 1))) [2, 3] (stT [(Vs.stN 2), (Vs.stN 3)])
    (tst (Vs.bin (eqD false) (Vs.bin modD (nm 1) (nm 2)) (ct (.int 0)))) (mulX (nm 2) (nm 3)) [none, some (.leaf (.int (n : Int)), true), none, none] (List.range k) [] (fun i hi => by
    have hi := List.mem_range.mp hi
    have mm := mul_ok (lt_two (i := i) (by omega)) (hb (i + 1) (by omega) (by omega)) (by omega : 10 + p < 1000000)
    have hpos : (0 : Int) < 1 + (i : Int) := by omega
    have hmod : ((n : Int) % (1 + (i : Int)) = 0) ↔ n % (i + 1) = 0 := by
      rw [show (1 + (i : Int)) = ((i + 1 : Nat) : Int) by omega, ← Int.natCast_emod]
      omega
    obtain ⟨r, hr⟩ : ∃ r, (n : Int) % (1 + (i : Int)) = r := ⟨_, rfl⟩
    rw [hr] at hmod
    have hd : decide (r = 0) = decide (n % (i + 1) = 0) := by simp only [hmod]
    refine ⟨[none, some (.leaf (.int (n : Int)), true), some (.leaf (.int (1 + (i : Int))), false), some (.leaf (.int (m (i + 1))), false)], [none, some (.leaf (.int (n : Int)), true), some (.leaf (.int (1 + (i : Int))), false), some (.leaf (.int (m (i + 1))), false)], by simp, ?_, fun _ => ⟨_, by simp [v_muli mm]; rfl, by simp⟩, fun _ => by simp⟩
    rw [← hd]
    simp [hpos, hr]) (by simp; exact Nat.le_trans hk (by decide))
  rw [List.nil_append, ← enum_row] at hl
  have hx := lcBX_ok (i := 0) (f := enumD 1) (vs := [2, 3]) (e := [some (t, true), some (.leaf (.int (n : Int)), true), none, none]) (t := t) (b := true) rfl ht hl rfl
  have e1 : ((List.range k).filter fun i : Nat => decide (n % (i + 1) = 0)).map (fun i : Nat => Tr.leaf (PyData.int ((1 + (i : Int)) * m (i + 1)))) = nT (((List.range k).filter fun i : Nat => decide (n % (i + 1) = 0)).map fun i : Nat => (1 + (i : Int)) * m (i + 1)) := by
    simp [nT]
  rw [e1] at hx
  have hs := sum_ok hx (c := dsum m k n) (by
    rw [sum_filter]
    unfold dsum
    congr 1
    apply List.map_congr_left
    intro i _
    unfold dterm
    by_cases h : n % (i + 1) = 0
    · simp only [h, decide_true, if_true]
      congr 1
      omega
    · simp [h])
  simp only [List.set_cons_zero] at hs
  simp [m_divisor_sum, hs, -v_call1]
/-- rows of makers -/
theorem rows_ok {L : Nat} {M : Sr} {p q : Nat} (hL : L ≤ 12) (hM : ∀ i, 1 ≤ i → i ≤ L → (M i).natAbs < 2 ^ p) (hR : bd (L + 1) (rws M) q) (hpq : p + q < 1000000) :
    m_rows_of_makers [T (row L (sh M))] = .ok (T (row (L + 1) (rws M))) [] := by
  obtain ⟨e', h1, h2⟩ := forL_0 (g := Vs.stN 2)
    (f := (seqS (exS (apX 1 (call1 (atom1 sumD) (lcX [3] (rng2I [(ct (.int 1)), (addX (nm 2) (ct (.int 1)))]) (Vs.stN 3) ytt (mulX (ixX (nm 0) (Vs.bin subD (nm 3) (ct (.int 1)))) (ixX (nm 1) (Vs.bin subD (nm 2) (nm 3)))))))) nxS))
    (ds := rngD 1 L) (e := [some (T (row L (sh M)), true), some (.lst (nT (row 1 (rws M))), false), none, none])
    (P := fun i e => ∃ x y, e = [some (T (row L (sh M)), true), some (.lst (nT (row (i + 1) (rws M))), false), x, y]) ⟨none, none, rfl⟩ (by
      rintro k d e hd ⟨x, y, rfl⟩
      have hi : k < L := by simpa [rngD] using lt_of_at hd
      have hd' : d = .int (1 + (k : Nat)) := by
        simp only [rngD, List.getElem?_map, List.getElem?_range hi, Option.map_some, Option.some.injEq] at hd
        rw [← hd]
      subst hd'
      have hlc : lcL [3] (Vs.stN 3) ytt (mulX (ixX (nm 0) (Vs.bin subD (nm 3) (ct (.int 1)))) (ixX (nm 1) (Vs.bin subD (nm 2) (nm 3)))) (rngD 1 (k + 1)) [] [some (T (row L (sh M)), true), some (.lst (nT (row (k + 1) (rws M))), false), some (.leaf (.int (1 + (k : Nat))), false), none] =
          .ok (nT ((List.range (k + 1)).map fun j => sh M j * rws M (k - j))) [some (T (row L (sh M)), true), some (.lst (nT (row (k + 1) (rws M))), false), some (.leaf (.int (1 + (k : Nat))), false), none] := by
        refine lcL_rng _ _ _ _ _ 1 (k + 1) _ (fun j hj => ?_) (small13 (by omega))
        have t1 : tat (T (row L (sh M))) ((1 + (j : Int)) - 1) = some (.int (sh M j)) := by
          have := tat_row (L := L) (a := sh M) (i := (1 + (j : Int)) - 1) (by omega) (by omega)
          rw [show ((1 + (j : Int)) - 1).toNat = j by omega] at this
          exact this
        have t2 : tat (.lst (nT (row (k + 1) (rws M)))) ((1 + (k : Int)) - (1 + (j : Int))) = some (.int (rws M (k - j))) := by
          have := tat_lrow (L := k + 1) (a := rws M) (i := (1 + (k : Int)) - (1 + (j : Int))) (by omega) (by omega)
          rw [show ((1 + (k : Int)) - (1 + (j : Int))).toNat = k - j by omega] at this
          exact this
        have hm := mul_ok (x := sh M j) (hM (j + 1) (by omega) (by omega)) (hR (k - j) (by omega)) hpq
        obtain ⟨j1, hj1⟩ : ∃ j1, j1 = 1 + (j : Int) := ⟨_, rfl⟩
        rw [← hj1] at t1 t2
        obtain ⟨e2, he2⟩ : ∃ e2, e2 = [some (T (row L (sh M)), true), some (Tr.lst (nT (row (k + 1) (rws M))), false), some (Tr.leaf (PyData.int (1 + (k : Nat))), false), some (Tr.leaf (PyData.int j1), false)] := ⟨_, rfl⟩
        refine ⟨e2, e2, e2, by rw [he2]; simp [hj1], rfl, by rw [he2]; simp [t1, t2, v_muli hm], by rw [he2]; simp⟩
      refine ⟨[some (T (row L (sh M)), true), some (.lst (nT (row (k + 1) (rws M))), false), some (.leaf (.int (1 + (k : Nat))), false), y],
        [some (T (row L (sh M)), true), some (.lst (nT (row (k + 1 + 1) (rws M))), false), some (.leaf (.int (1 + (k : Nat))), false), none], by simp, ?_, some (.leaf (.int (1 + (k : Nat))), false), none, rfl⟩
      have hr : rng2I [(ct (.int 1)), (addX (nm 2) (ct (.int 1)))] [some (T (row L (sh M)), true), some (.lst (nT (row (k + 1) (rws M))), false), some (.leaf (.int (1 + (k : Nat))), false), y] =
          .ok (rngD 1 (k + 1)) [some (T (row L (sh M)), true), some (.lst (nT (row (k + 1) (rws M))), false), some (.leaf (.int (1 + (k : Nat))), false), y] :=
        rng2_ok (i := 1) (j := 1 + (k : Int) + 1) (okR_of (by omega) (by omega)) (okR_of (by omega) (by omega)) (by omega) (by simp)
      have hx := sum_ok (lcX_ok (vs := [3]) hr hlc) (sum_cv (sh M) (rws M) k)
      have hz : ltZ (k + 1) := ltZ_of (by omega)
      simp only [v_seq, v_exS, v_ap, v_isL, v_ow, hx, bind_ok]
      simp [hz, row_succ (k + 1), rws_succ])
  obtain ⟨x, y, rfl⟩ := h2
  have hr := rng2_ok (n := L) (i := 1) (j := ((L : Nat) : Int) + 1) (okR_of (by omega) (by omega)) (okR_of (by omega) (by omega)) (by omega) (fs := [(ct (.int 1)), (addX (call1 (atom1 lenD) (nm 0)) (ct (.int 1)))]) (e0 := [some (T (row L (sh M)), true), some (.lst [.leaf (.int 1)], false), none, none])
    (e := [some (T (row L (sh M)), true), some (.lst [.leaf (.int 1)], false), none, none]) (by simp)
  have h0 : nT (row 1 (rws M)) = [.leaf (.int 1)] := by simp [row, rws_zero]
  rw [h0] at h1
  simp [m_rows_of_makers, hr, h1]
  simp [rngD]
theorem sum_cut (f : Nat → Int) (k : Nat) : ((List.range (k + 1)).map f).sum = ((List.range k).map f).sum + f k := by
  simp [List.range_succ]
theorem own_sum {c : Sr} (hc : c 0 = 1) (k : Nat) : ((k + 1 : Nat) : Int) * c (k + 1) - ((List.range k).map fun j => sh (lg c) j * c (k - j)).sum = lg c (k + 1) := by
  have h1 := lg_rec hc (k + 1)
  rw [cv_succ, lg_zero, Int.zero_mul, Int.zero_add, ← sum_cv, sum_cut, Nat.sub_self, hc] at h1
  rw [h1]
  simp only [sh]
  omega
theorem len_lmL (s : Sr) (k : Nat) : lmL s k = row k (sh (lm s)) := by
  apply List.ext_getElem?
  intro i
  by_cases hi : i < k
  · rw [row_at hi]
    have := lmL_get s k (i + 1) (by omega) (by omega)
    rw [Nat.add_sub_cancel, List.getD_eq_getElem?_getD] at this
    have h2 : i < (lmL s k).length := by rw [lmL_len]; exact hi
    rw [List.getElem?_eq_getElem h2] at this ⊢
    simpa [sh] using this
  · rw [List.getElem?_eq_none (by rw [lmL_len]; omega), List.getElem?_eq_none (by simp; omega)]
theorem lotm_ok {L : Nat} {c : Sr} {p q r : Nat} (hL : L ≤ 12) (hc : c 0 = 1) (bc : bd (L + 1) c p) (bs : bd (L + 1) (lg c) q) (bm : bd (L + 1) (lm (lg c)) r) (hpq : p + q < 900000) (hr9 : r < 900000) :
    m_lot_makers [T (row (L + 1) c)] = .ok (T (row L (sh (lm (lg c))))) [] := by
  obtain ⟨s, hs⟩ : ∃ s, s = lg c := ⟨_, rfl⟩
  rw [← hs] at bs bm ⊢
  obtain ⟨e', h1, h2⟩ := forL_0 (g := Vs.stN 3)
    (f := (seqS (asS 4 (Vs.bin subD (mulX (nm 3) (ixX (nm 0) (nm 3))) (call1 (atom1 sumD) (lcX [5] (rng2I [(ct (.int 1)), (nm 3)]) (Vs.stN 5) ytt (mulX (ixX (nm 2) (Vs.bin subD (nm 5) (ct (.int 1)))) (ixX (nm 0) (Vs.bin subD (nm 3) (nm 5))))))))
  (seqS (exS (apX 2 (nm 4)))
  (seqS (exS (apX 1 (Vs.bin fdivD (Vs.bin subD (nm 4) (callX m_divisor_sum [true, false] [(nm 1), (nm 3)])) (nm 3))))
  nxS))))
    (ds := rngD 1 L) (e := [some (T (row (L + 1) c), true), some (.lst [], false), some (.lst [], false), none, none, none])
    (P := fun i e => ∃ x y z, e = [some (T (row (L + 1) c), true), some (.lst (nT (row i (sh (lm s)))), false), some (.lst (nT (row i (sh s))), false), x, y, z]) ⟨none, none, none, rfl⟩ (by
      rintro k d e hd ⟨x, y, z, rfl⟩
      have hi : k < L := by simpa [rngD] using lt_of_at hd
      have hd' : d = .int (1 + (k : Nat)) := by
        simp only [rngD, List.getElem?_map, List.getElem?_range hi, Option.map_some, Option.some.injEq] at hd
        rw [← hd]
      subst hd'
      obtain ⟨t0, ht0⟩ : ∃ t0, t0 = T (row (L + 1) c) := ⟨_, rfl⟩
      obtain ⟨F, hF⟩ : ∃ F, F = Tr.lst (nT (row k (sh (lm s)))) := ⟨_, rfl⟩
      obtain ⟨S, hS⟩ : ∃ S, S = Tr.lst (nT (row k (sh s))) := ⟨_, rfl⟩
      obtain ⟨k1, hk1⟩ : ∃ k1, k1 = 1 + (k : Int) := ⟨_, rfl⟩
      have hlc : lcL [5] (Vs.stN 5) ytt (mulX (ixX (nm 2) (Vs.bin subD (nm 5) (ct (.int 1)))) (ixX (nm 0) (Vs.bin subD (nm 3) (nm 5)))) (rngD 1 k) [] [some (t0, true), some (F, false), some (S, false), some (.leaf (.int k1), false), y, none] =
          .ok (nT ((List.range k).map fun j => sh s j * c (k - j))) [some (t0, true), some (F, false), some (S, false), some (.leaf (.int k1), false), y, none] := by
        refine lcL_rng _ _ _ _ _ 1 k _ (fun j hj => ?_) (small13 (by omega))
        have t1 : tat S ((1 + (j : Int)) - 1) = some (.int (sh s j)) := by
          rw [hS]
          have := tat_lrow (L := k) (a := sh s) (i := (1 + (j : Int)) - 1) (by omega) (by omega)
          rw [show ((1 + (j : Int)) - 1).toNat = j by omega] at this
          exact this
        have t2 : tat t0 (k1 - (1 + (j : Int))) = some (.int (c (k - j))) := by
          rw [ht0, hk1]
          have := tat_row (L := L + 1) (a := c) (i := (1 + (k : Int)) - (1 + (j : Int))) (by omega) (by omega)
          rw [show ((1 + (k : Int)) - (1 + (j : Int))).toNat = k - j by omega] at this
          exact this
        have hm := mul_ok (x := sh s j) (bs (j + 1) (by omega)) (bc (k - j) (by omega)) (by omega)
        obtain ⟨j1, hj1⟩ : ∃ j1, j1 = 1 + (j : Int) := ⟨_, rfl⟩
        rw [← hj1] at t1 t2
        obtain ⟨e2, he2⟩ : ∃ e2, e2 = [some (t0, true), some (F, false), some (S, false), some (Tr.leaf (PyData.int k1), false), y, some (Tr.leaf (PyData.int j1), false)] := ⟨_, rfl⟩
        refine ⟨e2, e2, e2, by rw [he2]; simp [hj1], rfl, by rw [he2]; simp [t1, t2, v_muli hm], by rw [he2]; simp⟩
      have hr : rng2I [(ct (.int 1)), (nm 3)] [some (t0, true), some (F, false), some (S, false), some (.leaf (.int k1), false), y, z] =
          .ok (rngD 1 k) [some (t0, true), some (F, false), some (S, false), some (.leaf (.int k1), false), y, z] :=
        rng2_ok (i := 1) (j := k1) (okR_of (by omega) (by omega)) (okR_of (by omega) (by omega)) (by omega) (by simp)
      have hx := sum_ok (lcX_ok (vs := [5]) hr hlc) rfl
      have tk : tat t0 k1 = some (.int (c (k + 1))) := by
        rw [ht0, hk1]
        have := tat_row (L := L + 1) (a := c) (i := 1 + (k : Int)) (by omega) (by omega)
        rw [show (1 + (k : Int)).toNat = k + 1 by omega] at this
        exact this
      have hmk := mul_ok (x := k1) (y := c (k + 1)) (p := 10) (q := p) (by omega) (bc (k + 1) (by omega)) (by omega)
      have ho := own_sum hc k
      rw [show ((k + 1 : Nat) : Int) = k1 by omega, ← hs] at ho
      have hz : ltZ k := ltZ_of (by omega)
      have fq : titems F = some (false, nD (row k (sh (lm s)))) := by
        rw [hF, nT_eq]
        exact titems_lst _
      have dv := divisor_ok (k := k) (n := k + 1) (m := lm s) (p := r) fq (by omega) (fun i h1 h2 => bm i (by omega)) hr9
      rw [show ((k + 1 : Nat) : Int) = k1 by omega] at dv
      have hdiv : fdivD (.int (s (k + 1) - dsum (lm s) k (k + 1))) (.int k1) = some (.int (sh (lm s) k)) := by
        rw [fdiv_ok (by omega) (by omega)]
        have := lm_succ s k
        rw [show ((k + 1 : Nat) : Int) = k1 by omega] at this
        exact congrArg (fun z => some (PyData.int z)) this.symm
      obtain ⟨sm, hsm⟩ : ∃ sm, sm = ((List.range k).map fun j => sh s j * c (k - j)).sum := ⟨_, rfl⟩
      rw [← hsm] at hx ho
      have e1 : asS 4 (Vs.bin subD (mulX (nm 3) (ixX (nm 0) (nm 3))) (call1 (atom1 sumD) (lcX [5] (rng2I [(ct (.int 1)), (nm 3)]) (Vs.stN 5) ytt (mulX (ixX (nm 2) (Vs.bin subD (nm 5) (ct (.int 1)))) (ixX (nm 0) (Vs.bin subD (nm 3) (nm 5)))))))
          [some (t0, true), some (F, false), some (S, false), some (.leaf (.int k1), false), y, z] = .ok .nx [some (t0, true), some (F, false), some (S, false), some (.leaf (.int k1), false), some (.leaf (.int (s (k + 1))), false), none] := by
        rw [← ho]
        simp [hx, -v_call1, tk, v_muli hmk]
      have e2 : exS (apX 2 (nm 4)) [some (t0, true), some (F, false), some (S, false), some (.leaf (.int k1), false), some (.leaf (.int (s (k + 1))), false), none] = .ok .nx [some (t0, true), some (F, false), some (.lst (nT (row (k + 1) (sh s))), false), some (.leaf (.int k1), false), some (.leaf (.int (s (k + 1))), false), none] := by
        rw [hS]
        simp [hz, row_succ k, sh]
      have e3 : exS (apX 1 (Vs.bin fdivD (Vs.bin subD (nm 4) (callX m_divisor_sum [true, false] [(nm 1), (nm 3)])) (nm 3))) [some (t0, true), some (F, false), some (.lst (nT (row (k + 1) (sh s))), false), some (.leaf (.int k1), false), some (.leaf (.int (s (k + 1))), false), none] =
          .ok .nx [some (t0, true), some (.lst (nT (row (k + 1) (sh (lm s)))), false), some (.lst (nT (row (k + 1) (sh s))), false), some (.leaf (.int k1), false), some (.leaf (.int (s (k + 1))), false), none] := by
        generalize Tr.lst (nT (row (k + 1) (sh s))) = S1
        rw [hF] at dv ⊢
        obtain ⟨R1, hR1⟩ : ∃ R1, R1 = nT (row k (sh (lm s))) := ⟨_, rfl⟩
        have hl1 : R1.length = k := by rw [hR1]; simp [nT]
        have hz1 : ltZ R1.length := by rw [hl1]; exact hz
        rw [row_succ k, show nT (row k (sh (lm s)) ++ [sh (lm s) k]) = R1 ++ [.leaf (.int (sh (lm s) k))] by rw [hR1]; simp [nT], ← hR1]
        rw [← hR1] at dv
        simp [dv, hdiv, hz1, -v_fdiv]
      refine ⟨[some (t0, true), some (F, false), some (S, false), some (.leaf (.int k1), false), y, z],
        [some (t0, true), some (.lst (nT (row (k + 1) (sh (lm s)))), false), some (.lst (nT (row (k + 1) (sh s))), false), some (.leaf (.int k1), false), some (.leaf (.int (s (k + 1))), false), none], by simp [ht0, hF, hS, hk1], ?_, _, _, _, by rw [ht0]⟩
      simp only [v_seq, e1, e2, e3, bind_ok, v_nx])
  obtain ⟨x, y, z, rfl⟩ := h2
  have hr := rng2_ok (n := L) (i := 1) (j := ((L + 1 : Nat) : Int)) (okR_of (by omega) (by omega)) (okR_of (by omega) (by omega)) (by omega) (fs := [(ct (.int 1)), (call1 (atom1 lenD) (nm 0))]) (e0 := [some (T (row (L + 1) c), true), some (.lst [], false), some (.lst [], false), none, none, none])
    (e := [some (T (row (L + 1) c), true), some (.lst [], false), some (.lst [], false), none, none, none]) (by simp)
  simp [m_lot_makers, hr, h1]
  simp [rngD]
@[simp] theorem v_orX (fa fb : Xp) (e : Nv) : orX fa fb e = (fa e).bind fun r e1 => match rview r e1 with
  | some (.bool b) => if b = true then .ok (.tmp (.leaf (.bool true))) e1 else fb e1
  | _ => .bad := id rfl
theorem dsum_le {m : Sr} {n B : Nat} : ∀ {k : Nat}, k ≤ 13 → (∀ i, 1 ≤ i → i ≤ k → (m i).natAbs ≤ B) → (dsum m k n).natAbs ≤ k * (13 * B)
  | 0, _, _ => by
    rw [dsum_zero]
    simp
  | k + 1, hk, h => by
    have ih := dsum_le (n := n) (k := k) (by omega) fun i h1 h2 => h i h1 (by omega)
    rw [dsum_succ]
    have ht : (dterm m n k).natAbs ≤ 13 * B := by
      unfold dterm
      split
      · rw [Int.natAbs_mul]
        have := h (k + 1) (by omega) (Nat.le_refl _)
        exact Nat.mul_le_mul (by omega) this
      · simp
    have := Int.natAbs_add_le (dsum m k n) (dterm m n k)
    rw [Nat.add_mul]
    omega
theorem lm_lt {L : Nat} {s : Sr} {q : Nat} (hL : L ≤ 13) (h : bd L s q) : ∀ n, n < L → (lm s n).natAbs < 2 ^ (q + 8 * n) := by
  intro n
  induction n using Nat.strongRecOn with
  | _ n ih =>
    intro hn
    cases n with
    | zero =>
      have : lm s 0 = 0 := rfl
      rw [this]
      exact Nat.two_pow_pos _
    | succ n =>
      rw [lm_succ]
      have h1 := h (n + 1) hn
      have h2 := dsum_le (m := lm s) (n := n + 1) (B := 2 ^ (q + 8 * n)) (k := n) (by omega) fun i i1 i2 => by
        have := ih i (by omega) (by omega)
        exact Nat.le_of_lt (Nat.lt_of_lt_of_le this (Nat.pow_le_pow_right (by decide) (by omega)))
      have h3 := Int.natAbs_ediv_le_natAbs (s (n + 1) - dsum (lm s) n (n + 1)) ((n + 1 : Nat) : Int)
      have h4 := Int.natAbs_sub_le (s (n + 1)) (dsum (lm s) n (n + 1))
      have h5 : n * (13 * 2 ^ (q + 8 * n)) ≤ 13 * (13 * 2 ^ (q + 8 * n)) := Nat.mul_le_mul_right _ (by omega)
      have h6 : 2 ^ q ≤ 2 ^ (q + 8 * n) := Nat.pow_le_pow_right (by decide) (by omega)
      have h7 : 2 ^ (q + 8 * (n + 1)) = 256 * 2 ^ (q + 8 * n) := by
        rw [show q + 8 * (n + 1) = 8 + (q + 8 * n) by omega, Nat.pow_add]
      generalize 2 ^ (q + 8 * n) = X at *
      generalize 2 ^ (q + 8 * (n + 1)) = Y at *
      generalize 2 ^ q = Z at *
      omega
theorem bd_lm {L : Nat} {s : Sr} {q : Nat} (hL : L ≤ 13) (h : bd L s q) : bd L (lm s) (q + 104) := fun i hi =>
  Nat.lt_of_lt_of_le (lm_lt hL h i hi) (Nat.pow_le_pow_right (by decide) (by omega))
theorem bd_th {L : Nat} {a : Sr} {p : Nat} (hL : L ≤ 13) (h : bd L a p) : bd L (th a) (p + 4) := fun i hi => by
  show ((i : Int) * a i).natAbs < _
  rw [Int.natAbs_mul, Nat.pow_add, Nat.mul_comm]
  exact Nat.mul_lt_mul'' (h i hi) (by omega)
/-- makers -/
structure Mak (M : Sr) : Prop where
  z : M 0 = 0
  b : ∀ i, (M i).natAbs < 2 ^ 100
theorem Mak.one {M : Sr} (h : Mak M) : bd 13 (one_ M) 101 := fun i _ => by
  have := h.b i
  have e : one_ M i = u1 i + -1 * M i := rfl
  rw [e, Nat.pow_succ]
  have : (u1 i).natAbs ≤ 1 := by
    unfold u1
    split <;> decide
  omega
theorem Mak.rows {M : Sr} (h : Mak M) : bd 13 (rws M) 1261 := bd_iv (by decide) h.one
theorem Mak.rows_of {M : Sr} (h : Mak M) {L : Nat} (hL : L ≤ 12) : m_rows_of_makers [T (row L (sh M))] = .ok (T (row (L + 1) (rws M))) [] :=
  rows_ok hL (fun i _ _ => h.b i) (bd_less h.rows (by omega)) (by decide)
theorem take_row {L j : Nat} {a : Sr} (h : j ≤ L) : (nD (row L a)).take j = nD (row j a) := by
  unfold nD row
  rw [← List.map_take, ← List.map_take, List.take_range, Nat.min_eq_left h]
/-- the makers of rows -/
def rmk (c : Sr) : Sr := ad u1 (sm (-1) (iv c))
theorem rmk_zero {c : Sr} : rmk c 0 = 0 := by simp [rmk, Ser.ad, sm, u1, iv_zero]
theorem one_rmk (c : Sr) : one_ (rmk c) = iv c := funext fun n => by
  simp only [one_, rmk, Ser.ad, sm]
  omega
theorem rws_rmk {c : Sr} (h : c 0 = 1) : rws (rmk c) = c := by
  unfold rws
  rw [one_rmk, iv_iv h]
theorem rmk_rec {c : Sr} (h : c 0 = 1) (k : Nat) : c (k + 1) - ((List.range k).map fun j => sh (rmk c) j * c (k - j)).sum = rmk c (k + 1) := by
  have h1 := rws_succ (rmk c) k
  rw [rws_rmk h, ← sum_cv, sum_cut, Nat.sub_self, h] at h1
  rw [h1]
  simp only [sh]
  omega
theorem rowm_ok {L : Nat} {c : Sr} {p q : Nat} (hL : L ≤ 12) (h0 : c 0 = 1) (bc : bd (L + 1) c p) (bm : bd (L + 1) (rmk c) q) (hpq : p + q < 900000) :
    m_row_makers [T (row (L + 1) c)] = .ok (T (row L (sh (rmk c)))) [] := by
  obtain ⟨t0, ht0⟩ : ∃ t0, t0 = T (row (L + 1) c) := ⟨_, rfl⟩
  obtain ⟨e', h1, h2⟩ := forL_0 (g := Vs.stN 2)
    (f := (seqS (exS (apX 1 (Vs.bin subD (ixX (nm 0) (nm 2)) (call1 (atom1 sumD) (lcX [3] (rng2I [(ct (.int 1)), (nm 2)]) (Vs.stN 3) ytt (mulX (ixX (nm 1) (Vs.bin subD (nm 3) (ct (.int 1)))) (ixX (nm 0) (Vs.bin subD (nm 2) (nm 3))))))))) nxS))
    (ds := rngD 1 L) (e := [some (t0, true), some (.lst [], false), none, none])
    (P := fun i e => ∃ x y, e = [some (t0, true), some (.lst (nT (row i (sh (rmk c)))), false), x, y]) ⟨none, none, rfl⟩ (by
      rintro k d e hd ⟨x, y, rfl⟩
      have hi : k < L := by simpa [rngD] using lt_of_at hd
      have hd' : d = .int (1 + (k : Nat)) := by
        simp only [rngD, List.getElem?_map, List.getElem?_range hi, Option.map_some, Option.some.injEq] at hd
        rw [← hd]
      subst hd'
      obtain ⟨F, hF⟩ : ∃ F, F = nT (row k (sh (rmk c))) := ⟨_, rfl⟩
      have hFl : F.length = k := by rw [hF]; simp [nT]
      obtain ⟨k1, hk1⟩ : ∃ k1, k1 = 1 + (k : Int) := ⟨_, rfl⟩
      have hlc : lcL [3] (Vs.stN 3) ytt (mulX (ixX (nm 1) (Vs.bin subD (nm 3) (ct (.int 1)))) (ixX (nm 0) (Vs.bin subD (nm 2) (nm 3)))) (rngD 1 k) [] [some (t0, true), some (.lst F, false), some (.leaf (.int k1), false), none] =
          .ok (nT ((List.range k).map fun j => sh (rmk c) j * c (k - j))) [some (t0, true), some (.lst F, false), some (.leaf (.int k1), false), none] := by
        refine lcL_rng _ _ _ _ _ 1 k _ (fun j hj => ?_) (small13 (by omega))
        have t1 : tat (.lst F) ((1 + (j : Int)) - 1) = some (.int (sh (rmk c) j)) := by
          rw [hF]
          have := tat_lrow (L := k) (a := sh (rmk c)) (i := (1 + (j : Int)) - 1) (by omega) (by omega)
          rw [show ((1 + (j : Int)) - 1).toNat = j by omega] at this
          exact this
        have t2 : tat t0 (k1 - (1 + (j : Int))) = some (.int (c (k - j))) := by
          rw [ht0, hk1]
          have := tat_row (L := L + 1) (a := c) (i := (1 + (k : Int)) - (1 + (j : Int))) (by omega) (by omega)
          rw [show ((1 + (k : Int)) - (1 + (j : Int))).toNat = k - j by omega] at this
          exact this
        have hm := mul_ok (x := sh (rmk c) j) (bm (j + 1) (by omega)) (bc (k - j) (by omega)) (by omega)
        obtain ⟨j1, hj1⟩ : ∃ j1, j1 = 1 + (j : Int) := ⟨_, rfl⟩
        rw [← hj1] at t1 t2
        obtain ⟨e2, he2⟩ : ∃ e2, e2 = [some (t0, true), some (Tr.lst F, false), some (Tr.leaf (PyData.int k1), false), some (Tr.leaf (PyData.int j1), false)] := ⟨_, rfl⟩
        refine ⟨e2, e2, e2, by rw [he2]; simp [hj1], rfl, by rw [he2]; simp [t1, t2, v_muli hm], by rw [he2]; simp⟩
      have hr : rng2I [(ct (.int 1)), (nm 2)] [some (t0, true), some (.lst F, false), some (.leaf (.int k1), false), y] = .ok (rngD 1 k) [some (t0, true), some (.lst F, false), some (.leaf (.int k1), false), y] :=
        rng2_ok (i := 1) (j := k1) (okR_of (by omega) (by omega)) (okR_of (by omega) (by omega)) (by omega) (by simp)
      have hx := sum_ok (lcX_ok (vs := [3]) hr hlc) rfl
      have tk : tat t0 k1 = some (.int (c (k + 1))) := by
        rw [ht0, hk1]
        have := tat_row (L := L + 1) (a := c) (i := 1 + (k : Int)) (by omega) (by omega)
        rw [show (1 + (k : Int)).toNat = k + 1 by omega] at this
        exact this
      have hz : ltZ F.length := ltZ_of (by omega)
      have ho := rmk_rec h0 k
      have hF2 : nT (row (k + 1) (sh (rmk c))) = F ++ [.leaf (.int (rmk c (k + 1)))] := by
        rw [row_succ, hF]
        simp [nT, sh]
      refine ⟨[some (t0, true), some (.lst F, false), some (.leaf (.int k1), false), y],
        [some (t0, true), some (.lst (F ++ [.leaf (.int (rmk c (k + 1)))]), false), some (.leaf (.int k1), false), none], by rw [hF, hk1]; simp, ?_, _, _, by rw [hF2]⟩
      rw [← ho]
      generalize ((List.range k).map fun j => sh (rmk c) j * c (k - j)).sum = sm at *
      simp [tk, hx, -v_call1, hz])
  obtain ⟨x, y, rfl⟩ := h2
  have hr := rng2_ok (n := L) (i := 1) (j := ((L + 1 : Nat) : Int)) (okR_of (by omega) (by omega)) (okR_of (by omega) (by omega)) (by omega) (fs := [(ct (.int 1)), (call1 (atom1 lenD) (nm 0))]) (e0 := [some (t0, true), some (.lst [], false), none, none])
    (e := [some (t0, true), some (.lst [], false), none, none]) (by rw [ht0]; simp)
  rw [← ht0]
  simp [m_row_makers, hr, h1]
  simp [rngD]
/-- so many of them -/
def cutM (L : Nat) (a : Sr) : Sr := fun i => if 1 ≤ i ∧ i ≤ L then a i else 0
theorem row_cutM (L : Nat) (a : Sr) : row L (sh (cutM L a)) = row L (sh a) := row_congr fun i hi => by
  show cutM L a (i + 1) = a (i + 1)
  unfold cutM
  rw [if_pos (by omega)]
theorem mak_cut {L : Nat} {a : Sr} (h : ∀ i, 1 ≤ i → i ≤ L → (a i).natAbs < 2 ^ 100) : Mak (cutM L a) := ⟨rfl, fun i => by
  unfold cutM
  split
  · rename_i q
    exact h i q.1 q.2
  · decide⟩
def Ms (l : List Int) : Sr := fun i => (0 :: l).getD i 0
theorem row_ms (l : List Int) : row l.length (sh (Ms l)) = l := by
  apply List.ext_getElem?
  intro i
  by_cases hi : i < l.length
  · rw [row_at hi, List.getElem?_eq_getElem hi]
    simp [sh, Ms, List.getD_eq_getElem?_getD, List.getElem?_eq_getElem hi]
  · rw [List.getElem?_eq_none (by simp; omega), List.getElem?_eq_none (by omega)]
theorem mak_ms {l : List Int} (h : ∀ v ∈ l, v.natAbs < 2 ^ 100) : Mak (Ms l) := ⟨rfl, fun i => by
  unfold Ms
  rw [List.getD_eq_getElem?_getD]
  cases q : (0 :: l)[i]? with
  | none => decide
  | some v =>
    have hm := List.mem_of_getElem? q
    rcases List.mem_cons.mp hm with rfl | hm
    · decide
    · exact h v hm⟩
/-- one and a base -/
def lin1 (b : Int) : Sr := fun i => if i = 0 then 1 else if i = 1 then b else 0
theorem iv_lin1 (b : Int) : ∀ n, iv (lin1 b) n = (-b) ^ n
  | 0 => by rw [Int.pow_zero]; rfl
  | n + 1 => by
    have e : sh (lin1 b) = sm b u1 := funext fun i => by
      simp only [sh, lin1, sm, u1]
      cases i with
      | zero => simp
      | succ i => simp
    rw [iv_succ, e, cv_sm_l, cv_u1, iv_lin1 b n, Int.pow_succ, Int.mul_comm, ← Int.mul_neg]
def qB (b : Int) (i : Nat) : Int := b * (-b) ^ i
theorem rmk_lin1 (b : Int) (i : Nat) : sh (rmk (lin1 b)) i = qB b i := by
  show u1 (i + 1) + -1 * iv (lin1 b) (i + 1) = _
  rw [iv_lin1, Int.pow_succ]
  have : u1 (i + 1) = 0 := rfl
  rw [this]
  unfold qB
  rw [Int.mul_comm b, Int.mul_neg]
  omega
theorem row_lin1 (b : Int) (k : Nat) : row (k + 2) (lin1 b) = [1, b] ++ List.replicate k 0 := by
  apply List.ext_getElem?
  intro i
  by_cases hi : i < k + 2
  · rw [row_at hi]
    match i, hi with
    | 0, _ => rfl
    | 1, _ => rfl
    | i + 2, hi =>
      show some (0 : Int) = (List.replicate k 0)[i]?
      rw [List.getElem?_replicate, if_pos (by omega)]
  · rw [List.getElem?_eq_none (by simp; omega), List.getElem?_eq_none (by simp; omega)]
def fI (n : Nat) : D := .int n
def fP (n : Nat) : D := .tuple [.int ((n / 3 : Nat) : Int), .int ((n % 3 : Nat) : Int)]
@[simp] theorem v_ex (i : Nat) (f : Xp) (e : Nv) : exX i f e = if isL e i = true then (f e).bind (exV i) else .bad := id rfl
@[simp] theorem v_exV (i : Nat) (us : List Tr) (e1 : Nv) : exV i (.tmp (.lst us)) e1 = match e1[i]? with
    | some (some (.lst ts, b)) => if leZ (ts.length + us.length) then .ok (.tmp (.leaf .none)) (e1.set i (some (.lst (ts ++ us), b))) else .bad
    | _ => .bad := id rfl
@[simp] theorem v_fr (f : Xp) (e : Nv) : frX f e = (f e).bind frV := id rfl
@[simp] theorem v_frV (r : Rv) (e : Nv) : frV r e = (own r e).bind fun t e2 => .ok (.tmp (.leaf t.view)) e2 := id rfl
def piecesFrom (k : Nat) : List Nat → List Nat
  | [] => []
  | m :: ms => (List.range m).map (fun n => (k + 1) * 3 + n) ++ piecesFrom (k + 1) ms
theorem fP_at {k n : Nat} (h : n < 3) : fP ((k + 1) * 3 + n) = .tuple [.int ((k : Int) + 1), .int (n : Int)] := by
  unfold fP
  have h1 : ((k + 1) * 3 + n) / 3 = k + 1 := by omega
  have h2 : ((k + 1) * 3 + n) % 3 = n := by omega
  rw [h1, h2]
  rfl
theorem pieces_ge : ∀ (ms : List Nat) (k : Nat), (∀ m ∈ ms, m ≤ 2) → ∀ p ∈ piecesFrom k ms, 1 ≤ p / 3
  | [], _, _, p, hp => by cases hp
  | m :: ms, k, h, p, hp => by
    rcases List.mem_append.mp hp with hp | hp
    · obtain ⟨n, hn, rfl⟩ := List.mem_map.mp hp
      have := List.mem_range.mp hn
      have := h m List.mem_cons_self
      omega
    · exact pieces_ge ms (k + 1) (fun m hm => h m (List.mem_cons_of_mem _ hm)) p hp
abbrev fPc : Sm := seqS (exS (exX 1 (lcX [8] (rng1I [(nm 4)]) (Vs.stN 8) ytt (tupX [(addX (nm 3) (ct (.int 1))), (nm 8)])))) nxS
theorem piece_list {m k : Nat} (hm : m ≤ 2) (a b c d e f g : Option (Tr × Bool)) (E : Nv) (hE : E = [a, b, c, some (.leaf (.int (k : Int)), false), some (.leaf (.int (m : Int)), false), d, e, f, none, g]) :
    lcX [8] (rng1I [(nm 4)]) (Vs.stN 8) ytt (tupX [(addX (nm 3) (ct (.int 1))), (nm 8)]) E = .ok (.tmp (.lst (((List.range m).map (fun n => (k + 1) * 3 + n)).map fun p => .leaf (fP p)))) E := by
  have hlc := lcL_f (fun j : Nat => PyData.int (0 + (j : Nat))) (fun _ => true) (fun j => fP ((k + 1) * 3 + j)) [8] (Vs.stN 8) ytt (tupX [(addX (nm 3) (ct (.int 1))), (nm 8)]) E (List.range m) [] (fun j hj => by
    have hj := List.mem_range.mp hj
    rw [fP_at (by omega)]
    obtain ⟨e2, he2⟩ : ∃ e2, e2 = [a, b, c, some (Tr.leaf (.int (k : Int)), false), some (Tr.leaf (.int (m : Int)), false), d, e, f, some (.leaf (.int (j : Int)), false), g] := ⟨_, rfl⟩
    exact ⟨e2, e2, by rw [he2, hE]; simp, rfl, fun _ => ⟨e2, by rw [he2]; simp, by rw [he2, hE]; simp⟩, fun z => by cases z⟩) (by
      have : m ≤ sizeLine := Nat.le_trans (show m ≤ 100 by omega) (by decide)
      simpa using this)
  rw [List.nil_append, List.filter_eq_self.mpr fun _ _ => rfl] at hlc
  have hr : rng1I [(nm 4)] E = .ok ((List.range m).map fun j : Nat => PyData.int (0 + (j : Nat))) E := rng1_ok (n := m) (j := (m : Int)) (okR_of (by omega) (by omega)) (by omega) (by rw [hE]; simp)
  have hw : wipeE [8] E = E := by rw [hE]; simp
  rw [← hw] at hlc
  have hx := lcX_ok (vs := [8]) hr (by rw [hw] at hlc ⊢; exact hlc)
  rw [hx, List.map_map]
  rfl
theorem pieces_ok (t0 R : Option (Tr × Bool)) (d e f g : Option (Tr × Bool)) : ∀ (ms : List Nat) (k : Nat) (acc : List Nat) (x y : Option (Tr × Bool)), (∀ m ∈ ms, m ≤ 2) → acc.length + 3 * ms.length ≤ 1000 →
    ∃ x' y', forL (stT [(Vs.stN 3), (Vs.stN 4)]) fPc (enumD (k : Int) (ms.map fI)) [t0, some (.lst (acc.map fun p => .leaf (fP p)), false), R, x, y, d, e, f, none, g] =
      .ok .nx [t0, some (.lst ((acc ++ piecesFrom k ms).map fun p => .leaf (fP p)), false), R, x', y', d, e, f, none, g]
  | [], k, acc, x, y, _, _ => ⟨x, y, by simp [piecesFrom, enumD, forL]⟩
  | m :: ms, k, acc, x, y, h, hl => by
    have hm := h m List.mem_cons_self
    rw [List.length_cons] at hl
    obtain ⟨x', y', ih⟩ := pieces_ok t0 R d e f g ms (k + 1) (acc ++ (List.range m).map (fun n => (k + 1) * 3 + n)) (some (.leaf (.int (k : Int)), false)) (some (.leaf (.int (m : Int)), false)) (fun m hm => h m (List.mem_cons_of_mem _ hm)) (by simp; omega)
    refine ⟨x', y', ?_⟩
    rw [List.map_cons, enumD_cons]
    unfold forL
    have hs : stT [(Vs.stN 3), (Vs.stN 4)] (.tuple [.int (k : Int), fI m]) [t0, some (.lst (acc.map fun p => .leaf (fP p)), false), R, x, y, d, e, f, none, g] =
        some [t0, some (.lst (acc.map fun p => .leaf (fP p)), false), R, some (.leaf (.int (k : Int)), false), some (.leaf (.int (m : Int)), false), d, e, f, none, g] := by
      simp [fI]
    rw [hs]
    have hp := piece_list hm t0 (some (.lst (acc.map fun p => .leaf (fP p)), false)) R d e f g _ (k := k) rfl
    have hz : leZ ((acc.map fun p => Tr.leaf (fP p)).length + (((List.range m).map (fun n => (k + 1) * 3 + n)).map fun p => Tr.leaf (fP p)).length) := leZ_of (by simp; omega)
    have hb : fPc [t0, some (.lst (acc.map fun p => .leaf (fP p)), false), R, some (.leaf (.int (k : Int)), false), some (.leaf (.int (m : Int)), false), d, e, f, none, g] =
        .ok .nx [t0, some (.lst ((acc ++ (List.range m).map (fun n => (k + 1) * 3 + n)).map fun p => .leaf (fP p)), false), R, some (.leaf (.int (k : Int)), false), some (.leaf (.int (m : Int)), false), d, e, f, none, g] := by
      rw [List.map_append]
      generalize (acc.map fun p => Tr.leaf (fP p)) = A at *
      generalize (((List.range m).map (fun n => (k + 1) * 3 + n)).map fun p => Tr.leaf (fP p)) = B at *
      simp [hp, -v_lcX, hz]
    simp only [hb, bind_ok]
    rw [show ((k : Int) + 1) = ((k + 1 : Nat) : Int) from rfl, ih, List.append_assoc]
    rfl
/-! ### rows -/
def addP (rs : List (List (List Nat))) (size p : Nat) : List (List Nat) := if p / 3 ≤ size then (rs.getD (size - p / 3) []).map (· ++ [p]) else []
def rowsP (ps : List Nat) : Nat → List (List (List Nat))
  | 0 => [[[]]]
  | n + 1 => rowsP ps n ++ [ps.flatMap (addP (rowsP ps n) (n + 1))]
theorem rowsP_len (ps : List Nat) : ∀ n, (rowsP ps n).length = n + 1
  | 0 => rfl
  | n + 1 => by
    unfold rowsP
    simp [rowsP_len ps n]
def lf (r : List Nat) : Tr := .leaf (.tuple (r.map fP))
def lvD (lv : List (List Nat)) : D := .list (lv.map fun r => .tuple (r.map fP))
abbrev fAd : Sm := seqS (ifS (tst (Vs.bin (ordD .LtE) (ixX (nm 7) (ct (.int 0))) (nm 5))) (seqS (exS (exX 6 (lcX [9] (sqI (ixX (nm 2) (Vs.bin subD (nm 5) (ixX (nm 7) (ct (.int 0)))))) (Vs.stN 9) ytt (addX (nm 9) (tupX [(nm 7)]))))) nxS) nxS) nxS
def okL (rs : List (List (List Nat))) : Prop := ∀ lv ∈ rs, lv.length ≤ 600 ∧ ∀ r ∈ lv, r.length ≤ 20
theorem okL_at {rs : List (List (List Nat))} (h : okL rs) (i : Nat) : (rs.getD i []).length ≤ 600 ∧ ∀ r ∈ rs.getD i [], r.length ≤ 20 := by
  rw [List.getD_eq_getElem?_getD]
  cases q : rs[i]? with
  | none => exact ⟨Nat.zero_le _, fun r hr => by cases hr⟩
  | some lv => exact h lv (List.mem_of_getElem? q)
theorem tat_fP (p : Nat) : tat (.leaf (fP p)) 0 = some (.int ((p / 3 : Nat) : Int)) := rfl
theorem add_list {rs : List (List (List Nat))} {size p : Nat} (hr : rs.length = size) (ho : okL rs) (h1 : 1 ≤ p / 3) (h2 : p / 3 ≤ size) (a b c d e f g : Option (Tr × Bool)) (E : Nv)
    (hE : E = [a, b, some (.lst (rs.map fun lv => .leaf (lvD lv)), false), c, d, some (.leaf (.int (size : Int)), false), e, some (.leaf (fP p), false), f, none]) :
    lcX [9] (sqI (ixX (nm 2) (Vs.bin subD (nm 5) (ixX (nm 7) (ct (.int 0)))))) (Vs.stN 9) ytt (addX (nm 9) (tupX [(nm 7)])) E = .ok (.tmp (.lst ((addP rs size p).map lf))) E := by
  obtain ⟨R, hR⟩ : ∃ R, R = Tr.lst (rs.map fun lv => .leaf (lvD lv)) := ⟨_, rfl⟩
  rw [← hR] at hE
  obtain ⟨lv, hlv⟩ : ∃ lv, lv = rs.getD (size - p / 3) [] := ⟨_, rfl⟩
  have hl := okL_at ho (size - p / 3)
  rw [← hlv] at hl
  obtain ⟨Q, hQ⟩ : ∃ Q, Q = fP p := ⟨_, rfl⟩
  have hlc := lcL_f (fun r : List Nat => PyData.tuple (r.map fP)) (fun _ => true) (fun r => .tuple ((r ++ [p]).map fP)) [9] (Vs.stN 9) ytt (addX (nm 9) (tupX [(nm 7)])) E lv [] (fun r hr => by
    have := hl.2 r hr
    have a1 : ∀ e : Nv, addD (.tmp (.leaf (.tuple (r.map fP)))) (.tmp (.leaf (.tuple [Q]))) e = .ok (.tmp (.leaf (.tuple ((r ++ [p]).map fP)))) e := fun e => by
      rw [v_addt (by simp; omega), hQ]
      simp
    rw [← hQ] at hE
    generalize (r ++ [p]).map fP = A at *
    generalize r.map fP = B at *
    obtain ⟨e2, he2⟩ : ∃ e2, e2 = [a, b, some (R, false), c, d, some (Tr.leaf (.int (size : Int)), false), e, some (Tr.leaf Q, false), f, some (.leaf (.tuple B), false)] := ⟨_, rfl⟩
    exact ⟨e2, e2, by rw [he2, hE]; simp, rfl, fun _ => ⟨e2, by rw [he2]; simp [a1], by rw [he2, hE]; simp⟩, fun z => by cases z⟩) (by
      have : lv.length ≤ sizeLine := Nat.le_trans hl.1 (by decide)
      simpa using this)
  rw [List.nil_append, List.filter_eq_self.mpr fun _ _ => rfl] at hlc
  have hi : size - p / 3 < rs.length := by omega
  have t1 : tat R ((size : Int) - ((p / 3 : Nat) : Int)) = some (lvD lv) := by
    have hk : ((size : Int) - ((p / 3 : Nat) : Int)) = ((size - p / 3 : Nat) : Int) := by omega
    have hg : rs.getD (size - p / 3) [] = rs[size - p / 3] := by
      rw [List.getD_eq_getElem?_getD, List.getElem?_eq_getElem hi]
      rfl
    have e1 : atI (rs.map fun lv => Tr.leaf (lvD lv)) ((size - p / 3 : Nat) : Int) = some (.leaf (lvD lv)) := atI_nat (by rw [List.getElem?_map, List.getElem?_eq_getElem hi, hlv, hg]; rfl)
    rw [hR, hk]
    unfold tat
    simp only [e1]
  have hr2 : sqI (ixX (nm 2) (Vs.bin subD (nm 5) (ixX (nm 7) (ct (.int 0))))) E = .ok (lv.map fun r => .tuple (r.map fP)) E := by
    have t7 := tat_fP p
    rw [← hQ] at t7 hE
    obtain ⟨z, hz⟩ : ∃ z : Int, z = ((p / 3 : Nat) : Int) := ⟨_, rfl⟩
    rw [← hz] at t7 t1
    have hlD : lvD lv = .list (lv.map fun r => .tuple (r.map fP)) := rfl
    rw [hlD] at t1
    generalize (lv.map fun r => PyData.tuple (r.map fP)) = G at *
    rw [hE]
    simp [t7, t1]
  have hw : wipeE [9] E = E := by rw [hE]; simp
  have hx := lcX_ok (vs := [9]) hr2 (by rw [hw]; exact hlc)
  rw [hx]
  unfold addP
  rw [if_pos h2, ← hlv, List.map_map]
  rfl
theorem adds_ok {rs : List (List (List Nat))} {size : Nat} (hr : rs.length = size) (ho : okL rs) (hs : size ≤ 100) (a b c d f : Option (Tr × Bool)) : ∀ (qs : List Nat) (acc : List (List Nat)) (x : Option (Tr × Bool)), (∀ p ∈ qs, 1 ≤ p / 3) → acc.length + 600 * qs.length ≤ 100000 →
    ∃ x', forL (Vs.stN 7) fAd (qs.map fP) [a, b, some (.lst (rs.map fun lv => .leaf (lvD lv)), false), c, d, some (.leaf (.int (size : Int)), false), some (.lst (acc.map lf), false), x, f, none] =
      .ok .nx [a, b, some (.lst (rs.map fun lv => .leaf (lvD lv)), false), c, d, some (.leaf (.int (size : Int)), false), some (.lst ((acc ++ qs.flatMap (addP rs size)).map lf), false), x', f, none]
  | [], acc, x, _, _ => ⟨x, by simp [forL]⟩
  | p :: qs, acc, x, h, hl => by
    have h1 := h p List.mem_cons_self
    rw [List.length_cons] at hl
    have hal : (addP rs size p).length ≤ 600 := by
      unfold addP
      split
      · rw [List.length_map]
        exact (okL_at ho _).1
      · exact Nat.zero_le _
    obtain ⟨x', ih⟩ := adds_ok hr ho hs a b c d f qs (acc ++ addP rs size p) (some (.leaf (fP p), false)) (fun q hq => h q (List.mem_cons_of_mem _ hq)) (by rw [List.length_append]; omega)
    refine ⟨x', ?_⟩
    rw [List.map_cons]
    unfold forL
    have hst : Vs.stN 7 (fP p) [a, b, some (.lst (rs.map fun lv => .leaf (lvD lv)), false), c, d, some (.leaf (.int (size : Int)), false), some (.lst (acc.map lf), false), x, f, none] =
        some [a, b, some (.lst (rs.map fun lv => .leaf (lvD lv)), false), c, d, some (.leaf (.int (size : Int)), false), some (.lst (acc.map lf), false), some (.leaf (fP p), false), f, none] := by
      simp
    rw [hst]
    have hb : fAd [a, b, some (.lst (rs.map fun lv => .leaf (lvD lv)), false), c, d, some (.leaf (.int (size : Int)), false), some (.lst (acc.map lf), false), some (.leaf (fP p), false), f, none] =
        .ok .nx [a, b, some (.lst (rs.map fun lv => .leaf (lvD lv)), false), c, d, some (.leaf (.int (size : Int)), false), some (.lst ((acc ++ addP rs size p).map lf), false), some (.leaf (fP p), false), f, none] := by
      have t7 := tat_fP p
      by_cases h2 : p / 3 ≤ size
      · have hx := add_list hr ho h1 h2 a b c d (some (.lst (acc.map lf), false)) f none _ rfl
        have hz : leZ ((acc.map lf).length + ((addP rs size p).map lf).length) := leZ_of (by simp; omega)
        have hc : ((p / 3 : Nat) : Int) ≤ (size : Int) := by omega
        rw [List.map_append]
        generalize acc.map lf = A at *
        generalize (addP rs size p).map lf = B at *
        generalize (rs.map fun lv => Tr.leaf (lvD lv)) = R at *
        generalize fP p = Q at *
        generalize ((p / 3 : Nat) : Int) = z at *
        simp [t7, hc, hx, -v_lcX, hz]
      · have hn : addP rs size p = [] := by
          unfold addP
          rw [if_neg h2]
        have hc : ¬ ((p / 3 : Nat) : Int) ≤ (size : Int) := by omega
        rw [hn, List.append_nil]
        generalize acc.map lf = A at *
        generalize (rs.map fun lv => Tr.leaf (lvD lv)) = R at *
        generalize fP p = Q at *
        generalize ((p / 3 : Nat) : Int) = z at *
        simp [t7, hc]
    simp only [hb, bind_ok]
    rw [ih, List.append_assoc, List.flatMap_cons]
theorem enum1_ok {fs : List Xp} {e0 e : Nv} {ds : List D} (h : evs vl fs e0 = .ok [.tuple ds] e) : enum1I fs e0 = .ok (enumD 0 ds) e := by
  unfold enum1I
  rw [h, bind_ok]
  rfl
theorem views_leaf {ι : Type} (f : ι → D) (l : List ι) : Tr.views (l.map fun p => Tr.leaf (f p)) = l.map f := by
  rw [views_map, List.map_map]
  apply List.map_congr_left
  intro a _
  simp
theorem made_rows_ok {ms : List Nat} (h2 : ∀ m ∈ ms, m ≤ 2) (hl : ms.length ≤ 6) (ho : okL (rowsP (piecesFrom 0 ms) ms.length)) :
    m_law_made_rows [.leaf (.tuple (ms.map fI))] = .ok (.lst ((rowsP (piecesFrom 0 ms) ms.length).map fun lv => .leaf (lvD lv))) [] := by
  obtain ⟨ps, hps⟩ : ∃ ps, ps = piecesFrom 0 ms := ⟨_, rfl⟩
  rw [← hps] at ho ⊢
  have hpl : ps.length ≤ 12 := by
    have : ∀ (ms : List Nat) k, (∀ m ∈ ms, m ≤ 2) → (piecesFrom k ms).length ≤ 2 * ms.length := by
      intro ms
      induction ms with
      | nil => intro k _; exact Nat.le_refl _
      | cons m ms ih =>
        intro k h
        have := ih (k + 1) fun m hm => h m (List.mem_cons_of_mem _ hm)
        have := h m List.mem_cons_self
        unfold piecesFrom
        simp
        omega
    have := this ms 0 h2
    rw [hps]
    omega
  have hge := pieces_ge ms 0 h2
  rw [← hps] at hge
  have hoi : ∀ n, n ≤ ms.length → okL (rowsP ps n) := by
    have : ∀ d n, okL (rowsP ps (n + d)) → okL (rowsP ps n) := by
      intro d
      induction d with
      | zero => intro n h; exact h
      | succ d ih =>
        intro n h
        refine ih n fun lv hlv => h lv ?_
        show lv ∈ rowsP ps (n + d + 1)
        unfold rowsP
        exact List.mem_append_left _ hlv
    intro n hn
    exact this (ms.length - n) n (by rw [show n + (ms.length - n) = ms.length by omega]; exact ho)
  obtain ⟨t0, ht0⟩ : ∃ t0, t0 = Tr.leaf (.tuple (ms.map fI)) := ⟨_, rfl⟩
  obtain ⟨x0, y0, hp⟩ := pieces_ok (some (t0, true)) (some (.lst ((rowsP ps 0).map fun lv => .leaf (lvD lv)), false)) none none none none ms 0 [] none none h2 (by simp; omega)
  rw [List.nil_append, ← hps] at hp
  have he : ∀ e : Nv, e = [some (t0, true), some (.lst []  , false), some (.lst ((rowsP ps 0).map fun lv => .leaf (lvD lv)), false), none, none, none, none, none, none, none] → enum1I [(nm 0)] e = .ok (enumD 0 (ms.map fI)) e := fun e h => enum1_ok (by rw [h, ht0]; simp)
  obtain ⟨e', h1, h3⟩ := forL_0 (g := Vs.stN 5)
    (f := (seqS (asS 6 (lstX []))
  (seqS (forS (sqI (nm 1)) (Vs.stN 7) fAd)
  (seqS (exS (apX 2 (nm 6)))
  nxS))))
    (ds := rngD 1 ms.length) (e := [some (t0, true), some (.lst (ps.map fun p => .leaf (fP p)), false), some (.lst ((rowsP ps 0).map fun lv => .leaf (lvD lv)), false), x0, y0, none, none, none, none, none])
    (P := fun i e => ∃ t1 x y z, t1.view = .list (ps.map fP) ∧ e = [some (t0, true), some (t1, false), some (.lst ((rowsP ps i).map fun lv => .leaf (lvD lv)), false), x0, y0, x, y, z, none, none]) ⟨_, none, none, none, by rw [view_lst, views_leaf], rfl⟩ (by
      rintro k d e hd ⟨t1, x, y, z, ht1, rfl⟩
      have hi : k < ms.length := by simpa [rngD] using lt_of_at hd
      have hd' : d = .int (1 + (k : Nat)) := by
        simp only [rngD, List.getElem?_map, List.getElem?_range hi, Option.map_some, Option.some.injEq] at hd
        rw [← hd]
      subst hd'
      obtain ⟨z', ad⟩ := adds_ok (rs := rowsP ps k) (size := k + 1) (rowsP_len ps k) (hoi k (by omega)) (by omega) (some (t0, true)) (some (.leaf (.list (ps.map fP)), false)) x0 y0 none ps [] z hge (by simp; omega)
      rw [List.nil_append, show ((k + 1 : Nat) : Int) = 1 + (k : Int) by omega] at ad
      obtain ⟨fd, hfd⟩ : ∃ fd, fd = ps.flatMap (addP (rowsP ps k) (k + 1)) := ⟨_, rfl⟩
      have hr : rowsP ps (k + 1) = rowsP ps k ++ [fd] := by rw [hfd]; rfl
      have hvw : Tr.views (fd.map lf) = fd.map fun r => PyData.tuple (r.map fP) := views_leaf (fun r : List Nat => PyData.tuple (r.map fP)) fd
      have hz : ltZ ((rowsP ps k).map fun lv => Tr.leaf (lvD lv)).length := by
        rw [List.length_map, rowsP_len]
        exact ltZ_of (by omega)
      rw [← hfd] at ad
      refine ⟨[some (t0, true), some (t1, false), some (.lst ((rowsP ps k).map fun lv => .leaf (lvD lv)), false), x0, y0, some (.leaf (.int (1 + (k : Int))), false), y, z, none, none],
        [some (t0, true), some (.leaf (.list (ps.map fP)), false), some (.lst (((rowsP ps k).map fun lv => .leaf (lvD lv)) ++ [.leaf (lvD fd)]), false), x0, y0, some (.leaf (.int (1 + (k : Int))), false), some (.leaf (lvD fd), false), z', none, none], by simp, ?_, .leaf (.list (ps.map fP)), _, _, _, view_leaf _, by rw [hr, List.map_append]; rfl⟩
      rw [List.map_nil] at ad
      have hlD : lvD fd = .list (fd.map fun r => .tuple (r.map fP)) := rfl
      rw [hlD]
      generalize ((rowsP ps k).map fun lv => Tr.leaf (lvD lv)) = R at *
      generalize fd.map lf = G at *
      generalize (fd.map fun r => PyData.tuple (r.map fP)) = G1 at *
      generalize ps.map fP = PD at *
      simp [ht1, ad, hvw, hz])
  obtain ⟨t1, x, y, z, ht1, rfl⟩ := h3
  have hr : ∀ (a b c d : Option (Tr × Bool)), rng2I [(ct (.int 1)), (addX (call1 (atom1 lenD) (nm 0)) (ct (.int 1)))] [some (t0, true), a, b, c, d, none, none, none, none, none] = .ok (rngD 1 ms.length) [some (t0, true), a, b, c, d, none, none, none, none, none] := fun a b c d =>
    rng2_ok (n := ms.length) (i := 1) (j := (ms.length : Int) + 1) (okR_of (by omega) (by omega)) (okR_of (by omega) (by omega)) (by omega) (by rw [ht0]; simp)
  have h0 : ((rowsP ps 0).map fun lv => Tr.leaf (lvD lv)) = [.leaf (.list [.tuple []])] := rfl
  rw [show (rngD 1 ms.length).length = ms.length by simp [rngD]] at h1
  have he' := he _ rfl
  rw [List.map_nil] at hp
  rw [h0] at hp h1 he'
  rw [← ht0]
  have hp' : forL (stT [(Vs.stN 3), (Vs.stN 4)]) fPc (enumD 0 (ms.map fI)) [some (t0, true), some (.lst []  , false), some (.lst [.leaf (.list [.tuple []])], false), none, none, none, none, none, none, none] = _ := hp
  generalize ((rowsP ps ms.length).map fun lv => Tr.leaf (lvD lv)) = RR at *
  generalize (ps.map fun p => Tr.leaf (fP p)) = PP at *
  simp [m_law_made_rows, he', hp', hr, h1]
def Mn (ms : List Nat) : Sr := fun i => (((0 :: ms).getD i 0 : Nat) : Int)
def allMs : Nat → List (List Nat)
  | 0 => [[]]
  | n + 1 => (allMs n).flatMap fun ms => [0 :: ms, 1 :: ms, 2 :: ms]
theorem mem_all : ∀ {ms : List Nat}, (∀ m ∈ ms, m ≤ 2) → ms ∈ allMs ms.length
  | [], _ => List.mem_singleton.mpr rfl
  | m :: ms, h => by
    have ih := mem_all fun k hk => h k (List.mem_cons_of_mem _ hk)
    refine List.mem_flatMap.mpr ⟨ms, ih, ?_⟩
    have := h m List.mem_cons_self
    have : m = 0 ∨ m = 1 ∨ m = 2 := by omega
    rcases this with rfl | rfl | rfl <;> simp
theorem row_mn (ms : List Nat) : row ms.length (sh (Mn ms)) = ms.map fun n : Nat => (n : Int) := by
  apply List.ext_getElem?
  intro i
  by_cases hi : i < ms.length
  · rw [row_at hi, List.getElem?_map, List.getElem?_eq_getElem hi]
    simp [sh, Mn, List.getD_eq_getElem?_getD, List.getElem?_eq_getElem hi]
  · rw [List.getElem?_eq_none (by simp; omega), List.getElem?_eq_none (by simp; omega)]
theorem t_mn (ms : List Nat) : T (row ms.length (sh (Mn ms))) = .leaf (.tuple (ms.map fI)) := by
  rw [row_mn]
  simp [nD, fI, Function.comp_def]
theorem mak_mn {ms : List Nat} (h : ∀ m ∈ ms, m < 2 ^ 100) : Mak (Mn ms) := ⟨rfl, fun i => by
  unfold Mn
  rw [List.getD_eq_getElem?_getD]
  cases q : (0 :: ms)[i]? with
  | none => simp
  | some v =>
    have hm := List.mem_of_getElem? q
    rcases List.mem_cons.mp hm with rfl | hm
    · simp
    · simpa using h v hm⟩
theorem nats_of {l : List Int} {k : Nat} (h : ∀ v ∈ l, 0 ≤ v ∧ v < (k : Int)) : ∃ ms : List Nat, l = ms.map (fun n : Nat => (n : Int)) ∧ ∀ m ∈ ms, m < k := by
  refine ⟨l.map Int.toNat, ?_, fun m hm => ?_⟩
  · rw [List.map_map]
    conv => lhs; rw [← List.map_id l]
    apply List.map_congr_left
    intro v hv
    have := h v hv
    show v = ((v.toNat : Nat) : Int)
    omega
  · obtain ⟨v, hv, rfl⟩ := List.mem_map.mp hm
    have := h v hv
    omega
def sP (l : Nat) : Sr := fun n => (l : Int) ^ n
def Ml (l : Nat) : Sr := fun i => if i = 1 then (l : Int) else 0
theorem ml_eq (l : Nat) : Ml l = sm (l : Int) (mono 1) := funext fun i => by
  simp only [Ml, sm, mono]
  split <;> simp
theorem rws_ml (l : Nat) : ∀ n, rws (Ml l) n = sP l n
  | 0 => rfl
  | n + 1 => by
    have e : sh (Ml l) = sm (l : Int) u1 := funext fun i => by
      simp only [sh, Ml, sm, u1]
      cases i with
      | zero => simp
      | succ i => simp
    rw [rws_succ, e, cv_sm_l, cv_u1, rws_ml l n]
    show (l : Int) * (l : Int) ^ n = (l : Int) ^ (n + 1)
    rw [Int.pow_succ, Int.mul_comm]
theorem lg_ml (l : Nat) {n : Nat} (h : 1 ≤ n) : lg (rws (Ml l)) n = sP l n := by
  rw [lg_rows (by rfl)]
  have e : th (Ml l) = sm (l : Int) (mono 1) := funext fun i => by
    simp only [th, Ml, sm, mono]
    split
    · rename_i h
      subst h
      simp
    · simp
  obtain ⟨k, rfl⟩ : ∃ k, n = k + 1 := ⟨n - 1, by omega⟩
  rw [e, cv_sm_l, cv_mono, if_pos h, rws_ml]
  show (l : Int) * (l : Int) ^ k = (l : Int) ^ (k + 1)
  rw [Int.pow_succ, Int.mul_comm]
theorem joined {L M : Nat} {a b : Sr} {p q : Nat} (hL : L ≤ 13) (hM : M ≤ 13) (ha : bd L a p) (hb : bd M b q) (hpq : p + q < 1000000) :
    m_row_joined [T (row L a), T (row M b)] = .ok (T (row (min L M) (cv a b))) [] := by
  obtain ⟨e', h1, h2⟩ := forL_0 (g := Vs.stN 3)
    (f := seqS (exS (apX 2 (call1 (atom1 sumD) (lcX [4] (rng1I [addX (nm 3) (ct (PyData.int 1))]) (Vs.stN 4) ytt (mulX (ixX (nm 0) (nm 4)) (ixX (nm 1) (Vs.bin subD (nm 3) (nm 4)))))))) nxS)
    (ds := rngD 0 (min L M)) (e := [some (T (row L a), true), some (T (row M b), true), some (.lst [], false), none, none])
    (P := fun i e => ∃ x y, e = [some (T (row L a), true), some (T (row M b), true), some (.lst (nT (row i (cv a b))), false), x, y]) ⟨none, none, rfl⟩ (by
      rintro i d e hd ⟨x, y, rfl⟩
      have hi : i < min L M := by simpa [rngD] using lt_of_at hd
      have hd' : d = .int (i : Nat) := by
        simp only [rngD, List.getElem?_map, List.getElem?_range hi, Option.map_some, Option.some.injEq] at hd
        rw [← hd]
        simp
      subst hd'
      have hlc : lcL [4] (Vs.stN 4) ytt (mulX (ixX (nm 0) (nm 4)) (ixX (nm 1) (Vs.bin subD (nm 3) (nm 4)))) (rngD 0 (i + 1)) [] [some (T (row L a), true), some (T (row M b), true), some (.lst (nT (row i (cv a b))), false), some (.leaf (.int (i : Nat)), false), none] =
          .ok (nT ((List.range (i + 1)).map fun j => a j * b (i - j))) [some (T (row L a), true), some (T (row M b), true), some (.lst (nT (row i (cv a b))), false), some (.leaf (.int (i : Nat)), false), none] := by
        refine lcL_rng _ _ _ _ _ 0 (i + 1) _ (fun j hj => ?_) (small13 (by omega))
        have t1 : tat (T (row L a)) (j : Int) = some (.int (a j)) := by
          have := tat_row (L := L) (a := a) (i := (j : Int)) (by omega) (by omega)
          simpa using this
        have t2 : tat (T (row M b)) ((i : Int) - (j : Int)) = some (.int (b (i - j))) := by
          have := tat_row (L := M) (a := b) (i := (i : Int) - (j : Int)) (by omega) (by omega)
          rw [show ((i : Int) - (j : Int)).toNat = i - j by omega] at this
          exact this
        have hm := mul_ok (ha j (by omega)) (hb (i - j) (by omega)) hpq
        obtain ⟨e2, he2⟩ : ∃ e2, e2 = [some (T (row L a), true), some (T (row M b), true), some (Tr.lst (nT (row i (cv a b))), false), some (Tr.leaf (PyData.int (i : Nat)), false), some (Tr.leaf (PyData.int (j : Nat)), false)] := ⟨_, rfl⟩
        refine ⟨e2, e2, e2, by rw [he2]; simp, rfl, by rw [he2]; simp [t1, t2, v_muli hm], by rw [he2]; simp⟩
      refine ⟨[some (T (row L a), true), some (T (row M b), true), some (.lst (nT (row i (cv a b))), false), some (.leaf (.int (i : Nat)), false), y],
        [some (T (row L a), true), some (T (row M b), true), some (.lst (nT (row (i + 1) (cv a b))), false), some (.leaf (.int (i : Nat)), false), none], by simp, ?_, some (.leaf (.int (i : Nat)), false), none, rfl⟩
      have hr : rng1I [addX (nm 3) (ct (PyData.int 1))] [some (T (row L a), true), some (T (row M b), true), some (.lst (nT (row i (cv a b))), false), some (.leaf (.int (i : Nat)), false), y] = .ok (rngD 0 (i + 1)) [some (T (row L a), true), some (T (row M b), true), some (.lst (nT (row i (cv a b))), false), some (.leaf (.int (i : Nat)), false), y] :=
        rng1_ok (j := (i : Int) + 1) (okR_of (by omega) (by omega)) (by omega) (by simp)
      have hx := sum_ok (lcX_ok (vs := [4]) hr hlc) (sum_cv a b i)
      have hz : ltZ i := ltZ_of (by omega)
      simp only [v_seq, v_exS, v_ap, v_isL, v_ow, hx, bind_ok]
      simp [hz, row_succ])
  obtain ⟨x, y, rfl⟩ := h2
  have hm : (if M < L then (M : Int) else (L : Int)) = ((min L M : Nat) : Int) := by
    split <;> omega
  have hr := rng1_ok (n := min L M) (j := ((min L M : Nat) : Int)) (okR_of (by omega) (by omega)) (by omega) (fs := [call2 (atom2 min2D) (call1 (atom1 lenD) (nm 0)) (call1 (atom1 lenD) (nm 1))]) (e0 := [some (T (row L a), true), some (T (row M b), true), some (.lst [], false), none, none])
    (e := [some (T (row L a), true), some (T (row M b), true), some (.lst [], false), none, none]) (by simp [hm])
  simp [m_row_joined, hr, h1]
  simp [rngD]
end Hd

set_option Elab.async false
set_option linter.all false
set_option maxRecDepth 100000
set_option maxHeartbeats 2000000
/-! Lk: lots of makers (k70). -/
namespace Hd
open PySem PySem.Spec L2 Vs
open PyProof.Rows hiding St
open Ser
theorem dsum_lt {m : Sr} {k n p : Nat} (hk : k ≤ 12) (h : ∀ i, 1 ≤ i → i ≤ k → (m i).natAbs < 2 ^ p) : (dsum m k n).natAbs < 2 ^ (p + 8) := by
  have h1 := dsum_le (m := m) (n := n) (B := 2 ^ p) (k := k) (by omega) fun i a b => Nat.le_of_lt (h i a b)
  have h2 : k * (13 * 2 ^ p) ≤ 12 * (13 * 2 ^ p) := Nat.mul_le_mul_right _ hk
  have h3 : 2 ^ (p + 8) = 256 * 2 ^ p := by rw [Nat.add_comm, Nat.pow_add]
  have := Nat.two_pow_pos p
  omega
theorem bd_lots {P s : Sr} (hP : P 0 = 1) {L q : Nat} (hL : L ≤ 12) (h : ∀ n, 1 ≤ n → n ≤ L → lg P n = s n) (hs : ∀ n, 1 ≤ n → n ≤ L → (s n).natAbs < 2 ^ q) : ∀ n, n ≤ L → (P n).natAbs < 2 ^ ((q + 8) * n + 1) := by
  intro n
  induction n using Nat.strongRecOn with
  | _ n ih =>
    intro hn
    cases n with
    | zero =>
      rw [hP, Nat.mul_zero]
      decide
    | succ n =>
      have e := lot_rec hP h (k := n) (by omega)
      have c := cv_lt (p := q) (q := (q + 8) * n + 1) n (a := sh s) (b := P) (fun i hi => hs (i + 1) (by omega) (by omega)) fun i hi =>
        Nat.lt_of_lt_of_le (ih i (by omega) (by omega)) (Nat.pow_le_pow_right (by decide) (by have := Nat.mul_le_mul_left (q + 8) hi; omega))
      rw [e, Int.natAbs_mul] at c
      have h1 : (P (n + 1)).natAbs ≤ ((n + 1 : Nat) : Int).natAbs * (P (n + 1)).natAbs := Nat.le_mul_of_pos_left _ (by omega)
      have h2 : (n + 1) * 2 ^ (q + ((q + 8) * n + 1)) ≤ 13 * 2 ^ (q + ((q + 8) * n + 1)) := Nat.mul_le_mul_right _ (by omega)
      have h3 : 2 ^ ((q + 8) * (n + 1) + 1) = 256 * 2 ^ (q + ((q + 8) * n + 1)) := by
        rw [show (q + 8) * (n + 1) + 1 = 8 + (q + ((q + 8) * n + 1)) by rw [Nat.mul_add]; omega, Nat.pow_add]
      have := Nat.two_pow_pos (q + ((q + 8) * n + 1))
      omega
/-- a part of a divisor's sum -/
theorem by_div_ok {k n : Nat} {m : Sr} {p : Nat} {t : Tr} (ht : ∀ i : Int, 0 ≤ i → i < k → tat t i = some (.int (m (i.toNat + 1)))) (hlen : lenD t.view = some (.int (k : Int))) (hk : k ≤ 100) (hn : n ≤ 100) (hb : ∀ i, 1 ≤ i → i ≤ k → (m i).natAbs < 2 ^ p) (hp : p < 900000) :
    m_law_by_divisors [t, .leaf (.int (n : Int))] = .ok (.leaf (.int (dsum m (min n k) n))) [t] := by
  have hl := lcL_f (fun i : Nat => PyData.int (1 + (i : Nat))) (fun i => decide (n % (i + 1) = 0)) (fun i => .int ((1 + (i : Int)) * m (i + 1))) [3] (Vs.stN 3)
    (tst (Vs.bin (eqD false) (Vs.bin modD (call1 (atom1 Vs.intD) (nm 1)) (nm 3)) (ct (.int 0)))) (mulX (nm 3) (ixX (nm 0) (Vs.bin subD (nm 3) (ct (.int 1))))) [some (t, true), some (.leaf (.int (n : Int)), true), some (.leaf (.int (k : Int)), false), none] (List.range (min n k)) [] (fun i hi => by
    have hi := List.mem_range.mp hi
    have mm := mul_ok (lt_two (i := i) (by omega)) (hb (i + 1) (by omega) (by omega)) (by omega : 10 + p < 1000000)
    have hmod : ((n : Int) % (1 + (i : Int)) = 0) ↔ n % (i + 1) = 0 := by
      rw [show (1 + (i : Int)) = ((i + 1 : Nat) : Int) by omega, ← Int.natCast_emod]
      omega
    have t1 : tat t ((1 + (i : Int)) - 1) = some (.int (m (i + 1))) := by
      have := ht ((1 + (i : Int)) - 1) (by omega) (by omega)
      rw [show ((1 + (i : Int)) - 1).toNat = i by omega] at this
      exact this
    obtain ⟨i1, hi1⟩ : ∃ i1, i1 = 1 + (i : Int) := ⟨_, rfl⟩
    rw [← hi1] at t1 hmod mm
    have hpos : (0 : Int) < i1 := by omega
    obtain ⟨r, hr⟩ : ∃ r, (n : Int) % i1 = r := ⟨_, rfl⟩
    rw [hr] at hmod
    have hd : decide (r = 0) = decide (n % (i + 1) = 0) := by simp only [hmod]
    refine ⟨[some (t, true), some (.leaf (.int (n : Int)), true), some (.leaf (.int (k : Int)), false), some (.leaf (.int i1), false)], [some (t, true), some (.leaf (.int (n : Int)), true), some (.leaf (.int (k : Int)), false), some (.leaf (.int i1), false)], by simp [hi1], ?_, fun _ => ⟨[some (t, true), some (.leaf (.int (n : Int)), true), some (.leaf (.int (k : Int)), false), some (.leaf (.int i1), false)], by
      show _ = Out.ok (Tr.leaf (.int ((1 + (i : Int)) * m (i + 1)))) _
      rw [← hi1]
      simp [t1, v_muli mm], by simp⟩, fun _ => by simp⟩
    rw [← hd]
    simp [hpos, hr]) (by
    have : min n k ≤ sizeLine := Nat.le_trans (show min n k ≤ 100 by omega) (by decide)
    simpa using this)
  rw [List.nil_append] at hl
  have hrg : (List.range (min n k)).map (fun i : Nat => PyData.int (1 + (i : Nat))) = rngD 1 (min n k) := rfl
  rw [hrg] at hl
  have hmin : (if (k : Int) < (n : Int) then (k : Int) else (n : Int)) = ((min n k : Nat) : Int) := by
    split <;> omega
  have hr : rng2I [(ct (.int 1)), (addX (call2 (atom2 min2D) (nm 1) (nm 2)) (ct (.int 1)))] [some (t, true), some (.leaf (.int (n : Int)), true), some (.leaf (.int (k : Int)), false), none] =
      .ok (rngD 1 (min n k)) [some (t, true), some (.leaf (.int (n : Int)), true), some (.leaf (.int (k : Int)), false), none] :=
    rng2_ok (i := 1) (j := ((min n k : Nat) : Int) + 1) (okR_of (by omega) (by omega)) (okR_of (by omega) (by omega)) (by omega) (by rw [← hmin]; simp)
  have hx := lcX_ok (vs := [3]) hr hl
  have e1 : ((List.range (min n k)).filter fun i : Nat => decide (n % (i + 1) = 0)).map (fun i : Nat => Tr.leaf (PyData.int ((1 + (i : Int)) * m (i + 1)))) = nT (((List.range (min n k)).filter fun i : Nat => decide (n % (i + 1) = 0)).map fun i : Nat => (1 + (i : Int)) * m (i + 1)) := by
    simp [nT]
  rw [e1] at hx
  have hs := sum_ok hx (c := dsum m (min n k) n) (by
    rw [sum_filter]
    unfold dsum
    congr 1
    apply List.map_congr_left
    intro i _
    unfold dterm
    by_cases h : n % (i + 1) = 0
    · simp only [h, decide_true, if_true]
      congr 1
      omega
    · simp [h])
  have e2 : asS 2 (call1 (atom1 lenD) (nm 0)) [some (t, true), some (.leaf (.int (n : Int)), true), none, none] = .ok .nx [some (t, true), some (.leaf (.int (n : Int)), true), some (.leaf (.int (k : Int)), false), none] := by
    simp [hlen]
  simp [m_law_by_divisors, e2, -v_asS, hs, -v_call1]
/-- the sums of makers -/
def dS (m : Sr) : Sr := fun n => dsum m n n
theorem sums_ok {L : Nat} {m : Sr} {p : Nat} (hL : L ≤ 12) (hb : ∀ i, 1 ≤ i → i ≤ L → (m i).natAbs < 2 ^ p) (hp : p < 900000) (E : Nv) (g : Sd) (fe : Xp) (v : Nat)
    (hst : ∀ j, j < L → ∃ e1 e2, g (.int (1 + (j : Nat))) E = some e1 ∧ ow fe e1 = .ok (.leaf (.int (dS m (j + 1)))) e2 ∧ wipeE [v] e2 = E) :
    lcL [v] g ytt fe (rngD 1 L) [] E = .ok (nT (row L (sh (dS m)))) E :=
  lcL_rng _ _ _ _ _ 1 L _ (fun j hj => by
    obtain ⟨e1, e2, h1, h2, h3⟩ := hst j hj
    exact ⟨e1, e1, e2, h1, rfl, h2, h3⟩) (small13 (by omega))
theorem lots_ok {L : Nat} {m P : Sr} {p r : Nat} (hL : L ≤ 12) (hP : P 0 = 1) (h : ∀ n, 1 ≤ n → n ≤ L → lg P n = dS m n) (hb : ∀ i, 1 ≤ i → i ≤ L → (m i).natAbs < 2 ^ p) (bP : bd (L + 1) P r) (hp : p + 8 + r < 900000) :
    m_lots_of_makers [T (row L (sh m))] = .ok (T (row (L + 1) P)) [] := by
  obtain ⟨t0, ht0⟩ : ∃ t0, t0 = T (row L (sh m)) := ⟨_, rfl⟩
  have hlen : lenD t0.view = some (.int (L : Int)) := by rw [ht0]; simp
  have hr0 : ∀ a b c d : Option (Tr × Bool), rng2I [(ct (.int 1)), (addX (call1 (atom1 lenD) (nm 0)) (ct (.int 1)))] [some (t0, true), a, b, c, d] = .ok (rngD 1 L) [some (t0, true), a, b, c, d] := fun a b c d =>
    rng2_ok (n := L) (i := 1) (j := (L : Int) + 1) (okR_of (by omega) (by omega)) (okR_of (by omega) (by omega)) (by omega) (by simp [hlen])
  have hlc := sums_ok (m := m) hL hb (by omega : p < 900000) [some (t0, true), none, none, none, none] (Vs.stN 3) (callX m_divisor_sum [true, false] [(slX (nm 0) none (some (nm 3))), (nm 3)]) 3 (fun j hj => by
    have dv := divisor_ok (k := j + 1) (n := j + 1) (m := m) (p := p) (t := T (row (j + 1) (sh m))) rfl (by omega) (fun i a b => hb i a (by omega)) (by omega)
    have hcut : cutD (nD (row L (sh m))) none (some (1 + (j : Int))) = nD (row (j + 1) (sh m)) := by
      rw [show (1 + (j : Int)) = ((j + 1 : Nat) : Int) by omega, cut_to, take_row (by omega)]
    rw [show ((j + 1 : Nat) : Int) = 1 + (j : Int) by omega] at dv
    obtain ⟨j1, hj1⟩ : ∃ j1, j1 = 1 + (j : Int) := ⟨_, rfl⟩
    have ht1 : t0 = .leaf (.tuple (nD (row L (sh m)))) := ht0
    have dv : m_divisor_sum [.leaf (.tuple (nD (row (j + 1) (sh m)))), .leaf (.int (1 + (j : Int)))] = .ok (.leaf (.int (dS m (j + 1)))) [.leaf (.tuple (nD (row (j + 1) (sh m))))] := dv
    rw [← hj1] at dv hcut ⊢
    generalize nD (row L (sh m)) = G at *
    generalize nD (row (j + 1) (sh m)) = G1 at *
    generalize dS m (j + 1) = w at *
    rw [ht1]
    exact ⟨[some (Tr.leaf (.tuple G), true), none, none, some (.leaf (.int j1), false), none], _, by simp, by simp [hcut, dv]; rfl, by simp⟩)
  have hx0 := lcX_ok (vs := [3]) (hr0 none none none none) (by simpa using hlc)
  obtain ⟨S, hS⟩ : ∃ S, S = Tr.lst (nT (row L (sh (dS m)))) := ⟨_, rfl⟩
  obtain ⟨e', h1, h2⟩ := forL_0 (g := Vs.stN 3)
    (f := (seqS (exS (apX 1 (Vs.bin fdivD (call1 (atom1 sumD) (lcX [4] (rng2I [(ct (.int 1)), (addX (nm 3) (ct (.int 1)))]) (Vs.stN 4) ytt (mulX (ixX (nm 2) (Vs.bin subD (nm 4) (ct (.int 1)))) (ixX (nm 1) (Vs.bin subD (nm 3) (nm 4)))))) (nm 3)))) nxS))
    (ds := rngD 1 L) (e := [some (t0, true), some (.lst (nT (row 1 P)), false), some (S, false), none, none])
    (P := fun i e => ∃ x y, e = [some (t0, true), some (.lst (nT (row (i + 1) P)), false), some (S, false), x, y]) ⟨none, none, rfl⟩ (by
      rintro k d e hd ⟨x, y, rfl⟩
      have hi : k < L := by simpa [rngD] using lt_of_at hd
      have hd' : d = .int (1 + (k : Nat)) := by
        simp only [rngD, List.getElem?_map, List.getElem?_range hi, Option.map_some, Option.some.injEq] at hd
        rw [← hd]
      subst hd'
      obtain ⟨F, hF⟩ : ∃ F, F = nT (row (k + 1) P) := ⟨_, rfl⟩
      have hFl : F.length = k + 1 := by rw [hF]; simp [nT]
      obtain ⟨k1, hk1⟩ : ∃ k1, k1 = 1 + (k : Int) := ⟨_, rfl⟩
      have hlc : lcL [4] (Vs.stN 4) ytt (mulX (ixX (nm 2) (Vs.bin subD (nm 4) (ct (.int 1)))) (ixX (nm 1) (Vs.bin subD (nm 3) (nm 4)))) (rngD 1 (k + 1)) [] [some (t0, true), some (.lst F, false), some (S, false), some (.leaf (.int k1), false), none] =
          .ok (nT ((List.range (k + 1)).map fun j => sh (dS m) j * P (k - j))) [some (t0, true), some (.lst F, false), some (S, false), some (.leaf (.int k1), false), none] := by
        refine lcL_rng _ _ _ _ _ 1 (k + 1) _ (fun j hj => ?_) (small13 (by omega))
        have t1 : tat S ((1 + (j : Int)) - 1) = some (.int (sh (dS m) j)) := by
          rw [hS]
          have := tat_lrow (L := L) (a := sh (dS m)) (i := (1 + (j : Int)) - 1) (by omega) (by omega)
          rw [show ((1 + (j : Int)) - 1).toNat = j by omega] at this
          exact this
        have t2 : tat (.lst F) (k1 - (1 + (j : Int))) = some (.int (P (k - j))) := by
          rw [hF, hk1]
          have := tat_lrow (L := k + 1) (a := P) (i := (1 + (k : Int)) - (1 + (j : Int))) (by omega) (by omega)
          rw [show ((1 + (k : Int)) - (1 + (j : Int))).toNat = k - j by omega] at this
          exact this
        have hm := mul_ok (x := sh (dS m) j) (dsum_lt (m := m) (n := j + 1) (k := j + 1) (p := p) (by omega) fun i a b => hb i a (by omega)) (bP (k - j) (by omega)) (by omega)
        obtain ⟨j1, hj1⟩ : ∃ j1, j1 = 1 + (j : Int) := ⟨_, rfl⟩
        rw [← hj1] at t1 t2
        obtain ⟨e2, he2⟩ : ∃ e2, e2 = [some (t0, true), some (Tr.lst F, false), some (S, false), some (Tr.leaf (PyData.int k1), false), some (Tr.leaf (PyData.int j1), false)] := ⟨_, rfl⟩
        refine ⟨e2, e2, e2, by rw [he2]; simp [hj1], rfl, by rw [he2]; simp [t1, t2, v_muli hm], by rw [he2]; simp⟩
      have hr : rng2I [(ct (.int 1)), (addX (nm 3) (ct (.int 1)))] [some (t0, true), some (.lst F, false), some (S, false), some (.leaf (.int k1), false), y] = .ok (rngD 1 (k + 1)) [some (t0, true), some (.lst F, false), some (S, false), some (.leaf (.int k1), false), y] :=
        rng2_ok (i := 1) (j := k1 + 1) (okR_of (by omega) (by omega)) (okR_of (by omega) (by omega)) (by omega) (by simp)
      have hx := sum_ok (lcX_ok (vs := [4]) hr hlc) (c := k1 * P (k + 1)) (by
        rw [sum_cv, lot_rec hP h hi]
        congr 1
        omega)
      have hz : ltZ F.length := ltZ_of (by omega)
      have hdv : fdivD (.int (k1 * P (k + 1))) (.int k1) = some (.int (P (k + 1))) := by
        rw [fdiv_ok (by omega) (by omega), Int.mul_ediv_cancel_left _ (by omega)]
      have hF2 : nT (row (k + 1 + 1) P) = F ++ [.leaf (.int (P (k + 1)))] := by
        rw [row_succ, hF]
        simp [nT]
      refine ⟨[some (t0, true), some (.lst F, false), some (S, false), some (.leaf (.int k1), false), y],
        [some (t0, true), some (.lst (F ++ [.leaf (.int (P (k + 1)))]), false), some (S, false), some (.leaf (.int k1), false), none], by rw [hF, hk1]; simp, ?_, _, _, by rw [hF2]⟩
      simp [hx, -v_call1, hz, hdv, -v_fdiv])
  obtain ⟨x, y, rfl⟩ := h2
  have h0 : nT (row 1 P) = [.leaf (.int 1)] := by simp [row, hP]
  rw [h0, hS] at h1
  rw [← ht0]
  simp [m_lots_of_makers, hx0, -v_lcX, hr0, h1]
  simp [rngD]
end Hd

set_option Elab.async false
set_option linter.all false
set_option maxRecDepth 100000
set_option maxHeartbeats 2000000
/-! Lk2: the law's own lots (k70). -/
namespace Hd
open PySem PySem.Spec L2 Vs
open PyProof.Rows hiding St
open Ser
theorem rmk_is : m_law_row_makers = m_row_makers := rfl
theorem rof_is : m_law_rows_of = m_rows_of_makers := rfl
theorem law_lots_ok {L : Nat} {m P : Sr} {p r : Nat} (hL : L ≤ 12) (hP : P 0 = 1) (h : ∀ n, 1 ≤ n → n ≤ L → lg P n = dS m n) (hb : ∀ i, 1 ≤ i → i ≤ L → (m i).natAbs < 2 ^ p) (bP : bd (L + 1) P r) (hp : p + 8 + r < 900000) :
    m_law_lots_of [T (row L (sh m))] = .ok (T (row (L + 1) P)) [T (row L (sh m))] := by
  obtain ⟨t0, ht0⟩ : ∃ t0, t0 = T (row L (sh m)) := ⟨_, rfl⟩
  have hlen : lenD t0.view = some (.int (L : Int)) := by rw [ht0]; simp
  have hr0 : ∀ a b c d u v : Option (Tr × Bool), rng2I [(ct (.int 1)), (addX (call1 (atom1 lenD) (nm 0)) (ct (.int 1)))] [some (t0, true), a, b, c, d, u, v] = .ok (rngD 1 L) [some (t0, true), a, b, c, d, u, v] := fun a b c d u v =>
    rng2_ok (n := L) (i := 1) (j := (L : Int) + 1) (okR_of (by omega) (by omega)) (okR_of (by omega) (by omega)) (by omega) (by simp [hlen])
  have hlc := sums_ok (m := m) hL hb (by omega : p < 900000) [some (t0, true), none, none, none, none, none, none] (Vs.stN 5) (callX m_law_by_divisors [true, false] [(nm 0), (nm 5)]) 5 (fun j hj => by
    have dv := by_div_ok (k := L) (n := j + 1) (m := m) (p := p) (t := t0) (fun i h0 h1 => by rw [ht0]; exact tat_row (L := L) (a := sh m) h0 h1) hlen (by omega) (by omega) hb (by omega)
    rw [show min (j + 1) L = j + 1 by omega, show ((j + 1 : Nat) : Int) = 1 + (j : Int) by omega] at dv
    obtain ⟨j1, hj1⟩ : ∃ j1, j1 = 1 + (j : Int) := ⟨_, rfl⟩
    have dv : m_law_by_divisors [t0, .leaf (.int (1 + (j : Int)))] = .ok (.leaf (.int (dS m (j + 1)))) [t0] := dv
    rw [← hj1] at dv ⊢
    generalize dS m (j + 1) = w at *
    exact ⟨[some (t0, true), none, none, none, none, some (.leaf (.int j1), false), none], _, by simp, by simp [dv]; rfl, by simp⟩)
  have hx0 := lcX_ok (vs := [5]) (hr0 none none none none none none) (by simpa using hlc)
  obtain ⟨S, hS⟩ : ∃ S, S = Tr.lst (nT (row L (sh (dS m)))) := ⟨_, rfl⟩
  obtain ⟨e', h1, h2⟩ := forL_0 (g := Vs.stN 3)
    (f := (seqS (asS 4 (call1 (atom1 sumD) (lcX [6] (rng2I [(ct (.int 1)), (addX (nm 3) (ct (.int 1)))]) (Vs.stN 6) ytt (mulX (ixX (nm 1) (Vs.bin subD (nm 6) (ct (.int 1)))) (ixX (nm 2) (Vs.bin subD (nm 3) (nm 6)))))))
  (seqS (exS (apX 2 (Vs.bin fdivD (nm 4) (nm 3)))) nxS)))
    (ds := rngD 1 L) (e := [some (t0, true), some (S, false), some (.lst (nT (row 1 P)), false), none, none, none, none])
    (P := fun i e => ∃ x y z, e = [some (t0, true), some (S, false), some (.lst (nT (row (i + 1) P)), false), x, y, none, z]) ⟨none, none, none, rfl⟩ (by
      rintro k d e hd ⟨x, y, z, rfl⟩
      have hi : k < L := by simpa [rngD] using lt_of_at hd
      have hd' : d = .int (1 + (k : Nat)) := by
        simp only [rngD, List.getElem?_map, List.getElem?_range hi, Option.map_some, Option.some.injEq] at hd
        rw [← hd]
      subst hd'
      obtain ⟨F, hF⟩ : ∃ F, F = nT (row (k + 1) P) := ⟨_, rfl⟩
      have hFl : F.length = k + 1 := by rw [hF]; simp [nT]
      obtain ⟨k1, hk1⟩ : ∃ k1, k1 = 1 + (k : Int) := ⟨_, rfl⟩
      have hlc : lcL [6] (Vs.stN 6) ytt (mulX (ixX (nm 1) (Vs.bin subD (nm 6) (ct (.int 1)))) (ixX (nm 2) (Vs.bin subD (nm 3) (nm 6)))) (rngD 1 (k + 1)) [] [some (t0, true), some (S, false), some (.lst F, false), some (.leaf (.int k1), false), y, none, none] =
          .ok (nT ((List.range (k + 1)).map fun j => sh (dS m) j * P (k - j))) [some (t0, true), some (S, false), some (.lst F, false), some (.leaf (.int k1), false), y, none, none] := by
        refine lcL_rng _ _ _ _ _ 1 (k + 1) _ (fun j hj => ?_) (small13 (by omega))
        have t1 : tat S ((1 + (j : Int)) - 1) = some (.int (sh (dS m) j)) := by
          rw [hS]
          have := tat_lrow (L := L) (a := sh (dS m)) (i := (1 + (j : Int)) - 1) (by omega) (by omega)
          rw [show ((1 + (j : Int)) - 1).toNat = j by omega] at this
          exact this
        have t2 : tat (.lst F) (k1 - (1 + (j : Int))) = some (.int (P (k - j))) := by
          rw [hF, hk1]
          have := tat_lrow (L := k + 1) (a := P) (i := (1 + (k : Int)) - (1 + (j : Int))) (by omega) (by omega)
          rw [show ((1 + (k : Int)) - (1 + (j : Int))).toNat = k - j by omega] at this
          exact this
        have hm := mul_ok (x := sh (dS m) j) (dsum_lt (m := m) (n := j + 1) (k := j + 1) (p := p) (by omega) fun i a b => hb i a (by omega)) (bP (k - j) (by omega)) (by omega)
        obtain ⟨j1, hj1⟩ : ∃ j1, j1 = 1 + (j : Int) := ⟨_, rfl⟩
        rw [← hj1] at t1 t2
        obtain ⟨e2, he2⟩ : ∃ e2, e2 = [some (t0, true), some (S, false), some (Tr.lst F, false), some (Tr.leaf (PyData.int k1), false), y, none, some (Tr.leaf (PyData.int j1), false)] := ⟨_, rfl⟩
        refine ⟨e2, e2, e2, by rw [he2]; simp [hj1], rfl, by rw [he2]; simp [t1, t2, v_muli hm], by rw [he2]; simp⟩
      have hr : rng2I [(ct (.int 1)), (addX (nm 3) (ct (.int 1)))] [some (t0, true), some (S, false), some (.lst F, false), some (.leaf (.int k1), false), y, none, z] = .ok (rngD 1 (k + 1)) [some (t0, true), some (S, false), some (.lst F, false), some (.leaf (.int k1), false), y, none, z] :=
        rng2_ok (i := 1) (j := k1 + 1) (okR_of (by omega) (by omega)) (okR_of (by omega) (by omega)) (by omega) (by simp)
      have hx := sum_ok (lcX_ok (vs := [6]) hr hlc) (c := k1 * P (k + 1)) (by
        rw [sum_cv, lot_rec hP h hi]
        congr 1
        omega)
      have hz : ltZ F.length := ltZ_of (by omega)
      have hdv : fdivD (.int (k1 * P (k + 1))) (.int k1) = some (.int (P (k + 1))) := by
        rw [fdiv_ok (by omega) (by omega), Int.mul_ediv_cancel_left _ (by omega)]
      have hF2 : nT (row (k + 1 + 1) P) = F ++ [.leaf (.int (P (k + 1)))] := by
        rw [row_succ, hF]
        simp [nT]
      refine ⟨[some (t0, true), some (S, false), some (.lst F, false), some (.leaf (.int k1), false), y, none, z],
        [some (t0, true), some (S, false), some (.lst (F ++ [.leaf (.int (P (k + 1)))]), false), some (.leaf (.int k1), false), some (.leaf (.int (k1 * P (k + 1))), false), none, none], by rw [hF, hk1]; simp, ?_, _, _, _, by rw [hF2]⟩
      simp [hx, -v_call1, hz, hdv, -v_fdiv])
  obtain ⟨x, y, z, rfl⟩ := h2
  have h0 : nT (row 1 P) = [.leaf (.int 1)] := by simp [row, hP]
  rw [h0, hS] at h1
  rw [← ht0]
  simp [m_law_lots_of, hx0, -v_lcX, hr0, h1]
  simp [rngD]
theorem law_lotm_ok {L : Nat} {c : Sr} {p q r : Nat} (hL : L ≤ 12) (hc : c 0 = 1) (bc : bd (L + 1) c p) (bs : bd (L + 1) (lg c) q) (bm : bd (L + 1) (lm (lg c)) r) (hpq : p + q < 900000) (hr9 : r < 900000) :
    m_law_lot_makers [T (row (L + 1) c)] = .ok (T (row L (sh (lm (lg c))))) [] := by
  obtain ⟨s, hs⟩ : ∃ s, s = lg c := ⟨_, rfl⟩
  rw [← hs] at bs bm ⊢
  obtain ⟨e', h1, h2⟩ := forL_0 (g := Vs.stN 3)
    (f := (seqS (asS 4 (Vs.bin subD (mulX (nm 3) (ixX (nm 0) (nm 3))) (call1 (atom1 sumD) (lcX [5] (rng2I [(ct (.int 1)), (nm 3)]) (Vs.stN 5) ytt (mulX (ixX (nm 1) (Vs.bin subD (nm 5) (ct (.int 1)))) (ixX (nm 0) (Vs.bin subD (nm 3) (nm 5))))))))
  (seqS (exS (apX 2 (Vs.bin fdivD (Vs.bin subD (nm 4) (callX m_law_by_divisors [true, false] [(nm 2), (nm 3)])) (nm 3))))
  (seqS (exS (apX 1 (nm 4)))
  nxS))))
    (ds := rngD 1 L) (e := [some (T (row (L + 1) c), true), some (.lst [], false), some (.lst [], false), none, none, none])
    (P := fun i e => ∃ x y z, e = [some (T (row (L + 1) c), true), some (.lst (nT (row i (sh s))), false), some (.lst (nT (row i (sh (lm s)))), false), x, y, z]) ⟨none, none, none, rfl⟩ (by
      rintro k d e hd ⟨x, y, z, rfl⟩
      have hi : k < L := by simpa [rngD] using lt_of_at hd
      have hd' : d = .int (1 + (k : Nat)) := by
        simp only [rngD, List.getElem?_map, List.getElem?_range hi, Option.map_some, Option.some.injEq] at hd
        rw [← hd]
      subst hd'
      obtain ⟨t0, ht0⟩ : ∃ t0, t0 = T (row (L + 1) c) := ⟨_, rfl⟩
      obtain ⟨F, hF⟩ : ∃ F, F = nT (row k (sh (lm s))) := ⟨_, rfl⟩
      obtain ⟨S, hS⟩ : ∃ S, S = nT (row k (sh s)) := ⟨_, rfl⟩
      have hFl : F.length = k := by rw [hF]; simp [nT]
      have hSl : S.length = k := by rw [hS]; simp [nT]
      obtain ⟨k1, hk1⟩ : ∃ k1, k1 = 1 + (k : Int) := ⟨_, rfl⟩
      have hlc : lcL [5] (Vs.stN 5) ytt (mulX (ixX (nm 1) (Vs.bin subD (nm 5) (ct (.int 1)))) (ixX (nm 0) (Vs.bin subD (nm 3) (nm 5)))) (rngD 1 k) [] [some (t0, true), some (.lst S, false), some (.lst F, false), some (.leaf (.int k1), false), y, none] =
          .ok (nT ((List.range k).map fun j => sh s j * c (k - j))) [some (t0, true), some (.lst S, false), some (.lst F, false), some (.leaf (.int k1), false), y, none] := by
        refine lcL_rng _ _ _ _ _ 1 k _ (fun j hj => ?_) (small13 (by omega))
        have t1 : tat (.lst S) ((1 + (j : Int)) - 1) = some (.int (sh s j)) := by
          rw [hS]
          have := tat_lrow (L := k) (a := sh s) (i := (1 + (j : Int)) - 1) (by omega) (by omega)
          rw [show ((1 + (j : Int)) - 1).toNat = j by omega] at this
          exact this
        have t2 : tat t0 (k1 - (1 + (j : Int))) = some (.int (c (k - j))) := by
          rw [ht0, hk1]
          have := tat_row (L := L + 1) (a := c) (i := (1 + (k : Int)) - (1 + (j : Int))) (by omega) (by omega)
          rw [show ((1 + (k : Int)) - (1 + (j : Int))).toNat = k - j by omega] at this
          exact this
        have hm := mul_ok (x := sh s j) (bs (j + 1) (by omega)) (bc (k - j) (by omega)) (by omega)
        obtain ⟨j1, hj1⟩ : ∃ j1, j1 = 1 + (j : Int) := ⟨_, rfl⟩
        rw [← hj1] at t1 t2
        obtain ⟨e2, he2⟩ : ∃ e2, e2 = [some (t0, true), some (Tr.lst S, false), some (Tr.lst F, false), some (Tr.leaf (PyData.int k1), false), y, some (Tr.leaf (PyData.int j1), false)] := ⟨_, rfl⟩
        refine ⟨e2, e2, e2, by rw [he2]; simp [hj1], rfl, by rw [he2]; simp [t1, t2, v_muli hm], by rw [he2]; simp⟩
      have hr : rng2I [(ct (.int 1)), (nm 3)] [some (t0, true), some (.lst S, false), some (.lst F, false), some (.leaf (.int k1), false), y, z] =
          .ok (rngD 1 k) [some (t0, true), some (.lst S, false), some (.lst F, false), some (.leaf (.int k1), false), y, z] :=
        rng2_ok (i := 1) (j := k1) (okR_of (by omega) (by omega)) (okR_of (by omega) (by omega)) (by omega) (by simp)
      have hx := sum_ok (lcX_ok (vs := [5]) hr hlc) rfl
      have tk : tat t0 k1 = some (.int (c (k + 1))) := by
        rw [ht0, hk1]
        have := tat_row (L := L + 1) (a := c) (i := 1 + (k : Int)) (by omega) (by omega)
        rw [show (1 + (k : Int)).toNat = k + 1 by omega] at this
        exact this
      have hmk := mul_ok (x := k1) (y := c (k + 1)) (p := 10) (q := p) (by omega) (bc (k + 1) (by omega)) (by omega)
      have ho := own_sum hc k
      rw [show ((k + 1 : Nat) : Int) = k1 by omega, ← hs] at ho
      have hzF : ltZ F.length := ltZ_of (by omega)
      have hzS : ltZ S.length := ltZ_of (by omega)
      have hlenF : lenD (Tr.lst F).view = some (.int (k : Int)) := by
        rw [hF, view_lst, nT_eq, views_map, List.map_map]
        simp [Function.comp_def]
      have dv := by_div_ok (k := k) (n := k + 1) (m := lm s) (p := r) (t := .lst F) (fun i h0 h1 => by rw [hF]; exact tat_lrow (L := k) (a := sh (lm s)) h0 h1) hlenF (by omega) (by omega) (fun i h1 h2 => bm i (by omega)) hr9
      rw [show min (k + 1) k = k by omega, show ((k + 1 : Nat) : Int) = k1 by omega] at dv
      have hdiv : fdivD (.int (s (k + 1) - dsum (lm s) k (k + 1))) (.int k1) = some (.int (sh (lm s) k)) := by
        rw [fdiv_ok (by omega) (by omega)]
        have := lm_succ s k
        rw [show ((k + 1 : Nat) : Int) = k1 by omega] at this
        exact congrArg (fun z => some (PyData.int z)) this.symm
      obtain ⟨sm, hsm⟩ : ∃ sm, sm = ((List.range k).map fun j => sh s j * c (k - j)).sum := ⟨_, rfl⟩
      rw [← hsm] at hx ho
      have e1 : asS 4 (Vs.bin subD (mulX (nm 3) (ixX (nm 0) (nm 3))) (call1 (atom1 sumD) (lcX [5] (rng2I [(ct (.int 1)), (nm 3)]) (Vs.stN 5) ytt (mulX (ixX (nm 1) (Vs.bin subD (nm 5) (ct (.int 1)))) (ixX (nm 0) (Vs.bin subD (nm 3) (nm 5)))))))
          [some (t0, true), some (.lst S, false), some (.lst F, false), some (.leaf (.int k1), false), y, z] = .ok .nx [some (t0, true), some (.lst S, false), some (.lst F, false), some (.leaf (.int k1), false), some (.leaf (.int (s (k + 1))), false), none] := by
        rw [← ho]
        simp [hx, -v_call1, tk, v_muli hmk]
      have e2 : exS (apX 2 (Vs.bin fdivD (Vs.bin subD (nm 4) (callX m_law_by_divisors [true, false] [(nm 2), (nm 3)])) (nm 3))) [some (t0, true), some (.lst S, false), some (.lst F, false), some (.leaf (.int k1), false), some (.leaf (.int (s (k + 1))), false), none] =
          .ok .nx [some (t0, true), some (.lst S, false), some (.lst (F ++ [.leaf (.int (sh (lm s) k))]), false), some (.leaf (.int k1), false), some (.leaf (.int (s (k + 1))), false), none] := by
        simp [dv, hdiv, hzF, -v_fdiv]
      have e3 : ∀ G : Tr, exS (apX 1 (nm 4)) [some (t0, true), some (.lst S, false), some (G, false), some (.leaf (.int k1), false), some (.leaf (.int (s (k + 1))), false), none] =
          .ok .nx [some (t0, true), some (.lst (S ++ [.leaf (.int (s (k + 1)))]), false), some (G, false), some (.leaf (.int k1), false), some (.leaf (.int (s (k + 1))), false), none] := fun G => by
        simp [hzS]
      have hF2 : nT (row (k + 1) (sh (lm s))) = F ++ [.leaf (.int (sh (lm s) k))] := by
        rw [row_succ, hF]
        simp [nT]
      have hS2 : nT (row (k + 1) (sh s)) = S ++ [.leaf (.int (s (k + 1)))] := by
        rw [row_succ, hS]
        simp [nT, sh]
      refine ⟨[some (t0, true), some (.lst S, false), some (.lst F, false), some (.leaf (.int k1), false), y, z],
        [some (t0, true), some (.lst (S ++ [.leaf (.int (s (k + 1)))]), false), some (.lst (F ++ [.leaf (.int (sh (lm s) k))]), false), some (.leaf (.int k1), false), some (.leaf (.int (s (k + 1))), false), none], by simp [ht0, hF, hS, hk1], ?_, _, _, _, by rw [ht0, hF2, hS2]⟩
      simp only [v_seq, e1, e2, e3, bind_ok, v_nx])
  obtain ⟨x, y, z, rfl⟩ := h2
  have hr := rng2_ok (n := L) (i := 1) (j := ((L + 1 : Nat) : Int)) (okR_of (by omega) (by omega)) (okR_of (by omega) (by omega)) (by omega) (fs := [(ct (.int 1)), (call1 (atom1 lenD) (nm 0))]) (e0 := [some (T (row (L + 1) c), true), some (.lst [], false), some (.lst [], false), none, none, none])
    (e := [some (T (row (L + 1) c), true), some (.lst [], false), some (.lst [], false), none, none, none]) (by simp)
  simp [m_law_lot_makers, hr, h1]
  simp [rngD]
end Hd

set_option Elab.async false
set_option linter.all false
set_option maxRecDepth 100000
set_option maxHeartbeats 2000000
/-! Lr: counts and makers lead back (k70). -/
namespace Hd
open PySem PySem.Spec L2 Vs
open PyProof.Rows hiding St
open Ser
structure Cnt (c : Sr) : Prop where
  one : c 0 = 1
  b : ∀ i, (c i).natAbs < 2 ^ 100
theorem Cnt.ivs {c : Sr} (h : Cnt c) : bd 13 (iv c) 1249 := bd_iv (by decide) fun i _ => h.b i
theorem Cnt.rmks {c : Sr} (h : Cnt c) : bd 13 (rmk c) 1250 := fun i hi => by
  have h1 := h.ivs i hi
  have e : rmk c i = u1 i + -1 * iv c i := rfl
  have : (u1 i).natAbs ≤ 1 := by
    unfold u1
    split <;> decide
  rw [e, Nat.pow_succ]
  omega
theorem Cnt.lgs {c : Sr} (h : Cnt c) : bd 13 (lg c) 1357 := bd_cv (by decide) (bd_th (by decide) fun i _ => h.b i) h.ivs
theorem Cnt.lms {c : Sr} (h : Cnt c) : bd 13 (lm (lg c)) 1461 := bd_lm (by decide) h.lgs
theorem Cnt.rowm {c : Sr} (h : Cnt c) {L : Nat} (hL : L ≤ 12) : m_row_makers [T (row (L + 1) c)] = .ok (T (row L (sh (rmk c)))) [] :=
  rowm_ok (p := 100) hL h.one (fun i _ => h.b i) (bd_less h.rmks (by omega)) (by decide)
theorem Cnt.lotm {c : Sr} (h : Cnt c) {L : Nat} (hL : L ≤ 12) : m_lot_makers [T (row (L + 1) c)] = .ok (T (row L (sh (lm (lg c))))) [] :=
  lotm_ok (p := 100) hL h.one (fun i _ => h.b i) (bd_less h.lgs (by omega)) (bd_less h.lms (by omega)) (by decide) (by decide)
theorem Cnt.llotm {c : Sr} (h : Cnt c) {L : Nat} (hL : L ≤ 12) : m_law_lot_makers [T (row (L + 1) c)] = .ok (T (row L (sh (lm (lg c))))) [] :=
  law_lotm_ok (p := 100) hL h.one (fun i _ => h.b i) (bd_less h.lgs (by omega)) (bd_less h.lms (by omega)) (by decide) (by decide)
theorem row_makers_right {c : Sr} (h : Cnt c) {L : Nat} (hL : L ≤ 12) : m_law_are_row_makers_right [T (row (L + 1) c)] = .ok (.leaf (.bool true)) [] := by
  have h1 := h.rowm hL
  have h2 := h1
  rw [← rmk_is] at h2
  have h3 := rows_ok (L := L) (M := rmk c) (p := 1250) (q := 100) hL (fun i a b => h.rmks i (by omega)) (by rw [rws_rmk h.one]; exact fun i _ => h.b i) (by decide)
  rw [rws_rmk h.one] at h3
  have s1 := srow (L := L) (a := sh (rmk c)) (by omega)
  have s2 := srow (L := L + 1) (a := c) (by omega)
  have hh := handed (row L (sh (rmk c))) (by simp; omega)
  generalize few (row L (sh (rmk c))) = fw at *
  generalize row L (sh (rmk c)) = A at *
  generalize row (L + 1) c = B at *
  cases fw <;> simp [m_law_are_row_makers_right, h1, h2, h3, s1, s2, hh, prm]
theorem lot_makers_right {c : Sr} (h : Cnt c) {L : Nat} (hL : L ≤ 12) : m_law_are_lot_makers_right [T (row (L + 1) c)] = .ok (.leaf (.bool true)) [] := by
  have h1 := h.lotm hL
  have h2 := h.llotm hL
  have h3 := lots_ok (L := L) (m := lm (lg c)) (P := c) (p := 1461) (r := 100) hL h.one (fun n a b => (lot_exact h.one n a).symm) (fun i a b => h.lms i (by omega)) (fun i _ => h.b i) (by decide)
  have s1 := srow (L := L) (a := sh (lm (lg c))) (by omega)
  have s2 := srow (L := L + 1) (a := c) (by omega)
  have hh := handed (row L (sh (lm (lg c)))) (by simp; omega)
  generalize few (row L (sh (lm (lg c)))) = fw at *
  generalize row L (sh (lm (lg c))) = A at *
  generalize row (L + 1) c = B at *
  cases fw <;> simp [m_law_are_lot_makers_right, h1, h2, h3, s1, s2, hh, prm]
theorem counts_right {c : Sr} (h : Cnt c) {L : Nat} (hL : L ≤ 12) : m_law_are_counts_right [T (row (L + 1) c)] = .ok (.leaf (.bool true)) [] := by
  have h1 := row_makers_right h hL
  have h2 := lot_makers_right h hL
  generalize row (L + 1) c = B at *
  simp [m_law_are_counts_right, h1, h2]
theorem rmk_rws {M : Sr} (h : M 0 = 0) : rmk (rws M) = M := funext fun n => by
  have e : iv (rws M) = one_ M := iv_iv (one_zero h)
  simp only [rmk, Ser.ad, sm, e, one_]
  omega
theorem rows_right {M : Sr} (h : Mak M) {L : Nat} (hL : L ≤ 12) : m_law_are_rows_right [T (row L (sh M))] = .ok (.leaf (.bool true)) [] := by
  have h1 := h.rows_of hL
  have h2 := h1
  rw [← rof_is] at h2
  have h3 := rowm_ok (L := L) (c := rws M) (p := 1261) (q := 100) hL rfl (bd_less h.rows (by omega)) (by rw [rmk_rws h.z]; exact fun i _ => h.b i) (by decide)
  rw [rmk_rws h.z] at h3
  have s1 := srow (L := L) (a := sh M) (by omega)
  have s2 := srow (L := L + 1) (a := rws M) (by omega)
  have hh := handed (row (L + 1) (rws M)) (by simp; omega)
  generalize few (row (L + 1) (rws M)) = fw at *
  generalize row (L + 1) (rws M) = A at *
  generalize row L (sh M) = B at *
  cases fw <;> simp [m_law_are_rows_right, h1, h2, h3, s1, s2, hh, prm]
/-- the lots of makers -/
theorem lots_of_P {M P : Sr} (h : Mak M) {L : Nat} (hL : L ≤ 12) (hP : P 0 = 1) (hl : ∀ n, 1 ≤ n → n ≤ L → lg P n = dS M n) : bd (L + 1) P 1393 ∧
    m_lots_of_makers [T (row L (sh M))] = .ok (T (row (L + 1) P)) [] ∧ m_law_lots_of [T (row L (sh M))] = .ok (T (row (L + 1) P)) [T (row L (sh M))] ∧ m_lot_makers [T (row (L + 1) P)] = .ok (T (row L (sh M))) [] := by
  have hb : ∀ n, 1 ≤ n → n ≤ L → (dS M n).natAbs < 2 ^ (100 + 8) := fun n a b => dsum_lt (by omega) fun i _ _ => h.b i
  have bp : bd (L + 1) P 1393 := fun i hi => Nat.lt_of_lt_of_le (bd_lots hP hL hl hb i (by omega)) (Nat.pow_le_pow_right (by decide) (by omega))
  have hlm := lot_of hP hl
  have hg : bd (L + 1) (lg P) 108 := fun i hi => by
    cases i with
    | zero =>
      rw [lg_zero]
      decide
    | succ i =>
      rw [hl (i + 1) (by omega) (by omega)]
      exact hb (i + 1) (by omega) (by omega)
  have hm : bd (L + 1) (lm (lg P)) 100 := fun i hi => by
    cases i with
    | zero =>
      show (0 : Int).natAbs < 2 ^ 100
      decide
    | succ i =>
      rw [hlm (i + 1) (by omega) (by omega)]
      exact h.b _
  have h3 := lotm_ok (L := L) (c := P) (p := 1393) (q := 108) (r := 100) hL hP bp hg hm (by decide) (by decide)
  rw [row_congr (L := L) (a := sh (lm (lg P))) (b := sh M) fun i hi => hlm (i + 1) (by omega) (by omega)] at h3
  exact ⟨bp, lots_ok hL hP hl (fun i _ _ => h.b i) bp (by decide), law_lots_ok hL hP hl (fun i _ _ => h.b i) bp (by decide), h3⟩
theorem lots_of_mak {M : Sr} (h : Mak M) {L : Nat} (hL : L ≤ 12) : ∃ P : Sr, P 0 = 1 ∧ (∀ n, 1 ≤ n → n ≤ L → lg P n = dS M n) ∧ bd (L + 1) P 1393 ∧
    m_lots_of_makers [T (row L (sh M))] = .ok (T (row (L + 1) P)) [] ∧ m_law_lots_of [T (row L (sh M))] = .ok (T (row (L + 1) P)) [T (row L (sh M))] ∧ m_lot_makers [T (row (L + 1) P)] = .ok (T (row L (sh M))) [] := by
  obtain ⟨P, hP, hl⟩ := lots_exists M L
  exact ⟨P, hP, hl, lots_of_P h hL hP hl⟩
theorem row_back {M : Sr} (h : Mak M) {L : Nat} (hL : L ≤ 12) : m_row_makers [T (row (L + 1) (rws M))] = .ok (T (row L (sh M))) [] := by
  have h3 := rowm_ok (L := L) (c := rws M) (p := 1261) (q := 100) hL rfl (bd_less h.rows (by omega)) (by rw [rmk_rws h.z]; exact fun i _ => h.b i) (by decide)
  rw [rmk_rws h.z] at h3
  exact h3
theorem lots_right {M : Sr} (h : Mak M) {L : Nat} (hL : L ≤ 12) : m_law_are_lots_right [T (row L (sh M))] = .ok (.leaf (.bool true)) [T (row L (sh M))] := by
  obtain ⟨P, _, _, _, h1, h2, h3⟩ := lots_of_mak h hL
  have s1 := srow (L := L) (a := sh M) (by omega)
  have s2 := srow (L := L + 1) (a := P) (by omega)
  have hh := handed (row (L + 1) P) (by simp; omega)
  generalize few (row (L + 1) P) = fw at *
  generalize row (L + 1) P = A at *
  generalize row L (sh M) = B at *
  cases fw <;> simp [m_law_are_lots_right, h1, h2, h3, s1, s2, hh, prm]
theorem makers_right {M : Sr} (h : Mak M) {L : Nat} (hL : L ≤ 12) : m_law_are_makers_right [T (row L (sh M))] = .ok (.leaf (.bool true)) [T (row L (sh M))] := by
  have h1 := rows_right h hL
  have h2 := lots_right h hL
  generalize row L (sh M) = B at *
  simp [m_law_are_makers_right, h1, h2]
theorem makers_row {L : Nat} {a : Sr} (hL : L ≤ 12) (h : ∀ i, 1 ≤ i → i ≤ L → (a i).natAbs < 2 ^ 100) : m_law_are_makers_right [T (row L (sh a))] = .ok (.leaf (.bool true)) [T (row L (sh a))] := by
  have := makers_right (mak_cut h) hL
  rw [row_cutM] at this
  exact this
/-- counts as they were handed in -/
def Cs (l : List Int) : Sr := fun i => (1 :: l).getD i 0
theorem row_cs (l : List Int) : row (l.length + 1) (Cs l) = 1 :: l := by
  apply List.ext_getElem?
  intro i
  by_cases hi : i < l.length + 1
  · rw [row_at hi, List.getElem?_eq_getElem (by simpa using hi)]
    simp [Cs, List.getD_eq_getElem?_getD, List.getElem?_eq_getElem (show i < (1 :: l).length by simpa using hi)]
  · rw [List.getElem?_eq_none (by simp; omega), List.getElem?_eq_none (by simp; omega)]
theorem cnt_cs {l : List Int} (h : ∀ v ∈ l, v.natAbs < 2 ^ 100) : Cnt (Cs l) := ⟨rfl, fun i => by
  unfold Cs
  rw [List.getD_eq_getElem?_getD]
  cases q : (1 :: l)[i]? with
  | none => decide
  | some v =>
    have hm := List.mem_of_getElem? q
    rcases List.mem_cons.mp hm with rfl | hm
    · decide
    · exact h v hm⟩
theorem cnt_cut {L : Nat} {a : Sr} (h1 : a 0 = 1) (h : ∀ i, i ≤ L → (a i).natAbs < 2 ^ 100) : Cnt (fun i => if i ≤ L then a i else 0) ∧ row (L + 1) (fun i => if i ≤ L then a i else 0) = row (L + 1) a :=
  ⟨⟨by simp [h1], fun i => by
    split
    · rename_i q
      exact h i q
    · decide⟩, row_congr fun i hi => if_pos (by omega)⟩
theorem counts_row {L : Nat} {a : Sr} (hL : L ≤ 12) (h1 : a 0 = 1) (h : ∀ i, i ≤ L → (a i).natAbs < 2 ^ 100) : m_law_are_counts_right [T (row (L + 1) a)] = .ok (.leaf (.bool true)) [] := by
  obtain ⟨h2, h3⟩ := cnt_cut h1 h
  have := counts_right h2 hL
  rw [h3] at this
  exact this
end Hd

set_option Elab.async false
set_option linter.all false
set_option maxRecDepth 1000000
set_option maxHeartbeats 0
/-! Ck: few makers, all of them looked through (k70). -/
namespace Hd
open PySem PySem.Spec L2 Vs
open Ser
def cP (n : Nat) : Int × Int := (((n / 3 : Nat) : Int), ((n % 3 : Nat) : Int))
def sortedB (xs : List Nat) : Bool := decide (srtP SrtO.lexB (xs.map cP) = xs.map cP)
def sL (l : List Int) : Sr := fun i => l.getD i 0
def byRows (rs : List (List (List Nat))) : List Int := rs.map fun lv => (lv.length : Int)
def byLots (rs : List (List (List Nat))) : List Int := rs.map fun lv => ((lv.filter sortedB).length : Int)
def chk (ms : List Nat) : Bool :=
  let rs := rowsP (piecesFrom 0 ms) ms.length
  rs.all (fun lv => decide (lv.length ≤ 600) && lv.all fun r => decide (r.length ≤ 20)) && (decide (byRows rs = row (ms.length + 1) (rws (Mn ms))) &&
    (decide (sL (byLots rs) 0 = 1) && (List.range ms.length).all fun i => decide (lg (sL (byLots rs)) (i + 1) = dsum (Mn ms) (i + 1) (i + 1))))
theorem chk2 : (allMs 2).all chk = true := by decide +kernel
theorem chk3 : (allMs 3).all chk = true := by decide +kernel
theorem chk4 : (allMs 4).all chk = true := by decide +kernel
def cut5 (i : Nat) : List (List Nat) := ((allMs 5).drop (27 * i)).take 27
theorem chk5_0 : (cut5 0).all chk = true := by decide +kernel
theorem chk5_1 : (cut5 1).all chk = true := by decide +kernel
theorem chk5_2 : (cut5 2).all chk = true := by decide +kernel
theorem chk5_3 : (cut5 3).all chk = true := by decide +kernel
theorem chk5_4 : (cut5 4).all chk = true := by decide +kernel
theorem chk5_5 : (cut5 5).all chk = true := by decide +kernel
theorem chk5_6 : (cut5 6).all chk = true := by decide +kernel
theorem chk5_7 : (cut5 7).all chk = true := by decide +kernel
theorem chk5_8 : (cut5 8).all chk = true := by decide +kernel
theorem len5 : (allMs 5).length ≤ 27 * 9 := by decide +kernel
theorem all_cut {α : Type} (p : α → Bool) (l : List α) (n : Nat) : ∀ m, (∀ i, i < m → ((l.drop (n * i)).take n).all p = true) → (l.take (n * m)).all p = true
  | 0, _ => by simp
  | m + 1, h => by
    have h1 := all_cut p l n m fun i hi => h i (Nat.lt_succ_of_lt hi)
    have h2 := h m (Nat.lt_succ_self m)
    rw [Nat.mul_succ, List.take_add, List.all_append, h1, h2]; rfl
theorem chk5 : (allMs 5).all chk = true := by
  have h := all_cut chk (allMs 5) 27 9 fun i hi => by
    match i, hi with
    | 0, _ => exact chk5_0
    | 1, _ => exact chk5_1
    | 2, _ => exact chk5_2
    | 3, _ => exact chk5_3
    | 4, _ => exact chk5_4
    | 5, _ => exact chk5_5
    | 6, _ => exact chk5_6
    | 7, _ => exact chk5_7
    | 8, _ => exact chk5_8
    | n + 9, hi => exact absurd hi (by omega)
  rwa [List.take_of_length_le len5] at h
end Hd

set_option Elab.async false
set_option linter.all false
set_option maxRecDepth 1000000
set_option maxHeartbeats 0
/-! Ck6: makers of six sizes (k70), in parts: the kernel's memory has a limit at the hand-in. -/
namespace Hd
def cut6 (i : Nat) : List (List Nat) := ((allMs 6).drop (27 * i)).take 27
theorem chk6_0 : (cut6 0).all chk = true := by decide +kernel
theorem chk6_1 : (cut6 1).all chk = true := by decide +kernel
theorem chk6_2 : (cut6 2).all chk = true := by decide +kernel
theorem chk6_3 : (cut6 3).all chk = true := by decide +kernel
theorem chk6_4 : (cut6 4).all chk = true := by decide +kernel
theorem chk6_5 : (cut6 5).all chk = true := by decide +kernel
theorem chk6_6 : (cut6 6).all chk = true := by decide +kernel
theorem chk6_7 : (cut6 7).all chk = true := by decide +kernel
theorem chk6_8 : (cut6 8).all chk = true := by decide +kernel
theorem chk6_9 : (cut6 9).all chk = true := by decide +kernel
theorem chk6_10 : (cut6 10).all chk = true := by decide +kernel
theorem chk6_11 : (cut6 11).all chk = true := by decide +kernel
theorem chk6_12 : (cut6 12).all chk = true := by decide +kernel
theorem chk6_13 : (cut6 13).all chk = true := by decide +kernel
theorem chk6_14 : (cut6 14).all chk = true := by decide +kernel
theorem chk6_15 : (cut6 15).all chk = true := by decide +kernel
theorem chk6_16 : (cut6 16).all chk = true := by decide +kernel
theorem chk6_17 : (cut6 17).all chk = true := by decide +kernel
theorem chk6_18 : (cut6 18).all chk = true := by decide +kernel
theorem chk6_19 : (cut6 19).all chk = true := by decide +kernel
theorem chk6_20 : (cut6 20).all chk = true := by decide +kernel
theorem chk6_21 : (cut6 21).all chk = true := by decide +kernel
theorem chk6_22 : (cut6 22).all chk = true := by decide +kernel
theorem chk6_23 : (cut6 23).all chk = true := by decide +kernel
theorem chk6_24 : (cut6 24).all chk = true := by decide +kernel
theorem chk6_25 : (cut6 25).all chk = true := by decide +kernel
theorem chk6_26 : (cut6 26).all chk = true := by decide +kernel
theorem len6 : (allMs 6).length ≤ 27 * 27 := by decide +kernel
theorem chk6 : (allMs 6).all chk = true := by
  have h := all_cut chk (allMs 6) 27 27 fun i hi => by
    match i, hi with
    | 0, _ => exact chk6_0
    | 1, _ => exact chk6_1
    | 2, _ => exact chk6_2
    | 3, _ => exact chk6_3
    | 4, _ => exact chk6_4
    | 5, _ => exact chk6_5
    | 6, _ => exact chk6_6
    | 7, _ => exact chk6_7
    | 8, _ => exact chk6_8
    | 9, _ => exact chk6_9
    | 10, _ => exact chk6_10
    | 11, _ => exact chk6_11
    | 12, _ => exact chk6_12
    | 13, _ => exact chk6_13
    | 14, _ => exact chk6_14
    | 15, _ => exact chk6_15
    | 16, _ => exact chk6_16
    | 17, _ => exact chk6_17
    | 18, _ => exact chk6_18
    | 19, _ => exact chk6_19
    | 20, _ => exact chk6_20
    | 21, _ => exact chk6_21
    | 22, _ => exact chk6_22
    | 23, _ => exact chk6_23
    | 24, _ => exact chk6_24
    | 25, _ => exact chk6_25
    | 26, _ => exact chk6_26
    | n + 27, hi => exact absurd hi (by omega)
  rwa [List.take_of_length_le len6] at h
end Hd

set_option Elab.async false
set_option linter.all false
set_option maxRecDepth 100000
set_option maxHeartbeats 2000000
/-! Th3: few makers are right (k70). -/
namespace Hd
open PySem PySem.Spec L2 Vs
open PyProof.Rows hiding St
open Ser
@[simp] theorem v_srt (r : Rv) (e : Nv) : srtV r e = match ritems r e with
  | some (_, ds) => (match prKs ds with
    | some ps => .ok (.tmp (.lst (((srtP SrtO.lexB ps).map Vs.prD).map .leaf))) e
    | none => .bad)
  | none => .bad := id rfl
theorem fP_pr (n : Nat) : fP n = Vs.prD (cP n) := rfl
theorem prKs_map : ∀ xs : List Nat, prKs (xs.map fP) = some (xs.map cP)
  | [] => rfl
  | x :: xs => by
    rw [List.map_cons]
    unfold prKs
    rw [prKs_map xs]
    rfl
theorem eqvAll_pr : ∀ ps qs : List (Int × Int), PyData.eqvAll (ps.map Vs.prD) (qs.map Vs.prD) = decide (ps = qs)
  | [], [] => by simp [PyData.eqvAll]
  | [], _ :: _ => by simp [PyData.eqvAll]
  | _ :: _, [] => by simp [PyData.eqvAll]
  | p :: ps, q :: qs => by
    rw [List.map_cons, List.map_cons]
    unfold PyData.eqvAll
    rw [eqvAll_pr ps qs]
    have : PyData.eqv (Vs.prD p) (Vs.prD q) = decide (p = q) := by
      simp only [Vs.prD, PyData.eqv, PyData.eqvAll]
      rw [Bool.eq_iff_iff]
      simp [Prod.ext_iff]
    rw [this, Bool.eq_iff_iff]
    simp
theorem shaped_prs (ps : List (Int × Int)) : SeqAt.shaped (.list (ps.map Vs.prD)) = true := by
  have h : ∀ ps : List (Int × Int), PyData.canLayAll0 (ps.map Vs.prD) = true ∧ PyData.depthAll (ps.map Vs.prD) ≤ 2 := by
    intro ps
    induction ps with
    | nil => exact ⟨rfl, by simp [PyData.depthAll]⟩
    | cons x xs ih =>
      refine ⟨?_, ?_⟩
      · simp only [List.map_cons, PyData.canLayAll0, ih.1, Vs.prD, PyData.canLay0, Bool.and_self]
      · simp only [List.map_cons, PyData.depthAll, Vs.prD, PyData.depth]
        have := ih.2
        omega
  unfold SeqAt.shaped PyData.canLay0 PyData.depth
  rw [(h ps).1]
  have := (h ps).2
  simp
  omega
theorem sorted_eq (ps qs : List (Int × Int)) : eqD false (.list (ps.map Vs.prD)) (.list (qs.map Vs.prD)) = some (.bool (decide (ps = qs))) := by
  unfold eqD
  rw [shaped_prs, shaped_prs]
  simp [PyData.eqv, eqvAll_pr]
/-- the sorted ones of a size -/
theorem sorted_list {lv : List (List Nat)} (hl : lv.length ≤ 600) (x0 x1 x2 x3 x4 x5 x6 : Option (Tr × Bool)) :
    lcX [8] (sqI (nm 7)) (Vs.stN 8) (tst (Vs.bin (eqD false) (call1 srtV (nm 8)) (call1 lstV (nm 8)))) (nm 8) [x0, x1, x2, x3, x4, x5, x6, some (.leaf (lvD lv), false), none] =
      .ok (.tmp (.lst ((lv.filter sortedB).map lf))) [x0, x1, x2, x3, x4, x5, x6, some (.leaf (lvD lv), false), none] := by
  obtain ⟨E, hE⟩ : ∃ E : Nv, E = [x0, x1, x2, x3, x4, x5, x6, some (.leaf (lvD lv), false), none] := ⟨_, rfl⟩
  have hlc := lcL_f (fun r : List Nat => PyData.tuple (r.map fP)) sortedB (fun r => .tuple (r.map fP)) [8] (Vs.stN 8) (tst (Vs.bin (eqD false) (call1 srtV (nm 8)) (call1 lstV (nm 8)))) (nm 8) E lv [] (fun r _ => by
    have k1 := prKs_map r
    have hq := sorted_eq (srtP SrtO.lexB (r.map cP)) (r.map cP)
    have hm : (r.map cP).map Vs.prD = r.map fP := by
      rw [List.map_map]
      rfl
    have hv : ∀ ds : List D, Tr.views (ds.map Tr.leaf) = ds := fun ds => by
      rw [views_map, List.map_map]
      exact List.map_id' ds
    have hb : decide (srtP SrtO.lexB (r.map cP) = r.map cP) = sortedB r := rfl
    rw [hm, hb] at hq
    have hsr : ∀ y7 : Option (Tr × Bool), srtV (.at 8) [x0, x1, x2, x3, x4, x5, x6, y7, some (.leaf (.tuple (r.map fP)), false)] = .ok (.tmp (.lst (((srtP SrtO.lexB (r.map cP)).map Vs.prD).map .leaf))) [x0, x1, x2, x3, x4, x5, x6, y7, some (.leaf (.tuple (r.map fP)), false)] := fun y7 => by
      rw [v_srt]
      have hri : ritems (.at 8) [x0, x1, x2, x3, x4, x5, x6, y7, some (.leaf (.tuple (r.map fP)), false)] = some (true, r.map fP) := by
        generalize r.map fP = Q
        simp
      rw [hri]
      simp only [k1]
    have v1 := hv ((srtP SrtO.lexB (r.map cP)).map Vs.prD)
    have v2 := hv (r.map fP)
    generalize srtP SrtO.lexB (r.map cP) = SP at *
    generalize hS1 : SP.map Vs.prD = S1 at *
    generalize hS2 : S1.map Tr.leaf = S2 at *
    generalize r.map fP = Q at *
    generalize hQ2 : Q.map Tr.leaf = Q2 at *
    generalize lvD lv = LV at *
    obtain ⟨e2, he2⟩ : ∃ e2, e2 = [x0, x1, x2, x3, x4, x5, x6, some (Tr.leaf LV, false), some (.leaf (.tuple Q), false)] := ⟨_, rfl⟩
    exact ⟨e2, e2, by rw [he2, hE]; simp, by rw [he2]; simp [hsr, -v_srt, hQ2, v1, v2, hq], fun _ => ⟨e2, by rw [he2]; simp, by rw [he2, hE]; simp⟩, fun _ => by rw [he2, hE]; simp⟩) (by
    have : lv.length ≤ sizeLine := Nat.le_trans hl (by decide)
    simpa using this)
  rw [List.nil_append] at hlc
  have hsq : sqI (nm 7) E = .ok (lv.map fun r => PyData.tuple (r.map fP)) E := by
    rw [hE]
    simp [lvD]
  have hw : wipeE [8] E = E := by rw [hE]; simp
  have hx := lcX_ok (vs := [8]) hsq (by rw [hw]; exact hlc)
  rw [← hE, hx]
  rfl
end Hd

set_option Elab.async false
set_option linter.all false
set_option maxRecDepth 100000
set_option maxHeartbeats 2000000
/-! Th4: few makers are right, whole (k70). -/
namespace Hd
open PySem PySem.Spec L2 Vs
open PyProof.Rows hiding St
open Ser
theorem lcL_t {ι : Type} (f : ι → D) (val : ι → Tr) (vs : List Nat) (g : Sd) (fe : Xp) (e : Nv) : ∀ (l : List ι) (acc : List Tr),
    (∀ i ∈ l, ∃ e1 e3, g (f i) e = some e1 ∧ ow fe e1 = .ok (val i) e3 ∧ wipeE vs e3 = e) → acc.length + l.length ≤ sizeLine → lcL vs g ytt fe (l.map f) acc e = .ok (acc ++ l.map val) e
  | [], acc, _, _ => by simp [lcL]
  | i :: l, acc, h, hl => by
    obtain ⟨e1, e3, h1, h2, h3⟩ := h i (List.mem_cons_self ..)
    rw [List.map_cons]
    unfold lcL
    simp only [List.length_cons] at hl
    rw [h1]
    have ih := lcL_t f val vs g fe e l (acc ++ [val i]) (fun d hd => h d (List.mem_cons_of_mem _ hd)) (by simp; omega)
    simp only [v_ytt, bind_ok, if_true, h2]
    rw [if_pos (by omega), h3, ih]
    simp
theorem row_sL (l : List Int) : row l.length (sL l) = l := by
  apply List.ext_getElem?
  intro i
  by_cases hi : i < l.length
  · rw [row_at hi, List.getElem?_eq_getElem hi]
    simp [sL, List.getD_eq_getElem?_getD, List.getElem?_eq_getElem hi]
  · rw [List.getElem?_eq_none (by simp; omega), List.getElem?_eq_none (by omega)]
/-- how long they are -/
theorem lens_ok {ls : List (List D)} (hl : ls.length ≤ 20) (E : Nv) (f : Xp) (E0 : Nv) (hf : vl f E0 = .ok (.list (ls.map PyData.list)) E) (hw : wipeE [7] E = E)
    (hst : ∀ d, ∃ e1, Vs.stN 7 d E = some e1 ∧ (∀ n, lenD d = some (.int n) → ow (call1 (atom1 lenD) (nm 7)) e1 = .ok (.leaf (.int n)) e1) ∧ wipeE [7] e1 = E) :
    call1 tupV (lcX [7] (sqI f) (Vs.stN 7) ytt (call1 (atom1 lenD) (nm 7))) E0 = .ok (.tmp (T (ls.map fun l => (l.length : Int)))) E := by
  have hlc := lcL_t (fun l : List D => PyData.list l) (fun l => .leaf (.int (l.length : Int))) [7] (Vs.stN 7) (call1 (atom1 lenD) (nm 7)) E ls [] (fun l _ => by
    obtain ⟨e1, h1, h2, h3⟩ := hst (.list l)
    exact ⟨e1, e1, h1, h2 _ rfl, h3⟩) (by
    have : ls.length ≤ sizeLine := Nat.le_trans hl (by decide)
    simpa using this)
  rw [List.nil_append] at hlc
  have hs : sqI f E0 = .ok (ls.map PyData.list) E := by
    rw [v_sqI, hf, bind_ok]
    rfl
  have hx := lcX_ok (vs := [7]) hs (by rw [hw]; exact hlc)
  rw [v_call1, hx, bind_ok]
  have : (ls.map fun l => Tr.leaf (PyData.int (l.length : Int))) = nT (ls.map fun l => (l.length : Int)) := by simp [nT, Function.comp_def]
  rw [this]
  generalize (ls.map fun l => (l.length : Int)) = W
  simp
theorem things_right {t : Tr} (hb : Bag t) : ∃ t', Bag t' ∧ m_law_are_things_right [t] = .ok (.leaf (.bool true)) [t'] := by
  obtain ⟨r, t1, b1, r0, r4, k1⟩ := draw_ok hb (n := 5) (by decide) (by decide)
  obtain ⟨L, hL⟩ : ∃ L : Nat, 2 + r = (L : Int) := ⟨(2 + r).toNat, by omega⟩
  obtain ⟨l, e', n1, n2, ⟨t', n3, rfl⟩, n4⟩ := lcL_turn (vs := [6]) (g := Vs.stN 6) (ft := ytt) (fe := callX m_law_draw [true, false] [(nm 0), (ct (.int 3))]) (P := fun e => ∃ t', Bag t' ∧ e = [some (t', true), none, none, none, none, none, none, none, none])
    (Q := fun v => 0 ≤ v ∧ v < ((3 : Nat) : Int)) (ds := rngD 0 L) (acc := []) (e := [some (t1, true), none, none, none, none, none, none, none, none]) ⟨t1, b1, rfl⟩ (by
      rintro d hd e ⟨t2, hb2, rfl⟩
      obtain ⟨v, t3, l1, l2, l3, l4⟩ := draw_ok hb2 (n := 3) (by decide) (by decide)
      refine ⟨[some (t2, true), none, none, none, none, none, some (.leaf d, false), none, none], [some (t2, true), none, none, none, none, none, some (.leaf d, false), none, none],
        [some (t3, true), none, none, none, none, none, some (.leaf d, false), none, none], v, by simp, rfl, by simp [l4], ⟨l2, by omega⟩, t3, l1, rfl⟩) (by simp [rngD]; exact Nat.le_trans (show L ≤ 100 by omega) (by decide))
  obtain ⟨ms, rfl, hms⟩ := nats_of n2
  have hlen : ms.length = L := by simpa [rngD] using n1
  have hm2 : ∀ m ∈ ms, m ≤ 2 := fun m hm => by have := hms m hm; omega
  have hck : chk ms = true := by
    have hmem := mem_all hm2
    have h : ms.length = 2 ∨ ms.length = 3 ∨ ms.length = 4 ∨ ms.length = 5 ∨ ms.length = 6 := by omega
    rcases h with h | h | h | h | h <;> rw [h] at hmem
    · exact List.all_eq_true.mp chk2 _ hmem
    · exact List.all_eq_true.mp chk3 _ hmem
    · exact List.all_eq_true.mp chk4 _ hmem
    · exact List.all_eq_true.mp chk5 _ hmem
    · exact List.all_eq_true.mp chk6 _ hmem
  unfold chk at hck
  simp only [Bool.and_eq_true, List.all_eq_true, decide_eq_true_eq, List.mem_range] at hck
  obtain ⟨hok, hrows, hl0, hlots⟩ := hck
  have ho : okL (rowsP (piecesFrom 0 ms) ms.length) := fun lv hlv => hok lv hlv
  have md := made_rows_ok hm2 (by omega) ho
  have hM := mak_mn (ms := ms) fun m hm => Nat.lt_of_le_of_lt (hm2 m hm) (by decide)
  have hL12 : ms.length ≤ 12 := by omega
  have ro := hM.rows_of hL12
  have rb := row_back hM hL12
  obtain ⟨rs, hrs⟩ : ∃ rs, rs = rowsP (piecesFrom 0 ms) ms.length := ⟨_, rfl⟩
  rw [← hrs] at md ho hrows hl0 hlots
  have hrl : rs.length = ms.length + 1 := by rw [hrs, rowsP_len]
  have hlo := lots_of_P hM hL12 (P := sL (byLots rs)) hl0 fun n a b => by
    have := hlots (n - 1) (by omega)
    rw [Nat.sub_add_cancel a] at this
    exact this
  obtain ⟨_, lo1, _, lo3⟩ := hlo
  have hbl : row (ms.length + 1) (sL (byLots rs)) = byLots rs := by
    have := row_sL (byLots rs)
    rw [show (byLots rs).length = ms.length + 1 by simp [byLots, hrl]] at this
    exact this
  rw [t_mn] at ro rb lo1 lo3
  rw [← hrows] at ro rb
  rw [hbl] at lo1 lo3
  have s1 := same_row (byRows rs) (by simp [byRows, hrl]; omega)
  have s2 := same_row (byLots rs) (by simp [byLots, hrl]; omega)
  have s3 := same_row (ms.map fun n : Nat => (n : Int)) (by simp; omega)
  have hTm : T (ms.map fun n : Nat => (n : Int)) = .leaf (.tuple (ms.map fI)) := by
    simp [nD, fI, Function.comp_def]
  rw [hTm] at s3
  obtain ⟨M, hMM⟩ : ∃ M, M = PyData.tuple (ms.map fI) := ⟨_, rfl⟩
  rw [← hMM] at md ro rb lo1 lo3 s3
  obtain ⟨RR, hRR⟩ : ∃ RR, RR = Tr.lst (rs.map fun lv => .leaf (lvD lv)) := ⟨_, rfl⟩
  rw [← hRR] at md
  have hRv : RR.view = .list (rs.map lvD) := by
    rw [hRR, view_lst, views_leaf]
  -- the lots
  have hlc := lcL_t lvD (fun lv => .lst ((lv.filter sortedB).map lf)) [7] (Vs.stN 7) (lcX [8] (sqI (nm 7)) (Vs.stN 8) (tst (Vs.bin (eqD false) (call1 srtV (nm 8)) (call1 lstV (nm 8)))) (nm 8)) [some (t', true), some (.leaf M, false), some (.leaf (.list (rs.map lvD)), false), none, none, none, none, none, none] rs [] (fun lv hlv => by
    have hx := sorted_list (ho lv hlv).1 (some (t', true)) (some (.leaf M, false)) (some (.leaf (.list (rs.map lvD)), false)) none none none none
    generalize lvD lv = LV at *
    generalize rs.map lvD = RD at *
    generalize (lv.filter sortedB).map lf = G at *
    exact ⟨[some (t', true), some (.leaf M, false), some (.leaf (.list RD), false), none, none, none, none, some (.leaf LV, false), none], [some (t', true), some (.leaf M, false), some (.leaf (.list RD), false), none, none, none, none, some (.leaf LV, false), none], by simp, by simp [hx, -v_lcX], by simp⟩) (by
    have : rs.length ≤ sizeLine := Nat.le_trans (show rs.length ≤ 100 by omega) (by decide)
    simpa using this)
  rw [List.nil_append] at hlc
  have hsq : sqI (nm 2) [some (t', true), some (.leaf M, false), some (RR, false), none, none, none, none, none, none] = .ok (rs.map lvD) [some (t', true), some (.leaf M, false), some (.leaf (.list (rs.map lvD)), false), none, none, none, none, none, none] := by
    generalize rs.map lvD = RD at *
    simp [hRv]
  have hlT := lcT_ok (vs := [7]) hsq (by simpa using hlc)
  have c1 := lens_ok (ls := rs.map fun lv => lv.map fun r => PyData.tuple (r.map fP)) (by rw [List.length_map]; omega) [some (t', true), some (.leaf M, false), some (.leaf (.list (rs.map lvD)), false), some (.lst (rs.map fun lv => .lst ((lv.filter sortedB).map lf)), false), none, none, none, none, none] (nm 2)
    [some (t', true), some (.leaf M, false), some (.leaf (.list (rs.map lvD)), false), some (.lst (rs.map fun lv => .lst ((lv.filter sortedB).map lf)), false), none, none, none, none, none] (by
      rw [List.map_map]
      have : (PyData.list ∘ fun lv : List (List Nat) => lv.map fun r => PyData.tuple (r.map fP)) = lvD := rfl
      rw [this]
      generalize rs.map lvD = RD
      generalize (rs.map fun lv => Tr.lst ((lv.filter sortedB).map lf)) = G
      simp) (by simp) (fun d => by
      generalize rs.map lvD = RD
      generalize (rs.map fun lv => Tr.lst ((lv.filter sortedB).map lf)) = G
      exact ⟨[some (t', true), some (.leaf M, false), some (.leaf (.list RD), false), some (.lst G, false), none, none, none, some (.leaf d, false), none], by simp, fun n hn => by simp [hn], by simp⟩)
  have hv3 : Tr.views (rs.map fun lv => Tr.lst ((lv.filter sortedB).map lf)) = (rs.map fun lv => (lv.filter sortedB).map fun r => PyData.tuple (r.map fP)).map PyData.list := by
    rw [views_map, List.map_map, List.map_map]
    apply List.map_congr_left
    intro lv _
    show (Tr.lst _).view = _
    rw [view_lst]
    show PyData.list (Tr.views ((lv.filter sortedB).map fun r => Tr.leaf (PyData.tuple (r.map fP)))) = _
    rw [views_leaf (fun r : List Nat => PyData.tuple (r.map fP))]
    rfl
  have c2 := lens_ok (ls := rs.map fun lv => (lv.filter sortedB).map fun r => PyData.tuple (r.map fP)) (by rw [List.length_map]; omega) [some (t', true), some (.leaf M, false), some (.leaf (.list (rs.map lvD)), false), some (.leaf (.list ((rs.map fun lv => (lv.filter sortedB).map fun r => PyData.tuple (r.map fP)).map PyData.list)), false), none, none, none, none, none] (nm 3)
    [some (t', true), some (.leaf M, false), some (.leaf (.list (rs.map lvD)), false), some (.lst (rs.map fun lv => .lst ((lv.filter sortedB).map lf)), false), none, none, none, none, none] (by
      generalize rs.map lvD = RD
      generalize (rs.map fun lv => Tr.lst ((lv.filter sortedB).map lf)) = G at *
      generalize (rs.map fun lv => (lv.filter sortedB).map fun r => PyData.tuple (r.map fP)).map PyData.list = G1 at *
      simp [hv3]) (by simp) (fun d => by
      generalize rs.map lvD = RD
      generalize (rs.map fun lv => (lv.filter sortedB).map fun r => PyData.tuple (r.map fP)).map PyData.list = G1 at *
      exact ⟨[some (t', true), some (.leaf M, false), some (.leaf (.list RD), false), some (.leaf (.list G1), false), none, none, none, some (.leaf d, false), none], by simp, fun n hn => by simp [hn], by simp⟩)
  have e1 : ((rs.map fun lv => lv.map fun r => PyData.tuple (r.map fP)).map fun l => (l.length : Int)) = byRows rs := by
    simp [byRows, Function.comp_def]
  have e2 : ((rs.map fun lv => (lv.filter sortedB).map fun r => PyData.tuple (r.map fP)).map fun l => (l.length : Int)) = byLots rs := by
    simp [byLots, Function.comp_def]
  rw [e1] at c1
  rw [e2] at c2
  have hr1 : rng1I [addX (ct (.int 2)) (callX m_law_draw [true, false] [(nm 0), (ct (.int 5))])] [some (t, true), none, none, none, none, none, none, none, none] = .ok (rngD 0 L) [some (t1, true), none, none, none, none, none, none, none, none] :=
    rng1_ok (n := L) (j := (L : Int)) (okR_of (by omega) (by omega)) (by omega) (by simp [k1, hL])
  rw [List.nil_append] at n4
  have hx0 := lcX_ok (vs := [6]) hr1 n4
  have hnt : nT (ms.map fun n : Nat => (n : Int)) = (ms.map fI).map Tr.leaf := by
    simp [nT, fI, Function.comp_def]
  rw [hnt] at hx0
  have htu : ∀ e : Nv, tupV (.tmp (.lst ((ms.map fI).map Tr.leaf))) e = .ok (.tmp (.leaf M)) e := fun e => by
    rw [v_tupV, v_ritems, rtree_tmp]
    show (match titems (.lst ((ms.map fI).map Tr.leaf)) with | some (_, ds) => _ | none => _) = _
    rw [titems_lst, hMM]
  have w1 : asS 1 (call1 tupV (lcX [6] (rng1I [(addX (ct (.int 2)) (callX m_law_draw [true, false] [(nm 0), (ct (.int 5))]))]) (Vs.stN 6) ytt (callX m_law_draw [true, false] [(nm 0), (ct (.int 3))]))) [some (t, true), none, none, none, none, none, none, none, none] =
      .ok .nx [some (t', true), some (.leaf M, false), none, none, none, none, none, none, none] := by
    generalize (ms.map fI).map Tr.leaf = ML at *
    simp [hx0, -v_lcX, htu, -v_tupV]
  have w2 : asS 2 (callX m_law_made_rows [false] [(nm 1)]) [some (t', true), some (.leaf M, false), none, none, none, none, none, none, none] = .ok .nx [some (t', true), some (.leaf M, false), some (RR, false), none, none, none, none, none, none] := by
    simp [md]
  have w3 : asT 3 (lcT [7] (sqI (nm 2)) (Vs.stN 7) ytt (lcX [8] (sqI (nm 7)) (Vs.stN 8) (tst (Vs.bin (eqD false) (call1 srtV (nm 8)) (call1 lstV (nm 8)))) (nm 8))) [some (t', true), some (.leaf M, false), some (RR, false), none, none, none, none, none, none] =
      .ok .nx [some (t', true), some (.leaf M, false), some (.leaf (.list (rs.map lvD)), false), some (.lst (rs.map fun lv => .lst ((lv.filter sortedB).map lf)), false), none, none, none, none, none] := by
    rw [v_asT, hlT, bind_ok]
    rfl
  refine ⟨t', n3, ?_⟩
  generalize rs.map lvD = RD at *
  generalize (rs.map fun lv => Tr.lst ((lv.filter sortedB).map lf)) = G at *
  generalize (rs.map fun lv => (lv.filter sortedB).map fun r => PyData.tuple (r.map fP)).map PyData.list = G1 at *
  generalize byRows rs = BR at *
  generalize byLots rs = BL at *
  simp [m_law_are_things_right, w1, w2, w3, -v_asS, -v_asT, c1, c2, -v_call1, ro, rb, lo1, lo3, s1, s2, s3]
end Hd

set_option Elab.async false
set_option linter.all false
set_option maxRecDepth 100000
set_option maxHeartbeats 2000000
/-! Lt: letters alone (k70). -/
namespace Hd
open PySem PySem.Spec L2 Vs
open PyProof.Rows hiding St
open Ser
theorem row_ml' (l k : Nat) : row (k + 1) (sh (Ml l)) = (l : Int) :: List.replicate k 0 := by
  apply List.ext_getElem?
  intro i
  by_cases hi : i < k + 1
  · rw [row_at hi]
    cases i with
    | zero => rfl
    | succ i =>
      rw [List.getElem?_cons_succ, List.getElem?_replicate, if_pos (by omega)]
      show some (Ml l (i + 1 + 1)) = some 0
      unfold Ml
      rw [if_neg (by omega)]
  · rw [List.getElem?_eq_none (by simp; omega), List.getElem?_eq_none (by simp; omega)]
theorem mak_ml' {l : Nat} (h : l ≤ 1000000) : Mak (Ml l) := ⟨rfl, fun i => by
  unfold Ml
  split
  · exact Nat.lt_of_le_of_lt (show ((l : Int)).natAbs ≤ 1000000 by omega) (by decide)
  · decide⟩
theorem dsum_ml (l n : Nat) : ∀ k, dsum (Ml l) (k + 1) n = (l : Int)
  | 0 => by
    rw [dsum_succ, dsum_zero]
    unfold dterm
    rw [Nat.mod_one, if_pos rfl]
    simp [Ml]
  | k + 1 => by
    rw [dsum_succ, dsum_ml l n k]
    unfold dterm
    have : Ml l (k + 1 + 1) = 0 := by
      unfold Ml
      rw [if_neg (by omega)]
    rw [this]
    split <;> simp
theorem bd_sP' {l : Nat} (h : l ≤ 1000000) : bd 13 (sP l) 250 := fun i hi => by
  show ((l : Int) ^ i).natAbs < _
  rw [Int.natAbs_pow]
  show l ^ i < 2 ^ 250
  exact Nat.lt_of_le_of_lt (Nat.pow_le_pow_left h i) (Nat.lt_of_le_of_lt (Nat.pow_le_pow_right (by decide) (show i ≤ 12 by omega)) (by decide))
abbrev fLe : Sm := seqS (exS (apX 4 (mulX (ixX (nm 4) (Vs.bin subD (nm 6) (ct (.int 1)))) (nm 1))))
  (seqS (exS (apX 5 (Vs.bin fdivD (mulX (ixX (nm 5) (Vs.bin subD (nm 6) (ct (.int 1)))) (Vs.bin subD (addX (nm 1) (nm 6)) (ct (.int 1)))) (nm 6)))) nxS)
theorem letters_loop {l L : Nat} {P : Sr} (hl : l ≤ 1000000) (hL : L ≤ 12) (hP : P 0 = 1) (h : ∀ n, 1 ≤ n → n ≤ L → lg P n = (l : Int)) (bP : bd (L + 1) P 1393) (x0 x2 x3 x6 : Option (Tr × Bool)) :
    ∃ y6, forL (Vs.stN 6) fLe (rngD 1 L) [x0, some (.leaf (.int (l : Int)), false), x2, x3, some (.lst (nT (row 1 (sP l))), false), some (.lst (nT (row 1 P)), false), x6] =
      .ok .nx [x0, some (.leaf (.int (l : Int)), false), x2, x3, some (.lst (nT (row (L + 1) (sP l))), false), some (.lst (nT (row (L + 1) P)), false), y6] := by
  obtain ⟨e', h1, y, rfl⟩ := forL_0 (g := Vs.stN 6) (f := fLe) (ds := rngD 1 L) (e := [x0, some (.leaf (.int (l : Int)), false), x2, x3, some (.lst (nT (row 1 (sP l))), false), some (.lst (nT (row 1 P)), false), x6])
    (P := fun i e => ∃ y, e = [x0, some (.leaf (.int (l : Int)), false), x2, x3, some (.lst (nT (row (i + 1) (sP l))), false), some (.lst (nT (row (i + 1) P)), false), y]) ⟨x6, rfl⟩ (by
      rintro k d e hd ⟨y, rfl⟩
      have hi : k < L := by simpa [rngD] using lt_of_at hd
      have hd' : d = .int (1 + (k : Nat)) := by
        simp only [rngD, List.getElem?_map, List.getElem?_range hi, Option.map_some, Option.some.injEq] at hd
        rw [← hd]
      subst hd'
      obtain ⟨A, hA⟩ : ∃ A, A = nT (row (k + 1) (sP l)) := ⟨_, rfl⟩
      obtain ⟨B, hB⟩ : ∃ B, B = nT (row (k + 1) P) := ⟨_, rfl⟩
      have hAl : A.length = k + 1 := by rw [hA]; simp [nT]
      have hBl : B.length = k + 1 := by rw [hB]; simp [nT]
      obtain ⟨k1, hk1⟩ : ∃ k1, k1 = 1 + (k : Int) := ⟨_, rfl⟩
      have t1 : tat (.lst A) (k1 - 1) = some (.int (sP l k)) := by
        rw [hA]
        have := tat_lrow (L := k + 1) (a := sP l) (i := k1 - 1) (by omega) (by omega)
        rw [show (k1 - 1).toNat = k by omega] at this
        exact this
      have t2 : tat (.lst B) (k1 - 1) = some (.int (P k)) := by
        rw [hB]
        have := tat_lrow (L := k + 1) (a := P) (i := k1 - 1) (by omega) (by omega)
        rw [show (k1 - 1).toNat = k by omega] at this
        exact this
      have m1 := mul_ok (bd_sP' hl k (by omega)) (show ((l : Int)).natAbs < 2 ^ 24 by omega) (by decide)
      have m2 := mul_ok (bP k (by omega)) (show ((l : Int) + k1 - 1).natAbs < 2 ^ 24 by omega) (by decide)
      have hs : sP l k * (l : Int) = sP l (k + 1) := (Int.pow_succ (l : Int) k).symm
      have ll := lot_letters hP h hi
      have hdv : fdivD (.int (P k * ((l : Int) + k1 - 1))) (.int k1) = some (.int (P (k + 1))) := by
        rw [fdiv_ok (by omega) (by omega), show (l : Int) + k1 - 1 = (l : Int) + k by omega, Int.mul_comm, ← ll, show ((k + 1 : Nat) : Int) = k1 by omega, Int.mul_ediv_cancel_left _ (by omega)]
      have hA2 : nT (row (k + 1 + 1) (sP l)) = A ++ [.leaf (.int (sP l (k + 1)))] := by
        rw [row_succ, hA]
        simp [nT]
      have hB2 : nT (row (k + 1 + 1) P) = B ++ [.leaf (.int (P (k + 1)))] := by
        rw [row_succ, hB]
        simp [nT]
      have hz1 : ltZ A.length := ltZ_of (by omega)
      have hz2 : ltZ B.length := ltZ_of (by omega)
      refine ⟨[x0, some (.leaf (.int (l : Int)), false), x2, x3, some (.lst A, false), some (.lst B, false), some (.leaf (.int k1), false)],
        [x0, some (.leaf (.int (l : Int)), false), x2, x3, some (.lst (A ++ [.leaf (.int (sP l (k + 1)))]), false), some (.lst (B ++ [.leaf (.int (P (k + 1)))]), false), some (.leaf (.int k1), false)], by rw [hA, hB, hk1]; simp, ?_, _, by rw [hA2, hB2]⟩
      simp [t1, t2, v_muli m1, v_muli m2, hs, hdv, -v_fdiv, hz1, hz2])
  refine ⟨y, ?_⟩
  rw [show (rngD 1 L).length = L by simp [rngD]] at h1
  exact h1
theorem letters_right {t : Tr} (hb : Bag t) : ∃ t', Bag t' ∧ m_law_are_letters_right [t] = .ok (.leaf (.bool true)) [t'] := by
  obtain ⟨r, t1, b1, r0, r1, k1⟩ := draw_ok hb (n := 101) (by decide) (by decide)
  obtain ⟨li, t2, hli, b2, k2⟩ := pick_int b1 (l := [0, 1, 2, 3, 10, r, 1000000]) (by simp) (by simp)
  obtain ⟨l, rfl, hl⟩ : ∃ l : Nat, li = (l : Int) ∧ l ≤ 1000000 := by
    simp only [List.mem_cons, List.not_mem_nil, or_false] at hli
    exact ⟨li.toNat, by omega, by omega⟩
  obtain ⟨r2, t3, b3, _, _, k3⟩ := draw_ok b2 (n := 12) (by decide) (by decide)
  obtain ⟨k, hk⟩ : ∃ k : Nat, 1 + r2 = ((k + 1 : Nat) : Int) := ⟨r2.toNat, by omega⟩
  have hk12 : k + 1 ≤ 12 := by omega
  have hM := mak_ml' hl
  have ro := hM.rows_of hk12
  obtain ⟨P, hP, hlg, bP, lo, _, _⟩ := lots_of_mak hM hk12
  have hlg' : ∀ n, 1 ≤ n → n ≤ k + 1 → lg P n = (l : Int) := fun n a b => by
    rw [hlg n a b]
    show dsum (Ml l) n n = _
    have := dsum_ml l n (n - 1)
    rw [Nat.sub_add_cancel a] at this
    exact this
  rw [row_congr (L := k + 1 + 1) (a := rws (Ml l)) (b := sP l) fun i _ => rws_ml l i] at ro
  obtain ⟨y6, lp⟩ := letters_loop hl hk12 hP hlg' bP (some (t3, true)) (some (.leaf (.int ((k + 1 : Nat) : Int)), false)) (some (T (row (k + 1) (sh (Ml l))), false)) none
  have h0 : nT (row 1 (sP l)) = [.leaf (.int 1)] := rfl
  have h0' : nT (row 1 P) = [.leaf (.int 1)] := by simp [row, hP]
  rw [h0, h0'] at lp
  have s1 := srow (L := k + 1 + 1) (a := sP l) (by omega)
  have s2 := srow (L := k + 1 + 1) (a := P) (by omega)
  have mk : ∀ e : Nv, mulV (.tmp (.leaf (.tuple [.int 0]))) (.tmp (.leaf (.int (((k + 1 : Nat) : Int) - 1)))) e = .ok (.tmp (.leaf (.tuple (List.replicate k (.int 0))))) e := fun e => by
    rw [show (((k + 1 : Nat) : Int) - 1) = ((k : Nat) : Int) by omega]
    exact v_rep (by omega)
  have ad : ∀ e : Nv, addD (.tmp (.leaf (.tuple [.int (l : Int)]))) (.tmp (.leaf (.tuple (List.replicate k (.int 0))))) e = .ok (.tmp (T (row (k + 1) (sh (Ml l))))) e := fun e => by
    rw [v_addt (by simp; omega), row_ml']
    simp [nD]
  obtain ⟨kk, hkk⟩ : ∃ kk, kk = ((k + 1 : Nat) : Int) := ⟨_, rfl⟩
  rw [← hkk] at hk lp mk
  have hr : ∀ x3 x4 x5 : Option (Tr × Bool), rng2I [(ct (.int 1)), (addX (nm 2) (ct (.int 1)))] [some (t3, true), some (.leaf (.int (l : Int)), false), some (.leaf (.int kk), false), x3, x4, x5, none] = .ok (rngD 1 (k + 1)) [some (t3, true), some (.leaf (.int (l : Int)), false), some (.leaf (.int kk), false), x3, x4, x5, none] := fun x3 x4 x5 =>
    rng2_ok (n := k + 1) (i := 1) (j := kk + 1) (okR_of (by omega) (by omega)) (okR_of (by omega) (by omega)) (by omega) (by simp)
  have tu4 : ∀ x0 x1 x2 x3 x5 x6 : Option (Tr × Bool), tupV (.at 4) [x0, x1, x2, x3, some (.lst (nT (row (k + 1 + 1) (sP l))), false), x5, x6] = .ok (.tmp (T (row (k + 1 + 1) (sP l)))) [x0, x1, x2, x3, some (.lst (nT (row (k + 1 + 1) (sP l))), false), x5, x6] := fun x0 x1 x2 x3 x5 x6 => by
    simp
  have tu5 : ∀ x0 x1 x2 x3 x4 x6 : Option (Tr × Bool), tupV (.at 5) [x0, x1, x2, x3, x4, some (.lst (nT (row (k + 1 + 1) P)), false), x6] = .ok (.tmp (T (row (k + 1 + 1) P))) [x0, x1, x2, x3, x4, some (.lst (nT (row (k + 1 + 1) P)), false), x6] := fun x0 x1 x2 x3 x4 x6 => by
    simp
  simp only [List.map_cons, List.map_nil] at k2
  refine ⟨t3, b3, ?_⟩
  have e1 : parS [1, 2] [(callX m_law_pick [true, false] [(nm 0), (lstX [(ct (.int 0)), (ct (.int 1)), (ct (.int 2)), (ct (.int 3)), (ct (.int 10)), (callX m_law_draw [true, false] [(nm 0), (ct (.int 101))]), (Vs.bin powD (ct (.int 10)) (ct (.int 6)))])]), (addX (ct (.int 1)) (callX m_law_draw [true, false] [(nm 0), (ct (.int 12))]))]
      [some (t, true), none, none, none, none, none, none] = .ok .nx [some (t3, true), some (.leaf (.int (l : Int)), false), some (.leaf (.int kk), false), none, none, none, none] := by
    simp [k1, pow_6, -Vs.v_pow, k2, k3, hk]
  generalize row (k + 1 + 1) (sP l) = A at *
  generalize row (k + 1 + 1) P = B at *
  generalize row (k + 1) (sh (Ml l)) = C at *
  generalize rngD 1 (k + 1) = RG at *
  generalize List.replicate k (PyData.int 0) = Z at *
  generalize nT A = A1 at *
  generalize nT B = B1 at *
  have e2 : parS [3, 4, 5] [(addX (tupX [(nm 1)]) (mulX (tupX [(ct (.int 0))]) (Vs.bin subD (nm 2) (ct (.int 1))))), (lstX [(ct (.int 1))]), (lstX [(ct (.int 1))])] [some (t3, true), some (.leaf (.int (l : Int)), false), some (.leaf (.int kk), false), none, none, none, none] =
      .ok .nx [some (t3, true), some (.leaf (.int (l : Int)), false), some (.leaf (.int kk), false), some (T C, false), some (.lst [.leaf (.int 1)], false), some (.lst [.leaf (.int 1)], false), none] := by
    simp [mk, ad]
  simp [m_law_are_letters_right, e1, e2, -v_par, hr, lp, tu4, tu5, -v_tupV, ro, lo, s1, s2]
end Hd

set_option Elab.async false
set_option linter.all false
set_option maxRecDepth 100000
set_option maxHeartbeats 2000000
/-! Jo: of a product both are added (k70). -/
namespace Hd
open PySem PySem.Spec L2 Vs
open PyProof.Rows hiding St
open Ser
structure Jn (a b : Sr) (m : Nat) : Prop where
  a1 : a 0 = 1
  b1 : b 0 = 1
  ab : ∀ i, (a i).natAbs < 2 ^ 40
  bb : ∀ i, (b i).natAbs < 2 ^ 40
  m12 : m ≤ 12
theorem Jn.ca {a b : Sr} {m : Nat} (h : Jn a b m) : Cnt a := ⟨h.a1, fun i => Nat.lt_of_lt_of_le (h.ab i) (Nat.pow_le_pow_right (by decide) (by decide))⟩
theorem Jn.cb {a b : Sr} {m : Nat} (h : Jn a b m) : Cnt b := ⟨h.b1, fun i => Nat.lt_of_lt_of_le (h.bb i) (Nat.pow_le_pow_right (by decide) (by decide))⟩
theorem Jn.one {a b : Sr} {m : Nat} (h : Jn a b m) : cv a b 0 = 1 := by
  rw [cv_zero, h.a1, h.b1]
  rfl
theorem Jn.bc {a b : Sr} {m : Nat} (h : Jn a b m) : bd 13 (cv a b) 84 := bd_cv (by decide) (fun i _ => h.ab i) fun i _ => h.bb i
theorem bd_ad {L : Nat} {a b : Sr} {p : Nat} (ha : bd L a p) (hb : bd L b p) : bd L (Ser.ad a b) (p + 1) := fun i hi => by
  have h1 := ha i hi
  have h2 := hb i hi
  have := Int.natAbs_add_le (a i) (b i)
  show (a i + b i).natAbs < _
  rw [Nat.pow_succ]
  omega
theorem Jn.lotm {a b : Sr} {m : Nat} (h : Jn a b m) : m_lot_makers [T (row (m + 1) (cv a b))] = .ok (T (row m (sh (Ser.ad (lm (lg a)) (lm (lg b)))))) [] := by
  have hg : bd 13 (lg (cv a b)) 1358 := by
    rw [lg_mul h.a1 h.b1]
    exact bd_ad h.ca.lgs h.cb.lgs
  have hm : bd 13 (lm (lg (cv a b))) 1462 := fun i hi => by
    cases i with
    | zero => exact Nat.two_pow_pos _
    | succ i =>
      rw [lot_mul h.a1 h.b1 (i + 1) (by omega)]
      exact bd_ad h.ca.lms h.cb.lms (i + 1) hi
  have := lotm_ok (L := m) (c := cv a b) (p := 84) (q := 1358) (r := 1462) h.m12 h.one (bd_less h.bc (by have := h.m12; omega)) (bd_less hg (by have := h.m12; omega)) (bd_less hm (by have := h.m12; omega)) (by decide) (by decide)
  rw [row_congr (L := m) (a := sh (lm (lg (cv a b)))) (b := sh (Ser.ad (lm (lg a)) (lm (lg b)))) fun i _ => lot_mul h.a1 h.b1 (i + 1) (by omega)] at this
  exact this
theorem Jn.rowm {a b : Sr} {m : Nat} (h : Jn a b m) : m_row_makers [T (row (m + 1) (cv a b))] = .ok (T (row m (sh (rmk (cv a b))))) [] := by
  have hi : bd 13 (iv (cv a b)) 2502 := by
    rw [iv_mul h.a1 h.b1]
    exact bd_cv (p := 1249) (q := 1249) (by decide) h.ca.ivs h.cb.ivs
  refine rowm_ok (L := m) (c := cv a b) (p := 84) (q := 2503) h.m12 h.one (bd_less h.bc (by have := h.m12; omega)) (fun i hi' => ?_) (by decide)
  have h1 := hi i (by have := h.m12; omega)
  have e : rmk (cv a b) i = u1 i + -1 * iv (cv a b) i := rfl
  have : (u1 i).natAbs ≤ 1 := by
    unfold u1
    split <;> decide
  rw [e, Nat.pow_succ]
  omega
/-- the product, item by item -/
theorem whole_ok {a b : Sr} {m : Nat} (h : Jn a b m) (x0 x1 x5 x6 x7 x9 x10 : Option (Tr × Bool)) :
    call1 tupV (lcX [8] (rng1I [(nm 4)]) (Vs.stN 8) ytt (call1 (atom1 sumD) (lcX [11] (rng1I [(addX (nm 8) (ct (.int 1)))]) (Vs.stN 11) ytt (mulX (ixX (nm 2) (nm 11)) (ixX (nm 3) (Vs.bin subD (nm 8) (nm 11)))))))
      [x0, x1, some (T (row 13 a), false), some (T (row (m + 1) b), false), some (.leaf (.int ((m + 1 : Nat) : Int)), false), x5, x6, x7, none, x9, x10, none] =
      .ok (.tmp (T (row (m + 1) (cv a b)))) [x0, x1, some (T (row 13 a), false), some (T (row (m + 1) b), false), some (.leaf (.int ((m + 1 : Nat) : Int)), false), x5, x6, x7, none, x9, x10, none] := by
  have hm12 := h.m12
  obtain ⟨A, hA⟩ : ∃ A, A = T (row 13 a) := ⟨_, rfl⟩
  obtain ⟨B, hB⟩ : ∃ B, B = T (row (m + 1) b) := ⟨_, rfl⟩
  obtain ⟨mm, hmm⟩ : ∃ mm, mm = ((m + 1 : Nat) : Int) := ⟨_, rfl⟩
  rw [← hA, ← hB, ← hmm]
  have hlc := lcL_rng [8] (Vs.stN 8) ytt (call1 (atom1 sumD) (lcX [11] (rng1I [(addX (nm 8) (ct (.int 1)))]) (Vs.stN 11) ytt (mulX (ixX (nm 2) (nm 11)) (ixX (nm 3) (Vs.bin subD (nm 8) (nm 11))))))
    [x0, x1, some (A, false), some (B, false), some (.leaf (.int mm), false), x5, x6, x7, none, x9, x10, none] 0 (m + 1) (cv a b) (fun i hi => by
      rw [Int.zero_add]
      have hin : lcL [11] (Vs.stN 11) ytt (mulX (ixX (nm 2) (nm 11)) (ixX (nm 3) (Vs.bin subD (nm 8) (nm 11)))) (rngD 0 (i + 1)) [] [x0, x1, some (A, false), some (B, false), some (.leaf (.int mm), false), x5, x6, x7, some (.leaf (.int (i : Int)), false), x9, x10, none] =
          .ok (nT ((List.range (i + 1)).map fun j => a j * b (i - j))) [x0, x1, some (A, false), some (B, false), some (.leaf (.int mm), false), x5, x6, x7, some (.leaf (.int (i : Int)), false), x9, x10, none] := by
        refine lcL_rng _ _ _ _ _ 0 (i + 1) _ (fun j hj => ?_) (small13 (by omega))
        rw [Int.zero_add]
        have t1 : tat A (j : Int) = some (.int (a j)) := by
          rw [hA]
          have := tat_row (L := 13) (a := a) (i := (j : Int)) (by omega) (by omega)
          rw [show ((j : Int)).toNat = j by omega] at this
          exact this
        have t2 : tat B ((i : Int) - (j : Int)) = some (.int (b (i - j))) := by
          rw [hB]
          have := tat_row (L := m + 1) (a := b) (i := (i : Int) - (j : Int)) (by omega) (by omega)
          rw [show ((i : Int) - (j : Int)).toNat = i - j by omega] at this
          exact this
        have hm := mul_ok (h.ab j) (h.bb (i - j)) (by decide)
        obtain ⟨j1, hj1⟩ : ∃ j1, j1 = (j : Int) := ⟨_, rfl⟩
        rw [← hj1] at t1 t2 ⊢
        obtain ⟨e2, he2⟩ : ∃ e2, e2 = [x0, x1, some (A, false), some (B, false), some (.leaf (.int mm), false), x5, x6, x7, some (Tr.leaf (.int (i : Int)), false), x9, x10, some (.leaf (.int j1), false)] := ⟨_, rfl⟩
        refine ⟨e2, e2, e2, by rw [he2]; simp, rfl, by rw [he2]; simp [t1, t2, v_muli hm], by rw [he2]; simp⟩
      have hr : rng1I [(addX (nm 8) (ct (.int 1)))] [x0, x1, some (A, false), some (B, false), some (.leaf (.int mm), false), x5, x6, x7, some (.leaf (.int (i : Int)), false), x9, x10, none] = .ok (rngD 0 (i + 1)) [x0, x1, some (A, false), some (B, false), some (.leaf (.int mm), false), x5, x6, x7, some (.leaf (.int (i : Int)), false), x9, x10, none] :=
        rng1_ok (n := i + 1) (j := (i : Int) + 1) (okR_of (by omega) (by omega)) (by omega) (by simp)
      have hs := sum_ok (lcX_ok (vs := [11]) hr hin) (sum_cv a b i)
      obtain ⟨e2, he2⟩ : ∃ e2, e2 = [x0, x1, some (A, false), some (B, false), some (.leaf (.int mm), false), x5, x6, x7, some (Tr.leaf (.int (i : Int)), false), x9, x10, none] := ⟨_, rfl⟩
      rw [← he2] at hs
      exact ⟨e2, e2, e2, by rw [he2]; simp, rfl, by rw [v_ow, hs, bind_ok]; rfl, by rw [he2]; simp⟩) (small13 (by omega))
  have hr : rng1I [(nm 4)] [x0, x1, some (A, false), some (B, false), some (.leaf (.int mm), false), x5, x6, x7, none, x9, x10, none] = .ok (rngD 0 (m + 1)) [x0, x1, some (A, false), some (B, false), some (.leaf (.int mm), false), x5, x6, x7, none, x9, x10, none] :=
    rng1_ok (n := m + 1) (j := mm) (okR_of (by omega) (by omega)) (by omega) (by simp)
  have hw : wipeE [8] [x0, x1, some (A, false), some (B, false), some (.leaf (.int mm), false), x5, x6, x7, none, x9, x10, none] = [x0, x1, some (A, false), some (B, false), some (.leaf (.int mm), false), x5, x6, x7, none, x9, x10, none] := by simp
  have hx := lcX_ok (vs := [8]) hr (by rw [hw]; exact hlc)
  rw [v_call1, hx, bind_ok, show (List.range (m + 1)).map (cv a b) = row (m + 1) (cv a b) from rfl]
  generalize row (m + 1) (cv a b) = W
  simp
/-- both added -/
theorem due_ok {a b : Sr} {m : Nat} (h : Jn a b m) (x0 x1 x4 x5 x6 x7 x8 x11 : Option (Tr × Bool)) :
    call1 tupV (lcX [9, 10] (zipI [(callX m_law_lot_makers [false] [(nm 2)]), (callX m_law_lot_makers [false] [(nm 3)])]) (stT [(Vs.stN 9), (Vs.stN 10)]) ytt (addX (nm 9) (nm 10)))
      [x0, x1, some (T (row 13 a), false), some (T (row (m + 1) b), false), x4, x5, x6, x7, x8, none, none, x11] =
      .ok (.tmp (T (row m (sh (Ser.ad (lm (lg a)) (lm (lg b))))))) [x0, x1, some (T (row 13 a), false), some (T (row (m + 1) b), false), x4, x5, x6, x7, x8, none, none, x11] := by
  have hm12 := h.m12
  have l1 := h.ca.llotm (L := 12) (by decide)
  have l2 := h.cb.llotm (L := m) h.m12
  obtain ⟨E, hE⟩ : ∃ E, E = [x0, x1, some (T (row 13 a), false), some (T (row (m + 1) b), false), x4, x5, x6, x7, x8, none, none, x11] := ⟨_, rfl⟩
  have hz : zipI [(callX m_law_lot_makers [false] [(nm 2)]), (callX m_law_lot_makers [false] [(nm 3)])] E = .ok (zipD (nD (row 12 (sh (lm (lg a))))) (nD (row m (sh (lm (lg b)))))) E := by
    refine zip_ok ?_
    rw [hE]
    have l1' : m_law_lot_makers [T (row 13 a)] = .ok (T (row 12 (sh (lm (lg a))))) [] := l1
    generalize row 12 (sh (lm (lg a))) = A at *
    generalize row m (sh (lm (lg b))) = B at *
    generalize row 13 a = A1 at *
    generalize row (m + 1) b = B1 at *
    simp [l1', l2]
  have hzd : zipD (nD (row 12 (sh (lm (lg a))))) (nD (row m (sh (lm (lg b))))) = (List.range m).map fun i => PyData.tuple [.int (lm (lg a) (i + 1)), .int (lm (lg b) (i + 1))] := by
    unfold zipD
    apply List.ext_getElem?
    intro i
    rw [List.getElem?_map, List.getElem?_map]
    by_cases hi : i < m
    · have e1 : (nD (row 12 (sh (lm (lg a)))))[i]? = some (.int (lm (lg a) (i + 1))) := by
        rw [List.getElem?_map, row_at (by omega)]
        rfl
      have e2 : (nD (row m (sh (lm (lg b)))))[i]? = some (.int (lm (lg b) (i + 1))) := by
        rw [List.getElem?_map, row_at hi]
        rfl
      have : ((nD (row 12 (sh (lm (lg a))))).zip (nD (row m (sh (lm (lg b))))))[i]? = some (.int (lm (lg a) (i + 1)), .int (lm (lg b) (i + 1))) := by
        rw [List.getElem?_zip_eq_some]
        exact ⟨e1, e2⟩
      rw [this, List.getElem?_range hi]
      rfl
    · rw [List.getElem?_eq_none (by simp; omega), List.getElem?_eq_none (by simp; omega)]
      rfl
  have hlc := lcL_f (fun i : Nat => PyData.tuple [.int (lm (lg a) (i + 1)), .int (lm (lg b) (i + 1))]) (fun _ => true) (fun i => .int (lm (lg a) (i + 1) + lm (lg b) (i + 1))) [9, 10] (stT [(Vs.stN 9), (Vs.stN 10)]) ytt (addX (nm 9) (nm 10)) E (List.range m) [] (fun i _ => by
    rw [hE]
    generalize lm (lg a) (i + 1) = u
    generalize lm (lg b) (i + 1) = v
    generalize T (row 13 a) = A1
    generalize T (row (m + 1) b) = B1
    exact ⟨[x0, x1, some (A1, false), some (B1, false), x4, x5, x6, x7, x8, some (.leaf (.int u), false), some (.leaf (.int v), false), x11], _, by simp, rfl, fun _ => ⟨_, by simp; rfl, by simp⟩, fun z => by cases z⟩) (by
    have : m ≤ sizeLine := Nat.le_trans (show m ≤ 100 by omega) (by decide)
    simpa using this)
  rw [List.nil_append, List.filter_eq_self.mpr fun _ _ => rfl, ← hzd] at hlc
  have hw : wipeE [9, 10] E = E := by rw [hE]; simp
  have hx := lcX_ok (vs := [9, 10]) hz (by rw [hw]; exact hlc)
  rw [← hE, v_call1, hx, bind_ok]
  have : (List.range m).map (fun i : Nat => Tr.leaf (PyData.int (lm (lg a) (i + 1) + lm (lg b) (i + 1)))) = nT (row m (sh (Ser.ad (lm (lg a)) (lm (lg b))))) := by
    unfold row nT
    rw [List.map_map]
    rfl
  rw [this]
  generalize row m (sh (Ser.ad (lm (lg a)) (lm (lg b)))) = W
  simp
abbrev fJo : Sm := seqS (parS [2, 3] [(addX (tupX [(ct (.int 1))]) (callX m_law_numbers [true, false, false] [(nm 0), (ct (.int 12)), (nm 1)])), (addX (tupX [(ct (.int 1))]) (callX m_law_numbers [true, false, false] [(nm 0), (Vs.bin subD (ct (.int 12)) (callX m_law_draw [true, false] [(nm 0), (ct (.int 4))])), (nm 1)]))])
  (seqS (asS 4 (call2 (atom2 min2D) (call1 (atom1 lenD) (nm 2)) (call1 (atom1 lenD) (nm 3))))
  (seqS (asS 5 (call1 tupV (lcX [8] (rng1I [(nm 4)]) (Vs.stN 8) ytt (call1 (atom1 sumD) (lcX [11] (rng1I [(addX (nm 8) (ct (.int 1)))]) (Vs.stN 11) ytt (mulX (ixX (nm 2) (nm 11)) (ixX (nm 3) (Vs.bin subD (nm 8) (nm 11)))))))))
  (seqS (asS 6 (call1 tupV (lcX [9, 10] (zipI [(callX m_law_lot_makers [false] [(nm 2)]), (callX m_law_lot_makers [false] [(nm 3)])]) (stT [(Vs.stN 9), (Vs.stN 10)]) ytt (addX (nm 9) (nm 10)))))
  (seqS (asS 7 (callX m_row_joined [false, false] [(nm 2), (nm 3)]))
  (seqS (ifS (orT (notT (tst (callX (m_law_same 8) [false, false] [(nm 7), (nm 5)]))) (notT (tst (callX (m_law_same 8) [false, false] [(callX m_lot_makers [false] [(nm 7)]), (nm 6)])))) (seqS (rtS (ct (.bool false)))
  nxS) nxS)
  (seqS (ifS (notT (tst (callX (m_law_same 8) [false, false] [(callX m_row_makers [false] [(nm 7)]), (callX m_law_row_makers [false] [(nm 5)])]))) (seqS (rtS (ct (.bool false)))
  nxS) nxS)
  nxS))))))
theorem cs_lt {l : List Int} (h : ∀ v ∈ l, v.natAbs ≤ 1000000000000) (i : Nat) : (Cs l i).natAbs < 2 ^ 40 := by
  unfold Cs
  rw [List.getD_eq_getElem?_getD]
  cases q : (1 :: l)[i]? with
  | none => decide
  | some v =>
    have hm := List.mem_of_getElem? q
    rcases List.mem_cons.mp hm with rfl | hm
    · decide
    · exact Nat.lt_of_le_of_lt (h v hm) (by decide)
theorem joined_step {t : Tr} (hb : Bag t) {w : Int} (h0 : 0 ≤ w) (h4 : w ≤ 4) (x2 x3 x4 x5 x6 x7 : Option (Tr × Bool)) : ∃ t' y2 y3 y4 y5 y6 y7, Bag t' ∧
    fJo [some (t, true), some (.leaf (.int w), false), x2, x3, x4, x5, x6, x7, none, none, none, none] = .ok .nx [some (t', true), some (.leaf (.int w), false), y2, y3, y4, y5, y6, y7, none, none, none, none] := by
  obtain ⟨l1, t1, a1, v1, b1, k1⟩ := numbers_ok hb h0 h4 (m := 12) (by decide)
  obtain ⟨r, t2, b2, _, _, k2⟩ := draw_ok b1 (n := 4) (by decide) (by decide)
  obtain ⟨m, hm, hmu⟩ : ∃ m : Nat, 12 - r = (m : Int) ∧ m ≤ 12 := ⟨(12 - r).toNat, by omega, by omega⟩
  obtain ⟨l2, t3, a2, v2, b3, k3⟩ := numbers_ok b2 h0 h4 (m := m) (by omega)
  have J : Jn (Cs l1) (Cs l2) m := ⟨rfl, rfl, fun i => cs_lt (fun v hv => (v1 v hv).1) i, fun i => cs_lt (fun v hv => (v2 v hv).1) i, hmu⟩
  have r1 := row_cs l1
  rw [a1] at r1
  have r2 := row_cs l2
  rw [a2] at r2
  have jo := joined (L := 13) (M := m + 1) (a := Cs l1) (b := Cs l2) (p := 40) (q := 40) (by decide) (by omega) (fun i _ => J.ab i) (fun i _ => J.bb i) (by decide)
  rw [show min 13 (m + 1) = m + 1 by omega] at jo
  have lm' := J.lotm
  have rm := J.rowm
  have rm2 := rm
  rw [← rmk_is] at rm2
  have s1 := srow (L := m + 1) (a := cv (Cs l1) (Cs l2)) (by omega)
  have s2 := srow (L := m) (a := sh (Ser.ad (lm (lg (Cs l1))) (lm (lg (Cs l2))))) (by omega)
  have s3 := srow (L := m) (a := sh (rmk (cv (Cs l1) (Cs l2)))) (by omega)
  rw [show ((12 : Nat) : Int) = 12 from rfl] at k1
  have w1 : parS [2, 3] [(addX (tupX [(ct (.int 1))]) (callX m_law_numbers [true, false, false] [(nm 0), (ct (.int 12)), (nm 1)])), (addX (tupX [(ct (.int 1))]) (callX m_law_numbers [true, false, false] [(nm 0), (Vs.bin subD (ct (.int 12)) (callX m_law_draw [true, false] [(nm 0), (ct (.int 4))])), (nm 1)]))]
      [some (t, true), some (.leaf (.int w), false), x2, x3, x4, x5, x6, x7, none, none, none, none] = .ok .nx [some (t3, true), some (.leaf (.int w), false), some (T (row 13 (Cs l1)), false), some (T (row (m + 1) (Cs l2)), false), x4, x5, x6, x7, none, none, none, none] := by
    have ad1 : ∀ e : Nv, addD (.tmp (.leaf (.tuple [.int 1]))) (.tmp (.leaf (.tuple (nD l1)))) e = .ok (.tmp (T (row 13 (Cs l1)))) e := fun e => by
      rw [v_addt (by simp [nD]; omega), r1]
      rfl
    have ad2 : ∀ e : Nv, addD (.tmp (.leaf (.tuple [.int 1]))) (.tmp (.leaf (.tuple (nD l2)))) e = .ok (.tmp (T (row (m + 1) (Cs l2)))) e := fun e => by
      rw [v_addt (by simp [nD]; omega), r2]
      rfl
    generalize row 13 (Cs l1) = R1 at *
    generalize row (m + 1) (Cs l2) = R2 at *
    have k1' : m_law_numbers [t, .leaf (.int 12), .leaf (.int w)] = .ok (.leaf (.tuple (nD l1))) [t1] := k1
    have k3' : m_law_numbers [t2, .leaf (.int (m : Int)), .leaf (.int w)] = .ok (.leaf (.tuple (nD l2))) [t3] := k3
    generalize nD l1 = N1 at *
    generalize nD l2 = N2 at *
    simp [k1', ad1, k2, hm, k3', ad2]
  have w2 : asS 4 (call2 (atom2 min2D) (call1 (atom1 lenD) (nm 2)) (call1 (atom1 lenD) (nm 3))) [some (t3, true), some (.leaf (.int w), false), some (T (row 13 (Cs l1)), false), some (T (row (m + 1) (Cs l2)), false), x4, x5, x6, x7, none, none, none, none] =
      .ok .nx [some (t3, true), some (.leaf (.int w), false), some (T (row 13 (Cs l1)), false), some (T (row (m + 1) (Cs l2)), false), some (.leaf (.int ((m + 1 : Nat) : Int)), false), x5, x6, x7, none, none, none, none] := by
    have hmin : (if (m : Int) + 1 < 13 then (m : Int) + 1 else 13) = (m : Int) + 1 := by
      split <;> omega
    simp [hmin]
  have w3 := whole_ok J (some (t3, true)) (some (.leaf (.int w), false)) x5 x6 x7 none none
  have w4 := due_ok J (some (t3, true)) (some (.leaf (.int w), false)) (some (.leaf (.int ((m + 1 : Nat) : Int)), false)) (some (T (row (m + 1) (cv (Cs l1) (Cs l2))), false)) x6 x7 none none
  generalize row (m + 1) (cv (Cs l1) (Cs l2)) = W at *
  generalize row m (sh (Ser.ad (lm (lg (Cs l1))) (lm (lg (Cs l2))))) = V at *
  generalize row m (sh (rmk (cv (Cs l1) (Cs l2)))) = U at *
  generalize row 13 (Cs l1) = R1 at *
  generalize row (m + 1) (Cs l2) = R2 at *
  generalize ((m + 1 : Nat) : Int) = mm at *
  have w3' : asS 5 (call1 tupV (lcX [8] (rng1I [(nm 4)]) (Vs.stN 8) ytt (call1 (atom1 sumD) (lcX [11] (rng1I [(addX (nm 8) (ct (.int 1)))]) (Vs.stN 11) ytt (mulX (ixX (nm 2) (nm 11)) (ixX (nm 3) (Vs.bin subD (nm 8) (nm 11)))))))) [some (t3, true), some (.leaf (.int w), false), some (T R1, false), some (T R2, false), some (.leaf (.int mm), false), x5, x6, x7, none, none, none, none] =
      .ok .nx [some (t3, true), some (.leaf (.int w), false), some (T R1, false), some (T R2, false), some (.leaf (.int mm), false), some (T W, false), x6, x7, none, none, none, none] := by
    rw [v_asS, v_ow, w3]
    rfl
  have w4' : asS 6 (call1 tupV (lcX [9, 10] (zipI [(callX m_law_lot_makers [false] [(nm 2)]), (callX m_law_lot_makers [false] [(nm 3)])]) (stT [(Vs.stN 9), (Vs.stN 10)]) ytt (addX (nm 9) (nm 10)))) [some (t3, true), some (.leaf (.int w), false), some (T R1, false), some (T R2, false), some (.leaf (.int mm), false), some (T W, false), x6, x7, none, none, none, none] =
      .ok .nx [some (t3, true), some (.leaf (.int w), false), some (T R1, false), some (T R2, false), some (.leaf (.int mm), false), some (T W, false), some (T V, false), x7, none, none, none, none] := by
    rw [v_asS, v_ow, w4]
    rfl
  have w5 : asS 7 (callX m_row_joined [false, false] [(nm 2), (nm 3)]) [some (t3, true), some (.leaf (.int w), false), some (T R1, false), some (T R2, false), some (.leaf (.int mm), false), some (T W, false), some (T V, false), x7, none, none, none, none] =
      .ok .nx [some (t3, true), some (.leaf (.int w), false), some (T R1, false), some (T R2, false), some (.leaf (.int mm), false), some (T W, false), some (T V, false), some (T W, false), none, none, none, none] := by
    simp [jo]
  refine ⟨t3, some (T R1, false), some (T R2, false), some (.leaf (.int mm), false), some (T W, false), some (T V, false), some (T W, false), b3, ?_⟩
  simp [w1, w2, w3', w4', w5, -v_asS, -v_par, lm', rm, rm2, s1, s2, s3]
theorem joined_right {t : Tr} (hb : Bag t) : ∃ t', Bag t' ∧ m_law_are_joined_right [t] = .ok (.leaf (.bool true)) [t'] := by
  obtain ⟨t1, y2, y3, y4, y5, y6, y7, b1, h1⟩ := joined_step hb (w := 1) (by decide) (by decide) none none none none none none
  obtain ⟨t2, z2, z3, z4, z5, z6, z7, b2, h2⟩ := joined_step b1 (w := 2) (by decide) (by decide) y2 y3 y4 y5 y6 y7
  refine ⟨t2, b2, ?_⟩
  have hf : forL (Vs.stN 1) fJo [.int 1, .int 2] [some (t, true), none, none, none, none, none, none, none, none, none, none, none] = .ok .nx [some (t2, true), some (.leaf (.int 2), false), z2, z3, z4, z5, z6, z7, none, none, none, none] := by
    unfold forL
    rw [show Vs.stN 1 (.int 1) [some (t, true), none, none, none, none, none, none, none, none, none, none, none] = some [some (t, true), some (.leaf (.int 1), false), none, none, none, none, none, none, none, none, none, none] from rfl]
    simp only [h1, bind_ok]
    unfold forL
    rw [show Vs.stN 1 (.int 2) [some (t1, true), some (.leaf (.int 1), false), y2, y3, y4, y5, y6, y7, none, none, none, none] = some [some (t1, true), some (.leaf (.int 2), false), y2, y3, y4, y5, y6, y7, none, none, none, none] from rfl]
    simp only [h2, bind_ok]
    rfl
  simp [m_law_are_joined_right, hf]
end Hd

set_option Elab.async false
set_option linter.all false
set_option maxRecDepth 100000
set_option maxHeartbeats 2000000
/-! Tk: what was told, handed in (k70). -/
namespace Hd
open PySem PySem.Spec L2 Vs
open PyProof.Rows hiding St
open Ser
/-- one maker of size 1, so many of it -/
def Mb (b : Int) : Sr := fun i => if i = 1 then b else 0
def pB (b : Int) : Sr := fun i => b ^ i
theorem rws_mb (b : Int) : ∀ n, rws (Mb b) n = pB b n
  | 0 => (Int.pow_zero b).symm
  | n + 1 => by
    have e : sh (Mb b) = sm b u1 := funext fun i => by
      simp only [sh, Mb, sm, u1]
      cases i with
      | zero => simp
      | succ i => simp
    rw [rws_succ, e, cv_sm_l, cv_u1, rws_mb b n]
    show b * b ^ n = b ^ (n + 1)
    rw [Int.pow_succ, Int.mul_comm]
theorem row_mb (b : Int) (k : Nat) : row (k + 1) (sh (Mb b)) = b :: List.replicate k 0 := by
  apply List.ext_getElem?
  intro i
  by_cases hi : i < k + 1
  · rw [row_at hi]
    cases i with
    | zero => rfl
    | succ i =>
      rw [List.getElem?_cons_succ, List.getElem?_replicate, if_pos (by omega)]
      show some (Mb b (i + 1 + 1)) = some 0
      unfold Mb
      rw [if_neg (by omega)]
  · rw [List.getElem?_eq_none (by simp; omega), List.getElem?_eq_none (by simp; omega)]
theorem mak_mb {b : Int} (h : b.natAbs < 2 ^ 40) : Mak (Mb b) := ⟨rfl, fun i => by
  unfold Mb
  split
  · exact Nat.lt_of_lt_of_le h (Nat.pow_le_pow_right (by decide) (by decide))
  · decide⟩
abbrev fP4 : Sm := seqS (exS (apX 4 (mulX (ixX (nm 4) (nm 5)) (nm 1)))) nxS
theorem powers_4 {b : Int} {n : Nat} (hn : n ≤ 12) (hb : b.natAbs < 2 ^ 40) (hq : ∀ i, i ≤ n → (pB b i).natAbs < 2 ^ 100) (x0 x2 x3 x5 x6 x7 x8 x9 x10 x11 : Option (Tr × Bool)) :
    ∃ y5, forL (Vs.stN 5) fP4 (rngD 0 n) [x0, some (.leaf (.int b), false), x2, x3, some (.lst (nT (row 1 (pB b))), false), x5, x6, x7, x8, x9, x10, x11] =
      .ok .nx [x0, some (.leaf (.int b), false), x2, x3, some (.lst (nT (row (n + 1) (pB b))), false), y5, x6, x7, x8, x9, x10, x11] := by
  obtain ⟨e', h2, y, rfl⟩ := forL_0 (g := Vs.stN 5) (f := fP4) (ds := rngD 0 n) (e := [x0, some (.leaf (.int b), false), x2, x3, some (.lst (nT (row 1 (pB b))), false), x5, x6, x7, x8, x9, x10, x11])
    (P := fun i e => ∃ y, e = [x0, some (.leaf (.int b), false), x2, x3, some (.lst (nT (row (i + 1) (pB b))), false), y, x6, x7, x8, x9, x10, x11]) ⟨x5, rfl⟩ (by
      rintro k d e hd ⟨y, rfl⟩
      have hi : k < n := by simpa [rngD] using lt_of_at hd
      have hd' : d = .int (0 + (k : Nat)) := by
        simp only [rngD, List.getElem?_map, List.getElem?_range hi, Option.map_some, Option.some.injEq] at hd
        rw [← hd]
      rw [Int.zero_add] at hd'
      subst hd'
      obtain ⟨F, hF⟩ : ∃ F, F = nT (row (k + 1) (pB b)) := ⟨_, rfl⟩
      have hFl : F.length = k + 1 := by rw [hF]; simp [nT]
      have t1 : tat (.lst F) (k : Int) = some (.int (pB b k)) := by
        rw [hF]
        have := tat_lrow (L := k + 1) (a := pB b) (i := (k : Int)) (by omega) (by omega)
        rw [show ((k : Int)).toNat = k by omega] at this
        exact this
      have mm := mul_ok (hq k (by omega)) hb (by decide)
      have hz : ltZ F.length := ltZ_of (by omega)
      have hs : pB b (k + 1) = pB b k * b := Int.pow_succ b k
      have hF2 : nT (row (k + 1 + 1) (pB b)) = F ++ [.leaf (.int (pB b (k + 1)))] := by
        rw [row_succ, hF]
        simp [nT]
      obtain ⟨k1, hk1⟩ : ∃ k1, k1 = (k : Int) := ⟨_, rfl⟩
      rw [← hk1] at t1 ⊢
      refine ⟨[x0, some (.leaf (.int b), false), x2, x3, some (.lst F, false), some (.leaf (.int k1), false), x6, x7, x8, x9, x10, x11], [x0, some (.leaf (.int b), false), x2, x3, some (.lst (F ++ [.leaf (.int (pB b (k + 1)))]), false), some (.leaf (.int k1), false), x6, x7, x8, x9, x10, x11], by rw [hF]; simp, ?_, _, by rw [hF2]⟩
      rw [hs]
      generalize pB b k = qk at *
      simp [t1, v_muli mm, hz])
  refine ⟨y, ?_⟩
  rw [show (rngD 0 n).length = n by simp [rngD]] at h2
  exact h2
abbrev fP7 : Sm := seqS (exS (apX 7 (mulX (ixX (nm 7) (Vs.bin subD (nm 5) (ct (.int 1)))) (un1 negD (nm 1))))) nxS
theorem powers_7 {b : Int} {n : Nat} (h1 : 1 ≤ n) (hn : n ≤ 12) (hb : b.natAbs < 2 ^ 40) (hq : ∀ i, i < n → (qB b i).natAbs < 2 ^ 100) (x0 x2 x3 x4 x5 x6 x8 x9 x10 x11 : Option (Tr × Bool)) :
    ∃ y5, forL (Vs.stN 5) fP7 (rngD 1 (n - 1)) [x0, some (.leaf (.int b), false), x2, x3, x4, x5, x6, some (.lst (nT (row 1 (qB b))), false), x8, x9, x10, x11] =
      .ok .nx [x0, some (.leaf (.int b), false), x2, x3, x4, y5, x6, some (.lst (nT (row n (qB b))), false), x8, x9, x10, x11] := by
  obtain ⟨e', h2, y, rfl⟩ := forL_0 (g := Vs.stN 5) (f := fP7) (ds := rngD 1 (n - 1)) (e := [x0, some (.leaf (.int b), false), x2, x3, x4, x5, x6, some (.lst (nT (row 1 (qB b))), false), x8, x9, x10, x11])
    (P := fun i e => ∃ y, e = [x0, some (.leaf (.int b), false), x2, x3, x4, y, x6, some (.lst (nT (row (i + 1) (qB b))), false), x8, x9, x10, x11]) ⟨x5, rfl⟩ (by
      rintro k d e hd ⟨y, rfl⟩
      have hi : k < n - 1 := by simpa [rngD] using lt_of_at hd
      have hd' : d = .int (1 + (k : Nat)) := by
        simp only [rngD, List.getElem?_map, List.getElem?_range hi, Option.map_some, Option.some.injEq] at hd
        rw [← hd]
      subst hd'
      obtain ⟨F, hF⟩ : ∃ F, F = nT (row (k + 1) (qB b)) := ⟨_, rfl⟩
      have hFl : F.length = k + 1 := by rw [hF]; simp [nT]
      obtain ⟨k1, hk1⟩ : ∃ k1, k1 = 1 + (k : Int) := ⟨_, rfl⟩
      have t1 : tat (.lst F) (k1 - 1) = some (.int (qB b k)) := by
        rw [hF]
        have := tat_lrow (L := k + 1) (a := qB b) (i := k1 - 1) (by omega) (by omega)
        rw [show (k1 - 1).toNat = k by omega] at this
        exact this
      have mm := mul_ok (hq k (by omega)) (show (-b).natAbs < 2 ^ 40 by omega) (by decide)
      have hz : ltZ F.length := ltZ_of (by omega)
      have hs : qB b (k + 1) = qB b k * -b := by
        unfold qB
        rw [Int.pow_succ, Int.mul_assoc]
      have hF2 : nT (row (k + 1 + 1) (qB b)) = F ++ [.leaf (.int (qB b (k + 1)))] := by
        rw [row_succ, hF]
        simp [nT]
      refine ⟨[x0, some (.leaf (.int b), false), x2, x3, x4, some (.leaf (.int k1), false), x6, some (.lst F, false), x8, x9, x10, x11], [x0, some (.leaf (.int b), false), x2, x3, x4, some (.leaf (.int k1), false), x6, some (.lst (F ++ [.leaf (.int (qB b (k + 1)))]), false), x8, x9, x10, x11], by rw [hF, hk1]; simp, ?_, _, by rw [hF2]⟩
      rw [hs]
      generalize qB b k = qk at *
      simp [t1, v_muli mm, hz])
  refine ⟨y, ?_⟩
  rw [show (rngD 1 (n - 1)).length + 1 = n by simp [rngD]; omega] at h2
  exact h2
theorem told_base {d : D} (h : d ∈ [PyData.tuple [.int 10000000000, .int 3], .tuple [.int (-10000000000), .int 3], .tuple [.int 1000, .int 10], .tuple [.int (-1000), .int 10], .tuple [.int 1000000000000, .int 2], .tuple [.int 316, .int 12]]) :
    ∃ (b : Int) (k : Nat), d = .tuple [.int b, .int ((k + 2 : Nat) : Int)] ∧ k + 2 ≤ 12 ∧ b.natAbs < 2 ^ 40 ∧ (∀ i, i < k + 2 → (qB b i).natAbs < 2 ^ 100) ∧ ∀ i, i < k + 3 → (pB b i).natAbs < 2 ^ 100 := by
  simp only [List.mem_cons, List.not_mem_nil, or_false] at h
  have go : ∀ (f : Nat → Int) (n : Nat), ((List.range n).all fun i => decide ((f i).natAbs < 2 ^ 100)) = true → ∀ i, i < n → (f i).natAbs < 2 ^ 100 := fun f n h i hi =>
    of_decide_eq_true (List.all_eq_true.mp h i (List.mem_range.mpr hi))
  rcases h with rfl | rfl | rfl | rfl | rfl | rfl
  · exact ⟨10000000000, 1, rfl, by decide, by decide, go _ _ (by decide +kernel), go _ _ (by decide +kernel)⟩
  · exact ⟨-10000000000, 1, rfl, by decide, by decide, go _ _ (by decide +kernel), go _ _ (by decide +kernel)⟩
  · exact ⟨1000, 8, rfl, by decide, by decide, go _ _ (by decide +kernel), go _ _ (by decide +kernel)⟩
  · exact ⟨-1000, 8, rfl, by decide, by decide, go _ _ (by decide +kernel), go _ _ (by decide +kernel)⟩
  · exact ⟨1000000000000, 0, rfl, by decide, by decide, go _ _ (by decide +kernel), go _ _ (by decide +kernel)⟩
  · exact ⟨316, 10, rfl, by decide, by decide, go _ _ (by decide +kernel), go _ _ (by decide +kernel)⟩
/-- the first two of a short row -/
theorem rmk_two {c : Sr} (h : c 0 = 1) : rmk c 1 = c 1 ∧ rmk c 2 = c 2 - c 1 * c 1 := by
  have h1 := rmk_rec h 0
  have h2 := rmk_rec h 1
  have e1 : rmk c 1 = c 1 := by
    rw [← h1]
    simp
  refine ⟨e1, ?_⟩
  rw [← h2]
  simp [sh, e1]
theorem lm_two {c : Sr} (h : c 0 = 1) : lm (lg c) 1 = c 1 ∧ lm (lg c) 2 = (2 * c 2 - c 1 * c 1 - c 1) / 2 := by
  have h1 := own_sum h 0
  have h2 := own_sum h 1
  have g1 : lg c 1 = c 1 := by
    rw [← h1]
    simp
  have g2 : lg c 2 = 2 * c 2 - c 1 * c 1 := by
    rw [← h2]
    simp [sh, g1]
  have e1 : lm (lg c) 1 = c 1 := by
    rw [lm_succ, dsum_zero, g1]
    simp
  refine ⟨e1, ?_⟩
  rw [lm_succ, dsum_succ, dsum_zero, g2]
  unfold dterm
  rw [e1]
  simp
theorem two_lt {x y : Int} (hx : x.natAbs ≤ 1000000000000) (hy : y.natAbs ≤ 1000000000000) : (x * x).natAbs ≤ 1000000000000000000000000 := by
  rw [Int.natAbs_mul]
  exact Nat.mul_le_mul hx hx
end Hd

set_option Elab.async false
set_option linter.all false
set_option maxRecDepth 100000
set_option maxHeartbeats 2000000
/-! Tl: what was told, handed in, whole (k70). -/
namespace Hd
open PySem PySem.Spec L2 Vs
open PyProof.Rows hiding St
open Ser
abbrev fWy : Sm := seqS (asS 11 (ifX (tst (Vs.bin (eqD false) (nm 10) (ct (.int 0)))) (callX m_law_row_makers [false] [(nm 9)]) (callX m_law_lot_makers [false] [(nm 9)])))
  (seqS (asS 8 (ifX (tst (Vs.bin (eqD false) (nm 10) (ct (.int 0)))) (callX m_row_makers [false] [(nm 9)]) (callX m_lot_makers [false] [(nm 9)])))
  (seqS (ifS (orT (notT (tst (callX (m_law_same 8) [false, false] [(nm 8), (nm 11)]))) (notT (tst (callX m_law_are_makers_right [true] [(nm 8)])))) (seqS (rtS (ct (.bool false)))
  nxS) nxS)
  nxS))
theorem ways_ok {l : List Int} (hl : l.length = 2) (hv : ∀ v ∈ l, v.natAbs ≤ 1000000000000) (x0 x1 x2 x3 x4 x5 x6 x7 x8 x11 : Option (Tr × Bool)) :
    ∃ y8 y10 y11, forL (Vs.stN 10) fWy [.int 0, .int 1] [x0, x1, x2, x3, x4, x5, x6, x7, x8, some (T (row 3 (Cs l)), false), none, x11] = .ok .nx [x0, x1, x2, x3, x4, x5, x6, x7, y8, some (T (row 3 (Cs l)), false), y10, y11] := by
  have C : Cnt (Cs l) := cnt_cs fun v h => Nat.lt_of_le_of_lt (hv v h) (by decide)
  have rm := C.rowm (L := 2) (by decide)
  have rm2 := rm
  rw [← rmk_is] at rm2
  have lo := C.lotm (L := 2) (by decide)
  have lo2 := C.llotm (L := 2) (by decide)
  have s1 := srow (L := 2) (a := sh (rmk (Cs l))) (by decide)
  have s2 := srow (L := 2) (a := sh (lm (lg (Cs l)))) (by decide)
  have b : ∀ i, (Cs l i).natAbs ≤ 1000000000000 := fun i => by
    unfold Cs
    rw [List.getD_eq_getElem?_getD]
    cases q : (1 :: l)[i]? with
    | none => decide
    | some v =>
      have hm := List.mem_of_getElem? q
      rcases List.mem_cons.mp hm with rfl | hm
      · decide
      · exact hv v hm
  have p11 := two_lt (b 1) (b 1)
  obtain ⟨r1, r2⟩ := rmk_two (c := Cs l) rfl
  obtain ⟨l1, l2⟩ := lm_two (c := Cs l) rfl
  have c1 := b 1
  have c2 := b 2
  have h24 : 1000000000000000000000000000 < 2 ^ 100 := by decide
  have m1 := makers_row (L := 2) (a := rmk (Cs l)) (by decide) fun i i1 i2 => by
    have : i = 1 ∨ i = 2 := by omega
    rcases this with rfl | rfl
    · rw [r1]
      omega
    · rw [r2]
      generalize Cs l 1 * Cs l 1 = z at *
      omega
  have m2 := makers_row (L := 2) (a := lm (lg (Cs l))) (by decide) fun i i1 i2 => by
    have : i = 1 ∨ i = 2 := by omega
    rcases this with rfl | rfl
    · rw [l1]
      omega
    · rw [l2]
      generalize Cs l 1 * Cs l 1 = z at *
      omega
  have rm' : m_row_makers [T (row 3 (Cs l))] = .ok (T (row 2 (sh (rmk (Cs l))))) [] := rm
  have rm2' : m_law_row_makers [T (row 3 (Cs l))] = .ok (T (row 2 (sh (rmk (Cs l))))) [] := rm2
  have lo' : m_lot_makers [T (row 3 (Cs l))] = .ok (T (row 2 (sh (lm (lg (Cs l)))))) [] := lo
  have lo2' : m_law_lot_makers [T (row 3 (Cs l))] = .ok (T (row 2 (sh (lm (lg (Cs l)))))) [] := lo2
  generalize row 2 (sh (rmk (Cs l))) = A at *
  generalize row 2 (sh (lm (lg (Cs l)))) = B at *
  generalize row 3 (Cs l) = Cc at *
  have st0 : fWy [x0, x1, x2, x3, x4, x5, x6, x7, x8, some (T Cc, false), some (.leaf (.int 0), false), x11] = .ok .nx [x0, x1, x2, x3, x4, x5, x6, x7, some (T A, false), some (T Cc, false), some (.leaf (.int 0), false), some (T A, false)] := by
    simp [rm', rm2', s1, m1]
  have st1 : fWy [x0, x1, x2, x3, x4, x5, x6, x7, some (T A, false), some (T Cc, false), some (.leaf (.int 1), false), some (T A, false)] = .ok .nx [x0, x1, x2, x3, x4, x5, x6, x7, some (T B, false), some (T Cc, false), some (.leaf (.int 1), false), some (T B, false)] := by
    simp [lo', lo2', s2, m2]
  refine ⟨some (T B, false), some (.leaf (.int 1), false), some (T B, false), ?_⟩
  unfold forL
  rw [show Vs.stN 10 (.int 0) [x0, x1, x2, x3, x4, x5, x6, x7, x8, some (T Cc, false), none, x11] = some [x0, x1, x2, x3, x4, x5, x6, x7, x8, some (T Cc, false), some (.leaf (.int 0), false), x11] from rfl]
  simp only [st0, bind_ok]
  unfold forL
  rw [show Vs.stN 10 (.int 1) [x0, x1, x2, x3, x4, x5, x6, x7, some (T A, false), some (T Cc, false), some (.leaf (.int 0), false), some (T A, false)] = some [x0, x1, x2, x3, x4, x5, x6, x7, some (T A, false), some (T Cc, false), some (.leaf (.int 1), false), some (T A, false)] from rfl]
  simp only [st1, bind_ok]
  rfl
theorem told_right {t : Tr} (hbag : Bag t) : ∃ t', Bag t' ∧ m_law_are_told_right [t] = .ok (.leaf (.bool true)) [t'] := by
  obtain ⟨d, t1, hd, b1, k1⟩ := pick_ok hbag (ds := [PyData.tuple [.int 10000000000, .int 3], .tuple [.int (-10000000000), .int 3], .tuple [.int 1000, .int 10], .tuple [.int (-1000), .int 10], .tuple [.int 1000000000000, .int 2], .tuple [.int 316, .int 12]]) (by simp) (by simp)
  obtain ⟨b, k, rfl, hk, hb, hq, hp⟩ := told_base hd
  obtain ⟨l, t2, l1, l2, b2, k2⟩ := numbers_ok b1 (w := 2) (by decide) (by decide) (m := 2) (by decide)
  have hl2 : ∀ v ∈ l, v.natAbs ≤ 1000000000000 := fun v hv => (l2 v hv).1
  have hM := mak_mb hb
  have ro := hM.rows_of (L := k + 2) hk
  rw [row_congr (L := k + 2 + 1) (a := rws (Mb b)) (b := pB b) fun i _ => rws_mb b i] at ro
  have cr := counts_row (L := k + 2) (a := pB b) hk (Int.pow_zero b) fun i hi => hp i (by omega)
  have s1 := srow (L := k + 2 + 1) (a := pB b) (by omega)
  have hrm : row (k + 2) (sh (rmk (lin1 b))) = row (k + 2) (qB b) := row_congr fun i _ => rmk_lin1 b i
  have rm := rowm_ok (L := k + 2) (c := lin1 b) (p := 40) (q := 100) hk rfl (fun i _ => by
    unfold lin1
    split
    · decide
    · split
      · exact hb
      · decide) (fun i hi => by
    cases i with
    | zero =>
      rw [rmk_zero]
      decide
    | succ i =>
      have e : rmk (lin1 b) (i + 1) = qB b i := rmk_lin1 b i
      rw [e]
      exact hq i (by omega)) (by decide)
  rw [hrm] at rm
  have s2 := srow (L := k + 2) (a := qB b) (by omega)
  have mr := makers_row (L := k + 2) (a := fun i => qB b (i - 1)) hk fun i h1 h2 => hq (i - 1) (by omega)
  have mr : m_law_are_makers_right [T (row (k + 2) (qB b))] = .ok (.leaf (.bool true)) [T (row (k + 2) (qB b))] := mr
  obtain ⟨y5, pw4⟩ := powers_4 (n := k + 2) hk hb (fun i hi => hp i (by omega)) (some (t1, true)) (some (.leaf (.int ((k + 2 : Nat) : Int)), false)) (some (T (row (k + 2) (sh (Mb b))), false)) none none none none none none none
  obtain ⟨z5, pw7⟩ := powers_7 (n := k + 2) (by omega) hk hb hq (some (t1, true)) (some (.leaf (.int ((k + 2 : Nat) : Int)), false)) (some (T (row (k + 2) (sh (Mb b))), false)) (some (.lst (nT (row (k + 2 + 1) (pB b))), false)) y5 (some (T (row (k + 2 + 1) (pB b)), false)) none none none none
  have hz0 : nT (row 1 (pB b)) = [.leaf (.int 1)] := by
    have : pB b 0 = 1 := Int.pow_zero b
    simp [row, nT, this]
  have hz1 : nT (row 1 (qB b)) = [.leaf (.int b)] := by
    have : qB b 0 = b := by
      unfold qB
      rw [Int.pow_zero, Int.mul_one]
    simp [row, nT, this]
  rw [hz0] at pw4
  rw [hz1] at pw7
  have hrow := row_cs l
  rw [l1] at hrow
  have mk : ∀ e : Nv, mulV (.tmp (.leaf (.tuple [.int 0]))) (.tmp (.leaf (.int (((k + 2 : Nat) : Int) - 1)))) e = .ok (.tmp (.leaf (.tuple (List.replicate (k + 1) (.int 0))))) e := fun e => by
    rw [show (((k + 2 : Nat) : Int) - 1) = ((k + 1 : Nat) : Int) by omega]
    exact v_rep (by omega)
  have ad1 : ∀ e : Nv, addD (.tmp (.leaf (.tuple [.int b]))) (.tmp (.leaf (.tuple (List.replicate (k + 1) (.int 0))))) e = .ok (.tmp (T (row (k + 2) (sh (Mb b))))) e := fun e => by
    rw [v_addt (by simp; omega), show k + 2 = k + 1 + 1 from rfl, row_mb b (k + 1)]
    simp [nD]
  have ad2 : ∀ e : Nv, addD (.tmp (.leaf (.tuple [.int 1]))) (.tmp (.leaf (.tuple (nD (row (k + 2) (sh (Mb b))))))) e = .ok (.tmp (T (row (k + 2 + 1) (lin1 b)))) e := fun e => by
    rw [v_addt (by simp [nD]; omega), show k + 2 + 1 = (k + 1) + 2 by omega, row_lin1 b (k + 1), show k + 2 = k + 1 + 1 from rfl, row_mb b (k + 1)]
    simp [nD]
  have ad3 : ∀ e : Nv, addD (.tmp (.leaf (.tuple [.int 1]))) (.tmp (.leaf (.tuple (nD l)))) e = .ok (.tmp (T (row 3 (Cs l)))) e := fun e => by
    rw [v_addt (by simp [nD]; omega), hrow]
    rfl
  rw [show ((2 : Nat) : Int) = 2 from rfl] at k2
  obtain ⟨kk, hkk⟩ : ∃ kk, kk = ((k + 2 : Nat) : Int) := ⟨_, rfl⟩
  have hu : unS (stT [(Vs.stN 1), (Vs.stN 2)]) (callX m_law_pick [true, false] [(nm 0), (lstX [(tupX [(Vs.bin powD (ct (.int 10)) (ct (.int 10))), (ct (.int 3))]), (tupX [(un1 negD (Vs.bin powD (ct (.int 10)) (ct (.int 10)))), (ct (.int 3))]), (tupX [(ct (.int 1000)), (ct (.int 10))]), (tupX [(un1 negD (ct (.int 1000))), (ct (.int 10))]), (tupX [(Vs.bin powD (ct (.int 10)) (ct (.int 12))), (ct (.int 2))]), (tupX [(ct (.int 316)), (ct (.int 12))])])])
      [some (t, true), none, none, none, none, none, none, none, none, none, none, none] = .ok .nx [some (t1, true), some (.leaf (.int b), false), some (.leaf (.int kk), false), none, none, none, none, none, none, none, none, none] := by
    unfold unS
    rw [hkk]
    simp [pow_10, pow_12, -Vs.v_pow, k1]
  rw [← hkk] at mk pw4 pw7
  have hr1 : ∀ x3 x4 : Option (Tr × Bool), rng1I [(nm 2)] [some (t1, true), some (.leaf (.int b), false), some (.leaf (.int kk), false), x3, x4, none, none, none, none, none, none, none] = .ok (rngD 0 (k + 2)) [some (t1, true), some (.leaf (.int b), false), some (.leaf (.int kk), false), x3, x4, none, none, none, none, none, none, none] := fun x3 x4 =>
    rng1_ok (n := k + 2) (j := kk) (okR_of (by omega) (by omega)) (by omega) (by simp)
  have hr2 : ∀ x3 x4 x5 x6 x7 : Option (Tr × Bool), rng2I [(ct (.int 1)), (nm 2)] [some (t1, true), some (.leaf (.int b), false), some (.leaf (.int kk), false), x3, x4, x5, x6, x7, none, none, none, none] = .ok (rngD 1 (k + 2 - 1)) [some (t1, true), some (.leaf (.int b), false), some (.leaf (.int kk), false), x3, x4, x5, x6, x7, none, none, none, none] := fun x3 x4 x5 x6 x7 =>
    rng2_ok (n := k + 2 - 1) (i := 1) (j := kk) (okR_of (by omega) (by omega)) (okR_of (by omega) (by omega)) (by omega) (by simp)
  have hr3 : ∀ e : Nv, rng1I [(ct (.int 2))] e = .ok [.int 0, .int 1] e := fun e => by
    rw [rng1_ok (n := 2) (j := 2) (e := e) (okR_of (by omega) (by omega)) (by omega) (by simp)]
    rfl
  obtain ⟨v8, v10, v11, wy⟩ := ways_ok l1 hl2 (some (t2, true)) (some (.leaf (.int b), false)) (some (.leaf (.int kk), false)) (some (T (row (k + 2) (sh (Mb b))), false)) (some (.lst (nT (row (k + 2 + 1) (pB b))), false)) z5 (some (T (row (k + 2 + 1) (pB b)), false)) (some (.lst (nT (row (k + 2) (qB b))), false)) (some (T (row (k + 2) (qB b)), false)) none
  have tu4 : ∀ x0 x1 x2 x3 x5 x6 x7 x8 x9 x10 x11 : Option (Tr × Bool), tupV (.at 4) [x0, x1, x2, x3, some (.lst (nT (row (k + 2 + 1) (pB b))), false), x5, x6, x7, x8, x9, x10, x11] = .ok (.tmp (T (row (k + 2 + 1) (pB b)))) [x0, x1, x2, x3, some (.lst (nT (row (k + 2 + 1) (pB b))), false), x5, x6, x7, x8, x9, x10, x11] := fun x0 x1 x2 x3 x5 x6 x7 x8 x9 x10 x11 => by
    simp
  have tu7 : ∀ x0 x1 x2 x3 x4 x5 x6 x8 x9 x10 x11 : Option (Tr × Bool), tupV (.at 7) [x0, x1, x2, x3, x4, x5, x6, some (.lst (nT (row (k + 2) (qB b))), false), x8, x9, x10, x11] = .ok (.tmp (T (row (k + 2) (qB b)))) [x0, x1, x2, x3, x4, x5, x6, some (.lst (nT (row (k + 2) (qB b))), false), x8, x9, x10, x11] := fun x0 x1 x2 x3 x4 x5 x6 x8 x9 x10 x11 => by
    simp
  refine ⟨t2, b2, ?_⟩
  have k2' : m_law_numbers [t1, .leaf (.int 2), .leaf (.int 2)] = .ok (.leaf (.tuple (nD l))) [t2] := k2
  generalize row (k + 2 + 1) (pB b) = A at *
  generalize row (k + 2) (qB b) = B at *
  generalize row (k + 2 + 1) (lin1 b) = LL at *
  generalize row (k + 2) (sh (Mb b)) = MM at *
  generalize row 3 (Cs l) = CC at *
  generalize rngD 0 (k + 2) = RG0 at *
  generalize rngD 1 (k + 2 - 1) = RG1 at *
  generalize List.replicate (k + 1) (PyData.int 0) = Z at *
  generalize nT A = A1 at *
  generalize nT B = B1 at *
  generalize nD l = N at *
  simp [m_law_are_told_right, hu, mk, ad1, hr1, pw4, ro, tu4, tu7, -v_tupV, s1, cr, hr2, pw7, ad2, rm, s2, mr, k2', ad3, hr3, wy]
end Hd

set_option Elab.async false
set_option linter.all false
set_option maxRecDepth 100000
set_option maxHeartbeats 4000000
/-! Aw: all of it is right (k70). -/
namespace Hd
open PySem PySem.Spec L2 Vs
open PyProof.Rows hiding St
open Ser
def Pl (l : List Int) : Prop := l.length ≤ 12 ∧ ∀ v ∈ l, v.natAbs ≤ 1000000000000
theorem Pl.makers {l : List Int} (h : Pl l) : m_law_are_makers_right [T l] = .ok (.leaf (.bool true)) [T l] := by
  have := makers_right (mak_ms (l := l) fun v hv => Nat.lt_of_le_of_lt (h.2 v hv) (by decide)) (L := l.length) h.1
  rw [row_ms] at this
  exact this
theorem Pl.counts {l : List Int} (h : Pl l) : m_law_are_counts_right [T (1 :: l)] = .ok (.leaf (.bool true)) [] := by
  have := counts_right (cnt_cs (l := l) fun v hv => Nat.lt_of_le_of_lt (h.2 v hv) (by decide)) (L := l.length) h.1
  rw [row_cs] at this
  exact this
theorem Pl.fn {l : List Int} (h : Pl l) : Fn (.tuple (nD l)) 30000 3 false := by
  have : ∀ x ∈ nD l, Fn x 1921 1 false := fun x hx => by
    obtain ⟨i, hi, rfl⟩ := List.mem_map.mp hx
    refine fn_int ?_
    have := h.2 i hi
    by_cases h0 : i.natAbs = 0
    · rw [h0]; decide +kernel
    · exact (Nat.log2_lt h0).mpr (Nat.lt_of_le_of_lt this (by decide +kernel))
  refine (fn_tup this).mono ?_ (by decide)
  have h1 : (nD l).length ≤ 12 := by simpa [nD] using h.1
  have := Nat.mul_le_mul_right (1921 + 2) h1
  omega
theorem kept_all {ls : List (List Int)} (hl : ls.length ≤ 20) (h : ∀ l ∈ ls, Pl l) : ∃ z, reprD (.list (ls.map fun l => .tuple (nD l))) = some (.str z) ∧ eqD false (.str z) (.str z) = some (.bool true) := by
  have f := fn_lst (n := 30000) (k := 3) (xs := ls.map fun l => .tuple (nD l)) fun x hx => by
    obtain ⟨l, hm, rfl⟩ := List.mem_map.mp hx
    exact (h l hm).fn
  have hr := f.fine.repr (by rw [List.length_map]; have := Nat.mul_le_mul_right (30000 + 2) hl; omega) (by decide)
  refine ⟨_, hr.1, ?_⟩
  unfold eqD
  simp [hr.2, PyData.eqv]
theorem pl_of {l : List Int} {m : Nat} {w : Int} (h : l.length = m) (hm : m ≤ 12) (hv : ∀ v ∈ l, v.natAbs ≤ 1000000000000 ∧ (w < 4 → v.natAbs ≤ lim w)) : Pl l := ⟨by omega, fun v hv' => (hv v hv').1⟩
theorem nums_list : ∀ (ws : List Int) (acc : List Tr) (t : Tr) (x1 x2 : Option (Tr × Bool)), Bag t → (∀ w ∈ ws, 0 ≤ w ∧ w ≤ 4) → acc.length + ws.length ≤ 1000 →
    ∃ (ls : List (List Int)) (t' : Tr), ls.length = ws.length ∧ (∀ l ∈ ls, Pl l) ∧ Bag t' ∧ lcL [5] (Vs.stN 5) ytt (callX m_law_numbers [true, false, false] [(nm 0), (ct (.int 12)), (nm 5)]) (ws.map .int) acc [some (t, true), x1, x2, none, none, none] =
      .ok (acc ++ ls.map fun l => T l) [some (t', true), x1, x2, none, none, none]
  | [], acc, t, x1, x2, hb, _, _ => ⟨[], t, rfl, fun l h => (by cases h), hb, by simp [lcL]⟩
  | w :: ws, acc, t, x1, x2, hb, hw, hl => by
    rw [List.length_cons] at hl
    obtain ⟨w0, w4⟩ := hw w List.mem_cons_self
    obtain ⟨l, t1, a1, v1, b1, k1⟩ := numbers_ok hb w0 w4 (m := 12) (by decide)
    rw [show ((12 : Nat) : Int) = 12 from rfl] at k1
    obtain ⟨ls, t', h1, h2, h3, h4⟩ := nums_list ws (acc ++ [T l]) t1 x1 x2 b1 (fun w h => hw w (List.mem_cons_of_mem _ h)) (by simp; omega)
    refine ⟨l :: ls, t', by simp [h1], fun l' hl' => ?_, h3, ?_⟩
    · rcases List.mem_cons.mp hl' with rfl | hl'
      · exact pl_of a1 (by decide) v1
      · exact h2 l' hl'
    · rw [List.map_cons]
      unfold lcL
      rw [show Vs.stN 5 (.int w) [some (t, true), x1, x2, none, none, none] = some [some (t, true), x1, x2, none, none, some (.leaf (.int w), false)] from rfl]
      have e1 : ow (callX m_law_numbers [true, false, false] [(nm 0), (ct (.int 12)), (nm 5)]) [some (t, true), x1, x2, none, none, some (.leaf (.int w), false)] = .ok (T l) [some (t1, true), x1, x2, none, none, some (.leaf (.int w), false)] := by
        generalize T l = TL at *
        simp [k1]
      have hz : acc.length < sizeLine := Nat.lt_of_le_of_lt (show acc.length ≤ 1000 by omega) (by decide)
      have hwp : wipeE [5] [some (t1, true), x1, x2, none, none, some (.leaf (.int w), false)] = [some (t1, true), x1, x2, none, none, none] := by simp
      simp only [v_ytt, bind_ok, if_true, e1, hz, hwp, h4]
      simp
abbrev fRw : Sm := seqS (ifS (orT (notT (tst (callX m_law_are_counts_right [false] [(addX (tupX [(ct (.int 1))]) (nm 4))]))) (notT (tst (callX m_law_are_makers_right [true] [(nm 4)])))) (seqS (rtS (ct (.bool false)))
  nxS) nxS)
  nxS
theorem rows_all : ∀ (ls : List (List Int)) (x0 x1 x2 x3 x4 : Option (Tr × Bool)), (∀ l ∈ ls, Pl l) → ∃ y4, forL (Vs.stN 4) fRw (ls.map fun l => .tuple (nD l)) [x0, x1, x2, x3, x4, none] = .ok .nx [x0, x1, x2, x3, y4, none]
  | [], x0, x1, x2, x3, x4, _ => ⟨x4, by simp [forL]⟩
  | l :: ls, x0, x1, x2, x3, x4, h => by
    have hp := h l List.mem_cons_self
    obtain ⟨y4, ih⟩ := rows_all ls x0 x1 x2 x3 (some (T l, false)) fun m hm => h m (List.mem_cons_of_mem _ hm)
    refine ⟨y4, ?_⟩
    have hc := hp.counts
    have hm := hp.makers
    have hl := hp.1
    have ad : ∀ e : Nv, addD (.tmp (.leaf (.tuple [.int 1]))) (.tmp (T l)) e = .ok (.tmp (T (1 :: l))) e := fun e => by
      rw [v_addt (by simp [nD]; omega)]
      rfl
    rw [List.map_cons]
    unfold forL
    rw [show Vs.stN 4 (.tuple (nD l)) [x0, x1, x2, x3, x4, none] = some [x0, x1, x2, x3, some (T l, false), none] from rfl]
    have hb : fRw [x0, x1, x2, x3, some (T l, false), none] = .ok .nx [x0, x1, x2, x3, some (T l, false), none] := by
      generalize (1 : Int) :: l = tl at *
      simp [ad, hc, hm]
    simp only [hb, bind_ok]
    exact ih
theorem all_right {t : Tr} (hb : Bag t) : ∃ t', Bag t' ∧ m_law_is_all_right [t] = .ok (.leaf (.bool true)) [t'] := by
  obtain ⟨r1, t1, b1, _, _, k1⟩ := draw_ok hb (n := 13) (by decide) (by decide)
  obtain ⟨mi, t2, hm, b2, k2⟩ := pick_int b1 (l := [0, 1, r1]) (by simp) (by simp)
  obtain ⟨m1, rfl, m1u⟩ : ∃ m : Nat, mi = (m : Int) ∧ m ≤ 12 := by
    simp only [List.mem_cons, List.not_mem_nil, or_false] at hm
    exact ⟨mi.toNat, by omega, by omega⟩
  obtain ⟨w1, t3, b3, _, _, k3⟩ := draw_ok b2 (n := 5) (by decide) (by decide)
  obtain ⟨l1, t4, a1, v1, b4, k4⟩ := numbers_ok b3 (w := w1) (by omega) (by omega) (m := m1) (by omega)
  obtain ⟨w3, t5, hw3, b5, k5⟩ := pick_int b4 (l := [2, 3]) (by simp) (by simp)
  have hw3' : 0 ≤ w3 ∧ w3 ≤ 4 := by
    simp only [List.mem_cons, List.not_mem_nil, or_false] at hw3
    omega
  obtain ⟨ls, t6, lsl, lsp, b6, k6⟩ := nums_list [0, 1, w3, 4] [] t5 (some (.leaf (.int (m1 : Int)), false)) (some (.lst [T l1], false)) b5 (by
    simp only [List.forall_mem_cons]
    exact ⟨by decide, by decide, hw3', by decide, fun _ h => by cases h⟩) (by simp)
  obtain ⟨r4, t7, b7, _, _, k7⟩ := draw_ok b6 (n := 6) (by decide) (by decide)
  obtain ⟨m4, hm4, m4u⟩ : ∃ m : Nat, 12 - r4 = (m : Int) ∧ m ≤ 12 := ⟨(12 - r4).toNat, by omega, by omega⟩
  obtain ⟨w4, t8, b8, _, _, k8⟩ := draw_ok b7 (n := 2) (by decide) (by decide)
  obtain ⟨l4, t9, a4, v4, b9, k9⟩ := numbers_ok b8 (w := w4) (by omega) (by omega) (m := m4) (by omega)
  obtain ⟨t10, b10, k10⟩ := things_right b9
  obtain ⟨t11, b11, k11⟩ := letters_right b10
  obtain ⟨t12, b12, k12⟩ := joined_right b11
  obtain ⟨t13, b13, k13⟩ := told_right b12
  have p1 := pl_of a1 m1u v1
  have p4 := pl_of a4 m4u v4
  have p0 : Pl [] := ⟨by decide, fun v hv => by cases hv⟩
  have pall : ∀ l ∈ [l1] ++ ls ++ [l4, []], Pl l := fun l hl => by
    rcases List.mem_append.mp hl with hl | hl
    · rcases List.mem_append.mp hl with hl | hl
      · rw [List.mem_singleton.mp hl]
        exact p1
      · exact lsp l hl
    · simp only [List.mem_cons, List.not_mem_nil, or_false] at hl
      rcases hl with rfl | rfl
      · exact p4
      · exact p0
  have lsl4 : ls.length = 4 := by simpa using lsl
  obtain ⟨z, q1, q2⟩ := kept_all (ls := [l1] ++ ls ++ [l4, []]) (by simp; omega) pall
  obtain ⟨DS, hDS⟩ : ∃ DS, DS = (([l1] ++ ls ++ [l4, []]).map fun l => PyData.tuple (nD l)) := ⟨_, rfl⟩
  rw [← hDS] at q1
  obtain ⟨y4, rw_⟩ := rows_all ([l1] ++ ls ++ [l4, []]) (some (t9, true)) (some (.leaf (.int (m1 : Int)), false)) (some (.leaf (.list DS), false)) (some (.leaf (.str z), false)) none pall
  rw [← hDS] at rw_
  obtain ⟨DM, hDM⟩ : ∃ DM, DM = (([l1] ++ ls).map fun l => PyData.tuple (nD l)) := ⟨_, rfl⟩
  have hv : Tr.views (DS.map Tr.leaf) = DS := by
    rw [views_map, List.map_map]
    exact List.map_id' DS
  -- the first, four more, two more
  have e1 : asS 1 (callX m_law_pick [true, false] [(nm 0), (lstX [(ct (.int 0)), (ct (.int 1)), (callX m_law_draw [true, false] [(nm 0), (ct (.int 13))])])]) [some (t, true), none, none, none, none, none] = .ok .nx [some (t2, true), some (.leaf (.int (m1 : Int)), false), none, none, none, none] := by
    simp only [List.map_cons, List.map_nil] at k2
    simp [k1, k2]
  have e2 : asS 2 (lstX [(callX m_law_numbers [true, false, false] [(nm 0), (nm 1), (callX m_law_draw [true, false] [(nm 0), (ct (.int 5))])])]) [some (t2, true), some (.leaf (.int (m1 : Int)), false), none, none, none, none] =
      .ok .nx [some (t4, true), some (.leaf (.int (m1 : Int)), false), some (.lst [T l1], false), none, none, none] := by
    simp [k3, k4]
  have hsq : sqI (lstX [(ct (.int 0)), (ct (.int 1)), (callX m_law_pick [true, false] [(nm 0), (lstX [(ct (.int 2)), (ct (.int 3))])]), (ct (.int 4))]) [some (t4, true), some (.leaf (.int (m1 : Int)), false), some (.lst [T l1], false), none, none, none] =
      .ok [.int 0, .int 1, .int w3, .int 4] [some (t5, true), some (.leaf (.int (m1 : Int)), false), some (.lst [T l1], false), none, none, none] := by
    simp only [List.map_cons, List.map_nil] at k5
    simp [k5]
  have hx := lcX_ok (vs := [5]) hsq (by
    have hw : wipeE [5] [some (t5, true), some (Tr.leaf (.int (m1 : Int)), false), some (.lst [T l1], false), none, none, none] = [some (t5, true), some (.leaf (.int (m1 : Int)), false), some (.lst [T l1], false), none, none, none] := by simp
    rw [hw]
    exact k6)
  rw [List.nil_append] at hx
  have ad1 : ∀ e : Nv, addD (.tmp (.lst [T l1])) (.tmp (.lst (ls.map fun l => T l))) e = .ok (.tmp (.lst (DM.map .leaf))) e := fun e => by
    have : (ls.map fun l => T l) = (ls.map fun l => PyData.tuple (nD l)).map Tr.leaf := by
      rw [List.map_map]
      rfl
    rw [this, addF (xs := [.tuple (nD l1)]) rfl (titems_lst _) (by simp; omega), hDM]
    rfl
  have e3 : asS 2 (addX (nm 2) (lcX [5] (sqI (lstX [(ct (.int 0)), (ct (.int 1)), (callX m_law_pick [true, false] [(nm 0), (lstX [(ct (.int 2)), (ct (.int 3))])]), (ct (.int 4))])) (Vs.stN 5) ytt (callX m_law_numbers [true, false, false] [(nm 0), (ct (.int 12)), (nm 5)]))) [some (t4, true), some (.leaf (.int (m1 : Int)), false), some (.lst [T l1], false), none, none, none] =
      .ok .nx [some (t6, true), some (.leaf (.int (m1 : Int)), false), some (.lst (DM.map .leaf), false), none, none, none] := by
    generalize (ls.map fun l => T l) = LS at *
    generalize hG : DM.map Tr.leaf = G at *
    simp [hx, -v_lcX, ad1]
  have ad2 : ∀ e : Nv, addD (.tmp (.lst (DM.map .leaf))) (.tmp (.lst [T l4, .leaf (.tuple [])])) e = .ok (.tmp (.lst (DS.map .leaf))) e := fun e => by
    rw [addF (ys := [.tuple (nD l4), .tuple []]) (titems_lst DM) rfl (by rw [hDM]; simp; omega), hDS, hDM]
    simp
  have e4 : asS 2 (addX (nm 2) (lstX [(callX m_law_numbers [true, false, false] [(nm 0), (Vs.bin subD (ct (.int 12)) (callX m_law_draw [true, false] [(nm 0), (ct (.int 6))])), (callX m_law_draw [true, false] [(nm 0), (ct (.int 2))])]), (tupX [])])) [some (t6, true), some (.leaf (.int (m1 : Int)), false), some (.lst (DM.map .leaf), false), none, none, none] =
      .ok .nx [some (t9, true), some (.leaf (.int (m1 : Int)), false), some (.lst (DS.map .leaf), false), none, none, none] := by
    generalize hG : DM.map Tr.leaf = G at *
    generalize hG1 : DS.map Tr.leaf = G1 at *
    have k9' : m_law_numbers [t8, .leaf (.int (m4 : Int)), .leaf (.int w4)] = .ok (.leaf (.tuple (nD l4))) [t9] := k9
    have ad2' : ∀ e : Nv, addD (.tmp (.lst G)) (.tmp (.lst [.leaf (.tuple (nD l4)), .leaf (.tuple [])])) e = .ok (.tmp (.lst G1)) e := ad2
    generalize nD l4 = N4 at *
    simp [k7, hm4, k8, k9', ad2']
  have e5 : asS 3 (call1 (atom1 reprD) (nm 2)) [some (t9, true), some (.leaf (.int (m1 : Int)), false), some (.lst (DS.map .leaf), false), none, none, none] = .ok .nx [some (t9, true), some (.leaf (.int (m1 : Int)), false), some (.lst (DS.map .leaf), false), some (.leaf (.str z), false), none, none] := by
    generalize hG1 : DS.map Tr.leaf = G1 at *
    simp [hv, q1]
  have e6 : sqI (nm 2) [some (t9, true), some (.leaf (.int (m1 : Int)), false), some (.lst (DS.map .leaf), false), some (.leaf (.str z), false), none, none] = .ok DS [some (t9, true), some (.leaf (.int (m1 : Int)), false), some (.leaf (.list DS), false), some (.leaf (.str z), false), none, none] := by
    generalize hG1 : DS.map Tr.leaf = G1 at *
    simp [hv]
  refine ⟨t13, b13, ?_⟩
  generalize DS.map Tr.leaf = G1 at *
  simp [m_law_is_all_right, e1, e2, e3, e4, e5, e6, rw_, k10, k11, k12, k13, q1, q2, -v_asS, -v_sqI]
theorem law_true {ns : List Int} (hl : ns.length ≤ 63) : m_law [.leaf (.list (nD ns))] = .ok (.leaf (.bool true)) [] := by
  obtain ⟨t, h1, h2⟩ := own_bag hl
  obtain ⟨t', h3, h4⟩ := all_right h1
  obtain ⟨ds, hds⟩ : ∃ ds, ds = nD ns := ⟨_, rfl⟩
  rw [← hds] at h2 ⊢
  simp [m_law, h2, h4]
end Hd

set_option Elab.async false
set_option linter.all false
set_option maxRecDepth 100000
set_option maxHeartbeats 0
namespace Hd
open PySem PySem.Spec PyProof.Rows L2
def top (i : Nat) : Stmt := PySem.Challenge.pw_cutandjoin_k70_whole_makers_and_counts.main.body.getD i (.Pass ⟨0, 0, 0, 0⟩)
abbrev s1 : Stmt := top 1
def d1 : He.DefD := ⟨("row_makers", none), "row_makers", "row_makers", defArgs s1, defBody s1, defScope s1, [], []⟩
abbrev s2 : Stmt := top 2
def d2 : He.DefD := ⟨("rows_of_makers", none), "rows_of_makers", "rows_of_makers", defArgs s2, defBody s2, defScope s2, [], []⟩
abbrev s3 : Stmt := top 3
def d3 : He.DefD := ⟨("divisor_sum", none), "divisor_sum", "divisor_sum", defArgs s3, defBody s3, defScope s3, [], []⟩
abbrev s4 : Stmt := top 4
def d4 : He.DefD := ⟨("lot_makers", none), "lot_makers", "lot_makers", defArgs s4, defBody s4, defScope s4, [], []⟩
abbrev s5 : Stmt := top 5
def d5 : He.DefD := ⟨("lots_of_makers", none), "lots_of_makers", "lots_of_makers", defArgs s5, defBody s5, defScope s5, [], []⟩
abbrev s9 : Stmt := top 9
def d9 : He.DefD := ⟨("row_joined", none), "row_joined", "row_joined", defArgs s9, defBody s9, defScope s9, [], []⟩
abbrev s11 : Stmt := top 11
def d11 : He.DefD := ⟨("_law_own_bag", none), "_law_own_bag", "_law_own_bag", defArgs s11, defBody s11, defScope s11, [], []⟩
abbrev s12 : Stmt := top 12
def d12 : He.DefD := ⟨("_law_draw", none), "_law_draw", "_law_draw", defArgs s12, defBody s12, defScope s12, [], []⟩
abbrev s13 : Stmt := top 13
def d13 : He.DefD := ⟨("_law_pick", none), "_law_pick", "_law_pick", defArgs s13, defBody s13, defScope s13, [], []⟩
abbrev s14 : Stmt := top 14
def d14 : He.DefD := ⟨("_law_number", none), "_law_number", "_law_number", defArgs s14, defBody s14, defScope s14, [], []⟩
abbrev s15 : Stmt := top 15
def d15 : He.DefD := ⟨("_law_numbers", none), "_law_numbers", "_law_numbers", defArgs s15, defBody s15, defScope s15, [], []⟩
abbrev s16 : Stmt := top 16
def d16 : He.DefD := ⟨("_law_same", none), "_law_same", "_law_same", defArgs s16, defBody s16, defScope s16, [], []⟩
abbrev s17 : Stmt := top 17
def d17 : He.DefD := ⟨("_law_may_be_handed", none), "_law_may_be_handed", "_law_may_be_handed", defArgs s17, defBody s17, defScope s17, [], []⟩
abbrev s18 : Stmt := top 18
def d18 : He.DefD := ⟨("_law_row_makers", none), "_law_row_makers", "_law_row_makers", defArgs s18, defBody s18, defScope s18, [], []⟩
abbrev s19 : Stmt := top 19
def d19 : He.DefD := ⟨("_law_rows_of", none), "_law_rows_of", "_law_rows_of", defArgs s19, defBody s19, defScope s19, [], []⟩
abbrev s20 : Stmt := top 20
def d20 : He.DefD := ⟨("_law_by_divisors", none), "_law_by_divisors", "_law_by_divisors", defArgs s20, defBody s20, defScope s20, [], []⟩
abbrev s21 : Stmt := top 21
def d21 : He.DefD := ⟨("_law_lots_of", none), "_law_lots_of", "_law_lots_of", defArgs s21, defBody s21, defScope s21, [], []⟩
abbrev s22 : Stmt := top 22
def d22 : He.DefD := ⟨("_law_lot_makers", none), "_law_lot_makers", "_law_lot_makers", defArgs s22, defBody s22, defScope s22, [], []⟩
abbrev s23 : Stmt := top 23
def d23 : He.DefD := ⟨("_law_are_row_makers_right", none), "_law_are_row_makers_right", "_law_are_row_makers_right", defArgs s23, defBody s23, defScope s23, [], []⟩
abbrev s24 : Stmt := top 24
def d24 : He.DefD := ⟨("_law_are_lot_makers_right", none), "_law_are_lot_makers_right", "_law_are_lot_makers_right", defArgs s24, defBody s24, defScope s24, [], []⟩
abbrev s25 : Stmt := top 25
def d25 : He.DefD := ⟨("_law_are_rows_right", none), "_law_are_rows_right", "_law_are_rows_right", defArgs s25, defBody s25, defScope s25, [], []⟩
abbrev s26 : Stmt := top 26
def d26 : He.DefD := ⟨("_law_are_lots_right", none), "_law_are_lots_right", "_law_are_lots_right", defArgs s26, defBody s26, defScope s26, [], []⟩
abbrev s27 : Stmt := top 27
def d27 : He.DefD := ⟨("_law_are_counts_right", none), "_law_are_counts_right", "_law_are_counts_right", defArgs s27, defBody s27, defScope s27, [], []⟩
abbrev s28 : Stmt := top 28
def d28 : He.DefD := ⟨("_law_are_makers_right", none), "_law_are_makers_right", "_law_are_makers_right", defArgs s28, defBody s28, defScope s28, [], []⟩
abbrev s29 : Stmt := top 29
def d29 : He.DefD := ⟨("_law_made_rows", none), "_law_made_rows", "_law_made_rows", defArgs s29, defBody s29, defScope s29, [], []⟩
abbrev s30 : Stmt := top 30
def d30 : He.DefD := ⟨("_law_are_things_right", none), "_law_are_things_right", "_law_are_things_right", defArgs s30, defBody s30, defScope s30, [], []⟩
abbrev s31 : Stmt := top 31
def d31 : He.DefD := ⟨("_law_are_letters_right", none), "_law_are_letters_right", "_law_are_letters_right", defArgs s31, defBody s31, defScope s31, [], []⟩
abbrev s32 : Stmt := top 32
def d32 : He.DefD := ⟨("_law_are_joined_right", none), "_law_are_joined_right", "_law_are_joined_right", defArgs s32, defBody s32, defScope s32, [], []⟩
abbrev s33 : Stmt := top 33
def d33 : He.DefD := ⟨("_law_are_told_right", none), "_law_are_told_right", "_law_are_told_right", defArgs s33, defBody s33, defScope s33, [], []⟩
abbrev s34 : Stmt := top 34
def d34 : He.DefD := ⟨("_law_is_all_right", none), "_law_is_all_right", "_law_is_all_right", defArgs s34, defBody s34, defScope s34, [], []⟩
abbrev s35 : Stmt := top 35
def d35 : He.DefD := ⟨("law", none), "law", "law", defArgs s35, defBody s35, defScope s35, [], []⟩
def fn : List He.DefD := [d1, d2, d3, d4, d5, d9, d11, d12, d13, d14, d15, d16, d17, d18, d19, d20, d21, d22, d23, d24, d25, d26, d27, d28, d29, d30, d31, d32, d33, d34, d35]
def fa : List He.Fa := [.glo "row_makers", .glo "rows_of_makers", .glo "divisor_sum", .glo "lot_makers", .glo "lots_of_makers", .glo "row_joined", .glo "_law_own_bag", .glo "_law_draw", .glo "_law_pick", .glo "_law_number", .glo "_law_numbers", .glo "_law_same", .glo "_law_may_be_handed", .glo "_law_row_makers", .glo "_law_rows_of", .glo "_law_by_divisors", .glo "_law_lots_of", .glo "_law_lot_makers", .glo "_law_are_row_makers_right", .glo "_law_are_lot_makers_right", .glo "_law_are_rows_right", .glo "_law_are_lots_right", .glo "_law_are_counts_right", .glo "_law_are_makers_right", .glo "_law_made_rows", .glo "_law_are_things_right", .glo "_law_are_letters_right", .glo "_law_are_joined_right", .glo "_law_are_told_right", .glo "_law_is_all_right", .glo "law", .free "ValueError", .free "abs", .free "all", .free "bool", .free "enumerate", .free "int", .free "isinstance", .free "len", .free "list", .free "min", .free "range", .free "repr", .free "reversed", .free "sorted", .free "str", .free "sum", .free "tuple", .free "zip", .exc "SumError"]
abbrev R : PySem.W.OpenRow := PySem.W.OpenLaw.row PySem.Challenge.rw_cutandjoin_k70_whole_makers_and_counts
abbrev hk : PySem.W.Hook := He.hookD 4 fa fn
def ob (s : PySem.W.SharedT) : He.AlD := He.obsDG 4 fa fn (HandSHeadRun.getT s)
theorem ob_eq (s : PySem.W.SharedT) : ob s = hk.obs s.abs := He.obsDG_eq (HandSHeadRun.getT_eq s)
def loose0 : List Str := ["row_makers", "rows_of_makers", "divisor_sum", "lot_makers", "lots_of_makers", "SumError", "row_joined", "_law_own_bag", "_law_draw", "_law_pick", "_law_number", "_law_numbers", "_law_same", "_law_may_be_handed", "_law_row_makers", "_law_rows_of", "_law_by_divisors", "_law_lots_of", "_law_lot_makers", "_law_are_row_makers_right", "_law_are_lot_makers_right", "_law_are_rows_right", "_law_are_lots_right", "_law_are_counts_right", "_law_are_makers_right", "_law_made_rows", "_law_are_things_right", "_law_are_letters_right", "_law_are_joined_right", "_law_are_told_right"]
def loose1 : List Str := ["_law_is_all_right"]
abbrev loose : List Str := loose0 ++ loose1
theorem run (w : World) : HandSHeadRun.RunEq R (PySem.W.view R.prog [35]) hk ob 2000 loose w := by
  intro os
  kernel_rfl
end Hd

set_option Elab.async false
set_option linter.all false
set_option maxRecDepth 100000
set_option maxHeartbeats 2000000
namespace Hd
open PySem PySem.Spec L2 Vs
open PyProof.Rows hiding St
/-! ### facts by names -/
structure Cc (K : PySem.W.Frag) (mg : Str → Option Value) : Prop where
  hp : ∃ h : Heap, K.In h ∧ h.Ns mainGlobals mg
  cd : He.SaysD fa fn K
section
variable {K : PySem.W.Frag} {mg : Str → Option Value}
theorem fr_abs (c : Cc K mg) : mg ("abs" : Str) = none := by
  obtain ⟨⟨h, X, G⟩, c⟩ := c
  exact He.free_ok X G (c.fact 32 (f := .free "abs") rfl)
theorem fr_all (c : Cc K mg) : mg ("all" : Str) = none := by
  obtain ⟨⟨h, X, G⟩, c⟩ := c
  exact He.free_ok X G (c.fact 33 (f := .free "all") rfl)
theorem fr_bool (c : Cc K mg) : mg ("bool" : Str) = none := by
  obtain ⟨⟨h, X, G⟩, c⟩ := c
  exact He.free_ok X G (c.fact 34 (f := .free "bool") rfl)
theorem fr_enumerate (c : Cc K mg) : mg ("enumerate" : Str) = none := by
  obtain ⟨⟨h, X, G⟩, c⟩ := c
  exact He.free_ok X G (c.fact 35 (f := .free "enumerate") rfl)
theorem fr_int (c : Cc K mg) : mg ("int" : Str) = none := by
  obtain ⟨⟨h, X, G⟩, c⟩ := c
  exact He.free_ok X G (c.fact 36 (f := .free "int") rfl)
theorem fr_isinstance (c : Cc K mg) : mg ("isinstance" : Str) = none := by
  obtain ⟨⟨h, X, G⟩, c⟩ := c
  exact He.free_ok X G (c.fact 37 (f := .free "isinstance") rfl)
theorem fr_len (c : Cc K mg) : mg ("len" : Str) = none := by
  obtain ⟨⟨h, X, G⟩, c⟩ := c
  exact He.free_ok X G (c.fact 38 (f := .free "len") rfl)
theorem fr_list (c : Cc K mg) : mg ("list" : Str) = none := by
  obtain ⟨⟨h, X, G⟩, c⟩ := c
  exact He.free_ok X G (c.fact 39 (f := .free "list") rfl)
theorem fr_min (c : Cc K mg) : mg ("min" : Str) = none := by
  obtain ⟨⟨h, X, G⟩, c⟩ := c
  exact He.free_ok X G (c.fact 40 (f := .free "min") rfl)
theorem fr_range (c : Cc K mg) : mg ("range" : Str) = none := by
  obtain ⟨⟨h, X, G⟩, c⟩ := c
  exact He.free_ok X G (c.fact 41 (f := .free "range") rfl)
theorem fr_repr (c : Cc K mg) : mg ("repr" : Str) = none := by
  obtain ⟨⟨h, X, G⟩, c⟩ := c
  exact He.free_ok X G (c.fact 42 (f := .free "repr") rfl)
theorem fr_reversed (c : Cc K mg) : mg ("reversed" : Str) = none := by
  obtain ⟨⟨h, X, G⟩, c⟩ := c
  exact He.free_ok X G (c.fact 43 (f := .free "reversed") rfl)
theorem fr_sorted (c : Cc K mg) : mg ("sorted" : Str) = none := by
  obtain ⟨⟨h, X, G⟩, c⟩ := c
  exact He.free_ok X G (c.fact 44 (f := .free "sorted") rfl)
theorem fr_str (c : Cc K mg) : mg ("str" : Str) = none := by
  obtain ⟨⟨h, X, G⟩, c⟩ := c
  exact He.free_ok X G (c.fact 45 (f := .free "str") rfl)
theorem fr_sum (c : Cc K mg) : mg ("sum" : Str) = none := by
  obtain ⟨⟨h, X, G⟩, c⟩ := c
  exact He.free_ok X G (c.fact 46 (f := .free "sum") rfl)
theorem fr_tuple (c : Cc K mg) : mg ("tuple" : Str) = none := by
  obtain ⟨⟨h, X, G⟩, c⟩ := c
  exact He.free_ok X G (c.fact 47 (f := .free "tuple") rfl)
theorem fr_zip (c : Cc K mg) : mg ("zip" : Str) = none := by
  obtain ⟨⟨h, X, G⟩, c⟩ := c
  exact He.free_ok X G (c.fact 48 (f := .free "zip") rfl)
theorem fn_row_makers (c : Cc K mg) : ∃ f fd, mg ("row_makers" : Str) = some (.ref f) ∧ FnS K "row_makers" s1 f fd := by
  obtain ⟨⟨h, X, G⟩, c⟩ := c
  obtain ⟨fd, F⟩ := c.def_ 0 (d := d1) rfl
  exact ⟨_, fd, He.glo_ok X G (c.fact 0 (f := .glo "row_makers") rfl), F⟩
theorem fn_rows_of_makers (c : Cc K mg) : ∃ f fd, mg ("rows_of_makers" : Str) = some (.ref f) ∧ FnS K "rows_of_makers" s2 f fd := by
  obtain ⟨⟨h, X, G⟩, c⟩ := c
  obtain ⟨fd, F⟩ := c.def_ 1 (d := d2) rfl
  exact ⟨_, fd, He.glo_ok X G (c.fact 1 (f := .glo "rows_of_makers") rfl), F⟩
theorem fn_divisor_sum (c : Cc K mg) : ∃ f fd, mg ("divisor_sum" : Str) = some (.ref f) ∧ FnS K "divisor_sum" s3 f fd := by
  obtain ⟨⟨h, X, G⟩, c⟩ := c
  obtain ⟨fd, F⟩ := c.def_ 2 (d := d3) rfl
  exact ⟨_, fd, He.glo_ok X G (c.fact 2 (f := .glo "divisor_sum") rfl), F⟩
theorem fn_lot_makers (c : Cc K mg) : ∃ f fd, mg ("lot_makers" : Str) = some (.ref f) ∧ FnS K "lot_makers" s4 f fd := by
  obtain ⟨⟨h, X, G⟩, c⟩ := c
  obtain ⟨fd, F⟩ := c.def_ 3 (d := d4) rfl
  exact ⟨_, fd, He.glo_ok X G (c.fact 3 (f := .glo "lot_makers") rfl), F⟩
theorem fn_lots_of_makers (c : Cc K mg) : ∃ f fd, mg ("lots_of_makers" : Str) = some (.ref f) ∧ FnS K "lots_of_makers" s5 f fd := by
  obtain ⟨⟨h, X, G⟩, c⟩ := c
  obtain ⟨fd, F⟩ := c.def_ 4 (d := d5) rfl
  exact ⟨_, fd, He.glo_ok X G (c.fact 4 (f := .glo "lots_of_makers") rfl), F⟩
theorem fn_row_joined (c : Cc K mg) : ∃ f fd, mg ("row_joined" : Str) = some (.ref f) ∧ FnS K "row_joined" s9 f fd := by
  obtain ⟨⟨h, X, G⟩, c⟩ := c
  obtain ⟨fd, F⟩ := c.def_ 5 (d := d9) rfl
  exact ⟨_, fd, He.glo_ok X G (c.fact 5 (f := .glo "row_joined") rfl), F⟩
theorem fn__law_own_bag (c : Cc K mg) : ∃ f fd, mg ("_law_own_bag" : Str) = some (.ref f) ∧ FnS K "_law_own_bag" s11 f fd := by
  obtain ⟨⟨h, X, G⟩, c⟩ := c
  obtain ⟨fd, F⟩ := c.def_ 6 (d := d11) rfl
  exact ⟨_, fd, He.glo_ok X G (c.fact 6 (f := .glo "_law_own_bag") rfl), F⟩
theorem fn__law_draw (c : Cc K mg) : ∃ f fd, mg ("_law_draw" : Str) = some (.ref f) ∧ FnS K "_law_draw" s12 f fd := by
  obtain ⟨⟨h, X, G⟩, c⟩ := c
  obtain ⟨fd, F⟩ := c.def_ 7 (d := d12) rfl
  exact ⟨_, fd, He.glo_ok X G (c.fact 7 (f := .glo "_law_draw") rfl), F⟩
theorem fn__law_pick (c : Cc K mg) : ∃ f fd, mg ("_law_pick" : Str) = some (.ref f) ∧ FnS K "_law_pick" s13 f fd := by
  obtain ⟨⟨h, X, G⟩, c⟩ := c
  obtain ⟨fd, F⟩ := c.def_ 8 (d := d13) rfl
  exact ⟨_, fd, He.glo_ok X G (c.fact 8 (f := .glo "_law_pick") rfl), F⟩
theorem fn__law_number (c : Cc K mg) : ∃ f fd, mg ("_law_number" : Str) = some (.ref f) ∧ FnS K "_law_number" s14 f fd := by
  obtain ⟨⟨h, X, G⟩, c⟩ := c
  obtain ⟨fd, F⟩ := c.def_ 9 (d := d14) rfl
  exact ⟨_, fd, He.glo_ok X G (c.fact 9 (f := .glo "_law_number") rfl), F⟩
theorem fn__law_numbers (c : Cc K mg) : ∃ f fd, mg ("_law_numbers" : Str) = some (.ref f) ∧ FnS K "_law_numbers" s15 f fd := by
  obtain ⟨⟨h, X, G⟩, c⟩ := c
  obtain ⟨fd, F⟩ := c.def_ 10 (d := d15) rfl
  exact ⟨_, fd, He.glo_ok X G (c.fact 10 (f := .glo "_law_numbers") rfl), F⟩
theorem fn__law_same (c : Cc K mg) : ∃ f fd, mg ("_law_same" : Str) = some (.ref f) ∧ FnS K "_law_same" s16 f fd := by
  obtain ⟨⟨h, X, G⟩, c⟩ := c
  obtain ⟨fd, F⟩ := c.def_ 11 (d := d16) rfl
  exact ⟨_, fd, He.glo_ok X G (c.fact 11 (f := .glo "_law_same") rfl), F⟩
theorem fn__law_may_be_handed (c : Cc K mg) : ∃ f fd, mg ("_law_may_be_handed" : Str) = some (.ref f) ∧ FnS K "_law_may_be_handed" s17 f fd := by
  obtain ⟨⟨h, X, G⟩, c⟩ := c
  obtain ⟨fd, F⟩ := c.def_ 12 (d := d17) rfl
  exact ⟨_, fd, He.glo_ok X G (c.fact 12 (f := .glo "_law_may_be_handed") rfl), F⟩
theorem fn__law_row_makers (c : Cc K mg) : ∃ f fd, mg ("_law_row_makers" : Str) = some (.ref f) ∧ FnS K "_law_row_makers" s18 f fd := by
  obtain ⟨⟨h, X, G⟩, c⟩ := c
  obtain ⟨fd, F⟩ := c.def_ 13 (d := d18) rfl
  exact ⟨_, fd, He.glo_ok X G (c.fact 13 (f := .glo "_law_row_makers") rfl), F⟩
theorem fn__law_rows_of (c : Cc K mg) : ∃ f fd, mg ("_law_rows_of" : Str) = some (.ref f) ∧ FnS K "_law_rows_of" s19 f fd := by
  obtain ⟨⟨h, X, G⟩, c⟩ := c
  obtain ⟨fd, F⟩ := c.def_ 14 (d := d19) rfl
  exact ⟨_, fd, He.glo_ok X G (c.fact 14 (f := .glo "_law_rows_of") rfl), F⟩
theorem fn__law_by_divisors (c : Cc K mg) : ∃ f fd, mg ("_law_by_divisors" : Str) = some (.ref f) ∧ FnS K "_law_by_divisors" s20 f fd := by
  obtain ⟨⟨h, X, G⟩, c⟩ := c
  obtain ⟨fd, F⟩ := c.def_ 15 (d := d20) rfl
  exact ⟨_, fd, He.glo_ok X G (c.fact 15 (f := .glo "_law_by_divisors") rfl), F⟩
theorem fn__law_lots_of (c : Cc K mg) : ∃ f fd, mg ("_law_lots_of" : Str) = some (.ref f) ∧ FnS K "_law_lots_of" s21 f fd := by
  obtain ⟨⟨h, X, G⟩, c⟩ := c
  obtain ⟨fd, F⟩ := c.def_ 16 (d := d21) rfl
  exact ⟨_, fd, He.glo_ok X G (c.fact 16 (f := .glo "_law_lots_of") rfl), F⟩
theorem fn__law_lot_makers (c : Cc K mg) : ∃ f fd, mg ("_law_lot_makers" : Str) = some (.ref f) ∧ FnS K "_law_lot_makers" s22 f fd := by
  obtain ⟨⟨h, X, G⟩, c⟩ := c
  obtain ⟨fd, F⟩ := c.def_ 17 (d := d22) rfl
  exact ⟨_, fd, He.glo_ok X G (c.fact 17 (f := .glo "_law_lot_makers") rfl), F⟩
theorem fn__law_are_row_makers_right (c : Cc K mg) : ∃ f fd, mg ("_law_are_row_makers_right" : Str) = some (.ref f) ∧ FnS K "_law_are_row_makers_right" s23 f fd := by
  obtain ⟨⟨h, X, G⟩, c⟩ := c
  obtain ⟨fd, F⟩ := c.def_ 18 (d := d23) rfl
  exact ⟨_, fd, He.glo_ok X G (c.fact 18 (f := .glo "_law_are_row_makers_right") rfl), F⟩
theorem fn__law_are_lot_makers_right (c : Cc K mg) : ∃ f fd, mg ("_law_are_lot_makers_right" : Str) = some (.ref f) ∧ FnS K "_law_are_lot_makers_right" s24 f fd := by
  obtain ⟨⟨h, X, G⟩, c⟩ := c
  obtain ⟨fd, F⟩ := c.def_ 19 (d := d24) rfl
  exact ⟨_, fd, He.glo_ok X G (c.fact 19 (f := .glo "_law_are_lot_makers_right") rfl), F⟩
theorem fn__law_are_rows_right (c : Cc K mg) : ∃ f fd, mg ("_law_are_rows_right" : Str) = some (.ref f) ∧ FnS K "_law_are_rows_right" s25 f fd := by
  obtain ⟨⟨h, X, G⟩, c⟩ := c
  obtain ⟨fd, F⟩ := c.def_ 20 (d := d25) rfl
  exact ⟨_, fd, He.glo_ok X G (c.fact 20 (f := .glo "_law_are_rows_right") rfl), F⟩
theorem fn__law_are_lots_right (c : Cc K mg) : ∃ f fd, mg ("_law_are_lots_right" : Str) = some (.ref f) ∧ FnS K "_law_are_lots_right" s26 f fd := by
  obtain ⟨⟨h, X, G⟩, c⟩ := c
  obtain ⟨fd, F⟩ := c.def_ 21 (d := d26) rfl
  exact ⟨_, fd, He.glo_ok X G (c.fact 21 (f := .glo "_law_are_lots_right") rfl), F⟩
theorem fn__law_are_counts_right (c : Cc K mg) : ∃ f fd, mg ("_law_are_counts_right" : Str) = some (.ref f) ∧ FnS K "_law_are_counts_right" s27 f fd := by
  obtain ⟨⟨h, X, G⟩, c⟩ := c
  obtain ⟨fd, F⟩ := c.def_ 22 (d := d27) rfl
  exact ⟨_, fd, He.glo_ok X G (c.fact 22 (f := .glo "_law_are_counts_right") rfl), F⟩
theorem fn__law_are_makers_right (c : Cc K mg) : ∃ f fd, mg ("_law_are_makers_right" : Str) = some (.ref f) ∧ FnS K "_law_are_makers_right" s28 f fd := by
  obtain ⟨⟨h, X, G⟩, c⟩ := c
  obtain ⟨fd, F⟩ := c.def_ 23 (d := d28) rfl
  exact ⟨_, fd, He.glo_ok X G (c.fact 23 (f := .glo "_law_are_makers_right") rfl), F⟩
theorem fn__law_made_rows (c : Cc K mg) : ∃ f fd, mg ("_law_made_rows" : Str) = some (.ref f) ∧ FnS K "_law_made_rows" s29 f fd := by
  obtain ⟨⟨h, X, G⟩, c⟩ := c
  obtain ⟨fd, F⟩ := c.def_ 24 (d := d29) rfl
  exact ⟨_, fd, He.glo_ok X G (c.fact 24 (f := .glo "_law_made_rows") rfl), F⟩
theorem fn__law_are_things_right (c : Cc K mg) : ∃ f fd, mg ("_law_are_things_right" : Str) = some (.ref f) ∧ FnS K "_law_are_things_right" s30 f fd := by
  obtain ⟨⟨h, X, G⟩, c⟩ := c
  obtain ⟨fd, F⟩ := c.def_ 25 (d := d30) rfl
  exact ⟨_, fd, He.glo_ok X G (c.fact 25 (f := .glo "_law_are_things_right") rfl), F⟩
theorem fn__law_are_letters_right (c : Cc K mg) : ∃ f fd, mg ("_law_are_letters_right" : Str) = some (.ref f) ∧ FnS K "_law_are_letters_right" s31 f fd := by
  obtain ⟨⟨h, X, G⟩, c⟩ := c
  obtain ⟨fd, F⟩ := c.def_ 26 (d := d31) rfl
  exact ⟨_, fd, He.glo_ok X G (c.fact 26 (f := .glo "_law_are_letters_right") rfl), F⟩
theorem fn__law_are_joined_right (c : Cc K mg) : ∃ f fd, mg ("_law_are_joined_right" : Str) = some (.ref f) ∧ FnS K "_law_are_joined_right" s32 f fd := by
  obtain ⟨⟨h, X, G⟩, c⟩ := c
  obtain ⟨fd, F⟩ := c.def_ 27 (d := d32) rfl
  exact ⟨_, fd, He.glo_ok X G (c.fact 27 (f := .glo "_law_are_joined_right") rfl), F⟩
theorem fn__law_are_told_right (c : Cc K mg) : ∃ f fd, mg ("_law_are_told_right" : Str) = some (.ref f) ∧ FnS K "_law_are_told_right" s33 f fd := by
  obtain ⟨⟨h, X, G⟩, c⟩ := c
  obtain ⟨fd, F⟩ := c.def_ 28 (d := d33) rfl
  exact ⟨_, fd, He.glo_ok X G (c.fact 28 (f := .glo "_law_are_told_right") rfl), F⟩
theorem fn__law_is_all_right (c : Cc K mg) : ∃ f fd, mg ("_law_is_all_right" : Str) = some (.ref f) ∧ FnS K "_law_is_all_right" s34 f fd := by
  obtain ⟨⟨h, X, G⟩, c⟩ := c
  obtain ⟨fd, F⟩ := c.def_ 29 (d := d34) rfl
  exact ⟨_, fd, He.glo_ok X G (c.fact 29 (f := .glo "_law_is_all_right") rfl), F⟩
theorem fn_law (c : Cc K mg) : ∃ f fd, mg ("law" : Str) = some (.ref f) ∧ FnS K "law" s35 f fd := by
  obtain ⟨⟨h, X, G⟩, c⟩ := c
  obtain ⟨fd, F⟩ := c.def_ 30 (d := d35) rfl
  exact ⟨_, fd, He.glo_ok X G (c.fact 30 (f := .glo "law") rfl), F⟩
end
theorem bt_str : bootBuiltins ("str" : Str) = some (.type (Ty.name .str)) := by decide +kernel
theorem bt_tuple : bootBuiltins ("tuple" : Str) = some (.type (Ty.name .tuple)) := by decide +kernel
theorem bt_dict : bootBuiltins ("dict" : Str) = some (.type (Ty.name .dict)) := by decide +kernel
theorem bt_list : bootBuiltins ("list" : Str) = some (.type (Ty.name .list)) := by decide +kernel
theorem bt_bool : bootBuiltins ("bool" : Str) = some (.type (Ty.name .bool)) := by decide +kernel
theorem bt_int : bootBuiltins ("int" : Str) = some (.type (Ty.name .int)) := by decide +kernel
section
variable {P : Program} {w : World} {K : PySem.W.Frag} {mg : Str → Option Value} {base : Heap}
/-! ### row_makers -/
theorem sc_1 : FnScope ["counts", "found", "i", "j"] ["counts"] (defScope s1) := ⟨rfl, rfl, rfl, by decide +kernel, rfl, by decide +kernel, by decide +kernel⟩
theorem ok_row_makers (c : Cc K mg) : Kept P w K mg base 1 "row_makers" s1 ["counts"] [false] m_row_makers := by
  obtain ⟨f, fd, hm, F⟩ := fn_row_makers c
  have sc_nd := (sc_1).nd
  refine kept_mk (N := ["counts", "found", "i", "j"]) (n := 3) hm F sc_1 rfl rfl fun cdv A outer s H E h => ?_
  exact (ss_cons (ss_set (i := 1) sc_nd rfl (loc_by rfl) (se_lst ao_nil))
    (ss_cons (ss_for (passes_of rfl) rfl (si_rng2 (by rfl) (fr_range c) (ad_cons se_int (ad_cons (se_len (sc_nm 0) (by rfl) (fr_len c)) ad_nil))) (sg_name sc_nd (i := 2) rfl (loc_by rfl)) (ss_cons (ss_expr (se_append (i := 1) rfl (vis_by rfl) (se_sub (se_ix (sc_nm 0) (sc_nm 2) (fun _ _ => rfl)) (se_sum rfl (se_lc rfl sc_nd (si_rng2 (by rfl) (fr_range c) (ad_cons se_int (ad_cons (sc_nm 2) ad_nil))) (blkOk_by (own := [("j", 3)]) (by rfl)) (fun _ _ _ _ _ => (sg_name sc_nd (i := 3) rfl (loc_by rfl))) (fun _ _ _ _ _ => spt_nil) (fun _ _ _ _ _ => (se_mul (se_ix (sc_nm 1) (se_sub (sc_nm 3) se_int) (fun _ _ => rfl)) (se_ix (sc_nm 0) (se_sub (sc_nm 2) (sc_nm 3)) (fun _ _ => rfl))))) (by rfl) (fr_sum c)))))
    ss_nil))
    (ss_cons (ss_ret (se_tupOf (sc_nm 1) (by rfl) (fr_tuple c)))
    ss_nil)))
/-! ### rows_of_makers -/
theorem sc_2 : FnScope ["makers", "found", "i", "j"] ["makers"] (defScope s2) := ⟨rfl, rfl, rfl, by decide +kernel, rfl, by decide +kernel, by decide +kernel⟩
theorem ok_rows_of_makers (c : Cc K mg) : Kept P w K mg base 1 "rows_of_makers" s2 ["makers"] [false] m_rows_of_makers := by
  obtain ⟨f, fd, hm, F⟩ := fn_rows_of_makers c
  have sc_nd := (sc_2).nd
  refine kept_mk (N := ["makers", "found", "i", "j"]) (n := 3) hm F sc_2 rfl rfl fun cdv A outer s H E h => ?_
  exact (ss_cons (ss_set (i := 1) sc_nd rfl (loc_by rfl) (se_lst (ao_cons se_int ao_nil)))
    (ss_cons (ss_for (passes_of rfl) rfl (si_rng2 (by rfl) (fr_range c) (ad_cons se_int (ad_cons (se_add (se_len (sc_nm 0) (by rfl) (fr_len c)) se_int) ad_nil))) (sg_name sc_nd (i := 2) rfl (loc_by rfl)) (ss_cons (ss_expr (se_append (i := 1) rfl (vis_by rfl) (se_sum rfl (se_lc rfl sc_nd (si_rng2 (by rfl) (fr_range c) (ad_cons se_int (ad_cons (se_add (sc_nm 2) se_int) ad_nil))) (blkOk_by (own := [("j", 3)]) (by rfl)) (fun _ _ _ _ _ => (sg_name sc_nd (i := 3) rfl (loc_by rfl))) (fun _ _ _ _ _ => spt_nil) (fun _ _ _ _ _ => (se_mul (se_ix (sc_nm 0) (se_sub (sc_nm 3) se_int) (fun _ _ => rfl)) (se_ix (sc_nm 1) (se_sub (sc_nm 2) (sc_nm 3)) (fun _ _ => rfl))))) (by rfl) (fr_sum c))))
    ss_nil))
    (ss_cons (ss_ret (se_tupOf (sc_nm 1) (by rfl) (fr_tuple c)))
    ss_nil)))
/-! ### divisor_sum -/
theorem sc_3 : FnScope ["makers", "size", "d", "many"] ["makers", "size"] (defScope s3) := ⟨rfl, rfl, rfl, by decide +kernel, rfl, by decide +kernel, by decide +kernel⟩
theorem ok_divisor_sum (c : Cc K mg) : Kept P w K mg base 1 "divisor_sum" s3 ["makers", "size"] [true, false] m_divisor_sum := by
  obtain ⟨f, fd, hm, F⟩ := fn_divisor_sum c
  have sc_nd := (sc_3).nd
  refine kept_mk (N := ["makers", "size", "d", "many"]) (n := 2) hm F sc_3 rfl rfl fun cdv A outer s H E h => ?_
  exact (ss_cons (ss_ret (se_sum rfl (se_lcB rfl sc_nd (si_enumB (i := 0) (by rfl) (fr_enumerate c) rfl (vis_by rfl) (by decide)) (blkOk_by (own := [("d", 2), ("many", 3)]) (by rfl)) (fun _ _ _ _ _ => (sg_tup rfl (sgs_cons (sg_name sc_nd (i := 2) rfl (loc_by rfl)) (sgs_cons (sg_name sc_nd (i := 3) rfl (loc_by rfl)) sgs_nil)))) (fun _ _ _ _ _ => (spt_one (st_eq h.u (se_mod (sc_nm 1) (sc_nm 2)) se_int))) (fun _ _ _ _ _ => (se_mul (sc_nm 2) (sc_nm 3)))) (by rfl) (fr_sum c)))
    ss_nil)
/-! ### lot_makers -/
theorem sc_4 : FnScope ["counts", "found", "sums", "i", "own", "j"] ["counts"] (defScope s4) := ⟨rfl, rfl, rfl, by decide +kernel, rfl, by decide +kernel, by decide +kernel⟩
theorem ok_lot_makers (c : Cc K mg) : Kept P w K mg base 2 "lot_makers" s4 ["counts"] [false] m_lot_makers := by
  have k_divisor_sum := ok_divisor_sum (P := P) (w := w) (base := base) c
  obtain ⟨f, fd, hm, F⟩ := fn_lot_makers c
  have sc_nd := (sc_4).nd
  refine kept_mk (N := ["counts", "found", "sums", "i", "own", "j"]) (n := 5) hm F sc_4 rfl rfl fun cdv A outer s H E h => ?_
  exact (ss_cons (ss_parC2 (i := 1) (j := 2) rfl sc_nd rfl rfl (loc_by rfl) (loc_by rfl) (ao_cons (se_lst ao_nil) (ao_cons (se_lst ao_nil) ao_nil)))
    (ss_cons (ss_for (passes_of rfl) rfl (si_rng2 (by rfl) (fr_range c) (ad_cons se_int (ad_cons (se_len (sc_nm 0) (by rfl) (fr_len c)) ad_nil))) (sg_name sc_nd (i := 3) rfl (loc_by rfl)) (ss_cons (ss_set (i := 4) sc_nd rfl (loc_by rfl) (se_sub (se_mul (sc_nm 3) (se_ix (sc_nm 0) (sc_nm 3) (fun _ _ => rfl))) (se_sum rfl (se_lc rfl sc_nd (si_rng2 (by rfl) (fr_range c) (ad_cons se_int (ad_cons (sc_nm 3) ad_nil))) (blkOk_by (own := [("j", 5)]) (by rfl)) (fun _ _ _ _ _ => (sg_name sc_nd (i := 5) rfl (loc_by rfl))) (fun _ _ _ _ _ => spt_nil) (fun _ _ _ _ _ => (se_mul (se_ix (sc_nm 2) (se_sub (sc_nm 5) se_int) (fun _ _ => rfl)) (se_ix (sc_nm 0) (se_sub (sc_nm 3) (sc_nm 5)) (fun _ _ => rfl))))) (by rfl) (fr_sum c))))
    (ss_cons (ss_expr (se_append (i := 2) rfl (vis_by rfl) (sc_nm 4)))
    (ss_cons (ss_expr (se_append (i := 1) rfl (vis_by rfl) (se_fdiv (se_sub (sc_nm 4) (sc_call k_divisor_sum ⟨h.room, h.gd⟩ takes_cx (fun _ _ _ _ _ _ us hl => match us, hl with | [_, _], _ => rfl) (ax_cons (sc_nm 1) (ax_cons (sc_nm 3) ax_nil)))) (sc_nm 3))))
    ss_nil))))
    (ss_cons (ss_ret (se_tupOf (sc_nm 1) (by rfl) (fr_tuple c)))
    ss_nil)))
/-! ### lots_of_makers -/
theorem sc_5 : FnScope ["makers", "found", "sums", "i", "j"] ["makers"] (defScope s5) := ⟨rfl, rfl, rfl, by decide +kernel, rfl, by decide +kernel, by decide +kernel⟩
theorem ok_lots_of_makers (c : Cc K mg) : Kept P w K mg base 2 "lots_of_makers" s5 ["makers"] [false] m_lots_of_makers := by
  have k_divisor_sum := ok_divisor_sum (P := P) (w := w) (base := base) c
  obtain ⟨f, fd, hm, F⟩ := fn_lots_of_makers c
  have sc_nd := (sc_5).nd
  refine kept_mk (N := ["makers", "found", "sums", "i", "j"]) (n := 4) hm F sc_5 rfl rfl fun cdv A outer s H E h => ?_
  exact (ss_cons (ss_parC2 (i := 1) (j := 2) rfl sc_nd rfl rfl (loc_by rfl) (loc_by rfl) (ao_cons (se_lst (ao_cons se_int ao_nil)) (ao_cons (se_lc rfl sc_nd (si_rng2 (by rfl) (fr_range c) (ad_cons se_int (ad_cons (se_add (se_len (sc_nm 0) (by rfl) (fr_len c)) se_int) ad_nil))) (blkOk_by (own := [("i", 3)]) (by rfl)) (fun _ _ _ _ _ => (sg_name sc_nd (i := 3) rfl (loc_by rfl))) (fun _ _ _ _ _ => spt_nil) (fun _ _ _ _ _ => (sc_call k_divisor_sum ⟨h.room, h.gd⟩ passX0 (fun _ _ _ _ _ _ us hl => match us, hl with | [_, _], _ => rfl) (ax_cons (se_sl (sc_nm 0) spt_none (spt_some (sc_nm 3))) (ax_cons (sc_nm 3) ax_nil))))) ao_nil)))
    (ss_cons (ss_for (passes_of rfl) rfl (si_rng2 (by rfl) (fr_range c) (ad_cons se_int (ad_cons (se_add (se_len (sc_nm 0) (by rfl) (fr_len c)) se_int) ad_nil))) (sg_name sc_nd (i := 3) rfl (loc_by rfl)) (ss_cons (ss_expr (se_append (i := 1) rfl (vis_by rfl) (se_fdiv (se_sum rfl (se_lc rfl sc_nd (si_rng2 (by rfl) (fr_range c) (ad_cons se_int (ad_cons (se_add (sc_nm 3) se_int) ad_nil))) (blkOk_by (own := [("j", 4)]) (by rfl)) (fun _ _ _ _ _ => (sg_name sc_nd (i := 4) rfl (loc_by rfl))) (fun _ _ _ _ _ => spt_nil) (fun _ _ _ _ _ => (se_mul (se_ix (sc_nm 2) (se_sub (sc_nm 4) se_int) (fun _ _ => rfl)) (se_ix (sc_nm 1) (se_sub (sc_nm 3) (sc_nm 4)) (fun _ _ => rfl))))) (by rfl) (fr_sum c)) (sc_nm 3))))
    ss_nil))
    (ss_cons (ss_ret (se_tupOf (sc_nm 1) (by rfl) (fr_tuple c)))
    ss_nil)))
/-! ### row_joined -/
theorem sc_9 : FnScope ["one", "other", "found", "i", "j"] ["one", "other"] (defScope s9) := ⟨rfl, rfl, rfl, by decide +kernel, rfl, by decide +kernel, by decide +kernel⟩
theorem ok_row_joined (c : Cc K mg) : Kept P w K mg base 1 "row_joined" s9 ["one", "other"] [false, false] m_row_joined := by
  obtain ⟨f, fd, hm, F⟩ := fn_row_joined c
  have sc_nd := (sc_9).nd
  refine kept_mk (N := ["one", "other", "found", "i", "j"]) (n := 3) hm F sc_9 rfl rfl fun cdv A outer s H E h => ?_
  exact (ss_cons (ss_set (i := 2) sc_nd rfl (loc_by rfl) (se_lst ao_nil))
    (ss_cons (ss_for (passes_of rfl) rfl (si_rng1 (by rfl) (fr_range c) (ad_cons (se_min2 rfl (se_len (sc_nm 0) (by rfl) (fr_len c)) (se_len (sc_nm 1) (by rfl) (fr_len c)) (by rfl) (fr_min c)) ad_nil)) (sg_name sc_nd (i := 3) rfl (loc_by rfl)) (ss_cons (ss_expr (se_append (i := 2) rfl (vis_by rfl) (se_sum rfl (se_lc rfl sc_nd (si_rng1 (by rfl) (fr_range c) (ad_cons (se_add (sc_nm 3) se_int) ad_nil)) (blkOk_by (own := [("j", 4)]) (by rfl)) (fun _ _ _ _ _ => (sg_name sc_nd (i := 4) rfl (loc_by rfl))) (fun _ _ _ _ _ => spt_nil) (fun _ _ _ _ _ => (se_mul (se_ix (sc_nm 0) (sc_nm 4) (fun _ _ => rfl)) (se_ix (sc_nm 1) (se_sub (sc_nm 3) (sc_nm 4)) (fun _ _ => rfl))))) (by rfl) (fr_sum c))))
    ss_nil))
    (ss_cons (ss_ret (se_tupOf (sc_nm 2) (by rfl) (fr_tuple c)))
    ss_nil)))
/-! ### _law_own_bag -/
theorem sc_11 : FnScope ["script", "cells", "mixed", "cell"] ["script"] (defScope s11) := ⟨rfl, rfl, rfl, by decide +kernel, rfl, by decide +kernel, by decide +kernel⟩
theorem ok__law_own_bag (c : Cc K mg) : Kept P w K mg base 1 "_law_own_bag" s11 ["script"] [false] m_law_own_bag := by
  obtain ⟨f, fd, hm, F⟩ := fn__law_own_bag c
  have sc_nd := (sc_11).nd
  refine kept_mk (N := ["script", "cells", "mixed", "cell"]) (n := 3) hm F sc_11 rfl rfl fun cdv A outer s H E h => ?_
  exact (ss_cons (ss_setLc (i := 1) rfl sc_nd rfl rfl rfl (si_sq (se_sl (sc_nm 0) spt_none (spt_some se_int))) (blkOk_by (own := [("cell", 3)]) (by rfl)) (fun _ _ _ _ _ => (sg_name sc_nd (i := 3) rfl (loc_by rfl))) (fun _ _ _ _ _ => spt_nil) (fun _ _ _ _ _ => (se_abs (sc_nm 3) (by rfl) (fr_abs c))))
    (ss_cons (ss_set (i := 2) sc_nd rfl (loc_by rfl) (se_add se_int (se_len (sc_nm 1) (by rfl) (fr_len c))))
    (ss_cons (ss_for (passes_of rfl) rfl (si_sq (sc_nm 1)) (sg_name sc_nd (i := 3) rfl (loc_by rfl)) (ss_cons (ss_set (i := 2) sc_nd rfl (loc_by rfl) (se_mod (se_add (se_add (se_mul (sc_nm 2) se_int) (se_mod (se_int_ (sc_nm 3) (by rfl) (fr_int c)) se_int)) se_int) se_int))
    ss_nil))
    (ss_cons (ss_ret (se_lst (ao_cons (se_lstRev rfl (se_lstOf (sc_nm 1) (by rfl) (fr_list c)) (by rfl) (fr_list c) (by rfl) (fr_reversed c)) (ao_cons se_int (ao_cons (sc_nm 2) ao_nil)))))
    ss_nil))))
/-! ### _law_draw -/
theorem sc_12 : FnScope ["bag", "below", "cell", "found"] ["bag", "below"] (defScope s12) := ⟨rfl, rfl, rfl, by decide +kernel, rfl, by decide +kernel, by decide +kernel⟩
theorem ok__law_draw (c : Cc K mg) : Kept P w K mg base 1 "_law_draw" s12 ["bag", "below"] [true, false] m_law_draw := by
  obtain ⟨f, fd, hm, F⟩ := fn__law_draw c
  have sc_nd := (sc_12).nd
  refine kept_mk (N := ["bag", "below", "cell", "found"]) (n := 2) hm F sc_12 rfl rfl fun cdv A outer s H E h => ?_
  exact (ss_cons (ss_while (passes_of rfl) (st_w (sw_and (st_eq h.u (se_ix (sc_nm 0) se_int (fun _ _ => rfl)) se_int) (sw_and1 (st_neSub h.u (i := 0) rfl (vis_by rfl) (fun _ _ => rfl))))) (ss_cons (ss_set (i := 2) sc_nd rfl (loc_by rfl) (se_popSub (i := 0) rfl (vis_by rfl) (fun _ _ => rfl)))
    (ss_cons (ss_sub (i := 0) rfl (vis_by rfl) se_int (se_if (st_ord oGt h.u (sc_nm 2) (se_pow se_int se_int)) (sc_nm 2) se_int))
    ss_nil)))
    (ss_cons (ss_if (st_ord oGt h.u (se_ix (sc_nm 0) se_int (fun _ _ => rfl)) se_int) (ss_cons (ss_set (i := 3) sc_nd rfl (loc_by rfl) (se_mod (se_int_ (se_ix (sc_nm 0) se_int (fun _ _ => rfl)) (by rfl) (fr_int c)) (sc_nm 1)))
    (ss_cons (ss_sub (i := 0) rfl (vis_by rfl) se_int (se_fdiv (se_ix (sc_nm 0) se_int (fun _ _ => rfl)) (sc_nm 1)))
    (ss_cons (ss_ret (sc_nm 3))
    ss_nil))) ss_nil)
    (ss_cons (ss_sub (i := 0) rfl (vis_by rfl) se_int (se_mod (se_add (se_mul (se_ix (sc_nm 0) se_int (fun _ _ => rfl)) se_int) se_int) se_int))
    (ss_cons (ss_ret (se_mod (se_fdiv (se_mod (se_mul (se_ix (sc_nm 0) se_int (fun _ _ => rfl)) (se_ix (sc_nm 0) se_int (fun _ _ => rfl))) se_int) se_int) (sc_nm 1)))
    ss_nil))))
/-! ### _law_pick -/
theorem sc_13 : FnScope ["bag", "some"] ["bag", "some"] (defScope s13) := ⟨rfl, rfl, rfl, by decide +kernel, rfl, by decide +kernel, by decide +kernel⟩
theorem ok__law_pick (c : Cc K mg) : Kept P w K mg base 2 "_law_pick" s13 ["bag", "some"] [true, false] m_law_pick := by
  have k__law_draw := ok__law_draw (P := P) (w := w) (base := base) c
  obtain ⟨f, fd, hm, F⟩ := fn__law_pick c
  have sc_nd := (sc_13).nd
  refine kept_mk (N := ["bag", "some"]) (n := 0) hm F sc_13 rfl rfl fun cdv A outer s H E h => ?_
  exact (ss_cons (ss_ret (se_ix (sc_nm 1) (sc_call k__law_draw ⟨h.room, h.gd⟩ takes_cx (fun _ _ _ _ _ _ us hl => match us, hl with | [_, _], _ => rfl) (ax_cons (sc_nm 0) (ax_cons (se_len (sc_nm 1) (by rfl) (fr_len c)) ax_nil))) (fun _ _ => rfl)))
    ss_nil)
/-! ### _law_number -/
theorem sc_14 : FnScope ["bag", "way", "found"] ["bag", "way"] (defScope s14) := ⟨rfl, rfl, rfl, by decide +kernel, rfl, by decide +kernel, by decide +kernel⟩
theorem ok__law_number (c : Cc K mg) : Kept P w K mg base 3 "_law_number" s14 ["bag", "way"] [true, false] m_law_number := by
  have k__law_draw := ok__law_draw (P := P) (w := w) (base := base) c
  have k__law_pick := ok__law_pick (P := P) (w := w) (base := base) c
  obtain ⟨f, fd, hm, F⟩ := fn__law_number c
  have sc_nd := (sc_14).nd
  refine kept_mk (N := ["bag", "way", "found"]) (n := 1) hm F sc_14 rfl rfl fun cdv A outer s H E h => ?_
  exact (ss_cons (ss_if (st_eq h.u (sc_nm 1) se_int) (ss_cons (ss_set (i := 1) sc_nd rfl (loc_by rfl) (sc_call k__law_draw ⟨h.room, h.gd⟩ takes_cx (fun _ _ _ _ _ _ us hl => match us, hl with | [_, _], _ => rfl) (ax_cons (sc_nm 0) (ax_cons se_int ax_nil))))
    ss_nil) ss_nil)
    (ss_cons (ss_if (st_eq h.u (sc_nm 1) se_int) (ss_cons (ss_ret (se_sub (sc_call k__law_draw ⟨h.room, h.gd⟩ takes_cx (fun _ _ _ _ _ _ us hl => match us, hl with | [_, _], _ => rfl) (ax_cons (sc_nm 0) (ax_cons se_int ax_nil))) se_int))
    ss_nil) ss_nil)
    (ss_cons (ss_if (st_eq h.u (sc_nm 1) se_int) (ss_cons (ss_ret (se_sub (sc_call k__law_draw ⟨h.room, h.gd⟩ takes_cx (fun _ _ _ _ _ _ us hl => match us, hl with | [_, _], _ => rfl) (ax_cons (sc_nm 0) (ax_cons se_int ax_nil))) se_int))
    ss_nil) ss_nil)
    (ss_cons (ss_if (st_eq h.u (sc_nm 1) se_int) (ss_cons (ss_set (i := 2) sc_nd rfl (loc_by rfl) (se_min2 rfl (se_add (se_mul (sc_call k__law_draw ⟨h.room, h.gd⟩ takes_cx (fun _ _ _ _ _ _ us hl => match us, hl with | [_, _], _ => rfl) (ax_cons (sc_nm 0) (ax_cons se_int ax_nil))) (se_pow se_int se_int)) (sc_call k__law_draw ⟨h.room, h.gd⟩ takes_cx (fun _ _ _ _ _ _ us hl => match us, hl with | [_, _], _ => rfl) (ax_cons (sc_nm 0) (ax_cons (se_pow se_int se_int) ax_nil)))) (se_pow se_int se_int) (by rfl) (fr_min c)))
    (ss_cons (ss_ret (se_if (st_eq h.u (sc_call k__law_draw ⟨h.room, h.gd⟩ takes_cx (fun _ _ _ _ _ _ us hl => match us, hl with | [_, _], _ => rfl) (ax_cons (sc_nm 0) (ax_cons se_int ax_nil))) se_int) (sc_nm 2) (se_neg (sc_nm 2))))
    ss_nil)) ss_nil)
    (ss_cons (ss_ret (sc_call k__law_pick ⟨h.room, h.gd⟩ takes_cx (fun _ _ _ _ _ _ us hl => match us, hl with | [_, _], _ => rfl) (ax_cons (sc_nm 0) (ax_cons (se_lst (ao_cons (se_pow se_int se_int) (ao_cons (se_neg (se_pow se_int se_int)) (ao_cons (se_sub (se_pow se_int se_int) se_int) (ao_cons se_int (ao_cons se_int (ao_cons (se_neg se_int) ao_nil))))))) ax_nil))))
    ss_nil)))))
/-! ### _law_numbers -/
theorem sc_15 : FnScope ["bag", "many", "way", "turn"] ["bag", "many", "way"] (defScope s15) := ⟨rfl, rfl, rfl, by decide +kernel, rfl, by decide +kernel, by decide +kernel⟩
theorem ok__law_numbers (c : Cc K mg) : Kept P w K mg base 4 "_law_numbers" s15 ["bag", "many", "way"] [true, false, false] m_law_numbers := by
  have k__law_number := ok__law_number (P := P) (w := w) (base := base) c
  obtain ⟨f, fd, hm, F⟩ := fn__law_numbers c
  have sc_nd := (sc_15).nd
  refine kept_mk (N := ["bag", "many", "way", "turn"]) (n := 1) hm F sc_15 rfl rfl fun cdv A outer s H E h => ?_
  exact (ss_cons (ss_ret (se_tupOf (se_lc rfl sc_nd (si_rng1 (by rfl) (fr_range c) (ad_cons (sc_nm 1) ad_nil)) (blkOk_by (own := [("turn", 3)]) (by rfl)) (fun _ _ _ _ _ => (sg_name sc_nd (i := 3) rfl (loc_by rfl))) (fun _ _ _ _ _ => spt_nil) (fun _ _ _ _ _ => (sc_call k__law_number ⟨h.room, h.gd⟩ passX0 (fun _ _ _ _ _ _ us hl => match us, hl with | [_, _], _ => rfl) (ax_cons (sc_nm 0) (ax_cons (sc_nm 2) ax_nil))))) (by rfl) (fr_tuple c)))
    ss_nil)
/-! ### _law_same -/
theorem sc_16 : FnScope ["told", "due", "one", "other"] ["told", "due"] (defScope s16) := ⟨rfl, rfl, rfl, by decide +kernel, rfl, by decide +kernel, by decide +kernel⟩
theorem okr__law_same (c : Cc K mg) : ∀ n : Nat, Kept P w K mg base (0 + n) "_law_same" s16 ["told", "due"] [false, false] (m_law_same n)
  | 0 => by
    obtain ⟨f, fd, hm, F⟩ := fn__law_same c
    exact kept_bad hm F rfl
  | n + 1 => by
    have k__law_same := okr__law_same c n
    obtain ⟨f, fd, hm, F⟩ := fn__law_same c
    have sc_nd := (sc_16).nd
    refine kept_mk (k := 0 + n) (N := ["told", "due", "one", "other"]) (n := 2) hm F sc_16 rfl rfl fun cdv A outer s H E h => ?_
    exact (ss_cons (ss_if (st_isN (sc_nm 1) se_non) (ss_cons (ss_ret (se_isN (sc_nm 0) se_non))
    ss_nil) ss_nil)
    (ss_cons (ss_if (st_val (se_isi (T := .str) (sc_nm 1) (by rfl) (fr_isinstance c) (by rfl) (fr_str c) bt_str)) (ss_cons (ss_ret (se_and (se_isi (T := .str) (sc_nm 0) (by rfl) (fr_isinstance c) (by rfl) (fr_str c) bt_str) (se_one (se_eq h.u (sc_nm 0) (sc_nm 1)))))
    ss_nil) ss_nil)
    (ss_cons (ss_if (st_val (se_isi (T := .tuple) (sc_nm 1) (by rfl) (fr_isinstance c) (by rfl) (fr_tuple c) bt_tuple)) (ss_cons (ss_if (st_w (sw_or (st_not (st_val (se_isi (T := .tuple) (sc_nm 0) (by rfl) (fr_isinstance c) (by rfl) (fr_tuple c) bt_tuple))) (sw_or1 (st_ne h.u (se_len (sc_nm 0) (by rfl) (fr_len c)) (se_len (sc_nm 1) (by rfl) (fr_len c)))))) (ss_cons (ss_ret se_bl)
    ss_nil) ss_nil)
    (ss_cons (ss_ret (se_all rfl (se_lc rfl sc_nd (si_zip (by rfl) (fr_zip c) (ad_cons (sc_nm 0) (ad_cons (sc_nm 1) ad_nil))) (blkOk_by (own := [("one", 2), ("other", 3)]) (by rfl)) (fun _ _ _ _ _ => (sg_tup rfl (sgs_cons (sg_name sc_nd (i := 2) rfl (loc_by rfl)) (sgs_cons (sg_name sc_nd (i := 3) rfl (loc_by rfl)) sgs_nil)))) (fun _ _ _ _ _ => spt_nil) (fun _ _ _ _ _ => (sc_call k__law_same ⟨h.room, h.gd⟩ passX0 (fun _ _ _ _ _ _ us hl => match us, hl with | [_, _], _ => rfl) (ax_cons (sc_nm 2) (ax_cons (sc_nm 3) ax_nil)) (hk := Nat.le_refl _)))) (by rfl) (fr_all c)))
    ss_nil)) ss_nil)
    (ss_cons (ss_ret (se_and (se_isi (T := .int) (sc_nm 0) (by rfl) (fr_isinstance c) (by rfl) (fr_int c) bt_int) (se_and (se_not (se_isi (T := .bool) (sc_nm 0) (by rfl) (fr_isinstance c) (by rfl) (fr_bool c) bt_bool)) (se_one (se_eq h.u (sc_nm 0) (sc_nm 1))))))
    ss_nil))))
theorem ok__law_same (c : Cc K mg) : Kept P w K mg base 8 "_law_same" s16 ["told", "due"] [false, false] (m_law_same 8) := okr__law_same c 8
/-! ### _law_may_be_handed -/
theorem sc_17 : FnScope ["row", "item"] ["row"] (defScope s17) := ⟨rfl, rfl, rfl, by decide +kernel, rfl, by decide +kernel, by decide +kernel⟩
theorem ok__law_may_be_handed (c : Cc K mg) : Kept P w K mg base 1 "_law_may_be_handed" s17 ["row"] [false] m_law_may_be_handed := by
  obtain ⟨f, fd, hm, F⟩ := fn__law_may_be_handed c
  have sc_nd := (sc_17).nd
  refine kept_mk (N := ["row", "item"]) (n := 1) hm F sc_17 rfl rfl fun cdv A outer s H E h => ?_
  exact (ss_cons (ss_ret (se_all rfl (se_lc rfl sc_nd (si_sq (sc_nm 0)) (blkOk_by (own := [("item", 1)]) (by rfl)) (fun _ _ _ _ _ => (sg_name sc_nd (i := 1) rfl (loc_by rfl))) (fun _ _ _ _ _ => spt_nil) (fun _ _ _ _ _ => (se_ord oLe h.u (se_abs (sc_nm 1) (by rfl) (fr_abs c)) (se_pow se_int se_int)))) (by rfl) (fr_all c)))
    ss_nil)
/-! ### _law_row_makers -/
theorem sc_18 : FnScope ["counts", "found", "i", "j"] ["counts"] (defScope s18) := ⟨rfl, rfl, rfl, by decide +kernel, rfl, by decide +kernel, by decide +kernel⟩
theorem ok__law_row_makers (c : Cc K mg) : Kept P w K mg base 1 "_law_row_makers" s18 ["counts"] [false] m_law_row_makers := by
  obtain ⟨f, fd, hm, F⟩ := fn__law_row_makers c
  have sc_nd := (sc_18).nd
  refine kept_mk (N := ["counts", "found", "i", "j"]) (n := 3) hm F sc_18 rfl rfl fun cdv A outer s H E h => ?_
  exact (ss_cons (ss_set (i := 1) sc_nd rfl (loc_by rfl) (se_lst ao_nil))
    (ss_cons (ss_for (passes_of rfl) rfl (si_rng2 (by rfl) (fr_range c) (ad_cons se_int (ad_cons (se_len (sc_nm 0) (by rfl) (fr_len c)) ad_nil))) (sg_name sc_nd (i := 2) rfl (loc_by rfl)) (ss_cons (ss_expr (se_append (i := 1) rfl (vis_by rfl) (se_sub (se_ix (sc_nm 0) (sc_nm 2) (fun _ _ => rfl)) (se_sum rfl (se_lc rfl sc_nd (si_rng2 (by rfl) (fr_range c) (ad_cons se_int (ad_cons (sc_nm 2) ad_nil))) (blkOk_by (own := [("j", 3)]) (by rfl)) (fun _ _ _ _ _ => (sg_name sc_nd (i := 3) rfl (loc_by rfl))) (fun _ _ _ _ _ => spt_nil) (fun _ _ _ _ _ => (se_mul (se_ix (sc_nm 1) (se_sub (sc_nm 3) se_int) (fun _ _ => rfl)) (se_ix (sc_nm 0) (se_sub (sc_nm 2) (sc_nm 3)) (fun _ _ => rfl))))) (by rfl) (fr_sum c)))))
    ss_nil))
    (ss_cons (ss_ret (se_tupOf (sc_nm 1) (by rfl) (fr_tuple c)))
    ss_nil)))
/-! ### _law_rows_of -/
theorem sc_19 : FnScope ["makers", "found", "i", "j"] ["makers"] (defScope s19) := ⟨rfl, rfl, rfl, by decide +kernel, rfl, by decide +kernel, by decide +kernel⟩
theorem ok__law_rows_of (c : Cc K mg) : Kept P w K mg base 1 "_law_rows_of" s19 ["makers"] [false] m_law_rows_of := by
  obtain ⟨f, fd, hm, F⟩ := fn__law_rows_of c
  have sc_nd := (sc_19).nd
  refine kept_mk (N := ["makers", "found", "i", "j"]) (n := 3) hm F sc_19 rfl rfl fun cdv A outer s H E h => ?_
  exact (ss_cons (ss_set (i := 1) sc_nd rfl (loc_by rfl) (se_lst (ao_cons se_int ao_nil)))
    (ss_cons (ss_for (passes_of rfl) rfl (si_rng2 (by rfl) (fr_range c) (ad_cons se_int (ad_cons (se_add (se_len (sc_nm 0) (by rfl) (fr_len c)) se_int) ad_nil))) (sg_name sc_nd (i := 2) rfl (loc_by rfl)) (ss_cons (ss_expr (se_append (i := 1) rfl (vis_by rfl) (se_sum rfl (se_lc rfl sc_nd (si_rng2 (by rfl) (fr_range c) (ad_cons se_int (ad_cons (se_add (sc_nm 2) se_int) ad_nil))) (blkOk_by (own := [("j", 3)]) (by rfl)) (fun _ _ _ _ _ => (sg_name sc_nd (i := 3) rfl (loc_by rfl))) (fun _ _ _ _ _ => spt_nil) (fun _ _ _ _ _ => (se_mul (se_ix (sc_nm 0) (se_sub (sc_nm 3) se_int) (fun _ _ => rfl)) (se_ix (sc_nm 1) (se_sub (sc_nm 2) (sc_nm 3)) (fun _ _ => rfl))))) (by rfl) (fr_sum c))))
    ss_nil))
    (ss_cons (ss_ret (se_tupOf (sc_nm 1) (by rfl) (fr_tuple c)))
    ss_nil)))
/-! ### _law_by_divisors -/
theorem sc_20 : FnScope ["makers", "size", "many", "d"] ["makers", "size"] (defScope s20) := ⟨rfl, rfl, rfl, by decide +kernel, rfl, by decide +kernel, by decide +kernel⟩
theorem ok__law_by_divisors (c : Cc K mg) : Kept P w K mg base 1 "_law_by_divisors" s20 ["makers", "size"] [true, false] m_law_by_divisors := by
  obtain ⟨f, fd, hm, F⟩ := fn__law_by_divisors c
  have sc_nd := (sc_20).nd
  refine kept_mk (N := ["makers", "size", "many", "d"]) (n := 2) hm F sc_20 rfl rfl fun cdv A outer s H E h => ?_
  exact (ss_cons (ss_set (i := 2) sc_nd rfl (loc_by rfl) (se_len (sc_nm 0) (by rfl) (fr_len c)))
    (ss_cons (ss_ret (se_sum rfl (se_lc rfl sc_nd (si_rng2 (by rfl) (fr_range c) (ad_cons se_int (ad_cons (se_add (se_min2 rfl (sc_nm 1) (sc_nm 2) (by rfl) (fr_min c)) se_int) ad_nil))) (blkOk_by (own := [("d", 3)]) (by rfl)) (fun _ _ _ _ _ => (sg_name sc_nd (i := 3) rfl (loc_by rfl))) (fun _ _ _ _ _ => (spt_one (st_eq h.u (se_mod (se_int_ (sc_nm 1) (by rfl) (fr_int c)) (sc_nm 3)) se_int))) (fun _ _ _ _ _ => (se_mul (sc_nm 3) (se_ix (sc_nm 0) (se_sub (sc_nm 3) se_int) (fun _ _ => rfl))))) (by rfl) (fr_sum c)))
    ss_nil))
/-! ### _law_lots_of -/
theorem sc_21 : FnScope ["makers", "sums", "found", "i", "total", "size", "k"] ["makers"] (defScope s21) := ⟨rfl, rfl, rfl, by decide +kernel, rfl, by decide +kernel, by decide +kernel⟩
theorem ok__law_lots_of (c : Cc K mg) : Kept P w K mg base 2 "_law_lots_of" s21 ["makers"] [true] m_law_lots_of := by
  have k__law_by_divisors := ok__law_by_divisors (P := P) (w := w) (base := base) c
  obtain ⟨f, fd, hm, F⟩ := fn__law_lots_of c
  have sc_nd := (sc_21).nd
  refine kept_mk (N := ["makers", "sums", "found", "i", "total", "size", "k"]) (n := 6) hm F sc_21 rfl rfl fun cdv A outer s H E h => ?_
  exact (ss_cons (ss_set (i := 1) sc_nd rfl (loc_by rfl) (se_lc rfl sc_nd (si_rng2 (by rfl) (fr_range c) (ad_cons se_int (ad_cons (se_add (se_len (sc_nm 0) (by rfl) (fr_len c)) se_int) ad_nil))) (blkOk_by (own := [("size", 5)]) (by rfl)) (fun _ _ _ _ _ => (sg_name sc_nd (i := 5) rfl (loc_by rfl))) (fun _ _ _ _ _ => spt_nil) (fun _ _ _ _ _ => (sc_call k__law_by_divisors ⟨h.room, h.gd⟩ passX0 (fun _ _ _ _ _ _ us hl => match us, hl with | [_, _], _ => rfl) (ax_cons (sc_nm 0) (ax_cons (sc_nm 5) ax_nil))))))
    (ss_cons (ss_set (i := 2) sc_nd rfl (loc_by rfl) (se_lst (ao_cons se_int ao_nil)))
    (ss_cons (ss_for (passes_of rfl) rfl (si_rng2 (by rfl) (fr_range c) (ad_cons se_int (ad_cons (se_add (se_len (sc_nm 0) (by rfl) (fr_len c)) se_int) ad_nil))) (sg_name sc_nd (i := 3) rfl (loc_by rfl)) (ss_cons (ss_set (i := 4) sc_nd rfl (loc_by rfl) (se_sum rfl (se_lc rfl sc_nd (si_rng2 (by rfl) (fr_range c) (ad_cons se_int (ad_cons (se_add (sc_nm 3) se_int) ad_nil))) (blkOk_by (own := [("k", 6)]) (by rfl)) (fun _ _ _ _ _ => (sg_name sc_nd (i := 6) rfl (loc_by rfl))) (fun _ _ _ _ _ => spt_nil) (fun _ _ _ _ _ => (se_mul (se_ix (sc_nm 1) (se_sub (sc_nm 6) se_int) (fun _ _ => rfl)) (se_ix (sc_nm 2) (se_sub (sc_nm 3) (sc_nm 6)) (fun _ _ => rfl))))) (by rfl) (fr_sum c)))
    (ss_cons (ss_expr (se_append (i := 2) rfl (vis_by rfl) (se_fdiv (sc_nm 4) (sc_nm 3))))
    ss_nil)))
    (ss_cons (ss_ret (se_tupOf (sc_nm 2) (by rfl) (fr_tuple c)))
    ss_nil))))
/-! ### _law_lot_makers -/
theorem sc_22 : FnScope ["counts", "sums", "found", "i", "total", "k"] ["counts"] (defScope s22) := ⟨rfl, rfl, rfl, by decide +kernel, rfl, by decide +kernel, by decide +kernel⟩
theorem ok__law_lot_makers (c : Cc K mg) : Kept P w K mg base 2 "_law_lot_makers" s22 ["counts"] [false] m_law_lot_makers := by
  have k__law_by_divisors := ok__law_by_divisors (P := P) (w := w) (base := base) c
  obtain ⟨f, fd, hm, F⟩ := fn__law_lot_makers c
  have sc_nd := (sc_22).nd
  refine kept_mk (N := ["counts", "sums", "found", "i", "total", "k"]) (n := 5) hm F sc_22 rfl rfl fun cdv A outer s H E h => ?_
  exact (ss_cons (ss_parC2 (i := 1) (j := 2) rfl sc_nd rfl rfl (loc_by rfl) (loc_by rfl) (ao_cons (se_lst ao_nil) (ao_cons (se_lst ao_nil) ao_nil)))
    (ss_cons (ss_for (passes_of rfl) rfl (si_rng2 (by rfl) (fr_range c) (ad_cons se_int (ad_cons (se_len (sc_nm 0) (by rfl) (fr_len c)) ad_nil))) (sg_name sc_nd (i := 3) rfl (loc_by rfl)) (ss_cons (ss_set (i := 4) sc_nd rfl (loc_by rfl) (se_sub (se_mul (sc_nm 3) (se_ix (sc_nm 0) (sc_nm 3) (fun _ _ => rfl))) (se_sum rfl (se_lc rfl sc_nd (si_rng2 (by rfl) (fr_range c) (ad_cons se_int (ad_cons (sc_nm 3) ad_nil))) (blkOk_by (own := [("k", 5)]) (by rfl)) (fun _ _ _ _ _ => (sg_name sc_nd (i := 5) rfl (loc_by rfl))) (fun _ _ _ _ _ => spt_nil) (fun _ _ _ _ _ => (se_mul (se_ix (sc_nm 1) (se_sub (sc_nm 5) se_int) (fun _ _ => rfl)) (se_ix (sc_nm 0) (se_sub (sc_nm 3) (sc_nm 5)) (fun _ _ => rfl))))) (by rfl) (fr_sum c))))
    (ss_cons (ss_expr (se_append (i := 2) rfl (vis_by rfl) (se_fdiv (se_sub (sc_nm 4) (sc_call k__law_by_divisors ⟨h.room, h.gd⟩ takes_cx (fun _ _ _ _ _ _ us hl => match us, hl with | [_, _], _ => rfl) (ax_cons (sc_nm 2) (ax_cons (sc_nm 3) ax_nil)))) (sc_nm 3))))
    (ss_cons (ss_expr (se_append (i := 1) rfl (vis_by rfl) (sc_nm 4)))
    ss_nil))))
    (ss_cons (ss_ret (se_tupOf (sc_nm 2) (by rfl) (fr_tuple c)))
    ss_nil)))
/-! ### _law_are_row_makers_right -/
theorem sc_23 : FnScope ["counts", "due", "told", "named", "again"] ["counts"] (defScope s23) := ⟨rfl, rfl, rfl, by decide +kernel, rfl, by decide +kernel, by decide +kernel⟩
theorem ok__law_are_row_makers_right (c : Cc K mg) : Kept P w K mg base 9 "_law_are_row_makers_right" s23 ["counts"] [false] m_law_are_row_makers_right := by
  have k__law_may_be_handed := ok__law_may_be_handed (P := P) (w := w) (base := base) c
  have k__law_row_makers := ok__law_row_makers (P := P) (w := w) (base := base) c
  have k__law_same := ok__law_same (P := P) (w := w) (base := base) c
  have k_row_makers := ok_row_makers (P := P) (w := w) (base := base) c
  have k_rows_of_makers := ok_rows_of_makers (P := P) (w := w) (base := base) c
  obtain ⟨f, fd, hm, F⟩ := fn__law_are_row_makers_right c
  have sc_nd := (sc_23).nd
  refine kept_mk (N := ["counts", "due", "told", "named", "again"]) (n := 4) hm F sc_23 rfl rfl fun cdv A outer s H E h => ?_
  exact (ss_cons (ss_set (i := 1) sc_nd rfl (loc_by rfl) (sc_call k__law_row_makers ⟨h.room, h.gd⟩ takes_cx (fun _ _ _ _ _ _ us hl => match us, hl with | [_], _ => rfl) (ax_cons (sc_nm 0) ax_nil)))
    (ss_cons (ss_par3 rfl sc_nd rfl rfl rfl (by decide) (by decide) (by decide) rfl rfl rfl (ao_cons (sc_call k_row_makers ⟨h.room, h.gd⟩ takes_cx (fun _ _ _ _ _ _ us hl => match us, hl with | [_], _ => rfl) (ax_cons (sc_nm 0) ax_nil)) (ao_cons (sc_callK0 (ks := ["counts"]) (pr := [0]) k_row_makers ⟨h.room, h.gd⟩ takes_cx (fun _ _ _ _ _ _ us ws hl hk => match us, hl, ws, hk with | [], _, [_], _ => rfl) (kx_cons (sc_nm 0) kx_nil)) (ao_cons (sc_call k_row_makers ⟨h.room, h.gd⟩ takes_cx (fun _ _ _ _ _ _ us hl => match us, hl with | [_], _ => rfl) (ax_cons (sc_nm 0) ax_nil)) ao_nil))) rfl)
    (ss_cons (ss_if (st_w (sw_or (st_not (st_val (sc_call k__law_same ⟨h.room, h.gd⟩ takes_cx (fun _ _ _ _ _ _ us hl => match us, hl with | [_, _], _ => rfl) (ax_cons (sc_nm 2) (ax_cons (sc_nm 1) ax_nil))))) (sw_or (st_not (st_val (sc_call k__law_same ⟨h.room, h.gd⟩ takes_cx (fun _ _ _ _ _ _ us hl => match us, hl with | [_, _], _ => rfl) (ax_cons (sc_nm 3) (ax_cons (sc_nm 1) ax_nil))))) (sw_or1 (st_not (st_val (sc_call k__law_same ⟨h.room, h.gd⟩ takes_cx (fun _ _ _ _ _ _ us hl => match us, hl with | [_, _], _ => rfl) (ax_cons (sc_nm 4) (ax_cons (sc_nm 1) ax_nil))))))))) (ss_cons (ss_ret se_bl)
    ss_nil) ss_nil)
    (ss_cons (ss_ret (se_or (se_not (sc_call k__law_may_be_handed ⟨h.room, h.gd⟩ takes_cx (fun _ _ _ _ _ _ us hl => match us, hl with | [_], _ => rfl) (ax_cons (sc_nm 1) ax_nil))) (se_one (sc_call k__law_same ⟨h.room, h.gd⟩ takes_cx (fun _ _ _ _ _ _ us hl => match us, hl with | [_, _], _ => rfl) (ax_cons (sc_call k_rows_of_makers ⟨h.room, h.gd⟩ takes_cx (fun _ _ _ _ _ _ us hl => match us, hl with | [_], _ => rfl) (ax_cons (sc_nm 2) ax_nil)) (ax_cons (sc_nm 0) ax_nil))))))
    ss_nil))))
/-! ### _law_are_lot_makers_right -/
theorem sc_24 : FnScope ["counts", "due", "told", "named", "again"] ["counts"] (defScope s24) := ⟨rfl, rfl, rfl, by decide +kernel, rfl, by decide +kernel, by decide +kernel⟩
theorem ok__law_are_lot_makers_right (c : Cc K mg) : Kept P w K mg base 9 "_law_are_lot_makers_right" s24 ["counts"] [false] m_law_are_lot_makers_right := by
  have k__law_lot_makers := ok__law_lot_makers (P := P) (w := w) (base := base) c
  have k__law_may_be_handed := ok__law_may_be_handed (P := P) (w := w) (base := base) c
  have k__law_same := ok__law_same (P := P) (w := w) (base := base) c
  have k_lot_makers := ok_lot_makers (P := P) (w := w) (base := base) c
  have k_lots_of_makers := ok_lots_of_makers (P := P) (w := w) (base := base) c
  obtain ⟨f, fd, hm, F⟩ := fn__law_are_lot_makers_right c
  have sc_nd := (sc_24).nd
  refine kept_mk (N := ["counts", "due", "told", "named", "again"]) (n := 4) hm F sc_24 rfl rfl fun cdv A outer s H E h => ?_
  exact (ss_cons (ss_set (i := 1) sc_nd rfl (loc_by rfl) (sc_call k__law_lot_makers ⟨h.room, h.gd⟩ takes_cx (fun _ _ _ _ _ _ us hl => match us, hl with | [_], _ => rfl) (ax_cons (sc_nm 0) ax_nil)))
    (ss_cons (ss_par3 rfl sc_nd rfl rfl rfl (by decide) (by decide) (by decide) rfl rfl rfl (ao_cons (sc_call k_lot_makers ⟨h.room, h.gd⟩ takes_cx (fun _ _ _ _ _ _ us hl => match us, hl with | [_], _ => rfl) (ax_cons (sc_nm 0) ax_nil)) (ao_cons (sc_callK0 (ks := ["counts"]) (pr := [0]) k_lot_makers ⟨h.room, h.gd⟩ takes_cx (fun _ _ _ _ _ _ us ws hl hk => match us, hl, ws, hk with | [], _, [_], _ => rfl) (kx_cons (sc_nm 0) kx_nil)) (ao_cons (sc_call k_lot_makers ⟨h.room, h.gd⟩ takes_cx (fun _ _ _ _ _ _ us hl => match us, hl with | [_], _ => rfl) (ax_cons (sc_nm 0) ax_nil)) ao_nil))) rfl)
    (ss_cons (ss_if (st_w (sw_or (st_not (st_val (sc_call k__law_same ⟨h.room, h.gd⟩ takes_cx (fun _ _ _ _ _ _ us hl => match us, hl with | [_, _], _ => rfl) (ax_cons (sc_nm 2) (ax_cons (sc_nm 1) ax_nil))))) (sw_or (st_not (st_val (sc_call k__law_same ⟨h.room, h.gd⟩ takes_cx (fun _ _ _ _ _ _ us hl => match us, hl with | [_, _], _ => rfl) (ax_cons (sc_nm 3) (ax_cons (sc_nm 1) ax_nil))))) (sw_or1 (st_not (st_val (sc_call k__law_same ⟨h.room, h.gd⟩ takes_cx (fun _ _ _ _ _ _ us hl => match us, hl with | [_, _], _ => rfl) (ax_cons (sc_nm 4) (ax_cons (sc_nm 1) ax_nil))))))))) (ss_cons (ss_ret se_bl)
    ss_nil) ss_nil)
    (ss_cons (ss_ret (se_or (se_not (sc_call k__law_may_be_handed ⟨h.room, h.gd⟩ takes_cx (fun _ _ _ _ _ _ us hl => match us, hl with | [_], _ => rfl) (ax_cons (sc_nm 1) ax_nil))) (se_one (sc_call k__law_same ⟨h.room, h.gd⟩ takes_cx (fun _ _ _ _ _ _ us hl => match us, hl with | [_, _], _ => rfl) (ax_cons (sc_call k_lots_of_makers ⟨h.room, h.gd⟩ takes_cx (fun _ _ _ _ _ _ us hl => match us, hl with | [_], _ => rfl) (ax_cons (sc_nm 2) ax_nil)) (ax_cons (sc_nm 0) ax_nil))))))
    ss_nil))))
/-! ### _law_are_rows_right -/
theorem sc_25 : FnScope ["makers", "due", "told", "named", "again"] ["makers"] (defScope s25) := ⟨rfl, rfl, rfl, by decide +kernel, rfl, by decide +kernel, by decide +kernel⟩
theorem ok__law_are_rows_right (c : Cc K mg) : Kept P w K mg base 9 "_law_are_rows_right" s25 ["makers"] [false] m_law_are_rows_right := by
  have k__law_may_be_handed := ok__law_may_be_handed (P := P) (w := w) (base := base) c
  have k__law_rows_of := ok__law_rows_of (P := P) (w := w) (base := base) c
  have k__law_same := ok__law_same (P := P) (w := w) (base := base) c
  have k_row_makers := ok_row_makers (P := P) (w := w) (base := base) c
  have k_rows_of_makers := ok_rows_of_makers (P := P) (w := w) (base := base) c
  obtain ⟨f, fd, hm, F⟩ := fn__law_are_rows_right c
  have sc_nd := (sc_25).nd
  refine kept_mk (N := ["makers", "due", "told", "named", "again"]) (n := 4) hm F sc_25 rfl rfl fun cdv A outer s H E h => ?_
  exact (ss_cons (ss_set (i := 1) sc_nd rfl (loc_by rfl) (sc_call k__law_rows_of ⟨h.room, h.gd⟩ takes_cx (fun _ _ _ _ _ _ us hl => match us, hl with | [_], _ => rfl) (ax_cons (sc_nm 0) ax_nil)))
    (ss_cons (ss_par3 rfl sc_nd rfl rfl rfl (by decide) (by decide) (by decide) rfl rfl rfl (ao_cons (sc_call k_rows_of_makers ⟨h.room, h.gd⟩ takes_cx (fun _ _ _ _ _ _ us hl => match us, hl with | [_], _ => rfl) (ax_cons (sc_nm 0) ax_nil)) (ao_cons (sc_callK0 (ks := ["makers"]) (pr := [0]) k_rows_of_makers ⟨h.room, h.gd⟩ takes_cx (fun _ _ _ _ _ _ us ws hl hk => match us, hl, ws, hk with | [], _, [_], _ => rfl) (kx_cons (sc_nm 0) kx_nil)) (ao_cons (sc_call k_rows_of_makers ⟨h.room, h.gd⟩ takes_cx (fun _ _ _ _ _ _ us hl => match us, hl with | [_], _ => rfl) (ax_cons (sc_nm 0) ax_nil)) ao_nil))) rfl)
    (ss_cons (ss_if (st_w (sw_or (st_not (st_val (sc_call k__law_same ⟨h.room, h.gd⟩ takes_cx (fun _ _ _ _ _ _ us hl => match us, hl with | [_, _], _ => rfl) (ax_cons (sc_nm 2) (ax_cons (sc_nm 1) ax_nil))))) (sw_or (st_not (st_val (sc_call k__law_same ⟨h.room, h.gd⟩ takes_cx (fun _ _ _ _ _ _ us hl => match us, hl with | [_, _], _ => rfl) (ax_cons (sc_nm 3) (ax_cons (sc_nm 1) ax_nil))))) (sw_or1 (st_not (st_val (sc_call k__law_same ⟨h.room, h.gd⟩ takes_cx (fun _ _ _ _ _ _ us hl => match us, hl with | [_, _], _ => rfl) (ax_cons (sc_nm 4) (ax_cons (sc_nm 1) ax_nil))))))))) (ss_cons (ss_ret se_bl)
    ss_nil) ss_nil)
    (ss_cons (ss_ret (se_or (se_not (sc_call k__law_may_be_handed ⟨h.room, h.gd⟩ takes_cx (fun _ _ _ _ _ _ us hl => match us, hl with | [_], _ => rfl) (ax_cons (sc_nm 1) ax_nil))) (se_one (sc_call k__law_same ⟨h.room, h.gd⟩ takes_cx (fun _ _ _ _ _ _ us hl => match us, hl with | [_, _], _ => rfl) (ax_cons (sc_call k_row_makers ⟨h.room, h.gd⟩ takes_cx (fun _ _ _ _ _ _ us hl => match us, hl with | [_], _ => rfl) (ax_cons (sc_nm 2) ax_nil)) (ax_cons (sc_nm 0) ax_nil))))))
    ss_nil))))
/-! ### _law_are_lots_right -/
theorem sc_26 : FnScope ["makers", "due", "told", "named", "again"] ["makers"] (defScope s26) := ⟨rfl, rfl, rfl, by decide +kernel, rfl, by decide +kernel, by decide +kernel⟩
theorem ok__law_are_lots_right (c : Cc K mg) : Kept P w K mg base 9 "_law_are_lots_right" s26 ["makers"] [true] m_law_are_lots_right := by
  have k__law_lots_of := ok__law_lots_of (P := P) (w := w) (base := base) c
  have k__law_may_be_handed := ok__law_may_be_handed (P := P) (w := w) (base := base) c
  have k__law_same := ok__law_same (P := P) (w := w) (base := base) c
  have k_lot_makers := ok_lot_makers (P := P) (w := w) (base := base) c
  have k_lots_of_makers := ok_lots_of_makers (P := P) (w := w) (base := base) c
  obtain ⟨f, fd, hm, F⟩ := fn__law_are_lots_right c
  have sc_nd := (sc_26).nd
  refine kept_mk (N := ["makers", "due", "told", "named", "again"]) (n := 4) hm F sc_26 rfl rfl fun cdv A outer s H E h => ?_
  exact (ss_cons (ss_set (i := 1) sc_nd rfl (loc_by rfl) (sc_call k__law_lots_of ⟨h.room, h.gd⟩ takes_cx (fun _ _ _ _ _ _ us hl => match us, hl with | [_], _ => rfl) (ax_cons (sc_nm 0) ax_nil)))
    (ss_cons (ss_par3 rfl sc_nd rfl rfl rfl (by decide) (by decide) (by decide) rfl rfl rfl (ao_cons (sc_call k_lots_of_makers ⟨h.room, h.gd⟩ takes_cx (fun _ _ _ _ _ _ us hl => match us, hl with | [_], _ => rfl) (ax_cons (sc_nm 0) ax_nil)) (ao_cons (sc_callK0 (ks := ["makers"]) (pr := [0]) k_lots_of_makers ⟨h.room, h.gd⟩ takes_cx (fun _ _ _ _ _ _ us ws hl hk => match us, hl, ws, hk with | [], _, [_], _ => rfl) (kx_cons (sc_nm 0) kx_nil)) (ao_cons (sc_call k_lots_of_makers ⟨h.room, h.gd⟩ takes_cx (fun _ _ _ _ _ _ us hl => match us, hl with | [_], _ => rfl) (ax_cons (sc_nm 0) ax_nil)) ao_nil))) rfl)
    (ss_cons (ss_if (st_w (sw_or (st_not (st_val (sc_call k__law_same ⟨h.room, h.gd⟩ takes_cx (fun _ _ _ _ _ _ us hl => match us, hl with | [_, _], _ => rfl) (ax_cons (sc_nm 2) (ax_cons (sc_nm 1) ax_nil))))) (sw_or (st_not (st_val (sc_call k__law_same ⟨h.room, h.gd⟩ takes_cx (fun _ _ _ _ _ _ us hl => match us, hl with | [_, _], _ => rfl) (ax_cons (sc_nm 3) (ax_cons (sc_nm 1) ax_nil))))) (sw_or1 (st_not (st_val (sc_call k__law_same ⟨h.room, h.gd⟩ takes_cx (fun _ _ _ _ _ _ us hl => match us, hl with | [_, _], _ => rfl) (ax_cons (sc_nm 4) (ax_cons (sc_nm 1) ax_nil))))))))) (ss_cons (ss_ret se_bl)
    ss_nil) ss_nil)
    (ss_cons (ss_ret (se_or (se_not (sc_call k__law_may_be_handed ⟨h.room, h.gd⟩ takes_cx (fun _ _ _ _ _ _ us hl => match us, hl with | [_], _ => rfl) (ax_cons (sc_nm 1) ax_nil))) (se_one (sc_call k__law_same ⟨h.room, h.gd⟩ takes_cx (fun _ _ _ _ _ _ us hl => match us, hl with | [_, _], _ => rfl) (ax_cons (sc_call k_lot_makers ⟨h.room, h.gd⟩ takes_cx (fun _ _ _ _ _ _ us hl => match us, hl with | [_], _ => rfl) (ax_cons (sc_nm 2) ax_nil)) (ax_cons (sc_nm 0) ax_nil))))))
    ss_nil))))
/-! ### _law_are_counts_right -/
theorem sc_27 : FnScope ["counts"] ["counts"] (defScope s27) := ⟨rfl, rfl, rfl, by decide +kernel, rfl, by decide +kernel, by decide +kernel⟩
theorem ok__law_are_counts_right (c : Cc K mg) : Kept P w K mg base 10 "_law_are_counts_right" s27 ["counts"] [false] m_law_are_counts_right := by
  have k__law_are_lot_makers_right := ok__law_are_lot_makers_right (P := P) (w := w) (base := base) c
  have k__law_are_row_makers_right := ok__law_are_row_makers_right (P := P) (w := w) (base := base) c
  obtain ⟨f, fd, hm, F⟩ := fn__law_are_counts_right c
  have sc_nd := (sc_27).nd
  refine kept_mk (N := ["counts"]) (n := 0) hm F sc_27 rfl rfl fun cdv A outer s H E h => ?_
  exact (ss_cons (ss_ret (se_and (sc_call k__law_are_row_makers_right ⟨h.room, h.gd⟩ takes_cx (fun _ _ _ _ _ _ us hl => match us, hl with | [_], _ => rfl) (ax_cons (sc_nm 0) ax_nil)) (se_one (sc_call k__law_are_lot_makers_right ⟨h.room, h.gd⟩ takes_cx (fun _ _ _ _ _ _ us hl => match us, hl with | [_], _ => rfl) (ax_cons (sc_nm 0) ax_nil)))))
    ss_nil)
/-! ### _law_are_makers_right -/
theorem sc_28 : FnScope ["makers"] ["makers"] (defScope s28) := ⟨rfl, rfl, rfl, by decide +kernel, rfl, by decide +kernel, by decide +kernel⟩
theorem ok__law_are_makers_right (c : Cc K mg) : Kept P w K mg base 10 "_law_are_makers_right" s28 ["makers"] [true] m_law_are_makers_right := by
  have k__law_are_lots_right := ok__law_are_lots_right (P := P) (w := w) (base := base) c
  have k__law_are_rows_right := ok__law_are_rows_right (P := P) (w := w) (base := base) c
  obtain ⟨f, fd, hm, F⟩ := fn__law_are_makers_right c
  have sc_nd := (sc_28).nd
  refine kept_mk (N := ["makers"]) (n := 0) hm F sc_28 rfl rfl fun cdv A outer s H E h => ?_
  exact (ss_cons (ss_ret (se_and (sc_call k__law_are_rows_right ⟨h.room, h.gd⟩ takes_cx (fun _ _ _ _ _ _ us hl => match us, hl with | [_], _ => rfl) (ax_cons (sc_nm 0) ax_nil)) (se_one (sc_call k__law_are_lots_right ⟨h.room, h.gd⟩ takes_cx (fun _ _ _ _ _ _ us hl => match us, hl with | [_], _ => rfl) (ax_cons (sc_nm 0) ax_nil)))))
    ss_nil)
/-! ### _law_made_rows -/
theorem sc_29 : FnScope ["makers", "pieces", "rows", "at", "many", "size", "found", "piece", "number", "row"] ["makers"] (defScope s29) := ⟨rfl, rfl, rfl, by decide +kernel, rfl, by decide +kernel, by decide +kernel⟩
theorem ok__law_made_rows (c : Cc K mg) : Kept P w K mg base 1 "_law_made_rows" s29 ["makers"] [false] m_law_made_rows := by
  obtain ⟨f, fd, hm, F⟩ := fn__law_made_rows c
  have sc_nd := (sc_29).nd
  refine kept_mk (N := ["makers", "pieces", "rows", "at", "many", "size", "found", "piece", "number", "row"]) (n := 9) hm F sc_29 rfl rfl fun cdv A outer s H E h => ?_
  exact (ss_cons (ss_par2 rfl sc_nd rfl rfl (by decide) rfl rfl (ao_cons (se_lst ao_nil) (ao_cons (se_lst (ao_cons (se_fr (se_lst (ao_cons (se_tup ad_nil) ao_nil))) ao_nil)) ao_nil)) rfl)
    (ss_cons (ss_for (passes_of rfl) rfl (si_enum1 (by rfl) (fr_enumerate c) (ad_cons (sc_nm 0) ad_nil)) (sg_tup rfl (sgs_cons (sg_name sc_nd (i := 3) rfl (loc_by rfl)) (sgs_cons (sg_name sc_nd (i := 4) rfl (loc_by rfl)) sgs_nil))) (ss_cons (ss_expr (se_extend (i := 1) rfl (vis_by rfl) (se_lc rfl sc_nd (si_rng1 (by rfl) (fr_range c) (ad_cons (sc_nm 4) ad_nil)) (blkOk_by (own := [("number", 8)]) (by rfl)) (fun _ _ _ _ _ => (sg_name sc_nd (i := 8) rfl (loc_by rfl))) (fun _ _ _ _ _ => spt_nil) (fun _ _ _ _ _ => (se_tup (ad_cons (se_add (sc_nm 3) se_int) (ad_cons (sc_nm 8) ad_nil)))))))
    ss_nil))
    (ss_cons (ss_for (passes_of rfl) rfl (si_rng2 (by rfl) (fr_range c) (ad_cons se_int (ad_cons (se_add (se_len (sc_nm 0) (by rfl) (fr_len c)) se_int) ad_nil))) (sg_name sc_nd (i := 5) rfl (loc_by rfl)) (ss_cons (ss_set (i := 6) sc_nd rfl (loc_by rfl) (se_lst ao_nil))
    (ss_cons (ss_for (passes_of rfl) rfl (si_sq (sc_nm 1)) (sg_name sc_nd (i := 7) rfl (loc_by rfl)) (ss_cons (ss_if (st_ord oLe h.u (se_ix (sc_nm 7) se_int (fun _ _ => rfl)) (sc_nm 5)) (ss_cons (ss_expr (se_extend (i := 6) rfl (vis_by rfl) (se_lc rfl sc_nd (si_sq (se_ix (sc_nm 2) (se_sub (sc_nm 5) (se_ix (sc_nm 7) se_int (fun _ _ => rfl))) (fun _ _ => rfl))) (blkOk_by (own := [("row", 9)]) (by rfl)) (fun _ _ _ _ _ => (sg_name sc_nd (i := 9) rfl (loc_by rfl))) (fun _ _ _ _ _ => spt_nil) (fun _ _ _ _ _ => (se_add (sc_nm 9) (se_tup (ad_cons (sc_nm 7) ad_nil)))))))
    ss_nil) ss_nil)
    ss_nil))
    (ss_cons (ss_expr (se_append (i := 2) rfl (vis_by rfl) (sc_nm 6)))
    ss_nil))))
    (ss_cons (ss_ret (sc_nm 2))
    ss_nil))))
/-! ### _law_are_things_right -/
theorem sc_30 : FnScope ["bag", "makers", "rows", "lots", "by_rows", "by_lots", "turn", "found", "row"] ["bag"] (defScope s30) := ⟨rfl, rfl, rfl, by decide +kernel, rfl, by decide +kernel, by decide +kernel⟩
theorem ok__law_are_things_right (c : Cc K mg) : Kept P w K mg base 9 "_law_are_things_right" s30 ["bag"] [true] m_law_are_things_right := by
  have k__law_draw := ok__law_draw (P := P) (w := w) (base := base) c
  have k__law_made_rows := ok__law_made_rows (P := P) (w := w) (base := base) c
  have k__law_same := ok__law_same (P := P) (w := w) (base := base) c
  have k_lot_makers := ok_lot_makers (P := P) (w := w) (base := base) c
  have k_lots_of_makers := ok_lots_of_makers (P := P) (w := w) (base := base) c
  have k_row_makers := ok_row_makers (P := P) (w := w) (base := base) c
  have k_rows_of_makers := ok_rows_of_makers (P := P) (w := w) (base := base) c
  obtain ⟨f, fd, hm, F⟩ := fn__law_are_things_right c
  have sc_nd := (sc_30).nd
  refine kept_mk (N := ["bag", "makers", "rows", "lots", "by_rows", "by_lots", "turn", "found", "row"]) (n := 8) hm F sc_30 rfl rfl fun cdv A outer s H E h => ?_
  exact (ss_cons (ss_set (i := 1) sc_nd rfl (loc_by rfl) (se_tupOf (se_lc rfl sc_nd (si_rng1 (by rfl) (fr_range c) (ad_cons (se_add se_int (sc_call k__law_draw ⟨h.room, h.gd⟩ takes_cx (fun _ _ _ _ _ _ us hl => match us, hl with | [_, _], _ => rfl) (ax_cons (sc_nm 0) (ax_cons se_int ax_nil)))) ad_nil)) (blkOk_by (own := [("turn", 6)]) (by rfl)) (fun _ _ _ _ _ => (sg_name sc_nd (i := 6) rfl (loc_by rfl))) (fun _ _ _ _ _ => spt_nil) (fun _ _ _ _ _ => (sc_call k__law_draw ⟨h.room, h.gd⟩ passX0 (fun _ _ _ _ _ _ us hl => match us, hl with | [_, _], _ => rfl) (ax_cons (sc_nm 0) (ax_cons se_int ax_nil))))) (by rfl) (fr_tuple c)))
    (ss_cons (ss_set (i := 2) sc_nd rfl (loc_by rfl) (sc_call k__law_made_rows ⟨h.room, h.gd⟩ takes_cx (fun _ _ _ _ _ _ us hl => match us, hl with | [_], _ => rfl) (ax_cons (sc_nm 1) ax_nil)))
    (ss_cons (ss_setLc (i := 3) rfl sc_nd rfl rfl rfl (si_sq (sc_nm 2)) (blkOk_by (own := [("found", 7)]) (by rfl)) (fun _ _ _ _ _ => (sg_name sc_nd (i := 7) rfl (loc_by rfl))) (fun _ _ _ _ _ => spt_nil) (fun _ _ _ _ _ => (se_lc rfl sc_nd (si_sq (sc_nm 7)) (blkOk_by (own := [("row", 8)]) (by rfl)) (fun _ _ _ _ _ => (sg_name sc_nd (i := 8) rfl (loc_by rfl))) (fun _ _ _ _ _ => (spt_one (st_eq h.u (se_sorted (sc_nm 8) (by rfl) (fr_sorted c)) (se_lstOf (sc_nm 8) (by rfl) (fr_list c))))) (fun _ _ _ _ _ => (sc_nm 8)))))
    (ss_cons (ss_par2 rfl sc_nd rfl rfl (by decide) rfl rfl (ao_cons (se_tupOf (se_lc rfl sc_nd (si_sq (sc_nm 2)) (blkOk_by (own := [("found", 7)]) (by rfl)) (fun _ _ _ _ _ => (sg_name sc_nd (i := 7) rfl (loc_by rfl))) (fun _ _ _ _ _ => spt_nil) (fun _ _ _ _ _ => (se_len (sc_nm 7) (by rfl) (fr_len c)))) (by rfl) (fr_tuple c)) (ao_cons (se_tupOf (se_lc rfl sc_nd (si_sq (sc_nm 3)) (blkOk_by (own := [("found", 7)]) (by rfl)) (fun _ _ _ _ _ => (sg_name sc_nd (i := 7) rfl (loc_by rfl))) (fun _ _ _ _ _ => spt_nil) (fun _ _ _ _ _ => (se_len (sc_nm 7) (by rfl) (fr_len c)))) (by rfl) (fr_tuple c)) ao_nil)) rfl)
    (ss_cons (ss_if (st_w (sw_or (st_not (st_val (sc_call k__law_same ⟨h.room, h.gd⟩ takes_cx (fun _ _ _ _ _ _ us hl => match us, hl with | [_, _], _ => rfl) (ax_cons (sc_call k_rows_of_makers ⟨h.room, h.gd⟩ takes_cx (fun _ _ _ _ _ _ us hl => match us, hl with | [_], _ => rfl) (ax_cons (sc_nm 1) ax_nil)) (ax_cons (sc_nm 4) ax_nil))))) (sw_or1 (st_not (st_val (sc_call k__law_same ⟨h.room, h.gd⟩ takes_cx (fun _ _ _ _ _ _ us hl => match us, hl with | [_, _], _ => rfl) (ax_cons (sc_call k_lots_of_makers ⟨h.room, h.gd⟩ takes_cx (fun _ _ _ _ _ _ us hl => match us, hl with | [_], _ => rfl) (ax_cons (sc_nm 1) ax_nil)) (ax_cons (sc_nm 5) ax_nil)))))))) (ss_cons (ss_ret se_bl)
    ss_nil) ss_nil)
    (ss_cons (ss_ret (se_and (sc_call k__law_same ⟨h.room, h.gd⟩ takes_cx (fun _ _ _ _ _ _ us hl => match us, hl with | [_, _], _ => rfl) (ax_cons (sc_call k_row_makers ⟨h.room, h.gd⟩ takes_cx (fun _ _ _ _ _ _ us hl => match us, hl with | [_], _ => rfl) (ax_cons (sc_nm 4) ax_nil)) (ax_cons (sc_nm 1) ax_nil))) (se_one (sc_call k__law_same ⟨h.room, h.gd⟩ takes_cx (fun _ _ _ _ _ _ us hl => match us, hl with | [_, _], _ => rfl) (ax_cons (sc_call k_lot_makers ⟨h.room, h.gd⟩ takes_cx (fun _ _ _ _ _ _ us hl => match us, hl with | [_], _ => rfl) (ax_cons (sc_nm 5) ax_nil)) (ax_cons (sc_nm 1) ax_nil))))))
    ss_nil))))))
/-! ### _law_are_letters_right -/
theorem sc_31 : FnScope ["bag", "letters", "many", "makers", "words", "lots", "size"] ["bag"] (defScope s31) := ⟨rfl, rfl, rfl, by decide +kernel, rfl, by decide +kernel, by decide +kernel⟩
theorem ok__law_are_letters_right (c : Cc K mg) : Kept P w K mg base 9 "_law_are_letters_right" s31 ["bag"] [true] m_law_are_letters_right := by
  have k__law_draw := ok__law_draw (P := P) (w := w) (base := base) c
  have k__law_pick := ok__law_pick (P := P) (w := w) (base := base) c
  have k__law_same := ok__law_same (P := P) (w := w) (base := base) c
  have k_lots_of_makers := ok_lots_of_makers (P := P) (w := w) (base := base) c
  have k_rows_of_makers := ok_rows_of_makers (P := P) (w := w) (base := base) c
  obtain ⟨f, fd, hm, F⟩ := fn__law_are_letters_right c
  have sc_nd := (sc_31).nd
  refine kept_mk (N := ["bag", "letters", "many", "makers", "words", "lots", "size"]) (n := 6) hm F sc_31 rfl rfl fun cdv A outer s H E h => ?_
  exact (ss_cons (ss_par2 rfl sc_nd rfl rfl (by decide) rfl rfl (ao_cons (sc_call k__law_pick ⟨h.room, h.gd⟩ takes_cx (fun _ _ _ _ _ _ us hl => match us, hl with | [_, _], _ => rfl) (ax_cons (sc_nm 0) (ax_cons (se_lst (ao_cons se_int (ao_cons se_int (ao_cons se_int (ao_cons se_int (ao_cons se_int (ao_cons (sc_call k__law_draw ⟨h.room, h.gd⟩ takes_cx (fun _ _ _ _ _ _ us hl => match us, hl with | [_, _], _ => rfl) (ax_cons (sc_nm 0) (ax_cons se_int ax_nil))) (ao_cons (se_pow se_int se_int) ao_nil)))))))) ax_nil))) (ao_cons (se_add se_int (sc_call k__law_draw ⟨h.room, h.gd⟩ takes_cx (fun _ _ _ _ _ _ us hl => match us, hl with | [_, _], _ => rfl) (ax_cons (sc_nm 0) (ax_cons se_int ax_nil)))) ao_nil)) rfl)
    (ss_cons (ss_par3 rfl sc_nd rfl rfl rfl (by decide) (by decide) (by decide) rfl rfl rfl (ao_cons (se_add (se_tup (ad_cons (sc_nm 1) ad_nil)) (se_mul (se_tup (ad_cons se_int ad_nil)) (se_sub (sc_nm 2) se_int))) (ao_cons (se_lst (ao_cons se_int ao_nil)) (ao_cons (se_lst (ao_cons se_int ao_nil)) ao_nil))) rfl)
    (ss_cons (ss_for (passes_of rfl) rfl (si_rng2 (by rfl) (fr_range c) (ad_cons se_int (ad_cons (se_add (sc_nm 2) se_int) ad_nil))) (sg_name sc_nd (i := 6) rfl (loc_by rfl)) (ss_cons (ss_expr (se_append (i := 4) rfl (vis_by rfl) (se_mul (se_ix (sc_nm 4) (se_sub (sc_nm 6) se_int) (fun _ _ => rfl)) (sc_nm 1))))
    (ss_cons (ss_expr (se_append (i := 5) rfl (vis_by rfl) (se_fdiv (se_mul (se_ix (sc_nm 5) (se_sub (sc_nm 6) se_int) (fun _ _ => rfl)) (se_sub (se_add (sc_nm 1) (sc_nm 6)) se_int)) (sc_nm 6))))
    ss_nil)))
    (ss_cons (ss_if (st_not (st_val (sc_call k__law_same ⟨h.room, h.gd⟩ takes_cx (fun _ _ _ _ _ _ us hl => match us, hl with | [_, _], _ => rfl) (ax_cons (sc_call k_rows_of_makers ⟨h.room, h.gd⟩ takes_cx (fun _ _ _ _ _ _ us hl => match us, hl with | [_], _ => rfl) (ax_cons (sc_nm 3) ax_nil)) (ax_cons (se_tupOf (sc_nm 4) (by rfl) (fr_tuple c)) ax_nil))))) (ss_cons (ss_ret se_bl)
    ss_nil) ss_nil)
    (ss_cons (ss_ret (sc_call k__law_same ⟨h.room, h.gd⟩ takes_cx (fun _ _ _ _ _ _ us hl => match us, hl with | [_, _], _ => rfl) (ax_cons (sc_call k_lots_of_makers ⟨h.room, h.gd⟩ takes_cx (fun _ _ _ _ _ _ us hl => match us, hl with | [_], _ => rfl) (ax_cons (sc_nm 3) ax_nil)) (ax_cons (se_tupOf (sc_nm 5) (by rfl) (fr_tuple c)) ax_nil))))
    ss_nil)))))
/-! ### _law_are_joined_right -/
theorem sc_32 : FnScope ["bag", "way", "one", "other", "many", "whole", "due", "told", "i", "a", "b", "j"] ["bag"] (defScope s32) := ⟨rfl, rfl, rfl, by decide +kernel, rfl, by decide +kernel, by decide +kernel⟩
theorem ok__law_are_joined_right (c : Cc K mg) : Kept P w K mg base 9 "_law_are_joined_right" s32 ["bag"] [true] m_law_are_joined_right := by
  have k__law_draw := ok__law_draw (P := P) (w := w) (base := base) c
  have k__law_lot_makers := ok__law_lot_makers (P := P) (w := w) (base := base) c
  have k__law_numbers := ok__law_numbers (P := P) (w := w) (base := base) c
  have k__law_row_makers := ok__law_row_makers (P := P) (w := w) (base := base) c
  have k__law_same := ok__law_same (P := P) (w := w) (base := base) c
  have k_lot_makers := ok_lot_makers (P := P) (w := w) (base := base) c
  have k_row_joined := ok_row_joined (P := P) (w := w) (base := base) c
  have k_row_makers := ok_row_makers (P := P) (w := w) (base := base) c
  obtain ⟨f, fd, hm, F⟩ := fn__law_are_joined_right c
  have sc_nd := (sc_32).nd
  refine kept_mk (N := ["bag", "way", "one", "other", "many", "whole", "due", "told", "i", "a", "b", "j"]) (n := 11) hm F sc_32 rfl rfl fun cdv A outer s H E h => ?_
  exact (ss_cons (ss_for (passes_of rfl) rfl (si_sq (se_lst (ao_cons se_int (ao_cons se_int ao_nil)))) (sg_name sc_nd (i := 1) rfl (loc_by rfl)) (ss_cons (ss_parC2 (i := 2) (j := 3) rfl sc_nd rfl rfl (loc_by rfl) (loc_by rfl) (ao_cons (se_add (se_tup (ad_cons se_int ad_nil)) (sc_call k__law_numbers ⟨h.room, h.gd⟩ takes_cx (fun _ _ _ _ _ _ us hl => match us, hl with | [_, _, _], _ => rfl) (ax_cons (sc_nm 0) (ax_cons se_int (ax_cons (sc_nm 1) ax_nil))))) (ao_cons (se_add (se_tup (ad_cons se_int ad_nil)) (sc_call k__law_numbers ⟨h.room, h.gd⟩ takes_cx (fun _ _ _ _ _ _ us hl => match us, hl with | [_, _, _], _ => rfl) (ax_cons (sc_nm 0) (ax_cons (se_sub se_int (sc_call k__law_draw ⟨h.room, h.gd⟩ takes_cx (fun _ _ _ _ _ _ us hl => match us, hl with | [_, _], _ => rfl) (ax_cons (sc_nm 0) (ax_cons se_int ax_nil)))) (ax_cons (sc_nm 1) ax_nil))))) ao_nil)))
    (ss_cons (ss_set (i := 4) sc_nd rfl (loc_by rfl) (se_min2 rfl (se_len (sc_nm 2) (by rfl) (fr_len c)) (se_len (sc_nm 3) (by rfl) (fr_len c)) (by rfl) (fr_min c)))
    (ss_cons (ss_set (i := 5) sc_nd rfl (loc_by rfl) (se_tupOf (se_lc rfl sc_nd (si_rng1 (by rfl) (fr_range c) (ad_cons (sc_nm 4) ad_nil)) (blkOk_by (own := [("i", 8)]) (by rfl)) (fun _ _ _ _ _ => (sg_name sc_nd (i := 8) rfl (loc_by rfl))) (fun _ _ _ _ _ => spt_nil) (fun _ _ _ _ _ => (se_sum rfl (se_lc rfl sc_nd (si_rng1 (by rfl) (fr_range c) (ad_cons (se_add (sc_nm 8) se_int) ad_nil)) (blkOk_by (own := [("j", 11)]) (by rfl)) (fun _ _ _ _ _ => (sg_name sc_nd (i := 11) rfl (loc_by rfl))) (fun _ _ _ _ _ => spt_nil) (fun _ _ _ _ _ => (se_mul (se_ix (sc_nm 2) (sc_nm 11) (fun _ _ => rfl)) (se_ix (sc_nm 3) (se_sub (sc_nm 8) (sc_nm 11)) (fun _ _ => rfl))))) (by rfl) (fr_sum c)))) (by rfl) (fr_tuple c)))
    (ss_cons (ss_set (i := 6) sc_nd rfl (loc_by rfl) (se_tupOf (se_lc rfl sc_nd (si_zip (by rfl) (fr_zip c) (ad_cons (sc_call k__law_lot_makers ⟨h.room, h.gd⟩ takes_cx (fun _ _ _ _ _ _ us hl => match us, hl with | [_], _ => rfl) (ax_cons (sc_nm 2) ax_nil)) (ad_cons (sc_call k__law_lot_makers ⟨h.room, h.gd⟩ takes_cx (fun _ _ _ _ _ _ us hl => match us, hl with | [_], _ => rfl) (ax_cons (sc_nm 3) ax_nil)) ad_nil))) (blkOk_by (own := [("a", 9), ("b", 10)]) (by rfl)) (fun _ _ _ _ _ => (sg_tup rfl (sgs_cons (sg_name sc_nd (i := 9) rfl (loc_by rfl)) (sgs_cons (sg_name sc_nd (i := 10) rfl (loc_by rfl)) sgs_nil)))) (fun _ _ _ _ _ => spt_nil) (fun _ _ _ _ _ => (se_add (sc_nm 9) (sc_nm 10)))) (by rfl) (fr_tuple c)))
    (ss_cons (ss_set (i := 7) sc_nd rfl (loc_by rfl) (sc_call k_row_joined ⟨h.room, h.gd⟩ takes_cx (fun _ _ _ _ _ _ us hl => match us, hl with | [_, _], _ => rfl) (ax_cons (sc_nm 2) (ax_cons (sc_nm 3) ax_nil))))
    (ss_cons (ss_if (st_w (sw_or (st_not (st_val (sc_call k__law_same ⟨h.room, h.gd⟩ takes_cx (fun _ _ _ _ _ _ us hl => match us, hl with | [_, _], _ => rfl) (ax_cons (sc_nm 7) (ax_cons (sc_nm 5) ax_nil))))) (sw_or1 (st_not (st_val (sc_call k__law_same ⟨h.room, h.gd⟩ takes_cx (fun _ _ _ _ _ _ us hl => match us, hl with | [_, _], _ => rfl) (ax_cons (sc_call k_lot_makers ⟨h.room, h.gd⟩ takes_cx (fun _ _ _ _ _ _ us hl => match us, hl with | [_], _ => rfl) (ax_cons (sc_nm 7) ax_nil)) (ax_cons (sc_nm 6) ax_nil)))))))) (ss_cons (ss_ret se_bl)
    ss_nil) ss_nil)
    (ss_cons (ss_if (st_not (st_val (sc_call k__law_same ⟨h.room, h.gd⟩ takes_cx (fun _ _ _ _ _ _ us hl => match us, hl with | [_, _], _ => rfl) (ax_cons (sc_call k_row_makers ⟨h.room, h.gd⟩ takes_cx (fun _ _ _ _ _ _ us hl => match us, hl with | [_], _ => rfl) (ax_cons (sc_nm 7) ax_nil)) (ax_cons (sc_call k__law_row_makers ⟨h.room, h.gd⟩ takes_cx (fun _ _ _ _ _ _ us hl => match us, hl with | [_], _ => rfl) (ax_cons (sc_nm 5) ax_nil)) ax_nil))))) (ss_cons (ss_ret se_bl)
    ss_nil) ss_nil)
    ss_nil))))))))
    (ss_cons (ss_ret se_bl)
    ss_nil))
/-! ### _law_are_told_right -/
theorem sc_33 : FnScope ["bag", "base", "many", "makers", "powers", "size", "told", "turned", "made", "counts", "way", "due"] ["bag"] (defScope s33) := ⟨rfl, rfl, rfl, by decide +kernel, rfl, by decide +kernel, by decide +kernel⟩
theorem ok__law_are_told_right (c : Cc K mg) : Kept P w K mg base 11 "_law_are_told_right" s33 ["bag"] [true] m_law_are_told_right := by
  have k__law_are_counts_right := ok__law_are_counts_right (P := P) (w := w) (base := base) c
  have k__law_are_makers_right := ok__law_are_makers_right (P := P) (w := w) (base := base) c
  have k__law_lot_makers := ok__law_lot_makers (P := P) (w := w) (base := base) c
  have k__law_numbers := ok__law_numbers (P := P) (w := w) (base := base) c
  have k__law_pick := ok__law_pick (P := P) (w := w) (base := base) c
  have k__law_row_makers := ok__law_row_makers (P := P) (w := w) (base := base) c
  have k__law_same := ok__law_same (P := P) (w := w) (base := base) c
  have k_lot_makers := ok_lot_makers (P := P) (w := w) (base := base) c
  have k_row_makers := ok_row_makers (P := P) (w := w) (base := base) c
  have k_rows_of_makers := ok_rows_of_makers (P := P) (w := w) (base := base) c
  obtain ⟨f, fd, hm, F⟩ := fn__law_are_told_right c
  have sc_nd := (sc_33).nd
  refine kept_mk (N := ["bag", "base", "many", "makers", "powers", "size", "told", "turned", "made", "counts", "way", "due"]) (n := 11) hm F sc_33 rfl rfl fun cdv A outer s H E h => ?_
  exact (ss_cons (ss_asg (sc_call k__law_pick ⟨h.room, h.gd⟩ takes_cx (fun _ _ _ _ _ _ us hl => match us, hl with | [_, _], _ => rfl) (ax_cons (sc_nm 0) (ax_cons (se_lst (ao_cons (se_tup (ad_cons (se_pow se_int se_int) (ad_cons se_int ad_nil))) (ao_cons (se_tup (ad_cons (se_neg (se_pow se_int se_int)) (ad_cons se_int ad_nil))) (ao_cons (se_tup (ad_cons se_int (ad_cons se_int ad_nil))) (ao_cons (se_tup (ad_cons (se_neg se_int) (ad_cons se_int ad_nil))) (ao_cons (se_tup (ad_cons (se_pow se_int se_int) (ad_cons se_int ad_nil))) (ao_cons (se_tup (ad_cons se_int (ad_cons se_int ad_nil))) ao_nil))))))) ax_nil))) (sg_tup rfl (sgs_cons (sg_name sc_nd (i := 1) rfl (loc_by rfl)) (sgs_cons (sg_name sc_nd (i := 2) rfl (loc_by rfl)) sgs_nil))))
    (ss_cons (ss_par2 rfl sc_nd rfl rfl (by decide) rfl rfl (ao_cons (se_add (se_tup (ad_cons (sc_nm 1) ad_nil)) (se_mul (se_tup (ad_cons se_int ad_nil)) (se_sub (sc_nm 2) se_int))) (ao_cons (se_lst (ao_cons se_int ao_nil)) ao_nil)) rfl)
    (ss_cons (ss_for (passes_of rfl) rfl (si_rng1 (by rfl) (fr_range c) (ad_cons (sc_nm 2) ad_nil)) (sg_name sc_nd (i := 5) rfl (loc_by rfl)) (ss_cons (ss_expr (se_append (i := 4) rfl (vis_by rfl) (se_mul (se_ix (sc_nm 4) (sc_nm 5) (fun _ _ => rfl)) (sc_nm 1))))
    ss_nil))
    (ss_cons (ss_set (i := 6) sc_nd rfl (loc_by rfl) (sc_call k_rows_of_makers ⟨h.room, h.gd⟩ takes_cx (fun _ _ _ _ _ _ us hl => match us, hl with | [_], _ => rfl) (ax_cons (sc_nm 3) ax_nil)))
    (ss_cons (ss_if (st_w (sw_or (st_not (st_val (sc_call k__law_same ⟨h.room, h.gd⟩ takes_cx (fun _ _ _ _ _ _ us hl => match us, hl with | [_, _], _ => rfl) (ax_cons (sc_nm 6) (ax_cons (se_tupOf (sc_nm 4) (by rfl) (fr_tuple c)) ax_nil))))) (sw_or1 (st_not (st_val (sc_call k__law_are_counts_right ⟨h.room, h.gd⟩ takes_cx (fun _ _ _ _ _ _ us hl => match us, hl with | [_], _ => rfl) (ax_cons (sc_nm 6) ax_nil))))))) (ss_cons (ss_ret se_bl)
    ss_nil) ss_nil)
    (ss_cons (ss_set (i := 7) sc_nd rfl (loc_by rfl) (se_lst (ao_cons (sc_nm 1) ao_nil)))
    (ss_cons (ss_for (passes_of rfl) rfl (si_rng2 (by rfl) (fr_range c) (ad_cons se_int (ad_cons (sc_nm 2) ad_nil))) (sg_name sc_nd (i := 5) rfl (loc_by rfl)) (ss_cons (ss_expr (se_append (i := 7) rfl (vis_by rfl) (se_mul (se_ix (sc_nm 7) (se_sub (sc_nm 5) se_int) (fun _ _ => rfl)) (se_neg (sc_nm 1)))))
    ss_nil))
    (ss_cons (ss_set (i := 8) sc_nd rfl (loc_by rfl) (sc_call k_row_makers ⟨h.room, h.gd⟩ takes_cx (fun _ _ _ _ _ _ us hl => match us, hl with | [_], _ => rfl) (ax_cons (se_add (se_tup (ad_cons se_int ad_nil)) (sc_nm 3)) ax_nil)))
    (ss_cons (ss_if (st_w (sw_or (st_not (st_val (sc_call k__law_same ⟨h.room, h.gd⟩ takes_cx (fun _ _ _ _ _ _ us hl => match us, hl with | [_, _], _ => rfl) (ax_cons (sc_nm 8) (ax_cons (se_tupOf (sc_nm 7) (by rfl) (fr_tuple c)) ax_nil))))) (sw_or1 (st_not (st_val (sc_call k__law_are_makers_right ⟨h.room, h.gd⟩ takes_cx (fun _ _ _ _ _ _ us hl => match us, hl with | [_], _ => rfl) (ax_cons (sc_nm 8) ax_nil))))))) (ss_cons (ss_ret se_bl)
    ss_nil) ss_nil)
    (ss_cons (ss_set (i := 9) sc_nd rfl (loc_by rfl) (se_add (se_tup (ad_cons se_int ad_nil)) (sc_call k__law_numbers ⟨h.room, h.gd⟩ takes_cx (fun _ _ _ _ _ _ us hl => match us, hl with | [_, _, _], _ => rfl) (ax_cons (sc_nm 0) (ax_cons se_int (ax_cons se_int ax_nil))))))
    (ss_cons (ss_for (passes_of rfl) rfl (si_rng1 (by rfl) (fr_range c) (ad_cons se_int ad_nil)) (sg_name sc_nd (i := 10) rfl (loc_by rfl)) (ss_cons (ss_set (i := 11) sc_nd rfl (loc_by rfl) (se_if (st_eq h.u (sc_nm 10) se_int) (sc_call k__law_row_makers ⟨h.room, h.gd⟩ takes_cx (fun _ _ _ _ _ _ us hl => match us, hl with | [_], _ => rfl) (ax_cons (sc_nm 9) ax_nil)) (sc_call k__law_lot_makers ⟨h.room, h.gd⟩ takes_cx (fun _ _ _ _ _ _ us hl => match us, hl with | [_], _ => rfl) (ax_cons (sc_nm 9) ax_nil))))
    (ss_cons (ss_set (i := 8) sc_nd rfl (loc_by rfl) (se_if (st_eq h.u (sc_nm 10) se_int) (sc_call k_row_makers ⟨h.room, h.gd⟩ takes_cx (fun _ _ _ _ _ _ us hl => match us, hl with | [_], _ => rfl) (ax_cons (sc_nm 9) ax_nil)) (sc_call k_lot_makers ⟨h.room, h.gd⟩ takes_cx (fun _ _ _ _ _ _ us hl => match us, hl with | [_], _ => rfl) (ax_cons (sc_nm 9) ax_nil))))
    (ss_cons (ss_if (st_w (sw_or (st_not (st_val (sc_call k__law_same ⟨h.room, h.gd⟩ takes_cx (fun _ _ _ _ _ _ us hl => match us, hl with | [_, _], _ => rfl) (ax_cons (sc_nm 8) (ax_cons (sc_nm 11) ax_nil))))) (sw_or1 (st_not (st_val (sc_call k__law_are_makers_right ⟨h.room, h.gd⟩ takes_cx (fun _ _ _ _ _ _ us hl => match us, hl with | [_], _ => rfl) (ax_cons (sc_nm 8) ax_nil))))))) (ss_cons (ss_ret se_bl)
    ss_nil) ss_nil)
    ss_nil))))
    (ss_cons (ss_ret se_bl)
    ss_nil))))))))))))
/-! ### _law_is_all_right -/
theorem sc_34 : FnScope ["bag", "many", "some", "kept", "row", "way"] ["bag"] (defScope s34) := ⟨rfl, rfl, rfl, by decide +kernel, rfl, by decide +kernel, by decide +kernel⟩
theorem ok__law_is_all_right (c : Cc K mg) : Kept P w K mg base 12 "_law_is_all_right" s34 ["bag"] [true] m_law_is_all_right := by
  have k__law_are_counts_right := ok__law_are_counts_right (P := P) (w := w) (base := base) c
  have k__law_are_joined_right := ok__law_are_joined_right (P := P) (w := w) (base := base) c
  have k__law_are_letters_right := ok__law_are_letters_right (P := P) (w := w) (base := base) c
  have k__law_are_makers_right := ok__law_are_makers_right (P := P) (w := w) (base := base) c
  have k__law_are_things_right := ok__law_are_things_right (P := P) (w := w) (base := base) c
  have k__law_are_told_right := ok__law_are_told_right (P := P) (w := w) (base := base) c
  have k__law_draw := ok__law_draw (P := P) (w := w) (base := base) c
  have k__law_numbers := ok__law_numbers (P := P) (w := w) (base := base) c
  have k__law_pick := ok__law_pick (P := P) (w := w) (base := base) c
  obtain ⟨f, fd, hm, F⟩ := fn__law_is_all_right c
  have sc_nd := (sc_34).nd
  refine kept_mk (N := ["bag", "many", "some", "kept", "row", "way"]) (n := 5) hm F sc_34 rfl rfl fun cdv A outer s H E h => ?_
  exact (ss_cons (ss_set (i := 1) sc_nd rfl (loc_by rfl) (sc_call k__law_pick ⟨h.room, h.gd⟩ takes_cx (fun _ _ _ _ _ _ us hl => match us, hl with | [_, _], _ => rfl) (ax_cons (sc_nm 0) (ax_cons (se_lst (ao_cons se_int (ao_cons se_int (ao_cons (sc_call k__law_draw ⟨h.room, h.gd⟩ takes_cx (fun _ _ _ _ _ _ us hl => match us, hl with | [_, _], _ => rfl) (ax_cons (sc_nm 0) (ax_cons se_int ax_nil))) ao_nil)))) ax_nil))))
    (ss_cons (ss_set (i := 2) sc_nd rfl (loc_by rfl) (se_lst (ao_cons (sc_call k__law_numbers ⟨h.room, h.gd⟩ takes_cx (fun _ _ _ _ _ _ us hl => match us, hl with | [_, _, _], _ => rfl) (ax_cons (sc_nm 0) (ax_cons (sc_nm 1) (ax_cons (sc_call k__law_draw ⟨h.room, h.gd⟩ takes_cx (fun _ _ _ _ _ _ us hl => match us, hl with | [_, _], _ => rfl) (ax_cons (sc_nm 0) (ax_cons se_int ax_nil))) ax_nil)))) ao_nil)))
    (ss_cons (ss_set (i := 2) sc_nd rfl (loc_by rfl) (se_add (sc_nm 2) (se_lc rfl sc_nd (si_sq (se_lst (ao_cons se_int (ao_cons se_int (ao_cons (sc_call k__law_pick ⟨h.room, h.gd⟩ takes_cx (fun _ _ _ _ _ _ us hl => match us, hl with | [_, _], _ => rfl) (ax_cons (sc_nm 0) (ax_cons (se_lst (ao_cons se_int (ao_cons se_int ao_nil))) ax_nil))) (ao_cons se_int ao_nil)))))) (blkOk_by (own := [("way", 5)]) (by rfl)) (fun _ _ _ _ _ => (sg_name sc_nd (i := 5) rfl (loc_by rfl))) (fun _ _ _ _ _ => spt_nil) (fun _ _ _ _ _ => (sc_call k__law_numbers ⟨h.room, h.gd⟩ passX0 (fun _ _ _ _ _ _ us hl => match us, hl with | [_, _, _], _ => rfl) (ax_cons (sc_nm 0) (ax_cons se_int (ax_cons (sc_nm 5) ax_nil))))))))
    (ss_cons (ss_set (i := 2) sc_nd rfl (loc_by rfl) (se_add (sc_nm 2) (se_lst (ao_cons (sc_call k__law_numbers ⟨h.room, h.gd⟩ takes_cx (fun _ _ _ _ _ _ us hl => match us, hl with | [_, _, _], _ => rfl) (ax_cons (sc_nm 0) (ax_cons (se_sub se_int (sc_call k__law_draw ⟨h.room, h.gd⟩ takes_cx (fun _ _ _ _ _ _ us hl => match us, hl with | [_, _], _ => rfl) (ax_cons (sc_nm 0) (ax_cons se_int ax_nil)))) (ax_cons (sc_call k__law_draw ⟨h.room, h.gd⟩ takes_cx (fun _ _ _ _ _ _ us hl => match us, hl with | [_, _], _ => rfl) (ax_cons (sc_nm 0) (ax_cons se_int ax_nil))) ax_nil)))) (ao_cons (se_tup ad_nil) ao_nil)))))
    (ss_cons (ss_set (i := 3) sc_nd rfl (loc_by rfl) (se_repr h.gd h.u (sc_nm 2) (by rfl) (fr_repr c)))
    (ss_cons (ss_for (passes_of rfl) rfl (si_sq (sc_nm 2)) (sg_name sc_nd (i := 4) rfl (loc_by rfl)) (ss_cons (ss_if (st_w (sw_or (st_not (st_val (sc_call k__law_are_counts_right ⟨h.room, h.gd⟩ takes_cx (fun _ _ _ _ _ _ us hl => match us, hl with | [_], _ => rfl) (ax_cons (se_add (se_tup (ad_cons se_int ad_nil)) (sc_nm 4)) ax_nil)))) (sw_or1 (st_not (st_val (sc_call k__law_are_makers_right ⟨h.room, h.gd⟩ takes_cx (fun _ _ _ _ _ _ us hl => match us, hl with | [_], _ => rfl) (ax_cons (sc_nm 4) ax_nil))))))) (ss_cons (ss_ret se_bl)
    ss_nil) ss_nil)
    ss_nil))
    (ss_cons (ss_if (st_w (sw_or (st_not (st_val (sc_call k__law_are_things_right ⟨h.room, h.gd⟩ takes_cx (fun _ _ _ _ _ _ us hl => match us, hl with | [_], _ => rfl) (ax_cons (sc_nm 0) ax_nil)))) (sw_or1 (st_not (st_val (sc_call k__law_are_letters_right ⟨h.room, h.gd⟩ takes_cx (fun _ _ _ _ _ _ us hl => match us, hl with | [_], _ => rfl) (ax_cons (sc_nm 0) ax_nil))))))) (ss_cons (ss_ret se_bl)
    ss_nil) ss_nil)
    (ss_cons (ss_if (st_w (sw_or (st_not (st_val (sc_call k__law_are_joined_right ⟨h.room, h.gd⟩ takes_cx (fun _ _ _ _ _ _ us hl => match us, hl with | [_], _ => rfl) (ax_cons (sc_nm 0) ax_nil)))) (sw_or1 (st_not (st_val (sc_call k__law_are_told_right ⟨h.room, h.gd⟩ takes_cx (fun _ _ _ _ _ _ us hl => match us, hl with | [_], _ => rfl) (ax_cons (sc_nm 0) ax_nil))))))) (ss_cons (ss_ret se_bl)
    ss_nil) ss_nil)
    (ss_cons (ss_ret (se_eq h.u (se_repr h.gd h.u (sc_nm 2) (by rfl) (fr_repr c)) (sc_nm 3)))
    ss_nil)))))))))
/-! ### law -/
theorem sc_35 : FnScope ["script", "bag"] ["script"] (defScope s35) := ⟨rfl, rfl, rfl, by decide +kernel, rfl, by decide +kernel, by decide +kernel⟩
theorem ok_law (c : Cc K mg) : Kept P w K mg base 13 "law" s35 ["script"] [false] m_law := by
  have k__law_is_all_right := ok__law_is_all_right (P := P) (w := w) (base := base) c
  have k__law_own_bag := ok__law_own_bag (P := P) (w := w) (base := base) c
  obtain ⟨f, fd, hm, F⟩ := fn_law c
  have sc_nd := (sc_35).nd
  refine kept_mk (N := ["script", "bag"]) (n := 1) hm F sc_35 rfl rfl fun cdv A outer s H E h => ?_
  exact (ss_cons (ss_set (i := 1) sc_nd rfl (loc_by rfl) (sc_call k__law_own_bag ⟨h.room, h.gd⟩ takes_cx (fun _ _ _ _ _ _ us hl => match us, hl with | [_], _ => rfl) (ax_cons (sc_nm 0) ax_nil)))
    (ss_cons (ss_try (ss_cons (ss_ret (sc_call k__law_is_all_right ⟨h.room, h.gd⟩ passX0 (fun _ _ _ _ _ _ us hl => match us, hl with | [_], _ => rfl) (ax_cons (sc_nm 1) ax_nil)))
    ss_nil))
    ss_nil))
end
end Hd

set_option Elab.async false
set_option linter.all false
set_option maxRecDepth 100000
set_option maxHeartbeats 0
/-! Ed: the end. -/
namespace Hd
open PySem PySem.Spec L2 Vs
open PyProof.Rows hiding St
theorem fn_same {K : PySem.W.Frag} {x : Str} {st : Stmt} {f : Addr} {fd fd' : FuncData} (F : FnS K x st f fd) (G : FnS K x st f fd') : fd = fd' := by
  obtain ⟨_, _, _, _, _, _, _, _, _, _, _, h1, _⟩ := F.ex
  obtain ⟨_, _, _, _, _, _, _, _, _, _, _, h2, _⟩ := G.ex
  rw [h1] at h2
  cases h2
  rfl
theorem dints {K : PySem.W.Frag} {F : Hp} : ∀ ns : List Int, DqAll K F (ns.map V.int) (nD ns)
  | [] => .nil
  | n :: ns => .cons (.int n) (dints ns)
theorem sp_law {K : PySem.W.Frag} {mg : Str → Option Value} {H : Hp} {a : Addr} {ns : List Int} {F : Mir} (hF : F [.leaf (.list (nD ns))] = .ok (.leaf (.bool true)) []) (hS : SqL K H a (ns.map V.int)) :
    spM K mg [false] F [.ref a] H (fun v _ => v = .bl true) fun _ _ _ => False := by
  refine ⟨rfl, [.leaf (.list (nD ns))], [], rfl, ⟨H, [], Sub.refl, .cons (.leaf (.lst hS (dints ns))) .nil, List.nodup_nil, fun _ h => (by cases h), fun _ h => by cases h⟩, ?_⟩
  rw [hF]
  intro v H' st
  obtain ⟨F, S, s, o, _⟩ := st
  cases o with
  | cons h _ =>
    cases h with
    | leaf h => exact dp_bl h
theorem says {P : Program} {w : World} {K : PySem.W.Frag} {h : Heap} {mg : Str → Option Value} {f : Addr} (X : K.In h) (G : h.Ns mainGlobals mg) (hfa : mg ("law" : Str) = some (.ref f)) (c : He.SaysD fa fn K) :
    ∃ fd : FuncData, (∀ (s : Shared) (v : Value), BindsTo s fd ⟨[v], []⟩ [("script", v)]) ∧ ∀ base : Heap, K.In base → base.Ns mainGlobals mg → FnG P w K mg base 13 f fd ["script"] (spM K mg [false] m_law) := by
  have cc : Cc K mg := ⟨⟨h, X, G⟩, c⟩
  obtain ⟨f', fd, hm, F⟩ := fn_law cc
  rw [hfa] at hm
  cases hm
  have b := FunD.bindsA (ps := ["script"]) F fun _ _ _ _ _ _ us hl => match us, hl with | [_], _ => rfl
  refine ⟨fd, fun s v => b s [v] rfl, fun base _ _ => ?_⟩
  obtain ⟨f2, fd2, h1, h2, h3⟩ := ok_law (P := P) (w := w) (base := base) cc
  rw [hfa] at h1
  cases h1
  cases fn_same F h2
  exact h3
end Hd
open PySem PySem.W PySem.Calls PyProof.Rows
theorem PySem.Challenge.cw_cutandjoin_k70_whole_makers_and_counts_holds : PySem.Challenge.rw_cutandjoin_k70_whole_makers_and_counts.Holds := by
  w_on; o_law
  refine HandSHeadRun.head_any (r := Hd.R) (q := view (Hd.R).prog [35]) (H := Hd.hk) (ob := Hd.ob) (M := 2000) (loose := Hd.loose) (d := HandSHeadRun.topDef (Hd.R).prog 35) (kwd := []) Hd.ob_eq
    (by kernel_rfl) (fun s => by kernel_rfl) Hd.run (by kernel_rfl) (by kernel_rfl) (by kernel_rfl) (by rfl) (by first | assumption | decide +kernel) (by decide +kernel) ⟨rfl, rfl, rfl, rfl, rfl, by decide +kernel⟩ ?hw ?hc
  case hw => w_witness2
  case hc =>
    refine Vs.walk_G (l := PySem.Challenge.rw_cutandjoin_k70_whole_makers_and_counts) (n := 63) (k := 13) (x := "script") rfl (by decide) (by kernel_rfl) ⟨rfl, by decide, by decide⟩ rfl ?F
    intro w mg f h Y G hmg0
    obtain ⟨K, KX, c⟩ := Y
    have hmg : mg ("law" : PySem.Str) = some (.ref f) := by
      have e : (HandSHeadRun.topDef (Hd.R).prog 35).name = ("law" : PySem.Str) := by kernel_rfl
      rw [← e]
      exact hmg0
    obtain ⟨fd, hb, hF⟩ := Hd.says (P := (PySem.Challenge.rw_cutandjoin_k70_whole_makers_and_counts).prog) (w := w) KX G hmg c
    exact ⟨K, fd, _, KX, hb, fun H a ns hl _ _ hS => Hd.sp_law (Hd.law_true hl) hS, hF⟩

