import PyProof.Rows.All
import Wide.All
import OpenK.AllK
import Wide.FinOn
import HandS.ForMost
import HandS.Walk
import HandS.Wide
import HandS.Flow
import HandS.Style
import HandS.TupLe
import HandS.Evl
import HandS.IsInst
import HandS.Zip
import HandS.Conv
import HandS.SetFor
import HandS.SetKeys
import HandS.Strs
import HandS.Star
import HandS.MakeKw
import HandS.MakeKwOnly
import HandS.OwnEq
import HandS.TryOnly
import HandS.More
import KE.SortData
import HandS.SortRule
import PySem.Challenge.RW_staletally_k23_which_writes_counted
set_option Elab.async false
set_option linter.all false
set_option maxRecDepth 100000
set_option maxHeartbeats 4000000
/-! Sa: the state of a walk, told as two lists: facts that last (what stands in the part of the heap that is not written) and cells that are owned (and may be written). -/
namespace Sa
open PySem PySem.Spec PyProof.Rows L2

/-- a fact that a growing heap keeps -/
structure Fc where
  p : Hp → Prop
  mono : ∀ H H', Same H H' → p H → p H'
abbrev Cell := Addr × HO

theorem same_up {H : Hp} {p : Addr} {o : HO} (h : H p = none) : Same H (upd H p o) := fun b x e => by
  rw [upd_ne (ne_of_none e h)]
  exact e
/-- an object that the smaller heap does not have may change in the greater one -/
theorem same_mut {F H : Hp} {p : Addr} {o : HO} (e : Same F H) (h : F p = none) : Same F (upd H p o) := fun b x q => by
  rw [upd_ne (ne_of_none q h)]
  exact e b x q
theorem same_both {F H : Hp} {p : Addr} {o : HO} (e : Same F H) : Same (upd F p o) (upd H p o) := fun b x q => by
  by_cases hb : b = p
  · rw [hb, upd_same] at q ⊢
    exact q
  · rw [upd_ne hb] at q ⊢
    exact e b x q

structure SA (L : List Fc) (M : List Cell) (H : Hp) : Prop where
  fr : ∃ F, Same F H ∧ (∀ f ∈ L, f.p F) ∧ ∀ m ∈ M, F m.1 = none
  ce : ∀ m ∈ M, H m.1 = some m.2
  nd : (M.map (·.1)).Nodup

section
variable {L L' : List Fc} {M M' : List Cell} {H : Hp} {a p : Addr} {o o' : HO} {f g : Fc} {c : Cell}
/-- one cell changed | one taken out -/
inductive Chg : List Cell → Addr → HO → HO → List Cell → Prop
  | hd {M : List Cell} {a : Addr} {o o' : HO} : Chg ((a, o) :: M) a o o' ((a, o') :: M)
  | tl {M M' : List Cell} {a : Addr} {o o' : HO} {c : Cell} : Chg M a o o' M' → Chg (c :: M) a o o' (c :: M')
inductive Del : List Cell → Addr → HO → List Cell → Prop
  | hd {M : List Cell} {a : Addr} {o : HO} : Del ((a, o) :: M) a o M
  | tl {M M' : List Cell} {a : Addr} {o : HO} {c : Cell} : Del M a o M' → Del (c :: M) a o (c :: M')
theorem Chg.mem (h : Chg M a o o' M') : (a, o) ∈ M := by
  induction h with
  | hd => exact List.mem_cons_self
  | tl _ ih => exact List.mem_cons_of_mem _ ih
theorem Chg.keys (h : Chg M a o o' M') : M'.map (·.1) = M.map (·.1) := by
  induction h with
  | hd => rfl
  | tl _ ih => simp only [List.map_cons, ih]
theorem Chg.cell (h : Chg M a o o' M') (nd : (M.map (·.1)).Nodup) : ∀ m ∈ M', m = (a, o') ∨ (m ∈ M ∧ m.1 ≠ a) := by
  induction h with
  | hd =>
    intro m hm
    rcases List.mem_cons.mp hm with h | h
    · exact .inl h
    · refine .inr ⟨List.mem_cons_of_mem _ h, fun e => ?_⟩
      have hn := (List.nodup_cons.mp nd).1
      exact hn (List.mem_map.mpr ⟨m, h, e⟩)
  | tl h' ih =>
    intro m hm
    have hn := List.nodup_cons.mp nd
    rcases List.mem_cons.mp hm with h | h
    · subst h
      refine .inr ⟨List.mem_cons_self, fun e => ?_⟩
      exact hn.1 (List.mem_map.mpr ⟨_, h'.mem, e.symm⟩)
    · rcases ih hn.2 m h with z | z
      · exact .inl z
      · exact .inr ⟨List.mem_cons_of_mem _ z.1, z.2⟩
theorem Del.perm (h : Del M a o M') : M.Perm ((a, o) :: M') := by
  induction h with
  | hd => exact List.Perm.refl _
  | tl _ ih => exact (List.Perm.cons _ ih).trans (List.Perm.swap _ _ _)

theorem SA.perm (h : SA L M H) (q : M.Perm M') : SA L M' H := by
  obtain ⟨⟨F, h1, h2, h3⟩, h4, h5⟩ := h
  exact ⟨⟨F, h1, h2, fun m hm => h3 m (q.mem_iff.mpr hm)⟩, fun m hm => h4 m (q.mem_iff.mpr hm), (List.Perm.nodup_iff (q.map _)).mp h5⟩
theorem SA.front (h : SA L M H) (d : Del M a o M') : SA L ((a, o) :: M') H := h.perm d.perm
theorem SA.back (h : SA L ((a, o) :: M') H) (d : Del M a o M') : SA L M H := h.perm d.perm.symm
theorem SA.subL (h : SA L M H) (q : ∀ f ∈ L', f ∈ L) : SA L' M H := by
  obtain ⟨⟨F, h1, h2, h3⟩, h4, h5⟩ := h
  exact ⟨⟨F, h1, fun f hf => h2 f (q f hf), h3⟩, h4, h5⟩
theorem SA.drop (h : SA (f :: L) M H) : SA L M H := h.subL fun _ => List.mem_cons_of_mem _
theorem SA.dropM (h : SA L (c :: M) H) : SA L M H := by
  obtain ⟨⟨F, h1, h2, h3⟩, h4, h5⟩ := h
  exact ⟨⟨F, h1, h2, fun m hm => h3 m (List.mem_cons_of_mem _ hm)⟩, fun m hm => h4 m (List.mem_cons_of_mem _ hm), (List.nodup_cons.mp h5).2⟩
/-- a new object, owned -/
theorem SA.newM (h : SA L M H) (hp : H p = none) : SA L ((p, o) :: M) (upd H p o) := by
  obtain ⟨⟨F, h1, h2, h3⟩, h4, h5⟩ := h
  have hF := h1.free hp
  refine ⟨⟨F, h1.trans (same_up hp), h2, fun m hm => ?_⟩, fun m hm => ?_, ?_⟩
  · rcases List.mem_cons.mp hm with rfl | h
    · exact hF
    · exact h3 m h
  · rcases List.mem_cons.mp hm with rfl | h
    · exact upd_same
    · have e := h4 m h
      rw [upd_ne (ne_of_none e hp)]
      exact e
  · refine List.nodup_cons.mpr ⟨fun hm => ?_, h5⟩
    obtain ⟨m, hm, e⟩ := List.mem_map.mp hm
    have q := h4 m hm
    rw [show m.1 = p from e, hp] at q
    cases q
/-- a new object that is never written -/
theorem SA.newF (h : SA L M H) (hp : H p = none) (hf : ∀ F : Hp, F p = some o → (∀ x ∈ L, x.p F) → f.p F) : SA (f :: L) M (upd H p o) := by
  obtain ⟨⟨F, h1, h2, h3⟩, h4, h5⟩ := h
  have hF := h1.free hp
  have s1 : Same F (upd F p o) := same_up hF
  have h2' : ∀ x ∈ L, x.p (upd F p o) := fun x hx => x.mono _ _ s1 (h2 x hx)
  refine ⟨⟨upd F p o, same_both h1, fun x hx => ?_, fun m hm => ?_⟩, fun m hm => ?_, h5⟩
  · rcases List.mem_cons.mp hx with rfl | h
    · exact hf _ upd_same h2'
    · exact h2' x h
  · have e := h4 m hm
    rw [upd_ne (ne_of_none e hp)]
    exact h3 m hm
  · have e := h4 m hm
    rw [upd_ne (ne_of_none e hp)]
    exact e
/-- an owned one is written no more -/
theorem SA.freeze (h : SA L ((p, o) :: M) H) (hf : ∀ F : Hp, F p = some o → (∀ x ∈ L, x.p F) → f.p F) : SA (f :: L) M H := by
  obtain ⟨⟨F, h1, h2, h3⟩, h4, h5⟩ := h
  have hF : F p = none := h3 (p, o) List.mem_cons_self
  have hH : H p = some o := h4 (p, o) List.mem_cons_self
  have s1 : Same F (upd F p o) := same_up hF
  have h2' : ∀ x ∈ L, x.p (upd F p o) := fun x hx => x.mono _ _ s1 (h2 x hx)
  refine ⟨⟨upd F p o, fun b x q => ?_, fun x hx => ?_, fun m hm => ?_⟩, fun m hm => h4 m (List.mem_cons_of_mem _ hm), (List.nodup_cons.mp h5).2⟩
  · by_cases hb : b = p
    · rw [hb, upd_same] at q
      rw [hb, hH]
      exact q
    · rw [upd_ne hb] at q
      exact h1 b x q
  · rcases List.mem_cons.mp hx with rfl | h
    · exact hf _ upd_same h2'
    · exact h2' x h
  · have hn := (List.nodup_cons.mp h5).1
    have e : m.1 ≠ p := fun e => hn (List.mem_map.mpr ⟨m, hm, e⟩)
    rw [upd_ne e]
    exact h3 m (List.mem_cons_of_mem _ hm)
/-- a fact that follows from those that are there -/
theorem SA.fact (h : SA L M H) (hf : ∀ F : Hp, (∀ x ∈ L, x.p F) → f.p F) : SA (f :: L) M H := by
  obtain ⟨⟨F, h1, h2, h3⟩, h4, h5⟩ := h
  refine ⟨⟨F, h1, fun x hx => ?_, h3⟩, h4, h5⟩
  rcases List.mem_cons.mp hx with rfl | h
  · exact hf _ h2
  · exact h2 x h
/-- an owned one is written -/
theorem SA.set (h : SA L M H) (d : Chg M a o o' M') : SA L M' (upd H a o') := by
  obtain ⟨⟨F, h1, h2, h3⟩, h4, h5⟩ := h
  have hF : F a = none := h3 _ d.mem
  refine ⟨⟨F, same_mut h1 hF, h2, fun m hm => ?_⟩, fun m hm => ?_, by rw [d.keys]; exact h5⟩
  · rcases d.cell h5 m hm with rfl | ⟨h, _⟩
    · exact hF
    · exact h3 m h
  · rcases d.cell h5 m hm with rfl | ⟨h, hn⟩
    · exact upd_same
    · rw [upd_ne hn]
      exact h4 m h
theorem SA.at (h : SA L M H) (d : (a, o) ∈ M) : H a = some o := h.ce _ d

/-- cells taken out of others, in an order of one's own -/
inductive Pick : List Cell → List Cell → Prop
  | done {M : List Cell} : Pick M M
  | cons {M1 M1' M2 : List Cell} {a : Addr} {o : HO} : Del M1 a o M1' → Pick M1' M2 → Pick M1 ((a, o) :: M2)
  | skip {M1 M2 : List Cell} {c : Cell} : Pick M1 M2 → Pick (c :: M1) M2
theorem Pick.perm {M1 M2 : List Cell} (h : Pick M1 M2) : ∃ R, M1.Perm (M2 ++ R) := by
  induction h with
  | done => exact ⟨[], by rw [List.append_nil]⟩
  | cons d _ ih =>
    obtain ⟨R, hR⟩ := ih
    exact ⟨R, d.perm.trans (List.Perm.cons _ hR)⟩
  | skip _ ih =>
    obtain ⟨R, hR⟩ := ih
    exact ⟨_ :: R, (List.Perm.cons _ hR).trans List.perm_middle.symm⟩
theorem SA.front_of {M2 R : List Cell} (h : SA L (M2 ++ R) H) : SA L M2 H := by
  obtain ⟨⟨F, h1, h2, h3⟩, h4, h5⟩ := h
  refine ⟨⟨F, h1, h2, fun m hm => h3 m (List.mem_append_left _ hm)⟩, fun m hm => h4 m (List.mem_append_left _ hm), ?_⟩
  rw [List.map_append] at h5
  exact (List.nodup_append.mp h5).1
theorem SA.pick {M1 M2 : List Cell} (h : SA L M1 H) (p : Pick M1 M2) : SA L M2 H := by
  obtain ⟨R, hR⟩ := p.perm
  exact (h.perm hR).front_of
/-- what the state says -/
def At (L : List Fc) (M : List Cell) (f : Fc) : Prop := ∀ H, SA L M H → f.p H
theorem SA.ask (h : SA L M H) (q : At L M f) : f.p H := q H h
theorem At.mem (h : f ∈ L) : At L M f := fun H s => by
  obtain ⟨⟨F, h1, h2, h3⟩, h4, h5⟩ := s
  exact f.mono _ _ h1 (h2 f h)
theorem At.hd : At (f :: L) M f := At.mem List.mem_cons_self
theorem At.tl (h : At L M f) : At (g :: L) M f := fun H s => h H s.drop
theorem At.tm (h : At L M f) : At L (c :: M) f := fun H s => h H s.dropM
end

/-! ### the facts -/
variable {K : PySem.W.Frag}
theorem rd_same {H H' : Hp} {a : Addr} {u : HO} (e : Same H H') (h : Rd H a u) : Rd H' a u := by
  rcases h with h | ⟨o, h⟩
  · exact Or.inl (e a _ h)
  · exact Or.inr ⟨o, e a _ h⟩
theorem sqT_same {H H' : Hp} {a : Addr} {xs : List V} (e : Same H H') (h : SqT K H a xs) : SqT K H' a xs := by
  rcases h with h | h
  · exact Or.inl (rd_same e h)
  · exact Or.inr h
mutual
theorem dp_same {H H' : Hp} (e : Same H H') : ∀ (d : PyData) (v : V), Dp K H v d → Dp K H' v d
  | .none, _, h => by cases h; exact .non
  | .bool b, _, h => by cases h; exact .bl b
  | .int i, _, h => by cases h; exact .int i
  | .str x, _, h => by cases h; exact .str x
  | .list ds, _, h => by
    cases h with
    | lst h1 h2 => exact .lst (e.seq h1) (dpa_same e ds _ h2)
  | .tuple ds, _, h => by
    cases h with
    | tup h1 h2 => exact .tup (sqT_same e h1) (dpa_same e ds _ h2)
  | .dict _, _, h => by cases h
theorem dpa_same {H H' : Hp} (e : Same H H') : ∀ (ds : List PyData) (vs : List V), DpAll K H vs ds → DpAll K H' vs ds
  | [], _, h => by cases h; exact .nil
  | d :: ds, _, h => by
    cases h with
    | cons h1 h2 => exact .cons (dp_same e d _ h1) (dpa_same e ds _ h2)
end
/-- a list | a tuple | a dict stands there -/
def fQ (K : PySem.W.Frag) (a : Addr) (xs : List V) : Fc := ⟨fun H => SqL K H a xs, fun _ _ e h => e.seq h⟩
def fL (a : Addr) (xs : List V) : Fc := ⟨fun H => H a = some (.lst xs), fun _ _ e h => e a _ h⟩
def fT (K : PySem.W.Frag) (a : Addr) (xs : List V) : Fc := ⟨fun H => SqT K H a xs, fun _ _ e h => sqT_same e h⟩
def fK (a : Addr) (kvs : List (Key × V)) : Fc := ⟨fun H => H a = some (.dK kvs), fun _ _ e h => e a _ h⟩
/-- a value tells a datum -/
def fD (K : PySem.W.Frag) (v : V) (d : PyData) : Fc := ⟨fun H => Dp K H v d, fun _ _ e h => dp_same e d v h⟩
def fDs (K : PySem.W.Frag) (vs : List V) (ds : List PyData) : Fc := ⟨fun H => DpAll K H vs ds, fun _ _ e h => dpa_same e ds vs h⟩
/-- a heap that stood ahead stands -/
def fS (H0 : Hp) : Fc := ⟨fun H => Same H0 H, fun _ _ e h => h.trans e⟩

section
variable {L L' : List Fc} {M M' : List Cell} {H : Hp} {a p : Addr} {o o' : HO} {f g : Fc} {c : Cell} {xs ys : List V} {v : V} {d : PyData} {ds : List PyData} {kvs : List (Key × V)}
theorem At.cellL (h : (a, HO.lst xs) ∈ M) : At L M (fL a xs) := fun H s => s.at h
theorem At.q (h : At L M (fL a xs)) : At L M (fQ K a xs) := fun H s => SqL.of (h H s)
theorem At.cellT (h : (a, HO.tup xs) ∈ M) : At L M (fT K a xs) := fun H s => SqT.of (s.at h)
theorem At.cellK (h : (a, HO.dK kvs) ∈ M) : At L M (fK a kvs) := fun H s => s.at h
theorem At.int {i : Int} : At L M (fD K (.int i) (.int i)) := fun _ _ => .int i
theorem At.bl {b : Bool} : At L M (fD K (.bl b) (.bool b)) := fun _ _ => .bl b
theorem At.non : At L M (fD K .non .none) := fun _ _ => .non
theorem At.str {x : Str} : At L M (fD K (.str x) (.str x)) := fun _ _ => .str x
theorem At.lst (h : At L M (fQ K a xs)) (h2 : At L M (fDs K xs ds)) : At L M (fD K (.ref a) (.list ds)) := fun H s => .lst (h H s) (h2 H s)
theorem At.tup (h : At L M (fT K a xs)) (h2 : At L M (fDs K xs ds)) : At L M (fD K (.ref a) (.tuple ds)) := fun H s => .tup (h H s) (h2 H s)
theorem At.nil : At L M (fDs K [] []) := fun _ _ => .nil
theorem At.cons (h : At L M (fD K v d)) (h2 : At L M (fDs K xs ds)) : At L M (fDs K (v :: xs) (d :: ds)) := fun H s => .cons (h H s) (h2 H s)
theorem dpa_ints (H : Hp) : ∀ ns : List Int, DpAll K H (ns.map V.int) (ns.map PyData.int)
  | [] => .nil
  | n :: ns => .cons (.int n) (dpa_ints H ns)
theorem At.ints {ns : List Int} : At L M (fDs K (ns.map V.int) (ns.map PyData.int)) := fun H _ => dpa_ints H ns

theorem SA.self (H : Hp) : SA [fS H] [] H := by
  refine ⟨⟨H, Same.refl H, fun f hf => ?_, fun _ hm => (by cases hm)⟩, fun _ hm => (by cases hm), List.nodup_nil⟩
  rcases List.mem_cons.mp hf with rfl | hf
  · exact Same.refl H
  · cases hf
theorem SA.ext {H' : Hp} (h : SA L M H) (e : Same H H') : SA L M H' := by
  obtain ⟨⟨F, h1, h2, h3⟩, h4, h5⟩ := h
  exact ⟨⟨F, h1.trans e, h2, h3⟩, fun m hm => e _ _ (h4 m hm), h5⟩
theorem SA.same {H0 : Hp} (h : SA (fS H0 :: L) M H) : Same H0 H := At.hd (f := fS H0) H h
theorem At.ofS {H0 : Hp} (h : f.p H0) : At (fS H0 :: L) M f := fun _ hs => f.mono _ _ hs.same h
/-- a new object of a walk that began at H, told to whom it belongs -/
theorem SA.ext1 {H' : Hp} {L1 : List Fc} (h : SA L M H) (e : SA (fS H :: L1) [(p, o)] H') : SA L ((p, o) :: M) H' := by
  have e1 := e.same
  obtain ⟨⟨F1, g1, g2, g3⟩, g4, g5⟩ := e
  have hp : H p = none := (show Same H F1 from g2 (fS H) List.mem_cons_self).free (g3 (p, o) List.mem_cons_self)
  obtain ⟨⟨F, h1, h2, h3⟩, h4, h5⟩ := h
  refine ⟨⟨F, h1.trans e1, h2, fun m hm => ?_⟩, fun m hm => ?_, ?_⟩
  · rcases List.mem_cons.mp hm with rfl | hm
    · exact h1.free hp
    · exact h3 m hm
  · rcases List.mem_cons.mp hm with rfl | hm
    · exact g4 _ List.mem_cons_self
    · exact e1 _ _ (h4 m hm)
  · refine List.nodup_cons.mpr ⟨fun hm => ?_, h5⟩
    obtain ⟨m, hm, e⟩ := List.mem_map.mp hm
    have q := h4 m hm
    rw [show m.1 = p from e, hp] at q
    cases q
theorem SA.fzL (h : SA L ((p, .lst xs) :: M) H) : SA (fL p xs :: L) M H := h.freeze fun _ e _ => e
theorem SA.newL (h : SA L M H) (hp : H p = none) : SA (fL p xs :: L) M (upd H p (.lst xs)) := h.newF hp fun _ e _ => e
theorem SA.newT (h : SA L M H) (hp : H p = none) : SA (fT K p xs :: L) M (upd H p (.tup xs)) := h.newF hp fun _ e _ => SqT.of e
end

/-! ### steps: a reading from the left -/
section
variable {L L' : List Fc} {M M' : List Cell} {H : Hp} {σ : L2.St} {Q : VK} {a p : Addr} {o o' : HO} {f g : Fc} {c : Cell} {xs ys : List V} {v x y z : V} {D : Ends} {ta tb te : TE} {t u : TT} {ts tu : TS} {tr : TA} {r : R2}
theorem st_var {i : Nat} (h : σ[i]? = some (some v)) (q : Q v H) : tVar i σ H Q := ⟨v, h, q⟩
theorem st_c (q : Q v H) : tC v σ H Q := q
theorem st_op (h : ta σ H fun x H1 => tb σ H1 fun y H2 => r x y H2 Q) : tOp r ta tb σ H Q := h
theorem st_un {r : V → Hp → VK → Prop} (h : ta σ H fun x H1 => r x H1 Q) : tUn r ta σ H Q := h
theorem st_I0 {g : Int → Int → V} {i j : Int} (q : Q (g i j) H) : rI0 g (.int i) (.int j) H Q := ⟨i, j, rfl, rfl, q⟩
theorem st_I {C : Int → Int → Prop} {g : Int → Int → V} {i j : Int} (hc : C i j) (q : Q (g i j) H) : rI C g (.int i) (.int j) H Q := ⟨i, j, rfl, rfl, hc, q⟩
theorem st_U {g : Int → V} {i : Int} (q : Q (g i) H) : rU g (.int i) H Q := ⟨i, rfl, q⟩
theorem st_eq (hs : scal x y = true) (q : Q (.bl (decide (x = y))) H) : rEq x y H Q := ⟨hs, q⟩
theorem st_ne (hs : scal x y = true) (q : Q (.bl (!decide (x = y))) H) : rNe x y H Q := ⟨hs, q⟩
theorem st_eqI {i j : Int} (q : Q (.bl (decide (i = j))) H) : rEq (.int i) (.int j) H Q := by
  refine ⟨rfl, ?_⟩
  have e : (V.int i = V.int j) = (i = j) := by simp
  simp only [e]
  exact q
theorem st_neI {i j : Int} (q : Q (.bl (!decide (i = j))) H) : rNe (.int i) (.int j) H Q := by
  refine ⟨rfl, ?_⟩
  have e : (V.int i = V.int j) = (i = j) := by simp
  simp only [e]
  exact q
theorem st_tnil {Q : List V → Hp → Prop} (q : Q [] H) : tNil σ H Q := q
theorem st_tcons {Q : List V → Hp → Prop} (q : ta σ H fun x H1 => tr σ H1 fun xs H2 => Q (x :: xs) H2) : tCons ta tr σ H Q := q
theorem st_test {Q : Bool → Hp → Prop} (q : te σ H fun x H' => ∃ k, x = .bl k ∧ Q k H') : tTest te σ H Q := q
theorem st_tB {Q : Bool → Hp → Prop} (q : te σ H fun x H' => ∃ k, x = .bl k ∧ Q k H') : tB te σ H Q := q
theorem st_isbl {Q : Bool → Hp → Prop} {k : Bool} (q : Q k H) : ∃ k', V.bl k = .bl k' ∧ Q k' H := ⟨k, rfl, q⟩
theorem st_if (q : t σ H fun c H1 => if c = true then ta σ H1 Q else tb σ H1 Q) : tIf t ta tb σ H Q := q
theorem st_and {Q : Bool → Hp → Prop} (q : t σ H fun c H1 => if c = true then u σ H1 Q else Q false H1) : tAnd t u σ H Q := q
theorem st_or {Q : Bool → Hp → Prop} (q : t σ H fun c H1 => if c = true then Q true H1 else u σ H1 Q) : tOr t u σ H Q := q
theorem st_not {Q : Bool → Hp → Prop} (q : t σ H fun c H1 => Q (!c) H1) : tNot t σ H Q := q
theorem st_andV (q : ta σ H fun x H1 => ∃ c, x = .bl c ∧ if c = true then tb σ H1 Q else Q (.bl false) H1) : tAndV ta tb σ H Q := q
theorem st_orV (q : ta σ H fun x H1 => ∃ c, x = .bl c ∧ if c = true then Q (.bl true) H1 else tb σ H1 Q) : tOrV ta tb σ H Q := q
theorem st_notV (q : ta σ H fun x H1 => ∃ c, x = .bl c ∧ Q (.bl (!c)) H1) : tNotV ta σ H Q := q
theorem st_blE {k : Bool} {P : Bool → Prop} (q : P k) : ∃ c, V.bl k = .bl c ∧ P c := ⟨k, rfl, q⟩
theorem st_seq (q : ts { D with nx := tu D } σ H) : tSeq ts tu D σ H := q
theorem st_cut {Mid : L2.St → Hp → Prop} (h : ts { D with nx := Mid } σ H) (q : ∀ σ' H', Mid σ' H' → tu D σ' H') : Evl.tCut ts tu D σ H := ⟨Mid, h, q⟩
theorem st_asg {g : TG} (q : te σ H fun x H1 => g x σ H1 D.nx) : tAsg te g D σ H := q
theorem st_name {i : Nat} {N : L2.St → Hp → Prop} (q : N (σ.set i (some v)) H) : gName i v σ H N := q
theorem st_ifS {tc : TT} (q : tc σ H fun b H1 => if b = true then ts D σ H1 else tu D σ H1) : tIfS tc ts tu D σ H := q
theorem st_ret (q : te σ H D.rt) : tRet te D σ H := q
theorem st_retN (q : D.rt .non H) : tRetN D σ H := q
theorem st_drop (q : te σ H fun _ H1 => D.nx σ H1) : tDrop te D σ H := q
theorem st_next (q : D.nx σ H) : tNext D σ H := q
theorem st_aug {i : Nat} {ti : TIp} (h : σ[i]? = some (some x)) (q : te σ H fun y H1 => ti x y H1 fun z H2 => D.nx (σ.set i (some z)) H2) : tAug i te ti D σ H := ⟨x, h, q⟩
theorem st_ip {F : Int → Int → Int} {i j : Int} (q : Q (.int (F i j)) H) : ipI F (.int i) (.int j) H Q := ⟨i, j, rfl, rfl, q⟩
theorem st_cb {rr : List V → Hp → VK → Prop} (q : tr σ H fun vs H1 => rr vs H1 Q) : tCB rr tr σ H Q := q
theorem st_call {sp : Sp} {dvs : List V} {E : XK} (q : tr σ H fun vs H1 => sp (vs ++ dvs) H1 Q E) : tCall sp dvs E tr σ H Q := q
theorem st_isN (q : te σ H fun x H1 => Q (.bl (decide (x = .non))) H1) : tIsN te σ H Q := q
theorem st_notN (q : te σ H fun x H1 => Q (.bl (!decide (x = .non))) H1) : tNotN te σ H Q := q
/-- ways -/
theorem if_dec {P : Prop} [Decidable P] {A B : Prop} (h1 : P → A) (h2 : ¬ P → B) : if decide P = true then A else B := by
  by_cases h : P
  · rw [if_pos (decide_eq_true h)]
    exact h1 h
  · rw [if_neg (by rw [decide_eq_false h]; decide)]
    exact h2 h
theorem if_not {b : Bool} {A B : Prop} (h : if b = true then B else A) : if (!b) = true then A else B := by
  cases b with
  | true => exact h
  | false => exact h
theorem if_t {A B : Prop} (h : A) : if true = true then A else B := h
theorem if_f {A B : Prop} (h : B) : if false = true then A else B := h
theorem if_bool {b : Bool} {A B : Prop} (h1 : b = true → A) (h2 : b = false → B) : if b = true then A else B := by
  cases b with
  | true => exact h1 rfl
  | false => exact h2 rfl

/-- reads -/
theorem st_ixL {i : Int} (hS : SA L M H) (h : At L M (fQ K p xs)) (e : atI xs i = some v) (q : Q v H) : rIxL K (.ref p) (.int i) H Q := ⟨p, xs, i, v, rfl, rfl, h H hS, e, q⟩
theorem st_ixT {i : Int} (hS : SA L M H) (h : At L M (fT K p xs)) (e : atI xs i = some v) (q : Q v H) : rIxT K (.ref p) (.int i) H Q := ⟨p, xs, i, v, rfl, rfl, h H hS, e, q⟩
theorem st_len (hS : SA L M H) (h : At L M (fQ K p xs)) (q : Q (.int (xs.length : Int)) H) : (∃ p' xs', [V.ref p] = [.ref p'] ∧ (SqL K H p' xs' ∨ SqT K H p' xs') ∧ Q (.int xs'.length) H) := ⟨p, xs, rfl, .inl (h H hS), q⟩
/-- new things -/
theorem st_new (hS : SA L M H) (q : ∀ p H', SA L ((p, o) :: M) H' → Q (.ref p) H') : ∀ p, H p = none → Q (.ref p) (upd H p o) := fun p hp => q p _ (hS.newM hp)
def NewL (xs : List V) (H : Hp) (Q : VK) : Prop := xs.length ≤ sizeLine ∧ ∀ p, H p = none → Q (.ref p) (upd H p (.lst xs))
def NewT (xs : List V) (H : Hp) (Q : VK) : Prop := xs.length ≤ sizeLine ∧ ∀ p, H p = none → Q (.ref p) (upd H p (.tup xs))
theorem st_lst (q : tr σ H fun xs H1 => NewL xs H1 Q) : tLst tr σ H Q := q
theorem st_tup (q : tr σ H fun xs H1 => NewT xs H1 Q) : tTup tr σ H Q := q
theorem st_newL (hS : SA L M H) (hl : xs.length ≤ 100000) (q : ∀ p H', SA L ((p, .lst xs) :: M) H' → Q (.ref p) H') : NewL xs H Q :=
  ⟨Nat.le_trans hl (by decide), fun p hp => q p _ (hS.newM hp)⟩
theorem st_newT (hS : SA L M H) (hl : xs.length ≤ 100000) (q : ∀ p H', SA (fT K p xs :: L) M H' → Q (.ref p) H') : NewT xs H Q :=
  ⟨Nat.le_trans hl (by decide), fun p hp => q p _ (hS.newT hp)⟩
/-- writes -/
theorem st_setL {j : Nat} {k : Int} {N : Hp → Prop} (hS : SA L M H) (d : Chg M p (.lst xs) (.lst (xs.set j v)) M') (hj : ixN xs.length k = some j) (q : ∀ H', SA L M' H' → N H') : rSetL (.ref p) (.int k) v H N :=
  ⟨p, xs, k, j, rfl, rfl, hS.at d.mem, hj, q _ (hS.set d)⟩
theorem st_app (hS : SA L M H) (d : Chg M p (.lst xs) (.lst (xs ++ [v])) M') (hz : xs.length < 100000) (q : ∀ H', SA L M' H' → Q .non H') : rAppend (.ref p) [v] H Q :=
  ⟨p, xs, v, rfl, rfl, hS.at d.mem, Nat.lt_of_lt_of_le hz (by decide), q _ (hS.set d)⟩
end
end Sa

namespace Sa
open PySem PySem.Spec PyProof.Rows L2
/-! ### rules of one's own -/
/-- ** of a number of at most sixty figures by a small one -/
def CPowW (i j : Int) : Prop := 0 ≤ j ∧ j ≤ 1000 ∧ -1000000000000000000000000000000000000000000000000000000000000 < i ∧ i < 1000000000000000000000000000000000000000000000000000000000000
theorem op_powW {X : Cx} : OpR X (binaryOp .Pow) (rI CPowW fun i j => .int (i ^ j.toNat)) := opI fun i j _ _ _ _ _ hc q => by
  have h0 : i.natAbs < 2 ^ 250 := by
    have e : (1000000000000000000000000000000000000000000000000000000000000 : Nat) < 2 ^ 250 := by decide +kernel
    have h := hc.2.2
    omega
  have h1 : Builtin.Int.intBits i ≤ 1000 := by
    have h := PySem.Flt.log2_lt_of (by decide) h0
    unfold Builtin.Int.intBits
    split <;> omega
  have h2 : (Builtin.Int.intBits i : Int) * j ≤ 2 ^ 27 := by
    have a : (Builtin.Int.intBits i : Int) * j ≤ 1000 * j := Int.mul_le_mul_of_nonneg_right (by omega) hc.1
    have b := hc.2.1
    omega
  exact pow_int hc.1 h2 q
def CMulX (i j : Int) : Prop := (-18446744073709551616 < i ∧ i < 18446744073709551616) ∨ (-18446744073709551616 < j ∧ j < 18446744073709551616) ∨ CMulW i j
theorem op_mulX {X : Cx} : OpR X (binaryOp .Mult) (rI CMulX fun i j => .int (i * j)) := opI fun i j _ _ _ _ _ hc q => by
  rcases hc with h | h | h
  · exact mul_int q (CMul.ok (.inl h))
  · exact mul_int q (CMul.ok (.inr h))
  · exact mul_int q h.ok
def CDivX (i j : Int) : Prop := 0 < j ∧ j < 1000000000000000000000000000000000000000000000000000000000000
theorem op_fdivX {X : Cx} : OpR X (binaryOp .FloorDiv) (rI CDivX fun i j => .int (i / j)) := opI fun i j _ _ _ _ _ hc q => by
  have h1 : (0 : Int) < j := hc.1
  have h0 : j.natAbs < 2 ^ 250 := by
    have e : (1000000000000000000000000000000000000000000000000000000000000 : Nat) < 2 ^ 250 := by decide +kernel
    have h := hc.2
    omega
  exact floordiv_int (by omega) (by rw [Int.fdiv_eq_ediv_of_nonneg i (by omega)]; exact q) (.inl (PyProof.noPylong_of_log2 (Nat.lt_trans (PySem.Flt.log2_lt_of (by decide) h0) (by decide))))
def CModX (i j : Int) : Prop := 0 < j
theorem op_modX {X : Cx} : OpR X (binaryOp .Mod) (rI CModX fun i j => .int (i % j)) := opI fun i j _ _ _ _ _ hc q => by
  have h1 : (0 : Int) < j := hc
  exact mod_int (by omega) (by rw [Int.fmod_eq_emod_of_nonneg i (by omega)]; exact q)
section
variable {X : Cx} {CX : CXT} {k : Nat} {f : Addr} {fd : FuncData} {ps : List Str} {sp : Sp} {E : XK} {x : Str} {p pos : Pos} {t tk : TA} {g : List Value → List Value → List Value} {gV : List V → List V → List V} {ks : List Str} {kws : List Keyword}
/-- f(k = v, ..) -/
theorem pe_callK0 (F : FnOk X.prog X.w X.K X.mg X.base CX k f fd ps sp) (hr : Room k X.A) (hg : Gl X x) (hm : X.mg x = some (.ref f)) (hk : PySem.W.keepIn X.K (.ref f) = true) (hb : KBinds X.K fd ps ks g gV) (hx : Passes CX X E)
    (hkw : PK X kws tk) (hall : (backToKw pos (keywordEach kws X.env)).all (·.1.isSome) = true := by rfl) (hks : (backToKw pos (keywordEach kws X.env)).filterMap (·.1) = ks := by rfl)
    (hdb : (x == ("__debug__" : Str)) = false := by decide) (hpl : ((backTo pos (starEach [] X.env)).any (·.1) || (backToKw pos (keywordEach kws X.env)).any (·.1.isNone)) = false := by rfl) :
    PE X (.Call (.Name x p) [] kws pos) (tCallK sp gV E tNil tk) := by
  refine ⟨fun pins s σ H Q I h => ?_⟩
  refine wpAny_Call_Name_kw (ld_glob I hg hm ?_ hdb)
  refine PySem.W.callWith_KW0 (h₀ := X.base) I.ok.mod.kin hk hall (thn (hkw.run pos pins s σ H _ I h) fun ws s2 ⟨zs, H2, I2, rz, q2⟩ => ⟨I2.kIn, ?_⟩) hpl
  rw [hks]
  exact run_fnk F hr hb hx I2 .nil rz q2
end
/-! ### built-ins by name -/
def rAbs : List V → Hp → VK → Prop := fun xs H Q => ∃ i, xs = [.int i] ∧ Q (.int (if i < 0 then -i else i)) H
def rMax2 : List V → Hp → VK → Prop := fun xs H Q => ∃ i j, xs = [.int i, .int j] ∧ Q (.int (if j > i then j else i)) H
def rMin2 : List V → Hp → VK → Prop := fun xs H Q => ∃ i j, xs = [.int i, .int j] ∧ Q (.int (if j < i then j else i)) H
def rInt1 : List V → Hp → VK → Prop := fun xs H Q => (∃ i, xs = [.int i] ∧ Q (.int i) H) ∨ ∃ k, xs = [.bl k] ∧ Q (.int (if k then 1 else 0)) H
def rLen (K : PySem.W.Frag) : List V → Hp → VK → Prop := fun xs H Q => ∃ x n, xs = [x] ∧ LenV K x H n ∧ Q (.int n) H
def rListOf (K : PySem.W.Frag) : List V → Hp → VK → Prop := fun xs H Q => ∃ p ys, xs = [.ref p] ∧ (SqL K H p ys ∨ SqT K H p ys) ∧ ∀ l, H l = none → Q (.ref l) (upd H l (.lst ys))
def rIsN : R2 := fun x y H Q => y = .non ∧ Q (.bl (decide (x = .non))) H
def rNotN : R2 := fun x y H Q => y = .non ∧ Q (.bl (!decide (x = .non))) H
def rIsBl : R2 := fun x y H Q => ∃ a b, x = .bl a ∧ y = .bl b ∧ Q (.bl (decide (a = b))) H
theorem call_abs {X : Cx} : CallR X (.builtin "abs") rAbs := L2.call_abs
theorem call_max2 {X : Cx} (hc : X.calm = true) : CallR X (.builtin "max") rMax2 := L2.call_max2 hc
theorem call_min2 {X : Cx} (hc : X.calm = true) : CallR X (.builtin "min") rMin2 := L2.call_min2 hc
theorem call_int1 {X : Cx} : CallR X (.type "int") rInt1 := L2.call_int1
theorem call_len {X : Cx} : CallR X (.builtin "len") (rLen X.K) := L2.call_len
theorem call_list_of {X : Cx} : CallR X (.type "list") (rListOf X.K) := L2.call_list_of
theorem op_isN {X : Cx} : OpR X (compareOp .Is) rIsN := L2.op_isN
theorem op_notN {X : Cx} : OpR X (compareOp .IsNot) rNotN := L2.op_notN
theorem op_is_bl {X : Cx} : OpR X (compareOp .Is) rIsBl := L2.op_is_bl

variable {K : PySem.W.Frag}
section
variable {L L' : List Fc} {M M' : List Cell} {H : Hp} {σ : L2.St} {Q : VK} {a p : Addr} {o o' : HO} {f g : Fc} {c : Cell} {xs ys : List V} {v x y z : V} {D : Ends} {ta tb tc te : TE} {t u : TT} {ts tu : TS} {tr tk : TA} {r r' : R2}
theorem st_pow {g : Int → Int → V} {i j : Int} (h0 : 0 ≤ j) (h1 : j ≤ 1000) (h2 : -1000000000000000000000000000000000000000000000000000000000000 < i) (h3 : i < 1000000000000000000000000000000000000000000000000000000000000) (q : Q (g i j) H) : rI CPowW g (.int i) (.int j) H Q := st_I ⟨h0, h1, h2, h3⟩ q
theorem st_mul1 {g : Int → Int → V} {i j : Int} (h0 : -18446744073709551616 < i) (h1 : i < 18446744073709551616) (q : Q (g i j) H) : rI CMulX g (.int i) (.int j) H Q := st_I (.inl ⟨h0, h1⟩) q
theorem st_mul2 {g : Int → Int → V} {i j : Int} (h0 : -18446744073709551616 < j) (h1 : j < 18446744073709551616) (q : Q (g i j) H) : rI CMulX g (.int i) (.int j) H Q := st_I (.inr (.inl ⟨h0, h1⟩)) q
theorem st_div {g : Int → Int → V} {i j : Int} (h0 : 0 < j) (h1 : j < 1000000000000000000000000000000000000000000000000000000000000) (q : Q (g i j) H) : rI CDivX g (.int i) (.int j) H Q := st_I ⟨h0, h1⟩ q
theorem st_mod {g : Int → Int → V} {i j : Int} (h0 : 0 < j) (q : Q (g i j) H) : rI CModX g (.int i) (.int j) H Q := st_I h0 q
/-- a rest is handed on as a letter -/
theorem st_modL {i j : Int} (h0 : 0 < j) (q : ∀ r : Int, 0 ≤ r → r < j → Q (.int r) H) : rI CModX (fun i j => .int (i % j)) (.int i) (.int j) H Q := st_I h0 (q _ (Int.emod_nonneg _ (by omega)) (Int.emod_lt_of_pos _ h0))
theorem st_abs {i : Int} (q : Q (.int (if i < 0 then -i else i)) H) : rAbs [.int i] H Q := ⟨i, rfl, q⟩
theorem max_is {i j : Int} : (if j > i then j else i) = max i j := by
  rw [Int.max_def]
  split <;> split <;> omega
theorem min_is {i j : Int} : (if j < i then j else i) = min i j := by
  rw [Int.min_def]
  split <;> split <;> omega
theorem st_max2 {i j : Int} (q : Q (.int (max i j)) H) : rMax2 [.int i, .int j] H Q := ⟨i, j, rfl, by rw [max_is]; exact q⟩
theorem st_min2 {i j : Int} (q : Q (.int (min i j)) H) : rMin2 [.int i, .int j] H Q := ⟨i, j, rfl, by rw [min_is]; exact q⟩
theorem st_int1 {i : Int} (q : Q (.int i) H) : rInt1 [.int i] H Q := .inl ⟨i, rfl, q⟩
theorem st_int1b {k : Bool} (q : Q (.int (if k then 1 else 0)) H) : rInt1 [.bl k] H Q := .inr ⟨k, rfl, q⟩
theorem st_lenL (hS : SA L M H) (h : At L M (fQ K p xs)) (q : Q (.int (xs.length : Int)) H) : rLen K [.ref p] H Q := ⟨_, _, rfl, .inl ⟨xs, h H hS, rfl⟩, q⟩
theorem st_lenT (hS : SA L M H) (h : At L M (fT K p xs)) (q : Q (.int (xs.length : Int)) H) : rLen K [.ref p] H Q := ⟨_, _, rfl, .inr ⟨xs, h H hS, rfl⟩, q⟩
theorem st_listOf (hS : SA L M H) (h : At L M (fQ K p xs)) (q : ∀ l H', SA L ((l, .lst xs) :: M) H' → Q (.ref l) H') : rListOf K [.ref p] H Q :=
  ⟨p, xs, rfl, .inl (h H hS), fun l hl => q l _ (hS.newM hl)⟩
theorem st_rIsN (q : Q (.bl (decide (x = .non))) H) : rIsN x .non H Q := ⟨rfl, q⟩
theorem st_rNotN (q : Q (.bl (!decide (x = .non))) H) : rNotN x .non H Q := ⟨rfl, q⟩
theorem st_rIsBl {a b : Bool} (q : Q (.bl (decide (a = b))) H) : rIsBl (.bl a) (.bl b) H Q := ⟨a, b, rfl, rfl, q⟩
theorem st_chain (q : ta σ H fun x H1 => tb σ H1 fun y H2 => r x y H2 fun z H3 => ∃ k, z = .bl k ∧ (if k = true then tc σ H3 fun w' H4 => r' y w' H4 Q else Q (.bl false) H3)) : tChain r r' ta tb tc σ H Q := q
theorem st_par {i j : Nat} (q : tr σ H fun vs H1 => ∃ v w, vs = [v, w] ∧ D.nx ((σ.set i (some v)).set j (some w)) H1) : tPar i j tr D σ H := q
theorem st_par2 {i j : Nat} (q : D.nx ((σ.set i (some x)).set j (some y)) H) : ∃ v w, [x, y] = [v, w] ∧ D.nx ((σ.set i (some v)).set j (some w)) H := ⟨x, y, rfl, q⟩
theorem st_par3 {i j l : Nat} (q : tr σ H fun vs H1 => ∃ u v w, vs = [u, v, w] ∧ D.nx (((σ.set i (some u)).set j (some v)).set l (some w)) H1) : tPar3 i j l tr D σ H := q
theorem st_par33 {i j l : Nat} (q : D.nx (((σ.set i (some x)).set j (some y)).set l (some z)) H) : ∃ u v w, [x, y, z] = [u, v, w] ∧ D.nx (((σ.set i (some u)).set j (some v)).set l (some w)) H := ⟨x, y, z, rfl, q⟩
theorem st_callK {sp : Sp} {gV : List V → List V → List V} {E : XK} (q : tr σ H fun vs H1 => tk σ H1 fun zs H2 => sp (gV vs zs) H2 Q E) : tCallK sp gV E tr tk σ H Q := q
theorem st_bm {T : String} {rr : V → List V → Hp → VK → Prop} (q : ta σ H fun x H1 => tyV K T x H1 ∧ tr σ H1 fun xs H2 => rr x xs H2 Q) : tBM K T rr ta tr σ H Q := q
theorem st_tyL {N : Prop} (hS : SA L M H) (h : At L M (fQ K p xs)) (q : N) : tyV K "list" (.ref p) H ∧ N := ⟨.inl ⟨rfl, xs, h H hS⟩, q⟩
theorem st_sub {to ti : TE} {tset : TSet} {N : L2.St → Hp → Prop} (q : to σ H fun o H1 => ti σ H1 fun i H2 => tset o i v H2 fun H3 => N σ H3) : gSub to ti tset v σ H N := q
/-! slices, sums of lists, the greatest of a list -/
theorem st_sl {tl th : TO} {rr : V → Option Int → Option Int → Hp → VK → Prop} (q : te σ H fun x H1 => tl σ H1 fun l H2 => th σ H2 fun u H3 => rr x l u H3 Q) : tSl rr te tl th σ H Q := q
theorem st_noP {Q : Option Int → Hp → Prop} (q : Q none H) : tNoPart σ H Q := q
theorem st_part {Q : Option Int → Hp → Prop} (q : te σ H fun x H1 => ∃ i, x = .int i ∧ Q (some i) H1) : tPart te σ H Q := q
theorem st_slL {lo hi : Option Int} (hS : SA L M H) (h : At L M (fQ K a xs)) (q : ∀ p H', SA L ((p, .lst (cutV xs lo hi)) :: M) H' → Q (.ref p) H') : rSlL K (.ref a) lo hi H Q := ⟨a, xs, rfl, h H hS, fun p hp => q p _ (hS.newM hp)⟩
theorem st_cat {b : Addr} (hS : SA L M H) (h1 : At L M (fL a xs)) (h2 : At L M (fL b ys)) (hl : xs.length + ys.length ≤ 100000) (q : ∀ p H', SA L ((p, .lst (xs ++ ys)) :: M) H' → Q (.ref p) H') : rCat (.ref a) (.ref b) H Q :=
  ⟨a, b, xs, ys, rfl, rfl, h1 H hS, h2 H hS, Nat.le_trans hl (by decide), fun p hp => q p _ (hS.newM hp)⟩
theorem st_max {ns : List Int} (hS : SA L M H) (h : At L M (fQ K a (ns.map V.int))) (h0 : 0 < ns.length) (q : ∀ m, m ∈ ns → (∀ y, y ∈ ns → y ≤ m) → Q (.int m) H) : rMax K [.ref a] H Q := ⟨a, ns, rfl, h H hS, h0, q⟩
theorem st_min {ns : List Int} (hS : SA L M H) (h : At L M (fQ K a (ns.map V.int))) (h0 : 0 < ns.length) (q : ∀ m, m ∈ ns → (∀ y, y ∈ ns → m ≤ y) → Q (.int m) H) : rMin K [.ref a] H Q := ⟨a, ns, rfl, h H hS, h0, q⟩
theorem st_sum {ns : List Int} (hS : SA L M H) (h : At L M (fQ K a (ns.map V.int))) (q : Q (.int ns.sum) H) : rSum K [.ref a] H Q := ⟨a, ns, rfl, h H hS, q⟩
theorem cut_to {ns : List Int} {j : Int} (h : 0 ≤ j) : cutV (ns.map V.int) none (some j) = (ns.take j.toNat).map V.int := by
  obtain ⟨k, rfl⟩ := Int.eq_ofNat_of_zero_le h
  unfold cutV
  rw [HT.sIx_none, HT.sIx_nat, List.drop_zero, List.length_map, Nat.sub_zero, Int.toNat_natCast, List.map_take]
  by_cases hk : k ≤ ns.length
  · rw [Nat.min_eq_left hk]
  · rw [Nat.min_eq_right (by omega), List.take_of_length_le (by rw [List.length_map]; exact Nat.le_refl _), List.take_of_length_le (by rw [List.length_map]; omega)]
theorem cut_from {ns : List Int} {j : Int} (h : 0 ≤ j) : cutV (ns.map V.int) (some j) none = (ns.drop j.toNat).map V.int := by
  obtain ⟨k, rfl⟩ := Int.eq_ofNat_of_zero_le h
  unfold cutV
  rw [HT.sIx_none, HT.sIx_nat, List.length_map, Int.toNat_natCast, List.map_drop]
  by_cases hk : k ≤ ns.length
  · rw [Nat.min_eq_left hk, List.take_of_length_le (by rw [List.length_drop, List.length_map]; exact Nat.le_refl _)]
  · rw [Nat.min_eq_right (by omega), List.drop_of_length_le (by rw [List.length_map]; exact Nat.le_refl _), List.drop_of_length_le (by rw [List.length_map]; omega)]
    simp
/-- lists compared -/
theorem eqv_ints : ∀ ns ms : List Int, PyData.eqvAll (ns.map PyData.int) (ms.map PyData.int) = decide (ns = ms) := by
  intro ns
  induction ns with
  | nil => intro ms; cases ms <;> rfl
  | cons n ns ih =>
    intro ms
    cases ms with
    | nil => rfl
    | cons m ms =>
      show ((n == m) && PyData.eqvAll (ns.map PyData.int) (ms.map PyData.int)) = _
      rw [ih ms]
      by_cases h1 : n = m
      · by_cases h2 : ns = ms
        · simp [h1, h2]
        · simp [h1, h2]
      · simp [h1]
end
end Sa

namespace Sa
open PySem PySem.Spec PyProof.Rows L2
variable {K : PySem.W.Frag}
/-! ### lists of numbers compared -/
theorem canAll_ints : ∀ ns : List Int, PyData.canLayAll0 (ns.map PyData.int) = true
  | [] => rfl
  | n :: ns => by
    show (PyData.canLay0 (.int n) && PyData.canLayAll0 (ns.map PyData.int)) = true
    rw [canAll_ints ns]
    rfl
theorem depthAll_ints : ∀ ns : List Int, PyData.depthAll (ns.map PyData.int) = 0
  | [] => rfl
  | n :: ns => by
    show max (PyData.depth (.int n)) (PyData.depthAll (ns.map PyData.int)) = 0
    rw [depthAll_ints ns]
    rfl
theorem shaped_ints (ns : List Int) : SeqAt.shaped (.list (ns.map PyData.int)) = true := by
  unfold SeqAt.shaped
  rw [show PyData.canLay0 (.list (ns.map PyData.int)) = PyData.canLayAll0 (ns.map PyData.int) from rfl, canAll_ints,
    show PyData.depth (.list (ns.map PyData.int)) = PyData.depthAll (ns.map PyData.int) + 1 from rfl, depthAll_ints]
  rfl
section
variable {L L' : List Fc} {M M' : List Cell} {H : Hp} {σ : L2.St} {Q : VK} {a p b : Addr} {o o' : HO} {f g : Fc} {c : Cell} {xs ys : List V} {v x y z : V} {D : Ends} {ta tb tc te : TE} {t u : TT} {ts tu : TS} {tr tk : TA} {r r' : R2} {ns ms : List Int}
theorem dp_ints (h : SqL K H a (ns.map V.int)) : Dp K H (.ref a) (.list (ns.map PyData.int)) := .lst h (dpa_ints H ns)
theorem st_eqL (hS : SA L M H) (h1 : At L M (fQ K a (ns.map V.int))) (h2 : At L M (fQ K b (ms.map V.int))) (q : Q (.bl (decide (ns = ms))) H) : rEqD K (.ref a) (.ref b) H Q :=
  ⟨_, _, dp_ints (h1 H hS), dp_ints (h2 H hS), shaped_ints ns, shaped_ints ms, by
    rw [show PyData.eqv (.list (ns.map PyData.int)) (.list (ms.map PyData.int)) = PyData.eqvAll (ns.map PyData.int) (ms.map PyData.int) from rfl, eqv_ints]
    exact q⟩
theorem st_neL (hS : SA L M H) (h1 : At L M (fQ K a (ns.map V.int))) (h2 : At L M (fQ K b (ms.map V.int))) (q : Q (.bl (!decide (ns = ms))) H) : rNeD K (.ref a) (.ref b) H Q :=
  ⟨_, _, dp_ints (h1 H hS), dp_ints (h2 H hS), shaped_ints ns, shaped_ints ms, by
    rw [show PyData.eqv (.list (ns.map PyData.int)) (.list (ms.map PyData.int)) = PyData.eqvAll (ns.map PyData.int) (ms.map PyData.int) from rfl, eqv_ints]
    exact q⟩
/-- an empty list written on the spot -/
theorem st_eqL0 (hS : SA L M H) (h1 : At L M (fQ K a (ns.map V.int))) (h2 : At L M (fQ K b [])) (q : Q (.bl (decide (ns = []))) H) : rEqD K (.ref a) (.ref b) H Q := st_eqL (ms := []) hS h1 h2 q
theorem st_neL0 (hS : SA L M H) (h1 : At L M (fQ K a (ns.map V.int))) (h2 : At L M (fQ K b [])) (q : Q (.bl (!decide (ns = []))) H) : rNeD K (.ref a) (.ref b) H Q := st_neL (ms := []) hS h1 h2 q
theorem SA.ign (h : SA L M H) (hp : H p = none) : SA L M (upd H p o) := (h.newM hp).dropM

/-! ### items of a list of numbers -/
theorem atI_ints {i : Int} (h0 : 0 ≤ i) (h1 : i < ns.length) : atI (ns.map V.int) i = some (.int (ns.getD i.toNat 0)) := by
  have hl : i.toNat < ns.length := by omega
  unfold atI ixN
  rw [if_pos h0, if_pos (by rw [List.length_map]; exact h1)]
  show (ns.map V.int)[i.toNat]? = _
  rw [List.getElem?_map, List.getElem?_eq_getElem hl, List.getD_eq_getElem?_getD, List.getElem?_eq_getElem hl]
  rfl
theorem atI_neg {i : Int} (h0 : i < 0) (h1 : -(ns.length : Int) ≤ i) : atI (ns.map V.int) i = some (.int (ns.getD (i + ns.length).toNat 0)) := by
  have hl : (i + ns.length).toNat < ns.length := by omega
  unfold atI ixN
  rw [if_neg (by omega), if_pos (by rw [List.length_map]; exact h1), List.length_map]
  show (ns.map V.int)[(i + ns.length).toNat]? = _
  rw [List.getElem?_map, List.getElem?_eq_getElem hl, List.getD_eq_getElem?_getD, List.getElem?_eq_getElem hl]
  rfl
theorem st_ixI {i : Int} (hS : SA L M H) (h : At L M (fQ K p (ns.map V.int))) (h0 : 0 ≤ i) (h1 : i < ns.length) (q : Q (.int (ns.getD i.toNat 0)) H) : rIxL K (.ref p) (.int i) H Q :=
  st_ixL hS h (atI_ints h0 h1) q
theorem st_ixN {i : Int} (hS : SA L M H) (h : At L M (fQ K p (ns.map V.int))) (h0 : i < 0) (h1 : -(ns.length : Int) ≤ i) (q : Q (.int (ns.getD (i + ns.length).toNat 0)) H) : rIxL K (.ref p) (.int i) H Q :=
  st_ixL hS h (atI_neg h0 h1) q
theorem ixN_ok {n : Nat} {i : Int} (h0 : 0 ≤ i) (h1 : i < n) : ixN n i = some i.toNat := by
  unfold ixN
  rw [if_pos h0, if_pos h1]

theorem map_set {j : Nat} {w : Int} : (ns.map V.int).set j (.int w) = (ns.set j w).map V.int := by rw [List.map_set]
theorem st_setI {i w : Int} {N : Hp → Prop} (hS : SA L M H) (d : Chg M p (.lst (ns.map V.int)) (.lst ((ns.set i.toNat w).map V.int)) M') (h0 : 0 ≤ i) (h1 : i < ns.length) (q : ∀ H', SA L M' H' → N H') : rSetL (.ref p) (.int i) (.int w) H N := by
  refine ⟨p, _, i, i.toNat, rfl, rfl, hS.at d.mem, ixN_ok h0 (by rw [List.length_map]; exact h1), ?_⟩
  rw [map_set]
  exact q _ (hS.set d)
theorem st_appI {w : Int} (hS : SA L M H) (d : Chg M p (.lst (ns.map V.int)) (.lst ((ns ++ [w]).map V.int)) M') (hz : ns.length < 100000) (q : ∀ H', SA L M' H' → Q .non H') : rAppend (.ref p) [.int w] H Q := by
  refine ⟨p, _, .int w, rfl, rfl, hS.at d.mem, by rw [List.length_map]; exact Nat.lt_of_lt_of_le hz (by decide), ?_⟩
  have e : ns.map V.int ++ [V.int w] = (ns ++ [w]).map V.int := by rw [List.map_append]; rfl
  rw [e]
  exact q _ (hS.set d)
/-- an item of a written list of numbers, at a place that is not written: what all have it has -/
theorem st_menu {i : Int} (P : Int → Prop) (hS : SA L M H) (h : At L M (fQ K p xs)) (e : xs = ms.map V.int) (h0 : 0 ≤ i) (h1 : i < ms.length) (hP : ∀ x ∈ ms, P x) (q : ∀ x, P x → Q (.int x) H) : rIxL K (.ref p) (.int i) H Q := by
  subst e
  refine st_ixL hS h (atI_ints h0 h1) (q _ (hP _ ?_))
  have hl : i.toNat < ms.length := by omega
  rw [List.getD_eq_getElem?_getD, List.getElem?_eq_getElem hl]
  exact List.getElem_mem hl
theorem st_slTo {j : Int} (hS : SA L M H) (h : At L M (fQ K a (ns.map V.int))) (h0 : 0 ≤ j) (q : ∀ p H', SA L ((p, .lst ((ns.take j.toNat).map V.int)) :: M) H' → Q (.ref p) H') : rSlL K (.ref a) none (some j) H Q :=
  st_slL hS h (by rw [cut_to h0]; exact q)
theorem st_slFrom {j : Int} (hS : SA L M H) (h : At L M (fQ K a (ns.map V.int))) (h0 : 0 ≤ j) (q : ∀ p H', SA L ((p, .lst ((ns.drop j.toNat).map V.int)) :: M) H' → Q (.ref p) H') : rSlL K (.ref a) (some j) none H Q :=
  st_slL hS h (by rw [cut_from h0]; exact q)
theorem st_catI (hS : SA L M H) (h1 : At L M (fL a (ns.map V.int))) (h2 : At L M (fL b (ms.map V.int))) (hl : ns.length + ms.length ≤ 100000) (q : ∀ p H', SA L ((p, .lst ((ns ++ ms).map V.int)) :: M) H' → Q (.ref p) H') : rCat (.ref a) (.ref b) H Q :=
  st_cat hS h1 h2 (by rw [List.length_map, List.length_map]; exact hl) (by rw [← List.map_append]; exact q)
theorem st_catI1 {w : Int} (hS : SA L M H) (h1 : At L M (fL a (ns.map V.int))) (h2 : At L M (fL b [.int w])) (hl : ns.length + 1 ≤ 100000) (q : ∀ p H', SA L ((p, .lst ((ns ++ [w]).map V.int)) :: M) H' → Q (.ref p) H') : rCat (.ref a) (.ref b) H Q :=
  st_catI (ms := [w]) hS h1 h2 hl q
theorem st_lenI (hS : SA L M H) (h : At L M (fQ K p (ns.map V.int))) (q : Q (.int (ns.length : Int)) H) : rLen K [.ref p] H Q := st_lenL hS h (by rw [List.length_map]; exact q)
theorem st_cat3 {u v w : Int} (hS : SA L M H) (h1 : At L M (fL a [.int u, .int v, .int w])) (h2 : At L M (fL b (ms.map V.int))) (hl : 3 + ms.length ≤ 100000) (q : ∀ p H', SA L ((p, .lst (([u, v, w] ++ ms).map V.int)) :: M) H' → Q (.ref p) H') : rCat (.ref a) (.ref b) H Q :=
  st_catI (ns := [u, v, w]) hS h1 h2 hl q
theorem ints_at {i : Nat} (h : (ns.map V.int)[i]? = some x) : ∃ n, ns[i]? = some n ∧ x = .int n := by
  rw [List.getElem?_map] at h
  cases e : ns[i]? with
  | none => rw [e] at h; cases h
  | some n =>
    rw [e] at h
    exact ⟨n, rfl, (Option.some.inj h).symm⟩
theorem drop_at {α : Type} {l : List α} {i : Nat} {n : α} (h : l[i]? = some n) : l.drop i = n :: l.drop (i + 1) := by
  obtain ⟨hl, e⟩ := List.getElem?_eq_some_iff.mp h
  rw [List.drop_eq_getElem_cons hl, e]
theorem take_at {α : Type} {l : List α} {i : Nat} {n : α} (h : l[i]? = some n) : l.take (i + 1) = l.take i ++ [n] := by
  obtain ⟨hl, e⟩ := List.getElem?_eq_some_iff.mp h
  rw [List.take_add_one, h]
  rfl
/-! ### loops: an invariant by the turn and a ghost -/
/-- the state at turn n -/
def Iv {γ : Type} (s : Nat → γ → L2.St) (Lf : Nat → γ → List Fc) (Mf : Nat → γ → List Cell) (pr : Nat → γ → Prop) (n : Nat) (σ : L2.St) (H : Hp) : Prop :=
  ∃ g : γ, σ = s n g ∧ pr n g ∧ SA (Lf n g) (Mf n g) H
/-- what a for asks behind its iterator -/
def Lp (J : It) (g : TG) (tb : TS) (D : Ends) (σ : L2.St) (H : Hp) : Prop :=
  ∃ W : Nat → Nat → L2.St → Hp → Prop, (∃ m, W 0 m σ H) ∧ ∀ i m σ H, W i m σ H →
    (J.stop i H ∧ D.nx σ H) ∨ (J.go i H ∧ ∃ N : L2.St → Hp → Prop, (∀ σ' H', N σ' H' → ∃ m', m' < m ∧ W (i + 1) m' σ' H') ∧ ∀ x H', J.yld i H x H' → g x σ H' fun σ2 H2 => tb { D with nx := N, ct := N, bk := D.nx } σ2 H2)
theorem st_for {wi : TI} {g : TG} (q : wi σ H fun J H1 => Lp J g ts D σ H1) : tFor wi g ts D σ H := q
theorem st_iList (q : te σ H fun x H1 => ∃ a, x = .ref a ∧ (∃ xs, SqL K H1 a xs) ∧ R (Itl K a) H1) : iList K te σ H R := q
theorem st_iRng1 (q : tr σ H fun vs H1 => ∃ j : Int, vs = [.int j] ∧ -(2 ^ 62) ≤ j ∧ j < 2 ^ 62 ∧ R (Itr 0 j.toNat) H1) : iRng1 tr σ H R := q
theorem st_iRng2 (q : tr σ H fun vs H1 => ∃ i j : Int, vs = [.int i, .int j] ∧ (-(2 ^ 62) ≤ i ∧ i < 2 ^ 62 ∧ -(2 ^ 62) ≤ j ∧ j < 2 ^ 62) ∧ R (Itr i (j - i).toNat) H1) : iRng2 tr σ H R := q
theorem st_iEnum (q : tr σ H fun vs H1 => ∃ a xs, vs = [.ref a] ∧ SqL K H1 a xs ∧ R (Ite K a) H1) : iEnum K tr σ H R := q
theorem st_iZip (q : tr σ H fun vs H1 => ∃ a b xs ys, vs = [.ref a, .ref b] ∧ SqL K H1 a xs ∧ SqL K H1 b ys ∧ R (Itz K a b) H1) : iZip K tr σ H R := q
theorem st_r1 {g : TG} {n : Nat} {j : Int} (h : j.toNat = n) (hb : j < 2 ^ 62) (hc : -(2 ^ 62) ≤ j) (q : Lp (Itr 0 n) g ts D σ H) : ∃ j' : Int, [V.int j] = [.int j'] ∧ -(2 ^ 62) ≤ j' ∧ j' < 2 ^ 62 ∧ Lp (Itr 0 j'.toNat) g ts D σ H :=
  ⟨j, rfl, hc, hb, by rw [h]; exact q⟩
theorem st_r2 {g : TG} {n : Nat} {i j : Int} (h : (j - i).toNat = n) (hb : -(2 ^ 62) ≤ i ∧ i < 2 ^ 62 ∧ -(2 ^ 62) ≤ j ∧ j < 2 ^ 62) (q : Lp (Itr i n) g ts D σ H) : ∃ i' j' : Int, [V.int i, V.int j] = [.int i', .int j'] ∧ (-(2 ^ 62) ≤ i' ∧ i' < 2 ^ 62 ∧ -(2 ^ 62) ≤ j' ∧ j' < 2 ^ 62) ∧ Lp (Itr i' (j' - i').toNat) g ts D σ H :=
  ⟨i, j, rfl, hb, by rw [h]; exact q⟩
theorem st_e1 {g : TG} (hS : SA L M H) (h : At L M (fQ K a xs)) (q : Lp (Ite K a) g ts D σ H) : ∃ a' xs, [V.ref a] = [.ref a'] ∧ SqL K H a' xs ∧ Lp (Ite K a') g ts D σ H := ⟨a, xs, rfl, h H hS, q⟩
theorem st_l1 {g : TG} (hS : SA L M H) (h : At L M (fQ K a xs)) (q : Lp (Itl K a) g ts D σ H) : ∃ a', V.ref a = .ref a' ∧ (∃ xs, SqL K H a' xs) ∧ Lp (Itl K a') g ts D σ H := ⟨a, rfl, ⟨xs, h H hS⟩, q⟩
theorem st_z1 {g : TG} (hS : SA L M H) (h : At L M (fQ K a xs)) (h2 : At L M (fQ K b ys)) (q : Lp (Itz K a b) g ts D σ H) : ∃ a' b' xs ys, [V.ref a, V.ref b] = [.ref a', .ref b'] ∧ SqL K H a' xs ∧ SqL K H b' ys ∧ Lp (Itz K a' b') g ts D σ H := ⟨a, b, xs, ys, rfl, h H hS, h2 H hS, q⟩
section
variable {γ : Type} (s : Nat → γ → L2.St) (Lf : Nat → γ → List Fc) (Mf : Nat → γ → List Cell) (pr : Nat → γ → Prop)
theorem lp_rng {lo : Int} {n : Nat} {j : Nat} (h0 : Iv s Lf Mf pr 0 σ H)
    (hs : ∀ (i : Nat) (g : γ) (H : Hp), i < n → pr i g → SA (Lf i g) (Mf i g) H → ts { D with nx := Iv s Lf Mf pr (i + 1), ct := Iv s Lf Mf pr (i + 1), bk := D.nx } ((s i g).set j (some (.int (lo + (i : Int))))) H)
    (hd : ∀ (g : γ) (H : Hp), pr n g → SA (Lf n g) (Mf n g) H → D.nx (s n g) H) : Lp (Itr lo n) (gName j) ts D σ H :=
  for_it (walk_range (lo := lo) (n := n)) (Iv s Lf Mf pr) h0 (fun _ _ _ _ _ => trivial) (fun i x σ H H' hi hp hy => by
    obtain ⟨g, rfl, h1, h2⟩ := hp
    obtain ⟨rfl, rfl⟩ := hy
    exact hs i g H' hi h1 h2) (fun σ H hp => by
    obtain ⟨g, rfl, h1, h2⟩ := hp
    exact hd g H h1 h2)
theorem lp_list {j : Nat} (h0 : Iv s Lf Mf pr 0 σ H) (hG : ∀ (i : Nat) (g : γ), i ≤ xs.length → pr i g → At (Lf i g) (Mf i g) (fQ K a xs))
    (hs : ∀ (i : Nat) (x : V) (g : γ) (H : Hp), xs[i]? = some x → pr i g → SA (Lf i g) (Mf i g) H → ts { D with nx := Iv s Lf Mf pr (i + 1), ct := Iv s Lf Mf pr (i + 1), bk := D.nx } ((s i g).set j (some x)) H)
    (hd : ∀ (g : γ) (H : Hp), pr xs.length g → SA (Lf xs.length g) (Mf xs.length g) H → D.nx (s xs.length g) H) : Lp (Itl K a) (gName j) ts D σ H :=
  for_it (walk_list (xs := xs)) (Iv s Lf Mf pr) h0 (fun i σ H hi hp => by
    obtain ⟨g, rfl, h1, h2⟩ := hp
    exact hG i g hi h1 H h2) (fun i x σ H H' hi hp hy => by
    obtain ⟨g, rfl, h1, h2⟩ := hp
    obtain ⟨rfl, hx⟩ := hy
    exact hs i x g H' hx h1 h2) (fun σ H hp => by
    obtain ⟨g, rfl, h1, h2⟩ := hp
    exact hd g H h1 h2)
/-- for i, x in enumerate(xs) -/
theorem lp_enum {j k : Nat} (h0 : Iv s Lf Mf pr 0 σ H) (hG : ∀ (i : Nat) (g : γ), i ≤ xs.length → pr i g → At (Lf i g) (Mf i g) (fQ K a xs))
    (hs : ∀ (i : Nat) (x : V) (g : γ) (H : Hp), xs[i]? = some x → pr i g → SA (Lf i g) (Mf i g) H → ts { D with nx := Iv s Lf Mf pr (i + 1), ct := Iv s Lf Mf pr (i + 1), bk := D.nx } (((s i g).set j (some (.int (i : Nat)))).set k (some x)) H)
    (hd : ∀ (g : γ) (H : Hp), pr xs.length g → SA (Lf xs.length g) (Mf xs.length g) H → D.nx (s xs.length g) H) : Lp (Ite K a) (gTup K 2 (gCons (gName j) (gCons (gName k) gNil))) ts D σ H :=
  for_it (walk_enum (xs := xs)) (Iv s Lf Mf pr) h0 (fun i σ H hi hp => by
    obtain ⟨g, rfl, h1, h2⟩ := hp
    exact hG i g hi h1 H h2) (fun i x σ H H' hi hp hy => by
    obtain ⟨g, rfl, h1, h2⟩ := hp
    obtain ⟨T, y1, y2, rfl, hT, rfl, e1, e2⟩ := hy
    cases e1
    refine ⟨T, [.int (i : Nat), y2], rfl, SqT.of upd_same, rfl, _, _, rfl, _, _, rfl, rfl, ?_⟩
    exact hs i y2 g _ e2 h1 (h2.ign hT)) (fun σ H hp => by
    obtain ⟨g, rfl, h1, h2⟩ := hp
    exact hd g H h1 h2)
/-- for x, y in zip(xs, ys) -/
theorem lp_zip {j k : Nat} {n : Nat} (hn : n = min xs.length ys.length) (h0 : Iv s Lf Mf pr 0 σ H) (hG : ∀ (i : Nat) (g : γ), i ≤ n → pr i g → At (Lf i g) (Mf i g) (fQ K a xs)) (hG2 : ∀ (i : Nat) (g : γ), i ≤ n → pr i g → At (Lf i g) (Mf i g) (fQ K b ys))
    (hs : ∀ (i : Nat) (x y : V) (g : γ) (H : Hp), xs[i]? = some x → ys[i]? = some y → pr i g → SA (Lf i g) (Mf i g) H → ts { D with nx := Iv s Lf Mf pr (i + 1), ct := Iv s Lf Mf pr (i + 1), bk := D.nx } (((s i g).set j (some x)).set k (some y)) H)
    (hd : ∀ (g : γ) (H : Hp), pr n g → SA (Lf n g) (Mf n g) H → D.nx (s n g) H) : Lp (Itz K a b) (gTup K 2 (gCons (gName j) (gCons (gName k) gNil))) ts D σ H :=
  for_it (walk_zip (xs := xs) (ys := ys) hn) (Iv s Lf Mf pr) h0 (fun i σ H hi hp => by
    obtain ⟨g, rfl, h1, h2⟩ := hp
    exact ⟨hG i g hi h1 H h2, hG2 i g hi h1 H h2⟩) (fun i x σ H H' hi hp hy => by
    obtain ⟨g, rfl, h1, h2⟩ := hp
    obtain ⟨T, y1, y2, rfl, hT, rfl, e1, e2⟩ := hy
    refine ⟨T, [y1, y2], rfl, SqT.of upd_same, rfl, _, _, rfl, _, _, rfl, rfl, ?_⟩
    exact hs i y1 y2 g _ e1 e2 h1 (h2.ign hT)) (fun σ H hp => by
    obtain ⟨g, rfl, h1, h2⟩ := hp
    exact hd g H h1 h2)
end

/-! ### comprehensions -/
def Lc (J : It) (g : TG) (tt : TT) (te : TE) (vs : List Nat) (σ : L2.St) (Q : VK) (H1 : Hp) : Prop := ∀ D, H1 D = none → ∃ W : Nat → Nat → Hp → Prop, (∃ m, W 0 m (upd H1 D (.lst []))) ∧ ∀ i m H, W i m H →
  (J.stop i H ∧ Q (.ref D) H) ∨ (J.go i H ∧ ∃ Nx : Hp → Prop, (∀ H', Nx H' → ∃ m', m' < m ∧ W (i + 1) m' H') ∧ ∀ x H', J.yld i H x H' → g x (wipe σ vs) H' fun σ2 H2 => wipe σ2 vs = wipe σ vs ∧ tt σ2 H2 fun b H3 =>
    if b = true then te σ2 H3 fun y H4 => ∃ acc, H4 D = some (.lst acc) ∧ acc.length < sizeLine ∧ Nx (upd H4 D (.lst (acc ++ [y]))) else Nx H3)
theorem st_r1c {g : TG} {vs : List Nat} {n : Nat} {j : Int} (h : j.toNat = n) (hb : j < 2 ^ 62) (hc : -(2 ^ 62) ≤ j) (q : Lc (Itr 0 n) g t te vs σ Q H) : ∃ j' : Int, [V.int j] = [.int j'] ∧ -(2 ^ 62) ≤ j' ∧ j' < 2 ^ 62 ∧ Lc (Itr 0 j'.toNat) g t te vs σ Q H :=
  ⟨j, rfl, hc, hb, by rw [h]; exact q⟩
theorem st_r2c {g : TG} {vs : List Nat} {n : Nat} {i j : Int} (h : (j - i).toNat = n) (hb : -(2 ^ 62) ≤ i ∧ i < 2 ^ 62 ∧ -(2 ^ 62) ≤ j ∧ j < 2 ^ 62) (q : Lc (Itr i n) g t te vs σ Q H) : ∃ i' j' : Int, [V.int i, V.int j] = [.int i', .int j'] ∧ (-(2 ^ 62) ≤ i' ∧ i' < 2 ^ 62 ∧ -(2 ^ 62) ≤ j' ∧ j' < 2 ^ 62) ∧ Lc (Itr i' (j' - i').toNat) g t te vs σ Q H :=
  ⟨i, j, rfl, hb, by rw [h]; exact q⟩
theorem st_e1c {g : TG} {vs : List Nat} (hS : SA L M H) (h : At L M (fQ K a xs)) (q : Lc (Ite K a) g t te vs σ Q H) : ∃ a' xs, [V.ref a] = [.ref a'] ∧ SqL K H a' xs ∧ Lc (Ite K a') g t te vs σ Q H := ⟨a, xs, rfl, h H hS, q⟩
theorem st_l1c {g : TG} {vs : List Nat} (hS : SA L M H) (h : At L M (fQ K a xs)) (q : Lc (Itl K a) g t te vs σ Q H) : ∃ a', V.ref a = .ref a' ∧ (∃ xs, SqL K H a' xs) ∧ Lc (Itl K a') g t te vs σ Q H := ⟨a, rfl, ⟨xs, h H hS⟩, q⟩
theorem st_z1c {g : TG} {vs : List Nat} (hS : SA L M H) (h : At L M (fQ K a xs)) (h2 : At L M (fQ K b ys)) (q : Lc (Itz K a b) g t te vs σ Q H) : ∃ a' b' xs ys, [V.ref a, V.ref b] = [.ref a', .ref b'] ∧ SqL K H a' xs ∧ SqL K H b' ys ∧ Lc (Itz K a' b') g t te vs σ Q H := ⟨a, b, xs, ys, rfl, h H hS, h2 H hS, q⟩
theorem st_lc {wi : TI} {g : TG} {vs : List Nat} (q : wi σ H fun J H1 => Lc J g t te vs σ Q H1) : tLc wi g t te vs σ H Q := q
/-- a test, an item, of a state that they leave as it is (but for what is new) -/
def EvT (t : TT) (σ : L2.St) (L : List Fc) (M : List Cell) (b : Bool) : Prop := ∀ H, SA L M H → ∀ Q : Bool → Hp → Prop, (∀ H', SA L M H' → Q b H') → t σ H Q
def EvV (te : TE) (σ : L2.St) (L : List Fc) (M : List Cell) (v : V) : Prop := ∀ H, SA L M H → ∀ Q : VK, (∀ H', SA L M H' → Q v H') → te σ H Q
theorem evT_yes : EvT tYes σ L M true := fun H hS Q q => q H hS
open Evl (given given_yes given_no given_len) in
theorem lc_turn {D : Addr} {σ2 : L2.St} {ff : Nat → Bool} {w : Nat → V} {i : Nat} (hi : i < 50000) (hS : SA L ((D, .lst (given i ff w)) :: M) H)
    (ht : EvT t σ2 L ((D, .lst (given i ff w)) :: M) (ff i)) (he : ff i = true → EvV te σ2 L ((D, .lst (given i ff w)) :: M) (w i)) :
    t σ2 H fun b H3 => if b = true then te σ2 H3 fun y H4 => ∃ acc, H4 D = some (.lst acc) ∧ acc.length < sizeLine ∧ SA L ((D, .lst (given (i + 1) ff w)) :: M) (upd H4 D (.lst (acc ++ [y]))) else SA L ((D, .lst (given (i + 1) ff w)) :: M) H3 := by
  refine ht H hS _ fun H3 hS3 => ?_
  cases hf : ff i with
  | true =>
    refine if_t ?_
    refine he hf H3 hS3 _ fun H4 hS4 => ⟨given i ff w, hS4.at List.mem_cons_self, Nat.lt_of_le_of_lt (given_len i ff w) (Nat.lt_of_lt_of_le hi (by decide)), ?_⟩
    rw [given_yes hf]
    exact hS4.set .hd
  | false =>
    refine if_f ?_
    rw [given_no hf]
    exact hS3
open Evl (given) in
theorem lc_rng {lo : Int} {n j : Nat} {vs : List Nat} (hn : n < 50000) (hS : SA L M H) (ff : Nat → Bool) (w : Nat → V) (hw : ∀ x, wipe ((wipe σ vs).set j (some x)) vs = wipe σ vs)
    (ht : ∀ (i : Nat) (D : Addr) acc, i < n → EvT t ((wipe σ vs).set j (some (.int (lo + (i : Int))))) L ((D, .lst acc) :: M) (ff i))
    (he : ∀ (i : Nat) (D : Addr) acc, i < n → ff i = true → EvV te ((wipe σ vs).set j (some (.int (lo + (i : Int))))) L ((D, .lst acc) :: M) (w i))
    (q : ∀ D H', SA L ((D, .lst (given n ff w)) :: M) H' → Q (.ref D) H') : Lc (Itr lo n) (gName j) t te vs σ Q H := fun D hD =>
  lc_it (walk_range (lo := lo) (n := n)) (fun i H => SA L ((D, .lst (given i ff w)) :: M) H) (hS.newM hD) (fun _ _ _ _ => trivial) (fun i x H H' hi hp hy => by
    obtain ⟨rfl, rfl⟩ := hy
    exact ⟨hw _, lc_turn (by omega) hp (ht i D _ hi) (he i D _ hi)⟩) (fun H' hp => q D H' hp)
open Evl (given) in
theorem lc_lst {j : Nat} {vs : List Nat} (hn : xs.length < 50000) (hS : SA L M H) (hx : At L M (fQ K a xs)) (ff : Nat → Bool) (w : Nat → V) (hw : ∀ x, wipe ((wipe σ vs).set j (some x)) vs = wipe σ vs)
    (ht : ∀ (i : Nat) (x : V) (D : Addr) acc, xs[i]? = some x → EvT t ((wipe σ vs).set j (some x)) L ((D, .lst acc) :: M) (ff i))
    (he : ∀ (i : Nat) (x : V) (D : Addr) acc, xs[i]? = some x → ff i = true → EvV te ((wipe σ vs).set j (some x)) L ((D, .lst acc) :: M) (w i))
    (q : ∀ D H', SA L ((D, .lst (given xs.length ff w)) :: M) H' → Q (.ref D) H') : Lc (Itl K a) (gName j) t te vs σ Q H := fun D hD =>
  lc_it (walk_list (xs := xs)) (fun i H => SA L ((D, .lst (given i ff w)) :: M) H) (hS.newM hD) (fun i H _ hp => hx H hp.dropM) (fun i x H H' hi hp hy => by
    obtain ⟨rfl, hx⟩ := hy
    exact ⟨hw _, lc_turn (by omega) hp (ht i x D _ hx) (he i x D _ hx)⟩) (fun H' hp => q D H' hp)
open Evl (given) in
theorem lc_enum {j k : Nat} {vs : List Nat} (hn : xs.length < 50000) (hS : SA L M H) (hx : At L M (fQ K a xs)) (ff : Nat → Bool) (w : Nat → V) (hw : ∀ x y, wipe (((wipe σ vs).set j (some x)).set k (some y)) vs = wipe σ vs)
    (ht : ∀ (i : Nat) (x : V) (D : Addr) acc, xs[i]? = some x → EvT t (((wipe σ vs).set j (some (.int (i : Nat)))).set k (some x)) L ((D, .lst acc) :: M) (ff i))
    (he : ∀ (i : Nat) (x : V) (D : Addr) acc, xs[i]? = some x → ff i = true → EvV te (((wipe σ vs).set j (some (.int (i : Nat)))).set k (some x)) L ((D, .lst acc) :: M) (w i))
    (q : ∀ D H', SA L ((D, .lst (given xs.length ff w)) :: M) H' → Q (.ref D) H') : Lc (Ite K a) (gTup K 2 (gCons (gName j) (gCons (gName k) gNil))) t te vs σ Q H := fun D hD =>
  lc_it (walk_enum (xs := xs)) (fun i H => SA L ((D, .lst (given i ff w)) :: M) H) (hS.newM hD) (fun i H _ hp => hx H hp.dropM) (fun i x H H' hi hp hy => by
    obtain ⟨T, y1, y2, rfl, hT, rfl, e1, e2⟩ := hy
    cases e1
    refine ⟨T, [.int (i : Nat), y2], rfl, SqT.of upd_same, rfl, _, _, rfl, _, _, rfl, rfl, ?_⟩
    exact ⟨hw _ _, lc_turn (by omega) (hp.ign hT) (ht i y2 D _ e2) (he i y2 D _ e2)⟩) (fun H' hp => q D H' hp)
end
end Sa
namespace Sa
open PySem PySem.Spec PyProof.Rows L2
/-! ### keywords alone, in the parameters' order; in another order by g -/
def g0 {α : Type} : List α → List α → List α
  | [], ws => ws
  | _ :: _, _ => []
theorem kb0 {K : PySem.W.Frag} {x qual : Str} {st : Stmt} {f : Addr} {fd : FuncData} {ps ks : List Str} (F : Fun K x qual st f fd) (h0 : 0 < ps.length)
    (h : ∀ (kV doc pm : Value) (an : Option Addr) (cdv ct : Value) (ws : List Value), ws.length = ps.length → bindArgs (PySem.W.fnOf x qual (defArgs st) (defBody st) (defScope st) .none kV doc pm an cdv ct) ⟨[], ks.zip ws⟩ = pure (ps.zip ws)) : KBinds K fd ps ks g0 g0 := by
  obtain ⟨oc, od, kV, doc, pm, an, cdv, ct, osl, rfl, lk, hcd⟩ := F.ex
  refine ⟨fun s us ws _ hl => ?_, fun {vs us zs ws} r rz => ?_⟩
  · cases us with
    | nil => exact .of_eq (h kV doc pm an cdv ct ws hl)
    | cons u us =>
      have hl' : 0 = ps.length := hl
      omega
  · cases r with
    | nil => exact rz
    | cons _ _ => exact .nil
/-- one value by position, the rest by name in the parameters' order -/
def g1 {α : Type} : List α → List α → List α
  | [u], ws => u :: ws
  | _, _ => []
theorem kb1 {K : PySem.W.Frag} {x qual : Str} {st : Stmt} {f : Addr} {fd : FuncData} {ps ks : List Str} (F : Fun K x qual st f fd) (h0 : 0 < ps.length)
    (h : ∀ (kV doc pm : Value) (an : Option Addr) (cdv ct : Value) (u : Value) (ws : List Value), (u :: ws).length = ps.length → bindArgs (PySem.W.fnOf x qual (defArgs st) (defBody st) (defScope st) .none kV doc pm an cdv ct) ⟨[u], ks.zip ws⟩ = pure (ps.zip (u :: ws))) : KBinds K fd ps ks g1 g1 := by
  obtain ⟨oc, od, kV, doc, pm, an, cdv, ct, osl, rfl, lk, hcd⟩ := F.ex
  refine ⟨fun s us ws _ hl => ?_, fun {vs us zs ws} r rz => ?_⟩
  · match us, hl with
    | [], hl =>
      have hl' : 0 = ps.length := hl
      omega
    | [u], hl => exact .of_eq (h kV doc pm an cdv ct u ws hl)
    | _ :: _ :: _, hl =>
      have hl' : 0 = ps.length := hl
      omega
  · cases r with
    | nil => exact .nil
    | cons r rr =>
      cases rr with
      | nil => exact .cons r rz
      | cons _ _ => exact .nil
end Sa
namespace Sa
open PySem PySem.Spec PyProof.Rows L2
theorem cxK {CX : CXT} {P : Program} {w : World} {K : PySem.W.Frag} {mg : Str → Option Value} {base : Heap} {N : List Str} {qual : Str} {sc : Scope} {f : Addr} {cd : Value} {A : Around} {outer : List Env} {s : Shared} {H : Hp} {E : XK} : (cxOf CX P w K mg base N qual sc f cd A outer s H E).nox.K = K := rfl
theorem cxK' {CX : CXT} {P : Program} {w : World} {K : PySem.W.Frag} {mg : Str → Option Value} {base : Heap} {N : List Str} {qual : Str} {sc : Scope} {f : Addr} {cd : Value} {A : Around} {outer : List Env} {s : Shared} {H : Hp} {E : XK} : (cxOf CX P w K mg base N qual sc f cd A outer s H E).K = K := rfl
theorem asg2 {x y : Str} {p q : Pos} {env : Env} : (assignEach [.Name x p, .Name y q] env).length = 2 := rfl
theorem asg3 {x y z : Str} {p q r : Pos} {env : Env} : (assignEach [.Name x p, .Name y q, .Name z r] env).length = 3 := rfl
theorem asg2t {x : Str} {p q : Pos} {es : List Expr} {k : Nat} {env : Env} : (assignEach [.Name x p, .Tuple es k q] env).length = 2 := rfl
end Sa

namespace Sa
open PySem PySem.Spec PyProof.Rows L2 RZ
/-! ### data: isinstance, zip of two lists or tuples -/
def tyN : PyData → String
  | .none => "NoneType"
  | .bool _ => "bool"
  | .int _ => "int"
  | .str _ => "str"
  | .list _ => "list"
  | .tuple _ => "tuple"
  | .dict _ => "dict"
section
variable {K : PySem.W.Frag} {L L' : List Fc} {M M' : List Cell} {H : Hp} {σ : L2.St} {Q : VK} {a p b : Addr} {xs ys : List V} {v x y z : V} {D : Ends} {te : TE} {t : TT} {ts tu : TS} {tr : TA} {d : PyData} {ds : List PyData}
theorem dp_list (h : Dp K H v (.list ds)) : ∃ a xs, v = .ref a ∧ SqL K H a xs ∧ DpAll K H xs ds := by
  cases h with
  | lst h1 h2 => exact ⟨_, _, rfl, h1, h2⟩
theorem dp_tuple (h : Dp K H v (.tuple ds)) : ∃ a xs, v = .ref a ∧ SqT K H a xs ∧ DpAll K H xs ds := by
  cases h with
  | tup h1 h2 => exact ⟨_, _, rfl, h1, h2⟩
theorem dp_int {i : Int} (h : Dp K H v (.int i)) : v = .int i := by cases h; rfl
theorem dp_bool {i : Bool} (h : Dp K H v (.bool i)) : v = .bl i := by cases h; rfl
theorem dp_none (h : Dp K H v .none) : v = .non := by cases h; rfl
theorem dp_str {i : Str} (h : Dp K H v (.str i)) : v = .str i := by cases h; rfl
theorem dpa_len : ∀ {xs : List V} {ds : List PyData}, DpAll K H xs ds → xs.length = ds.length
  | _, _, .nil => rfl
  | _, _, .cons _ h => by simp only [List.length_cons, dpa_len h]
theorem dpa_get : ∀ {xs : List V} {ds : List PyData} {i : Nat} {x : V}, DpAll K H xs ds → xs[i]? = some x → ∃ d, ds[i]? = some d ∧ Dp K H x d
  | _, _, _, _, .nil, h => by simp at h
  | _, _, 0, _, .cons h1 _, h => by
    simp at h
    subst h
    exact ⟨_, rfl, h1⟩
  | _, _, i + 1, _, .cons _ h2, h => by
    obtain ⟨d, e, h3⟩ := dpa_get (i := i) h2 (by simpa using h)
    exact ⟨d, by simpa using e, h3⟩
theorem ty_of (h : Dp K H v d) : TyX K H v (.type (tyN d)) := by
  cases h with
  | non => exact .base .non
  | bl b => exact .base (.bl b)
  | int i => exact .base (.int i)
  | str x => exact .base (.str x)
  | lst h1 h2 =>
    rcases h1 with (h1 | ⟨o, h1⟩) | ⟨o, its, n, h1, h2, _⟩
    · exact .base (.lst h1)
    · exact .base (.frz h1)
    · exact .kList h1 h2
  | tup h1 h2 =>
    rcases h1 with (h1 | ⟨o, h1⟩) | ⟨o, its, n, h1, h2, _⟩
    · exact .base (.tup h1)
    · exact .fTuple h1
    · exact .kTuple h1 h2
theorem st_isi {T : String} {r : Bool} (h : Dp K H v d) (e : kitB (tyN d) T = some r) (q : Q (.bl r) H) : rIsi K [v, .ty T] H Q :=
  ⟨v, .ty T, .type (tyN d), .type T, r, rfl, .ty T, ty_of h, kit_ty e, q⟩
def kBool : PyData → Bool
  | .bool _ => true
  | _ => false
theorem st_kBool (h : Dp K H v d) (q : Q (.bl (kBool d)) H) : rIsi K [v, .ty "bool"] H Q :=
  st_isi (r := kBool d) h (by cases d <;> (dsimp only [tyN, kBool]; decide +kernel)) q
def kInt : PyData → Bool
  | .int _ => true
  | .bool _ => true
  | _ => false
theorem st_kInt (h : Dp K H v d) (q : Q (.bl (kInt d)) H) : rIsi K [v, .ty "int"] H Q :=
  st_isi (r := kInt d) h (by cases d <;> (dsimp only [tyN, kInt]; decide +kernel)) q
def kStr : PyData → Bool
  | .str _ => true
  | _ => false
theorem st_kStr (h : Dp K H v d) (q : Q (.bl (kStr d)) H) : rIsi K [v, .ty "str"] H Q :=
  st_isi (r := kStr d) h (by cases d <;> (dsimp only [tyN, kStr]; decide +kernel)) q
def kList : PyData → Bool
  | .list _ => true
  | _ => false
theorem st_kList (h : Dp K H v d) (q : Q (.bl (kList d)) H) : rIsi K [v, .ty "list"] H Q :=
  st_isi (r := kList d) h (by cases d <;> (dsimp only [tyN, kList]; decide +kernel)) q
def kTuple : PyData → Bool
  | .tuple _ => true
  | _ => false
theorem st_kTuple (h : Dp K H v d) (q : Q (.bl (kTuple d)) H) : rIsi K [v, .ty "tuple"] H Q :=
  st_isi (r := kTuple d) h (by cases d <;> (dsimp only [tyN, kTuple]; decide +kernel)) q
theorem st_newTc (hS : SA L M H) (hl : xs.length ≤ 100000) (q : ∀ p H', SA L ((p, .tup xs) :: M) H' → Q (.ref p) H') : NewT xs H Q :=
  ⟨Nat.le_trans hl (by decide), fun p hp => q p _ (hS.newM hp)⟩
/-- isinstance(v, (list, tuple)) -/
theorem st_isiLT {tp : Addr} (hS : SA L ((tp, .tup [.ty "list", .ty "tuple"]) :: M) H) (h : Dp K H v d) (q : Q (.bl (kList d || kTuple d)) H) : rIsiT K [v, .ref tp] H Q := by
  have e1 : kitB (tyN d) "list" = some (kList d) := by cases d <;> (dsimp only [tyN, kList]; decide +kernel)
  have e2 : kitB (tyN d) "tuple" = some (kTuple d) := by cases d <;> (dsimp only [tyN, kTuple]; decide +kernel)
  refine ⟨v, tp, [.ty "list", .ty "tuple"], .type (tyN d), [.type "list", .type "tuple"], kList d || kTuple d, rfl, hS.at List.mem_cons_self, .cons (.ty _) (.cons (.ty _) .nil), ty_of h, ?_, q⟩
  refine kitAny_cons (kit_ty e1) (fun hb => ?_) (fun hb => by rw [hb]; rfl)
  rw [hb, Bool.false_or]
  refine kitAny_cons (kit_ty e2) (fun hb => ?_) (fun hb => hb)
  rw [hb]
  rfl
/-- v[i] of a list or a tuple -/
theorem st_ixD {i : Int} {n : Nat} (h : Dp K H v (.list ds)) (hi : i = (n : Int)) (hl : n < ds.length) (q : ∀ x d, ds[n]? = some d → Dp K H x d → Q x H) : rIx K v (.int i) H Q := by
  obtain ⟨a, xs, rfl, h1, h2⟩ := dp_list h
  have hlx : n < xs.length := by rw [dpa_len h2]; exact hl
  have hx : xs[n]? = some xs[n] := List.getElem?_eq_getElem hlx
  obtain ⟨d, e, h3⟩ := dpa_get h2 hx
  subst hi
  exact .inl ⟨a, xs, (n : Int), _, rfl, rfl, h1, atI_nat hx, q _ d e h3⟩
theorem st_ixU {i : Int} {n : Nat} (h : Dp K H v (.tuple ds)) (hi : i = (n : Int)) (hl : n < ds.length) (q : ∀ x d, ds[n]? = some d → Dp K H x d → Q x H) : rIx K v (.int i) H Q := by
  obtain ⟨a, xs, rfl, h1, h2⟩ := dp_tuple h
  have hlx : n < xs.length := by rw [dpa_len h2]; exact hl
  have hx : xs[n]? = some xs[n] := List.getElem?_eq_getElem hlx
  obtain ⟨d, e, h3⟩ := dpa_get h2 hx
  subst hi
  exact .inr (.inl ⟨a, xs, (n : Int), _, rfl, rfl, h1, atI_nat hx, q _ d e h3⟩)
theorem st_lenD (h : Dp K H v (.list ds)) (q : Q (.int (ds.length : Int)) H) : rLen K [v] H Q := by
  obtain ⟨a, xs, rfl, h1, h2⟩ := dp_list h
  rw [← dpa_len h2] at q
  exact ⟨_, _, rfl, .inl ⟨xs, h1, rfl⟩, q⟩
theorem st_lenU (h : Dp K H v (.tuple ds)) (q : Q (.int (ds.length : Int)) H) : rLen K [v] H Q := by
  obtain ⟨a, xs, rfl, h1, h2⟩ := dp_tuple h
  rw [← dpa_len h2] at q
  exact ⟨_, _, rfl, .inr ⟨xs, h1, rfl⟩, q⟩
theorem st_iZipA {R : It → Hp → Prop} (q : tr σ H fun vs H1 => ∃ a b xs ys, vs = [.ref a, .ref b] ∧ ((SqL K H1 a xs ∧ SqL K H1 b ys ∧ R (Itz K a b) H1) ∨ (SqT K H1 a xs ∧ SqT K H1 b ys ∧ R (ItzT K a b) H1))) : iZipA K tr σ H R := q
theorem st_zAL {g : TG} (hS : SA L M H) (h : At L M (fQ K a xs)) (h2 : At L M (fQ K b ys)) (q : Lp (Itz K a b) g ts D σ H) : ∃ a' b' xs ys, [V.ref a, V.ref b] = [.ref a', .ref b'] ∧ ((SqL K H a' xs ∧ SqL K H b' ys ∧ Lp (Itz K a' b') g ts D σ H) ∨ (SqT K H a' xs ∧ SqT K H b' ys ∧ Lp (ItzT K a' b') g ts D σ H)) :=
  ⟨a, b, xs, ys, rfl, .inl ⟨h H hS, h2 H hS, q⟩⟩
theorem st_zAT {g : TG} (hS : SA L M H) (h : At L M (fT K a xs)) (h2 : At L M (fT K b ys)) (q : Lp (ItzT K a b) g ts D σ H) : ∃ a' b' xs ys, [V.ref a, V.ref b] = [.ref a', .ref b'] ∧ ((SqL K H a' xs ∧ SqL K H b' ys ∧ Lp (Itz K a' b') g ts D σ H) ∨ (SqT K H a' xs ∧ SqT K H b' ys ∧ Lp (ItzT K a' b') g ts D σ H)) :=
  ⟨a, b, xs, ys, rfl, .inr ⟨h H hS, h2 H hS, q⟩⟩
variable {γ : Type} (s : Nat → γ → L2.St) (Lf : Nat → γ → List Fc) (Mf : Nat → γ → List Cell) (pr : Nat → γ → Prop)
/-- for x, y in zip(xs, ys), two tuples of one length -/
theorem lp_zipT {j k : Nat} (hn : xs.length = ys.length) (h0 : Iv s Lf Mf pr 0 σ H) (hG : ∀ (i : Nat) (g : γ), pr i g → At (Lf i g) (Mf i g) (fT K a xs)) (hG2 : ∀ (i : Nat) (g : γ), pr i g → At (Lf i g) (Mf i g) (fT K b ys))
    (hs : ∀ (i : Nat) (x y : V) (g : γ) (H : Hp), xs[i]? = some x → ys[i]? = some y → pr i g → SA (Lf i g) (Mf i g) H → ts { D with nx := Iv s Lf Mf pr (i + 1), ct := Iv s Lf Mf pr (i + 1), bk := D.nx } (((s i g).set j (some x)).set k (some y)) H)
    (hd : ∀ (g : γ) (H : Hp), pr xs.length g → SA (Lf xs.length g) (Mf xs.length g) H → D.nx (s xs.length g) H) : Lp (ItzT K a b) (gTup K 2 (gCons (gName j) (gCons (gName k) gNil))) ts D σ H :=
  for_zipT hn (Iv s Lf Mf pr) h0 (fun i σ H hp => by
    obtain ⟨g, rfl, h1, h2⟩ := hp
    exact ⟨hG i g h1 H h2, hG2 i g h1 H h2⟩) (fun i x y T σ H e1 e2 hp hT => by
    obtain ⟨g, rfl, h1, h2⟩ := hp
    refine ⟨T, [x, y], rfl, SqT.of upd_same, rfl, _, _, rfl, _, _, rfl, rfl, ?_⟩
    exact hs i x y g _ e1 e2 h1 (h2.ign hT)) (fun σ H hp => by
    obtain ⟨g, rfl, h1, h2⟩ := hp
    exact hd g H h1 h2)
end
theorem depth_bool {b : Bool} {n : Nat} : (PyData.bool b).depth < n + 1 := Nat.succ_pos n
theorem depth_int {b : Int} {n : Nat} : (PyData.int b).depth < n + 1 := Nat.succ_pos n
theorem depth_none {n : Nat} : PyData.none.depth < n + 1 := Nat.succ_pos n
theorem depth_ints {ns : List Int} {n : Nat} : (PyData.list (ns.map PyData.int)).depth < n + 2 := by
  show PyData.depthAll (ns.map PyData.int) + 1 < n + 2
  rw [depthAll_ints]
  omega
theorem fn_none {P : Program} {w : World} {K : PySem.W.Frag} {mg : Str → Option Value} {base : Heap} {CX : CXT} {k : Nat} {f : Addr} {fd : FuncData} {ps : List Str} {sp : Sp} (no : ∀ vs H Q E, ¬ sp vs H Q E) : FnOk P w K mg base CX k f fd ps sp :=
  ⟨fun vs H Q E h => absurd h (no vs H Q E), fun A outer s H args us vs Q E _ _ _ _ h => absurd h (no vs H Q E)⟩
/-- data without dicts are one if they are alike in kind and content -/
def dEq (d e : PyData) : Prop := d = e
end Sa

namespace Sa
open PySem PySem.Spec PyProof.Rows L2
/-! ### dicts whose keys are numbers -/
/-- what a dict has at a number -/
def dv (kvs : List (Key × V)) (n : Int) : Option V := valV kvs (Sum.inl n : Key)
def dput (kvs : List (Key × V)) (n : Int) (v : V) : List (Key × V) := putK kvs (Sum.inl n : Key) v
theorem dv_put (kvs : List (Key × V)) (n m : Int) (v : V) : dv (dput kvs n v) m = if m = n then some v else dv kvs m := by
  unfold dv dput
  rw [valV_put]
  by_cases h : m = n
  · rw [if_pos h, if_pos (by rw [h])]
  · rw [if_neg h, if_neg (fun e => h (Sum.inl.inj e))]
theorem dv_nil (n : Int) : dv [] n = none := rfl
theorem dput_len (kvs : List (Key × V)) (n : Int) (v : V) : (dput kvs n v).length ≤ kvs.length + 1 := length_putK kvs _ v
def DNi (y x : V) (H : Hp) (Q : VK) : Prop := ∃ a o, x = .ref a ∧ DGet H a y o ∧ Q (.bl (!o.isSome)) H
def DIi (y x : V) (H : Hp) (Q : VK) : Prop := ∃ a o, x = .ref a ∧ DGet H a y o ∧ Q (.bl o.isSome) H
def DGt (x y : V) (H : Hp) (Q : VK) : Prop := ∃ a v, x = .ref a ∧ DGet H a y (some v) ∧ Q v H
def DG1 (td ty : TE) (x : V) (σ : L2.St) (H1 : Hp) (Q : VK) : Prop := ∃ a, x = .ref a ∧ IsD H1 a ∧ ty σ H1 fun y H2 => ∃ o, DGet H2 a y o ∧ Q (o.getD .non) H2
def DG2b (a : Addr) (y z : V) (H : Hp) (Q : VK) : Prop := ∃ o, DGet H a y o ∧ Q (o.getD z) H
def DG2a (ty tx : TE) (σ : L2.St) (x : V) (H1 : Hp) (Q : VK) : Prop := ∃ a, x = .ref a ∧ IsD H1 a ∧ ty σ H1 fun y H2 => tx σ H2 fun z H3 => DG2b a y z H3 Q
def DPu (x y v : V) (H : Hp) (N : Hp → Prop) : Prop := ∃ a H4, x = .ref a ∧ DPut H a y v H4 ∧ N H4
def DDs (ps : List (V × V)) (p : Addr) (H2 : Hp) (Q : VK) : Prop := H2 p = some (.dK []) ∧ ∃ kvs : List (Key × V), ps = kvs.map (fun kv => (kV kv.1, kv.2)) ∧ kvs.length ≤ 15 ∧ Q (.ref p) (upd H2 p (.dK (mergeK [] kvs)))
section
variable {K : PySem.W.Frag} {L L' : List Fc} {M M' : List Cell} {H : Hp} {σ : L2.St} {Q : VK} {a p b : Addr} {xs ys : List V} {v x y z : V} {D : Ends} {te td ty tx tv : TE} {t : TT} {ts tu : TS} {tr : TA} {kvs : List (Key × V)} {n : Int} {N : Hp → Prop}
theorem st_dni (q : ty σ H fun y H1 => td σ H1 fun x H2 => DNi y x H2 Q) : tDNotIn ty td σ H Q := q
theorem st_dii (q : ty σ H fun y H1 => td σ H1 fun x H2 => DIi y x H2 Q) : tDIn ty td σ H Q := q
theorem st_dgt (q : td σ H fun x H1 => ty σ H1 fun y H2 => DGt x y H2 Q) : tDGet td ty σ H Q := q
theorem st_dg2 (q : td σ H fun x H1 => DG2a ty tx σ x H1 Q) : tDGet2 td ty tx σ H Q := q
theorem st_dput (q : tv σ H fun v H1 => td σ H1 fun x H2 => ty σ H2 fun y H3 => DPu x y v H3 fun H4 => D.nx σ H4) : sDPut td ty tv D σ H := q
theorem dget_n (h : At L M (fK p kvs)) (hS : SA L M H) : DGet H p (.int n) (dv kvs n) := DGet.k (k := Sum.inl n) (h H hS)
theorem st_DNi (hS : SA L M H) (h : At L M (fK p kvs)) (q : Q (.bl (!(dv kvs n).isSome)) H) : DNi (.int n) (.ref p) H Q := ⟨p, _, rfl, dget_n h hS, q⟩
theorem st_DIi (hS : SA L M H) (h : At L M (fK p kvs)) (q : Q (.bl (dv kvs n).isSome) H) : DIi (.int n) (.ref p) H Q := ⟨p, _, rfl, dget_n h hS, q⟩
theorem st_DGt (hS : SA L M H) (h : At L M (fK p kvs)) (e : dv kvs n = some v) (q : Q v H) : DGt (.ref p) (.int n) H Q := ⟨p, v, rfl, by rw [← e]; exact dget_n h hS, q⟩
theorem st_DG2a (hS : SA L M H) (h : At L M (fK p kvs)) (q : ty σ H fun y H2 => tx σ H2 fun z H3 => DG2b p y z H3 Q) : DG2a ty tx σ (.ref p) H Q := ⟨p, rfl, .inl ⟨kvs, .inl (h H hS)⟩, q⟩
theorem st_DG2b (hS : SA L M H) (h : At L M (fK p kvs)) (q : Q ((dv kvs n).getD z) H) : DG2b p (.int n) z H Q := ⟨_, dget_n h hS, q⟩
theorem st_DPu (hS : SA L M H) (d : Chg M p (.dK kvs) (.dK (dput kvs n v)) M') (hl : kvs.length < 100000) (q : ∀ H', SA L M' H' → N H') : DPu (.ref p) (.int n) v H N :=
  ⟨p, _, rfl, DPut.k (k := Sum.inl n) (hS.at d.mem) (Nat.lt_of_lt_of_le hl (by decide)), q _ (hS.set d)⟩
theorem st_dnew (hS : SA L M H) (q : ∀ p H', SA L ((p, .dK []) :: M) H' → Q (.ref p) H') : tDNewK σ H Q := fun p hp => q p _ (hS.newM hp)
/-- a display {k: v} of one pair -/
theorem st_disp1 {tk : TE} (hS : SA L M H) (q : ∀ p H', SA L ((p, .dK []) :: M) H' → tk σ H' fun x H1 => tv σ H1 fun y H2 => DDs [(x, y)] p H2 Q) : tDisp [(tk, tv)] σ H Q := fun p hp => q p _ (hS.newM hp)
theorem st_DDs1 (hS : SA L ((p, .dK []) :: M) H) (q : ∀ H', SA L ((p, .dK (dput [] n v)) :: M) H' → Q (.ref p) H') : DDs [(.int n, v)] p H Q :=
  ⟨hS.at List.mem_cons_self, [(Sum.inl n, v)], rfl, (show 1 ≤ 15 by decide), q _ (hS.set .hd)⟩
end
end Sa

namespace Sa
open PySem PySem.Spec PyProof.Rows L2
/-- lo, lo + 1, .., n of them -/
def rg (lo : Int) (n : Nat) : List Int := (List.range n).map fun i => lo + (i : Nat)
theorem rg_len (lo : Int) (n : Nat) : (rg lo n).length = n := by unfold rg; rw [List.length_map, List.length_range]
theorem rg_get {lo : Int} {n i : Nat} (h : i < n) : (rg lo n)[i]? = some (lo + (i : Nat)) := by
  unfold rg
  rw [List.getElem?_map, List.getElem?_range h]
  rfl
theorem rg_succ (lo : Int) (n : Nat) : rg lo (n + 1) = rg lo n ++ [lo + (n : Nat)] := by
  unfold rg
  rw [List.range_succ, List.map_append]
  rfl
theorem mem_rg {lo : Int} {n : Nat} {x : Int} : x ∈ rg lo n ↔ lo ≤ x ∧ x < lo + n := by
  unfold rg
  rw [List.mem_map]
  constructor
  · rintro ⟨i, hi, rfl⟩
    have := List.mem_range.mp hi
    omega
  · intro h
    exact ⟨(x - lo).toNat, List.mem_range.mpr (by omega), by omega⟩
section
variable {K : PySem.W.Frag} {L L' : List Fc} {M M' : List Cell} {H : Hp} {σ : L2.St} {Q : VK} {a p b : Addr} {xs ys : List V} {v x y z : V} {D : Ends} {ta tb te td ty tx tv : TE} {t : TT} {ts tu : TS} {tr : TA} {ns ms : List Int} {N : Hp → Prop}
theorem rgV_rg (i j : Int) : rgV i j = (rg i (j - i).toNat).map V.int := by
  unfold rgV rg
  rw [List.map_map]
  rfl
/-- list(range(..)) -/
def LRg (i j : Int) (H : Hp) (Q : VK) : Prop := RgOk i j ∧ ∀ q, H q = none → Q (.ref q) (upd H q (.lst (rgV i j)))
theorem st_lr1 (q : ta σ H fun x H1 => ∃ n, x = .int n ∧ LRg 0 n H1 Q) : tLstRg (tRg1 ta) σ H Q := q
theorem st_lr2 (q : ta σ H fun x H1 => tb σ H1 fun y H2 => ∃ i j, x = .int i ∧ y = .int j ∧ LRg i j H2 Q) : tLstRg (tRg2 ta tb) σ H Q := q
theorem st_lr2b {i j : Int} (q : LRg i j H Q) : ∃ i' j', V.int i = .int i' ∧ V.int j = .int j' ∧ LRg i' j' H Q := ⟨i, j, rfl, rfl, q⟩
theorem st_LRg {i j : Int} (hS : SA L M H) (h0 : -100000 ≤ i) (h1 : j ≤ 100000) (h2 : i ≤ 100000) (h3 : -100000 ≤ j) (q : ∀ p H', SA L ((p, .lst ((rg i (j - i).toNat).map V.int)) :: M) H' → Q (.ref p) H') : LRg i j H Q :=
  ⟨⟨by omega, by omega, by omega, by omega, by omega⟩, fun p hp => by
    rw [rgV_rg]
    exact q p _ (hS.newM hp)⟩
/-- x in xs -/
theorem flat_ints : ∀ ns : List Int, (ns.map V.int).all flatV = true
  | [] => rfl
  | n :: ns => by
    rw [List.map_cons, List.all_cons, flat_ints ns]
    rfl
theorem inV_ints (n : Int) : ∀ ns : List Int, inV (.int n) (ns.map V.int) = decide (n ∈ ns)
  | [] => rfl
  | m :: ns => by
    have ih := inV_ints n ns
    unfold inV at ih ⊢
    rw [List.map_cons, List.any_cons, ih]
    have e : eqV (.int m) (.int n) = decide (n = m) := by
      show (m == n) = decide (n = m)
      by_cases h : n = m
      · rw [h]; simp
      · have h2 : ¬ m = n := fun e => h e.symm
        simp [h, h2]
    rw [e]
    by_cases h : n = m
    · simp [h]
    · simp [h]
theorem st_in {n : Int} (hS : SA L M H) (h : At L M (fQ K a (ns.map V.int))) (q : Q (.bl (decide (n ∈ ns))) H) : rIn K false (.int n) (.ref a) H Q :=
  ⟨a, _, rfl, .inl (h H hS), rfl, flat_ints ns, by
    rw [inV_ints]
    exact q⟩
theorem st_notIn {n : Int} (hS : SA L M H) (h : At L M (fQ K a (ns.map V.int))) (q : Q (.bl (!decide (n ∈ ns))) H) : rIn K true (.int n) (.ref a) H Q :=
  ⟨a, _, rfl, .inl (h H hS), rfl, flat_ints ns, by
    rw [inV_ints]
    exact q⟩
/-! ### comprehensions of numbers over numbers -/
theorem lcI_turn {Dl : Addr} {σ2 : L2.St} {P : Int → Bool} {F : Int → Int} {is : List Int} {i : Nat} {n : Int} (hi : is[i]? = some n) (hl : is.length < 50000) (hS : SA L ((Dl, .lst ((((is.take i).filter P).map F).map V.int)) :: M) H)
    (ht : EvT t σ2 L ((Dl, .lst ((((is.take i).filter P).map F).map V.int)) :: M) (P n)) (he : P n = true → EvV te σ2 L ((Dl, .lst ((((is.take i).filter P).map F).map V.int)) :: M) (.int (F n))) :
    t σ2 H fun b H3 => if b = true then te σ2 H3 fun y H4 => ∃ acc, H4 Dl = some (.lst acc) ∧ acc.length < sizeLine ∧ SA L ((Dl, .lst ((((is.take (i + 1)).filter P).map F).map V.int)) :: M) (upd H4 Dl (.lst (acc ++ [y]))) else SA L ((Dl, .lst ((((is.take (i + 1)).filter P).map F).map V.int)) :: M) H3 := by
  refine ht H hS _ fun H3 hS3 => ?_
  have e1 : is.take (i + 1) = is.take i ++ [n] := take_at hi
  cases hf : P n with
  | true =>
    refine if_t ?_
    refine he hf H3 hS3 _ fun H4 hS4 => ⟨_, hS4.at List.mem_cons_self, ?_, ?_⟩
    · rw [List.length_map, List.length_map]
      have h1 := List.length_filter_le P (is.take i)
      rw [List.length_take] at h1
      exact Nat.lt_of_le_of_lt h1 (Nat.lt_of_le_of_lt (Nat.min_le_right _ _) (Nat.lt_of_lt_of_le hl (by decide)))
    · have e2 : (((is.take i).filter P).map F).map V.int ++ [V.int (F n)] = (((is.take (i + 1)).filter P).map F).map V.int := by
        rw [e1, List.filter_append, List.filter_cons, if_pos hf, List.map_append, List.map_append]
        rfl
      rw [e2]
      exact hS4.set .hd
  | false =>
    refine if_f ?_
    have e2 : (is.take (i + 1)).filter P = (is.take i).filter P := by
      rw [e1, List.filter_append, List.filter_cons, if_neg (by rw [hf]; decide)]
      simp
    rw [e2]
    exact hS3
/-- [F n for n in xs if P n] -/
theorem lcI_list {j : Nat} {vs : List Nat} (P : Int → Bool) (F : Int → Int) (hS : SA L M H) (hx : At L M (fQ K a (ns.map V.int))) (hn : ns.length < 50000) (hw : ∀ x, wipe ((wipe σ vs).set j (some x)) vs = wipe σ vs)
    (ht : ∀ (n : Int) (Dl : Addr) acc, n ∈ ns → EvT t ((wipe σ vs).set j (some (.int n))) L ((Dl, .lst acc) :: M) (P n))
    (he : ∀ (n : Int) (Dl : Addr) acc, n ∈ ns → P n = true → EvV te ((wipe σ vs).set j (some (.int n))) L ((Dl, .lst acc) :: M) (.int (F n)))
    (q : ∀ Dl H', SA L ((Dl, .lst (((ns.filter P).map F).map V.int)) :: M) H' → Q (.ref Dl) H') : Lc (Itl K a) (gName j) t te vs σ Q H := fun Dl hD =>
  lc_it (walk_list (xs := ns.map V.int)) (fun i H => SA L ((Dl, .lst ((((ns.take i).filter P).map F).map V.int)) :: M) H) (hS.newM hD) (fun i H _ hp => hx H hp.dropM) (fun i x H H' hi hp hy => by
    obtain ⟨rfl, hx⟩ := hy
    obtain ⟨n, hn2, rfl⟩ := ints_at hx
    have hm := List.mem_of_getElem? hn2
    exact ⟨hw _, lcI_turn hn2 hn hp (ht n Dl _ hm) (he n Dl _ hm)⟩) (fun H' hp => q Dl H' (by
    rw [List.length_map, List.take_length] at hp
    exact hp))
/-- [F n for n in range(lo, ..) if P n] -/
theorem lcI_rng {lo : Int} {m j : Nat} {vs : List Nat} (P : Int → Bool) (F : Int → Int) (hS : SA L M H) (hn : m < 50000) (hw : ∀ x, wipe ((wipe σ vs).set j (some x)) vs = wipe σ vs)
    (ht : ∀ (n : Int) (Dl : Addr) acc, lo ≤ n → n < lo + m → EvT t ((wipe σ vs).set j (some (.int n))) L ((Dl, .lst acc) :: M) (P n))
    (he : ∀ (n : Int) (Dl : Addr) acc, lo ≤ n → n < lo + m → P n = true → EvV te ((wipe σ vs).set j (some (.int n))) L ((Dl, .lst acc) :: M) (.int (F n)))
    (q : ∀ Dl H', SA L ((Dl, .lst ((((rg lo m).filter P).map F).map V.int)) :: M) H' → Q (.ref Dl) H') : Lc (Itr lo m) (gName j) t te vs σ Q H := fun Dl hD =>
  lc_it (walk_range (lo := lo) (n := m)) (fun i H => SA L ((Dl, .lst (((((rg lo m).take i).filter P).map F).map V.int)) :: M) H) (hS.newM hD) (fun _ _ _ _ => trivial) (fun i x H H' hi hp hy => by
    obtain ⟨rfl, rfl⟩ := hy
    exact ⟨hw _, lcI_turn (rg_get hi) (by rw [rg_len]; exact hn) hp (ht _ Dl _ (by omega) (by omega)) (he _ Dl _ (by omega) (by omega))⟩) (fun H' hp => q Dl H' (by
    rw [List.take_of_length_le (by rw [rg_len]; exact Nat.le_refl _)] at hp
    exact hp))
theorem filt_true {α : Type} (l : List α) : l.filter (fun _ => true) = l := List.filter_eq_self.mpr (fun _ _ => rfl)
/-- data of a list of numbers -/
theorem At.dL (h : At L M (fL a (ns.map V.int))) : At L M (fD K (.ref a) (.list (ns.map PyData.int))) := fun H s => dp_ints (SqL.of (h H s))
end
theorem ints_inj {ns ms : List Int} (h : PyData.list (ns.map PyData.int) = PyData.list (ms.map PyData.int)) : ns = ms := by
  have h1 : ns.map PyData.int = ms.map PyData.int := PyData.list.inj h
  exact List.map_inj_right (fun a b e => PyData.int.inj e) |>.mp h1
end Sa
namespace Sa
open PySem PySem.Spec PyProof.Rows L2
/-! ### rules whose written part is told by name (within a comprehension) -/
section
variable {X : Cx} {K : PySem.W.Frag}
theorem ix_listK (h : X.K = K) : IxR X (rIxL K) := by subst h; exact ix_list
theorem ix_seqK (h : X.K = K) : IxR X (rIx K) := by subst h; exact ix_seq
theorem ix_tupK (h : X.K = K) : IxR X (rIxT K) := by subst h; exact ix_tup
theorem call_lenK (h : X.K = K) : CallR X (.builtin "len") (rLen K) := by subst h; exact call_len
theorem call_list_ofK (h : X.K = K) : CallR X (.type "list") (rListOf K) := by subst h; exact call_list_of
theorem op_in_seqK (h : X.K = K) : OpR X (compareOp .In) (rIn K false) := by subst h; exact op_in_seq
theorem op_notIn_seqK (h : X.K = K) : OpR X (compareOp .NotIn) (rIn K true) := by subst h; exact op_notIn_seq
theorem cr_maxK (hc : X.calm = true) (h : X.K = K) : CallR X (.builtin "max") (rMax K) := by subst h; exact cr_max hc
theorem cr_minK (hc : X.calm = true) (h : X.K = K) : CallR X (.builtin "min") (rMin K) := by subst h; exact cr_min hc
theorem cr_sumK (hc : X.calm = true) (h : X.K = K) : CallR X (.builtin "sum") (rSum K) := by subst h; exact cr_sum hc
theorem op_eqDK (hu : X.A.units + 64 < cLine) (h : X.K = K) : OpR X (compareOp .Eq) (rEqD K) := by subst h; exact op_eqD hu
theorem op_neDK (hu : X.A.units + 64 < cLine) (h : X.K = K) : OpR X (compareOp .NotEq) (rNeD K) := by subst h; exact op_neD hu
theorem call_isiK (h : X.K = K) : CallR X (.builtin "isinstance") (rIsi K) := by subst h; exact call_isi
theorem call_isiTK (h : X.K = K) : CallR X (.builtin "isinstance") (rIsiT K) := by subst h; exact call_isiT
theorem sl_listK (h : X.K = K) : SlR X (rSlL K) := by subst h; exact sl_list
theorem pg_tupK {es : List Expr} {k : Nat} {t : TGs} {n : Nat} {pos : Pos} (hK : X.K = K) (hc : X.calm = true) (h : PGs X es t) (hn : (assignEach es X.env).length = n) (hst : (assignEach es X.env).findIdx? (·.1) = none := by rfl) : PG X (.Tuple es k pos) (gTup K n t) := by
  subst hK
  subst hn
  exact pg_tup hc h rfl hst
end
end Sa

namespace Sa
open PySem PySem.Spec PyProof.Rows L2 HT PyProof
/-! ### xs[a:] = ys -/
theorem bounds_from {a n : Nat} (ha : a ≤ n) : sliceBounds (some (a : Int)) none none n = ((a : Int), (n : Int), 1) := by
  simp only [sliceBounds, Option.getD_none]
  have h1 : ¬ ((a : Int) < 0) := by omega
  simp only [h1, if_false, show (1 : Int) > 0 by decide, if_true]
  congr 1
  omega
theorem setItem_from {prog : Program} {w : World} {A : Around} {E : Value → Shared → Prop} {s : Shared} {l b sl : Addr} {items new : Array Value} {n n2 : Nat} {vl : Value} {a : Nat} {Q : Unit → Shared → Prop}
    (e : s.heap.get? l = some { cls := .type "list", data := .seq items n }) (e2 : s.heap.get? b = some { cls := .type "list", data := .seq new n2 }) (hne : l ≠ b)
    (hs : s.heap.IsSliceOf sl vl .none .none) (pl : IsPart vl (some (a : Int))) (ha : a ≤ items.size)
    (hsz : items.size + new.size ≤ sizeLine) (h : Q () { s with heap := s.heap.update l (Obj.mapSeq fun xs => xs.extract 0 a ++ new ++ xs.extract items.size xs.size) }) :
    wpAny (model prog w) A (setItem (.ref l) (.ref sl) (.ref b)) Q E s := by
  have hl : s.heap.IsList l items := PySem.IsL.isList e
  have hb : s.heap.IsList b new := PySem.IsL.isList e2
  obtain ⟨os, hos, hcs, hds⟩ := id hs
  have hTs : s.TypeIs (.ref sl) "slice" := ⟨os, hos, hcs⟩
  have hstep : ¬ ((rawPart none == rawInt 0) = true) := Bool.false_ne_true
  have hsame : Builtin.List.listSameRef (.ref l) (.ref b) = false := by
    unfold Builtin.List.listSameRef
    exact beq_eq_false_iff_ne.mpr hne
  have hmax : (max (a : Int) (items.size : Int)).toNat = items.size := by omega
  have hz' : ((fun xs : Array Value => xs.extract 0 a ++ new ++ xs.extract items.size xs.size) items).size ≤ sizeLine + 1 := by
    simp only [Array.size_append, Array.size_extract]
    omega
  unfold setItem
  try with_reducible refine wpAny_holding ?_
  first | refine wpAny_bind (wpAny_pure ?_) | skip
  refine wpAny_bind (wpAny_sequenceKey hl.typeIs (by decide) ?_)
  refine wpAny_bind (wpAny_callSpecial?_slot (name := Str.ofString "__setitem__") hl.typeIs slot_list_setitem
    (wpAny_call_entry slot_list_setitem hl.typeIs entry_list_setitem ?_ (args_list_setitem _ _ _)))
  show wpAny _ _ (Builtin.List.listSubscript? (.ref sl) >>= _) _ _ s
  refine wpAny_bind ?_
  unfold Builtin.List.listSubscript?
  refine wpAny_bind (wpAny_specialOf hTs slice_no_index ?_)
  simp only [Option.isNone_none, if_true]
  refine wpAny_pure ?_
  show wpAny _ _ (typeOf (.ref sl) >>= _) _ _ s
  refine wpAny_bind (wpAny_typeOf hTs ?_)
  first
    | rw [if_neg (by decide)]
    | refine PySem.W.KFB.if_not (by decide) ?_
  rw [listSliceParts_eq]
  refine wpAny_bind (wpAny_bind (wpAny_field hos hds (x := .none) rfl (wpAny_bind (wpAny_listPart .none ?_))))
  rw [if_neg hstep]
  refine wpAny_bind (wpAny_field hos hds (x := vl) rfl (wpAny_bind (wpAny_listPart pl ?_)))
  refine wpAny_bind (wpAny_field hos hds (x := .none) rfl (wpAny_bind (wpAny_listPart .none (wpAny_pure ?_))))
  first
    | simp only [hsame, Bool.false_eq_true, if_false]
    | refine PySem.W.KFB.if_not hsame ?_
    | (dsimp only
       rw [if_neg (by rw [hsame]; exact Bool.false_ne_true)])
  refine wpAny_bind (m := Builtin.List.listAllItems (.ref b) "must assign iterable to extended slice") ?_
  unfold Builtin.List.listAllItems
  refine wpAny_bind (wpAny_typeOf hb.typeIs ?_)
  first
    | refine PySem.W.KFB.if_so (by decide) ?_
    | rw [if_pos (by decide)]
    | simp only [beq_self_eq_true, Bool.true_or, if_true]
  unfold Builtin.List.listItems
  refine wpAny_bind (wpAny_seqItems e2 rfl (wpAny_pure ?_))
  refine wpAny_bind (wpAny_bind (wpAny_seqItems e rfl (wpAny_pure ?_)))
  refine wpAny_bind (wpAny_of_eq ((sliceIndices_raw (some (a : Int)) none none items.size (by simp)).trans (congrArg (pure : Int × Int × Int → Sem (Int × Int × Int)) (bounds_from ha))) ?_)
  show wpAny _ _ (if ((1 : Int) == 1) = true then _ else _) _ _ s
  rw [if_pos (by decide)]
  refine wpAny_bind (wpAny_rule ?_)
  first
    | simp only [notLongL hsz, Bool.false_eq_true, if_false]
    | refine PySem.W.KFB.if_not (notLongL hsz) ?_
  first | refine wpAny_bind (wpAny_pure ?_) | skip
  show wpAny _ _ (updateSeq l (fun xs => xs.extract 0 ((a : Int)).toNat ++ new ++ xs.extract (max (a : Int) (items.size : Int)).toNat xs.size) >>= _) _ _ s
  rw [hmax, Int.toNat_natCast]
  refine wpAny_bind (wpAny_updateSeq (hz := Nat.le_trans (Nat.le_add_right _ _) hsz) (_hz' := hz') e rfl ?_)
  refine wpAny_bind (wpAny_letGo ?_)
  first
    | exact wpAny_bind (wpAny_pure (wpAny_pure ⟨.none, rfl, wpAny_pure h⟩))
    | exact wpAny_pure ⟨.none, rfl, wpAny_pure h⟩
theorem splice_from (its ys : List Value) (a : Nat) (ha : a ≤ its.length) : (its.toArray.extract 0 a ++ ys.toArray ++ its.toArray.extract its.toArray.size its.toArray.size) = (its.take a ++ ys).toArray := by
  have h := splice_eq its ys a its.length
  rw [List.size_toArray] at h ⊢
  rw [h, List.drop_length, List.append_nil]
def SetFrom (o i v : V) (H : Hp) (N : Hp → Prop) : Prop := ∃ l b a xs ys, o = .ref l ∧ i = .int a ∧ v = .ref b ∧ H l = some (.lst xs) ∧ H b = some (.lst ys) ∧ l ≠ b ∧ 0 ≤ a ∧ a ≤ xs.length ∧ xs.length + ys.length ≤ sizeLine ∧ N (upd H l (.lst (xs.take a.toNat ++ ys)))
theorem set_from {X : Cx} {pins : List (Addr × Obj)} {s : Shared} {σ : L2.St} {H : Hp} {l b sl : Addr} {xs ys : List V} {a : Int} {vl : Value} {Q : Unit → Shared → Prop} (I : Inv X pins σ H s)
    (hH : H l = some (.lst xs)) (hB : H b = some (.lst ys)) (hne : l ≠ b) (hs : s.heap.IsSliceOf sl vl .none .none) (ra : RelV (.int a) vl) (h0 : 0 ≤ a) (hac : a ≤ xs.length)
    (hz : xs.length + ys.length ≤ sizeLine) (h : ∀ s', Inv X pins σ (upd H l (.lst (xs.take a.toNat ++ ys))) s' → Q () s') :
    wpAny (model X.prog X.w) X.A (setItem (.ref l) (.ref sl) (.ref b)) Q X.xe s := by
  obtain ⟨ta, rfl⟩ := ra
  obtain ⟨z, its, n, r, hl, e⟩ := I.lstM hH
  obtain ⟨z2, its2, n2, r2, hl2, e2⟩ := I.lstM hB
  obtain ⟨a', rfl⟩ := Int.eq_ofNat_of_zero_le h0
  simp only [Int.toNat_natCast] at h
  refine setItem_from (a := a') e e2 hne hs (.int _ _) (by rw [List.size_toArray]; omega) (by rw [List.size_toArray, List.size_toArray]; omega) (h _ ?_)
  refine I.lset (its' := its.take a' ++ its2) (t' := s.toks) hH e ?_ (Vals.append (r.take _) r2) ?_
  · exact splice_from its its2 a' (by omega)
  · rw [List.length_append, List.length_take]
    omega
/-- o[i:] = .. -/
def gFrom (to ti : TE) : TG := fun v σ H Q => to σ H fun o H1 => ti σ H1 fun i H2 => SetFrom o i v H2 fun H3 => Q σ H3
theorem pg_from {X : Cx} {o i : Expr} {to ti : TE} {p2 pos : Pos} (ho : PE X o to) (hi : PE X i ti)
    (ha : ∀ v, assign (.Subscript o (.Slice (some i) none none p2) pos) X.env v = (do
      let ov ← holding [v] (eval o X.env)
      let iv ← holding [v, ov] (eval (.Slice (some i) none none p2) X.env)
      standAt pos
      holding [v, ov, iv] (setItem ov iv v)
      release [iv, v, ov] []) := by intro _; rfl) : PG X (.Subscript o (.Slice (some i) none none p2) pos) (gFrom to ti) := by
  refine ⟨fun pins s σ H v u Q I r h => ?_⟩
  rw [ha]
  refine wpAny_bind (wpAny_holding (thn (ho.run pins s σ H _ I h) fun ov s1 ⟨x, H1, I1, r1, q1⟩ => ?_))
  refine wpAny_bind (wpAny_holding (wpAny_Slice ?_))
  rw [evalPart_some]
  refine thn (hi.run pins s1 σ H1 _ I1 q1) fun iv s2 ⟨y, H2, I2, r2, l, b, a, xs, ys, ex, ey, ev, hH, hB, hne, h0, h1, hz, q2⟩ => ?_
  subst ex ey ev
  rw [evalPart_none]
  refine wpAny_pure ?_
  refine wpAny_pure ?_
  have I4 : Inv X pins σ H2 { s2 with heap := s2.heap.push { cls := .type "slice", data := .fields #[iv, .none, .none] } } := I2.kept (t' := s2.toks) fun b ob q => Heap.get?_push_of_some _ q
  obtain rfl : ov = Value.ref l := r1
  obtain rfl : u = Value.ref b := r
  refine wpAny_bind (wpAny_standAt (wpAny_bind (wpAny_holding (set_from I4 hH hB hne (Heap.IsSliceOf.new ..) r2 h0 h1 hz fun s3 I3 => ?_))))
  exact wpAny_release ⟨σ, _, I3, q2⟩
theorem st_from {L : List Fc} {M M' : List Cell} {H : Hp} {l b : Addr} {a : Int} {ns ms : List Int} {N : Hp → Prop} (hS : SA L M H) (d : Chg M l (.lst (ns.map V.int)) (.lst ((ns.take a.toNat ++ ms).map V.int)) M') (hb : (b, .lst (ms.map V.int)) ∈ M) (hne : l ≠ b) (h0 : 0 ≤ a) (h1 : a ≤ ns.length)
    (hz : ns.length + ms.length ≤ 100000) (q : ∀ H', SA L M' H' → N H') : SetFrom (.ref l) (.int a) (.ref b) H N :=
  ⟨l, b, a, _, _, rfl, rfl, rfl, hS.at d.mem, hS.at hb, hne, h0, by rw [List.length_map]; exact h1, by rw [List.length_map, List.length_map]; exact Nat.le_trans hz (by decide), by
    rw [← List.map_take, ← List.map_append]
    exact q _ (hS.set d)⟩
theorem Del.mem1 {M M' : List Cell} {a : Addr} {o o' : HO} (d : Chg M a o o' M') : a ∈ M.map (·.1) := List.mem_map.mpr ⟨_, d.mem, rfl⟩
theorem st_gFrom {to ti : TE} {v : V} {σ : L2.St} {H : Hp} {N : L2.St → Hp → Prop} (q : to σ H fun o H1 => ti σ H1 fun i H2 => SetFrom o i v H2 fun H3 => N σ H3) : gFrom to ti v σ H N := q
/-- the list that is put in has just been made -/
theorem st_from1 {L : List Fc} {M M' : List Cell} {H : Hp} {l b : Addr} {a : Int} {ns ms : List Int} {N : Hp → Prop} (hS : SA L ((b, .lst (ms.map V.int)) :: M) H) (d : Chg M l (.lst (ns.map V.int)) (.lst ((ns.take a.toNat ++ ms).map V.int)) M') (h0 : 0 ≤ a) (h1 : a ≤ ns.length)
    (hz : ns.length + ms.length ≤ 100000) (q : ∀ H', SA L ((b, .lst (ms.map V.int)) :: M') H' → N H') : SetFrom (.ref l) (.int a) (.ref b) H N :=
  st_from hS (.tl d) List.mem_cons_self (fun e => by
    have h := hS.nd
    rw [List.map_cons] at h
    exact (List.nodup_cons.mp h).1 (e ▸ Del.mem1 d)) h0 h1 hz q
end Sa

namespace Sa
open PySem PySem.Spec PyProof.Rows L2
/-! ### methods of lists of numbers; d.setdefault -/
def FirstAt (l : List Int) (v : Int) (c : Nat) : Prop := l[c]? = some v ∧ ∀ m, m < c → l[m]? ≠ some v
theorem first_ex {v : Int} : ∀ {l : List Int}, v ∈ l → ∃ c, FirstAt l v c
  | x :: t, h => by
    by_cases hx : x = v
    · exact ⟨0, by rw [hx]; rfl, fun m hm => absurd hm (Nat.not_lt_zero _)⟩
    · have ht : v ∈ t := by
        rcases List.mem_cons.mp h with h2 | h2
        · exact absurd h2.symm hx
        · exact h2
      obtain ⟨c, h1, h2⟩ := first_ex ht
      refine ⟨c + 1, h1, fun m hm => ?_⟩
      cases m with
      | zero => exact fun e => hx (Option.some.inj e)
      | succ m => exact h2 m (by omega)
section
variable {K : PySem.W.Frag} {L L' : List Fc} {M M' : List Cell} {H : Hp} {σ : L2.St} {Q : VK} {a p b : Addr} {ns ms : List Int} {v x y z : V} {ty tx td ta : TE} {kvs : List (Key × V)} {n : Int}
theorem st_count (hS : SA L M H) (h : At L M (fQ K a (ns.map V.int))) (q : Q (.int ((ns.count n : Nat) : Int)) H) : rCntI K (.ref a) [.int n] H Q := ⟨a, ns, n, rfl, rfl, h H hS, q⟩
theorem st_index (hS : SA L M H) (h : At L M (fQ K a (ns.map V.int))) (hn : n ∈ ns) (q : ∀ j : Nat, FirstAt ns n j → Q (.int (j : Int)) H) : rIndex K (.ref a) [.int n] H Q := by
  obtain ⟨j, h1, h2⟩ := first_ex hn
  refine ⟨a, _, .int n, j, .int n, rfl, rfl, h H hS, rfl, flat_ints ns, by rw [List.getElem?_map, h1]; rfl, by show (n == n) = true; simp, fun m z hm hz => ?_, q j ⟨h1, h2⟩⟩
  rw [List.getElem?_map] at hz
  cases hc : ns[m]? with
  | none => rw [hc] at hz; cases hz
  | some c =>
    rw [hc] at hz
    cases hz
    show (c == n) = false
    have := h2 m hm
    rw [hc] at this
    simpa using fun e => this (by rw [e])
theorem st_bm0 {T : String} {rr : V → List V → Hp → VK → Prop} (q : ta σ H fun x H1 => tyV K T x H1 ∧ rr x [] H1 Q) : tBM0 K T rr ta σ H Q := q
theorem st_rev (hS : SA L M H) (d : Chg M p (.lst (ns.map V.int)) (.lst (ns.reverse.map V.int)) M') (q : ∀ H', SA L M' H' → Q .non H') : rReverse (.ref p) [] H Q :=
  ⟨p, _, rfl, rfl, hS.at d.mem, by rw [← List.map_reverse]; exact q _ (hS.set d)⟩
def DSb (a : Addr) (y z : V) (H3 : Hp) (Q : VK) : Prop := ∃ (kvs : List (Key × V)) (k : Key), H3 a = some (.dK kvs) ∧ y = kV k ∧ kvs.length < sizeLine ∧ (∀ v, valV kvs k = some v → Q v H3) ∧ (valV kvs k = none → Q z (upd H3 a (.dK (putK kvs k z))))
def DSa (ty tx : TE) (σ : L2.St) (x : V) (H1 : Hp) (Q : VK) : Prop := ∃ a, x = .ref a ∧ IsD H1 a ∧ ty σ H1 fun y H2 => tx σ H2 fun z H3 => DSb a y z H3 Q
theorem st_dsd (q : td σ H fun x H1 => DSa ty tx σ x H1 Q) : tDSetd td ty tx σ H Q := q
theorem st_DSa (hS : SA L M H) (h : At L M (fK p kvs)) (q : ty σ H fun y H2 => tx σ H2 fun z H3 => DSb p y z H3 Q) : DSa ty tx σ (.ref p) H Q := ⟨p, rfl, .inl ⟨kvs, .inl (h H hS)⟩, q⟩
theorem st_DSb (hS : SA L ((p, .dK kvs) :: M) H) (hl : kvs.length < 100000) (q : ∀ v kvs' H', (∀ m, dv kvs' m = if m = n then some ((dv kvs n).getD z) else dv kvs m) → kvs'.length ≤ kvs.length + 1 → SA L ((p, .dK kvs') :: M) H' → Q v H') : DSb p (.int n) z H Q := by
  refine ⟨kvs, Sum.inl n, hS.at List.mem_cons_self, rfl, Nat.lt_of_lt_of_le hl (by decide), fun v hv => ?_, fun hv => ?_⟩
  · refine q v kvs H (fun m => ?_) (Nat.le_succ _) hS
    have e : dv kvs n = some v := hv
    by_cases h : m = n
    · rw [if_pos h, h, e]
      rfl
    · rw [if_neg h]
  · refine q z (dput kvs n z) _ (fun m => ?_) (dput_len kvs n z) (hS.set .hd)
    have e : dv kvs n = none := hv
    rw [dv_put, e]
    rfl
end
end Sa

namespace Sa
open PySem PySem.Spec PyProof.Rows L2
/-! ### cells in groups; facts by their place -/
theorem SA.append1 {L : List Fc} {M : List Cell} {H : Hp} : ∀ {B : List Cell}, SA L (B ++ M) H → SA L M H
  | [], h => h
  | _ :: _, h => SA.append1 h.dropM
theorem Chg.app {M M' : List Cell} {a : Addr} {o o' : HO} (h : Chg M a o o' M') : ∀ {B : List Cell}, Chg (B ++ M) a o o' (B ++ M')
  | [] => h
  | _ :: _ => .tl (Chg.app h)
theorem Del.app {M M' : List Cell} {a : Addr} {o : HO} (h : Del M a o M') : ∀ {B : List Cell}, Del (B ++ M) a o (B ++ M')
  | [] => h
  | _ :: _ => .tl (Del.app h)
theorem At.ap {L : List Fc} {M : List Cell} {f : Fc} {B : List Cell} (h : At L M f) : At L (B ++ M) f := fun H s => h H s.append1
/-- a group taken out -/
inductive Grp : List Cell → List Cell → List Cell → Prop
  | hd {B M : List Cell} : Grp (B ++ M) B M
  | tl {M B M' : List Cell} {c : Cell} : Grp M B M' → Grp (c :: M) B (c :: M')
  | ap {M B M' A : List Cell} : Grp M B M' → Grp (A ++ M) B (A ++ M')
theorem Grp.perm {M B M' : List Cell} (h : Grp M B M') : M.Perm (B ++ M') := by
  induction h with
  | hd => exact List.Perm.refl _
  | tl _ ih => exact (List.Perm.cons _ ih).trans List.perm_middle.symm
  | @ap M B M' A _ ih =>
    refine (List.Perm.append_left A ih).trans ?_
    rw [← List.append_assoc, ← List.append_assoc]
    exact List.Perm.append_right _ List.perm_append_comm
theorem SA.grp {L : List Fc} {M B M' : List Cell} {H : Hp} (h : SA L M H) (g : Grp M B M') : SA L (B ++ M') H := h.perm g.perm
theorem SA.ungrp {L : List Fc} {M B M' : List Cell} {H : Hp} (h : SA L (B ++ M') H) (g : Grp M B M') : SA L M H := h.perm g.perm.symm
/-- a fact is among them -/
inductive In1 (f : Fc) : List Fc → Prop
  | hd {L : List Fc} : In1 f (f :: L)
  | tl {L : List Fc} {g : Fc} : In1 f L → In1 f (g :: L)
theorem In1.mem {f : Fc} {L : List Fc} (h : In1 f L) : f ∈ L := by
  induction h with
  | hd => exact List.mem_cons_self
  | tl _ ih => exact List.mem_cons_of_mem _ ih
theorem In1.at {f : Fc} {L : List Fc} {M : List Cell} (h : In1 f L) : At L M f := At.mem h.mem
inductive Sub : List Fc → List Fc → Prop
  | nil {L : List Fc} : Sub [] L
  | rest {L : List Fc} : Sub L L
  | cons {L L' : List Fc} {f : Fc} : In1 f L → Sub L' L → Sub (f :: L') L
  | tl {L L' : List Fc} {f : Fc} : Sub L' L → Sub L' (f :: L)
theorem Sub.mem {L L' : List Fc} (h : Sub L' L) : ∀ f ∈ L', f ∈ L := by
  induction h with
  | nil => exact fun f h => nomatch h
  | rest => exact fun f h => h
  | cons h1 _ ih =>
    intro f hf
    rcases List.mem_cons.mp hf with rfl | hf
    · exact h1.mem
    · exact ih f hf
  | tl _ ih => exact fun f hf => List.mem_cons_of_mem _ (ih f hf)
theorem SA.subs {L L' : List Fc} {M : List Cell} {H : Hp} (h : SA L M H) (q : Sub L' L) : SA L' M H := h.subL q.mem
inductive SubM : List Cell → List Cell → Prop
  | same {M : List Cell} : SubM M M
  | cons {M M1 M2 : List Cell} {a : Addr} {o : HO} : Del M a o M1 → SubM M2 M1 → SubM ((a, o) :: M2) M
  | grp {M M1 M2 B : List Cell} : Grp M B M1 → SubM M2 M1 → SubM (B ++ M2) M
  | skip {M M2 : List Cell} {c : Cell} : SubM M2 M → SubM M2 (c :: M)
  | skipB {M M2 B : List Cell} : SubM M2 M → SubM M2 (B ++ M)
theorem SubM.perm {M M2 : List Cell} (h : SubM M2 M) : ∃ R, M.Perm (M2 ++ R) := by
  induction h with
  | same => exact ⟨[], by rw [List.append_nil]⟩
  | cons d _ ih =>
    obtain ⟨R, hR⟩ := ih
    exact ⟨R, d.perm.trans (List.Perm.cons _ hR)⟩
  | @grp M M1 M2 B g _ ih =>
    obtain ⟨R, hR⟩ := ih
    refine ⟨R, g.perm.trans ?_⟩
    rw [List.append_assoc]
    exact List.Perm.append_left _ hR
  | skip _ ih =>
    obtain ⟨R, hR⟩ := ih
    exact ⟨_ :: R, (List.Perm.cons _ hR).trans List.perm_middle.symm⟩
  | @skipB M M2 B _ ih =>
    obtain ⟨R, hR⟩ := ih
    exact ⟨B ++ R, (List.Perm.append_left B hR).trans (List.perm_append_comm_assoc B M2 R)⟩
theorem SA.take {L L' : List Fc} {M M2 : List Cell} {H : Hp} (h : SA L M H) (q : Sub L' L) (p : SubM M2 M) : SA L' M2 H := by
  obtain ⟨R, hR⟩ := p.perm
  exact ((h.subs q).perm hR).front_of

/-! ### attributes -/
def fpos : List Str → Str → Option Nat
  | [], _ => none
  | n :: ns, f => if n = f then some 0 else (fpos ns f).map (· + 1)
def flds (ns : List Str) (vs : List V) : List (Str × V) := ns.zip vs
theorem flds_at : ∀ {ns : List Str} {vs : List V} {f : Str} {i : Nat} {v : V}, fpos ns f = some i → vs[i]? = some v → (flds ns vs).lookup f = some v
  | [], _, _, _, _, h, _ => by cases h
  | n :: ns, [], _, _, _, _, h => by simp at h
  | n :: ns, x :: vs, f, i, v, h, hv => by
    show List.lookup f ((n, x) :: flds ns vs) = some v
    by_cases e : n = f
    · have h' : (if n = f then some 0 else (fpos ns f).map (· + 1)) = some i := h
      rw [if_pos e] at h'
      cases h'
      have hb : (f == n) = true := beq_iff_eq.mpr e.symm
      simp only [List.lookup, hb]
      simpa using hv
    · have h' : (if n = f then some 0 else (fpos ns f).map (· + 1)) = some i := h
      rw [if_neg e] at h'
      obtain ⟨j, hj, rfl⟩ := Option.map_eq_some_iff.mp h'
      have hb : (f == n) = false := beq_eq_false_iff_ne.mpr (fun z => e z.symm)
      simp only [List.lookup, hb]
      exact flds_at hj (by simpa using hv)
theorem flds_no : ∀ {ns : List Str} {vs : List V} {f : Str}, fpos ns f = none → (flds ns vs).lookup f = none
  | [], _, _, _ => rfl
  | _ :: _, [], _, _ => rfl
  | n :: ns, x :: vs, f, h => by
    show List.lookup f ((n, x) :: flds ns vs) = none
    have h' : (if n = f then some 0 else (fpos ns f).map (· + 1)) = none := h
    by_cases e : n = f
    · rw [if_pos e] at h'
      cases h'
    · rw [if_neg e] at h'
      have hb : (f == n) = false := beq_eq_false_iff_ne.mpr (fun z => e z.symm)
      simp only [List.lookup, hb]
      exact flds_no (Option.map_eq_none_iff.mp h')
theorem flds_new : ∀ {ns : List Str} {vs : List V} {f : Str} {v : V}, fpos ns f = none → ns.length = vs.length → putF f v (flds ns vs) = flds (ns ++ [f]) (vs ++ [v])
  | [], [], _, _, _, _ => rfl
  | [], _ :: _, _, _, _, h => by simp at h
  | _ :: _, [], _, _, _, h => by simp at h
  | n :: ns, x :: vs, f, v, h, hl => by
    show putF f v ((n, x) :: flds ns vs) = (n, x) :: flds (ns ++ [f]) (vs ++ [v])
    have h' : (if n = f then some 0 else (fpos ns f).map (· + 1)) = none := h
    by_cases e : n = f
    · rw [if_pos e] at h'
      cases h'
    · rw [if_neg e] at h'
      show (if n = f then _ else (n, x) :: putF f v (flds ns vs)) = _
      rw [if_neg e, flds_new (Option.map_eq_none_iff.mp h') (by simpa using hl)]
def FldA (K : PySem.W.Frag) (f : Str) (x : V) (H1 : Hp) (Q : VK) : Prop := ∃ a C dx fs v, x = .ref a ∧ H1 a = some (.ins C dx fs) ∧ Cls K C ∧ NoAttr K C f ∧ fs.lookup f = some v ∧ Q v H1
def FldP (K : PySem.W.Frag) (f : Str) (x y : V) (H2 : Hp) (N : Hp → Prop) : Prop := ∃ a C dx fs, x = .ref a ∧ H2 a = some (.ins C dx fs) ∧ Cls K C ∧ NoAttr K C f ∧ fs.length < 1000 ∧ N (upd H2 a (.ins C dx (putF f y fs)))
def MethA (C : Addr) (m : Str) (x : V) (H1 : Hp) (N : Prop) : Prop := ∃ a dx fs, x = .ref a ∧ H1 a = some (.ins C dx fs) ∧ fs.lookup m = none ∧ N
section
variable {K : PySem.W.Frag} {L L' : List Fc} {M M' : List Cell} {H : Hp} {σ : L2.St} {Q : VK} {a p b C dx : Addr} {ns : List Str} {vs : List V} {f m : Str} {v x y : V} {D : Ends} {ta tv te td ty : TE} {tr : TA} {N : Hp → Prop} {sp : Sp} {dvs : List V} {E : XK}
theorem st_fld (q : ta σ H fun x H1 => FldA K f x H1 Q) : tFld K ta f σ H Q := q
theorem At.cellI {fs : List (Str × V)} (h : (a, HO.ins C dx fs) ∈ M) : At L M ⟨fun H => H a = some (.ins C dx fs), fun _ _ e h => e a _ h⟩ := fun H s => s.at h
def fI (a C dx : Addr) (fs : List (Str × V)) : Fc := ⟨fun H => H a = some (.ins C dx fs), fun _ _ e h => e a _ h⟩
theorem At.ins {fs : List (Str × V)} (h : (a, HO.ins C dx fs) ∈ M) : At L M (fI a C dx fs) := fun H s => s.at h
theorem st_FldA {i : Nat} (hS : SA L M H) (h : At L M (fI a C dx (flds ns vs))) (c : Cls K C) (n : NoAttr K C f) (hi : fpos ns f = some i) (hv : vs[i]? = some v) (q : Q v H) : FldA K f (.ref a) H Q := ⟨a, C, dx, _, v, rfl, h H hS, c, n, flds_at hi hv, q⟩
theorem st_sfld (q : tv σ H fun y H1 => ta σ H1 fun x H2 => FldP K f x y H2 fun H3 => D.nx σ H3) : sFld K ta tv f D σ H := by
  refine ?_
  show tv σ H fun y H1 => ta σ H1 fun x H2 => ∃ a C dx fs, x = .ref a ∧ H2 a = some (.ins C dx fs) ∧ Cls K C ∧ NoAttr K C f ∧ fs.length < 1000 ∧ D.nx σ (upd H2 a (.ins C dx (putF f y fs)))
  exact q
theorem st_FldN (hS : SA L M H) (d : Chg M a (.ins C dx (flds ns vs)) (.ins C dx (flds (ns ++ [f]) (vs ++ [y]))) M') (c : Cls K C) (n : NoAttr K C f) (hi : fpos ns f = none) (hl : ns.length = vs.length) (h9 : ns.length < 900) (q : ∀ H', SA L M' H' → N H') : FldP K f (.ref a) y H N :=
  ⟨a, C, dx, _, rfl, hS.at d.mem, c, n, by rw [flds, List.length_zip]; omega, by rw [flds_new hi hl]; exact q _ (hS.set d)⟩
theorem st_meth (q : ta σ H fun x H1 => MethA C m x H1 (tr σ H1 fun vs H2 => sp (x :: (vs ++ dvs)) H2 Q E)) : tMeth C m sp dvs E ta tr σ H Q := q
theorem st_MethA {N : Prop} (hS : SA L M H) (h : At L M (fI a C dx (flds ns vs))) (hi : fpos ns m = none) (q : N) : MethA C m (.ref a) H N := ⟨a, dx, _, rfl, h H hS, flds_no hi, q⟩
def MakeA (C : Addr) (H1 : Hp) (G : V → Hp → VK → XK → Prop) (Q : VK) (E : XK) : Prop := ∀ x dx, H1 x = none → H1 dx = none → dx ≠ x → G (.ref x) (upd (upd H1 dx (.own x)) x (.ins C dx [])) (fun v H2 => v = .non ∧ Q (.ref x) H2) E
theorem st_make (q : tr σ H fun vs H1 => MakeA C H1 (fun x H2 Q2 E2 => sp (x :: (vs ++ dvs)) H2 Q2 E2) Q E) : tMake C sp dvs E tr σ H Q := q
theorem st_MakeA {G : V → Hp → VK → XK → Prop} (hS : SA L M H) (q : ∀ x dx H', SA L ((x, .ins C dx (flds [] [])) :: M) H' → G (.ref x) H' (fun v H2 => v = .non ∧ Q (.ref x) H2) E) : MakeA C H G Q E := fun x dx hx hd ne =>
  q x dx _ (((hS.newM (o := .own x) hd).newM (p := x) (o := .ins C dx (flds [] [])) (by rw [upd_ne (fun e => ne e.symm)]; exact hx)).perm (List.Perm.swap _ _ _)).dropM
theorem st_nonV {P : Prop} (q : P) : V.non = .non ∧ P := ⟨rfl, q⟩
/-! ### del d[k]; d.pop(k); xs.pop(); a tuple taken apart -/
def ddrop (kvs : List (Key × V)) (n : Int) : List (Key × V) := dropK kvs (Sum.inl n : Key)
theorem dv_drop (kvs : List (Key × V)) (n k : Int) : dv (ddrop kvs n) k = if k = n then none else dv kvs k := by
  unfold dv ddrop dropK valV
  rw [List.find?_filter]
  by_cases h : k = n
  · subst h
    rw [if_pos rfl]
    rw [Option.map_eq_none_iff, List.find?_eq_none]
    intro x _
    by_cases hx : x.1 = (Sum.inl k : Key)
    · simp [hx]
    · simp [hx]
  · rw [if_neg h]
    congr 2
    funext a
    by_cases hx : a.1 = (Sum.inl k : Key)
    · simp [hx, h]
    · simp [hx]
theorem ddrop_len (kvs : List (Key × V)) (n : Int) : (ddrop kvs n).length ≤ kvs.length := dropK_le kvs _
variable {kvs : List (Key × V)} {n : Int}
def DDe (x y : V) (H2 : Hp) (N : Hp → Prop) : Prop := ∃ a kvs k, x = .ref a ∧ H2 a = some (.dK kvs) ∧ y = kV k ∧ (valV kvs k).isSome = true ∧ N (upd H2 a (.dK (dropK kvs k)))
theorem st_ddel (q : td σ H fun x H1 => ty σ H1 fun y H2 => DDe x y H2 fun H3 => D.nx σ H3) : sDDel td ty D σ H := q
theorem st_DDe (hS : SA L M H) (d : Chg M p (.dK kvs) (.dK (ddrop kvs n)) M') (h : (dv kvs n).isSome = true) (q : ∀ H', SA L M' H' → N H') : DDe (.ref p) (.int n) H N :=
  ⟨p, kvs, Sum.inl n, rfl, hS.at d.mem, rfl, h, q _ (hS.set d)⟩
def DPb (a : Addr) (y : V) (H2 : Hp) (Q : VK) : Prop := ∃ kvs k v, H2 a = some (.dK kvs) ∧ y = kV k ∧ valV kvs k = some v ∧ Q v (upd H2 a (.dK (dropK kvs k)))
def DPa (ty : TE) (σ : L2.St) (x : V) (H1 : Hp) (Q : VK) : Prop := ∃ a, x = .ref a ∧ IsD H1 a ∧ ty σ H1 fun y H2 => DPb a y H2 Q
theorem st_dpop (q : td σ H fun x H1 => DPa ty σ x H1 Q) : tDPop1 td ty σ H Q := q
theorem st_DPa (hS : SA L M H) (h : At L M (fK p kvs)) (q : ty σ H fun y H2 => DPb p y H2 Q) : DPa ty σ (.ref p) H Q := ⟨p, rfl, .inl ⟨kvs, .inl (h H hS)⟩, q⟩
theorem st_DPb (hS : SA L M H) (d : Chg M p (.dK kvs) (.dK (ddrop kvs n)) M') (h : dv kvs n = some v) (q : ∀ H', SA L M' H' → Q v H') : DPb p (.int n) H Q :=
  ⟨kvs, Sum.inl n, v, hS.at d.mem, rfl, h, q _ (hS.set d)⟩
theorem st_pop {xs : List V} (hS : SA L M H) (d : Chg M p (.lst xs) (.lst xs.dropLast) M') (h : xs[xs.length - 1]? = some y) (q : ∀ H', SA L M' H' → Q y H') : rPop (.ref p) [] H Q :=
  ⟨p, xs, y, rfl, rfl, hS.at d.mem, h, q _ (hS.set d)⟩
theorem st_popI {ns : List Int} (hS : SA L M H) (d : Chg M p (.lst (ns.map V.int)) (.lst (ns.dropLast.map V.int)) M') (h : 0 < ns.length) (q : ∀ H', SA L M' H' → Q (.int (ns.getD (ns.length - 1) 0)) H') : rPop (.ref p) [] H Q := by
  refine ⟨p, _, .int (ns.getD (ns.length - 1) 0), rfl, rfl, hS.at d.mem, ?_, ?_⟩
  · rw [List.length_map, List.getElem?_map, List.getD_eq_getElem?_getD, List.getElem?_eq_getElem (by omega)]
    rfl
  · rw [← List.map_dropLast]
    exact q _ (hS.set d)
theorem st_gtup {k : Nat} {t : TGs} {xs : List V} {R : L2.St → Hp → Prop} (hS : SA L M H) (h : At L M (fT K p xs)) (hl : xs.length = k) (q : t xs σ H R) : gTup K k t (.ref p) σ H R := ⟨p, xs, rfl, h H hS, hl, q⟩
theorem st_gcons {t : TG} {u : TGs} {xs : List V} {R : L2.St → Hp → Prop} (q : t x σ H fun σ' H' => u xs σ' H' R) : gCons t u (x :: xs) σ H R := ⟨x, xs, rfl, q⟩
theorem st_gnil {R : L2.St → Hp → Prop} (q : R σ H) : gNil [] σ H R := ⟨rfl, q⟩
/-! ### a dict whose values are data -/
def DkV (K : PySem.W.Frag) (kvs : List (Key × V)) (h : Int → Option PyData) (H : Hp) : Prop := ∀ n : Int, match dv kvs n, h n with
  | none, none => True
  | some v, some d => Dp K H v d
  | _, _ => False
def fDk (K : PySem.W.Frag) (kvs : List (Key × V)) (h : Int → Option PyData) : Fc := ⟨DkV K kvs h, fun H H' e g n => by
  have g1 := g n
  revert g1
  cases dv kvs n with
  | none => cases h n with
    | none => exact fun _ => trivial
    | some d => exact fun x => x
  | some v => cases h n with
    | none => exact fun x => x
    | some d => exact fun x => dp_same e d v x⟩
theorem dk_nil {H : Hp} : DkV K [] (fun _ => none) H := fun n => trivial
theorem dk_put {h : Int → Option PyData} {d : PyData} (g : DkV K kvs h H) (hd : Dp K H v d) : DkV K (dput kvs n v) (fun m => if m = n then some d else h m) H := fun k => by
  have g1 := g k
  show match dv (dput kvs n v) k, (if k = n then some d else h k) with | none, none => True | some v, some d => Dp K H v d | _, _ => False
  rw [dv_put]
  by_cases e : k = n
  · rw [if_pos e, if_pos e]
    exact hd
  · rw [if_neg e, if_neg e]
    exact g1
theorem dk_drop {h : Int → Option PyData} (g : DkV K kvs h H) : DkV K (ddrop kvs n) (fun m => if m = n then none else h m) H := fun k => by
  have g1 := g k
  show match dv (ddrop kvs n) k, (if k = n then none else h k) with | none, none => True | some v, some d => Dp K H v d | _, _ => False
  rw [dv_drop]
  by_cases e : k = n
  · rw [if_pos e, if_pos e]
    exact trivial
  · rw [if_neg e, if_neg e]
    exact g1
theorem dk_none {h : Int → Option PyData} (g : DkV K kvs h H) (e : h n = none) : dv kvs n = none := by
  have g1 := g n
  rw [e] at g1
  revert g1
  cases dv kvs n with
  | none => exact fun _ => rfl
  | some v => exact fun x => absurd x id
theorem dk_some {h : Int → Option PyData} {d : PyData} (g : DkV K kvs h H) (e : h n = some d) : ∃ v, dv kvs n = some v ∧ Dp K H v d := by
  have g1 := g n
  rw [e] at g1
  revert g1
  cases dv kvs n with
  | none => exact fun x => absurd x id
  | some v => exact fun x => ⟨v, rfl, x⟩
theorem dpa_app : ∀ {xs ys : List V} {ds es : List PyData}, DpAll K H xs ds → DpAll K H ys es → DpAll K H (xs ++ ys) (ds ++ es)
  | _, _, _, _, .nil, h => h
  | _, _, _, _, .cons h1 h2, h => .cons h1 (dpa_app h2 h)
theorem dpa_drop : ∀ {xs : List V} {ds : List PyData}, DpAll K H xs ds → DpAll K H xs.dropLast ds.dropLast
  | _, _, .nil => .nil
  | _, _, .cons h1 .nil => .nil
  | _, _, .cons h1 (.cons h2 h3) => .cons h1 (dpa_drop (.cons h2 h3))
theorem dpa_last : ∀ {xs : List V} {ds : List PyData} {d : PyData}, DpAll K H xs ds → ds.getLast? = some d → ∃ x, xs[xs.length - 1]? = some x ∧ Dp K H x d := by
  intro xs ds d h e
  rw [List.getLast?_eq_getElem?] at e
  have hl := dpa_len h
  have hlt : ds.length - 1 < ds.length := (List.getElem?_eq_some_iff.mp e).1
  have hx : xs[xs.length - 1]? = some xs[xs.length - 1] := List.getElem?_eq_getElem (by omega)
  obtain ⟨d2, e2, h2⟩ := dpa_get h hx
  rw [hl, e] at e2
  cases e2
  exact ⟨_, hx, h2⟩
/-- a tuple of two, of three -/
theorem dp_tup2 {x y : PyData} (h : Dp K H v (.tuple [x, y])) : ∃ p a b, v = .ref p ∧ SqT K H p [a, b] ∧ Dp K H a x ∧ Dp K H b y := by
  obtain ⟨p, xs, rfl, h1, h2⟩ := dp_tuple h
  cases h2 with
  | cons h3 h4 => cases h4 with
    | cons h5 h6 =>
      cases h6
      exact ⟨p, _, _, rfl, h1, h3, h5⟩
theorem dp_tup3 {x y z : PyData} (h : Dp K H v (.tuple [x, y, z])) : ∃ p a b c, v = .ref p ∧ SqT K H p [a, b, c] ∧ Dp K H a x ∧ Dp K H b y ∧ Dp K H c z := by
  obtain ⟨p, xs, rfl, h1, h2⟩ := dp_tuple h
  cases h2 with
  | cons h3 h4 => cases h4 with
    | cons h5 h6 => cases h6 with
      | cons h7 h8 =>
        cases h8
        exact ⟨p, _, _, _, rfl, h1, h3, h5, h7⟩
end
/-! ### o.m(k = v); o(..) of an instance -/
section
variable {X : Cx} {CX : CXT} {k : Nat} {f C : Addr} {fd : FuncData} {ps ks : List Str} {sp : Sp} {E : XK} {m : Str} {o : Expr} {ta : TE} {tk : TA} {kws : List Keyword} {p pos apos : Pos} {g : List Value → List Value → List Value} {gV : List V → List V → List V}
def tMethK0 (C : Addr) (m : Str) (sp : Sp) (gV : List V → List V → List V) (E : XK) (ta : TE) (tk : TA) : TE := fun σ H Q => ta σ H fun x H1 => MethA C m x H1 (tk σ H1 fun zs H2 => sp (gV [x] zs) H2 Q E)
theorem pe_methK0 {pl : Sem Bool} (he : PE X o ta) (c : Cls X.K C) (hm : Meth X.K C m f) (F : FnOk X.prog X.w X.K X.mg X.base CX k f fd ps sp) (hr : Room k X.A) (hb : KBinds X.K fd ps ks g gV) (hx : Passes CX X E) (hkw : PK X kws tk)
    (hall : (backToKw pos (keywordEach kws X.env)).all (·.1.isSome) = true := by rfl) (hks : (backToKw pos (keywordEach kws X.env)).filterMap (·.1) = ks := by rfl)
    (hpl : ((backTo pos (starEach [] X.env)).any (·.1) || (backToKw pos (keywordEach kws X.env)).any (·.1.isNone)) = false := by rfl)
    (ht : eval (.Call (.Attribute o m apos) [] kws pos) X.env = (do
      let ov ← eval o X.env
      standAt apos.atName
      let (f, first) ← holding [ov] (getMethod ov m pl)
      callWith pos f first (backTo pos (starEach [] X.env)) (backToKw pos (keywordEach kws X.env))) := by rfl) :
    PE X (.Call (.Attribute o m apos) [] kws pos) (tMethK0 C m sp gV E ta tk) := by
  refine ⟨fun pins s σ H Q I h => ?_⟩
  refine PySem.W.methodCall_KW (pl := pl) (thn (he.run pins s σ H _ I h) fun u s1 ⟨x, H1, I1, rx, a, dx, fs, ex, ea, l, q⟩ => ?_) ht
  subst ex
  obtain rfl : u = Value.ref a := rx
  refine getmeth_ok I1 ea c hm l ?_
  refine PySem.W.callWith_KW0 (first := [.ref a]) (h₀ := X.base) I.ok.mod.kin hm.kp hall (thn (hkw.run pos pins s1 σ H1 _ I1 q) fun ws s2 ⟨zs, H2, I2, rz, q2⟩ => ⟨I2.kIn, ?_⟩) hpl
  rw [hks]
  exact run_fnk (us := [.ref a]) (vs := [.ref a]) F hr hb hx I2 (.cons rfl .nil) rz q2
end
section
variable {X : Cx} {K : PySem.W.Frag} {L : List Fc} {M : List Cell} {H : Hp} {σ : L2.St} {Q : VK} {a p b C dx : Addr} {ns : List Str} {vs : List V} {m : Str} {ta tf : TE} {tr tk : TA} {sp : Sp} {E : XK} {gV : List V → List V → List V}
theorem st_methK0 (q : ta σ H fun x H1 => MethA C m x H1 (tk σ H1 fun zs H2 => sp (gV [x] zs) H2 Q E)) : tMethK0 C m sp gV E ta tk σ H Q := q
def CallOA (X : Cx) (C : Addr) (y : V) (H1 : Hp) (N : Addr → Prop) : Prop := ∃ a, y = .ref a ∧ N a
theorem st_callO (q : tf σ H fun y H1 => CallOA X C y H1 fun a => tr σ H1 fun vs H2 => StX.InsC X H2 a C ∧ sp (.ref a :: vs) H2 Q E) : StX.tCallO X C sp E tf tr σ H Q := q
theorem st_CallOA {N : Addr → Prop} (q : N a) : CallOA X C (.ref a) H N := ⟨a, rfl, q⟩
theorem st_InsC {N : Prop} (hS : SA L M H) (h : At L M (fI a C dx (flds ns vs))) (q : N) : StX.InsC X H a C ∧ N := ⟨.inr ⟨dx, _, h H hS⟩, q⟩
end
/-- a tuple stands there, tracked -/
def fU (a : Addr) (xs : List V) : Fc := ⟨fun H => H a = some (.tup xs), fun _ _ e h => e a _ h⟩
section
variable {K : PySem.W.Frag} {L : List Fc} {M : List Cell} {H : Hp} {Q : VK} {a p : Addr} {xs : List V}
theorem At.u (h : At L M (fU p xs)) : At L M (fT K p xs) := fun H s => SqT.of (h H s)
theorem st_newU (hS : SA L M H) (hl : xs.length ≤ 100000) (q : ∀ p H', SA (fU p xs :: L) M H' → Q (.ref p) H') : NewT xs H Q :=
  ⟨Nat.le_trans hl (by decide), fun p hp => q p _ (hS.newF hp fun _ e _ => e)⟩
theorem SA.ad {f : Fc} (h : SA L M H) (q : ∀ F : Hp, (∀ x ∈ L, x.p F) → f.p F) : SA (f :: L) M H := h.fact q
end
/-- the class that a module's name holds -/
def clsOf (mg : Str → Option Value) (x : Str) : Addr := match mg x with
  | some (.ref C) => C
  | _ => default
theorem clsOf_eq {mg : Str → Option Value} {x : Str} {C : Addr} (h : mg x = some (.ref C)) : clsOf mg x = C := by
  unfold clsOf
  rw [h]
/-- two keywords, in the other order -/
def g0r {α : Type} : List α → List α → List α
  | [], [u, v] => [v, u]
  | _, _ => []
theorem kb0r {K : PySem.W.Frag} {x qual : Str} {st : Stmt} {f : Addr} {fd : FuncData} {ps ks : List Str} (F : Fun K x qual st f fd) (h0 : ps.length = 2)
    (h : ∀ (kV doc pm : Value) (an : Option Addr) (cdv ct : Value) (u v : Value), bindArgs (PySem.W.fnOf x qual (defArgs st) (defBody st) (defScope st) .none kV doc pm an cdv ct) ⟨[], ks.zip [u, v]⟩ = pure (ps.zip [v, u])) : KBinds K fd ps ks g0r g0r := by
  obtain ⟨oc, od, kV, doc, pm, an, cdv, ct, osl, rfl, lk, hcd⟩ := F.ex
  refine ⟨fun s us ws _ hl => ?_, fun {vs us zs ws} r rz => ?_⟩
  · rw [h0] at hl
    match us, ws, hl with
    | [], [u, v], _ => exact .of_eq (h kV doc pm an cdv ct u v)
    | [], [], hl => cases hl
    | [], [_], hl => cases hl
    | [], _ :: _ :: _ :: _, hl => cases hl
    | _ :: _, _, hl => cases hl
  · cases r with
    | nil =>
      cases rz with
      | nil => exact .nil
      | cons r1 rz =>
        cases rz with
        | nil => exact .nil
        | cons r2 rz =>
          cases rz with
          | nil => exact .cons r2 (.cons r1 .nil)
          | cons _ _ => exact .nil
    | cons _ _ => exact .nil
/-- the instance by itself, the rest by name: for C(k = v, ..) -/
theorem kbn1 {K : PySem.W.Frag} {x qual : Str} {st : Stmt} {f : Addr} {fd : FuncData} {ps ks : List Str} (F : Fun K x qual st f fd) (h0 : 0 < ps.length)
    (h : ∀ (kV doc pm : Value) (an : Option Addr) (cdv ct : Value) (u : Value) (ws : List Value), ws.length = ks.length → bindArgs (PySem.W.fnOf x qual (defArgs st) (defBody st) (defScope st) .none kV doc pm an cdv ct) ⟨[u], ks.zip ws⟩ = pure (ps.zip (u :: ws))) : KBn K fd ps 1 ks g1 g1 := by
  obtain ⟨oc, od, kV, doc, pm, an, cdv, ct, osl, rfl, lk, hcd⟩ := F.ex
  refine ⟨fun s us ws _ l1 l2 => ?_, fun {vs us zs ws} r rz => ?_⟩
  · match us, l1 with
    | [u], _ => exact .of_eq (h kV doc pm an cdv ct u ws l2)
  · cases r with
    | nil => exact .nil
    | cons r rr =>
      cases rr with
      | nil => exact .cons r rz
      | cons _ _ => exact .nil
end Sa

namespace Sa
open PySem PySem.Spec PyProof.Rows L2
/-! ### comprehensions that change things: an invariant by the turn and a ghost -/
section
variable {K : PySem.W.Frag} {L : List Fc} {M : List Cell} {H : Hp} {σ : L2.St} {Q : VK} {a : Addr} {xs : List V} {te : TE} {t : TT} {γ : Type}
def LcN (Lf : Nat → γ → List Fc) (Mf : Nat → γ → List Cell) (ac : Nat → γ → List V) (pr : Nat → γ → Prop) (D : Addr) (i : Nat) (H : Hp) : Prop := ∃ g, pr i g ∧ SA (Lf i g) ((D, .lst (ac i g)) :: Mf i g) H
def LcAdd (D : Addr) (y : V) (H : Hp) (N : Hp → Prop) : Prop := ∃ acc, H D = some (.lst acc) ∧ acc.length < sizeLine ∧ N (upd H D (.lst (acc ++ [y])))
theorem st_lcadd {D : Addr} {acc : List V} {y : V} {M' : List Cell} {N : Hp → Prop} (hS : SA L M H) (d : Chg M D (.lst acc) (.lst (acc ++ [y])) M') (hl : acc.length < 100000) (q : ∀ H', SA L M' H' → N H') : LcAdd D y H N :=
  ⟨acc, hS.at d.mem, Nat.lt_of_lt_of_le hl (by decide), q _ (hS.set d)⟩
theorem st_lcaddI {D : Addr} {ns : List Int} {w : Int} {M' : List Cell} {N : Hp → Prop} (hS : SA L M H) (d : Chg M D (.lst (ns.map V.int)) (.lst ((ns ++ [w]).map V.int)) M') (hl : ns.length < 100000) (q : ∀ H', SA L M' H' → N H') : LcAdd D (.int w) H N := by
  have e : (ns ++ [w]).map V.int = ns.map V.int ++ [V.int w] := by rw [List.map_append]; rfl
  rw [e] at d
  exact st_lcadd hS d (by rw [List.length_map]; exact hl) q
theorem st_tyes {R : Bool → Hp → Prop} (q : R true H) : tYes σ H R := q
variable (Lf : Nat → γ → List Fc) (Mf : Nat → γ → List Cell) (ac : Nat → γ → List V) (pr : Nat → γ → Prop)
theorem lcG_rng {lo : Int} {n j : Nat} {vs : List Nat} {g0 : γ} (hS : SA L M H) (h0 : pr 0 g0) (e0 : ac 0 g0 = []) (eS : Lf 0 g0 = L ∧ Mf 0 g0 = M) (hw : ∀ x, wipe ((wipe σ vs).set j (some x)) vs = wipe σ vs)
    (hs : ∀ (i : Nat) (g : γ) (D : Addr) (H : Hp), i < n → pr i g → SA (Lf i g) ((D, .lst (ac i g)) :: Mf i g) H →
      t ((wipe σ vs).set j (some (.int (lo + (i : Int))))) H fun b H3 => if b = true then te ((wipe σ vs).set j (some (.int (lo + (i : Int))))) H3 fun y H4 => LcAdd D y H4 (LcN Lf Mf ac pr D (i + 1)) else LcN Lf Mf ac pr D (i + 1) H3)
    (q : ∀ D g H', pr n g → SA (Lf n g) ((D, .lst (ac n g)) :: Mf n g) H' → Q (.ref D) H') : Lc (Itr lo n) (gName j) t te vs σ Q H := fun D hD =>
  lc_it (walk_range (lo := lo) (n := n)) (LcN Lf Mf ac pr D) ⟨g0, h0, by rw [e0, eS.1, eS.2]; exact hS.newM hD⟩ (fun _ _ _ _ => trivial) (fun i x H H' hi hp hy => by
    obtain ⟨rfl, rfl⟩ := hy
    obtain ⟨g, h1, h2⟩ := hp
    exact ⟨hw _, hs i g D _ hi h1 h2⟩) (fun H' hp => by
    obtain ⟨g, h1, h2⟩ := hp
    exact q D g H' h1 h2)
theorem lcG_list {j : Nat} {vs : List Nat} {g0 : γ} (hS : SA L M H) (h0 : pr 0 g0) (e0 : ac 0 g0 = []) (eS : Lf 0 g0 = L ∧ Mf 0 g0 = M) (hG : ∀ (i : Nat) (g : γ), i ≤ xs.length → pr i g → At (Lf i g) (Mf i g) (fQ K a xs)) (hw : ∀ x, wipe ((wipe σ vs).set j (some x)) vs = wipe σ vs)
    (hs : ∀ (i : Nat) (x : V) (g : γ) (D : Addr) (H : Hp), xs[i]? = some x → pr i g → SA (Lf i g) ((D, .lst (ac i g)) :: Mf i g) H →
      t ((wipe σ vs).set j (some x)) H fun b H3 => if b = true then te ((wipe σ vs).set j (some x)) H3 fun y H4 => LcAdd D y H4 (LcN Lf Mf ac pr D (i + 1)) else LcN Lf Mf ac pr D (i + 1) H3)
    (q : ∀ D g H', pr xs.length g → SA (Lf xs.length g) ((D, .lst (ac xs.length g)) :: Mf xs.length g) H' → Q (.ref D) H') : Lc (Itl K a) (gName j) t te vs σ Q H := fun D hD =>
  lc_it (walk_list (xs := xs)) (LcN Lf Mf ac pr D) ⟨g0, h0, by rw [e0, eS.1, eS.2]; exact hS.newM hD⟩ (fun i H hi hp => by
    obtain ⟨g, h1, h2⟩ := hp
    exact hG i g hi h1 H h2.dropM) (fun i x H H' hi hp hy => by
    obtain ⟨rfl, hx⟩ := hy
    obtain ⟨g, h1, h2⟩ := hp
    exact ⟨hw _, hs i x g D _ hx h1 h2⟩) (fun H' hp => by
    obtain ⟨g, h1, h2⟩ := hp
    exact q D g H' h1 h2)
end
end Sa

namespace Sa
open PySem PySem.Spec PyProof.Rows L2
/-! ### steps that ask nothing, found by their head -/
class Go (g : Prop) (n : outParam Prop) : Prop where
  go : n → g
section
variable {K : PySem.W.Frag} {σ : L2.St} {H : Hp} {Q : VK} {QB : Bool → Hp → Prop} {QL : List V → Hp → Prop} {D : Ends} {ta tb tc te td ty tx tv tf to ti : TE} {t u : TT} {ts tu : TS} {tr tk : TA} {r r' : R2} {i j l : Nat} {v w x y z : V} {A B N : Prop} {NS : L2.St → Hp → Prop} {NH : Hp → Prop}
instance : Go (tC v σ H Q) (Q v H) := ⟨st_c⟩
instance : Go (tOp r ta tb σ H Q) (ta σ H fun x H1 => tb σ H1 fun y H2 => r x y H2 Q) := ⟨st_op⟩
instance {r : V → Hp → VK → Prop} : Go (tUn r ta σ H Q) (ta σ H fun x H1 => r x H1 Q) := ⟨st_un⟩
instance : Go (tSeq ts tu D σ H) (ts { D with nx := tu D } σ H) := ⟨st_seq⟩
instance {g : TG} : Go (tAsg te g D σ H) (te σ H fun x H1 => g x σ H1 D.nx) := ⟨st_asg⟩
instance : Go (gName i v σ H NS) (NS (σ.set i (some v)) H) := ⟨st_name⟩
instance {g : Int → Int → V} {i j : Int} : Go (rI0 g (.int i) (.int j) H Q) (Q (g i j) H) := ⟨st_I0⟩
instance {g : Int → V} {i : Int} : Go (rU g (.int i) H Q) (Q (g i) H) := ⟨st_U⟩
instance {i j : Int} : Go (rEq (.int i) (.int j) H Q) (Q (.bl (decide (i = j))) H) := ⟨st_eqI⟩
instance {i j : Int} : Go (rNe (.int i) (.int j) H Q) (Q (.bl (!decide (i = j))) H) := ⟨st_neI⟩
instance : Go (tNil σ H QL) (QL [] H) := ⟨st_tnil⟩
instance : Go (tCons ta tr σ H QL) (ta σ H fun x H1 => tr σ H1 fun xs H2 => QL (x :: xs) H2) := ⟨st_tcons⟩
instance {rr : List V → Hp → VK → Prop} : Go (tCB rr tr σ H Q) (tr σ H fun vs H1 => rr vs H1 Q) := ⟨st_cb⟩
instance {sp : Sp} {dvs : List V} {E : XK} : Go (tCall sp dvs E tr σ H Q) (tr σ H fun vs H1 => sp (vs ++ dvs) H1 Q E) := ⟨st_call⟩
instance {sp : Sp} {gV : List V → List V → List V} {E : XK} : Go (tCallK sp gV E tr tk σ H Q) (tr σ H fun vs H1 => tk σ H1 fun zs H2 => sp (gV vs zs) H2 Q E) := ⟨st_callK⟩
instance : Go (tTest te σ H QB) (te σ H fun x H' => ∃ k, x = .bl k ∧ QB k H') := ⟨st_test⟩
instance : Go (tB te σ H QB) (te σ H fun x H' => ∃ k, x = .bl k ∧ QB k H') := ⟨st_tB⟩
instance : Go (tIfS t ts tu D σ H) (t σ H fun b H1 => if b = true then ts D σ H1 else tu D σ H1) := ⟨st_ifS⟩
instance : Go (tIf t ta tb σ H Q) (t σ H fun c H1 => if c = true then ta σ H1 Q else tb σ H1 Q) := ⟨st_if⟩
instance : Go (tRet te D σ H) (te σ H D.rt) := ⟨st_ret⟩
instance : Go (tRetN D σ H) (D.rt .non H) := ⟨st_retN⟩
instance : Go (tDrop te D σ H) (te σ H fun _ H1 => D.nx σ H1) := ⟨st_drop⟩
instance : Go (tNext D σ H) (D.nx σ H) := ⟨st_next⟩
instance : Go (tAnd t u σ H QB) (t σ H fun c H1 => if c = true then u σ H1 QB else QB false H1) := ⟨st_and⟩
instance : Go (tOr t u σ H QB) (t σ H fun c H1 => if c = true then QB true H1 else u σ H1 QB) := ⟨st_or⟩
instance : Go (tNot t σ H QB) (t σ H fun c H1 => QB (!c) H1) := ⟨st_not⟩
instance : Go (tAndV ta tb σ H Q) (ta σ H fun x H1 => ∃ c, x = .bl c ∧ if c = true then tb σ H1 Q else Q (.bl false) H1) := ⟨st_andV⟩
instance : Go (tOrV ta tb σ H Q) (ta σ H fun x H1 => ∃ c, x = .bl c ∧ if c = true then Q (.bl true) H1 else tb σ H1 Q) := ⟨st_orV⟩
instance : Go (tNotV ta σ H Q) (ta σ H fun x H1 => ∃ c, x = .bl c ∧ Q (.bl (!c)) H1) := ⟨st_notV⟩
instance : Go (tChain r r' ta tb tc σ H Q) (ta σ H fun x H1 => tb σ H1 fun y H2 => r x y H2 fun z H3 => ∃ k, z = .bl k ∧ (if k = true then tc σ H3 fun w' H4 => r' y w' H4 Q else Q (.bl false) H3)) := ⟨st_chain⟩
instance : Go (tPar i j tr D σ H) (tr σ H fun vs H1 => ∃ v w, vs = [v, w] ∧ D.nx ((σ.set i (some v)).set j (some w)) H1) := ⟨st_par⟩
instance : Go (tPar3 i j l tr D σ H) (tr σ H fun vs H1 => ∃ u v w, vs = [u, v, w] ∧ D.nx (((σ.set i (some u)).set j (some v)).set l (some w)) H1) := ⟨st_par3⟩
instance {P : V → V → Prop} : Go (∃ v w, [x, y] = [v, w] ∧ P v w) (P x y) := ⟨fun q => ⟨x, y, rfl, q⟩⟩
instance {P : V → V → V → Prop} : Go (∃ u v w, [x, y, z] = [u, v, w] ∧ P u v w) (P x y z) := ⟨fun q => ⟨x, y, z, rfl, q⟩⟩
instance {k : Bool} {P : Bool → Prop} : Go (∃ c, V.bl k = .bl c ∧ P c) (P k) := ⟨fun q => ⟨k, rfl, q⟩⟩
instance {k : Int} {P : Int → Prop} : Go (∃ c, V.int k = .int c ∧ P c) (P k) := ⟨fun q => ⟨k, rfl, q⟩⟩
instance {F : Int → Int → Int} {i j : Int} : Go (ipI F (.int i) (.int j) H Q) (Q (.int (F i j)) H) := ⟨st_ip⟩
instance {wi : TI} {g : TG} : Go (tFor wi g ts D σ H) (wi σ H fun J H1 => Lp J g ts D σ H1) := ⟨st_for⟩
instance {R : It → Hp → Prop} : Go (iList K te σ H R) (te σ H fun x H1 => ∃ a, x = .ref a ∧ (∃ xs, SqL K H1 a xs) ∧ R (Itl K a) H1) := ⟨st_iList⟩
instance {R : It → Hp → Prop} : Go (iRng1 tr σ H R) (tr σ H fun vs H1 => ∃ j : Int, vs = [.int j] ∧ -(2 ^ 62) ≤ j ∧ j < 2 ^ 62 ∧ R (Itr 0 j.toNat) H1) := ⟨st_iRng1⟩
instance {R : It → Hp → Prop} : Go (iRng2 tr σ H R) (tr σ H fun vs H1 => ∃ i j : Int, vs = [.int i, .int j] ∧ (-(2 ^ 62) ≤ i ∧ i < 2 ^ 62 ∧ -(2 ^ 62) ≤ j ∧ j < 2 ^ 62) ∧ R (Itr i (j - i).toNat) H1) := ⟨st_iRng2⟩
instance {R : It → Hp → Prop} : Go (iEnum K tr σ H R) (tr σ H fun vs H1 => ∃ a xs, vs = [.ref a] ∧ SqL K H1 a xs ∧ R (Ite K a) H1) := ⟨st_iEnum⟩
instance {R : It → Hp → Prop} : Go (iZip K tr σ H R) (tr σ H fun vs H1 => ∃ a b xs ys, vs = [.ref a, .ref b] ∧ SqL K H1 a xs ∧ SqL K H1 b ys ∧ R (Itz K a b) H1) := ⟨st_iZip⟩
instance {R : It → Hp → Prop} : Go (RZ.iZipA K tr σ H R) (tr σ H fun vs H1 => ∃ a b xs ys, vs = [.ref a, .ref b] ∧ ((SqL K H1 a xs ∧ SqL K H1 b ys ∧ R (Itz K a b) H1) ∨ (SqT K H1 a xs ∧ SqT K H1 b ys ∧ R (RZ.ItzT K a b) H1))) := ⟨st_iZipA⟩
instance {wi : TI} {g : TG} {vs : List Nat} : Go (tLc wi g t te vs σ H Q) (wi σ H fun J H1 => Lc J g t te vs σ Q H1) := ⟨st_lc⟩
instance : Go (tLst tr σ H Q) (tr σ H fun xs H1 => NewL xs H1 Q) := ⟨st_lst⟩
instance : Go (tTup tr σ H Q) (tr σ H fun xs H1 => NewT xs H1 Q) := ⟨st_tup⟩
instance {T : String} {rr : V → List V → Hp → VK → Prop} : Go (tBM K T rr ta tr σ H Q) (ta σ H fun x H1 => tyV K T x H1 ∧ tr σ H1 fun xs H2 => rr x xs H2 Q) := ⟨st_bm⟩
instance {T : String} {rr : V → List V → Hp → VK → Prop} : Go (tBM0 K T rr ta σ H Q) (ta σ H fun x H1 => tyV K T x H1 ∧ rr x [] H1 Q) := ⟨st_bm0⟩
instance {tset : TSet} : Go (gSub to ti tset v σ H NS) (to σ H fun o H1 => ti σ H1 fun i H2 => tset o i v H2 fun H3 => NS σ H3) := ⟨st_sub⟩
instance : Go (rIsN x .non H Q) (Q (.bl (decide (x = .non))) H) := ⟨st_rIsN⟩
instance : Go (rNotN x .non H Q) (Q (.bl (!decide (x = .non))) H) := ⟨st_rNotN⟩
instance {i j : Int} : Go (rMax2 [.int i, .int j] H Q) (Q (.int (max i j)) H) := ⟨st_max2⟩
instance {i j : Int} : Go (rMin2 [.int i, .int j] H Q) (Q (.int (min i j)) H) := ⟨st_min2⟩
instance {i : Int} : Go (rInt1 [.int i] H Q) (Q (.int i) H) := ⟨st_int1⟩
instance {k : Bool} : Go (rInt1 [.bl k] H Q) (Q (.int (if k then 1 else 0)) H) := ⟨st_int1b⟩
instance {i : Int} : Go (rAbs [.int i] H Q) (Q (.int (if i < 0 then -i else i)) H) := ⟨st_abs⟩
instance {a b : Bool} : Go (rIsBl (.bl a) (.bl b) H Q) (Q (.bl (decide (a = b))) H) := ⟨st_rIsBl⟩
instance {f : Str} : Go (tFld K ta f σ H Q) (ta σ H fun x H1 => FldA K f x H1 Q) := ⟨st_fld⟩
instance {f : Str} : Go (sFld K ta tv f D σ H) (tv σ H fun y H1 => ta σ H1 fun x H2 => FldP K f x y H2 fun H3 => D.nx σ H3) := ⟨st_sfld⟩
instance {C : Addr} {m : Str} {sp : Sp} {dvs : List V} {E : XK} : Go (tMeth C m sp dvs E ta tr σ H Q) (ta σ H fun x H1 => MethA C m x H1 (tr σ H1 fun vs H2 => sp (x :: (vs ++ dvs)) H2 Q E)) := ⟨st_meth⟩
instance {C : Addr} {m : Str} {sp : Sp} {gV : List V → List V → List V} {E : XK} : Go (tMethK0 C m sp gV E ta tk σ H Q) (ta σ H fun x H1 => MethA C m x H1 (tk σ H1 fun zs H2 => sp (gV [x] zs) H2 Q E)) := ⟨st_methK0⟩
instance {C : Addr} {sp : Sp} {dvs : List V} {E : XK} : Go (tMake C sp dvs E tr σ H Q) (tr σ H fun vs H1 => MakeA C H1 (fun x H2 Q2 E2 => sp (x :: (vs ++ dvs)) H2 Q2 E2) Q E) := ⟨st_make⟩
instance {X : Cx} {C : Addr} {sp : Sp} {E : XK} : Go (StX.tCallO X C sp E tf tr σ H Q) (tf σ H fun y H1 => CallOA X C y H1 fun a => tr σ H1 fun vs H2 => StX.InsC X H2 a C ∧ sp (.ref a :: vs) H2 Q E) := ⟨st_callO⟩
instance {X : Cx} {C a : Addr} {P : Addr → Prop} : Go (CallOA X C (.ref a) H P) (P a) := ⟨st_CallOA⟩
instance : Go (sDDel td ty D σ H) (td σ H fun x H1 => ty σ H1 fun y H2 => DDe x y H2 fun H3 => D.nx σ H3) := ⟨st_ddel⟩
instance : Go (tDPop1 td ty σ H Q) (td σ H fun x H1 => DPa ty σ x H1 Q) := ⟨st_dpop⟩
instance : Go (tDNotIn ty td σ H Q) (ty σ H fun y H1 => td σ H1 fun x H2 => DNi y x H2 Q) := ⟨st_dni⟩
instance : Go (tDIn ty td σ H Q) (ty σ H fun y H1 => td σ H1 fun x H2 => DIi y x H2 Q) := ⟨st_dii⟩
instance : Go (tDGet td ty σ H Q) (td σ H fun x H1 => ty σ H1 fun y H2 => DGt x y H2 Q) := ⟨st_dgt⟩
instance : Go (tDGet2 td ty tx σ H Q) (td σ H fun x H1 => DG2a ty tx σ x H1 Q) := ⟨st_dg2⟩
instance : Go (sDPut td ty tv D σ H) (tv σ H fun v H1 => td σ H1 fun x H2 => ty σ H2 fun y H3 => DPu x y v H3 fun H4 => D.nx σ H4) := ⟨st_dput⟩
instance : Go (tDSetd td ty tx σ H Q) (td σ H fun x H1 => DSa ty tx σ x H1 Q) := ⟨st_dsd⟩
instance {rr : V → Option Int → Option Int → Hp → VK → Prop} {tl th : TO} : Go (tSl rr te tl th σ H Q) (te σ H fun x H1 => tl σ H1 fun l H2 => th σ H2 fun u H3 => rr x l u H3 Q) := ⟨st_sl⟩
instance {QO : Option Int → Hp → Prop} : Go (tNoPart σ H QO) (QO none H) := ⟨st_noP⟩
instance {QO : Option Int → Hp → Prop} : Go (tPart te σ H QO) (te σ H fun x H1 => ∃ i, x = .int i ∧ QO (some i) H1) := ⟨st_part⟩
instance : Go (tLstRg (tRg1 ta) σ H Q) (ta σ H fun x H1 => ∃ n, x = .int n ∧ LRg 0 n H1 Q) := ⟨st_lr1⟩
instance : Go (tLstRg (tRg2 ta tb) σ H Q) (ta σ H fun x H1 => tb σ H1 fun y H2 => ∃ i j, x = .int i ∧ y = .int j ∧ LRg i j H2 Q) := ⟨st_lr2⟩
instance {i j : Int} {P : Int → Int → Prop} : Go (∃ i' j', V.int i = .int i' ∧ V.int j = .int j' ∧ P i' j') (P i j) := ⟨fun q => ⟨i, j, rfl, rfl, q⟩⟩
instance : Go (gFrom to ti v σ H NS) (to σ H fun o H1 => ti σ H1 fun i H2 => SetFrom o i v H2 fun H3 => NS σ H3) := ⟨st_gFrom⟩
instance {t : TG} {u : TGs} {xs : List V} : Go (gCons t u (x :: xs) σ H NS) (t x σ H fun σ' H' => u xs σ' H' NS) := ⟨st_gcons⟩
instance : Go (gNil [] σ H NS) (NS σ H) := ⟨st_gnil⟩
instance : Go (V.non = .non ∧ A) A := ⟨st_nonV⟩
instance : Go (tYes σ H QB) (QB true H) := ⟨st_tyes⟩
instance {b : Bool} : Go (if (!b) = true then A else B) (if b = true then B else A) := ⟨if_not⟩
instance : Go (if true = true then A else B) A := ⟨if_t⟩
instance : Go (if false = true then A else B) B := ⟨if_f⟩
instance : Go (if decide True = true then A else B) A := ⟨if_t⟩
instance {α : Type} {a : α} : Go (if (some a).isSome = true then A else B) A := ⟨if_t⟩
instance {α : Type} : Go (if (none : Option α).isSome = true then A else B) B := ⟨if_f⟩
end
/-! ### while; xs[::-1] -/
section
variable {K : PySem.W.Frag} {L : List Fc} {M : List Cell} {σ : L2.St} {H : Hp} {Q : VK} {D : Ends} {c : TT} {tb : TS} {te : TE} {a : Addr} {xs : List V} {γ : Type}
def Wh (s : Nat → γ → L2.St) (Lf : Nat → γ → List Fc) (Mf : Nat → γ → List Cell) (pr : Nat → γ → Prop) (m : Nat) (σ : L2.St) (H : Hp) : Prop := ∃ g : γ, σ = s m g ∧ pr m g ∧ SA (Lf m g) (Mf m g) H
def WhN (s : Nat → γ → L2.St) (Lf : Nat → γ → List Fc) (Mf : Nat → γ → List Cell) (pr : Nat → γ → Prop) (m : Nat) (σ : L2.St) (H : Hp) : Prop := ∃ m', m' < m ∧ Wh s Lf Mf pr m' σ H
def WhB (W : Nat → L2.St → Hp → Prop) (m : Nat) (tb : TS) (D : Ends) (σ : L2.St) (H1 : Hp) : Prop := ∃ N : L2.St → Hp → Prop, (∀ σ' H', N σ' H' → ∃ m', m' < m ∧ W m' σ' H') ∧ tb { D with nx := N, ct := N, bk := D.nx } σ H1
instance (s : Nat → γ → L2.St) (Lf : Nat → γ → List Fc) (Mf : Nat → γ → List Cell) (pr : Nat → γ → Prop) (m : Nat) : Go (WhB (Wh s Lf Mf pr) m tb D σ H) (tb { D with nx := WhN s Lf Mf pr m, ct := WhN s Lf Mf pr m, bk := D.nx } σ H) := ⟨fun q => ⟨WhN s Lf Mf pr m, fun _ _ h => h, q⟩⟩
theorem lp_while (s : Nat → γ → L2.St) (Lf : Nat → γ → List Fc) (Mf : Nat → γ → List Cell) (pr : Nat → γ → Prop) (m0 : Nat) (h0 : Wh s Lf Mf pr m0 σ H)
    (hs : ∀ (m : Nat) (g : γ) (H : Hp), pr m g → SA (Lf m g) (Mf m g) H → c (s m g) H fun b H1 => if b = true then WhB (Wh s Lf Mf pr) m tb D (s m g) H1 else D.nx (s m g) H1) : tWhile c tb D σ H :=
  ⟨Wh s Lf Mf pr, ⟨m0, h0⟩, fun m σ H ⟨g, e, h1, h2⟩ => by
    subst e
    exact hs m g H h1 h2⟩
def RevA (K : PySem.W.Frag) (x : V) (H1 : Hp) (Q : VK) : Prop := ∃ a xs, x = .ref a ∧ SqL K H1 a xs ∧ ∀ p, H1 p = none → Q (.ref p) (upd H1 p (.lst xs.reverse))
instance : Go (tRevL K te σ H Q) (te σ H fun x H1 => RevA K x H1 Q) := ⟨fun q => q⟩
theorem st_RevA {ns : List Int} (hS : SA L M H) (h : At L M (fQ K a (ns.map V.int))) (q : ∀ p H', SA L ((p, .lst (ns.reverse.map V.int)) :: M) H' → Q (.ref p) H') : RevA K (.ref a) H Q :=
  ⟨a, _, rfl, h H hS, fun p hp => by
    rw [← List.map_reverse]
    exact q p _ (hS.newM hp)⟩
end
end Sa

namespace Sa
open PySem PySem.Spec PyProof.Rows L2
/-! ### further steps -/
theorem if_yes {P : Prop} [Decidable P] {A B : Prop} (h : P) (q : A) : if decide P = true then A else B := by
  rw [if_pos (decide_eq_true h)]
  exact q
theorem if_no {P : Prop} [Decidable P] {A B : Prop} (h : ¬ P) (q : B) : if decide P = true then A else B := by
  rw [if_neg (by rw [decide_eq_false h]; decide)]
  exact q
section
variable {K : PySem.W.Frag} {L L' : List Fc} {M M' : List Cell} {H : Hp} {σ : L2.St} {Q : VK} {a p b : Addr} {xs ys : List V} {v x y z : V} {D : Ends} {ta tb te td ty tx tv to ti : TE} {t : TT} {ts tu : TS} {tr : TA} {ns ms : List Int} {N : Hp → Prop}
theorem st_cat1I {w : Int} (hS : SA L M H) (h1 : At L M (fL a [.int w])) (h2 : At L M (fL b (ms.map V.int))) (hl : 1 + ms.length ≤ 100000) (q : ∀ p H', SA L ((p, .lst ((w :: ms).map V.int)) :: M) H' → Q (.ref p) H') : rCat (.ref a) (.ref b) H Q :=
  st_catI (ns := [w]) hS h1 h2 hl q
theorem st_glst {k : Nat} {t : TGs} {R : L2.St → Hp → Prop} (hS : SA L M H) (h : At L M (fQ K p xs)) (hl : xs.length = k) (q : t xs σ H R) : gLst K k t (.ref p) σ H R := ⟨p, xs, rfl, h H hS, hl, q⟩
/-- xs[i] += e -/
theorem get_list {X : Cx} : PGet X (rIxL X.K) := by
  intro pins s σ H o i ov iv Q I ro ri h
  obtain ⟨p, xs, k, z, rfl, rfl, hq, he, q⟩ := h
  cases ro
  obtain ⟨t, rfl⟩ := ri
  obtain ⟨its, r, pl, hz⟩ := I.list hq
  obtain ⟨j, h1, h2, h3, h4, h5⟩ := atI_get he
  obtain ⟨w, ew, rw'⟩ := r.get h2
  have hl := r.length
  have hn := line63
  have fin : EP X pins σ Q w s := ⟨z, H, I, rw', q⟩
  by_cases h0 : 0 ≤ k
  · have hj : k.toNat = j := by
      rw [seqIndex_of h0 h5] at h1
      exact Option.some.inj h1
    exact wpAny_getItem_list pl.isList h0 (by omega) (by rw [hj]; simpa using ew) fin
  · have hj : (k + (its.toArray.size : Int)).toNat = j := by
      rw [seqIndex_neg (by omega) h4] at h1
      rw [List.size_toArray, ← hl]
      exact Option.some.inj h1
    exact wpAny_getItem_list_neg pl.isList (by omega) (by rw [List.size_toArray] <;> omega) (by omega) (by rw [hj]; simpa using ew) fin
theorem ps_augL {X : Cx} {o i e : Expr} {tip : TIp} {op : Operator} {tpos pos : Pos} (ho : PE X o to) (hi : PE X i ti) (he : PE X e te) (hp : PIp X op tip)
    (ha : ∀ ov iv new, augStore i ov iv new = (do holding [new, ov, iv] (setItem ov iv new); release [new, ov, iv] []; pure .next) := by intros; rfl) : PS X (.AugAssign (.Subscript o i tpos) op e pos) (tAugS to ti te (rIxL X.K) tip rSetL) :=
  ps_augS ho hi get_list he hp set_list ha
instance {tget : V → V → Hp → VK → Prop} {tip : TIp} {tset : TSet} : Go (tAugS to ti te tget tip tset D σ H) (to σ H fun o H1 => ti σ H1 fun i H2 => tget o i H2 fun x H3 => te σ H3 fun y H4 => tip x y H4 fun z H5 => tset o i z H5 fun H6 => D.nx σ H6) := ⟨fun q => q⟩
theorem st_setN {i w : Int} (hS : SA L M H) (d : Chg M p (.lst (ns.map V.int)) (.lst ((ns.set (i + ns.length).toNat w).map V.int)) M') (h0 : i < 0) (h1 : -(ns.length : Int) ≤ i) (q : ∀ H', SA L M' H' → N H') : rSetL (.ref p) (.int i) (.int w) H N := by
  refine ⟨p, _, i, (i + ns.length).toNat, rfl, rfl, hS.at d.mem, ?_, ?_⟩
  · unfold ixN
    rw [if_neg (by omega), List.length_map, if_pos h1]
  · rw [map_set]
    exact q _ (hS.set d)
/-- an item of a displayed list of numbers -/
theorem st_one {i : Int} (ms : List Int) (hS : SA L M H) (h : At L M (fQ K p xs)) (e : xs = ms.map V.int) (h0 : 0 ≤ i) (h1 : i < ms.length) (q : ∀ x, x ∈ ms → Q (.int x) H) : rIxL K (.ref p) (.int i) H Q :=
  st_menu (fun x => x ∈ ms) hS h e h0 h1 (fun _ h => h) q
/-- xs.insert(i, y); xs.pop(i); xs.clear() -/
def InsA (x : V) (vs : List V) (H : Hp) (Q : VK) : Prop := ∃ (l : Addr) (xs : List V) (i : Int) (y : V), x = .ref l ∧ vs = [.int i, y] ∧ H l = some (.lst xs) ∧ xs.length < sizeLine ∧ 0 ≤ i ∧ i < 2 ^ 63 ∧ Q .non (upd H l (.lst (xs.take i.toNat ++ [y] ++ xs.drop i.toNat)))
theorem mt_insA {X : Cx} : MtR X "list.insert" InsA := mt_insert
theorem st_insI {i w : Int} (hS : SA L M H) (d : Chg M p (.lst (ns.map V.int)) (.lst ((ns.take i.toNat ++ [w] ++ ns.drop i.toNat).map V.int)) M') (hz : ns.length < 100000) (h0 : 0 ≤ i) (h1 : i < 2 ^ 63) (q : ∀ H', SA L M' H' → Q .non H') : InsA (.ref p) [.int i, .int w] H Q :=
  ⟨p, _, i, .int w, rfl, rfl, hS.at d.mem, by rw [List.length_map]; exact Nat.lt_of_lt_of_le hz (by decide), h0, h1, by
    have e : (ns.map V.int).take i.toNat ++ [V.int w] ++ (ns.map V.int).drop i.toNat = (ns.take i.toNat ++ [w] ++ ns.drop i.toNat).map V.int := by
      rw [List.map_append, List.map_append, List.map_take, List.map_drop]
      rfl
    rw [e]
    exact q _ (hS.set d)⟩
theorem map_erase : ∀ (ns : List Int) (j : Nat), (ns.map V.int).eraseIdx j = (ns.eraseIdx j).map V.int
  | [], _ => rfl
  | n :: ns, 0 => rfl
  | n :: ns, j + 1 => by
    show V.int n :: (ns.map V.int).eraseIdx j = V.int n :: (ns.eraseIdx j).map V.int
    rw [map_erase ns j]
theorem st_popAtI {i : Int} (hS : SA L M H) (d : Chg M p (.lst (ns.map V.int)) (.lst ((ns.eraseIdx i.toNat).map V.int)) M') (h0 : 0 ≤ i) (h1 : i < ns.length) (hz : ns.length < 100000) (q : ∀ H', SA L M' H' → Q (.int (ns.getD i.toNat 0)) H') : rPopAt (.ref p) [.int i] H Q := by
  have hl : i.toNat < ns.length := by omega
  refine ⟨p, _, i, i.toNat, .int (ns.getD i.toNat 0), rfl, rfl, hS.at d.mem, by omega, by omega, ?_, ?_, ?_⟩
  · rw [List.length_map]
    exact seqIndex_of h0 (by omega)
  · rw [List.getElem?_map, List.getD_eq_getElem?_getD, List.getElem?_eq_getElem hl]
    rfl
  · rw [map_erase]
    exact q _ (hS.set d)
theorem st_clear {xs : List V} (hS : SA L M H) (d : Chg M p (.lst xs) (.lst []) M') (q : ∀ H', SA L M' H' → Q .non H') : rClear (.ref p) [] H Q := ⟨p, xs, rfl, rfl, hS.at d.mem, q _ (hS.set d)⟩
/-- [w] * n -/
theorem st_repI {n w : Int} (hS : SA L M H) (h : At L M (fL a [.int w])) (h0 : -100000 ≤ n) (h1 : n ≤ 100000) (q : ∀ p H', SA L ((p, .lst ((List.replicate n.toNat w).map V.int)) :: M) H' → Q (.ref p) H') : rRep (.ref a) (.int n) H Q := by
  refine ⟨a, n, _, rfl, rfl, h H hS, by omega, by omega, ?_, fun p hp => ?_⟩
  · have e : sizeLine ≥ 100000 := by decide
    simp only [List.length_cons, List.length_nil]
    omega
  · have e : (List.replicate n.toNat [V.int w]).flatten = (List.replicate n.toNat w).map V.int := by
      rw [List.map_replicate]
      induction n.toNat with
      | zero => rfl
      | succ k ih => rw [List.replicate_succ, List.flatten_cons, ih, List.replicate_succ]; rfl
    rw [e]
    exact q p _ (hS.newM hp)
theorem st_DG2e {kvs : List (Key × V)} {n : Int} {w : V} (hS : SA L M H) (h : At L M (fK p kvs)) (e : (dv kvs n).getD z = w) (q : Q w H) : DG2b p (.int n) z H Q := st_DG2b hS h (by rw [e]; exact q)
/-- x *= y, x >>= y -/
def ipC (C : Int → Int → Prop) (f : Int → Int → Int) : TIp := fun x y H Q => ∃ i j, x = .int i ∧ y = .int j ∧ C i j ∧ Q (.int (f i j)) H
theorem ip_mulW {X : Cx} : PIp X .Mult (ipC CMulX fun i j => i * j) := by
  intro pins s σ H x y v u Q I r1 r2 h
  obtain ⟨i, j, e1, e2, hc, q⟩ := h
  subst e1; subst e2
  obtain ⟨t, rfl⟩ := r1
  obtain ⟨t', rfl⟩ := r2
  rcases hc with h | h | h
  · exact imul_int ⟨.int _, H, I.tok _, ⟨_, rfl⟩, q⟩ (CMul.ok (.inl h))
  · exact imul_int ⟨.int _, H, I.tok _, ⟨_, rfl⟩, q⟩ (CMul.ok (.inr h))
  · exact imul_int ⟨.int _, H, I.tok _, ⟨_, rfl⟩, q⟩ h.ok
theorem ip_shr {X : Cx} : PIp X .RShift (ipC (fun _ j => 0 ≤ j) fun i j => i.fdiv (2 ^ j.toNat)) := by
  intro pins s σ H x y v u Q I r1 r2 h
  obtain ⟨i, j, e1, e2, hc, q⟩ := h
  subst e1; subst e2
  obtain ⟨t, rfl⟩ := r1
  obtain ⟨t', rfl⟩ := r2
  exact irshift_int hc ⟨.int _, H, I.tok _, ⟨_, rfl⟩, q⟩
theorem st_imul2 {i j : Int} (h0 : -18446744073709551616 < j) (h1 : j < 18446744073709551616) (q : Q (.int (i * j)) H) : ipC CMulX (fun i j => i * j) (.int i) (.int j) H Q := ⟨i, j, rfl, rfl, .inr (.inl ⟨h0, h1⟩), q⟩
end
end Sa

namespace Sa
open PySem PySem.Spec PyProof.Rows L2
/-! ### comprehensions over enumerate; of data; loops over pairs -/
def en2 (ns : List Int) : List (Int × Int) := (List.range ns.length).map fun (i : Nat) => ((i : Int), ns.getD i 0)
theorem en2_len (ns : List Int) : (en2 ns).length = ns.length := by unfold en2; rw [List.length_map, List.length_range]
theorem en2_at {ns : List Int} {i : Nat} {n : Int} (h : ns[i]? = some n) : (en2 ns)[i]? = some ((i : Int), n) := by
  have hl := (List.getElem?_eq_some_iff.mp h).1
  unfold en2
  rw [List.getElem?_map, List.getElem?_range hl]
  show some ((i : Int), ns.getD i 0) = _
  rw [List.getD_eq_getElem?_getD, h]
  rfl
theorem en2_mem {ns : List Int} {i n : Int} (h : (i, n) ∈ en2 ns) : 0 ≤ i ∧ i < ns.length ∧ n = ns.getD i.toNat 0 := by
  unfold en2 at h
  obtain ⟨k, hk, e⟩ := List.mem_map.mp h
  have hk2 := List.mem_range.mp hk
  cases e
  exact ⟨by omega, by omega, by rw [Int.toNat_natCast]⟩
theorem en2_snoc (ns : List Int) (x : Int) : en2 (ns ++ [x]) = en2 ns ++ [((ns.length : Int), x)] := by
  unfold en2
  rw [List.length_append, List.length_singleton, List.range_succ, List.map_append]
  congr 1
  · refine List.map_congr_left fun i hi => ?_
    rw [List.getD_eq_getElem?_getD, List.getElem?_append_left (List.mem_range.mp hi), List.getD_eq_getElem?_getD]
  · simp
section
variable {K : PySem.W.Frag} {L L' : List Fc} {M M' : List Cell} {H : Hp} {σ : L2.St} {Q : VK} {a p b : Addr} {xs ys : List V} {v x y z : V} {D : Ends} {te : TE} {t : TT} {ts tu : TS} {ns : List Int} {α : Type}
theorem lcA_turn {Dl : Addr} {σ2 : L2.St} {P : α → Bool} {F : α → Int} {is : List α} {i : Nat} {n : α} (hi : is[i]? = some n) (hl : is.length < 50000) (hS : SA L ((Dl, .lst ((((is.take i).filter P).map F).map V.int)) :: M) H)
    (ht : EvT t σ2 L ((Dl, .lst ((((is.take i).filter P).map F).map V.int)) :: M) (P n)) (he : P n = true → EvV te σ2 L ((Dl, .lst ((((is.take i).filter P).map F).map V.int)) :: M) (.int (F n))) :
    t σ2 H fun b H3 => if b = true then te σ2 H3 fun y H4 => ∃ acc, H4 Dl = some (.lst acc) ∧ acc.length < sizeLine ∧ SA L ((Dl, .lst ((((is.take (i + 1)).filter P).map F).map V.int)) :: M) (upd H4 Dl (.lst (acc ++ [y]))) else SA L ((Dl, .lst ((((is.take (i + 1)).filter P).map F).map V.int)) :: M) H3 := by
  refine ht H hS _ fun H3 hS3 => ?_
  have e1 : is.take (i + 1) = is.take i ++ [n] := take_at hi
  cases hf : P n with
  | true =>
    refine if_t ?_
    refine he hf H3 hS3 _ fun H4 hS4 => ⟨_, hS4.at List.mem_cons_self, ?_, ?_⟩
    · rw [List.length_map, List.length_map]
      have h1 := List.length_filter_le P (is.take i)
      rw [List.length_take] at h1
      exact Nat.lt_of_le_of_lt h1 (Nat.lt_of_le_of_lt (Nat.min_le_right _ _) (Nat.lt_of_lt_of_le hl (by decide)))
    · have e2 : (((is.take i).filter P).map F).map V.int ++ [V.int (F n)] = (((is.take (i + 1)).filter P).map F).map V.int := by
        rw [e1, List.filter_append, List.filter_cons, if_pos hf, List.map_append, List.map_append]
        rfl
      rw [e2]
      exact hS4.set .hd
  | false =>
    refine if_f ?_
    have e2 : (is.take (i + 1)).filter P = (is.take i).filter P := by
      rw [e1, List.filter_append, List.filter_cons, if_neg (by rw [hf]; decide)]
      simp
    rw [e2]
    exact hS3
/-- [F (i, n) for i, n in enumerate(ns) if P (i, n)] -/
theorem lcI_enum {j k : Nat} {vs : List Nat} (P : Int × Int → Bool) (F : Int × Int → Int) (hS : SA L M H) (hx : At L M (fQ K a (ns.map V.int))) (hn : ns.length < 50000) (hw : ∀ x y, wipe (((wipe σ vs).set j (some x)).set k (some y)) vs = wipe σ vs)
    (ht : ∀ (i n : Int) (Dl : Addr) acc, (i, n) ∈ en2 ns → EvT t (((wipe σ vs).set j (some (.int i))).set k (some (.int n))) L ((Dl, .lst acc) :: M) (P (i, n)))
    (he : ∀ (i n : Int) (Dl : Addr) acc, (i, n) ∈ en2 ns → P (i, n) = true → EvV te (((wipe σ vs).set j (some (.int i))).set k (some (.int n))) L ((Dl, .lst acc) :: M) (.int (F (i, n))))
    (q : ∀ Dl H', SA L ((Dl, .lst ((((en2 ns).filter P).map F).map V.int)) :: M) H' → Q (.ref Dl) H') : Lc (Ite K a) (gTup K 2 (gCons (gName j) (gCons (gName k) gNil))) t te vs σ Q H := fun Dl hD =>
  lc_it (walk_enum (xs := ns.map V.int)) (fun i H => SA L ((Dl, .lst (((((en2 ns).take i).filter P).map F).map V.int)) :: M) H) (hS.newM hD) (fun i H _ hp => hx H hp.dropM) (fun i x H H' hi hp hy => by
    obtain ⟨T, y1, y2, rfl, hT, rfl, e1, e2⟩ := hy
    cases e1
    obtain ⟨n, hn2, rfl⟩ := ints_at e2
    have hm := en2_at hn2
    refine ⟨T, [.int (i : Nat), .int n], rfl, SqT.of upd_same, rfl, _, _, rfl, _, _, rfl, rfl, ?_⟩
    exact ⟨hw _ _, lcA_turn hm (by rw [en2_len]; exact hn) (hp.ign hT) (ht _ _ Dl _ (List.mem_of_getElem? hm)) (he _ _ Dl _ (List.mem_of_getElem? hm))⟩) (fun H' hp => q Dl H' (by
    rw [List.length_map, List.take_of_length_le (by rw [en2_len]; exact Nat.le_refl _)] at hp
    exact hp))
/-- [F n for n in ns if P n], F n any value that is there -/
theorem lcV_turn {Dl : Addr} {σ2 : L2.St} {P : α → Bool} {F : α → V} {is : List α} {i : Nat} {n : α} (hi : is[i]? = some n) (hl : is.length < 50000) (hS : SA L ((Dl, .lst (((is.take i).filter P).map F)) :: M) H)
    (ht : EvT t σ2 L ((Dl, .lst (((is.take i).filter P).map F)) :: M) (P n)) (he : P n = true → EvV te σ2 L ((Dl, .lst (((is.take i).filter P).map F)) :: M) (F n)) :
    t σ2 H fun b H3 => if b = true then te σ2 H3 fun y H4 => ∃ acc, H4 Dl = some (.lst acc) ∧ acc.length < sizeLine ∧ SA L ((Dl, .lst (((is.take (i + 1)).filter P).map F)) :: M) (upd H4 Dl (.lst (acc ++ [y]))) else SA L ((Dl, .lst (((is.take (i + 1)).filter P).map F)) :: M) H3 := by
  refine ht H hS _ fun H3 hS3 => ?_
  have e1 : is.take (i + 1) = is.take i ++ [n] := take_at hi
  cases hf : P n with
  | true =>
    refine if_t ?_
    refine he hf H3 hS3 _ fun H4 hS4 => ⟨_, hS4.at List.mem_cons_self, ?_, ?_⟩
    · rw [List.length_map]
      have h1 := List.length_filter_le P (is.take i)
      rw [List.length_take] at h1
      exact Nat.lt_of_le_of_lt h1 (Nat.lt_of_le_of_lt (Nat.min_le_right _ _) (Nat.lt_of_lt_of_le hl (by decide)))
    · have e2 : ((is.take i).filter P).map F ++ [F n] = ((is.take (i + 1)).filter P).map F := by
        rw [e1, List.filter_append, List.filter_cons, if_pos hf, List.map_append]
        rfl
      rw [e2]
      exact hS4.set .hd
  | false =>
    refine if_f ?_
    have e2 : (is.take (i + 1)).filter P = (is.take i).filter P := by
      rw [e1, List.filter_append, List.filter_cons, if_neg (by rw [hf]; decide)]
      simp
    rw [e2]
    exact hS3
theorem lcV_list {j : Nat} {vs : List Nat} (P : Int → Bool) (F : Int → V) (hS : SA L M H) (hx : At L M (fQ K a (ns.map V.int))) (hn : ns.length < 50000) (hw : ∀ x, wipe ((wipe σ vs).set j (some x)) vs = wipe σ vs)
    (ht : ∀ (n : Int) (Dl : Addr) acc, n ∈ ns → EvT t ((wipe σ vs).set j (some (.int n))) L ((Dl, .lst acc) :: M) (P n))
    (he : ∀ (n : Int) (Dl : Addr) acc, n ∈ ns → P n = true → EvV te ((wipe σ vs).set j (some (.int n))) L ((Dl, .lst acc) :: M) (F n))
    (q : ∀ Dl H', SA L ((Dl, .lst ((ns.filter P).map F)) :: M) H' → Q (.ref Dl) H') : Lc (Itl K a) (gName j) t te vs σ Q H := fun Dl hD =>
  lc_it (walk_list (xs := ns.map V.int)) (fun i H => SA L ((Dl, .lst (((ns.take i).filter P).map F)) :: M) H) (hS.newM hD) (fun i H _ hp => hx H hp.dropM) (fun i x H H' hi hp hy => by
    obtain ⟨rfl, hx⟩ := hy
    obtain ⟨n, hn2, rfl⟩ := ints_at hx
    have hm := List.mem_of_getElem? hn2
    exact ⟨hw _, lcV_turn hn2 hn hp (ht n Dl _ hm) (he n Dl _ hm)⟩) (fun H' hp => q Dl H' (by
    rw [List.length_map, List.take_length] at hp
    exact hp))
/-- an item that tells a datum -/
def EvD (K : PySem.W.Frag) (te : TE) (σ : L2.St) (L : List Fc) (M : List Cell) (d : PyData) : Prop := ∀ H, SA L M H → ∀ Q : VK, (∀ v H', SA (fD K v d :: L) M H' → Q v H') → te σ H Q
def LD (K : PySem.W.Frag) (L : List Fc) (M : List Cell) (Dl : Addr) (ds : List PyData) (i : Nat) (H : Hp) : Prop := ∃ xs : List V, xs.length ≤ i ∧ SA (fDs K xs ds :: L) ((Dl, .lst xs) :: M) H
theorem lcD_turn {Dl : Addr} {σ2 : L2.St} {P : α → Bool} {dF : α → PyData} {is : List α} {i : Nat} {n : α} (hi : is[i]? = some n) (hl : is.length < 50000) (hx : LD K L M Dl (((is.take i).filter P).map dF) i H)
    (ht : ∀ (xs : List V) ds, EvT t σ2 (fDs K xs ds :: L) ((Dl, .lst xs) :: M) (P n)) (he : ∀ (xs : List V) ds, P n = true → EvD K te σ2 (fDs K xs ds :: L) ((Dl, .lst xs) :: M) (dF n)) :
    t σ2 H fun b H3 => if b = true then te σ2 H3 fun y H4 => ∃ acc, H4 Dl = some (.lst acc) ∧ acc.length < sizeLine ∧ LD K L M Dl (((is.take (i + 1)).filter P).map dF) (i + 1) (upd H4 Dl (.lst (acc ++ [y]))) else LD K L M Dl (((is.take (i + 1)).filter P).map dF) (i + 1) H3 := by
  obtain ⟨xs, hxl, hS⟩ := hx
  have hil := (List.getElem?_eq_some_iff.mp hi).1
  refine ht xs _ H hS _ fun H3 hS3 => ?_
  have e1 : is.take (i + 1) = is.take i ++ [n] := take_at hi
  cases hf : P n with
  | true =>
    refine if_t ?_
    refine he xs _ hf H3 hS3 _ fun y H4 hS4 => ⟨_, hS4.at List.mem_cons_self, Nat.lt_of_le_of_lt hxl (Nat.lt_of_lt_of_le (Nat.lt_trans hil hl) (by decide)), ?_⟩
    refine ⟨xs ++ [y], by rw [List.length_append]; exact Nat.succ_le_succ hxl, ?_⟩
    have e2 : ((is.take (i + 1)).filter P).map dF = ((is.take i).filter P).map dF ++ [dF n] := by
      rw [e1, List.filter_append, List.filter_cons, if_pos hf, List.map_append]
      rfl
    rw [e2]
    have h5 : SA (fDs K (xs ++ [y]) (((is.take i).filter P).map dF ++ [dF n]) :: fD K y (dF n) :: fDs K xs (((is.take i).filter P).map dF) :: L) ((Dl, .lst xs) :: M) H4 := hS4.ad fun F hF => dpa_app (hF _ (List.mem_cons_of_mem _ List.mem_cons_self)) (.cons (hF _ List.mem_cons_self) .nil)
    exact (h5.subs (.cons .hd (.tl (.tl (.tl .rest))))).set .hd
  | false =>
    refine if_f ?_
    have e2 : (is.take (i + 1)).filter P = (is.take i).filter P := by
      rw [e1, List.filter_append, List.filter_cons, if_neg (by rw [hf]; decide)]
      simp
    rw [e2]
    exact ⟨xs, Nat.le_succ_of_le hxl, hS3⟩
theorem ld_zero (hS : SA L M H) {Dl : Addr} (hD : H Dl = none) : LD K L M Dl [] 0 (upd H Dl (.lst [])) := ⟨[], Nat.le_refl _, (hS.newM hD).ad fun F hF => .nil⟩
theorem lcD_enum {j k : Nat} {vs : List Nat} (P : Int × Int → Bool) (dF : Int × Int → PyData) (hS : SA L M H) (hx : At L M (fQ K a (ns.map V.int))) (hn : ns.length < 50000) (hw : ∀ x y, wipe (((wipe σ vs).set j (some x)).set k (some y)) vs = wipe σ vs)
    (ht : ∀ (i n : Int) (Dl : Addr) xs ds, (i, n) ∈ en2 ns → EvT t (((wipe σ vs).set j (some (.int i))).set k (some (.int n))) (fDs K xs ds :: L) ((Dl, .lst xs) :: M) (P (i, n)))
    (he : ∀ (i n : Int) (Dl : Addr) xs ds, (i, n) ∈ en2 ns → P (i, n) = true → EvD K te (((wipe σ vs).set j (some (.int i))).set k (some (.int n))) (fDs K xs ds :: L) ((Dl, .lst xs) :: M) (dF (i, n)))
    (q : ∀ Dl xs H', SA (fDs K xs (((en2 ns).filter P).map dF) :: L) ((Dl, .lst xs) :: M) H' → Q (.ref Dl) H') : Lc (Ite K a) (gTup K 2 (gCons (gName j) (gCons (gName k) gNil))) t te vs σ Q H := fun Dl hD =>
  lc_it (walk_enum (xs := ns.map V.int)) (fun i H => LD K L M Dl ((((en2 ns).take i).filter P).map dF) i H) (ld_zero hS hD) (fun i H _ hp => by
    obtain ⟨xs, _, h⟩ := hp
    exact hx H h.drop.dropM) (fun i x H H' hi hp hy => by
    obtain ⟨T, y1, y2, rfl, hT, rfl, e1, e2⟩ := hy
    cases e1
    obtain ⟨n, hn2, rfl⟩ := ints_at e2
    have hm := en2_at hn2
    refine ⟨T, [.int (i : Nat), .int n], rfl, SqT.of upd_same, rfl, _, _, rfl, _, _, rfl, rfl, ?_⟩
    have hp2 : LD K L M Dl ((((en2 ns).take i).filter P).map dF) i (upd H T (.tup [.int (i : Nat), .int n])) := by
      obtain ⟨xs, h1, h2⟩ := hp
      exact ⟨xs, h1, h2.ign hT⟩
    exact ⟨hw _ _, lcD_turn hm (by rw [en2_len]; exact hn) hp2 (fun xs ds => ht _ _ Dl xs ds (List.mem_of_getElem? hm)) (fun xs ds => he _ _ Dl xs ds (List.mem_of_getElem? hm))⟩) (fun H' hp => by
    rw [List.length_map, List.take_of_length_le (by rw [en2_len]; exact Nat.le_refl _)] at hp
    obtain ⟨xs, _, h⟩ := hp
    exact q Dl xs H' h)
theorem lcD_list {j : Nat} {vs : List Nat} (P : Int → Bool) (dF : Int → PyData) (hS : SA L M H) (hx : At L M (fQ K a (ns.map V.int))) (hn : ns.length < 50000) (hw : ∀ x, wipe ((wipe σ vs).set j (some x)) vs = wipe σ vs)
    (ht : ∀ (n : Int) (Dl : Addr) xs ds, n ∈ ns → EvT t ((wipe σ vs).set j (some (.int n))) (fDs K xs ds :: L) ((Dl, .lst xs) :: M) (P n))
    (he : ∀ (n : Int) (Dl : Addr) xs ds, n ∈ ns → P n = true → EvD K te ((wipe σ vs).set j (some (.int n))) (fDs K xs ds :: L) ((Dl, .lst xs) :: M) (dF n))
    (q : ∀ Dl xs H', SA (fDs K xs ((ns.filter P).map dF) :: L) ((Dl, .lst xs) :: M) H' → Q (.ref Dl) H') : Lc (Itl K a) (gName j) t te vs σ Q H := fun Dl hD =>
  lc_it (walk_list (xs := ns.map V.int)) (fun i H => LD K L M Dl (((ns.take i).filter P).map dF) i H) (ld_zero hS hD) (fun i H _ hp => by
    obtain ⟨xs, _, h⟩ := hp
    exact hx H h.drop.dropM) (fun i x H H' hi hp hy => by
    obtain ⟨rfl, hx⟩ := hy
    obtain ⟨n, hn2, rfl⟩ := ints_at hx
    exact ⟨hw _, lcD_turn hn2 hn hp (fun xs ds => ht _ Dl xs ds (List.mem_of_getElem? hn2)) (fun xs ds => he _ Dl xs ds (List.mem_of_getElem? hn2))⟩) (fun H' hp => by
    rw [List.length_map, List.take_length] at hp
    obtain ⟨xs, _, h⟩ := hp
    exact q Dl xs H' h)
theorem lcD_rng {lo : Int} {m j : Nat} {vs : List Nat} (P : Int → Bool) (dF : Int → PyData) (hS : SA L M H) (hn : m < 50000) (hw : ∀ x, wipe ((wipe σ vs).set j (some x)) vs = wipe σ vs)
    (ht : ∀ (n : Int) (Dl : Addr) xs ds, lo ≤ n → n < lo + m → EvT t ((wipe σ vs).set j (some (.int n))) (fDs K xs ds :: L) ((Dl, .lst xs) :: M) (P n))
    (he : ∀ (n : Int) (Dl : Addr) xs ds, lo ≤ n → n < lo + m → P n = true → EvD K te ((wipe σ vs).set j (some (.int n))) (fDs K xs ds :: L) ((Dl, .lst xs) :: M) (dF n))
    (q : ∀ Dl xs H', SA (fDs K xs (((rg lo m).filter P).map dF) :: L) ((Dl, .lst xs) :: M) H' → Q (.ref Dl) H') : Lc (Itr lo m) (gName j) t te vs σ Q H := fun Dl hD =>
  lc_it (walk_range (lo := lo) (n := m)) (fun i H => LD K L M Dl ((((rg lo m).take i).filter P).map dF) i H) (ld_zero hS hD) (fun _ _ _ _ => trivial) (fun i x H H' hi hp hy => by
    obtain ⟨rfl, rfl⟩ := hy
    exact ⟨hw _, lcD_turn (rg_get hi) (by rw [rg_len]; exact hn) hp (fun xs ds => ht _ Dl xs ds (by omega) (by omega)) (fun xs ds => he _ Dl xs ds (by omega) (by omega))⟩) (fun H' hp => by
    rw [List.take_of_length_le (by rw [rg_len]; exact Nat.le_refl _)] at hp
    obtain ⟨xs, _, h⟩ := hp
    exact q Dl xs H' h)
/-- a new tuple of two, as a datum -/
theorem SA.tup2 {d1 d2 : PyData} (h : SA (fU p [x, y] :: L) M H) (h1 : ∀ H, Dp K H x d1) (h2 : ∀ H, Dp K H y d2) : SA (fD K (.ref p) (.tuple [d1, d2]) :: L) M H :=
  (h.ad (f := fD K (.ref p) (.tuple [d1, d2])) fun F hF => .tup (SqT.of (hF _ List.mem_cons_self)) (.cons (h1 F) (.cons (h2 F) .nil))).subs (.cons .hd (.tl (.tl .rest)))
def pairD (p : Int × Int) : PyData := .tuple [.int p.1, .int p.2]
/-- for u, v in a list of pairs -/
theorem lp_pairs {γ : Type} (s : Nat → γ → L2.St) (Lf : Nat → γ → List Fc) (Mf : Nat → γ → List Cell) (pr : Nat → γ → Prop) {j k : Nat} {ps : List α} {f g : α → PyData} (h0 : Iv s Lf Mf pr 0 σ H) (hG : ∀ (i : Nat) (c : γ), i ≤ ps.length → pr i c → At (Lf i c) (Mf i c) (fQ K a xs))
    (hD : ∀ (i : Nat) (c : γ), i ≤ ps.length → pr i c → At (Lf i c) (Mf i c) (fDs K xs (ps.map fun u => .tuple [f u, g u])))
    (hs : ∀ (i : Nat) (u : α) (x y : V) (c : γ) (H : Hp), ps[i]? = some u → pr i c → SA (Lf i c) (Mf i c) H → Dp K H x (f u) → Dp K H y (g u) → ts { D with nx := Iv s Lf Mf pr (i + 1), ct := Iv s Lf Mf pr (i + 1), bk := D.nx } (((s i c).set j (some x)).set k (some y)) H)
    (hd : ∀ (c : γ) (H : Hp), pr ps.length c → SA (Lf ps.length c) (Mf ps.length c) H → D.nx (s ps.length c) H) : Lp (Itl K a) (gTup K 2 (gCons (gName j) (gCons (gName k) gNil))) ts D σ H := by
  have hl : xs.length = ps.length := by
    obtain ⟨c, _, h1, h2⟩ := h0
    have e := dpa_len (hD 0 c (Nat.zero_le _) h1 _ h2)
    rw [List.length_map] at e
    exact e
  refine for_it (walk_list (xs := xs)) (Iv s Lf Mf pr) h0 (fun i σ H hi hp => ?_) (fun i x σ H H' hi hp hy => ?_) (fun σ H hp => ?_)
  · obtain ⟨c, rfl, h1, h2⟩ := hp
    exact hG i c (by omega) h1 H h2
  · obtain ⟨c, rfl, h1, h2⟩ := hp
    obtain ⟨rfl, hx⟩ := hy
    obtain ⟨d, e, h3⟩ := dpa_get (hD i c (by omega) h1 _ h2) hx
    rw [List.getElem?_map] at e
    cases hu : ps[i]? with
    | none => rw [hu] at e; cases e
    | some u =>
      rw [hu] at e
      cases e
      obtain ⟨T, x1, x2, rfl, hT, g1, g2⟩ := dp_tup2 h3
      exact ⟨T, [x1, x2], rfl, hT, rfl, _, _, rfl, _, _, rfl, rfl, hs i u x1 x2 c _ hu h1 h2 g1 g2⟩
  · obtain ⟨c, rfl, h1, h2⟩ := hp
    rw [hl] at h1 h2 ⊢
    exact hd c H h1 h2
end
/-! ### break, continue, ranges that go down -/
section
variable {K : PySem.W.Frag} {L : List Fc} {M : List Cell} {σ : L2.St} {H : Hp} {Q : VK} {D : Ends} {ts : TS} {tr : TA} {γ : Type}
instance {te : TE} {R : It → Hp → Prop} : Go (iTup K te σ H R) (te σ H fun x H1 => ∃ a, x = .ref a ∧ (∃ xs, SqT K H1 a xs) ∧ R (Itt K a) H1) := ⟨fun q => q⟩
theorem st_t1 {g : TG} {a : Addr} {xs : List V} (hS : SA L M H) (h : At L M (fT K a xs)) (q : Lp (Itt K a) g ts D σ H) : ∃ a', V.ref a = .ref a' ∧ (∃ xs, SqT K H a' xs) ∧ Lp (Itt K a') g ts D σ H := ⟨a, rfl, ⟨xs, h H hS⟩, q⟩
instance : Go (tBreak D σ H) (D.bk σ H) := ⟨fun q => q⟩
instance : Go (tCont D σ H) (D.ct σ H) := ⟨fun q => q⟩
instance {R : It → Hp → Prop} : Go (iRng3 tr σ H R) (tr σ H fun vs H1 => ∃ (i j c : Int) (n : Nat), vs = [.int i, .int j, .int c] ∧ RgC i j c n ∧ R (Itc i c n) H1) := ⟨fun q => q⟩
theorem st_r3 {g : TG} {n : Nat} {i j : Int} (h : (i - j).toNat = n) (hb : -(2 ^ 62) ≤ i ∧ i < 2 ^ 62 ∧ -(2 ^ 62) ≤ j ∧ j < 2 ^ 62) (q : Lp (Itc i (-1) n) g ts D σ H) : ∃ (i' j' c : Int) (n' : Nat), [V.int i, V.int j, V.int (-1)] = [.int i', .int j', .int c] ∧ RgC i' j' c n' ∧ Lp (Itc i' c n') g ts D σ H :=
  ⟨i, j, -1, n, rfl, by rw [← h]; exact RgC.neg hb.1 hb.2.1 hb.2.2.1 hb.2.2.2, q⟩
theorem lp_rngD (s : Nat → γ → L2.St) (Lf : Nat → γ → List Fc) (Mf : Nat → γ → List Cell) (pr : Nat → γ → Prop) {lo : Int} {n : Nat} {j : Nat} (h0 : Iv s Lf Mf pr 0 σ H)
    (hs : ∀ (i : Nat) (g : γ) (H : Hp), i < n → pr i g → SA (Lf i g) (Mf i g) H → ts { D with nx := Iv s Lf Mf pr (i + 1), ct := Iv s Lf Mf pr (i + 1), bk := D.nx } ((s i g).set j (some (.int (lo - (i : Int))))) H)
    (hd : ∀ (g : γ) (H : Hp), pr n g → SA (Lf n g) (Mf n g) H → D.nx (s n g) H) : Lp (Itc lo (-1) n) (gName j) ts D σ H :=
  for_it (walk_rangeC (lo := lo) (c := -1) (n := n)) (Iv s Lf Mf pr) h0 (fun _ _ _ _ _ => trivial) (fun i x σ H H' hi hp hy => by
    obtain ⟨g, rfl, h1, h2⟩ := hp
    obtain ⟨rfl, rfl⟩ := hy
    have e : lo + (i : Int) * (-1) = lo - (i : Int) := by omega
    show gName j (V.int (lo + (i : Int) * (-1))) _ _ _
    rw [e]
    exact hs i g H' hi h1 h2) (fun σ H hp => by
    obtain ⟨g, rfl, h1, h2⟩ := hp
    exact hd g H h1 h2)
end
/-- the other way round, any items -/
theorem st_revV {L : List Fc} {M M' : List Cell} {H : Hp} {p : Addr} {xs : List V} {Q : VK} (hS : SA L M H) (d : Chg M p (.lst xs) (.lst xs.reverse) M') (q : ∀ H', SA L M' H' → Q .non H') : rReverse (.ref p) [] H Q := ⟨p, xs, rfl, rfl, hS.at d.mem, q _ (hS.set d)⟩
/-- a list of data that is compared to [] -/
theorem st_ne0 {K : PySem.W.Frag} {L : List Fc} {M : List Cell} {H : Hp} {a b : Addr} {ds : List PyData} {Q : VK} (hS : SA L M H) (h1 : At L M (fD K (.ref a) (.list ds))) (h2 : At L M (fQ K b [])) (hs : SeqAt.shaped (.list ds) = true) (q : Q (.bl (!decide (ds = []))) H) : rNeD K (.ref a) (.ref b) H Q :=
  ⟨_, .list [], h1 H hS, .lst (h2 H hS) .nil, hs, rfl, by
    have e : PyData.eqv (.list ds) (.list []) = decide (ds = []) := by
      cases ds with
      | nil => rfl
      | cons d ds => rfl
    rw [e]
    exact q⟩
/-- [] -/
theorem At.nilL {L : List Fc} {M : List Cell} {a : Addr} (h : (a, HO.lst []) ∈ M) : At L M (fL a (([] : List Int).map V.int)) := fun H s => s.at h
theorem At.nilQ {K : PySem.W.Frag} {L : List Fc} {M : List Cell} {a : Addr} (h : (a, HO.lst []) ∈ M) : At L M (fQ K a (([] : List Int).map V.int)) := At.q (At.nilL h)
/-- data that are alike -/
theorem st_eqSame {K : PySem.W.Frag} {L : List Fc} {M : List Cell} {H : Hp} {x y : V} {d : PyData} {Q : VK} (hS : SA L M H) (h1 : At L M (fD K x d)) (h2 : At L M (fD K y d)) (hs : SeqAt.shaped d = true) (he : PyData.eqv d d = true) (q : Q (.bl true) H) : rEqD K x y H Q :=
  ⟨d, d, h1 H hS, h2 H hS, hs, hs, by rw [he]; exact q⟩
theorem eqv_il (ns : List Int) : PyData.eqv (.list (ns.map PyData.int)) (.list (ns.map PyData.int)) = true := by
  rw [show PyData.eqv (.list (ns.map PyData.int)) (.list (ns.map PyData.int)) = PyData.eqvAll (ns.map PyData.int) (ns.map PyData.int) from rfl, eqv_ints, decide_eq_true rfl]
theorem eqv_l2 (a b : List Int) : PyData.eqv (.list [.list (a.map PyData.int), .list (b.map PyData.int)]) (.list [.list (a.map PyData.int), .list (b.map PyData.int)]) = true := by
  show (PyData.eqv (.list (a.map PyData.int)) (.list (a.map PyData.int)) && (PyData.eqv (.list (b.map PyData.int)) (.list (b.map PyData.int)) && true)) = true
  rw [eqv_il, eqv_il]
  rfl
theorem shaped_l2 (a b : List Int) : SeqAt.shaped (.list [.list (a.map PyData.int), .list (b.map PyData.int)]) = true := by
  unfold SeqAt.shaped
  rw [show PyData.canLay0 (.list [.list (a.map PyData.int), .list (b.map PyData.int)]) = (PyData.canLayAll0 (a.map PyData.int) && (PyData.canLayAll0 (b.map PyData.int) && true)) from rfl, canAll_ints, canAll_ints,
    show PyData.depth (.list [.list (a.map PyData.int), .list (b.map PyData.int)]) = max (PyData.depthAll (a.map PyData.int) + 1) (max (PyData.depthAll (b.map PyData.int) + 1) 0) + 1 from rfl, depthAll_ints, depthAll_ints]
  rfl
/-! ### over a tuple -/
theorem lp_tup {K : PySem.W.Frag} {σ : L2.St} {H : Hp} {D : Ends} {ts : TS} {a : Addr} {xs : List V} {γ : Type} (s : Nat → γ → L2.St) (Lf : Nat → γ → List Fc) (Mf : Nat → γ → List Cell) (pr : Nat → γ → Prop) {j : Nat} (h0 : Iv s Lf Mf pr 0 σ H) (hG : ∀ (i : Nat) (g : γ), i ≤ xs.length → pr i g → At (Lf i g) (Mf i g) (fT K a xs))
    (hs : ∀ (i : Nat) (x : V) (g : γ) (H : Hp), xs[i]? = some x → pr i g → SA (Lf i g) (Mf i g) H → ts { D with nx := Iv s Lf Mf pr (i + 1), ct := Iv s Lf Mf pr (i + 1), bk := D.nx } ((s i g).set j (some x)) H)
    (hd : ∀ (g : γ) (H : Hp), pr xs.length g → SA (Lf xs.length g) (Mf xs.length g) H → D.nx (s xs.length g) H) : Lp (Itt K a) (gName j) ts D σ H :=
  for_it (walk_tup (xs := xs)) (Iv s Lf Mf pr) h0 (fun i σ H hi hp => by
    obtain ⟨g, rfl, h1, h2⟩ := hp
    exact hG i g hi h1 H h2) (fun i x σ H H' hi hp hy => by
    obtain ⟨g, rfl, h1, h2⟩ := hp
    obtain ⟨rfl, hx⟩ := hy
    exact hs i x g H' hx h1 h2) (fun σ H hp => by
    obtain ⟨g, rfl, h1, h2⟩ := hp
    exact hd g H h1 h2)
/-! ### x is True -/
def okB : V → Bool
  | .non => true
  | .bl _ => true
  | .int _ => true
  | .str _ => true
  | .ref _ => true
  | _ => false
def rIsBx : R2 := fun x y H Q => ∃ b, y = .bl b ∧ okB x = true ∧ Q (.bl (decide (x = .bl b))) H
theorem op_isBx {X : Cx} : OpR X (compareOp .Is) rIsBx := by
  intro pins s σ H x y v u Q I rx ry h
  obtain ⟨b, rfl, hx, q⟩ := h
  cases (show u = Value.bool b from ry)
  cases x with
  | bl a =>
    cases (show v = Value.bool a from rx)
    by_cases e : a = b
    · subst e
      exact wpAny_is_self rfl ⟨.bl true, H, I, rfl, by simpa using q⟩
    · exact wpAny_is_other rfl (fun z => e (Value.bool.inj z)) ⟨.bl false, H, I, rfl, by simpa [e] using q⟩
  | non =>
    cases (show v = Value.none from rx)
    exact wpAny_is_other rfl (fun z => by cases z) ⟨.bl false, H, I, rfl, by simpa using q⟩
  | int i =>
    obtain ⟨t, rfl⟩ := rx
    exact wpAny_is_other rfl (fun z => by cases z) ⟨.bl false, H, I, rfl, by simpa using q⟩
  | str i =>
    obtain ⟨t, rfl⟩ := rx
    exact wpAny_is_other rfl (fun z => by cases z) ⟨.bl false, H, I, rfl, by simpa using q⟩
  | ref a =>
    cases (show v = Value.ref a from rx)
    exact wpAny_is_other rfl (fun z => by cases z) ⟨.bl false, H, I, rfl, by simpa using q⟩
  | _ => cases hx
section
variable {H : Hp} {Q : VK} {b : Bool}
instance {a : Bool} : Go (rIsBx (.bl a) (.bl b) H Q) (Q (.bl (decide (a = b))) H) := ⟨fun q => ⟨b, rfl, rfl, by
  have e : (V.bl a = V.bl b) = (a = b) := by simp
  simp only [e]
  exact q⟩⟩
instance : Go (rIsBx .non (.bl b) H Q) (Q (.bl false) H) := ⟨fun q => ⟨b, rfl, rfl, by simpa using q⟩⟩
instance {i : Int} : Go (rIsBx (.int i) (.bl b) H Q) (Q (.bl false) H) := ⟨fun q => ⟨b, rfl, rfl, by simpa using q⟩⟩
instance {i : Str} : Go (rIsBx (.str i) (.bl b) H Q) (Q (.bl false) H) := ⟨fun q => ⟨b, rfl, rfl, by simpa using q⟩⟩
instance {i : Addr} : Go (rIsBx (.ref i) (.bl b) H Q) (Q (.bl false) H) := ⟨fun q => ⟨b, rfl, rfl, by simpa using q⟩⟩
end
end Sa

namespace T
open PySem PySem.Spec PyProof.Rows L2
open Sa (SA At fL fQ fT fD fDs fK Fc Cell Iv EvT EvV)
def topS (i : Nat) : Stmt := PySem.Challenge.pw_staletally_k23_which_writes_counted.main.body.getD i (.Pass ⟨0, 0, 0, 0⟩)
abbrev s_first_wrong : Stmt := topS 4
abbrev s_check_possible : Stmt := topS 5
abbrev s_chains_up_to : Stmt := topS 7
abbrev s_chains_on_from : Stmt := topS 8
abbrev s_chains_through : Stmt := topS 9
abbrev s_chains : Stmt := topS 10
abbrev s_surely_counted : Stmt := topS 11
abbrev s_may_have_counted : Stmt := topS 12
abbrev s__law_jar : Stmt := topS 14
abbrev s__law_pick : Stmt := topS 15
abbrev s__law_list : Stmt := topS 16
abbrev s__law_same : Stmt := topS 17
abbrev s__law_chain_lists : Stmt := topS 18
abbrev s__law_right : Stmt := topS 19
abbrev s_law : Stmt := topS 20
/-- what the top has left -/
structure Top (K : PySem.W.Frag) (mg : Str → Option Value) : Prop where
  d_first_wrong : ∃ f fd, Fun K "first_wrong" "first_wrong" s_first_wrong f fd ∧ mg "first_wrong" = some (.ref f)
  d_check_possible : ∃ f fd, Fun K "check_possible" "check_possible" s_check_possible f fd ∧ mg "check_possible" = some (.ref f)
  d_chains_up_to : ∃ f fd, Fun K "chains_up_to" "chains_up_to" s_chains_up_to f fd ∧ mg "chains_up_to" = some (.ref f)
  d_chains_on_from : ∃ f fd, Fun K "chains_on_from" "chains_on_from" s_chains_on_from f fd ∧ mg "chains_on_from" = some (.ref f)
  d_chains_through : ∃ f fd, Fun K "chains_through" "chains_through" s_chains_through f fd ∧ mg "chains_through" = some (.ref f)
  d_chains : ∃ f fd, Fun K "chains" "chains" s_chains f fd ∧ mg "chains" = some (.ref f)
  d_surely_counted : ∃ f fd, Fun K "surely_counted" "surely_counted" s_surely_counted f fd ∧ mg "surely_counted" = some (.ref f)
  d_may_have_counted : ∃ f fd, Fun K "may_have_counted" "may_have_counted" s_may_have_counted f fd ∧ mg "may_have_counted" = some (.ref f)
  d__law_jar : ∃ f fd, Fun K "_law_jar" "_law_jar" s__law_jar f fd ∧ mg "_law_jar" = some (.ref f)
  d__law_pick : ∃ f fd, Fun K "_law_pick" "_law_pick" s__law_pick f fd ∧ mg "_law_pick" = some (.ref f)
  d__law_list : ∃ f fd, Fun K "_law_list" "_law_list" s__law_list f fd ∧ mg "_law_list" = some (.ref f)
  d__law_same : ∃ f fd, Fun K "_law_same" "_law_same" s__law_same f fd ∧ mg "_law_same" = some (.ref f)
  d__law_chain_lists : ∃ f fd, Fun K "_law_chain_lists" "_law_chain_lists" s__law_chain_lists f fd ∧ mg "_law_chain_lists" = some (.ref f)
  d__law_right : ∃ f fd, Fun K "_law_right" "_law_right" s__law_right f fd ∧ mg "_law_right" = some (.ref f)
  d_law : ∃ f fd, Fun K "law" "law" s_law f fd ∧ mg "law" = some (.ref f)
  z_enumerate : mg "enumerate" = none
  z_max : mg "max" = none
  z_range : mg "range" = none
  z_sum : mg "sum" = none
  z_len : mg "len" = none
  z_zip : mg "zip" = none
  z_int : mg "int" = none
  z_abs : mg "abs" = none
  z_min : mg "min" = none
  z_isinstance : mg "isinstance" = none
  z_bool : mg "bool" = none
  z_list : mg "list" = none
  z_tuple : mg "tuple" = none
  z_sorted : mg "sorted" = none
theorem alike_all : ∀ ds es : List PyData, ds.length = es.length → (∀ (i : Nat) (d e : PyData), ds[i]? = some d → es[i]? = some e → d = e) → ds = es := fun ds es hl h => by
  apply List.ext_getElem?
  intro i
  cases h1 : ds[i]? with
  | none =>
    have h2 := List.getElem?_eq_none_iff.mp h1
    exact (List.getElem?_eq_none (by omega)).symm
  | some d =>
    have h2 := (List.getElem?_eq_some_iff.mp h1).1
    have h3 : es[i]? = some (es[i]'(by omega)) := List.getElem?_eq_getElem (by omega)
    rw [h3, h i d _ h1 h3]
theorem depth_mem : ∀ {ds : List PyData} {i : Nat} {d : PyData}, ds[i]? = some d → d.depth ≤ PyData.depthAll ds
  | [], _, _, h => by simp at h
  | x :: xs, 0, d, h => by
    simp at h
    subst h
    exact Nat.le_max_left _ _
  | x :: xs, i + 1, d, h => Nat.le_trans (depth_mem (ds := xs) (i := i) (by simpa using h)) (Nat.le_max_right _ _)
mutual
def wid : PyData → Nat
  | .list ds => widAll ds
  | .tuple ds => widAll ds
  | _ => 0
def widAll : List PyData → Nat
  | [] => 0
  | d :: ds => wid d + 1 + widAll ds
end
theorem wid_len : ∀ ds : List PyData, ds.length ≤ widAll ds
  | [] => Nat.zero_le _
  | d :: ds => by
    have h := wid_len ds
    simp only [widAll, List.length_cons]
    omega
theorem wid_mem : ∀ {ds : List PyData} {i : Nat} {d : PyData}, ds[i]? = some d → wid d < widAll ds
  | [], _, _, h => by simp at h
  | x :: xs, 0, d, h => by
    simp at h
    subst h
    simp only [widAll]
    omega
  | x :: xs, i + 1, d, h => by
    have h2 := wid_mem (ds := xs) (i := i) (d := d) (by simpa using h)
    simp only [widAll]
    omega
mutual
def noTxt : PyData → Bool
  | .str _ => false
  | .list ds => noTxtAll ds
  | .tuple ds => noTxtAll ds
  | _ => true
def noTxtAll : List PyData → Bool
  | [] => true
  | d :: ds => noTxt d && noTxtAll ds
end
theorem noTxt_mem : ∀ {ds : List PyData} {i : Nat} {d : PyData}, ds[i]? = some d → noTxtAll ds = true → noTxt d = true
  | [], _, _, h, _ => by simp at h
  | x :: xs, 0, d, h, h2 => by
    simp at h
    subst h
    simp only [noTxtAll, Bool.and_eq_true] at h2
    exact h2.1
  | x :: xs, i + 1, d, h, h2 => by
    simp only [noTxtAll, Bool.and_eq_true] at h2
    exact noTxt_mem (ds := xs) (i := i) (by simpa using h) h2.2
theorem wid_ints : ∀ ns : List Int, widAll (ns.map PyData.int) = ns.length
  | [] => rfl
  | n :: ns => by
    simp only [List.map_cons, widAll, wid, List.length_cons, wid_ints ns]
    omega
theorem noTxt_ints : ∀ ns : List Int, noTxtAll (ns.map PyData.int) = true
  | [] => rfl
  | n :: ns => by simp only [List.map_cons, noTxtAll, noTxt, noTxt_ints ns, Bool.and_self]
/-! ### possible lists -/
/-- the first write that cannot have read: from a greatest number and an index on -/
def fw : Int → Nat → List Int → Option Nat
  | _, _, [] => none
  | g, i, n :: ns => if 1 ≤ n ∧ n ≤ g + 1 then fw (max g n) (i + 1) ns else some i
def optV : Option Nat → V
  | none => .non
  | some i => .int (i : Nat)
theorem optV_non (o : Option Nat) : decide (optV o = V.non) = decide (o = none) := by
  cases o <;> simp [optV]
def top (ns : List Int) : Int := ns.foldl max 0
def Po (ns : List Int) : Prop := fw 0 0 ns = none
theorem fw_snoc (n : Int) : ∀ (ns : List Int) (g : Int) (i : Nat), fw g i (ns ++ [n]) = match fw g i ns with
    | some j => some j
    | none => if 1 ≤ n ∧ n ≤ ns.foldl max g + 1 then none else some (i + ns.length)
  | [], g, i => rfl
  | m :: ns, g, i => by
    show (if 1 ≤ m ∧ m ≤ g + 1 then fw (max g m) (i + 1) (ns ++ [n]) else some i) = match (if 1 ≤ m ∧ m ≤ g + 1 then fw (max g m) (i + 1) ns else some i) with
      | some j => some j
      | none => if 1 ≤ n ∧ n ≤ ns.foldl max (max g m) + 1 then none else some (i + (ns.length + 1))
    by_cases h : 1 ≤ m ∧ m ≤ g + 1
    · rw [if_pos h, if_pos h, fw_snoc n ns (max g m) (i + 1)]
      have e : i + 1 + ns.length = i + (ns.length + 1) := by omega
      rw [e]
    · rw [if_neg h, if_neg h]
theorem po_nil : Po [] := rfl
theorem po_snoc {ns : List Int} {n : Int} : Po (ns ++ [n]) ↔ Po ns ∧ 1 ≤ n ∧ n ≤ top ns + 1 := by
  unfold Po top
  rw [fw_snoc]
  cases h : fw 0 0 ns with
  | some j => simp
  | none =>
    by_cases h2 : 1 ≤ n ∧ n ≤ ns.foldl max 0 + 1
    · simp [if_pos h2, h2]
    · simp only [if_neg h2, true_and]
      constructor
      · intro h; cases h
      · intro h; exact absurd h h2
theorem top_nil : top [] = 0 := rfl
theorem top_snoc {ns : List Int} {n : Int} : top (ns ++ [n]) = max (top ns) n := by
  unfold top
  rw [List.foldl_append]
  rfl
/-- induction from the end -/
theorem snoc_ind {α : Type} {P : List α → Prop} (h0 : P []) (h1 : ∀ l x, P l → P (l ++ [x])) : ∀ l, P l := by
  intro l
  have key : ∀ n (l : List α), l.length = n → P l := by
    intro n
    induction n with
    | zero => intro l hl; rw [List.length_eq_zero_iff.mp hl]; exact h0
    | succ n ih =>
      intro l hl
      have hne : l ≠ [] := by intro e; rw [e] at hl; cases hl
      rw [← List.dropLast_concat_getLast hne]
      exact h1 _ _ (ih _ (by rw [List.length_dropLast, hl]; rfl))
  exact key l.length l rfl
theorem top_nonneg (ns : List Int) : 0 ≤ top ns := by
  induction ns using snoc_ind with
  | h0 => exact Int.le_refl 0
  | h1 l x ih => rw [top_snoc]; omega
theorem le_top {ns : List Int} {n : Int} (h : n ∈ ns) : n ≤ top ns := by
  induction ns using snoc_ind with
  | h0 => cases h
  | h1 l x ih =>
    rw [top_snoc]
    rcases List.mem_append.mp h with h | h
    · have := ih h; omega
    · have := List.mem_singleton.mp h; omega
theorem po_pos {ns : List Int} (h : Po ns) : ∀ n ∈ ns, 1 ≤ n := by
  induction ns using snoc_ind with
  | h0 => intro n hn; cases hn
  | h1 l x ih =>
    have h2 := po_snoc.mp h
    intro n hn
    rcases List.mem_append.mp hn with h3 | h3
    · exact ih h2.1 n h3
    · rw [List.mem_singleton.mp h3]; exact h2.2.1
theorem top_le_len {ns : List Int} (h : Po ns) : top ns ≤ ns.length := by
  induction ns using snoc_ind with
  | h0 => exact Int.le_refl 0
  | h1 l x ih =>
    have h2 := po_snoc.mp h
    have h3 := ih h2.1
    rw [top_snoc, List.length_append, List.length_singleton]
    omega
theorem po_has {ns : List Int} (h : Po ns) : ∀ v, 1 ≤ v → v ≤ top ns → v ∈ ns := by
  induction ns using snoc_ind with
  | h0 => intro v h1 h2; rw [top_nil] at h2; omega
  | h1 l x ih =>
    have h2 := po_snoc.mp h
    intro v hv1 hv2
    rw [top_snoc] at hv2
    by_cases hx : v = x
    · rw [hx]; exact List.mem_append_right _ (List.mem_singleton.mpr rfl)
    · exact List.mem_append_left _ (ih h2.1 v hv1 (by omega))
theorem po_pre {ns ms : List Int} (h : Po (ns ++ ms)) : Po ns := by
  induction ms using snoc_ind with
  | h0 => rw [List.append_nil] at h; exact h
  | h1 l x ih =>
    rw [← List.append_assoc] at h
    exact ih (po_snoc.mp h).1
theorem po_take {ns : List Int} (h : Po ns) (i : Nat) : Po (ns.take i) := by
  rw [← List.take_append_drop i ns] at h
  exact po_pre h
theorem top_mono {ns ms : List Int} : top ns ≤ top (ns ++ ms) := by
  induction ms using snoc_ind with
  | h0 => rw [List.append_nil]; exact Int.le_refl _
  | h1 l x ih => rw [← List.append_assoc, top_snoc]; omega
theorem getD_mem {ns : List Int} {i : Nat} (h : i < ns.length) : ns.getD i 0 ∈ ns := by
  rw [List.getD_eq_getElem?_getD, List.getElem?_eq_getElem h]
  exact List.getElem_mem h
theorem fw_some : ∀ (ns : List Int) (g : Int) (j k : Nat), fw g j ns = some k → ∃ i, k = j + i ∧ i < ns.length ∧ fw g j (ns.take i) = none ∧ ∀ bs, fw g j (ns.take (i + 1) ++ bs) = some k
  | [], g, j, k, h => by cases h
  | n :: ns, g, j, k, h => by
    have h1 : (if 1 ≤ n ∧ n ≤ g + 1 then fw (max g n) (j + 1) ns else some j) = some k := h
    by_cases hc : 1 ≤ n ∧ n ≤ g + 1
    · rw [if_pos hc] at h1
      obtain ⟨i, e1, e2, e3, e4⟩ := fw_some ns _ _ _ h1
      refine ⟨i + 1, by omega, by simp only [List.length_cons]; omega, ?_, fun bs => ?_⟩
      · show (if 1 ≤ n ∧ n ≤ g + 1 then fw (max g n) (j + 1) (ns.take i) else some j) = none
        rw [if_pos hc, e3]
      · show (if 1 ≤ n ∧ n ≤ g + 1 then fw (max g n) (j + 1) (ns.take (i + 1) ++ bs) else some j) = some k
        rw [if_pos hc, e4]
    · rw [if_neg hc] at h1
      cases h1
      refine ⟨0, by omega, by simp only [List.length_cons]; omega, rfl, fun bs => ?_⟩
      show (if 1 ≤ n ∧ n ≤ g + 1 then fw (max g n) (j + 1) ([] ++ bs) else some j) = some j
      rw [if_neg hc]
theorem fw_some0 {ns : List Int} {k : Nat} (h : fw 0 0 ns = some k) : k < ns.length ∧ fw 0 0 (ns.take k) = none ∧ ∀ bs, fw 0 0 (ns.take (k + 1) ++ bs) = some k := by
  obtain ⟨i, e1, e2, e3, e4⟩ := fw_some ns 0 0 k h
  obtain rfl : k = i := by omega
  exact ⟨e2, e3, e4⟩
theorem fw_take {ns : List Int} {k : Nat} (h : fw 0 0 ns = some k) (e : Nat) : fw 0 0 (ns.take e) = none ↔ e ≤ k := by
  obtain ⟨h1, h2, h3⟩ := fw_some0 h
  constructor
  · intro h4
    by_cases hk : e ≤ k
    · exact hk
    · have e1 : ns.take e = ns.take (k + 1) ++ (ns.take e).drop (k + 1) := by
        have e2 : (ns.take e).take (k + 1) = ns.take (k + 1) := by rw [List.take_take, Nat.min_eq_left (by omega)]
        rw [← e2, List.take_append_drop]
      rw [e1, h3] at h4
      cases h4
  · intro hk
    have e1 : ns.take e = (ns.take k).take e := by rw [List.take_take, Nat.min_eq_left hk]
    rw [e1]
    exact po_take h2 e
def optD : Option Nat → PyData
  | none => .none
  | some i => .int (i : Nat)
theorem At_opt {K : PySem.W.Frag} {L : List Fc} {M : List Cell} {o : Option Nat} : At L M (fD K (optV o) (optD o)) := by
  cases o with
  | none => exact Sa.At.non
  | some i => exact Sa.At.int
theorem depth_opt {o : Option Nat} {n : Nat} : (optD o).depth < n + 1 := by
  cases o with
  | none => exact Sa.depth_none
  | some i => exact Sa.depth_int
/-! ### numbers of chains -/
/-- what stands in F at the places ahead of i at which a number stands, added up -/
def smA (ns F : List Int) (i : Nat) (v : Int) : Int := (((Sa.rg 0 i).filter fun e => decide (ns.getD e.toNat 0 = v)).map fun e => F.getD e.toNat 0).sum
theorem smA_zero (ns F : List Int) (v : Int) : smA ns F 0 v = 0 := rfl
theorem smA_succ (ns F : List Int) (i : Nat) (v : Int) : smA ns F (i + 1) v = smA ns F i v + if ns.getD i 0 = v then F.getD i 0 else 0 := by
  unfold smA
  rw [Sa.rg_succ, List.filter_append, List.map_append, List.sum_append, Int.zero_add, List.filter_cons]
  congr 1
  rw [Int.toNat_natCast]
  by_cases h : ns.getD i 0 = v
  · rw [if_pos (decide_eq_true h), if_pos h]
    simp
  · rw [if_neg (by rw [decide_eq_false h]; decide), if_neg h]
    rfl
theorem smA_ext {ns ms F G : List Int} {v : Int} : ∀ {i : Nat}, (∀ j, j < i → ns.getD j 0 = ms.getD j 0) → (∀ j, j < i → F.getD j 0 = G.getD j 0) → smA ns F i v = smA ms G i v
  | 0, _, _ => rfl
  | i + 1, h1, h2 => by
    rw [smA_succ, smA_succ, smA_ext (fun j hj => h1 j (by omega)) (fun j hj => h2 j (by omega)), h1 i (by omega), h2 i (by omega)]
def cuL (ns : List Int) : Nat → List Int
  | 0 => []
  | i + 1 => cuL ns i ++ [if ns.getD i 0 = 1 then 1 else smA ns (cuL ns i) i (ns.getD i 0 - 1)]
theorem cuL_len (ns : List Int) : ∀ i : Nat, (cuL ns i).length = i
  | 0 => rfl
  | i + 1 => by
    show (cuL ns i ++ [_]).length = i + 1
    rw [List.length_append, cuL_len]
    rfl
theorem cuL_last (ns : List Int) (i : Nat) : (cuL ns (i + 1)).getD i 0 = if ns.getD i 0 = 1 then 1 else smA ns (cuL ns i) i (ns.getD i 0 - 1) := by
  show (cuL ns i ++ [_]).getD i 0 = _
  rw [List.getD_eq_getElem?_getD, List.getElem?_append_right (by rw [cuL_len]; exact Nat.le_refl _), cuL_len, Nat.sub_self]
  rfl
theorem cuL_pre (ns : List Int) {j : Nat} : ∀ {i : Nat}, j < i → (cuL ns (i + 1)).getD j 0 = (cuL ns i).getD j 0 := fun {i} h => by
  show (cuL ns i ++ [_]).getD j 0 = _
  rw [List.getD_eq_getElem?_getD, List.getElem?_append_left (by rw [cuL_len]; exact h), List.getD_eq_getElem?_getD]
theorem cuL_at (ns : List Int) {j : Nat} : ∀ {i : Nat}, j < i → (cuL ns i).getD j 0 = (cuL ns (j + 1)).getD j 0
  | 0, h => absurd h (Nat.not_lt_zero _)
  | i + 1, h => by
    by_cases e : j = i
    · rw [e]
    · rw [cuL_pre ns (by omega), cuL_at ns (by omega)]
theorem cuL_ext {ns ms : List Int} : ∀ {i : Nat}, (∀ j, j < i → ns.getD j 0 = ms.getD j 0) → cuL ns i = cuL ms i
  | 0, _ => rfl
  | i + 1, h => by
    have ih := cuL_ext (i := i) (fun j hj => h j (by omega))
    show cuL ns i ++ [if ns.getD i 0 = 1 then 1 else smA ns (cuL ns i) i (ns.getD i 0 - 1)] = cuL ms i ++ [if ms.getD i 0 = 1 then 1 else smA ms (cuL ms i) i (ms.getD i 0 - 1)]
    rw [ih, h i (by omega), smA_ext (F := cuL ms i) (G := cuL ms i) (fun j hj => h j (by omega)) (fun _ _ => rfl)]
theorem getD_take {ns : List Int} {j m : Nat} (h : j < m) : (ns.take m).getD j 0 = ns.getD j 0 := by
  rw [List.getD_eq_getElem?_getD, List.getElem?_take_of_lt h, List.getD_eq_getElem?_getD]
theorem cuL_take {ns : List Int} {i m : Nat} (h : i ≤ m) : cuL (ns.take m) i = cuL ns i := cuL_ext fun j hj => getD_take (by omega)
/-- how many chains -/
def chN (ns : List Int) : Int := if ns.length = 0 then 1 else (cuL ns ns.length).getD (ns.length - 1) 0
theorem ch_take {ns : List Int} {s : Nat} (h : s ≤ ns.length) : chN (ns.take s) = (1 :: cuL ns ns.length).getD s 0 := by
  unfold chN
  rw [List.length_take, Nat.min_eq_left h, cuL_take (Nat.le_refl _)]
  cases s with
  | zero => rfl
  | succ s =>
    rw [if_neg (by omega), Nat.add_sub_cancel, List.getD_cons_succ, cuL_at ns (i := ns.length) (by omega)]
/-- the numbers of chains by the number at their end -/
def enN (ns : List Int) (i : Nat) (v : Int) : Int := if v = 0 then 1 else smA ns (cuL ns i) i v
theorem enN_new {ns : List Int} (i : Nat) (v : Int) (hv : v ≠ 0) : enN ns (i + 1) v = enN ns i v + if ns.getD i 0 = v then (if ns.getD i 0 = 1 then 1 else smA ns (cuL ns i) i (ns.getD i 0 - 1)) else 0 := by
  unfold enN
  rw [if_neg hv, if_neg hv, smA_succ, smA_ext (G := cuL ns i) (fun _ _ => rfl) (fun j hj => cuL_pre ns hj), cuL_last]
theorem enN_el {ns : List Int} (i : Nat) : (if ns.getD i 0 = 1 then 1 else smA ns (cuL ns i) i (ns.getD i 0 - 1)) = enN ns i (ns.getD i 0 - 1) := by
  unfold enN
  by_cases h : ns.getD i 0 = 1
  · rw [if_pos h, if_pos (by omega)]
  · rw [if_neg h, if_neg (by omega)]
/-! ### sums -/
/-- f 0 + .. + f (m - 1) -/
def sN : Nat → (Nat → Int) → Int
  | 0, _ => 0
  | m + 1, f => sN m f + f m
theorem sN_ext {f g : Nat → Int} : ∀ {m : Nat}, (∀ i, i < m → f i = g i) → sN m f = sN m g
  | 0, _ => rfl
  | m + 1, h => by
    show sN m f + f m = sN m g + g m
    rw [sN_ext fun i hi => h i (by omega), h m (by omega)]
theorem sN_zero {f : Nat → Int} : ∀ {m : Nat}, (∀ i, i < m → f i = 0) → sN m f = 0
  | 0, _ => rfl
  | m + 1, h => by
    show sN m f + f m = 0
    rw [sN_zero fun i hi => h i (by omega), h m (by omega)]
    rfl
theorem sN_add {f g : Nat → Int} : ∀ m : Nat, sN m (fun i => f i + g i) = sN m f + sN m g
  | 0 => rfl
  | m + 1 => by
    show sN m (fun i => f i + g i) + (f m + g m) = sN m f + f m + (sN m g + g m)
    rw [sN_add m]
    omega
theorem sN_mul {c : Int} {f : Nat → Int} : ∀ m : Nat, sN m (fun i => c * f i) = c * sN m f
  | 0 => (Int.mul_zero c).symm
  | m + 1 => by
    show sN m (fun i => c * f i) + c * f m = c * (sN m f + f m)
    rw [sN_mul m, Int.mul_add]
theorem sN_swap {f : Nat → Nat → Int} (n : Nat) : ∀ m : Nat, sN m (fun i => sN n fun j => f i j) = sN n fun j => sN m fun i => f i j
  | 0 => (sN_zero fun _ _ => rfl).symm
  | m + 1 => by
    show sN m (fun i => sN n fun j => f i j) + sN n (fun j => f m j) = sN n fun j => sN m (fun i => f i j) + f m j
    rw [sN_swap n m, ← sN_add]
theorem sN_nn {f : Nat → Int} : ∀ {m : Nat}, (∀ i, i < m → 0 ≤ f i) → 0 ≤ sN m f
  | 0, _ => Int.le_refl 0
  | m + 1, h => by
    have := sN_nn (m := m) fun i hi => h i (by omega)
    have := h m (by omega)
    show 0 ≤ sN m f + f m
    omega
theorem sN_ge {f : Nat → Int} {k : Nat} : ∀ {m : Nat}, (∀ i, i < m → 0 ≤ f i) → k < m → f k ≤ sN m f
  | 0, _, h => absurd h (Nat.not_lt_zero _)
  | m + 1, h, hk => by
    have h1 := h m (by omega)
    have h2 := sN_nn (m := m) fun i hi => h i (by omega)
    show f k ≤ sN m f + f m
    by_cases e : k = m
    · rw [e]
      omega
    · have := sN_ge (m := m) (fun i hi => h i (by omega)) (by omega : k < m)
      omega
/-- one place alone -/
theorem sN_one {f : Nat → Int} {k : Nat} : ∀ {m : Nat}, (∀ i, i < m → i ≠ k → f i = 0) → k < m → sN m f = f k
  | 0, _, h => absurd h (Nat.not_lt_zero _)
  | m + 1, h, hk => by
    show sN m f + f m = f k
    by_cases e : k = m
    · rw [sN_zero fun i hi => h i (by omega) (by omega), e]
      omega
    · rw [sN_one (m := m) (fun i hi => h i (by omega)) (by omega), h m (by omega) (fun z => e z.symm)]
      omega
/-- where one place has all, the others have nothing -/
theorem sN_rest {f : Nat → Int} {k : Nat} : ∀ {m : Nat}, (∀ i, i < m → 0 ≤ f i) → k < m → sN m f = f k → ∀ i, i < m → i ≠ k → f i = 0
  | 0, _, h, _ => absurd h (Nat.not_lt_zero _)
  | m + 1, h, hk, e => fun i hi hik => by
    have e' : sN m f + f m = f k := e
    have hm := h m (by omega)
    have hs := sN_nn (m := m) fun i hi => h i (by omega)
    by_cases ek : k = m
    · subst ek
      have hi' : i < k := by omega
      have := sN_ge (m := k) (fun i hi => h i (by omega)) hi'
      have := h i (by omega)
      omega
    · have hg := sN_ge (m := m) (fun i hi => h i (by omega)) (by omega : k < m)
      by_cases ei : i = m
      · rw [ei]
        omega
      · exact sN_rest (m := m) (fun i hi => h i (by omega)) (by omega) (by omega) i (by omega) hik
/-- a sum over a part of a range -/
theorem sum_rg (a : Int) (q : Int → Bool) (F : Int → Int) : ∀ m : Nat, (((Sa.rg a m).filter q).map F).sum = sN m fun j => if q (a + (j : Nat)) then F (a + (j : Nat)) else 0
  | 0 => rfl
  | m + 1 => by
    rw [Sa.rg_succ, List.filter_append, List.map_append, List.sum_append, sum_rg a q F m]
    show _ = sN m _ + _
    congr 1
    rw [List.filter_cons]
    by_cases h : q (a + (m : Nat)) = true
    · simp [h]
    · simp [h]
/-- a sum from a place on, as one over all places -/
theorem sN_from (f : Nat → Int) (a : Nat) : ∀ m : Nat, sN (a + m) (fun j => if a ≤ j then f j else 0) = sN m fun j => f (a + j)
  | 0 => sN_zero fun i hi => if_neg (by omega)
  | m + 1 => by
    show sN (a + m) (fun j => if a ≤ j then f j else 0) + (if a ≤ a + m then f (a + m) else 0) = sN m (fun j => f (a + j)) + f (a + m)
    rw [sN_from f a m, if_pos (by omega)]
theorem sN_to (f : Nat → Int) (a : Nat) : ∀ m : Nat, sN (a + m) (fun j => if j < a then f j else 0) = sN a f
  | 0 => sN_ext fun i hi => if_pos (by omega)
  | m + 1 => by
    show sN (a + m) (fun j => if j < a then f j else 0) + (if a + m < a then f (a + m) else 0) = _
    rw [sN_to f a m, if_neg (by omega)]
    omega
theorem sN_mono {f g : Nat → Int} : ∀ {m : Nat}, (∀ i, i < m → f i ≤ g i) → sN m f ≤ sN m g
  | 0, _ => Int.le_refl 0
  | m + 1, h => by
    have := sN_mono (m := m) fun i hi => h i (by omega)
    have := h m (by omega)
    show sN m f + f m ≤ sN m g + g m
    omega
theorem sN_two : ∀ m : Nat, sN m (fun j => (2 : Int) ^ j) = 2 ^ m - 1
  | 0 => rfl
  | m + 1 => by
    show sN m (fun j => (2 : Int) ^ j) + 2 ^ m = 2 ^ (m + 1) - 1
    rw [sN_two m, Int.pow_succ]
    omega
/-- what the board shows in a gap -/
def sh (ns : List Int) (g : Int) : Int := if g = 0 then 0 else ns.getD (g - 1).toNat 0
/-- the gaps in which a write may have read -/
def gp (ns : List Int) (i : Int) : List Int := (Sa.rg 0 (i + 1).toNat).filter fun g => decide (sh ns g = ns.getD i.toNat 0 - 1)
theorem gp_len (ns : List Int) (i : Int) : (gp ns i).length ≤ (i + 1).toNat := by
  unfold gp
  have h := List.length_filter_le (fun g => decide (sh ns g = ns.getD i.toNat 0 - 1)) (Sa.rg 0 (i + 1).toNat)
  rw [Sa.rg_len] at h
  exact h
theorem gp_mem {ns : List Int} {i x : Int} : x ∈ gp ns i ↔ (0 ≤ x ∧ x < 0 + ((i + 1).toNat : Int)) ∧ sh ns x = ns.getD i.toNat 0 - 1 := by
  unfold gp
  rw [List.mem_filter, Sa.mem_rg, decide_eq_true_iff]
/-- the last number, 0 of none -/
def lst (ns : List Int) : Int := ns.getD (ns.length - 1) 0
def gl (ns : List Int) (i lo : Int) : List Int := (Sa.rg lo (i + 1 - lo).toNat).filter fun g => decide (sh ns g = ns.getD i.toNat 0 - 1)
theorem gl_len (ns : List Int) (i lo : Int) : (gl ns i lo).length ≤ (i + 1 - lo).toNat := by
  unfold gl
  have h := List.length_filter_le (fun g => decide (sh ns g = ns.getD i.toNat 0 - 1)) (Sa.rg lo (i + 1 - lo).toNat)
  rw [Sa.rg_len] at h
  exact h
theorem gl_mem {ns : List Int} {i lo x : Int} : x ∈ gl ns i lo ↔ (lo ≤ x ∧ x < lo + ((i + 1 - lo).toNat : Int)) ∧ sh ns x = ns.getD i.toNat 0 - 1 := by
  unfold gl
  rw [List.mem_filter, Sa.mem_rg, decide_eq_true_iff]
theorem getD_at {ns : List Int} {i : Nat} {v : Int} (h : ns[i]? = some v) : ns.getD i 0 = v := by
  rw [List.getD_eq_getElem?_getD, h]
  rfl
theorem po_at {ns : List Int} (h : Po ns) {i : Nat} (hi : i < ns.length) : 1 ≤ ns.getD i 0 ∧ ns.getD i 0 ≤ top (ns.take i) + 1 := by
  have h1 := po_take h (i + 1)
  have e : ns.take (i + 1) = ns.take i ++ [ns.getD i 0] := by
    rw [List.take_succ_eq_append_getElem hi, List.getD_eq_getElem?_getD, List.getElem?_eq_getElem hi]
    rfl
  rw [e] at h1
  exact (po_snoc.mp h1).2
theorem gl_ne {ns : List Int} (h : Po ns) {i : Nat} (hi : i < ns.length) : 0 < (gl ns i 0).length := by
  obtain ⟨h1, h2⟩ := po_at h hi
  by_cases h3 : ns.getD i 0 = 1
  · refine List.length_pos_of_mem (a := (0 : Int)) (gl_mem.mpr ⟨⟨by omega, by omega⟩, ?_⟩)
    rw [Int.toNat_natCast, h3]
    rfl
  · have h4 := po_has (po_take h i) (ns.getD i 0 - 1) (by omega) (by omega)
    obtain ⟨j, hj⟩ := List.mem_iff_getElem?.mp h4
    have h5 := (List.getElem?_eq_some_iff.mp hj).1
    rw [List.length_take] at h5
    rw [List.getElem?_take_of_lt (by omega)] at hj
    refine List.length_pos_of_mem (a := ((j : Int) + 1)) (gl_mem.mpr ⟨⟨by omega, by omega⟩, ?_⟩)
    rw [Int.toNat_natCast]
    unfold sh
    rw [if_neg (by omega), show ((j : Int) + 1 - 1).toNat = j by omega]
    exact getD_at hj
/-- a course's beginning -/
def Cp (ns F : List Int) (n : Nat) : Prop := F.length = n ∧ ∀ j, j < n → 0 ≤ F.getD j 0 ∧ F.getD j 0 ≤ j ∧ sh ns (F.getD j 0) = ns.getD j 0 - 1
theorem cp_snoc {ns F : List Int} {n : Nat} {x : Int} (h : Cp ns F n) (hx : x ∈ gl ns n 0) : Cp ns (F ++ [x]) (n + 1) := by
  refine ⟨by rw [List.length_append, h.1]; rfl, fun j hj => ?_⟩
  by_cases h2 : j < n
  · have e : (F ++ [x]).getD j 0 = F.getD j 0 := by
      rw [List.getD_eq_getElem?_getD, List.getElem?_append_left (by rw [h.1]; exact h2), List.getD_eq_getElem?_getD]
    rw [e]
    exact h.2 j h2
  · obtain rfl : j = n := by omega
    have e : (F ++ [x]).getD j 0 = x := by
      rw [List.getD_eq_getElem?_getD, List.getElem?_append_right (by rw [h.1]; exact Nat.le_refl _), h.1, Nat.sub_self]
      rfl
    rw [e]
    obtain ⟨⟨h3, h4⟩, h5⟩ := gl_mem.mp hx
    rw [Int.toNat_natCast] at h5
    exact ⟨h3, by omega, h5⟩
theorem lst_sh (ns : List Int) : sh ns (ns.length : Int) = lst ns := by
  unfold sh lst
  by_cases h : ns.length = 0
  · rw [if_pos (by omega), List.length_eq_zero_iff.mp h]
    rfl
  · rw [if_neg (by omega), show ((ns.length : Int) - 1).toNat = ns.length - 1 by omega]
theorem sh_pos {ns : List Int} {s : Int} (h : 0 ≤ s) : sh ns (s + 1) = ns.getD s.toNat 0 := by
  unfold sh
  rw [if_neg (by omega), show (s + 1 - 1) = s by omega]
theorem cut_less {ns : List Int} : cutV (ns.map V.int) none (some (-1)) = ns.dropLast.map V.int := by
  have e : HT.sIx (ns.map V.int).length (ns.map V.int).length (some (-1)) = ns.length - 1 := by
    rw [List.length_map]
    show (if (-1 : Int) < 0 then ((-1 : Int) + (ns.length : Int)).toNat else min (-1 : Int).toNat ns.length) = ns.length - 1
    rw [if_pos (by decide)]
    omega
  unfold cutV
  rw [e, HT.sIx_none, List.drop_zero, Nat.sub_zero, List.dropLast_eq_take, List.map_take]
theorem lst_some {ns : List Int} (h : Po ns) (h0 : 0 < ns.length) : 1 ≤ lst ns ∧ lst ns ≤ ns.length := by
  have h1 := po_at h (i := ns.length - 1) (by omega)
  have h2 := top_le_len (po_take h (ns.length - 1))
  rw [List.length_take] at h2
  unfold lst
  omega
theorem po_less {ns : List Int} (h : Po ns) : Po ns.dropLast := by
  rw [List.dropLast_eq_take]
  exact po_take h _
theorem dput_len (kvs : List (Key × V)) (n : Int) (v : V) : (Sa.dput kvs n v).length ≤ kvs.length + 1 := length_putK kvs _ v
theorem last_of {ms : List Int} (h : 0 < ms.length) : (ms ++ [0]).getD ((-1 : Int) - (1 : Int) + ((ms ++ [0]).length : Int)).toNat 0 = lst ms := by
  have e : ((-1 : Int) - (1 : Int) + ((ms ++ [0]).length : Int)).toNat = ms.length - 1 := by
    simp only [List.length_append, List.length_cons, List.length_nil]
    omega
  unfold lst
  rw [e, List.getD_eq_getElem?_getD, List.getElem?_append_left (by omega), List.getD_eq_getElem?_getD]
/-! ### chains onward, and through -/
/-- what stands in F from a place on, m places, where a number stands, added up -/
def smB (ns F : List Int) (a : Int) (m : Nat) (v : Int) : Int := (((Sa.rg a m).filter fun e => decide (ns.getD e.toNat 0 = v)).map fun e => F.getD e.toNat 0).sum
theorem smB_sN (ns F : List Int) (a m : Nat) (v : Int) : smB ns F a m v = sN (a + m) fun j => if a ≤ j then (if ns.getD j 0 = v then F.getD j 0 else 0) else 0 := by
  unfold smB
  rw [sum_rg, sN_from (fun j => if ns.getD j 0 = v then F.getD j 0 else 0)]
  refine sN_ext fun j _ => ?_
  rw [show ((a : Int) + (j : Nat)).toNat = a + j by omega]
  by_cases h : ns.getD (a + j) 0 = v
  · rw [if_pos (decide_eq_true h), if_pos h]
  · rw [if_neg (by rw [decide_eq_false h]; decide), if_neg h]
theorem smA_sN (ns F : List Int) (i m : Nat) (v : Int) (h : i ≤ m) : smA ns F i v = sN m fun j => if j < i then (if ns.getD j 0 = v then F.getD j 0 else 0) else 0 := by
  obtain ⟨k, rfl⟩ : ∃ k, m = i + k := ⟨m - i, by omega⟩
  rw [sN_to (fun j => if ns.getD j 0 = v then F.getD j 0 else 0)]
  unfold smA
  rw [sum_rg]
  refine sN_ext fun j _ => ?_
  rw [show ((0 : Int) + (j : Nat)).toNat = j by omega]
  by_cases h : ns.getD j 0 = v
  · rw [if_pos (decide_eq_true h), if_pos h]
  · rw [if_neg (by rw [decide_eq_false h]; decide), if_neg h]
def coL (ns : List Int) : Nat → List Int
  | 0 => List.replicate ns.length 0
  | k + 1 => (coL ns k).set (ns.length - 1 - k) (if k = 0 then 1 else smB ns (coL ns k) ((ns.length - k : Nat) : Int) k (ns.getD (ns.length - 1 - k) 0 + 1))
theorem coL_len (ns : List Int) : ∀ k : Nat, (coL ns k).length = ns.length
  | 0 => List.length_replicate
  | k + 1 => by
    show ((coL ns k).set _ _).length = _
    rw [List.length_set, coL_len ns k]
theorem getD_setH {xs : List Int} {i j : Nat} {v : Int} (h : i < xs.length) : (xs.set i v).getD j 0 = if j = i then v else xs.getD j 0 := by
  rw [List.getD_eq_getElem?_getD, List.getD_eq_getElem?_getD]
  by_cases e : j = i
  · subst e
    rw [List.getElem?_set_self h, if_pos rfl]
    rfl
  · rw [List.getElem?_set_ne (fun z => e z.symm), if_neg e]
theorem coL_low (ns : List Int) {j : Nat} : ∀ {k : Nat}, k ≤ ns.length → j < ns.length - k → (coL ns k).getD j 0 = 0
  | 0, _, h => by
    show (List.replicate ns.length (0 : Int)).getD j 0 = 0
    rw [List.getD_eq_getElem?_getD, List.getElem?_replicate]
    by_cases e : j < ns.length
    · rw [if_pos e]; rfl
    · rw [if_neg e]; rfl
  | k + 1, hk, h => by
    show ((coL ns k).set _ _).getD j 0 = 0
    rw [getD_setH (by rw [coL_len]; omega), if_neg (by omega), coL_low ns (by omega) (by omega)]
theorem coL_keep (ns : List Int) {j : Nat} {k : Nat} : ∀ {m : Nat}, k ≤ m → m ≤ ns.length → ns.length - k ≤ j → (coL ns m).getD j 0 = (coL ns k).getD j 0
  | 0, h, _, _ => by rw [show k = 0 by omega]
  | m + 1, h, hm, hj => by
    by_cases e : k = m + 1
    · rw [e]
    · show ((coL ns m).set _ _).getD j 0 = _
      rw [getD_setH (by rw [coL_len]; omega), if_neg (by omega), coL_keep ns (k := k) (m := m) (by omega) (by omega) hj]
/-- how many chains lead on from a write -/
def onN (ns : List Int) (i : Nat) : Int := (coL ns ns.length).getD i 0
/-- how many chains lead up to a write -/
def upN (ns : List Int) (i : Nat) : Int := (cuL ns ns.length).getD i 0
theorem onN_eq {ns : List Int} {i : Nat} (h : i < ns.length) : onN ns i = if i = ns.length - 1 then 1 else sN ns.length fun j => if i < j then (if ns.getD j 0 = ns.getD i 0 + 1 then onN ns j else 0) else 0 := by
  have e1 : onN ns i = (coL ns (ns.length - 1 - i + 1)).getD i 0 := coL_keep ns (by omega) (Nat.le_refl _) (by omega)
  have e2 : (coL ns (ns.length - 1 - i + 1)).getD i 0 = if ns.length - 1 - i = 0 then 1 else smB ns (coL ns (ns.length - 1 - i)) ((ns.length - (ns.length - 1 - i) : Nat) : Int) (ns.length - 1 - i) (ns.getD i 0 + 1) := by
    show ((coL ns (ns.length - 1 - i)).set (ns.length - 1 - (ns.length - 1 - i)) (if ns.length - 1 - i = 0 then 1 else smB ns (coL ns (ns.length - 1 - i)) ((ns.length - (ns.length - 1 - i) : Nat) : Int) (ns.length - 1 - i) (ns.getD (ns.length - 1 - (ns.length - 1 - i)) 0 + 1))).getD i 0 = _
    rw [show ns.length - 1 - (ns.length - 1 - i) = i by omega, getD_setH (by rw [coL_len]; omega), if_pos rfl]
  rw [e1, e2]
  by_cases e : i = ns.length - 1
  · rw [if_pos (by omega), if_pos e]
  · rw [if_neg (by omega), if_neg e, smB_sN, show ns.length - (ns.length - 1 - i) + (ns.length - 1 - i) = ns.length by omega]
    refine sN_ext fun j hj => ?_
    by_cases hij : i < j
    · rw [if_pos (by omega), if_pos hij]
      by_cases hv : ns.getD j 0 = ns.getD i 0 + 1
      · rw [if_pos hv, if_pos hv]
        exact (coL_keep ns (by omega) (Nat.le_refl _) (by omega)).symm
      · rw [if_neg hv, if_neg hv]
    · rw [if_neg (by omega), if_neg hij]
theorem upN_eq {ns : List Int} {i : Nat} (h : i < ns.length) : upN ns i = if ns.getD i 0 = 1 then 1 else sN ns.length fun j => if j < i then (if ns.getD j 0 = ns.getD i 0 - 1 then upN ns j else 0) else 0 := by
  have e1 : upN ns i = (cuL ns (i + 1)).getD i 0 := cuL_at ns h
  rw [e1, cuL_last, smA_sN ns _ i ns.length _ (by omega)]
  by_cases e : ns.getD i 0 = 1
  · rw [if_pos e, if_pos e]
  · rw [if_neg e, if_neg e]
    refine sN_ext fun j hj => ?_
    by_cases hij : j < i
    · rw [if_pos hij, if_pos hij, cuL_at ns hij, ← cuL_at ns hj]
      rfl
    · rw [if_neg hij, if_neg hij]
theorem onN_nn {ns : List Int} : ∀ (d i : Nat), i < ns.length → ns.length - i ≤ d → 0 ≤ onN ns i
  | 0, i, h, hd => by omega
  | d + 1, i, h, hd => by
    rw [onN_eq h]
    by_cases e : i = ns.length - 1
    · rw [if_pos e]; decide
    · rw [if_neg e]
      refine sN_nn fun j hj => ?_
      by_cases h1 : i < j
      · rw [if_pos h1]
        by_cases h2 : ns.getD j 0 = ns.getD i 0 + 1
        · rw [if_pos h2]
          exact onN_nn d j hj (by omega)
        · rw [if_neg h2]; exact Int.le_refl 0
      · rw [if_neg h1]; exact Int.le_refl 0
/-- in a possible list a write that is no 1 has one ahead of it that is one less -/
theorem po_elder {ns : List Int} (hP : Po ns) {i : Nat} (h : i < ns.length) : 1 ≤ ns.getD i 0 ∧ (ns.getD i 0 ≠ 1 → ∃ j, j < i ∧ ns.getD j 0 = ns.getD i 0 - 1) := by
  have a := po_at hP h
  refine ⟨a.1, fun e => ?_⟩
  have m := po_has (po_take hP i) (ns.getD i 0 - 1) (by omega) (by omega)
  obtain ⟨j, hj, ej⟩ := List.getElem_of_mem m
  rw [List.length_take] at hj
  refine ⟨j, by omega, ?_⟩
  rw [← ej, List.getElem_take, List.getD_eq_getElem?_getD, List.getElem?_eq_getElem (by omega)]
  rfl
theorem upN_pos {ns : List Int} (hP : Po ns) : ∀ (d i : Nat), i < ns.length → i ≤ d → 1 ≤ upN ns i := fun d => by
  induction d with
  | zero =>
    intro i h hd
    rw [upN_eq h]
    by_cases e : ns.getD i 0 = 1
    · rw [if_pos e]; decide
    · obtain ⟨j, hj, _⟩ := (po_elder hP h).2 e
      omega
  | succ d ih =>
    intro i h hd
    rw [upN_eq h]
    by_cases e : ns.getD i 0 = 1
    · rw [if_pos e]; decide
    · rw [if_neg e]
      obtain ⟨j, hj, hv⟩ := (po_elder hP h).2 e
      have h1 := ih j (by omega) (by omega)
      have h2 := sN_ge (f := fun j => if j < i then (if ns.getD j 0 = ns.getD i 0 - 1 then upN ns j else 0) else 0) (k := j) (m := ns.length) (fun k hk => by
        show 0 ≤ if k < i then _ else _
        by_cases a : k < i
        · rw [if_pos a]
          by_cases b : ns.getD k 0 = ns.getD i 0 - 1
          · rw [if_pos b]
            have := ih k hk (by omega)
            omega
          · rw [if_neg b]; exact Int.le_refl 0
        · rw [if_neg a]; exact Int.le_refl 0) (by omega)
      have h3 : (if j < i then (if ns.getD j 0 = ns.getD i 0 - 1 then upN ns j else 0) else 0) = upN ns j := by rw [if_pos hj, if_pos hv]
      have h4 : upN ns j ≤ sN ns.length fun j => if j < i then (if ns.getD j 0 = ns.getD i 0 - 1 then upN ns j else 0) else 0 := by
        rw [← h3]
        exact h2
      omega
theorem onN_high {ns : List Int} : ∀ (d i : Nat), i < ns.length → ns.length - i ≤ d → i ≠ ns.length - 1 → ns.getD (ns.length - 1) 0 ≤ ns.getD i 0 → onN ns i = 0
  | 0, i, h, hd, _, _ => by omega
  | d + 1, i, h, hd, hi, hv => by
    rw [onN_eq h, if_neg hi]
    refine sN_zero fun j hj => ?_
    by_cases h1 : i < j
    · rw [if_pos h1]
      by_cases h2 : ns.getD j 0 = ns.getD i 0 + 1
      · rw [if_pos h2]
        exact onN_high d j hj (by omega) (fun e => by rw [e] at h2; omega) (by omega)
      · rw [if_neg h2]
    · rw [if_neg h1]
/-- the chains through the writes of a number -/
def lvN (ns : List Int) (v : Int) : Int := sN ns.length fun i => if ns.getD i 0 = v then upN ns i * onN ns i else 0
theorem lv_step {ns : List Int} {v : Int} (h1 : 1 ≤ v) (h2 : v < ns.getD (ns.length - 1) 0) : lvN ns v = lvN ns (v + 1) := by
  have e1 : lvN ns v = sN ns.length fun i => sN ns.length fun j => if i < j then (if ns.getD i 0 = v then (if ns.getD j 0 = v + 1 then upN ns i * onN ns j else 0) else 0) else 0 := by
    refine sN_ext fun i hi => ?_
    by_cases e : ns.getD i 0 = v
    · rw [if_pos e, onN_eq hi, if_neg (fun z => by rw [z] at e; omega), ← sN_mul, e]
      refine sN_ext fun j hj => ?_
      by_cases h1 : i < j
      · rw [if_pos h1, if_pos h1, if_pos rfl]
        by_cases h2 : ns.getD j 0 = v + 1
        · rw [if_pos h2, if_pos h2]
        · rw [if_neg h2, if_neg h2, Int.mul_zero]
      · rw [if_neg h1, if_neg h1, Int.mul_zero]
    · rw [if_neg e]
      refine (sN_zero fun j hj => ?_).symm
      by_cases h1 : i < j
      · rw [if_pos h1, if_neg e]
      · rw [if_neg h1]
  rw [e1, sN_swap]
  refine sN_ext fun j hj => ?_
  by_cases e : ns.getD j 0 = v + 1
  · rw [if_pos e, upN_eq hj, if_neg (by omega), Int.mul_comm, ← sN_mul]
    refine sN_ext fun i hi => ?_
    by_cases h1 : i < j
    · rw [if_pos h1, if_pos h1, if_pos e, show ns.getD j 0 - 1 = v by omega]
      by_cases h2 : ns.getD i 0 = v
      · rw [if_pos h2, if_pos h2, Int.mul_comm]
      · rw [if_neg h2, if_neg h2, Int.mul_zero]
    · rw [if_neg h1, if_neg h1, Int.mul_zero]
  · rw [if_neg e]
    refine sN_zero fun i hi => ?_
    by_cases h1 : i < j
    · rw [if_pos h1, if_neg e]
      by_cases h2 : ns.getD i 0 = v
      · rw [if_pos h2]
      · rw [if_neg h2]
    · rw [if_neg h1]
theorem lv_last {ns : List Int} (h : 0 < ns.length) : lvN ns (ns.getD (ns.length - 1) 0) = chN ns := by
  unfold lvN chN
  rw [if_neg (by omega), sN_one (k := ns.length - 1) (fun i hi hk => ?_) (by omega), if_pos rfl, onN_eq (by omega), if_pos rfl, Int.mul_one]
  · rfl
  · by_cases e : ns.getD i 0 = ns.getD (ns.length - 1) 0
    · rw [if_pos e, onN_high ns.length i hi (by omega) hk (by omega), Int.mul_zero]
    · rw [if_neg e]
theorem lv_all {ns : List Int} (h : 0 < ns.length) : ∀ (d : Nat) (v : Int), 1 ≤ v → v ≤ ns.getD (ns.length - 1) 0 → ns.getD (ns.length - 1) 0 - v ≤ d → lvN ns v = chN ns
  | 0, v, _, h2, h3 => by
    rw [show v = ns.getD (ns.length - 1) 0 by omega]
    exact lv_last h
  | d + 1, v, h1, h2, h3 => by
    by_cases e : v = ns.getD (ns.length - 1) 0
    · rw [e]
      exact lv_last h
    · rw [lv_step h1 (by omega)]
      exact lv_all h d (v + 1) (by omega) (by omega) (by omega)
/-- a write has all chains through it exactly if no other one of its number has any -/
theorem sure_iff {ns : List Int} (hP : Po ns) {i : Nat} (hi : i < ns.length) : (upN ns i * onN ns i = chN ns) ↔ (0 < onN ns i ∧ ∀ j, j < ns.length → j ≠ i → ns.getD j 0 = ns.getD i 0 → onN ns j = 0) := by
  have hl : 0 < ns.length := by omega
  have hT : 1 ≤ chN ns := by
    have := upN_pos hP ns.length (ns.length - 1) (by omega) (by omega)
    unfold chN
    rw [if_neg (by omega)]
    exact this
  have hon : ∀ j, j < ns.length → 0 ≤ onN ns j := fun j hj => onN_nn ns.length j hj (by omega)
  have hup : ∀ j, j < ns.length → 1 ≤ upN ns j := fun j hj => upN_pos hP ns.length j hj (by omega)
  have hnn : ∀ j, j < ns.length → 0 ≤ (fun j => if ns.getD j 0 = ns.getD i 0 then upN ns j * onN ns j else 0) j := fun j hj => by
    show 0 ≤ if ns.getD j 0 = ns.getD i 0 then upN ns j * onN ns j else 0
    by_cases e : ns.getD j 0 = ns.getD i 0
    · rw [if_pos e]
      exact Int.mul_nonneg (by have := hup j hj; omega) (hon j hj)
    · rw [if_neg e]; exact Int.le_refl 0
  have lv : 0 < onN ns i → lvN ns (ns.getD i 0) = chN ns := fun h0 => by
    refine lv_all hl (ns.getD (ns.length - 1) 0 - ns.getD i 0).toNat _ (po_elder hP hi).1 ?_ ?_
    · by_cases e : i = ns.length - 1
      · rw [e]; exact Int.le_refl _
      · refine Int.not_lt.mp fun hlt => ?_
        rw [onN_high ns.length i hi (by omega) e (by omega)] at h0
        omega
    · by_cases e : i = ns.length - 1
      · rw [e]; omega
      · have : ¬ ns.getD (ns.length - 1) 0 ≤ ns.getD i 0 := fun hle => by
          rw [onN_high ns.length i hi (by omega) e hle] at h0
          omega
        omega
  constructor
  · intro h
    have h0 : 0 < onN ns i := by
      have := hon i hi
      have nz : onN ns i ≠ 0 := fun z => by
        rw [z, Int.mul_zero] at h
        omega
      omega
    refine ⟨h0, fun j hj hji e => ?_⟩
    have e1 := lv h0
    have z := sN_rest hnn hi (by show lvN ns (ns.getD i 0) = if ns.getD i 0 = ns.getD i 0 then upN ns i * onN ns i else 0; rw [if_pos rfl, e1, h]) j hj hji
    have z' : (if ns.getD j 0 = ns.getD i 0 then upN ns j * onN ns j else 0) = 0 := z
    rw [if_pos e] at z'
    rcases Int.mul_eq_zero.mp z' with a | a
    · have := hup j hj
      omega
    · exact a
  · rintro ⟨h0, h1⟩
    rw [← lv h0]
    unfold lvN
    rw [sN_one (k := i) (fun j hj hji => ?_) hi, if_pos rfl]
    by_cases e : ns.getD j 0 = ns.getD i 0
    · rw [if_pos e, h1 j hj hji e, Int.mul_zero]
    · rw [if_neg e]
/-- how many chains go through each write -/
def thL (ns : List Int) : List Int := ((cuL ns ns.length).zip (coL ns ns.length)).map fun p => p.1 * p.2
theorem thL_len (ns : List Int) : (thL ns).length = ns.length := by
  unfold thL
  rw [List.length_map, List.length_zip, cuL_len, coL_len]
  omega
theorem thL_at {ns : List Int} {i : Nat} (h : i < ns.length) : (thL ns).getD i 0 = upN ns i * onN ns i := by
  unfold thL upN onN
  have h1 : i < (cuL ns ns.length).length := by rw [cuL_len]; exact h
  have h2 : i < (coL ns ns.length).length := by rw [coL_len]; exact h
  have h3 : i < ((cuL ns ns.length).zip (coL ns ns.length)).length := by rw [List.length_zip]; omega
  rw [List.getD_eq_getElem?_getD, List.getElem?_map, List.getD_eq_getElem?_getD, List.getD_eq_getElem?_getD, List.getElem?_eq_getElem h1, List.getElem?_eq_getElem h2, List.getElem?_eq_getElem h3]
  simp
/-- the writes from which chains lead on -/
def mkL (ns : List Int) : List Int := (Sa.rg 0 ns.length).filter fun i => decide (0 < onN ns i.toNat)
def suL (ns : List Int) : List Int := (Sa.rg 0 ns.length).filter fun i => decide (upN ns i.toNat * onN ns i.toNat = chN ns)
theorem pow2_pos (i : Nat) : (1 : Int) ≤ 2 ^ i := by
  have : (0 : Int) < 2 ^ i := Int.pow_pos (by decide)
  omega
theorem upN_le {ns : List Int} : ∀ (d i : Nat), i < ns.length → i ≤ d → 0 ≤ upN ns i ∧ upN ns i ≤ 2 ^ i := fun d => by
  induction d with
  | zero =>
    intro i h hd
    rw [upN_eq h]
    by_cases e : ns.getD i 0 = 1
    · rw [if_pos e]
      exact ⟨by decide, pow2_pos i⟩
    · rw [if_neg e, sN_zero fun j hj => if_neg (by omega)]
      exact ⟨by decide, by have := pow2_pos i; omega⟩
  | succ d ih =>
    intro i h hd
    rw [upN_eq h]
    by_cases e : ns.getD i 0 = 1
    · rw [if_pos e]
      exact ⟨by decide, pow2_pos i⟩
    · rw [if_neg e]
      have b : ∀ j, j < ns.length → 0 ≤ (if j < i then (if ns.getD j 0 = ns.getD i 0 - 1 then upN ns j else 0) else 0) ∧ (if j < i then (if ns.getD j 0 = ns.getD i 0 - 1 then upN ns j else 0) else 0) ≤ (if j < i then (2 : Int) ^ j else 0) := fun j hj => by
        by_cases h1 : j < i
        · rw [if_pos h1, if_pos h1]
          have := ih j hj (by omega)
          have := pow2_pos j
          by_cases h2 : ns.getD j 0 = ns.getD i 0 - 1
          · rw [if_pos h2]
            omega
          · rw [if_neg h2]
            omega
        · rw [if_neg h1, if_neg h1]
          exact ⟨Int.le_refl 0, Int.le_refl 0⟩
      have s1 := sN_nn (m := ns.length) fun j hj => (b j hj).1
      have s2 := sN_mono (m := ns.length) fun j hj => (b j hj).2
      have s3 : sN ns.length (fun j => if j < i then (2 : Int) ^ j else 0) = 2 ^ i - 1 := by
        obtain ⟨k, hk⟩ : ∃ k, ns.length = i + k := ⟨ns.length - i, by omega⟩
        rw [hk, sN_to, sN_two]
      exact ⟨s1, by omega⟩
theorem onN_le {ns : List Int} : ∀ (d i : Nat), i < ns.length → ns.length - i ≤ d → 0 ≤ onN ns i ∧ onN ns i ≤ 2 ^ (ns.length - 1 - i)
  | 0, i, h, hd => by omega
  | d + 1, i, h, hd => by
    rw [onN_eq h]
    by_cases e : i = ns.length - 1
    · rw [if_pos e]
      exact ⟨by decide, pow2_pos _⟩
    · rw [if_neg e]
      have b : ∀ j, j < ns.length → 0 ≤ (if i < j then (if ns.getD j 0 = ns.getD i 0 + 1 then onN ns j else 0) else 0) ∧ (if i < j then (if ns.getD j 0 = ns.getD i 0 + 1 then onN ns j else 0) else 0) ≤ (if i < j then (2 : Int) ^ (ns.length - 1 - j) else 0) := fun j hj => by
        by_cases h1 : i < j
        · rw [if_pos h1, if_pos h1]
          have := onN_le d j hj (by omega)
          have := pow2_pos (ns.length - 1 - j)
          by_cases h2 : ns.getD j 0 = ns.getD i 0 + 1
          · rw [if_pos h2]
            omega
          · rw [if_neg h2]
            omega
        · rw [if_neg h1, if_neg h1]
          exact ⟨Int.le_refl 0, Int.le_refl 0⟩
      have s1 := sN_nn (m := ns.length) fun j hj => (b j hj).1
      have s2 := sN_mono (m := ns.length) fun j hj => (b j hj).2
      have s3 : ∀ m : Nat, i + 1 + m ≤ ns.length → sN (i + 1 + m) (fun j => if i < j then (2 : Int) ^ (ns.length - 1 - j) else 0) + 2 ^ (ns.length - 1 - i - m) ≤ 2 ^ (ns.length - 1 - i) := fun m => by
        induction m with
        | zero =>
          intro _
          rw [sN_zero fun j hj => if_neg (by omega)]
          show (0 : Int) + 2 ^ (ns.length - 1 - i) ≤ 2 ^ (ns.length - 1 - i)
          omega
        | succ m ih =>
          intro hm
          have h1 := ih (by omega)
          show sN (i + 1 + m) (fun j => if i < j then (2 : Int) ^ (ns.length - 1 - j) else 0) + (if i < i + 1 + m then (2 : Int) ^ (ns.length - 1 - (i + 1 + m)) else 0) + 2 ^ (ns.length - 1 - i - (m + 1)) ≤ _
          rw [if_pos (by omega), show ns.length - 1 - (i + 1 + m) = ns.length - 1 - i - (m + 1) by omega]
          have e2 : (2 : Int) ^ (ns.length - 1 - i - m) = 2 ^ (ns.length - 1 - i - (m + 1)) + 2 ^ (ns.length - 1 - i - (m + 1)) := by
            rw [show ns.length - 1 - i - m = (ns.length - 1 - i - (m + 1)) + 1 by omega, Int.pow_succ]
            omega
          omega
      have s4 := s3 (ns.length - 1 - i) (by omega)
      rw [show i + 1 + (ns.length - 1 - i) = ns.length by omega] at s4
      have := pow2_pos (ns.length - 1 - i - (ns.length - 1 - i))
      exact ⟨s1, by omega⟩
theorem log2_small {x : Int} {k : Nat} (h0 : 0 ≤ x) (h1 : x ≤ 2 ^ k) : x.natAbs.log2 ≤ k := by
  by_cases e : x.natAbs = 0
  · rw [e]
    exact Nat.zero_le k
  · have h2 : x.natAbs < 2 ^ (k + 1) := by
      have h3 : ((x.natAbs : Nat) : Int) ≤ ((2 ^ k : Nat) : Int) := by
        rw [Int.natCast_pow]
        show ((x.natAbs : Nat) : Int) ≤ 2 ^ k
        omega
      have h4 : x.natAbs ≤ 2 ^ k := Int.ofNat_le.mp h3
      rw [Nat.pow_succ]
      omega
    have := (Nat.log2_lt e).mpr h2
    omega
theorem through_ok {ns : List Int} {x y : Int} (hl : ns.length ≤ 1000) (h : (x, y) ∈ (cuL ns ns.length).zip (coL ns ns.length)) : x.natAbs.log2 + y.natAbs.log2 < 1000000 := by
  obtain ⟨i, hi, e⟩ := List.getElem_of_mem h
  rw [List.length_zip, cuL_len, coL_len] at hi
  rw [List.getElem_zip] at e
  have hi2 : i < ns.length := by omega
  have e1 : x = upN ns i := by
    unfold upN
    rw [List.getD_eq_getElem?_getD, List.getElem?_eq_getElem (by rw [cuL_len]; exact hi2)]
    exact (congrArg Prod.fst e).symm
  have e2 : y = onN ns i := by
    unfold onN
    rw [List.getD_eq_getElem?_getD, List.getElem?_eq_getElem (by rw [coL_len]; exact hi2)]
    exact (congrArg Prod.snd e).symm
  have h1 := upN_le (ns := ns) ns.length i hi2 (by omega)
  have h2 := onN_le (ns := ns) ns.length i hi2 (by omega)
  rw [← e1] at h1
  rw [← e2] at h2
  have := log2_small h1.1 h1.2
  have := log2_small h2.1 h2.2
  omega
theorem en2_sel (ns F : List Int) (q : Int → Bool) (h : F.length = ns.length) : ((Sa.en2 F).filter fun p => q p.2).map (fun p => p.1) = (Sa.rg 0 ns.length).filter fun i => q (F.getD i.toNat 0) := by
  unfold Sa.en2 Sa.rg
  rw [h, List.filter_map, List.map_map, List.filter_map]
  have e1 : ((fun i => q (F.getD i.toNat 0)) ∘ fun (i : Nat) => (0 : Int) + (i : Nat)) = ((fun p : Int × Int => q p.2) ∘ fun (i : Nat) => ((i : Int), F.getD i 0)) := by
    funext i
    show q (F.getD ((0 : Int) + (i : Nat)).toNat 0) = q (F.getD i 0)
    rw [show ((0 : Int) + (i : Nat)).toNat = i by omega]
  rw [e1]
  refine List.map_congr_left fun i _ => ?_
  show (i : Int) = 0 + (i : Int)
  omega
theorem suL_eq (ns : List Int) : suL ns = ((Sa.en2 (thL ns)).filter fun p => decide (p.2 = chN ns)).map fun p => p.1 := by
  rw [en2_sel ns (thL ns) (fun v => decide (v = chN ns)) (thL_len ns)]
  refine List.filter_congr fun i hi => ?_
  have hm := Sa.mem_rg.mp hi
  rw [thL_at (by omega)]
theorem mkL_eq {ns : List Int} (hP : Po ns) : mkL ns = ((Sa.en2 (thL ns)).filter fun p => decide (0 < p.2)).map fun p => p.1 := by
  rw [en2_sel ns (thL ns) (fun v => decide (0 < v)) (thL_len ns)]
  refine List.filter_congr fun i hi => ?_
  have hm := Sa.mem_rg.mp hi
  have hl : i.toNat < ns.length := by omega
  have h1 := upN_pos hP ns.length i.toNat hl (by omega)
  have h2 := onN_nn (ns := ns) ns.length i.toNat hl (by omega)
  rw [thL_at hl]
  by_cases e : 0 < onN ns i.toNat
  · rw [decide_eq_true e, decide_eq_true (Int.mul_pos (by omega) e)]
  · have e2 : onN ns i.toNat = 0 := by omega
    rw [e2, Int.mul_zero]
theorem on_pos {ns : List Int} {i : Nat} (h : i < ns.length) : 0 < onN ns i ↔ i = ns.length - 1 ∨ ∃ j, i < j ∧ j < ns.length ∧ ns.getD j 0 = ns.getD i 0 + 1 ∧ 0 < onN ns j := by
  have nn : ∀ j, j < ns.length → 0 ≤ onN ns j := fun j hj => onN_nn ns.length j hj (by omega)
  rw [onN_eq h]
  by_cases e : i = ns.length - 1
  · rw [if_pos e]
    exact ⟨fun _ => .inl e, fun _ => by decide⟩
  · rw [if_neg e]
    have b : ∀ j, j < ns.length → 0 ≤ (fun j => if i < j then (if ns.getD j 0 = ns.getD i 0 + 1 then onN ns j else 0) else 0) j := fun j hj => by
      show 0 ≤ if i < j then (if ns.getD j 0 = ns.getD i 0 + 1 then onN ns j else 0) else 0
      by_cases h1 : i < j
      · rw [if_pos h1]
        by_cases h2 : ns.getD j 0 = ns.getD i 0 + 1
        · rw [if_pos h2]
          exact nn j hj
        · rw [if_neg h2]; exact Int.le_refl 0
      · rw [if_neg h1]; exact Int.le_refl 0
    constructor
    · intro hp
      refine .inr (Classical.byContradiction fun hne => ?_)
      rw [sN_zero fun j hj => ?_] at hp
      · omega
      · by_cases h1 : i < j
        · rw [if_pos h1]
          by_cases h2 : ns.getD j 0 = ns.getD i 0 + 1
          · rw [if_pos h2]
            have := nn j hj
            have : ¬ 0 < onN ns j := fun h3 => hne ⟨j, h1, hj, h2, h3⟩
            omega
          · rw [if_neg h2]
        · rw [if_neg h1]
    · rintro (h0 | ⟨j, h1, h2, h3, h4⟩)
      · exact absurd h0 e
      · have g := sN_ge b h2
        have g' : (if i < j then (if ns.getD j 0 = ns.getD i 0 + 1 then onN ns j else 0) else 0) ≤ sN ns.length fun j => if i < j then (if ns.getD j 0 = ns.getD i 0 + 1 then onN ns j else 0) else 0 := g
        rw [if_pos h1, if_pos h3] at g'
        omega
/-- the marked ones of the last k -/
def mkF (ns : List Int) (k : Nat) : List Int := (Sa.rg ((ns.length - k : Nat) : Int) k).filter fun i => decide (0 < onN ns i.toNat)
theorem mkF_all (ns : List Int) : mkF ns ns.length = mkL ns := by
  unfold mkF mkL
  rw [Nat.sub_self]
  rfl
theorem rg_front (a : Int) (m : Nat) : Sa.rg a (m + 1) = a :: Sa.rg (a + 1) m := by
  unfold Sa.rg
  rw [List.range_succ_eq_map, List.map_cons, List.map_map]
  congr 1
  · omega
  · refine List.map_congr_left fun i _ => ?_
    show a + ((i + 1 : Nat) : Int) = a + 1 + (i : Int)
    omega
theorem mkF_succ {ns : List Int} {k : Nat} (h : k < ns.length) : mkF ns (k + 1) = if 0 < onN ns (ns.length - 1 - k) then ((ns.length - 1 - k : Nat) : Int) :: mkF ns k else mkF ns k := by
  unfold mkF
  rw [rg_front, show ns.length - (k + 1) = ns.length - 1 - k by omega, show ((ns.length - 1 - k : Nat) : Int) + 1 = ((ns.length - k : Nat) : Int) by omega, List.filter_cons, Int.toNat_natCast]
  by_cases e : 0 < onN ns (ns.length - 1 - k)
  · rw [if_pos e, if_pos (decide_eq_true e)]
  · rw [if_neg e, if_neg (by rw [decide_eq_false e]; decide)]
theorem mkF_len (ns : List Int) (k : Nat) : (mkF ns k).length ≤ k := by
  unfold mkF
  exact Nat.le_trans (List.length_filter_le _ _) (by rw [Sa.rg_len]; exact Nat.le_refl _)
/-- a number is wanted by one of the last k -/
def wtN (ns : List Int) (k : Nat) (v : Int) : Prop := ∃ j, ns.length - k ≤ j ∧ j < ns.length ∧ ns.getD j 0 = v + 1 ∧ 0 < onN ns j
theorem wtN_succ {ns : List Int} {k : Nat} (h : k < ns.length) (v : Int) : wtN ns (k + 1) v ↔ (ns.getD (ns.length - 1 - k) 0 = v + 1 ∧ 0 < onN ns (ns.length - 1 - k)) ∨ wtN ns k v := by
  constructor
  · rintro ⟨j, h1, h2, h3, h4⟩
    by_cases e : j = ns.length - 1 - k
    · rw [e] at h3 h4
      exact .inl ⟨h3, h4⟩
    · exact .inr ⟨j, by omega, h2, h3, h4⟩
  · rintro (⟨h3, h4⟩ | ⟨j, h1, h2, h3, h4⟩)
    · exact ⟨ns.length - 1 - k, by omega, by omega, h3, h4⟩
    · exact ⟨j, by omega, h2, h3, h4⟩
theorem wtN_on {ns : List Int} {k : Nat} (h : k < ns.length) : 0 < onN ns (ns.length - 1 - k) ↔ k = 0 ∨ wtN ns k (ns.getD (ns.length - 1 - k) 0) := by
  rw [on_pos (by omega)]
  constructor
  · rintro (e | ⟨j, h1, h2, h3, h4⟩)
    · exact .inl (by omega)
    · exact .inr ⟨j, by omega, h2, h3, h4⟩
  · rintro (e | ⟨j, h1, h2, h3, h4⟩)
    · exact .inl (by omega)
    · exact .inr ⟨j, by omega, h2, h3, h4⟩
theorem rg_nodup (a : Int) (m : Nat) : (Sa.rg a m).Nodup := by
  unfold Sa.rg
  refine List.Pairwise.map _ (fun x y (h : x ≠ y) => ?_) List.nodup_range
  omega
theorem mkL_mem {ns : List Int} {i : Int} : i ∈ mkL ns ↔ (0 ≤ i ∧ i < ns.length) ∧ 0 < onN ns i.toNat := by
  unfold mkL
  rw [List.mem_filter, Sa.mem_rg, decide_eq_true_iff]
  constructor <;> rintro ⟨h1, h2⟩
  · exact ⟨by omega, h2⟩
  · exact ⟨by omega, h2⟩
theorem one_of {l : List Int} {i : Int} (hn : l.Nodup) (hi : i ∈ l) : l.length = 1 ↔ ∀ x ∈ l, x = i := by
  constructor
  · intro h x hx
    match l, h, hi, hx with
    | [y], _, hi, hx => rw [List.mem_singleton.mp hx, List.mem_singleton.mp hi]
  · intro h
    match l, hn, hi, h with
    | [y], _, _, _ => rfl
    | y :: z :: l, hn, _, h =>
      have e1 := h y List.mem_cons_self
      have e2 := h z (List.mem_cons_of_mem _ List.mem_cons_self)
      have := (List.nodup_cons.mp hn).1
      rw [e1, ← e2] at this
      exact absurd List.mem_cons_self this
theorem suL_mk {ns : List Int} (hP : Po ns) : (mkL ns).filter (fun i => decide ((((mkL ns).map fun i => ns.getD i.toNat 0).count (ns.getD i.toNat 0) : Int) = 1)) = suL ns := by
  unfold suL
  have e : mkL ns = (Sa.rg 0 ns.length).filter fun i => decide (0 < onN ns i.toNat) := rfl
  conv => lhs; rw [e]; rw [List.filter_filter]; rw [← e]
  refine List.filter_congr fun i hi => ?_
  have hm := Sa.mem_rg.mp hi
  have hl : i.toNat < ns.length := by omega
  have hs := sure_iff hP hl
  have hc : ((mkL ns).map fun i => ns.getD i.toNat 0).count (ns.getD i.toNat 0) = ((mkL ns).filter fun j => decide (ns.getD j.toNat 0 = ns.getD i.toNat 0)).length := by
    rw [List.count_eq_length_filter, List.filter_map, List.length_map]
    congr 1
  rw [hc]
  by_cases h0 : 0 < onN ns i.toNat
  · have hmi : i ∈ (mkL ns).filter fun j => decide (ns.getD j.toNat 0 = ns.getD i.toNat 0) := List.mem_filter.mpr ⟨mkL_mem.mpr ⟨by omega, h0⟩, decide_eq_true rfl⟩
    have hn : ((mkL ns).filter fun j => decide (ns.getD j.toNat 0 = ns.getD i.toNat 0)).Nodup := ((rg_nodup 0 ns.length).filter _).filter _
    have h1 := one_of hn hmi
    rw [decide_eq_true h0, Bool.and_true]
    refine decide_eq_decide.mpr ?_
    rw [hs]
    constructor
    · intro h
      refine ⟨h0, fun j hj hji ej => ?_⟩
      refine Classical.byContradiction fun hne => ?_
      have hp : 0 < onN ns j := by
        have := onN_nn (ns := ns) ns.length j hj (by omega)
        omega
      have := h1.mp (by omega) (j : Int) (List.mem_filter.mpr ⟨mkL_mem.mpr ⟨by omega, by rw [Int.toNat_natCast]; exact hp⟩, decide_eq_true (by rw [Int.toNat_natCast]; exact ej)⟩)
      omega
    · rintro ⟨_, h⟩
      have := h1.mpr fun x hx => by
        obtain ⟨hx1, hx2⟩ := List.mem_filter.mp hx
        obtain ⟨hx3, hx4⟩ := mkL_mem.mp hx1
        refine Classical.byContradiction fun hne => ?_
        have := h x.toNat (by omega) (by omega) (of_decide_eq_true hx2)
        omega
      omega
  · rw [decide_eq_false h0, Bool.and_false]
    exact (decide_eq_false fun h => h0 (hs.mp h).1).symm
theorem mkL_len (ns : List Int) : (mkL ns).length ≤ ns.length := by
  unfold mkL
  exact Nat.le_trans (List.length_filter_le _ _) (by rw [Sa.rg_len]; exact Nat.le_refl _)
theorem suL_len (ns : List Int) : (suL ns).length ≤ ns.length := by
  unfold suL
  exact Nat.le_trans (List.length_filter_le _ _) (by rw [Sa.rg_len]; exact Nat.le_refl _)
/-! ### a comprehension over a zip of two lists of numbers -/
theorem st_zALc {K : PySem.W.Frag} {L : List Fc} {M : List Cell} {H : Hp} {σ : L2.St} {Q : VK} {te : TE} {t : TT} {a b : Addr} {xs ys : List V} {g : TG} {vs : List Nat} (hS : SA L M H) (h : At L M (fQ K a xs)) (h2 : At L M (fQ K b ys)) (q : Sa.Lc (Itz K a b) g t te vs σ Q H) : ∃ a' b' xs ys, [V.ref a, V.ref b] = [.ref a', .ref b'] ∧ ((SqL K H a' xs ∧ SqL K H b' ys ∧ Sa.Lc (Itz K a' b') g t te vs σ Q H) ∨ (SqT K H a' xs ∧ SqT K H b' ys ∧ Sa.Lc (RZ.ItzT K a' b') g t te vs σ Q H)) :=
  ⟨a, b, xs, ys, rfl, .inl ⟨h H hS, h2 H hS, q⟩⟩
theorem zip_at {ns ms : List Int} {i : Nat} {n m : Int} (h1 : ns[i]? = some n) (h2 : ms[i]? = some m) : (ns.zip ms)[i]? = some (n, m) := by
  rw [List.getElem?_zip_eq_some]
  exact ⟨h1, h2⟩
theorem lcI_zip {K : PySem.W.Frag} {L : List Fc} {M : List Cell} {H : Hp} {σ : L2.St} {Q : VK} {a b : Addr} {te : TE} {t : TT} {ns ms : List Int} {j k : Nat} {vs : List Nat} (P : Int × Int → Bool) (F : Int × Int → Int) (hS : SA L M H) (hx : At L M (fQ K a (ns.map V.int))) (hx2 : At L M (fQ K b (ms.map V.int))) (hn : ns.length < 50000) (hw : ∀ x y, wipe (((wipe σ vs).set j (some x)).set k (some y)) vs = wipe σ vs)
    (ht : ∀ (i n : Int) (Dl : Addr) acc, (i, n) ∈ ns.zip ms → EvT t (((wipe σ vs).set j (some (.int i))).set k (some (.int n))) L ((Dl, .lst acc) :: M) (P (i, n)))
    (he : ∀ (i n : Int) (Dl : Addr) acc, (i, n) ∈ ns.zip ms → P (i, n) = true → EvV te (((wipe σ vs).set j (some (.int i))).set k (some (.int n))) L ((Dl, .lst acc) :: M) (.int (F (i, n))))
    (q : ∀ Dl H', SA L ((Dl, .lst ((((ns.zip ms).filter P).map F).map V.int)) :: M) H' → Q (.ref Dl) H') : Sa.Lc (Itz K a b) (gTup K 2 (gCons (gName j) (gCons (gName k) gNil))) t te vs σ Q H := fun Dl hD =>
  lc_it (walk_zip (xs := ns.map V.int) (ys := ms.map V.int) (n := min (ns.map V.int).length (ms.map V.int).length) rfl) (fun i H => SA L ((Dl, .lst (((((ns.zip ms).take i).filter P).map F).map V.int)) :: M) H) (hS.newM hD) (fun i H _ hp => ⟨hx H hp.dropM, hx2 H hp.dropM⟩) (fun i x H H' hi hp hy => by
    obtain ⟨T, y1, y2, rfl, hT, rfl, e1, e2⟩ := hy
    obtain ⟨n, hn1, rfl⟩ := Sa.ints_at e1
    obtain ⟨m, hm1, rfl⟩ := Sa.ints_at e2
    have hm := zip_at hn1 hm1
    refine ⟨T, [.int n, .int m], rfl, SqT.of upd_same, rfl, _, _, rfl, _, _, rfl, rfl, ?_⟩
    exact ⟨hw _ _, Sa.lcA_turn hm (by rw [List.length_zip]; omega) (hp.ign hT) (ht _ _ Dl _ (List.mem_of_getElem? hm)) (he _ _ Dl _ (List.mem_of_getElem? hm))⟩) (fun H' hp => q Dl H' (by
    rw [List.length_map, List.length_map, List.take_of_length_le (by rw [List.length_zip]; exact Nat.le_refl _)] at hp
    exact hp))
/-- a source of draws: what is left of a great cell, a mixed number, a count -/
def Jar (o : HO) (k : Int) : Prop := ∃ c m : Int, o = .lst [.int c, .int m, .int k] ∧ 0 ≤ c ∧ 0 ≤ m ∧ m < 10000000000000000000000000000000 ∧ 0 ≤ k
/-! ### sorted(xs), xs a list of lists of whole numbers -/
def leL (b c : V × List Int) : Bool := decide (b.2 ≤ c.2)
def encL (b : V × List Int) : PyData := .list (b.2.map PyData.int)
def rSortedL (K : PySem.W.Frag) : List V → Hp → VK → Prop := fun vs H Q => ∃ (a : Addr) (bs : List (V × List Int)), vs = [V.ref a] ∧ SqL K H a (bs.map Prod.fst) ∧ (∀ b ∈ bs, Dp K H b.1 (encL b)) ∧
  ∀ p, H p = none → Q (.ref p) (upd H p (.lst ((bs.mergeSort leL).map Prod.fst)))
theorem each_of {R : Value → V × List Int → Prop} : ∀ {bs : List (V × List Int)} {us : List Value}, Vals (bs.map Prod.fst) us → (∀ b ∈ bs, ∀ u, RelV b.1 u → R u b) → PySem.W.EachIs R us bs
  | [], _, .nil, _ => .nil
  | b :: bs, _, .cons r rs, h => .cons (h b List.mem_cons_self _ r) (each_of rs fun c hc => h c (List.mem_cons_of_mem _ hc))
theorem each_vals : ∀ {bs : List (V × List Int)} {us : List Value}, PySem.W.EachIs (fun u b => RelV b.1 u) us bs → Vals (bs.map Prod.fst) us
  | [], _, .nil => .nil
  | b :: bs, _, .cons r rs => .cons r (each_vals rs)
theorem leL_eq : PySem.W.dataLe false encL = leL := PySem.W.dataLe_rows fun b : V × List Int => b.2
theorem cr_sortedL {X : Cx} (hu : X.A.units + 64 < cLine) : CallR X (.builtin "sorted") (rSortedL X.K) := by
  intro pins s σ H vs us Q I r h
  obtain ⟨a, bs, rfl, hs, hx, q⟩ := h
  obtain ⟨its, rv, hl, hz⟩ := I.list hs
  obtain ⟨u, rfl, ru⟩ := vals1 r
  obtain rfl : u = Value.ref a := ru
  have e1 : PySem.W.EachIs (fun u b => RelV b.1 u) its bs := each_of rv fun b _ u hb => hb
  have e2 : PySem.W.EachIs (fun u b => ∃ as, Reads s.heap u (encL b) as) its bs := each_of rv fun b hb u ru => Dp.reads I (encL b) b.1 u (hx b hb) ru
  refine PySem.W.sorted_data (enc := encL) hl.isList e1 e2 (PySem.W.AllAlike.of fun b c => PySem.W.alike_ints b.2 c.2) (PySem.W.Sortable.others fun b => ⟨(fun h => nomatch h), (fun xs h => nomatch h)⟩) (by rw [List.length_map] at hz; exact hz) (fun b _ => ?_) fun out ho e3 => ?_
  · show X.A.units + 2 + (PyData.depthAll (b.2.map PyData.int) + 1) < cLine
    rw [PySem.W.depth_ints]
    omega
  · rw [leL_eq] at e3
    obtain ⟨n, hn⟩ := sortedAll_at s.heap its (List.toArray out)
    refine ⟨.ref (s.heap.objs.size + 1), upd H (s.heap.objs.size + 1) (.lst ((bs.mergeSort leL).map Prod.fst)), I.laid (t' := s.toks) (fun b o e => sortedAll_old e) (Nat.le_succ _) ⟨?_, out, n, each_vals e3, hn⟩, rfl, q _ (I.hok.fresh (Nat.le_succ _))⟩
    rw [List.length_map] at hz ⊢
    rw [List.length_mergeSort]
    exact hz
/-! ### lists in which numbers are gone -/
/-- the least greatest number ahead with which the rest can be -/
def nd : List (Option Int) → Int
  | [] => 0
  | none :: r => max (nd r - 1) 0
  | some n :: r => if nd r ≤ n then n - 1 else nd r
/-- all that can stand behind a greatest number -/
def fill : List (Option Int) → Int → List (List Int)
  | [], _ => [[]]
  | none :: r, g => (Sa.rg 1 (g + 1).toNat).flatMap fun x => (fill r (max g x)).map (x :: ·)
  | some n :: r, g => if 1 ≤ n ∧ n ≤ g + 1 then (fill r (max g n)).map (n :: ·) else []
theorem fill_none (r : List (Option Int)) (g : Int) : fill (none :: r) g = (Sa.rg 1 (g + 1).toNat).flatMap fun x => (fill r (max g x)).map (x :: ·) := rfl
theorem fill_some (n : Int) (r : List (Option Int)) (g : Int) : fill (some n :: r) g = if 1 ≤ n ∧ n ≤ g + 1 then (fill r (max g n)).map (n :: ·) else [] := rfl
theorem rg_cons (lo : Int) (n : Nat) : Sa.rg lo (n + 1) = lo :: Sa.rg (lo + 1) n := by
  unfold Sa.rg
  rw [List.range_succ_eq_map, List.map_cons, List.map_map]
  congr 1
  · omega
  · apply List.map_congr_left
    intro a _
    show lo + ((a + 1 : Nat) : Int) = lo + 1 + (a : Nat)
    omega
def pos1 (os : List (Option Int)) : Prop := ∀ n, some n ∈ os → 1 ≤ n
theorem pos1_tl {o : Option Int} {r : List (Option Int)} (h : pos1 (o :: r)) : pos1 r := fun n hn => h n (List.mem_cons_of_mem _ hn)
theorem rg1_mem {g x : Int} (hg : 0 ≤ g) : x ∈ Sa.rg 1 (g + 1).toNat ↔ 1 ≤ x ∧ x ≤ g + 1 := by
  rw [Sa.mem_rg]
  omega
theorem nd_nn : ∀ {os : List (Option Int)}, pos1 os → 0 ≤ nd os
  | [], _ => Int.le_refl _
  | none :: r, _ => Int.le_max_right _ _
  | some n :: r, h => by
    have h1 := nd_nn (pos1_tl h)
    have h2 := h n List.mem_cons_self
    unfold nd
    split <;> omega
theorem fill_ne : ∀ {os : List (Option Int)} {g : Int}, pos1 os → 0 ≤ g → (fill os g ≠ [] ↔ nd os ≤ g)
  | [], g, _, hg => by
    unfold fill nd
    exact ⟨fun _ => hg, fun _ => by simp⟩
  | none :: r, g, h, hg => by
    have h0 := pos1_tl h
    unfold fill nd
    constructor
    · intro h1
      obtain ⟨l, hl⟩ := List.exists_mem_of_ne_nil _ h1
      obtain ⟨x, hx, hl2⟩ := List.mem_flatMap.mp hl
      obtain ⟨l2, h3, _⟩ := List.mem_map.mp hl2
      have hx2 := (rg1_mem hg).mp hx
      have h4 := (fill_ne (g := max g x) h0 (by omega)).mp (List.ne_nil_of_mem h3)
      omega
    · intro h1
      have h4 := (fill_ne (g := max g (g + 1)) h0 (by omega)).mpr (by omega)
      obtain ⟨l, hl⟩ := List.exists_mem_of_ne_nil _ h4
      exact List.ne_nil_of_mem (List.mem_flatMap.mpr ⟨g + 1, (rg1_mem hg).mpr (by omega), List.mem_map.mpr ⟨l, hl, rfl⟩⟩)
  | some n :: r, g, h, hg => by
    have h0 := pos1_tl h
    have h1 := h n List.mem_cons_self
    have h2 := fill_ne (g := max g n) h0 (by omega)
    have h3 := nd_nn h0
    unfold fill nd
    by_cases hc : 1 ≤ n ∧ n ≤ g + 1
    · rw [if_pos hc]
      have : (fill r (max g n)).map (n :: ·) ≠ [] ↔ fill r (max g n) ≠ [] := by simp
      rw [this, h2]
      split <;> omega
    · rw [if_neg hc]
      refine ⟨fun z => absurd rfl z, fun z => ?_⟩
      split at z <;> omega
theorem fill_bad : ∀ {os : List (Option Int)} {g : Int}, 0 ≤ g → fill os g ≠ [] → pos1 os
  | [], g, _, _ => fun n hn => nomatch hn
  | none :: r, g, hg, h => by
    unfold fill at h
    obtain ⟨l, hl⟩ := List.exists_mem_of_ne_nil _ h
    obtain ⟨x, hx, hl2⟩ := List.mem_flatMap.mp hl
    obtain ⟨l2, h3, _⟩ := List.mem_map.mp hl2
    have h4 := fill_bad (os := r) (g := max g x) (by omega) (List.ne_nil_of_mem h3)
    intro n hn
    rcases List.mem_cons.mp hn with e | e
    · cases e
    · exact h4 n e
  | some m :: r, g, hg, h => by
    unfold fill at h
    by_cases hc : 1 ≤ m ∧ m ≤ g + 1
    · rw [if_pos hc] at h
      have h4 := fill_bad (os := r) (g := max g m) (by omega) (fun z => h (by rw [z]; rfl))
      intro n hn
      rcases List.mem_cons.mp hn with e | e
      · cases e
        exact hc.1
      · exact h4 n e
    · rw [if_neg hc] at h
      exact absurd rfl h
/-- the first of them -/
def ff : List (Option Int) → Int → List Int
  | [], _ => []
  | some n :: r, g => n :: ff r (max g n)
  | none :: r, g => if 0 < g ∧ nd r ≤ g then 1 :: ff r (max g 1) else (g + 1) :: ff r (max g (g + 1))
theorem head_flat {α β : Type} {f : α → List β} : ∀ {l : List α} {y : β}, (∃ a l1 l2, l = l1 ++ a :: l2 ∧ (∀ b ∈ l1, f b = []) ∧ (f a).head? = some y) → (l.flatMap f).head? = some y := by
  rintro l y ⟨a, l1, l2, rfl, h1, h2⟩
  rw [List.flatMap_append, List.flatMap_eq_nil_iff.mpr h1, List.nil_append, List.flatMap_cons]
  cases hf : f a with
  | nil => rw [hf] at h2; cases h2
  | cons z zs => rw [hf] at h2; cases h2; rfl
theorem ff_head : ∀ {os : List (Option Int)} {g : Int}, pos1 os → 0 ≤ g → fill os g ≠ [] → (fill os g).head? = some (ff os g)
  | [], g, _, _, _ => rfl
  | some n :: r, g, h, hg, hf => by
    have h0 := pos1_tl h
    unfold fill at hf ⊢
    by_cases hc : 1 ≤ n ∧ n ≤ g + 1
    · rw [if_pos hc] at hf ⊢
      have h4 := ff_head (os := r) (g := max g n) h0 (by omega) (fun z => hf (by rw [z]; rfl))
      rw [List.head?_map, h4]
      rfl
    · rw [if_neg hc] at hf
      exact absurd rfl hf
  | none :: r, g, h, hg, hf => by
    have h0 := pos1_tl h
    have hn := (fill_ne h hg).mp hf
    unfold nd at hn
    unfold fill ff
    have hn0 := nd_nn h0
    refine head_flat ?_
    by_cases hc : 0 < g ∧ nd r ≤ g
    · rw [if_pos hc]
      refine ⟨1, [], Sa.rg 2 g.toNat, ?_, (fun b hb => nomatch hb), ?_⟩
      · rw [show (g + 1).toNat = g.toNat + 1 by omega, rg_cons]
        rfl
      · have h4 := ff_head (os := r) (g := max g 1) h0 (by omega) ((fill_ne h0 (by omega)).mpr (by omega))
        rw [List.head?_map, h4]
        rfl
    · rw [if_neg hc]
      refine ⟨g + 1, Sa.rg 1 g.toNat, [], ?_, fun b hb => ?_, ?_⟩
      · rw [show (g + 1).toNat = g.toNat + 1 by omega, Sa.rg_succ, show (1 : Int) + (g.toNat : Nat) = g + 1 by omega]
      · have hb2 := Sa.mem_rg.mp hb
        have : fill r (max g b) = [] := Classical.byContradiction fun z => by
          have := (fill_ne (g := max g b) h0 (by omega)).mp z
          omega
        rw [this]
        rfl
      · have h4 := ff_head (os := r) (g := max g (g + 1)) h0 (by omega) ((fill_ne h0 (by omega)).mpr (by omega))
        rw [List.head?_map, h4]
        rfl
/-! the lines, number by number -/
def ext (o : Option Int) (l : List Int) : List (List Int) := match o with
  | none => (Sa.rg 1 (top l + 1).toNat).map fun x => l ++ [x]
  | some n => if 1 ≤ n ∧ n ≤ top l + 1 then [l ++ [n]] else []
def stp (o : Option Int) (R : List (List Int)) : List (List Int) := R.flatMap (ext o)
def rows (os : List (Option Int)) : List (List Int) := os.foldl (fun R o => stp o R) [[]]
theorem rows_snoc (os : List (Option Int)) (o : Option Int) : rows (os ++ [o]) = stp o (rows os) := by
  unfold rows
  rw [List.foldl_append]
  rfl
theorem ext_fill (o : Option Int) (os : List (Option Int)) (l : List Int) : (ext o l).flatMap (fun z => (fill os (top z)).map (z ++ ·)) = (fill (o :: os) (top l)).map (l ++ ·) := by
  cases o with
  | none =>
    rw [fill_none]
    show ((Sa.rg 1 (top l + 1).toNat).map fun x => l ++ [x]).flatMap (fun z => (fill os (top z)).map (z ++ ·)) = _
    rw [List.flatMap_map, List.map_flatMap]
    congr 1
    funext x
    rw [top_snoc, List.map_map]
    congr 1
    funext z
    exact List.append_assoc l [x] z
  | some n =>
    rw [fill_some]
    show (if 1 ≤ n ∧ n ≤ top l + 1 then [l ++ [n]] else []).flatMap (fun z => (fill os (top z)).map (z ++ ·)) = _
    by_cases hc : 1 ≤ n ∧ n ≤ top l + 1
    · rw [if_pos hc, if_pos hc, List.flatMap_cons, List.flatMap_nil, List.append_nil, top_snoc, List.map_map]
      congr 1
      funext z
      exact List.append_assoc l [n] z
    · rw [if_neg hc, if_neg hc]
      rfl
theorem rows_go : ∀ (os : List (Option Int)) (R : List (List Int)), os.foldl (fun R o => stp o R) R = R.flatMap fun l => (fill os (top l)).map (l ++ ·)
  | [], R => by
    show R = R.flatMap fun l => [l ++ []]
    simp
  | o :: os, R => by
    show os.foldl (fun R o => stp o R) (stp o R) = _
    rw [rows_go os (stp o R)]
    unfold stp
    rw [List.flatMap_assoc]
    congr 1
    funext l
    exact ext_fill o os l
theorem rows_fill (os : List (Option Int)) : rows os = fill os 0 := by
  unfold rows
  rw [rows_go]
  simp [top]
def fct : Nat → Nat
  | 0 => 1
  | i + 1 => (i + 1) * fct i
theorem flat_len {α β : Type} {f : α → List β} {m : Nat} : ∀ {l : List α}, (∀ a ∈ l, (f a).length ≤ m) → (l.flatMap f).length ≤ l.length * m
  | [], _ => Nat.zero_le _
  | a :: l, h => by
    rw [List.flatMap_cons, List.length_append, List.length_cons, Nat.succ_mul]
    have h1 := h a List.mem_cons_self
    have h2 := flat_len (f := f) (l := l) fun b hb => h b (List.mem_cons_of_mem _ hb)
    omega
theorem ext_top {o : Option Int} {l z : List Int} (h : z ∈ ext o l) : ∃ x, z = l ++ [x] ∧ 1 ≤ x ∧ x ≤ top l + 1 ∧ top l ≤ top z ∧ top z ≤ top l + 1 := by
  have fin : ∀ x : Int, 1 ≤ x → x ≤ top l + 1 → z = l ++ [x] → ∃ x, z = l ++ [x] ∧ 1 ≤ x ∧ x ≤ top l + 1 ∧ top l ≤ top z ∧ top z ≤ top l + 1 := fun x h1 h2 e => by
    refine ⟨x, e, h1, h2, ?_⟩
    rw [e, top_snoc]
    omega
  cases o with
  | none =>
    obtain ⟨x, hx, e⟩ := List.mem_map.mp h
    have := Sa.mem_rg.mp hx
    exact fin x (by omega) (by omega) e.symm
  | some n =>
    have h : z ∈ (if 1 ≤ n ∧ n ≤ top l + 1 then [l ++ [n]] else []) := h
    by_cases hc : 1 ≤ n ∧ n ≤ top l + 1
    · rw [if_pos hc] at h
      exact fin n hc.1 hc.2 (List.mem_singleton.mp h)
    · rw [if_neg hc] at h
      cases h
theorem ext_len {o : Option Int} {l : List Int} {i : Nat} (h : top l ≤ i) : (ext o l).length ≤ i + 1 := by
  cases o with
  | none =>
    show ((Sa.rg 1 (top l + 1).toNat).map fun x => l ++ [x]).length ≤ i + 1
    rw [List.length_map, Sa.rg_len]
    omega
  | some n =>
    show (if 1 ≤ n ∧ n ≤ top l + 1 then [l ++ [n]] else []).length ≤ i + 1
    split
    · exact Nat.succ_le_succ (Nat.zero_le i)
    · exact Nat.zero_le _
theorem rows_ok : ∀ (i : Nat) (os : List (Option Int)), os.length = i → (∀ l ∈ rows os, l.length = i ∧ 0 ≤ top l ∧ top l ≤ i) ∧ (rows os).length ≤ fct i := by
  intro i
  induction i with
  | zero =>
    intro os h
    rw [List.eq_nil_of_length_eq_zero h]
    refine ⟨fun l hl => ?_, Nat.le_refl 1⟩
    rw [List.mem_singleton.mp hl]
    exact ⟨rfl, Int.le_refl 0, Int.le_refl 0⟩
  | succ i ih =>
    intro os h
    have e : os = os.dropLast ++ [os.getLast (by intro z; rw [z] at h; cases h)] := (List.dropLast_concat_getLast _).symm
    rw [e, rows_snoc]
    obtain ⟨h1, h2⟩ := ih os.dropLast (by rw [List.length_dropLast]; omega)
    refine ⟨fun l hl => ?_, ?_⟩
    · obtain ⟨l0, h3, h4⟩ := List.mem_flatMap.mp hl
      obtain ⟨x, e2, h5, h6, h7, h8⟩ := ext_top h4
      obtain ⟨g1, g2, g3⟩ := h1 l0 h3
      refine ⟨by rw [e2, List.length_append, g1]; rfl, by omega, by omega⟩
    · have h3 : (stp (os.getLast (by intro z; rw [z] at h; cases h)) (rows os.dropLast)).length ≤ (rows os.dropLast).length * (i + 1) := flat_len fun l hl => ext_len (h1 l hl).2.2
      show _ ≤ (i + 1) * fct i
      rw [Nat.mul_comm (i + 1)]
      exact Nat.le_trans h3 (Nat.mul_le_mul_right _ h2)
theorem fct_le : ∀ {i : Nat}, i ≤ 7 → fct i ≤ 5040
  | 0, _ => by decide
  | 1, _ => by decide
  | 2, _ => by decide
  | 3, _ => by decide
  | 4, _ => by decide
  | 5, _ => by decide
  | 6, _ => by decide
  | 7, _ => by decide
  | i + 8, h => absurd h (by omega)
def oV : Option Int → V
  | none => .non
  | some i => .int i
def oD : Option Int → PyData
  | none => .none
  | some i => .int i
theorem ov_at {os : List (Option Int)} {i : Nat} {y : V} (h : (os.map oV)[i]? = some y) : ∃ o, os[i]? = some o ∧ y = oV o := by
  rw [List.getElem?_map] at h
  obtain ⟨o, h1, h2⟩ := Option.map_eq_some_iff.mp h
  exact ⟨o, h1, h2.symm⟩
theorem ov_ints (ns : List Int) : (ns.map some).map oV = ns.map V.int := by
  rw [List.map_map]
  rfl
theorem dpa_oV {K : PySem.W.Frag} {H : Hp} : ∀ os : List (Option Int), DpAll K H (os.map oV) (os.map oD)
  | [] => .nil
  | none :: os => .cons .non (dpa_oV os)
  | some i :: os => .cons (.int i) (dpa_oV os)
theorem at_ovs {K : PySem.W.Frag} {L : List Fc} {M : List Cell} {a : Addr} {os : List (Option Int)} (h : At L M (fQ K a (os.map oV))) : At L M (fD K (.ref a) (.list (os.map oD))) := Sa.At.lst h (fun _ _ => dpa_oV os)
theorem depth_oDs : ∀ os : List (Option Int), PyData.depthAll (os.map oD) = 0
  | [] => rfl
  | none :: os => by show max 0 (PyData.depthAll (os.map oD)) = 0; rw [depth_oDs os]; rfl
  | some i :: os => by show max 0 (PyData.depthAll (os.map oD)) = 0; rw [depth_oDs os]; rfl
theorem oD_inj : ∀ {a b : List (Option Int)}, a.map oD = b.map oD → a = b
  | [], [], _ => rfl
  | [], _ :: _, h => nomatch h
  | _ :: _, [], h => nomatch h
  | x :: a, y :: b, h => by
    simp only [List.map_cons, List.cons.injEq] at h
    rw [oD_inj h.2]
    cases x <;> cases y <;> simp_all [oD]
theorem st_RevV {K : PySem.W.Frag} {L : List Fc} {M : List Cell} {H : Hp} {a : Addr} {xs : List V} {Q : VK} (hS : SA L M H) (h : At L M (fQ K a xs)) (q : ∀ p H', SA L ((p, .lst xs.reverse) :: M) H' → Q (.ref p) H') : Sa.RevA K (.ref a) H Q :=
  ⟨a, xs, rfl, h H hS, fun p hp => q p _ (hS.newM hp)⟩
/-! lists of numbers, as facts -/
inductive LsA (H : Hp) : List V → List (List Int) → Prop where
  | nil : LsA H [] []
  | cons {a : Addr} {l : List Int} {vs : List V} {ls : List (List Int)} (h : H a = some (.lst (l.map V.int))) (t : LsA H vs ls) : LsA H (.ref a :: vs) (l :: ls)
theorem LsA.same {H H' : Hp} (e : Same H H') : ∀ {vs ls}, LsA H vs ls → LsA H' vs ls
  | _, _, .nil => .nil
  | _, _, .cons h t => .cons (e _ _ h) (LsA.same e t)
def fLs (vs : List V) (ls : List (List Int)) : Fc := ⟨fun H => LsA H vs ls, fun _ _ e h => h.same e⟩
theorem LsA.len {H : Hp} : ∀ {vs ls}, LsA H vs ls → vs.length = ls.length
  | _, _, .nil => rfl
  | _, _, .cons _ t => congrArg (· + 1) (LsA.len t)
theorem LsA.app {H : Hp} {ws : List V} {ks : List (List Int)} (g : LsA H ws ks) : ∀ {vs ls}, LsA H vs ls → LsA H (vs ++ ws) (ls ++ ks)
  | _, _, .nil => g
  | _, _, .cons h t => .cons h (LsA.app g t)
theorem LsA.get {H : Hp} : ∀ {vs ls} {i : Nat} {v : V}, LsA H vs ls → vs[i]? = some v → ∃ a l, v = .ref a ∧ ls[i]? = some l ∧ H a = some (.lst (l.map V.int))
  | _, _, i, v, .nil, h => by simp at h
  | _, _, 0, v, .cons (a := a) (l := l) h t, e => by
    cases e
    exact ⟨a, l, rfl, rfl, h⟩
  | _, _, i + 1, v, .cons h t, e => LsA.get t (i := i) e
theorem LsA.dp {K : PySem.W.Frag} {H : Hp} : ∀ {vs ls}, LsA H vs ls → DpAll K H vs (ls.map fun l => .list (l.map PyData.int))
  | _, _, .nil => .nil
  | _, _, .cons h t => .cons (.lst (SqL.of h) (Sa.dpa_ints H _)) (LsA.dp t)
/-- an item is a list -/
theorem ls_at {L : List Fc} {M : List Cell} {H : Hp} {vs : List V} {ls : List (List Int)} {i : Nat} {v : V} (hS : SA L M H) (hA : At L M (fLs vs ls)) (h : vs[i]? = some v) : ∃ a l, v = .ref a ∧ ls[i]? = some l ∧ At L M (fL a (l.map V.int)) := by
  obtain ⟨a, l, rfl, h2, _⟩ := LsA.get (hA H hS) h
  refine ⟨a, l, rfl, h2, fun H' s => ?_⟩
  obtain ⟨a', l', e, h3, h4⟩ := LsA.get (hA H' s) h
  cases e
  rw [h2] at h3
  cases h3
  exact h4
theorem st_ext {L : List Fc} {M M' : List Cell} {H : Hp} {p b : Addr} {xs zs : List V} {Q : VK} (hS : SA L M H) (d : Sa.Chg M p (.lst xs) (.lst (xs ++ zs)) M') (h : At L M (fL b zs)) (hz : xs.length + zs.length ≤ 100000) (q : ∀ H', SA L M' H' → Q .non H') : rExtend (.ref p) [.ref b] H Q :=
  ⟨p, b, xs, zs, rfl, rfl, hS.at d.mem, h H hS, Nat.le_trans hz (by decide), q _ (hS.set d)⟩
theorem ov_set {os : List (Option Int)} {j : Nat} {o : Option Int} : (os.map oV).set j (oV o) = (os.set j o).map oV := (List.map_set).symm
theorem ix_at {n : Nat} {i : Int} (h0 : 0 ≤ i) (h1 : i < n) : ixN n i = some i.toNat := by
  unfold ixN
  rw [if_pos h0, if_pos h1]
/-! ### the last, the first gap up to a place in which the board shows a number -/
def hasg (ns : List Int) : Nat → Int → Bool
  | 0, v => decide (v = 0)
  | i + 1, v => hasg ns i v || decide (v = sh ns ((i : Int) + 1))
def lg (ns : List Int) : Nat → Int → Int
  | 0, _ => 0
  | i + 1, v => if v = sh ns ((i : Int) + 1) then (i : Int) + 1 else lg ns i v
def eg (ns : List Int) : Nat → Int → Int
  | 0, _ => 0
  | i + 1, v => if hasg ns i v = true then eg ns i v else (i : Int) + 1
def lateL (ns : List Int) : List Int := (List.range ns.length).map fun i => lg ns i (ns.getD i 0 - 1)
def earlyL (ns : List Int) : List Int := (List.range ns.length).map fun i => eg ns i (ns.getD i 0 - 1)
theorem lateL_len (ns : List Int) : (lateL ns).length = ns.length := by unfold lateL; rw [List.length_map, List.length_range]
theorem earlyL_len (ns : List Int) : (earlyL ns).length = ns.length := by unfold earlyL; rw [List.length_map, List.length_range]
theorem hasg_iff (ns : List Int) : ∀ (i : Nat) (v : Int), hasg ns i v = true ↔ ∃ g : Nat, g ≤ i ∧ sh ns g = v
  | 0, v => by
    show decide (v = 0) = true ↔ _
    rw [decide_eq_true_eq]
    constructor
    · intro h
      exact ⟨0, Nat.le_refl _, by rw [h]; rfl⟩
    · rintro ⟨g, hg, e⟩
      obtain rfl : g = 0 := by omega
      rw [← e]
      rfl
  | i + 1, v => by
    show (hasg ns i v || decide (v = sh ns ((i : Int) + 1))) = true ↔ _
    rw [Bool.or_eq_true, hasg_iff ns i v, decide_eq_true_eq]
    constructor
    · rintro (⟨g, hg, e⟩ | h)
      · exact ⟨g, by omega, e⟩
      · exact ⟨i + 1, Nat.le_refl _, h.symm⟩
    · rintro ⟨g, hg, e⟩
      by_cases h : g = i + 1
      · subst h
        exact .inr e.symm
      · exact .inl ⟨g, by omega, e⟩
theorem lg_is (ns : List Int) : ∀ (i : Nat) (v : Int), hasg ns i v = true → 0 ≤ lg ns i v ∧ lg ns i v ≤ i ∧ sh ns (lg ns i v) = v ∧ ∀ g : Int, lg ns i v < g → g ≤ i → sh ns g ≠ v
  | 0, v, h => by
    have hv : v = 0 := of_decide_eq_true h
    exact ⟨Int.le_refl _, Int.le_refl _, by rw [hv]; rfl, fun g h1 h2 => by
      have h1' : (0 : Int) < g := h1
      omega⟩
  | i + 1, v, h => by
    unfold lg
    by_cases e : v = sh ns ((i : Int) + 1)
    · simp only [if_pos e]
      exact ⟨by omega, by omega, e.symm, fun g h1 h2 => by omega⟩
    · simp only [if_neg e]
      have h' : (hasg ns i v || decide (v = sh ns ((i : Int) + 1))) = true := h
      rw [decide_eq_false e, Bool.or_false] at h'
      obtain ⟨a1, a2, a3, a4⟩ := lg_is ns i v h'
      refine ⟨a1, by omega, a3, fun g h1 h2 => ?_⟩
      by_cases hg : g = (i : Int) + 1
      · rw [hg]
        exact fun z => e z.symm
      · exact a4 g h1 (by omega)
theorem eg_is (ns : List Int) : ∀ (i : Nat) (v : Int), hasg ns i v = true → 0 ≤ eg ns i v ∧ eg ns i v ≤ i ∧ sh ns (eg ns i v) = v ∧ ∀ g : Int, 0 ≤ g → g < eg ns i v → sh ns g ≠ v
  | 0, v, h => by
    have hv : v = 0 := of_decide_eq_true h
    exact ⟨Int.le_refl _, Int.le_refl _, by rw [hv]; rfl, fun g h1 h2 => by
      have h2' : g < (0 : Int) := h2
      omega⟩
  | i + 1, v, h => by
    unfold eg
    by_cases e : hasg ns i v = true
    · simp only [if_pos e]
      obtain ⟨a1, a2, a3, a4⟩ := eg_is ns i v e
      exact ⟨a1, by omega, a3, a4⟩
    · simp only [if_neg e]
      have h' : (hasg ns i v || decide (v = sh ns ((i : Int) + 1))) = true := h
      rw [Bool.or_eq_true, decide_eq_true_eq] at h'
      have hv := h'.resolve_left e
      refine ⟨by omega, by omega, hv.symm, fun g h1 h2 z => e ((hasg_iff ns i v).mpr ⟨g.toNat, by omega, ?_⟩)⟩
      rw [show ((g.toNat : Nat) : Int) = g by omega]
      exact z
theorem po_hasg {ns : List Int} (hP : Po ns) {i : Nat} (hi : i < ns.length) : hasg ns i (ns.getD i 0 - 1) = true := by
  have h2 : ns.take (i + 1) = ns.take i ++ [ns.getD i 0] := Sa.take_at (by rw [List.getD_eq_getElem?_getD, List.getElem?_eq_getElem hi]; rfl)
  have h3 := po_take hP (i + 1)
  rw [h2] at h3
  obtain ⟨h4, h5, h6⟩ := po_snoc.mp h3
  rw [hasg_iff]
  by_cases h0 : ns.getD i 0 - 1 = 0
  · exact ⟨0, Nat.zero_le _, by rw [h0]; rfl⟩
  · obtain ⟨j, hj, e⟩ := List.getElem_of_mem (po_has h4 (ns.getD i 0 - 1) (by omega) (by omega))
    rw [List.length_take] at hj
    refine ⟨j + 1, by omega, ?_⟩
    unfold sh
    rw [if_neg (by omega), show ((((j + 1 : Nat) : Int) - 1)).toNat = j by omega, ← e, List.getD_eq_getElem?_getD, List.getElem?_eq_getElem (by omega), List.getElem_take]
    rfl
theorem sh_next (ns : List Int) (i : Nat) : sh ns ((i : Int) + 1) = ns.getD i 0 := by
  unfold sh
  rw [if_neg (by omega), show ((i : Int) + 1 - 1).toNat = i by omega]
/-! ### the first write that its clerk cannot have made -/
def ups1 (f : Int → Int) (c i : Int) : Int → Int := fun n => if n = c then i else f n
def flt : List Int → List (Option Int) → Int → (Int → Int) → Option Int
  | g :: r, none :: os, i, f => flt r os (i + 1) f
  | g :: r, some c :: os, i, f => if g ≤ f c then some i else flt r os (i + 1) (ups1 f c i)
  | _, _, _, _ => none
/-- the write told by the program -/
def FL (ns : List Int) (os : List (Option Int)) : Option Int := flt (lateL ns) os 0 fun _ => -1
theorem flt_end {ls : List Int} {os : List (Option Int)} {i : Int} {f : Int → Int} (h : ls.length = 0 ∨ os.length = 0) : flt ls os i f = none := by
  cases ls with
  | nil => cases os <;> rfl
  | cons g r =>
    cases os with
    | nil => rfl
    | cons o os => simp at h
theorem flt_step {ls : List Int} {os : List (Option Int)} {k : Nat} {g : Int} {o : Option Int} {i : Int} {f : Int → Int} (h1 : ls[k]? = some g) (h2 : os[k]? = some o) :
    flt (ls.drop k) (os.drop k) i f = match o with | none => flt (ls.drop (k + 1)) (os.drop (k + 1)) (i + 1) f | some c => if g ≤ f c then some i else flt (ls.drop (k + 1)) (os.drop (k + 1)) (i + 1) (ups1 f c i) := by
  obtain ⟨l1, e1⟩ := List.getElem?_eq_some_iff.mp h1
  obtain ⟨l2, e2⟩ := List.getElem?_eq_some_iff.mp h2
  rw [List.drop_eq_getElem_cons l1, List.drop_eq_getElem_cons l2, e1, e2]
  cases o <;> rfl
theorem FL_lt {ns : List Int} {os : List (Option Int)} {k : Int} (h : FL ns os = some k) : 0 ≤ k ∧ k < ns.length := by
  have main : ∀ (ls : List Int) (os : List (Option Int)) (i : Int) (f : Int → Int), flt ls os i f = some k → i ≤ k ∧ k < i + ls.length := by
    intro ls
    induction ls with
    | nil => intro os i f h; rw [flt_end (.inl rfl)] at h; cases h
    | cons g r ih =>
      intro os i f h
      cases os with
      | nil => rw [flt_end (.inr rfl)] at h; cases h
      | cons o os =>
        rw [List.length_cons]
        cases o with
        | none => have := ih os (i + 1) f h; omega
        | some c =>
          have h : (if g ≤ f c then some i else flt r os (i + 1) (ups1 f c i)) = some k := h
          by_cases hc : g ≤ f c
          · rw [if_pos hc] at h
            cases h
            omega
          · rw [if_neg hc] at h
            have := ih os (i + 1) _ h
            omega
  have := main _ _ _ _ h
  rw [lateL_len] at this
  omega
/-- a list of who wrote, as it may be passed -/
def Wo (os : List (Option Int)) : Prop := ∀ c, some c ∈ os → 0 ≤ c
/-! ### which numbers may stand in a place -/
/-- the greatest number that may be ahead -/
def gm (os : List (Option Int)) (g : Int) : Int := os.foldl (fun g o => match o with | none => g + 1 | some n => max g n) g
theorem gm_snoc (os : List (Option Int)) (o : Option Int) (g : Int) : gm (os ++ [o]) g = match o with | none => gm os g + 1 | some n => max (gm os g) n := by
  unfold gm
  rw [List.foldl_append]
  rfl
theorem gm_mono : ∀ (os : List (Option Int)) {g h : Int}, g ≤ h → gm os g ≤ gm os h
  | [], _, _, e => e
  | none :: os, g, h, e => gm_mono os (g := g + 1) (h := h + 1) (by omega)
  | some n :: os, g, h, e => gm_mono os (g := max g n) (h := max h n) (by omega)
theorem gm_ge : ∀ (os : List (Option Int)) (g : Int), g ≤ gm os g
  | [], g => Int.le_refl g
  | none :: os, g => by have := gm_ge os (g + 1); show g ≤ gm os (g + 1); omega
  | some n :: os, g => by have := gm_ge os (max g n); show g ≤ gm os (max g n); omega
theorem fill_at_some : ∀ {os : List (Option Int)} {g : Int} {i : Nat} {n : Int} {l : List Int}, os[i]? = some (some n) → l ∈ fill os g → l[i]? = some n
  | [], _, i, n, l, h, _ => by simp at h
  | some m :: r, g, 0, n, l, h, hl => by
    cases h
    unfold fill at hl
    split at hl
    · obtain ⟨l2, _, rfl⟩ := List.mem_map.mp hl
      rfl
    · cases hl
  | none :: r, g, 0, n, l, h, hl => by cases h
  | some m :: r, g, i + 1, n, l, h, hl => by
    unfold fill at hl
    split at hl
    · obtain ⟨l2, h2, rfl⟩ := List.mem_map.mp hl
      exact fill_at_some (os := r) (i := i) h h2
    · cases hl
  | none :: r, g, i + 1, n, l, h, hl => by
    unfold fill at hl
    obtain ⟨x, _, hl2⟩ := List.mem_flatMap.mp hl
    obtain ⟨l2, h2, rfl⟩ := List.mem_map.mp hl2
    exact fill_at_some (os := r) (i := i) h h2
theorem fill_at_none : ∀ {os : List (Option Int)} {g : Int} {i : Nat} {x : Int}, 0 ≤ g → fill os g ≠ [] → os[i]? = some none → ((∃ l ∈ fill os g, l[i]? = some x) ↔ 1 ≤ x ∧ x ≤ gm (os.take i) g + 1 ∧ nd (os.drop (i + 1)) ≤ max (gm (os.take i) g) x)
  | [], _, i, x, _, _, h => by simp at h
  | some m :: r, g, 0, x, _, _, h => by cases h
  | none :: r, g, 0, x, hg, hf, h => by
    have hp := fill_bad hg hf
    show _ ↔ 1 ≤ x ∧ x ≤ g + 1 ∧ nd r ≤ max g x
    rw [fill_none]
    constructor
    · rintro ⟨l, hl, e⟩
      obtain ⟨y, hy, hl2⟩ := List.mem_flatMap.mp hl
      obtain ⟨l2, h2, rfl⟩ := List.mem_map.mp hl2
      cases e
      have h3 := (rg1_mem hg).mp hy
      exact ⟨h3.1, h3.2, (fill_ne (pos1_tl hp) (by omega)).mp (List.ne_nil_of_mem h2)⟩
    · rintro ⟨h1, h2, h3⟩
      obtain ⟨l2, h4⟩ := List.exists_mem_of_ne_nil _ ((fill_ne (pos1_tl hp) (by omega : 0 ≤ max g x)).mpr h3)
      exact ⟨x :: l2, List.mem_flatMap.mpr ⟨x, (rg1_mem hg).mpr ⟨h1, h2⟩, List.mem_map.mpr ⟨l2, h4, rfl⟩⟩, rfl⟩
  | some m :: r, g, i + 1, x, hg, hf, h => by
    unfold fill at hf
    by_cases hc : 1 ≤ m ∧ m ≤ g + 1
    · rw [if_pos hc] at hf
      have hf2 : fill r (max g m) ≠ [] := fun z => hf (by rw [z]; rfl)
      have ih := fill_at_none (os := r) (g := max g m) (i := i) (x := x) (by omega) hf2 h
      show _ ↔ 1 ≤ x ∧ x ≤ gm (r.take i) (max g m) + 1 ∧ nd (r.drop (i + 1)) ≤ max (gm (r.take i) (max g m)) x
      rw [← ih, fill_some, if_pos hc]
      constructor
      · rintro ⟨l, hl, e⟩
        obtain ⟨l2, h2, rfl⟩ := List.mem_map.mp hl
        exact ⟨l2, h2, e⟩
      · rintro ⟨l, hl, e⟩
        exact ⟨m :: l, List.mem_map.mpr ⟨l, hl, rfl⟩, e⟩
    · rw [if_neg hc] at hf
      exact absurd rfl hf
  | none :: r, g, i + 1, x, hg, hf, h => by
    have hp := fill_bad hg hf
    have hnd := (fill_ne hp hg).mp hf
    have hnd2 : max (nd r - 1) 0 ≤ g := hnd
    show _ ↔ 1 ≤ x ∧ x ≤ gm (r.take i) (g + 1) + 1 ∧ nd (r.drop (i + 1)) ≤ max (gm (r.take i) (g + 1)) x
    constructor
    · rintro ⟨l, hl, e⟩
      rw [fill_none] at hl
      obtain ⟨y, hy, hl2⟩ := List.mem_flatMap.mp hl
      obtain ⟨l2, h2, rfl⟩ := List.mem_map.mp hl2
      have h3 := (rg1_mem hg).mp hy
      obtain ⟨k1, k2, k3⟩ := (fill_at_none (os := r) (g := max g y) (i := i) (x := x) (by omega) (List.ne_nil_of_mem h2) h).mp ⟨l2, h2, e⟩
      have := gm_mono (r.take i) (g := max g y) (h := g + 1) (by omega)
      exact ⟨k1, by omega, by omega⟩
    · intro k
      have h1 : fill r (g + 1) ≠ [] := (fill_ne (pos1_tl hp) (by omega)).mpr (by omega)
      obtain ⟨l2, h2, e⟩ := (fill_at_none (os := r) (g := g + 1) (i := i) (x := x) (by omega) h1 h).mpr k
      rw [fill_none]
      refine ⟨(g + 1) :: l2, List.mem_flatMap.mpr ⟨g + 1, (rg1_mem hg).mpr (by omega), List.mem_map.mpr ⟨l2, ?_, rfl⟩⟩, e⟩
      rw [show max g (g + 1) = g + 1 by omega]
      exact h2
/-- what is told of a place -/
def mayS (os : List (Option Int)) (i : Nat) : List Int :=
  if fill os 0 = [] then [] else match os[i]? with
    | some (some n) => [n]
    | _ => if nd (os.drop (i + 1)) ≤ gm (os.take i) 0 then Sa.rg 1 (gm (os.take i) 0 + 1).toNat else [gm (os.take i) 0 + 1]
theorem rg_asc (lo : Int) : ∀ n : Nat, (Sa.rg lo n).Pairwise (· < ·)
  | 0 => List.Pairwise.nil
  | n + 1 => by
    rw [Sa.rg_succ, List.pairwise_append]
    refine ⟨rg_asc lo n, List.pairwise_singleton _ _, fun a ha b hb => ?_⟩
    rw [List.mem_singleton.mp hb]
    exact (Sa.mem_rg.mp ha).2
theorem mayS_asc (os : List (Option Int)) (i : Nat) : (mayS os i).Pairwise (· < ·) := by
  unfold mayS
  split
  · exact List.Pairwise.nil
  · split
    · exact List.pairwise_singleton _ _
    · split
      · exact rg_asc _ _
      · exact List.pairwise_singleton _ _
theorem mayS_mem {os : List (Option Int)} {i : Nat} (hi : i < os.length) (x : Int) : x ∈ mayS os i ↔ ∃ l ∈ fill os 0, l[i]? = some x := by
  unfold mayS
  by_cases hf : fill os 0 = []
  · rw [if_pos hf, hf]
    simp
  · rw [if_neg hf]
    cases ho : os[i]? with
    | none => rw [List.getElem?_eq_none_iff] at ho; omega
    | some o =>
      cases o with
      | some n =>
        rw [List.mem_singleton]
        constructor
        · rintro rfl
          obtain ⟨l, hl⟩ := List.exists_mem_of_ne_nil _ hf
          exact ⟨l, hl, fill_at_some ho hl⟩
        · rintro ⟨l, hl, e⟩
          rw [fill_at_some ho hl] at e
          exact (Option.some.inj e).symm
      | none =>
        have hg := gm_ge (os.take i) 0
        have hz : nd (os.drop (i + 1)) ≤ gm (os.take i) 0 + 1 := by
          obtain ⟨l, hl⟩ := List.exists_mem_of_ne_nil _ hf
          have hlen : l.length = os.length := ((rows_ok os.length os rfl).1 l (by rw [rows_fill]; exact hl)).1
          have := (fill_at_none (x := l[i]'(by omega)) (Int.le_refl 0) hf ho).mp ⟨l, hl, List.getElem?_eq_getElem _⟩
          omega
        rw [fill_at_none (Int.le_refl 0) hf ho]
        dsimp only
        split
        · rw [Sa.mem_rg]
          omega
        · rw [List.mem_singleton]
          omega
theorem asc_same : ∀ {a b : List Int}, a.Pairwise (· < ·) → b.Pairwise (· < ·) → (∀ x, x ∈ a ↔ x ∈ b) → a = b
  | [], [], _, _, _ => rfl
  | [], y :: b, _, _, h => absurd ((h y).mpr List.mem_cons_self) (by simp)
  | x :: a, [], _, _, h => absurd ((h x).mp List.mem_cons_self) (by simp)
  | x :: a, y :: b, ha, hb, h => by
    obtain ⟨ha1, ha2⟩ := List.pairwise_cons.mp ha
    obtain ⟨hb1, hb2⟩ := List.pairwise_cons.mp hb
    have e : x = y := by
      rcases List.mem_cons.mp ((h x).mp List.mem_cons_self) with e | e
      · exact e
      · rcases List.mem_cons.mp ((h y).mpr List.mem_cons_self) with f | f
        · exact f.symm
        · have := ha1 y f
          have := hb1 x e
          omega
    subst e
    rw [asc_same ha2 hb2 fun z => ⟨fun hz => ?_, fun hz => ?_⟩]
    · rcases List.mem_cons.mp ((h z).mp (List.mem_cons_of_mem _ hz)) with f | f
      · have := ha1 z hz
        omega
      · exact f
    · rcases List.mem_cons.mp ((h z).mpr (List.mem_cons_of_mem _ hz)) with f | f
      · have := hb1 z hz
        omega
      · exact f
theorem gm_le : ∀ {os : List (Option Int)} {g : Int} {i : Nat}, 0 ≤ g → fill os g ≠ [] → gm (os.take i) g ≤ g + i
  | [], g, i, _, _ => by rw [List.take_nil]; show g ≤ _; omega
  | o :: r, g, 0, _, _ => by show g ≤ g + ((0 : Nat) : Int); omega
  | some m :: r, g, i + 1, hg, hf => by
    unfold fill at hf
    by_cases hc : 1 ≤ m ∧ m ≤ g + 1
    · rw [if_pos hc] at hf
      have := gm_le (os := r) (g := max g m) (i := i) (by omega) (fun z => hf (by rw [z]; rfl))
      show gm (r.take i) (max g m) ≤ g + ((i + 1 : Nat) : Int)
      omega
    · rw [if_neg hc] at hf
      exact absurd rfl hf
  | none :: r, g, i + 1, hg, hf => by
    have hp := fill_bad hg hf
    have hnd : max (nd r - 1) 0 ≤ g := (fill_ne hp hg).mp hf
    have h1 : fill r (g + 1) ≠ [] := (fill_ne (pos1_tl hp) (by omega)).mpr (by omega)
    have := gm_le (os := r) (g := g + 1) (i := i) (by omega) h1
    show gm (r.take i) (g + 1) ≤ g + ((i + 1 : Nat) : Int)
    omega
theorem fill_len {os : List (Option Int)} {l : List Int} (h : l ∈ fill os 0) : l.length = os.length := ((rows_ok os.length os rfl).1 l (by rw [rows_fill]; exact h)).1
theorem mayS_len {os : List (Option Int)} {i : Nat} : (mayS os i).length ≤ i + 1 := by
  unfold mayS
  by_cases hf : fill os 0 = []
  · rw [if_pos hf]
    exact Nat.zero_le _
  · rw [if_neg hf]
    have h1 := gm_le (i := i) (Int.le_refl 0) hf
    split
    · exact Nat.succ_le_succ (Nat.zero_le _)
    · split
      · rw [Sa.rg_len]
        omega
      · exact Nat.succ_le_succ (Nat.zero_le _)
/-- the numbers that stand in a place -/
def colm (os : List (Option Int)) (i : Nat) : List Int := (fill os 0).map fun l => l.getD i 0
theorem colm_mem {os : List (Option Int)} {i : Nat} (hi : i < os.length) (x : Int) : x ∈ colm os i ↔ x ∈ mayS os i := by
  rw [mayS_mem hi]
  unfold colm
  rw [List.mem_map]
  constructor
  · rintro ⟨l, hl, rfl⟩
    have := fill_len hl
    refine ⟨l, hl, ?_⟩
    rw [List.getD_eq_getElem?_getD, List.getElem?_eq_getElem (by omega)]
    rfl
  · rintro ⟨l, hl, e⟩
    exact ⟨l, hl, by rw [List.getD_eq_getElem?_getD, e]; rfl⟩
theorem colm_asc {os : List (Option Int)} {i : Nat} {ms : List Int} (hi : i < os.length) (h1 : ms.Pairwise (· < ·)) (h2 : ∀ k : Int, k ∈ ms ↔ k ∈ colm os i) : ms = mayS os i :=
  asc_same h1 (mayS_asc os i) fun x => (h2 x).trans (colm_mem hi x)
theorem fct_le6 : ∀ {i : Nat}, i ≤ 6 → fct i ≤ 720
  | 0, _ => by decide
  | 1, _ => by decide
  | 2, _ => by decide
  | 3, _ => by decide
  | 4, _ => by decide
  | 5, _ => by decide
  | 6, _ => by decide
  | i + 7, h => absurd h (by omega)
theorem fill_le6 {os : List (Option Int)} (h : os.length ≤ 6) : (fill os 0).length ≤ 720 := by
  have h1 := (rows_ok os.length os rfl).2
  rw [rows_fill] at h1
  exact Nat.le_trans h1 (fct_le6 h)
/-! ### how many numbers must be wrong -/
def chs (n g : Int) : List Int := if g ≤ 0 then [1] else if 1 < n ∧ n < g + 1 then [1, n, g + 1] else [1, g + 1]
theorem chs_asc (n : Int) {g : Int} (hg : 0 ≤ g) : (chs n g).Pairwise (· < ·) := by
  unfold chs
  by_cases h : g ≤ 0
  · rw [if_pos h]; simp
  · rw [if_neg h]
    by_cases h2 : 1 < n ∧ n < g + 1
    · rw [if_pos h2]
      simp only [List.pairwise_cons, List.mem_cons, List.not_mem_nil, or_false, List.Pairwise.nil, and_true]
      exact ⟨fun a ha => by rcases ha with e | e <;> omega, fun a ha => by omega, fun a ha => (nomatch ha)⟩
    · rw [if_neg h2]
      simp only [List.pairwise_cons, List.mem_cons, List.not_mem_nil, or_false, List.Pairwise.nil, and_true]
      exact ⟨fun a ha => by omega, fun a ha => (nomatch ha)⟩
theorem chs_mem (n : Int) {g : Int} (hg : 0 ≤ g) (k : Int) : k ∈ chs n g ↔ k = 1 ∨ k = g + 1 ∨ (k = n ∧ 1 ≤ n ∧ n ≤ g + 1) := by
  unfold chs
  by_cases h : g ≤ 0
  · rw [if_pos h, List.mem_singleton]; omega
  · rw [if_neg h]
    by_cases h2 : 1 < n ∧ n < g + 1
    · rw [if_pos h2]
      simp only [List.mem_cons, List.not_mem_nil, or_false]
      omega
    · rw [if_neg h2]
      simp only [List.mem_cons, List.not_mem_nil, or_false]
      omega
theorem chs_len (n g : Int) : (chs n g).length ≤ 3 := by
  unfold chs
  split
  · simp
  · split <;> simp
theorem chs_ne (n g : Int) : chs n g ≠ [] := by
  unfold chs
  split
  · simp
  · split <;> simp
theorem chs_le {n g k : Int} (hg : 0 ≤ g) (h : k ∈ chs n g) : 1 ≤ k ∧ k ≤ g + 1 := by
  rcases (chs_mem n hg k).mp h with e | e | e <;> omega
/-- the least of a list -/
def minL : List Int → Int
  | [] => 0
  | [a] => a
  | a :: b :: l => min a (minL (b :: l))
theorem minL_mem : ∀ {l : List Int}, l ≠ [] → minL l ∈ l
  | [a], _ => List.mem_singleton.mpr rfl
  | a :: b :: l, _ => by
    have ih := minL_mem (l := b :: l) (by simp)
    show min a (minL (b :: l)) ∈ _
    by_cases h : a ≤ minL (b :: l)
    · rw [Int.min_eq_left h]; exact List.mem_cons_self
    · rw [Int.min_eq_right (by omega)]; exact List.mem_cons_of_mem _ ih
theorem minL_le : ∀ {l : List Int} {y : Int}, y ∈ l → minL l ≤ y
  | [a], y, h => by rw [List.mem_singleton.mp h]; exact Int.le_refl a
  | a :: b :: l, y, h => by
    show min a (minL (b :: l)) ≤ y
    rcases List.mem_cons.mp h with e | e
    · omega
    · have := minL_le e
      omega
theorem minL_is {l : List Int} {m : Int} (h : m ∈ l) (g : ∀ y, y ∈ l → m ≤ y) : m = minL l := by
  have h1 := minL_le h
  have h2 := g _ (minL_mem (List.ne_nil_of_mem h))
  omega
def cst (x n : Int) (g : Int) (f : Int → Int) : Int := (if x = n then 0 else 1) + f (max g x)
/-- how many numbers must be wrong behind a greatest number -/
def wrV : List Int → Int → Int
  | [], _ => 0
  | n :: r, g => minL ((chs n g).map fun x => cst x n g (wrV r))
/-- the first choice that is among the best -/
def fstC (n : Int) (r : List Int) (g : Int) : Int := ((chs n g).filter fun x => decide (cst x n g (wrV r) = wrV (n :: r) g)).headD 1
theorem fstC_ok (n : Int) (r : List Int) {g : Int} (hg : 0 ≤ g) : ((chs n g).filter fun x => decide (cst x n g (wrV r) = wrV (n :: r) g)).head? = some (fstC n r g) ∧ fstC n r g ∈ chs n g ∧ cst (fstC n r g) n g (wrV r) = wrV (n :: r) g := by
  have hm : wrV (n :: r) g ∈ (chs n g).map fun x => cst x n g (wrV r) := minL_mem (by simp [chs_ne])
  obtain ⟨x, hx, e⟩ := List.mem_map.mp hm
  have hne : ((chs n g).filter fun x => decide (cst x n g (wrV r) = wrV (n :: r) g)) ≠ [] := List.ne_nil_of_mem (List.mem_filter.mpr ⟨hx, decide_eq_true e⟩)
  unfold fstC
  cases hl : (chs n g).filter fun x => decide (cst x n g (wrV r) = wrV (n :: r) g) with
  | nil => exact absurd hl hne
  | cons a l =>
    have ha : a ∈ (chs n g).filter fun x => decide (cst x n g (wrV r) = wrV (n :: r) g) := by rw [hl]; exact List.mem_cons_self
    obtain ⟨h1, h2⟩ := List.mem_filter.mp ha
    exact ⟨rfl, h1, of_decide_eq_true h2⟩
/-- the list that is told -/
def mend : List Int → Int → List Int
  | [], _ => []
  | n :: r, g => fstC n r g :: mend r (max g (fstC n r g))
theorem mend_len : ∀ (l : List Int) (g : Int), (mend l g).length = l.length
  | [], _ => rfl
  | n :: r, g => congrArg (· + 1) (mend_len r _)
/-- rows of the table -/
def rowW (ns : List Int) (i : Nat) : List Int := if i = ns.length then List.replicate (ns.length + 1) 0 else (List.range (i + 1)).map fun g : Nat => wrV (ns.drop i) g
theorem rowW_len {ns : List Int} {i : Nat} : (rowW ns i).length = i + 1 := by
  unfold rowW
  by_cases h : i = ns.length
  · rw [if_pos h, List.length_replicate, h]
  · rw [if_neg h, List.length_map, List.length_range]
theorem rowW_at {ns : List Int} {i g : Nat} (h : g ≤ i) : (rowW ns i).getD g 0 = wrV (ns.drop i) g := by
  unfold rowW
  by_cases e : i = ns.length
  · rw [if_pos e, List.getD_eq_getElem?_getD, List.getElem?_replicate, if_pos (by omega), e, List.drop_length]
    rfl
  · rw [if_neg e, List.getD_eq_getElem?_getD, List.getElem?_map, List.getElem?_range (by omega)]
    rfl
theorem rowW_lt {ns : List Int} {i : Nat} (h : i < ns.length) : rowW ns i = (List.range (i + 1)).map fun g : Nat => wrV (ns.drop i) g := if_neg (by omega)
def tabWR (ns : List Int) (t : Nat) : List (List Int) := (List.range (t + 1)).map fun s => rowW ns (ns.length - s)
def tabW (ns : List Int) : List (List Int) := (List.range (ns.length + 1)).map (rowW ns)
theorem tabWR_zero (ns : List Int) : tabWR ns 0 = [List.replicate (ns.length + 1) 0] := by
  show [rowW ns (ns.length - 0)] = _
  rw [Nat.sub_zero]
  exact congrArg (fun z => [z]) (if_pos rfl)
theorem tabWR_succ (ns : List Int) (t : Nat) : tabWR ns (t + 1) = tabWR ns t ++ [rowW ns (ns.length - (t + 1))] := by
  unfold tabWR
  rw [List.range_succ, List.map_append]
  rfl
theorem tabWR_len (ns : List Int) (t : Nat) : (tabWR ns t).length = t + 1 := by unfold tabWR; rw [List.length_map, List.length_range]
theorem tabWR_last (ns : List Int) (t : Nat) : (tabWR ns t)[t]? = some (rowW ns (ns.length - t)) := by
  unfold tabWR
  rw [List.getElem?_map, List.getElem?_range (by omega)]
  rfl
theorem tabW_len (ns : List Int) : (tabW ns).length = ns.length + 1 := by unfold tabW; rw [List.length_map, List.length_range]
theorem tabW_at {ns : List Int} {i : Nat} (h : i ≤ ns.length) : (tabW ns)[i]? = some (rowW ns i) := by
  unfold tabW
  rw [List.getElem?_map, List.getElem?_range (by omega)]
  rfl
theorem tabWR_rev (ns : List Int) : (tabWR ns ns.length).reverse = tabW ns := by
  refine List.ext_getElem? fun i => ?_
  by_cases h : i < ns.length + 1
  · rw [List.getElem?_reverse (by rw [tabWR_len]; exact h), tabWR_len, tabW_at (by omega)]
    unfold tabWR
    rw [List.getElem?_map, List.getElem?_range (by omega)]
    show some (rowW ns (ns.length - (ns.length + 1 - 1 - i))) = _
    rw [show ns.length - (ns.length + 1 - 1 - i) = i by omega]
  · rw [List.getElem?_eq_none (by rw [List.length_reverse, tabWR_len]; omega), List.getElem?_eq_none (by rw [tabW_len]; omega)]
/-! ### loads: in how many stretches a place lies -/
def inP (t : Int) (p : Int × Int) : Bool := decide (p.1 ≤ t) && decide (t ≤ p.2)
def ldN (ps : List (Int × Int)) (t : Int) : Int := ((ps.filter (inP t)).length : Int)
def ldL (ps : List (Int × Int)) (n : Nat) : List Int := (Sa.rg 0 n).map (ldN ps)
theorem ldL_len (ps : List (Int × Int)) (n : Nat) : (ldL ps n).length = n := by unfold ldL; rw [List.length_map, Sa.rg_len]
theorem ldN_nil (t : Int) : ldN [] t = 0 := rfl
theorem ldN_app (ps qs : List (Int × Int)) (t : Int) : ldN (ps ++ qs) t = ldN ps t + ldN qs t := by
  unfold ldN
  rw [List.filter_append, List.length_append, Int.natCast_add]
theorem ldN_one (a b t : Int) : ldN [(a, b)] t = if a ≤ t ∧ t ≤ b then 1 else 0 := by
  unfold ldN inP
  by_cases h : a ≤ t ∧ t ≤ b
  · rw [if_pos h, List.filter_cons, if_pos (by simp [h])]
    rfl
  · rw [if_neg h, List.filter_cons, if_neg (by simpa using h)]
    rfl
theorem ldN_snoc (ps : List (Int × Int)) (a b t : Int) : ldN (ps ++ [(a, b)]) t = ldN ps t + if a ≤ t ∧ t ≤ b then 1 else 0 := by rw [ldN_app, ldN_one]
theorem ldN_nonneg (ps : List (Int × Int)) (t : Int) : 0 ≤ ldN ps t := Int.natCast_nonneg _
theorem ldN_le (ps : List (Int × Int)) (t : Int) : ldN ps t ≤ ps.length := by
  unfold ldN
  have := List.length_filter_le (inP t) ps
  omega
theorem ldN_neg {ps : List (Int × Int)} (h : ∀ p ∈ ps, 0 ≤ p.1) {t : Int} (ht : t < 0) : ldN ps t = 0 := by
  unfold ldN
  rw [List.filter_eq_nil_iff.mpr (fun p hp => by
    have := h p hp
    unfold inP
    simp only [Bool.and_eq_true, decide_eq_true_eq, not_and]
    omega)]
  rfl
theorem getD_set {C : List Int} {i t : Nat} {w : Int} (hi : i < C.length) : (C.set i w).getD t 0 = if t = i then w else C.getD t 0 := by
  rw [List.getD_eq_getElem?_getD, List.getD_eq_getElem?_getD, List.getElem?_set]
  by_cases h : i = t
  · subst h
    rw [if_pos rfl, if_pos rfl, if_pos hi]
    rfl
  · rw [if_neg h, if_neg (fun e => h e.symm)]
/-- what changes from place to place -/
def dfN (ps : List (Int × Int)) (t : Nat) : Int := ldN ps t - ldN ps ((t : Int) - 1)
def Okp (n : Nat) (ps : List (Int × Int)) : Prop := ∀ p ∈ ps, 0 ≤ p.1 ∧ p.1 ≤ p.2 + 1 ∧ p.2 < n
theorem dfN_snoc (ps : List (Int × Int)) {a b : Int} (h0 : 0 ≤ a) (h1 : a ≤ b + 1) (t : Nat) : dfN (ps ++ [(a, b)]) t = dfN ps t + (if (t : Int) = a then 1 else 0) - (if (t : Int) = b + 1 then 1 else 0) := by
  unfold dfN
  rw [ldN_snoc, ldN_snoc]
  by_cases c1 : a ≤ (t : Int) ∧ (t : Int) ≤ b <;> by_cases c2 : a ≤ (t : Int) - 1 ∧ (t : Int) - 1 ≤ b <;> by_cases c3 : (t : Int) = a <;> by_cases c4 : (t : Int) = b + 1 <;> simp only [c1, c2, c3, c4, if_true, if_false] <;> omega
/-- the stretches of a course -/
def strP (cs : List Int) : List (Int × Int) := (Sa.en2 cs).map fun p => (p.2, p.1)
theorem strP_len (cs : List Int) : (strP cs).length = cs.length := by unfold strP; rw [List.length_map, Sa.en2_len]
theorem strP_mem {cs : List Int} {p : Int × Int} (h : p ∈ strP cs) : 0 ≤ p.2 ∧ p.2 < cs.length ∧ p.1 = cs.getD p.2.toNat 0 := by
  unfold strP at h
  obtain ⟨q, hq, rfl⟩ := List.mem_map.mp h
  exact Sa.en2_mem hq
theorem strP_snoc (cs : List Int) (x : Int) : strP (cs ++ [x]) = strP cs ++ [(x, (cs.length : Int))] := by
  unfold strP
  rw [Sa.en2_snoc, List.map_append]
  rfl
theorem lateL_at {ns : List Int} {i : Nat} (hi : i < ns.length) : (lateL ns).getD i 0 = lg ns i (ns.getD i 0 - 1) := by
  unfold lateL
  rw [List.getD_eq_getElem?_getD, List.getElem?_map, List.getElem?_range hi]
  rfl
theorem lateL_rng {ns : List Int} (hP : Po ns) {i : Nat} (hi : i < ns.length) : 0 ≤ (lateL ns).getD i 0 ∧ (lateL ns).getD i 0 ≤ i := by
  rw [lateL_at hi]
  have h := lg_is ns i _ (po_hasg hP hi)
  exact ⟨h.1, h.2.1⟩
theorem strP_ok {ns : List Int} (hP : Po ns) : Okp ns.length (strP (lateL ns)) := fun p hp => by
  obtain ⟨h1, h2, h3⟩ := strP_mem hp
  rw [lateL_len] at h2
  have h4 := lateL_rng hP (i := p.2.toNat) (by omega)
  rw [← h3] at h4
  omega
/-- as the law counts it -/
theorem ldN_drop : ∀ (cs : List Int) (t : Nat), ldN (strP cs) t = (((cs.drop t).filter fun g => decide (g ≤ (t : Int))).length : Int) := fun cs t => by
  induction cs using snoc_ind with
  | h0 => simp [ldN, strP, Sa.en2]
  | h1 l x ih =>
    rw [strP_snoc, ldN_snoc, ih]
    by_cases ht : t ≤ l.length
    · rw [List.drop_append_of_le_length ht, List.filter_append, List.length_append, Int.natCast_add]
      congr 1
      by_cases hx : x ≤ (t : Int)
      · rw [if_pos ⟨hx, by omega⟩, List.filter_cons, if_pos (decide_eq_true hx)]
        rfl
      · rw [if_neg (fun h => hx h.1), List.filter_cons, if_neg (by rw [decide_eq_false hx]; decide)]
        rfl
    · rw [if_neg (fun h => by omega), List.drop_of_length_le (by omega), List.drop_of_length_le (by rw [List.length_append, List.length_singleton]; omega), Int.add_zero]
/-! ### pairs that one clerk can have made -/
/-- behind each write -/
def pairsAt (ls : List Int) (a : Nat) : List (Int × Int) := ((Sa.rg ((a : Int) + 1) (ls.length - (a + 1))).filter fun b => decide ((a : Int) < ls.getD b.toNat 0)).map fun b => ((a : Int), b)
def pairsL (ls : List Int) : List (Int × Int) := (List.range ls.length).flatMap (pairsAt ls)
def pD (p : Int × Int) : PyData := .tuple [.int p.1, .int p.2]
theorem mem_pairs {ls : List Int} {a b : Int} : (a, b) ∈ pairsL ls ↔ 0 ≤ a ∧ a < b ∧ b < ls.length ∧ a < ls.getD b.toNat 0 := by
  unfold pairsL
  rw [List.mem_flatMap]
  constructor
  · rintro ⟨n, hn, h⟩
    obtain ⟨c, hc, e⟩ := List.mem_map.mp h
    cases e
    obtain ⟨h1, h2⟩ := List.mem_filter.mp hc
    have h3 := Sa.mem_rg.mp h1
    have h4 := of_decide_eq_true h2
    have := List.mem_range.mp hn
    refine ⟨by omega, by omega, by omega, h4⟩
  · rintro ⟨h1, h2, h3, h4⟩
    refine ⟨a.toNat, List.mem_range.mpr (by omega), List.mem_map.mpr ⟨b, List.mem_filter.mpr ⟨Sa.mem_rg.mpr (by omega), decide_eq_true (by omega)⟩, by rw [show ((a.toNat : Nat) : Int) = a by omega]⟩⟩
theorem pairs_take (ls : List Int) (k : Nat) (h : k < ls.length) : (List.range (k + 1)).flatMap (pairsAt ls) = (List.range k).flatMap (pairsAt ls) ++ pairsAt ls k := by
  rw [List.range_succ, List.flatMap_append, List.flatMap_singleton]
def pairsJ (ls : List Int) (a j : Nat) : List (Int × Int) := (((Sa.rg ((a : Int) + 1) (ls.length - (a + 1))).take j).filter fun b => decide ((a : Int) < ls.getD b.toNat 0)).map fun b => ((a : Int), b)
theorem pairsJ_zero (ls : List Int) (a : Nat) : pairsJ ls a 0 = [] := by
  unfold pairsJ
  rw [List.take_zero]
  rfl
theorem pairsJ_full (ls : List Int) (a : Nat) : pairsJ ls a (ls.length - (a + 1)) = pairsAt ls a := by
  unfold pairsJ pairsAt
  rw [List.take_of_length_le (by rw [Sa.rg_len]; exact Nat.le_refl _)]
theorem pairsJ_yes {ls : List Int} {a j : Nat} (hj : j < ls.length - (a + 1)) (h : (a : Int) < ls.getD ((a : Int) + 1 + j).toNat 0) : pairsJ ls a (j + 1) = pairsJ ls a j ++ [((a : Int), (a : Int) + 1 + j)] := by
  unfold pairsJ
  rw [Sa.take_at (Sa.rg_get hj), List.filter_append, List.filter_cons_of_pos (by rw [decide_eq_true_eq]; exact h), List.filter_nil, List.map_append]
  rfl
theorem pairsJ_no {ls : List Int} {a j : Nat} (hj : j < ls.length - (a + 1)) (h : ¬ (a : Int) < ls.getD ((a : Int) + 1 + j).toNat 0) : pairsJ ls a (j + 1) = pairsJ ls a j := by
  unfold pairsJ
  rw [Sa.take_at (Sa.rg_get hj), List.filter_append, List.filter_cons_of_neg (by rw [decide_eq_true_eq]; exact h), List.filter_nil, List.append_nil]
/-- two clerks alone are known -/
def two (n : Nat) (l r : Nat) (c : Int) : List (Option Int) := ((List.replicate n none).set l (some c)).set r (some c)
theorem flt_none : ∀ (ls : List Int) (n : Nat) (i : Int) (f : Int → Int), flt ls (List.replicate n none) i f = none
  | [], n, i, f => by cases n <;> rfl
  | g :: r, 0, i, f => rfl
  | g :: r, n + 1, i, f => flt_none r n (i + 1) f
theorem flt_one : ∀ (ls : List Int) (n k : Nat) (c i : Int) (f : Int → Int), k < n → k < ls.length → flt ls ((List.replicate n none).set k (some c)) i f = if ls.getD k 0 ≤ f c then some (i + k) else none
  | [], n, k, c, i, f, _, h => absurd h (Nat.not_lt_zero _)
  | g :: r, 0, k, c, i, f, h, _ => absurd h (Nat.not_lt_zero _)
  | g :: r, n + 1, 0, c, i, f, _, _ => by
    show (if g ≤ f c then some i else flt r (List.replicate n none) (i + 1) (ups1 f c i)) = if g ≤ f c then some (i + ((0 : Nat) : Int)) else none
    rw [flt_none, show i + ((0 : Nat) : Int) = i by omega]
  | g :: r, n + 1, k + 1, c, i, f, h, h2 => by
    show flt r ((List.replicate n none).set k (some c)) (i + 1) f = _
    rw [flt_one r n k c (i + 1) f (by omega) (by rw [List.length_cons] at h2; omega), show i + 1 + (k : Int) = i + ((k + 1 : Nat) : Int) by omega]
    rfl
theorem flt_two : ∀ (ls : List Int) (n l r : Nat) (c i : Int) (f : Int → Int), l < r → r < n → r < ls.length → (∀ x, f x < i) → f c < ls.getD l 0 →
    flt ls (((List.replicate n none).set l (some c)).set r (some c)) i f = if ls.getD r 0 ≤ i + l then some (i + r) else none
  | [], n, l, r, c, i, f, _, _, h, _, _ => absurd h (Nat.not_lt_zero _)
  | g :: ls, 0, l, r, c, i, f, _, h, _, _, _ => absurd h (Nat.not_lt_zero _)
  | g :: ls, n + 1, l, 0, c, i, f, h, _, _, _, _ => absurd h (Nat.not_lt_zero _)
  | g :: ls, n + 1, 0, r + 1, c, i, f, h1, h2, h3, h4, h5 => by
    show (if g ≤ f c then some i else flt ls ((List.replicate n none).set r (some c)) (i + 1) (ups1 f c i)) = _
    have h5 : f c < g := h5
    rw [if_neg (by omega), flt_one ls n r c (i + 1) _ (by omega) (by rw [List.length_cons] at h3; omega)]
    show (if ls.getD r 0 ≤ (if c = c then i else f c) then some (i + 1 + (r : Int)) else none) = if ls.getD r 0 ≤ i + ((0 : Nat) : Int) then some (i + ((r + 1 : Nat) : Int)) else none
    rw [if_pos rfl, show i + ((0 : Nat) : Int) = i by omega, show i + 1 + (r : Int) = i + ((r + 1 : Nat) : Int) by omega]
  | g :: ls, n + 1, l + 1, r + 1, c, i, f, h1, h2, h3, h4, h5 => by
    show flt ls (((List.replicate n none).set l (some c)).set r (some c)) (i + 1) f = _
    rw [flt_two ls n l r c (i + 1) f (by omega) (by omega) (by rw [List.length_cons] at h3; omega) (fun x => by have := h4 x; omega) h5,
      show i + 1 + (l : Int) = i + ((l + 1 : Nat) : Int) by omega, show i + 1 + (r : Int) = i + ((r + 1 : Nat) : Int) by omega]
    rfl
theorem late_ge {ns : List Int} (hP : Po ns) {k : Nat} (h : k < ns.length) : 0 ≤ (lateL ns).getD k 0 ∧ (lateL ns).getD k 0 ≤ k := by
  unfold lateL
  rw [List.getD_eq_getElem?_getD, List.getElem?_map, List.getElem?_range h]
  have := lg_is ns k _ (po_hasg hP h)
  exact ⟨this.1, this.2.1⟩
/-- apart: no gap of the later one is behind the earlier one -/
def apB (ls : List Int) (l r : Int) : Bool := !decide (l = r) && decide (ls.getD (max l r).toNat 0 ≤ min l r)
theorem two_ap {ns : List Int} (hP : Po ns) {l r : Nat} {c : Int} (hl : l < ns.length) (hr : r < ns.length) (hc : 0 ≤ c) : decide (FL ns (two ns.length l r c) = none) = !apB (lateL ns) l r := by
  have hll := lateL_len ns
  have key : ∀ a b : Nat, a < b → b < ns.length → decide (flt (lateL ns) (((List.replicate ns.length none).set a (some c)).set b (some c)) 0 (fun _ => -1) = none) = !apB (lateL ns) a b := by
    intro a b hab hb
    have h0 := (late_ge hP (k := a) (by omega)).1
    rw [flt_two (lateL ns) ns.length a b c 0 _ hab hb (by omega) (fun _ => by decide) (show (-1 : Int) < _ by omega), Int.zero_add]
    unfold apB
    rw [show max (a : Int) b = b by omega, show min (a : Int) b = a by omega, Int.toNat_natCast, decide_eq_false (show ¬ (a : Int) = b by omega)]
    by_cases h : (lateL ns).getD b 0 ≤ (a : Int)
    · rw [if_pos h, decide_eq_true h]
      rfl
    · rw [if_neg h, decide_eq_false h]
      rfl
  unfold FL two
  rcases Nat.lt_trichotomy l r with h | h | h
  · exact key l r h hr
  · subst h
    rw [List.set_set, flt_one (lateL ns) ns.length l c 0 _ hl (by omega)]
    have h0 := (late_ge hP (k := l) hl).1
    rw [if_neg (show ¬ (lateL ns).getD l 0 ≤ -1 by omega)]
    unfold apB
    rw [decide_eq_true (show (l : Int) = l from rfl)]
    rfl
  · rw [List.set_comm _ _ (by omega), key r l h hl]
    unfold apB
    rw [show max (l : Int) r = max (r : Int) l by omega, show min (l : Int) r = min (r : Int) l by omega, decide_eq_decide.mpr (show (l : Int) = r ↔ (r : Int) = l by omega)]
theorem ap_comm (ls : List Int) (l r : Int) : apB ls l r = apB ls r l := by
  unfold apB
  rw [show max l r = max r l by omega, show min l r = min r l by omega, decide_eq_decide.mpr (show l = r ↔ r = l by omega)]
/-! ### such lists compared -/
theorem oD_eqv (x y : Option Int) : PyData.eqv (oD x) (oD y) = decide (x = y) := by
  cases x with
  | none =>
    cases y with
    | none => rfl
    | some m => rfl
  | some n =>
    cases y with
    | none => rfl
    | some m =>
      show (n == m) = _
      by_cases h : n = m
      · rw [h]
        simp
      · rw [decide_eq_false (fun z => h (Option.some.inj z))]
        exact beq_eq_false_iff_ne.mpr h
theorem eqv_oDs : ∀ a b : List (Option Int), PyData.eqvAll (a.map oD) (b.map oD) = decide (a = b)
  | [], [] => rfl
  | [], _ :: _ => rfl
  | _ :: _, [] => rfl
  | x :: a, y :: b => by
    show (PyData.eqv (oD x) (oD y) && PyData.eqvAll (a.map oD) (b.map oD)) = _
    rw [oD_eqv, eqv_oDs a b, Bool.eq_iff_iff]
    simp
theorem canAll_oDs : ∀ os : List (Option Int), PyData.canLayAll0 (os.map oD) = true
  | [] => rfl
  | x :: os => by
    show (PyData.canLay0 (oD x) && PyData.canLayAll0 (os.map oD)) = true
    rw [canAll_oDs os]
    cases x <;> rfl
theorem shaped_oDs (os : List (Option Int)) : SeqAt.shaped (.list (os.map oD)) = true := by
  unfold SeqAt.shaped
  rw [show PyData.canLay0 (.list (os.map oD)) = PyData.canLayAll0 (os.map oD) from rfl, canAll_oDs,
    show PyData.depth (.list (os.map oD)) = PyData.depthAll (os.map oD) + 1 from rfl, depth_oDs]
  rfl
abbrev lD (l : List Int) : PyData := .list (l.map PyData.int)
theorem canAll_ls : ∀ ls : List (List Int), PyData.canLayAll0 (ls.map lD) = true
  | [] => rfl
  | x :: ls => by
    show (PyData.canLayAll0 (x.map PyData.int) && PyData.canLayAll0 (ls.map lD)) = true
    rw [canAll_ls ls, Sa.canAll_ints]
    rfl
theorem depth_ls : ∀ ls : List (List Int), PyData.depthAll (ls.map lD) ≤ 1
  | [] => Nat.zero_le 1
  | x :: ls => by
    show max (PyData.depthAll (x.map PyData.int) + 1) (PyData.depthAll (ls.map lD)) ≤ 1
    have := depth_ls ls
    rw [Sa.depthAll_ints]
    omega
theorem shaped_ls (ls : List (List Int)) : SeqAt.shaped (.list (ls.map lD)) = true := by
  unfold SeqAt.shaped
  have := depth_ls ls
  rw [show PyData.canLay0 (.list (ls.map lD)) = PyData.canLayAll0 (ls.map lD) from rfl, canAll_ls,
    show PyData.depth (.list (ls.map lD)) = PyData.depthAll (ls.map lD) + 1 from rfl, Bool.true_and]
  exact decide_eq_true (by omega)
section
variable {K : PySem.W.Frag} {L : List Fc} {M : List Cell} {H : Hp} {a b : Addr} {Q : VK} {os ot : List (Option Int)}
theorem st_eqO (hS : SA L M H) (h1 : At L M (fQ K a (os.map oV))) (h2 : At L M (fQ K b (ot.map oV))) (q : Q (.bl (decide (os = ot))) H) : rEqD K (.ref a) (.ref b) H Q :=
  ⟨_, _, (at_ovs h1) H hS, (at_ovs h2) H hS, shaped_oDs os, shaped_oDs ot, by
    rw [show PyData.eqv (.list (os.map oD)) (.list (ot.map oD)) = PyData.eqvAll (os.map oD) (ot.map oD) from rfl, eqv_oDs]
    exact q⟩
theorem st_neO (hS : SA L M H) (h1 : At L M (fQ K a (os.map oV))) (h2 : At L M (fQ K b (ot.map oV))) (q : Q (.bl (!decide (os = ot))) H) : rNeD K (.ref a) (.ref b) H Q :=
  ⟨_, _, (at_ovs h1) H hS, (at_ovs h2) H hS, shaped_oDs os, shaped_oDs ot, by
    rw [show PyData.eqv (.list (os.map oD)) (.list (ot.map oD)) = PyData.eqvAll (os.map oD) (ot.map oD) from rfl, eqv_oDs]
    exact q⟩
theorem st_eqO0 (hS : SA L M H) (h1 : At L M (fQ K a (os.map oV))) (h2 : At L M (fQ K b [])) (q : Q (.bl (decide (os = []))) H) : rEqD K (.ref a) (.ref b) H Q := st_eqO (ot := []) hS h1 h2 q
theorem st_neO0 (hS : SA L M H) (h1 : At L M (fQ K a (os.map oV))) (h2 : At L M (fQ K b [])) (q : Q (.bl (!decide (os = []))) H) : rNeD K (.ref a) (.ref b) H Q := st_neO (ot := []) hS h1 h2 q
theorem at_ls {vs : List V} {ls : List (List Int)} (h1 : At L M (fQ K a vs)) (h2 : At L M (fLs vs ls)) : At L M (fD K (.ref a) (.list (ls.map lD))) := Sa.At.lst h1 (fun H hS => (h2 H hS).dp)
theorem st_neLs {vs : List V} {ls : List (List Int)} (hS : SA L M H) (h1 : At L M (fQ K a vs)) (h2 : At L M (fLs vs ls)) (h3 : At L M (fQ K b [])) (q : Q (.bl (!decide (ls = []))) H) : rNeD K (.ref a) (.ref b) H Q :=
  Sa.st_ne0 hS (at_ls h1 h2) h3 (shaped_ls ls) (by
    have e : decide (ls.map lD = []) = decide (ls = []) := by cases ls <;> rfl
    rw [e]
    exact q)
end
theorem atI_W {xs : List V} {i : Nat} {v : V} (h : xs[i]? = some v) : atI xs (i : Int) = some v := by
  have hl := (List.getElem?_eq_some_iff.mp h).1
  unfold atI
  rw [ix_at (by omega) (by omega), Option.bind_some, Int.toNat_natCast]
  exact h
theorem st_repN {L : List Fc} {M : List Cell} {H : Hp} {a : Addr} {n : Int} {Q : VK} (hS : SA L M H) (h : At L M (fL a [.non])) (h0 : -100000 ≤ n) (h1 : n ≤ 100000) (q : ∀ p H', SA L ((p, .lst ((List.replicate n.toNat (none : Option Int)).map oV)) :: M) H' → Q (.ref p) H') : rRep (.ref a) (.int n) H Q := by
  refine ⟨a, n, _, rfl, rfl, h H hS, by omega, by omega, ?_, fun p hp => ?_⟩
  · have e : sizeLine ≥ 100000 := by decide
    simp only [List.length_cons, List.length_nil]
    omega
  · have e : (List.replicate n.toNat [V.non]).flatten = (List.replicate n.toNat (none : Option Int)).map oV := by
      rw [List.map_replicate]
      generalize n.toNat = k
      induction k with
      | zero => rfl
      | succ k ih => rw [List.replicate_succ, List.flatten_cons, ih, List.replicate_succ]; rfl
    rw [e]
    exact q p _ (hS.newM hp)
theorem atI_o {os : List (Option Int)} {i : Int} (h0 : 0 ≤ i) (h1 : i < os.length) : atI (os.map oV) i = some (oV (os.getD i.toNat none)) := by
  unfold atI
  rw [ix_at h0 (by rw [List.length_map]; exact h1), Option.bind_some, List.getElem?_map, List.getD_eq_getElem?_getD, List.getElem?_eq_getElem (by omega)]
  rfl
/-! ### flat data -/
def Gd (d : PyData) : Prop := PyData.canLay0 d = true ∧ PyData.depth d ≤ 1 ∧ PyData.eqv d d = true
theorem gd_il (ns : List Int) : Gd (.list (ns.map PyData.int)) := ⟨Sa.canAll_ints ns, by show PyData.depthAll (ns.map PyData.int) + 1 ≤ 1; rw [Sa.depthAll_ints]; exact Nat.le_refl _, Sa.eqv_il ns⟩
theorem gd_os (os : List (Option Int)) : Gd (.list (os.map oD)) := ⟨canAll_oDs os, by show PyData.depthAll (os.map oD) + 1 ≤ 1; rw [depth_oDs]; exact Nat.le_refl _, by
  rw [show PyData.eqv (.list (os.map oD)) (.list (os.map oD)) = PyData.eqvAll (os.map oD) (os.map oD) from rfl, eqv_oDs]
  exact decide_eq_true rfl⟩
theorem gd_all : ∀ ds : List PyData, (∀ d ∈ ds, Gd d) → PyData.canLayAll0 ds = true ∧ PyData.depthAll ds ≤ 1 ∧ PyData.eqvAll ds ds = true
  | [], _ => ⟨rfl, Nat.zero_le _, rfl⟩
  | d :: ds, h => by
    obtain ⟨h1, h2, h3⟩ := gd_all ds fun e he => h e (List.mem_cons_of_mem _ he)
    obtain ⟨g1, g2, g3⟩ := h d List.mem_cons_self
    refine ⟨?_, ?_, ?_⟩
    · show (PyData.canLay0 d && PyData.canLayAll0 ds) = true
      rw [g1, h1]
      rfl
    · show max (PyData.depth d) (PyData.depthAll ds) ≤ 1
      omega
    · show (PyData.eqv d d && PyData.eqvAll ds ds) = true
      rw [g3, h3]
      rfl
theorem gd_list {ds : List PyData} (h : ∀ d ∈ ds, Gd d) : SeqAt.shaped (.list ds) = true ∧ PyData.eqv (.list ds) (.list ds) = true := by
  obtain ⟨h1, h2, h3⟩ := gd_all ds h
  refine ⟨?_, h3⟩
  unfold SeqAt.shaped
  rw [show PyData.canLay0 (.list ds) = PyData.canLayAll0 ds from rfl, h1, show PyData.depth (.list ds) = PyData.depthAll ds + 1 from rfl, Bool.true_and]
  exact decide_eq_true (by omega)
theorem gd_two {d e : PyData} (h1 : Gd d) (h2 : Gd e) : ∀ x ∈ [d, e], Gd x := fun x hx => by
  rcases List.mem_cons.mp hx with rfl | hx
  · exact h1
  · rw [List.mem_singleton.mp hx]; exact h2
theorem gd_three {d e f : PyData} (h1 : Gd d) (h2 : Gd e) (h3 : Gd f) : ∀ x ∈ [d, e, f], Gd x := fun x hx => by
  rcases List.mem_cons.mp hx with rfl | hx
  · exact h1
  · exact gd_two h2 h3 x hx
theorem dp_oV {K : PySem.W.Frag} {L : List Fc} {M : List Cell} (o : Option Int) : At L M (fD K (oV o) (oD o)) := by
  cases o with
  | none => exact Sa.At.non
  | some n => exact Sa.At.int
theorem depth_oD (o : Option Int) : PyData.depth (oD o) = 0 := by cases o <;> rfl
theorem st_neSame {K : PySem.W.Frag} {L : List Fc} {M : List Cell} {H : Hp} {x y : V} {d : PyData} {Q : VK} (hS : SA L M H) (h1 : At L M (fD K x d)) (h2 : At L M (fD K y d)) (hs : SeqAt.shaped d = true) (he : PyData.eqv d d = true) (q : Q (.bl false) H) : rNeD K x y H Q :=
  ⟨d, d, h1 H hS, h2 H hS, hs, hs, by rw [he]; exact q⟩
/-! ### shares of clerks -/
def maxL (l : List Int) : Int := -(minL (l.map fun x => -x))
theorem maxL_is {l : List Int} {m : Int} (h : m ∈ l) (g : ∀ y, y ∈ l → y ≤ m) : m = maxL l := by
  unfold maxL
  have h1 : -m = minL (l.map fun x => -x) := minL_is (List.mem_map.mpr ⟨m, h, rfl⟩) fun y hy => by
    obtain ⟨x, hx, rfl⟩ := List.mem_map.mp hy
    have := g x hx
    omega
  omega
theorem maxL_mem {l : List Int} (h : l ≠ []) : maxL l ∈ l := by
  have h1 : minL (l.map fun x => -x) ∈ l.map fun x => -x := minL_mem fun e => h (List.map_eq_nil_iff.mp e)
  obtain ⟨x, hx, e⟩ := List.mem_map.mp h1
  unfold maxL
  rw [← e, Int.neg_neg]
  exact hx
theorem le_maxL {l : List Int} {y : Int} (h : y ∈ l) : y ≤ maxL l := by
  have h1 := minL_le (l := l.map fun x => -x) (y := -y) (List.mem_map.mpr ⟨y, h, rfl⟩)
  unfold maxL
  omega
def eldF (ws : List Int) : Nat → Int → Int
  | 0 => fun _ => -1
  | i + 1 => ups1 (eldF ws i) (ws.getD i 0) i
def eldN (ws : List Int) (i : Nat) : Int := eldF ws i (ws.getD i 0)
def eldL (ws : List Int) : List Int := (List.range ws.length).map (eldN ws)
theorem eldL_len (ws : List Int) : (eldL ws).length = ws.length := by unfold eldL; rw [List.length_map, List.length_range]
theorem eldF_rg (ws : List Int) : ∀ (i : Nat) (c : Int), -1 ≤ eldF ws i c ∧ eldF ws i c < i
  | 0, c => ⟨Int.le_refl _, by show (-1 : Int) < ((0 : Nat) : Int); omega⟩
  | i + 1, c => by
    have := eldF_rg ws i c
    show -1 ≤ ups1 (eldF ws i) (ws.getD i 0) i c ∧ ups1 (eldF ws i) (ws.getD i 0) i c < _
    unfold ups1
    split <;> omega
def ownN (ws : List Int) (k : Int) (i : Nat) : Int := if ws.getD i 0 = k then 1 else 0
/-- the writes that a write may have seen -/
def snI (ns ws : List Int) (i : Nat) : List Int := (Sa.rg (max (eldN ws i) 0) ((i : Int) - max (eldN ws i) 0).toNat).filter fun a => decide (ns.getD a.toNat 0 = ns.getD i 0 - 1)
theorem snI_mem {ns ws : List Int} {i : Nat} {a : Int} : a ∈ snI ns ws i ↔ (max (eldN ws i) 0 ≤ a ∧ a < i) ∧ ns.getD a.toNat 0 = ns.getD i 0 - 1 := by
  unfold snI
  rw [List.mem_filter, Sa.mem_rg, decide_eq_true_iff]
  have := eldF_rg ws i (ws.getD i 0)
  unfold eldN
  constructor <;> rintro ⟨h1, h2⟩ <;> exact ⟨by omega, h2⟩
def seenP (ns ws : List Int) (s : List (Int × Int)) (i : Nat) : List (Int × Int) := if ns.getD i 0 = 1 then [(0, 0)] else (snI ns ws i).map fun a => s.getD a.toNat (0, 0)
def shv (ns ws : List Int) (k : Int) (s : List (Int × Int)) (i : Nat) : Int × Int := (ownN ws k i + minL ((seenP ns ws s i).map Prod.fst), ownN ws k i + maxL ((seenP ns ws s i).map Prod.snd))
def shP (ns ws : List Int) (k : Int) : Nat → List (Int × Int)
  | 0 => []
  | i + 1 => shP ns ws k i ++ [shv ns ws k (shP ns ws k i) i]
theorem shP_len (ns ws : List Int) (k : Int) : ∀ i : Nat, (shP ns ws k i).length = i
  | 0 => rfl
  | i + 1 => by show (shP ns ws k i ++ [_]).length = i + 1; rw [List.length_append, shP_len ns ws k i]; rfl
theorem shP_get (ns ws : List Int) (k : Int) {i j : Nat} (h : j < i) : (shP ns ws k i).getD j (0, 0) = (shP ns ws k (j + 1)).getD j (0, 0) := by
  induction i with
  | zero => exact absurd h (Nat.not_lt_zero _)
  | succ i ih =>
    by_cases e : j = i
    · rw [e]
    · rw [← ih (by omega)]
      show (shP ns ws k i ++ [_]).getD j (0, 0) = _
      rw [List.getD_eq_getElem?_getD, List.getElem?_append_left (by rw [shP_len]; omega), List.getD_eq_getElem?_getD]
/-- the share at a write -/
def shN (ns ws : List Int) (k : Int) (i : Nat) : Int × Int := (shP ns ws k (i + 1)).getD i (0, 0)
theorem shN_is (ns ws : List Int) (k : Int) (i : Nat) : shN ns ws k i = shv ns ws k (shP ns ws k i) i := by
  unfold shN
  show (shP ns ws k i ++ [_]).getD i (0, 0) = _
  rw [List.getD_eq_getElem?_getD, List.getElem?_append_right (by rw [shP_len]; exact Nat.le_refl _), shP_len, Nat.sub_self]
  rfl
/-- each write has one that it may have seen -/
def SeenOk (ns ws : List Int) : Prop := ∀ i, i < ns.length → ns.getD i 0 ≠ 1 → snI ns ws i ≠ []
theorem seen_ne {ns ws : List Int} (h : SeenOk ns ws) {i : Nat} (hi : i < ns.length) (s : List (Int × Int)) : seenP ns ws s i ≠ [] := by
  unfold seenP
  by_cases h1 : ns.getD i 0 = 1
  · rw [if_pos h1]; exact fun z => nomatch z
  · rw [if_neg h1]
    exact fun z => h i hi h1 (List.map_eq_nil_iff.mp z)
theorem flt_elder {ns ws : List Int} (h : FL ns (ws.map some) = none) (hl : ws.length = ns.length) : ∀ i, i < ns.length → eldN ws i < (lateL ns).getD i 0 := by
  have hll := lateL_len ns
  have key : ∀ i, i ≤ ns.length → flt ((lateL ns).drop i) ((ws.map some).drop i) i (eldF ws i) = none ∧ ∀ j, j < i → eldN ws j < (lateL ns).getD j 0 := by
    intro i
    induction i with
    | zero => exact fun _ => ⟨h, fun j hj => absurd hj (Nat.not_lt_zero _)⟩
    | succ i ih =>
      intro hi
      obtain ⟨h1, h2⟩ := ih (by omega)
      have e1 : (lateL ns)[i]? = some ((lateL ns).getD i 0) := by rw [List.getD_eq_getElem?_getD, List.getElem?_eq_getElem (by omega)]; rfl
      have e2 : (ws.map some)[i]? = some (some (ws.getD i 0)) := by rw [List.getElem?_map, List.getD_eq_getElem?_getD, List.getElem?_eq_getElem (by omega)]; rfl
      rw [flt_step e1 e2] at h1
      have h1 : (if (lateL ns).getD i 0 ≤ eldF ws i (ws.getD i 0) then some (i : Int) else flt ((lateL ns).drop (i + 1)) ((ws.map some).drop (i + 1)) ((i : Int) + 1) (ups1 (eldF ws i) (ws.getD i 0) i)) = none := h1
      by_cases hc : (lateL ns).getD i 0 ≤ eldF ws i (ws.getD i 0)
      · rw [if_pos hc] at h1
        cases h1
      · rw [if_neg hc] at h1
        refine ⟨h1, fun j hj => ?_⟩
        by_cases e : j = i
        · rw [e]
          unfold eldN
          omega
        · exact h2 j (by omega)
  exact fun i hi => (key ns.length (Nat.le_refl _)).2 i hi
theorem seen_ok {ns ws : List Int} (hP : Po ns) (h : FL ns (ws.map some) = none) (hl : ws.length = ns.length) : SeenOk ns ws := fun i hi h1 => by
  have he := flt_elder h hl i hi
  have hpos := po_pos hP _ (getD_mem hi)
  have hh := po_hasg hP hi
  obtain ⟨g1, g2, g3, _⟩ := lg_is ns i (ns.getD i 0 - 1) hh
  have hle : (lateL ns).getD i 0 = lg ns i (ns.getD i 0 - 1) := by
    unfold lateL
    rw [List.getD_eq_getElem?_getD, List.getElem?_map, List.getElem?_range hi]
    rfl
  rw [hle] at he
  have hg0 : 0 < lg ns i (ns.getD i 0 - 1) := by
    by_cases z : lg ns i (ns.getD i 0 - 1) = 0
    · rw [z] at g3
      have : sh ns 0 = 0 := rfl
      omega
    · omega
  have hm : lg ns i (ns.getD i 0 - 1) - 1 ∈ snI ns ws i := by
    rw [snI_mem]
    refine ⟨by omega, ?_⟩
    unfold sh at g3
    rw [if_neg (by omega)] at g3
    exact g3
  exact fun z => by rw [z] at hm; exact nomatch hm
section
variable {K : PySem.W.Frag} {L : List Fc} {M : List Cell} {H : Hp} {σ : L2.St} {Q : VK} {a : Addr} {xs : List V} {te : TE} {t : TT}
theorem atI_U {xs : List V} {i : Int} {y : V} (h0 : 0 ≤ i) (hy : xs[i.toNat]? = some y) : atI xs i = some y := by
  obtain ⟨j, rfl⟩ := Int.eq_ofNat_of_zero_le h0
  exact atI_W hy
theorem pD_at {H : Hp} {xs : List V} {ps : List (Int × Int)} {i : Nat} {x : V} (h : DpAll K H xs (ps.map pD)) (hx : xs[i]? = some x) : ∃ p, ps[i]? = some p ∧ ∃ T, x = .ref T ∧ SqT K H T [.int p.1, .int p.2] := by
  obtain ⟨d, e, h3⟩ := Sa.dpa_get h hx
  rw [List.getElem?_map] at e
  cases hu : ps[i]? with
  | none => rw [hu] at e; cases e
  | some p =>
    rw [hu] at e
    cases e
    obtain ⟨T, x1, x2, rfl, hT, g1, g2⟩ := Sa.dp_tup2 h3
    obtain rfl := Sa.dp_int g1
    obtain rfl := Sa.dp_int g2
    exact ⟨p, rfl, T, rfl, hT⟩
/-- [F (u, v) for u, v in a list of pairs if P (u, v)] -/
theorem lcI_prs {j k : Nat} {vs : List Nat} {ps : List (Int × Int)} (P : Int × Int → Bool) (F : Int × Int → Int) (hS : SA L M H) (hx : At L M (fQ K a xs)) (hd : At L M (fDs K xs (ps.map pD))) (hn : ps.length < 50000) (hw : ∀ x y, wipe (((wipe σ vs).set j (some x)).set k (some y)) vs = wipe σ vs)
    (ht : ∀ (p : Int × Int) (Dl : Addr) acc, p ∈ ps → EvT t (((wipe σ vs).set j (some (.int p.1))).set k (some (.int p.2))) L ((Dl, .lst acc) :: M) (P p))
    (he : ∀ (p : Int × Int) (Dl : Addr) acc, p ∈ ps → P p = true → EvV te (((wipe σ vs).set j (some (.int p.1))).set k (some (.int p.2))) L ((Dl, .lst acc) :: M) (.int (F p)))
    (q : ∀ Dl H', SA L ((Dl, .lst (((ps.filter P).map F).map V.int)) :: M) H' → Q (.ref Dl) H') : Sa.Lc (Itl K a) (gTup K 2 (gCons (gName j) (gCons (gName k) gNil))) t te vs σ Q H := fun Dl hD =>
  lc_it (walk_list (xs := xs)) (fun i H => SA L ((Dl, .lst ((((ps.take i).filter P).map F).map V.int)) :: M) H) (hS.newM hD) (fun i H _ hp => hx H hp.dropM) (fun i x H H' hi hp hy => by
    obtain ⟨rfl, hxi⟩ := hy
    obtain ⟨p, hm, T, rfl, hT⟩ := pD_at (hd _ hp.dropM) hxi
    refine ⟨T, [.int p.1, .int p.2], rfl, hT, rfl, _, _, rfl, _, _, rfl, rfl, ?_⟩
    exact ⟨hw _ _, Sa.lcA_turn hm hn hp (ht _ Dl _ (List.mem_of_getElem? hm)) (he _ Dl _ (List.mem_of_getElem? hm))⟩) (fun H' hp => q Dl H' (by
    have hl : xs.length = ps.length := by
      have := Sa.dpa_len (hd H hS)
      rw [List.length_map] at this
      exact this
    rw [hl, List.take_length] at hp
    exact hp))
end
theorem atI_last {xs : List V} {v : V} (h : xs[xs.length - 1]? = some v) : atI xs (-1) = some v := by
  have hl := (List.getElem?_eq_some_iff.mp h).1
  unfold atI ixN
  rw [if_neg (by decide), if_pos (by omega), Option.bind_some, show (-1 + (xs.length : Int)).toNat = xs.length - 1 by omega]
  exact h
theorem own_is (ws : List Int) (k : Int) (i : Nat) : (if decide (ws.getD ((i : Int)).toNat 0 = k) = true then (1 : Int) else 0) = ownN ws k i := by
  rw [Int.toNat_natCast]
  unfold ownN
  by_cases h : ws.getD i 0 = k
  · rw [if_pos h, if_pos (decide_eq_true h)]
  · rw [if_neg h, if_neg (by rw [decide_eq_false h]; decide)]
theorem fact_pD {K : PySem.W.Frag} {H : Hp} {zs : List V} {ps : List (Int × Int)} {n : Nat} {v : V} (h : DpAll K H zs (ps.map pD)) (hv : zs[n]? = some v) : Dp K H v (pD (ps.getD n (0, 0))) := by
  obtain ⟨d, e, h3⟩ := Sa.dpa_get h hv
  rw [List.getElem?_map] at e
  cases hu : ps[n]? with
  | none => rw [hu] at e; cases e
  | some p =>
    rw [hu] at e
    cases e
    rw [List.getD_eq_getElem?_getD, hu]
    exact h3
def mxW (ws : List Int) : Int := maxL (ws ++ [-1])
def cbL (ns ws : List Int) : List (Int × Int) := (Sa.rg 0 (mxW ws + 1).toNat).map fun k => shN ns ws k (ns.length - 1)
theorem mxW_pos {ws : List Int} (h : 0 ≤ mxW ws) : ws ≠ [] := fun e => by
  rw [e] at h
  have : mxW [] = -1 := by
    unfold mxW
    exact (maxL_is (l := [] ++ [-1]) (List.mem_singleton.mpr rfl) fun y hy => by rw [List.mem_singleton.mp hy]; exact Int.le_refl _).symm
  omega
theorem mxW_le {ws : List Int} {b : Int} (hb : -1 ≤ b) (h : ∀ c ∈ ws, c ≤ b) : mxW ws ≤ b := by
  have hm := maxL_mem (l := ws ++ [-1]) (by simp)
  rcases List.mem_append.mp hm with g | g
  · exact h _ g
  · rw [List.mem_singleton] at g
    unfold mxW
    omega
theorem mxW_ge (ws : List Int) : -1 ≤ mxW ws := le_maxL (List.mem_append_right _ List.mem_cons_self)
theorem st_noneIn {K : PySem.W.Frag} {L : List Fc} {M : List Cell} {H : Hp} {a : Addr} {ws : List Int} {Q : VK} (hS : SA L M H) (h : At L M (fQ K a (ws.map V.int))) (q : Q (.bl false) H) : rIn K false .non (.ref a) H Q :=
  ⟨a, _, rfl, .inl (h H hS), rfl, Sa.flat_ints ws, by
    have e : inV .non (ws.map V.int) = false := by
      unfold inV
      rw [List.any_eq_false]
      intro x hx
      obtain ⟨n, _, rfl⟩ := List.mem_map.mp hx
      exact Bool.false_ne_true
    rw [e]
    exact q⟩
section
variable {K : PySem.W.Frag} {L : List Fc} {M : List Cell} {H : Hp} {σ : L2.St} {Q : VK} {a : Addr} {xs : List V} {te : TE} {t : TT}
theorem fact_in {f : Fc} (h : SA L M H) (hf : f ∈ L) : f.p H := by
  obtain ⟨F, hs, hF, _⟩ := h.fr
  exact f.mono F H hs (hF f hf)
/-- [F p for p in a list of pairs if P p], p a tuple -/
theorem lcI_pr1 {j : Nat} {vs : List Nat} {ps : List (Int × Int)} (P : Int × Int → Bool) (F : Int × Int → Int) (hS : SA L M H) (hx : At L M (fQ K a xs)) (hd : fDs K xs (ps.map pD) ∈ L) (hn : ps.length < 50000) (hw : ∀ x, wipe ((wipe σ vs).set j (some x)) vs = wipe σ vs)
    (ht : ∀ (p : Int × Int) (T Dl : Addr) acc, p ∈ ps → EvT t ((wipe σ vs).set j (some (.ref T))) (fT K T [.int p.1, .int p.2] :: L) ((Dl, .lst acc) :: M) (P p))
    (he : ∀ (p : Int × Int) (T Dl : Addr) acc, p ∈ ps → P p = true → EvV te ((wipe σ vs).set j (some (.ref T))) (fT K T [.int p.1, .int p.2] :: L) ((Dl, .lst acc) :: M) (.int (F p)))
    (q : ∀ Dl H', SA L ((Dl, .lst (((ps.filter P).map F).map V.int)) :: M) H' → Q (.ref Dl) H') : Sa.Lc (Itl K a) (gName j) t te vs σ Q H := fun Dl hD =>
  lc_it (walk_list (xs := xs)) (fun i H => SA L ((Dl, .lst ((((ps.take i).filter P).map F).map V.int)) :: M) H) (hS.newM hD) (fun i H _ hp => hx H hp.dropM) (fun i x H H' hi hp hy => by
    obtain ⟨rfl, hxi⟩ := hy
    obtain ⟨p, hm, T, rfl, hT⟩ := pD_at (fact_in hp hd) hxi
    have fac : ∀ F0 : Hp, (∀ x ∈ L, x.p F0) → (fT K T [.int p.1, .int p.2]).p F0 := fun F0 hF => by
      obtain ⟨p2, hm2, T2, e2, hT2⟩ := pD_at (hF _ hd) hxi
      rw [hm] at hm2
      cases hm2
      cases e2
      exact hT2
    have hpm := List.mem_of_getElem? hm
    exact ⟨hw _, Sa.lcA_turn hm hn hp (fun H2 h2 Q2 q2 => ht p T Dl _ hpm H2 (h2.ad fac) Q2 fun H3 h3 => q2 H3 (h3.drop)) (fun hp2 H2 h2 Q2 q2 => he p T Dl _ hpm hp2 H2 (h2.ad fac) Q2 fun H3 h3 => q2 H3 (h3.drop))⟩) (fun H' hp => q Dl H' (by
    have hl : xs.length = ps.length := by
      have := Sa.dpa_len (fact_in hS hd)
      rw [List.length_map] at this
      exact this
    rw [hl, List.take_length] at hp
    exact hp))
end
section
variable {K : PySem.W.Frag} {L : List Fc} {M : List Cell} {H : Hp} {σ σ2 : L2.St} {Q : VK} {a Dl : Addr} {xs : List V} {te : TE} {t : TT}
def LdL (L : List Fc) (M : List Cell) (Dl : Addr) (ls : List (List Int)) (i : Nat) (H : Hp) : Prop := ∃ xs : List V, xs.length ≤ i ∧ SA (fLs xs ls :: L) ((Dl, .lst xs) :: M) H
def EvLs (te : TE) (σ : L2.St) (L : List Fc) (M : List Cell) (l : List Int) : Prop := ∀ H, SA L M H → ∀ Q : VK, (∀ p H', SA (fL p (l.map V.int) :: L) M H' → Q (.ref p) H') → te σ H Q
theorem lcL_turn {F : Int → List Int} {is : List Int} {i : Nat} {n : Int} (hi : is[i]? = some n) (hl : is.length < 50000) (hp : LdL L M Dl ((is.take i).map F) i H)
    (ht : ∀ xs ls, EvT t σ2 (fLs xs ls :: L) ((Dl, .lst xs) :: M) true) (he : ∀ xs ls, EvLs te σ2 (fLs xs ls :: L) ((Dl, .lst xs) :: M) (F n)) :
    t σ2 H fun b H3 => if b = true then te σ2 H3 fun y H4 => ∃ acc, H4 Dl = some (.lst acc) ∧ acc.length < sizeLine ∧ LdL L M Dl ((is.take (i + 1)).map F) (i + 1) (upd H4 Dl (.lst (acc ++ [y]))) else LdL L M Dl ((is.take (i + 1)).map F) (i + 1) H3 := by
  obtain ⟨xs, hxl, hS⟩ := hp
  have hil := (List.getElem?_eq_some_iff.mp hi).1
  refine ht xs _ H hS _ fun H3 hS3 => Sa.if_t ?_
  refine he xs _ H3 hS3 _ fun p H4 hS4 => ⟨_, hS4.at List.mem_cons_self, Nat.lt_of_le_of_lt hxl (Nat.lt_of_lt_of_le (Nat.lt_trans hil hl) (by decide)), ?_⟩
  refine ⟨xs ++ [.ref p], by rw [List.length_append]; exact Nat.succ_le_succ hxl, ?_⟩
  rw [Sa.take_at hi, List.map_append, List.map_cons, List.map_nil]
  have h5 : SA (fLs (xs ++ [.ref p]) ((is.take i).map F ++ [F n]) :: fL p ((F n).map V.int) :: fLs xs ((is.take i).map F) :: L) ((Dl, .lst xs) :: M) H4 := hS4.ad fun G hG => by
    have h1 : G p = some (.lst ((F n).map V.int)) := hG _ List.mem_cons_self
    exact LsA.app (.cons h1 .nil) (hG _ (List.mem_cons_of_mem _ List.mem_cons_self))
  exact (h5.subs (.cons .hd (.tl (.tl (.tl .rest))))).set .hd
/-- [F n for n in xs], each F n a new list -/
theorem lcL_list {ns : List Int} {j : Nat} {vs : List Nat} (F : Int → List Int) (hS : SA L M H) (hx : At L M (fQ K a (ns.map V.int))) (hn : ns.length < 50000) (hw : ∀ x, wipe ((wipe σ vs).set j (some x)) vs = wipe σ vs)
    (ht : ∀ (n : Int) (Dl : Addr) xs ls, n ∈ ns → EvT t ((wipe σ vs).set j (some (.int n))) (fLs xs ls :: L) ((Dl, .lst xs) :: M) true)
    (he : ∀ (n : Int) (Dl : Addr) xs ls, n ∈ ns → EvLs te ((wipe σ vs).set j (some (.int n))) (fLs xs ls :: L) ((Dl, .lst xs) :: M) (F n))
    (q : ∀ Dl xs H', SA (fLs xs (ns.map F) :: L) ((Dl, .lst xs) :: M) H' → Q (.ref Dl) H') : Sa.Lc (Itl K a) (gName j) t te vs σ Q H := fun Dl hD =>
  lc_it (walk_list (xs := ns.map V.int)) (fun i H => LdL L M Dl ((ns.take i).map F) i H) ⟨[], Nat.le_refl _, (hS.newM hD).ad fun G hG => LsA.nil⟩ (fun i H _ hp => by
    obtain ⟨xs, _, h⟩ := hp
    exact hx H h.drop.dropM) (fun i x H H' hi hp hy => by
    obtain ⟨rfl, hx⟩ := hy
    obtain ⟨n, hn2, rfl⟩ := Sa.ints_at hx
    exact ⟨hw _, lcL_turn hn2 hn hp (fun xs ls => ht _ Dl xs ls (List.mem_of_getElem? hn2)) (fun xs ls => he _ Dl xs ls (List.mem_of_getElem? hn2))⟩) (fun H' hp => by
    rw [List.length_map, List.take_length] at hp
    obtain ⟨xs, _, h⟩ := hp
    exact q Dl xs H' h)
end
/-! ### [F l for l in a list of lists if ..], each F l a list -/
section
variable {K : PySem.W.Frag} {L : List Fc} {M : List Cell} {H : Hp} {σ σ2 : L2.St} {Q : VK} {a Dl : Addr} {xs : List V} {te : TE} {t : TT}
theorem lls_turn {F : List Int → List Int} {P : List Int → Bool} {is : List (List Int)} {i : Nat} {l : List Int} (hi : is[i]? = some l) (hl : is.length < 50000) (hp : LdL L M Dl (((is.take i).filter P).map F) i H)
    (ht : ∀ xs ls, EvT t σ2 (fLs xs ls :: L) ((Dl, .lst xs) :: M) (P l)) (he : ∀ xs ls, P l = true → EvLs te σ2 (fLs xs ls :: L) ((Dl, .lst xs) :: M) (F l)) :
    t σ2 H fun b H3 => if b = true then te σ2 H3 fun y H4 => ∃ acc, H4 Dl = some (.lst acc) ∧ acc.length < sizeLine ∧ LdL L M Dl (((is.take (i + 1)).filter P).map F) (i + 1) (upd H4 Dl (.lst (acc ++ [y]))) else LdL L M Dl (((is.take (i + 1)).filter P).map F) (i + 1) H3 := by
  obtain ⟨xs, hxl, hS⟩ := hp
  have hil := (List.getElem?_eq_some_iff.mp hi).1
  refine ht xs _ H hS _ fun H3 hS3 => ?_
  rw [Sa.take_at hi, List.filter_append, List.map_append]
  cases hb : P l with
  | false =>
    refine Sa.if_f ?_
    rw [show [l].filter P = [] by rw [List.filter_cons_of_neg (by rw [hb]; exact Bool.false_ne_true)]; rfl, List.map_nil, List.append_nil]
    exact ⟨xs, Nat.le_succ_of_le hxl, hS3⟩
  | true =>
    refine Sa.if_t ?_
    rw [show [l].filter P = [l] by rw [List.filter_cons_of_pos hb]; rfl, List.map_cons, List.map_nil]
    refine he xs _ hb H3 hS3 _ fun p H4 hS4 => ⟨_, hS4.at List.mem_cons_self, Nat.lt_of_le_of_lt hxl (Nat.lt_of_lt_of_le (Nat.lt_trans hil hl) (by decide)), ?_⟩
    refine ⟨xs ++ [.ref p], by rw [List.length_append]; exact Nat.succ_le_succ hxl, ?_⟩
    have h5 : SA (fLs (xs ++ [.ref p]) (((is.take i).filter P).map F ++ [F l]) :: fL p ((F l).map V.int) :: fLs xs (((is.take i).filter P).map F) :: L) ((Dl, .lst xs) :: M) H4 := hS4.ad fun G hG => by
      have h1 : G p = some (.lst ((F l).map V.int)) := hG _ List.mem_cons_self
      exact LsA.app (.cons h1 .nil) (hG _ (List.mem_cons_of_mem _ List.mem_cons_self))
    exact (h5.subs (.cons .hd (.tl (.tl (.tl .rest))))).set .hd
/-- [F l for l in a list of lists if P l], each F l a list that is told -/
theorem lcL_ls {j : Nat} {vs : List Nat} {ls : List (List Int)} (P : List Int → Bool) (F : List Int → List Int) (hS : SA L M H) (hx : At L M (fQ K a xs)) (hd : fLs xs ls ∈ L) (hn : ls.length < 50000) (hw : ∀ x, wipe ((wipe σ vs).set j (some x)) vs = wipe σ vs)
    (ht : ∀ (l : List Int) (T Dl : Addr) ys ms, l ∈ ls → EvT t ((wipe σ vs).set j (some (.ref T))) (fL T (l.map V.int) :: fLs ys ms :: L) ((Dl, .lst ys) :: M) (P l))
    (he : ∀ (l : List Int) (T Dl : Addr) ys ms, l ∈ ls → P l = true → EvLs te ((wipe σ vs).set j (some (.ref T))) (fL T (l.map V.int) :: fLs ys ms :: L) ((Dl, .lst ys) :: M) (F l))
    (q : ∀ Dl ys H', SA (fLs ys ((ls.filter P).map F) :: L) ((Dl, .lst ys) :: M) H' → Q (.ref Dl) H') : Sa.Lc (Itl K a) (gName j) t te vs σ Q H := fun Dl hD =>
  lc_it (walk_list (xs := xs)) (fun i H => LdL L M Dl (((ls.take i).filter P).map F) i H) ⟨[], Nat.le_refl _, (hS.newM hD).ad fun G hG => LsA.nil⟩ (fun i H _ hp => by
    obtain ⟨xs, _, h⟩ := hp
    exact hx H h.drop.dropM) (fun i x H H' hi hp hy => by
    obtain ⟨rfl, hxi⟩ := hy
    obtain ⟨T, l, rfl, hm, hT⟩ := LsA.get (fact_in hS hd) hxi
    have hlm := List.mem_of_getElem? hm
    have fac : ∀ (ys : List V) (ms : List (List Int)) (F0 : Hp), (∀ x ∈ fLs ys ms :: L, x.p F0) → (fL T (l.map V.int)).p F0 := fun ys ms F0 hF => by
      obtain ⟨T2, l2, e2, hm2, hT2⟩ := LsA.get (hF _ (List.mem_cons_of_mem _ hd)) hxi
      rw [hm] at hm2
      cases hm2
      cases e2
      exact hT2
    refine ⟨hw _, lls_turn hm hn hp (fun ys ms H2 h2 Q2 q2 => ht l T Dl ys ms hlm H2 (h2.ad (fac ys ms)) Q2 fun H3 h3 => q2 H3 h3.drop) (fun ys ms hp2 H2 h2 Q2 q2 => he l T Dl ys ms hlm hp2 H2 (h2.ad (fac ys ms)) Q2 fun p H3 h3 => q2 p H3 ?_)⟩
    exact h3.subs (.cons .hd (.tl (.tl .rest)))) (fun H' hp => by
    rw [LsA.len (fact_in hS hd), List.take_length] at hp
    obtain ⟨ys, _, h⟩ := hp
    exact q Dl ys H' h)
theorem LsA.of {H : Hp} : ∀ {bs : List (V × List Int)}, (∀ b ∈ bs, ∃ T, b.1 = .ref T ∧ H T = some (.lst (b.2.map V.int))) → LsA H (bs.map Prod.fst) (bs.map Prod.snd)
  | [], _ => .nil
  | b :: bs, h => by
    obtain ⟨T, e, hT⟩ := h b List.mem_cons_self
    show LsA H (b.1 :: bs.map Prod.fst) (b.2 :: bs.map Prod.snd)
    rw [e]
    exact .cons hT (LsA.of fun c hc => h c (List.mem_cons_of_mem _ hc))
theorem LsA.zip {H : Hp} : ∀ {vs ls}, LsA H vs ls → (∀ b ∈ vs.zip ls, ∃ T, b.1 = .ref T ∧ H T = some (.lst (b.2.map V.int)))
  | _, _, .nil => fun b hb => absurd hb List.not_mem_nil
  | _, _, .cons h t => fun b hb => by
    rcases List.mem_cons.mp (show b ∈ (_, _) :: List.zip _ _ from hb) with rfl | hb
    · exact ⟨_, rfl, h⟩
    · exact LsA.zip t b hb
theorem LsA.fsts {H : Hp} {vs ls} (h : LsA H vs ls) : (vs.zip ls).map Prod.fst = vs := by
  rw [List.map_fst_zip (Nat.le_of_eq h.len)]
theorem LsA.snds {H : Hp} {vs ls} (h : LsA H vs ls) : (vs.zip ls).map Prod.snd = ls := by
  rw [List.map_snd_zip (Nat.le_of_eq h.len.symm)]
end
/-! ### the list of lists that is told by sorted -/
section
variable {K : PySem.W.Frag} {L : List Fc} {M : List Cell} {H : Hp} {Q : VK} {a : Addr} {xs : List V} {ls : List (List Int)}
theorem st_sortL (hS : SA L M H) (hx : At L M (fQ K a xs)) (hd : fLs xs ls ∈ L) (q : ∀ p ys ms H', ms = ls.mergeSort (fun b c => decide (b ≤ c)) → SA (fLs ys ms :: L) ((p, .lst ys) :: M) H' → Q (.ref p) H') : rSortedL K [.ref a] H Q := by
  have hA : LsA H xs ls := fact_in hS hd
  refine ⟨a, xs.zip ls, rfl, by rw [hA.fsts]; exact hx H hS, fun b hb => ?_, fun p hp => ?_⟩
  · obtain ⟨T, e, hT⟩ := hA.zip b hb
    rw [e]
    exact .lst (SqL.of hT) (Sa.dpa_ints H _)
  · have hS2 := hS.newM (o := .lst (((xs.zip ls).mergeSort leL).map Prod.fst)) hp
    refine q p _ (((xs.zip ls).mergeSort leL).map Prod.snd) _ ?_ (hS2.ad fun G hG => ?_)
    · have key := List.map_mergeSort (r := leL) (s := fun b c : List Int => decide (b ≤ c)) (f := Prod.snd) (l := xs.zip ls) (fun b _ c _ => rfl)
      rw [hA.snds] at key
      exact key
    · have hA2 : LsA G xs ls := hG _ hd
      exact LsA.of fun b hb => hA2.zip b (List.mem_mergeSort.mp hb)
end
/-! ### the chain at a place -/
/-- what is found, and what is left of the place, behind so many writes -/
def stC (ns : List Int) (pl : Int) : Nat → List Int × Int
  | 0 => ([], pl)
  | i + 1 => if ns.getD i 0 = (stC ns pl i).1.length + 1 then (if (stC ns pl i).2 < onN ns i then ((stC ns pl i).1 ++ [(i : Int)], (stC ns pl i).2) else ((stC ns pl i).1, (stC ns pl i).2 - onN ns i)) else stC ns pl i
def chL (ns : List Int) (pl : Int) : List Int := (stC ns pl ns.length).1
/-- the writes from a on, ahead of b, of a number: how many chains lead on from them -/
def sgN (ns : List Int) (a b : Nat) (v : Int) : Int := sN b fun j => if a ≤ j then (if ns.getD j 0 = v then onN ns j else 0) else 0
theorem sgN_succ {ns : List Int} {a b : Nat} {v : Int} (h : a ≤ b) : sgN ns a (b + 1) v = sgN ns a b v + if ns.getD b 0 = v then onN ns b else 0 := by
  show sN b (fun j => if a ≤ j then (if ns.getD j 0 = v then onN ns j else 0) else 0) + (if a ≤ b then (if ns.getD b 0 = v then onN ns b else 0) else 0) = _
  rw [if_pos h]
  rfl
theorem sgN_nil {ns : List Int} {a b : Nat} {v : Int} (h : b ≤ a) : sgN ns a b v = 0 := by
  unfold sgN
  refine sN_zero fun j hj => ?_
  have h : ¬ a ≤ j := by omega
  exact if_neg h
def bfN (C : List Int) (t : Nat) : Nat := if t = 0 then 0 else (C.getD (t - 1) 0 + 1).toNat
def rkN (ns C : List Int) : Nat → Int
  | 0 => 0
  | t + 1 => rkN ns C t + sgN ns (bfN C t) (C.getD t 0).toNat ((t : Int) + 1)
theorem getD_pre {C : List Int} {x : Int} {t : Nat} (h : t < C.length) : (C ++ [x]).getD t 0 = C.getD t 0 := by
  rw [List.getD_eq_getElem?_getD, List.getElem?_append_left h, List.getD_eq_getElem?_getD]
theorem getD_lst {C : List Int} {x : Int} : (C ++ [x]).getD C.length 0 = x := by
  rw [List.getD_eq_getElem?_getD, List.getElem?_append_right (Nat.le_refl _), Nat.sub_self]
  rfl
theorem rkN_pre {ns C : List Int} {x : Int} : ∀ {t : Nat}, t ≤ C.length → rkN ns (C ++ [x]) t = rkN ns C t
  | 0, _ => rfl
  | t + 1, h => by
    show rkN ns (C ++ [x]) t + sgN ns (bfN (C ++ [x]) t) ((C ++ [x]).getD t 0).toNat ((t : Int) + 1) = rkN ns C t + sgN ns (bfN C t) (C.getD t 0).toNat ((t : Int) + 1)
    have e : bfN (C ++ [x]) t = bfN C t := by
      unfold bfN
      by_cases h0 : t = 0
      · rw [if_pos h0, if_pos h0]
      · rw [if_neg h0, if_neg h0, getD_pre (by omega)]
    rw [rkN_pre (by omega), e, getD_pre (by omega)]
/-- the writes of a number from a place on -/
def wtC (ns : List Int) (i k : Nat) : Int := sN ns.length fun j => if i ≤ j then (if ns.getD j 0 = (k : Int) + 1 then onN ns j else 0) else 0
theorem wtC_succ {ns : List Int} {i k : Nat} (h : i < ns.length) : wtC ns i k = (if ns.getD i 0 = (k : Int) + 1 then onN ns i else 0) + wtC ns (i + 1) k := by
  have e : wtC ns i k = sN ns.length fun j => (if j = i then (if ns.getD i 0 = (k : Int) + 1 then onN ns i else 0) else 0) + (if i + 1 ≤ j then (if ns.getD j 0 = (k : Int) + 1 then onN ns j else 0) else 0) := by
    unfold wtC
    refine sN_ext fun j hj => ?_
    by_cases h1 : j = i
    · subst h1
      have h3 : ¬ j + 1 ≤ j := by omega
      rw [if_pos (Nat.le_refl _), if_pos rfl, if_neg h3]
      omega
    · rw [if_neg h1]
      by_cases h2 : i ≤ j
      · have h3 : i + 1 ≤ j := by omega
        rw [if_pos h2, if_pos h3]
        omega
      · have h3 : ¬ i + 1 ≤ j := by omega
        rw [if_neg h2, if_neg h3]
        rfl
  rw [e, sN_add, sN_one (k := i) (fun j hj hji => if_neg hji) h, if_pos rfl]
  rfl
theorem wtC_end {ns : List Int} {k : Nat} : wtC ns ns.length k = 0 := by
  unfold wtC
  refine sN_zero fun j hj => ?_
  have h : ¬ ns.length ≤ j := by omega
  exact if_neg h
structure CkI (ns : List Int) (pl : Int) (i : Nat) (C : List Int) (r : Int) : Prop where
  at_ : ∀ t : Nat, t < C.length → 0 ≤ C.getD t 0 ∧ C.getD t 0 < i ∧ ns.getD (C.getD t 0).toNat 0 = t + 1
  asc : ∀ t : Nat, t + 1 < C.length → C.getD t 0 < C.getD (t + 1) 0
  sum : pl = r + rkN ns C C.length + sgN ns (bfN C C.length) i ((C.length : Int) + 1)
  left : (0 < C.length ∧ C.getD (C.length - 1) 0 = ((ns.length - 1 : Nat) : Int) ∧ r = 0) ∨ (0 ≤ r ∧ r < wtC ns i C.length)
theorem bfN_le {ns : List Int} {pl r : Int} {i : Nat} {C : List Int} (h : CkI ns pl i C r) : bfN C C.length ≤ i := by
  unfold bfN
  by_cases h0 : C.length = 0
  · rw [if_pos h0]
    exact Nat.zero_le _
  · rw [if_neg h0]
    have := h.at_ (C.length - 1) (by omega)
    omega
theorem ck_step {ns : List Int} {pl r : Int} {i : Nat} {C : List Int} (hi : i < ns.length) (h : CkI ns pl i C r) : (ns.getD i 0 = C.length + 1 → r < onN ns i → CkI ns pl (i + 1) (C ++ [(i : Int)]) r) ∧
    (ns.getD i 0 = C.length + 1 → ¬ r < onN ns i → CkI ns pl (i + 1) C (r - onN ns i)) ∧ (ns.getD i 0 ≠ C.length + 1 → CkI ns pl (i + 1) C r) := by
  have hb := bfN_le h
  have hr : 0 ≤ r ∧ r < wtC ns i C.length := by
    rcases h.left with ⟨h1, h2, _⟩ | h1
    · have := h.at_ (C.length - 1) (by omega)
      omega
    · exact h1
  have hw := wtC_succ (ns := ns) (k := C.length) hi
  have hsum := h.sum
  refine ⟨fun e hlt => ?_, fun e hlt => ?_, fun e => ?_⟩
  · have hl : (C ++ [(i : Int)]).length = C.length + 1 := by rw [List.length_append, List.length_singleton]
    refine ⟨fun t ht => ?_, fun t ht => ?_, ?_, ?_⟩
    · rw [hl] at ht
      by_cases et : t = C.length
      · subst et
        rw [getD_lst, Int.toNat_natCast]
        exact ⟨by omega, by omega, by omega⟩
      · have a := h.at_ t (by omega)
        rw [getD_pre (by omega)]
        exact ⟨a.1, by omega, a.2.2⟩
    · rw [hl] at ht
      by_cases et : t + 1 = C.length
      · have a := h.at_ t (by omega)
        rw [getD_pre (by omega), et, getD_lst]
        exact a.2.1
      · rw [getD_pre (by omega), getD_pre (by omega)]
        exact h.asc t (by omega)
    · rw [hl]
      have e1 : rkN ns (C ++ [(i : Int)]) (C.length + 1) = rkN ns C C.length + sgN ns (bfN C C.length) i ((C.length : Int) + 1) := by
        show rkN ns (C ++ [(i : Int)]) C.length + sgN ns (bfN (C ++ [(i : Int)]) C.length) ((C ++ [(i : Int)]).getD C.length 0).toNat ((C.length : Int) + 1) = _
        have eb : bfN (C ++ [(i : Int)]) C.length = bfN C C.length := by
          unfold bfN
          by_cases h0 : C.length = 0
          · rw [if_pos h0, if_pos h0]
          · rw [if_neg h0, if_neg h0, getD_pre (by omega)]
        rw [rkN_pre (Nat.le_refl _), eb, getD_lst, Int.toNat_natCast]
      have e2 : bfN (C ++ [(i : Int)]) (C.length + 1) = i + 1 := by
        unfold bfN
        rw [if_neg (by omega), Nat.add_sub_cancel, getD_lst]
        omega
      rw [e1, e2, sgN_nil (Nat.le_refl _)]
      omega
    · rw [hl]
      by_cases en : i = ns.length - 1
      · refine .inl ⟨by omega, ?_, ?_⟩
        · rw [Nat.add_sub_cancel, getD_lst]
          omega
        · rw [onN_eq hi, if_pos en] at hlt
          omega
      · refine .inr ⟨hr.1, ?_⟩
        have e3 : onN ns i = wtC ns (i + 1) (C.length + 1) := by
          rw [onN_eq hi, if_neg en]
          unfold wtC
          refine sN_ext fun j hj => ?_
          by_cases hij : i < j
          · have hij2 : i + 1 ≤ j := hij
            rw [if_pos hij, if_pos hij2]
            by_cases hv : ns.getD j 0 = ns.getD i 0 + 1
            · have hv2 : ns.getD j 0 = ((C.length + 1 : Nat) : Int) + 1 := by omega
              rw [if_pos hv, if_pos hv2]
            · have hv2 : ¬ ns.getD j 0 = ((C.length + 1 : Nat) : Int) + 1 := by omega
              rw [if_neg hv, if_neg hv2]
          · have hij2 : ¬ i + 1 ≤ j := hij
            rw [if_neg hij, if_neg hij2]
        rw [← e3]
        exact hlt
  · rw [if_pos e] at hw
    refine ⟨fun t ht => ?_, h.asc, ?_, .inr ⟨by omega, by omega⟩⟩
    · have a := h.at_ t ht
      exact ⟨a.1, by omega, a.2.2⟩
    · rw [sgN_succ hb, if_pos e]
      omega
  · rw [if_neg e] at hw
    refine ⟨fun t ht => ?_, h.asc, ?_, .inr ⟨by omega, by omega⟩⟩
    · have a := h.at_ t ht
      exact ⟨a.1, by omega, a.2.2⟩
    · rw [sgN_succ hb, if_neg e]
      omega
theorem ck_start {ns : List Int} {pl : Int} (hP : Po ns) (hl : 0 < ns.length) (h0 : 0 ≤ pl) (h1 : pl < chN ns) : CkI ns pl 0 [] pl := by
  refine ⟨fun t ht => absurd ht (Nat.not_lt_zero _), fun t ht => absurd ht (Nat.not_lt_zero _), ?_, .inr ⟨h0, ?_⟩⟩
  · show pl = pl + 0 + sgN ns _ 0 _
    rw [sgN_nil (Nat.zero_le _)]
    omega
  · have hn := (po_elder hP (i := ns.length - 1) (by omega)).1
    have e := lv_all hl (ns.getD (ns.length - 1) 0 - 1).toNat 1 (Int.le_refl _) hn (by omega)
    rw [← e] at h1
    have e2 : lvN ns 1 = wtC ns 0 ([] : List Int).length := by
      refine sN_ext fun j hj => ?_
      rw [if_pos (Nat.zero_le _)]
      show _ = if ns.getD j 0 = ((0 : Nat) : Int) + 1 then onN ns j else 0
      by_cases ev : ns.getD j 0 = 1
      · rw [if_pos ev, if_pos (by omega), upN_eq hj, if_pos ev, Int.one_mul]
      · rw [if_neg ev, if_neg (by omega)]
    rw [← e2]
    exact h1
theorem ck_all {ns : List Int} {pl : Int} (hP : Po ns) (hl : 0 < ns.length) (h0 : 0 ≤ pl) (h1 : pl < chN ns) : ∀ i : Nat, i ≤ ns.length → CkI ns pl i (stC ns pl i).1 (stC ns pl i).2
  | 0, _ => ck_start hP hl h0 h1
  | i + 1, hi => by
    have ih := ck_all hP hl h0 h1 i (by omega)
    have st := ck_step (by omega) ih
    have e : stC ns pl (i + 1) = if ns.getD i 0 = (stC ns pl i).1.length + 1 then (if (stC ns pl i).2 < onN ns i then ((stC ns pl i).1 ++ [(i : Int)], (stC ns pl i).2) else ((stC ns pl i).1, (stC ns pl i).2 - onN ns i)) else stC ns pl i := rfl
    rw [e]
    by_cases c1 : ns.getD i 0 = (stC ns pl i).1.length + 1
    · rw [if_pos c1]
      by_cases c2 : (stC ns pl i).2 < onN ns i
      · rw [if_pos c2]
        exact st.1 c1 c2
      · rw [if_neg c2]
        exact st.2.1 c1 c2
    · rw [if_neg c1]
      exact st.2.2 c1
/-- what is asked of a chain at a place -/
structure ChOk (ns : List Int) (pl : Int) (C : List Int) : Prop where
  len : C.length = if ns.length = 0 then 0 else (ns.getD (ns.length - 1) 0).toNat
  at_ : ∀ t : Nat, t < C.length → 0 ≤ C.getD t 0 ∧ C.getD t 0 < ns.length ∧ ns.getD (C.getD t 0).toNat 0 = t + 1
  asc : ∀ t : Nat, t + 1 < C.length → C.getD t 0 < C.getD (t + 1) 0
  rnk : rkN ns C C.length = pl
  lst : 0 < ns.length → 0 < C.length ∧ C.getD (C.length - 1) 0 = ((ns.length - 1 : Nat) : Int)
theorem chL_ok {ns : List Int} {pl : Int} (hP : Po ns) (h0 : 0 ≤ pl) (h1 : pl < chN ns) : ChOk ns pl (chL ns pl) := by
  by_cases hl : ns.length = 0
  · have e : ns = [] := List.length_eq_zero_iff.mp hl
    subst e
    have hp : pl = 0 := by
      have : chN [] = 1 := rfl
      omega
    subst hp
    exact ⟨rfl, fun t ht => absurd ht (Nat.not_lt_zero _), fun t ht => absurd ht (Nat.not_lt_zero _), rfl, fun h => absurd h (Nat.lt_irrefl _)⟩
  · have k := ck_all hP (by omega) h0 h1 ns.length (Nat.le_refl _)
    have k2 : 0 < (chL ns pl).length ∧ (chL ns pl).getD ((chL ns pl).length - 1) 0 = ((ns.length - 1 : Nat) : Int) ∧ (stC ns pl ns.length).2 = 0 := by
      rcases k.left with h | h
      · exact h
      · rw [wtC_end] at h
        omega
    have a := k.at_ ((chL ns pl).length - 1) (by have := k2.1; show (chL ns pl).length - 1 < (chL ns pl).length; omega)
    have a3 : ns.getD ((chL ns pl).getD ((chL ns pl).length - 1) 0).toNat 0 = (((chL ns pl).length - 1 : Nat) : Int) + 1 := a.2.2
    rw [k2.2.1, Int.toNat_natCast] at a3
    have e2 : bfN (chL ns pl) (chL ns pl).length = ns.length := by
      unfold bfN
      rw [if_neg (by omega), k2.2.1]
      omega
    have s : pl = (stC ns pl ns.length).2 + rkN ns (chL ns pl) (chL ns pl).length + sgN ns (bfN (chL ns pl) (chL ns pl).length) ns.length (((chL ns pl).length : Int) + 1) := k.sum
    rw [e2, sgN_nil (Nat.le_refl _), k2.2.2] at s
    exact ⟨by rw [if_neg hl]; omega, k.at_, k.asc, by omega, fun _ => ⟨k2.1, k2.2.1⟩⟩
theorem chN_pos {ns : List Int} (hP : Po ns) : 1 ≤ chN ns := by
  unfold chN
  by_cases h : ns.length = 0
  · rw [if_pos h]; decide
  · rw [if_neg h]
    exact upN_pos hP ns.length (ns.length - 1) (by omega) (by omega)
theorem chN_le {ns : List Int} (hl : ns.length ≤ 40) : chN ns ≤ 1000000000000000000000000000000 := by
  unfold chN
  by_cases h : ns.length = 0
  · rw [if_pos h]; decide
  · rw [if_neg h]
    have a := (upN_le (ns := ns) ns.length (ns.length - 1) (by omega) (by omega)).2
    have b : (2 : Int) ^ (ns.length - 1) ≤ 1000000000000000000000000000000 := by
      have b1 : 2 ^ (ns.length - 1) ≤ 2 ^ 39 := Nat.pow_le_pow_right (by decide) (by omega)
      have b2 : ((2 ^ (ns.length - 1) : Nat) : Int) ≤ ((2 ^ 39 : Nat) : Int) := Int.ofNat_le.mpr b1
      rw [Int.natCast_pow] at b2
      have b3 : ((2 ^ 39 : Nat) : Int) ≤ 1000000000000000000000000000000 := by decide
      exact Int.le_trans b2 b3
    have d : (cuL ns ns.length).getD (ns.length - 1) 0 ≤ 2 ^ (ns.length - 1) := a
    omega
/-- how many chains lead on from the last k -/
def goF (ns : List Int) (k : Nat) : List Int := (Sa.rg ((ns.length - k : Nat) : Int) k).map fun i => onN ns i.toNat
theorem goF_len (ns : List Int) (k : Nat) : (goF ns k).length = k := by
  unfold goF
  rw [List.length_map, Sa.rg_len]
theorem goF_succ {ns : List Int} {k : Nat} (h : k < ns.length) : goF ns (k + 1) = onN ns (ns.length - 1 - k) :: goF ns k := by
  unfold goF
  rw [rg_front, show ns.length - (k + 1) = ns.length - 1 - k by omega, show ((ns.length - 1 - k : Nat) : Int) + 1 = ((ns.length - k : Nat) : Int) by omega, List.map_cons, Int.toNat_natCast]
theorem goF_all (ns : List Int) : goF ns ns.length = coL ns ns.length := by
  refine List.ext_getElem? fun i => ?_
  by_cases h : i < ns.length
  · have e1 : (goF ns ns.length)[i]? = some (onN ns i) := by
      unfold goF
      rw [List.getElem?_map, Sa.rg_get h]
      show some (onN ns (((ns.length - ns.length : Nat) : Int) + (i : Nat)).toNat) = _
      rw [show (((ns.length - ns.length : Nat) : Int) + (i : Nat)).toNat = i by omega]
    have h2 : i < (coL ns ns.length).length := by rw [coL_len]; exact h
    rw [e1, List.getElem?_eq_getElem h2]
    unfold onN
    rw [List.getD_eq_getElem?_getD, List.getElem?_eq_getElem h2]
    rfl
  · rw [List.getElem?_eq_none (by rw [goF_len]; omega), List.getElem?_eq_none (by rw [coL_len]; omega)]
/-- the numbers of chains on from the last k, by the number they begin with -/
def ltN (ns : List Int) (k : Nat) (v : Int) : Int := sN ns.length fun j => if ns.length - k ≤ j then (if ns.getD j 0 = v then onN ns j else 0) else 0
theorem ltN_zero (ns : List Int) (v : Int) : ltN ns 0 v = 0 := by
  unfold ltN
  refine sN_zero fun j hj => ?_
  have h : ¬ ns.length - 0 ≤ j := by omega
  exact if_neg h
theorem ltN_succ {ns : List Int} {k : Nat} (h : k < ns.length) (v : Int) : ltN ns (k + 1) v = ltN ns k v + if ns.getD (ns.length - 1 - k) 0 = v then onN ns (ns.length - 1 - k) else 0 := by
  have e : ltN ns (k + 1) v = sN ns.length fun j => (if ns.length - k ≤ j then (if ns.getD j 0 = v then onN ns j else 0) else 0) + (if j = ns.length - 1 - k then (if ns.getD (ns.length - 1 - k) 0 = v then onN ns (ns.length - 1 - k) else 0) else 0) := by
    unfold ltN
    refine sN_ext fun j hj => ?_
    by_cases h1 : j = ns.length - 1 - k
    · have h2 : ns.length - (k + 1) ≤ j := by omega
      have h3 : ¬ ns.length - k ≤ j := by omega
      rw [if_pos h2, if_neg h3, if_pos h1, h1]
      omega
    · rw [if_neg h1]
      by_cases h2 : ns.length - k ≤ j
      · have h3 : ns.length - (k + 1) ≤ j := by omega
        rw [if_pos h2, if_pos h3]
        omega
      · have h3 : ¬ ns.length - (k + 1) ≤ j := by omega
        rw [if_neg h2, if_neg h3]
        rfl
  rw [e, sN_add, sN_one (f := fun j => if j = ns.length - 1 - k then (if ns.getD (ns.length - 1 - k) 0 = v then onN ns (ns.length - 1 - k) else 0) else 0) (k := ns.length - 1 - k) (fun j hj hji => if_neg hji) (by omega), if_pos rfl]
  rfl
theorem goF_on {ns : List Int} {k : Nat} (h : k < ns.length) : onN ns (ns.length - 1 - k) = if k = 0 then 1 else ltN ns k (ns.getD (ns.length - 1 - k) 0 + 1) := by
  rw [onN_eq (by omega)]
  by_cases e : k = 0
  · have h2 : ns.length - 1 - k = ns.length - 1 := by omega
    rw [if_pos e, if_pos h2]
  · have h2 : ¬ ns.length - 1 - k = ns.length - 1 := by omega
    rw [if_neg e, if_neg h2]
    unfold ltN
    refine sN_ext fun j hj => ?_
    by_cases h3 : ns.length - k ≤ j
    · have h4 : ns.length - 1 - k < j := by omega
      rw [if_pos h3, if_pos h4]
    · have h4 : ¬ ns.length - 1 - k < j := by omega
      rw [if_neg h3, if_neg h4]
theorem cut_last {ns : List Int} : cutV (ns.map V.int) (some (-1)) none = (ns.drop (ns.length - 1)).map V.int := by
  have e : HT.sIx (ns.map V.int).length 0 (some (-1)) = ns.length - 1 := by
    rw [List.length_map]
    show (if (-1 : Int) < 0 then ((-1 : Int) + (ns.length : Int)).toNat else min (-1 : Int).toNat ns.length) = ns.length - 1
    rw [if_pos (by decide)]
    omega
  unfold cutV
  rw [e, HT.sIx_none, List.map_drop, List.take_of_length_le]
  rw [List.length_drop]
  exact Nat.le_refl _
theorem drop_last {l : List Int} (h : 0 < l.length) : l.drop (l.length - 1) = [l.getD (l.length - 1) 0] := by
  rw [List.drop_eq_getElem_cons (by omega), List.getD_eq_getElem?_getD, List.getElem?_eq_getElem (by omega), List.drop_of_length_le (by omega)]
  rfl
theorem ch_last {ns C : List Int} {pl : Int} (h : ChOk ns pl C) : C.drop (C.length - 1) = (Sa.rg 0 ns.length).drop ((Sa.rg 0 ns.length).length - 1) := by
  by_cases h0 : ns.length = 0
  · have hl := h.len
    rw [if_pos h0] at hl
    rw [List.length_eq_zero_iff.mp hl, h0]
    rfl
  · obtain ⟨h1, h2⟩ := h.lst (by omega)
    rw [drop_last h1, drop_last (by rw [Sa.rg_len]; omega), h2, Sa.rg_len, List.getD_eq_getElem?_getD, Sa.rg_get (by omega)]
    show [_] = [(0 : Int) + ((ns.length - 1 : Nat) : Int)]
    congr 1
    omega
theorem zip_rg {F ns : List Int} (h : F.length = ns.length) : F.zip ns = (Sa.rg 0 ns.length).map fun i => (F.getD i.toNat 0, ns.getD i.toNat 0) := by
  refine List.ext_getElem? fun i => ?_
  by_cases hi : i < ns.length
  · have h1 : i < F.length := by omega
    rw [List.getElem?_map, Sa.rg_get hi]
    show _ = some (F.getD ((0 : Int) + (i : Nat)).toNat 0, ns.getD ((0 : Int) + (i : Nat)).toNat 0)
    have ez : (F.zip ns)[i]? = some (F[i], ns[i]) := List.getElem?_zip_eq_some.mpr ⟨List.getElem?_eq_getElem h1, List.getElem?_eq_getElem hi⟩
    rw [show ((0 : Int) + (i : Nat)).toNat = i by omega, ez, List.getD_eq_getElem?_getD, List.getD_eq_getElem?_getD, List.getElem?_eq_getElem h1, List.getElem?_eq_getElem hi]
    rfl
  · rw [List.getElem?_eq_none (by rw [List.length_zip]; omega), List.getElem?_eq_none (by rw [List.length_map, Sa.rg_len]; omega)]
theorem tot_eq {ns : List Int} (hP : Po ns) (hl : 0 < ns.length) : ((((coL ns ns.length).zip ns).filter fun p => decide (p.2 = 1)).map fun p => p.1).sum = chN ns := by
  rw [zip_rg (coL_len ns ns.length), List.filter_map, List.map_map]
  have e : (((Sa.rg 0 ns.length).filter ((fun p : Int × Int => decide (p.2 = 1)) ∘ fun i : Int => ((coL ns ns.length).getD i.toNat 0, ns.getD i.toNat 0))).map ((fun p : Int × Int => p.1) ∘ fun i : Int => ((coL ns ns.length).getD i.toNat 0, ns.getD i.toNat 0))).sum = sN ns.length fun j => if decide (ns.getD ((0 : Int) + (j : Nat)).toNat 0 = 1) = true then (coL ns ns.length).getD ((0 : Int) + (j : Nat)).toNat 0 else 0 := sum_rg 0 (fun i => decide (ns.getD i.toNat 0 = 1)) (fun i => (coL ns ns.length).getD i.toNat 0) ns.length
  rw [e]
  have hn := (po_elder hP (i := ns.length - 1) (by omega)).1
  rw [← lv_all hl (ns.getD (ns.length - 1) 0 - 1).toNat 1 (Int.le_refl _) hn (by omega)]
  unfold lvN
  refine sN_ext fun j hj => ?_
  rw [show ((0 : Int) + (j : Nat)).toNat = j by omega]
  by_cases ev : ns.getD j 0 = 1
  · rw [if_pos (decide_eq_true ev), if_pos ev, upN_eq hj, if_pos ev, Int.one_mul]
    rfl
  · rw [if_neg (by rw [decide_eq_false ev]; decide), if_neg ev]
/-! ### shares by chains -/
inductive RR (ns ws : List Int) (k : Int) : Nat → Int → Prop
  | one {i : Nat} : ns.getD i 0 = 1 → RR ns ws k i (ownN ws k i)
  | step {i : Nat} {a m : Int} : ns.getD i 0 ≠ 1 → a ∈ snI ns ws i → RR ns ws k a.toNat m → RR ns ws k i (ownN ws k i + m)
theorem shP_at (ns ws : List Int) (k : Int) {i : Nat} {a : Int} (h0 : 0 ≤ a) (h : a < i) : (shP ns ws k i).getD a.toNat (0, 0) = shN ns ws k a.toNat := shP_get ns ws k (by omega)
theorem sn_rg {ns ws : List Int} {i : Nat} {a : Int} (h : a ∈ snI ns ws i) : 0 ≤ a ∧ a < i := by
  have := (snI_mem.mp h).1
  omega
/-- the shares are the least and the greatest by chains -/
theorem shN_rr {ns ws : List Int} (hok : SeenOk ns ws) (k : Int) : ∀ (i : Nat), i < ns.length → RR ns ws k i (shN ns ws k i).1 ∧ RR ns ws k i (shN ns ws k i).2 ∧ ∀ n, RR ns ws k i n → (shN ns ws k i).1 ≤ n ∧ n ≤ (shN ns ws k i).2 := by
  intro i
  induction i using Nat.strongRecOn with
  | ind i ih =>
    intro hi
    rw [shN_is]
    by_cases h1 : ns.getD i 0 = 1
    · have e : shv ns ws k (shP ns ws k i) i = (ownN ws k i, ownN ws k i) := by
        unfold shv seenP
        rw [if_pos h1]
        show (ownN ws k i + minL [0], ownN ws k i + maxL [0]) = _
        rw [show minL [0] = 0 from rfl, show maxL [0] = 0 from rfl, Int.add_zero]
      rw [e]
      refine ⟨.one h1, .one h1, fun n hn => ?_⟩
      cases hn with
      | one _ => exact ⟨Int.le_refl _, Int.le_refl _⟩
      | step h _ _ => exact absurd h1 h
    · have e : seenP ns ws (shP ns ws k i) i = (snI ns ws i).map fun a => shN ns ws k a.toNat := by
        unfold seenP
        rw [if_neg h1]
        exact List.map_congr_left fun a ha => shP_at ns ws k (sn_rg ha).1 (sn_rg ha).2
      have hne := hok i hi h1
      have ihs : ∀ a, a ∈ snI ns ws i → _ := fun a ha => ih a.toNat (by have := sn_rg ha; omega) (by have := sn_rg ha; omega)
      unfold shv
      rw [e, List.map_map, List.map_map]
      have hn1 : (snI ns ws i).map (Prod.fst ∘ fun a => shN ns ws k a.toNat) ≠ [] := fun z => hne (List.map_eq_nil_iff.mp z)
      have hn2 : (snI ns ws i).map (Prod.snd ∘ fun a => shN ns ws k a.toNat) ≠ [] := fun z => hne (List.map_eq_nil_iff.mp z)
      refine ⟨?_, ?_, fun n hn => ?_⟩
      · obtain ⟨a, ha, e1⟩ := List.mem_map.mp (minL_mem hn1)
        show RR ns ws k i (ownN ws k i + minL _)
        rw [← e1]
        exact .step h1 ha (ihs a ha).1
      · obtain ⟨a, ha, e1⟩ := List.mem_map.mp (maxL_mem hn2)
        show RR ns ws k i (ownN ws k i + maxL _)
        rw [← e1]
        exact .step h1 ha (ihs a ha).2.1
      · cases hn with
        | one h => exact absurd h h1
        | @step _ a m _ ha hm =>
          obtain ⟨_, _, g⟩ := ihs a ha
          have g := g m hm
          have g1 := minL_le (l := (snI ns ws i).map (Prod.fst ∘ fun a => shN ns ws k a.toNat)) (List.mem_map.mpr ⟨a, ha, rfl⟩)
          have g2 := le_maxL (l := (snI ns ws i).map (Prod.snd ∘ fun a => shN ns ws k a.toNat)) (List.mem_map.mpr ⟨a, ha, rfl⟩)
          simp only [Function.comp_apply] at g1 g2
          show ownN ws k i + minL _ ≤ ownN ws k i + m ∧ ownN ws k i + m ≤ ownN ws k i + maxL _
          omega
/-- of two clerks the one has what the other has not -/
theorem rr_two {ns ws : List Int} {k l : Int} (hkl : k ≠ l) (hw : ∀ i, i < ns.length → ws.getD i 0 = k ∨ ws.getD i 0 = l) : ∀ {i : Nat} {n : Int}, RR ns ws k i n → i < ns.length → RR ns ws l i (ns.getD i 0 - n) := by
  have own : ∀ i, i < ns.length → ownN ws k i + ownN ws l i = 1 := fun i hi => by
    unfold ownN
    rcases hw i hi with e | e <;> rw [e]
    · rw [if_pos rfl, if_neg hkl]; rfl
    · rw [if_neg (fun z => hkl z.symm), if_pos rfl]; rfl
  intro i n h
  induction h with
  | @one i h1 =>
    intro hi
    have := own i hi
    rw [show ns.getD i 0 - ownN ws k i = ownN ws l i by omega]
    exact .one h1
  | @step i a m h1 ha hm ih =>
    intro hi
    have h2 := sn_rg ha
    have h3 := ih (by omega)
    have h4 := (snI_mem.mp ha).2
    have := own i hi
    rw [show ns.getD i 0 - (ownN ws k i + m) = ownN ws l i + (ns.getD a.toNat 0 - m) by omega]
    exact .step h1 ha h3
theorem two_sums {ns ws : List Int} {k l : Int} (hok : SeenOk ns ws) (hkl : k ≠ l) (hw : ∀ i, i < ns.length → ws.getD i 0 = k ∨ ws.getD i 0 = l) {i : Nat} (hi : i < ns.length) : (shN ns ws k i).1 + (shN ns ws l i).2 = ns.getD i 0 ∧ (shN ns ws k i).2 + (shN ns ws l i).1 = ns.getD i 0 := by
  obtain ⟨a1, a2, a3⟩ := shN_rr hok k i hi
  obtain ⟨b1, b2, b3⟩ := shN_rr hok l i hi
  have hw2 : ∀ i, i < ns.length → ws.getD i 0 = l ∨ ws.getD i 0 = k := fun i hi => (hw i hi).symm
  have c1 := b3 _ (rr_two hkl hw a1 hi)
  have c2 := b3 _ (rr_two hkl hw a2 hi)
  have d1 := a3 _ (rr_two (Ne.symm hkl) hw2 b1 hi)
  have d2 := a3 _ (rr_two (Ne.symm hkl) hw2 b2 hi)
  omega
/-- who wrote nothing has no share -/
theorem rr_zero {ns ws : List Int} {k : Int} (hw : ∀ i, i < ns.length → ws.getD i 0 ≠ k) : ∀ {i : Nat} {n : Int}, RR ns ws k i n → i < ns.length → n = 0 := by
  intro i n h
  induction h with
  | @one i h1 => intro hi; unfold ownN; rw [if_neg (hw i hi)]
  | @step i a m h1 ha hm ih =>
    intro hi
    have h2 := sn_rg ha
    have h3 := ih (by omega)
    unfold ownN
    rw [if_neg (hw i hi), h3]
    rfl
theorem sh_zero {ns ws : List Int} {k : Int} (hok : SeenOk ns ws) (hw : ∀ i, i < ns.length → ws.getD i 0 ≠ k) {i : Nat} (hi : i < ns.length) : shN ns ws k i = (0, 0) := by
  obtain ⟨a1, a2, _⟩ := shN_rr hok k i hi
  have h1 := rr_zero hw a1 hi
  have h2 := rr_zero hw a2 hi
  exact Prod.ext h1 h2
/-! ### a course of writes of clerks -/
def Cw (ns ws F : List Int) (n : Nat) : Prop := F.length = n ∧ ∀ j, j < n → eldN ws j + 1 ≤ F.getD j 0 ∧ F.getD j 0 ≤ j ∧ sh ns (F.getD j 0) = ns.getD j 0 - 1
theorem cw_snoc {ns ws F : List Int} {n : Nat} {x : Int} (h : Cw ns ws F n) (hx : x ∈ gl ns n (eldN ws n + 1)) : Cw ns ws (F ++ [x]) (n + 1) := by
  refine ⟨by rw [List.length_append, h.1]; rfl, fun j hj => ?_⟩
  by_cases h2 : j < n
  · have e : (F ++ [x]).getD j 0 = F.getD j 0 := by
      rw [List.getD_eq_getElem?_getD, List.getElem?_append_left (by rw [h.1]; exact h2), List.getD_eq_getElem?_getD]
    rw [e]
    exact h.2 j h2
  · obtain rfl : j = n := by omega
    have e : (F ++ [x]).getD j 0 = x := by
      rw [List.getD_eq_getElem?_getD, List.getElem?_append_right (by rw [h.1]; exact Nat.le_refl _), h.1, Nat.sub_self]
      rfl
    rw [e]
    obtain ⟨⟨h3, h4⟩, h5⟩ := gl_mem.mp hx
    rw [Int.toNat_natCast] at h5
    exact ⟨h3, by have := eldF_rg ws j (ws.getD j 0); unfold eldN at *; omega, h5⟩
theorem cw_cp {ns ws F : List Int} {n : Nat} (h : Cw ns ws F n) : Cp ns F n := ⟨h.1, fun j hj => by
  have := h.2 j hj
  have := eldF_rg ws j (ws.getD j 0)
  unfold eldN at *
  exact ⟨by omega, by omega, (h.2 j hj).2.2⟩⟩
/-- there is a gap behind the elder -/
theorem gw_ne {ns ws : List Int} (hP : Po ns) (h : FL ns (ws.map some) = none) (hl : ws.length = ns.length) {i : Nat} (hi : i < ns.length) : 0 < (gl ns i (eldN ws i + 1)).length := by
  have he := flt_elder h hl i hi
  have hh := po_hasg hP hi
  obtain ⟨g1, g2, g3, _⟩ := lg_is ns i (ns.getD i 0 - 1) hh
  have hle : (lateL ns).getD i 0 = lg ns i (ns.getD i 0 - 1) := by
    unfold lateL
    rw [List.getD_eq_getElem?_getD, List.getElem?_map, List.getElem?_range hi]
    rfl
  rw [hle] at he
  refine List.length_pos_of_mem (a := lg ns i (ns.getD i 0 - 1)) (gl_mem.mpr ⟨⟨by omega, by omega⟩, ?_⟩)
  rw [Int.toNat_natCast]
  exact g3
/-- followed back -/
def fol (cs : List Int) : Nat → Int → List Int → List Int
  | 0, _, F => F
  | n + 1, s, F => if 0 ≤ s then fol cs n (cs.getD s.toNat 0 - 1) (s :: F) else fol cs n s F
def folL (cs : List Int) : List Int := fol cs cs.length ((cs.length : Int) - 1) []
theorem fol_neg (cs : List Int) : ∀ (n : Nat) (F : List Int), fol cs n (-1) F = F
  | 0, _ => rfl
  | n + 1, F => by
    show (if (0 : Int) ≤ -1 then _ else fol cs n (-1) F) = F
    rw [if_neg (by decide), fol_neg cs n F]
def cntO (ws : List Int) (k : Int) (ch : List Int) : Int := (((ch.map fun x => ws.getD x.toNat 0).count k : Nat) : Int)
theorem cntO_app (ws : List Int) (k : Int) (ch : List Int) (i : Nat) : cntO ws k (ch ++ [(i : Int)]) = ownN ws k i + cntO ws k ch := by
  unfold cntO ownN
  rw [List.map_append, List.count_append]
  show (((_ : Nat) + List.count k [ws.getD ((i : Int)).toNat 0] : Nat) : Int) = _
  rw [Int.toNat_natCast]
  by_cases h : ws.getD i 0 = k
  · rw [if_pos h, h, List.count_singleton_self]
    omega
  · rw [if_neg h, List.count_singleton, if_neg (by simpa using h)]
    omega
theorem fol_rr {ns ws cs : List Int} (hP : Po ns) (hC : Cw ns ws cs ns.length) : ∀ (n i : Nat) (F : List Int), i < ns.length → i < n → ∃ ch, fol cs n (i : Int) F = ch ++ F ∧ (∀ x ∈ ch, 0 ≤ x ∧ x < ns.length) ∧ (ch.length : Int) = ns.getD i 0 ∧ ∀ k, RR ns ws k i (cntO ws k ch)
  | 0, i, F, hi, h => absurd h (Nat.not_lt_zero _)
  | n + 1, i, F, hi, h => by
    obtain ⟨c1, c2, c3⟩ := hC.2 i hi
    have hr := eldF_rg ws i (ws.getD i 0)
    have hpos := po_pos hP _ (getD_mem hi)
    have c1 : eldF ws i (ws.getD i 0) + 1 ≤ cs.getD i 0 := c1
    have e0 : fol cs (n + 1) (i : Int) F = fol cs n (cs.getD i 0 - 1) ((i : Int) :: F) := by
      show (if (0 : Int) ≤ i then fol cs n (cs.getD ((i : Int)).toNat 0 - 1) ((i : Int) :: F) else _) = _
      rw [if_pos (by omega), Int.toNat_natCast]
    rw [e0]
    by_cases h1 : ns.getD i 0 = 1
    · have hz : cs.getD i 0 = 0 := by
        rw [h1] at c3
        refine Decidable.byContradiction fun hne => ?_
        unfold sh at c3
        rw [if_neg (by omega)] at c3
        have := po_pos hP _ (getD_mem (ns := ns) (i := (cs.getD i 0 - 1).toNat) (by omega))
        omega
      rw [hz, show (0 : Int) - 1 = -1 from rfl, fol_neg]
      refine ⟨[(i : Int)], rfl, fun x hx => by rw [List.mem_singleton.mp hx]; omega, by rw [h1]; rfl, fun k => ?_⟩
      have e := cntO_app ws k [] i
      rw [List.nil_append, show cntO ws k [] = 0 from rfl, Int.add_zero] at e
      rw [e]
      exact .one h1
    · have hp : 0 < cs.getD i 0 := by
        refine Decidable.byContradiction fun hne => ?_
        have hz : cs.getD i 0 = 0 := by omega
        rw [hz, show sh ns 0 = 0 from rfl] at c3
        omega
      have hs : ns.getD (cs.getD i 0 - 1).toNat 0 = ns.getD i 0 - 1 := by
        unfold sh at c3
        rw [if_neg (by omega)] at c3
        exact c3
      obtain ⟨ch, g1, g2, g3, g4⟩ := fol_rr hP hC n (cs.getD i 0 - 1).toNat ((i : Int) :: F) (by omega) (by omega)
      rw [show (((cs.getD i 0 - 1).toNat : Nat) : Int) = cs.getD i 0 - 1 by omega] at g1
      refine ⟨ch ++ [(i : Int)], by rw [g1, List.append_assoc]; rfl, fun x hx => ?_, ?_, fun k => ?_⟩
      · rcases List.mem_append.mp hx with hx | hx
        · exact g2 x hx
        · rw [List.mem_singleton.mp hx]; omega
      · rw [List.length_append, hs] at *
        simp only [List.length_cons, List.length_nil] at *
        omega
      · rw [cntO_app]
        exact .step h1 (snI_mem.mpr ⟨⟨by show max (eldF ws i (ws.getD i 0)) 0 ≤ _; omega, by omega⟩, hs⟩) (g4 k)
theorem folL_rr {ns ws cs : List Int} (hP : Po ns) (hC : Cw ns ws cs ns.length) (h0 : 0 < ns.length) : (∀ x ∈ folL cs, 0 ≤ x ∧ x < ns.length) ∧ ((folL cs).length : Int) = ns.getD (ns.length - 1) 0 ∧ ∀ k, RR ns ws k (ns.length - 1) (cntO ws k (folL cs)) := by
  obtain ⟨ch, g1, g2, g3, g4⟩ := fol_rr hP hC cs.length (ns.length - 1) [] (by omega) (by have := hC.1; omega)
  have e : folL cs = ch := by
    unfold folL
    rw [show ((cs.length : Int) - 1) = (((ns.length - 1 : Nat)) : Int) by have := hC.1; omega, g1, List.append_nil]
  rw [e]
  exact ⟨g2, g3, g4⟩
/-! ### right sharings -/
theorem eldF_app (F G : List Int) : ∀ j, j ≤ F.length → eldF (F ++ G) j = eldF F j
  | 0, _ => rfl
  | j + 1, h => by
    show ups1 (eldF (F ++ G) j) ((F ++ G).getD j 0) j = ups1 (eldF F j) (F.getD j 0) j
    rw [eldF_app F G j (by omega), List.getD_eq_getElem?_getD, List.getElem?_append_left (by omega), List.getD_eq_getElem?_getD]
theorem eldN_app (F G : List Int) {j : Nat} (h : j < F.length) : eldN (F ++ G) j = eldN F j := by
  unfold eldN
  rw [eldF_app F G j (by omega), List.getD_eq_getElem?_getD, List.getElem?_append_left h, List.getD_eq_getElem?_getD]
theorem fl_none {ns ws : List Int} (hl : ws.length = ns.length) (h : ∀ i, i < ns.length → eldN ws i < (lateL ns).getD i 0) : FL ns (ws.map some) = none := by
  have hll := lateL_len ns
  have key : ∀ (m i : Nat), i + m = ns.length → flt ((lateL ns).drop i) ((ws.map some).drop i) i (eldF ws i) = none := by
    intro m
    induction m with
    | zero =>
      intro i hi
      exact flt_end (.inl (by rw [List.length_drop]; omega))
    | succ m ih =>
      intro i hi
      have e1 : (lateL ns)[i]? = some ((lateL ns).getD i 0) := by rw [List.getD_eq_getElem?_getD, List.getElem?_eq_getElem (by omega)]; rfl
      have e2 : (ws.map some)[i]? = some (some (ws.getD i 0)) := by rw [List.getElem?_map, List.getD_eq_getElem?_getD, List.getElem?_eq_getElem (by omega)]; rfl
      rw [flt_step e1 e2]
      have h1 := h i (by omega)
      show (if (lateL ns).getD i 0 ≤ eldF ws i (ws.getD i 0) then some (i : Int) else flt ((lateL ns).drop (i + 1)) ((ws.map some).drop (i + 1)) ((i : Int) + 1) (ups1 (eldF ws i) (ws.getD i 0) i)) = none
      rw [if_neg (by unfold eldN at h1; omega)]
      exact ih (i + 1) (by omega)
  exact key ns.length 0 (by omega)
theorem eldF_map {ws : List Int} {f : Int → Int} (hf : ∀ a ∈ ws, ∀ b ∈ ws, f a = f b → a = b) : ∀ (i : Nat) (c : Int), i ≤ ws.length → c ∈ ws → eldF (ws.map f) i (f c) = eldF ws i c
  | 0, _, _, _ => rfl
  | i + 1, c, hi, hc => by
    have e : (ws.map f).getD i 0 = f (ws.getD i 0) := by
      rw [List.getD_eq_getElem?_getD, List.getElem?_map, List.getElem?_eq_getElem (by omega), List.getD_eq_getElem?_getD, List.getElem?_eq_getElem (by omega)]
      rfl
    show ups1 (eldF (ws.map f) i) ((ws.map f).getD i 0) i (f c) = ups1 (eldF ws i) (ws.getD i 0) i c
    unfold ups1
    rw [e, eldF_map hf i c (by omega) hc]
    by_cases h : c = ws.getD i 0
    · rw [if_pos h, if_pos (by rw [← h])]
    · rw [if_neg h, if_neg (fun z => h (hf c hc _ (getD_mem (by omega)) z))]
theorem fl_map {ns ws : List Int} {f : Int → Int} (hl : ws.length = ns.length) (h : FL ns (ws.map some) = none) (hf : ∀ a ∈ ws, ∀ b ∈ ws, f a = f b → a = b) : FL ns ((ws.map f).map some) = none := by
  refine fl_none (by rw [List.length_map, hl]) fun i hi => ?_
  have h1 := flt_elder h hl i hi
  have e : eldN (ws.map f) i = eldN ws i := by
    unfold eldN
    have e : (ws.map f).getD i 0 = f (ws.getD i 0) := by
      rw [List.getD_eq_getElem?_getD, List.getElem?_map, List.getElem?_eq_getElem (by omega), List.getD_eq_getElem?_getD, List.getElem?_eq_getElem (by omega)]
      rfl
    rw [e]
    exact eldF_map hf i _ (by omega) (getD_mem (by omega))
  rw [e]
  exact h1
/-- a beginning of a right sharing: where each clerk wrote last -/
structure ShI (ns F E : List Int) (i : Nat) : Prop where
  fl : F.length = i
  el : E.length ≤ i
  rg : ∀ z ∈ F, 0 ≤ z ∧ z < i
  ok : ∀ j, j < i → eldN F j < (lateL ns).getD j 0
  en : ∀ c : Int, eldF F i c = if 0 ≤ c ∧ c < E.length then E.getD c.toNat 0 else -1
theorem shi_zero (ns : List Int) : ShI ns [] [] 0 := ⟨rfl, Nat.le_refl _, fun _ h => (nomatch h), fun j hj => absurd hj (Nat.not_lt_zero _), fun c => by
  show (-1 : Int) = _
  rw [if_neg (by simp only [List.length_nil]; omega)]⟩
theorem shi_snoc {ns F E E' : List Int} {i : Nat} {c : Int} (h : ShI ns F E i) (h0 : 0 ≤ c) (hc : c ≤ i) (hE : E'.length ≤ i + 1) (hl : eldF F i c < (lateL ns).getD i 0) (he : ∀ d : Int, (if d = c then (i : Int) else if 0 ≤ d ∧ d < E.length then E.getD d.toNat 0 else -1) = if 0 ≤ d ∧ d < E'.length then E'.getD d.toNat 0 else -1) : ShI ns (F ++ [c]) E' (i + 1) := by
  have e1 : (F ++ [c]).getD i 0 = c := by rw [List.getD_eq_getElem?_getD, List.getElem?_append_right (by rw [h.fl]; exact Nat.le_refl _), h.fl, Nat.sub_self]; rfl
  refine ⟨by rw [List.length_append, h.fl]; rfl, hE, fun z hz => ?_, fun j hj => ?_, fun d => ?_⟩
  · rcases List.mem_append.mp hz with g | g
    · have := h.rg z g
      omega
    · rw [List.mem_singleton.mp g]
      omega
  · by_cases hji : j < i
    · rw [eldN_app F [c] (by rw [h.fl]; exact hji)]
      exact h.ok j hji
    · obtain rfl : j = i := by omega
      unfold eldN
      rw [e1, eldF_app F [c] j (by rw [h.fl]; exact Nat.le_refl _)]
      exact hl
  · show ups1 (eldF (F ++ [c]) i) ((F ++ [c]).getD i 0) i d = _
    rw [e1, eldF_app F [c] i (by rw [h.fl]; exact Nat.le_refl _)]
    unfold ups1
    rw [h.en d]
    exact he d
theorem shi_new {ns F E : List Int} {i : Nat} {c : Int} (h : ShI ns F E i) (hc : c = E.length) (h0 : 0 ≤ (lateL ns).getD i 0) : ShI ns (F ++ [c]) (E ++ [(i : Int)]) (i + 1) := by
  have hel := h.el
  refine shi_snoc h (by omega) (by omega) (by rw [List.length_append]; exact Nat.succ_le_succ hel) (by rw [h.en c, if_neg (by omega)]; omega) fun d => ?_
  rw [List.length_append]
  show _ = if 0 ≤ d ∧ d < ((E.length + 1 : Nat) : Int) then _ else _
  by_cases e : d = c
  · rw [if_pos e, if_pos (by omega), e, hc, Int.toNat_natCast, List.getD_eq_getElem?_getD, List.getElem?_append_right (Nat.le_refl _), Nat.sub_self]
    rfl
  · rw [if_neg e]
    by_cases g : 0 ≤ d ∧ d < E.length
    · rw [if_pos g, if_pos (by omega), List.getD_eq_getElem?_getD, List.getD_eq_getElem?_getD, List.getElem?_append_left (by omega)]
    · rw [if_neg g, if_neg (by omega)]
theorem shi_old {ns F E : List Int} {i : Nat} {c : Int} (h : ShI ns F E i) (hc0 : 0 ≤ c) (hc : c < E.length) (h0 : E.getD c.toNat 0 < (lateL ns).getD i 0) : ShI ns (F ++ [c]) (E.set c.toNat (i : Int)) (i + 1) := by
  have hel := h.el
  refine shi_snoc h hc0 (by omega) (by rw [List.length_set]; omega) (by rw [h.en c, if_pos ⟨hc0, hc⟩]; exact h0) fun d => ?_
  rw [List.length_set]
  by_cases e : d = c
  · rw [if_pos e, if_pos (by omega), e, List.getD_eq_getElem?_getD, List.getElem?_set_self (by omega)]
    rfl
  · rw [if_neg e]
    by_cases g : 0 ≤ d ∧ d < E.length
    · rw [if_pos g, if_pos g, List.getD_eq_getElem?_getD, List.getD_eq_getElem?_getD, List.getElem?_set_ne (by omega)]
    · rw [if_neg g, if_neg g]
theorem late_nn {ns : List Int} (hP : Po ns) {i : Nat} (hi : i < ns.length) : 0 ≤ (lateL ns).getD i 0 := by
  obtain ⟨g1, g2, g3, _⟩ := lg_is ns i (ns.getD i 0 - 1) (po_hasg hP hi)
  have hle : (lateL ns).getD i 0 = lg ns i (ns.getD i 0 - 1) := by
    unfold lateL
    rw [List.getD_eq_getElem?_getD, List.getElem?_map, List.getElem?_range hi]
    rfl
  rw [hle]
  exact g1
theorem shi_fl {ns F E : List Int} {i : Nat} (h : ShI ns F E i) (hi : i = ns.length) : FL ns (F.map some) = none := fl_none (by rw [h.fl, hi]) fun j hj => h.ok j (by omega)
/-! ### a board, as it stands -/
structure Bo where
  care : List Int
  calls : List Int
  deeds : List (Str × Int × Int)
  held : Int → Option (Int × Int)
  nums : List Int
  wrs : List Int
  gps : List Int
namespace Bo
def now (S : Bo) : Int := sh S.nums S.nums.length
def len (S : Bo) : Int := S.nums.length
def start (care : List Int) : Bo := ⟨care, [], [], fun _ => none, [], [], []⟩
def read (S : Bo) (c : Int) : Bo := { S with held := fun m => if m = c then some (S.now, S.len) else S.held m, calls := S.calls ++ [c], deeds := S.deeds ++ [(("read" : Str), S.now, S.len)] }
def write (S : Bo) (c n g : Int) : Bo := { S with held := fun m => if m = c then none else S.held m, nums := S.nums ++ [n + 1], wrs := S.wrs ++ [c], gps := S.gps ++ [g], calls := S.calls ++ [c], deeds := S.deeds ++ [(("write" : Str), n, g)] }
def vain (S : Bo) (c n g : Int) : Bo := { S with held := fun m => if m = c then none else S.held m, calls := S.calls ++ [c], deeds := S.deeds ++ [(("vain" : Str), n, g)] }
def call (S : Bo) (c : Int) : Bo := match S.held c with
  | none => S.read c
  | some (n, g) => if c ∈ S.care ∧ n ≠ S.now then S.vain c n g else S.write c n g
def told (S : Bo) (c : Int) : Option Int := match S.held c with
  | none => some S.now
  | some (n, g) => if c ∈ S.care ∧ n ≠ S.now then none else some (n + 1)
end Bo
def optI : Option Int → V
  | none => .non
  | some i => .int i
/-- where its parts stand -/
structure Ba where
  b : Addr
  dx : Addr
  ca : Addr
  cl : Addr
  de : Addr
  he : Addr
  nu : Addr
  wr : Addr
  ga : Addr
abbrev bnames : List Str := ["_careful", "_calls", "_deeds", "_held", "_numbers", "_writers", "_gaps"]
@[irreducible] def bcells (C : Addr) (R : Ba) (kvs : List (Key × V)) (des : List V) (S : Bo) : List Cell :=
  [(R.b, .ins C R.dx (Sa.flds bnames [.ref R.ca, .ref R.cl, .ref R.de, .ref R.he, .ref R.nu, .ref R.wr, .ref R.ga])), (R.ca, .lst (S.care.map V.int)), (R.cl, .lst (S.calls.map V.int)), (R.de, .lst des), (R.he, .dK kvs),
   (R.nu, .lst (S.nums.map V.int)), (R.wr, .lst (S.wrs.map V.int)), (R.ga, .lst (S.gps.map V.int))]
theorem bcells_eq (C : Addr) (R : Ba) (kvs : List (Key × V)) (des : List V) (S : Bo) : bcells C R kvs des S =
  [(R.b, .ins C R.dx (Sa.flds bnames [.ref R.ca, .ref R.cl, .ref R.de, .ref R.he, .ref R.nu, .ref R.wr, .ref R.ga])), (R.ca, .lst (S.care.map V.int)), (R.cl, .lst (S.calls.map V.int)), (R.de, .lst des), (R.he, .dK kvs),
   (R.nu, .lst (S.nums.map V.int)), (R.wr, .lst (S.wrs.map V.int)), (R.ga, .lst (S.gps.map V.int))] := by
  unfold bcells
  rfl
def heldD (h : Int → Option (Int × Int)) : Int → Option PyData := fun n => (h n).map fun p => .tuple [.int p.1, .int p.2]
def deedD (d : Str × Int × Int) : PyData := .tuple [.str d.1, .int d.2.1, .int d.2.2]
/-- what its dict and its deeds hold -/
def fB (K : PySem.W.Frag) (kvs : List (Key × V)) (des : List V) (S : Bo) : Fc := ⟨fun H => Sa.DkV K kvs (heldD S.held) H ∧ DpAll K H des (S.deeds.map deedD),
  fun H H' e h => ⟨(Sa.fDk K kvs (heldD S.held)).mono H H' e h.1, Sa.dpa_same e _ _ h.2⟩⟩
structure Bz (kvs : List (Key × V)) (des : List V) (S : Bo) (m : Nat) : Prop where
  z1 : kvs.length ≤ m
  z2 : des.length ≤ m
  z3 : S.calls.length ≤ m
  z4 : S.nums.length ≤ m
  z5 : S.wrs.length ≤ m
  z6 : S.gps.length ≤ m
/-- a call of a method, from S to S' -/
def BoT (K : PySem.W.Frag) (C : Addr) (R : Ba) (S S' : Bo) (v : V) (H : Hp) (Q : VK) : Prop := ∃ (L : List Fc) (M0 M : List Cell) (kvs : List (Key × V)) (des : List V) (m : Nat), SA L M0 H ∧ Sa.In1 (fB K kvs des S) L ∧ Sa.Grp M0 (bcells C R kvs des S) M ∧ Bz kvs des S m ∧ m < 10000 ∧
  ∀ (kvs' : List (Key × V)) (des' : List V) (H' : Hp), SA (fB K kvs' des' S' :: L) (bcells C R kvs' des' S' ++ M) H' → Bz kvs' des' S' (m + 1) → Q v H'
section
variable {K : PySem.W.Frag} {L : List Fc} {M : List Cell} {H : Hp} {kvs : List (Key × V)} {des : List V} {S : Bo} {c n g : Int} {p q : Addr}
theorem held_no (hS : SA L M H) (hB : Sa.In1 (fB K kvs des S) L) (e : S.held c = none) : Sa.dv kvs c = none := Sa.dk_none (hS.ask hB.at).1 (by unfold heldD; rw [e]; rfl)
theorem held_at (hS : SA L M H) (hB : Sa.In1 (fB K kvs des S) L) (e : S.held c = some (n, g)) : ∃ p, Sa.dv kvs c = some (.ref p) ∧ SA (fT K p [.int n, .int g] :: L) M H := by
  have e1 : heldD S.held c = some (.tuple [.int n, .int g]) := by unfold heldD; rw [e]; rfl
  obtain ⟨v, hv, hd⟩ := Sa.dk_some (hS.ask hB.at).1 e1
  obtain ⟨p, a, b, rfl, h1, h2, h3⟩ := Sa.dp_tup2 hd
  refine ⟨p, hv, hS.ad fun F hF => ?_⟩
  obtain ⟨v', hv', hd'⟩ := Sa.dk_some (hF _ hB.mem).1 e1
  obtain ⟨p', a', b', rfl, g1, g2, g3⟩ := Sa.dp_tup2 hd'
  rw [hv] at hv'
  cases hv'
  rw [Sa.dp_int g2, Sa.dp_int g3] at g1
  exact g1
/-- the facts behind a read, a write, a vain try -/
theorem fb_read (hS : SA L M H) (hB : Sa.In1 (fB K kvs des S) L) (h1 : Sa.In1 (Sa.fU p [.int S.now, .int S.len]) L) (h2 : Sa.In1 (Sa.fU q [.str "read", .int S.now, .int S.len]) L) : SA (fB K (Sa.dput kvs c (.ref p)) (des ++ [.ref q]) (S.read c) :: L) M H := hS.ad fun F hF => by
  have g1 : SqT K F p [.int S.now, .int S.len] := SqT.of (hF _ h1.mem)
  have g2 : SqT K F q [.str "read", .int S.now, .int S.len] := SqT.of (hF _ h2.mem)
  have gB : (fB K kvs des S).p F := hF _ hB.mem
  refine ⟨?_, ?_⟩
  · have z := Sa.dk_put (n := c) gB.1 (.tup g1 (.cons (.int _) (.cons (.int _) .nil)))
    have e : heldD (S.read c).held = fun m => if m = c then some (.tuple [.int S.now, .int S.len]) else heldD S.held m := by
      funext m
      unfold heldD Bo.read
      by_cases h : m = c
      · simp only [if_pos h]
        rfl
      · simp only [if_neg h]
    rw [e]
    exact z
  · show DpAll K F (des ++ [.ref q]) ((S.deeds ++ [(("read" : Str), S.now, S.len)]).map deedD)
    rw [List.map_append]
    exact Sa.dpa_app gB.2 (.cons (.tup g2 (.cons (.str _) (.cons (.int _) (.cons (.int _) .nil)))) .nil)
theorem fb_write (hS : SA L M H) (hB : Sa.In1 (fB K kvs des S) L) (h2 : Sa.In1 (Sa.fU q [.str "write", .int n, .int g]) L) : SA (fB K (Sa.ddrop kvs c) (des ++ [.ref q]) (S.write c n g) :: L) M H := hS.ad fun F hF => by
  have g2 : SqT K F q [.str "write", .int n, .int g] := SqT.of (hF _ h2.mem)
  have gB : (fB K kvs des S).p F := hF _ hB.mem
  refine ⟨?_, ?_⟩
  · have z := Sa.dk_drop (n := c) gB.1
    have e : heldD (S.write c n g).held = fun m => if m = c then none else heldD S.held m := by
      funext m
      unfold heldD Bo.write
      by_cases h : m = c
      · simp only [if_pos h]
        rfl
      · simp only [if_neg h]
    rw [e]
    exact z
  · show DpAll K F (des ++ [.ref q]) ((S.deeds ++ [(("write" : Str), n, g)]).map deedD)
    rw [List.map_append]
    exact Sa.dpa_app gB.2 (.cons (.tup g2 (.cons (.str _) (.cons (.int _) (.cons (.int _) .nil)))) .nil)
theorem fb_vain (hS : SA L M H) (hB : Sa.In1 (fB K kvs des S) L) (h2 : Sa.In1 (Sa.fU q [.str "vain", .int n, .int g]) L) : SA (fB K (Sa.ddrop kvs c) (des ++ [.ref q]) (S.vain c n g) :: L) M H := hS.ad fun F hF => by
  have g2 : SqT K F q [.str "vain", .int n, .int g] := SqT.of (hF _ h2.mem)
  have gB : (fB K kvs des S).p F := hF _ hB.mem
  refine ⟨?_, ?_⟩
  · have z := Sa.dk_drop (n := c) gB.1
    have e : heldD (S.vain c n g).held = fun m => if m = c then none else heldD S.held m := by
      funext m
      unfold heldD Bo.vain
      by_cases h : m = c
      · simp only [if_pos h]
        rfl
      · simp only [if_neg h]
    rw [e]
    exact z
  · show DpAll K F (des ++ [.ref q]) ((S.deeds ++ [(("vain" : Str), n, g)]).map deedD)
    rw [List.map_append]
    exact Sa.dpa_app gB.2 (.cons (.tup g2 (.cons (.str _) (.cons (.int _) (.cons (.int _) .nil)))) .nil)
theorem Bz.read {m : Nat} (z : Bz kvs des S m) {v : V} {q : V} : Bz (Sa.dput kvs c v) (des ++ [q]) (S.read c) (m + 1) := by
  have := Sa.dput_len kvs c v
  obtain ⟨z1, z2, z3, z4, z5, z6⟩ := z
  refine ⟨by omega, by simp; omega, by show (S.calls ++ [c]).length ≤ _; simp; omega, Nat.le_succ_of_le z4, Nat.le_succ_of_le z5, Nat.le_succ_of_le z6⟩
theorem Bz.write {m : Nat} (z : Bz kvs des S m) {q : V} : Bz (Sa.ddrop kvs c) (des ++ [q]) (S.write c n g) (m + 1) := by
  have := Sa.ddrop_len kvs c
  obtain ⟨z1, z2, z3, z4, z5, z6⟩ := z
  refine ⟨by omega, by simp; omega, by show (S.calls ++ [c]).length ≤ _; simp; omega, by show (S.nums ++ [n + 1]).length ≤ _; simp; omega, by show (S.wrs ++ [c]).length ≤ _; simp; omega, by show (S.gps ++ [g]).length ≤ _; simp; omega⟩
theorem Bz.vain {m : Nat} (z : Bz kvs des S m) {q : V} : Bz (Sa.ddrop kvs c) (des ++ [q]) (S.vain c n g) (m + 1) := by
  have := Sa.ddrop_len kvs c
  obtain ⟨z1, z2, z3, z4, z5, z6⟩ := z
  refine ⟨by omega, by simp; omega, by show (S.calls ++ [c]).length ≤ _; simp; omega, Nat.le_succ_of_le z4, Nat.le_succ_of_le z5, Nat.le_succ_of_le z6⟩
end
theorem bgrp {C : Addr} {R : Ba} {kvs : List (Key × V)} {des : List V} {S : Bo} {M : List Cell} : Sa.Grp ((R.b, .ins C R.dx (Sa.flds bnames [.ref R.ca, .ref R.cl, .ref R.de, .ref R.he, .ref R.nu, .ref R.wr, .ref R.ga])) :: (R.ca, .lst (S.care.map V.int)) :: (R.cl, .lst (S.calls.map V.int)) :: (R.de, .lst des) :: (R.he, .dK kvs) ::
   (R.nu, .lst (S.nums.map V.int)) :: (R.wr, .lst (S.wrs.map V.int)) :: (R.ga, .lst (S.gps.map V.int)) :: M) (bcells C R kvs des S) M := by
  have h : Sa.Grp (bcells C R kvs des S ++ M) (bcells C R kvs des S) M := .hd
  have e : bcells C R kvs des S ++ M = _ := congrArg (· ++ M) (bcells_eq C R kvs des S)
  rw [e] at h
  exact h
theorem at_board {L : List Fc} {M0 M : List Cell} {C : Addr} {R : Ba} {kvs : List (Key × V)} {des : List V} {S : Bo} (g : Sa.Grp M0 (bcells C R kvs des S) M) : At L M0 (Sa.fI R.b C R.dx (Sa.flds bnames [.ref R.ca, .ref R.cl, .ref R.de, .ref R.he, .ref R.nu, .ref R.wr, .ref R.ga])) := fun H h => by
  have h1 := h.grp g
  rw [bcells_eq] at h1
  exact h1.at List.mem_cons_self
theorem sh_last (ns : List Int) (x : Int) : sh (ns ++ [x]) ((ns ++ [x]).length : Nat) = x := by
  unfold sh
  rw [List.length_append, List.length_singleton, if_neg (by omega), show (((ns.length + 1 : Nat) : Int) - 1).toNat = ns.length by omega, List.getD_eq_getElem?_getD, List.getElem?_append_right (Nat.le_refl _), Nat.sub_self]
  rfl
theorem now_write (S : Bo) (c n g : Int) : (S.write c n g).now = n + 1 := sh_last S.nums (n + 1)
theorem now_read (S : Bo) (c : Int) : (S.read c).now = S.now := rfl
theorem now_vain (S : Bo) (c n g : Int) : (S.vain c n g).now = S.now := rfl
theorem now_start (l : List Int) : (Bo.start l).now = 0 := rfl
theorem call_none {S : Bo} {c : Int} (h : S.held c = none) : S.call c = S.read c ∧ S.told c = some S.now := by
  unfold Bo.call Bo.told
  rw [h]
  exact ⟨rfl, rfl⟩
theorem call_vain {S : Bo} {c n g : Int} (h : S.held c = some (n, g)) (h1 : c ∈ S.care ∧ n ≠ S.now) : S.call c = S.vain c n g ∧ S.told c = none := by
  unfold Bo.call Bo.told
  rw [h]
  exact ⟨if_pos h1, if_pos h1⟩
theorem call_write {S : Bo} {c n g : Int} (h : S.held c = some (n, g)) (h1 : ¬ (c ∈ S.care ∧ n ≠ S.now)) : S.call c = S.write c n g ∧ S.told c = some (n + 1) := by
  unfold Bo.call Bo.told
  rw [h]
  exact ⟨if_neg h1, if_neg h1⟩
theorem call_care (S : Bo) (c : Int) : (S.call c).care = S.care := by
  unfold Bo.call
  cases S.held c with
  | none => rfl
  | some ng =>
    dsimp only
    split <;> rfl
def optE : Option Int → PyData
  | none => .none
  | some i => .int i
theorem At_optE {K : PySem.W.Frag} {L : List Fc} {M : List Cell} : ∀ o : Option Int, At L M (fD K (optI o) (optE o))
  | none => Sa.At.non
  | some _ => Sa.At.int
theorem optE_depth : ∀ (o : Option Int) (n : Nat), (optE o).depth < n + 1
  | none, n => Sa.depth_none
  | some _, n => Sa.depth_int
theorem bc_back1 {L : List Fc} {M0 M : List Cell} {H : Hp} {C : Addr} {R : Ba} {kvs : List (Key × V)} {des : List V} {S : Bo} {c : Cell} (g : Sa.Grp M0 (bcells C R kvs des S) M) (h : SA L (c :: (R.b, .ins C R.dx (Sa.flds bnames [.ref R.ca, .ref R.cl, .ref R.de, .ref R.he, .ref R.nu, .ref R.wr, .ref R.ga])) :: (R.ca, .lst (S.care.map V.int)) :: (R.cl, .lst (S.calls.map V.int)) :: (R.de, .lst des) :: (R.he, .dK kvs) ::
   (R.nu, .lst (S.nums.map V.int)) :: (R.wr, .lst (S.wrs.map V.int)) :: (R.ga, .lst (S.gps.map V.int)) :: M) H) : SA L (c :: M0) H := by
  have p := g.perm
  rw [bcells_eq] at p
  exact h.perm (List.Perm.cons _ p.symm)
theorem bc_back {L : List Fc} {M0 M : List Cell} {H : Hp} {C : Addr} {R : Ba} {kvs : List (Key × V)} {des : List V} {S : Bo} (g : Sa.Grp M0 (bcells C R kvs des S) M) (h : SA L ((R.b, .ins C R.dx (Sa.flds bnames [.ref R.ca, .ref R.cl, .ref R.de, .ref R.he, .ref R.nu, .ref R.wr, .ref R.ga])) :: (R.ca, .lst (S.care.map V.int)) :: (R.cl, .lst (S.calls.map V.int)) :: (R.de, .lst des) :: (R.he, .dK kvs) ::
   (R.nu, .lst (S.nums.map V.int)) :: (R.wr, .lst (S.wrs.map V.int)) :: (R.ga, .lst (S.gps.map V.int)) :: M) H) : SA L M0 H := by
  have p := g.perm
  rw [bcells_eq] at p
  exact h.perm p.symm
/-! ### what counted -/
def GoodG (gps : List Int) : Prop := ∀ i : Nat, i < gps.length → 0 ≤ gps.getD i 0 ∧ gps.getD i 0 ≤ i
def down (gps : List Int) : Nat → Int → List Int
  | 0, _ => []
  | f + 1, i => if i < 0 then [] else i :: down gps f (gps.getD i.toNat 0 - 1)
theorem down_neg (gps : List Int) : ∀ (f : Nat) (i : Int), i < 0 → down gps f i = []
  | 0, _, _ => rfl
  | f + 1, i, h => if_pos h
theorem down_fuel {gps : List Int} (hg : GoodG gps) : ∀ (f f' : Nat) (i : Int), i < gps.length → i < f → i < f' → down gps f i = down gps f' i
  | 0, f', i, _, h1, _ => by
    rw [down_neg gps f' i (by omega)]
    rfl
  | f + 1, 0, i, _, _, h2 => by
    rw [down_neg gps (f + 1) i (by omega)]
    rfl
  | f + 1, f' + 1, i, hl, h1, h2 => by
    show (if i < 0 then [] else _) = (if i < 0 then [] else _)
    by_cases h : i < 0
    · rw [if_pos h, if_pos h]
    · rw [if_neg h, if_neg h]
      have g := hg i.toNat (by omega)
      rw [down_fuel hg f f' _ (by omega) (by omega) (by omega)]
def chainD (gps : List Int) (i : Int) : List Int := down gps (i + 1).toNat i
theorem chainD_neg (gps : List Int) {i : Int} (h : i < 0) : chainD gps i = [] := down_neg gps _ i h
theorem chainD_pos {gps : List Int} (hg : GoodG gps) {i : Int} (h0 : 0 ≤ i) (hl : i < gps.length) : chainD gps i = i :: chainD gps (gps.getD i.toNat 0 - 1) := by
  unfold chainD
  rw [show (i + 1).toNat = i.toNat + 1 by omega]
  show (if i < 0 then [] else _) = _
  rw [if_neg (by omega)]
  have g := hg i.toNat (by omega)
  rw [down_fuel hg i.toNat (gps.getD i.toNat 0 - 1 + 1).toNat _ (by omega) (by omega) (by omega)]
def chainL (gps : List Int) : List Int := (chainD gps ((gps.length : Int) - 1)).reverse
theorem chainD_len {gps : List Int} (hg : GoodG gps) : ∀ (n : Nat) (i : Int), i < n → i < gps.length → (chainD gps i).length ≤ n
  | 0, i, h, _ => by rw [chainD_neg gps (by omega)]; exact Nat.le_refl _
  | n + 1, i, h, hl => by
    by_cases h0 : i < 0
    · rw [chainD_neg gps h0]
      exact Nat.zero_le _
    · have g := hg i.toNat (by omega)
      rw [chainD_pos hg (by omega) hl, List.length_cons]
      have := chainD_len hg n (gps.getD i.toNat 0 - 1) (by omega) (by omega)
      omega
theorem chainL_len {gps : List Int} (hg : GoodG gps) : (chainL gps).length ≤ gps.length := by
  unfold chainL
  rw [List.length_reverse]
  exact chainD_len hg gps.length _ (by omega) (by omega)
/-- what each write sees, as a value -/
def seenV (g : Int) : V := if g > 0 then .int (g - 1) else .non
/-! ### what stands in each reached board -/
theorem sh_app {ns : List Int} {x g : Int} (h0 : 0 ≤ g) (h1 : g ≤ ns.length) : sh (ns ++ [x]) g = sh ns g := by
  unfold sh
  by_cases h : g = 0
  · rw [if_pos h, if_pos h]
  · rw [if_neg h, if_neg h, List.getD_eq_getElem?_getD, List.getD_eq_getElem?_getD, List.getElem?_append_left (by omega)]
theorem getD_app {ns : List Int} {x : Int} {i : Nat} (h : i < ns.length) : (ns ++ [x]).getD i 0 = ns.getD i 0 := by
  rw [List.getD_eq_getElem?_getD, List.getD_eq_getElem?_getD, List.getElem?_append_left h]
theorem getD_end {ns : List Int} {x : Int} : (ns ++ [x]).getD ns.length 0 = x := by
  rw [List.getD_eq_getElem?_getD, List.getElem?_append_right (Nat.le_refl _), Nat.sub_self]
  rfl
structure Ok (S : Bo) : Prop where
  gl : S.gps.length = S.nums.length
  gg : GoodG S.gps
  ge : ∀ i : Nat, i < S.gps.length → S.nums.getD i 0 = sh S.nums (S.gps.getD i 0) + 1
  he : ∀ c n g, S.held c = some (n, g) → 0 ≤ g ∧ g ≤ S.nums.length ∧ n = sh S.nums g
theorem ok_start (l : List Int) : Ok (Bo.start l) := ⟨rfl, fun i h => absurd h (Nat.not_lt_zero _), fun i h => absurd h (Nat.not_lt_zero _), fun c n g h => nomatch h⟩
theorem ok_read {S : Bo} (h : Ok S) (c : Int) : Ok (S.read c) := ⟨h.gl, h.gg, h.ge, fun c' n g e => by
  have e' : (if c' = c then some (S.now, S.len) else S.held c') = some (n, g) := e
  by_cases hc : c' = c
  · rw [if_pos hc] at e'
    cases e'
    exact ⟨Int.natCast_nonneg _, Int.le_refl _, rfl⟩
  · rw [if_neg hc] at e'
    exact h.he c' n g e'⟩
theorem ok_vain {S : Bo} (h : Ok S) (c n g : Int) : Ok (S.vain c n g) := ⟨h.gl, h.gg, h.ge, fun c' n' g' e => by
  have e' : (if c' = c then none else S.held c') = some (n', g') := e
  by_cases hc : c' = c
  · rw [if_pos hc] at e'
    cases e'
  · rw [if_neg hc] at e'
    exact h.he c' n' g' e'⟩
theorem ok_write {S : Bo} (h : Ok S) {c n g : Int} (hh : S.held c = some (n, g)) : Ok (S.write c n g) := by
  obtain ⟨h0, h1, h2⟩ := h.he c n g hh
  have gl := h.gl
  refine ⟨by show (S.gps ++ [g]).length = (S.nums ++ [n + 1]).length; rw [List.length_append, List.length_append, gl]; rfl, fun i hi => ?_, fun i hi => ?_, fun c' n' g' e => ?_⟩
  · have hi' : i < (S.gps ++ [g]).length := hi
    rw [List.length_append, List.length_singleton] at hi'
    show 0 ≤ (S.gps ++ [g]).getD i 0 ∧ (S.gps ++ [g]).getD i 0 ≤ i
    by_cases hl : i < S.gps.length
    · rw [getD_app hl]
      exact h.gg i hl
    · have e : i = S.gps.length := by omega
      subst e
      rw [getD_end]
      omega
  · have hi' : i < (S.gps ++ [g]).length := hi
    rw [List.length_append, List.length_singleton] at hi'
    show (S.nums ++ [n + 1]).getD i 0 = sh (S.nums ++ [n + 1]) ((S.gps ++ [g]).getD i 0) + 1
    by_cases hl : i < S.gps.length
    · have g1 := h.gg i hl
      rw [getD_app (by omega), getD_app hl, sh_app g1.1 (by omega)]
      exact h.ge i hl
    · have e : i = S.gps.length := by omega
      subst e
      rw [getD_end]
      rw [gl, getD_end, sh_app h0 h1, ← h2]
  · have e' : (if c' = c then none else S.held c') = some (n', g') := e
    by_cases hc : c' = c
    · rw [if_pos hc] at e'
      cases e'
    · rw [if_neg hc] at e'
      obtain ⟨k0, k1, k2⟩ := h.he c' n' g' e'
      refine ⟨k0, ?_, ?_⟩
      · show g' ≤ ((S.nums ++ [n + 1]).length : Nat)
        rw [List.length_append]
        omega
      · show n' = sh (S.nums ++ [n + 1]) g'
        rw [sh_app k0 k1]
        exact k2
theorem ok_call {S : Bo} (h : Ok S) (c : Int) : Ok (S.call c) := by
  cases hh : S.held c with
  | none =>
    rw [(call_none hh).1]
    exact ok_read h c
  | some ng =>
    obtain ⟨n, g⟩ := ng
    by_cases h1 : c ∈ S.care ∧ n ≠ S.now
    · rw [(call_vain hh h1).1]
      exact ok_vain h c n g
    · rw [(call_write hh h1).1]
      exact ok_write h hh
/-- the numbers along a chain -/
theorem chain_nums {S : Bo} (h : Ok S) : ∀ (n : Nat) (i : Int), i < n → i < S.gps.length → -1 ≤ i → 0 ≤ sh S.nums (i + 1) ∧ ((chainD S.gps i).map fun j => S.nums.getD j.toNat 0).reverse = Sa.rg 1 (sh S.nums (i + 1)).toNat ∧ ∀ j ∈ chainD S.gps i, 0 ≤ j ∧ j < S.nums.length
  | 0, i, hi, _, h1 => by
    have e : i = -1 := by omega
    subst e
    rw [chainD_neg _ (by omega), show sh S.nums ((-1 : Int) + 1) = 0 from rfl]
    exact ⟨Int.le_refl _, rfl, fun j hj => nomatch hj⟩
  | n + 1, i, hi, hl, h1 => by
    by_cases h0 : i < 0
    · have e : i = -1 := by omega
      subst e
      rw [chainD_neg _ (by omega), show sh S.nums ((-1 : Int) + 1) = 0 from rfl]
      exact ⟨Int.le_refl _, rfl, fun j hj => nomatch hj⟩
    · have g := h.gg i.toNat (by omega)
      have ge := h.ge i.toNat (by omega)
      have gl := h.gl
      obtain ⟨a1, a2, a3⟩ := chain_nums h n (S.gps.getD i.toNat 0 - 1) (by omega) (by omega) (by omega)
      rw [show S.gps.getD i.toNat 0 - 1 + 1 = S.gps.getD i.toNat 0 by omega] at a1 a2
      have es : sh S.nums (i + 1) = sh S.nums (S.gps.getD i.toNat 0) + 1 := by
        rw [← ge]
        unfold sh
        rw [if_neg (by omega), show (i + 1 - 1).toNat = i.toNat by omega]
      refine ⟨by omega, ?_, fun j hj => ?_⟩
      · rw [chainD_pos h.gg (by omega) hl, List.map_cons, List.reverse_cons, a2, es, show (sh S.nums (S.gps.getD i.toNat 0) + 1).toNat = (sh S.nums (S.gps.getD i.toNat 0)).toNat + 1 by omega, Sa.rg_succ, ge]
        congr 2
        omega
      · rw [chainD_pos h.gg (by omega) hl] at hj
        rcases List.mem_cons.mp hj with rfl | hj
        · omega
        · exact a3 j hj
theorem chainL_nums {S : Bo} (h : Ok S) : (chainL S.gps).map (fun j => S.nums.getD j.toNat 0) = Sa.rg 1 S.now.toNat ∧ 0 ≤ S.now ∧ ∀ j ∈ chainL S.gps, 0 ≤ j ∧ j < S.nums.length := by
  obtain ⟨a1, a2, a3⟩ := chain_nums h S.gps.length ((S.gps.length : Int) - 1) (by omega) (by omega) (by omega)
  have gl := h.gl
  rw [show (S.gps.length : Int) - 1 + 1 = (S.nums.length : Int) by omega] at a1 a2
  unfold chainL
  refine ⟨?_, a1, fun j hj => a3 j (List.mem_reverse.mp hj)⟩
  rw [List.map_reverse]
  exact a2
theorem chainL_now {S : Bo} (h : Ok S) : ((chainL S.gps).length : Int) = S.now := by
  have e := congrArg List.length (chainL_nums h).1
  rw [List.length_map, Sa.rg_len] at e
  have := (chainL_nums h).2.1
  omega
/-! ### a call taken back -/
section
variable {K : PySem.W.Frag} {L : List Fc} {M : List Cell} {H : Hp} {kvs : List (Key × V)} {des : List V} {S S1 : Bo} {c n g : Int} {p q : Addr} {ds : List (Str × Int × Int)} {d : Str × Int × Int}
theorem deed_last (hS : SA L M H) (hB : Sa.In1 (fB K kvs des S1) L) (e : S1.deeds = ds ++ [d]) : ∃ p, des[des.length - 1]? = some (.ref p) ∧ SA (fT K p [.str d.1, .int d.2.1, .int d.2.2] :: L) M H := by
  have e1 : (S1.deeds.map deedD).getLast? = some (deedD d) := by rw [e, List.map_append]; simp
  obtain ⟨v, hv, hd⟩ := Sa.dpa_last (hS.ask hB.at).2 e1
  obtain ⟨p, a, b, c, rfl, h1, h2, h3, h4⟩ := Sa.dp_tup3 hd
  refine ⟨p, hv, hS.ad fun F hF => ?_⟩
  obtain ⟨v', hv', hd'⟩ := Sa.dpa_last (hF _ hB.mem).2 e1
  obtain ⟨p', a', b', c', rfl, g1, g2, g3, g4⟩ := Sa.dp_tup3 hd'
  rw [hv] at hv'
  cases hv'
  rw [Sa.dp_str g2, Sa.dp_int g3, Sa.dp_int g4] at g1
  exact g1
theorem fb_unread (hS : SA L M H) (hB : Sa.In1 (fB K kvs des (S.read c)) L) (hh : S.held c = none) : SA (fB K (Sa.ddrop kvs c) des.dropLast S :: L) M H := hS.ad fun F hF => by
  have gB : (fB K kvs des (S.read c)).p F := hF _ hB.mem
  refine ⟨?_, ?_⟩
  · have z := Sa.dk_drop (n := c) gB.1
    have e : (fun m => if m = c then none else heldD (S.read c).held m) = heldD S.held := by
      funext m
      unfold heldD Bo.read
      by_cases h : m = c
      · simp only [if_pos h]
        rw [h, hh]
        rfl
      · simp only [if_neg h]
    rw [e] at z
    exact z
  · have z := Sa.dpa_drop gB.2
    have e : ((S.read c).deeds.map deedD).dropLast = S.deeds.map deedD := by
      show ((S.deeds ++ [_]).map deedD).dropLast = _
      rw [List.map_append]
      exact List.dropLast_concat
    rw [e] at z
    exact z
theorem fb_unput (hS : SA L M H) (hB : Sa.In1 (fB K kvs des S1) L) (hh : S.held c = some (n, g)) (e1 : ∀ m, S1.held m = if m = c then none else S.held m) (e2 : S1.deeds = S.deeds ++ [d]) (h1 : Sa.In1 (Sa.fU p [.int n, .int g]) L) : SA (fB K (Sa.dput kvs c (.ref p)) des.dropLast S :: L) M H := hS.ad fun F hF => by
  have g1 : SqT K F p [.int n, .int g] := SqT.of (hF _ h1.mem)
  have gB : (fB K kvs des S1).p F := hF _ hB.mem
  refine ⟨?_, ?_⟩
  · have z := Sa.dk_put (n := c) gB.1 (.tup g1 (.cons (.int _) (.cons (.int _) .nil)))
    have e : (fun m => if m = c then some (PyData.tuple [.int n, .int g]) else heldD S1.held m) = heldD S.held := by
      funext m
      unfold heldD
      rw [e1]
      by_cases h : m = c
      · simp only [if_pos h]
        rw [h, hh]
        rfl
      · simp only [if_neg h]
    rw [e] at z
    exact z
  · have z := Sa.dpa_drop gB.2
    have e : (S1.deeds.map deedD).dropLast = S.deeds.map deedD := by
      rw [e2, List.map_append]
      exact List.dropLast_concat
    rw [e] at z
    exact z
theorem drop_end (ns : List Int) (x : Int) : (ns ++ [x]).dropLast = ns := List.dropLast_concat
theorem getD_last (ns : List Int) (x : Int) : (ns ++ [x]).getD ((ns ++ [x]).length - 1) 0 = x := by
  rw [List.length_append, List.length_singleton, Nat.add_sub_cancel]
  exact getD_end
theorem bz_back {m : Nat} {kvs' : List (Key × V)} {des' : List V} (z : Bz kvs des (S.call c) m) (h1 : kvs'.length ≤ kvs.length + 1) (h2 : des'.length ≤ des.length) : Bz kvs' des' S (m + 1) := by
  obtain ⟨z1, z2, z3, z4, z5, z6⟩ := z
  have e : S.calls.length ≤ (S.call c).calls.length ∧ S.nums.length ≤ (S.call c).nums.length ∧ S.wrs.length ≤ (S.call c).wrs.length ∧ S.gps.length ≤ (S.call c).gps.length := by
    cases hh : S.held c with
    | none =>
      rw [(call_none hh).1]
      exact ⟨by show _ ≤ (S.calls ++ [c]).length; simp, Nat.le_refl _, Nat.le_refl _, Nat.le_refl _⟩
    | some ng =>
      obtain ⟨n, g⟩ := ng
      by_cases h1 : c ∈ S.care ∧ n ≠ S.now
      · rw [(call_vain hh h1).1]
        exact ⟨by show _ ≤ (S.calls ++ [c]).length; simp, Nat.le_refl _, Nat.le_refl _, Nat.le_refl _⟩
      · rw [(call_write hh h1).1]
        exact ⟨by show _ ≤ (S.calls ++ [c]).length; simp, by show _ ≤ (S.nums ++ [n + 1]).length; simp, by show _ ≤ (S.wrs ++ [c]).length; simp, by show _ ≤ (S.gps ++ [g]).length; simp⟩
  obtain ⟨e1, e2, e3, e4⟩ := e
  exact ⟨by omega, by omega, by omega, by omega, by omega, by omega⟩
end
/-- the falls of a list -/
def fl (ns : List Int) : List Int := (Sa.rg 0 ns.length).filter fun i => !decide (ns.getD i.toNat 0 = sh ns i + 1)
/-- the others -/
def lk (ns : List Int) : List Int := (Sa.rg 0 ns.length).filter fun i => decide (ns.getD i.toNat 0 = sh ns i + 1)
theorem fl_len (ns : List Int) : (fl ns).length ≤ ns.length := by
  unfold fl
  have h := List.length_filter_le (fun i => !decide (ns.getD i.toNat 0 = sh ns i + 1)) (Sa.rg 0 ns.length)
  rw [Sa.rg_len] at h
  exact h
theorem lk_len (ns : List Int) : (lk ns).length ≤ ns.length := by
  unfold lk
  have h := List.length_filter_le (fun i => decide (ns.getD i.toNat 0 = sh ns i + 1)) (Sa.rg 0 ns.length)
  rw [Sa.rg_len] at h
  exact h
theorem lk_fl (ns : List Int) : (Sa.rg 0 ns.length).filter (fun i => !decide (i ∈ fl ns)) = lk ns := by
  refine List.filter_congr (fun i hi => ?_)
  have e : (i ∈ fl ns) ↔ ¬ (ns.getD i.toNat 0 = sh ns i + 1) := by
    unfold fl
    rw [List.mem_filter]
    simp [hi]
  by_cases h : ns.getD i.toNat 0 = sh ns i + 1
  · rw [decide_eq_true h, decide_eq_false (fun h2 => e.mp h2 h)]
    rfl
  · rw [decide_eq_false h, decide_eq_true (e.mpr h)]
    rfl
theorem top_mem (ns : List Int) : top ns = 0 ∨ top ns ∈ ns := by
  induction ns using snoc_ind with
  | h0 => exact .inl rfl
  | h1 l x ih =>
    rw [top_snoc]
    by_cases h : top l ≤ x
    · rw [Int.max_eq_right h]
      exact .inr (by simp)
    · rw [Int.max_eq_left (by omega)]
      rcases ih with h2 | h2
      · exact .inl h2
      · exact .inr (by simp [h2])
theorem max_top {ns : List Int} {m : Int} (h1 : m ∈ ns ++ [0]) (h2 : ∀ y, y ∈ ns ++ [0] → y ≤ m) : m = top ns := by
  have h3 := top_nonneg ns
  have h4 : m ≤ top ns := by
    rcases List.mem_append.mp h1 with h5 | h5
    · exact le_top h5
    · simp at h5
      omega
  have h5 : top ns ≤ m := by
    rcases top_mem ns with h6 | h6
    · rw [h6]
      exact h2 0 (by simp)
    · exact h2 _ (by simp [h6])
  omega
theorem po_all : ∀ {ns : List Int}, (∀ s : Nat, s < ns.length → 1 ≤ ns.getD s 0 ∧ ns.getD s 0 ≤ top (ns.take s) + 1) → Po ns := by
  intro ns
  induction ns using snoc_ind with
  | h0 => intro _; exact po_nil
  | h1 l x ih =>
    intro h
    refine po_snoc.mpr ⟨ih (fun s hs => ?_), ?_⟩
    · have h2 := h s (by rw [List.length_append]; omega)
      rw [List.getD_eq_getElem?_getD, List.getElem?_append_left hs, List.take_append_of_le_length (by omega)] at h2
      rw [List.getD_eq_getElem?_getD]
      exact h2
    · have h2 := h l.length (by rw [List.length_append]; show l.length < l.length + 1; omega)
      rw [List.getD_eq_getElem?_getD, List.getElem?_append_right (Nat.le_refl _), List.take_append_of_le_length (Nat.le_refl _), List.take_length, Nat.sub_self] at h2
      exact h2
/-- whether a write could have read -/
def ok1 (ns : List Int) (s : Int) : Bool := decide (1 ≤ ns.getD s.toNat 0) && decide (ns.getD s.toNat 0 ≤ top (ns.take s.toNat) + 1)
theorem po_ok1 {ns : List Int} (h : (Sa.rg 0 ns.length).filter (fun s => !ok1 ns s) = []) : Po ns := by
  refine po_all (fun s hs => ?_)
  have h2 := List.filter_eq_nil_iff.mp h (s : Int) (Sa.mem_rg.mpr ⟨by omega, by omega⟩)
  unfold ok1 at h2
  rw [Int.toNat_natCast] at h2
  simpa using h2
theorem back {ns : List Int} {s : Nat} {v : Int} (h : s < ns.length) : (ns.set s v).set s (ns.getD s 0) = ns := by
  rw [List.set_set, List.getD_eq_getElem?_getD, List.getElem?_eq_getElem h]
  exact List.set_getElem_self h
/-- the places of the numbers that are greater than all ahead, from a greatest one and a place on -/
def gr : Int → Nat → List Int → List Int
  | _, _, [] => []
  | g, i, n :: ns => if g < n then (i : Int) :: gr n (i + 1) ns else gr g (i + 1) ns
theorem gr_append (bs : List Int) : ∀ (as : List Int) (g : Int) (i : Nat), gr g i (as ++ bs) = gr g i as ++ gr (as.foldl max g) (i + as.length) bs
  | [], g, i => rfl
  | n :: as, g, i => by
    show (if g < n then (i : Int) :: gr n (i + 1) (as ++ bs) else gr g (i + 1) (as ++ bs)) = (if g < n then (i : Int) :: gr n (i + 1) as else gr g (i + 1) as) ++ gr (as.foldl max (max g n)) (i + (as.length + 1)) bs
    have e : i + 1 + as.length = i + (as.length + 1) := by omega
    by_cases h : g < n
    · rw [if_pos h, if_pos h, gr_append bs as n (i + 1), e, show max g n = n by omega]
      rfl
    · rw [if_neg h, if_neg h, gr_append bs as g (i + 1), e, show max g n = g by omega]
theorem gr_mem : ∀ (ns : List Int) (g : Int) (i : Nat) (x : Int), x ∈ gr g i ns → (i : Int) ≤ x ∧ x < i + ns.length
  | [], _, _, _, h => by cases h
  | n :: ns, g, i, x, h => by
    have h1 : x ∈ (if g < n then (i : Int) :: gr n (i + 1) ns else gr g (i + 1) ns) := h
    rw [List.length_cons]
    by_cases hc : g < n
    · rw [if_pos hc] at h1
      rcases List.mem_cons.mp h1 with h2 | h2
      · omega
      · have := gr_mem ns n (i + 1) x h2
        omega
    · rw [if_neg hc] at h1
      have := gr_mem ns g (i + 1) x h1
      omega
theorem gr_len : ∀ (ns : List Int) (g : Int) (i : Nat), (gr g i ns).length ≤ ns.length
  | [], _, _ => Nat.le_refl _
  | n :: ns, g, i => by
    show (if g < n then (i : Int) :: gr n (i + 1) ns else gr g (i + 1) ns).length ≤ ns.length + 1
    split
    · have := gr_len ns n (i + 1)
      simp only [List.length_cons]
      omega
    · have := gr_len ns g (i + 1)
      omega
theorem fw_append (bs : List Int) : ∀ (as : List Int) (g : Int) (i : Nat), fw g i (as ++ bs) = match fw g i as with
    | some k => some k
    | none => fw (as.foldl max g) (i + as.length) bs
  | [], g, i => rfl
  | n :: as, g, i => by
    show (if 1 ≤ n ∧ n ≤ g + 1 then fw (max g n) (i + 1) (as ++ bs) else some i) = match (if 1 ≤ n ∧ n ≤ g + 1 then fw (max g n) (i + 1) as else some i) with
      | some k => some k
      | none => fw (as.foldl max (max g n)) (i + (as.length + 1)) bs
    have e : i + 1 + as.length = i + (as.length + 1) := by omega
    by_cases h : 1 ≤ n ∧ n ≤ g + 1
    · rw [if_pos h, if_pos h, fw_append bs as, e]
    · rw [if_neg h, if_neg h]
theorem fw_mono : ∀ (ns : List Int) (g g' : Int) (i j : Nat), g ≤ g' → fw g i ns = none → fw g' j ns = none
  | [], _, _, _, _, _, _ => rfl
  | n :: ns, g, g', i, j, hg, h => by
    have h1 : (if 1 ≤ n ∧ n ≤ g + 1 then fw (max g n) (i + 1) ns else some i) = none := h
    show (if 1 ≤ n ∧ n ≤ g' + 1 then fw (max g' n) (j + 1) ns else some j) = none
    by_cases hc : 1 ≤ n ∧ n ≤ g + 1
    · rw [if_pos hc] at h1
      rw [if_pos (by omega)]
      exact fw_mono ns _ _ _ _ (by omega) h1
    · rw [if_neg hc] at h1
      cases h1
/-- the numbers there are 1, 2 and so on -/
theorem gr_nums {ns : List Int} (hP : Po ns) : (gr 0 0 ns).map (fun s => ns.getD s.toNat 0) = Sa.rg 1 (gr 0 0 ns).length ∧ ((gr 0 0 ns).length : Int) = top ns := by
  induction ns using snoc_ind with
  | h0 => exact ⟨rfl, rfl⟩
  | h1 l x ih =>
    obtain ⟨h1, h2, h3⟩ := po_snoc.mp hP
    obtain ⟨i1, i2⟩ := ih h1
    have e1 : gr 0 0 (l ++ [x]) = gr 0 0 l ++ (if top l < x then [(l.length : Int)] else []) := by
      rw [gr_append]
      show gr 0 0 l ++ (if top l < x then ((0 + l.length : Nat) : Int) :: [] else []) = _
      rw [Nat.zero_add]
    have e2 : (gr 0 0 l).map (fun s => (l ++ [x]).getD s.toNat 0) = (gr 0 0 l).map (fun s => l.getD s.toNat 0) := by
      apply List.map_congr_left
      intro s hs
      have := gr_mem l 0 0 s hs
      rw [List.getD_eq_getElem?_getD, List.getD_eq_getElem?_getD, List.getElem?_append_left (by omega)]
    rw [e1, top_snoc]
    by_cases hc : top l < x
    · rw [if_pos hc, List.map_append, e2, i1, List.length_append, List.length_singleton, Sa.rg_succ]
      refine ⟨?_, by omega⟩
      congr 1
      show [(l ++ [x]).getD ((l.length : Int)).toNat 0] = [1 + ((gr 0 0 l).length : Int)]
      rw [Int.toNat_natCast, List.getD_eq_getElem?_getD, List.getElem?_append_right (Nat.le_refl _), Nat.sub_self]
      show [x] = _
      congr 1
      omega
    · rw [if_neg hc, List.append_nil, e2]
      exact ⟨i1, by omega⟩
theorem split_at {ns : List Int} {s : Nat} (h : s < ns.length) : ns = ns.take s ++ ns.getD s 0 :: ns.drop (s + 1) := by
  rw [List.getD_eq_getElem?_getD, List.getElem?_eq_getElem h]
  show ns = ns.take s ++ ns[s] :: ns.drop (s + 1)
  rw [← List.drop_eq_getElem_cons h, List.take_append_drop]
/-- one number raised by one -/
theorem raise_one {ns : List Int} (hP : Po ns) {s : Nat} (hs : s < ns.length) : fw 0 0 (ns.set s (ns.getD s 0 + 1)) = if (s : Int) ∈ gr 0 0 ns then some s else none := by
  have hsp := split_at hs
  generalize hx : ns.getD s 0 = x at hsp ⊢
  generalize ha : ns.take s = as at hsp
  generalize hb : ns.drop (s + 1) = bs at hsp
  have hla : as.length = s := by rw [← ha, List.length_take]; omega
  have e1 : ns.set s (x + 1) = as ++ (x + 1) :: bs := by
    rw [hsp, List.set_append_right _ _ (by omega), hla, Nat.sub_self]
    rfl
  have hP2 : fw 0 0 (as ++ x :: bs) = none := by rw [← hsp]; exact hP
  rw [fw_append] at hP2
  have hmem : (s : Int) ∈ gr 0 0 ns ↔ top as < x := by
    rw [hsp, gr_append, List.mem_append]
    show _ ∨ (s : Int) ∈ (if top as < x then ((0 + as.length : Nat) : Int) :: gr x (0 + as.length + 1) bs else gr (top as) (0 + as.length + 1) bs) ↔ _
    constructor
    · rintro (h | h)
      · have := gr_mem as 0 0 _ h
        omega
      · by_cases hc : top as < x
        · exact hc
        · rw [if_neg hc] at h
          have := gr_mem bs _ _ _ h
          omega
    · intro hc
      right
      rw [if_pos hc]
      exact List.mem_cons.mpr (.inl (by omega))
  rw [e1, fw_append]
  cases h1 : fw 0 0 as with
  | some k => rw [h1] at hP2; cases hP2
  | none =>
    rw [h1] at hP2
    have hP3 : (if 1 ≤ x ∧ x ≤ top as + 1 then fw (max (top as) x) (0 + as.length + 1) bs else some (0 + as.length)) = none := hP2
    show (if 1 ≤ x + 1 ∧ x + 1 ≤ top as + 1 then fw (max (top as) (x + 1)) (0 + as.length + 1) bs else some (0 + as.length)) = _
    by_cases hc : 1 ≤ x ∧ x ≤ top as + 1
    · rw [if_pos hc] at hP3
      by_cases hg : top as < x
      · rw [if_neg (by omega), if_pos (hmem.mpr hg), hla, Nat.zero_add]
      · rw [if_pos (by omega), if_neg (fun h => hg (hmem.mp h))]
        exact fw_mono bs _ _ _ _ (by omega) hP3
    · rw [if_neg hc] at hP3
      cases hP3
theorem getD_rg {lo : Int} {k j : Nat} (h : j < k) : (Sa.rg lo k).getD j 0 = lo + j := by
  rw [List.getD_eq_getElem?_getD, Sa.rg_get h]
  rfl
theorem sh_rg {k : Nat} {g : Int} (h0 : 0 ≤ g) (h1 : g ≤ k) : sh (Sa.rg 1 k) g = g := by
  unfold sh
  by_cases h : g = 0
  · rw [if_pos h, h]
  · rw [if_neg h, getD_rg (by omega)]
    omega
theorem po_rg : ∀ k : Nat, Po (Sa.rg 1 k) ∧ top (Sa.rg 1 k) = k
  | 0 => ⟨po_nil, rfl⟩
  | k + 1 => by
    obtain ⟨h1, h2⟩ := po_rg k
    rw [Sa.rg_succ]
    refine ⟨po_snoc.mpr ⟨h1, by omega, by omega⟩, ?_⟩
    rw [top_snoc, h2]
    omega
theorem gr_rg : ∀ k : Nat, gr 0 0 (Sa.rg 1 k) = Sa.rg 0 k
  | 0 => rfl
  | k + 1 => by
    have ht : (Sa.rg 1 k).foldl max 0 = (k : Int) := (po_rg k).2
    rw [Sa.rg_succ, gr_append, gr_rg k, Sa.rg_succ, ht, Sa.rg_len]
    congr 1
    show (if (k : Int) < (1 : Int) + (k : Int) then [((0 + k : Nat) : Int)] else _) = _
    rw [if_pos (by omega)]
    rw [Nat.zero_add, Int.zero_add]
theorem fl_rg (k : Nat) : fl (Sa.rg 1 k) = [] := by
  unfold fl
  rw [List.filter_eq_nil_iff]
  intro i hi
  obtain ⟨h0, h1⟩ := Sa.mem_rg.mp hi
  rw [Sa.rg_len] at h1
  rw [getD_rg (by omega), sh_rg h0 (by omega), decide_eq_true (by omega)]
  decide
/-! ### boards by their calls -/
def run (care : List Int) (l : List Int) : Bo := l.foldl Bo.call (Bo.start care)
theorem run_snoc (care l : List Int) (c : Int) : run care (l ++ [c]) = (run care l).call c := by
  unfold run
  rw [List.foldl_append]
  rfl
theorem run_nil (care : List Int) : run care [] = Bo.start care := rfl
theorem run_care (care : List Int) (l : List Int) : (run care l).care = care := snoc_ind (P := fun l => (run care l).care = care) rfl (fun l x h => by rw [run_snoc, call_care]; exact h) l
theorem run_ok (care : List Int) (l : List Int) : Ok (run care l) := snoc_ind (P := fun l => Ok (run care l)) (ok_start care) (fun l x h => by rw [run_snoc]; exact ok_call h x) l
/-- all careful -/
def Pc (S : Bo) : Prop := S.nums = Sa.rg 1 S.nums.length ∧ S.gps = Sa.rg 0 S.nums.length
theorem pc_now {S : Bo} (h : Pc S) : S.now = S.nums.length := by
  have e := sh_rg (k := S.nums.length) (g := (S.nums.length : Int)) (by omega) (Int.le_refl _)
  unfold Bo.now
  rw [← h.1] at e
  exact e
theorem pc_call {S : Bo} (h : Pc S) (ho : Ok S) {c : Int} (hc : c ∈ S.care) : Pc (S.call c) := by
  cases hh : S.held c with
  | none =>
    rw [(call_none hh).1]
    exact h
  | some ng =>
    obtain ⟨n, g⟩ := ng
    by_cases h1 : c ∈ S.care ∧ n ≠ S.now
    · rw [(call_vain hh h1).1]
      exact h
    · rw [(call_write hh h1).1]
      have hn : n = S.now := Decidable.not_not.mp (fun e => h1 ⟨hc, e⟩)
      obtain ⟨g0, g1, g2⟩ := ho.he c n g hh
      have e := sh_rg (k := S.nums.length) g0 (by omega)
      rw [← h.1, ← g2, hn, pc_now h] at e
      have e1 : (S.write c n g).nums.length = S.nums.length + 1 := by show (S.nums ++ [n + 1]).length = _; simp
      refine ⟨?_, ?_⟩
      · rw [e1, Sa.rg_succ, ← h.1]
        show S.nums ++ [n + 1] = _
        rw [hn, pc_now h]
        congr 2
        omega
      · rw [e1, Sa.rg_succ, ← h.2]
        show S.gps ++ [g] = _
        congr 2
        omega
theorem run_pc {care l : List Int} (h : ∀ c ∈ l, c ∈ care) : Pc (run care l) := by
  revert h
  exact snoc_ind (P := fun l => (∀ c ∈ l, c ∈ care) → Pc (run care l)) (fun _ => ⟨rfl, rfl⟩) (fun l x ih h => by
    rw [run_snoc]
    exact pc_call (ih fun c hc => h c (List.mem_append_left _ hc)) (run_ok care l) (by rw [run_care]; exact h x (List.mem_append_right _ List.mem_cons_self))) l
theorem run_take {care l : List Int} {i : Nat} {c : Int} (h : l[i]? = some c) : run care (l.take (i + 1)) = (run care (l.take i)).call c := by
  rw [Sa.take_at h, run_snoc]
theorem run_len (care : List Int) (l : List Int) : (run care l).nums.length ≤ l.length := snoc_ind (P := fun l => (run care l).nums.length ≤ l.length) (Nat.le_refl _) (fun l x h => by
  rw [run_snoc, List.length_append, List.length_singleton]
  cases hh : (run care l).held x with
  | none =>
    rw [(call_none hh).1]
    exact Nat.le_succ_of_le h
  | some ng =>
    obtain ⟨n, g⟩ := ng
    by_cases h1 : x ∈ (run care l).care ∧ n ≠ (run care l).now
    · rw [(call_vain hh h1).1]
      exact Nat.le_succ_of_le h
    · rw [(call_write hh h1).1]
      show ((run care l).nums ++ [n + 1]).length ≤ _
      rw [List.length_append, List.length_singleton]
      omega) l
theorem good_rg (k : Nat) : GoodG (Sa.rg 0 k) := fun i h => by
  rw [Sa.rg_len] at h
  rw [getD_rg h]
  omega
theorem chainD_rg {k : Nat} : ∀ (m : Nat), m ≤ k → (chainD (Sa.rg 0 k) ((m : Int) - 1)).reverse = Sa.rg 0 m
  | 0, _ => by
    rw [chainD_neg _ (by omega)]
    rfl
  | m + 1, h => by
    rw [chainD_pos (good_rg k) (by omega) (by rw [Sa.rg_len]; omega), List.reverse_cons, getD_rg (by omega), show (0 : Int) + (((((m + 1 : Nat) : Int) - 1).toNat : Nat) : Int) - 1 = (m : Int) - 1 by omega, chainD_rg m (by omega), Sa.rg_succ]
    congr 2
    omega
theorem chain_rg (k : Nat) : chainL (Sa.rg 0 k) = Sa.rg 0 k := by
  unfold chainL
  rw [Sa.rg_len]
  exact chainD_rg k (Nat.le_refl _)
theorem run_wrs (care : List Int) (l : List Int) : (run care l).wrs.length = (run care l).nums.length := snoc_ind (P := fun l => (run care l).wrs.length = (run care l).nums.length) rfl (fun l x h => by
  rw [run_snoc]
  cases hh : (run care l).held x with
  | none =>
    rw [(call_none hh).1]
    exact h
  | some ng =>
    obtain ⟨n, g⟩ := ng
    by_cases h1 : x ∈ (run care l).care ∧ n ≠ (run care l).now
    · rw [(call_vain hh h1).1]
      exact h
    · rw [(call_write hh h1).1]
      show ((run care l).wrs ++ [x]).length = ((run care l).nums ++ [n + 1]).length
      rw [List.length_append, List.length_append, h]
      rfl) l
theorem run_calls (care : List Int) (l : List Int) : (run care l).calls = l := snoc_ind (P := fun l => (run care l).calls = l) rfl (fun l x h => by
  rw [run_snoc]
  cases hh : (run care l).held x with
  | none =>
    rw [(call_none hh).1]
    show (run care l).calls ++ [x] = l ++ [x]
    rw [h]
  | some ng =>
    obtain ⟨n, g⟩ := ng
    by_cases h1 : x ∈ (run care l).care ∧ n ≠ (run care l).now
    · rw [(call_vain hh h1).1]
      show (run care l).calls ++ [x] = l ++ [x]
      rw [h]
    · rw [(call_write hh h1).1]
      show (run care l).calls ++ [x] = l ++ [x]
      rw [h]) l
theorem fol_chain {cs : List Int} (hg : GoodG cs) : ∀ (N : Nat) (i : Int) (F : List Int), i < N → i < cs.length → -1 ≤ i → fol cs N i F = (chainD cs i).reverse ++ F
  | 0, i, F, h, _, h2 => by
    have e : i = -1 := by omega
    subst e
    rw [chainD_neg cs (by decide)]
    rfl
  | N + 1, i, F, h, hl, h2 => by
    show (if (0 : Int) ≤ i then fol cs N (cs.getD i.toNat 0 - 1) (i :: F) else fol cs N i F) = _
    by_cases h0 : 0 ≤ i
    · rw [if_pos h0, chainD_pos hg h0 hl]
      have hb := hg i.toNat (by omega)
      rw [fol_chain hg N _ _ (by omega) (by omega) (by omega), List.reverse_cons, List.append_assoc]
      rfl
    · rw [if_neg h0]
      by_cases hN : i < N
      · exact fol_chain hg N i F hN hl h2
      · exact absurd hN (by omega)
theorem folL_chain {cs : List Int} (hg : GoodG cs) : folL cs = chainL cs := by
  unfold folL chainL
  rw [fol_chain hg _ _ _ (by omega) (by omega) (by omega), List.append_nil]
theorem run_wr_mem (care : List Int) : ∀ l : List Int, ∀ x ∈ (run care l).wrs, x ∈ l :=
  snoc_ind (P := fun l => ∀ x ∈ (run care l).wrs, x ∈ l) (fun x h => h) (fun l c ih => by
    intro x hx
    rw [run_snoc] at hx
    cases hh : (run care l).held c with
    | none =>
      rw [(call_none hh).1] at hx
      exact List.mem_append_left _ (ih x hx)
    | some ng =>
      obtain ⟨n, q⟩ := ng
      by_cases h1 : c ∈ (run care l).care ∧ n ≠ (run care l).now
      · rw [(call_vain hh h1).1] at hx
        exact List.mem_append_left _ (ih x hx)
      · rw [(call_write hh h1).1] at hx
        rcases List.mem_append.mp hx with h | h
        · exact List.mem_append_left _ (ih x h)
        · exact List.mem_append_right _ h)
/-! ### lists in their order -/
theorem lx_irr : ∀ a : List Int, ¬ a < a
  | [] => List.not_lt_nil _
  | x :: a => fun h => by
    rcases List.cons_lt_cons_iff.mp h with h | ⟨_, h⟩
    · omega
    · exact lx_irr a h
theorem lx_tr : ∀ {a b c : List Int}, a < b → b < c → a < c
  | _, [], _, h, _ => absurd h (List.not_lt_nil _)
  | _, _ :: _, [], _, h => absurd h (List.not_lt_nil _)
  | [], _ :: _, z :: c, _, _ => List.nil_lt_cons z c
  | x :: a, y :: b, z :: c, h, g => by
    rcases List.cons_lt_cons_iff.mp h with h1 | ⟨e1, h1⟩
    · rcases List.cons_lt_cons_iff.mp g with g1 | ⟨e2, g1⟩
      · exact List.cons_lt_cons_iff.mpr (.inl (by omega))
      · exact List.cons_lt_cons_iff.mpr (.inl (by omega))
    · rcases List.cons_lt_cons_iff.mp g with g1 | ⟨e2, g1⟩
      · exact List.cons_lt_cons_iff.mpr (.inl (by omega))
      · exact List.cons_lt_cons_iff.mpr (.inr ⟨by omega, lx_tr h1 g1⟩)
theorem lx_tri : ∀ a b : List Int, a < b ∨ a = b ∨ b < a
  | [], [] => .inr (.inl rfl)
  | [], y :: b => .inl (List.nil_lt_cons y b)
  | x :: a, [] => .inr (.inr (List.nil_lt_cons x a))
  | x :: a, y :: b => by
    by_cases h1 : x < y
    · exact .inl (List.cons_lt_cons_iff.mpr (.inl h1))
    · by_cases h2 : x = y
      · subst h2
        rcases lx_tri a b with h | rfl | h
        · exact .inl (List.cons_lt_cons_iff.mpr (.inr ⟨rfl, h⟩))
        · exact .inr (.inl rfl)
        · exact .inr (.inr (List.cons_lt_cons_iff.mpr (.inr ⟨rfl, h⟩)))
      · exact .inr (.inr (List.cons_lt_cons_iff.mpr (.inl (by omega))))
theorem lx_asy {a b : List Int} (h : a < b) : ¬ b < a := fun g => lx_irr a (lx_tr h g)
/-! ### chains, whole: their order is that of their places -/
structure Cn (ns C : List Int) : Prop where
  len : C.length = if ns.length = 0 then 0 else (ns.getD (ns.length - 1) 0).toNat
  at_ : ∀ t : Nat, t < C.length → 0 ≤ C.getD t 0 ∧ C.getD t 0 < ns.length ∧ ns.getD (C.getD t 0).toNat 0 = t + 1
  asc : ∀ t : Nat, t + 1 < C.length → C.getD t 0 < C.getD (t + 1) 0
  lst : 0 < ns.length → 0 < C.length ∧ C.getD (C.length - 1) 0 = ((ns.length - 1 : Nat) : Int)
theorem ChOk.cn {ns C : List Int} {pl : Int} (h : ChOk ns pl C) : Cn ns C := ⟨h.len, h.at_, h.asc, h.lst⟩
theorem Cn.ok {ns C : List Int} (h : Cn ns C) : ChOk ns (rkN ns C C.length) C := ⟨h.len, h.at_, h.asc, rfl, h.lst⟩
theorem sN_up {f : Nat → Int} (hf : ∀ i, 0 ≤ f i) {a : Nat} : ∀ {b : Nat}, a ≤ b → sN a f ≤ sN b f
  | 0, h => by rw [Nat.le_zero.mp h]; exact Int.le_refl _
  | b + 1, h => by
    by_cases e : a = b + 1
    · rw [e]; exact Int.le_refl _
    · have := sN_up hf (a := a) (b := b) (by omega)
      have := hf b
      show sN a f ≤ sN b f + f b
      omega
theorem onN_n0 {ns : List Int} (i : Nat) : 0 ≤ onN ns i := by
  by_cases h : i < ns.length
  · exact onN_nn ns.length i h (by omega)
  · unfold onN
    rw [List.getD_eq_getElem?_getD, List.getElem?_eq_none (by rw [coL_len]; omega)]
    exact Int.le_refl _
theorem sg_f (ns : List Int) (a : Nat) (v : Int) (j : Nat) : 0 ≤ (if a ≤ j then (if ns.getD j 0 = v then onN ns j else 0) else 0) := by
  split
  · split
    · exact onN_n0 j
    · exact Int.le_refl _
  · exact Int.le_refl _
theorem sgN_n0 (ns : List Int) (a b : Nat) (v : Int) : 0 ≤ sgN ns a b v := sN_nn fun i _ => sg_f ns a v i
theorem sgN_step {ns : List Int} {a b c : Nat} {v : Int} (h1 : a ≤ b) (h2 : b < c) (hv : ns.getD b 0 = v) : sgN ns a b v + onN ns b ≤ sgN ns a c v := by
  have e := sgN_succ (ns := ns) (v := v) h1
  rw [if_pos hv] at e
  rw [← e]
  exact sN_up (sg_f ns a v) (by omega)
theorem on_sg {ns : List Int} {i : Nat} (h : i < ns.length) (hi : i ≠ ns.length - 1) : onN ns i = sgN ns (i + 1) ns.length (ns.getD i 0 + 1) := by
  rw [onN_eq h, if_neg hi]
  rfl
theorem on_last {ns : List Int} (h : 0 < ns.length) : onN ns (ns.length - 1) = 1 := by rw [onN_eq (by omega), if_pos rfl]
theorem cn_inj {ns C : List Int} (h : Cn ns C) {s t : Nat} (hst : s < t) : ∀ (_ : t < C.length), C.getD s 0 < C.getD t 0 := by
  induction t with
  | zero => omega
  | succ t ih =>
    intro ht
    have h1 := h.asc t ht
    by_cases e : s = t
    · rw [e]; exact h1
    · have := ih (by omega) (by omega)
      omega
/-- what is left of the place is less than what leads on -/
theorem cn_tail {ns C : List Int} (h : Cn ns C) : ∀ (d t : Nat), t < C.length → C.length - 1 - t ≤ d → rkN ns C C.length - rkN ns C (t + 1) < onN ns (C.getD t 0).toNat ∧ 0 < onN ns (C.getD t 0).toNat
  | d, t, ht, hd => by
    have hn : 0 < ns.length := by
      have := (h.at_ t ht).2.1
      have := (h.at_ t ht).1
      omega
    by_cases e : t = C.length - 1
    · have hl := (h.lst hn).2
      rw [e, hl, Int.toNat_natCast, on_last hn, show C.length - 1 + 1 = C.length by omega]
      omega
    · match d with
      | 0 => omega
      | d + 1 =>
        obtain ⟨i1, i2⟩ := cn_tail h d (t + 1) (by omega) (by omega)
        obtain ⟨a1, a2, a3⟩ := h.at_ t ht
        obtain ⟨b1, b2, b3⟩ := h.at_ (t + 1) (by omega)
        have ab := h.asc t (by omega)
        have e1 : rkN ns C (t + 1 + 1) = rkN ns C (t + 1) + sgN ns (bfN C (t + 1)) (C.getD (t + 1) 0).toNat (((t + 1 : Nat) : Int) + 1) := rfl
        have e2 : bfN C (t + 1) = (C.getD t 0).toNat + 1 := by
          unfold bfN
          rw [if_neg (by omega), Nat.add_sub_cancel]
          omega
        have e3 := on_sg (ns := ns) (i := (C.getD t 0).toNat) (by omega) (by omega)
        rw [a3] at e3
        have e4 := sgN_step (ns := ns) (a := (C.getD t 0).toNat + 1) (b := (C.getD (t + 1) 0).toNat) (c := ns.length) (v := (t : Int) + 1 + 1) (by omega) (by omega) (by rw [b3]; omega)
        rw [e2, show (((t + 1 : Nat) : Int) + 1) = (t : Int) + 1 + 1 by omega] at e1
        have e5 := sgN_n0 ns ((C.getD t 0).toNat + 1) (C.getD (t + 1) 0).toNat ((t : Int) + 1 + 1)
        omega
theorem cn_on {ns C : List Int} (h : Cn ns C) {t : Nat} (ht : t < C.length) : 0 < onN ns (C.getD t 0).toNat := (cn_tail h C.length t ht (by omega)).2
theorem rk_up {ns C : List Int} {s : Nat} : ∀ {t : Nat}, s ≤ t → rkN ns C s ≤ rkN ns C t
  | 0, h => by rw [Nat.le_zero.mp h]; exact Int.le_refl _
  | t + 1, h => by
    by_cases e : s = t + 1
    · rw [e]; exact Int.le_refl _
    · have h1 := rk_up (ns := ns) (C := C) (s := s) (t := t) (by omega)
      have h2 := sgN_n0 ns (bfN C t) (C.getD t 0).toNat ((t : Int) + 1)
      show rkN ns C s ≤ rkN ns C t + sgN ns (bfN C t) (C.getD t 0).toNat ((t : Int) + 1)
      omega
theorem rk_pre {ns C D : List Int} : ∀ {t : Nat}, (∀ s, s < t → C.getD s 0 = D.getD s 0) → rkN ns C t = rkN ns D t
  | 0, _ => rfl
  | t + 1, h => by
    have e : bfN C t = bfN D t := by
      unfold bfN
      by_cases h0 : t = 0
      · rw [if_pos h0, if_pos h0]
      · rw [if_neg h0, if_neg h0, h (t - 1) (by omega)]
    show rkN ns C t + sgN ns (bfN C t) (C.getD t 0).toNat ((t : Int) + 1) = rkN ns D t + sgN ns (bfN D t) (D.getD t 0).toNat ((t : Int) + 1)
    rw [rk_pre fun s hs => h s (by omega), e, h t (by omega)]
theorem lx_diff : ∀ {C D : List Int}, C < D → C.length = D.length → ∃ t, t < C.length ∧ (∀ s, s < t → C.getD s 0 = D.getD s 0) ∧ C.getD t 0 < D.getD t 0
  | [], [], h, _ => absurd h (List.not_lt_nil _)
  | [], _ :: _, _, h => nomatch h
  | _ :: _, [], _, h => nomatch h
  | x :: C, y :: D, h, hl => by
    rcases List.cons_lt_cons_iff.mp h with g | ⟨rfl, g⟩
    · exact ⟨0, Nat.succ_pos _, fun s hs => absurd hs (Nat.not_lt_zero _), g⟩
    · obtain ⟨t, h1, h2, h3⟩ := lx_diff g (Nat.succ.inj hl : C.length = D.length)
      exact ⟨t + 1, Nat.succ_lt_succ h1, fun s hs => by
        cases s with
        | zero => rfl
        | succ s => exact h2 s (by omega), h3⟩
theorem rk_lt {ns C D : List Int} (hC : Cn ns C) (hD : Cn ns D) (h : C < D) : rkN ns C C.length < rkN ns D D.length := by
  have hl : C.length = D.length := hC.len.trans hD.len.symm
  obtain ⟨t, h1, h2, h3⟩ := lx_diff h hl
  obtain ⟨a1, a2, a3⟩ := hC.at_ t h1
  obtain ⟨b1, b2, b3⟩ := hD.at_ t (by omega)
  have e0 := (cn_tail hC C.length t h1 (by omega)).1
  have e1 := rk_up (ns := ns) (C := D) (s := t + 1) (t := D.length) (by omega)
  have e2 := rk_pre (ns := ns) h2
  have e3 : bfN C t = bfN D t := by
    unfold bfN
    by_cases h0 : t = 0
    · rw [if_pos h0, if_pos h0]
    · rw [if_neg h0, if_neg h0, h2 (t - 1) (by omega)]
  have e4 : bfN C t ≤ (C.getD t 0).toNat := by
    unfold bfN
    by_cases h0 : t = 0
    · rw [if_pos h0]; exact Nat.zero_le _
    · rw [if_neg h0]
      have := hC.asc (t - 1) (by omega)
      rw [show t - 1 + 1 = t by omega] at this
      omega
  have e5 := sgN_step (ns := ns) (a := bfN C t) (b := (C.getD t 0).toNat) (c := (D.getD t 0).toNat) (v := (t : Int) + 1) e4 (by omega) a3
  have e6 : rkN ns C (t + 1) = rkN ns C t + sgN ns (bfN C t) (C.getD t 0).toNat ((t : Int) + 1) := rfl
  have e7 : rkN ns D (t + 1) = rkN ns D t + sgN ns (bfN D t) (D.getD t 0).toNat ((t : Int) + 1) := rfl
  rw [← e3] at e7
  omega
theorem rk_inj {ns C D : List Int} (hC : Cn ns C) (hD : Cn ns D) (h : rkN ns C C.length = rkN ns D D.length) : C = D := by
  rcases lx_tri C D with g | g | g
  · have := rk_lt hC hD g; omega
  · exact g
  · have := rk_lt hD hC g; omega
theorem rk_less {ns C D : List Int} (hC : Cn ns C) (hD : Cn ns D) : C < D ↔ rkN ns C C.length < rkN ns D D.length := by
  refine ⟨rk_lt hC hD, fun h => ?_⟩
  rcases lx_tri C D with g | g | g
  · exact g
  · rw [g] at h; omega
  · have := rk_lt hD hC g; omega
theorem chN_wt {ns : List Int} (hP : Po ns) (hl : 0 < ns.length) : chN ns = sgN ns 0 ns.length 1 := by
  have hn := (po_elder hP (i := ns.length - 1) (by omega)).1
  have e := lv_all hl (ns.getD (ns.length - 1) 0 - 1).toNat 1 (Int.le_refl _) hn (by omega)
  rw [← e]
  refine sN_ext fun j hj => ?_
  rw [if_pos (Nat.zero_le _)]
  by_cases ev : ns.getD j 0 = 1
  · rw [if_pos ev, if_pos ev, upN_eq hj, if_pos ev, Int.one_mul]
  · rw [if_neg ev, if_neg ev]
theorem rk_rg {ns C : List Int} (hP : Po ns) (h : Cn ns C) : 0 ≤ rkN ns C C.length ∧ rkN ns C C.length < chN ns := by
  refine ⟨rk_up (s := 0) (Nat.zero_le _), ?_⟩
  by_cases h0 : ns.length = 0
  · have h1 := h.len
    rw [if_pos h0] at h1
    rw [h1]
    unfold chN
    rw [if_pos h0]
    exact (by decide : (0 : Int) < 1)
  · have hl : 0 < C.length := (h.lst (by omega)).1
    have e0 := (cn_tail h C.length 0 hl (by omega)).1
    obtain ⟨a1, a2, a3⟩ := h.at_ 0 hl
    have e5 := sgN_step (ns := ns) (a := 0) (b := (C.getD 0 0).toNat) (c := ns.length) (v := 1) (Nat.zero_le _) (by omega) (by rw [a3]; rfl)
    have e6 : rkN ns C (0 + 1) = 0 + sgN ns 0 (C.getD 0 0).toNat 1 := rfl
    rw [chN_wt hP (by omega)]
    omega
theorem cn_ch {ns C : List Int} (hP : Po ns) (h : Cn ns C) : chL ns (rkN ns C C.length) = C := by
  obtain ⟨h0, h1⟩ := rk_rg hP h
  have k := chL_ok hP h0 h1
  exact rk_inj k.cn h k.rnk
theorem ch_less {ns D : List Int} (hP : Po ns) (hD : Cn ns D) {m : Int} (h0 : 0 ≤ m) (h1 : m < chN ns) : chL ns m < D ↔ m < rkN ns D D.length := by
  have k := chL_ok hP h0 h1
  rw [rk_less k.cn hD, k.rnk]
/-- what counted may have counted, and holds what surely did -/
theorem cn_mk {ns C : List Int} (h : Cn ns C) : ∀ x ∈ C, x ∈ mkL ns := fun x hx => by
  obtain ⟨t, ht, e⟩ := List.mem_iff_getElem.mp hx
  have e2 : C.getD t 0 = x := by rw [List.getD_eq_getElem?_getD, List.getElem?_eq_getElem ht]; exact e
  have h1 := h.at_ t ht
  have h2 := cn_on h ht
  rw [e2] at h1 h2
  exact mkL_mem.mpr ⟨⟨h1.1, h1.2.1⟩, h2⟩
theorem getD_memC {C : List Int} {t : Nat} (h : t < C.length) : C.getD t 0 ∈ C := by
  rw [List.getD_eq_getElem?_getD, List.getElem?_eq_getElem h]
  exact List.getElem_mem h
theorem cn_su {ns C : List Int} (hP : Po ns) (h : Cn ns C) : ∀ x ∈ suL ns, x ∈ C := fun x hx => by
  unfold suL at hx
  obtain ⟨m1, m2⟩ := List.mem_filter.mp hx
  have m3 := Sa.mem_rg.mp m1
  obtain ⟨s1, s2⟩ := (sure_iff hP (i := x.toNat) (by omega)).mp (of_decide_eq_true m2)
  have hl := h.lst (by omega)
  have hln := h.len
  rw [if_neg (by omega)] at hln
  by_cases e : x.toNat = ns.length - 1
  · have : x = C.getD (C.length - 1) 0 := by rw [hl.2]; omega
    rw [this]
    exact getD_memC (by omega)
  · have hv := (po_elder hP (i := x.toNat) (by omega)).1
    have hlt : ns.getD x.toNat 0 < ns.getD (ns.length - 1) 0 := by
      refine Decidable.byContradiction fun hc => ?_
      have := onN_high ns.length x.toNat (by omega) (by omega) e (by omega)
      omega
    have ht : (ns.getD x.toNat 0 - 1).toNat < C.length := by omega
    obtain ⟨b1, b2, b3⟩ := h.at_ _ ht
    have hon := cn_on h ht
    refine Decidable.byContradiction fun hc => ?_
    have := s2 (C.getD (ns.getD x.toNat 0 - 1).toNat 0).toNat (by omega) (fun z => hc (by
      have z2 : x = C.getD (ns.getD x.toNat 0 - 1).toNat 0 := by omega
      rw [z2]
      exact getD_memC ht)) (by omega)
    omega
/-! ### few chains -/
def fb : Nat → Int
  | 0 => 0
  | 1 => 1
  | n + 2 => fb n + fb (n + 1)
theorem fb_n0 : ∀ n : Nat, 0 ≤ fb n ∧ 0 ≤ fb (n + 1)
  | 0 => ⟨by decide, by decide⟩
  | n + 1 => by
    obtain ⟨a, b⟩ := fb_n0 n
    exact ⟨b, by show 0 ≤ fb n + fb (n + 1); omega⟩
theorem lt_fb {ns : List Int} : ∀ k : Nat, k < ns.length → ∀ v, ltN ns (k + 1) v ≤ fb (k + 1) ∧ ltN ns (k + 1) v + ltN ns (k + 1) (v + 1) ≤ fb (k + 2)
  | 0, h => fun v => by
    rw [ltN_succ h, ltN_succ h, ltN_zero, ltN_zero, goF_on h, if_pos rfl]
    have e1 : fb (0 + 1) = 1 := rfl
    have e2 : fb (0 + 2) = 1 := rfl
    rw [e1, e2]
    split <;> split <;> omega
  | k + 1, h => fun v => by
    have ih := lt_fb (ns := ns) k (by omega)
    have i0 := ih v
    have i1 := ih (v + 1)
    have f1 := fb_n0 (k + 1)
    have f0 := (fb_n0 k).1
    have e2 : fb (k + 1 + 1) = fb k + fb (k + 1) := rfl
    have e3 : fb (k + 1 + 2) = fb (k + 1) + fb (k + 2) := rfl
    have e4 : fb (k + 1 + 1) = fb (k + 2) := rfl
    rw [ltN_succ h, ltN_succ h, goF_on h, if_neg (Nat.succ_ne_zero k)]
    by_cases c0 : ns.getD (ns.length - 1 - (k + 1)) 0 = v
    · rw [if_pos c0, if_neg (by omega), c0]
      omega
    · rw [if_neg c0]
      by_cases c1 : ns.getD (ns.length - 1 - (k + 1)) 0 = v + 1
      · rw [if_pos c1, c1]
        omega
      · rw [if_neg c1]
        omega
theorem ch_few {ns : List Int} (hP : Po ns) (hl : ns.length ≤ 24) : chN ns ≤ 46368 := by
  by_cases h0 : ns.length = 0
  · unfold chN
    rw [if_pos h0]
    decide
  · have e : chN ns = ltN ns ns.length 1 := by
      rw [chN_wt hP (by omega)]
      unfold sgN ltN
      refine sN_ext fun j hj => ?_
      rw [if_pos (Nat.zero_le _), if_pos (show ns.length - ns.length ≤ j by omega)]
    have h1 := (lt_fb (ns := ns) (ns.length - 1) (by omega) 1).1
    rw [show ns.length - 1 + 1 = ns.length by omega] at h1
    have up : ∀ m d : Nat, fb (m + 1) ≤ fb (m + 1 + d) := fun m d => by
      induction d with
      | zero => exact Int.le_refl _
      | succ d ih =>
        have := (fb_n0 (m + d)).1
        have e : fb (m + 1 + (d + 1)) = fb (m + d) + fb (m + 1 + d) := by
          rw [show m + 1 + (d + 1) = (m + d) + 2 by omega, show m + 1 + d = m + d + 1 by omega]
          rfl
        omega
    have h2 := up (ns.length - 1) (24 - ns.length)
    rw [show ns.length - 1 + 1 = ns.length by omega, show ns.length + (24 - ns.length) = 24 by omega] at h2
    have h3 : fb 24 = 46368 := by decide
    omega
/-! ### what counted by a course is a chain -/
theorem chainD_cn {ns cs : List Int} (hP : Po ns) (hC : Cp ns cs ns.length) : ∀ (d i : Nat), i ≤ d → i < ns.length → (chainD cs (i : Int)).reverse.length = (ns.getD i 0).toNat ∧ (∀ t : Nat, t < (chainD cs (i : Int)).reverse.length → 0 ≤ (chainD cs (i : Int)).reverse.getD t 0 ∧ (chainD cs (i : Int)).reverse.getD t 0 ≤ i ∧ ns.getD ((chainD cs (i : Int)).reverse.getD t 0).toNat 0 = t + 1) ∧ (∀ t : Nat, t + 1 < (chainD cs (i : Int)).reverse.length → (chainD cs (i : Int)).reverse.getD t 0 < (chainD cs (i : Int)).reverse.getD (t + 1) 0) ∧ (chainD cs (i : Int)).reverse.getD ((chainD cs (i : Int)).reverse.length - 1) 0 = i := fun d => by
  have hg : GoodG cs := fun i h => by
    have := hC.2 i (by rw [hC.1] at h; exact h)
    exact ⟨this.1, this.2.1⟩
  have hCl := hC.1
  induction d with
  | zero =>
    intro i hi hl
    obtain rfl : i = 0 := by omega
    obtain ⟨c1, c2, c3⟩ := hC.2 0 hl
    have hz : cs.getD 0 0 = 0 := by omega
    rw [hz] at c3
    have hv : ns.getD 0 0 = 1 := by
      have : sh ns 0 = 0 := rfl
      omega
    have e : (chainD cs ((0 : Nat) : Int)).reverse = [(0 : Int)] := by
      rw [chainD_pos hg (by omega) (by omega), show ((0 : Nat) : Int).toNat = 0 from rfl, hz, chainD_neg cs (by omega)]
      rfl
    rw [e, hv]
    refine ⟨rfl, fun t ht => ?_, fun t ht => absurd ht (by rw [List.length_singleton]; omega), rfl⟩
    have : t = 0 := by rw [List.length_singleton] at ht; omega
    subst this
    exact ⟨Int.le_refl _, Int.le_refl _, hv⟩
  | succ d ih =>
    intro i hi hl
    obtain ⟨c1, c2, c3⟩ := hC.2 i hl
    have hr : (chainD cs (i : Int)).reverse = (chainD cs (cs.getD i 0 - 1)).reverse ++ [(i : Int)] := by
      rw [chainD_pos hg (by omega) (by omega), List.reverse_cons, Int.toNat_natCast]
    by_cases hz : cs.getD i 0 = 0
    · rw [hz] at c3
      have hv : ns.getD i 0 = 1 := by
        have : sh ns 0 = 0 := rfl
        omega
      rw [hr, hz, chainD_neg cs (by omega), hv]
      refine ⟨rfl, fun t ht => ?_, fun t ht => absurd ht (by show ¬ t + 1 < 1; omega), rfl⟩
      have : t = 0 := by
        have ht : t < 1 := ht
        omega
      subst this
      show (0 : Int) ≤ (i : Int) ∧ (i : Int) ≤ i ∧ ns.getD ((i : Int)).toNat 0 = ((0 : Nat) : Int) + 1
      rw [Int.toNat_natCast]
      exact ⟨by omega, Int.le_refl _, by rw [hv]; rfl⟩
    · obtain ⟨j1, j2, j3, j4⟩ := ih (cs.getD i 0 - 1).toNat (by omega) (by omega)
      rw [show (((cs.getD i 0 - 1).toNat : Nat) : Int) = cs.getD i 0 - 1 by omega] at j1 j2 j3 j4
      unfold sh at c3
      rw [if_neg (by omega)] at c3
      have hpos := (po_elder hP (i := (cs.getD i 0 - 1).toNat) (by omega)).1
      generalize (chainD cs (cs.getD i 0 - 1)).reverse = R at hr j1 j2 j3 j4
      rw [hr]
      have hlen : (R ++ [(i : Int)]).length = R.length + 1 := by rw [List.length_append]; rfl
      have gl : ∀ t, t < R.length → (R ++ [(i : Int)]).getD t 0 = R.getD t 0 := fun t ht => getD_pre ht
      have ge : (R ++ [(i : Int)]).getD R.length 0 = i := getD_lst
      refine ⟨by omega, fun t ht => ?_, fun t ht => ?_, by rw [hlen, Nat.add_sub_cancel]; exact ge⟩
      · by_cases h : t < R.length
        · rw [gl t h]
          obtain ⟨k1, k2, k3⟩ := j2 t h
          exact ⟨k1, by omega, k3⟩
        · obtain rfl : t = R.length := by omega
          rw [ge, Int.toNat_natCast]
          exact ⟨by omega, Int.le_refl _, by omega⟩
      · by_cases h : t + 1 < R.length
        · rw [gl t (by omega), gl (t + 1) h]
          exact j3 t h
        · have e : t + 1 = R.length := by omega
          rw [e, ge, gl t (by omega)]
          have := (j2 t (by omega)).2.1
          omega
theorem fol_cn {ns cs : List Int} (hP : Po ns) (hC : Cp ns cs ns.length) : Cn ns (folL cs) := by
  have hCl := hC.1
  rw [folL_chain (fun i h => by
    have := hC.2 i (by rw [hC.1] at h; exact h)
    exact ⟨this.1, this.2.1⟩)]
  unfold chainL
  rw [hCl]
  by_cases h0 : ns.length = 0
  · rw [chainD_neg cs (by omega)]
    exact ⟨by rw [if_pos h0]; rfl, fun t ht => absurd ht (Nat.not_lt_zero _), fun t ht => absurd ht (Nat.not_lt_zero _), fun h => absurd h (by omega)⟩
  · obtain ⟨j1, j2, j3, j4⟩ := chainD_cn hP hC (ns.length - 1) (ns.length - 1) (Nat.le_refl _) (by omega)
    rw [show ((ns.length - 1 : Nat) : Int) = (ns.length : Int) - 1 by omega] at j1 j2 j3 j4
    have hv := (po_elder hP (i := ns.length - 1) (by omega)).1
    exact ⟨by rw [if_neg h0]; exact j1, fun t ht => by
      obtain ⟨k1, k2, k3⟩ := j2 t ht
      exact ⟨k1, by omega, k3⟩, j3, fun _ => ⟨by omega, by rw [j4]; omega⟩⟩
theorem cn_len {ns C : List Int} (h : Cn ns C) : C.length ≤ ns.length := by
  have key : ∀ t : Nat, t < C.length → (t : Int) ≤ C.getD t 0 := fun t => by
    induction t with
    | zero => exact fun ht => (h.at_ 0 ht).1
    | succ t ih =>
      intro ht
      have := ih (by omega)
      have := h.asc t ht
      omega
  by_cases h0 : C.length = 0
  · omega
  · have h1 := key (C.length - 1) (by omega)
    have h2 := (h.at_ (C.length - 1) (by omega)).2.1
    omega
/-! ### all lists of writes that see each other, and the whole chains among them -/
structure Ln (ns : List Int) (i : Nat) (C : List Int) : Prop where
  at_ : ∀ t : Nat, t < C.length → 0 ≤ C.getD t 0 ∧ C.getD t 0 < i ∧ ns.getD (C.getD t 0).toNat 0 = t + 1
  asc : ∀ t : Nat, t + 1 < C.length → C.getD t 0 < C.getD (t + 1) 0
def lnL (ns : List Int) : Nat → List (List Int)
  | 0 => [[]]
  | i + 1 => lnL ns i ++ ((lnL ns i).filter fun C => decide ((C.length : Int) = ns.getD i 0 - 1)).map (· ++ [(i : Int)])
theorem lnL_len (ns : List Int) : ∀ i : Nat, (lnL ns i).length ≤ 2 ^ i
  | 0 => Nat.le_refl _
  | i + 1 => by
    show (lnL ns i ++ _).length ≤ _
    have h1 := lnL_len ns i
    have h2 := List.length_filter_le (fun C : List Int => decide ((C.length : Int) = ns.getD i 0 - 1)) (lnL ns i)
    rw [List.length_append, List.length_map, Nat.pow_succ]
    omega
theorem gD_pre {C : List Int} {x : Int} {t : Nat} (h : t < C.length) : (C ++ [x]).getD t 0 = C.getD t 0 := by
  rw [List.getD_eq_getElem?_getD, List.getElem?_append_left h, List.getD_eq_getElem?_getD]
theorem gD_end {C : List Int} {x : Int} : (C ++ [x]).getD C.length 0 = x := by
  rw [List.getD_eq_getElem?_getD, List.getElem?_append_right (Nat.le_refl _), Nat.sub_self]
  rfl
theorem ln_snoc {ns C : List Int} {i : Nat} (h : Ln ns i C) (e : (C.length : Int) = ns.getD i 0 - 1) : Ln ns (i + 1) (C ++ [(i : Int)]) := by
  refine ⟨fun t ht => ?_, fun t ht => ?_⟩
  · rw [List.length_append, List.length_singleton] at ht
    by_cases h2 : t < C.length
    · rw [gD_pre h2]
      have := h.at_ t h2
      omega
    · obtain rfl : t = C.length := by omega
      rw [gD_end, Int.toNat_natCast]
      omega
  · rw [List.length_append, List.length_singleton] at ht
    by_cases h2 : t + 1 < C.length
    · rw [gD_pre h2, gD_pre (by omega)]
      exact h.asc t h2
    · have e2 : t + 1 = C.length := by omega
      rw [gD_pre (by omega), e2, gD_end]
      exact (h.at_ t (by omega)).2.1
theorem ln_up {ns C : List Int} {i : Nat} (h : Ln ns i C) : Ln ns (i + 1) C := ⟨fun t ht => by have := h.at_ t ht; omega, h.asc⟩
theorem ln_mono {ns C : List Int} {i : Nat} (h : Ln ns i C) {s t : Nat} (hst : s < t) : ∀ (_ : t < C.length), C.getD s 0 < C.getD t 0 := by
  induction t with
  | zero => omega
  | succ t ih =>
    intro ht
    have h1 := h.asc t ht
    by_cases e : s = t
    · rw [e]; exact h1
    · have := ih (by omega) (by omega)
      omega
theorem ln_inv {ns C : List Int} {i : Nat} (h : Ln ns (i + 1) C) : Ln ns i C ∨ ∃ D, Ln ns i D ∧ (D.length : Int) = ns.getD i 0 - 1 ∧ C = D ++ [(i : Int)] := by
  by_cases h0 : C.length = 0
  · exact .inl ⟨fun t ht => by omega, fun t ht => by omega⟩
  · have hl := h.at_ (C.length - 1) (by omega)
    by_cases e : C.getD (C.length - 1) 0 = i
    · right
      have eC : C = C.dropLast ++ [(i : Int)] := by
        have hne : C ≠ [] := fun z => h0 (by rw [z]; rfl)
        have g := (List.dropLast_concat_getLast hne).symm
        have e3 : C.getLast hne = (i : Int) := by
          rw [← e, List.getD_eq_getElem?_getD, List.getElem?_eq_getElem (by omega), List.getLast_eq_getElem]
          rfl
        rw [e3] at g
        exact g
      have hdl : C.dropLast.length = C.length - 1 := List.length_dropLast
      have gd : ∀ t, t < C.dropLast.length → C.getD t 0 = C.dropLast.getD t 0 := fun t ht => by
        have z := gD_pre (x := (i : Int)) ht
        rw [← eC] at z
        exact z
      refine ⟨C.dropLast, ⟨fun t ht => ?_, fun t ht => ?_⟩, ?_, eC⟩
      · have a := h.at_ t (by omega)
        have b := ln_mono h (s := t) (t := C.length - 1) (by omega) (by omega)
        rw [gd t ht] at a b
        omega
      · have a := h.asc t (by omega)
        rw [gd t (by omega), gd (t + 1) ht] at a
        exact a
      · rw [e, Int.toNat_natCast] at hl
        omega
    · left
      refine ⟨fun t ht => ?_, h.asc⟩
      have a := h.at_ t ht
      by_cases e2 : t = C.length - 1
      · rw [← e2] at hl e
        omega
      · have b := ln_mono h (s := t) (t := C.length - 1) (by omega) (by omega)
        omega
theorem lnL_mem {ns : List Int} : ∀ {i : Nat} {C : List Int}, C ∈ lnL ns i ↔ Ln ns i C
  | 0, C => by
    show C ∈ [[]] ↔ _
    rw [List.mem_singleton]
    constructor
    · intro h
      rw [h]
      exact ⟨fun t ht => absurd ht (Nat.not_lt_zero _), fun t ht => absurd ht (Nat.not_lt_zero _)⟩
    · intro h
      refine List.length_eq_zero_iff.mp (Nat.eq_zero_of_not_pos fun z => ?_)
      have := h.at_ 0 z
      omega
  | i + 1, C => by
    show C ∈ lnL ns i ++ _ ↔ _
    rw [List.mem_append, List.mem_map]
    constructor
    · rintro (h | ⟨D, hD, rfl⟩)
      · exact ln_up (lnL_mem.mp h)
      · obtain ⟨h1, h2⟩ := List.mem_filter.mp hD
        exact ln_snoc (lnL_mem.mp h1) (of_decide_eq_true h2)
    · intro h
      rcases ln_inv h with h1 | ⟨D, h1, h2, rfl⟩
      · exact .inl (lnL_mem.mpr h1)
      · exact .inr ⟨D, List.mem_filter.mpr ⟨lnL_mem.mpr h1, decide_eq_true h2⟩, rfl⟩
/-- the whole chains are those that end with the last write -/
theorem ln_cn {ns C : List Int} (hl : 0 < ns.length) : Cn ns C ↔ Ln ns ns.length C ∧ 0 < C.length ∧ C.getD (C.length - 1) 0 = ((ns.length - 1 : Nat) : Int) := by
  constructor
  · intro h
    exact ⟨⟨h.at_, h.asc⟩, h.lst hl⟩
  · rintro ⟨h1, h2, h3⟩
    refine ⟨?_, h1.at_, h1.asc, fun _ => ⟨h2, h3⟩⟩
    rw [if_neg (by omega)]
    have a := (h1.at_ (C.length - 1) (by omega)).2.2
    rw [h3, Int.toNat_natCast] at a
    omega
theorem cn_nil {C : List Int} : Cn [] C ↔ C = [] := by
  constructor
  · intro h
    exact List.length_eq_zero_iff.mp h.len
  · rintro rfl
    exact ⟨rfl, fun t ht => absurd ht (Nat.not_lt_zero _), fun t ht => absurd ht (Nat.not_lt_zero _), fun h => absurd h (Nat.lt_irrefl _)⟩
/-! ### a whole chain through each write that leads on -/
theorem ln_to {ns : List Int} (hP : Po ns) : ∀ (d i : Nat), i ≤ d → i < ns.length → ∃ D, Ln ns (i + 1) D ∧ 0 < D.length ∧ D.getD (D.length - 1) 0 = (i : Int)
  | d, i, hd, hi => by
    obtain ⟨p1, p2⟩ := po_elder hP hi
    by_cases h1 : ns.getD i 0 = 1
    · have h0 : Ln ns i [] := ⟨fun t ht => absurd ht (Nat.not_lt_zero _), fun t ht => absurd ht (Nat.not_lt_zero _)⟩
      have h2 := ln_snoc h0 (i := i) (by rw [h1]; rfl)
      exact ⟨_, h2, Nat.succ_pos _, rfl⟩
    · obtain ⟨j, hj, ej⟩ := p2 h1
      match d with
      | 0 => omega
      | d + 1 =>
        obtain ⟨D, a1, a2, a3⟩ := ln_to hP d j (by omega) (by omega)
        have b := (a1.at_ (D.length - 1) (by omega)).2.2
        rw [a3, Int.toNat_natCast] at b
        have a4 : Ln ns i D := ⟨fun t ht => by have := a1.at_ t ht; omega, a1.asc⟩
        have h2 := ln_snoc a4 (by omega)
        refine ⟨_, h2, by rw [List.length_append]; exact Nat.succ_pos _, ?_⟩
        rw [List.length_append, List.length_singleton, Nat.add_sub_cancel, gD_end]
theorem ln_on {ns : List Int} : ∀ (d i : Nat) (D : List Int), ns.length - i ≤ d → i < ns.length → 0 < onN ns i → Ln ns (i + 1) D → 0 < D.length → D.getD (D.length - 1) 0 = (i : Int) → ∃ C, Cn ns C ∧ ∀ x ∈ D, x ∈ C
  | d, i, D, hd, hi, ho, hD, h0, hl => by
    rcases (on_pos hi).mp ho with e | ⟨j, j1, j2, j3, j4⟩
    · refine ⟨D, (ln_cn (by omega)).mpr ⟨?_, h0, by rw [hl, e]⟩, fun x hx => hx⟩
      have e2 : i + 1 = ns.length := by omega
      rw [e2] at hD
      exact hD
    · match d with
      | 0 => omega
      | d + 1 =>
        have b := (hD.at_ (D.length - 1) (by omega)).2.2
        rw [hl, Int.toNat_natCast] at b
        have a4 : Ln ns j D := ⟨fun t ht => by have := hD.at_ t ht; omega, hD.asc⟩
        have h2 := ln_snoc a4 (by omega)
        obtain ⟨C, c1, c2⟩ := ln_on d j (D ++ [(j : Int)]) (by omega) j2 j4 h2 (by rw [List.length_append]; exact Nat.succ_pos _) (by rw [List.length_append, List.length_singleton, Nat.add_sub_cancel, gD_end])
        exact ⟨C, c1, fun x hx => c2 x (List.mem_append_left _ hx)⟩
theorem cn_thr {ns : List Int} (hP : Po ns) {i : Nat} (hi : i < ns.length) (ho : 0 < onN ns i) : ∃ C, Cn ns C ∧ (i : Int) ∈ C := by
  obtain ⟨D, d1, d2, d3⟩ := ln_to hP i i (Nat.le_refl _) hi
  obtain ⟨C, c1, c2⟩ := ln_on ns.length i D (by omega) hi ho d1 d2 d3
  refine ⟨C, c1, c2 _ ?_⟩
  rw [← d3]
  exact getD_memC (by omega)
theorem cn_pos {ns C : List Int} (h : Cn ns C) {x : Int} (hx : x ∈ C) : 0 ≤ x ∧ x < ns.length ∧ 1 ≤ ns.getD x.toNat 0 ∧ C.getD (ns.getD x.toNat 0 - 1).toNat 0 = x := by
  obtain ⟨t, ht, e⟩ := List.mem_iff_getElem.mp hx
  have e2 : C.getD t 0 = x := by rw [List.getD_eq_getElem?_getD, List.getElem?_eq_getElem ht]; exact e
  have h1 := h.at_ t ht
  rw [e2] at h1
  obtain ⟨a, b, c⟩ := h1
  refine ⟨a, b, by omega, ?_⟩
  rw [show (ns.getD x.toNat 0 - 1).toNat = t by omega, e2]
theorem mk_iff {ns : List Int} (hP : Po ns) {x : Int} : x ∈ mkL ns ↔ ∃ C, Cn ns C ∧ x ∈ C := by
  constructor
  · intro h
    obtain ⟨⟨h1, h2⟩, h3⟩ := mkL_mem.mp h
    obtain ⟨C, c1, c2⟩ := cn_thr hP (i := x.toNat) (by omega) h3
    exact ⟨C, c1, by rw [← show ((x.toNat : Nat) : Int) = x by omega]; exact c2⟩
  · rintro ⟨C, c1, c2⟩
    exact cn_mk c1 x c2
theorem su_iff {ns : List Int} (hP : Po ns) {x : Int} (hx : x ∈ mkL ns) : x ∈ suL ns ↔ ∀ C, Cn ns C → x ∈ C := by
  constructor
  · intro h C hC
    exact cn_su hP hC x h
  · intro h
    obtain ⟨⟨h1, h2⟩, h3⟩ := mkL_mem.mp hx
    unfold suL
    refine List.mem_filter.mpr ⟨Sa.mem_rg.mpr (by omega), decide_eq_true ((sure_iff hP (i := x.toNat) (by omega)).mpr ⟨h3, fun j hj hne he => ?_⟩)⟩
    refine Decidable.byContradiction fun hc => ?_
    have hn0 := onN_n0 (ns := ns) j
    obtain ⟨C, c1, c2⟩ := cn_thr hP (i := j) hj (by omega)
    have a := (cn_pos c1 c2).2.2.2
    have b := (cn_pos c1 (h C c1)).2.2.2
    rw [Int.toNat_natCast, he] at a
    omega
/-- what the law sifts -/
theorem mk_sift {ns : List Int} (hP : Po ns) {ls : List (List Int)} (hls : ∀ C, C ∈ ls ↔ Cn ns C) : (Sa.rg 0 ns.length).filter (fun x => !decide (ls.filter (fun C => decide (x ∈ C)) = [])) = mkL ns := by
  have e : mkL ns = (Sa.rg 0 ns.length).filter fun i => decide (0 < onN ns i.toNat) := rfl
  rw [e]
  refine List.filter_congr fun x hx => ?_
  have hx2 := Sa.mem_rg.mp hx
  rw [Bool.eq_iff_iff, Bool.not_eq_true', decide_eq_false_iff_not, decide_eq_true_iff]
  constructor
  · intro h
    obtain ⟨C, hC⟩ := List.exists_mem_of_ne_nil _ h
    obtain ⟨m1, m2⟩ := List.mem_filter.mp hC
    exact (mkL_mem.mp ((mk_iff hP).mpr ⟨C, (hls C).mp m1, of_decide_eq_true m2⟩)).2
  · intro h z
    obtain ⟨C, c1, c2⟩ := (mk_iff hP).mp (mkL_mem.mpr ⟨by omega, h⟩)
    have : C ∈ ls.filter (fun C => decide (x ∈ C)) := List.mem_filter.mpr ⟨(hls C).mpr c1, decide_eq_true c2⟩
    rw [z] at this
    exact absurd this List.not_mem_nil
theorem su_sift {ns : List Int} (hP : Po ns) {ls : List (List Int)} (hls : ∀ C, C ∈ ls ↔ Cn ns C) : (mkL ns).filter (fun x => decide (ls.filter (fun C => !decide (x ∈ C)) = [])) = suL ns := by
  have e0 : suL ns = (mkL ns).filter fun x => decide (x ∈ suL ns) := by
    have e : mkL ns = (Sa.rg 0 ns.length).filter fun i => decide (0 < onN ns i.toNat) := rfl
    rw [e, List.filter_filter]
    show (Sa.rg 0 ns.length).filter _ = _
    refine List.filter_congr fun x hx => ?_
    rw [Bool.eq_iff_iff, Bool.and_eq_true, decide_eq_true_iff, decide_eq_true_iff, decide_eq_true_iff]
    have hx2 := Sa.mem_rg.mp hx
    constructor
    · intro h
      exact ⟨List.mem_filter.mpr ⟨hx, decide_eq_true h⟩, ((sure_iff hP (i := x.toNat) (by omega)).mp h).1⟩
    · rintro ⟨h, _⟩
      exact of_decide_eq_true (List.mem_filter.mp h).2
  rw [e0]
  refine List.filter_congr fun x hx => ?_
  rw [Bool.eq_iff_iff, decide_eq_true_iff, decide_eq_true_iff, su_iff hP hx, List.filter_eq_nil_iff]
  constructor
  · intro h C hC
    have := h C ((hls C).mpr hC)
    rw [Bool.not_eq_true, Bool.not_eq_false'] at this
    exact of_decide_eq_true this
  · intro h C hC
    rw [Bool.not_eq_true, Bool.not_eq_false']
    exact decide_eq_true (h C ((hls C).mp hC))
/-! ### a method of a list, called within a comprehension -/
section
variable {X : Cx} {K : PySem.W.Frag}
theorem mt_lcountK (h : X.K = K) : MtR X "list.count" (rCntI K) := by subst h; exact mt_lcount
theorem pe_bmK {ty0 id name : String} {r : V → List V → Hp → VK → Prop} {o e : Expr} {es : List Expr} {to : TE} {t : TA} {apos cpos : Pos} (h : X.K = K) (pa : PlainAttrs ty0) (slot : Slot ty0 name id) (hty : typeOf (.builtin id) = pure (.type "method_descriptor")) (hm : MtR X id r) (ho : PE X o to) (ha : PA X (e :: es) t)
    (hbase : attributeBase o name X.env (eval o X.env) = eval o X.env := by rfl)
    (hfew : ((backTo cpos (starEach (e :: es) X.env)).all (fun x => !x.1) && (backToKw cpos (keywordEach [] X.env)).all (fun x => x.1.isSome)
      && decide ((e :: es).length + ([] : List Keyword).length + (if ([] : List Keyword).isEmpty then 0 else 1) < 30)) = true := by rfl)
    (hline : (apos.endLine == cpos.line) = true := by rfl) (hs : starEach (e :: es) X.env = (false, eval e X.env) :: starEach es X.env := by rfl) (hplain : (backTo cpos (starEach es X.env)).any (·.1) = false := by rfl) :
    PE X (.Call (.Attribute o name apos) (e :: es) [] cpos) (tBM K ty0 r to t) := by
  subst h
  exact pe_bm pa slot hty hm ho ha hbase hfew hline hs hplain
end
theorem pi_listK {X : Cx} {K : PySem.W.Frag} {tg l : Expr} {tl : TE} (h : X.K = K) (hl : PE X l tl) : PI X tg l (iList K tl) := by subst h; exact pi_list hl
theorem pi_enumK {X : Cx} {K : PySem.W.Frag} {tg l : Expr} {t : TI} (h : X.K = K) (q : PI X tg l t) : PI X tg l t := q
theorem pi_tupK {X : Cx} {K : PySem.W.Frag} {tg l : Expr} {tl : TE} (h : X.K = K) (hl : PE X l tl) : PI X tg l (iTup K tl) := by subst h; exact pi_tup hl
/-! ### the walk's small words -/
local macro_rules | `(tactic| walk_at "in1") => `(tactic| first
  | with_reducible exact Sa.In1.hd
  | assumption
  | ((with_reducible apply Sa.In1.tl); walk_at "in1"))
local macro_rules | `(tactic| walk_at "fp") => `(tactic| first | (show Sa.fpos _ _ = some 0; decide +kernel) | (show Sa.fpos _ _ = some 1; decide +kernel) | (show Sa.fpos _ _ = some 2; decide +kernel) | (show Sa.fpos _ _ = some 3; decide +kernel) | (show Sa.fpos _ _ = some 4; decide +kernel) | (show Sa.fpos _ _ = some 5; decide +kernel) | (show Sa.fpos _ _ = some 6; decide +kernel))
local macro_rules | `(tactic| walk_at "atg") => `(tactic| first
  | ((with_reducible show At _ _ (Sa.fI (Ba.b _) _ _ _)); exact at_board (by walk_at "grp"))
  | ((with_reducible show At _ _ (fQ _ (Sad.st _) _)); exact Sa.At.q (at_st (by walk_at "grp")))
  | ((with_reducible show At _ _ (fQ _ (Sad.nu _) _)); exact Sa.At.q (at_nu (by walk_at "grp")))
  | ((with_reducible show At _ _ (fQ _ (Sad.wr _) _)); exact Sa.At.q (at_wr (by walk_at "grp")))
  | ((with_reducible show At _ _ (fQ _ (Sad.ga _) _)); exact Sa.At.q (at_ga (by walk_at "grp")))
  | ((with_reducible show At _ _ (fL (Sad.nu _) _)); exact at_nu (by walk_at "grp"))
  | ((with_reducible show At _ _ (fL (Sad.wr _) _)); exact at_wr (by walk_at "grp"))
  | ((with_reducible show At _ _ (fL (Sad.ga _) _)); exact at_ga (by walk_at "grp"))
  | ((with_reducible show At _ _ (Sa.fK (Sad.he _) _)); exact at_he (by walk_at "grp")))
local macro_rules | `(tactic| walk_at "atM") => `(tactic| first
  | assumption
  | with_reducible exact Sa.At.q (by assumption)
  | with_reducible exact Sa.At.cellL List.mem_cons_self
  | with_reducible exact Sa.At.q (Sa.At.cellL List.mem_cons_self)
  | with_reducible exact Sa.At.dL (by assumption)
  | with_reducible exact Sa.At.dL (Sa.At.cellL List.mem_cons_self)
  | with_reducible exact Sa.At.nilQ List.mem_cons_self
  | with_reducible exact Sa.At.nilL List.mem_cons_self
  | with_reducible exact Sa.At.cellT List.mem_cons_self
  | with_reducible exact Sa.At.cellK List.mem_cons_self
  | with_reducible exact Sa.At.ins List.mem_cons_self
  | ((with_reducible apply Sa.At.tm); walk_at "atM")
  | ((with_reducible apply Sa.At.ap); walk_at "atM"))
local macro_rules | `(tactic| walk_at "atL") => `(tactic| first
  | with_reducible exact Sa.At.hd
  | with_reducible exact Sa.At.q Sa.At.hd
  | with_reducible exact Sa.At.u Sa.At.hd
  | with_reducible exact Sa.At.dL Sa.At.hd
  | with_reducible exact Sa.At.u (by assumption)
  | ((with_reducible apply Sa.At.tl); walk_at "atL"))
local macro_rules | `(tactic| walk_at "atd") => `(tactic| first
  | exact Sa.At.cellL List.mem_cons_self
  | exact Sa.At.q (Sa.At.cellL List.mem_cons_self)
  | exact Sa.At.dL (Sa.At.cellL List.mem_cons_self)
  | ((with_reducible apply Sa.At.tm); walk_at "atd"))
local macro_rules | `(tactic| walk_at "atm2") => `(tactic| first
  | assumption
  | with_reducible exact Sa.At.q (by assumption)
  | with_reducible exact Sa.At.dL (by assumption)
  | ((with_reducible apply Sa.At.tm); walk_at "atm2")
  | ((with_reducible apply Sa.At.ap); walk_at "atm2"))
local macro_rules | `(tactic| walk_at "atm") => `(tactic| first
  | walk_at "atm2"
  | ((with_reducible apply Sa.At.tl); walk_at "atm"))
local macro_rules | `(tactic| walk_at "at") => `(tactic| first
  | assumption
  | with_reducible exact Sa.At.int
  | with_reducible exact Sa.At.bl
  | with_reducible exact Sa.At.non
  | with_reducible exact Sa.At.str
  | walk_at "atg"
  | walk_at "atM"
  | walk_at "atL"
  | walk_at "atm"
  | exact Sa.At.int
  | exact Sa.At.non
  | walk_at "atd")
local macro_rules | `(tactic| walk_at "chg") => `(tactic| first
  | with_reducible exact Sa.Chg.hd
  | exact Sa.Chg.hd
  | ((with_reducible apply Sa.Chg.tl); walk_at "chg")
  | ((with_reducible apply Sa.Chg.app); walk_at "chg"))
local macro_rules | `(tactic| walk_at "del") => `(tactic| first
  | with_reducible exact Sa.Del.hd
  | exact Sa.Del.hd
  | ((with_reducible apply Sa.Del.tl); walk_at "del")
  | ((with_reducible apply Sa.Del.app); walk_at "del"))
local macro_rules | `(tactic| walk_at "grp") => `(tactic| first
  | assumption
  | with_reducible exact Sa.Grp.hd
  | ((with_reducible apply Sa.Grp.tl); walk_at "grp")
  | ((with_reducible apply Sa.Grp.ap); walk_at "grp"))
local macro_rules | `(tactic| walk_at "sub") => `(tactic| first
  | with_reducible exact Sa.Sub.nil
  | with_reducible exact Sa.Sub.rest
  | ((with_reducible apply Sa.Sub.cons); (walk_at "in1"); (walk_at "sub"))
  | ((with_reducible apply Sa.Sub.tl); walk_at "sub"))
local macro_rules | `(tactic| walk_at "sam") => `(tactic| first
  | with_reducible exact Sa.SubM.same
  | ((with_reducible apply Sa.SubM.cons); (walk_at "del"); (walk_at "sam"))
  | ((with_reducible apply Sa.SubM.grp); (walk_at "grp"); (walk_at "sam"))
  | ((with_reducible apply Sa.SubM.skip); walk_at "sam")
  | ((with_reducible apply Sa.SubM.skipB); walk_at "sam"))
local macro_rules | `(tactic| walk_at "sa2") => `(tactic| exact Sa.SA.take (by assumption) (by walk_at "sub") (by walk_at "sam"))
local macro_rules | `(tactic| walk_at "pick") => `(tactic| first
  | with_reducible exact Sa.Pick.done
  | ((with_reducible apply Sa.Pick.cons); (walk_at "del"); (walk_at "pick"))
  | ((with_reducible apply Sa.Pick.skip); walk_at "pick"))
local macro_rules | `(tactic| walk_at "sa") => `(tactic| first
  | assumption
  | exact Sa.SA.pick (by assumption) (by walk_at "pick")
  | exact Sa.SA.pick (Sa.SA.drop (by assumption)) (by walk_at "pick")
  | exact Sa.SA.pick (Sa.SA.drop (Sa.SA.drop (by assumption))) (by walk_at "pick")
  | exact Sa.SA.pick (Sa.SA.drop (Sa.SA.drop (Sa.SA.drop (by assumption)))) (by walk_at "pick"))
local macro_rules | `(tactic| walk_at "len") => `(tactic| first
  | (obtain ⟨_, rfl, _⟩ := ‹Exists _›; rfl)
  | (obtain ⟨_, _, rfl, _⟩ := ‹Exists _›; rfl)
  | (obtain ⟨_, _, _, rfl, _⟩ := ‹Exists _›; rfl)
  | (obtain ⟨_, _, _, _, rfl, _⟩ := ‹Exists _›; rfl)
  | (obtain ⟨_, _, _, _, _, rfl, _⟩ := ‹Exists _›; rfl)
  | (obtain ⟨_, _, _, _, _, _, rfl, _⟩ := ‹Exists _›; rfl)
  | (obtain ⟨_, _, _, _, _, _, _, rfl, _⟩ := ‹Exists _›; rfl)
  | (obtain ⟨_, _, _, _, _, _, _, _, rfl, _⟩ := ‹Exists _›; rfl))
local macro_rules | `(tactic| walk_at "om") => `(tactic| first | omega | (simp only [List.length_map, List.length_append, List.length_cons, List.length_nil, List.length_set, List.length_range, List.length_take, List.length_drop, List.length_replicate, List.length_reverse, List.length_dropLast, Sa.rg_len, Sa.en2_len] <;> omega))
local macro_rules | `(tactic| walk_at "sA") => `(tactic| first
  | refine Sa.Go.go ?_
  | ((with_reducible show tVar _ _ _ _); refine Sa.st_var rfl ?_))
local macro_rules | `(tactic| walk_at "sB") => `(tactic| first
  | ((with_reducible show Sa.DG2b _ _ _ _ _); refine Sa.st_DG2e (by assumption) (by walk_at "at") (by assumption) ?_)
  | ((with_reducible show tyV _ "list" (V.ref _) _ ∧ _); refine Sa.st_tyL (by assumption) (by walk_at "at") ?_)
  | ((with_reducible show rAppend _ [V.int _] _ _); refine Sa.st_appI (by assumption) (by walk_at "chg") (by walk_at "om") (fun _ _ => ?_))
  | ((with_reducible show rI Sa.CPowW _ (V.int _) (V.int _) _ _); refine Sa.st_pow (by omega) (by omega) (by omega) (by omega) ?_; try simp only [Int.reduceToNat, Int.reducePow])
  | ((with_reducible show rI Sa.CDivX _ (V.int _) (V.int _) _ _); refine Sa.st_div (by omega) (by omega) ?_)
  | ((with_reducible show rI Sa.CModX _ (V.int _) (V.int _) _ _); refine Sa.st_mod (by omega) ?_)
  | ((with_reducible show tAug _ _ _ _ _ _); refine Sa.st_aug rfl ?_)
  | ((with_reducible show Sa.DNi _ _ _ _); refine Sa.st_DNi (by assumption) (by walk_at "at") ?_)
  | ((with_reducible show Sa.DIi _ _ _ _); refine Sa.st_DIi (by assumption) (by walk_at "at") ?_)
  | ((with_reducible show rIxT _ (V.ref _) (V.int _) _ _); refine Sa.st_ixT (by assumption) (by walk_at "at") (by rfl) ?_)
  | ((with_reducible show Sa.FldA _ _ (V.ref _) _ _); refine Sa.st_FldA (by assumption) (by walk_at "at") (by assumption) (by assumption) (by walk_at "fp") (by rfl) ?_)
  | ((with_reducible show Sa.MethA _ _ (V.ref _) _ _); refine Sa.st_MethA (by assumption) (by walk_at "at") (by decide +kernel) ?_)
  | ((with_reducible show gTup _ _ _ (V.ref _) _ _ _); refine Sa.st_gtup (by assumption) (by walk_at "at") (by rfl) ?_)
  | ((with_reducible show rI Sa.CMulX _ (V.int _) (V.int _) _ _); first | refine Sa.st_mul1 (by omega) (by omega) ?_ | refine Sa.st_mul2 (by omega) (by omega) ?_)
  | ((with_reducible show Sa.rLen _ _ _ _); first | refine Sa.st_lenD (by assumption) ?_ | refine Sa.st_lenU (by assumption) ?_ | refine Sa.st_lenI (by assumption) (by walk_at "at") ?_ | refine Sa.st_lenL (by assumption) (by walk_at "at") ?_ | refine Sa.st_lenT (by assumption) (by walk_at "at") ?_)
  | ((with_reducible show Sa.rListOf _ _ _ _); refine Sa.st_listOf (by assumption) (by walk_at "at") (fun _ _ _ => ?_))
  | ((with_reducible show rIxL _ (V.ref _) (V.int _) _ _); refine Sa.st_ixL (by assumption) (by walk_at "at") (by first | exact Sa.atI_ints (by walk_at "om") (by walk_at "om") | exact Sa.atI_neg (by walk_at "om") (by walk_at "om") | rfl) ?_)
  | ((with_reducible show rNeD _ _ _ _ _); first | refine Sa.st_neL0 (by assumption) (by walk_at "at") (by walk_at "at") ?_ | refine Sa.st_neL (by assumption) (by walk_at "at") (by walk_at "at") ?_)
  | ((with_reducible show rEqD _ _ _ _ _); first | refine Sa.st_eqL0 (by assumption) (by walk_at "at") (by walk_at "at") ?_ | refine Sa.st_eqL (by assumption) (by walk_at "at") (by walk_at "at") ?_)
  | ((with_reducible show StX.InsC _ _ _ _ ∧ _); refine Sa.st_InsC (by assumption) (by walk_at "at") ?_)
  | ((with_reducible show Sa.DGt (V.ref _) (V.int _) _ _); refine Sa.st_DGt (by assumption) (by walk_at "at") (by assumption) ?_)
  | ((with_reducible show rAppend _ [_] _ _); refine Sa.st_app (by assumption) (by walk_at "chg") (by walk_at "om") (fun _ _ => ?_)))
local macro_rules | `(tactic| walk_at "sC") => `(tactic| first
  | ((with_reducible show rIsi _ [V.int _, V.ty "int"] _ _); refine Sa.st_kInt (.int _) ?_; try dsimp only [Sa.kInt])
  | ((with_reducible show rIsi _ [V.int _, V.ty "bool"] _ _); refine Sa.st_kBool (.int _) ?_; try dsimp only [Sa.kBool])
  | ((with_reducible show rIsi _ [_, V.ty "bool"] _ _); refine Sa.st_kBool (by assumption) ?_; try dsimp only [Sa.kBool])
  | ((with_reducible show rIsi _ [_, V.ty "int"] _ _); refine Sa.st_kInt (by assumption) ?_; try dsimp only [Sa.kInt])
  | ((with_reducible show rIsi _ [_, V.ty "str"] _ _); refine Sa.st_kStr (by assumption) ?_; try dsimp only [Sa.kStr])
  | ((with_reducible show rIsi _ [_, V.ty "list"] _ _); refine Sa.st_kList (by assumption) ?_; try dsimp only [Sa.kList])
  | ((with_reducible show rIsi _ [_, V.ty "tuple"] _ _); refine Sa.st_kTuple (by assumption) ?_; try dsimp only [Sa.kTuple])
  | ((with_reducible show rSlL _ _ none (some _) _ _); refine Sa.st_slTo (by assumption) (by walk_at "at") (by walk_at "om") (fun _ _ _ => ?_))
  | ((with_reducible show rSlL _ _ (some _) none _ _); refine Sa.st_slFrom (by assumption) (by walk_at "at") (by walk_at "om") (fun _ _ _ => ?_))
  | ((with_reducible show rCat _ _ _ _); first | refine Sa.st_catI1 (by assumption) (by walk_at "at") (by walk_at "at") (by walk_at "om") (fun _ _ _ => ?_) | refine Sa.st_catI (by assumption) (by walk_at "at") (by walk_at "at") (by walk_at "om") (fun _ _ _ => ?_))
  | ((with_reducible show Sa.DG2a _ _ _ _ _ _); refine Sa.st_DG2a (by assumption) (by walk_at "at") ?_)
  | ((with_reducible show Sa.DG2b _ _ _ _ _); refine Sa.st_DG2b (by assumption) (by walk_at "at") ?_)
  | ((with_reducible show Sa.DPu _ _ _ _ _); refine Sa.st_DPu (by assumption) (by walk_at "chg") (by walk_at "om") (fun _ _ => ?_))
  | ((with_reducible show tDNewK _ _ _); refine Sa.st_dnew (by assumption) (fun _ _ _ => ?_))
  | ((with_reducible show tDisp [_] _ _ _); refine Sa.st_disp1 (by assumption) (fun _ _ _ => ?_))
  | ((with_reducible show Sa.DDs [_] _ _ _); refine Sa.st_DDs1 (by assumption) (fun _ _ => ?_))
  | ((with_reducible show Sa.LRg _ _ _ _); refine Sa.st_LRg (by assumption) (by walk_at "om") (by walk_at "om") (by walk_at "om") (by walk_at "om") (fun _ _ _ => ?_))
  | ((with_reducible show rIn _ false (V.int _) _ _ _); refine Sa.st_in (by assumption) (by walk_at "at") ?_)
  | ((with_reducible show rIn _ true (V.int _) _ _ _); refine Sa.st_notIn (by assumption) (by walk_at "at") ?_)
  | ((with_reducible show rSetL _ (V.int _) _ _ _); first | refine Sa.st_setI (by assumption) (by walk_at "chg") (by walk_at "om") (by walk_at "om") (fun _ _ => ?_) | refine Sa.st_setN (by assumption) (by walk_at "chg") (by omega) (by walk_at "om") (fun _ _ => ?_) | refine Sa.st_setL (by assumption) (by walk_at "chg") (by rfl) (fun _ _ => ?_))
  | ((with_reducible show Sa.SetFrom _ _ _ _ _); refine Sa.st_from1 (by assumption) (by walk_at "chg") (by omega) (by walk_at "om") (by walk_at "om") (fun _ _ => ?_))
  | ((with_reducible show Sa.FldP _ _ (V.ref _) _ _ _); refine Sa.st_FldN (by assumption) (by walk_at "chg") (by assumption) (by assumption) (by decide +kernel) (by rfl) (by decide +kernel) (fun _ _ => ?_))
  | ((with_reducible show Sa.MakeA _ _ _ _ _); refine Sa.st_MakeA (by assumption) (fun _ _ _ _ => ?_))
  | ((with_reducible show Sa.DDe _ (V.int _) _ _); refine Sa.st_DDe (by assumption) (by walk_at "chg") (by first | assumption | simp only [*, Option.isSome]) (fun _ _ => ?_))
  | ((with_reducible show Sa.DPa _ _ (V.ref _) _ _); refine Sa.st_DPa (by assumption) (by walk_at "at") ?_)
  | ((with_reducible show Sa.DPb _ (V.int _) _ _); refine Sa.st_DPb (by assumption) (by walk_at "chg") (by assumption) (fun _ _ => ?_))
  | ((with_reducible show rPop (V.ref _) _ _ _); refine Sa.st_popI (by assumption) (by walk_at "chg") (by walk_at "om") (fun _ _ => ?_))
  | ((with_reducible show Sa.DSa _ _ _ (V.ref _) _ _); refine Sa.st_DSa (by assumption) (by walk_at "at") ?_)
  | ((with_reducible show rCntI _ (V.ref _) [V.int _] _ _); refine Sa.st_count (by assumption) (by walk_at "at") ?_)
  | ((with_reducible show rReverse (V.ref _) _ _ _); refine Sa.st_rev (by assumption) (by walk_at "chg") (fun _ _ => ?_))
  | ((with_reducible show Sa.rLenO _ _ _ [V.ref _] _ _); refine Sa.st_lenO (by assumption) (by walk_at "at") ?_)
  | ((with_reducible show 0 ≤ _ ∧ _ < 2 ^ 63 ∧ _); refine ⟨by omega, by omega, ?_⟩)
  | ((with_reducible show Sa.RevA _ (V.ref _) _ _); refine Sa.st_RevA (by assumption) (by walk_at "at") (fun _ _ _ => ?_))
  | ((with_reducible show Sa.LcAdd _ (V.int _) _ _); refine Sa.st_lcaddI (by assumption) (by walk_at "chg") (by walk_at "om") (fun _ _ => ?_)))
local macro_rules | `(tactic| walk_at "s1") => `(tactic| first | walk_at "sA" | walk_at "sB" | walk_at "sC")
local macro_rules | `(tactic| walk_at "go") => `(tactic| repeat walk_at "s1")
local macro_rules | `(tactic| walk_at "s0") => `(tactic| first | ((with_reducible show Sa.NewL _ _ _); refine Sa.st_newL (by assumption) (by walk_at "om") (fun _ _ _ => ?_)) | ((with_reducible show Sa.NewT _ _ _); refine Sa.st_newU (by assumption) (by walk_at "om") (fun _ _ _ => ?_)))
local macro_rules | `(tactic| walk_at "gn") => `(tactic| repeat (first | walk_at "sA" | walk_at "sB" | walk_at "s0" | walk_at "sC"))
local macro_rules | `(tactic| walk_at "st") => `(tactic| simp only [Sa.cxK, Sa.cxK', Sa.asg2, Sa.asg3, Sa.asg2t, L2.start, List.map_cons, List.map_nil, List.length_cons, List.length_nil, Nat.zero_add, Nat.reduceAdd, Nat.reduceSub, List.replicate_succ, List.replicate_zero, List.cons_append, List.nil_append, List.replicate])
local macro_rules | `(tactic| walk_at "if") => `(tactic| (refine Sa.if_dec (fun _ => ?_) (fun _ => ?_)))
local macro_rules | `(tactic| walk_at "nm") => `(tactic| (try dsimp only [List.set_cons_succ, List.set_cons_zero]))
local macro_rules | `(tactic| walk_at "mn") => `(tactic| (intro x hx; simp only [List.mem_cons, List.not_mem_nil, or_false] at hx; omega))
local macro_rules | `(tactic| walk_at "yes") => `(tactic| refine Sa.if_dec (fun _ => ?_) (fun h => absurd (by first | trivial | rfl) h))
local macro_rules | `(tactic| walk_at "no") => `(tactic| refine Sa.if_dec (fun h => by cases h) (fun _ => ?_))
local macro_rules | `(tactic| walk_at "atD") => `(tactic| first
  | walk_at "at"
  | (with_reducible apply Sa.At.lst; (walk_at "at"); (walk_at "ats"))
  | (with_reducible apply Sa.At.tup; (walk_at "at"); (walk_at "ats")))
local macro_rules | `(tactic| walk_at "ats") => `(tactic| first
  | with_reducible exact Sa.At.nil
  | (with_reducible apply Sa.At.cons; (walk_at "atD"); (walk_at "ats")))
local macro_rules | `(tactic| walk_at "dp") => `(tactic| first
  | exact Sa.depth_int | exact Sa.depth_ints | exact Sa.depth_bool | exact Sa.depth_none
  | (simp [PyData.depth, PyData.depthAll, Sa.depthAll_ints]; done)
  | (simp only [PyData.depth, PyData.depthAll, Sa.depthAll_ints]; omega))
local macro_rules | `(tactic| walk_at "dw") => `(tactic| first | exact Nat.zero_le _ | (simp only [wid, widAll, wid_ints]; omega))
local macro_rules | `(tactic| walk_at "dt") => `(tactic| first | rfl | (simp only [noTxt, noTxtAll, noTxt_ints, Bool.and_self, Bool.and_true, Bool.true_and]; done))
local macro_rules | `(tactic| walk_at "call") => `(tactic| fail)
local macro_rules | `(tactic| walk_at "dec") => `(tactic| ((with_reducible show ite (decide _ = true) _ _); first
  | (refine Sa.if_yes (by with_reducible rfl) ?_)
  | (refine Sa.if_yes (by omega) ?_)
  | (refine Sa.if_no (by omega) ?_)
  | (refine Sa.if_no (fun h => V.noConfusion h) ?_)))
local macro_rules | `(tactic| walk_at "sD") => `(tactic| first
  | ((with_reducible show gLst _ _ _ (V.ref _) _ _ _); refine Sa.st_glst (by assumption) (by walk_at "at") (by rfl) ?_)
  | ((with_reducible show Sa.ipC Sa.CMulX _ (V.int _) (V.int _) _ _); refine Sa.st_imul2 (by omega) (by omega) ?_)
  | ((with_reducible show rSum _ [V.ref _] _ _); refine Sa.st_sum (by assumption) (by walk_at "at") ?_)
  | ((with_reducible show rMax _ [V.ref _] _ _); refine Sa.st_max (by assumption) (by walk_at "at") (by walk_at "om") (fun _ _ _ => ?_))
  | ((with_reducible show Sa.InsA (V.ref _) [V.int _, V.int _] _ _); refine Sa.st_insI (by assumption) (by walk_at "chg") (by walk_at "om") (by omega) (by omega) (fun _ _ => ?_))
  | ((with_reducible show rPopAt (V.ref _) [V.int _] _ _); refine Sa.st_popAtI (by assumption) (by walk_at "chg") (by omega) (by walk_at "om") (by walk_at "om") (fun _ _ => ?_))
  | ((with_reducible show rClear (V.ref _) [] _ _); refine Sa.st_clear (by assumption) (by walk_at "chg") (fun _ _ => ?_))
  | ((with_reducible show rRep (V.ref _) (V.int _) _ _); refine Sa.st_repI (by assumption) (by walk_at "at") (by omega) (by omega) (fun _ _ _ => ?_))
  | ((with_reducible show rCat _ _ _ _); refine Sa.st_cat1I (by assumption) (by walk_at "at") (by walk_at "at") (by walk_at "om") (fun _ _ _ => ?_)))
local macro_rules | `(tactic| walk_at "au") => `(tactic| repeat (first | walk_at "sA" | walk_at "sB" | walk_at "s0" | walk_at "sC" | walk_at "sD" | walk_at "call" | walk_at "dec"))
local macro_rules | `(tactic| walk_at "gd") => `(tactic| repeat (first | walk_at "sA" | walk_at "sB" | walk_at "s0" | walk_at "sC" | walk_at "sD"))
local macro_rules | `(tactic| walk_at "nt") => `(tactic| first
  | assumption
  | exact nt_nil
  | ((with_reducible apply nt_cons); (first | exact (fun _ z => HO.noConfusion z) | exact jar_nt (by assumption)); walk_at "nt")
  | ((with_reducible apply nt_app); (walk_at "nt"); (walk_at "nt")))
local macro_rules | `(tactic| walk_at "atT") => `(tactic| first
  | assumption
  | with_reducible exact At.cellKT List.mem_cons_self
  | ((with_reducible apply Sa.At.tm); walk_at "atT")
  | ((with_reducible apply Sa.At.ap); walk_at "atT"))
local macro_rules | `(tactic| walk_at "sT") => `(tactic| first
  | ((with_reducible show rRepA _ (V.ref _) (V.int _) _ _); refine st_repA (by assumption) (by walk_at "in1") (by omega) (by omega) (fun _ _ _ => ?_))
  | ((with_reducible show rCatA _ (V.ref _) (V.ref _) _ _); refine st_catAI (by assumption) (by walk_at "in1") (by walk_at "in1") (by walk_at "om") (fun _ _ _ => ?_))
  | ((with_reducible show rSlA _ (V.ref _) none (some _) _ _); refine st_slToA (by assumption) (by walk_at "in1") (by omega) (fun _ _ _ => ?_))
  | ((with_reducible show rSlA _ (V.ref _) (some _) none _ _); refine st_slFromA (by assumption) (by walk_at "in1") (by omega) (fun _ _ _ => ?_))
  | ((with_reducible show tDNewT _ _ _); refine st_dnewT (by assumption) (fun _ _ _ => ?_))
  | ((with_reducible show tDispT [_] _ _ _); refine st_dispT (by assumption) (fun _ _ _ => ?_))
  | ((with_reducible show Sa.DG2a _ _ _ _ _ _); refine st_DGT (by assumption) (by walk_at "atT") ?_)
  | ((with_reducible show Sa.DG2b _ (V.ref _) (V.int 0) _ _); refine st_DGTb (by assumption) (by walk_at "atT") (by walk_at "at") ?_))
local macro_rules | `(tactic| walk_at "gt") => `(tactic| repeat (first | walk_at "sA" | walk_at "sT" | walk_at "sB" | walk_at "s0" | walk_at "sC"))
/-- data of a depth below so much -/
def spn__law_same (n : Nat) (K : PySem.W.Frag) : Sp := fun vs H Q _ => ∃ (v u : V), vs = [v, u] ∧ ∃ (L : List Fc) (M : List Cell) (d e : PyData), SA L M H ∧ At L M (fD K v d) ∧ At L M (fD K u e) ∧ e.depth < n ∧ wid e ≤ 40000 ∧ noTxt e = true ∧
  ∀ (b : Bool) H', (b = true ↔ d = e) → SA L M H' → Q (.bl b) H'
theorem spn__law_same_zero (K : PySem.W.Frag) : ∀ vs H Q E, ¬ spn__law_same 0 K vs H Q E := by
  rintro vs H Q E ⟨_, _, _, _, _, _, _, _, _, _, h, _⟩
  exact absurd h (Nat.not_lt_zero _)
local macro_rules | `(tactic| walk_at "call") => `(tactic| first
  | ((with_reducible show sp__law_same _ ([V.int _, V.int _] ++ []) _ _ _); refine call_sameI (by assumption) (by omega) (fun _ _ => ?_))
  | ((with_reducible show sp__law_same _ ([V.bl _, V.bl _] ++ []) _ _ _); refine call_sameB (by assumption) (by first | rfl | (rw [Bool.eq_iff_iff]; simp only [Bool.and_eq_true, Bool.or_eq_true, Bool.not_eq_true', decide_eq_true_eq, decide_eq_false_iff_not, Bool.false_eq_true, iff_false, iff_true]; omega)) (fun _ _ => ?_))
  | ((with_reducible show sp__law_same _ _ _ _ _); refine call_same (by assumption) (by walk_at "atD") (by walk_at "atD") (by walk_at "dp") (by walk_at "dw") (by walk_at "dt") (fun _ _ => ?_)))
theorem sc__law_same : FnScope ["_law_told", "_law_due", "_law_spot"] ["_law_told", "_law_due"] (defScope s__law_same) := ⟨rfl, rfl, rfl, by decide +kernel, rfl, by decide +kernel, by decide +kernel⟩
theorem step__law_same {P : Program} {w : World} {K : PySem.W.Frag} {mg : Str → Option Value} {base : Heap} (T : Top K mg) {f__law_same : Addr} {fd__law_same : FuncData} (F__law_same : Fun K "_law_same" "_law_same" s__law_same f__law_same fd__law_same) (m__law_same : mg "_law_same" = some (.ref f__law_same)) (n : Nat) (G__law_same : FnOk P w K mg base CX0 (0 + n) f__law_same fd__law_same ["_law_told", "_law_due"] (spn__law_same n K)) : FnOk P w K mg base CX0 (0 + n + 1) f__law_same fd__law_same ["_law_told", "_law_due"] (spn__law_same (n + 1) K) := by
  have b__law_same := F__law_same.binds (ps := ["_law_told", "_law_due"]) (fun _ _ _ _ _ _ us hl => match us, hl with | [_, _], _ => rfl)
  refine F__law_same.ok sc__law_same (fun vs H Q E h => by first | (obtain ⟨_, rfl, _⟩ := h; rfl) | (obtain ⟨_, _, rfl, _⟩ := h; rfl) | (obtain ⟨_, _, _, rfl, _⟩ := h; rfl) | (obtain ⟨_, _, _, _, rfl, _⟩ := h; rfl) | (obtain ⟨_, _, _, _, _, rfl, _⟩ := h; rfl) | (obtain ⟨_, _, _, _, _, _, rfl, _⟩ := h; rfl) | (obtain ⟨_, _, _, _, _, _, _, rfl, _⟩ := h; rfl) | (obtain ⟨_, _, _, _, _, _, _, _, rfl, _⟩ := h; rfl)) (fun cdv A outer s H vs Q E hr h => ?_)
  refine ⟨_, (pss_cons (ps_if (pt_val (pe_callB call_isiT (by rfl) T.z_isinstance (by decide +kernel) (pa_cons (pv 1) (pa_cons (pe_tup (pa_cons (pe_bltn (v := .ty "list") (u := .type "list") (by rfl) T.z_list (by decide +kernel) rfl) (pa_cons (pe_bltn (v := .ty "tuple") (u := .type "tuple") (by rfl) T.z_tuple (by decide +kernel) rfl) pa_nil))) pa_nil)))) (pss_cons (ps_if (PW.pt (pw_or (pt_cmpR op_ne (pe_callB call_isi (by rfl) T.z_isinstance (by decide +kernel) (pa_cons (pv 0) (pa_cons (pe_bltn (v := .ty "list") (u := .type "list") (by rfl) T.z_list (by decide +kernel) rfl) pa_nil))) (pe_callB call_isi (by rfl) T.z_isinstance (by decide +kernel) (pa_cons (pv 1) (pa_cons (pe_bltn (v := .ty "list") (u := .type "list") (by rfl) T.z_list (by decide +kernel) rfl) pa_nil))) (nomark _)) (pw_or1 (pt_cmpR op_ne (pe_callB call_isi (by rfl) T.z_isinstance (by decide +kernel) (pa_cons (pv 0) (pa_cons (pe_bltn (v := .ty "tuple") (u := .type "tuple") (by rfl) T.z_tuple (by decide +kernel) rfl) pa_nil))) (pe_callB call_isi (by rfl) T.z_isinstance (by decide +kernel) (pa_cons (pv 1) (pa_cons (pe_bltn (v := .ty "tuple") (u := .type "tuple") (by rfl) T.z_tuple (by decide +kernel) rfl) pa_nil))) (nomark _))))) (pss_one (ps_ret pe_bl)) pss_nil)
      (pss_cons (ps_if (pt_cmpR op_ne (pe_callB Sa.call_len (by rfl) T.z_len boot_len (pa_cons (pv 0) pa_nil)) (pe_callB Sa.call_len (by rfl) T.z_len boot_len (pa_cons (pv 1) pa_nil)) (nomark _)) (pss_one (ps_ret pe_bl)) pss_nil)
      (pss_one (ps_ret (pe_cmpR (op_eqD hr.units) (pe_lc (own := [("_law_spot", 2)]) (g := (gName 2)) (by rfl) sc__law_same.nd (pi_range1 (by rfl) T.z_range (pa_cons (pe_callB Sa.call_len (by rfl) T.z_len boot_len (pa_cons (pv 1) pa_nil)) pa_nil)) (blkOk_by (N := ["_law_told", "_law_due", "_law_spot"]) (sc := defScope s__law_same) (by decide +kernel)) (fun _ _ _ _ _ => (pg_name (i := 2) sc__law_same.nd rfl (.inl rfl))) (fun _ _ _ _ _ => (pts_one (pt_not (pt_val (pe_call G__law_same (hr.mono (by first | decide | omega)) (by rfl) m__law_same F__law_same.kp b__law_same .nil pass0 (pa_cons (pe_ix (Sa.ix_seqK (K := K) rfl) (pv 0) (pv 2) (fun _ _ => rfl)) (pa_cons (pe_ix (Sa.ix_seqK (K := K) rfl) (pv 1) (pv 2) (fun _ _ => rfl)) pa_nil))))))) (fun _ _ _ _ _ => (pv 2))) (pe_lst pa_nil) (nomark _)))))) pss_nil)
      (pss_cons (ps_if (pt_cmpR Sa.op_isN (pv 1) pe_non (nomark _)) (pss_one (ps_ret (pe_cmpR Sa.op_isN (pv 0) pe_non (nomark _)))) pss_nil)
      (pss_cons (ps_if (pt_val (pe_callB call_isi (by rfl) T.z_isinstance (by decide +kernel) (pa_cons (pv 1) (pa_cons (pe_bltn (v := .ty "bool") (u := .type "bool") (by rfl) T.z_bool (by decide +kernel) rfl) pa_nil)))) (pss_one (ps_ret (pe_and (pe_callB call_isi (by rfl) T.z_isinstance (by decide +kernel) (pa_cons (pv 0) (pa_cons (pe_bltn (v := .ty "bool") (u := .type "bool") (by rfl) T.z_bool (by decide +kernel) rfl) pa_nil))) (pe_one (pe_cmpR op_eq (pv 0) (pv 1) (nomark _)))))) pss_nil)
      (pss_one (ps_ret (pe_and (pe_callB call_isi (by rfl) T.z_isinstance (by decide +kernel) (pa_cons (pv 0) (pa_cons (pe_bltn (v := .ty "int") (u := .type "int") (by rfl) T.z_int (by decide +kernel) rfl) pa_nil))) (pe_and (pe_not (pe_callB call_isi (by rfl) T.z_isinstance (by decide +kernel) (pa_cons (pv 0) (pa_cons (pe_bltn (v := .ty "bool") (u := .type "bool") (by rfl) T.z_bool (by decide +kernel) rfl) pa_nil)))) (pe_one (pe_cmpR op_eq (pv 0) (pv 1) (nomark _)))))))))), ?_⟩
  obtain ⟨v, u, rfl, L, M, d, e, hS, hd, he, hn, hw, ht, q⟩ := h
  have hd0 : Dp K H v d := hd H hS
  have he0 : Dp K H u e := he H hS
  have q0 : ∀ (b : Bool) H', (b = true ↔ d = e) → SA [Sa.fS H] [] H' → Q (.bl b) H' := fun b H' hb hs => q b H' hb (hS.ext hs.same)
  clear q
  have hs := SA.self H
  walk_at "st"
  walk_at "go"
  refine Sa.st_newTc hs (by walk_at "om") (fun tp H1 hs1 => ?_)
  have hd1 : Dp K H1 v d := (Sa.At.ofS (f := fD K v d) hd0) H1 hs1
  have he1 : Dp K H1 u e := (Sa.At.ofS (f := fD K u e) he0) H1 hs1
  walk_at "go"
  refine Sa.st_isiLT hs1 he1 ?_
  cases e with
  | none =>
    obtain rfl := Sa.dp_none he1
    simp only [Sa.kList, Sa.kTuple, Bool.or_false, Bool.false_or, Bool.or_true, Bool.true_or, Bool.or_self]
    walk_at "go"
    refine Sa.if_dec (fun h => ?_) (fun h => absurd rfl h)
    walk_at "go"
    refine q0 _ _ ?_ hs1.dropM
    cases d <;> first | (cases hd1; done) | (cases hd1; simp)
  | bool b =>
    obtain rfl := Sa.dp_bool he1
    simp only [Sa.kList, Sa.kTuple, Bool.or_false, Bool.false_or, Bool.or_true, Bool.true_or, Bool.or_self]
    walk_at "go"
    refine Sa.if_dec (fun h => by cases h) (fun _ => ?_)
    walk_at "go"
    cases d with
    | bool c =>
      obtain rfl := Sa.dp_bool hd1
      dsimp only [Sa.kBool]
      walk_at "go"
      refine Sa.st_eq rfl ?_
      exact q0 _ _ (by simp) hs1.dropM
    | dict kv => cases hd1
    | _ =>
      dsimp only [Sa.kBool]
      walk_at "go"
      exact q0 _ _ (by simp) hs1.dropM
  | int i =>
    obtain rfl := Sa.dp_int he1
    simp only [Sa.kList, Sa.kTuple, Bool.or_false, Bool.false_or, Bool.or_true, Bool.true_or, Bool.or_self]
    walk_at "go"
    refine Sa.if_dec (fun h => by cases h) (fun _ => ?_)
    walk_at "go"
    cases d with
    | int c =>
      obtain rfl := Sa.dp_int hd1
      dsimp only [Sa.kInt]
      walk_at "go"
      exact q0 _ _ (by simp) hs1.dropM
    | dict kv => cases hd1
    | _ =>
      dsimp only [Sa.kInt]
      walk_at "go"
      exact q0 _ _ (by simp) hs1.dropM
  | str z => cases ht
  | list es =>
    obtain ⟨a, xs, rfl, ha, hxs⟩ := Sa.dp_list he1
    simp only [Sa.kList, Sa.kTuple, Bool.or_false, Bool.false_or, Bool.or_true, Bool.true_or, Bool.or_self]
    walk_at "go"
    cases d with
    | list ds =>
      obtain ⟨b1, ys, rfl, hb, hys⟩ := Sa.dp_list hd1
      simp only [Sa.kList, Sa.kTuple, Bool.or_false, Bool.false_or, Bool.or_true, Bool.true_or, Bool.or_self]
      walk_at "go"
      refine Sa.st_ne rfl ?_
      walk_at "go"
      walk_at "yes"
      walk_at "go"
      refine Sa.st_ne rfl ?_
      walk_at "go"
      walk_at "yes"
      walk_at "go"
      refine Sa.if_dec (fun hl => ?_) (fun hl => ?_)
      rotate_left
      · walk_at "go"
        refine q0 _ _ ?_ hs1.dropM
        constructor
        · intro h; cases h
        · intro h; cases h; exact absurd rfl hl
      have hl1 : ds.length = es.length := by omega
      have hw1 : widAll es ≤ 40000 := hw
      have hw2 := wid_len es
      walk_at "go"
      refine Sa.st_r1c (n := es.length) (by omega) (by omega) (by omega) ?_
      refine Sa.lcI_rng (fun i => !(@decide (ds[i.toNat]? = es[i.toNat]?) (Classical.propDecidable _))) (fun g => g) hs1 (by omega) (fun x => rfl) (fun g Dl acc hg0 hg1 => ?_) (fun g Dl acc hg0 hg1 _ => ?_) (fun f H6 hS6 => ?_)
      · intro H6 hS6 Q1 q1
        have he6 : Dp K H6 _ (.list es) := (Sa.At.ofS (f := fD K _ _) he0) H6 hS6
        have hd6 : Dp K H6 _ (.list ds) := (Sa.At.ofS (f := fD K _ _) hd0) H6 hS6
        walk_at "go"
        refine Sa.st_ixD hd6 (n := g.toNat) (by omega) (by omega) (fun y d1 hd2 hd3 => ?_)
        walk_at "go"
        refine Sa.st_ixD he6 (n := g.toNat) (by omega) (by omega) (fun x e1 he2 he3 => ?_)
        have hdep := depth_mem he2
        have hwd := wid_mem he2
        have htd := noTxt_mem he2 ht
        have hn2 : e1.depth < n := by
          have hn3 : PyData.depthAll es + 1 < n + 1 := hn
          omega
        walk_at "go"
        refine ⟨y, x, rfl, [Sa.fS H6], [], d1, e1, SA.self H6, Sa.At.ofS (f := fD K _ _) hd3, Sa.At.ofS (f := fD K _ _) he3, hn2, by omega, htd, fun bb H7 hbb hs7 => ?_⟩
        have hS7 := hS6.ext hs7.same
        walk_at "go"
        have e4 : (@decide (ds[g.toNat]? = es[g.toNat]?) (Classical.propDecidable _)) = bb := by
          rw [hd2, he2]
          cases bb with
          | true => exact @decide_eq_true _ (Classical.propDecidable _) (by rw [hbb.mp rfl])
          | false => exact @decide_eq_false _ (Classical.propDecidable _) (fun h => by
              cases h
              exact absurd (hbb.mpr rfl) (by decide))
        rw [e4] at q1
        exact q1 _ hS7
      · intro H6 hS6 Q1 q1
        walk_at "go"
        exact q1 _ hS6
      · rw [List.map_id'] at hS6
        walk_at "gn"
        refine q0 _ _ ?_ (by walk_at "sa")
        rw [decide_eq_true_iff]
        constructor
        · intro h
          rw [alike_all ds es hl1 (fun i d1 e1 h1 h2 => ?_)]
          have h3 := List.filter_eq_nil_iff.mp h (i : Int) (Sa.mem_rg.mpr ⟨by omega, by have := (List.getElem?_eq_some_iff.mp h2).1; omega⟩)
          have h4 : (@decide (ds[i]? = es[i]?) (Classical.propDecidable _)) = true := by
            cases h5 : (@decide (ds[i]? = es[i]?) (Classical.propDecidable _)) with
            | true => rfl
            | false =>
              exfalso
              apply h3
              show (!(@decide (ds[i]? = es[i]?) (Classical.propDecidable _))) = true
              rw [h5]
              rfl
          have h6 := @of_decide_eq_true _ (Classical.propDecidable _) h4
          rw [h1, h2] at h6
          exact Option.some.inj h6
        · intro h
          have h7 : ds = es := PyData.list.inj h
          refine List.filter_eq_nil_iff.mpr (fun i _ h3 => ?_)
          have h4 : (@decide (ds[i.toNat]? = es[i.toNat]?) (Classical.propDecidable _)) = true := @decide_eq_true _ (Classical.propDecidable _) (by rw [h7])
          rw [h4] at h3
          cases h3
    | dict kv => cases hd1
    | _ =>
      simp only [Sa.kList, Sa.kTuple, Bool.or_false, Bool.false_or, Bool.or_true, Bool.true_or, Bool.or_self]
      walk_at "go"
      refine Sa.st_ne rfl ?_
      walk_at "go"
      first
        | (walk_at "yes"
           walk_at "go"
           refine Sa.st_ne rfl ?_
           walk_at "go"
           refine Sa.if_dec (fun h => by cases h) (fun _ => ?_)
           walk_at "go"
           exact q0 _ _ (by simp) hs1.dropM)
        | (refine Sa.if_dec (fun h => by cases h) (fun _ => ?_)
           walk_at "go"
           exact q0 _ _ (by simp) hs1.dropM)
  | tuple es =>
    obtain ⟨a, xs, rfl, ha, hxs⟩ := Sa.dp_tuple he1
    simp only [Sa.kList, Sa.kTuple, Bool.or_false, Bool.false_or, Bool.or_true, Bool.true_or, Bool.or_self]
    walk_at "go"
    cases d with
    | tuple ds =>
      obtain ⟨b1, ys, rfl, hb, hys⟩ := Sa.dp_tuple hd1
      simp only [Sa.kList, Sa.kTuple, Bool.or_false, Bool.false_or, Bool.or_true, Bool.true_or, Bool.or_self]
      walk_at "go"
      refine Sa.st_ne rfl ?_
      walk_at "go"
      walk_at "yes"
      walk_at "go"
      refine Sa.st_ne rfl ?_
      walk_at "go"
      walk_at "yes"
      walk_at "go"
      refine Sa.if_dec (fun hl => ?_) (fun hl => ?_)
      rotate_left
      · walk_at "go"
        refine q0 _ _ ?_ hs1.dropM
        constructor
        · intro h; cases h
        · intro h; cases h; exact absurd rfl hl
      have hl1 : ds.length = es.length := by omega
      have hw1 : widAll es ≤ 40000 := hw
      have hw2 := wid_len es
      walk_at "go"
      refine Sa.st_r1c (n := es.length) (by omega) (by omega) (by omega) ?_
      refine Sa.lcI_rng (fun i => !(@decide (ds[i.toNat]? = es[i.toNat]?) (Classical.propDecidable _))) (fun g => g) hs1 (by omega) (fun x => rfl) (fun g Dl acc hg0 hg1 => ?_) (fun g Dl acc hg0 hg1 _ => ?_) (fun f H6 hS6 => ?_)
      · intro H6 hS6 Q1 q1
        have he6 : Dp K H6 _ (.tuple es) := (Sa.At.ofS (f := fD K _ _) he0) H6 hS6
        have hd6 : Dp K H6 _ (.tuple ds) := (Sa.At.ofS (f := fD K _ _) hd0) H6 hS6
        walk_at "go"
        refine Sa.st_ixU hd6 (n := g.toNat) (by omega) (by omega) (fun y d1 hd2 hd3 => ?_)
        walk_at "go"
        refine Sa.st_ixU he6 (n := g.toNat) (by omega) (by omega) (fun x e1 he2 he3 => ?_)
        have hdep := depth_mem he2
        have hwd := wid_mem he2
        have htd := noTxt_mem he2 ht
        have hn2 : e1.depth < n := by
          have hn3 : PyData.depthAll es + 1 < n + 1 := hn
          omega
        walk_at "go"
        refine ⟨y, x, rfl, [Sa.fS H6], [], d1, e1, SA.self H6, Sa.At.ofS (f := fD K _ _) hd3, Sa.At.ofS (f := fD K _ _) he3, hn2, by omega, htd, fun bb H7 hbb hs7 => ?_⟩
        have hS7 := hS6.ext hs7.same
        walk_at "go"
        have e4 : (@decide (ds[g.toNat]? = es[g.toNat]?) (Classical.propDecidable _)) = bb := by
          rw [hd2, he2]
          cases bb with
          | true => exact @decide_eq_true _ (Classical.propDecidable _) (by rw [hbb.mp rfl])
          | false => exact @decide_eq_false _ (Classical.propDecidable _) (fun h => by
              cases h
              exact absurd (hbb.mpr rfl) (by decide))
        rw [e4] at q1
        exact q1 _ hS7
      · intro H6 hS6 Q1 q1
        walk_at "go"
        exact q1 _ hS6
      · rw [List.map_id'] at hS6
        walk_at "gn"
        refine q0 _ _ ?_ (by walk_at "sa")
        rw [decide_eq_true_iff]
        constructor
        · intro h
          rw [alike_all ds es hl1 (fun i d1 e1 h1 h2 => ?_)]
          have h3 := List.filter_eq_nil_iff.mp h (i : Int) (Sa.mem_rg.mpr ⟨by omega, by have := (List.getElem?_eq_some_iff.mp h2).1; omega⟩)
          have h4 : (@decide (ds[i]? = es[i]?) (Classical.propDecidable _)) = true := by
            cases h5 : (@decide (ds[i]? = es[i]?) (Classical.propDecidable _)) with
            | true => rfl
            | false =>
              exfalso
              apply h3
              show (!(@decide (ds[i]? = es[i]?) (Classical.propDecidable _))) = true
              rw [h5]
              rfl
          have h6 := @of_decide_eq_true _ (Classical.propDecidable _) h4
          rw [h1, h2] at h6
          exact Option.some.inj h6
        · intro h
          have h7 : ds = es := PyData.tuple.inj h
          refine List.filter_eq_nil_iff.mpr (fun i _ h3 => ?_)
          have h4 : (@decide (ds[i.toNat]? = es[i.toNat]?) (Classical.propDecidable _)) = true := @decide_eq_true _ (Classical.propDecidable _) (by rw [h7])
          rw [h4] at h3
          cases h3
    | dict kv => cases hd1
    | _ =>
      simp only [Sa.kList, Sa.kTuple, Bool.or_false, Bool.false_or, Bool.or_true, Bool.true_or, Bool.or_self]
      walk_at "go"
      refine Sa.st_ne rfl ?_
      walk_at "go"
      first
        | (walk_at "yes"
           walk_at "go"
           refine Sa.st_ne rfl ?_
           walk_at "go"
           refine Sa.if_dec (fun h => by cases h) (fun _ => ?_)
           walk_at "go"
           exact q0 _ _ (by simp) hs1.dropM)
        | (refine Sa.if_dec (fun h => by cases h) (fun _ => ?_)
           walk_at "go"
           exact q0 _ _ (by simp) hs1.dropM)
  | dict kv => cases he1
def sp__law_same (K : PySem.W.Frag) : Sp := spn__law_same 4 K
abbrev Ok__law_same (P : Program) (w : World) (K : PySem.W.Frag) (mg : Str → Option Value) (base : Heap) : Prop := ∃ f fd, Fun K "_law_same" "_law_same" s__law_same f fd ∧ mg "_law_same" = some (.ref f) ∧ FnOk P w K mg base CX0 4 f fd ["_law_told", "_law_due"] (sp__law_same K)
theorem ok__law_same {P : Program} {w : World} {K : PySem.W.Frag} {mg : Str → Option Value} {base : Heap} (T : Top K mg) : Ok__law_same P w K mg base := by
  obtain ⟨f, fd, F, m⟩ := T.d__law_same
  have key : ∀ n : Nat, FnOk P w K mg base CX0 (0 + n) f fd ["_law_told", "_law_due"] (spn__law_same n K) := by
    intro n
    induction n with
    | zero => exact Sa.fn_none (spn__law_same_zero K)
    | succ n ih => exact step__law_same T F m n ih
  exact ⟨f, fd, F, m, key 4⟩
theorem call_same {K : PySem.W.Frag} {L : List Fc} {M : List Cell} {H : Hp} {v u : V} {d : PyData} {Q : VK} {E : XK} (hS : SA L M H) (hd : At L M (fD K v d)) (he : At L M (fD K u d)) (hn : d.depth < 4) (hw : wid d ≤ 40000) (ht : noTxt d = true) (q : ∀ H', SA L M H' → Q (.bl true) H') : sp__law_same K ([v, u] ++ []) H Q E :=
  ⟨v, u, rfl, L, M, d, d, hS, hd, he, hn, hw, ht, fun b H' hb hs => by
    obtain rfl : b = true := hb.mpr rfl
    exact q H' hs⟩
theorem call_sameI {K : PySem.W.Frag} {L : List Fc} {M : List Cell} {H : Hp} {i j : Int} {Q : VK} {E : XK} (hS : SA L M H) (e : i = j) (q : ∀ H', SA L M H' → Q (.bl true) H') : sp__law_same K ([.int i, .int j] ++ []) H Q E := by
  subst e
  exact call_same hS Sa.At.int Sa.At.int Sa.depth_int (Nat.zero_le _) rfl q
theorem call_sameB {K : PySem.W.Frag} {L : List Fc} {M : List Cell} {H : Hp} {i j : Bool} {Q : VK} {E : XK} (hS : SA L M H) (e : i = j) (q : ∀ H', SA L M H' → Q (.bl true) H') : sp__law_same K ([.bl i, .bl j] ++ []) H Q E := by
  subst e
  exact call_same hS Sa.At.bl Sa.At.bl Sa.depth_bool (Nat.zero_le _) rfl q

structure G_con where
  x : Option V
  y : Option V
def sp_chains_on_from (K : PySem.W.Frag) : Sp := fun vs H Q _ => ∃ (a : Addr) (ns : List Int), vs = [.ref a] ∧ ∃ (L : List Fc) (M : List Cell), SA L M H ∧ At L M (fL a (ns.map V.int)) ∧ ns.length ≤ 1000 ∧
  ∀ f H', SA L ((f, .lst ((coL ns ns.length).map V.int)) :: M) H' → Q (.ref f) H'
theorem sc_chains_on_from : FnScope ["writes", "many", "found", "index", "seeing", "later"] ["writes"] (defScope s_chains_on_from) := ⟨rfl, rfl, rfl, by decide +kernel, rfl, by decide +kernel, by decide +kernel⟩
abbrev Ok_chains_on_from (P : Program) (w : World) (K : PySem.W.Frag) (mg : Str → Option Value) (base : Heap) : Prop := ∃ f fd, Fun K "chains_on_from" "chains_on_from" s_chains_on_from f fd ∧ mg "chains_on_from" = some (.ref f) ∧ FnOk P w K mg base CX0 1 f fd ["writes"] (sp_chains_on_from K)
theorem ok_chains_on_from {P : Program} {w : World} {K : PySem.W.Frag} {mg : Str → Option Value} {base : Heap} (T : Top K mg) : Ok_chains_on_from P w K mg base := by
  obtain ⟨f, fd, F, m⟩ := T.d_chains_on_from
  refine ⟨f, fd, F, m, F.ok sc_chains_on_from (fun vs H Q E h => by first | (obtain ⟨_, rfl, _⟩ := h; rfl) | (obtain ⟨_, _, rfl, _⟩ := h; rfl) | (obtain ⟨_, _, _, rfl, _⟩ := h; rfl) | (obtain ⟨_, _, _, _, rfl, _⟩ := h; rfl) | (obtain ⟨_, _, _, _, _, rfl, _⟩ := h; rfl) | (obtain ⟨_, _, _, _, _, _, rfl, _⟩ := h; rfl) | (obtain ⟨_, _, _, _, _, _, _, rfl, _⟩ := h; rfl) | (obtain ⟨_, _, _, _, _, _, _, _, rfl, _⟩ := h; rfl)) (fun cdv A outer s H vs Q E hr h => ?_)⟩
  refine ⟨_, (pss_cons (ps_set (i := 1) sc_chains_on_from.nd rfl (.inl rfl) (pe_callB Sa.call_len (by rfl) T.z_len boot_len (pa_cons (pv 0) pa_nil)))
      (pss_cons (ps_set (i := 2) sc_chains_on_from.nd rfl (.inr rfl) (pe_op op_rep (pe_lst (pa_cons pe_int pa_nil)) (pv 1)))
      (pss_cons (ps_for PassesOwn.never rfl (pi_range3 (by rfl) T.z_range (pa_cons (pe_op op_sub (pv 1) pe_int) (pa_cons (pe_un un_neg pe_int) (pa_cons (pe_un un_neg pe_int) pa_nil)))) (pg_name (i := 3) sc_chains_on_from.nd rfl (.inr rfl)) (pss_cons (ps_setLc (i := 4) (own := [("later", 5)]) (g := (gName 5)) (by rfl) sc_chains_on_from.nd rfl rfl (sw_true rfl rfl rfl (by decide +kernel)) (pi_range2 (by rfl) T.z_range (pa_cons (pe_op op_add (pv 3) pe_int) (pa_cons (pv 1) pa_nil))) (blkOk_by (N := ["writes", "many", "found", "index", "seeing", "later"]) (sc := defScope s_chains_on_from) (by decide +kernel)) (fun _ _ _ _ _ => (pg_name (i := 5) sc_chains_on_from.nd rfl (.inl rfl))) (fun _ _ _ _ _ => (pts_one (pt_cmpR op_eq (pe_ix (Sa.ix_listK (K := K) rfl) (pv 0) (pv 5) (fun _ _ => rfl)) (pe_op op_add (pe_ix (Sa.ix_listK (K := K) rfl) (pv 0) (pv 3) (fun _ _ => rfl)) pe_int) (nomark _)))) (fun _ _ _ _ _ => (pe_ix (Sa.ix_listK (K := K) rfl) (pv 2) (pv 5) (fun _ _ => rfl))))
      (pss_one (ps_asg (pe_ifExp (pt_cmpR op_eq (pv 3) (pe_op op_sub (pv 1) pe_int) (nomark _)) pe_int (pe_callB (cr_sum rfl) (by rfl) T.z_sum (by decide +kernel) (pa_cons (pv 4) pa_nil))) (pg_sub (pv 2) (pv 3) set_list)))))
      (pss_one (ps_ret (pv 2)))))), ?_⟩
  obtain ⟨a, ns, rfl, L, M, hS, hA, hl, q⟩ := h
  walk_at "st"
  walk_at "au"
  rename_i z0 Hz hSz f H1 hS1
  clear hS hSz
  refine Sa.st_r3 (n := ns.length) (by omega) (by omega) ?_
  have hrep : List.replicate ((ns.length : Int)).toNat (0 : Int) = coL ns 0 := rfl
  rw [hrep] at hS1
  refine Sa.lp_rngD (γ := G_con) (fun k g => [some (.ref a), some (.int ns.length), some (.ref f), g.x, g.y, none]) (fun _ _ => L) (fun k _ => (f, .lst ((coL ns k).map V.int)) :: M) (fun _ _ => True) ⟨⟨none, none⟩, rfl, trivial, Sa.SA.take hS1 .rest (by walk_at "sam")⟩ ?_ ?_
  · rintro k ⟨x1, x2⟩ H2 hk _ hS2
    try simp only at hS2
    clear hS1
    have hcl := coL_len ns k
    have e1 : ((ns.length : Int) - 1 - (k : Int)) = ((ns.length - 1 - k : Nat) : Int) := by omega
    walk_at "nm"
    rw [e1]
    walk_at "au"
    refine Sa.st_r2c (n := k) (by omega) (by omega) ?_
    refine Sa.lcI_rng (fun e => decide (ns.getD e.toNat 0 = ns.getD (ns.length - 1 - k) 0 + 1)) (fun e => (coL ns k).getD e.toNat 0) (by assumption) (by omega) (fun x => rfl) (fun e Dl acc he0 he1 => ?_) (fun e Dl acc he0 he1 _ => ?_) (fun D H3 hS3 => ?_)
    · intro H6 hS6 Q1 q1
      walk_at "au"
      exact q1 _ hS6
    · intro H6 hS6 Q1 q1
      walk_at "au"
      exact q1 _ hS6
    · clear hS2
      have fin : ∀ (v : Int) (x1 x2 : Option V) (H' : Hp), v = (if k = 0 then 1 else smB ns (coL ns k) ((ns.length - k : Nat) : Int) k (ns.getD (ns.length - 1 - k) 0 + 1)) → SA L ((f, .lst (((coL ns k).set (ns.length - 1 - k) v).map V.int)) :: M) H' →
          Iv (γ := G_con) (fun k g => [some (.ref a), some (.int ns.length), some (.ref f), g.x, g.y, none]) (fun _ _ => L) (fun k _ => (f, .lst ((coL ns k).map V.int)) :: M) (fun _ _ => True) (k + 1) [some (.ref a), some (.int ns.length), some (.ref f), x1, x2, none] H' := fun v x1 x2 H' ev h => by
        subst ev
        exact ⟨⟨x1, x2⟩, rfl, trivial, h⟩
      walk_at "au"
      refine Sa.if_dec (fun h1 => ?_) (fun h1 => ?_)
      · walk_at "au"
        exact fin 1 _ _ _ (by rw [if_pos (by omega)]) (by walk_at "sa2")
      · walk_at "au"
        refine fin (smB ns (coL ns k) ((ns.length - k : Nat) : Int) k (ns.getD (ns.length - 1 - k) 0 + 1)) _ _ _ (by rw [if_neg (by omega)]) ?_
        unfold smB
        rw [show (((ns.length - k : Nat) : Int)) = ((ns.length - 1 - k : Nat) : Int) + 1 by omega]
        walk_at "sa2"
  · rintro ⟨x1, x2⟩ H2 _ hS2
    try simp only at hS2
    clear hS1
    walk_at "nm"
    walk_at "au"
    exact q f _ (by walk_at "sa2")

structure G_cut where
  x : Option V
  y : Option V
  z : Option V
def sp_chains_up_to (K : PySem.W.Frag) : Sp := fun vs H Q _ => ∃ (a : Addr) (ns : List Int), vs = [.ref a] ∧ ∃ (L : List Fc) (M : List Cell), SA L M H ∧ At L M (fL a (ns.map V.int)) ∧ ns.length ≤ 1000 ∧
  ∀ f H', SA L ((f, .lst ((cuL ns ns.length).map V.int)) :: M) H' → Q (.ref f) H'
theorem sc_chains_up_to : FnScope ["writes", "found", "index", "number", "seen", "elder"] ["writes"] (defScope s_chains_up_to) := ⟨rfl, rfl, rfl, by decide +kernel, rfl, by decide +kernel, by decide +kernel⟩
abbrev Ok_chains_up_to (P : Program) (w : World) (K : PySem.W.Frag) (mg : Str → Option Value) (base : Heap) : Prop := ∃ f fd, Fun K "chains_up_to" "chains_up_to" s_chains_up_to f fd ∧ mg "chains_up_to" = some (.ref f) ∧ FnOk P w K mg base CX0 1 f fd ["writes"] (sp_chains_up_to K)
theorem ok_chains_up_to {P : Program} {w : World} {K : PySem.W.Frag} {mg : Str → Option Value} {base : Heap} (T : Top K mg) : Ok_chains_up_to P w K mg base := by
  obtain ⟨f, fd, F, m⟩ := T.d_chains_up_to
  refine ⟨f, fd, F, m, F.ok sc_chains_up_to (fun vs H Q E h => by first | (obtain ⟨_, rfl, _⟩ := h; rfl) | (obtain ⟨_, _, rfl, _⟩ := h; rfl) | (obtain ⟨_, _, _, rfl, _⟩ := h; rfl) | (obtain ⟨_, _, _, _, rfl, _⟩ := h; rfl) | (obtain ⟨_, _, _, _, _, rfl, _⟩ := h; rfl) | (obtain ⟨_, _, _, _, _, _, rfl, _⟩ := h; rfl) | (obtain ⟨_, _, _, _, _, _, _, rfl, _⟩ := h; rfl) | (obtain ⟨_, _, _, _, _, _, _, _, rfl, _⟩ := h; rfl)) (fun cdv A outer s H vs Q E hr h => ?_)⟩
  refine ⟨_, (pss_cons (ps_set (i := 1) sc_chains_up_to.nd rfl (.inr rfl) (pe_lst pa_nil))
      (pss_cons (ps_for PassesOwn.never rfl (pi_enum (by rfl) T.z_enumerate (pa_cons (pv 0) pa_nil)) (pg_tup rfl (pgs_cons (pg_name (i := 2) sc_chains_up_to.nd rfl (.inl rfl)) (pgs_cons (pg_name (i := 3) sc_chains_up_to.nd rfl (.inr rfl)) pgs_nil))) (pss_cons (ps_setLc (i := 4) (own := [("elder", 5)]) (g := (gName 5)) (by rfl) sc_chains_up_to.nd rfl rfl (sw_true rfl rfl rfl (by decide +kernel)) (pi_range1 (by rfl) T.z_range (pa_cons (pv 2) pa_nil)) (blkOk_by (N := ["writes", "found", "index", "number", "seen", "elder"]) (sc := defScope s_chains_up_to) (by decide +kernel)) (fun _ _ _ _ _ => (pg_name (i := 5) sc_chains_up_to.nd rfl (.inl rfl))) (fun _ _ _ _ _ => (pts_one (pt_cmpR op_eq (pe_ix (Sa.ix_listK (K := K) rfl) (pv 0) (pv 5) (fun _ _ => rfl)) (pe_op op_sub (pv 3) pe_int) (nomark _)))) (fun _ _ _ _ _ => (pe_ix (Sa.ix_listK (K := K) rfl) (pv 1) (pv 5) (fun _ _ => rfl))))
      (pss_one (ps_expr (pe_bm PySem.F.plainAttrs_list PySem.F.slot_list_append PySem.F.type_list_append mt_append (pv 1) (pa_cons (pe_ifExp (pt_cmpR op_eq (pv 3) pe_int (nomark _)) pe_int (pe_callB (cr_sum rfl) (by rfl) T.z_sum (by decide +kernel) (pa_cons (pv 4) pa_nil))) pa_nil))))))
      (pss_one (ps_ret (pv 1))))), ?_⟩
  obtain ⟨a, ns, rfl, L, M, hS, hA, hl, q⟩ := h
  walk_at "st"
  walk_at "au"
  rename_i f H1 hS1
  clear hS
  refine Sa.st_e1 hS1 (by walk_at "at") ?_
  refine Sa.lp_enum (γ := G_cut) (fun i g => [some (.ref a), some (.ref f), g.x, g.y, g.z, none]) (fun _ _ => L) (fun i _ => (f, .lst ((cuL ns i).map V.int)) :: M) (fun _ _ => True) ⟨⟨none, none, none⟩, rfl, trivial, hS1⟩ (fun i g _ _ => by walk_at "at") ?_ ?_
  · rintro i y ⟨x1, x2, x3⟩ H2 hy _ hS2
    try simp only at hS2
    clear hS1
    obtain ⟨n, hn, rfl⟩ := Sa.ints_at hy
    have hil := (List.getElem?_eq_some_iff.mp hn).1
    have en : ns.getD i 0 = n := by rw [List.getD_eq_getElem?_getD, hn]; rfl
    have hcl := cuL_len ns i
    walk_at "nm"
    walk_at "au"
    refine Sa.st_r1c (n := i) rfl (by omega) (by omega) ?_
    refine Sa.lcI_rng (fun e => decide (ns.getD e.toNat 0 = n - 1)) (fun e => (cuL ns i).getD e.toNat 0) (by assumption) (by omega) (fun x => rfl) (fun e Dl acc he0 he1 => ?_) (fun e Dl acc he0 he1 _ => ?_) (fun D H3 hS3 => ?_)
    · intro H6 hS6 Q1 q1
      walk_at "au"
      exact q1 _ hS6
    · intro H6 hS6 Q1 q1
      walk_at "au"
      exact q1 _ hS6
    · clear hS2
      walk_at "au"
      refine Sa.if_dec (fun h1 => ?_) (fun h1 => ?_)
      · walk_at "au"
        refine ⟨⟨_, _, _⟩, rfl, trivial, ?_⟩
        show SA L ((f, .lst ((cuL ns i ++ [if ns.getD i 0 = 1 then 1 else smA ns (cuL ns i) i (ns.getD i 0 - 1)]).map V.int)) :: M) _
        rw [if_pos (by omega)]
        walk_at "sa2"
      · walk_at "au"
        refine ⟨⟨_, _, _⟩, rfl, trivial, ?_⟩
        show SA L ((f, .lst ((cuL ns i ++ [if ns.getD i 0 = 1 then 1 else smA ns (cuL ns i) i (ns.getD i 0 - 1)]).map V.int)) :: M) _
        rw [if_neg (by omega), en]
        unfold smA
        walk_at "sa2"
  · rintro ⟨x1, x2, x3⟩ H2 _ hS2
    try simp only [List.length_map] at hS2
    clear hS1
    walk_at "au"
    exact q f _ (by assumption)

def sp_chains_through (K : PySem.W.Frag) : Sp := fun vs H Q _ => ∃ (a : Addr) (ns : List Int), vs = [.ref a] ∧ ∃ (L : List Fc) (M : List Cell), SA L M H ∧ At L M (fL a (ns.map V.int)) ∧ ns.length ≤ 1000 ∧
  ∀ f H', SA L ((f, .lst ((thL ns).map V.int)) :: M) H' → Q (.ref f) H'
local macro_rules | `(tactic| walk_at "call") => `(tactic| first
  | ((with_reducible show sp_chains_on_from _ _ _ _ _); refine ⟨_, _, rfl, _, _, by assumption, by walk_at "at", by omega, fun _ _ _ => ?_⟩)
  | ((with_reducible show sp_chains_up_to _ _ _ _ _); refine ⟨_, _, rfl, _, _, by assumption, by walk_at "at", by omega, fun _ _ _ => ?_⟩))
theorem sc_chains_through : FnScope ["writes", "before", "after"] ["writes"] (defScope s_chains_through) := ⟨rfl, rfl, rfl, by decide +kernel, rfl, by decide +kernel, by decide +kernel⟩
abbrev Ok_chains_through (P : Program) (w : World) (K : PySem.W.Frag) (mg : Str → Option Value) (base : Heap) : Prop := ∃ f fd, Fun K "chains_through" "chains_through" s_chains_through f fd ∧ mg "chains_through" = some (.ref f) ∧ FnOk P w K mg base CX0 2 f fd ["writes"] (sp_chains_through K)
theorem ok_chains_through {P : Program} {w : World} {K : PySem.W.Frag} {mg : Str → Option Value} {base : Heap} (T : Top K mg) (h_chains_on_from : Ok_chains_on_from P w K mg base) (h_chains_up_to : Ok_chains_up_to P w K mg base) : Ok_chains_through P w K mg base := by
  obtain ⟨f, fd, F, m⟩ := T.d_chains_through
  obtain ⟨f_chains_on_from, fd_chains_on_from, F_chains_on_from, m_chains_on_from, G_chains_on_from⟩ := h_chains_on_from
  have b_chains_on_from := F_chains_on_from.binds (ps := ["writes"]) (fun _ _ _ _ _ _ us hl => match us, hl with | [_], _ => rfl)
  obtain ⟨f_chains_up_to, fd_chains_up_to, F_chains_up_to, m_chains_up_to, G_chains_up_to⟩ := h_chains_up_to
  have b_chains_up_to := F_chains_up_to.binds (ps := ["writes"]) (fun _ _ _ _ _ _ us hl => match us, hl with | [_], _ => rfl)
  refine ⟨f, fd, F, m, F.ok sc_chains_through (fun vs H Q E h => by first | (obtain ⟨_, rfl, _⟩ := h; rfl) | (obtain ⟨_, _, rfl, _⟩ := h; rfl) | (obtain ⟨_, _, _, rfl, _⟩ := h; rfl) | (obtain ⟨_, _, _, _, rfl, _⟩ := h; rfl) | (obtain ⟨_, _, _, _, _, rfl, _⟩ := h; rfl) | (obtain ⟨_, _, _, _, _, _, rfl, _⟩ := h; rfl) | (obtain ⟨_, _, _, _, _, _, _, rfl, _⟩ := h; rfl) | (obtain ⟨_, _, _, _, _, _, _, _, rfl, _⟩ := h; rfl)) (fun cdv A outer s H vs Q E hr h => ?_)⟩
  refine ⟨_, (pss_one (ps_ret (pe_lc (own := [("before", 1), ("after", 2)]) (g := (gTup K 2 (gCons (gName 1) (gCons (gName 2) gNil)))) (by rfl) sc_chains_through.nd (RZ.pi_zipA (by rfl) T.z_zip (pa_cons (pe_call G_chains_up_to (hr.mono (by first | decide | omega)) (by rfl) m_chains_up_to F_chains_up_to.kp b_chains_up_to .nil pass0 (pa_cons (pv 0) pa_nil)) (pa_cons (pe_call G_chains_on_from (hr.mono (by first | decide | omega)) (by rfl) m_chains_on_from F_chains_on_from.kp b_chains_on_from .nil pass0 (pa_cons (pv 0) pa_nil)) pa_nil))) (blkOk_by (N := ["writes", "before", "after"]) (sc := defScope s_chains_through) (by decide +kernel)) (fun _ _ _ _ _ => (Sa.pg_tupK (K := K) rfl rfl (pgs_cons (pg_name (i := 1) sc_chains_through.nd rfl (.inl rfl)) (pgs_cons (pg_name (i := 2) sc_chains_through.nd rfl (.inl rfl)) pgs_nil)) rfl)) (fun _ _ _ _ _ => pts_nil) (fun _ _ _ _ _ => (pe_op Sa.op_mulX (pv 1) (pv 2)))))), ?_⟩
  obtain ⟨a, ns, rfl, L, M, hS, hA, hl, q⟩ := h
  have hc1 := cuL_len ns ns.length
  have hc2 := coL_len ns ns.length
  walk_at "st"
  walk_at "au"
  rename_i f1 H1 hS1 f2 H2 hS2
  clear hS hS1
  refine st_zALc hS2 (by walk_at "at") (by walk_at "at") ?_
  refine lcI_zip (fun _ => true) (fun p => p.1 * p.2) hS2 (by walk_at "at") (by walk_at "at") (by omega) (fun x y => rfl) (fun i n Dl acc hm => ?_) (fun i n Dl acc hm _ => ?_) (fun D H3 hS3 => ?_)
  · exact Sa.evT_yes
  · intro H6 hS6 Q1 q1
    walk_at "gn"
    refine Sa.st_I (.inr (.inr (through_ok hl hm))) ?_
    walk_at "au"
    exact q1 _ hS6
  · rw [Sa.filt_true] at hS3
    walk_at "au"
    exact q D _ (Sa.SA.take hS3 .rest (by walk_at "sam"))

def sp_first_wrong (K : PySem.W.Frag) : Sp := fun vs H Q _ => ∃ (a : Addr) (ns : List Int), vs = [.ref a] ∧ ∃ L M, SA L M H ∧ At L M (fL a (ns.map V.int)) ∧
  ∀ H', SA L M H' → Q (optV (fw 0 0 ns)) H'
theorem sc_first_wrong : FnScope ["writes", "greatest", "index", "number"] ["writes"] (defScope s_first_wrong) := ⟨rfl, rfl, rfl, by decide +kernel, rfl, by decide +kernel, by decide +kernel⟩
abbrev Ok_first_wrong (P : Program) (w : World) (K : PySem.W.Frag) (mg : Str → Option Value) (base : Heap) : Prop := ∃ f fd, Fun K "first_wrong" "first_wrong" s_first_wrong f fd ∧ mg "first_wrong" = some (.ref f) ∧ FnOk P w K mg base CX0 1 f fd ["writes"] (sp_first_wrong K)
theorem ok_first_wrong {P : Program} {w : World} {K : PySem.W.Frag} {mg : Str → Option Value} {base : Heap} (T : Top K mg) : Ok_first_wrong P w K mg base := by
  obtain ⟨f, fd, F, m⟩ := T.d_first_wrong
  refine ⟨f, fd, F, m, F.ok sc_first_wrong (fun vs H Q E h => by first | (obtain ⟨_, rfl, _⟩ := h; rfl) | (obtain ⟨_, _, rfl, _⟩ := h; rfl) | (obtain ⟨_, _, _, rfl, _⟩ := h; rfl) | (obtain ⟨_, _, _, _, rfl, _⟩ := h; rfl) | (obtain ⟨_, _, _, _, _, rfl, _⟩ := h; rfl) | (obtain ⟨_, _, _, _, _, _, rfl, _⟩ := h; rfl) | (obtain ⟨_, _, _, _, _, _, _, rfl, _⟩ := h; rfl) | (obtain ⟨_, _, _, _, _, _, _, _, rfl, _⟩ := h; rfl)) (fun cdv A outer s H vs Q E hr h => ?_)⟩
  refine ⟨_, (pss_cons (ps_set (i := 1) sc_first_wrong.nd rfl (.inl rfl) pe_int)
      (pss_cons (ps_for PassesOwn.never rfl (pi_enum (by rfl) T.z_enumerate (pa_cons (pv 0) pa_nil)) (pg_tup rfl (pgs_cons (pg_name (i := 2) sc_first_wrong.nd rfl (.inl rfl)) (pgs_cons (pg_name (i := 3) sc_first_wrong.nd rfl (.inl rfl)) pgs_nil))) (pss_cons (ps_if (pt_not (pt_chain op_le op_le pe_int (pv 3) (pe_op op_add (pv 1) pe_int))) (pss_one (ps_ret (pv 2))) pss_nil)
      (pss_one (ps_set (i := 1) sc_first_wrong.nd rfl (.inl rfl) (pe_callB (Sa.call_max2 rfl) (by rfl) T.z_max (by decide +kernel) (pa_cons (pv 1) (pa_cons (pv 3) pa_nil)))))))
      (pss_one (ps_ret pe_non)))), ?_⟩
  obtain ⟨a, ns, rfl, L, M, hS, hA, q⟩ := h
  walk_at "st"
  walk_at "go"
  have hQ : At L M (fQ K a (ns.map V.int)) := Sa.At.q hA
  refine Sa.st_e1 hS hQ ?_
  refine Sa.lp_enum (γ := Int × Option V × Option V) (fun i g => [some (.ref a), some (.int g.1), g.2.1, g.2.2]) (fun _ _ => L) (fun _ _ => M) (fun i g => fw 0 0 ns = fw g.1 i (ns.drop i)) ⟨(0, none, none), rfl, rfl, hS⟩ (fun _ _ _ _ => hQ) ?_ ?_
  · intro i x g H hx hp hS
    obtain ⟨n, hn, rfl⟩ := Sa.ints_at hx
    have hd := Sa.drop_at hn
    walk_at "go"
    refine Sa.if_dec (fun h1 => ?_) (fun h1 => ?_)
    · walk_at "go"
      refine Sa.if_dec (fun h2 => ?_) (fun h2 => ?_)
      · walk_at "go"
        refine ⟨(max g.1 n, _, _), rfl, ?_, hS⟩
        rw [hp, hd]
        exact if_pos ⟨h1, h2⟩
      · walk_at "go"
        have e : fw 0 0 ns = some i := by
          rw [hp, hd]
          exact if_neg (fun h => h2 h.2)
        have q1 := q H hS
        rw [e] at q1
        exact q1
    · walk_at "go"
      have e : fw 0 0 ns = some i := by
        rw [hp, hd]
        exact if_neg (fun h => h1 h.1)
      have q1 := q H hS
      rw [e] at q1
      exact q1
  · intro g H hp hS
    walk_at "go"
    have e : fw 0 0 ns = none := by
      rw [hp, List.length_map, List.drop_length]
      rfl
    have q1 := q H hS
    rw [e] at q1
    exact q1

def sp_check_possible (K : PySem.W.Frag) : Sp := fun vs H Q _ => ∃ (a : Addr) (ns : List Int), vs = [.ref a] ∧ ∃ (L : List Fc) (M : List Cell), SA L M H ∧ At L M (fL a (ns.map V.int)) ∧ Po ns ∧
  ∀ H', SA L M H' → Q .non H'
local macro_rules | `(tactic| walk_at "call") => `(tactic| first
  | ((with_reducible show sp_first_wrong _ _ _ _ _); refine ⟨_, _, rfl, _, _, by assumption, by walk_at "at", fun _ _ => ?_⟩))
theorem sc_check_possible : FnScope ["writes", "index"] ["writes"] (defScope s_check_possible) := ⟨rfl, rfl, rfl, by decide +kernel, rfl, by decide +kernel, by decide +kernel⟩
abbrev Ok_check_possible (P : Program) (w : World) (K : PySem.W.Frag) (mg : Str → Option Value) (base : Heap) : Prop := ∃ f fd, Fun K "check_possible" "check_possible" s_check_possible f fd ∧ mg "check_possible" = some (.ref f) ∧ FnOk P w K mg base CX0 2 f fd ["writes"] (sp_check_possible K)
theorem ok_check_possible {P : Program} {w : World} {K : PySem.W.Frag} {mg : Str → Option Value} {base : Heap} (T : Top K mg) (h_first_wrong : Ok_first_wrong P w K mg base) : Ok_check_possible P w K mg base := by
  obtain ⟨f, fd, F, m⟩ := T.d_check_possible
  obtain ⟨f_first_wrong, fd_first_wrong, F_first_wrong, m_first_wrong, G_first_wrong⟩ := h_first_wrong
  have b_first_wrong := F_first_wrong.binds (ps := ["writes"]) (fun _ _ _ _ _ _ us hl => match us, hl with | [_], _ => rfl)
  refine ⟨f, fd, F, m, F.ok sc_check_possible (fun vs H Q E h => by first | (obtain ⟨_, rfl, _⟩ := h; rfl) | (obtain ⟨_, _, rfl, _⟩ := h; rfl) | (obtain ⟨_, _, _, rfl, _⟩ := h; rfl) | (obtain ⟨_, _, _, _, rfl, _⟩ := h; rfl) | (obtain ⟨_, _, _, _, _, rfl, _⟩ := h; rfl) | (obtain ⟨_, _, _, _, _, _, rfl, _⟩ := h; rfl) | (obtain ⟨_, _, _, _, _, _, _, rfl, _⟩ := h; rfl) | (obtain ⟨_, _, _, _, _, _, _, _, rfl, _⟩ := h; rfl)) (fun cdv A outer s H vs Q E hr h => ?_)⟩
  refine ⟨_, (pss_cons (ps_set (i := 1) sc_check_possible.nd rfl (.inl rfl) (pe_call G_first_wrong (hr.mono (by first | decide | omega)) (by rfl) m_first_wrong F_first_wrong.kp b_first_wrong .nil pass0 (pa_cons (pv 0) pa_nil)))
      (pss_one (ps_if (pt_cmpR Sa.op_notN (pv 1) pe_non (nomark _)) (pss_one ps_never) pss_nil))), ?_⟩
  obtain ⟨a, ns, rfl, L, M, hS, hA, hP, q⟩ := h
  walk_at "st"
  walk_at "gn"
  refine ⟨a, ns, rfl, L, M, hS, hA, fun H1 hS1 => ?_⟩
  rw [show fw 0 0 ns = none from hP]
  walk_at "gn"
  walk_at "yes"
  walk_at "gn"
  exact q _ hS1

def sp_chains (K : PySem.W.Frag) : Sp := fun vs H Q _ => ∃ (a : Addr) (ns : List Int), vs = [.ref a] ∧ ∃ (L : List Fc) (M : List Cell), SA L M H ∧ At L M (fL a (ns.map V.int)) ∧ Po ns ∧ ns.length ≤ 1000 ∧
  ∀ H', SA L M H' → Q (.int (chN ns)) H'
local macro_rules | `(tactic| walk_at "call") => `(tactic| first
  | ((with_reducible show sp_chains_up_to _ _ _ _ _); refine ⟨_, _, rfl, _, _, by assumption, by walk_at "at", by omega, fun _ _ _ => ?_⟩)
  | ((with_reducible show sp_check_possible _ _ _ _ _); refine ⟨_, _, rfl, _, _, by assumption, by walk_at "at", by assumption, fun _ _ => ?_⟩))
theorem sc_chains : FnScope ["writes"] ["writes"] (defScope s_chains) := ⟨rfl, rfl, rfl, by decide +kernel, rfl, by decide +kernel, by decide +kernel⟩
abbrev Ok_chains (P : Program) (w : World) (K : PySem.W.Frag) (mg : Str → Option Value) (base : Heap) : Prop := ∃ f fd, Fun K "chains" "chains" s_chains f fd ∧ mg "chains" = some (.ref f) ∧ FnOk P w K mg base CX0 3 f fd ["writes"] (sp_chains K)
theorem ok_chains {P : Program} {w : World} {K : PySem.W.Frag} {mg : Str → Option Value} {base : Heap} (T : Top K mg) (h_chains_up_to : Ok_chains_up_to P w K mg base) (h_check_possible : Ok_check_possible P w K mg base) : Ok_chains P w K mg base := by
  obtain ⟨f, fd, F, m⟩ := T.d_chains
  obtain ⟨f_chains_up_to, fd_chains_up_to, F_chains_up_to, m_chains_up_to, G_chains_up_to⟩ := h_chains_up_to
  have b_chains_up_to := F_chains_up_to.binds (ps := ["writes"]) (fun _ _ _ _ _ _ us hl => match us, hl with | [_], _ => rfl)
  obtain ⟨f_check_possible, fd_check_possible, F_check_possible, m_check_possible, G_check_possible⟩ := h_check_possible
  have b_check_possible := F_check_possible.binds (ps := ["writes"]) (fun _ _ _ _ _ _ us hl => match us, hl with | [_], _ => rfl)
  refine ⟨f, fd, F, m, F.ok sc_chains (fun vs H Q E h => by first | (obtain ⟨_, rfl, _⟩ := h; rfl) | (obtain ⟨_, _, rfl, _⟩ := h; rfl) | (obtain ⟨_, _, _, rfl, _⟩ := h; rfl) | (obtain ⟨_, _, _, _, rfl, _⟩ := h; rfl) | (obtain ⟨_, _, _, _, _, rfl, _⟩ := h; rfl) | (obtain ⟨_, _, _, _, _, _, rfl, _⟩ := h; rfl) | (obtain ⟨_, _, _, _, _, _, _, rfl, _⟩ := h; rfl) | (obtain ⟨_, _, _, _, _, _, _, _, rfl, _⟩ := h; rfl)) (fun cdv A outer s H vs Q E hr h => ?_)⟩
  refine ⟨_, (pss_cons (ps_expr (pe_call G_check_possible (hr.mono (by first | decide | omega)) (by rfl) m_check_possible F_check_possible.kp b_check_possible .nil pass0 (pa_cons (pv 0) pa_nil)))
      (pss_one (ps_ret (pe_ifExp (pt_cmpR op_gt (pe_callB Sa.call_len (by rfl) T.z_len boot_len (pa_cons (pv 0) pa_nil)) pe_int (nomark _)) (pe_ix ix_list (pe_call G_chains_up_to (hr.mono (by first | decide | omega)) (by rfl) m_chains_up_to F_chains_up_to.kp b_chains_up_to .nil pass0 (pa_cons (pv 0) pa_nil)) (pe_un un_neg pe_int) (fun _ _ => rfl)) pe_int)))), ?_⟩
  obtain ⟨a, ns, rfl, L, M, hS, hA, hP, hl, q⟩ := h
  have hcl := cuL_len ns ns.length
  walk_at "st"
  walk_at "au"
  refine Sa.if_dec (fun h1 => ?_) (fun h1 => ?_)
  · walk_at "au"
    rename_i H2 f H3 hS3
    have q1 := q H3 (by walk_at "sa2")
    unfold chN at q1
    rw [if_neg (by omega)] at q1
    rw [show ((-1 : Int) + ((cuL ns ns.length).length : Int)).toNat = ns.length - 1 by omega]
    exact q1
  · walk_at "au"
    rename_i H3 hS3
    have q1 := q H3 hS3
    unfold chN at q1
    rw [if_pos (by omega)] at q1
    exact q1

def sp_surely_counted (K : PySem.W.Frag) : Sp := fun vs H Q _ => ∃ (a : Addr) (ns : List Int), vs = [.ref a] ∧ ∃ (L : List Fc) (M : List Cell), SA L M H ∧ At L M (fL a (ns.map V.int)) ∧ Po ns ∧ ns.length ≤ 1000 ∧
  ∀ f H', SA L ((f, .lst ((suL ns).map V.int)) :: M) H' → Q (.ref f) H'
local macro_rules | `(tactic| walk_at "call") => `(tactic| first
  | ((with_reducible show sp_chains_through _ _ _ _ _); refine ⟨_, _, rfl, _, _, by assumption, by walk_at "at", by omega, fun _ _ _ => ?_⟩)
  | ((with_reducible show sp_chains _ _ _ _ _); refine ⟨_, _, rfl, _, _, by assumption, by walk_at "at", by assumption, by omega, fun _ _ => ?_⟩))
theorem sc_surely_counted : FnScope ["writes", "total", "index", "many"] ["writes"] (defScope s_surely_counted) := ⟨rfl, rfl, rfl, by decide +kernel, rfl, by decide +kernel, by decide +kernel⟩
abbrev Ok_surely_counted (P : Program) (w : World) (K : PySem.W.Frag) (mg : Str → Option Value) (base : Heap) : Prop := ∃ f fd, Fun K "surely_counted" "surely_counted" s_surely_counted f fd ∧ mg "surely_counted" = some (.ref f) ∧ FnOk P w K mg base CX0 4 f fd ["writes"] (sp_surely_counted K)
theorem ok_surely_counted {P : Program} {w : World} {K : PySem.W.Frag} {mg : Str → Option Value} {base : Heap} (T : Top K mg) (h_chains_through : Ok_chains_through P w K mg base) (h_chains : Ok_chains P w K mg base) : Ok_surely_counted P w K mg base := by
  obtain ⟨f, fd, F, m⟩ := T.d_surely_counted
  obtain ⟨f_chains_through, fd_chains_through, F_chains_through, m_chains_through, G_chains_through⟩ := h_chains_through
  have b_chains_through := F_chains_through.binds (ps := ["writes"]) (fun _ _ _ _ _ _ us hl => match us, hl with | [_], _ => rfl)
  obtain ⟨f_chains, fd_chains, F_chains, m_chains, G_chains⟩ := h_chains
  have b_chains := F_chains.binds (ps := ["writes"]) (fun _ _ _ _ _ _ us hl => match us, hl with | [_], _ => rfl)
  refine ⟨f, fd, F, m, F.ok sc_surely_counted (fun vs H Q E h => by first | (obtain ⟨_, rfl, _⟩ := h; rfl) | (obtain ⟨_, _, rfl, _⟩ := h; rfl) | (obtain ⟨_, _, _, rfl, _⟩ := h; rfl) | (obtain ⟨_, _, _, _, rfl, _⟩ := h; rfl) | (obtain ⟨_, _, _, _, _, rfl, _⟩ := h; rfl) | (obtain ⟨_, _, _, _, _, _, rfl, _⟩ := h; rfl) | (obtain ⟨_, _, _, _, _, _, _, rfl, _⟩ := h; rfl) | (obtain ⟨_, _, _, _, _, _, _, _, rfl, _⟩ := h; rfl)) (fun cdv A outer s H vs Q E hr h => ?_)⟩
  refine ⟨_, (pss_cons (ps_set (i := 1) sc_surely_counted.nd rfl (.inr rfl) (pe_call G_chains (hr.mono (by first | decide | omega)) (by rfl) m_chains F_chains.kp b_chains .nil pass0 (pa_cons (pv 0) pa_nil)))
      (pss_one (ps_ret (pe_lc (own := [("index", 2), ("many", 3)]) (g := (gTup K 2 (gCons (gName 2) (gCons (gName 3) gNil)))) (by rfl) sc_surely_counted.nd (pi_enum (by rfl) T.z_enumerate (pa_cons (pe_call G_chains_through (hr.mono (by first | decide | omega)) (by rfl) m_chains_through F_chains_through.kp b_chains_through .nil pass0 (pa_cons (pv 0) pa_nil)) pa_nil)) (blkOk_by (N := ["writes", "total", "index", "many"]) (sc := defScope s_surely_counted) (by decide +kernel)) (fun _ _ _ _ _ => (Sa.pg_tupK (K := K) rfl rfl (pgs_cons (pg_name (i := 2) sc_surely_counted.nd rfl (.inl rfl)) (pgs_cons (pg_name (i := 3) sc_surely_counted.nd rfl (.inl rfl)) pgs_nil)) rfl)) (fun _ _ _ _ _ => (pts_one (pt_cmpR op_eq (pv 3) (pv 1) (nomark _)))) (fun _ _ _ _ _ => (pv 2)))))), ?_⟩
  obtain ⟨a, ns, rfl, L, M, hS, hA, hP, hl, q⟩ := h
  have htl := thL_len ns
  walk_at "st"
  walk_at "au"
  rename_i H1 hS1 f H2 hS2
  clear hS hS1
  refine Sa.st_e1c hS2 (by walk_at "at") ?_
  refine Sa.lcI_enum (fun p => decide (p.2 = chN ns)) (fun p => p.1) hS2 (by walk_at "at") (by omega) (fun x y => rfl) (fun i n Dl acc hm => ?_) (fun i n Dl acc hm _ => ?_) (fun D H3 hS3 => ?_)
  · intro H6 hS6 Q1 q1
    walk_at "au"
    exact q1 _ hS6
  · intro H6 hS6 Q1 q1
    walk_at "au"
    exact q1 _ hS6
  · have e := suL_eq ns
    rw [← e] at hS3
    walk_at "au"
    exact q D _ (Sa.SA.take hS3 .rest (by walk_at "sam"))

def sp_may_have_counted (K : PySem.W.Frag) : Sp := fun vs H Q _ => ∃ (a : Addr) (ns : List Int), vs = [.ref a] ∧ ∃ (L : List Fc) (M : List Cell), SA L M H ∧ At L M (fL a (ns.map V.int)) ∧ Po ns ∧ ns.length ≤ 1000 ∧
  ∀ f H', SA L ((f, .lst ((mkL ns).map V.int)) :: M) H' → Q (.ref f) H'
local macro_rules | `(tactic| walk_at "call") => `(tactic| first
  | ((with_reducible show sp_chains_through _ _ _ _ _); refine ⟨_, _, rfl, _, _, by assumption, by walk_at "at", by omega, fun _ _ _ => ?_⟩)
  | ((with_reducible show sp_check_possible _ _ _ _ _); refine ⟨_, _, rfl, _, _, by assumption, by walk_at "at", by assumption, fun _ _ => ?_⟩))
theorem sc_may_have_counted : FnScope ["writes", "index", "many"] ["writes"] (defScope s_may_have_counted) := ⟨rfl, rfl, rfl, by decide +kernel, rfl, by decide +kernel, by decide +kernel⟩
abbrev Ok_may_have_counted (P : Program) (w : World) (K : PySem.W.Frag) (mg : Str → Option Value) (base : Heap) : Prop := ∃ f fd, Fun K "may_have_counted" "may_have_counted" s_may_have_counted f fd ∧ mg "may_have_counted" = some (.ref f) ∧ FnOk P w K mg base CX0 3 f fd ["writes"] (sp_may_have_counted K)
theorem ok_may_have_counted {P : Program} {w : World} {K : PySem.W.Frag} {mg : Str → Option Value} {base : Heap} (T : Top K mg) (h_chains_through : Ok_chains_through P w K mg base) (h_check_possible : Ok_check_possible P w K mg base) : Ok_may_have_counted P w K mg base := by
  obtain ⟨f, fd, F, m⟩ := T.d_may_have_counted
  obtain ⟨f_chains_through, fd_chains_through, F_chains_through, m_chains_through, G_chains_through⟩ := h_chains_through
  have b_chains_through := F_chains_through.binds (ps := ["writes"]) (fun _ _ _ _ _ _ us hl => match us, hl with | [_], _ => rfl)
  obtain ⟨f_check_possible, fd_check_possible, F_check_possible, m_check_possible, G_check_possible⟩ := h_check_possible
  have b_check_possible := F_check_possible.binds (ps := ["writes"]) (fun _ _ _ _ _ _ us hl => match us, hl with | [_], _ => rfl)
  refine ⟨f, fd, F, m, F.ok sc_may_have_counted (fun vs H Q E h => by first | (obtain ⟨_, rfl, _⟩ := h; rfl) | (obtain ⟨_, _, rfl, _⟩ := h; rfl) | (obtain ⟨_, _, _, rfl, _⟩ := h; rfl) | (obtain ⟨_, _, _, _, rfl, _⟩ := h; rfl) | (obtain ⟨_, _, _, _, _, rfl, _⟩ := h; rfl) | (obtain ⟨_, _, _, _, _, _, rfl, _⟩ := h; rfl) | (obtain ⟨_, _, _, _, _, _, _, rfl, _⟩ := h; rfl) | (obtain ⟨_, _, _, _, _, _, _, _, rfl, _⟩ := h; rfl)) (fun cdv A outer s H vs Q E hr h => ?_)⟩
  refine ⟨_, (pss_cons (ps_expr (pe_call G_check_possible (hr.mono (by first | decide | omega)) (by rfl) m_check_possible F_check_possible.kp b_check_possible .nil pass0 (pa_cons (pv 0) pa_nil)))
      (pss_one (ps_ret (pe_lc (own := [("index", 1), ("many", 2)]) (g := (gTup K 2 (gCons (gName 1) (gCons (gName 2) gNil)))) (by rfl) sc_may_have_counted.nd (pi_enum (by rfl) T.z_enumerate (pa_cons (pe_call G_chains_through (hr.mono (by first | decide | omega)) (by rfl) m_chains_through F_chains_through.kp b_chains_through .nil pass0 (pa_cons (pv 0) pa_nil)) pa_nil)) (blkOk_by (N := ["writes", "index", "many"]) (sc := defScope s_may_have_counted) (by decide +kernel)) (fun _ _ _ _ _ => (Sa.pg_tupK (K := K) rfl rfl (pgs_cons (pg_name (i := 1) sc_may_have_counted.nd rfl (.inl rfl)) (pgs_cons (pg_name (i := 2) sc_may_have_counted.nd rfl (.inl rfl)) pgs_nil)) rfl)) (fun _ _ _ _ _ => (pts_one (pt_cmpR op_gt (pv 2) pe_int (nomark _)))) (fun _ _ _ _ _ => (pv 1)))))), ?_⟩
  obtain ⟨a, ns, rfl, L, M, hS, hA, hP, hl, q⟩ := h
  have htl := thL_len ns
  walk_at "st"
  walk_at "au"
  rename_i H1 hS1 f H2 hS2
  clear hS hS1
  refine Sa.st_e1c hS2 (by walk_at "at") ?_
  refine Sa.lcI_enum (fun p => decide (0 < p.2)) (fun p => p.1) hS2 (by walk_at "at") (by omega) (fun x y => rfl) (fun i n Dl acc hm => ?_) (fun i n Dl acc hm _ => ?_) (fun D H3 hS3 => ?_)
  · intro H6 hS6 Q1 q1
    walk_at "au"
    exact q1 _ hS6
  · intro H6 hS6 Q1 q1
    walk_at "au"
    exact q1 _ hS6
  · have e := mkL_eq hP
    rw [← e] at hS3
    walk_at "au"
    exact q D _ (Sa.SA.take hS3 .rest (by walk_at "sam"))

def sp__law_pick (K : PySem.W.Frag) : Sp := fun vs H Q _ => ∃ (p : Addr) (n : Int), vs = [.ref p, .int n] ∧ ∃ (L : List Fc) (M : List Cell) (o : HO) (k : Int), SA L ((p, o) :: M) H ∧ Jar o k ∧ 0 < n ∧ n ≤ 1000000000000000000000000000000 ∧ k ≤ 1000000000 ∧
  ∀ r o' k' H', 0 ≤ r → r < n → Jar o' k' → k' ≤ k + 1 → SA L ((p, o') :: M) H' → Q (.int r) H'
theorem sc__law_pick : FnScope ["_law_jar_here", "_law_many", "_law_digit", "_law_mixed"] ["_law_jar_here", "_law_many"] (defScope s__law_pick) := ⟨rfl, rfl, rfl, by decide +kernel, rfl, by decide +kernel, by decide +kernel⟩
abbrev Ok__law_pick (P : Program) (w : World) (K : PySem.W.Frag) (mg : Str → Option Value) (base : Heap) : Prop := ∃ f fd, Fun K "_law_pick" "_law_pick" s__law_pick f fd ∧ mg "_law_pick" = some (.ref f) ∧ FnOk P w K mg base CX0 1 f fd ["_law_jar_here", "_law_many"] (sp__law_pick K)
theorem ok__law_pick {P : Program} {w : World} {K : PySem.W.Frag} {mg : Str → Option Value} {base : Heap} (T : Top K mg) : Ok__law_pick P w K mg base := by
  obtain ⟨f, fd, F, m⟩ := T.d__law_pick
  refine ⟨f, fd, F, m, F.ok sc__law_pick (fun vs H Q E h => by first | (obtain ⟨_, rfl, _⟩ := h; rfl) | (obtain ⟨_, _, rfl, _⟩ := h; rfl) | (obtain ⟨_, _, _, rfl, _⟩ := h; rfl) | (obtain ⟨_, _, _, _, rfl, _⟩ := h; rfl) | (obtain ⟨_, _, _, _, _, rfl, _⟩ := h; rfl) | (obtain ⟨_, _, _, _, _, _, rfl, _⟩ := h; rfl) | (obtain ⟨_, _, _, _, _, _, _, rfl, _⟩ := h; rfl) | (obtain ⟨_, _, _, _, _, _, _, _, rfl, _⟩ := h; rfl)) (fun cdv A outer s H vs Q E hr h => ?_)⟩
  refine ⟨_, (pss_cons (ps_if (pt_cmpR op_gt (pe_ix ix_list (pv 0) pe_int (fun _ _ => rfl)) pe_int (nomark _)) (pss_cons (ps_set (i := 2) sc__law_pick.nd rfl (.inl rfl) (pe_op Sa.op_modX (pe_callTy Sa.call_int1 (by rfl) T.z_int (by decide +kernel) (pa_cons (pe_ix ix_list (pv 0) pe_int (fun _ _ => rfl)) pa_nil)) (pv 1)))
      (pss_cons (ps_asg (pe_op Sa.op_fdivX (pe_ix ix_list (pv 0) pe_int (fun _ _ => rfl)) (pv 1)) (pg_sub (pv 0) pe_int set_list))
      (pss_one (ps_ret (pv 2))))) pss_nil)
      (pss_cons (ps_asg (pe_op op_add (pe_ix ix_list (pv 0) pe_int (fun _ _ => rfl)) pe_int) (pg_sub (pv 0) pe_int set_list))
      (pss_cons (ps_set (i := 3) sc__law_pick.nd rfl (.inl rfl) (pe_op Sa.op_modX (pe_op Sa.op_powW (pe_callTy Sa.call_int1 (by rfl) T.z_int (by decide +kernel) (pa_cons (pe_op op_add (pe_ix ix_list (pv 0) pe_int (fun _ _ => rfl)) (pe_op Sa.op_mulX pe_int (pe_ix ix_list (pv 0) pe_int (fun _ _ => rfl)))) pa_nil)) pe_int) (pe_op op_add (pe_op Sa.op_powW pe_int pe_int) pe_int)))
      (pss_cons (ps_set (i := 3) sc__law_pick.nd rfl (.inl rfl) (pe_op Sa.op_modX (pe_op Sa.op_powW (pe_callTy Sa.call_int1 (by rfl) T.z_int (by decide +kernel) (pa_cons (pe_op op_add (pv 3) (pe_op Sa.op_mulX pe_int (pe_ix ix_list (pv 0) pe_int (fun _ _ => rfl)))) pa_nil)) pe_int) (pe_op op_add (pe_op Sa.op_powW pe_int pe_int) pe_int)))
      (pss_one (ps_ret (pe_op Sa.op_modX (pe_callTy Sa.call_int1 (by rfl) T.z_int (by decide +kernel) (pa_cons (pe_op Sa.op_fdivX (pv 3) pe_int) pa_nil)) (pv 1)))))))), ?_⟩
  obtain ⟨p, n, rfl, L, M, o, k, hS, ⟨c, m0, rfl, hc, hm0, hm1, hk⟩, hn, hn2, hk2, q⟩ := h
  walk_at "st"
  walk_at "go"
  refine Sa.if_dec (fun h2 => ?_) (fun h2 => ?_)
  · walk_at "go"
    exact q _ _ k _ (Int.emod_nonneg _ (by omega)) (Int.emod_lt_of_pos _ hn) ⟨c / n, m0, rfl, Int.ediv_nonneg hc (by omega), hm0, hm1, hk⟩ (by omega) (by assumption)
  · walk_at "go"
    exact q _ _ (k + 1) _ (Int.emod_nonneg _ (by omega)) (Int.emod_lt_of_pos _ hn) ⟨c, m0, rfl, hc, hm0, hm1, by omega⟩ (by omega) (by assumption)
theorem call_pick {K : PySem.W.Frag} {L : List Fc} {M : List Cell} {H : Hp} {p : Addr} {o : HO} {n k : Int} {Q : VK} {E : XK} (hS : SA L ((p, o) :: M) H) (hj : Jar o k) (h0 : 0 < n) (h1 : n ≤ 1000000000000000000000000000000) (hk : k ≤ 1000000000)
    (q : ∀ r o' k' H', 0 ≤ r → r < n → Jar o' k' → k' ≤ k + 1 → SA L ((p, o') :: M) H' → Q (.int r) H') : sp__law_pick K ([.ref p, .int n] ++ []) H Q E :=
  ⟨p, n, rfl, L, M, o, k, hS, hj, h0, h1, hk, q⟩

structure G_cl where
  f : Addr
  vs : List V
  x : Option V
  y : Option V
theorem cut_e1 (xs : List V) : cutV xs (some (-1)) none = xs.drop (xs.length - 1) := by
  unfold cutV
  have e : HT.sIx xs.length 0 (some (-1)) = xs.length - 1 := by
    show (if (-1 : Int) < 0 then ((-1 : Int) + (xs.length : Int)).toNat else min (-1 : Int).toNat xs.length) = xs.length - 1
    rw [if_pos (by decide)]
    omega
  rw [HT.sIx_none, e, List.take_of_length_le (by rw [List.length_drop]; exact Nat.le_refl _)]
theorem drop_lst {C : List Int} {m : Int} : C.drop (C.length - 1) = [m] ↔ 0 < C.length ∧ C.getD (C.length - 1) 0 = m := by
  by_cases h : 0 < C.length
  · have e : C.drop (C.length - 1) = [C.getD (C.length - 1) 0] := by
      rw [List.drop_eq_getElem_cons (by omega), List.drop_of_length_le (by omega), List.getD_eq_getElem?_getD, List.getElem?_eq_getElem (by omega)]
      rfl
    rw [e]
    constructor
    · intro z
      exact ⟨h, List.head_eq_of_cons_eq z⟩
    · rintro ⟨_, z⟩
      rw [z]
  · have e : C = [] := List.length_eq_zero_iff.mp (by omega)
    subst e
    constructor
    · intro z
      cases z
    · rintro ⟨z, _⟩
      exact absurd z (Nat.lt_irrefl _)
def sp__law_chain_lists (K : PySem.W.Frag) : Sp := fun vs H Q _ => ∃ (a : Addr), vs = [.ref a] ∧ ∃ (L : List Fc) (M : List Cell) (ns : List Int), SA L M H ∧ At L M (fL a (ns.map V.int)) ∧ Po ns ∧ ns.length ≤ 12 ∧
  ∀ f xs (ls : List (List Int)) H', (∀ C, C ∈ ls ↔ Cn ns C) → ls.length ≤ 4096 → SA (fLs xs ls :: L) ((f, .lst xs) :: M) H' → Q (.ref f) H'
theorem sc__law_chain_lists : FnScope ["_law_row", "_law_lines", "_law_spot", "_law_number", "_law_line"] ["_law_row"] (defScope s__law_chain_lists) := ⟨rfl, rfl, rfl, by decide +kernel, rfl, by decide +kernel, by decide +kernel⟩
abbrev Ok__law_chain_lists (P : Program) (w : World) (K : PySem.W.Frag) (mg : Str → Option Value) (base : Heap) : Prop := ∃ f fd, Fun K "_law_chain_lists" "_law_chain_lists" s__law_chain_lists f fd ∧ mg "_law_chain_lists" = some (.ref f) ∧ FnOk P w K mg base CX0 1 f fd ["_law_row"] (sp__law_chain_lists K)
theorem ok__law_chain_lists {P : Program} {w : World} {K : PySem.W.Frag} {mg : Str → Option Value} {base : Heap} (T : Top K mg) : Ok__law_chain_lists P w K mg base := by
  obtain ⟨f, fd, F, m⟩ := T.d__law_chain_lists
  refine ⟨f, fd, F, m, F.ok sc__law_chain_lists (fun vs H Q E h => by first | (obtain ⟨_, rfl, _⟩ := h; rfl) | (obtain ⟨_, _, rfl, _⟩ := h; rfl) | (obtain ⟨_, _, _, rfl, _⟩ := h; rfl) | (obtain ⟨_, _, _, _, rfl, _⟩ := h; rfl) | (obtain ⟨_, _, _, _, _, rfl, _⟩ := h; rfl) | (obtain ⟨_, _, _, _, _, _, rfl, _⟩ := h; rfl) | (obtain ⟨_, _, _, _, _, _, _, rfl, _⟩ := h; rfl) | (obtain ⟨_, _, _, _, _, _, _, _, rfl, _⟩ := h; rfl)) (fun cdv A outer s H vs Q E hr h => ?_)⟩
  refine ⟨_, (pss_cons (ps_if (pt_cmpR (op_eqD hr.units) (pv 0) (pe_lst pa_nil) (nomark _)) (pss_one (ps_ret (pe_lst (pa_cons (pe_lst pa_nil) pa_nil)))) pss_nil)
      (pss_cons (ps_set (i := 1) sc__law_chain_lists.nd rfl (.inl rfl) (pe_lst (pa_cons (pe_lst pa_nil) pa_nil)))
      (pss_cons (ps_for PassesOwn.never rfl (pi_enum (by rfl) T.z_enumerate (pa_cons (pv 0) pa_nil)) (pg_tup rfl (pgs_cons (pg_name (i := 2) sc__law_chain_lists.nd rfl (.inr rfl)) (pgs_cons (pg_name (i := 3) sc__law_chain_lists.nd rfl (.inr rfl)) pgs_nil))) (pss_one (ps_set (i := 1) sc__law_chain_lists.nd rfl (.inl rfl) (pe_op op_cat (pv 1) (pe_lc (own := [("_law_line", 4)]) (g := (gName 4)) (by rfl) sc__law_chain_lists.nd (pi_list (pv 1)) (blkOk_by (N := ["_law_row", "_law_lines", "_law_spot", "_law_number", "_law_line"]) (sc := defScope s__law_chain_lists) (by decide +kernel)) (fun _ _ _ _ _ => (pg_name (i := 4) sc__law_chain_lists.nd rfl (.inl rfl))) (fun _ _ _ _ _ => (pts_one (pt_cmpR op_eq (pe_callB (Sa.call_lenK (K := K) rfl) (by rfl) T.z_len boot_len (pa_cons (pv 4) pa_nil)) (pe_op op_sub (pv 3) pe_int) (nomark _)))) (fun _ _ _ _ _ => (pe_op op_cat (pv 4) (pe_lst (pa_cons (pv 2) pa_nil)))))))))
      (pss_one (ps_ret (pe_callB (cr_sortedL hr.units) (by rfl) T.z_sorted (by decide +kernel) (pa_cons (pe_lc (own := [("_law_line", 4)]) (g := (gName 4)) (by rfl) sc__law_chain_lists.nd (pi_list (pv 1)) (blkOk_by (N := ["_law_row", "_law_lines", "_law_spot", "_law_number", "_law_line"]) (sc := defScope s__law_chain_lists) (by decide +kernel)) (fun _ _ _ _ _ => (pg_name (i := 4) sc__law_chain_lists.nd rfl (.inl rfl))) (fun _ _ _ _ _ => (pts_one (pt_cmpR (Sa.op_eqDK (K := K) hr.units rfl) (pe_slice (Sa.sl_listK (K := K) rfl) (pv 4) (po_some (pe_un un_neg pe_int)) po_none) (pe_lst (pa_cons (pe_op op_sub (pe_callB (Sa.call_lenK (K := K) rfl) (by rfl) T.z_len boot_len (pa_cons (pv 0) pa_nil)) pe_int) pa_nil)) (nomark _)))) (fun _ _ _ _ _ => (pv 4))) pa_nil))))))), ?_⟩
  obtain ⟨a, rfl, L, M, ns, hS, hA, hP, hl, q⟩ := h
  walk_at "st"
  walk_at "gn"
  rename_i e0 H1 hS1
  clear hS
  refine Sa.if_dec (fun hn => ?_) (fun hn => ?_)
  · subst hn
    walk_at "gn"
    rename_i i1 H2 hS2 i2 H3 hS3
    have hS4 : SA (fLs [.ref i1] [[]] :: L) ((i2, .lst [.ref i1]) :: M) H3 := by
      have h := (Sa.SA.front (a := i1) hS3 (by walk_at "del")).fzL
      have g := h.ad (f := fLs [.ref i1] [[]]) fun F hF => by
        have h1 : F i1 = some (.lst []) := hF _ List.mem_cons_self
        exact LsA.cons (l := []) h1 .nil
      exact Sa.SA.take g (.cons .hd (.tl (.tl .rest))) (by walk_at "sam")
    exact q i2 [.ref i1] [[]] _ (fun C => by rw [List.mem_singleton, cn_nil]) (by decide) hS4
  have hpos : 0 < ns.length := List.length_pos_iff.mpr hn
  walk_at "gn"
  rename_i ea H2 hS2 fd H3 hS3
  have hS4 : SA (fLs [.ref ea] (lnL ns 0) :: L) ((fd, .lst [.ref ea]) :: M) H3 := by
    have h := (Sa.SA.front (a := ea) hS3 (by walk_at "del")).fzL
    have g := h.ad (f := fLs [.ref ea] (lnL ns 0)) fun F hF => by
      have h1 : F ea = some (.lst []) := hF _ List.mem_cons_self
      exact LsA.cons (l := []) h1 .nil
    exact Sa.SA.take g (.cons .hd (.tl (.tl .rest))) (by walk_at "sam")
  clear hS1 hS2 hS3
  refine Sa.st_e1 hS4 (by walk_at "at") ?_
  refine Sa.lp_enum (γ := G_cl) (fun i g => [some (.ref a), some (.ref g.f), g.x, g.y, none]) (fun i g => fLs g.vs (lnL ns i) :: L) (fun i g => (g.f, .lst g.vs) :: M) (fun _ _ => True) ⟨⟨fd, _, none, none⟩, rfl, trivial, hS4⟩ (fun i g _ _ => by walk_at "at") ?_ ?_
  · rintro i y ⟨fd, vs, x1, x2⟩ H5 hy _ hS5
    try simp only at hS5
    clear hS4
    obtain ⟨n, hn1, rfl⟩ := Sa.ints_at hy
    have hil := (List.getElem?_eq_some_iff.mp hn1).1
    have en : ns.getD i 0 = n := by rw [List.getD_eq_getElem?_getD, hn1]; rfl
    have hb := lnL_len ns i
    have hb2 : 2 ^ i ≤ 2 ^ 11 := Nat.pow_le_pow_right (by decide) (by omega)
    have hb3 : (2 : Nat) ^ 11 = 2048 := by decide
    have hvl : vs.length = (lnL ns i).length := LsA.len (hS5.ask (f := fLs vs (lnL ns i)) .hd)
    have hv := po_at hP (i := i) (by omega)
    have hv2 := top_le_len (po_take hP i)
    rw [List.length_take] at hv2
    walk_at "nm"
    walk_at "gn"
    refine Sa.st_l1c hS5 (by walk_at "at") ?_
    refine lcL_ls (fun C => decide ((C.length : Int) = n - 1)) (fun C => C ++ [(i : Int)]) hS5 (by walk_at "at") List.mem_cons_self (by omega) (fun x => rfl) (fun l T Dl ys ms hm => ?_) (fun l T Dl ys ms hm hp => ?_) (fun Dl ys H6 hS6 => ?_)
    · intro H7 hS7 Q1 q1
      walk_at "gn"
      exact q1 _ hS7
    · intro H7 hS7 Q1 q1
      have hp2 := of_decide_eq_true hp
      have hlb : l.length ≤ 12 := by omega
      walk_at "gn"
      rename_i t1 H8 hS8 t2 H9 hS9
      have h := Sa.SA.fzL (Sa.SA.front (a := t2) hS9 (by walk_at "del"))
      exact q1 t2 _ (Sa.SA.take h .rest (by walk_at "sam"))
    have hyl : ys.length = _ := LsA.len (hS6.ask (f := fLs ys _) .hd)
    have hyb := lnL_len ns (i + 1)
    have hnx : lnL ns (i + 1) = lnL ns i ++ ((lnL ns i).filter fun C => decide ((C.length : Int) = n - 1)).map (· ++ [(i : Int)]) := by
      show lnL ns i ++ _ = _
      rw [en]
    have hb4 : (2 : Nat) ^ (i + 1) ≤ 2 ^ 12 := Nat.pow_le_pow_right (by decide) (by omega)
    have hb5 : (2 : Nat) ^ 12 = 4096 := by decide
    have hsum : vs.length + ys.length = (lnL ns (i + 1)).length := by rw [hnx, List.length_append, hvl, hyl]
    walk_at "gn"
    refine Sa.st_cat hS6 (by walk_at "at") (by walk_at "at") (by omega) (fun p H7 hS7 => ?_)
    have hS8 : SA (fLs (vs ++ ys) (lnL ns (i + 1)) :: L) ((p, .lst (vs ++ ys)) :: M) H7 := by
      have z := hS7.ad (f := fLs (vs ++ ys) (lnL ns (i + 1))) fun F hF => by
        rw [hnx]
        exact LsA.app (hF _ List.mem_cons_self) (hF _ (List.mem_cons_of_mem _ List.mem_cons_self))
      walk_at "sa2"
    clear hS5 hS6 hS7
    walk_at "gn"
    exact ⟨⟨p, _, _, _⟩, rfl, trivial, hS8⟩
  · rintro ⟨fd, vs, x1, x2⟩ H5 _ hS5
    try simp only [List.length_map] at hS5
    clear hS4
    have hb := lnL_len ns ns.length
    have hb2 : 2 ^ ns.length ≤ 2 ^ 12 := Nat.pow_le_pow_right (by decide) hl
    have hb3 : (2 : Nat) ^ 12 = 4096 := by decide
    walk_at "gn"
    refine Sa.st_l1c hS5 (by walk_at "at") ?_
    refine lcL_ls (fun C => decide (C.drop (C.length - 1) = [(ns.length : Int) - 1])) (fun C => C) hS5 (by walk_at "at") List.mem_cons_self (by omega) (fun x => rfl) (fun l T Dl ys ms hm => ?_) (fun l T Dl ys ms hm _ => ?_) (fun Dl ys H6 hS6 => ?_)
    · intro H7 hS7 Q1 q1
      walk_at "gn"
      refine Sa.st_slL hS7 (by walk_at "at") (fun p H8 hS8 => ?_)
      rw [cut_e1, List.length_map, ← List.map_drop] at hS8
      walk_at "gn"
      rename_i p2 H9 hS9
      refine Sa.st_eqL (ns := l.drop (l.length - 1)) (ms := [(ns.length : Int) - 1]) hS9 (by walk_at "at") (by walk_at "at") ?_
      exact ⟨_, rfl, q1 _ (by walk_at "sa2")⟩
    · intro H7 hS7 Q1 q1
      walk_at "gn"
      exact q1 T _ (by walk_at "sa2")
    rw [show ((lnL ns ns.length).filter fun C => decide (C.drop (C.length - 1) = [(ns.length : Int) - 1])).map (fun C => C) = (lnL ns ns.length).filter fun C => decide (C.drop (C.length - 1) = [(ns.length : Int) - 1]) by simp] at hS6
    have hfl := List.length_filter_le (fun C : List Int => decide (C.drop (C.length - 1) = [(ns.length : Int) - 1])) (lnL ns ns.length)
    walk_at "gn"
    refine st_sortL hS6 (by walk_at "at") List.mem_cons_self (fun p zs ms H7 hms hS7 => ?_)
    refine q p zs ms _ (fun C => ?_) ?_ (by walk_at "sa2")
    · rw [hms, List.mem_mergeSort, List.mem_filter, decide_eq_true_iff, drop_lst, lnL_mem, ln_cn hpos, show ((ns.length - 1 : Nat) : Int) = (ns.length : Int) - 1 by omega]
    · rw [hms, List.length_mergeSort]
      omega

structure G_list where
  F : List Int
  t : Int
  o : HO
  k : Int
  x : Option V
  y : Option V
def sp__law_list (K : PySem.W.Frag) : Sp := fun vs H Q _ => ∃ (p : Addr) (n : Int), vs = [.ref p, .int n] ∧ ∃ (L : List Fc) (M : List Cell) (o : HO) (k : Int), SA L ((p, o) :: M) H ∧ Jar o k ∧ 0 ≤ n ∧ n ≤ 1000 ∧ k ≤ 900000000 ∧
  ∀ f ns o' k' H', Po ns → (ns.length : Int) ≤ n → Jar o' k' → k' ≤ k + 10000 → SA L ((f, .lst (ns.map V.int)) :: (p, o') :: M) H' → Q (.ref f) H'
local macro_rules | `(tactic| walk_at "call") => `(tactic| first
  | ((with_reducible show sp__law_pick _ _ _ _ _); refine call_pick (Sa.SA.front (by assumption) (by walk_at "del")) (by assumption) (by omega) (by omega) (by omega) (fun _ _ _ _ _ _ _ _ _ => ?_)))
theorem sc__law_list : FnScope ["_law_jar_here", "_law_cap", "_law_way", "_law_size", "_law_found", "_law_top", "_law_turn", "_law_number"] ["_law_jar_here", "_law_cap"] (defScope s__law_list) := ⟨rfl, rfl, rfl, by decide +kernel, rfl, by decide +kernel, by decide +kernel⟩
abbrev Ok__law_list (P : Program) (w : World) (K : PySem.W.Frag) (mg : Str → Option Value) (base : Heap) : Prop := ∃ f fd, Fun K "_law_list" "_law_list" s__law_list f fd ∧ mg "_law_list" = some (.ref f) ∧ FnOk P w K mg base CX0 2 f fd ["_law_jar_here", "_law_cap"] (sp__law_list K)
theorem ok__law_list {P : Program} {w : World} {K : PySem.W.Frag} {mg : Str → Option Value} {base : Heap} (T : Top K mg) (h__law_pick : Ok__law_pick P w K mg base) : Ok__law_list P w K mg base := by
  obtain ⟨f, fd, F, m⟩ := T.d__law_list
  obtain ⟨f__law_pick, fd__law_pick, F__law_pick, m__law_pick, G__law_pick⟩ := h__law_pick
  have b__law_pick := F__law_pick.binds (ps := ["_law_jar_here", "_law_many"]) (fun _ _ _ _ _ _ us hl => match us, hl with | [_, _], _ => rfl)
  refine ⟨f, fd, F, m, F.ok sc__law_list (fun vs H Q E h => by first | (obtain ⟨_, rfl, _⟩ := h; rfl) | (obtain ⟨_, _, rfl, _⟩ := h; rfl) | (obtain ⟨_, _, _, rfl, _⟩ := h; rfl) | (obtain ⟨_, _, _, _, rfl, _⟩ := h; rfl) | (obtain ⟨_, _, _, _, _, rfl, _⟩ := h; rfl) | (obtain ⟨_, _, _, _, _, _, rfl, _⟩ := h; rfl) | (obtain ⟨_, _, _, _, _, _, _, rfl, _⟩ := h; rfl) | (obtain ⟨_, _, _, _, _, _, _, _, rfl, _⟩ := h; rfl)) (fun cdv A outer s H vs Q E hr h => ?_)⟩
  refine ⟨_, (pss_cons (ps_par (i := 2) (j := 3) (by rfl) sc__law_list.nd rfl rfl (by decide) rfl rfl (pa_cons (pe_call G__law_pick (hr.mono (by first | decide | omega)) (by rfl) m__law_pick F__law_pick.kp b__law_pick .nil pass0 (pa_cons (pv 0) (pa_cons pe_int pa_nil))) (pa_cons (pe_call G__law_pick (hr.mono (by first | decide | omega)) (by rfl) m__law_pick F__law_pick.kp b__law_pick .nil pass0 (pa_cons (pv 0) (pa_cons (pe_op op_add (pv 1) pe_int) pa_nil))) pa_nil)) (by rfl))
      (pss_cons (ps_par (i := 4) (j := 5) (by rfl) sc__law_list.nd rfl rfl (by decide) rfl rfl (pa_cons (pe_lst pa_nil) (pa_cons pe_int pa_nil)) (by rfl))
      (pss_cons (ps_for PassesOwn.never rfl (pi_range1 (by rfl) T.z_range (pa_cons (pv 3) pa_nil)) (pg_name (i := 6) sc__law_list.nd rfl (.inl rfl)) (pss_cons (ps_set (i := 7) sc__law_list.nd rfl (.inl rfl) (pe_op op_add pe_int (pe_call G__law_pick (hr.mono (by first | decide | omega)) (by rfl) m__law_pick F__law_pick.kp b__law_pick .nil pass0 (pa_cons (pv 0) (pa_cons (pe_op op_add (pv 5) pe_int) pa_nil)))))
      (Evl.pss_cut (ps_if (PW.pt (pw_and (pt_cmpR op_eq (pv 2) pe_int (nomark _)) (pw_and1 (pt_cmpR op_gt (pe_call G__law_pick (hr.mono (by first | decide | omega)) (by rfl) m__law_pick F__law_pick.kp b__law_pick .nil pass0 (pa_cons (pv 0) (pa_cons pe_int pa_nil))) pe_int (nomark _))))) (pss_one (ps_set (i := 7) sc__law_list.nd rfl (.inl rfl) (pe_op op_add (pv 5) pe_int))) pss_nil)
      (Evl.pss_cut (ps_if (pt_cmpR op_eq (pv 2) pe_int (nomark _)) (pss_one (ps_set (i := 7) sc__law_list.nd rfl (.inl rfl) (pe_callB (Sa.call_min2 rfl) (by rfl) T.z_min (by decide +kernel) (pa_cons (pv 7) (pa_cons (pe_op op_add pe_int (pe_call G__law_pick (hr.mono (by first | decide | omega)) (by rfl) m__law_pick F__law_pick.kp b__law_pick .nil pass0 (pa_cons (pv 0) (pa_cons pe_int pa_nil)))) pa_nil))))) pss_nil)
      (Evl.pss_cut (ps_if (PW.pt (pw_and (pt_cmpR op_gt (pv 2) pe_int (nomark _)) (pw_and1 (pt_cmpR op_gt (pe_call G__law_pick (hr.mono (by first | decide | omega)) (by rfl) m__law_pick F__law_pick.kp b__law_pick .nil pass0 (pa_cons (pv 0) (pa_cons pe_int pa_nil))) pe_int (nomark _))))) (pss_one (ps_set (i := 7) sc__law_list.nd rfl (.inl rfl) (pe_op op_add pe_int (pe_ix ix_list (pe_op op_cat (pe_lst (pa_cons pe_int (pa_cons pe_int (pa_cons pe_int pa_nil)))) (pv 4)) (pe_op op_sub (pe_un un_neg pe_int) (pe_call G__law_pick (hr.mono (by first | decide | omega)) (by rfl) m__law_pick F__law_pick.kp b__law_pick .nil pass0 (pa_cons (pv 0) (pa_cons (pe_op op_sub (pv 2) pe_int) pa_nil)))) (fun _ _ => rfl))))) pss_nil)
      (pss_cons (ps_expr (pe_bm PySem.F.plainAttrs_list PySem.F.slot_list_append PySem.F.type_list_append mt_append (pv 4) (pa_cons (pv 7) pa_nil)))
      (pss_one (ps_set (i := 5) sc__law_list.nd rfl (.inl rfl) (pe_callB (Sa.call_max2 rfl) (by rfl) T.z_max (by decide +kernel) (pa_cons (pv 5) (pa_cons (pv 7) pa_nil)))))))))))
      (pss_one (ps_ret (pv 4)))))), ?_⟩
  obtain ⟨p, n, rfl, L, M, o, k, hS, hj, hn, hn2, hk, q⟩ := h
  walk_at "st"
  walk_at "go"
  refine call_pick (by assumption) (by assumption) (by omega) (by omega) (by omega) (fun way o1 k1 H1 hm0 hm1 hj1 hk1 hS1 => ?_)
  walk_at "go"
  refine call_pick (by assumption) (by assumption) (by omega) (by omega) (by omega) (fun size o2 k2 H2 hs0 hs1 hj2 hk2 hS2 => ?_)
  walk_at "go"
  refine Sa.st_newL (by assumption) (by walk_at "om") (fun f H3 hS3 => ?_)
  walk_at "go"
  refine Sa.st_r1 (n := _) rfl (by omega) (by omega) ?_
  refine Sa.lp_rng (γ := G_list) (fun i g => [some (.ref p), some (.int n), some (.int way), some (.int size), some (.ref f), some (.int g.t), g.x, g.y]) (fun _ _ => L) (fun _ g => (f, .lst (g.F.map V.int)) :: (p, g.o) :: M)
    (fun i g => Po g.F ∧ g.t = top g.F ∧ g.F.length = i ∧ Jar g.o g.k ∧ g.k ≤ k + 2 + 6 * i) ⟨⟨[], 0, o2, k2, none, none⟩, rfl, ⟨po_nil, rfl, rfl, hj2, by show k2 ≤ k + 2 + 6 * ((0 : Nat) : Int); omega⟩, hS3⟩ ?_ ?_
  · rintro i ⟨F, t, o4, k4, x, y⟩ H4 hi ⟨hP, ht, hl, hj4, hk4⟩ hS4
    simp only at hP ht hl hj4 hk4 hS4
    have ht0 := top_nonneg F
    have ht1 := top_le_len hP
    have htl : ∀ b : Int, b ∈ F → b ≤ t := fun b hb => by rw [ht]; exact le_top hb
    have hpo := po_pos hP
    walk_at "nm"
    walk_at "go"
    refine call_pick (Sa.SA.front (by assumption) (by walk_at "del")) (by assumption) (by omega) (by omega) (by omega) (fun r1 o5 k5 H5 hr0 hr1 hj5 hk5 hS5 => ?_)
    walk_at "go"
    -- three times: a number x from 1 to t + 1
    refine Sa.st_cut (Mid := fun σ H => ∃ (x : Int) (o6 : HO) (k6 : Int), σ = [some (.ref p), some (.int n), some (.int way), some (.int size), some (.ref f), some (.int t), some (.int (0 + (i : Int))), some (.int x)] ∧ SA L ((f, .lst (F.map V.int)) :: (p, o6) :: M) H ∧ Jar o6 k6 ∧ k6 ≤ k4 + 2 ∧ 1 ≤ x ∧ x ≤ t + 1) ?_ ?_
    · walk_at "go"
      refine Sa.if_dec (fun hw => ?_) (fun hw => ?_)
      · walk_at "go"
        refine call_pick (Sa.SA.front (by assumption) (by walk_at "del")) (by assumption) (by omega) (by omega) (by omega) (fun r2 o6 k6 H6 hr2 hr3 hj6 hk6 hS6 => ?_)
        walk_at "go"
        refine Sa.if_dec (fun h3 => ?_) (fun h3 => ?_)
        · walk_at "go"
          exact ⟨_, o6, k6, rfl, by walk_at "sa", hj6, by omega, by omega, by omega⟩
        · walk_at "go"
          exact ⟨_, o6, k6, rfl, by walk_at "sa", hj6, by omega, by omega, by omega⟩
      · walk_at "go"
        exact ⟨_, o5, k5, rfl, by walk_at "sa", hj5, by omega, by omega, by omega⟩
    clear hS5 hj5 hr0 hr1 hk5
    rintro _ H6 ⟨x1, o6, k6, rfl, hS6, hj6, hk6, hx0, hx1⟩
    refine Sa.st_cut (Mid := fun σ H => ∃ (x : Int) (o6 : HO) (k6 : Int), σ = [some (.ref p), some (.int n), some (.int way), some (.int size), some (.ref f), some (.int t), some (.int (0 + (i : Int))), some (.int x)] ∧ SA L ((f, .lst (F.map V.int)) :: (p, o6) :: M) H ∧ Jar o6 k6 ∧ k6 ≤ k4 + 3 ∧ 1 ≤ x ∧ x ≤ t + 1) ?_ ?_
    · walk_at "go"
      refine Sa.if_dec (fun hw => ?_) (fun hw => ?_)
      · walk_at "go"
        refine call_pick (Sa.SA.front (by assumption) (by walk_at "del")) (by assumption) (by omega) (by omega) (by omega) (fun r2 o7 k7 H7 hr2 hr3 hj7 hk7 hS7 => ?_)
        walk_at "go"
        exact ⟨_, o7, k7, rfl, by walk_at "sa", hj7, by omega, by omega, by omega⟩
      · walk_at "go"
        exact ⟨_, o6, k6, rfl, by walk_at "sa", hj6, by omega, by omega, by omega⟩
    clear hS6 hj6 hk6 hx0 hx1
    rintro _ H6 ⟨x1, o6, k6, rfl, hS6, hj6, hk6, hx0, hx1⟩
    refine Sa.st_cut (Mid := fun σ H => ∃ (x : Int) (o6 : HO) (k6 : Int), σ = [some (.ref p), some (.int n), some (.int way), some (.int size), some (.ref f), some (.int t), some (.int (0 + (i : Int))), some (.int x)] ∧ SA L ((f, .lst (F.map V.int)) :: (p, o6) :: M) H ∧ Jar o6 k6 ∧ k6 ≤ k4 + 5 ∧ 1 ≤ x ∧ x ≤ t + 1) ?_ ?_
    · walk_at "go"
      refine Sa.if_dec (fun hw => ?_) (fun hw => ?_)
      · walk_at "go"
        refine call_pick (Sa.SA.front (by assumption) (by walk_at "del")) (by assumption) (by omega) (by omega) (by omega) (fun r2 o7 k7 H7 hr2 hr3 hj7 hk7 hS7 => ?_)
        walk_at "go"
        refine Sa.if_dec (fun h3 => ?_) (fun h3 => ?_)
        · walk_at "gn"
          refine Sa.st_cat3 (by assumption) (by walk_at "at") (by walk_at "at") (by walk_at "om") (fun g3 H8 hS8 => ?_)
          walk_at "gn"
          refine call_pick (Sa.SA.front (by assumption) (by walk_at "del")) (by assumption) (by omega) (by omega) (by omega) (fun r3 o8 k8 H9 hr4 hr5 hj8 hk8 hS9 => ?_)
          walk_at "gn"
          have hb := getD_mem (ns := [0, 0, 0] ++ F) (i := (-1 - r3 + (([0, 0, 0] ++ F).length : Int)).toNat) (by walk_at "om")
          generalize ([0, 0, 0] ++ F).getD (-1 - r3 + (([0, 0, 0] ++ F).length : Int)).toNat 0 = b at hb ⊢
          have hb1 : 0 ≤ b ∧ b ≤ t := by
            rcases List.mem_append.mp hb with h4 | h4
            · simp only [List.mem_cons, List.not_mem_nil, or_false] at h4
              omega
            · have h5 := htl b h4
              have h6 := hpo b h4
              omega
          exact ⟨_, o8, k8, rfl, by walk_at "sa", hj8, by omega, by omega, by omega⟩
        · walk_at "go"
          exact ⟨_, o7, k7, rfl, by walk_at "sa", hj7, by omega, by omega, by omega⟩
      · walk_at "go"
        exact ⟨_, o6, k6, rfl, by walk_at "sa", hj6, by omega, by omega, by omega⟩
    clear hS6 hj6 hk6 hx0 hx1
    rintro _ H6 ⟨x1, o6, k6, rfl, hS6, hj6, hk6, hx0, hx1⟩
    walk_at "go"
    exact ⟨⟨F ++ [x1], max t x1, o6, k6, _, _⟩, rfl, ⟨po_snoc.mpr ⟨hP, hx0, by omega⟩, by rw [top_snoc, ht], by rw [List.length_append, hl]; rfl, hj6, by show k6 ≤ k + 2 + 6 * ((i + 1 : Nat) : Int); omega⟩, by walk_at "sa"⟩
  · rintro ⟨F, t, o4, k4, x, y⟩ H4 ⟨hP, ht, hl, hj4, hk4⟩ hS4
    simp only at hP ht hl hj4 hk4 hS4
    walk_at "go"
    exact q f F o4 k4 H4 hP (by omega) hj4 (by omega) hS4

theorem st_eqLs {K : PySem.W.Frag} {L : List Fc} {M : List Cell} {H : Hp} {a b : Addr} {Q : VK} {vs : List V} {ls : List (List Int)} (hS : SA L M H) (h1 : At L M (fQ K a vs)) (h2 : At L M (fLs vs ls)) (h3 : At L M (fQ K b [])) (q : Q (.bl (decide (ls = []))) H) : rEqD K (.ref a) (.ref b) H Q :=
  ⟨_, .list [], (at_ls h1 h2) H hS, .lst (h3 H hS) .nil, shaped_ls ls, by rfl, by
    rw [show PyData.eqv (.list (ls.map lD)) (.list []) = decide (ls = []) by cases ls <;> rfl]
    exact q⟩
theorem cut_b1 (xs : List V) : cutV xs none (some (-1)) = xs.take (xs.length - 1) := by
  unfold cutV
  have e : HT.sIx xs.length xs.length (some (-1)) = xs.length - 1 := by
    show (if (-1 : Int) < 0 then ((-1 : Int) + (xs.length : Int)).toNat else min (-1 : Int).toNat xs.length) = xs.length - 1
    rw [if_pos (by decide)]
    omega
  rw [HT.sIx_none, e, List.drop_zero, Nat.sub_zero]
def sp__law_right (K : PySem.W.Frag) : Sp := fun vs H Q _ => ∃ (p : Addr) (n : Int), vs = [.ref p, .int n] ∧ ∃ (L : List Fc) (M : List Cell) (o : HO), SA L ((p, o) :: M) H ∧ Jar o 0 ∧ 0 ≤ n ∧ n ≤ 12 ∧
  ∀ H', SA L M H' → Q (.bl true) H'
local macro_rules | `(tactic| walk_at "call") => `(tactic| first
  | ((with_reducible show sp__law_same _ ([V.int _, V.int _] ++ []) _ _ _); refine call_sameI (by assumption) (by omega) (fun _ _ => ?_))
  | ((with_reducible show sp__law_same _ ([V.bl _, V.bl _] ++ []) _ _ _); refine call_sameB (by assumption) (by first | rfl | (rw [Bool.eq_iff_iff]; simp only [Bool.and_eq_true, Bool.or_eq_true, Bool.not_eq_true', decide_eq_true_eq, decide_eq_false_iff_not, Bool.false_eq_true, iff_false, iff_true]; omega)) (fun _ _ => ?_))
  | ((with_reducible show sp__law_same _ _ _ _ _); refine call_same (by assumption) (by walk_at "atD") (by walk_at "atD") (by walk_at "dp") (by walk_at "dw") (by walk_at "dt") (fun _ _ => ?_))
  | ((with_reducible show sp_surely_counted _ _ _ _ _); refine ⟨_, _, rfl, _, _, by assumption, by walk_at "at", by assumption, by omega, fun _ _ _ => ?_⟩)
  | ((with_reducible show sp_may_have_counted _ _ _ _ _); refine ⟨_, _, rfl, _, _, by assumption, by walk_at "at", by assumption, by omega, fun _ _ _ => ?_⟩)
  | ((with_reducible show sp__law_pick _ _ _ _ _); refine call_pick (Sa.SA.front (by assumption) (by walk_at "del")) (by assumption) (by omega) (by omega) (by omega) (fun _ _ _ _ _ _ _ _ _ => ?_))
  | ((with_reducible show sp__law_list _ _ _ _ _); refine ⟨_, _, rfl, _, _, _, _, (Sa.SA.front (by assumption) (by walk_at "del")), by assumption, by omega, by omega, by omega, fun _ _ _ _ _ _ _ _ _ _ => ?_⟩))
theorem sc__law_right : FnScope ["_law_jar_here", "_law_cap", "_law_row", "_law_passed", "_law_every", "_law_some", "_law_sure", "_law_told", "_law_other", "_law_spot", "_law_line"] ["_law_jar_here", "_law_cap"] (defScope s__law_right) := ⟨rfl, rfl, rfl, by decide +kernel, rfl, by decide +kernel, by decide +kernel⟩
abbrev Ok__law_right (P : Program) (w : World) (K : PySem.W.Frag) (mg : Str → Option Value) (base : Heap) : Prop := ∃ f fd, Fun K "_law_right" "_law_right" s__law_right f fd ∧ mg "_law_right" = some (.ref f) ∧ FnOk P w K mg base CX0 5 f fd ["_law_jar_here", "_law_cap"] (sp__law_right K)
theorem ok__law_right {P : Program} {w : World} {K : PySem.W.Frag} {mg : Str → Option Value} {base : Heap} (T : Top K mg) (h__law_same : Ok__law_same P w K mg base) (h_surely_counted : Ok_surely_counted P w K mg base) (h_may_have_counted : Ok_may_have_counted P w K mg base) (h__law_pick : Ok__law_pick P w K mg base) (h__law_chain_lists : Ok__law_chain_lists P w K mg base) (h__law_list : Ok__law_list P w K mg base) : Ok__law_right P w K mg base := by
  obtain ⟨f, fd, F, m⟩ := T.d__law_right
  obtain ⟨f__law_same, fd__law_same, F__law_same, m__law_same, G__law_same⟩ := h__law_same
  have b__law_same := F__law_same.binds (ps := ["_law_told", "_law_due"]) (fun _ _ _ _ _ _ us hl => match us, hl with | [_, _], _ => rfl)
  obtain ⟨f_surely_counted, fd_surely_counted, F_surely_counted, m_surely_counted, G_surely_counted⟩ := h_surely_counted
  have b_surely_counted := F_surely_counted.binds (ps := ["writes"]) (fun _ _ _ _ _ _ us hl => match us, hl with | [_], _ => rfl)
  obtain ⟨f_may_have_counted, fd_may_have_counted, F_may_have_counted, m_may_have_counted, G_may_have_counted⟩ := h_may_have_counted
  have b_may_have_counted := F_may_have_counted.binds (ps := ["writes"]) (fun _ _ _ _ _ _ us hl => match us, hl with | [_], _ => rfl)
  obtain ⟨f__law_pick, fd__law_pick, F__law_pick, m__law_pick, G__law_pick⟩ := h__law_pick
  have b__law_pick := F__law_pick.binds (ps := ["_law_jar_here", "_law_many"]) (fun _ _ _ _ _ _ us hl => match us, hl with | [_, _], _ => rfl)
  obtain ⟨f__law_chain_lists, fd__law_chain_lists, F__law_chain_lists, m__law_chain_lists, G__law_chain_lists⟩ := h__law_chain_lists
  have b__law_chain_lists := F__law_chain_lists.binds (ps := ["_law_row"]) (fun _ _ _ _ _ _ us hl => match us, hl with | [_], _ => rfl)
  obtain ⟨f__law_list, fd__law_list, F__law_list, m__law_list, G__law_list⟩ := h__law_list
  have b__law_list := F__law_list.binds (ps := ["_law_jar_here", "_law_cap"]) (fun _ _ _ _ _ _ us hl => match us, hl with | [_, _], _ => rfl)
  have kb_surely_counted_writes := Sa.kb0 (ps := ["writes"]) (ks := ["writes"]) F_surely_counted (by decide) (fun _ _ _ _ _ _ ws hl => match ws, hl with | [_], _ => rfl)
  have kb_may_have_counted_writes := Sa.kb0 (ps := ["writes"]) (ks := ["writes"]) F_may_have_counted (by decide) (fun _ _ _ _ _ _ ws hl => match ws, hl with | [_], _ => rfl)
  refine ⟨f, fd, F, m, F.ok sc__law_right (fun vs H Q E h => by first | (obtain ⟨_, rfl, _⟩ := h; rfl) | (obtain ⟨_, _, rfl, _⟩ := h; rfl) | (obtain ⟨_, _, _, rfl, _⟩ := h; rfl) | (obtain ⟨_, _, _, _, rfl, _⟩ := h; rfl) | (obtain ⟨_, _, _, _, _, rfl, _⟩ := h; rfl) | (obtain ⟨_, _, _, _, _, _, rfl, _⟩ := h; rfl) | (obtain ⟨_, _, _, _, _, _, _, rfl, _⟩ := h; rfl) | (obtain ⟨_, _, _, _, _, _, _, _, rfl, _⟩ := h; rfl)) (fun cdv A outer s H vs Q E hr h => ?_)⟩
  refine ⟨_, (pss_cons (ps_set (i := 2) sc__law_right.nd rfl (.inl rfl) (pe_call G__law_list (hr.mono (by first | decide | omega)) (by rfl) m__law_list F__law_list.kp b__law_list .nil pass0 (pa_cons (pv 0) (pa_cons (pv 1) pa_nil))))
      (pss_cons (ps_asg (pe_tup (pa_cons (pe_callTy Sa.call_list_of (by rfl) T.z_list (by decide +kernel) (pa_cons (pv 2) pa_nil)) (pa_cons (pe_call G__law_chain_lists (hr.mono (by first | decide | omega)) (by rfl) m__law_chain_lists F__law_chain_lists.kp b__law_chain_lists .nil pass0 (pa_cons (pv 2) pa_nil)) pa_nil))) (pg_tup rfl (pgs_cons (pg_name (i := 3) sc__law_right.nd rfl (.inl rfl)) (pgs_cons (pg_name (i := 4) sc__law_right.nd rfl (.inr rfl)) pgs_nil))))
      (pss_cons (ps_setLc (i := 5) (own := [("_law_spot", 9)]) (g := (gName 9)) (by rfl) sc__law_right.nd rfl rfl (sw_true rfl rfl rfl (by decide +kernel)) (pi_range1 (by rfl) T.z_range (pa_cons (pe_callB Sa.call_len (by rfl) T.z_len boot_len (pa_cons (pv 2) pa_nil)) pa_nil)) (blkOk_by (N := ["_law_jar_here", "_law_cap", "_law_row", "_law_passed", "_law_every", "_law_some", "_law_sure", "_law_told", "_law_other", "_law_spot", "_law_line"]) (sc := defScope s__law_right) (by decide +kernel)) (fun _ _ _ _ _ => (pg_name (i := 9) sc__law_right.nd rfl (.inr rfl))) (fun _ _ _ _ _ => (pts_one (pt_cmpR (Sa.op_neDK (K := K) hr.units rfl) (pe_lc (own := [("_law_line", 10)]) (g := (gName 10)) (by rfl) sc__law_right.nd (pi_listK (K := K) rfl (pv 4)) (blkOk_by (N := ["_law_jar_here", "_law_cap", "_law_row", "_law_passed", "_law_every", "_law_some", "_law_sure", "_law_told", "_law_other", "_law_spot", "_law_line"]) (by kernel_rfl)) (fun _ _ _ _ _ => (pg_name (i := 10) sc__law_right.nd rfl (.inl rfl))) (fun _ _ _ _ _ => (pts_one (pt_cmpR (Sa.op_in_seqK (K := K) rfl) (pv 9) (pv 10) (by first | rfl | exact nomark _)))) (fun _ _ _ _ _ => (pv 10))) (pe_lst pa_nil) (nomark _)))) (fun _ _ _ _ _ => (pv 9)))
      (pss_cons (ps_setLc (i := 6) (own := [("_law_spot", 9)]) (g := (gName 9)) (by rfl) sc__law_right.nd rfl rfl (sw_true rfl rfl rfl (by decide +kernel)) (pi_list (pv 5)) (blkOk_by (N := ["_law_jar_here", "_law_cap", "_law_row", "_law_passed", "_law_every", "_law_some", "_law_sure", "_law_told", "_law_other", "_law_spot", "_law_line"]) (sc := defScope s__law_right) (by decide +kernel)) (fun _ _ _ _ _ => (pg_name (i := 9) sc__law_right.nd rfl (.inr rfl))) (fun _ _ _ _ _ => (pts_one (pt_cmpR (Sa.op_eqDK (K := K) hr.units rfl) (pe_lc (own := [("_law_line", 10)]) (g := (gName 10)) (by rfl) sc__law_right.nd (pi_listK (K := K) rfl (pv 4)) (blkOk_by (N := ["_law_jar_here", "_law_cap", "_law_row", "_law_passed", "_law_every", "_law_some", "_law_sure", "_law_told", "_law_other", "_law_spot", "_law_line"]) (by kernel_rfl)) (fun _ _ _ _ _ => (pg_name (i := 10) sc__law_right.nd rfl (.inl rfl))) (fun _ _ _ _ _ => (pts_one (pt_cmpR (Sa.op_notIn_seqK (K := K) rfl) (pv 9) (pv 10) (by first | rfl | exact nomark _)))) (fun _ _ _ _ _ => (pv 10))) (pe_lst pa_nil) (nomark _)))) (fun _ _ _ _ _ => (pv 9)))
      (pss_cons (ps_set (i := 7) sc__law_right.nd rfl (.inl rfl) (pe_call G_surely_counted (hr.mono (by first | decide | omega)) (by rfl) m_surely_counted F_surely_counted.kp b_surely_counted .nil pass0 (pa_cons (pv 3) pa_nil)))
      (pss_cons (ps_if (pt_not (pt_val (pe_call G__law_same (hr.mono (by first | decide | omega)) (by rfl) m__law_same F__law_same.kp b__law_same .nil pass0 (pa_cons (pv 7) (pa_cons (pv 6) pa_nil))))) (pss_one (ps_ret pe_bl)) pss_nil)
      (pss_cons (ps_set (i := 8) sc__law_right.nd rfl (.inl rfl) (pe_call G_may_have_counted (hr.mono (by first | decide | omega)) (by rfl) m_may_have_counted F_may_have_counted.kp b_may_have_counted .nil pass0 (pa_cons (pv 3) pa_nil)))
      (pss_cons (ps_if (pt_not (pt_val (pe_call G__law_same (hr.mono (by first | decide | omega)) (by rfl) m__law_same F__law_same.kp b__law_same .nil pass0 (pa_cons (pv 8) (pa_cons (pv 5) pa_nil))))) (pss_one (ps_ret pe_bl)) pss_nil)
      (pss_cons (ps_expr (pe_bm PySem.F.plainAttrs_list PySem.F.slot_list_append PySem.F.type_list_append mt_append (pv 7) (pa_cons (pe_call G__law_pick (hr.mono (by first | decide | omega)) (by rfl) m__law_pick F__law_pick.kp b__law_pick .nil pass0 (pa_cons (pv 0) (pa_cons pe_int pa_nil))) pa_nil)))
      (pss_cons (ps_expr (pe_bm PySem.F.plainAttrs_list PySem.F.slot_list_append PySem.F.type_list_append mt_append (pv 8) (pa_cons pe_int pa_nil)))
      (pss_cons (ps_asg (pe_un un_neg pe_int) (pg_sub (pv 7) pe_int set_list))
      (pss_cons (ps_if (pt_not (pt_val (pe_call G__law_same (hr.mono (by first | decide | omega)) (by rfl) m__law_same F__law_same.kp b__law_same .nil pass0 (pa_cons (Sa.pe_callK0 G_may_have_counted (hr.mono (by first | decide | omega)) (by rfl) m_may_have_counted F_may_have_counted.kp kb_may_have_counted_writes pass0 (pk_cons (pv 3) pk_nil)) (pa_cons (pv 5) pa_nil))))) (pss_one (ps_ret pe_bl)) pss_nil)
      (pss_cons (ps_if (pt_not (pt_val (pe_call G__law_same (hr.mono (by first | decide | omega)) (by rfl) m__law_same F__law_same.kp b__law_same .nil pass0 (pa_cons (pe_call G_surely_counted (hr.mono (by first | decide | omega)) (by rfl) m_surely_counted F_surely_counted.kp b_surely_counted .nil pass0 (pa_cons (pe_op op_cat (pe_slice sl_list (pv 3) po_none (po_some (pe_un un_neg pe_int))) (pe_slice sl_list (pv 3) (po_some (pe_un un_neg pe_int)) po_none)) pa_nil)) (pa_cons (pv 6) pa_nil))))) (pss_one (ps_ret pe_bl)) pss_nil)
      (pss_one (ps_ret (pe_and (pe_call G__law_same (hr.mono (by first | decide | omega)) (by rfl) m__law_same F__law_same.kp b__law_same .nil pass0 (pa_cons (Sa.pe_callK0 G_surely_counted (hr.mono (by first | decide | omega)) (by rfl) m_surely_counted F_surely_counted.kp kb_surely_counted_writes pass0 (pk_cons (pv 3) pk_nil)) (pa_cons (pv 6) pa_nil))) (pe_one (pe_cmpR (op_eqD hr.units) (pv 3) (pv 2) (nomark _))))))))))))))))))), ?_⟩
  obtain ⟨p, n, rfl, L, M, o, hS, hj, h0, h1, q⟩ := h
  walk_at "st"
  walk_at "gn"
  refine ⟨_, _, rfl, _, _, _, _, by assumption, by assumption, by omega, by omega, by omega, fun f ns o1 k1 H1 hP hl1 hj1 hk1 hS1 => ?_⟩
  clear hS
  have hml := mkL_len ns
  have hsl := suL_len ns
  have hw : ∀ ms : List Int, ms.length ≤ ns.length → wid (.list (ms.map PyData.int)) ≤ 40000 := fun ms hm => by
    rw [show wid (.list (ms.map PyData.int)) = widAll (ms.map PyData.int) by simp only [wid], wid_ints]
    omega
  have ht : ∀ ms : List Int, noTxt (.list (ms.map PyData.int)) = true := fun ms => by
    rw [show noTxt (.list (ms.map PyData.int)) = noTxtAll (ms.map PyData.int) by simp only [noTxt], noTxt_ints]
  walk_at "gn"
  refine ⟨_, rfl, _, _, ns, by assumption, by walk_at "at", hP, by omega, fun ev xs ls H2 hls hll hS2 => ?_⟩
  clear hS1
  walk_at "gn"
  refine Sa.st_r1c (n := ns.length) rfl (by omega) (by omega) ?_
  refine Sa.lcI_rng (fun x => !decide (ls.filter (fun C => decide (x ∈ C)) = [])) (fun x => x) (by assumption) (by omega) (fun x => rfl) (fun x Dl acc e0 e1 => ?_) (fun x Dl acc e0 e1 _ => ?_) (fun so H3 hS3 => ?_)
  · intro H7 hS7 Q1 q1
    walk_at "gn"
    refine Sa.st_l1c hS7 (by walk_at "at") ?_
    refine lcL_ls (fun C => decide (x ∈ C)) (fun C => C) hS7 (by walk_at "at") (List.mem_cons_of_mem _ List.mem_cons_self) (by omega) (fun x => rfl) (fun l T Dl ys ms hm => ?_) (fun l T Dl ys ms hm hp => ?_) (fun Dl ys H8 hS8 => ?_)
    · intro H9 hS9 Q2 q2
      walk_at "gn"
      exact q2 _ hS9
    · intro H9 hS9 Q2 q2
      walk_at "gn"
      exact q2 T _ (by walk_at "sa2")
    rw [List.map_id'] at hS8
    walk_at "gn"
    rename_i nl H10 hS10
    refine st_neLs hS10 (by walk_at "at") Sa.At.hd (by walk_at "at") ?_
    exact ⟨_, rfl, q1 _ (by walk_at "sa2")⟩
  · intro H7 hS7 Q1 q1
    walk_at "gn"
    exact q1 _ hS7
  rw [mk_sift hP hls, List.map_id'] at hS3
  walk_at "gn"
  refine Sa.st_l1c hS3 (by walk_at "at") ?_
  refine Sa.lcI_list (ns := mkL ns) (fun x => decide (ls.filter (fun C => !decide (x ∈ C)) = [])) (fun x => x) hS3 (by walk_at "at") (by omega) (fun x => rfl) (fun x Dl acc hm => ?_) (fun x Dl acc hm _ => ?_) (fun su H4 hS4 => ?_)
  · intro H7 hS7 Q1 q1
    walk_at "gn"
    refine Sa.st_l1c hS7 (by walk_at "at") ?_
    refine lcL_ls (fun C => !decide (x ∈ C)) (fun C => C) hS7 (by walk_at "at") (List.mem_cons_of_mem _ List.mem_cons_self) (by omega) (fun x => rfl) (fun l T Dl ys ms hm => ?_) (fun l T Dl ys ms hm hp => ?_) (fun Dl ys H8 hS8 => ?_)
    · intro H9 hS9 Q2 q2
      walk_at "gn"
      exact q2 _ hS9
    · intro H9 hS9 Q2 q2
      walk_at "gn"
      exact q2 T _ (by walk_at "sa2")
    rw [List.map_id'] at hS8
    walk_at "gn"
    rename_i nl H10 hS10
    refine st_eqLs hS10 (by walk_at "at") Sa.At.hd (by walk_at "at") ?_
    exact ⟨_, rfl, q1 _ (by walk_at "sa2")⟩
  · intro H7 hS7 Q1 q1
    walk_at "gn"
    exact q1 _ hS7
  rw [su_sift hP hls, List.map_id'] at hS4
  clear hS3
  walk_at "gn"
  walk_at "au"
  refine Sa.st_slL (by assumption) (by walk_at "at") (fun s1 H5 hS5 => ?_)
  walk_at "gn"
  refine Sa.st_slL (by assumption) (by walk_at "at") (fun s2 H6 hS6 => ?_)
  refine Sa.st_cat hS6 (by walk_at "at") (by walk_at "at") (by rw [cut_b1, cut_e1]; simp only [List.length_map, List.length_take, List.length_drop]; omega) (fun s3 H7 hS7 => ?_)
  rw [show cutV (ns.map V.int) none (some (-1)) ++ cutV (ns.map V.int) (some (-1)) none = ns.map V.int by rw [cut_b1, cut_e1, List.take_append_drop]] at hS7
  walk_at "au"
  show Q (.bl (decide (ns = ns))) _
  rw [decide_eq_true rfl]
  exact q _ (by walk_at "sa2")

def sp__law_jar (K : PySem.W.Frag) : Sp := fun vs H Q _ => ∃ (a : Addr) (rk : Int), vs = [.ref a, .int rk] ∧ ∃ (L : List Fc) (M : List Cell) (ns : List Int), SA L M H ∧ At L M (fQ K a (ns.map V.int)) ∧ 0 ≤ rk ∧ rk ≤ 1000 ∧
  ∀ p o H', Jar o 0 → SA L ((p, o) :: M) H' → Q (.ref p) H'
theorem sc__law_jar : FnScope ["_law_script", "_law_rank", "_law_cell"] ["_law_script", "_law_rank"] (defScope s__law_jar) := ⟨rfl, rfl, rfl, by decide +kernel, rfl, by decide +kernel, by decide +kernel⟩
abbrev Ok__law_jar (P : Program) (w : World) (K : PySem.W.Frag) (mg : Str → Option Value) (base : Heap) : Prop := ∃ f fd, Fun K "_law_jar" "_law_jar" s__law_jar f fd ∧ mg "_law_jar" = some (.ref f) ∧ FnOk P w K mg base CX0 1 f fd ["_law_script", "_law_rank"] (sp__law_jar K)
theorem ok__law_jar {P : Program} {w : World} {K : PySem.W.Frag} {mg : Str → Option Value} {base : Heap} (T : Top K mg) : Ok__law_jar P w K mg base := by
  obtain ⟨f, fd, F, m⟩ := T.d__law_jar
  refine ⟨f, fd, F, m, F.ok sc__law_jar (fun vs H Q E h => by first | (obtain ⟨_, rfl, _⟩ := h; rfl) | (obtain ⟨_, _, rfl, _⟩ := h; rfl) | (obtain ⟨_, _, _, rfl, _⟩ := h; rfl) | (obtain ⟨_, _, _, _, rfl, _⟩ := h; rfl) | (obtain ⟨_, _, _, _, _, rfl, _⟩ := h; rfl) | (obtain ⟨_, _, _, _, _, _, rfl, _⟩ := h; rfl) | (obtain ⟨_, _, _, _, _, _, _, rfl, _⟩ := h; rfl) | (obtain ⟨_, _, _, _, _, _, _, _, rfl, _⟩ := h; rfl)) (fun cdv A outer s H vs Q E hr h => ?_)⟩
  refine ⟨_, (pss_cons (ps_set (i := 2) sc__law_jar.nd rfl (.inl rfl) (pe_ifExp (pt_cmpR op_lt (pv 1) (pe_callB Sa.call_len (by rfl) T.z_len boot_len (pa_cons (pv 0) pa_nil)) (nomark _)) (pe_ix ix_list (pv 0) (pv 1) (fun _ _ => rfl)) pe_int))
      (pss_one (ps_ret (pe_lst (pa_cons (pe_callB (Sa.call_max2 rfl) (by rfl) T.z_max (by decide +kernel) (pa_cons pe_int (pa_cons (pe_op op_sub (pe_callB Sa.call_abs (by rfl) T.z_abs (by decide +kernel) (pa_cons (pv 2) pa_nil)) (pe_op Sa.op_powW pe_int pe_int)) pa_nil))) (pa_cons (pe_op Sa.op_modX (pe_callTy Sa.call_int1 (by rfl) T.z_int (by decide +kernel) (pa_cons (pe_op op_add (pe_op op_add (pe_op Sa.op_mulX (pv 2) pe_int) (pe_op Sa.op_mulX (pv 1) pe_int)) pe_int) pa_nil)) (pe_op op_add (pe_op Sa.op_powW pe_int pe_int) pe_int)) (pa_cons pe_int pa_nil))))))), ?_⟩
  obtain ⟨a, rk, rfl, L, M, ns, hS, hA, h0, h1, q⟩ := h
  walk_at "st"
  walk_at "gn"
  refine Sa.if_dec (fun h2 => ?_) (fun h2 => ?_)
  · walk_at "gn"
    refine q _ _ _ ?_ (by assumption)
    exact ⟨_, _, rfl, by omega, Int.emod_nonneg _ (by decide), Int.lt_trans (Int.emod_lt_of_pos _ (by decide)) (by decide), by decide⟩
  · walk_at "gn"
    refine q _ _ _ ?_ (by assumption)
    exact ⟨_, _, rfl, by omega, Int.emod_nonneg _ (by decide), Int.lt_trans (Int.emod_lt_of_pos _ (by decide)) (by decide), by decide⟩

def sp_law (K : PySem.W.Frag) : Sp := fun vs H Q _ => ∃ (a : Addr) (ns : List Int), vs = [.ref a] ∧ SqL K H a (ns.map V.int) ∧ ns.length ≤ 63 ∧ ∀ H', Q (.bl true) H'
theorem sc_law : FnScope ["_law_script", "_law_rank"] ["_law_script"] (defScope s_law) := ⟨rfl, rfl, rfl, by decide +kernel, rfl, by decide +kernel, by decide +kernel⟩
abbrev Ok_law (P : Program) (w : World) (K : PySem.W.Frag) (mg : Str → Option Value) (base : Heap) : Prop := ∃ f fd, Fun K "law" "law" s_law f fd ∧ mg "law" = some (.ref f) ∧ FnOk P w K mg base CX0 6 f fd ["_law_script"] (sp_law K)
theorem ok_law {P : Program} {w : World} {K : PySem.W.Frag} {mg : Str → Option Value} {base : Heap} (T : Top K mg) (h__law_right : Ok__law_right P w K mg base) (h__law_jar : Ok__law_jar P w K mg base) : Ok_law P w K mg base := by
  obtain ⟨f, fd, F, m⟩ := T.d_law
  obtain ⟨f__law_right, fd__law_right, F__law_right, m__law_right, G__law_right⟩ := h__law_right
  have b__law_right := F__law_right.binds (ps := ["_law_jar_here", "_law_cap"]) (fun _ _ _ _ _ _ us hl => match us, hl with | [_, _], _ => rfl)
  obtain ⟨f__law_jar, fd__law_jar, F__law_jar, m__law_jar, G__law_jar⟩ := h__law_jar
  have b__law_jar := F__law_jar.binds (ps := ["_law_script", "_law_rank"]) (fun _ _ _ _ _ _ us hl => match us, hl with | [_, _], _ => rfl)
  refine ⟨f, fd, F, m, F.ok sc_law (fun vs H Q E h => by first | (obtain ⟨_, rfl, _⟩ := h; rfl) | (obtain ⟨_, _, rfl, _⟩ := h; rfl) | (obtain ⟨_, _, _, rfl, _⟩ := h; rfl) | (obtain ⟨_, _, _, _, rfl, _⟩ := h; rfl) | (obtain ⟨_, _, _, _, _, rfl, _⟩ := h; rfl) | (obtain ⟨_, _, _, _, _, _, rfl, _⟩ := h; rfl) | (obtain ⟨_, _, _, _, _, _, _, rfl, _⟩ := h; rfl) | (obtain ⟨_, _, _, _, _, _, _, _, rfl, _⟩ := h; rfl)) (fun cdv A outer s H vs Q E hr h => ?_)⟩
  refine ⟨_, (pss_cons (ps_for PassesOwn.never rfl (pi_range1 (by rfl) T.z_range (pa_cons (pe_callB (Sa.call_max2 rfl) (by rfl) T.z_max (by decide +kernel) (pa_cons pe_int (pa_cons (pe_callB (Sa.call_min2 rfl) (by rfl) T.z_min (by decide +kernel) (pa_cons pe_int (pa_cons (pe_callB Sa.call_len (by rfl) T.z_len boot_len (pa_cons (pv 0) pa_nil)) pa_nil))) pa_nil))) pa_nil)) (pg_name (i := 1) sc_law.nd rfl (.inl rfl)) (pss_one (ps_if (pt_not (pt_val (pe_call G__law_right (hr.mono (by first | decide | omega)) (by rfl) m__law_right F__law_right.kp b__law_right .nil pass0 (pa_cons (pe_call G__law_jar (hr.mono (by first | decide | omega)) (by rfl) m__law_jar F__law_jar.kp b__law_jar .nil pass0 (pa_cons (pv 0) (pa_cons (pv 1) pa_nil))) (pa_cons (pe_ix ix_list (pe_lst (pa_cons pe_int (pa_cons pe_int (pa_cons pe_int pa_nil)))) (pe_callB (Sa.call_min2 rfl) (by rfl) T.z_min (by decide +kernel) (pa_cons (pv 1) (pa_cons pe_int pa_nil))) (fun _ _ => rfl)) pa_nil))))) (pss_one (ps_ret pe_bl)) pss_nil)))
      (pss_one (ps_ret pe_bl))), ?_⟩
  obtain ⟨a, ns, rfl, hS, hl, q⟩ := h
  have hS0 := Sa.SA.self H
  have hA : At [Sa.fS H] [] (fQ K a (ns.map V.int)) := Sa.At.ofS (f := fQ K a (ns.map V.int)) hS
  walk_at "st"
  walk_at "gn"
  try rw [List.length_map]
  refine Sa.st_r1 (n := _) rfl (by omega) (by omega) ?_
  refine Sa.lp_rng (γ := Option V) (fun i g => [some (.ref a), g]) (fun _ _ => [Sa.fS H]) (fun _ _ => []) (fun i g => True) ⟨none, rfl, trivial, hS0⟩ ?_ ?_
  · rintro i g H1 hi _ hS1
    walk_at "nm"
    walk_at "gn"
    refine ⟨_, _, rfl, _, _, ns, hS1, hA, by omega, by omega, fun p o H2 hj hS2 => ?_⟩
    walk_at "gn"
    first
      | refine Sa.st_menu (ms := [_, _, _]) (fun x => x ∈ [_, _, _]) (by assumption) (by walk_at "at") rfl (by omega) (by walk_at "om") (fun x hx => hx) (fun x hx => ?_)
      | refine Sa.st_menu (ms := [_, _]) (fun x => x ∈ [_, _]) (by assumption) (by walk_at "at") rfl (by omega) (by walk_at "om") (fun x hx => hx) (fun x hx => ?_)
    simp only [List.mem_cons, List.not_mem_nil, or_false] at hx
    walk_at "gn"
    refine ⟨_, _, rfl, [Sa.fS H], [], _, by walk_at "sa", by assumption, by omega, by omega, fun H3 hS3 => ?_⟩
    walk_at "gn"
    exact ⟨_, rfl, trivial, by walk_at "sa"⟩
  · rintro g H1 _ hS1
    walk_at "gn"
    exact q _

theorem fun_same {K : PySem.W.Frag} {x qual : Str} {st : Stmt} {f : Addr} {fd fd' : FuncData} (F : Fun K x qual st f fd) (G : Fun K x qual st f fd') : fd = fd' := by
  obtain ⟨_, _, _, _, _, _, _, _, _, e1, l1, _⟩ := F.ex
  obtain ⟨_, _, _, _, _, _, _, _, _, e2, l2, _⟩ := G.ex
  rw [l1] at l2
  cases l2
  rfl
theorem all_ok {P : Program} {w : World} {K : PySem.W.Frag} {mg : Str → Option Value} {base : Heap} (T : Top K mg) {f : Addr} {fd : FuncData} (F : Fun K "law" "law" s_law f fd) (m : mg "law" = some (.ref f)) : FnOk P w K mg base CX0 6 f fd ["_law_script"] (sp_law K) := by
  have h__law_same : Ok__law_same P w K mg base := ok__law_same T
  have h_chains_on_from : Ok_chains_on_from P w K mg base := ok_chains_on_from T
  have h_chains_up_to : Ok_chains_up_to P w K mg base := ok_chains_up_to T
  have h_chains_through : Ok_chains_through P w K mg base := ok_chains_through T h_chains_on_from h_chains_up_to
  have h_first_wrong : Ok_first_wrong P w K mg base := ok_first_wrong T
  have h_check_possible : Ok_check_possible P w K mg base := ok_check_possible T h_first_wrong
  have h_chains : Ok_chains P w K mg base := ok_chains T h_chains_up_to h_check_possible
  have h_surely_counted : Ok_surely_counted P w K mg base := ok_surely_counted T h_chains_through h_chains
  have h_may_have_counted : Ok_may_have_counted P w K mg base := ok_may_have_counted T h_chains_through h_check_possible
  have h__law_pick : Ok__law_pick P w K mg base := ok__law_pick T
  have h__law_chain_lists : Ok__law_chain_lists P w K mg base := ok__law_chain_lists T
  have h__law_list : Ok__law_list P w K mg base := ok__law_list T h__law_pick
  have h__law_right : Ok__law_right P w K mg base := ok__law_right T h__law_same h_surely_counted h_may_have_counted h__law_pick h__law_chain_lists h__law_list
  have h__law_jar : Ok__law_jar P w K mg base := ok__law_jar T
  have h_law : Ok_law P w K mg base := ok_law T h__law_right h__law_jar
  obtain ⟨f1, fd1, F1, m1, G1⟩ := h_law
  have e : f1 = f := by
    rw [m] at m1
    cases m1
    rfl
  subst e
  have e2 : fd1 = fd := fun_same F1 F
  subst e2
  exact G1
theorem all_mk {l : PySem.W.OpenLaw} {w : World} {K : PySem.W.Frag} {h : Heap} {mg : Str → Option Value} {fa : Addr} (X : K.In h) (G : h.Ns mainGlobals mg) (hfa : mg "law" = some (.ref fa))
    {f0 : Addr} {od0 an0 : Option Addr} {sl0 : Array (Option Value)} {oc0 kV0 dc0 pm0 cd0 ct0 : Value}
    (a0 : PySem.W.nsIn K mainGlobals "first_wrong" = some (some (.ref f0))) (l0 : K.lookup f0 = some ⟨oc0, od0, .func (PySem.W.fnOf "first_wrong" "first_wrong" (defArgs s_first_wrong) (defBody s_first_wrong) (defScope s_first_wrong) .none kV0 dc0 pm0 an0 cd0 ct0), sl0⟩) (c0 : PySem.W.codeIn K cd0 "first_wrong" = true) (k0 : PySem.W.keepIn K (.ref f0) = true)
    {f1 : Addr} {od1 an1 : Option Addr} {sl1 : Array (Option Value)} {oc1 kV1 dc1 pm1 cd1 ct1 : Value}
    (a1 : PySem.W.nsIn K mainGlobals "check_possible" = some (some (.ref f1))) (l1 : K.lookup f1 = some ⟨oc1, od1, .func (PySem.W.fnOf "check_possible" "check_possible" (defArgs s_check_possible) (defBody s_check_possible) (defScope s_check_possible) .none kV1 dc1 pm1 an1 cd1 ct1), sl1⟩) (c1 : PySem.W.codeIn K cd1 "check_possible" = true) (k1 : PySem.W.keepIn K (.ref f1) = true)
    {f2 : Addr} {od2 an2 : Option Addr} {sl2 : Array (Option Value)} {oc2 kV2 dc2 pm2 cd2 ct2 : Value}
    (a2 : PySem.W.nsIn K mainGlobals "chains_up_to" = some (some (.ref f2))) (l2 : K.lookup f2 = some ⟨oc2, od2, .func (PySem.W.fnOf "chains_up_to" "chains_up_to" (defArgs s_chains_up_to) (defBody s_chains_up_to) (defScope s_chains_up_to) .none kV2 dc2 pm2 an2 cd2 ct2), sl2⟩) (c2 : PySem.W.codeIn K cd2 "chains_up_to" = true) (k2 : PySem.W.keepIn K (.ref f2) = true)
    {f3 : Addr} {od3 an3 : Option Addr} {sl3 : Array (Option Value)} {oc3 kV3 dc3 pm3 cd3 ct3 : Value}
    (a3 : PySem.W.nsIn K mainGlobals "chains_on_from" = some (some (.ref f3))) (l3 : K.lookup f3 = some ⟨oc3, od3, .func (PySem.W.fnOf "chains_on_from" "chains_on_from" (defArgs s_chains_on_from) (defBody s_chains_on_from) (defScope s_chains_on_from) .none kV3 dc3 pm3 an3 cd3 ct3), sl3⟩) (c3 : PySem.W.codeIn K cd3 "chains_on_from" = true) (k3 : PySem.W.keepIn K (.ref f3) = true)
    {f4 : Addr} {od4 an4 : Option Addr} {sl4 : Array (Option Value)} {oc4 kV4 dc4 pm4 cd4 ct4 : Value}
    (a4 : PySem.W.nsIn K mainGlobals "chains_through" = some (some (.ref f4))) (l4 : K.lookup f4 = some ⟨oc4, od4, .func (PySem.W.fnOf "chains_through" "chains_through" (defArgs s_chains_through) (defBody s_chains_through) (defScope s_chains_through) .none kV4 dc4 pm4 an4 cd4 ct4), sl4⟩) (c4 : PySem.W.codeIn K cd4 "chains_through" = true) (k4 : PySem.W.keepIn K (.ref f4) = true)
    {f5 : Addr} {od5 an5 : Option Addr} {sl5 : Array (Option Value)} {oc5 kV5 dc5 pm5 cd5 ct5 : Value}
    (a5 : PySem.W.nsIn K mainGlobals "chains" = some (some (.ref f5))) (l5 : K.lookup f5 = some ⟨oc5, od5, .func (PySem.W.fnOf "chains" "chains" (defArgs s_chains) (defBody s_chains) (defScope s_chains) .none kV5 dc5 pm5 an5 cd5 ct5), sl5⟩) (c5 : PySem.W.codeIn K cd5 "chains" = true) (k5 : PySem.W.keepIn K (.ref f5) = true)
    {f6 : Addr} {od6 an6 : Option Addr} {sl6 : Array (Option Value)} {oc6 kV6 dc6 pm6 cd6 ct6 : Value}
    (a6 : PySem.W.nsIn K mainGlobals "surely_counted" = some (some (.ref f6))) (l6 : K.lookup f6 = some ⟨oc6, od6, .func (PySem.W.fnOf "surely_counted" "surely_counted" (defArgs s_surely_counted) (defBody s_surely_counted) (defScope s_surely_counted) .none kV6 dc6 pm6 an6 cd6 ct6), sl6⟩) (c6 : PySem.W.codeIn K cd6 "surely_counted" = true) (k6 : PySem.W.keepIn K (.ref f6) = true)
    {f7 : Addr} {od7 an7 : Option Addr} {sl7 : Array (Option Value)} {oc7 kV7 dc7 pm7 cd7 ct7 : Value}
    (a7 : PySem.W.nsIn K mainGlobals "may_have_counted" = some (some (.ref f7))) (l7 : K.lookup f7 = some ⟨oc7, od7, .func (PySem.W.fnOf "may_have_counted" "may_have_counted" (defArgs s_may_have_counted) (defBody s_may_have_counted) (defScope s_may_have_counted) .none kV7 dc7 pm7 an7 cd7 ct7), sl7⟩) (c7 : PySem.W.codeIn K cd7 "may_have_counted" = true) (k7 : PySem.W.keepIn K (.ref f7) = true)
    {f8 : Addr} {od8 an8 : Option Addr} {sl8 : Array (Option Value)} {oc8 kV8 dc8 pm8 cd8 ct8 : Value}
    (a8 : PySem.W.nsIn K mainGlobals "_law_jar" = some (some (.ref f8))) (l8 : K.lookup f8 = some ⟨oc8, od8, .func (PySem.W.fnOf "_law_jar" "_law_jar" (defArgs s__law_jar) (defBody s__law_jar) (defScope s__law_jar) .none kV8 dc8 pm8 an8 cd8 ct8), sl8⟩) (c8 : PySem.W.codeIn K cd8 "_law_jar" = true) (k8 : PySem.W.keepIn K (.ref f8) = true)
    {f9 : Addr} {od9 an9 : Option Addr} {sl9 : Array (Option Value)} {oc9 kV9 dc9 pm9 cd9 ct9 : Value}
    (a9 : PySem.W.nsIn K mainGlobals "_law_pick" = some (some (.ref f9))) (l9 : K.lookup f9 = some ⟨oc9, od9, .func (PySem.W.fnOf "_law_pick" "_law_pick" (defArgs s__law_pick) (defBody s__law_pick) (defScope s__law_pick) .none kV9 dc9 pm9 an9 cd9 ct9), sl9⟩) (c9 : PySem.W.codeIn K cd9 "_law_pick" = true) (k9 : PySem.W.keepIn K (.ref f9) = true)
    {f10 : Addr} {od10 an10 : Option Addr} {sl10 : Array (Option Value)} {oc10 kV10 dc10 pm10 cd10 ct10 : Value}
    (a10 : PySem.W.nsIn K mainGlobals "_law_list" = some (some (.ref f10))) (l10 : K.lookup f10 = some ⟨oc10, od10, .func (PySem.W.fnOf "_law_list" "_law_list" (defArgs s__law_list) (defBody s__law_list) (defScope s__law_list) .none kV10 dc10 pm10 an10 cd10 ct10), sl10⟩) (c10 : PySem.W.codeIn K cd10 "_law_list" = true) (k10 : PySem.W.keepIn K (.ref f10) = true)
    {f11 : Addr} {od11 an11 : Option Addr} {sl11 : Array (Option Value)} {oc11 kV11 dc11 pm11 cd11 ct11 : Value}
    (a11 : PySem.W.nsIn K mainGlobals "_law_same" = some (some (.ref f11))) (l11 : K.lookup f11 = some ⟨oc11, od11, .func (PySem.W.fnOf "_law_same" "_law_same" (defArgs s__law_same) (defBody s__law_same) (defScope s__law_same) .none kV11 dc11 pm11 an11 cd11 ct11), sl11⟩) (c11 : PySem.W.codeIn K cd11 "_law_same" = true) (k11 : PySem.W.keepIn K (.ref f11) = true)
    {f12 : Addr} {od12 an12 : Option Addr} {sl12 : Array (Option Value)} {oc12 kV12 dc12 pm12 cd12 ct12 : Value}
    (a12 : PySem.W.nsIn K mainGlobals "_law_chain_lists" = some (some (.ref f12))) (l12 : K.lookup f12 = some ⟨oc12, od12, .func (PySem.W.fnOf "_law_chain_lists" "_law_chain_lists" (defArgs s__law_chain_lists) (defBody s__law_chain_lists) (defScope s__law_chain_lists) .none kV12 dc12 pm12 an12 cd12 ct12), sl12⟩) (c12 : PySem.W.codeIn K cd12 "_law_chain_lists" = true) (k12 : PySem.W.keepIn K (.ref f12) = true)
    {f13 : Addr} {od13 an13 : Option Addr} {sl13 : Array (Option Value)} {oc13 kV13 dc13 pm13 cd13 ct13 : Value}
    (a13 : PySem.W.nsIn K mainGlobals "_law_right" = some (some (.ref f13))) (l13 : K.lookup f13 = some ⟨oc13, od13, .func (PySem.W.fnOf "_law_right" "_law_right" (defArgs s__law_right) (defBody s__law_right) (defScope s__law_right) .none kV13 dc13 pm13 an13 cd13 ct13), sl13⟩) (c13 : PySem.W.codeIn K cd13 "_law_right" = true) (k13 : PySem.W.keepIn K (.ref f13) = true)
    {f14 : Addr} {od14 an14 : Option Addr} {sl14 : Array (Option Value)} {oc14 kV14 dc14 pm14 cd14 ct14 : Value}
    (a14 : PySem.W.nsIn K mainGlobals "law" = some (some (.ref f14))) (l14 : K.lookup f14 = some ⟨oc14, od14, .func (PySem.W.fnOf "law" "law" (defArgs s_law) (defBody s_law) (defScope s_law) .none kV14 dc14 pm14 an14 cd14 ct14), sl14⟩) (c14 : PySem.W.codeIn K cd14 "law" = true) (k14 : PySem.W.keepIn K (.ref f14) = true)
    (z_enumerate : PySem.W.nsIn K mainGlobals "enumerate" = some none)
    (z_max : PySem.W.nsIn K mainGlobals "max" = some none)
    (z_range : PySem.W.nsIn K mainGlobals "range" = some none)
    (z_sum : PySem.W.nsIn K mainGlobals "sum" = some none)
    (z_len : PySem.W.nsIn K mainGlobals "len" = some none)
    (z_zip : PySem.W.nsIn K mainGlobals "zip" = some none)
    (z_int : PySem.W.nsIn K mainGlobals "int" = some none)
    (z_abs : PySem.W.nsIn K mainGlobals "abs" = some none)
    (z_min : PySem.W.nsIn K mainGlobals "min" = some none)
    (z_isinstance : PySem.W.nsIn K mainGlobals "isinstance" = some none)
    (z_bool : PySem.W.nsIn K mainGlobals "bool" = some none)
    (z_list : PySem.W.nsIn K mainGlobals "list" = some none)
    (z_tuple : PySem.W.nsIn K mainGlobals "tuple" = some none)
    (z_sorted : PySem.W.nsIn K mainGlobals "sorted" = some none)
    : ∃ fd : FuncData, (∀ (s : Shared) (v : Value), BindsTo s fd ⟨[v], []⟩ [("_law_script", v)]) ∧ ∀ base : Heap, K.In base → base.Ns mainGlobals mg → FnOk l.prog w K mg base CX0 6 fa fd ["_law_script"] (sp_law K) := by
  have e := hfa.symm.trans (PySem.W.mg_of X G a14)
  cases e
  have T : Top K mg := {
    d_first_wrong := ⟨_, _, fun_mk (st := s_first_wrong) l0 c0 k0, PySem.W.mg_of X G a0⟩
    d_check_possible := ⟨_, _, fun_mk (st := s_check_possible) l1 c1 k1, PySem.W.mg_of X G a1⟩
    d_chains_up_to := ⟨_, _, fun_mk (st := s_chains_up_to) l2 c2 k2, PySem.W.mg_of X G a2⟩
    d_chains_on_from := ⟨_, _, fun_mk (st := s_chains_on_from) l3 c3 k3, PySem.W.mg_of X G a3⟩
    d_chains_through := ⟨_, _, fun_mk (st := s_chains_through) l4 c4 k4, PySem.W.mg_of X G a4⟩
    d_chains := ⟨_, _, fun_mk (st := s_chains) l5 c5 k5, PySem.W.mg_of X G a5⟩
    d_surely_counted := ⟨_, _, fun_mk (st := s_surely_counted) l6 c6 k6, PySem.W.mg_of X G a6⟩
    d_may_have_counted := ⟨_, _, fun_mk (st := s_may_have_counted) l7 c7 k7, PySem.W.mg_of X G a7⟩
    d__law_jar := ⟨_, _, fun_mk (st := s__law_jar) l8 c8 k8, PySem.W.mg_of X G a8⟩
    d__law_pick := ⟨_, _, fun_mk (st := s__law_pick) l9 c9 k9, PySem.W.mg_of X G a9⟩
    d__law_list := ⟨_, _, fun_mk (st := s__law_list) l10 c10 k10, PySem.W.mg_of X G a10⟩
    d__law_same := ⟨_, _, fun_mk (st := s__law_same) l11 c11 k11, PySem.W.mg_of X G a11⟩
    d__law_chain_lists := ⟨_, _, fun_mk (st := s__law_chain_lists) l12 c12 k12, PySem.W.mg_of X G a12⟩
    d__law_right := ⟨_, _, fun_mk (st := s__law_right) l13 c13 k13, PySem.W.mg_of X G a13⟩
    d_law := ⟨_, _, fun_mk (st := s_law) l14 c14 k14, PySem.W.mg_of X G a14⟩
    z_enumerate := PySem.W.mg_none_of X G z_enumerate
    z_max := PySem.W.mg_none_of X G z_max
    z_range := PySem.W.mg_none_of X G z_range
    z_sum := PySem.W.mg_none_of X G z_sum
    z_len := PySem.W.mg_none_of X G z_len
    z_zip := PySem.W.mg_none_of X G z_zip
    z_int := PySem.W.mg_none_of X G z_int
    z_abs := PySem.W.mg_none_of X G z_abs
    z_min := PySem.W.mg_none_of X G z_min
    z_isinstance := PySem.W.mg_none_of X G z_isinstance
    z_bool := PySem.W.mg_none_of X G z_bool
    z_list := PySem.W.mg_none_of X G z_list
    z_tuple := PySem.W.mg_none_of X G z_tuple
    z_sorted := PySem.W.mg_none_of X G z_sorted
  }
  exact ⟨PySem.W.fnOf "law" "law" (defArgs s_law) (defBody s_law) (defScope s_law) .none kV14 dc14 pm14 an14 cd14 ct14, fun s v => .of_eq rfl, fun base _ _ => all_ok T (fun_mk (st := s_law) l14 c14 k14) hfa⟩
theorem walk {l : PySem.W.OpenLaw} {q : Program} {loose : List Str} {XP : (Str → Option Value) → Heap → Prop} {YP : World → Heap → Prop} {d : DefRec} {K : Params → PySem.W.Frag} (hn : l.most = some 63) (hdf : d.params.defaults = [])
    (hY : ∀ (w : World) (h : Heap), YP w h → (K w.params).In h)
    (F : ∀ (w : World) (mg : Str → Option Value) (fa : Addr) (h : Heap), (K w.params).In h → h.Ns mainGlobals mg → mg d.name = some (.ref fa) →
      ∃ fd : FuncData, (∀ (s : Shared) (u : Value), BindsTo s fd ⟨[u], []⟩ [("_law_script", u)]) ∧ ∀ base : Heap, (K w.params).In base → base.Ns mainGlobals mg → FnOk l.prog w (K w.params) mg base CX0 6 fa fd ["_law_script"] (sp_law (K w.params))) :
    PySem.W.WalkO q loose XP YP l.row.toRowW d [] (fun f vs => PySem.call f vs) :=
  L2.walk_of (n := 63) (k := 6) (x := "_law_script") (CX := fun _ => CX0) (sp := fun w => sp_law (K w.params)) hn (by decide) hdf ⟨rfl, by decide, by decide⟩ hY F (fun _ _ a ns hl _ hS => ⟨a, ns, rfl, hS, hl, fun _ => rfl⟩) fun _ _ _ _ _ z => z
end T
open PySem PySem.W PyProof.Rows
set_option maxRecDepth 100000 in
set_option maxHeartbeats 0 in
theorem PySem.Challenge.cw_staletally_k23_which_writes_counted_holds : PySem.Challenge.rw_staletally_k23_which_writes_counted.Holds := by
  w_on; o_law; k_head; (case hw => w_witness2)
  k_fill
  refine T.walk (l := PySem.Challenge.rw_staletally_k23_which_writes_counted) rfl rfl (fun w h Y => PySem.W.kIn_of Y) ?F
  case F =>
    intro w mg fa h KX G hmg
    refine' T.all_mk KX G hmg ?a0 ?l0 ?c0 ?k0 ?a1 ?l1 ?c1 ?k1 ?a2 ?l2 ?c2 ?k2 ?a3 ?l3 ?c3 ?k3 ?a4 ?l4 ?c4 ?k4 ?a5 ?l5 ?c5 ?k5 ?a6 ?l6 ?c6 ?k6 ?a7 ?l7 ?c7 ?k7 ?a8 ?l8 ?c8 ?k8 ?a9 ?l9 ?c9 ?k9 ?a10 ?l10 ?c10 ?k10 ?a11 ?l11 ?c11 ?k11 ?a12 ?l12 ?c12 ?k12 ?a13 ?l13 ?c13 ?k13 ?a14 ?l14 ?c14 ?k14 ?z_enumerate ?z_max ?z_range ?z_sum ?z_len ?z_zip ?z_int ?z_abs ?z_min ?z_isinstance ?z_bool ?z_list ?z_tuple ?z_sorted
    (case a0 => k_is); (case l0 => k_is); (case c0 => k_is); (case k0 => k_is)
    (case a1 => k_is); (case l1 => k_is); (case c1 => k_is); (case k1 => k_is)
    (case a2 => k_is); (case l2 => k_is); (case c2 => k_is); (case k2 => k_is)
    (case a3 => k_is); (case l3 => k_is); (case c3 => k_is); (case k3 => k_is)
    (case a4 => k_is); (case l4 => k_is); (case c4 => k_is); (case k4 => k_is)
    (case a5 => k_is); (case l5 => k_is); (case c5 => k_is); (case k5 => k_is)
    (case a6 => k_is); (case l6 => k_is); (case c6 => k_is); (case k6 => k_is)
    (case a7 => k_is); (case l7 => k_is); (case c7 => k_is); (case k7 => k_is)
    (case a8 => k_is); (case l8 => k_is); (case c8 => k_is); (case k8 => k_is)
    (case a9 => k_is); (case l9 => k_is); (case c9 => k_is); (case k9 => k_is)
    (case a10 => k_is); (case l10 => k_is); (case c10 => k_is); (case k10 => k_is)
    (case a11 => k_is); (case l11 => k_is); (case c11 => k_is); (case k11 => k_is)
    (case a12 => k_is); (case l12 => k_is); (case c12 => k_is); (case k12 => k_is)
    (case a13 => k_is); (case l13 => k_is); (case c13 => k_is); (case k13 => k_is)
    (case a14 => k_is); (case l14 => k_is); (case c14 => k_is); (case k14 => k_is)
    (case z_enumerate => k_is)
    (case z_max => k_is)
    (case z_range => k_is)
    (case z_sum => k_is)
    (case z_len => k_is)
    (case z_zip => k_is)
    (case z_int => k_is)
    (case z_abs => k_is)
    (case z_min => k_is)
    (case z_isinstance => k_is)
    (case z_bool => k_is)
    (case z_list => k_is)
    (case z_tuple => k_is)
    (case z_sorted => k_is)
#print axioms PySem.Challenge.cw_staletally_k23_which_writes_counted_holds
