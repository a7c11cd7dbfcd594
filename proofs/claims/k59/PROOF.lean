import PyProof.Rows.All
import Wide.All
import OpenK.AllK
import Wide.FinOn
import HandS.ForMost
import HandS.Walk
import HandS.Wide
import HandS.Flow
import HandS.Style
import HandS.TupLe
import HandS.Evl
import HandS.IsInst
import HandS.Zip
import HandS.Conv
import HandS.SetFor
import HandS.SetKeys
import HandS.Strs
import HandS.Star
import HandS.MakeKw
import HandS.MakeKwOnly
import HandS.OwnEq
import HandS.TryOnly
import HandS.More
import PySem.Challenge.RW_staletally_k59_equal_boards
set_option Elab.async false
set_option linter.all false
set_option maxRecDepth 100000
set_option maxHeartbeats 4000000
/-! Sa: the state of a walk, told as two lists: facts that last (what stands in the part of the heap that is not written) and cells that are owned (and may be written). -/
namespace Sa
open PySem PySem.Spec PyProof.Rows L2

/-- a fact that a growing heap keeps -/
structure Fc where
  p : Hp → Prop
  mono : ∀ H H', Same H H' → p H → p H'
abbrev Cell := Addr × HO

theorem same_up {H : Hp} {p : Addr} {o : HO} (h : H p = none) : Same H (upd H p o) := fun b x e => by
  rw [upd_ne (ne_of_none e h)]
  exact e
/-- an object that the smaller heap does not have may change in the greater one -/
theorem same_mut {F H : Hp} {p : Addr} {o : HO} (e : Same F H) (h : F p = none) : Same F (upd H p o) := fun b x q => by
  rw [upd_ne (ne_of_none q h)]
  exact e b x q
theorem same_both {F H : Hp} {p : Addr} {o : HO} (e : Same F H) : Same (upd F p o) (upd H p o) := fun b x q => by
  by_cases hb : b = p
  · rw [hb, upd_same] at q ⊢
    exact q
  · rw [upd_ne hb] at q ⊢
    exact e b x q

structure SA (L : List Fc) (M : List Cell) (H : Hp) : Prop where
  fr : ∃ F, Same F H ∧ (∀ f ∈ L, f.p F) ∧ ∀ m ∈ M, F m.1 = none
  ce : ∀ m ∈ M, H m.1 = some m.2
  nd : (M.map (·.1)).Nodup

section
variable {L L' : List Fc} {M M' : List Cell} {H : Hp} {a p : Addr} {o o' : HO} {f g : Fc} {c : Cell}
/-- one cell changed | one taken out -/
inductive Chg : List Cell → Addr → HO → HO → List Cell → Prop
  | hd {M : List Cell} {a : Addr} {o o' : HO} : Chg ((a, o) :: M) a o o' ((a, o') :: M)
  | tl {M M' : List Cell} {a : Addr} {o o' : HO} {c : Cell} : Chg M a o o' M' → Chg (c :: M) a o o' (c :: M')
inductive Del : List Cell → Addr → HO → List Cell → Prop
  | hd {M : List Cell} {a : Addr} {o : HO} : Del ((a, o) :: M) a o M
  | tl {M M' : List Cell} {a : Addr} {o : HO} {c : Cell} : Del M a o M' → Del (c :: M) a o (c :: M')
theorem Chg.mem (h : Chg M a o o' M') : (a, o) ∈ M := by
  induction h with
  | hd => exact List.mem_cons_self
  | tl _ ih => exact List.mem_cons_of_mem _ ih
theorem Chg.keys (h : Chg M a o o' M') : M'.map (·.1) = M.map (·.1) := by
  induction h with
  | hd => rfl
  | tl _ ih => simp only [List.map_cons, ih]
theorem Chg.cell (h : Chg M a o o' M') (nd : (M.map (·.1)).Nodup) : ∀ m ∈ M', m = (a, o') ∨ (m ∈ M ∧ m.1 ≠ a) := by
  induction h with
  | hd =>
    intro m hm
    rcases List.mem_cons.mp hm with h | h
    · exact .inl h
    · refine .inr ⟨List.mem_cons_of_mem _ h, fun e => ?_⟩
      have hn := (List.nodup_cons.mp nd).1
      exact hn (List.mem_map.mpr ⟨m, h, e⟩)
  | tl h' ih =>
    intro m hm
    have hn := List.nodup_cons.mp nd
    rcases List.mem_cons.mp hm with h | h
    · subst h
      refine .inr ⟨List.mem_cons_self, fun e => ?_⟩
      exact hn.1 (List.mem_map.mpr ⟨_, h'.mem, e.symm⟩)
    · rcases ih hn.2 m h with z | z
      · exact .inl z
      · exact .inr ⟨List.mem_cons_of_mem _ z.1, z.2⟩
theorem Del.perm (h : Del M a o M') : M.Perm ((a, o) :: M') := by
  induction h with
  | hd => exact List.Perm.refl _
  | tl _ ih => exact (List.Perm.cons _ ih).trans (List.Perm.swap _ _ _)

theorem SA.perm (h : SA L M H) (q : M.Perm M') : SA L M' H := by
  obtain ⟨⟨F, h1, h2, h3⟩, h4, h5⟩ := h
  exact ⟨⟨F, h1, h2, fun m hm => h3 m (q.mem_iff.mpr hm)⟩, fun m hm => h4 m (q.mem_iff.mpr hm), (List.Perm.nodup_iff (q.map _)).mp h5⟩
theorem SA.front (h : SA L M H) (d : Del M a o M') : SA L ((a, o) :: M') H := h.perm d.perm
theorem SA.back (h : SA L ((a, o) :: M') H) (d : Del M a o M') : SA L M H := h.perm d.perm.symm
theorem SA.subL (h : SA L M H) (q : ∀ f ∈ L', f ∈ L) : SA L' M H := by
  obtain ⟨⟨F, h1, h2, h3⟩, h4, h5⟩ := h
  exact ⟨⟨F, h1, fun f hf => h2 f (q f hf), h3⟩, h4, h5⟩
theorem SA.drop (h : SA (f :: L) M H) : SA L M H := h.subL fun _ => List.mem_cons_of_mem _
theorem SA.dropM (h : SA L (c :: M) H) : SA L M H := by
  obtain ⟨⟨F, h1, h2, h3⟩, h4, h5⟩ := h
  exact ⟨⟨F, h1, h2, fun m hm => h3 m (List.mem_cons_of_mem _ hm)⟩, fun m hm => h4 m (List.mem_cons_of_mem _ hm), (List.nodup_cons.mp h5).2⟩
/-- a new object, owned -/
theorem SA.newM (h : SA L M H) (hp : H p = none) : SA L ((p, o) :: M) (upd H p o) := by
  obtain ⟨⟨F, h1, h2, h3⟩, h4, h5⟩ := h
  have hF := h1.free hp
  refine ⟨⟨F, h1.trans (same_up hp), h2, fun m hm => ?_⟩, fun m hm => ?_, ?_⟩
  · rcases List.mem_cons.mp hm with rfl | h
    · exact hF
    · exact h3 m h
  · rcases List.mem_cons.mp hm with rfl | h
    · exact upd_same
    · have e := h4 m h
      rw [upd_ne (ne_of_none e hp)]
      exact e
  · refine List.nodup_cons.mpr ⟨fun hm => ?_, h5⟩
    obtain ⟨m, hm, e⟩ := List.mem_map.mp hm
    have q := h4 m hm
    rw [show m.1 = p from e, hp] at q
    cases q
/-- a new object that is never written -/
theorem SA.newF (h : SA L M H) (hp : H p = none) (hf : ∀ F : Hp, F p = some o → (∀ x ∈ L, x.p F) → f.p F) : SA (f :: L) M (upd H p o) := by
  obtain ⟨⟨F, h1, h2, h3⟩, h4, h5⟩ := h
  have hF := h1.free hp
  have s1 : Same F (upd F p o) := same_up hF
  have h2' : ∀ x ∈ L, x.p (upd F p o) := fun x hx => x.mono _ _ s1 (h2 x hx)
  refine ⟨⟨upd F p o, same_both h1, fun x hx => ?_, fun m hm => ?_⟩, fun m hm => ?_, h5⟩
  · rcases List.mem_cons.mp hx with rfl | h
    · exact hf _ upd_same h2'
    · exact h2' x h
  · have e := h4 m hm
    rw [upd_ne (ne_of_none e hp)]
    exact h3 m hm
  · have e := h4 m hm
    rw [upd_ne (ne_of_none e hp)]
    exact e
/-- an owned one is written no more -/
theorem SA.freeze (h : SA L ((p, o) :: M) H) (hf : ∀ F : Hp, F p = some o → (∀ x ∈ L, x.p F) → f.p F) : SA (f :: L) M H := by
  obtain ⟨⟨F, h1, h2, h3⟩, h4, h5⟩ := h
  have hF : F p = none := h3 (p, o) List.mem_cons_self
  have hH : H p = some o := h4 (p, o) List.mem_cons_self
  have s1 : Same F (upd F p o) := same_up hF
  have h2' : ∀ x ∈ L, x.p (upd F p o) := fun x hx => x.mono _ _ s1 (h2 x hx)
  refine ⟨⟨upd F p o, fun b x q => ?_, fun x hx => ?_, fun m hm => ?_⟩, fun m hm => h4 m (List.mem_cons_of_mem _ hm), (List.nodup_cons.mp h5).2⟩
  · by_cases hb : b = p
    · rw [hb, upd_same] at q
      rw [hb, hH]
      exact q
    · rw [upd_ne hb] at q
      exact h1 b x q
  · rcases List.mem_cons.mp hx with rfl | h
    · exact hf _ upd_same h2'
    · exact h2' x h
  · have hn := (List.nodup_cons.mp h5).1
    have e : m.1 ≠ p := fun e => hn (List.mem_map.mpr ⟨m, hm, e⟩)
    rw [upd_ne e]
    exact h3 m (List.mem_cons_of_mem _ hm)
/-- a fact that follows from those that are there -/
theorem SA.fact (h : SA L M H) (hf : ∀ F : Hp, (∀ x ∈ L, x.p F) → f.p F) : SA (f :: L) M H := by
  obtain ⟨⟨F, h1, h2, h3⟩, h4, h5⟩ := h
  refine ⟨⟨F, h1, fun x hx => ?_, h3⟩, h4, h5⟩
  rcases List.mem_cons.mp hx with rfl | h
  · exact hf _ h2
  · exact h2 x h
/-- an owned one is written -/
theorem SA.set (h : SA L M H) (d : Chg M a o o' M') : SA L M' (upd H a o') := by
  obtain ⟨⟨F, h1, h2, h3⟩, h4, h5⟩ := h
  have hF : F a = none := h3 _ d.mem
  refine ⟨⟨F, same_mut h1 hF, h2, fun m hm => ?_⟩, fun m hm => ?_, by rw [d.keys]; exact h5⟩
  · rcases d.cell h5 m hm with rfl | ⟨h, _⟩
    · exact hF
    · exact h3 m h
  · rcases d.cell h5 m hm with rfl | ⟨h, hn⟩
    · exact upd_same
    · rw [upd_ne hn]
      exact h4 m h
theorem SA.at (h : SA L M H) (d : (a, o) ∈ M) : H a = some o := h.ce _ d

/-- cells taken out of others, in an order of one's own -/
inductive Pick : List Cell → List Cell → Prop
  | done {M : List Cell} : Pick M M
  | cons {M1 M1' M2 : List Cell} {a : Addr} {o : HO} : Del M1 a o M1' → Pick M1' M2 → Pick M1 ((a, o) :: M2)
  | skip {M1 M2 : List Cell} {c : Cell} : Pick M1 M2 → Pick (c :: M1) M2
theorem Pick.perm {M1 M2 : List Cell} (h : Pick M1 M2) : ∃ R, M1.Perm (M2 ++ R) := by
  induction h with
  | done => exact ⟨[], by rw [List.append_nil]⟩
  | cons d _ ih =>
    obtain ⟨R, hR⟩ := ih
    exact ⟨R, d.perm.trans (List.Perm.cons _ hR)⟩
  | skip _ ih =>
    obtain ⟨R, hR⟩ := ih
    exact ⟨_ :: R, (List.Perm.cons _ hR).trans List.perm_middle.symm⟩
theorem SA.front_of {M2 R : List Cell} (h : SA L (M2 ++ R) H) : SA L M2 H := by
  obtain ⟨⟨F, h1, h2, h3⟩, h4, h5⟩ := h
  refine ⟨⟨F, h1, h2, fun m hm => h3 m (List.mem_append_left _ hm)⟩, fun m hm => h4 m (List.mem_append_left _ hm), ?_⟩
  rw [List.map_append] at h5
  exact (List.nodup_append.mp h5).1
theorem SA.pick {M1 M2 : List Cell} (h : SA L M1 H) (p : Pick M1 M2) : SA L M2 H := by
  obtain ⟨R, hR⟩ := p.perm
  exact (h.perm hR).front_of
/-- what the state says -/
def At (L : List Fc) (M : List Cell) (f : Fc) : Prop := ∀ H, SA L M H → f.p H
theorem SA.ask (h : SA L M H) (q : At L M f) : f.p H := q H h
theorem At.mem (h : f ∈ L) : At L M f := fun H s => by
  obtain ⟨⟨F, h1, h2, h3⟩, h4, h5⟩ := s
  exact f.mono _ _ h1 (h2 f h)
theorem At.hd : At (f :: L) M f := At.mem List.mem_cons_self
theorem At.tl (h : At L M f) : At (g :: L) M f := fun H s => h H s.drop
theorem At.tm (h : At L M f) : At L (c :: M) f := fun H s => h H s.dropM
end

/-! ### the facts -/
variable {K : PySem.W.Frag}
theorem rd_same {H H' : Hp} {a : Addr} {u : HO} (e : Same H H') (h : Rd H a u) : Rd H' a u := by
  rcases h with h | ⟨o, h⟩
  · exact Or.inl (e a _ h)
  · exact Or.inr ⟨o, e a _ h⟩
theorem sqT_same {H H' : Hp} {a : Addr} {xs : List V} (e : Same H H') (h : SqT K H a xs) : SqT K H' a xs := by
  rcases h with h | h
  · exact Or.inl (rd_same e h)
  · exact Or.inr h
mutual
theorem dp_same {H H' : Hp} (e : Same H H') : ∀ (d : PyData) (v : V), Dp K H v d → Dp K H' v d
  | .none, _, h => by cases h; exact .non
  | .bool b, _, h => by cases h; exact .bl b
  | .int i, _, h => by cases h; exact .int i
  | .str x, _, h => by cases h; exact .str x
  | .list ds, _, h => by
    cases h with
    | lst h1 h2 => exact .lst (e.seq h1) (dpa_same e ds _ h2)
  | .tuple ds, _, h => by
    cases h with
    | tup h1 h2 => exact .tup (sqT_same e h1) (dpa_same e ds _ h2)
  | .dict _, _, h => by cases h
theorem dpa_same {H H' : Hp} (e : Same H H') : ∀ (ds : List PyData) (vs : List V), DpAll K H vs ds → DpAll K H' vs ds
  | [], _, h => by cases h; exact .nil
  | d :: ds, _, h => by
    cases h with
    | cons h1 h2 => exact .cons (dp_same e d _ h1) (dpa_same e ds _ h2)
end
/-- a list | a tuple | a dict stands there -/
def fQ (K : PySem.W.Frag) (a : Addr) (xs : List V) : Fc := ⟨fun H => SqL K H a xs, fun _ _ e h => e.seq h⟩
def fL (a : Addr) (xs : List V) : Fc := ⟨fun H => H a = some (.lst xs), fun _ _ e h => e a _ h⟩
def fT (K : PySem.W.Frag) (a : Addr) (xs : List V) : Fc := ⟨fun H => SqT K H a xs, fun _ _ e h => sqT_same e h⟩
def fK (a : Addr) (kvs : List (Key × V)) : Fc := ⟨fun H => H a = some (.dK kvs), fun _ _ e h => e a _ h⟩
/-- a value tells a datum -/
def fD (K : PySem.W.Frag) (v : V) (d : PyData) : Fc := ⟨fun H => Dp K H v d, fun _ _ e h => dp_same e d v h⟩
def fDs (K : PySem.W.Frag) (vs : List V) (ds : List PyData) : Fc := ⟨fun H => DpAll K H vs ds, fun _ _ e h => dpa_same e ds vs h⟩
/-- a heap that stood ahead stands -/
def fS (H0 : Hp) : Fc := ⟨fun H => Same H0 H, fun _ _ e h => h.trans e⟩

section
variable {L L' : List Fc} {M M' : List Cell} {H : Hp} {a p : Addr} {o o' : HO} {f g : Fc} {c : Cell} {xs ys : List V} {v : V} {d : PyData} {ds : List PyData} {kvs : List (Key × V)}
theorem At.cellL (h : (a, HO.lst xs) ∈ M) : At L M (fL a xs) := fun H s => s.at h
theorem At.q (h : At L M (fL a xs)) : At L M (fQ K a xs) := fun H s => SqL.of (h H s)
theorem At.cellT (h : (a, HO.tup xs) ∈ M) : At L M (fT K a xs) := fun H s => SqT.of (s.at h)
theorem At.cellK (h : (a, HO.dK kvs) ∈ M) : At L M (fK a kvs) := fun H s => s.at h
theorem At.int {i : Int} : At L M (fD K (.int i) (.int i)) := fun _ _ => .int i
theorem At.bl {b : Bool} : At L M (fD K (.bl b) (.bool b)) := fun _ _ => .bl b
theorem At.non : At L M (fD K .non .none) := fun _ _ => .non
theorem At.str {x : Str} : At L M (fD K (.str x) (.str x)) := fun _ _ => .str x
theorem At.lst (h : At L M (fQ K a xs)) (h2 : At L M (fDs K xs ds)) : At L M (fD K (.ref a) (.list ds)) := fun H s => .lst (h H s) (h2 H s)
theorem At.tup (h : At L M (fT K a xs)) (h2 : At L M (fDs K xs ds)) : At L M (fD K (.ref a) (.tuple ds)) := fun H s => .tup (h H s) (h2 H s)
theorem At.nil : At L M (fDs K [] []) := fun _ _ => .nil
theorem At.cons (h : At L M (fD K v d)) (h2 : At L M (fDs K xs ds)) : At L M (fDs K (v :: xs) (d :: ds)) := fun H s => .cons (h H s) (h2 H s)
theorem dpa_ints (H : Hp) : ∀ ns : List Int, DpAll K H (ns.map V.int) (ns.map PyData.int)
  | [] => .nil
  | n :: ns => .cons (.int n) (dpa_ints H ns)
theorem At.ints {ns : List Int} : At L M (fDs K (ns.map V.int) (ns.map PyData.int)) := fun H _ => dpa_ints H ns

theorem SA.self (H : Hp) : SA [fS H] [] H := by
  refine ⟨⟨H, Same.refl H, fun f hf => ?_, fun _ hm => (by cases hm)⟩, fun _ hm => (by cases hm), List.nodup_nil⟩
  rcases List.mem_cons.mp hf with rfl | hf
  · exact Same.refl H
  · cases hf
theorem SA.ext {H' : Hp} (h : SA L M H) (e : Same H H') : SA L M H' := by
  obtain ⟨⟨F, h1, h2, h3⟩, h4, h5⟩ := h
  exact ⟨⟨F, h1.trans e, h2, h3⟩, fun m hm => e _ _ (h4 m hm), h5⟩
theorem SA.same {H0 : Hp} (h : SA (fS H0 :: L) M H) : Same H0 H := At.hd (f := fS H0) H h
theorem At.ofS {H0 : Hp} (h : f.p H0) : At (fS H0 :: L) M f := fun _ hs => f.mono _ _ hs.same h
/-- a new object of a walk that began at H, told to whom it belongs -/
theorem SA.ext1 {H' : Hp} {L1 : List Fc} (h : SA L M H) (e : SA (fS H :: L1) [(p, o)] H') : SA L ((p, o) :: M) H' := by
  have e1 := e.same
  obtain ⟨⟨F1, g1, g2, g3⟩, g4, g5⟩ := e
  have hp : H p = none := (show Same H F1 from g2 (fS H) List.mem_cons_self).free (g3 (p, o) List.mem_cons_self)
  obtain ⟨⟨F, h1, h2, h3⟩, h4, h5⟩ := h
  refine ⟨⟨F, h1.trans e1, h2, fun m hm => ?_⟩, fun m hm => ?_, ?_⟩
  · rcases List.mem_cons.mp hm with rfl | hm
    · exact h1.free hp
    · exact h3 m hm
  · rcases List.mem_cons.mp hm with rfl | hm
    · exact g4 _ List.mem_cons_self
    · exact e1 _ _ (h4 m hm)
  · refine List.nodup_cons.mpr ⟨fun hm => ?_, h5⟩
    obtain ⟨m, hm, e⟩ := List.mem_map.mp hm
    have q := h4 m hm
    rw [show m.1 = p from e, hp] at q
    cases q
theorem SA.fzL (h : SA L ((p, .lst xs) :: M) H) : SA (fL p xs :: L) M H := h.freeze fun _ e _ => e
theorem SA.newL (h : SA L M H) (hp : H p = none) : SA (fL p xs :: L) M (upd H p (.lst xs)) := h.newF hp fun _ e _ => e
theorem SA.newT (h : SA L M H) (hp : H p = none) : SA (fT K p xs :: L) M (upd H p (.tup xs)) := h.newF hp fun _ e _ => SqT.of e
end

/-! ### steps: a reading from the left -/
section
variable {L L' : List Fc} {M M' : List Cell} {H : Hp} {σ : L2.St} {Q : VK} {a p : Addr} {o o' : HO} {f g : Fc} {c : Cell} {xs ys : List V} {v x y z : V} {D : Ends} {ta tb te : TE} {t u : TT} {ts tu : TS} {tr : TA} {r : R2}
theorem st_var {i : Nat} (h : σ[i]? = some (some v)) (q : Q v H) : tVar i σ H Q := ⟨v, h, q⟩
theorem st_c (q : Q v H) : tC v σ H Q := q
theorem st_op (h : ta σ H fun x H1 => tb σ H1 fun y H2 => r x y H2 Q) : tOp r ta tb σ H Q := h
theorem st_un {r : V → Hp → VK → Prop} (h : ta σ H fun x H1 => r x H1 Q) : tUn r ta σ H Q := h
theorem st_I0 {g : Int → Int → V} {i j : Int} (q : Q (g i j) H) : rI0 g (.int i) (.int j) H Q := ⟨i, j, rfl, rfl, q⟩
theorem st_I {C : Int → Int → Prop} {g : Int → Int → V} {i j : Int} (hc : C i j) (q : Q (g i j) H) : rI C g (.int i) (.int j) H Q := ⟨i, j, rfl, rfl, hc, q⟩
theorem st_U {g : Int → V} {i : Int} (q : Q (g i) H) : rU g (.int i) H Q := ⟨i, rfl, q⟩
theorem st_eq (hs : scal x y = true) (q : Q (.bl (decide (x = y))) H) : rEq x y H Q := ⟨hs, q⟩
theorem st_ne (hs : scal x y = true) (q : Q (.bl (!decide (x = y))) H) : rNe x y H Q := ⟨hs, q⟩
theorem st_eqI {i j : Int} (q : Q (.bl (decide (i = j))) H) : rEq (.int i) (.int j) H Q := by
  refine ⟨rfl, ?_⟩
  have e : (V.int i = V.int j) = (i = j) := by simp
  simp only [e]
  exact q
theorem st_neI {i j : Int} (q : Q (.bl (!decide (i = j))) H) : rNe (.int i) (.int j) H Q := by
  refine ⟨rfl, ?_⟩
  have e : (V.int i = V.int j) = (i = j) := by simp
  simp only [e]
  exact q
theorem st_tnil {Q : List V → Hp → Prop} (q : Q [] H) : tNil σ H Q := q
theorem st_tcons {Q : List V → Hp → Prop} (q : ta σ H fun x H1 => tr σ H1 fun xs H2 => Q (x :: xs) H2) : tCons ta tr σ H Q := q
theorem st_test {Q : Bool → Hp → Prop} (q : te σ H fun x H' => ∃ k, x = .bl k ∧ Q k H') : tTest te σ H Q := q
theorem st_tB {Q : Bool → Hp → Prop} (q : te σ H fun x H' => ∃ k, x = .bl k ∧ Q k H') : tB te σ H Q := q
theorem st_isbl {Q : Bool → Hp → Prop} {k : Bool} (q : Q k H) : ∃ k', V.bl k = .bl k' ∧ Q k' H := ⟨k, rfl, q⟩
theorem st_if (q : t σ H fun c H1 => if c = true then ta σ H1 Q else tb σ H1 Q) : tIf t ta tb σ H Q := q
theorem st_and {Q : Bool → Hp → Prop} (q : t σ H fun c H1 => if c = true then u σ H1 Q else Q false H1) : tAnd t u σ H Q := q
theorem st_or {Q : Bool → Hp → Prop} (q : t σ H fun c H1 => if c = true then Q true H1 else u σ H1 Q) : tOr t u σ H Q := q
theorem st_not {Q : Bool → Hp → Prop} (q : t σ H fun c H1 => Q (!c) H1) : tNot t σ H Q := q
theorem st_andV (q : ta σ H fun x H1 => ∃ c, x = .bl c ∧ if c = true then tb σ H1 Q else Q (.bl false) H1) : tAndV ta tb σ H Q := q
theorem st_orV (q : ta σ H fun x H1 => ∃ c, x = .bl c ∧ if c = true then Q (.bl true) H1 else tb σ H1 Q) : tOrV ta tb σ H Q := q
theorem st_notV (q : ta σ H fun x H1 => ∃ c, x = .bl c ∧ Q (.bl (!c)) H1) : tNotV ta σ H Q := q
theorem st_blE {k : Bool} {P : Bool → Prop} (q : P k) : ∃ c, V.bl k = .bl c ∧ P c := ⟨k, rfl, q⟩
theorem st_seq (q : ts { D with nx := tu D } σ H) : tSeq ts tu D σ H := q
theorem st_cut {Mid : L2.St → Hp → Prop} (h : ts { D with nx := Mid } σ H) (q : ∀ σ' H', Mid σ' H' → tu D σ' H') : Evl.tCut ts tu D σ H := ⟨Mid, h, q⟩
theorem st_asg {g : TG} (q : te σ H fun x H1 => g x σ H1 D.nx) : tAsg te g D σ H := q
theorem st_name {i : Nat} {N : L2.St → Hp → Prop} (q : N (σ.set i (some v)) H) : gName i v σ H N := q
theorem st_ifS {tc : TT} (q : tc σ H fun b H1 => if b = true then ts D σ H1 else tu D σ H1) : tIfS tc ts tu D σ H := q
theorem st_ret (q : te σ H D.rt) : tRet te D σ H := q
theorem st_retN (q : D.rt .non H) : tRetN D σ H := q
theorem st_drop (q : te σ H fun _ H1 => D.nx σ H1) : tDrop te D σ H := q
theorem st_next (q : D.nx σ H) : tNext D σ H := q
theorem st_aug {i : Nat} {ti : TIp} (h : σ[i]? = some (some x)) (q : te σ H fun y H1 => ti x y H1 fun z H2 => D.nx (σ.set i (some z)) H2) : tAug i te ti D σ H := ⟨x, h, q⟩
theorem st_ip {F : Int → Int → Int} {i j : Int} (q : Q (.int (F i j)) H) : ipI F (.int i) (.int j) H Q := ⟨i, j, rfl, rfl, q⟩
theorem st_cb {rr : List V → Hp → VK → Prop} (q : tr σ H fun vs H1 => rr vs H1 Q) : tCB rr tr σ H Q := q
theorem st_call {sp : Sp} {dvs : List V} {E : XK} (q : tr σ H fun vs H1 => sp (vs ++ dvs) H1 Q E) : tCall sp dvs E tr σ H Q := q
theorem st_isN (q : te σ H fun x H1 => Q (.bl (decide (x = .non))) H1) : tIsN te σ H Q := q
theorem st_notN (q : te σ H fun x H1 => Q (.bl (!decide (x = .non))) H1) : tNotN te σ H Q := q
/-- ways -/
theorem if_dec {P : Prop} [Decidable P] {A B : Prop} (h1 : P → A) (h2 : ¬ P → B) : if decide P = true then A else B := by
  by_cases h : P
  · rw [if_pos (decide_eq_true h)]
    exact h1 h
  · rw [if_neg (by rw [decide_eq_false h]; decide)]
    exact h2 h
theorem if_not {b : Bool} {A B : Prop} (h : if b = true then B else A) : if (!b) = true then A else B := by
  cases b with
  | true => exact h
  | false => exact h
theorem if_t {A B : Prop} (h : A) : if true = true then A else B := h
theorem if_f {A B : Prop} (h : B) : if false = true then A else B := h
theorem if_bool {b : Bool} {A B : Prop} (h1 : b = true → A) (h2 : b = false → B) : if b = true then A else B := by
  cases b with
  | true => exact h1 rfl
  | false => exact h2 rfl

/-- reads -/
theorem st_ixL {i : Int} (hS : SA L M H) (h : At L M (fQ K p xs)) (e : atI xs i = some v) (q : Q v H) : rIxL K (.ref p) (.int i) H Q := ⟨p, xs, i, v, rfl, rfl, h H hS, e, q⟩
theorem st_ixT {i : Int} (hS : SA L M H) (h : At L M (fT K p xs)) (e : atI xs i = some v) (q : Q v H) : rIxT K (.ref p) (.int i) H Q := ⟨p, xs, i, v, rfl, rfl, h H hS, e, q⟩
theorem st_len (hS : SA L M H) (h : At L M (fQ K p xs)) (q : Q (.int (xs.length : Int)) H) : (∃ p' xs', [V.ref p] = [.ref p'] ∧ (SqL K H p' xs' ∨ SqT K H p' xs') ∧ Q (.int xs'.length) H) := ⟨p, xs, rfl, .inl (h H hS), q⟩
/-- new things -/
theorem st_new (hS : SA L M H) (q : ∀ p H', SA L ((p, o) :: M) H' → Q (.ref p) H') : ∀ p, H p = none → Q (.ref p) (upd H p o) := fun p hp => q p _ (hS.newM hp)
def NewL (xs : List V) (H : Hp) (Q : VK) : Prop := xs.length ≤ sizeLine ∧ ∀ p, H p = none → Q (.ref p) (upd H p (.lst xs))
def NewT (xs : List V) (H : Hp) (Q : VK) : Prop := xs.length ≤ sizeLine ∧ ∀ p, H p = none → Q (.ref p) (upd H p (.tup xs))
theorem st_lst (q : tr σ H fun xs H1 => NewL xs H1 Q) : tLst tr σ H Q := q
theorem st_tup (q : tr σ H fun xs H1 => NewT xs H1 Q) : tTup tr σ H Q := q
theorem st_newL (hS : SA L M H) (hl : xs.length ≤ 100000) (q : ∀ p H', SA L ((p, .lst xs) :: M) H' → Q (.ref p) H') : NewL xs H Q :=
  ⟨Nat.le_trans hl (by decide), fun p hp => q p _ (hS.newM hp)⟩
theorem st_newT (hS : SA L M H) (hl : xs.length ≤ 100000) (q : ∀ p H', SA (fT K p xs :: L) M H' → Q (.ref p) H') : NewT xs H Q :=
  ⟨Nat.le_trans hl (by decide), fun p hp => q p _ (hS.newT hp)⟩
/-- writes -/
theorem st_setL {j : Nat} {k : Int} {N : Hp → Prop} (hS : SA L M H) (d : Chg M p (.lst xs) (.lst (xs.set j v)) M') (hj : ixN xs.length k = some j) (q : ∀ H', SA L M' H' → N H') : rSetL (.ref p) (.int k) v H N :=
  ⟨p, xs, k, j, rfl, rfl, hS.at d.mem, hj, q _ (hS.set d)⟩
theorem st_app (hS : SA L M H) (d : Chg M p (.lst xs) (.lst (xs ++ [v])) M') (hz : xs.length < 100000) (q : ∀ H', SA L M' H' → Q .non H') : rAppend (.ref p) [v] H Q :=
  ⟨p, xs, v, rfl, rfl, hS.at d.mem, Nat.lt_of_lt_of_le hz (by decide), q _ (hS.set d)⟩
end
end Sa

namespace Sa
open PySem PySem.Spec PyProof.Rows L2
/-! ### rules of one's own -/
/-- ** of a number of at most sixty figures by a small one -/
def CPowW (i j : Int) : Prop := 0 ≤ j ∧ j ≤ 1000 ∧ -1000000000000000000000000000000000000000000000000000000000000 < i ∧ i < 1000000000000000000000000000000000000000000000000000000000000
theorem op_powW {X : Cx} : OpR X (binaryOp .Pow) (rI CPowW fun i j => .int (i ^ j.toNat)) := opI fun i j _ _ _ _ _ hc q => by
  have h0 : i.natAbs < 2 ^ 250 := by
    have e : (1000000000000000000000000000000000000000000000000000000000000 : Nat) < 2 ^ 250 := by decide +kernel
    have h := hc.2.2
    omega
  have h1 : Builtin.Int.intBits i ≤ 1000 := by
    have h := PySem.Flt.log2_lt_of (by decide) h0
    unfold Builtin.Int.intBits
    split <;> omega
  have h2 : (Builtin.Int.intBits i : Int) * j ≤ 2 ^ 27 := by
    have a : (Builtin.Int.intBits i : Int) * j ≤ 1000 * j := Int.mul_le_mul_of_nonneg_right (by omega) hc.1
    have b := hc.2.1
    omega
  exact pow_int hc.1 h2 q
def CMulX (i j : Int) : Prop := (-18446744073709551616 < i ∧ i < 18446744073709551616) ∨ (-18446744073709551616 < j ∧ j < 18446744073709551616) ∨ CMulW i j
theorem op_mulX {X : Cx} : OpR X (binaryOp .Mult) (rI CMulX fun i j => .int (i * j)) := opI fun i j _ _ _ _ _ hc q => by
  rcases hc with h | h | h
  · exact mul_int q (CMul.ok (.inl h))
  · exact mul_int q (CMul.ok (.inr h))
  · exact mul_int q h.ok
def CDivX (i j : Int) : Prop := 0 < j ∧ j < 1000000000000000000000000000000000000000000000000000000000000
theorem op_fdivX {X : Cx} : OpR X (binaryOp .FloorDiv) (rI CDivX fun i j => .int (i / j)) := opI fun i j _ _ _ _ _ hc q => by
  have h1 : (0 : Int) < j := hc.1
  have h0 : j.natAbs < 2 ^ 250 := by
    have e : (1000000000000000000000000000000000000000000000000000000000000 : Nat) < 2 ^ 250 := by decide +kernel
    have h := hc.2
    omega
  exact floordiv_int (by omega) (by rw [Int.fdiv_eq_ediv_of_nonneg i (by omega)]; exact q) (.inl (PyProof.noPylong_of_log2 (Nat.lt_trans (PySem.Flt.log2_lt_of (by decide) h0) (by decide))))
def CModX (i j : Int) : Prop := 0 < j
theorem op_modX {X : Cx} : OpR X (binaryOp .Mod) (rI CModX fun i j => .int (i % j)) := opI fun i j _ _ _ _ _ hc q => by
  have h1 : (0 : Int) < j := hc
  exact mod_int (by omega) (by rw [Int.fmod_eq_emod_of_nonneg i (by omega)]; exact q)
section
variable {X : Cx} {CX : CXT} {k : Nat} {f : Addr} {fd : FuncData} {ps : List Str} {sp : Sp} {E : XK} {x : Str} {p pos : Pos} {t tk : TA} {g : List Value → List Value → List Value} {gV : List V → List V → List V} {ks : List Str} {kws : List Keyword}
/-- f(k = v, ..) -/
theorem pe_callK0 (F : FnOk X.prog X.w X.K X.mg X.base CX k f fd ps sp) (hr : Room k X.A) (hg : Gl X x) (hm : X.mg x = some (.ref f)) (hk : PySem.W.keepIn X.K (.ref f) = true) (hb : KBinds X.K fd ps ks g gV) (hx : Passes CX X E)
    (hkw : PK X kws tk) (hall : (backToKw pos (keywordEach kws X.env)).all (·.1.isSome) = true := by rfl) (hks : (backToKw pos (keywordEach kws X.env)).filterMap (·.1) = ks := by rfl)
    (hdb : (x == ("__debug__" : Str)) = false := by decide) (hpl : ((backTo pos (starEach [] X.env)).any (·.1) || (backToKw pos (keywordEach kws X.env)).any (·.1.isNone)) = false := by rfl) :
    PE X (.Call (.Name x p) [] kws pos) (tCallK sp gV E tNil tk) := by
  refine ⟨fun pins s σ H Q I h => ?_⟩
  refine wpAny_Call_Name_kw (ld_glob I hg hm ?_ hdb)
  refine PySem.W.callWith_KW0 (h₀ := X.base) I.ok.mod.kin hk hall (thn (hkw.run pos pins s σ H _ I h) fun ws s2 ⟨zs, H2, I2, rz, q2⟩ => ⟨I2.kIn, ?_⟩) hpl
  rw [hks]
  exact run_fnk F hr hb hx I2 .nil rz q2
end
/-! ### built-ins by name -/
def rAbs : List V → Hp → VK → Prop := fun xs H Q => ∃ i, xs = [.int i] ∧ Q (.int (if i < 0 then -i else i)) H
def rMax2 : List V → Hp → VK → Prop := fun xs H Q => ∃ i j, xs = [.int i, .int j] ∧ Q (.int (if j > i then j else i)) H
def rMin2 : List V → Hp → VK → Prop := fun xs H Q => ∃ i j, xs = [.int i, .int j] ∧ Q (.int (if j < i then j else i)) H
def rInt1 : List V → Hp → VK → Prop := fun xs H Q => (∃ i, xs = [.int i] ∧ Q (.int i) H) ∨ ∃ k, xs = [.bl k] ∧ Q (.int (if k then 1 else 0)) H
def rLen (K : PySem.W.Frag) : List V → Hp → VK → Prop := fun xs H Q => ∃ x n, xs = [x] ∧ LenV K x H n ∧ Q (.int n) H
def rListOf (K : PySem.W.Frag) : List V → Hp → VK → Prop := fun xs H Q => ∃ p ys, xs = [.ref p] ∧ (SqL K H p ys ∨ SqT K H p ys) ∧ ∀ l, H l = none → Q (.ref l) (upd H l (.lst ys))
def rIsN : R2 := fun x y H Q => y = .non ∧ Q (.bl (decide (x = .non))) H
def rNotN : R2 := fun x y H Q => y = .non ∧ Q (.bl (!decide (x = .non))) H
def rIsBl : R2 := fun x y H Q => ∃ a b, x = .bl a ∧ y = .bl b ∧ Q (.bl (decide (a = b))) H
theorem call_abs {X : Cx} : CallR X (.builtin "abs") rAbs := L2.call_abs
theorem call_max2 {X : Cx} (hc : X.calm = true) : CallR X (.builtin "max") rMax2 := L2.call_max2 hc
theorem call_min2 {X : Cx} (hc : X.calm = true) : CallR X (.builtin "min") rMin2 := L2.call_min2 hc
theorem call_int1 {X : Cx} : CallR X (.type "int") rInt1 := L2.call_int1
theorem call_len {X : Cx} : CallR X (.builtin "len") (rLen X.K) := L2.call_len
theorem call_list_of {X : Cx} : CallR X (.type "list") (rListOf X.K) := L2.call_list_of
theorem op_isN {X : Cx} : OpR X (compareOp .Is) rIsN := L2.op_isN
theorem op_notN {X : Cx} : OpR X (compareOp .IsNot) rNotN := L2.op_notN
theorem op_is_bl {X : Cx} : OpR X (compareOp .Is) rIsBl := L2.op_is_bl

variable {K : PySem.W.Frag}
section
variable {L L' : List Fc} {M M' : List Cell} {H : Hp} {σ : L2.St} {Q : VK} {a p : Addr} {o o' : HO} {f g : Fc} {c : Cell} {xs ys : List V} {v x y z : V} {D : Ends} {ta tb tc te : TE} {t u : TT} {ts tu : TS} {tr tk : TA} {r r' : R2}
theorem st_pow {g : Int → Int → V} {i j : Int} (h0 : 0 ≤ j) (h1 : j ≤ 1000) (h2 : -1000000000000000000000000000000000000000000000000000000000000 < i) (h3 : i < 1000000000000000000000000000000000000000000000000000000000000) (q : Q (g i j) H) : rI CPowW g (.int i) (.int j) H Q := st_I ⟨h0, h1, h2, h3⟩ q
theorem st_mul1 {g : Int → Int → V} {i j : Int} (h0 : -18446744073709551616 < i) (h1 : i < 18446744073709551616) (q : Q (g i j) H) : rI CMulX g (.int i) (.int j) H Q := st_I (.inl ⟨h0, h1⟩) q
theorem st_mul2 {g : Int → Int → V} {i j : Int} (h0 : -18446744073709551616 < j) (h1 : j < 18446744073709551616) (q : Q (g i j) H) : rI CMulX g (.int i) (.int j) H Q := st_I (.inr (.inl ⟨h0, h1⟩)) q
theorem st_div {g : Int → Int → V} {i j : Int} (h0 : 0 < j) (h1 : j < 1000000000000000000000000000000000000000000000000000000000000) (q : Q (g i j) H) : rI CDivX g (.int i) (.int j) H Q := st_I ⟨h0, h1⟩ q
theorem st_mod {g : Int → Int → V} {i j : Int} (h0 : 0 < j) (q : Q (g i j) H) : rI CModX g (.int i) (.int j) H Q := st_I h0 q
/-- a rest is handed on as a letter -/
theorem st_modL {i j : Int} (h0 : 0 < j) (q : ∀ r : Int, 0 ≤ r → r < j → Q (.int r) H) : rI CModX (fun i j => .int (i % j)) (.int i) (.int j) H Q := st_I h0 (q _ (Int.emod_nonneg _ (by omega)) (Int.emod_lt_of_pos _ h0))
theorem st_abs {i : Int} (q : Q (.int (if i < 0 then -i else i)) H) : rAbs [.int i] H Q := ⟨i, rfl, q⟩
theorem max_is {i j : Int} : (if j > i then j else i) = max i j := by
  rw [Int.max_def]
  split <;> split <;> omega
theorem min_is {i j : Int} : (if j < i then j else i) = min i j := by
  rw [Int.min_def]
  split <;> split <;> omega
theorem st_max2 {i j : Int} (q : Q (.int (max i j)) H) : rMax2 [.int i, .int j] H Q := ⟨i, j, rfl, by rw [max_is]; exact q⟩
theorem st_min2 {i j : Int} (q : Q (.int (min i j)) H) : rMin2 [.int i, .int j] H Q := ⟨i, j, rfl, by rw [min_is]; exact q⟩
theorem st_int1 {i : Int} (q : Q (.int i) H) : rInt1 [.int i] H Q := .inl ⟨i, rfl, q⟩
theorem st_int1b {k : Bool} (q : Q (.int (if k then 1 else 0)) H) : rInt1 [.bl k] H Q := .inr ⟨k, rfl, q⟩
theorem st_lenL (hS : SA L M H) (h : At L M (fQ K p xs)) (q : Q (.int (xs.length : Int)) H) : rLen K [.ref p] H Q := ⟨_, _, rfl, .inl ⟨xs, h H hS, rfl⟩, q⟩
theorem st_lenT (hS : SA L M H) (h : At L M (fT K p xs)) (q : Q (.int (xs.length : Int)) H) : rLen K [.ref p] H Q := ⟨_, _, rfl, .inr ⟨xs, h H hS, rfl⟩, q⟩
theorem st_listOf (hS : SA L M H) (h : At L M (fQ K p xs)) (q : ∀ l H', SA L ((l, .lst xs) :: M) H' → Q (.ref l) H') : rListOf K [.ref p] H Q :=
  ⟨p, xs, rfl, .inl (h H hS), fun l hl => q l _ (hS.newM hl)⟩
theorem st_rIsN (q : Q (.bl (decide (x = .non))) H) : rIsN x .non H Q := ⟨rfl, q⟩
theorem st_rNotN (q : Q (.bl (!decide (x = .non))) H) : rNotN x .non H Q := ⟨rfl, q⟩
theorem st_rIsBl {a b : Bool} (q : Q (.bl (decide (a = b))) H) : rIsBl (.bl a) (.bl b) H Q := ⟨a, b, rfl, rfl, q⟩
theorem st_chain (q : ta σ H fun x H1 => tb σ H1 fun y H2 => r x y H2 fun z H3 => ∃ k, z = .bl k ∧ (if k = true then tc σ H3 fun w' H4 => r' y w' H4 Q else Q (.bl false) H3)) : tChain r r' ta tb tc σ H Q := q
theorem st_par {i j : Nat} (q : tr σ H fun vs H1 => ∃ v w, vs = [v, w] ∧ D.nx ((σ.set i (some v)).set j (some w)) H1) : tPar i j tr D σ H := q
theorem st_par2 {i j : Nat} (q : D.nx ((σ.set i (some x)).set j (some y)) H) : ∃ v w, [x, y] = [v, w] ∧ D.nx ((σ.set i (some v)).set j (some w)) H := ⟨x, y, rfl, q⟩
theorem st_par3 {i j l : Nat} (q : tr σ H fun vs H1 => ∃ u v w, vs = [u, v, w] ∧ D.nx (((σ.set i (some u)).set j (some v)).set l (some w)) H1) : tPar3 i j l tr D σ H := q
theorem st_par33 {i j l : Nat} (q : D.nx (((σ.set i (some x)).set j (some y)).set l (some z)) H) : ∃ u v w, [x, y, z] = [u, v, w] ∧ D.nx (((σ.set i (some u)).set j (some v)).set l (some w)) H := ⟨x, y, z, rfl, q⟩
theorem st_callK {sp : Sp} {gV : List V → List V → List V} {E : XK} (q : tr σ H fun vs H1 => tk σ H1 fun zs H2 => sp (gV vs zs) H2 Q E) : tCallK sp gV E tr tk σ H Q := q
theorem st_bm {T : String} {rr : V → List V → Hp → VK → Prop} (q : ta σ H fun x H1 => tyV K T x H1 ∧ tr σ H1 fun xs H2 => rr x xs H2 Q) : tBM K T rr ta tr σ H Q := q
theorem st_tyL {N : Prop} (hS : SA L M H) (h : At L M (fQ K p xs)) (q : N) : tyV K "list" (.ref p) H ∧ N := ⟨.inl ⟨rfl, xs, h H hS⟩, q⟩
theorem st_sub {to ti : TE} {tset : TSet} {N : L2.St → Hp → Prop} (q : to σ H fun o H1 => ti σ H1 fun i H2 => tset o i v H2 fun H3 => N σ H3) : gSub to ti tset v σ H N := q
/-! slices, sums of lists, the greatest of a list -/
theorem st_sl {tl th : TO} {rr : V → Option Int → Option Int → Hp → VK → Prop} (q : te σ H fun x H1 => tl σ H1 fun l H2 => th σ H2 fun u H3 => rr x l u H3 Q) : tSl rr te tl th σ H Q := q
theorem st_noP {Q : Option Int → Hp → Prop} (q : Q none H) : tNoPart σ H Q := q
theorem st_part {Q : Option Int → Hp → Prop} (q : te σ H fun x H1 => ∃ i, x = .int i ∧ Q (some i) H1) : tPart te σ H Q := q
theorem st_slL {lo hi : Option Int} (hS : SA L M H) (h : At L M (fQ K a xs)) (q : ∀ p H', SA L ((p, .lst (cutV xs lo hi)) :: M) H' → Q (.ref p) H') : rSlL K (.ref a) lo hi H Q := ⟨a, xs, rfl, h H hS, fun p hp => q p _ (hS.newM hp)⟩
theorem st_cat {b : Addr} (hS : SA L M H) (h1 : At L M (fL a xs)) (h2 : At L M (fL b ys)) (hl : xs.length + ys.length ≤ 100000) (q : ∀ p H', SA L ((p, .lst (xs ++ ys)) :: M) H' → Q (.ref p) H') : rCat (.ref a) (.ref b) H Q :=
  ⟨a, b, xs, ys, rfl, rfl, h1 H hS, h2 H hS, Nat.le_trans hl (by decide), fun p hp => q p _ (hS.newM hp)⟩
theorem st_max {ns : List Int} (hS : SA L M H) (h : At L M (fQ K a (ns.map V.int))) (h0 : 0 < ns.length) (q : ∀ m, m ∈ ns → (∀ y, y ∈ ns → y ≤ m) → Q (.int m) H) : rMax K [.ref a] H Q := ⟨a, ns, rfl, h H hS, h0, q⟩
theorem st_min {ns : List Int} (hS : SA L M H) (h : At L M (fQ K a (ns.map V.int))) (h0 : 0 < ns.length) (q : ∀ m, m ∈ ns → (∀ y, y ∈ ns → m ≤ y) → Q (.int m) H) : rMin K [.ref a] H Q := ⟨a, ns, rfl, h H hS, h0, q⟩
theorem st_sum {ns : List Int} (hS : SA L M H) (h : At L M (fQ K a (ns.map V.int))) (q : Q (.int ns.sum) H) : rSum K [.ref a] H Q := ⟨a, ns, rfl, h H hS, q⟩
theorem cut_to {ns : List Int} {j : Int} (h : 0 ≤ j) : cutV (ns.map V.int) none (some j) = (ns.take j.toNat).map V.int := by
  obtain ⟨k, rfl⟩ := Int.eq_ofNat_of_zero_le h
  unfold cutV
  rw [HT.sIx_none, HT.sIx_nat, List.drop_zero, List.length_map, Nat.sub_zero, Int.toNat_natCast, List.map_take]
  by_cases hk : k ≤ ns.length
  · rw [Nat.min_eq_left hk]
  · rw [Nat.min_eq_right (by omega), List.take_of_length_le (by rw [List.length_map]; exact Nat.le_refl _), List.take_of_length_le (by rw [List.length_map]; omega)]
theorem cut_from {ns : List Int} {j : Int} (h : 0 ≤ j) : cutV (ns.map V.int) (some j) none = (ns.drop j.toNat).map V.int := by
  obtain ⟨k, rfl⟩ := Int.eq_ofNat_of_zero_le h
  unfold cutV
  rw [HT.sIx_none, HT.sIx_nat, List.length_map, Int.toNat_natCast, List.map_drop]
  by_cases hk : k ≤ ns.length
  · rw [Nat.min_eq_left hk, List.take_of_length_le (by rw [List.length_drop, List.length_map]; exact Nat.le_refl _)]
  · rw [Nat.min_eq_right (by omega), List.drop_of_length_le (by rw [List.length_map]; exact Nat.le_refl _), List.drop_of_length_le (by rw [List.length_map]; omega)]
    simp
/-- lists compared -/
theorem eqv_ints : ∀ ns ms : List Int, PyData.eqvAll (ns.map PyData.int) (ms.map PyData.int) = decide (ns = ms) := by
  intro ns
  induction ns with
  | nil => intro ms; cases ms <;> rfl
  | cons n ns ih =>
    intro ms
    cases ms with
    | nil => rfl
    | cons m ms =>
      show ((n == m) && PyData.eqvAll (ns.map PyData.int) (ms.map PyData.int)) = _
      rw [ih ms]
      by_cases h1 : n = m
      · by_cases h2 : ns = ms
        · simp [h1, h2]
        · simp [h1, h2]
      · simp [h1]
end
end Sa

namespace Sa
open PySem PySem.Spec PyProof.Rows L2
variable {K : PySem.W.Frag}
/-! ### lists of numbers compared -/
theorem canAll_ints : ∀ ns : List Int, PyData.canLayAll0 (ns.map PyData.int) = true
  | [] => rfl
  | n :: ns => by
    show (PyData.canLay0 (.int n) && PyData.canLayAll0 (ns.map PyData.int)) = true
    rw [canAll_ints ns]
    rfl
theorem depthAll_ints : ∀ ns : List Int, PyData.depthAll (ns.map PyData.int) = 0
  | [] => rfl
  | n :: ns => by
    show max (PyData.depth (.int n)) (PyData.depthAll (ns.map PyData.int)) = 0
    rw [depthAll_ints ns]
    rfl
theorem shaped_ints (ns : List Int) : SeqAt.shaped (.list (ns.map PyData.int)) = true := by
  unfold SeqAt.shaped
  rw [show PyData.canLay0 (.list (ns.map PyData.int)) = PyData.canLayAll0 (ns.map PyData.int) from rfl, canAll_ints,
    show PyData.depth (.list (ns.map PyData.int)) = PyData.depthAll (ns.map PyData.int) + 1 from rfl, depthAll_ints]
  rfl
section
variable {L L' : List Fc} {M M' : List Cell} {H : Hp} {σ : L2.St} {Q : VK} {a p b : Addr} {o o' : HO} {f g : Fc} {c : Cell} {xs ys : List V} {v x y z : V} {D : Ends} {ta tb tc te : TE} {t u : TT} {ts tu : TS} {tr tk : TA} {r r' : R2} {ns ms : List Int}
theorem dp_ints (h : SqL K H a (ns.map V.int)) : Dp K H (.ref a) (.list (ns.map PyData.int)) := .lst h (dpa_ints H ns)
theorem st_eqL (hS : SA L M H) (h1 : At L M (fQ K a (ns.map V.int))) (h2 : At L M (fQ K b (ms.map V.int))) (q : Q (.bl (decide (ns = ms))) H) : rEqD K (.ref a) (.ref b) H Q :=
  ⟨_, _, dp_ints (h1 H hS), dp_ints (h2 H hS), shaped_ints ns, shaped_ints ms, by
    rw [show PyData.eqv (.list (ns.map PyData.int)) (.list (ms.map PyData.int)) = PyData.eqvAll (ns.map PyData.int) (ms.map PyData.int) from rfl, eqv_ints]
    exact q⟩
theorem st_neL (hS : SA L M H) (h1 : At L M (fQ K a (ns.map V.int))) (h2 : At L M (fQ K b (ms.map V.int))) (q : Q (.bl (!decide (ns = ms))) H) : rNeD K (.ref a) (.ref b) H Q :=
  ⟨_, _, dp_ints (h1 H hS), dp_ints (h2 H hS), shaped_ints ns, shaped_ints ms, by
    rw [show PyData.eqv (.list (ns.map PyData.int)) (.list (ms.map PyData.int)) = PyData.eqvAll (ns.map PyData.int) (ms.map PyData.int) from rfl, eqv_ints]
    exact q⟩
/-- an empty list written on the spot -/
theorem st_eqL0 (hS : SA L M H) (h1 : At L M (fQ K a (ns.map V.int))) (h2 : At L M (fQ K b [])) (q : Q (.bl (decide (ns = []))) H) : rEqD K (.ref a) (.ref b) H Q := st_eqL (ms := []) hS h1 h2 q
theorem st_neL0 (hS : SA L M H) (h1 : At L M (fQ K a (ns.map V.int))) (h2 : At L M (fQ K b [])) (q : Q (.bl (!decide (ns = []))) H) : rNeD K (.ref a) (.ref b) H Q := st_neL (ms := []) hS h1 h2 q
theorem SA.ign (h : SA L M H) (hp : H p = none) : SA L M (upd H p o) := (h.newM hp).dropM

/-! ### items of a list of numbers -/
theorem atI_ints {i : Int} (h0 : 0 ≤ i) (h1 : i < ns.length) : atI (ns.map V.int) i = some (.int (ns.getD i.toNat 0)) := by
  have hl : i.toNat < ns.length := by omega
  unfold atI ixN
  rw [if_pos h0, if_pos (by rw [List.length_map]; exact h1)]
  show (ns.map V.int)[i.toNat]? = _
  rw [List.getElem?_map, List.getElem?_eq_getElem hl, List.getD_eq_getElem?_getD, List.getElem?_eq_getElem hl]
  rfl
theorem atI_neg {i : Int} (h0 : i < 0) (h1 : -(ns.length : Int) ≤ i) : atI (ns.map V.int) i = some (.int (ns.getD (i + ns.length).toNat 0)) := by
  have hl : (i + ns.length).toNat < ns.length := by omega
  unfold atI ixN
  rw [if_neg (by omega), if_pos (by rw [List.length_map]; exact h1), List.length_map]
  show (ns.map V.int)[(i + ns.length).toNat]? = _
  rw [List.getElem?_map, List.getElem?_eq_getElem hl, List.getD_eq_getElem?_getD, List.getElem?_eq_getElem hl]
  rfl
theorem st_ixI {i : Int} (hS : SA L M H) (h : At L M (fQ K p (ns.map V.int))) (h0 : 0 ≤ i) (h1 : i < ns.length) (q : Q (.int (ns.getD i.toNat 0)) H) : rIxL K (.ref p) (.int i) H Q :=
  st_ixL hS h (atI_ints h0 h1) q
theorem st_ixN {i : Int} (hS : SA L M H) (h : At L M (fQ K p (ns.map V.int))) (h0 : i < 0) (h1 : -(ns.length : Int) ≤ i) (q : Q (.int (ns.getD (i + ns.length).toNat 0)) H) : rIxL K (.ref p) (.int i) H Q :=
  st_ixL hS h (atI_neg h0 h1) q
theorem ixN_ok {n : Nat} {i : Int} (h0 : 0 ≤ i) (h1 : i < n) : ixN n i = some i.toNat := by
  unfold ixN
  rw [if_pos h0, if_pos h1]

theorem map_set {j : Nat} {w : Int} : (ns.map V.int).set j (.int w) = (ns.set j w).map V.int := by rw [List.map_set]
theorem st_setI {i w : Int} {N : Hp → Prop} (hS : SA L M H) (d : Chg M p (.lst (ns.map V.int)) (.lst ((ns.set i.toNat w).map V.int)) M') (h0 : 0 ≤ i) (h1 : i < ns.length) (q : ∀ H', SA L M' H' → N H') : rSetL (.ref p) (.int i) (.int w) H N := by
  refine ⟨p, _, i, i.toNat, rfl, rfl, hS.at d.mem, ixN_ok h0 (by rw [List.length_map]; exact h1), ?_⟩
  rw [map_set]
  exact q _ (hS.set d)
theorem st_appI {w : Int} (hS : SA L M H) (d : Chg M p (.lst (ns.map V.int)) (.lst ((ns ++ [w]).map V.int)) M') (hz : ns.length < 100000) (q : ∀ H', SA L M' H' → Q .non H') : rAppend (.ref p) [.int w] H Q := by
  refine ⟨p, _, .int w, rfl, rfl, hS.at d.mem, by rw [List.length_map]; exact Nat.lt_of_lt_of_le hz (by decide), ?_⟩
  have e : ns.map V.int ++ [V.int w] = (ns ++ [w]).map V.int := by rw [List.map_append]; rfl
  rw [e]
  exact q _ (hS.set d)
/-- an item of a written list of numbers, at a place that is not written: what all have it has -/
theorem st_menu {i : Int} (P : Int → Prop) (hS : SA L M H) (h : At L M (fQ K p xs)) (e : xs = ms.map V.int) (h0 : 0 ≤ i) (h1 : i < ms.length) (hP : ∀ x ∈ ms, P x) (q : ∀ x, P x → Q (.int x) H) : rIxL K (.ref p) (.int i) H Q := by
  subst e
  refine st_ixL hS h (atI_ints h0 h1) (q _ (hP _ ?_))
  have hl : i.toNat < ms.length := by omega
  rw [List.getD_eq_getElem?_getD, List.getElem?_eq_getElem hl]
  exact List.getElem_mem hl
theorem st_slTo {j : Int} (hS : SA L M H) (h : At L M (fQ K a (ns.map V.int))) (h0 : 0 ≤ j) (q : ∀ p H', SA L ((p, .lst ((ns.take j.toNat).map V.int)) :: M) H' → Q (.ref p) H') : rSlL K (.ref a) none (some j) H Q :=
  st_slL hS h (by rw [cut_to h0]; exact q)
theorem st_slFrom {j : Int} (hS : SA L M H) (h : At L M (fQ K a (ns.map V.int))) (h0 : 0 ≤ j) (q : ∀ p H', SA L ((p, .lst ((ns.drop j.toNat).map V.int)) :: M) H' → Q (.ref p) H') : rSlL K (.ref a) (some j) none H Q :=
  st_slL hS h (by rw [cut_from h0]; exact q)
theorem st_catI (hS : SA L M H) (h1 : At L M (fL a (ns.map V.int))) (h2 : At L M (fL b (ms.map V.int))) (hl : ns.length + ms.length ≤ 100000) (q : ∀ p H', SA L ((p, .lst ((ns ++ ms).map V.int)) :: M) H' → Q (.ref p) H') : rCat (.ref a) (.ref b) H Q :=
  st_cat hS h1 h2 (by rw [List.length_map, List.length_map]; exact hl) (by rw [← List.map_append]; exact q)
theorem st_catI1 {w : Int} (hS : SA L M H) (h1 : At L M (fL a (ns.map V.int))) (h2 : At L M (fL b [.int w])) (hl : ns.length + 1 ≤ 100000) (q : ∀ p H', SA L ((p, .lst ((ns ++ [w]).map V.int)) :: M) H' → Q (.ref p) H') : rCat (.ref a) (.ref b) H Q :=
  st_catI (ms := [w]) hS h1 h2 hl q
theorem st_lenI (hS : SA L M H) (h : At L M (fQ K p (ns.map V.int))) (q : Q (.int (ns.length : Int)) H) : rLen K [.ref p] H Q := st_lenL hS h (by rw [List.length_map]; exact q)
theorem st_cat3 {u v w : Int} (hS : SA L M H) (h1 : At L M (fL a [.int u, .int v, .int w])) (h2 : At L M (fL b (ms.map V.int))) (hl : 3 + ms.length ≤ 100000) (q : ∀ p H', SA L ((p, .lst (([u, v, w] ++ ms).map V.int)) :: M) H' → Q (.ref p) H') : rCat (.ref a) (.ref b) H Q :=
  st_catI (ns := [u, v, w]) hS h1 h2 hl q
theorem ints_at {i : Nat} (h : (ns.map V.int)[i]? = some x) : ∃ n, ns[i]? = some n ∧ x = .int n := by
  rw [List.getElem?_map] at h
  cases e : ns[i]? with
  | none => rw [e] at h; cases h
  | some n =>
    rw [e] at h
    exact ⟨n, rfl, (Option.some.inj h).symm⟩
theorem drop_at {α : Type} {l : List α} {i : Nat} {n : α} (h : l[i]? = some n) : l.drop i = n :: l.drop (i + 1) := by
  obtain ⟨hl, e⟩ := List.getElem?_eq_some_iff.mp h
  rw [List.drop_eq_getElem_cons hl, e]
theorem take_at {α : Type} {l : List α} {i : Nat} {n : α} (h : l[i]? = some n) : l.take (i + 1) = l.take i ++ [n] := by
  obtain ⟨hl, e⟩ := List.getElem?_eq_some_iff.mp h
  rw [List.take_add_one, h]
  rfl
/-! ### loops: an invariant by the turn and a ghost -/
/-- the state at turn n -/
def Iv {γ : Type} (s : Nat → γ → L2.St) (Lf : Nat → γ → List Fc) (Mf : Nat → γ → List Cell) (pr : Nat → γ → Prop) (n : Nat) (σ : L2.St) (H : Hp) : Prop :=
  ∃ g : γ, σ = s n g ∧ pr n g ∧ SA (Lf n g) (Mf n g) H
/-- what a for asks behind its iterator -/
def Lp (J : It) (g : TG) (tb : TS) (D : Ends) (σ : L2.St) (H : Hp) : Prop :=
  ∃ W : Nat → Nat → L2.St → Hp → Prop, (∃ m, W 0 m σ H) ∧ ∀ i m σ H, W i m σ H →
    (J.stop i H ∧ D.nx σ H) ∨ (J.go i H ∧ ∃ N : L2.St → Hp → Prop, (∀ σ' H', N σ' H' → ∃ m', m' < m ∧ W (i + 1) m' σ' H') ∧ ∀ x H', J.yld i H x H' → g x σ H' fun σ2 H2 => tb { D with nx := N, ct := N, bk := D.nx } σ2 H2)
theorem st_for {wi : TI} {g : TG} (q : wi σ H fun J H1 => Lp J g ts D σ H1) : tFor wi g ts D σ H := q
theorem st_iList (q : te σ H fun x H1 => ∃ a, x = .ref a ∧ (∃ xs, SqL K H1 a xs) ∧ R (Itl K a) H1) : iList K te σ H R := q
theorem st_iRng1 (q : tr σ H fun vs H1 => ∃ j : Int, vs = [.int j] ∧ -(2 ^ 62) ≤ j ∧ j < 2 ^ 62 ∧ R (Itr 0 j.toNat) H1) : iRng1 tr σ H R := q
theorem st_iRng2 (q : tr σ H fun vs H1 => ∃ i j : Int, vs = [.int i, .int j] ∧ (-(2 ^ 62) ≤ i ∧ i < 2 ^ 62 ∧ -(2 ^ 62) ≤ j ∧ j < 2 ^ 62) ∧ R (Itr i (j - i).toNat) H1) : iRng2 tr σ H R := q
theorem st_iEnum (q : tr σ H fun vs H1 => ∃ a xs, vs = [.ref a] ∧ SqL K H1 a xs ∧ R (Ite K a) H1) : iEnum K tr σ H R := q
theorem st_iZip (q : tr σ H fun vs H1 => ∃ a b xs ys, vs = [.ref a, .ref b] ∧ SqL K H1 a xs ∧ SqL K H1 b ys ∧ R (Itz K a b) H1) : iZip K tr σ H R := q
theorem st_r1 {g : TG} {n : Nat} {j : Int} (h : j.toNat = n) (hb : j < 2 ^ 62) (hc : -(2 ^ 62) ≤ j) (q : Lp (Itr 0 n) g ts D σ H) : ∃ j' : Int, [V.int j] = [.int j'] ∧ -(2 ^ 62) ≤ j' ∧ j' < 2 ^ 62 ∧ Lp (Itr 0 j'.toNat) g ts D σ H :=
  ⟨j, rfl, hc, hb, by rw [h]; exact q⟩
theorem st_r2 {g : TG} {n : Nat} {i j : Int} (h : (j - i).toNat = n) (hb : -(2 ^ 62) ≤ i ∧ i < 2 ^ 62 ∧ -(2 ^ 62) ≤ j ∧ j < 2 ^ 62) (q : Lp (Itr i n) g ts D σ H) : ∃ i' j' : Int, [V.int i, V.int j] = [.int i', .int j'] ∧ (-(2 ^ 62) ≤ i' ∧ i' < 2 ^ 62 ∧ -(2 ^ 62) ≤ j' ∧ j' < 2 ^ 62) ∧ Lp (Itr i' (j' - i').toNat) g ts D σ H :=
  ⟨i, j, rfl, hb, by rw [h]; exact q⟩
theorem st_e1 {g : TG} (hS : SA L M H) (h : At L M (fQ K a xs)) (q : Lp (Ite K a) g ts D σ H) : ∃ a' xs, [V.ref a] = [.ref a'] ∧ SqL K H a' xs ∧ Lp (Ite K a') g ts D σ H := ⟨a, xs, rfl, h H hS, q⟩
theorem st_l1 {g : TG} (hS : SA L M H) (h : At L M (fQ K a xs)) (q : Lp (Itl K a) g ts D σ H) : ∃ a', V.ref a = .ref a' ∧ (∃ xs, SqL K H a' xs) ∧ Lp (Itl K a') g ts D σ H := ⟨a, rfl, ⟨xs, h H hS⟩, q⟩
theorem st_z1 {g : TG} (hS : SA L M H) (h : At L M (fQ K a xs)) (h2 : At L M (fQ K b ys)) (q : Lp (Itz K a b) g ts D σ H) : ∃ a' b' xs ys, [V.ref a, V.ref b] = [.ref a', .ref b'] ∧ SqL K H a' xs ∧ SqL K H b' ys ∧ Lp (Itz K a' b') g ts D σ H := ⟨a, b, xs, ys, rfl, h H hS, h2 H hS, q⟩
section
variable {γ : Type} (s : Nat → γ → L2.St) (Lf : Nat → γ → List Fc) (Mf : Nat → γ → List Cell) (pr : Nat → γ → Prop)
theorem lp_rng {lo : Int} {n : Nat} {j : Nat} (h0 : Iv s Lf Mf pr 0 σ H)
    (hs : ∀ (i : Nat) (g : γ) (H : Hp), i < n → pr i g → SA (Lf i g) (Mf i g) H → ts { D with nx := Iv s Lf Mf pr (i + 1), ct := Iv s Lf Mf pr (i + 1), bk := D.nx } ((s i g).set j (some (.int (lo + (i : Int))))) H)
    (hd : ∀ (g : γ) (H : Hp), pr n g → SA (Lf n g) (Mf n g) H → D.nx (s n g) H) : Lp (Itr lo n) (gName j) ts D σ H :=
  for_it (walk_range (lo := lo) (n := n)) (Iv s Lf Mf pr) h0 (fun _ _ _ _ _ => trivial) (fun i x σ H H' hi hp hy => by
    obtain ⟨g, rfl, h1, h2⟩ := hp
    obtain ⟨rfl, rfl⟩ := hy
    exact hs i g H' hi h1 h2) (fun σ H hp => by
    obtain ⟨g, rfl, h1, h2⟩ := hp
    exact hd g H h1 h2)
theorem lp_list {j : Nat} (h0 : Iv s Lf Mf pr 0 σ H) (hG : ∀ (i : Nat) (g : γ), i ≤ xs.length → pr i g → At (Lf i g) (Mf i g) (fQ K a xs))
    (hs : ∀ (i : Nat) (x : V) (g : γ) (H : Hp), xs[i]? = some x → pr i g → SA (Lf i g) (Mf i g) H → ts { D with nx := Iv s Lf Mf pr (i + 1), ct := Iv s Lf Mf pr (i + 1), bk := D.nx } ((s i g).set j (some x)) H)
    (hd : ∀ (g : γ) (H : Hp), pr xs.length g → SA (Lf xs.length g) (Mf xs.length g) H → D.nx (s xs.length g) H) : Lp (Itl K a) (gName j) ts D σ H :=
  for_it (walk_list (xs := xs)) (Iv s Lf Mf pr) h0 (fun i σ H hi hp => by
    obtain ⟨g, rfl, h1, h2⟩ := hp
    exact hG i g hi h1 H h2) (fun i x σ H H' hi hp hy => by
    obtain ⟨g, rfl, h1, h2⟩ := hp
    obtain ⟨rfl, hx⟩ := hy
    exact hs i x g H' hx h1 h2) (fun σ H hp => by
    obtain ⟨g, rfl, h1, h2⟩ := hp
    exact hd g H h1 h2)
/-- for i, x in enumerate(xs) -/
theorem lp_enum {j k : Nat} (h0 : Iv s Lf Mf pr 0 σ H) (hG : ∀ (i : Nat) (g : γ), i ≤ xs.length → pr i g → At (Lf i g) (Mf i g) (fQ K a xs))
    (hs : ∀ (i : Nat) (x : V) (g : γ) (H : Hp), xs[i]? = some x → pr i g → SA (Lf i g) (Mf i g) H → ts { D with nx := Iv s Lf Mf pr (i + 1), ct := Iv s Lf Mf pr (i + 1), bk := D.nx } (((s i g).set j (some (.int (i : Nat)))).set k (some x)) H)
    (hd : ∀ (g : γ) (H : Hp), pr xs.length g → SA (Lf xs.length g) (Mf xs.length g) H → D.nx (s xs.length g) H) : Lp (Ite K a) (gTup K 2 (gCons (gName j) (gCons (gName k) gNil))) ts D σ H :=
  for_it (walk_enum (xs := xs)) (Iv s Lf Mf pr) h0 (fun i σ H hi hp => by
    obtain ⟨g, rfl, h1, h2⟩ := hp
    exact hG i g hi h1 H h2) (fun i x σ H H' hi hp hy => by
    obtain ⟨g, rfl, h1, h2⟩ := hp
    obtain ⟨T, y1, y2, rfl, hT, rfl, e1, e2⟩ := hy
    cases e1
    refine ⟨T, [.int (i : Nat), y2], rfl, SqT.of upd_same, rfl, _, _, rfl, _, _, rfl, rfl, ?_⟩
    exact hs i y2 g _ e2 h1 (h2.ign hT)) (fun σ H hp => by
    obtain ⟨g, rfl, h1, h2⟩ := hp
    exact hd g H h1 h2)
/-- for x, y in zip(xs, ys) -/
theorem lp_zip {j k : Nat} {n : Nat} (hn : n = min xs.length ys.length) (h0 : Iv s Lf Mf pr 0 σ H) (hG : ∀ (i : Nat) (g : γ), i ≤ n → pr i g → At (Lf i g) (Mf i g) (fQ K a xs)) (hG2 : ∀ (i : Nat) (g : γ), i ≤ n → pr i g → At (Lf i g) (Mf i g) (fQ K b ys))
    (hs : ∀ (i : Nat) (x y : V) (g : γ) (H : Hp), xs[i]? = some x → ys[i]? = some y → pr i g → SA (Lf i g) (Mf i g) H → ts { D with nx := Iv s Lf Mf pr (i + 1), ct := Iv s Lf Mf pr (i + 1), bk := D.nx } (((s i g).set j (some x)).set k (some y)) H)
    (hd : ∀ (g : γ) (H : Hp), pr n g → SA (Lf n g) (Mf n g) H → D.nx (s n g) H) : Lp (Itz K a b) (gTup K 2 (gCons (gName j) (gCons (gName k) gNil))) ts D σ H :=
  for_it (walk_zip (xs := xs) (ys := ys) hn) (Iv s Lf Mf pr) h0 (fun i σ H hi hp => by
    obtain ⟨g, rfl, h1, h2⟩ := hp
    exact ⟨hG i g hi h1 H h2, hG2 i g hi h1 H h2⟩) (fun i x σ H H' hi hp hy => by
    obtain ⟨g, rfl, h1, h2⟩ := hp
    obtain ⟨T, y1, y2, rfl, hT, rfl, e1, e2⟩ := hy
    refine ⟨T, [y1, y2], rfl, SqT.of upd_same, rfl, _, _, rfl, _, _, rfl, rfl, ?_⟩
    exact hs i y1 y2 g _ e1 e2 h1 (h2.ign hT)) (fun σ H hp => by
    obtain ⟨g, rfl, h1, h2⟩ := hp
    exact hd g H h1 h2)
end

/-! ### comprehensions -/
def Lc (J : It) (g : TG) (tt : TT) (te : TE) (vs : List Nat) (σ : L2.St) (Q : VK) (H1 : Hp) : Prop := ∀ D, H1 D = none → ∃ W : Nat → Nat → Hp → Prop, (∃ m, W 0 m (upd H1 D (.lst []))) ∧ ∀ i m H, W i m H →
  (J.stop i H ∧ Q (.ref D) H) ∨ (J.go i H ∧ ∃ Nx : Hp → Prop, (∀ H', Nx H' → ∃ m', m' < m ∧ W (i + 1) m' H') ∧ ∀ x H', J.yld i H x H' → g x (wipe σ vs) H' fun σ2 H2 => wipe σ2 vs = wipe σ vs ∧ tt σ2 H2 fun b H3 =>
    if b = true then te σ2 H3 fun y H4 => ∃ acc, H4 D = some (.lst acc) ∧ acc.length < sizeLine ∧ Nx (upd H4 D (.lst (acc ++ [y]))) else Nx H3)
theorem st_r1c {g : TG} {vs : List Nat} {n : Nat} {j : Int} (h : j.toNat = n) (hb : j < 2 ^ 62) (hc : -(2 ^ 62) ≤ j) (q : Lc (Itr 0 n) g t te vs σ Q H) : ∃ j' : Int, [V.int j] = [.int j'] ∧ -(2 ^ 62) ≤ j' ∧ j' < 2 ^ 62 ∧ Lc (Itr 0 j'.toNat) g t te vs σ Q H :=
  ⟨j, rfl, hc, hb, by rw [h]; exact q⟩
theorem st_r2c {g : TG} {vs : List Nat} {n : Nat} {i j : Int} (h : (j - i).toNat = n) (hb : -(2 ^ 62) ≤ i ∧ i < 2 ^ 62 ∧ -(2 ^ 62) ≤ j ∧ j < 2 ^ 62) (q : Lc (Itr i n) g t te vs σ Q H) : ∃ i' j' : Int, [V.int i, V.int j] = [.int i', .int j'] ∧ (-(2 ^ 62) ≤ i' ∧ i' < 2 ^ 62 ∧ -(2 ^ 62) ≤ j' ∧ j' < 2 ^ 62) ∧ Lc (Itr i' (j' - i').toNat) g t te vs σ Q H :=
  ⟨i, j, rfl, hb, by rw [h]; exact q⟩
theorem st_e1c {g : TG} {vs : List Nat} (hS : SA L M H) (h : At L M (fQ K a xs)) (q : Lc (Ite K a) g t te vs σ Q H) : ∃ a' xs, [V.ref a] = [.ref a'] ∧ SqL K H a' xs ∧ Lc (Ite K a') g t te vs σ Q H := ⟨a, xs, rfl, h H hS, q⟩
theorem st_l1c {g : TG} {vs : List Nat} (hS : SA L M H) (h : At L M (fQ K a xs)) (q : Lc (Itl K a) g t te vs σ Q H) : ∃ a', V.ref a = .ref a' ∧ (∃ xs, SqL K H a' xs) ∧ Lc (Itl K a') g t te vs σ Q H := ⟨a, rfl, ⟨xs, h H hS⟩, q⟩
theorem st_z1c {g : TG} {vs : List Nat} (hS : SA L M H) (h : At L M (fQ K a xs)) (h2 : At L M (fQ K b ys)) (q : Lc (Itz K a b) g t te vs σ Q H) : ∃ a' b' xs ys, [V.ref a, V.ref b] = [.ref a', .ref b'] ∧ SqL K H a' xs ∧ SqL K H b' ys ∧ Lc (Itz K a' b') g t te vs σ Q H := ⟨a, b, xs, ys, rfl, h H hS, h2 H hS, q⟩
theorem st_lc {wi : TI} {g : TG} {vs : List Nat} (q : wi σ H fun J H1 => Lc J g t te vs σ Q H1) : tLc wi g t te vs σ H Q := q
/-- a test, an item, of a state that they leave as it is (but for what is new) -/
def EvT (t : TT) (σ : L2.St) (L : List Fc) (M : List Cell) (b : Bool) : Prop := ∀ H, SA L M H → ∀ Q : Bool → Hp → Prop, (∀ H', SA L M H' → Q b H') → t σ H Q
def EvV (te : TE) (σ : L2.St) (L : List Fc) (M : List Cell) (v : V) : Prop := ∀ H, SA L M H → ∀ Q : VK, (∀ H', SA L M H' → Q v H') → te σ H Q
theorem evT_yes : EvT tYes σ L M true := fun H hS Q q => q H hS
open Evl (given given_yes given_no given_len) in
theorem lc_turn {D : Addr} {σ2 : L2.St} {ff : Nat → Bool} {w : Nat → V} {i : Nat} (hi : i < 50000) (hS : SA L ((D, .lst (given i ff w)) :: M) H)
    (ht : EvT t σ2 L ((D, .lst (given i ff w)) :: M) (ff i)) (he : ff i = true → EvV te σ2 L ((D, .lst (given i ff w)) :: M) (w i)) :
    t σ2 H fun b H3 => if b = true then te σ2 H3 fun y H4 => ∃ acc, H4 D = some (.lst acc) ∧ acc.length < sizeLine ∧ SA L ((D, .lst (given (i + 1) ff w)) :: M) (upd H4 D (.lst (acc ++ [y]))) else SA L ((D, .lst (given (i + 1) ff w)) :: M) H3 := by
  refine ht H hS _ fun H3 hS3 => ?_
  cases hf : ff i with
  | true =>
    refine if_t ?_
    refine he hf H3 hS3 _ fun H4 hS4 => ⟨given i ff w, hS4.at List.mem_cons_self, Nat.lt_of_le_of_lt (given_len i ff w) (Nat.lt_of_lt_of_le hi (by decide)), ?_⟩
    rw [given_yes hf]
    exact hS4.set .hd
  | false =>
    refine if_f ?_
    rw [given_no hf]
    exact hS3
open Evl (given) in
theorem lc_rng {lo : Int} {n j : Nat} {vs : List Nat} (hn : n < 50000) (hS : SA L M H) (ff : Nat → Bool) (w : Nat → V) (hw : ∀ x, wipe ((wipe σ vs).set j (some x)) vs = wipe σ vs)
    (ht : ∀ (i : Nat) (D : Addr) acc, i < n → EvT t ((wipe σ vs).set j (some (.int (lo + (i : Int))))) L ((D, .lst acc) :: M) (ff i))
    (he : ∀ (i : Nat) (D : Addr) acc, i < n → ff i = true → EvV te ((wipe σ vs).set j (some (.int (lo + (i : Int))))) L ((D, .lst acc) :: M) (w i))
    (q : ∀ D H', SA L ((D, .lst (given n ff w)) :: M) H' → Q (.ref D) H') : Lc (Itr lo n) (gName j) t te vs σ Q H := fun D hD =>
  lc_it (walk_range (lo := lo) (n := n)) (fun i H => SA L ((D, .lst (given i ff w)) :: M) H) (hS.newM hD) (fun _ _ _ _ => trivial) (fun i x H H' hi hp hy => by
    obtain ⟨rfl, rfl⟩ := hy
    exact ⟨hw _, lc_turn (by omega) hp (ht i D _ hi) (he i D _ hi)⟩) (fun H' hp => q D H' hp)
open Evl (given) in
theorem lc_lst {j : Nat} {vs : List Nat} (hn : xs.length < 50000) (hS : SA L M H) (hx : At L M (fQ K a xs)) (ff : Nat → Bool) (w : Nat → V) (hw : ∀ x, wipe ((wipe σ vs).set j (some x)) vs = wipe σ vs)
    (ht : ∀ (i : Nat) (x : V) (D : Addr) acc, xs[i]? = some x → EvT t ((wipe σ vs).set j (some x)) L ((D, .lst acc) :: M) (ff i))
    (he : ∀ (i : Nat) (x : V) (D : Addr) acc, xs[i]? = some x → ff i = true → EvV te ((wipe σ vs).set j (some x)) L ((D, .lst acc) :: M) (w i))
    (q : ∀ D H', SA L ((D, .lst (given xs.length ff w)) :: M) H' → Q (.ref D) H') : Lc (Itl K a) (gName j) t te vs σ Q H := fun D hD =>
  lc_it (walk_list (xs := xs)) (fun i H => SA L ((D, .lst (given i ff w)) :: M) H) (hS.newM hD) (fun i H _ hp => hx H hp.dropM) (fun i x H H' hi hp hy => by
    obtain ⟨rfl, hx⟩ := hy
    exact ⟨hw _, lc_turn (by omega) hp (ht i x D _ hx) (he i x D _ hx)⟩) (fun H' hp => q D H' hp)
open Evl (given) in
theorem lc_enum {j k : Nat} {vs : List Nat} (hn : xs.length < 50000) (hS : SA L M H) (hx : At L M (fQ K a xs)) (ff : Nat → Bool) (w : Nat → V) (hw : ∀ x y, wipe (((wipe σ vs).set j (some x)).set k (some y)) vs = wipe σ vs)
    (ht : ∀ (i : Nat) (x : V) (D : Addr) acc, xs[i]? = some x → EvT t (((wipe σ vs).set j (some (.int (i : Nat)))).set k (some x)) L ((D, .lst acc) :: M) (ff i))
    (he : ∀ (i : Nat) (x : V) (D : Addr) acc, xs[i]? = some x → ff i = true → EvV te (((wipe σ vs).set j (some (.int (i : Nat)))).set k (some x)) L ((D, .lst acc) :: M) (w i))
    (q : ∀ D H', SA L ((D, .lst (given xs.length ff w)) :: M) H' → Q (.ref D) H') : Lc (Ite K a) (gTup K 2 (gCons (gName j) (gCons (gName k) gNil))) t te vs σ Q H := fun D hD =>
  lc_it (walk_enum (xs := xs)) (fun i H => SA L ((D, .lst (given i ff w)) :: M) H) (hS.newM hD) (fun i H _ hp => hx H hp.dropM) (fun i x H H' hi hp hy => by
    obtain ⟨T, y1, y2, rfl, hT, rfl, e1, e2⟩ := hy
    cases e1
    refine ⟨T, [.int (i : Nat), y2], rfl, SqT.of upd_same, rfl, _, _, rfl, _, _, rfl, rfl, ?_⟩
    exact ⟨hw _ _, lc_turn (by omega) (hp.ign hT) (ht i y2 D _ e2) (he i y2 D _ e2)⟩) (fun H' hp => q D H' hp)
end
end Sa
namespace Sa
open PySem PySem.Spec PyProof.Rows L2
/-! ### keywords alone, in the parameters' order; in another order by g -/
def g0 {α : Type} : List α → List α → List α
  | [], ws => ws
  | _ :: _, _ => []
theorem kb0 {K : PySem.W.Frag} {x qual : Str} {st : Stmt} {f : Addr} {fd : FuncData} {ps ks : List Str} (F : Fun K x qual st f fd) (h0 : 0 < ps.length)
    (h : ∀ (kV doc pm : Value) (an : Option Addr) (cdv ct : Value) (ws : List Value), ws.length = ps.length → bindArgs (PySem.W.fnOf x qual (defArgs st) (defBody st) (defScope st) .none kV doc pm an cdv ct) ⟨[], ks.zip ws⟩ = pure (ps.zip ws)) : KBinds K fd ps ks g0 g0 := by
  obtain ⟨oc, od, kV, doc, pm, an, cdv, ct, osl, rfl, lk, hcd⟩ := F.ex
  refine ⟨fun s us ws _ hl => ?_, fun {vs us zs ws} r rz => ?_⟩
  · cases us with
    | nil => exact .of_eq (h kV doc pm an cdv ct ws hl)
    | cons u us =>
      have hl' : 0 = ps.length := hl
      omega
  · cases r with
    | nil => exact rz
    | cons _ _ => exact .nil
/-- one value by position, the rest by name in the parameters' order -/
def g1 {α : Type} : List α → List α → List α
  | [u], ws => u :: ws
  | _, _ => []
theorem kb1 {K : PySem.W.Frag} {x qual : Str} {st : Stmt} {f : Addr} {fd : FuncData} {ps ks : List Str} (F : Fun K x qual st f fd) (h0 : 0 < ps.length)
    (h : ∀ (kV doc pm : Value) (an : Option Addr) (cdv ct : Value) (u : Value) (ws : List Value), (u :: ws).length = ps.length → bindArgs (PySem.W.fnOf x qual (defArgs st) (defBody st) (defScope st) .none kV doc pm an cdv ct) ⟨[u], ks.zip ws⟩ = pure (ps.zip (u :: ws))) : KBinds K fd ps ks g1 g1 := by
  obtain ⟨oc, od, kV, doc, pm, an, cdv, ct, osl, rfl, lk, hcd⟩ := F.ex
  refine ⟨fun s us ws _ hl => ?_, fun {vs us zs ws} r rz => ?_⟩
  · match us, hl with
    | [], hl =>
      have hl' : 0 = ps.length := hl
      omega
    | [u], hl => exact .of_eq (h kV doc pm an cdv ct u ws hl)
    | _ :: _ :: _, hl =>
      have hl' : 0 = ps.length := hl
      omega
  · cases r with
    | nil => exact .nil
    | cons r rr =>
      cases rr with
      | nil => exact .cons r rz
      | cons _ _ => exact .nil
end Sa
namespace Sa
open PySem PySem.Spec PyProof.Rows L2
theorem cxK {CX : CXT} {P : Program} {w : World} {K : PySem.W.Frag} {mg : Str → Option Value} {base : Heap} {N : List Str} {qual : Str} {sc : Scope} {f : Addr} {cd : Value} {A : Around} {outer : List Env} {s : Shared} {H : Hp} {E : XK} : (cxOf CX P w K mg base N qual sc f cd A outer s H E).nox.K = K := rfl
theorem cxK' {CX : CXT} {P : Program} {w : World} {K : PySem.W.Frag} {mg : Str → Option Value} {base : Heap} {N : List Str} {qual : Str} {sc : Scope} {f : Addr} {cd : Value} {A : Around} {outer : List Env} {s : Shared} {H : Hp} {E : XK} : (cxOf CX P w K mg base N qual sc f cd A outer s H E).K = K := rfl
theorem asg2 {x y : Str} {p q : Pos} {env : Env} : (assignEach [.Name x p, .Name y q] env).length = 2 := rfl
theorem asg3 {x y z : Str} {p q r : Pos} {env : Env} : (assignEach [.Name x p, .Name y q, .Name z r] env).length = 3 := rfl
theorem asg2t {x : Str} {p q : Pos} {es : List Expr} {k : Nat} {env : Env} : (assignEach [.Name x p, .Tuple es k q] env).length = 2 := rfl
end Sa

namespace Sa
open PySem PySem.Spec PyProof.Rows L2 RZ
/-! ### data: isinstance, zip of two lists or tuples -/
def tyN : PyData → String
  | .none => "NoneType"
  | .bool _ => "bool"
  | .int _ => "int"
  | .str _ => "str"
  | .list _ => "list"
  | .tuple _ => "tuple"
  | .dict _ => "dict"
section
variable {K : PySem.W.Frag} {L L' : List Fc} {M M' : List Cell} {H : Hp} {σ : L2.St} {Q : VK} {a p b : Addr} {xs ys : List V} {v x y z : V} {D : Ends} {te : TE} {t : TT} {ts tu : TS} {tr : TA} {d : PyData} {ds : List PyData}
theorem dp_list (h : Dp K H v (.list ds)) : ∃ a xs, v = .ref a ∧ SqL K H a xs ∧ DpAll K H xs ds := by
  cases h with
  | lst h1 h2 => exact ⟨_, _, rfl, h1, h2⟩
theorem dp_tuple (h : Dp K H v (.tuple ds)) : ∃ a xs, v = .ref a ∧ SqT K H a xs ∧ DpAll K H xs ds := by
  cases h with
  | tup h1 h2 => exact ⟨_, _, rfl, h1, h2⟩
theorem dp_int {i : Int} (h : Dp K H v (.int i)) : v = .int i := by cases h; rfl
theorem dp_bool {i : Bool} (h : Dp K H v (.bool i)) : v = .bl i := by cases h; rfl
theorem dp_none (h : Dp K H v .none) : v = .non := by cases h; rfl
theorem dp_str {i : Str} (h : Dp K H v (.str i)) : v = .str i := by cases h; rfl
theorem dpa_len : ∀ {xs : List V} {ds : List PyData}, DpAll K H xs ds → xs.length = ds.length
  | _, _, .nil => rfl
  | _, _, .cons _ h => by simp only [List.length_cons, dpa_len h]
theorem dpa_get : ∀ {xs : List V} {ds : List PyData} {i : Nat} {x : V}, DpAll K H xs ds → xs[i]? = some x → ∃ d, ds[i]? = some d ∧ Dp K H x d
  | _, _, _, _, .nil, h => by simp at h
  | _, _, 0, _, .cons h1 _, h => by
    simp at h
    subst h
    exact ⟨_, rfl, h1⟩
  | _, _, i + 1, _, .cons _ h2, h => by
    obtain ⟨d, e, h3⟩ := dpa_get (i := i) h2 (by simpa using h)
    exact ⟨d, by simpa using e, h3⟩
theorem ty_of (h : Dp K H v d) : TyX K H v (.type (tyN d)) := by
  cases h with
  | non => exact .base .non
  | bl b => exact .base (.bl b)
  | int i => exact .base (.int i)
  | str x => exact .base (.str x)
  | lst h1 h2 =>
    rcases h1 with (h1 | ⟨o, h1⟩) | ⟨o, its, n, h1, h2, _⟩
    · exact .base (.lst h1)
    · exact .base (.frz h1)
    · exact .kList h1 h2
  | tup h1 h2 =>
    rcases h1 with (h1 | ⟨o, h1⟩) | ⟨o, its, n, h1, h2, _⟩
    · exact .base (.tup h1)
    · exact .fTuple h1
    · exact .kTuple h1 h2
theorem st_isi {T : String} {r : Bool} (h : Dp K H v d) (e : kitB (tyN d) T = some r) (q : Q (.bl r) H) : rIsi K [v, .ty T] H Q :=
  ⟨v, .ty T, .type (tyN d), .type T, r, rfl, .ty T, ty_of h, kit_ty e, q⟩
def kBool : PyData → Bool
  | .bool _ => true
  | _ => false
theorem st_kBool (h : Dp K H v d) (q : Q (.bl (kBool d)) H) : rIsi K [v, .ty "bool"] H Q :=
  st_isi (r := kBool d) h (by cases d <;> (dsimp only [tyN, kBool]; decide +kernel)) q
def kInt : PyData → Bool
  | .int _ => true
  | .bool _ => true
  | _ => false
theorem st_kInt (h : Dp K H v d) (q : Q (.bl (kInt d)) H) : rIsi K [v, .ty "int"] H Q :=
  st_isi (r := kInt d) h (by cases d <;> (dsimp only [tyN, kInt]; decide +kernel)) q
def kStr : PyData → Bool
  | .str _ => true
  | _ => false
theorem st_kStr (h : Dp K H v d) (q : Q (.bl (kStr d)) H) : rIsi K [v, .ty "str"] H Q :=
  st_isi (r := kStr d) h (by cases d <;> (dsimp only [tyN, kStr]; decide +kernel)) q
def kList : PyData → Bool
  | .list _ => true
  | _ => false
theorem st_kList (h : Dp K H v d) (q : Q (.bl (kList d)) H) : rIsi K [v, .ty "list"] H Q :=
  st_isi (r := kList d) h (by cases d <;> (dsimp only [tyN, kList]; decide +kernel)) q
def kTuple : PyData → Bool
  | .tuple _ => true
  | _ => false
theorem st_kTuple (h : Dp K H v d) (q : Q (.bl (kTuple d)) H) : rIsi K [v, .ty "tuple"] H Q :=
  st_isi (r := kTuple d) h (by cases d <;> (dsimp only [tyN, kTuple]; decide +kernel)) q
theorem st_newTc (hS : SA L M H) (hl : xs.length ≤ 100000) (q : ∀ p H', SA L ((p, .tup xs) :: M) H' → Q (.ref p) H') : NewT xs H Q :=
  ⟨Nat.le_trans hl (by decide), fun p hp => q p _ (hS.newM hp)⟩
/-- isinstance(v, (list, tuple)) -/
theorem st_isiLT {tp : Addr} (hS : SA L ((tp, .tup [.ty "list", .ty "tuple"]) :: M) H) (h : Dp K H v d) (q : Q (.bl (kList d || kTuple d)) H) : rIsiT K [v, .ref tp] H Q := by
  have e1 : kitB (tyN d) "list" = some (kList d) := by cases d <;> (dsimp only [tyN, kList]; decide +kernel)
  have e2 : kitB (tyN d) "tuple" = some (kTuple d) := by cases d <;> (dsimp only [tyN, kTuple]; decide +kernel)
  refine ⟨v, tp, [.ty "list", .ty "tuple"], .type (tyN d), [.type "list", .type "tuple"], kList d || kTuple d, rfl, hS.at List.mem_cons_self, .cons (.ty _) (.cons (.ty _) .nil), ty_of h, ?_, q⟩
  refine kitAny_cons (kit_ty e1) (fun hb => ?_) (fun hb => by rw [hb]; rfl)
  rw [hb, Bool.false_or]
  refine kitAny_cons (kit_ty e2) (fun hb => ?_) (fun hb => hb)
  rw [hb]
  rfl
/-- v[i] of a list or a tuple -/
theorem st_ixD {i : Int} {n : Nat} (h : Dp K H v (.list ds)) (hi : i = (n : Int)) (hl : n < ds.length) (q : ∀ x d, ds[n]? = some d → Dp K H x d → Q x H) : rIx K v (.int i) H Q := by
  obtain ⟨a, xs, rfl, h1, h2⟩ := dp_list h
  have hlx : n < xs.length := by rw [dpa_len h2]; exact hl
  have hx : xs[n]? = some xs[n] := List.getElem?_eq_getElem hlx
  obtain ⟨d, e, h3⟩ := dpa_get h2 hx
  subst hi
  exact .inl ⟨a, xs, (n : Int), _, rfl, rfl, h1, atI_nat hx, q _ d e h3⟩
theorem st_ixU {i : Int} {n : Nat} (h : Dp K H v (.tuple ds)) (hi : i = (n : Int)) (hl : n < ds.length) (q : ∀ x d, ds[n]? = some d → Dp K H x d → Q x H) : rIx K v (.int i) H Q := by
  obtain ⟨a, xs, rfl, h1, h2⟩ := dp_tuple h
  have hlx : n < xs.length := by rw [dpa_len h2]; exact hl
  have hx : xs[n]? = some xs[n] := List.getElem?_eq_getElem hlx
  obtain ⟨d, e, h3⟩ := dpa_get h2 hx
  subst hi
  exact .inr (.inl ⟨a, xs, (n : Int), _, rfl, rfl, h1, atI_nat hx, q _ d e h3⟩)
theorem st_lenD (h : Dp K H v (.list ds)) (q : Q (.int (ds.length : Int)) H) : rLen K [v] H Q := by
  obtain ⟨a, xs, rfl, h1, h2⟩ := dp_list h
  rw [← dpa_len h2] at q
  exact ⟨_, _, rfl, .inl ⟨xs, h1, rfl⟩, q⟩
theorem st_lenU (h : Dp K H v (.tuple ds)) (q : Q (.int (ds.length : Int)) H) : rLen K [v] H Q := by
  obtain ⟨a, xs, rfl, h1, h2⟩ := dp_tuple h
  rw [← dpa_len h2] at q
  exact ⟨_, _, rfl, .inr ⟨xs, h1, rfl⟩, q⟩
theorem st_iZipA {R : It → Hp → Prop} (q : tr σ H fun vs H1 => ∃ a b xs ys, vs = [.ref a, .ref b] ∧ ((SqL K H1 a xs ∧ SqL K H1 b ys ∧ R (Itz K a b) H1) ∨ (SqT K H1 a xs ∧ SqT K H1 b ys ∧ R (ItzT K a b) H1))) : iZipA K tr σ H R := q
theorem st_zAL {g : TG} (hS : SA L M H) (h : At L M (fQ K a xs)) (h2 : At L M (fQ K b ys)) (q : Lp (Itz K a b) g ts D σ H) : ∃ a' b' xs ys, [V.ref a, V.ref b] = [.ref a', .ref b'] ∧ ((SqL K H a' xs ∧ SqL K H b' ys ∧ Lp (Itz K a' b') g ts D σ H) ∨ (SqT K H a' xs ∧ SqT K H b' ys ∧ Lp (ItzT K a' b') g ts D σ H)) :=
  ⟨a, b, xs, ys, rfl, .inl ⟨h H hS, h2 H hS, q⟩⟩
theorem st_zAT {g : TG} (hS : SA L M H) (h : At L M (fT K a xs)) (h2 : At L M (fT K b ys)) (q : Lp (ItzT K a b) g ts D σ H) : ∃ a' b' xs ys, [V.ref a, V.ref b] = [.ref a', .ref b'] ∧ ((SqL K H a' xs ∧ SqL K H b' ys ∧ Lp (Itz K a' b') g ts D σ H) ∨ (SqT K H a' xs ∧ SqT K H b' ys ∧ Lp (ItzT K a' b') g ts D σ H)) :=
  ⟨a, b, xs, ys, rfl, .inr ⟨h H hS, h2 H hS, q⟩⟩
variable {γ : Type} (s : Nat → γ → L2.St) (Lf : Nat → γ → List Fc) (Mf : Nat → γ → List Cell) (pr : Nat → γ → Prop)
/-- for x, y in zip(xs, ys), two tuples of one length -/
theorem lp_zipT {j k : Nat} (hn : xs.length = ys.length) (h0 : Iv s Lf Mf pr 0 σ H) (hG : ∀ (i : Nat) (g : γ), pr i g → At (Lf i g) (Mf i g) (fT K a xs)) (hG2 : ∀ (i : Nat) (g : γ), pr i g → At (Lf i g) (Mf i g) (fT K b ys))
    (hs : ∀ (i : Nat) (x y : V) (g : γ) (H : Hp), xs[i]? = some x → ys[i]? = some y → pr i g → SA (Lf i g) (Mf i g) H → ts { D with nx := Iv s Lf Mf pr (i + 1), ct := Iv s Lf Mf pr (i + 1), bk := D.nx } (((s i g).set j (some x)).set k (some y)) H)
    (hd : ∀ (g : γ) (H : Hp), pr xs.length g → SA (Lf xs.length g) (Mf xs.length g) H → D.nx (s xs.length g) H) : Lp (ItzT K a b) (gTup K 2 (gCons (gName j) (gCons (gName k) gNil))) ts D σ H :=
  for_zipT hn (Iv s Lf Mf pr) h0 (fun i σ H hp => by
    obtain ⟨g, rfl, h1, h2⟩ := hp
    exact ⟨hG i g h1 H h2, hG2 i g h1 H h2⟩) (fun i x y T σ H e1 e2 hp hT => by
    obtain ⟨g, rfl, h1, h2⟩ := hp
    refine ⟨T, [x, y], rfl, SqT.of upd_same, rfl, _, _, rfl, _, _, rfl, rfl, ?_⟩
    exact hs i x y g _ e1 e2 h1 (h2.ign hT)) (fun σ H hp => by
    obtain ⟨g, rfl, h1, h2⟩ := hp
    exact hd g H h1 h2)
end
theorem depth_bool {b : Bool} {n : Nat} : (PyData.bool b).depth < n + 1 := Nat.succ_pos n
theorem depth_int {b : Int} {n : Nat} : (PyData.int b).depth < n + 1 := Nat.succ_pos n
theorem depth_none {n : Nat} : PyData.none.depth < n + 1 := Nat.succ_pos n
theorem depth_ints {ns : List Int} {n : Nat} : (PyData.list (ns.map PyData.int)).depth < n + 2 := by
  show PyData.depthAll (ns.map PyData.int) + 1 < n + 2
  rw [depthAll_ints]
  omega
theorem fn_none {P : Program} {w : World} {K : PySem.W.Frag} {mg : Str → Option Value} {base : Heap} {CX : CXT} {k : Nat} {f : Addr} {fd : FuncData} {ps : List Str} {sp : Sp} (no : ∀ vs H Q E, ¬ sp vs H Q E) : FnOk P w K mg base CX k f fd ps sp :=
  ⟨fun vs H Q E h => absurd h (no vs H Q E), fun A outer s H args us vs Q E _ _ _ _ h => absurd h (no vs H Q E)⟩
/-- data without dicts are one if they are alike in kind and content -/
def dEq (d e : PyData) : Prop := d = e
end Sa

namespace Sa
open PySem PySem.Spec PyProof.Rows L2
/-! ### dicts whose keys are numbers -/
/-- what a dict has at a number -/
def dv (kvs : List (Key × V)) (n : Int) : Option V := valV kvs (Sum.inl n : Key)
def dput (kvs : List (Key × V)) (n : Int) (v : V) : List (Key × V) := putK kvs (Sum.inl n : Key) v
theorem dv_put (kvs : List (Key × V)) (n m : Int) (v : V) : dv (dput kvs n v) m = if m = n then some v else dv kvs m := by
  unfold dv dput
  rw [valV_put]
  by_cases h : m = n
  · rw [if_pos h, if_pos (by rw [h])]
  · rw [if_neg h, if_neg (fun e => h (Sum.inl.inj e))]
theorem dv_nil (n : Int) : dv [] n = none := rfl
theorem dput_len (kvs : List (Key × V)) (n : Int) (v : V) : (dput kvs n v).length ≤ kvs.length + 1 := length_putK kvs _ v
def DNi (y x : V) (H : Hp) (Q : VK) : Prop := ∃ a o, x = .ref a ∧ DGet H a y o ∧ Q (.bl (!o.isSome)) H
def DIi (y x : V) (H : Hp) (Q : VK) : Prop := ∃ a o, x = .ref a ∧ DGet H a y o ∧ Q (.bl o.isSome) H
def DGt (x y : V) (H : Hp) (Q : VK) : Prop := ∃ a v, x = .ref a ∧ DGet H a y (some v) ∧ Q v H
def DG1 (td ty : TE) (x : V) (σ : L2.St) (H1 : Hp) (Q : VK) : Prop := ∃ a, x = .ref a ∧ IsD H1 a ∧ ty σ H1 fun y H2 => ∃ o, DGet H2 a y o ∧ Q (o.getD .non) H2
def DG2b (a : Addr) (y z : V) (H : Hp) (Q : VK) : Prop := ∃ o, DGet H a y o ∧ Q (o.getD z) H
def DG2a (ty tx : TE) (σ : L2.St) (x : V) (H1 : Hp) (Q : VK) : Prop := ∃ a, x = .ref a ∧ IsD H1 a ∧ ty σ H1 fun y H2 => tx σ H2 fun z H3 => DG2b a y z H3 Q
def DPu (x y v : V) (H : Hp) (N : Hp → Prop) : Prop := ∃ a H4, x = .ref a ∧ DPut H a y v H4 ∧ N H4
def DDs (ps : List (V × V)) (p : Addr) (H2 : Hp) (Q : VK) : Prop := H2 p = some (.dK []) ∧ ∃ kvs : List (Key × V), ps = kvs.map (fun kv => (kV kv.1, kv.2)) ∧ kvs.length ≤ 15 ∧ Q (.ref p) (upd H2 p (.dK (mergeK [] kvs)))
section
variable {K : PySem.W.Frag} {L L' : List Fc} {M M' : List Cell} {H : Hp} {σ : L2.St} {Q : VK} {a p b : Addr} {xs ys : List V} {v x y z : V} {D : Ends} {te td ty tx tv : TE} {t : TT} {ts tu : TS} {tr : TA} {kvs : List (Key × V)} {n : Int} {N : Hp → Prop}
theorem st_dni (q : ty σ H fun y H1 => td σ H1 fun x H2 => DNi y x H2 Q) : tDNotIn ty td σ H Q := q
theorem st_dii (q : ty σ H fun y H1 => td σ H1 fun x H2 => DIi y x H2 Q) : tDIn ty td σ H Q := q
theorem st_dgt (q : td σ H fun x H1 => ty σ H1 fun y H2 => DGt x y H2 Q) : tDGet td ty σ H Q := q
theorem st_dg2 (q : td σ H fun x H1 => DG2a ty tx σ x H1 Q) : tDGet2 td ty tx σ H Q := q
theorem st_dput (q : tv σ H fun v H1 => td σ H1 fun x H2 => ty σ H2 fun y H3 => DPu x y v H3 fun H4 => D.nx σ H4) : sDPut td ty tv D σ H := q
theorem dget_n (h : At L M (fK p kvs)) (hS : SA L M H) : DGet H p (.int n) (dv kvs n) := DGet.k (k := Sum.inl n) (h H hS)
theorem st_DNi (hS : SA L M H) (h : At L M (fK p kvs)) (q : Q (.bl (!(dv kvs n).isSome)) H) : DNi (.int n) (.ref p) H Q := ⟨p, _, rfl, dget_n h hS, q⟩
theorem st_DIi (hS : SA L M H) (h : At L M (fK p kvs)) (q : Q (.bl (dv kvs n).isSome) H) : DIi (.int n) (.ref p) H Q := ⟨p, _, rfl, dget_n h hS, q⟩
theorem st_DGt (hS : SA L M H) (h : At L M (fK p kvs)) (e : dv kvs n = some v) (q : Q v H) : DGt (.ref p) (.int n) H Q := ⟨p, v, rfl, by rw [← e]; exact dget_n h hS, q⟩
theorem st_DG2a (hS : SA L M H) (h : At L M (fK p kvs)) (q : ty σ H fun y H2 => tx σ H2 fun z H3 => DG2b p y z H3 Q) : DG2a ty tx σ (.ref p) H Q := ⟨p, rfl, .inl ⟨kvs, .inl (h H hS)⟩, q⟩
theorem st_DG2b (hS : SA L M H) (h : At L M (fK p kvs)) (q : Q ((dv kvs n).getD z) H) : DG2b p (.int n) z H Q := ⟨_, dget_n h hS, q⟩
theorem st_DPu (hS : SA L M H) (d : Chg M p (.dK kvs) (.dK (dput kvs n v)) M') (hl : kvs.length < 100000) (q : ∀ H', SA L M' H' → N H') : DPu (.ref p) (.int n) v H N :=
  ⟨p, _, rfl, DPut.k (k := Sum.inl n) (hS.at d.mem) (Nat.lt_of_lt_of_le hl (by decide)), q _ (hS.set d)⟩
theorem st_dnew (hS : SA L M H) (q : ∀ p H', SA L ((p, .dK []) :: M) H' → Q (.ref p) H') : tDNewK σ H Q := fun p hp => q p _ (hS.newM hp)
/-- a display {k: v} of one pair -/
theorem st_disp1 {tk : TE} (hS : SA L M H) (q : ∀ p H', SA L ((p, .dK []) :: M) H' → tk σ H' fun x H1 => tv σ H1 fun y H2 => DDs [(x, y)] p H2 Q) : tDisp [(tk, tv)] σ H Q := fun p hp => q p _ (hS.newM hp)
theorem st_DDs1 (hS : SA L ((p, .dK []) :: M) H) (q : ∀ H', SA L ((p, .dK (dput [] n v)) :: M) H' → Q (.ref p) H') : DDs [(.int n, v)] p H Q :=
  ⟨hS.at List.mem_cons_self, [(Sum.inl n, v)], rfl, (show 1 ≤ 15 by decide), q _ (hS.set .hd)⟩
end
end Sa

namespace Sa
open PySem PySem.Spec PyProof.Rows L2
/-- lo, lo + 1, .., n of them -/
def rg (lo : Int) (n : Nat) : List Int := (List.range n).map fun i => lo + (i : Nat)
theorem rg_len (lo : Int) (n : Nat) : (rg lo n).length = n := by unfold rg; rw [List.length_map, List.length_range]
theorem rg_get {lo : Int} {n i : Nat} (h : i < n) : (rg lo n)[i]? = some (lo + (i : Nat)) := by
  unfold rg
  rw [List.getElem?_map, List.getElem?_range h]
  rfl
theorem rg_succ (lo : Int) (n : Nat) : rg lo (n + 1) = rg lo n ++ [lo + (n : Nat)] := by
  unfold rg
  rw [List.range_succ, List.map_append]
  rfl
theorem mem_rg {lo : Int} {n : Nat} {x : Int} : x ∈ rg lo n ↔ lo ≤ x ∧ x < lo + n := by
  unfold rg
  rw [List.mem_map]
  constructor
  · rintro ⟨i, hi, rfl⟩
    have := List.mem_range.mp hi
    omega
  · intro h
    exact ⟨(x - lo).toNat, List.mem_range.mpr (by omega), by omega⟩
section
variable {K : PySem.W.Frag} {L L' : List Fc} {M M' : List Cell} {H : Hp} {σ : L2.St} {Q : VK} {a p b : Addr} {xs ys : List V} {v x y z : V} {D : Ends} {ta tb te td ty tx tv : TE} {t : TT} {ts tu : TS} {tr : TA} {ns ms : List Int} {N : Hp → Prop}
theorem rgV_rg (i j : Int) : rgV i j = (rg i (j - i).toNat).map V.int := by
  unfold rgV rg
  rw [List.map_map]
  rfl
/-- list(range(..)) -/
def LRg (i j : Int) (H : Hp) (Q : VK) : Prop := RgOk i j ∧ ∀ q, H q = none → Q (.ref q) (upd H q (.lst (rgV i j)))
theorem st_lr1 (q : ta σ H fun x H1 => ∃ n, x = .int n ∧ LRg 0 n H1 Q) : tLstRg (tRg1 ta) σ H Q := q
theorem st_lr2 (q : ta σ H fun x H1 => tb σ H1 fun y H2 => ∃ i j, x = .int i ∧ y = .int j ∧ LRg i j H2 Q) : tLstRg (tRg2 ta tb) σ H Q := q
theorem st_lr2b {i j : Int} (q : LRg i j H Q) : ∃ i' j', V.int i = .int i' ∧ V.int j = .int j' ∧ LRg i' j' H Q := ⟨i, j, rfl, rfl, q⟩
theorem st_LRg {i j : Int} (hS : SA L M H) (h0 : -100000 ≤ i) (h1 : j ≤ 100000) (h2 : i ≤ 100000) (h3 : -100000 ≤ j) (q : ∀ p H', SA L ((p, .lst ((rg i (j - i).toNat).map V.int)) :: M) H' → Q (.ref p) H') : LRg i j H Q :=
  ⟨⟨by omega, by omega, by omega, by omega, by omega⟩, fun p hp => by
    rw [rgV_rg]
    exact q p _ (hS.newM hp)⟩
/-- x in xs -/
theorem flat_ints : ∀ ns : List Int, (ns.map V.int).all flatV = true
  | [] => rfl
  | n :: ns => by
    rw [List.map_cons, List.all_cons, flat_ints ns]
    rfl
theorem inV_ints (n : Int) : ∀ ns : List Int, inV (.int n) (ns.map V.int) = decide (n ∈ ns)
  | [] => rfl
  | m :: ns => by
    have ih := inV_ints n ns
    unfold inV at ih ⊢
    rw [List.map_cons, List.any_cons, ih]
    have e : eqV (.int m) (.int n) = decide (n = m) := by
      show (m == n) = decide (n = m)
      by_cases h : n = m
      · rw [h]; simp
      · have h2 : ¬ m = n := fun e => h e.symm
        simp [h, h2]
    rw [e]
    by_cases h : n = m
    · simp [h]
    · simp [h]
theorem st_in {n : Int} (hS : SA L M H) (h : At L M (fQ K a (ns.map V.int))) (q : Q (.bl (decide (n ∈ ns))) H) : rIn K false (.int n) (.ref a) H Q :=
  ⟨a, _, rfl, .inl (h H hS), rfl, flat_ints ns, by
    rw [inV_ints]
    exact q⟩
theorem st_notIn {n : Int} (hS : SA L M H) (h : At L M (fQ K a (ns.map V.int))) (q : Q (.bl (!decide (n ∈ ns))) H) : rIn K true (.int n) (.ref a) H Q :=
  ⟨a, _, rfl, .inl (h H hS), rfl, flat_ints ns, by
    rw [inV_ints]
    exact q⟩
/-! ### comprehensions of numbers over numbers -/
theorem lcI_turn {Dl : Addr} {σ2 : L2.St} {P : Int → Bool} {F : Int → Int} {is : List Int} {i : Nat} {n : Int} (hi : is[i]? = some n) (hl : is.length < 50000) (hS : SA L ((Dl, .lst ((((is.take i).filter P).map F).map V.int)) :: M) H)
    (ht : EvT t σ2 L ((Dl, .lst ((((is.take i).filter P).map F).map V.int)) :: M) (P n)) (he : P n = true → EvV te σ2 L ((Dl, .lst ((((is.take i).filter P).map F).map V.int)) :: M) (.int (F n))) :
    t σ2 H fun b H3 => if b = true then te σ2 H3 fun y H4 => ∃ acc, H4 Dl = some (.lst acc) ∧ acc.length < sizeLine ∧ SA L ((Dl, .lst ((((is.take (i + 1)).filter P).map F).map V.int)) :: M) (upd H4 Dl (.lst (acc ++ [y]))) else SA L ((Dl, .lst ((((is.take (i + 1)).filter P).map F).map V.int)) :: M) H3 := by
  refine ht H hS _ fun H3 hS3 => ?_
  have e1 : is.take (i + 1) = is.take i ++ [n] := take_at hi
  cases hf : P n with
  | true =>
    refine if_t ?_
    refine he hf H3 hS3 _ fun H4 hS4 => ⟨_, hS4.at List.mem_cons_self, ?_, ?_⟩
    · rw [List.length_map, List.length_map]
      have h1 := List.length_filter_le P (is.take i)
      rw [List.length_take] at h1
      exact Nat.lt_of_le_of_lt h1 (Nat.lt_of_le_of_lt (Nat.min_le_right _ _) (Nat.lt_of_lt_of_le hl (by decide)))
    · have e2 : (((is.take i).filter P).map F).map V.int ++ [V.int (F n)] = (((is.take (i + 1)).filter P).map F).map V.int := by
        rw [e1, List.filter_append, List.filter_cons, if_pos hf, List.map_append, List.map_append]
        rfl
      rw [e2]
      exact hS4.set .hd
  | false =>
    refine if_f ?_
    have e2 : (is.take (i + 1)).filter P = (is.take i).filter P := by
      rw [e1, List.filter_append, List.filter_cons, if_neg (by rw [hf]; decide)]
      simp
    rw [e2]
    exact hS3
/-- [F n for n in xs if P n] -/
theorem lcI_list {j : Nat} {vs : List Nat} (P : Int → Bool) (F : Int → Int) (hS : SA L M H) (hx : At L M (fQ K a (ns.map V.int))) (hn : ns.length < 50000) (hw : ∀ x, wipe ((wipe σ vs).set j (some x)) vs = wipe σ vs)
    (ht : ∀ (n : Int) (Dl : Addr) acc, n ∈ ns → EvT t ((wipe σ vs).set j (some (.int n))) L ((Dl, .lst acc) :: M) (P n))
    (he : ∀ (n : Int) (Dl : Addr) acc, n ∈ ns → P n = true → EvV te ((wipe σ vs).set j (some (.int n))) L ((Dl, .lst acc) :: M) (.int (F n)))
    (q : ∀ Dl H', SA L ((Dl, .lst (((ns.filter P).map F).map V.int)) :: M) H' → Q (.ref Dl) H') : Lc (Itl K a) (gName j) t te vs σ Q H := fun Dl hD =>
  lc_it (walk_list (xs := ns.map V.int)) (fun i H => SA L ((Dl, .lst ((((ns.take i).filter P).map F).map V.int)) :: M) H) (hS.newM hD) (fun i H _ hp => hx H hp.dropM) (fun i x H H' hi hp hy => by
    obtain ⟨rfl, hx⟩ := hy
    obtain ⟨n, hn2, rfl⟩ := ints_at hx
    have hm := List.mem_of_getElem? hn2
    exact ⟨hw _, lcI_turn hn2 hn hp (ht n Dl _ hm) (he n Dl _ hm)⟩) (fun H' hp => q Dl H' (by
    rw [List.length_map, List.take_length] at hp
    exact hp))
/-- [F n for n in range(lo, ..) if P n] -/
theorem lcI_rng {lo : Int} {m j : Nat} {vs : List Nat} (P : Int → Bool) (F : Int → Int) (hS : SA L M H) (hn : m < 50000) (hw : ∀ x, wipe ((wipe σ vs).set j (some x)) vs = wipe σ vs)
    (ht : ∀ (n : Int) (Dl : Addr) acc, lo ≤ n → n < lo + m → EvT t ((wipe σ vs).set j (some (.int n))) L ((Dl, .lst acc) :: M) (P n))
    (he : ∀ (n : Int) (Dl : Addr) acc, lo ≤ n → n < lo + m → P n = true → EvV te ((wipe σ vs).set j (some (.int n))) L ((Dl, .lst acc) :: M) (.int (F n)))
    (q : ∀ Dl H', SA L ((Dl, .lst ((((rg lo m).filter P).map F).map V.int)) :: M) H' → Q (.ref Dl) H') : Lc (Itr lo m) (gName j) t te vs σ Q H := fun Dl hD =>
  lc_it (walk_range (lo := lo) (n := m)) (fun i H => SA L ((Dl, .lst (((((rg lo m).take i).filter P).map F).map V.int)) :: M) H) (hS.newM hD) (fun _ _ _ _ => trivial) (fun i x H H' hi hp hy => by
    obtain ⟨rfl, rfl⟩ := hy
    exact ⟨hw _, lcI_turn (rg_get hi) (by rw [rg_len]; exact hn) hp (ht _ Dl _ (by omega) (by omega)) (he _ Dl _ (by omega) (by omega))⟩) (fun H' hp => q Dl H' (by
    rw [List.take_of_length_le (by rw [rg_len]; exact Nat.le_refl _)] at hp
    exact hp))
theorem filt_true {α : Type} (l : List α) : l.filter (fun _ => true) = l := List.filter_eq_self.mpr (fun _ _ => rfl)
/-- data of a list of numbers -/
theorem At.dL (h : At L M (fL a (ns.map V.int))) : At L M (fD K (.ref a) (.list (ns.map PyData.int))) := fun H s => dp_ints (SqL.of (h H s))
end
theorem ints_inj {ns ms : List Int} (h : PyData.list (ns.map PyData.int) = PyData.list (ms.map PyData.int)) : ns = ms := by
  have h1 : ns.map PyData.int = ms.map PyData.int := PyData.list.inj h
  exact List.map_inj_right (fun a b e => PyData.int.inj e) |>.mp h1
end Sa
namespace Sa
open PySem PySem.Spec PyProof.Rows L2
/-! ### rules whose written part is told by name (within a comprehension) -/
section
variable {X : Cx} {K : PySem.W.Frag}
theorem ix_listK (h : X.K = K) : IxR X (rIxL K) := by subst h; exact ix_list
theorem ix_seqK (h : X.K = K) : IxR X (rIx K) := by subst h; exact ix_seq
theorem ix_tupK (h : X.K = K) : IxR X (rIxT K) := by subst h; exact ix_tup
theorem call_lenK (h : X.K = K) : CallR X (.builtin "len") (rLen K) := by subst h; exact call_len
theorem call_list_ofK (h : X.K = K) : CallR X (.type "list") (rListOf K) := by subst h; exact call_list_of
theorem op_in_seqK (h : X.K = K) : OpR X (compareOp .In) (rIn K false) := by subst h; exact op_in_seq
theorem op_notIn_seqK (h : X.K = K) : OpR X (compareOp .NotIn) (rIn K true) := by subst h; exact op_notIn_seq
theorem cr_maxK (hc : X.calm = true) (h : X.K = K) : CallR X (.builtin "max") (rMax K) := by subst h; exact cr_max hc
theorem cr_minK (hc : X.calm = true) (h : X.K = K) : CallR X (.builtin "min") (rMin K) := by subst h; exact cr_min hc
theorem cr_sumK (hc : X.calm = true) (h : X.K = K) : CallR X (.builtin "sum") (rSum K) := by subst h; exact cr_sum hc
theorem op_eqDK (hu : X.A.units + 64 < cLine) (h : X.K = K) : OpR X (compareOp .Eq) (rEqD K) := by subst h; exact op_eqD hu
theorem op_neDK (hu : X.A.units + 64 < cLine) (h : X.K = K) : OpR X (compareOp .NotEq) (rNeD K) := by subst h; exact op_neD hu
theorem call_isiK (h : X.K = K) : CallR X (.builtin "isinstance") (rIsi K) := by subst h; exact call_isi
theorem call_isiTK (h : X.K = K) : CallR X (.builtin "isinstance") (rIsiT K) := by subst h; exact call_isiT
theorem sl_listK (h : X.K = K) : SlR X (rSlL K) := by subst h; exact sl_list
theorem pg_tupK {es : List Expr} {k : Nat} {t : TGs} {n : Nat} {pos : Pos} (hK : X.K = K) (hc : X.calm = true) (h : PGs X es t) (hn : (assignEach es X.env).length = n) (hst : (assignEach es X.env).findIdx? (·.1) = none := by rfl) : PG X (.Tuple es k pos) (gTup K n t) := by
  subst hK
  subst hn
  exact pg_tup hc h rfl hst
end
end Sa

namespace Sa
open PySem PySem.Spec PyProof.Rows L2 HT PyProof
/-! ### xs[a:] = ys -/
theorem bounds_from {a n : Nat} (ha : a ≤ n) : sliceBounds (some (a : Int)) none none n = ((a : Int), (n : Int), 1) := by
  simp only [sliceBounds, Option.getD_none]
  have h1 : ¬ ((a : Int) < 0) := by omega
  simp only [h1, if_false, show (1 : Int) > 0 by decide, if_true]
  congr 1
  omega
theorem setItem_from {prog : Program} {w : World} {A : Around} {E : Value → Shared → Prop} {s : Shared} {l b sl : Addr} {items new : Array Value} {n n2 : Nat} {vl : Value} {a : Nat} {Q : Unit → Shared → Prop}
    (e : s.heap.get? l = some { cls := .type "list", data := .seq items n }) (e2 : s.heap.get? b = some { cls := .type "list", data := .seq new n2 }) (hne : l ≠ b)
    (hs : s.heap.IsSliceOf sl vl .none .none) (pl : IsPart vl (some (a : Int))) (ha : a ≤ items.size)
    (hsz : items.size + new.size ≤ sizeLine) (h : Q () { s with heap := s.heap.update l (Obj.mapSeq fun xs => xs.extract 0 a ++ new ++ xs.extract items.size xs.size) }) :
    wpAny (model prog w) A (setItem (.ref l) (.ref sl) (.ref b)) Q E s := by
  have hl : s.heap.IsList l items := PySem.IsL.isList e
  have hb : s.heap.IsList b new := PySem.IsL.isList e2
  obtain ⟨os, hos, hcs, hds⟩ := id hs
  have hTs : s.TypeIs (.ref sl) "slice" := ⟨os, hos, hcs⟩
  have hstep : ¬ ((rawPart none == rawInt 0) = true) := Bool.false_ne_true
  have hsame : Builtin.List.listSameRef (.ref l) (.ref b) = false := by
    unfold Builtin.List.listSameRef
    exact beq_eq_false_iff_ne.mpr hne
  have hmax : (max (a : Int) (items.size : Int)).toNat = items.size := by omega
  have hz' : ((fun xs : Array Value => xs.extract 0 a ++ new ++ xs.extract items.size xs.size) items).size ≤ sizeLine + 1 := by
    simp only [Array.size_append, Array.size_extract]
    omega
  unfold setItem
  try with_reducible refine wpAny_holding ?_
  first | refine wpAny_bind (wpAny_pure ?_) | skip
  refine wpAny_bind (wpAny_sequenceKey hl.typeIs (by decide) ?_)
  refine wpAny_bind (wpAny_callSpecial?_slot (name := Str.ofString "__setitem__") hl.typeIs slot_list_setitem
    (wpAny_call_entry slot_list_setitem hl.typeIs entry_list_setitem ?_ (args_list_setitem _ _ _)))
  show wpAny _ _ (Builtin.List.listSubscript? (.ref sl) >>= _) _ _ s
  refine wpAny_bind ?_
  unfold Builtin.List.listSubscript?
  refine wpAny_bind (wpAny_specialOf hTs slice_no_index ?_)
  simp only [Option.isNone_none, if_true]
  refine wpAny_pure ?_
  show wpAny _ _ (typeOf (.ref sl) >>= _) _ _ s
  refine wpAny_bind (wpAny_typeOf hTs ?_)
  first
    | rw [if_neg (by decide)]
    | refine PySem.W.KFB.if_not (by decide) ?_
  rw [listSliceParts_eq]
  refine wpAny_bind (wpAny_bind (wpAny_field hos hds (x := .none) rfl (wpAny_bind (wpAny_listPart .none ?_))))
  rw [if_neg hstep]
  refine wpAny_bind (wpAny_field hos hds (x := vl) rfl (wpAny_bind (wpAny_listPart pl ?_)))
  refine wpAny_bind (wpAny_field hos hds (x := .none) rfl (wpAny_bind (wpAny_listPart .none (wpAny_pure ?_))))
  first
    | simp only [hsame, Bool.false_eq_true, if_false]
    | refine PySem.W.KFB.if_not hsame ?_
    | (dsimp only
       rw [if_neg (by rw [hsame]; exact Bool.false_ne_true)])
  refine wpAny_bind (m := Builtin.List.listAllItems (.ref b) "must assign iterable to extended slice") ?_
  unfold Builtin.List.listAllItems
  refine wpAny_bind (wpAny_typeOf hb.typeIs ?_)
  first
    | refine PySem.W.KFB.if_so (by decide) ?_
    | rw [if_pos (by decide)]
    | simp only [beq_self_eq_true, Bool.true_or, if_true]
  unfold Builtin.List.listItems
  refine wpAny_bind (wpAny_seqItems e2 rfl (wpAny_pure ?_))
  refine wpAny_bind (wpAny_bind (wpAny_seqItems e rfl (wpAny_pure ?_)))
  refine wpAny_bind (wpAny_of_eq ((sliceIndices_raw (some (a : Int)) none none items.size (by simp)).trans (congrArg (pure : Int × Int × Int → Sem (Int × Int × Int)) (bounds_from ha))) ?_)
  show wpAny _ _ (if ((1 : Int) == 1) = true then _ else _) _ _ s
  rw [if_pos (by decide)]
  refine wpAny_bind (wpAny_rule ?_)
  first
    | simp only [notLongL hsz, Bool.false_eq_true, if_false]
    | refine PySem.W.KFB.if_not (notLongL hsz) ?_
  first | refine wpAny_bind (wpAny_pure ?_) | skip
  show wpAny _ _ (updateSeq l (fun xs => xs.extract 0 ((a : Int)).toNat ++ new ++ xs.extract (max (a : Int) (items.size : Int)).toNat xs.size) >>= _) _ _ s
  rw [hmax, Int.toNat_natCast]
  refine wpAny_bind (wpAny_updateSeq (hz := Nat.le_trans (Nat.le_add_right _ _) hsz) (_hz' := hz') e rfl ?_)
  refine wpAny_bind (wpAny_letGo ?_)
  first
    | exact wpAny_bind (wpAny_pure (wpAny_pure ⟨.none, rfl, wpAny_pure h⟩))
    | exact wpAny_pure ⟨.none, rfl, wpAny_pure h⟩
theorem splice_from (its ys : List Value) (a : Nat) (ha : a ≤ its.length) : (its.toArray.extract 0 a ++ ys.toArray ++ its.toArray.extract its.toArray.size its.toArray.size) = (its.take a ++ ys).toArray := by
  have h := splice_eq its ys a its.length
  rw [List.size_toArray] at h ⊢
  rw [h, List.drop_length, List.append_nil]
def SetFrom (o i v : V) (H : Hp) (N : Hp → Prop) : Prop := ∃ l b a xs ys, o = .ref l ∧ i = .int a ∧ v = .ref b ∧ H l = some (.lst xs) ∧ H b = some (.lst ys) ∧ l ≠ b ∧ 0 ≤ a ∧ a ≤ xs.length ∧ xs.length + ys.length ≤ sizeLine ∧ N (upd H l (.lst (xs.take a.toNat ++ ys)))
theorem set_from {X : Cx} {pins : List (Addr × Obj)} {s : Shared} {σ : L2.St} {H : Hp} {l b sl : Addr} {xs ys : List V} {a : Int} {vl : Value} {Q : Unit → Shared → Prop} (I : Inv X pins σ H s)
    (hH : H l = some (.lst xs)) (hB : H b = some (.lst ys)) (hne : l ≠ b) (hs : s.heap.IsSliceOf sl vl .none .none) (ra : RelV (.int a) vl) (h0 : 0 ≤ a) (hac : a ≤ xs.length)
    (hz : xs.length + ys.length ≤ sizeLine) (h : ∀ s', Inv X pins σ (upd H l (.lst (xs.take a.toNat ++ ys))) s' → Q () s') :
    wpAny (model X.prog X.w) X.A (setItem (.ref l) (.ref sl) (.ref b)) Q X.xe s := by
  obtain ⟨ta, rfl⟩ := ra
  obtain ⟨z, its, n, r, hl, e⟩ := I.lstM hH
  obtain ⟨z2, its2, n2, r2, hl2, e2⟩ := I.lstM hB
  obtain ⟨a', rfl⟩ := Int.eq_ofNat_of_zero_le h0
  simp only [Int.toNat_natCast] at h
  refine setItem_from (a := a') e e2 hne hs (.int _ _) (by rw [List.size_toArray]; omega) (by rw [List.size_toArray, List.size_toArray]; omega) (h _ ?_)
  refine I.lset (its' := its.take a' ++ its2) (t' := s.toks) hH e ?_ (Vals.append (r.take _) r2) ?_
  · exact splice_from its its2 a' (by omega)
  · rw [List.length_append, List.length_take]
    omega
/-- o[i:] = .. -/
def gFrom (to ti : TE) : TG := fun v σ H Q => to σ H fun o H1 => ti σ H1 fun i H2 => SetFrom o i v H2 fun H3 => Q σ H3
theorem pg_from {X : Cx} {o i : Expr} {to ti : TE} {p2 pos : Pos} (ho : PE X o to) (hi : PE X i ti)
    (ha : ∀ v, assign (.Subscript o (.Slice (some i) none none p2) pos) X.env v = (do
      let ov ← holding [v] (eval o X.env)
      let iv ← holding [v, ov] (eval (.Slice (some i) none none p2) X.env)
      standAt pos
      holding [v, ov, iv] (setItem ov iv v)
      release [iv, v, ov] []) := by intro _; rfl) : PG X (.Subscript o (.Slice (some i) none none p2) pos) (gFrom to ti) := by
  refine ⟨fun pins s σ H v u Q I r h => ?_⟩
  rw [ha]
  refine wpAny_bind (wpAny_holding (thn (ho.run pins s σ H _ I h) fun ov s1 ⟨x, H1, I1, r1, q1⟩ => ?_))
  refine wpAny_bind (wpAny_holding (wpAny_Slice ?_))
  rw [evalPart_some]
  refine thn (hi.run pins s1 σ H1 _ I1 q1) fun iv s2 ⟨y, H2, I2, r2, l, b, a, xs, ys, ex, ey, ev, hH, hB, hne, h0, h1, hz, q2⟩ => ?_
  subst ex ey ev
  rw [evalPart_none]
  refine wpAny_pure ?_
  refine wpAny_pure ?_
  have I4 : Inv X pins σ H2 { s2 with heap := s2.heap.push { cls := .type "slice", data := .fields #[iv, .none, .none] } } := I2.kept (t' := s2.toks) fun b ob q => Heap.get?_push_of_some _ q
  obtain rfl : ov = Value.ref l := r1
  obtain rfl : u = Value.ref b := r
  refine wpAny_bind (wpAny_standAt (wpAny_bind (wpAny_holding (set_from I4 hH hB hne (Heap.IsSliceOf.new ..) r2 h0 h1 hz fun s3 I3 => ?_))))
  exact wpAny_release ⟨σ, _, I3, q2⟩
theorem st_from {L : List Fc} {M M' : List Cell} {H : Hp} {l b : Addr} {a : Int} {ns ms : List Int} {N : Hp → Prop} (hS : SA L M H) (d : Chg M l (.lst (ns.map V.int)) (.lst ((ns.take a.toNat ++ ms).map V.int)) M') (hb : (b, .lst (ms.map V.int)) ∈ M) (hne : l ≠ b) (h0 : 0 ≤ a) (h1 : a ≤ ns.length)
    (hz : ns.length + ms.length ≤ 100000) (q : ∀ H', SA L M' H' → N H') : SetFrom (.ref l) (.int a) (.ref b) H N :=
  ⟨l, b, a, _, _, rfl, rfl, rfl, hS.at d.mem, hS.at hb, hne, h0, by rw [List.length_map]; exact h1, by rw [List.length_map, List.length_map]; exact Nat.le_trans hz (by decide), by
    rw [← List.map_take, ← List.map_append]
    exact q _ (hS.set d)⟩
theorem Del.mem1 {M M' : List Cell} {a : Addr} {o o' : HO} (d : Chg M a o o' M') : a ∈ M.map (·.1) := List.mem_map.mpr ⟨_, d.mem, rfl⟩
theorem st_gFrom {to ti : TE} {v : V} {σ : L2.St} {H : Hp} {N : L2.St → Hp → Prop} (q : to σ H fun o H1 => ti σ H1 fun i H2 => SetFrom o i v H2 fun H3 => N σ H3) : gFrom to ti v σ H N := q
/-- the list that is put in has just been made -/
theorem st_from1 {L : List Fc} {M M' : List Cell} {H : Hp} {l b : Addr} {a : Int} {ns ms : List Int} {N : Hp → Prop} (hS : SA L ((b, .lst (ms.map V.int)) :: M) H) (d : Chg M l (.lst (ns.map V.int)) (.lst ((ns.take a.toNat ++ ms).map V.int)) M') (h0 : 0 ≤ a) (h1 : a ≤ ns.length)
    (hz : ns.length + ms.length ≤ 100000) (q : ∀ H', SA L ((b, .lst (ms.map V.int)) :: M') H' → N H') : SetFrom (.ref l) (.int a) (.ref b) H N :=
  st_from hS (.tl d) List.mem_cons_self (fun e => by
    have h := hS.nd
    rw [List.map_cons] at h
    exact (List.nodup_cons.mp h).1 (e ▸ Del.mem1 d)) h0 h1 hz q
end Sa

namespace Sa
open PySem PySem.Spec PyProof.Rows L2
/-! ### methods of lists of numbers; d.setdefault -/
def FirstAt (l : List Int) (v : Int) (c : Nat) : Prop := l[c]? = some v ∧ ∀ m, m < c → l[m]? ≠ some v
theorem first_ex {v : Int} : ∀ {l : List Int}, v ∈ l → ∃ c, FirstAt l v c
  | x :: t, h => by
    by_cases hx : x = v
    · exact ⟨0, by rw [hx]; rfl, fun m hm => absurd hm (Nat.not_lt_zero _)⟩
    · have ht : v ∈ t := by
        rcases List.mem_cons.mp h with h2 | h2
        · exact absurd h2.symm hx
        · exact h2
      obtain ⟨c, h1, h2⟩ := first_ex ht
      refine ⟨c + 1, h1, fun m hm => ?_⟩
      cases m with
      | zero => exact fun e => hx (Option.some.inj e)
      | succ m => exact h2 m (by omega)
section
variable {K : PySem.W.Frag} {L L' : List Fc} {M M' : List Cell} {H : Hp} {σ : L2.St} {Q : VK} {a p b : Addr} {ns ms : List Int} {v x y z : V} {ty tx td ta : TE} {kvs : List (Key × V)} {n : Int}
theorem st_count (hS : SA L M H) (h : At L M (fQ K a (ns.map V.int))) (q : Q (.int ((ns.count n : Nat) : Int)) H) : rCntI K (.ref a) [.int n] H Q := ⟨a, ns, n, rfl, rfl, h H hS, q⟩
theorem st_index (hS : SA L M H) (h : At L M (fQ K a (ns.map V.int))) (hn : n ∈ ns) (q : ∀ j : Nat, FirstAt ns n j → Q (.int (j : Int)) H) : rIndex K (.ref a) [.int n] H Q := by
  obtain ⟨j, h1, h2⟩ := first_ex hn
  refine ⟨a, _, .int n, j, .int n, rfl, rfl, h H hS, rfl, flat_ints ns, by rw [List.getElem?_map, h1]; rfl, by show (n == n) = true; simp, fun m z hm hz => ?_, q j ⟨h1, h2⟩⟩
  rw [List.getElem?_map] at hz
  cases hc : ns[m]? with
  | none => rw [hc] at hz; cases hz
  | some c =>
    rw [hc] at hz
    cases hz
    show (c == n) = false
    have := h2 m hm
    rw [hc] at this
    simpa using fun e => this (by rw [e])
theorem st_bm0 {T : String} {rr : V → List V → Hp → VK → Prop} (q : ta σ H fun x H1 => tyV K T x H1 ∧ rr x [] H1 Q) : tBM0 K T rr ta σ H Q := q
theorem st_rev (hS : SA L M H) (d : Chg M p (.lst (ns.map V.int)) (.lst (ns.reverse.map V.int)) M') (q : ∀ H', SA L M' H' → Q .non H') : rReverse (.ref p) [] H Q :=
  ⟨p, _, rfl, rfl, hS.at d.mem, by rw [← List.map_reverse]; exact q _ (hS.set d)⟩
def DSb (a : Addr) (y z : V) (H3 : Hp) (Q : VK) : Prop := ∃ (kvs : List (Key × V)) (k : Key), H3 a = some (.dK kvs) ∧ y = kV k ∧ kvs.length < sizeLine ∧ (∀ v, valV kvs k = some v → Q v H3) ∧ (valV kvs k = none → Q z (upd H3 a (.dK (putK kvs k z))))
def DSa (ty tx : TE) (σ : L2.St) (x : V) (H1 : Hp) (Q : VK) : Prop := ∃ a, x = .ref a ∧ IsD H1 a ∧ ty σ H1 fun y H2 => tx σ H2 fun z H3 => DSb a y z H3 Q
theorem st_dsd (q : td σ H fun x H1 => DSa ty tx σ x H1 Q) : tDSetd td ty tx σ H Q := q
theorem st_DSa (hS : SA L M H) (h : At L M (fK p kvs)) (q : ty σ H fun y H2 => tx σ H2 fun z H3 => DSb p y z H3 Q) : DSa ty tx σ (.ref p) H Q := ⟨p, rfl, .inl ⟨kvs, .inl (h H hS)⟩, q⟩
theorem st_DSb (hS : SA L ((p, .dK kvs) :: M) H) (hl : kvs.length < 100000) (q : ∀ v kvs' H', (∀ m, dv kvs' m = if m = n then some ((dv kvs n).getD z) else dv kvs m) → kvs'.length ≤ kvs.length + 1 → SA L ((p, .dK kvs') :: M) H' → Q v H') : DSb p (.int n) z H Q := by
  refine ⟨kvs, Sum.inl n, hS.at List.mem_cons_self, rfl, Nat.lt_of_lt_of_le hl (by decide), fun v hv => ?_, fun hv => ?_⟩
  · refine q v kvs H (fun m => ?_) (Nat.le_succ _) hS
    have e : dv kvs n = some v := hv
    by_cases h : m = n
    · rw [if_pos h, h, e]
      rfl
    · rw [if_neg h]
  · refine q z (dput kvs n z) _ (fun m => ?_) (dput_len kvs n z) (hS.set .hd)
    have e : dv kvs n = none := hv
    rw [dv_put, e]
    rfl
end
end Sa

namespace Sa
open PySem PySem.Spec PyProof.Rows L2
/-! ### cells in groups; facts by their place -/
theorem SA.append1 {L : List Fc} {M : List Cell} {H : Hp} : ∀ {B : List Cell}, SA L (B ++ M) H → SA L M H
  | [], h => h
  | _ :: _, h => SA.append1 h.dropM
theorem Chg.app {M M' : List Cell} {a : Addr} {o o' : HO} (h : Chg M a o o' M') : ∀ {B : List Cell}, Chg (B ++ M) a o o' (B ++ M')
  | [] => h
  | _ :: _ => .tl (Chg.app h)
theorem Del.app {M M' : List Cell} {a : Addr} {o : HO} (h : Del M a o M') : ∀ {B : List Cell}, Del (B ++ M) a o (B ++ M')
  | [] => h
  | _ :: _ => .tl (Del.app h)
theorem At.ap {L : List Fc} {M : List Cell} {f : Fc} {B : List Cell} (h : At L M f) : At L (B ++ M) f := fun H s => h H s.append1
/-- a group taken out -/
inductive Grp : List Cell → List Cell → List Cell → Prop
  | hd {B M : List Cell} : Grp (B ++ M) B M
  | tl {M B M' : List Cell} {c : Cell} : Grp M B M' → Grp (c :: M) B (c :: M')
  | ap {M B M' A : List Cell} : Grp M B M' → Grp (A ++ M) B (A ++ M')
theorem Grp.perm {M B M' : List Cell} (h : Grp M B M') : M.Perm (B ++ M') := by
  induction h with
  | hd => exact List.Perm.refl _
  | tl _ ih => exact (List.Perm.cons _ ih).trans List.perm_middle.symm
  | @ap M B M' A _ ih =>
    refine (List.Perm.append_left A ih).trans ?_
    rw [← List.append_assoc, ← List.append_assoc]
    exact List.Perm.append_right _ List.perm_append_comm
theorem SA.grp {L : List Fc} {M B M' : List Cell} {H : Hp} (h : SA L M H) (g : Grp M B M') : SA L (B ++ M') H := h.perm g.perm
theorem SA.ungrp {L : List Fc} {M B M' : List Cell} {H : Hp} (h : SA L (B ++ M') H) (g : Grp M B M') : SA L M H := h.perm g.perm.symm
/-- a fact is among them -/
inductive In1 (f : Fc) : List Fc → Prop
  | hd {L : List Fc} : In1 f (f :: L)
  | tl {L : List Fc} {g : Fc} : In1 f L → In1 f (g :: L)
theorem In1.mem {f : Fc} {L : List Fc} (h : In1 f L) : f ∈ L := by
  induction h with
  | hd => exact List.mem_cons_self
  | tl _ ih => exact List.mem_cons_of_mem _ ih
theorem In1.at {f : Fc} {L : List Fc} {M : List Cell} (h : In1 f L) : At L M f := At.mem h.mem
inductive Sub : List Fc → List Fc → Prop
  | nil {L : List Fc} : Sub [] L
  | rest {L : List Fc} : Sub L L
  | cons {L L' : List Fc} {f : Fc} : In1 f L → Sub L' L → Sub (f :: L') L
  | tl {L L' : List Fc} {f : Fc} : Sub L' L → Sub L' (f :: L)
theorem Sub.mem {L L' : List Fc} (h : Sub L' L) : ∀ f ∈ L', f ∈ L := by
  induction h with
  | nil => exact fun f h => nomatch h
  | rest => exact fun f h => h
  | cons h1 _ ih =>
    intro f hf
    rcases List.mem_cons.mp hf with rfl | hf
    · exact h1.mem
    · exact ih f hf
  | tl _ ih => exact fun f hf => List.mem_cons_of_mem _ (ih f hf)
theorem SA.subs {L L' : List Fc} {M : List Cell} {H : Hp} (h : SA L M H) (q : Sub L' L) : SA L' M H := h.subL q.mem
inductive SubM : List Cell → List Cell → Prop
  | same {M : List Cell} : SubM M M
  | cons {M M1 M2 : List Cell} {a : Addr} {o : HO} : Del M a o M1 → SubM M2 M1 → SubM ((a, o) :: M2) M
  | grp {M M1 M2 B : List Cell} : Grp M B M1 → SubM M2 M1 → SubM (B ++ M2) M
  | skip {M M2 : List Cell} {c : Cell} : SubM M2 M → SubM M2 (c :: M)
  | skipB {M M2 B : List Cell} : SubM M2 M → SubM M2 (B ++ M)
theorem SubM.perm {M M2 : List Cell} (h : SubM M2 M) : ∃ R, M.Perm (M2 ++ R) := by
  induction h with
  | same => exact ⟨[], by rw [List.append_nil]⟩
  | cons d _ ih =>
    obtain ⟨R, hR⟩ := ih
    exact ⟨R, d.perm.trans (List.Perm.cons _ hR)⟩
  | @grp M M1 M2 B g _ ih =>
    obtain ⟨R, hR⟩ := ih
    refine ⟨R, g.perm.trans ?_⟩
    rw [List.append_assoc]
    exact List.Perm.append_left _ hR
  | skip _ ih =>
    obtain ⟨R, hR⟩ := ih
    exact ⟨_ :: R, (List.Perm.cons _ hR).trans List.perm_middle.symm⟩
  | @skipB M M2 B _ ih =>
    obtain ⟨R, hR⟩ := ih
    exact ⟨B ++ R, (List.Perm.append_left B hR).trans (List.perm_append_comm_assoc B M2 R)⟩
theorem SA.take {L L' : List Fc} {M M2 : List Cell} {H : Hp} (h : SA L M H) (q : Sub L' L) (p : SubM M2 M) : SA L' M2 H := by
  obtain ⟨R, hR⟩ := p.perm
  exact ((h.subs q).perm hR).front_of

/-! ### attributes -/
def fpos : List Str → Str → Option Nat
  | [], _ => none
  | n :: ns, f => if n = f then some 0 else (fpos ns f).map (· + 1)
def flds (ns : List Str) (vs : List V) : List (Str × V) := ns.zip vs
theorem flds_at : ∀ {ns : List Str} {vs : List V} {f : Str} {i : Nat} {v : V}, fpos ns f = some i → vs[i]? = some v → (flds ns vs).lookup f = some v
  | [], _, _, _, _, h, _ => by cases h
  | n :: ns, [], _, _, _, _, h => by simp at h
  | n :: ns, x :: vs, f, i, v, h, hv => by
    show List.lookup f ((n, x) :: flds ns vs) = some v
    by_cases e : n = f
    · have h' : (if n = f then some 0 else (fpos ns f).map (· + 1)) = some i := h
      rw [if_pos e] at h'
      cases h'
      have hb : (f == n) = true := beq_iff_eq.mpr e.symm
      simp only [List.lookup, hb]
      simpa using hv
    · have h' : (if n = f then some 0 else (fpos ns f).map (· + 1)) = some i := h
      rw [if_neg e] at h'
      obtain ⟨j, hj, rfl⟩ := Option.map_eq_some_iff.mp h'
      have hb : (f == n) = false := beq_eq_false_iff_ne.mpr (fun z => e z.symm)
      simp only [List.lookup, hb]
      exact flds_at hj (by simpa using hv)
theorem flds_no : ∀ {ns : List Str} {vs : List V} {f : Str}, fpos ns f = none → (flds ns vs).lookup f = none
  | [], _, _, _ => rfl
  | _ :: _, [], _, _ => rfl
  | n :: ns, x :: vs, f, h => by
    show List.lookup f ((n, x) :: flds ns vs) = none
    have h' : (if n = f then some 0 else (fpos ns f).map (· + 1)) = none := h
    by_cases e : n = f
    · rw [if_pos e] at h'
      cases h'
    · rw [if_neg e] at h'
      have hb : (f == n) = false := beq_eq_false_iff_ne.mpr (fun z => e z.symm)
      simp only [List.lookup, hb]
      exact flds_no (Option.map_eq_none_iff.mp h')
theorem flds_new : ∀ {ns : List Str} {vs : List V} {f : Str} {v : V}, fpos ns f = none → ns.length = vs.length → putF f v (flds ns vs) = flds (ns ++ [f]) (vs ++ [v])
  | [], [], _, _, _, _ => rfl
  | [], _ :: _, _, _, _, h => by simp at h
  | _ :: _, [], _, _, _, h => by simp at h
  | n :: ns, x :: vs, f, v, h, hl => by
    show putF f v ((n, x) :: flds ns vs) = (n, x) :: flds (ns ++ [f]) (vs ++ [v])
    have h' : (if n = f then some 0 else (fpos ns f).map (· + 1)) = none := h
    by_cases e : n = f
    · rw [if_pos e] at h'
      cases h'
    · rw [if_neg e] at h'
      show (if n = f then _ else (n, x) :: putF f v (flds ns vs)) = _
      rw [if_neg e, flds_new (Option.map_eq_none_iff.mp h') (by simpa using hl)]
def FldA (K : PySem.W.Frag) (f : Str) (x : V) (H1 : Hp) (Q : VK) : Prop := ∃ a C dx fs v, x = .ref a ∧ H1 a = some (.ins C dx fs) ∧ Cls K C ∧ NoAttr K C f ∧ fs.lookup f = some v ∧ Q v H1
def FldP (K : PySem.W.Frag) (f : Str) (x y : V) (H2 : Hp) (N : Hp → Prop) : Prop := ∃ a C dx fs, x = .ref a ∧ H2 a = some (.ins C dx fs) ∧ Cls K C ∧ NoAttr K C f ∧ fs.length < 1000 ∧ N (upd H2 a (.ins C dx (putF f y fs)))
def MethA (C : Addr) (m : Str) (x : V) (H1 : Hp) (N : Prop) : Prop := ∃ a dx fs, x = .ref a ∧ H1 a = some (.ins C dx fs) ∧ fs.lookup m = none ∧ N
section
variable {K : PySem.W.Frag} {L L' : List Fc} {M M' : List Cell} {H : Hp} {σ : L2.St} {Q : VK} {a p b C dx : Addr} {ns : List Str} {vs : List V} {f m : Str} {v x y : V} {D : Ends} {ta tv te td ty : TE} {tr : TA} {N : Hp → Prop} {sp : Sp} {dvs : List V} {E : XK}
theorem st_fld (q : ta σ H fun x H1 => FldA K f x H1 Q) : tFld K ta f σ H Q := q
theorem At.cellI {fs : List (Str × V)} (h : (a, HO.ins C dx fs) ∈ M) : At L M ⟨fun H => H a = some (.ins C dx fs), fun _ _ e h => e a _ h⟩ := fun H s => s.at h
def fI (a C dx : Addr) (fs : List (Str × V)) : Fc := ⟨fun H => H a = some (.ins C dx fs), fun _ _ e h => e a _ h⟩
theorem At.ins {fs : List (Str × V)} (h : (a, HO.ins C dx fs) ∈ M) : At L M (fI a C dx fs) := fun H s => s.at h
theorem st_FldA {i : Nat} (hS : SA L M H) (h : At L M (fI a C dx (flds ns vs))) (c : Cls K C) (n : NoAttr K C f) (hi : fpos ns f = some i) (hv : vs[i]? = some v) (q : Q v H) : FldA K f (.ref a) H Q := ⟨a, C, dx, _, v, rfl, h H hS, c, n, flds_at hi hv, q⟩
theorem st_sfld (q : tv σ H fun y H1 => ta σ H1 fun x H2 => FldP K f x y H2 fun H3 => D.nx σ H3) : sFld K ta tv f D σ H := by
  refine ?_
  show tv σ H fun y H1 => ta σ H1 fun x H2 => ∃ a C dx fs, x = .ref a ∧ H2 a = some (.ins C dx fs) ∧ Cls K C ∧ NoAttr K C f ∧ fs.length < 1000 ∧ D.nx σ (upd H2 a (.ins C dx (putF f y fs)))
  exact q
theorem st_FldN (hS : SA L M H) (d : Chg M a (.ins C dx (flds ns vs)) (.ins C dx (flds (ns ++ [f]) (vs ++ [y]))) M') (c : Cls K C) (n : NoAttr K C f) (hi : fpos ns f = none) (hl : ns.length = vs.length) (h9 : ns.length < 900) (q : ∀ H', SA L M' H' → N H') : FldP K f (.ref a) y H N :=
  ⟨a, C, dx, _, rfl, hS.at d.mem, c, n, by rw [flds, List.length_zip]; omega, by rw [flds_new hi hl]; exact q _ (hS.set d)⟩
theorem st_meth (q : ta σ H fun x H1 => MethA C m x H1 (tr σ H1 fun vs H2 => sp (x :: (vs ++ dvs)) H2 Q E)) : tMeth C m sp dvs E ta tr σ H Q := q
theorem st_MethA {N : Prop} (hS : SA L M H) (h : At L M (fI a C dx (flds ns vs))) (hi : fpos ns m = none) (q : N) : MethA C m (.ref a) H N := ⟨a, dx, _, rfl, h H hS, flds_no hi, q⟩
def MakeA (C : Addr) (H1 : Hp) (G : V → Hp → VK → XK → Prop) (Q : VK) (E : XK) : Prop := ∀ x dx, H1 x = none → H1 dx = none → dx ≠ x → G (.ref x) (upd (upd H1 dx (.own x)) x (.ins C dx [])) (fun v H2 => v = .non ∧ Q (.ref x) H2) E
theorem st_make (q : tr σ H fun vs H1 => MakeA C H1 (fun x H2 Q2 E2 => sp (x :: (vs ++ dvs)) H2 Q2 E2) Q E) : tMake C sp dvs E tr σ H Q := q
theorem st_MakeA {G : V → Hp → VK → XK → Prop} (hS : SA L M H) (q : ∀ x dx H', SA L ((x, .ins C dx (flds [] [])) :: M) H' → G (.ref x) H' (fun v H2 => v = .non ∧ Q (.ref x) H2) E) : MakeA C H G Q E := fun x dx hx hd ne =>
  q x dx _ (((hS.newM (o := .own x) hd).newM (p := x) (o := .ins C dx (flds [] [])) (by rw [upd_ne (fun e => ne e.symm)]; exact hx)).perm (List.Perm.swap _ _ _)).dropM
theorem st_nonV {P : Prop} (q : P) : V.non = .non ∧ P := ⟨rfl, q⟩
/-! ### del d[k]; d.pop(k); xs.pop(); a tuple taken apart -/
def ddrop (kvs : List (Key × V)) (n : Int) : List (Key × V) := dropK kvs (Sum.inl n : Key)
theorem dv_drop (kvs : List (Key × V)) (n k : Int) : dv (ddrop kvs n) k = if k = n then none else dv kvs k := by
  unfold dv ddrop dropK valV
  rw [List.find?_filter]
  by_cases h : k = n
  · subst h
    rw [if_pos rfl]
    rw [Option.map_eq_none_iff, List.find?_eq_none]
    intro x _
    by_cases hx : x.1 = (Sum.inl k : Key)
    · simp [hx]
    · simp [hx]
  · rw [if_neg h]
    congr 2
    funext a
    by_cases hx : a.1 = (Sum.inl k : Key)
    · simp [hx, h]
    · simp [hx]
theorem ddrop_len (kvs : List (Key × V)) (n : Int) : (ddrop kvs n).length ≤ kvs.length := dropK_le kvs _
variable {kvs : List (Key × V)} {n : Int}
def DDe (x y : V) (H2 : Hp) (N : Hp → Prop) : Prop := ∃ a kvs k, x = .ref a ∧ H2 a = some (.dK kvs) ∧ y = kV k ∧ (valV kvs k).isSome = true ∧ N (upd H2 a (.dK (dropK kvs k)))
theorem st_ddel (q : td σ H fun x H1 => ty σ H1 fun y H2 => DDe x y H2 fun H3 => D.nx σ H3) : sDDel td ty D σ H := q
theorem st_DDe (hS : SA L M H) (d : Chg M p (.dK kvs) (.dK (ddrop kvs n)) M') (h : (dv kvs n).isSome = true) (q : ∀ H', SA L M' H' → N H') : DDe (.ref p) (.int n) H N :=
  ⟨p, kvs, Sum.inl n, rfl, hS.at d.mem, rfl, h, q _ (hS.set d)⟩
def DPb (a : Addr) (y : V) (H2 : Hp) (Q : VK) : Prop := ∃ kvs k v, H2 a = some (.dK kvs) ∧ y = kV k ∧ valV kvs k = some v ∧ Q v (upd H2 a (.dK (dropK kvs k)))
def DPa (ty : TE) (σ : L2.St) (x : V) (H1 : Hp) (Q : VK) : Prop := ∃ a, x = .ref a ∧ IsD H1 a ∧ ty σ H1 fun y H2 => DPb a y H2 Q
theorem st_dpop (q : td σ H fun x H1 => DPa ty σ x H1 Q) : tDPop1 td ty σ H Q := q
theorem st_DPa (hS : SA L M H) (h : At L M (fK p kvs)) (q : ty σ H fun y H2 => DPb p y H2 Q) : DPa ty σ (.ref p) H Q := ⟨p, rfl, .inl ⟨kvs, .inl (h H hS)⟩, q⟩
theorem st_DPb (hS : SA L M H) (d : Chg M p (.dK kvs) (.dK (ddrop kvs n)) M') (h : dv kvs n = some v) (q : ∀ H', SA L M' H' → Q v H') : DPb p (.int n) H Q :=
  ⟨kvs, Sum.inl n, v, hS.at d.mem, rfl, h, q _ (hS.set d)⟩
theorem st_pop {xs : List V} (hS : SA L M H) (d : Chg M p (.lst xs) (.lst xs.dropLast) M') (h : xs[xs.length - 1]? = some y) (q : ∀ H', SA L M' H' → Q y H') : rPop (.ref p) [] H Q :=
  ⟨p, xs, y, rfl, rfl, hS.at d.mem, h, q _ (hS.set d)⟩
theorem st_popI {ns : List Int} (hS : SA L M H) (d : Chg M p (.lst (ns.map V.int)) (.lst (ns.dropLast.map V.int)) M') (h : 0 < ns.length) (q : ∀ H', SA L M' H' → Q (.int (ns.getD (ns.length - 1) 0)) H') : rPop (.ref p) [] H Q := by
  refine ⟨p, _, .int (ns.getD (ns.length - 1) 0), rfl, rfl, hS.at d.mem, ?_, ?_⟩
  · rw [List.length_map, List.getElem?_map, List.getD_eq_getElem?_getD, List.getElem?_eq_getElem (by omega)]
    rfl
  · rw [← List.map_dropLast]
    exact q _ (hS.set d)
theorem st_gtup {k : Nat} {t : TGs} {xs : List V} {R : L2.St → Hp → Prop} (hS : SA L M H) (h : At L M (fT K p xs)) (hl : xs.length = k) (q : t xs σ H R) : gTup K k t (.ref p) σ H R := ⟨p, xs, rfl, h H hS, hl, q⟩
theorem st_gcons {t : TG} {u : TGs} {xs : List V} {R : L2.St → Hp → Prop} (q : t x σ H fun σ' H' => u xs σ' H' R) : gCons t u (x :: xs) σ H R := ⟨x, xs, rfl, q⟩
theorem st_gnil {R : L2.St → Hp → Prop} (q : R σ H) : gNil [] σ H R := ⟨rfl, q⟩
/-! ### a dict whose values are data -/
def DkV (K : PySem.W.Frag) (kvs : List (Key × V)) (h : Int → Option PyData) (H : Hp) : Prop := ∀ n : Int, match dv kvs n, h n with
  | none, none => True
  | some v, some d => Dp K H v d
  | _, _ => False
def fDk (K : PySem.W.Frag) (kvs : List (Key × V)) (h : Int → Option PyData) : Fc := ⟨DkV K kvs h, fun H H' e g n => by
  have g1 := g n
  revert g1
  cases dv kvs n with
  | none => cases h n with
    | none => exact fun _ => trivial
    | some d => exact fun x => x
  | some v => cases h n with
    | none => exact fun x => x
    | some d => exact fun x => dp_same e d v x⟩
theorem dk_nil {H : Hp} : DkV K [] (fun _ => none) H := fun n => trivial
theorem dk_put {h : Int → Option PyData} {d : PyData} (g : DkV K kvs h H) (hd : Dp K H v d) : DkV K (dput kvs n v) (fun m => if m = n then some d else h m) H := fun k => by
  have g1 := g k
  show match dv (dput kvs n v) k, (if k = n then some d else h k) with | none, none => True | some v, some d => Dp K H v d | _, _ => False
  rw [dv_put]
  by_cases e : k = n
  · rw [if_pos e, if_pos e]
    exact hd
  · rw [if_neg e, if_neg e]
    exact g1
theorem dk_drop {h : Int → Option PyData} (g : DkV K kvs h H) : DkV K (ddrop kvs n) (fun m => if m = n then none else h m) H := fun k => by
  have g1 := g k
  show match dv (ddrop kvs n) k, (if k = n then none else h k) with | none, none => True | some v, some d => Dp K H v d | _, _ => False
  rw [dv_drop]
  by_cases e : k = n
  · rw [if_pos e, if_pos e]
    exact trivial
  · rw [if_neg e, if_neg e]
    exact g1
theorem dk_none {h : Int → Option PyData} (g : DkV K kvs h H) (e : h n = none) : dv kvs n = none := by
  have g1 := g n
  rw [e] at g1
  revert g1
  cases dv kvs n with
  | none => exact fun _ => rfl
  | some v => exact fun x => absurd x id
theorem dk_some {h : Int → Option PyData} {d : PyData} (g : DkV K kvs h H) (e : h n = some d) : ∃ v, dv kvs n = some v ∧ Dp K H v d := by
  have g1 := g n
  rw [e] at g1
  revert g1
  cases dv kvs n with
  | none => exact fun x => absurd x id
  | some v => exact fun x => ⟨v, rfl, x⟩
theorem dpa_app : ∀ {xs ys : List V} {ds es : List PyData}, DpAll K H xs ds → DpAll K H ys es → DpAll K H (xs ++ ys) (ds ++ es)
  | _, _, _, _, .nil, h => h
  | _, _, _, _, .cons h1 h2, h => .cons h1 (dpa_app h2 h)
theorem dpa_drop : ∀ {xs : List V} {ds : List PyData}, DpAll K H xs ds → DpAll K H xs.dropLast ds.dropLast
  | _, _, .nil => .nil
  | _, _, .cons h1 .nil => .nil
  | _, _, .cons h1 (.cons h2 h3) => .cons h1 (dpa_drop (.cons h2 h3))
theorem dpa_last : ∀ {xs : List V} {ds : List PyData} {d : PyData}, DpAll K H xs ds → ds.getLast? = some d → ∃ x, xs[xs.length - 1]? = some x ∧ Dp K H x d := by
  intro xs ds d h e
  rw [List.getLast?_eq_getElem?] at e
  have hl := dpa_len h
  have hlt : ds.length - 1 < ds.length := (List.getElem?_eq_some_iff.mp e).1
  have hx : xs[xs.length - 1]? = some xs[xs.length - 1] := List.getElem?_eq_getElem (by omega)
  obtain ⟨d2, e2, h2⟩ := dpa_get h hx
  rw [hl, e] at e2
  cases e2
  exact ⟨_, hx, h2⟩
/-- a tuple of two, of three -/
theorem dp_tup2 {x y : PyData} (h : Dp K H v (.tuple [x, y])) : ∃ p a b, v = .ref p ∧ SqT K H p [a, b] ∧ Dp K H a x ∧ Dp K H b y := by
  obtain ⟨p, xs, rfl, h1, h2⟩ := dp_tuple h
  cases h2 with
  | cons h3 h4 => cases h4 with
    | cons h5 h6 =>
      cases h6
      exact ⟨p, _, _, rfl, h1, h3, h5⟩
theorem dp_tup3 {x y z : PyData} (h : Dp K H v (.tuple [x, y, z])) : ∃ p a b c, v = .ref p ∧ SqT K H p [a, b, c] ∧ Dp K H a x ∧ Dp K H b y ∧ Dp K H c z := by
  obtain ⟨p, xs, rfl, h1, h2⟩ := dp_tuple h
  cases h2 with
  | cons h3 h4 => cases h4 with
    | cons h5 h6 => cases h6 with
      | cons h7 h8 =>
        cases h8
        exact ⟨p, _, _, _, rfl, h1, h3, h5, h7⟩
end
/-! ### o.m(k = v); o(..) of an instance -/
section
variable {X : Cx} {CX : CXT} {k : Nat} {f C : Addr} {fd : FuncData} {ps ks : List Str} {sp : Sp} {E : XK} {m : Str} {o : Expr} {ta : TE} {tk : TA} {kws : List Keyword} {p pos apos : Pos} {g : List Value → List Value → List Value} {gV : List V → List V → List V}
def tMethK0 (C : Addr) (m : Str) (sp : Sp) (gV : List V → List V → List V) (E : XK) (ta : TE) (tk : TA) : TE := fun σ H Q => ta σ H fun x H1 => MethA C m x H1 (tk σ H1 fun zs H2 => sp (gV [x] zs) H2 Q E)
theorem pe_methK0 {pl : Sem Bool} (he : PE X o ta) (c : Cls X.K C) (hm : Meth X.K C m f) (F : FnOk X.prog X.w X.K X.mg X.base CX k f fd ps sp) (hr : Room k X.A) (hb : KBinds X.K fd ps ks g gV) (hx : Passes CX X E) (hkw : PK X kws tk)
    (hall : (backToKw pos (keywordEach kws X.env)).all (·.1.isSome) = true := by rfl) (hks : (backToKw pos (keywordEach kws X.env)).filterMap (·.1) = ks := by rfl)
    (hpl : ((backTo pos (starEach [] X.env)).any (·.1) || (backToKw pos (keywordEach kws X.env)).any (·.1.isNone)) = false := by rfl)
    (ht : eval (.Call (.Attribute o m apos) [] kws pos) X.env = (do
      let ov ← eval o X.env
      standAt apos.atName
      let (f, first) ← holding [ov] (getMethod ov m pl)
      callWith pos f first (backTo pos (starEach [] X.env)) (backToKw pos (keywordEach kws X.env))) := by rfl) :
    PE X (.Call (.Attribute o m apos) [] kws pos) (tMethK0 C m sp gV E ta tk) := by
  refine ⟨fun pins s σ H Q I h => ?_⟩
  refine PySem.W.methodCall_KW (pl := pl) (thn (he.run pins s σ H _ I h) fun u s1 ⟨x, H1, I1, rx, a, dx, fs, ex, ea, l, q⟩ => ?_) ht
  subst ex
  obtain rfl : u = Value.ref a := rx
  refine getmeth_ok I1 ea c hm l ?_
  refine PySem.W.callWith_KW0 (first := [.ref a]) (h₀ := X.base) I.ok.mod.kin hm.kp hall (thn (hkw.run pos pins s1 σ H1 _ I1 q) fun ws s2 ⟨zs, H2, I2, rz, q2⟩ => ⟨I2.kIn, ?_⟩) hpl
  rw [hks]
  exact run_fnk (us := [.ref a]) (vs := [.ref a]) F hr hb hx I2 (.cons rfl .nil) rz q2
end
section
variable {X : Cx} {K : PySem.W.Frag} {L : List Fc} {M : List Cell} {H : Hp} {σ : L2.St} {Q : VK} {a p b C dx : Addr} {ns : List Str} {vs : List V} {m : Str} {ta tf : TE} {tr tk : TA} {sp : Sp} {E : XK} {gV : List V → List V → List V}
theorem st_methK0 (q : ta σ H fun x H1 => MethA C m x H1 (tk σ H1 fun zs H2 => sp (gV [x] zs) H2 Q E)) : tMethK0 C m sp gV E ta tk σ H Q := q
def CallOA (X : Cx) (C : Addr) (y : V) (H1 : Hp) (N : Addr → Prop) : Prop := ∃ a, y = .ref a ∧ N a
theorem st_callO (q : tf σ H fun y H1 => CallOA X C y H1 fun a => tr σ H1 fun vs H2 => StX.InsC X H2 a C ∧ sp (.ref a :: vs) H2 Q E) : StX.tCallO X C sp E tf tr σ H Q := q
theorem st_CallOA {N : Addr → Prop} (q : N a) : CallOA X C (.ref a) H N := ⟨a, rfl, q⟩
theorem st_InsC {N : Prop} (hS : SA L M H) (h : At L M (fI a C dx (flds ns vs))) (q : N) : StX.InsC X H a C ∧ N := ⟨.inr ⟨dx, _, h H hS⟩, q⟩
end
/-- a tuple stands there, tracked -/
def fU (a : Addr) (xs : List V) : Fc := ⟨fun H => H a = some (.tup xs), fun _ _ e h => e a _ h⟩
section
variable {K : PySem.W.Frag} {L : List Fc} {M : List Cell} {H : Hp} {Q : VK} {a p : Addr} {xs : List V}
theorem At.u (h : At L M (fU p xs)) : At L M (fT K p xs) := fun H s => SqT.of (h H s)
theorem st_newU (hS : SA L M H) (hl : xs.length ≤ 100000) (q : ∀ p H', SA (fU p xs :: L) M H' → Q (.ref p) H') : NewT xs H Q :=
  ⟨Nat.le_trans hl (by decide), fun p hp => q p _ (hS.newF hp fun _ e _ => e)⟩
theorem SA.ad {f : Fc} (h : SA L M H) (q : ∀ F : Hp, (∀ x ∈ L, x.p F) → f.p F) : SA (f :: L) M H := h.fact q
end
/-- the class that a module's name holds -/
def clsOf (mg : Str → Option Value) (x : Str) : Addr := match mg x with
  | some (.ref C) => C
  | _ => default
theorem clsOf_eq {mg : Str → Option Value} {x : Str} {C : Addr} (h : mg x = some (.ref C)) : clsOf mg x = C := by
  unfold clsOf
  rw [h]
/-- two keywords, in the other order -/
def g0r {α : Type} : List α → List α → List α
  | [], [u, v] => [v, u]
  | _, _ => []
theorem kb0r {K : PySem.W.Frag} {x qual : Str} {st : Stmt} {f : Addr} {fd : FuncData} {ps ks : List Str} (F : Fun K x qual st f fd) (h0 : ps.length = 2)
    (h : ∀ (kV doc pm : Value) (an : Option Addr) (cdv ct : Value) (u v : Value), bindArgs (PySem.W.fnOf x qual (defArgs st) (defBody st) (defScope st) .none kV doc pm an cdv ct) ⟨[], ks.zip [u, v]⟩ = pure (ps.zip [v, u])) : KBinds K fd ps ks g0r g0r := by
  obtain ⟨oc, od, kV, doc, pm, an, cdv, ct, osl, rfl, lk, hcd⟩ := F.ex
  refine ⟨fun s us ws _ hl => ?_, fun {vs us zs ws} r rz => ?_⟩
  · rw [h0] at hl
    match us, ws, hl with
    | [], [u, v], _ => exact .of_eq (h kV doc pm an cdv ct u v)
    | [], [], hl => cases hl
    | [], [_], hl => cases hl
    | [], _ :: _ :: _ :: _, hl => cases hl
    | _ :: _, _, hl => cases hl
  · cases r with
    | nil =>
      cases rz with
      | nil => exact .nil
      | cons r1 rz =>
        cases rz with
        | nil => exact .nil
        | cons r2 rz =>
          cases rz with
          | nil => exact .cons r2 (.cons r1 .nil)
          | cons _ _ => exact .nil
    | cons _ _ => exact .nil
/-- the instance by itself, the rest by name: for C(k = v, ..) -/
theorem kbn1 {K : PySem.W.Frag} {x qual : Str} {st : Stmt} {f : Addr} {fd : FuncData} {ps ks : List Str} (F : Fun K x qual st f fd) (h0 : 0 < ps.length)
    (h : ∀ (kV doc pm : Value) (an : Option Addr) (cdv ct : Value) (u : Value) (ws : List Value), ws.length = ks.length → bindArgs (PySem.W.fnOf x qual (defArgs st) (defBody st) (defScope st) .none kV doc pm an cdv ct) ⟨[u], ks.zip ws⟩ = pure (ps.zip (u :: ws))) : KBn K fd ps 1 ks g1 g1 := by
  obtain ⟨oc, od, kV, doc, pm, an, cdv, ct, osl, rfl, lk, hcd⟩ := F.ex
  refine ⟨fun s us ws _ l1 l2 => ?_, fun {vs us zs ws} r rz => ?_⟩
  · match us, l1 with
    | [u], _ => exact .of_eq (h kV doc pm an cdv ct u ws l2)
  · cases r with
    | nil => exact .nil
    | cons r rr =>
      cases rr with
      | nil => exact .cons r rz
      | cons _ _ => exact .nil
end Sa

namespace Sa
open PySem PySem.Spec PyProof.Rows L2
/-! ### comprehensions that change things: an invariant by the turn and a ghost -/
section
variable {K : PySem.W.Frag} {L : List Fc} {M : List Cell} {H : Hp} {σ : L2.St} {Q : VK} {a : Addr} {xs : List V} {te : TE} {t : TT} {γ : Type}
def LcN (Lf : Nat → γ → List Fc) (Mf : Nat → γ → List Cell) (ac : Nat → γ → List V) (pr : Nat → γ → Prop) (D : Addr) (i : Nat) (H : Hp) : Prop := ∃ g, pr i g ∧ SA (Lf i g) ((D, .lst (ac i g)) :: Mf i g) H
def LcAdd (D : Addr) (y : V) (H : Hp) (N : Hp → Prop) : Prop := ∃ acc, H D = some (.lst acc) ∧ acc.length < sizeLine ∧ N (upd H D (.lst (acc ++ [y])))
theorem st_lcadd {D : Addr} {acc : List V} {y : V} {M' : List Cell} {N : Hp → Prop} (hS : SA L M H) (d : Chg M D (.lst acc) (.lst (acc ++ [y])) M') (hl : acc.length < 100000) (q : ∀ H', SA L M' H' → N H') : LcAdd D y H N :=
  ⟨acc, hS.at d.mem, Nat.lt_of_lt_of_le hl (by decide), q _ (hS.set d)⟩
theorem st_lcaddI {D : Addr} {ns : List Int} {w : Int} {M' : List Cell} {N : Hp → Prop} (hS : SA L M H) (d : Chg M D (.lst (ns.map V.int)) (.lst ((ns ++ [w]).map V.int)) M') (hl : ns.length < 100000) (q : ∀ H', SA L M' H' → N H') : LcAdd D (.int w) H N := by
  have e : (ns ++ [w]).map V.int = ns.map V.int ++ [V.int w] := by rw [List.map_append]; rfl
  rw [e] at d
  exact st_lcadd hS d (by rw [List.length_map]; exact hl) q
theorem st_tyes {R : Bool → Hp → Prop} (q : R true H) : tYes σ H R := q
variable (Lf : Nat → γ → List Fc) (Mf : Nat → γ → List Cell) (ac : Nat → γ → List V) (pr : Nat → γ → Prop)
theorem lcG_rng {lo : Int} {n j : Nat} {vs : List Nat} {g0 : γ} (hS : SA L M H) (h0 : pr 0 g0) (e0 : ac 0 g0 = []) (eS : Lf 0 g0 = L ∧ Mf 0 g0 = M) (hw : ∀ x, wipe ((wipe σ vs).set j (some x)) vs = wipe σ vs)
    (hs : ∀ (i : Nat) (g : γ) (D : Addr) (H : Hp), i < n → pr i g → SA (Lf i g) ((D, .lst (ac i g)) :: Mf i g) H →
      t ((wipe σ vs).set j (some (.int (lo + (i : Int))))) H fun b H3 => if b = true then te ((wipe σ vs).set j (some (.int (lo + (i : Int))))) H3 fun y H4 => LcAdd D y H4 (LcN Lf Mf ac pr D (i + 1)) else LcN Lf Mf ac pr D (i + 1) H3)
    (q : ∀ D g H', pr n g → SA (Lf n g) ((D, .lst (ac n g)) :: Mf n g) H' → Q (.ref D) H') : Lc (Itr lo n) (gName j) t te vs σ Q H := fun D hD =>
  lc_it (walk_range (lo := lo) (n := n)) (LcN Lf Mf ac pr D) ⟨g0, h0, by rw [e0, eS.1, eS.2]; exact hS.newM hD⟩ (fun _ _ _ _ => trivial) (fun i x H H' hi hp hy => by
    obtain ⟨rfl, rfl⟩ := hy
    obtain ⟨g, h1, h2⟩ := hp
    exact ⟨hw _, hs i g D _ hi h1 h2⟩) (fun H' hp => by
    obtain ⟨g, h1, h2⟩ := hp
    exact q D g H' h1 h2)
theorem lcG_list {j : Nat} {vs : List Nat} {g0 : γ} (hS : SA L M H) (h0 : pr 0 g0) (e0 : ac 0 g0 = []) (eS : Lf 0 g0 = L ∧ Mf 0 g0 = M) (hG : ∀ (i : Nat) (g : γ), i ≤ xs.length → pr i g → At (Lf i g) (Mf i g) (fQ K a xs)) (hw : ∀ x, wipe ((wipe σ vs).set j (some x)) vs = wipe σ vs)
    (hs : ∀ (i : Nat) (x : V) (g : γ) (D : Addr) (H : Hp), xs[i]? = some x → pr i g → SA (Lf i g) ((D, .lst (ac i g)) :: Mf i g) H →
      t ((wipe σ vs).set j (some x)) H fun b H3 => if b = true then te ((wipe σ vs).set j (some x)) H3 fun y H4 => LcAdd D y H4 (LcN Lf Mf ac pr D (i + 1)) else LcN Lf Mf ac pr D (i + 1) H3)
    (q : ∀ D g H', pr xs.length g → SA (Lf xs.length g) ((D, .lst (ac xs.length g)) :: Mf xs.length g) H' → Q (.ref D) H') : Lc (Itl K a) (gName j) t te vs σ Q H := fun D hD =>
  lc_it (walk_list (xs := xs)) (LcN Lf Mf ac pr D) ⟨g0, h0, by rw [e0, eS.1, eS.2]; exact hS.newM hD⟩ (fun i H hi hp => by
    obtain ⟨g, h1, h2⟩ := hp
    exact hG i g hi h1 H h2.dropM) (fun i x H H' hi hp hy => by
    obtain ⟨rfl, hx⟩ := hy
    obtain ⟨g, h1, h2⟩ := hp
    exact ⟨hw _, hs i x g D _ hx h1 h2⟩) (fun H' hp => by
    obtain ⟨g, h1, h2⟩ := hp
    exact q D g H' h1 h2)
end
end Sa

namespace Sa
open PySem PySem.Spec PyProof.Rows L2
/-! ### steps that ask nothing, found by their head -/
class Go (g : Prop) (n : outParam Prop) : Prop where
  go : n → g
section
variable {K : PySem.W.Frag} {σ : L2.St} {H : Hp} {Q : VK} {QB : Bool → Hp → Prop} {QL : List V → Hp → Prop} {D : Ends} {ta tb tc te td ty tx tv tf to ti : TE} {t u : TT} {ts tu : TS} {tr tk : TA} {r r' : R2} {i j l : Nat} {v w x y z : V} {A B N : Prop} {NS : L2.St → Hp → Prop} {NH : Hp → Prop}
instance : Go (tC v σ H Q) (Q v H) := ⟨st_c⟩
instance : Go (tOp r ta tb σ H Q) (ta σ H fun x H1 => tb σ H1 fun y H2 => r x y H2 Q) := ⟨st_op⟩
instance {r : V → Hp → VK → Prop} : Go (tUn r ta σ H Q) (ta σ H fun x H1 => r x H1 Q) := ⟨st_un⟩
instance : Go (tSeq ts tu D σ H) (ts { D with nx := tu D } σ H) := ⟨st_seq⟩
instance {g : TG} : Go (tAsg te g D σ H) (te σ H fun x H1 => g x σ H1 D.nx) := ⟨st_asg⟩
instance : Go (gName i v σ H NS) (NS (σ.set i (some v)) H) := ⟨st_name⟩
instance {g : Int → Int → V} {i j : Int} : Go (rI0 g (.int i) (.int j) H Q) (Q (g i j) H) := ⟨st_I0⟩
instance {g : Int → V} {i : Int} : Go (rU g (.int i) H Q) (Q (g i) H) := ⟨st_U⟩
instance {i j : Int} : Go (rEq (.int i) (.int j) H Q) (Q (.bl (decide (i = j))) H) := ⟨st_eqI⟩
instance {i j : Int} : Go (rNe (.int i) (.int j) H Q) (Q (.bl (!decide (i = j))) H) := ⟨st_neI⟩
instance : Go (tNil σ H QL) (QL [] H) := ⟨st_tnil⟩
instance : Go (tCons ta tr σ H QL) (ta σ H fun x H1 => tr σ H1 fun xs H2 => QL (x :: xs) H2) := ⟨st_tcons⟩
instance {rr : List V → Hp → VK → Prop} : Go (tCB rr tr σ H Q) (tr σ H fun vs H1 => rr vs H1 Q) := ⟨st_cb⟩
instance {sp : Sp} {dvs : List V} {E : XK} : Go (tCall sp dvs E tr σ H Q) (tr σ H fun vs H1 => sp (vs ++ dvs) H1 Q E) := ⟨st_call⟩
instance {sp : Sp} {gV : List V → List V → List V} {E : XK} : Go (tCallK sp gV E tr tk σ H Q) (tr σ H fun vs H1 => tk σ H1 fun zs H2 => sp (gV vs zs) H2 Q E) := ⟨st_callK⟩
instance : Go (tTest te σ H QB) (te σ H fun x H' => ∃ k, x = .bl k ∧ QB k H') := ⟨st_test⟩
instance : Go (tB te σ H QB) (te σ H fun x H' => ∃ k, x = .bl k ∧ QB k H') := ⟨st_tB⟩
instance : Go (tIfS t ts tu D σ H) (t σ H fun b H1 => if b = true then ts D σ H1 else tu D σ H1) := ⟨st_ifS⟩
instance : Go (tIf t ta tb σ H Q) (t σ H fun c H1 => if c = true then ta σ H1 Q else tb σ H1 Q) := ⟨st_if⟩
instance : Go (tRet te D σ H) (te σ H D.rt) := ⟨st_ret⟩
instance : Go (tRetN D σ H) (D.rt .non H) := ⟨st_retN⟩
instance : Go (tDrop te D σ H) (te σ H fun _ H1 => D.nx σ H1) := ⟨st_drop⟩
instance : Go (tNext D σ H) (D.nx σ H) := ⟨st_next⟩
instance : Go (tAnd t u σ H QB) (t σ H fun c H1 => if c = true then u σ H1 QB else QB false H1) := ⟨st_and⟩
instance : Go (tOr t u σ H QB) (t σ H fun c H1 => if c = true then QB true H1 else u σ H1 QB) := ⟨st_or⟩
instance : Go (tNot t σ H QB) (t σ H fun c H1 => QB (!c) H1) := ⟨st_not⟩
instance : Go (tAndV ta tb σ H Q) (ta σ H fun x H1 => ∃ c, x = .bl c ∧ if c = true then tb σ H1 Q else Q (.bl false) H1) := ⟨st_andV⟩
instance : Go (tOrV ta tb σ H Q) (ta σ H fun x H1 => ∃ c, x = .bl c ∧ if c = true then Q (.bl true) H1 else tb σ H1 Q) := ⟨st_orV⟩
instance : Go (tNotV ta σ H Q) (ta σ H fun x H1 => ∃ c, x = .bl c ∧ Q (.bl (!c)) H1) := ⟨st_notV⟩
instance : Go (tChain r r' ta tb tc σ H Q) (ta σ H fun x H1 => tb σ H1 fun y H2 => r x y H2 fun z H3 => ∃ k, z = .bl k ∧ (if k = true then tc σ H3 fun w' H4 => r' y w' H4 Q else Q (.bl false) H3)) := ⟨st_chain⟩
instance : Go (tPar i j tr D σ H) (tr σ H fun vs H1 => ∃ v w, vs = [v, w] ∧ D.nx ((σ.set i (some v)).set j (some w)) H1) := ⟨st_par⟩
instance : Go (tPar3 i j l tr D σ H) (tr σ H fun vs H1 => ∃ u v w, vs = [u, v, w] ∧ D.nx (((σ.set i (some u)).set j (some v)).set l (some w)) H1) := ⟨st_par3⟩
instance {P : V → V → Prop} : Go (∃ v w, [x, y] = [v, w] ∧ P v w) (P x y) := ⟨fun q => ⟨x, y, rfl, q⟩⟩
instance {P : V → V → V → Prop} : Go (∃ u v w, [x, y, z] = [u, v, w] ∧ P u v w) (P x y z) := ⟨fun q => ⟨x, y, z, rfl, q⟩⟩
instance {k : Bool} {P : Bool → Prop} : Go (∃ c, V.bl k = .bl c ∧ P c) (P k) := ⟨fun q => ⟨k, rfl, q⟩⟩
instance {k : Int} {P : Int → Prop} : Go (∃ c, V.int k = .int c ∧ P c) (P k) := ⟨fun q => ⟨k, rfl, q⟩⟩
instance {F : Int → Int → Int} {i j : Int} : Go (ipI F (.int i) (.int j) H Q) (Q (.int (F i j)) H) := ⟨st_ip⟩
instance {wi : TI} {g : TG} : Go (tFor wi g ts D σ H) (wi σ H fun J H1 => Lp J g ts D σ H1) := ⟨st_for⟩
instance {R : It → Hp → Prop} : Go (iList K te σ H R) (te σ H fun x H1 => ∃ a, x = .ref a ∧ (∃ xs, SqL K H1 a xs) ∧ R (Itl K a) H1) := ⟨st_iList⟩
instance {R : It → Hp → Prop} : Go (iRng1 tr σ H R) (tr σ H fun vs H1 => ∃ j : Int, vs = [.int j] ∧ -(2 ^ 62) ≤ j ∧ j < 2 ^ 62 ∧ R (Itr 0 j.toNat) H1) := ⟨st_iRng1⟩
instance {R : It → Hp → Prop} : Go (iRng2 tr σ H R) (tr σ H fun vs H1 => ∃ i j : Int, vs = [.int i, .int j] ∧ (-(2 ^ 62) ≤ i ∧ i < 2 ^ 62 ∧ -(2 ^ 62) ≤ j ∧ j < 2 ^ 62) ∧ R (Itr i (j - i).toNat) H1) := ⟨st_iRng2⟩
instance {R : It → Hp → Prop} : Go (iEnum K tr σ H R) (tr σ H fun vs H1 => ∃ a xs, vs = [.ref a] ∧ SqL K H1 a xs ∧ R (Ite K a) H1) := ⟨st_iEnum⟩
instance {R : It → Hp → Prop} : Go (iZip K tr σ H R) (tr σ H fun vs H1 => ∃ a b xs ys, vs = [.ref a, .ref b] ∧ SqL K H1 a xs ∧ SqL K H1 b ys ∧ R (Itz K a b) H1) := ⟨st_iZip⟩
instance {R : It → Hp → Prop} : Go (RZ.iZipA K tr σ H R) (tr σ H fun vs H1 => ∃ a b xs ys, vs = [.ref a, .ref b] ∧ ((SqL K H1 a xs ∧ SqL K H1 b ys ∧ R (Itz K a b) H1) ∨ (SqT K H1 a xs ∧ SqT K H1 b ys ∧ R (RZ.ItzT K a b) H1))) := ⟨st_iZipA⟩
instance {wi : TI} {g : TG} {vs : List Nat} : Go (tLc wi g t te vs σ H Q) (wi σ H fun J H1 => Lc J g t te vs σ Q H1) := ⟨st_lc⟩
instance : Go (tLst tr σ H Q) (tr σ H fun xs H1 => NewL xs H1 Q) := ⟨st_lst⟩
instance : Go (tTup tr σ H Q) (tr σ H fun xs H1 => NewT xs H1 Q) := ⟨st_tup⟩
instance {T : String} {rr : V → List V → Hp → VK → Prop} : Go (tBM K T rr ta tr σ H Q) (ta σ H fun x H1 => tyV K T x H1 ∧ tr σ H1 fun xs H2 => rr x xs H2 Q) := ⟨st_bm⟩
instance {T : String} {rr : V → List V → Hp → VK → Prop} : Go (tBM0 K T rr ta σ H Q) (ta σ H fun x H1 => tyV K T x H1 ∧ rr x [] H1 Q) := ⟨st_bm0⟩
instance {tset : TSet} : Go (gSub to ti tset v σ H NS) (to σ H fun o H1 => ti σ H1 fun i H2 => tset o i v H2 fun H3 => NS σ H3) := ⟨st_sub⟩
instance : Go (rIsN x .non H Q) (Q (.bl (decide (x = .non))) H) := ⟨st_rIsN⟩
instance : Go (rNotN x .non H Q) (Q (.bl (!decide (x = .non))) H) := ⟨st_rNotN⟩
instance {i j : Int} : Go (rMax2 [.int i, .int j] H Q) (Q (.int (max i j)) H) := ⟨st_max2⟩
instance {i j : Int} : Go (rMin2 [.int i, .int j] H Q) (Q (.int (min i j)) H) := ⟨st_min2⟩
instance {i : Int} : Go (rInt1 [.int i] H Q) (Q (.int i) H) := ⟨st_int1⟩
instance {k : Bool} : Go (rInt1 [.bl k] H Q) (Q (.int (if k then 1 else 0)) H) := ⟨st_int1b⟩
instance {i : Int} : Go (rAbs [.int i] H Q) (Q (.int (if i < 0 then -i else i)) H) := ⟨st_abs⟩
instance {a b : Bool} : Go (rIsBl (.bl a) (.bl b) H Q) (Q (.bl (decide (a = b))) H) := ⟨st_rIsBl⟩
instance {f : Str} : Go (tFld K ta f σ H Q) (ta σ H fun x H1 => FldA K f x H1 Q) := ⟨st_fld⟩
instance {f : Str} : Go (sFld K ta tv f D σ H) (tv σ H fun y H1 => ta σ H1 fun x H2 => FldP K f x y H2 fun H3 => D.nx σ H3) := ⟨st_sfld⟩
instance {C : Addr} {m : Str} {sp : Sp} {dvs : List V} {E : XK} : Go (tMeth C m sp dvs E ta tr σ H Q) (ta σ H fun x H1 => MethA C m x H1 (tr σ H1 fun vs H2 => sp (x :: (vs ++ dvs)) H2 Q E)) := ⟨st_meth⟩
instance {C : Addr} {m : Str} {sp : Sp} {gV : List V → List V → List V} {E : XK} : Go (tMethK0 C m sp gV E ta tk σ H Q) (ta σ H fun x H1 => MethA C m x H1 (tk σ H1 fun zs H2 => sp (gV [x] zs) H2 Q E)) := ⟨st_methK0⟩
instance {C : Addr} {sp : Sp} {dvs : List V} {E : XK} : Go (tMake C sp dvs E tr σ H Q) (tr σ H fun vs H1 => MakeA C H1 (fun x H2 Q2 E2 => sp (x :: (vs ++ dvs)) H2 Q2 E2) Q E) := ⟨st_make⟩
instance {X : Cx} {C : Addr} {sp : Sp} {E : XK} : Go (StX.tCallO X C sp E tf tr σ H Q) (tf σ H fun y H1 => CallOA X C y H1 fun a => tr σ H1 fun vs H2 => StX.InsC X H2 a C ∧ sp (.ref a :: vs) H2 Q E) := ⟨st_callO⟩
instance {X : Cx} {C a : Addr} {P : Addr → Prop} : Go (CallOA X C (.ref a) H P) (P a) := ⟨st_CallOA⟩
instance : Go (sDDel td ty D σ H) (td σ H fun x H1 => ty σ H1 fun y H2 => DDe x y H2 fun H3 => D.nx σ H3) := ⟨st_ddel⟩
instance : Go (tDPop1 td ty σ H Q) (td σ H fun x H1 => DPa ty σ x H1 Q) := ⟨st_dpop⟩
instance : Go (tDNotIn ty td σ H Q) (ty σ H fun y H1 => td σ H1 fun x H2 => DNi y x H2 Q) := ⟨st_dni⟩
instance : Go (tDIn ty td σ H Q) (ty σ H fun y H1 => td σ H1 fun x H2 => DIi y x H2 Q) := ⟨st_dii⟩
instance : Go (tDGet td ty σ H Q) (td σ H fun x H1 => ty σ H1 fun y H2 => DGt x y H2 Q) := ⟨st_dgt⟩
instance : Go (tDGet2 td ty tx σ H Q) (td σ H fun x H1 => DG2a ty tx σ x H1 Q) := ⟨st_dg2⟩
instance : Go (sDPut td ty tv D σ H) (tv σ H fun v H1 => td σ H1 fun x H2 => ty σ H2 fun y H3 => DPu x y v H3 fun H4 => D.nx σ H4) := ⟨st_dput⟩
instance : Go (tDSetd td ty tx σ H Q) (td σ H fun x H1 => DSa ty tx σ x H1 Q) := ⟨st_dsd⟩
instance {rr : V → Option Int → Option Int → Hp → VK → Prop} {tl th : TO} : Go (tSl rr te tl th σ H Q) (te σ H fun x H1 => tl σ H1 fun l H2 => th σ H2 fun u H3 => rr x l u H3 Q) := ⟨st_sl⟩
instance {QO : Option Int → Hp → Prop} : Go (tNoPart σ H QO) (QO none H) := ⟨st_noP⟩
instance {QO : Option Int → Hp → Prop} : Go (tPart te σ H QO) (te σ H fun x H1 => ∃ i, x = .int i ∧ QO (some i) H1) := ⟨st_part⟩
instance : Go (tLstRg (tRg1 ta) σ H Q) (ta σ H fun x H1 => ∃ n, x = .int n ∧ LRg 0 n H1 Q) := ⟨st_lr1⟩
instance : Go (tLstRg (tRg2 ta tb) σ H Q) (ta σ H fun x H1 => tb σ H1 fun y H2 => ∃ i j, x = .int i ∧ y = .int j ∧ LRg i j H2 Q) := ⟨st_lr2⟩
instance {i j : Int} {P : Int → Int → Prop} : Go (∃ i' j', V.int i = .int i' ∧ V.int j = .int j' ∧ P i' j') (P i j) := ⟨fun q => ⟨i, j, rfl, rfl, q⟩⟩
instance : Go (gFrom to ti v σ H NS) (to σ H fun o H1 => ti σ H1 fun i H2 => SetFrom o i v H2 fun H3 => NS σ H3) := ⟨st_gFrom⟩
instance {t : TG} {u : TGs} {xs : List V} : Go (gCons t u (x :: xs) σ H NS) (t x σ H fun σ' H' => u xs σ' H' NS) := ⟨st_gcons⟩
instance : Go (gNil [] σ H NS) (NS σ H) := ⟨st_gnil⟩
instance : Go (V.non = .non ∧ A) A := ⟨st_nonV⟩
instance : Go (tYes σ H QB) (QB true H) := ⟨st_tyes⟩
instance {b : Bool} : Go (if (!b) = true then A else B) (if b = true then B else A) := ⟨if_not⟩
instance : Go (if true = true then A else B) A := ⟨if_t⟩
instance : Go (if false = true then A else B) B := ⟨if_f⟩
instance : Go (if decide True = true then A else B) A := ⟨if_t⟩
instance {α : Type} {a : α} : Go (if (some a).isSome = true then A else B) A := ⟨if_t⟩
instance {α : Type} : Go (if (none : Option α).isSome = true then A else B) B := ⟨if_f⟩
end
/-! ### while; xs[::-1] -/
section
variable {K : PySem.W.Frag} {L : List Fc} {M : List Cell} {σ : L2.St} {H : Hp} {Q : VK} {D : Ends} {c : TT} {tb : TS} {te : TE} {a : Addr} {xs : List V} {γ : Type}
def Wh (s : Nat → γ → L2.St) (Lf : Nat → γ → List Fc) (Mf : Nat → γ → List Cell) (pr : Nat → γ → Prop) (m : Nat) (σ : L2.St) (H : Hp) : Prop := ∃ g : γ, σ = s m g ∧ pr m g ∧ SA (Lf m g) (Mf m g) H
def WhN (s : Nat → γ → L2.St) (Lf : Nat → γ → List Fc) (Mf : Nat → γ → List Cell) (pr : Nat → γ → Prop) (m : Nat) (σ : L2.St) (H : Hp) : Prop := ∃ m', m' < m ∧ Wh s Lf Mf pr m' σ H
def WhB (W : Nat → L2.St → Hp → Prop) (m : Nat) (tb : TS) (D : Ends) (σ : L2.St) (H1 : Hp) : Prop := ∃ N : L2.St → Hp → Prop, (∀ σ' H', N σ' H' → ∃ m', m' < m ∧ W m' σ' H') ∧ tb { D with nx := N, ct := N, bk := D.nx } σ H1
instance (s : Nat → γ → L2.St) (Lf : Nat → γ → List Fc) (Mf : Nat → γ → List Cell) (pr : Nat → γ → Prop) (m : Nat) : Go (WhB (Wh s Lf Mf pr) m tb D σ H) (tb { D with nx := WhN s Lf Mf pr m, ct := WhN s Lf Mf pr m, bk := D.nx } σ H) := ⟨fun q => ⟨WhN s Lf Mf pr m, fun _ _ h => h, q⟩⟩
theorem lp_while (s : Nat → γ → L2.St) (Lf : Nat → γ → List Fc) (Mf : Nat → γ → List Cell) (pr : Nat → γ → Prop) (m0 : Nat) (h0 : Wh s Lf Mf pr m0 σ H)
    (hs : ∀ (m : Nat) (g : γ) (H : Hp), pr m g → SA (Lf m g) (Mf m g) H → c (s m g) H fun b H1 => if b = true then WhB (Wh s Lf Mf pr) m tb D (s m g) H1 else D.nx (s m g) H1) : tWhile c tb D σ H :=
  ⟨Wh s Lf Mf pr, ⟨m0, h0⟩, fun m σ H ⟨g, e, h1, h2⟩ => by
    subst e
    exact hs m g H h1 h2⟩
def RevA (K : PySem.W.Frag) (x : V) (H1 : Hp) (Q : VK) : Prop := ∃ a xs, x = .ref a ∧ SqL K H1 a xs ∧ ∀ p, H1 p = none → Q (.ref p) (upd H1 p (.lst xs.reverse))
instance : Go (tRevL K te σ H Q) (te σ H fun x H1 => RevA K x H1 Q) := ⟨fun q => q⟩
theorem st_RevA {ns : List Int} (hS : SA L M H) (h : At L M (fQ K a (ns.map V.int))) (q : ∀ p H', SA L ((p, .lst (ns.reverse.map V.int)) :: M) H' → Q (.ref p) H') : RevA K (.ref a) H Q :=
  ⟨a, _, rfl, h H hS, fun p hp => by
    rw [← List.map_reverse]
    exact q p _ (hS.newM hp)⟩
end
end Sa

namespace Sa
open PySem PySem.Spec PyProof.Rows L2
/-! ### further steps -/
theorem if_yes {P : Prop} [Decidable P] {A B : Prop} (h : P) (q : A) : if decide P = true then A else B := by
  rw [if_pos (decide_eq_true h)]
  exact q
theorem if_no {P : Prop} [Decidable P] {A B : Prop} (h : ¬ P) (q : B) : if decide P = true then A else B := by
  rw [if_neg (by rw [decide_eq_false h]; decide)]
  exact q
section
variable {K : PySem.W.Frag} {L L' : List Fc} {M M' : List Cell} {H : Hp} {σ : L2.St} {Q : VK} {a p b : Addr} {xs ys : List V} {v x y z : V} {D : Ends} {ta tb te td ty tx tv to ti : TE} {t : TT} {ts tu : TS} {tr : TA} {ns ms : List Int} {N : Hp → Prop}
theorem st_cat1I {w : Int} (hS : SA L M H) (h1 : At L M (fL a [.int w])) (h2 : At L M (fL b (ms.map V.int))) (hl : 1 + ms.length ≤ 100000) (q : ∀ p H', SA L ((p, .lst ((w :: ms).map V.int)) :: M) H' → Q (.ref p) H') : rCat (.ref a) (.ref b) H Q :=
  st_catI (ns := [w]) hS h1 h2 hl q
theorem st_glst {k : Nat} {t : TGs} {R : L2.St → Hp → Prop} (hS : SA L M H) (h : At L M (fQ K p xs)) (hl : xs.length = k) (q : t xs σ H R) : gLst K k t (.ref p) σ H R := ⟨p, xs, rfl, h H hS, hl, q⟩
/-- xs[i] += e -/
theorem get_list {X : Cx} : PGet X (rIxL X.K) := by
  intro pins s σ H o i ov iv Q I ro ri h
  obtain ⟨p, xs, k, z, rfl, rfl, hq, he, q⟩ := h
  cases ro
  obtain ⟨t, rfl⟩ := ri
  obtain ⟨its, r, pl, hz⟩ := I.list hq
  obtain ⟨j, h1, h2, h3, h4, h5⟩ := atI_get he
  obtain ⟨w, ew, rw'⟩ := r.get h2
  have hl := r.length
  have hn := line63
  have fin : EP X pins σ Q w s := ⟨z, H, I, rw', q⟩
  by_cases h0 : 0 ≤ k
  · have hj : k.toNat = j := by
      rw [seqIndex_of h0 h5] at h1
      exact Option.some.inj h1
    exact wpAny_getItem_list pl.isList h0 (by omega) (by rw [hj]; simpa using ew) fin
  · have hj : (k + (its.toArray.size : Int)).toNat = j := by
      rw [seqIndex_neg (by omega) h4] at h1
      rw [List.size_toArray, ← hl]
      exact Option.some.inj h1
    exact wpAny_getItem_list_neg pl.isList (by omega) (by rw [List.size_toArray] <;> omega) (by omega) (by rw [hj]; simpa using ew) fin
theorem ps_augL {X : Cx} {o i e : Expr} {tip : TIp} {op : Operator} {tpos pos : Pos} (ho : PE X o to) (hi : PE X i ti) (he : PE X e te) (hp : PIp X op tip)
    (ha : ∀ ov iv new, augStore i ov iv new = (do holding [new, ov, iv] (setItem ov iv new); release [new, ov, iv] []; pure .next) := by intros; rfl) : PS X (.AugAssign (.Subscript o i tpos) op e pos) (tAugS to ti te (rIxL X.K) tip rSetL) :=
  ps_augS ho hi get_list he hp set_list ha
instance {tget : V → V → Hp → VK → Prop} {tip : TIp} {tset : TSet} : Go (tAugS to ti te tget tip tset D σ H) (to σ H fun o H1 => ti σ H1 fun i H2 => tget o i H2 fun x H3 => te σ H3 fun y H4 => tip x y H4 fun z H5 => tset o i z H5 fun H6 => D.nx σ H6) := ⟨fun q => q⟩
theorem st_setN {i w : Int} (hS : SA L M H) (d : Chg M p (.lst (ns.map V.int)) (.lst ((ns.set (i + ns.length).toNat w).map V.int)) M') (h0 : i < 0) (h1 : -(ns.length : Int) ≤ i) (q : ∀ H', SA L M' H' → N H') : rSetL (.ref p) (.int i) (.int w) H N := by
  refine ⟨p, _, i, (i + ns.length).toNat, rfl, rfl, hS.at d.mem, ?_, ?_⟩
  · unfold ixN
    rw [if_neg (by omega), List.length_map, if_pos h1]
  · rw [map_set]
    exact q _ (hS.set d)
/-- an item of a displayed list of numbers -/
theorem st_one {i : Int} (ms : List Int) (hS : SA L M H) (h : At L M (fQ K p xs)) (e : xs = ms.map V.int) (h0 : 0 ≤ i) (h1 : i < ms.length) (q : ∀ x, x ∈ ms → Q (.int x) H) : rIxL K (.ref p) (.int i) H Q :=
  st_menu (fun x => x ∈ ms) hS h e h0 h1 (fun _ h => h) q
/-- xs.insert(i, y); xs.pop(i); xs.clear() -/
def InsA (x : V) (vs : List V) (H : Hp) (Q : VK) : Prop := ∃ (l : Addr) (xs : List V) (i : Int) (y : V), x = .ref l ∧ vs = [.int i, y] ∧ H l = some (.lst xs) ∧ xs.length < sizeLine ∧ 0 ≤ i ∧ i < 2 ^ 63 ∧ Q .non (upd H l (.lst (xs.take i.toNat ++ [y] ++ xs.drop i.toNat)))
theorem mt_insA {X : Cx} : MtR X "list.insert" InsA := mt_insert
theorem st_insI {i w : Int} (hS : SA L M H) (d : Chg M p (.lst (ns.map V.int)) (.lst ((ns.take i.toNat ++ [w] ++ ns.drop i.toNat).map V.int)) M') (hz : ns.length < 100000) (h0 : 0 ≤ i) (h1 : i < 2 ^ 63) (q : ∀ H', SA L M' H' → Q .non H') : InsA (.ref p) [.int i, .int w] H Q :=
  ⟨p, _, i, .int w, rfl, rfl, hS.at d.mem, by rw [List.length_map]; exact Nat.lt_of_lt_of_le hz (by decide), h0, h1, by
    have e : (ns.map V.int).take i.toNat ++ [V.int w] ++ (ns.map V.int).drop i.toNat = (ns.take i.toNat ++ [w] ++ ns.drop i.toNat).map V.int := by
      rw [List.map_append, List.map_append, List.map_take, List.map_drop]
      rfl
    rw [e]
    exact q _ (hS.set d)⟩
theorem map_erase : ∀ (ns : List Int) (j : Nat), (ns.map V.int).eraseIdx j = (ns.eraseIdx j).map V.int
  | [], _ => rfl
  | n :: ns, 0 => rfl
  | n :: ns, j + 1 => by
    show V.int n :: (ns.map V.int).eraseIdx j = V.int n :: (ns.eraseIdx j).map V.int
    rw [map_erase ns j]
theorem st_popAtI {i : Int} (hS : SA L M H) (d : Chg M p (.lst (ns.map V.int)) (.lst ((ns.eraseIdx i.toNat).map V.int)) M') (h0 : 0 ≤ i) (h1 : i < ns.length) (hz : ns.length < 100000) (q : ∀ H', SA L M' H' → Q (.int (ns.getD i.toNat 0)) H') : rPopAt (.ref p) [.int i] H Q := by
  have hl : i.toNat < ns.length := by omega
  refine ⟨p, _, i, i.toNat, .int (ns.getD i.toNat 0), rfl, rfl, hS.at d.mem, by omega, by omega, ?_, ?_, ?_⟩
  · rw [List.length_map]
    exact seqIndex_of h0 (by omega)
  · rw [List.getElem?_map, List.getD_eq_getElem?_getD, List.getElem?_eq_getElem hl]
    rfl
  · rw [map_erase]
    exact q _ (hS.set d)
theorem st_clear {xs : List V} (hS : SA L M H) (d : Chg M p (.lst xs) (.lst []) M') (q : ∀ H', SA L M' H' → Q .non H') : rClear (.ref p) [] H Q := ⟨p, xs, rfl, rfl, hS.at d.mem, q _ (hS.set d)⟩
/-- [w] * n -/
theorem st_repI {n w : Int} (hS : SA L M H) (h : At L M (fL a [.int w])) (h0 : -100000 ≤ n) (h1 : n ≤ 100000) (q : ∀ p H', SA L ((p, .lst ((List.replicate n.toNat w).map V.int)) :: M) H' → Q (.ref p) H') : rRep (.ref a) (.int n) H Q := by
  refine ⟨a, n, _, rfl, rfl, h H hS, by omega, by omega, ?_, fun p hp => ?_⟩
  · have e : sizeLine ≥ 100000 := by decide
    simp only [List.length_cons, List.length_nil]
    omega
  · have e : (List.replicate n.toNat [V.int w]).flatten = (List.replicate n.toNat w).map V.int := by
      rw [List.map_replicate]
      induction n.toNat with
      | zero => rfl
      | succ k ih => rw [List.replicate_succ, List.flatten_cons, ih, List.replicate_succ]; rfl
    rw [e]
    exact q p _ (hS.newM hp)
theorem st_DG2e {kvs : List (Key × V)} {n : Int} {w : V} (hS : SA L M H) (h : At L M (fK p kvs)) (e : (dv kvs n).getD z = w) (q : Q w H) : DG2b p (.int n) z H Q := st_DG2b hS h (by rw [e]; exact q)
/-- x *= y, x >>= y -/
def ipC (C : Int → Int → Prop) (f : Int → Int → Int) : TIp := fun x y H Q => ∃ i j, x = .int i ∧ y = .int j ∧ C i j ∧ Q (.int (f i j)) H
theorem ip_mulW {X : Cx} : PIp X .Mult (ipC CMulX fun i j => i * j) := by
  intro pins s σ H x y v u Q I r1 r2 h
  obtain ⟨i, j, e1, e2, hc, q⟩ := h
  subst e1; subst e2
  obtain ⟨t, rfl⟩ := r1
  obtain ⟨t', rfl⟩ := r2
  rcases hc with h | h | h
  · exact imul_int ⟨.int _, H, I.tok _, ⟨_, rfl⟩, q⟩ (CMul.ok (.inl h))
  · exact imul_int ⟨.int _, H, I.tok _, ⟨_, rfl⟩, q⟩ (CMul.ok (.inr h))
  · exact imul_int ⟨.int _, H, I.tok _, ⟨_, rfl⟩, q⟩ h.ok
theorem ip_shr {X : Cx} : PIp X .RShift (ipC (fun _ j => 0 ≤ j) fun i j => i.fdiv (2 ^ j.toNat)) := by
  intro pins s σ H x y v u Q I r1 r2 h
  obtain ⟨i, j, e1, e2, hc, q⟩ := h
  subst e1; subst e2
  obtain ⟨t, rfl⟩ := r1
  obtain ⟨t', rfl⟩ := r2
  exact irshift_int hc ⟨.int _, H, I.tok _, ⟨_, rfl⟩, q⟩
theorem st_imul2 {i j : Int} (h0 : -18446744073709551616 < j) (h1 : j < 18446744073709551616) (q : Q (.int (i * j)) H) : ipC CMulX (fun i j => i * j) (.int i) (.int j) H Q := ⟨i, j, rfl, rfl, .inr (.inl ⟨h0, h1⟩), q⟩
end
end Sa

namespace Sa
open PySem PySem.Spec PyProof.Rows L2
/-! ### comprehensions over enumerate; of data; loops over pairs -/
def en2 (ns : List Int) : List (Int × Int) := (List.range ns.length).map fun (i : Nat) => ((i : Int), ns.getD i 0)
theorem en2_len (ns : List Int) : (en2 ns).length = ns.length := by unfold en2; rw [List.length_map, List.length_range]
theorem en2_at {ns : List Int} {i : Nat} {n : Int} (h : ns[i]? = some n) : (en2 ns)[i]? = some ((i : Int), n) := by
  have hl := (List.getElem?_eq_some_iff.mp h).1
  unfold en2
  rw [List.getElem?_map, List.getElem?_range hl]
  show some ((i : Int), ns.getD i 0) = _
  rw [List.getD_eq_getElem?_getD, h]
  rfl
theorem en2_mem {ns : List Int} {i n : Int} (h : (i, n) ∈ en2 ns) : 0 ≤ i ∧ i < ns.length ∧ n = ns.getD i.toNat 0 := by
  unfold en2 at h
  obtain ⟨k, hk, e⟩ := List.mem_map.mp h
  have hk2 := List.mem_range.mp hk
  cases e
  exact ⟨by omega, by omega, by rw [Int.toNat_natCast]⟩
theorem en2_snoc (ns : List Int) (x : Int) : en2 (ns ++ [x]) = en2 ns ++ [((ns.length : Int), x)] := by
  unfold en2
  rw [List.length_append, List.length_singleton, List.range_succ, List.map_append]
  congr 1
  · refine List.map_congr_left fun i hi => ?_
    rw [List.getD_eq_getElem?_getD, List.getElem?_append_left (List.mem_range.mp hi), List.getD_eq_getElem?_getD]
  · simp
section
variable {K : PySem.W.Frag} {L L' : List Fc} {M M' : List Cell} {H : Hp} {σ : L2.St} {Q : VK} {a p b : Addr} {xs ys : List V} {v x y z : V} {D : Ends} {te : TE} {t : TT} {ts tu : TS} {ns : List Int} {α : Type}
theorem lcA_turn {Dl : Addr} {σ2 : L2.St} {P : α → Bool} {F : α → Int} {is : List α} {i : Nat} {n : α} (hi : is[i]? = some n) (hl : is.length < 50000) (hS : SA L ((Dl, .lst ((((is.take i).filter P).map F).map V.int)) :: M) H)
    (ht : EvT t σ2 L ((Dl, .lst ((((is.take i).filter P).map F).map V.int)) :: M) (P n)) (he : P n = true → EvV te σ2 L ((Dl, .lst ((((is.take i).filter P).map F).map V.int)) :: M) (.int (F n))) :
    t σ2 H fun b H3 => if b = true then te σ2 H3 fun y H4 => ∃ acc, H4 Dl = some (.lst acc) ∧ acc.length < sizeLine ∧ SA L ((Dl, .lst ((((is.take (i + 1)).filter P).map F).map V.int)) :: M) (upd H4 Dl (.lst (acc ++ [y]))) else SA L ((Dl, .lst ((((is.take (i + 1)).filter P).map F).map V.int)) :: M) H3 := by
  refine ht H hS _ fun H3 hS3 => ?_
  have e1 : is.take (i + 1) = is.take i ++ [n] := take_at hi
  cases hf : P n with
  | true =>
    refine if_t ?_
    refine he hf H3 hS3 _ fun H4 hS4 => ⟨_, hS4.at List.mem_cons_self, ?_, ?_⟩
    · rw [List.length_map, List.length_map]
      have h1 := List.length_filter_le P (is.take i)
      rw [List.length_take] at h1
      exact Nat.lt_of_le_of_lt h1 (Nat.lt_of_le_of_lt (Nat.min_le_right _ _) (Nat.lt_of_lt_of_le hl (by decide)))
    · have e2 : (((is.take i).filter P).map F).map V.int ++ [V.int (F n)] = (((is.take (i + 1)).filter P).map F).map V.int := by
        rw [e1, List.filter_append, List.filter_cons, if_pos hf, List.map_append, List.map_append]
        rfl
      rw [e2]
      exact hS4.set .hd
  | false =>
    refine if_f ?_
    have e2 : (is.take (i + 1)).filter P = (is.take i).filter P := by
      rw [e1, List.filter_append, List.filter_cons, if_neg (by rw [hf]; decide)]
      simp
    rw [e2]
    exact hS3
/-- [F (i, n) for i, n in enumerate(ns) if P (i, n)] -/
theorem lcI_enum {j k : Nat} {vs : List Nat} (P : Int × Int → Bool) (F : Int × Int → Int) (hS : SA L M H) (hx : At L M (fQ K a (ns.map V.int))) (hn : ns.length < 50000) (hw : ∀ x y, wipe (((wipe σ vs).set j (some x)).set k (some y)) vs = wipe σ vs)
    (ht : ∀ (i n : Int) (Dl : Addr) acc, (i, n) ∈ en2 ns → EvT t (((wipe σ vs).set j (some (.int i))).set k (some (.int n))) L ((Dl, .lst acc) :: M) (P (i, n)))
    (he : ∀ (i n : Int) (Dl : Addr) acc, (i, n) ∈ en2 ns → P (i, n) = true → EvV te (((wipe σ vs).set j (some (.int i))).set k (some (.int n))) L ((Dl, .lst acc) :: M) (.int (F (i, n))))
    (q : ∀ Dl H', SA L ((Dl, .lst ((((en2 ns).filter P).map F).map V.int)) :: M) H' → Q (.ref Dl) H') : Lc (Ite K a) (gTup K 2 (gCons (gName j) (gCons (gName k) gNil))) t te vs σ Q H := fun Dl hD =>
  lc_it (walk_enum (xs := ns.map V.int)) (fun i H => SA L ((Dl, .lst (((((en2 ns).take i).filter P).map F).map V.int)) :: M) H) (hS.newM hD) (fun i H _ hp => hx H hp.dropM) (fun i x H H' hi hp hy => by
    obtain ⟨T, y1, y2, rfl, hT, rfl, e1, e2⟩ := hy
    cases e1
    obtain ⟨n, hn2, rfl⟩ := ints_at e2
    have hm := en2_at hn2
    refine ⟨T, [.int (i : Nat), .int n], rfl, SqT.of upd_same, rfl, _, _, rfl, _, _, rfl, rfl, ?_⟩
    exact ⟨hw _ _, lcA_turn hm (by rw [en2_len]; exact hn) (hp.ign hT) (ht _ _ Dl _ (List.mem_of_getElem? hm)) (he _ _ Dl _ (List.mem_of_getElem? hm))⟩) (fun H' hp => q Dl H' (by
    rw [List.length_map, List.take_of_length_le (by rw [en2_len]; exact Nat.le_refl _)] at hp
    exact hp))
/-- [F n for n in ns if P n], F n any value that is there -/
theorem lcV_turn {Dl : Addr} {σ2 : L2.St} {P : α → Bool} {F : α → V} {is : List α} {i : Nat} {n : α} (hi : is[i]? = some n) (hl : is.length < 50000) (hS : SA L ((Dl, .lst (((is.take i).filter P).map F)) :: M) H)
    (ht : EvT t σ2 L ((Dl, .lst (((is.take i).filter P).map F)) :: M) (P n)) (he : P n = true → EvV te σ2 L ((Dl, .lst (((is.take i).filter P).map F)) :: M) (F n)) :
    t σ2 H fun b H3 => if b = true then te σ2 H3 fun y H4 => ∃ acc, H4 Dl = some (.lst acc) ∧ acc.length < sizeLine ∧ SA L ((Dl, .lst (((is.take (i + 1)).filter P).map F)) :: M) (upd H4 Dl (.lst (acc ++ [y]))) else SA L ((Dl, .lst (((is.take (i + 1)).filter P).map F)) :: M) H3 := by
  refine ht H hS _ fun H3 hS3 => ?_
  have e1 : is.take (i + 1) = is.take i ++ [n] := take_at hi
  cases hf : P n with
  | true =>
    refine if_t ?_
    refine he hf H3 hS3 _ fun H4 hS4 => ⟨_, hS4.at List.mem_cons_self, ?_, ?_⟩
    · rw [List.length_map]
      have h1 := List.length_filter_le P (is.take i)
      rw [List.length_take] at h1
      exact Nat.lt_of_le_of_lt h1 (Nat.lt_of_le_of_lt (Nat.min_le_right _ _) (Nat.lt_of_lt_of_le hl (by decide)))
    · have e2 : ((is.take i).filter P).map F ++ [F n] = ((is.take (i + 1)).filter P).map F := by
        rw [e1, List.filter_append, List.filter_cons, if_pos hf, List.map_append]
        rfl
      rw [e2]
      exact hS4.set .hd
  | false =>
    refine if_f ?_
    have e2 : (is.take (i + 1)).filter P = (is.take i).filter P := by
      rw [e1, List.filter_append, List.filter_cons, if_neg (by rw [hf]; decide)]
      simp
    rw [e2]
    exact hS3
theorem lcV_list {j : Nat} {vs : List Nat} (P : Int → Bool) (F : Int → V) (hS : SA L M H) (hx : At L M (fQ K a (ns.map V.int))) (hn : ns.length < 50000) (hw : ∀ x, wipe ((wipe σ vs).set j (some x)) vs = wipe σ vs)
    (ht : ∀ (n : Int) (Dl : Addr) acc, n ∈ ns → EvT t ((wipe σ vs).set j (some (.int n))) L ((Dl, .lst acc) :: M) (P n))
    (he : ∀ (n : Int) (Dl : Addr) acc, n ∈ ns → P n = true → EvV te ((wipe σ vs).set j (some (.int n))) L ((Dl, .lst acc) :: M) (F n))
    (q : ∀ Dl H', SA L ((Dl, .lst ((ns.filter P).map F)) :: M) H' → Q (.ref Dl) H') : Lc (Itl K a) (gName j) t te vs σ Q H := fun Dl hD =>
  lc_it (walk_list (xs := ns.map V.int)) (fun i H => SA L ((Dl, .lst (((ns.take i).filter P).map F)) :: M) H) (hS.newM hD) (fun i H _ hp => hx H hp.dropM) (fun i x H H' hi hp hy => by
    obtain ⟨rfl, hx⟩ := hy
    obtain ⟨n, hn2, rfl⟩ := ints_at hx
    have hm := List.mem_of_getElem? hn2
    exact ⟨hw _, lcV_turn hn2 hn hp (ht n Dl _ hm) (he n Dl _ hm)⟩) (fun H' hp => q Dl H' (by
    rw [List.length_map, List.take_length] at hp
    exact hp))
/-- an item that tells a datum -/
def EvD (K : PySem.W.Frag) (te : TE) (σ : L2.St) (L : List Fc) (M : List Cell) (d : PyData) : Prop := ∀ H, SA L M H → ∀ Q : VK, (∀ v H', SA (fD K v d :: L) M H' → Q v H') → te σ H Q
def LD (K : PySem.W.Frag) (L : List Fc) (M : List Cell) (Dl : Addr) (ds : List PyData) (i : Nat) (H : Hp) : Prop := ∃ xs : List V, xs.length ≤ i ∧ SA (fDs K xs ds :: L) ((Dl, .lst xs) :: M) H
theorem lcD_turn {Dl : Addr} {σ2 : L2.St} {P : α → Bool} {dF : α → PyData} {is : List α} {i : Nat} {n : α} (hi : is[i]? = some n) (hl : is.length < 50000) (hx : LD K L M Dl (((is.take i).filter P).map dF) i H)
    (ht : ∀ (xs : List V) ds, EvT t σ2 (fDs K xs ds :: L) ((Dl, .lst xs) :: M) (P n)) (he : ∀ (xs : List V) ds, P n = true → EvD K te σ2 (fDs K xs ds :: L) ((Dl, .lst xs) :: M) (dF n)) :
    t σ2 H fun b H3 => if b = true then te σ2 H3 fun y H4 => ∃ acc, H4 Dl = some (.lst acc) ∧ acc.length < sizeLine ∧ LD K L M Dl (((is.take (i + 1)).filter P).map dF) (i + 1) (upd H4 Dl (.lst (acc ++ [y]))) else LD K L M Dl (((is.take (i + 1)).filter P).map dF) (i + 1) H3 := by
  obtain ⟨xs, hxl, hS⟩ := hx
  have hil := (List.getElem?_eq_some_iff.mp hi).1
  refine ht xs _ H hS _ fun H3 hS3 => ?_
  have e1 : is.take (i + 1) = is.take i ++ [n] := take_at hi
  cases hf : P n with
  | true =>
    refine if_t ?_
    refine he xs _ hf H3 hS3 _ fun y H4 hS4 => ⟨_, hS4.at List.mem_cons_self, Nat.lt_of_le_of_lt hxl (Nat.lt_of_lt_of_le (Nat.lt_trans hil hl) (by decide)), ?_⟩
    refine ⟨xs ++ [y], by rw [List.length_append]; exact Nat.succ_le_succ hxl, ?_⟩
    have e2 : ((is.take (i + 1)).filter P).map dF = ((is.take i).filter P).map dF ++ [dF n] := by
      rw [e1, List.filter_append, List.filter_cons, if_pos hf, List.map_append]
      rfl
    rw [e2]
    have h5 : SA (fDs K (xs ++ [y]) (((is.take i).filter P).map dF ++ [dF n]) :: fD K y (dF n) :: fDs K xs (((is.take i).filter P).map dF) :: L) ((Dl, .lst xs) :: M) H4 := hS4.ad fun F hF => dpa_app (hF _ (List.mem_cons_of_mem _ List.mem_cons_self)) (.cons (hF _ List.mem_cons_self) .nil)
    exact (h5.subs (.cons .hd (.tl (.tl (.tl .rest))))).set .hd
  | false =>
    refine if_f ?_
    have e2 : (is.take (i + 1)).filter P = (is.take i).filter P := by
      rw [e1, List.filter_append, List.filter_cons, if_neg (by rw [hf]; decide)]
      simp
    rw [e2]
    exact ⟨xs, Nat.le_succ_of_le hxl, hS3⟩
theorem ld_zero (hS : SA L M H) {Dl : Addr} (hD : H Dl = none) : LD K L M Dl [] 0 (upd H Dl (.lst [])) := ⟨[], Nat.le_refl _, (hS.newM hD).ad fun F hF => .nil⟩
theorem lcD_enum {j k : Nat} {vs : List Nat} (P : Int × Int → Bool) (dF : Int × Int → PyData) (hS : SA L M H) (hx : At L M (fQ K a (ns.map V.int))) (hn : ns.length < 50000) (hw : ∀ x y, wipe (((wipe σ vs).set j (some x)).set k (some y)) vs = wipe σ vs)
    (ht : ∀ (i n : Int) (Dl : Addr) xs ds, (i, n) ∈ en2 ns → EvT t (((wipe σ vs).set j (some (.int i))).set k (some (.int n))) (fDs K xs ds :: L) ((Dl, .lst xs) :: M) (P (i, n)))
    (he : ∀ (i n : Int) (Dl : Addr) xs ds, (i, n) ∈ en2 ns → P (i, n) = true → EvD K te (((wipe σ vs).set j (some (.int i))).set k (some (.int n))) (fDs K xs ds :: L) ((Dl, .lst xs) :: M) (dF (i, n)))
    (q : ∀ Dl xs H', SA (fDs K xs (((en2 ns).filter P).map dF) :: L) ((Dl, .lst xs) :: M) H' → Q (.ref Dl) H') : Lc (Ite K a) (gTup K 2 (gCons (gName j) (gCons (gName k) gNil))) t te vs σ Q H := fun Dl hD =>
  lc_it (walk_enum (xs := ns.map V.int)) (fun i H => LD K L M Dl ((((en2 ns).take i).filter P).map dF) i H) (ld_zero hS hD) (fun i H _ hp => by
    obtain ⟨xs, _, h⟩ := hp
    exact hx H h.drop.dropM) (fun i x H H' hi hp hy => by
    obtain ⟨T, y1, y2, rfl, hT, rfl, e1, e2⟩ := hy
    cases e1
    obtain ⟨n, hn2, rfl⟩ := ints_at e2
    have hm := en2_at hn2
    refine ⟨T, [.int (i : Nat), .int n], rfl, SqT.of upd_same, rfl, _, _, rfl, _, _, rfl, rfl, ?_⟩
    have hp2 : LD K L M Dl ((((en2 ns).take i).filter P).map dF) i (upd H T (.tup [.int (i : Nat), .int n])) := by
      obtain ⟨xs, h1, h2⟩ := hp
      exact ⟨xs, h1, h2.ign hT⟩
    exact ⟨hw _ _, lcD_turn hm (by rw [en2_len]; exact hn) hp2 (fun xs ds => ht _ _ Dl xs ds (List.mem_of_getElem? hm)) (fun xs ds => he _ _ Dl xs ds (List.mem_of_getElem? hm))⟩) (fun H' hp => by
    rw [List.length_map, List.take_of_length_le (by rw [en2_len]; exact Nat.le_refl _)] at hp
    obtain ⟨xs, _, h⟩ := hp
    exact q Dl xs H' h)
theorem lcD_list {j : Nat} {vs : List Nat} (P : Int → Bool) (dF : Int → PyData) (hS : SA L M H) (hx : At L M (fQ K a (ns.map V.int))) (hn : ns.length < 50000) (hw : ∀ x, wipe ((wipe σ vs).set j (some x)) vs = wipe σ vs)
    (ht : ∀ (n : Int) (Dl : Addr) xs ds, n ∈ ns → EvT t ((wipe σ vs).set j (some (.int n))) (fDs K xs ds :: L) ((Dl, .lst xs) :: M) (P n))
    (he : ∀ (n : Int) (Dl : Addr) xs ds, n ∈ ns → P n = true → EvD K te ((wipe σ vs).set j (some (.int n))) (fDs K xs ds :: L) ((Dl, .lst xs) :: M) (dF n))
    (q : ∀ Dl xs H', SA (fDs K xs ((ns.filter P).map dF) :: L) ((Dl, .lst xs) :: M) H' → Q (.ref Dl) H') : Lc (Itl K a) (gName j) t te vs σ Q H := fun Dl hD =>
  lc_it (walk_list (xs := ns.map V.int)) (fun i H => LD K L M Dl (((ns.take i).filter P).map dF) i H) (ld_zero hS hD) (fun i H _ hp => by
    obtain ⟨xs, _, h⟩ := hp
    exact hx H h.drop.dropM) (fun i x H H' hi hp hy => by
    obtain ⟨rfl, hx⟩ := hy
    obtain ⟨n, hn2, rfl⟩ := ints_at hx
    exact ⟨hw _, lcD_turn hn2 hn hp (fun xs ds => ht _ Dl xs ds (List.mem_of_getElem? hn2)) (fun xs ds => he _ Dl xs ds (List.mem_of_getElem? hn2))⟩) (fun H' hp => by
    rw [List.length_map, List.take_length] at hp
    obtain ⟨xs, _, h⟩ := hp
    exact q Dl xs H' h)
theorem lcD_rng {lo : Int} {m j : Nat} {vs : List Nat} (P : Int → Bool) (dF : Int → PyData) (hS : SA L M H) (hn : m < 50000) (hw : ∀ x, wipe ((wipe σ vs).set j (some x)) vs = wipe σ vs)
    (ht : ∀ (n : Int) (Dl : Addr) xs ds, lo ≤ n → n < lo + m → EvT t ((wipe σ vs).set j (some (.int n))) (fDs K xs ds :: L) ((Dl, .lst xs) :: M) (P n))
    (he : ∀ (n : Int) (Dl : Addr) xs ds, lo ≤ n → n < lo + m → P n = true → EvD K te ((wipe σ vs).set j (some (.int n))) (fDs K xs ds :: L) ((Dl, .lst xs) :: M) (dF n))
    (q : ∀ Dl xs H', SA (fDs K xs (((rg lo m).filter P).map dF) :: L) ((Dl, .lst xs) :: M) H' → Q (.ref Dl) H') : Lc (Itr lo m) (gName j) t te vs σ Q H := fun Dl hD =>
  lc_it (walk_range (lo := lo) (n := m)) (fun i H => LD K L M Dl ((((rg lo m).take i).filter P).map dF) i H) (ld_zero hS hD) (fun _ _ _ _ => trivial) (fun i x H H' hi hp hy => by
    obtain ⟨rfl, rfl⟩ := hy
    exact ⟨hw _, lcD_turn (rg_get hi) (by rw [rg_len]; exact hn) hp (fun xs ds => ht _ Dl xs ds (by omega) (by omega)) (fun xs ds => he _ Dl xs ds (by omega) (by omega))⟩) (fun H' hp => by
    rw [List.take_of_length_le (by rw [rg_len]; exact Nat.le_refl _)] at hp
    obtain ⟨xs, _, h⟩ := hp
    exact q Dl xs H' h)
/-- a new tuple of two, as a datum -/
theorem SA.tup2 {d1 d2 : PyData} (h : SA (fU p [x, y] :: L) M H) (h1 : ∀ H, Dp K H x d1) (h2 : ∀ H, Dp K H y d2) : SA (fD K (.ref p) (.tuple [d1, d2]) :: L) M H :=
  (h.ad (f := fD K (.ref p) (.tuple [d1, d2])) fun F hF => .tup (SqT.of (hF _ List.mem_cons_self)) (.cons (h1 F) (.cons (h2 F) .nil))).subs (.cons .hd (.tl (.tl .rest)))
def pairD (p : Int × Int) : PyData := .tuple [.int p.1, .int p.2]
/-- for u, v in a list of pairs -/
theorem lp_pairs {γ : Type} (s : Nat → γ → L2.St) (Lf : Nat → γ → List Fc) (Mf : Nat → γ → List Cell) (pr : Nat → γ → Prop) {j k : Nat} {ps : List α} {f g : α → PyData} (h0 : Iv s Lf Mf pr 0 σ H) (hG : ∀ (i : Nat) (c : γ), i ≤ ps.length → pr i c → At (Lf i c) (Mf i c) (fQ K a xs))
    (hD : ∀ (i : Nat) (c : γ), i ≤ ps.length → pr i c → At (Lf i c) (Mf i c) (fDs K xs (ps.map fun u => .tuple [f u, g u])))
    (hs : ∀ (i : Nat) (u : α) (x y : V) (c : γ) (H : Hp), ps[i]? = some u → pr i c → SA (Lf i c) (Mf i c) H → Dp K H x (f u) → Dp K H y (g u) → ts { D with nx := Iv s Lf Mf pr (i + 1), ct := Iv s Lf Mf pr (i + 1), bk := D.nx } (((s i c).set j (some x)).set k (some y)) H)
    (hd : ∀ (c : γ) (H : Hp), pr ps.length c → SA (Lf ps.length c) (Mf ps.length c) H → D.nx (s ps.length c) H) : Lp (Itl K a) (gTup K 2 (gCons (gName j) (gCons (gName k) gNil))) ts D σ H := by
  have hl : xs.length = ps.length := by
    obtain ⟨c, _, h1, h2⟩ := h0
    have e := dpa_len (hD 0 c (Nat.zero_le _) h1 _ h2)
    rw [List.length_map] at e
    exact e
  refine for_it (walk_list (xs := xs)) (Iv s Lf Mf pr) h0 (fun i σ H hi hp => ?_) (fun i x σ H H' hi hp hy => ?_) (fun σ H hp => ?_)
  · obtain ⟨c, rfl, h1, h2⟩ := hp
    exact hG i c (by omega) h1 H h2
  · obtain ⟨c, rfl, h1, h2⟩ := hp
    obtain ⟨rfl, hx⟩ := hy
    obtain ⟨d, e, h3⟩ := dpa_get (hD i c (by omega) h1 _ h2) hx
    rw [List.getElem?_map] at e
    cases hu : ps[i]? with
    | none => rw [hu] at e; cases e
    | some u =>
      rw [hu] at e
      cases e
      obtain ⟨T, x1, x2, rfl, hT, g1, g2⟩ := dp_tup2 h3
      exact ⟨T, [x1, x2], rfl, hT, rfl, _, _, rfl, _, _, rfl, rfl, hs i u x1 x2 c _ hu h1 h2 g1 g2⟩
  · obtain ⟨c, rfl, h1, h2⟩ := hp
    rw [hl] at h1 h2 ⊢
    exact hd c H h1 h2
end
/-! ### break, continue, ranges that go down -/
section
variable {K : PySem.W.Frag} {L : List Fc} {M : List Cell} {σ : L2.St} {H : Hp} {Q : VK} {D : Ends} {ts : TS} {tr : TA} {γ : Type}
instance {te : TE} {R : It → Hp → Prop} : Go (iTup K te σ H R) (te σ H fun x H1 => ∃ a, x = .ref a ∧ (∃ xs, SqT K H1 a xs) ∧ R (Itt K a) H1) := ⟨fun q => q⟩
theorem st_t1 {g : TG} {a : Addr} {xs : List V} (hS : SA L M H) (h : At L M (fT K a xs)) (q : Lp (Itt K a) g ts D σ H) : ∃ a', V.ref a = .ref a' ∧ (∃ xs, SqT K H a' xs) ∧ Lp (Itt K a') g ts D σ H := ⟨a, rfl, ⟨xs, h H hS⟩, q⟩
instance : Go (tBreak D σ H) (D.bk σ H) := ⟨fun q => q⟩
instance : Go (tCont D σ H) (D.ct σ H) := ⟨fun q => q⟩
instance {R : It → Hp → Prop} : Go (iRng3 tr σ H R) (tr σ H fun vs H1 => ∃ (i j c : Int) (n : Nat), vs = [.int i, .int j, .int c] ∧ RgC i j c n ∧ R (Itc i c n) H1) := ⟨fun q => q⟩
theorem st_r3 {g : TG} {n : Nat} {i j : Int} (h : (i - j).toNat = n) (hb : -(2 ^ 62) ≤ i ∧ i < 2 ^ 62 ∧ -(2 ^ 62) ≤ j ∧ j < 2 ^ 62) (q : Lp (Itc i (-1) n) g ts D σ H) : ∃ (i' j' c : Int) (n' : Nat), [V.int i, V.int j, V.int (-1)] = [.int i', .int j', .int c] ∧ RgC i' j' c n' ∧ Lp (Itc i' c n') g ts D σ H :=
  ⟨i, j, -1, n, rfl, by rw [← h]; exact RgC.neg hb.1 hb.2.1 hb.2.2.1 hb.2.2.2, q⟩
theorem lp_rngD (s : Nat → γ → L2.St) (Lf : Nat → γ → List Fc) (Mf : Nat → γ → List Cell) (pr : Nat → γ → Prop) {lo : Int} {n : Nat} {j : Nat} (h0 : Iv s Lf Mf pr 0 σ H)
    (hs : ∀ (i : Nat) (g : γ) (H : Hp), i < n → pr i g → SA (Lf i g) (Mf i g) H → ts { D with nx := Iv s Lf Mf pr (i + 1), ct := Iv s Lf Mf pr (i + 1), bk := D.nx } ((s i g).set j (some (.int (lo - (i : Int))))) H)
    (hd : ∀ (g : γ) (H : Hp), pr n g → SA (Lf n g) (Mf n g) H → D.nx (s n g) H) : Lp (Itc lo (-1) n) (gName j) ts D σ H :=
  for_it (walk_rangeC (lo := lo) (c := -1) (n := n)) (Iv s Lf Mf pr) h0 (fun _ _ _ _ _ => trivial) (fun i x σ H H' hi hp hy => by
    obtain ⟨g, rfl, h1, h2⟩ := hp
    obtain ⟨rfl, rfl⟩ := hy
    have e : lo + (i : Int) * (-1) = lo - (i : Int) := by omega
    show gName j (V.int (lo + (i : Int) * (-1))) _ _ _
    rw [e]
    exact hs i g H' hi h1 h2) (fun σ H hp => by
    obtain ⟨g, rfl, h1, h2⟩ := hp
    exact hd g H h1 h2)
end
/-- the other way round, any items -/
theorem st_revV {L : List Fc} {M M' : List Cell} {H : Hp} {p : Addr} {xs : List V} {Q : VK} (hS : SA L M H) (d : Chg M p (.lst xs) (.lst xs.reverse) M') (q : ∀ H', SA L M' H' → Q .non H') : rReverse (.ref p) [] H Q := ⟨p, xs, rfl, rfl, hS.at d.mem, q _ (hS.set d)⟩
/-- a list of data that is compared to [] -/
theorem st_ne0 {K : PySem.W.Frag} {L : List Fc} {M : List Cell} {H : Hp} {a b : Addr} {ds : List PyData} {Q : VK} (hS : SA L M H) (h1 : At L M (fD K (.ref a) (.list ds))) (h2 : At L M (fQ K b [])) (hs : SeqAt.shaped (.list ds) = true) (q : Q (.bl (!decide (ds = []))) H) : rNeD K (.ref a) (.ref b) H Q :=
  ⟨_, .list [], h1 H hS, .lst (h2 H hS) .nil, hs, rfl, by
    have e : PyData.eqv (.list ds) (.list []) = decide (ds = []) := by
      cases ds with
      | nil => rfl
      | cons d ds => rfl
    rw [e]
    exact q⟩
/-- [] -/
theorem At.nilL {L : List Fc} {M : List Cell} {a : Addr} (h : (a, HO.lst []) ∈ M) : At L M (fL a (([] : List Int).map V.int)) := fun H s => s.at h
theorem At.nilQ {K : PySem.W.Frag} {L : List Fc} {M : List Cell} {a : Addr} (h : (a, HO.lst []) ∈ M) : At L M (fQ K a (([] : List Int).map V.int)) := At.q (At.nilL h)
/-- data that are alike -/
theorem st_eqSame {K : PySem.W.Frag} {L : List Fc} {M : List Cell} {H : Hp} {x y : V} {d : PyData} {Q : VK} (hS : SA L M H) (h1 : At L M (fD K x d)) (h2 : At L M (fD K y d)) (hs : SeqAt.shaped d = true) (he : PyData.eqv d d = true) (q : Q (.bl true) H) : rEqD K x y H Q :=
  ⟨d, d, h1 H hS, h2 H hS, hs, hs, by rw [he]; exact q⟩
theorem eqv_il (ns : List Int) : PyData.eqv (.list (ns.map PyData.int)) (.list (ns.map PyData.int)) = true := by
  rw [show PyData.eqv (.list (ns.map PyData.int)) (.list (ns.map PyData.int)) = PyData.eqvAll (ns.map PyData.int) (ns.map PyData.int) from rfl, eqv_ints, decide_eq_true rfl]
theorem eqv_l2 (a b : List Int) : PyData.eqv (.list [.list (a.map PyData.int), .list (b.map PyData.int)]) (.list [.list (a.map PyData.int), .list (b.map PyData.int)]) = true := by
  show (PyData.eqv (.list (a.map PyData.int)) (.list (a.map PyData.int)) && (PyData.eqv (.list (b.map PyData.int)) (.list (b.map PyData.int)) && true)) = true
  rw [eqv_il, eqv_il]
  rfl
theorem shaped_l2 (a b : List Int) : SeqAt.shaped (.list [.list (a.map PyData.int), .list (b.map PyData.int)]) = true := by
  unfold SeqAt.shaped
  rw [show PyData.canLay0 (.list [.list (a.map PyData.int), .list (b.map PyData.int)]) = (PyData.canLayAll0 (a.map PyData.int) && (PyData.canLayAll0 (b.map PyData.int) && true)) from rfl, canAll_ints, canAll_ints,
    show PyData.depth (.list [.list (a.map PyData.int), .list (b.map PyData.int)]) = max (PyData.depthAll (a.map PyData.int) + 1) (max (PyData.depthAll (b.map PyData.int) + 1) 0) + 1 from rfl, depthAll_ints, depthAll_ints]
  rfl
/-! ### over a tuple -/
theorem lp_tup {K : PySem.W.Frag} {σ : L2.St} {H : Hp} {D : Ends} {ts : TS} {a : Addr} {xs : List V} {γ : Type} (s : Nat → γ → L2.St) (Lf : Nat → γ → List Fc) (Mf : Nat → γ → List Cell) (pr : Nat → γ → Prop) {j : Nat} (h0 : Iv s Lf Mf pr 0 σ H) (hG : ∀ (i : Nat) (g : γ), i ≤ xs.length → pr i g → At (Lf i g) (Mf i g) (fT K a xs))
    (hs : ∀ (i : Nat) (x : V) (g : γ) (H : Hp), xs[i]? = some x → pr i g → SA (Lf i g) (Mf i g) H → ts { D with nx := Iv s Lf Mf pr (i + 1), ct := Iv s Lf Mf pr (i + 1), bk := D.nx } ((s i g).set j (some x)) H)
    (hd : ∀ (g : γ) (H : Hp), pr xs.length g → SA (Lf xs.length g) (Mf xs.length g) H → D.nx (s xs.length g) H) : Lp (Itt K a) (gName j) ts D σ H :=
  for_it (walk_tup (xs := xs)) (Iv s Lf Mf pr) h0 (fun i σ H hi hp => by
    obtain ⟨g, rfl, h1, h2⟩ := hp
    exact hG i g hi h1 H h2) (fun i x σ H H' hi hp hy => by
    obtain ⟨g, rfl, h1, h2⟩ := hp
    obtain ⟨rfl, hx⟩ := hy
    exact hs i x g H' hx h1 h2) (fun σ H hp => by
    obtain ⟨g, rfl, h1, h2⟩ := hp
    exact hd g H h1 h2)
/-! ### x is True -/
def okB : V → Bool
  | .non => true
  | .bl _ => true
  | .int _ => true
  | .str _ => true
  | .ref _ => true
  | _ => false
def rIsBx : R2 := fun x y H Q => ∃ b, y = .bl b ∧ okB x = true ∧ Q (.bl (decide (x = .bl b))) H
theorem op_isBx {X : Cx} : OpR X (compareOp .Is) rIsBx := by
  intro pins s σ H x y v u Q I rx ry h
  obtain ⟨b, rfl, hx, q⟩ := h
  cases (show u = Value.bool b from ry)
  cases x with
  | bl a =>
    cases (show v = Value.bool a from rx)
    by_cases e : a = b
    · subst e
      exact wpAny_is_self rfl ⟨.bl true, H, I, rfl, by simpa using q⟩
    · exact wpAny_is_other rfl (fun z => e (Value.bool.inj z)) ⟨.bl false, H, I, rfl, by simpa [e] using q⟩
  | non =>
    cases (show v = Value.none from rx)
    exact wpAny_is_other rfl (fun z => by cases z) ⟨.bl false, H, I, rfl, by simpa using q⟩
  | int i =>
    obtain ⟨t, rfl⟩ := rx
    exact wpAny_is_other rfl (fun z => by cases z) ⟨.bl false, H, I, rfl, by simpa using q⟩
  | str i =>
    obtain ⟨t, rfl⟩ := rx
    exact wpAny_is_other rfl (fun z => by cases z) ⟨.bl false, H, I, rfl, by simpa using q⟩
  | ref a =>
    cases (show v = Value.ref a from rx)
    exact wpAny_is_other rfl (fun z => by cases z) ⟨.bl false, H, I, rfl, by simpa using q⟩
  | _ => cases hx
section
variable {H : Hp} {Q : VK} {b : Bool}
instance {a : Bool} : Go (rIsBx (.bl a) (.bl b) H Q) (Q (.bl (decide (a = b))) H) := ⟨fun q => ⟨b, rfl, rfl, by
  have e : (V.bl a = V.bl b) = (a = b) := by simp
  simp only [e]
  exact q⟩⟩
instance : Go (rIsBx .non (.bl b) H Q) (Q (.bl false) H) := ⟨fun q => ⟨b, rfl, rfl, by simpa using q⟩⟩
instance {i : Int} : Go (rIsBx (.int i) (.bl b) H Q) (Q (.bl false) H) := ⟨fun q => ⟨b, rfl, rfl, by simpa using q⟩⟩
instance {i : Str} : Go (rIsBx (.str i) (.bl b) H Q) (Q (.bl false) H) := ⟨fun q => ⟨b, rfl, rfl, by simpa using q⟩⟩
instance {i : Addr} : Go (rIsBx (.ref i) (.bl b) H Q) (Q (.bl false) H) := ⟨fun q => ⟨b, rfl, rfl, by simpa using q⟩⟩
end
end Sa

namespace Sa
open PySem PySem.Spec PyProof.Rows L2
/-! ### len(o), o of an own class with __len__ -/
def rLenO (C : Addr) (sp : Sp) (E : XK) : List V → Hp → VK → Prop := fun xs H Q => ∃ a dx fs, xs = [.ref a] ∧ H a = some (.ins C dx fs) ∧ sp [.ref a] H (fun v H' => ∃ n : Int, v = .int n ∧ 0 ≤ n ∧ n < 2 ^ 63 ∧ Q (.int n) H') E
theorem call_lenO {X : Cx} {CX : CXT} {n : Nat} {C f : Addr} {fd : FuncData} {ps : List Str} {sp : Sp} {E : XK} (F : FnOk X.prog X.w X.K X.mg X.base CX n f fd ps sp) (hm : Meth X.K C "__len__" f) (hb : L2.Binds X.K fd ps []) (hx : Passes CX X E) (hr : Room (n + 1) X.A) :
    CallR X (.builtin "len") (rLenO C sp E) := by
  intro pins s σ H xs us Q I r h
  obtain ⟨a, dx, fs, rfl, ha, hsp⟩ := h
  rw [Vals.ref1 r]
  obtain ⟨mA, J, _⟩ := ins_get I.hok ha
  obtain ⟨od, J, _⟩ := J.look
  obtain ⟨m, hF⟩ := I.fr
  refine PySem.W.len_K hF I.ok.mod.kin J hm.at_ hm.fn ?_
  have e0 : Env0 X.prog X.w X.K X.mg X.base X.A.in1 X.stack s H := by
    have e := I.env0
    exact ⟨e.frames, e.mod, e.bs, e.bsz, e.funs, e.frf, e.hok, e.bare⟩
  have hl := F.len _ _ _ _ hsp
  refine wpAny_call (codeAny_mono (F.run X.A.in1 X.stack s H ⟨[.ref a], []⟩ [.ref a] [.ref a] _ E hr.in1 e0 (by
    have b := hb s [.ref a] I.kIn (by simpa using hl)
    simpa using b) (.cons rfl .nil) hsp) fun r s' hq => ?_)
  cases r with
  | error e => exact hx pins σ H s e s' I hq
  | ok fl =>
    cases fl with
    | ret w =>
      obtain ⟨z, H', I', rz, k, ez, h0, h1, q⟩ := I.after hq
      subst ez
      obtain ⟨t, rfl⟩ := rz
      exact ⟨⟨h0, h1⟩, ⟨.int k, H', I'.tok _, ⟨_, rfl⟩, q⟩⟩
    | next => exact False.elim hq
    | brk => exact False.elim hq
    | cont => exact False.elim hq
theorem st_lenO {L : List Fc} {M : List Cell} {H : Hp} {Q : VK} {a C dx : Addr} {ns : List Str} {vs : List V} {sp : Sp} {E : XK} (hS : SA L M H) (h : At L M (fI a C dx (flds ns vs))) (q : sp [.ref a] H (fun v H' => ∃ n : Int, v = .int n ∧ 0 ≤ n ∧ n < 2 ^ 63 ∧ Q (.int n) H') E) : rLenO C sp E [.ref a] H Q := ⟨a, dx, _, rfl, h H hS, q⟩
end Sa

namespace Sa
open PySem PySem.Spec PyProof.Rows L2
/-! ### set(xs) of a list of numbers -/
section
variable {P : Program} {w : World} {A : Around} {E : Value → Shared → Prop} {s : Shared}
abbrev emptyO (w : World) : Obj := { cls := .type "set", dict := none, data := .set #[] 0 (.fresh 0 0 (!w.params.followText "set-order")) }
abbrev withSet (w : World) (s : Shared) : Shared := { s with heap := s.heap.push (emptyO w) }
/-- the set stands behind all that stood -/
def Filled (w : World) (s : Shared) (ns : List Int) (s2 : Shared) : Prop := ∃ (g : Heap) (t c : Nat), s2 = { s with heap := g, toks := t } ∧ SetR w g s.heap.objs.size (fun j => decide (j ∈ ns)) c ∧ c ≤ ns.length ∧ ∀ b o, s.heap.get? b = some o → g.get? b = some o
theorem set_of_list {l : Addr} {its : Array Value} (ns : List Int) {Q : Value → Shared → Prop} (quiet : A.handled = none) (stands : s.heap.IsList l its) (nums : IntsAre its.toList ns) (few : ns.length + 1 < scanBound)
    (next : ∀ s2, Filled w s ns s2 → Q (.ref s.heap.objs.size) s2) : wpAny (model P w) A (call (.type "set") [.ref l]) Q E s := by
  have len : its.size = ns.length := by
    have e := IntsAre.length nums
    rwa [Array.length_toList] at e
  obtain ⟨c0, t0, g0⟩ := F.called_set.mro
  have g1 := F.called_set.made
  have g2 := F.called_set.sub
  have g3 := F.called_set.notType
  have g4 := F.called_set.canCreate
  have g5 := F.typeCall_set_1 (.ref l)
  refine wpAny_call (codeAny_of_tree ?_)
  show wpAny _ _ (callAny (.type "set") _) _ _ _
  refine wpAny_pure ⟨Code.quiet_builtin _ (by decide +kernel), codeAny_builtin F.entry_type_call ?_⟩
  rw [Around.under_plain (weight_type_call_type "set" [.ref l] []) rfl]
  repeat (any_goals (first | assumption | wp_step | fail))
  refine codeAny_mono (code_set_led1 (.ref l) (E := E) (Q₁ := fun v s1 => v = .ref s.heap.objs.size ∧ s1 = withSet w s) ⟨rfl, rfl⟩) fun r s1 hr => ?_
  cases r with
  | error e => exact hr
  | ok fl =>
    cases fl with
    | ret v =>
      obtain ⟨rfl, rfl⟩ := hr
      have new : (withSet w s).heap.get? s.heap.objs.size = some (emptyO w) := Heap.get?_push_size _ rfl
      have isSet : Shared.TypeIs (withSet w s) (.ref s.heap.objs.size) "set" := ⟨_, new, rfl⟩
      have g6 := F.called_set.init.lookup
      have g7 := F.called_set.init.bind (.ref s.heap.objs.size)
      repeat (any_goals (first | assumption | wp_step | fail))
      refine codeAny_mono (codeAny_call_builtin (R := wants (fun r s2 => r = .none ∧ Filled w s ns s2) E) F.called_set.init.plain F.entry_set_init (check_set_init_1 isSet ?_)) fun r2 s2 hr2 => ?_
      · obtain ⟨o1, at1, cl1, n1, dt1⟩ := stands
        obtain ⟨a1, b1, d1, e1⟩ := o1
        simp only at cl1 dt1
        subst cl1 dt1
        have at2 : (withSet w s).heap.get? l = some { cls := .type "list", dict := b1, data := .seq its n1, slots := e1 } := Heap.get?_push_of_some _ at1
        have l1 : (withSet w s).heap.IsList l its := ⟨_, at2, rfl, n1, rfl⟩
        have g8 := F.sub_list_set
        have g9 := F.sub_list_frozenset
        have gx : (Value.type "list" == Value.type "dict") = false := by decide
        unfold Builtin.«set.__init__» noKeywords Builtin.Frozenset.updateFrom
        generalize hIter : pyIter = anIter
        wp_walk
        subst hIter
        refine wpAny_pyIter_list l1 (wpAny_bind (wpAny_runValue ?_))
        have below : l < s.heap.objs.size := Heap.lt_size at1
        have size1 : (withSet w s).heap.objs.size = s.heap.objs.size + 1 := Heap.size_push ..
        have quiet3 : A.in1.in1.in1.handled = none := by simp [quiet]
        have apart : l ≠ (withSet w s).heap.objs.size := fun z => by
          rw [size1] at z
          exact absurd z (Nat.ne_of_lt (Nat.lt_succ_of_lt below))
        have away : s.heap.objs.size ∉ [(withSet w s).heap.objs.size, l] := by
          intro z
          rcases List.mem_cons.mp z with z | z
          · rw [size1] at z
            exact absurd z (Nat.ne_of_lt (Nat.lt_succ_self _))
          · exact absurd (List.mem_singleton.mp z) (Nat.ne_of_gt below)
        have each : ∀ (i : Nat) (v : Value), its[i]? = some v → ∃ k t, ns[i]? = some k ∧ v = .int k t := fun i v hv => by
          have hi : i < ns.length := by
            rw [← len]
            exact (Array.getElem?_eq_some_iff.mp hv).1
          obtain ⟨t, e⟩ := PyProof.Rows.IntsAre.int_at nums i v (by rw [Array.getElem?_toList]; exact hv)
          rw [List.getD_eq_getElem?_getD, List.getElem?_eq_getElem hi] at e
          exact ⟨ns[i], t, List.getElem?_eq_getElem hi, e⟩
        refine set_update_ints ((Walks.list quiet3 _ l apart its).toS) s.heap.objs.size away ns len few each (its.size - 0) 0 _ (by omega) (Nat.zero_le _) ⟨⟨_, Heap.get?_push_size _ rfl, rfl, rfl⟩, (l1.push _)⟩ ?first ?last
        case first => exact ⟨0, Nat.le_refl 0, setR_new_at (Heap.get?_push_of_some _ new)⟩
        case last =>
          intro s3 c hm hc hR
          obtain ⟨h3, x3, y3, t3, z3⟩ := s3
          obtain rfl : x3 = s.gens := hm.gens
          obtain rfl : y3 = s.drawn := hm.drawn
          obtain rfl : z3 = s.os := hm.os
          show wpAny _ _ _ _ _ _
          refine wpAny_pure ?_
          show wpAny _ _ (ret Value.none) _ _ _
          refine wpAny_pure ⟨rfl, h3, t3, c, rfl, hR, by omega, fun b o e => ?_⟩
          have hb := Heap.lt_size e
          refine hm.heap b o (fun z => ?_) (Heap.get?_push_of_some _ (Heap.get?_push_of_some _ e))
          rcases List.mem_cons.mp z with z | z
          · exact absurd z (Nat.ne_of_lt hb)
          · have z2 : b = (withSet w s).heap.objs.size := List.mem_singleton.mp z
            rw [size1] at z2
            exact absurd z2 (Nat.ne_of_lt (Nat.lt_succ_of_lt hb))
      · cases r2 with
        | error e => exact hr2
        | ok fl2 =>
          cases fl2 with
          | ret r =>
            obtain ⟨rfl, fine⟩ := hr2
            have go := next _ fine
            repeat (any_goals (first | assumption | wp_step | fail))
            all_goals exact go
          | _ => exact hr2.elim
    | _ => exact hr.elim
end
theorem nd_le : ∀ {l ks : List Int}, l.Nodup → (∀ k ∈ l, k ∈ ks) → l.length ≤ ks.length
  | [], _, _, _ => Nat.zero_le _
  | a :: l, ks, hn, h => by
    obtain ⟨h1, h2⟩ := List.nodup_cons.mp hn
    have ha := h a List.mem_cons_self
    have := nd_le (l := l) (ks := ks.erase a) h2 fun k hk => by
      have hne : k ≠ a := fun z => h1 (z ▸ hk)
      exact (List.mem_erase_of_ne hne).mpr (h k (List.mem_cons_of_mem _ hk))
    have hl := List.length_erase_of_mem ha
    have hp := List.length_pos_of_mem ha
    show l.length + 1 ≤ _
    omega
theorem setR_le {w : World} {h : Heap} {a : Addr} {ns : List Int} {c : Nat} (R : SetR w h a (fun j => decide (j ∈ ns)) c) (ks : List Int) (hk : ∀ k ∈ ns, k ∈ ks) : c ≤ ks.length := by
  obtain ⟨o, es, ep, t, ho, hx, hd, g, nd, hm, hb, hf, hn, _⟩ := R
  have := nd_le nd fun k z => hk k (of_decide_eq_true ((hm k).mpr z))
  rw [List.length_map, Array.length_toList, hn] at this
  exact this
def rSetL (K : PySem.W.Frag) (w : World) : List V → Hp → VK → Prop := fun xs H Q => ∃ (l : Addr) (ns : List Int), xs = [.ref l] ∧ SqL K H l (ns.map V.int) ∧ ns.length ≤ 1000 ∧ ∀ a c, H a = none → c ≤ ns.length → (∀ ks : List Int, (∀ k ∈ ns, k ∈ ks) → c ≤ ks.length) → Q (.ref a) (upd H a (SetO w a (fun j => decide (j ∈ ns)) c))
theorem cr_setL {X : Cx} (hc : X.calm = true) : CallR X (.type "set") (rSetL X.K X.w) := by
  intro pins s σ H xs us Q I r h
  obtain ⟨l, ns, rfl, hq, hl, q⟩ := h
  rw [Vals.ref1 r]
  obtain ⟨its, rv, pl, hz⟩ := I.list hq
  refine set_of_list ns (I.ok.hd hc) pl.isList (ints_of_vals rv) (by unfold scanBound; omega) fun s2 ⟨g, t, c, e, R, hc2, kp⟩ => ?_
  subst e
  exact ⟨.ref _, upd H s.heap.objs.size (SetO X.w s.heap.objs.size (fun j => decide (j ∈ ns)) c), I.laid (t' := t) kp (Nat.le_refl _) (setO_new R), rfl, q _ c (I.hok.fresh (Nat.le_refl _)) hc2 (setR_le R)⟩
section
variable {K : PySem.W.Frag} {w : World} {L : List Fc} {M : List Cell} {H : Hp} {Q : VK} {a : Addr} {ns : List Int}
theorem st_mkset (hS : SA L M H) (h : At L M (fQ K a (ns.map V.int))) (hl : ns.length ≤ 63) (q : ∀ p c H', c < 64 → SA L ((p, SetO w p (fun j => decide (j ∈ ns)) c) :: M) H' → Q (.ref p) H') : rSetL K w [.ref a] H Q :=
  ⟨a, ns, rfl, h H hS, by omega, fun p c hp hc _ => q p c _ (by omega) (hS.newM hp)⟩
/-- all its numbers among few -/
theorem st_mksetK (hS : SA L M H) (h : At L M (fQ K a (ns.map V.int))) (hl : ns.length ≤ 1000) (ks : List Int) (hk : ∀ k ∈ ns, k ∈ ks) (hk2 : ks.length < 64) (q : ∀ p c H', c < 64 → SA L ((p, SetO w p (fun j => decide (j ∈ ns)) c) :: M) H' → Q (.ref p) H') : rSetL K w [.ref a] H Q :=
  ⟨a, ns, rfl, h H hS, hl, fun p c hp _ hc => q p c _ (Nat.lt_of_le_of_lt (hc ks hk) hk2) (hS.newM hp)⟩
theorem st_sortedSet {p : Addr} {c : Nat} (hS : SA L ((p, SetO w p (fun j => decide (j ∈ ns)) c) :: M) H) (hc : c < 64) (q : ∀ (ms : List Int) l H', ms.Pairwise (· < ·) → (∀ k : Int, k ∈ ms ↔ k ∈ ns) → SA L ((l, .lst (ms.map V.int)) :: M) H' → Q (.ref l) H') : rSortedSet w [.ref p] H Q :=
  ⟨p, _, c, rfl, hS.at List.mem_cons_self, hc, fun ms l h1 h2 _ hl => q ms l _ h1 (fun k => by rw [h2 k, decide_eq_true_eq]) ((hS.newM hl).perm (List.Perm.swap _ _ _)).dropM⟩
end
end Sa

namespace T
open PySem PySem.Spec PyProof.Rows L2
open Sa (SA At fL fQ fT fD fDs fK Fc Cell Iv EvT EvV)
def topS (i : Nat) : Stmt := PySem.Challenge.pw_staletally_k59_equal_boards.main.body.getD i (.Pass ⟨0, 0, 0, 0⟩)
abbrev s__wall : Stmt := topS 0
abbrev s_number_in_gap : Stmt := topS 6
abbrev s_check_clerk : Stmt := topS 11
abbrev s__law_bowl : Stmt := topS 14
abbrev s__law_dip : Stmt := topS 15
abbrev s__law_alike : Stmt := topS 16
abbrev s__law_cast : Stmt := topS 17
abbrev s__law_calls : Stmt := topS 18
abbrev s__law_other_calls : Stmt := topS 19
abbrev s__law_other_careful : Stmt := topS 20
abbrev s__law_judged : Stmt := topS 21
abbrev s__law_apart : Stmt := topS 22
abbrev s__law_right : Stmt := topS 23
abbrev s_law : Stmt := topS 24
abbrev s_Board___init__ : Stmt := inClass (topS 12) 0
abbrev s_Board___call__ : Stmt := inClass (topS 12) 1
abbrev s_Board__read : Stmt := inClass (topS 12) 2
abbrev s_Board__write : Stmt := inClass (topS 12) 3
abbrev s_Board__try_in_vain : Stmt := inClass (topS 12) 4
abbrev s_Board_now : Stmt := inClass (topS 12) 5
abbrev s_Board_writes : Stmt := inClass (topS 12) 7
abbrev s_Board_undo : Stmt := inClass (topS 12) 11
abbrev s_Board___eq__ : Stmt := inClass (topS 12) 13
/-- what the top has left -/
structure Top (K : PySem.W.Frag) (mg : Str → Option Value) : Prop where
  d_number_in_gap : ∃ f fd, Fun K "number_in_gap" "number_in_gap" s_number_in_gap f fd ∧ mg "number_in_gap" = some (.ref f)
  d_check_clerk : ∃ f fd, Fun K "check_clerk" "check_clerk" s_check_clerk f fd ∧ mg "check_clerk" = some (.ref f)
  d__law_bowl : ∃ f fd, Fun K "_law_bowl" "_law_bowl" s__law_bowl f fd ∧ mg "_law_bowl" = some (.ref f)
  d__law_dip : ∃ f fd, Fun K "_law_dip" "_law_dip" s__law_dip f fd ∧ mg "_law_dip" = some (.ref f)
  d__law_alike : ∃ f fd, Fun K "_law_alike" "_law_alike" s__law_alike f fd ∧ mg "_law_alike" = some (.ref f)
  d__law_cast : ∃ f fd, Fun K "_law_cast" "_law_cast" s__law_cast f fd ∧ mg "_law_cast" = some (.ref f)
  d__law_calls : ∃ f fd, Fun K "_law_calls" "_law_calls" s__law_calls f fd ∧ mg "_law_calls" = some (.ref f)
  d__law_other_calls : ∃ f fd, Fun K "_law_other_calls" "_law_other_calls" s__law_other_calls f fd ∧ mg "_law_other_calls" = some (.ref f)
  d__law_other_careful : ∃ f fd, Fun K "_law_other_careful" "_law_other_careful" s__law_other_careful f fd ∧ mg "_law_other_careful" = some (.ref f)
  d__law_judged : ∃ f fd, Fun K "_law_judged" "_law_judged" s__law_judged f fd ∧ mg "_law_judged" = some (.ref f)
  d__law_apart : ∃ f fd, Fun K "_law_apart" "_law_apart" s__law_apart f fd ∧ mg "_law_apart" = some (.ref f)
  d__law_right : ∃ f fd, Fun K "_law_right" "_law_right" s__law_right f fd ∧ mg "_law_right" = some (.ref f)
  d_law : ∃ f fd, Fun K "law" "law" s_law f fd ∧ mg "law" = some (.ref f)
  k_Board : Cls K (Sa.clsOf mg "Board")
  g_Board : mg "Board" = some (.ref (Sa.clsOf mg "Board"))
  a_Board__careful : NoAttr K (Sa.clsOf mg "Board") "_careful"
  a_Board__calls : NoAttr K (Sa.clsOf mg "Board") "_calls"
  a_Board__deeds : NoAttr K (Sa.clsOf mg "Board") "_deeds"
  a_Board__held : NoAttr K (Sa.clsOf mg "Board") "_held"
  a_Board__numbers : NoAttr K (Sa.clsOf mg "Board") "_numbers"
  a_Board__writers : NoAttr K (Sa.clsOf mg "Board") "_writers"
  a_Board__gaps : NoAttr K (Sa.clsOf mg "Board") "_gaps"
  d_Board___init__ : ∃ f fd, Fun K "__init__" "Board.__init__" s_Board___init__ f fd ∧ Mk K (Sa.clsOf mg "Board") f
  d_Board___call__ : ∃ f fd, Fun K "__call__" "Board.__call__" s_Board___call__ f fd ∧ StX.CallO K (Sa.clsOf mg "Board") f
  d_Board__read : ∃ f fd, Fun K "_read" "Board._read" s_Board__read f fd ∧ Meth K (Sa.clsOf mg "Board") "_read" f
  d_Board__write : ∃ f fd, Fun K "_write" "Board._write" s_Board__write f fd ∧ Meth K (Sa.clsOf mg "Board") "_write" f
  d_Board__try_in_vain : ∃ f fd, Fun K "_try_in_vain" "Board._try_in_vain" s_Board__try_in_vain f fd ∧ Meth K (Sa.clsOf mg "Board") "_try_in_vain" f
  d_Board_now : ∃ f fd, Fun K "now" "Board.now" s_Board_now f fd ∧ Meth K (Sa.clsOf mg "Board") "now" f
  d_Board_writes : ∃ f fd, Fun K "writes" "Board.writes" s_Board_writes f fd ∧ Meth K (Sa.clsOf mg "Board") "writes" f
  d_Board_undo : ∃ f fd, Fun K "undo" "Board.undo" s_Board_undo f fd ∧ Meth K (Sa.clsOf mg "Board") "undo" f
  d_Board___eq__ : ∃ f fd, Fun K "__eq__" "Board.__eq__" s_Board___eq__ f fd ∧ Meth K (Sa.clsOf mg "Board") "__eq__" f
  q_Board : PySem.W.findIn K (.ref (Sa.clsOf mg "Board")) "__class__" = some (some (.builtin "object.__class__")) ∧ PySem.W.specialIn K (.builtin "object.__class__") "__get__" = some (some (.builtin "getset_descriptor.__get__")) ∧ PySem.W.takesIn K (.builtin "object.__class__") = some true ∧ PySem.W.mroIn K (Sa.clsOf mg "Board") (.type "object") = some true
  t_Board : PySem.W.isClsIn K (Sa.clsOf mg "Board") = true ∧ PySem.W.typeIn K (.ref (Sa.clsOf mg "Board")) = some (.type "type")
  c_READ : ∃ u, mg "READ" = some u ∧ RelV (.str "read") u
  c_WRITE : ∃ u, mg "WRITE" = some u ∧ RelV (.str "write") u
  c_VAIN : ∃ u, mg "VAIN" = some u ∧ RelV (.str "vain") u
  z_max : mg "max" = none
  z_len : mg "len" = none
  z_int : mg "int" = none
  z_abs : mg "abs" = none
  z_isinstance : mg "isinstance" = none
  z_bool : mg "bool" = none
  z_str : mg "str" = none
  z_list : mg "list" = none
  z_zip : mg "zip" = none
  z_tuple : mg "tuple" = none
  z_range : mg "range" = none
  z_min : mg "min" = none
  z_set : mg "set" = none
  z_sorted : mg "sorted" = none
/-! ### possible lists -/
/-- the first write that cannot have read: from a greatest number and an index on -/
def fw : Int → Nat → List Int → Option Nat
  | _, _, [] => none
  | g, i, n :: ns => if 1 ≤ n ∧ n ≤ g + 1 then fw (max g n) (i + 1) ns else some i
def optV : Option Nat → V
  | none => .non
  | some i => .int (i : Nat)
theorem optV_non (o : Option Nat) : decide (optV o = V.non) = decide (o = none) := by
  cases o <;> simp [optV]
def top (ns : List Int) : Int := ns.foldl max 0
def Po (ns : List Int) : Prop := fw 0 0 ns = none
theorem fw_snoc (n : Int) : ∀ (ns : List Int) (g : Int) (i : Nat), fw g i (ns ++ [n]) = match fw g i ns with
    | some j => some j
    | none => if 1 ≤ n ∧ n ≤ ns.foldl max g + 1 then none else some (i + ns.length)
  | [], g, i => rfl
  | m :: ns, g, i => by
    show (if 1 ≤ m ∧ m ≤ g + 1 then fw (max g m) (i + 1) (ns ++ [n]) else some i) = match (if 1 ≤ m ∧ m ≤ g + 1 then fw (max g m) (i + 1) ns else some i) with
      | some j => some j
      | none => if 1 ≤ n ∧ n ≤ ns.foldl max (max g m) + 1 then none else some (i + (ns.length + 1))
    by_cases h : 1 ≤ m ∧ m ≤ g + 1
    · rw [if_pos h, if_pos h, fw_snoc n ns (max g m) (i + 1)]
      have e : i + 1 + ns.length = i + (ns.length + 1) := by omega
      rw [e]
    · rw [if_neg h, if_neg h]
theorem po_nil : Po [] := rfl
theorem po_snoc {ns : List Int} {n : Int} : Po (ns ++ [n]) ↔ Po ns ∧ 1 ≤ n ∧ n ≤ top ns + 1 := by
  unfold Po top
  rw [fw_snoc]
  cases h : fw 0 0 ns with
  | some j => simp
  | none =>
    by_cases h2 : 1 ≤ n ∧ n ≤ ns.foldl max 0 + 1
    · simp [if_pos h2, h2]
    · simp only [if_neg h2, true_and]
      constructor
      · intro h; cases h
      · intro h; exact absurd h h2
theorem top_nil : top [] = 0 := rfl
theorem top_snoc {ns : List Int} {n : Int} : top (ns ++ [n]) = max (top ns) n := by
  unfold top
  rw [List.foldl_append]
  rfl
/-- induction from the end -/
theorem snoc_ind {α : Type} {P : List α → Prop} (h0 : P []) (h1 : ∀ l x, P l → P (l ++ [x])) : ∀ l, P l := by
  intro l
  have key : ∀ n (l : List α), l.length = n → P l := by
    intro n
    induction n with
    | zero => intro l hl; rw [List.length_eq_zero_iff.mp hl]; exact h0
    | succ n ih =>
      intro l hl
      have hne : l ≠ [] := by intro e; rw [e] at hl; cases hl
      rw [← List.dropLast_concat_getLast hne]
      exact h1 _ _ (ih _ (by rw [List.length_dropLast, hl]; rfl))
  exact key l.length l rfl
theorem top_nonneg (ns : List Int) : 0 ≤ top ns := by
  induction ns using snoc_ind with
  | h0 => exact Int.le_refl 0
  | h1 l x ih => rw [top_snoc]; omega
theorem le_top {ns : List Int} {n : Int} (h : n ∈ ns) : n ≤ top ns := by
  induction ns using snoc_ind with
  | h0 => cases h
  | h1 l x ih =>
    rw [top_snoc]
    rcases List.mem_append.mp h with h | h
    · have := ih h; omega
    · have := List.mem_singleton.mp h; omega
theorem po_pos {ns : List Int} (h : Po ns) : ∀ n ∈ ns, 1 ≤ n := by
  induction ns using snoc_ind with
  | h0 => intro n hn; cases hn
  | h1 l x ih =>
    have h2 := po_snoc.mp h
    intro n hn
    rcases List.mem_append.mp hn with h3 | h3
    · exact ih h2.1 n h3
    · rw [List.mem_singleton.mp h3]; exact h2.2.1
theorem top_le_len {ns : List Int} (h : Po ns) : top ns ≤ ns.length := by
  induction ns using snoc_ind with
  | h0 => exact Int.le_refl 0
  | h1 l x ih =>
    have h2 := po_snoc.mp h
    have h3 := ih h2.1
    rw [top_snoc, List.length_append, List.length_singleton]
    omega
theorem po_has {ns : List Int} (h : Po ns) : ∀ v, 1 ≤ v → v ≤ top ns → v ∈ ns := by
  induction ns using snoc_ind with
  | h0 => intro v h1 h2; rw [top_nil] at h2; omega
  | h1 l x ih =>
    have h2 := po_snoc.mp h
    intro v hv1 hv2
    rw [top_snoc] at hv2
    by_cases hx : v = x
    · rw [hx]; exact List.mem_append_right _ (List.mem_singleton.mpr rfl)
    · exact List.mem_append_left _ (ih h2.1 v hv1 (by omega))
theorem po_pre {ns ms : List Int} (h : Po (ns ++ ms)) : Po ns := by
  induction ms using snoc_ind with
  | h0 => rw [List.append_nil] at h; exact h
  | h1 l x ih =>
    rw [← List.append_assoc] at h
    exact ih (po_snoc.mp h).1
theorem po_take {ns : List Int} (h : Po ns) (i : Nat) : Po (ns.take i) := by
  rw [← List.take_append_drop i ns] at h
  exact po_pre h
theorem top_mono {ns ms : List Int} : top ns ≤ top (ns ++ ms) := by
  induction ms using snoc_ind with
  | h0 => rw [List.append_nil]; exact Int.le_refl _
  | h1 l x ih => rw [← List.append_assoc, top_snoc]; omega
theorem getD_mem {ns : List Int} {i : Nat} (h : i < ns.length) : ns.getD i 0 ∈ ns := by
  rw [List.getD_eq_getElem?_getD, List.getElem?_eq_getElem h]
  exact List.getElem_mem h
theorem fw_some : ∀ (ns : List Int) (g : Int) (j k : Nat), fw g j ns = some k → ∃ i, k = j + i ∧ i < ns.length ∧ fw g j (ns.take i) = none ∧ ∀ bs, fw g j (ns.take (i + 1) ++ bs) = some k
  | [], g, j, k, h => by cases h
  | n :: ns, g, j, k, h => by
    have h1 : (if 1 ≤ n ∧ n ≤ g + 1 then fw (max g n) (j + 1) ns else some j) = some k := h
    by_cases hc : 1 ≤ n ∧ n ≤ g + 1
    · rw [if_pos hc] at h1
      obtain ⟨i, e1, e2, e3, e4⟩ := fw_some ns _ _ _ h1
      refine ⟨i + 1, by omega, by simp only [List.length_cons]; omega, ?_, fun bs => ?_⟩
      · show (if 1 ≤ n ∧ n ≤ g + 1 then fw (max g n) (j + 1) (ns.take i) else some j) = none
        rw [if_pos hc, e3]
      · show (if 1 ≤ n ∧ n ≤ g + 1 then fw (max g n) (j + 1) (ns.take (i + 1) ++ bs) else some j) = some k
        rw [if_pos hc, e4]
    · rw [if_neg hc] at h1
      cases h1
      refine ⟨0, by omega, by simp only [List.length_cons]; omega, rfl, fun bs => ?_⟩
      show (if 1 ≤ n ∧ n ≤ g + 1 then fw (max g n) (j + 1) ([] ++ bs) else some j) = some j
      rw [if_neg hc]
theorem fw_some0 {ns : List Int} {k : Nat} (h : fw 0 0 ns = some k) : k < ns.length ∧ fw 0 0 (ns.take k) = none ∧ ∀ bs, fw 0 0 (ns.take (k + 1) ++ bs) = some k := by
  obtain ⟨i, e1, e2, e3, e4⟩ := fw_some ns 0 0 k h
  obtain rfl : k = i := by omega
  exact ⟨e2, e3, e4⟩
theorem fw_take {ns : List Int} {k : Nat} (h : fw 0 0 ns = some k) (e : Nat) : fw 0 0 (ns.take e) = none ↔ e ≤ k := by
  obtain ⟨h1, h2, h3⟩ := fw_some0 h
  constructor
  · intro h4
    by_cases hk : e ≤ k
    · exact hk
    · have e1 : ns.take e = ns.take (k + 1) ++ (ns.take e).drop (k + 1) := by
        have e2 : (ns.take e).take (k + 1) = ns.take (k + 1) := by rw [List.take_take, Nat.min_eq_left (by omega)]
        rw [← e2, List.take_append_drop]
      rw [e1, h3] at h4
      cases h4
  · intro hk
    have e1 : ns.take e = (ns.take k).take e := by rw [List.take_take, Nat.min_eq_left hk]
    rw [e1]
    exact po_take h2 e
def optD : Option Nat → PyData
  | none => .none
  | some i => .int (i : Nat)
theorem At_opt {K : PySem.W.Frag} {L : List Fc} {M : List Cell} {o : Option Nat} : At L M (fD K (optV o) (optD o)) := by
  cases o with
  | none => exact Sa.At.non
  | some i => exact Sa.At.int
theorem depth_opt {o : Option Nat} {n : Nat} : (optD o).depth < n + 1 := by
  cases o with
  | none => exact Sa.depth_none
  | some i => exact Sa.depth_int
/-- what the board shows in a gap -/
def sh (ns : List Int) (g : Int) : Int := if g = 0 then 0 else ns.getD (g - 1).toNat 0
/-- the gaps in which a write may have read -/
def gp (ns : List Int) (i : Int) : List Int := (Sa.rg 0 (i + 1).toNat).filter fun g => decide (sh ns g = ns.getD i.toNat 0 - 1)
theorem gp_len (ns : List Int) (i : Int) : (gp ns i).length ≤ (i + 1).toNat := by
  unfold gp
  have h := List.length_filter_le (fun g => decide (sh ns g = ns.getD i.toNat 0 - 1)) (Sa.rg 0 (i + 1).toNat)
  rw [Sa.rg_len] at h
  exact h
theorem gp_mem {ns : List Int} {i x : Int} : x ∈ gp ns i ↔ (0 ≤ x ∧ x < 0 + ((i + 1).toNat : Int)) ∧ sh ns x = ns.getD i.toNat 0 - 1 := by
  unfold gp
  rw [List.mem_filter, Sa.mem_rg, decide_eq_true_iff]
/-! ### a board, as it stands -/
structure Bo where
  care : List Int
  calls : List Int
  deeds : List (Str × Int × Int)
  held : Int → Option (Int × Int)
  nums : List Int
  wrs : List Int
  gps : List Int
namespace Bo
def now (S : Bo) : Int := sh S.nums S.nums.length
def len (S : Bo) : Int := S.nums.length
def start (care : List Int) : Bo := ⟨care, [], [], fun _ => none, [], [], []⟩
def read (S : Bo) (c : Int) : Bo := { S with held := fun m => if m = c then some (S.now, S.len) else S.held m, calls := S.calls ++ [c], deeds := S.deeds ++ [(("read" : Str), S.now, S.len)] }
def write (S : Bo) (c n g : Int) : Bo := { S with held := fun m => if m = c then none else S.held m, nums := S.nums ++ [n + 1], wrs := S.wrs ++ [c], gps := S.gps ++ [g], calls := S.calls ++ [c], deeds := S.deeds ++ [(("write" : Str), n, g)] }
def vain (S : Bo) (c n g : Int) : Bo := { S with held := fun m => if m = c then none else S.held m, calls := S.calls ++ [c], deeds := S.deeds ++ [(("vain" : Str), n, g)] }
def call (S : Bo) (c : Int) : Bo := match S.held c with
  | none => S.read c
  | some (n, g) => if c ∈ S.care ∧ n ≠ S.now then S.vain c n g else S.write c n g
def told (S : Bo) (c : Int) : Option Int := match S.held c with
  | none => some S.now
  | some (n, g) => if c ∈ S.care ∧ n ≠ S.now then none else some (n + 1)
end Bo
def optI : Option Int → V
  | none => .non
  | some i => .int i
/-- where its parts stand -/
structure Ba where
  b : Addr
  dx : Addr
  ca : Addr
  cl : Addr
  de : Addr
  he : Addr
  nu : Addr
  wr : Addr
  ga : Addr
abbrev bnames : List Str := ["_careful", "_calls", "_deeds", "_held", "_numbers", "_writers", "_gaps"]
@[irreducible] def bcells (C : Addr) (R : Ba) (kvs : List (Key × V)) (des : List V) (S : Bo) : List Cell :=
  [(R.b, .ins C R.dx (Sa.flds bnames [.ref R.ca, .ref R.cl, .ref R.de, .ref R.he, .ref R.nu, .ref R.wr, .ref R.ga])), (R.ca, .lst (S.care.map V.int)), (R.cl, .lst (S.calls.map V.int)), (R.de, .lst des), (R.he, .dK kvs),
   (R.nu, .lst (S.nums.map V.int)), (R.wr, .lst (S.wrs.map V.int)), (R.ga, .lst (S.gps.map V.int))]
theorem bcells_eq (C : Addr) (R : Ba) (kvs : List (Key × V)) (des : List V) (S : Bo) : bcells C R kvs des S =
  [(R.b, .ins C R.dx (Sa.flds bnames [.ref R.ca, .ref R.cl, .ref R.de, .ref R.he, .ref R.nu, .ref R.wr, .ref R.ga])), (R.ca, .lst (S.care.map V.int)), (R.cl, .lst (S.calls.map V.int)), (R.de, .lst des), (R.he, .dK kvs),
   (R.nu, .lst (S.nums.map V.int)), (R.wr, .lst (S.wrs.map V.int)), (R.ga, .lst (S.gps.map V.int))] := by
  unfold bcells
  rfl
def heldD (h : Int → Option (Int × Int)) : Int → Option PyData := fun n => (h n).map fun p => .tuple [.int p.1, .int p.2]
def deedD (d : Str × Int × Int) : PyData := .tuple [.str d.1, .int d.2.1, .int d.2.2]
/-- what its dict and its deeds hold -/
def fB (K : PySem.W.Frag) (kvs : List (Key × V)) (des : List V) (S : Bo) : Fc := ⟨fun H => Sa.DkV K kvs (heldD S.held) H ∧ DpAll K H des (S.deeds.map deedD),
  fun H H' e h => ⟨(Sa.fDk K kvs (heldD S.held)).mono H H' e h.1, Sa.dpa_same e _ _ h.2⟩⟩
structure Bz (kvs : List (Key × V)) (des : List V) (S : Bo) (m : Nat) : Prop where
  z1 : kvs.length ≤ m
  z2 : des.length ≤ m
  z3 : S.calls.length ≤ m
  z4 : S.nums.length ≤ m
  z5 : S.wrs.length ≤ m
  z6 : S.gps.length ≤ m
/-- a call of a method, from S to S' -/
def BoT (K : PySem.W.Frag) (C : Addr) (R : Ba) (S S' : Bo) (v : V) (H : Hp) (Q : VK) : Prop := ∃ (L : List Fc) (M0 M : List Cell) (kvs : List (Key × V)) (des : List V) (m : Nat), SA L M0 H ∧ Sa.In1 (fB K kvs des S) L ∧ Sa.Grp M0 (bcells C R kvs des S) M ∧ Bz kvs des S m ∧ m < 10000 ∧
  ∀ (kvs' : List (Key × V)) (des' : List V) (H' : Hp), SA (fB K kvs' des' S' :: L) (bcells C R kvs' des' S' ++ M) H' → Bz kvs' des' S' (m + 1) → Q v H'
section
variable {K : PySem.W.Frag} {L : List Fc} {M : List Cell} {H : Hp} {kvs : List (Key × V)} {des : List V} {S : Bo} {c n g : Int} {p q : Addr}
theorem held_no (hS : SA L M H) (hB : Sa.In1 (fB K kvs des S) L) (e : S.held c = none) : Sa.dv kvs c = none := Sa.dk_none (hS.ask hB.at).1 (by unfold heldD; rw [e]; rfl)
theorem held_at (hS : SA L M H) (hB : Sa.In1 (fB K kvs des S) L) (e : S.held c = some (n, g)) : ∃ p, Sa.dv kvs c = some (.ref p) ∧ SA (fT K p [.int n, .int g] :: L) M H := by
  have e1 : heldD S.held c = some (.tuple [.int n, .int g]) := by unfold heldD; rw [e]; rfl
  obtain ⟨v, hv, hd⟩ := Sa.dk_some (hS.ask hB.at).1 e1
  obtain ⟨p, a, b, rfl, h1, h2, h3⟩ := Sa.dp_tup2 hd
  refine ⟨p, hv, hS.ad fun F hF => ?_⟩
  obtain ⟨v', hv', hd'⟩ := Sa.dk_some (hF _ hB.mem).1 e1
  obtain ⟨p', a', b', rfl, g1, g2, g3⟩ := Sa.dp_tup2 hd'
  rw [hv] at hv'
  cases hv'
  rw [Sa.dp_int g2, Sa.dp_int g3] at g1
  exact g1
/-- the facts behind a read, a write, a vain try -/
theorem fb_read (hS : SA L M H) (hB : Sa.In1 (fB K kvs des S) L) (h1 : Sa.In1 (Sa.fU p [.int S.now, .int S.len]) L) (h2 : Sa.In1 (Sa.fU q [.str "read", .int S.now, .int S.len]) L) : SA (fB K (Sa.dput kvs c (.ref p)) (des ++ [.ref q]) (S.read c) :: L) M H := hS.ad fun F hF => by
  have g1 : SqT K F p [.int S.now, .int S.len] := SqT.of (hF _ h1.mem)
  have g2 : SqT K F q [.str "read", .int S.now, .int S.len] := SqT.of (hF _ h2.mem)
  have gB : (fB K kvs des S).p F := hF _ hB.mem
  refine ⟨?_, ?_⟩
  · have z := Sa.dk_put (n := c) gB.1 (.tup g1 (.cons (.int _) (.cons (.int _) .nil)))
    have e : heldD (S.read c).held = fun m => if m = c then some (.tuple [.int S.now, .int S.len]) else heldD S.held m := by
      funext m
      unfold heldD Bo.read
      by_cases h : m = c
      · simp only [if_pos h]
        rfl
      · simp only [if_neg h]
    rw [e]
    exact z
  · show DpAll K F (des ++ [.ref q]) ((S.deeds ++ [(("read" : Str), S.now, S.len)]).map deedD)
    rw [List.map_append]
    exact Sa.dpa_app gB.2 (.cons (.tup g2 (.cons (.str _) (.cons (.int _) (.cons (.int _) .nil)))) .nil)
theorem fb_write (hS : SA L M H) (hB : Sa.In1 (fB K kvs des S) L) (h2 : Sa.In1 (Sa.fU q [.str "write", .int n, .int g]) L) : SA (fB K (Sa.ddrop kvs c) (des ++ [.ref q]) (S.write c n g) :: L) M H := hS.ad fun F hF => by
  have g2 : SqT K F q [.str "write", .int n, .int g] := SqT.of (hF _ h2.mem)
  have gB : (fB K kvs des S).p F := hF _ hB.mem
  refine ⟨?_, ?_⟩
  · have z := Sa.dk_drop (n := c) gB.1
    have e : heldD (S.write c n g).held = fun m => if m = c then none else heldD S.held m := by
      funext m
      unfold heldD Bo.write
      by_cases h : m = c
      · simp only [if_pos h]
        rfl
      · simp only [if_neg h]
    rw [e]
    exact z
  · show DpAll K F (des ++ [.ref q]) ((S.deeds ++ [(("write" : Str), n, g)]).map deedD)
    rw [List.map_append]
    exact Sa.dpa_app gB.2 (.cons (.tup g2 (.cons (.str _) (.cons (.int _) (.cons (.int _) .nil)))) .nil)
theorem fb_vain (hS : SA L M H) (hB : Sa.In1 (fB K kvs des S) L) (h2 : Sa.In1 (Sa.fU q [.str "vain", .int n, .int g]) L) : SA (fB K (Sa.ddrop kvs c) (des ++ [.ref q]) (S.vain c n g) :: L) M H := hS.ad fun F hF => by
  have g2 : SqT K F q [.str "vain", .int n, .int g] := SqT.of (hF _ h2.mem)
  have gB : (fB K kvs des S).p F := hF _ hB.mem
  refine ⟨?_, ?_⟩
  · have z := Sa.dk_drop (n := c) gB.1
    have e : heldD (S.vain c n g).held = fun m => if m = c then none else heldD S.held m := by
      funext m
      unfold heldD Bo.vain
      by_cases h : m = c
      · simp only [if_pos h]
        rfl
      · simp only [if_neg h]
    rw [e]
    exact z
  · show DpAll K F (des ++ [.ref q]) ((S.deeds ++ [(("vain" : Str), n, g)]).map deedD)
    rw [List.map_append]
    exact Sa.dpa_app gB.2 (.cons (.tup g2 (.cons (.str _) (.cons (.int _) (.cons (.int _) .nil)))) .nil)
theorem Bz.read {m : Nat} (z : Bz kvs des S m) {v : V} {q : V} : Bz (Sa.dput kvs c v) (des ++ [q]) (S.read c) (m + 1) := by
  have := Sa.dput_len kvs c v
  obtain ⟨z1, z2, z3, z4, z5, z6⟩ := z
  refine ⟨by omega, by simp; omega, by show (S.calls ++ [c]).length ≤ _; simp; omega, Nat.le_succ_of_le z4, Nat.le_succ_of_le z5, Nat.le_succ_of_le z6⟩
theorem Bz.write {m : Nat} (z : Bz kvs des S m) {q : V} : Bz (Sa.ddrop kvs c) (des ++ [q]) (S.write c n g) (m + 1) := by
  have := Sa.ddrop_len kvs c
  obtain ⟨z1, z2, z3, z4, z5, z6⟩ := z
  refine ⟨by omega, by simp; omega, by show (S.calls ++ [c]).length ≤ _; simp; omega, by show (S.nums ++ [n + 1]).length ≤ _; simp; omega, by show (S.wrs ++ [c]).length ≤ _; simp; omega, by show (S.gps ++ [g]).length ≤ _; simp; omega⟩
theorem Bz.vain {m : Nat} (z : Bz kvs des S m) {q : V} : Bz (Sa.ddrop kvs c) (des ++ [q]) (S.vain c n g) (m + 1) := by
  have := Sa.ddrop_len kvs c
  obtain ⟨z1, z2, z3, z4, z5, z6⟩ := z
  refine ⟨by omega, by simp; omega, by show (S.calls ++ [c]).length ≤ _; simp; omega, Nat.le_succ_of_le z4, Nat.le_succ_of_le z5, Nat.le_succ_of_le z6⟩
end
theorem bgrp {C : Addr} {R : Ba} {kvs : List (Key × V)} {des : List V} {S : Bo} {M : List Cell} : Sa.Grp ((R.b, .ins C R.dx (Sa.flds bnames [.ref R.ca, .ref R.cl, .ref R.de, .ref R.he, .ref R.nu, .ref R.wr, .ref R.ga])) :: (R.ca, .lst (S.care.map V.int)) :: (R.cl, .lst (S.calls.map V.int)) :: (R.de, .lst des) :: (R.he, .dK kvs) ::
   (R.nu, .lst (S.nums.map V.int)) :: (R.wr, .lst (S.wrs.map V.int)) :: (R.ga, .lst (S.gps.map V.int)) :: M) (bcells C R kvs des S) M := by
  have h : Sa.Grp (bcells C R kvs des S ++ M) (bcells C R kvs des S) M := .hd
  have e : bcells C R kvs des S ++ M = _ := congrArg (· ++ M) (bcells_eq C R kvs des S)
  rw [e] at h
  exact h
theorem at_board {L : List Fc} {M0 M : List Cell} {C : Addr} {R : Ba} {kvs : List (Key × V)} {des : List V} {S : Bo} (g : Sa.Grp M0 (bcells C R kvs des S) M) : At L M0 (Sa.fI R.b C R.dx (Sa.flds bnames [.ref R.ca, .ref R.cl, .ref R.de, .ref R.he, .ref R.nu, .ref R.wr, .ref R.ga])) := fun H h => by
  have h1 := h.grp g
  rw [bcells_eq] at h1
  exact h1.at List.mem_cons_self
theorem sh_last (ns : List Int) (x : Int) : sh (ns ++ [x]) ((ns ++ [x]).length : Nat) = x := by
  unfold sh
  rw [List.length_append, List.length_singleton, if_neg (by omega), show (((ns.length + 1 : Nat) : Int) - 1).toNat = ns.length by omega, List.getD_eq_getElem?_getD, List.getElem?_append_right (Nat.le_refl _), Nat.sub_self]
  rfl
theorem now_write (S : Bo) (c n g : Int) : (S.write c n g).now = n + 1 := sh_last S.nums (n + 1)
theorem now_read (S : Bo) (c : Int) : (S.read c).now = S.now := rfl
theorem now_vain (S : Bo) (c n g : Int) : (S.vain c n g).now = S.now := rfl
theorem now_start (l : List Int) : (Bo.start l).now = 0 := rfl
theorem call_none {S : Bo} {c : Int} (h : S.held c = none) : S.call c = S.read c ∧ S.told c = some S.now := by
  unfold Bo.call Bo.told
  rw [h]
  exact ⟨rfl, rfl⟩
theorem call_vain {S : Bo} {c n g : Int} (h : S.held c = some (n, g)) (h1 : c ∈ S.care ∧ n ≠ S.now) : S.call c = S.vain c n g ∧ S.told c = none := by
  unfold Bo.call Bo.told
  rw [h]
  exact ⟨if_pos h1, if_pos h1⟩
theorem call_write {S : Bo} {c n g : Int} (h : S.held c = some (n, g)) (h1 : ¬ (c ∈ S.care ∧ n ≠ S.now)) : S.call c = S.write c n g ∧ S.told c = some (n + 1) := by
  unfold Bo.call Bo.told
  rw [h]
  exact ⟨if_neg h1, if_neg h1⟩
theorem call_care (S : Bo) (c : Int) : (S.call c).care = S.care := by
  unfold Bo.call
  cases S.held c with
  | none => rfl
  | some ng =>
    dsimp only
    split <;> rfl
def optE : Option Int → PyData
  | none => .none
  | some i => .int i
theorem At_optE {K : PySem.W.Frag} {L : List Fc} {M : List Cell} : ∀ o : Option Int, At L M (fD K (optI o) (optE o))
  | none => Sa.At.non
  | some _ => Sa.At.int
theorem optE_depth : ∀ (o : Option Int) (n : Nat), (optE o).depth < n + 1
  | none, n => Sa.depth_none
  | some _, n => Sa.depth_int
theorem bc_back1 {L : List Fc} {M0 M : List Cell} {H : Hp} {C : Addr} {R : Ba} {kvs : List (Key × V)} {des : List V} {S : Bo} {c : Cell} (g : Sa.Grp M0 (bcells C R kvs des S) M) (h : SA L (c :: (R.b, .ins C R.dx (Sa.flds bnames [.ref R.ca, .ref R.cl, .ref R.de, .ref R.he, .ref R.nu, .ref R.wr, .ref R.ga])) :: (R.ca, .lst (S.care.map V.int)) :: (R.cl, .lst (S.calls.map V.int)) :: (R.de, .lst des) :: (R.he, .dK kvs) ::
   (R.nu, .lst (S.nums.map V.int)) :: (R.wr, .lst (S.wrs.map V.int)) :: (R.ga, .lst (S.gps.map V.int)) :: M) H) : SA L (c :: M0) H := by
  have p := g.perm
  rw [bcells_eq] at p
  exact h.perm (List.Perm.cons _ p.symm)
theorem bc_back {L : List Fc} {M0 M : List Cell} {H : Hp} {C : Addr} {R : Ba} {kvs : List (Key × V)} {des : List V} {S : Bo} (g : Sa.Grp M0 (bcells C R kvs des S) M) (h : SA L ((R.b, .ins C R.dx (Sa.flds bnames [.ref R.ca, .ref R.cl, .ref R.de, .ref R.he, .ref R.nu, .ref R.wr, .ref R.ga])) :: (R.ca, .lst (S.care.map V.int)) :: (R.cl, .lst (S.calls.map V.int)) :: (R.de, .lst des) :: (R.he, .dK kvs) ::
   (R.nu, .lst (S.nums.map V.int)) :: (R.wr, .lst (S.wrs.map V.int)) :: (R.ga, .lst (S.gps.map V.int)) :: M) H) : SA L M0 H := by
  have p := g.perm
  rw [bcells_eq] at p
  exact h.perm p.symm
/-! ### == by an own __eq__ -/
section
variable {X : Cx} {n : Nat}
def rEqO (C : Addr) (sp : Sp) (E : XK) : R2 := fun x y H Q => ∃ a b dx dy fs gs, x = .ref a ∧ y = .ref b ∧ H a = some (.ins C dx fs) ∧ H b = some (.ins C dy gs) ∧ sp [.ref a, .ref b] H (fun v H' => ∃ r, v = .bl r ∧ Q (.bl r) H') E
theorem op_eqO {CX : CXT} {C f : Addr} {fd : FuncData} {ps : List Str} {sp : Sp} {E : XK} (F : FnOk X.prog X.w X.K X.mg X.base CX n f fd ps sp)
    (hr : Room n X.A) (hs : PySem.W.findIn X.K (.ref C) "__eq__" = some (some (.ref f))) (hf : PySem.W.isFn X.K (.ref f) = true) (hb : L2.Binds X.K fd ps []) (hx : Passes CX X E) : OpR X (compareOp .Eq) (rEqO C sp E) := by
  intro pins s σ H x y u v Q I rx ry d
  obtain ⟨a, b, dx, dy, fs, gs, rfl, rfl, ha, hb', hsp⟩ := d
  cases rx
  cases ry
  obtain ⟨mA, J, _⟩ := ins_get I.hok ha
  obtain ⟨mB, J', _⟩ := ins_get I.hok hb'
  obtain ⟨od, J, _⟩ := J.look
  obtain ⟨od', J', _⟩ := J'.look
  obtain ⟨m, hF⟩ := I.fr
  show wpAny (model X.prog X.w) X.A (richCompare .Eq (.ref a) (.ref b)) (EP X pins σ Q) X.xe s
  refine PySem.W.cmp_K (op := .Eq) (tb := .ref C) hr.units0 hF I.ok.mod.kin J J'.type (by simp [PySem.W.notFirst]) hs hf ?_
  have hl := F.len _ _ _ _ hsp
  have r2 : Vals [V.ref a, V.ref b] [Value.ref a, Value.ref b] := .cons rfl (.cons rfl .nil)
  refine wpAny_call (codeAny_mono (F.run X.A X.stack s H ⟨[.ref a, .ref b], []⟩ [.ref a, .ref b] [.ref a, .ref b] _ E hr I.env0 (by
    have := hb s [.ref a, .ref b] I.kIn (by simpa using hl)
    simpa using this) r2 hsp) fun r s' hq => ?_)
  cases r with
  | error e => exact hx pins σ H s e s' I hq
  | ok fl =>
    cases fl with
    | ret w =>
      obtain ⟨z, H', I', rz, r, ez, q⟩ := I.after hq
      subst ez
      cases rz
      exact ⟨.bl r, H', I', rfl, q⟩
    | next => exact False.elim hq
    | brk => exact False.elim hq
    | cont => exact False.elim hq
end
/-- a source of draws: what is left of a great cell, a mixed number, a count -/
def Jar (o : HO) (k : Int) : Prop := ∃ c m : Int, o = .lst [.int c, .int m, .int k] ∧ 0 ≤ c ∧ 0 ≤ m ∧ m < 10000000000000000000000000000000 ∧ 0 ≤ k
def In41 (ns : List Int) : Prop := ∀ n ∈ ns, 0 ≤ n ∧ n ≤ 40
theorem in41_add {ns : List Int} {r : Int} (h : In41 ns) (h0 : 0 ≤ r) (h1 : r ≤ 40) : In41 (ns ++ [r]) := fun n hn => by
  rcases List.mem_append.mp hn with hn | hn
  · exact h n hn
  · rw [List.mem_singleton.mp hn]
    exact ⟨h0, h1⟩
theorem in41_get {ns : List Int} {i : Int} (h : In41 ns) (h0 : 0 ≤ i) (h1 : i < ns.length) : 0 ≤ ns.getD i.toNat 0 ∧ ns.getD i.toNat 0 ≤ 40 := by
  have hl : i.toNat < ns.length := by omega
  rw [List.getD_eq_getElem?_getD, List.getElem?_eq_getElem hl]
  exact h _ (List.getElem_mem hl)
theorem kit_self {K : PySem.W.Frag} {C : Addr} : PySem.W.kitOne K (.ref C) (.ref C) = some true := by
  show (if (Value.ref C == Value.ref C) = true then some true else PySem.W.kitCls K (.ref C) (.ref C)) = some true
  rw [if_pos (by simp)]
theorem at_ca {L : List Fc} {M0 M : List Cell} {C : Addr} {R : Ba} {kvs : List (Key × V)} {des : List V} {S : Bo} (g : Sa.Grp M0 (bcells C R kvs des S) M) : At L M0 (fL R.ca (S.care.map V.int)) := fun H h => by
  have h1 := h.grp g
  rw [bcells_eq] at h1
  exact h1.at (by simp)
theorem at_cl {L : List Fc} {M0 M : List Cell} {C : Addr} {R : Ba} {kvs : List (Key × V)} {des : List V} {S : Bo} (g : Sa.Grp M0 (bcells C R kvs des S) M) : At L M0 (fL R.cl (S.calls.map V.int)) := fun H h => by
  have h1 := h.grp g
  rw [bcells_eq] at h1
  exact h1.at (by simp)
theorem asc_eq : ∀ {a b : List Int}, a.Pairwise (· < ·) → b.Pairwise (· < ·) → (∀ x, x ∈ a ↔ x ∈ b) → a = b
  | [], [], _, _, _ => rfl
  | [], y :: b, _, _, h => nomatch (h y).mpr List.mem_cons_self
  | x :: a, [], _, _, h => nomatch (h x).mp List.mem_cons_self
  | x :: a, y :: b, ha, hb, h => by
    obtain ⟨ha1, ha2⟩ := List.pairwise_cons.mp ha
    obtain ⟨hb1, hb2⟩ := List.pairwise_cons.mp hb
    have e : x = y := by
      have h1 := List.mem_cons.mp ((h x).mp List.mem_cons_self)
      have h2 := List.mem_cons.mp ((h y).mpr List.mem_cons_self)
      rcases h1 with h1 | h1
      · exact h1
      · rcases h2 with h2 | h2
        · exact h2.symm
        · have := ha1 y h2
          have := hb1 x h1
          omega
    subst e
    rw [asc_eq ha2 hb2 fun z => ?_]
    constructor
    · intro hz
      have := ha1 z hz
      rcases List.mem_cons.mp ((h z).mp (List.mem_cons_of_mem _ hz)) with h1 | h1
      · omega
      · exact h1
    · intro hz
      have := hb1 z hz
      rcases List.mem_cons.mp ((h z).mpr (List.mem_cons_of_mem _ hz)) with h1 | h1
      · omega
      · exact h1
theorem in41_app {a b : List Int} (ha : In41 a) (hb : In41 b) : In41 (a ++ b) := fun n hn => (List.mem_append.mp hn).elim (ha n) (hb n)
theorem in41_take {a : List Int} (ha : In41 a) (m : Nat) : In41 (a.take m) := fun n hn => ha n (List.mem_of_mem_take hn)
/-! ### an own == asked with anything -/
theorem kitClsA {K : PySem.W.Frag} {C : Addr} {t : Value} {b : Bool} (ic : PySem.W.isClsIn K C = true) (ty : PySem.W.typeIn K (.ref C) = some (.type "type")) (s : PySem.W.subIn K t (.ref C) = some b) : PySem.W.kitCls K t (.ref C) = some b := by
  unfold PySem.W.kitCls
  show (if ((PySem.W.clsIn K C).isSome && PySem.W.typeIn K (.ref C) == some (.type "type")) = true then PySem.W.subIn K t (.ref C) else none) = some b
  rw [ty]
  have h1 : (PySem.W.clsIn K C).isSome = true := ic
  rw [h1, if_pos (by rfl)]
  exact s
theorem sub_any {K : PySem.W.Frag} {C : Addr} (d : PyData) : PySem.W.subIn K (.type (Sa.tyN d)) (.ref C) = some false := by
  cases d <;> rfl
theorem kit_any {K : PySem.W.Frag} {C : Addr} (ic : PySem.W.isClsIn K C = true) (ty : PySem.W.typeIn K (.ref C) = some (.type "type")) (d : PyData) : PySem.W.kitOne K (.type (Sa.tyN d)) (.ref C) = some false := by
  show (if (Value.type (Sa.tyN d) == Value.ref C) = true then some true else PySem.W.kitCls K (.type (Sa.tyN d)) (.ref C)) = some false
  rw [kitClsA ic ty (sub_any d)]
  exact if_neg (fun z => by cases z)
def rEqA (C : Addr) (sp : Sp) (E : XK) (K : PySem.W.Frag) : R2 := fun x y H Q => ∃ a dx fs d, x = .ref a ∧ H a = some (.ins C dx fs) ∧ Dp K H y d ∧ sp [.ref a, y] H (fun v H' => ∃ r, v = .bl r ∧ Q (.bl r) H') E
section
variable {X : Cx} {n : Nat}
theorem op_eqA {CX : CXT} {C f : Addr} {fd : FuncData} {ps : List Str} {sp : Sp} {E : XK} (F : FnOk X.prog X.w X.K X.mg X.base CX n f fd ps sp)
    (hr : Room n X.A) (hs : PySem.W.findIn X.K (.ref C) "__eq__" = some (some (.ref f))) (hf : PySem.W.isFn X.K (.ref f) = true) (hb : L2.Binds X.K fd ps []) (hx : Passes CX X E) : OpR X (compareOp .Eq) (rEqA C sp E X.K) := by
  intro pins s σ H x y u v Q I rx ry h
  obtain ⟨a, dx, fs, d, rfl, ha, hd, hsp⟩ := h
  cases rx
  obtain ⟨mA, J, _⟩ := ins_get I.hok ha
  obtain ⟨od, J, _⟩ := J.look
  obtain ⟨m, hF⟩ := I.fr
  obtain ⟨P, Z, hp, _⟩ := kit_of I ry (Sa.ty_of hd)
  show wpAny (model X.prog X.w) X.A (richCompare .Eq (.ref a) v) (EP X pins σ Q) X.xe s
  refine PySem.W.cmp_K (op := .Eq) (tb := .type (Sa.tyN d)) hr.units0 hF I.ok.mod.kin J (Z.ty _ _ I.kIn hp) (by unfold PySem.W.notFirst; rw [sub_any d]; simp) hs hf ?_
  have hl := F.len _ _ _ _ hsp
  have r2 : Vals [V.ref a, y] [Value.ref a, v] := .cons rfl (.cons ry .nil)
  refine wpAny_call (codeAny_mono (F.run X.A X.stack s H ⟨[.ref a, v], []⟩ [.ref a, v] [.ref a, y] _ E hr I.env0 (by
    have := hb s [.ref a, v] I.kIn (by simpa using hl)
    simpa using this) r2 hsp) fun r s' hq => ?_)
  cases r with
  | error e => exact hx pins σ H s e s' I hq
  | ok fl =>
    cases fl with
    | ret w =>
      obtain ⟨z, H', I', rz, r, ez, q⟩ := I.after hq
      subst ez
      cases rz
      exact ⟨.bl r, H', I', rfl, q⟩
    | next => exact False.elim hq
    | brk => exact False.elim hq
    | cont => exact False.elim hq
end
theorem alike_all : ∀ ds es : List PyData, ds.length = es.length → (∀ (i : Nat) (d e : PyData), ds[i]? = some d → es[i]? = some e → d = e) → ds = es := fun ds es hl h => by
  apply List.ext_getElem?
  intro i
  cases h1 : ds[i]? with
  | none =>
    have h2 := List.getElem?_eq_none_iff.mp h1
    exact (List.getElem?_eq_none (by omega)).symm
  | some d =>
    have h2 := (List.getElem?_eq_some_iff.mp h1).1
    have h3 : es[i]? = some (es[i]'(by omega)) := List.getElem?_eq_getElem (by omega)
    rw [h3, h i d _ h1 h3]
theorem depth_mem : ∀ {ds : List PyData} {i : Nat} {d : PyData}, ds[i]? = some d → d.depth ≤ PyData.depthAll ds
  | [], _, _, h => by simp at h
  | x :: xs, 0, d, h => by
    simp at h
    subst h
    exact Nat.le_max_left _ _
  | x :: xs, i + 1, d, h => Nat.le_trans (depth_mem (ds := xs) (i := i) (by simpa using h)) (Nat.le_max_right _ _)
mutual
def wid : PyData → Nat
  | .list ds => widAll ds
  | .tuple ds => widAll ds
  | _ => 0
def widAll : List PyData → Nat
  | [] => 0
  | d :: ds => wid d + 1 + widAll ds
end
theorem wid_len : ∀ ds : List PyData, ds.length ≤ widAll ds
  | [] => Nat.zero_le _
  | d :: ds => by
    have h := wid_len ds
    simp only [widAll, List.length_cons]
    omega
theorem wid_mem : ∀ {ds : List PyData} {i : Nat} {d : PyData}, ds[i]? = some d → wid d < widAll ds
  | [], _, _, h => by simp at h
  | x :: xs, 0, d, h => by
    simp at h
    subst h
    simp only [widAll]
    omega
  | x :: xs, i + 1, d, h => by
    have h2 := wid_mem (ds := xs) (i := i) (d := d) (by simpa using h)
    simp only [widAll]
    omega
mutual
def noTxt : PyData → Bool
  | .str _ => false
  | .list ds => noTxtAll ds
  | .tuple ds => noTxtAll ds
  | _ => true
def noTxtAll : List PyData → Bool
  | [] => true
  | d :: ds => noTxt d && noTxtAll ds
end
theorem noTxt_mem : ∀ {ds : List PyData} {i : Nat} {d : PyData}, ds[i]? = some d → noTxtAll ds = true → noTxt d = true
  | [], _, _, h, _ => by simp at h
  | x :: xs, 0, d, h, h2 => by
    simp at h
    subst h
    simp only [noTxtAll, Bool.and_eq_true] at h2
    exact h2.1
  | x :: xs, i + 1, d, h, h2 => by
    simp only [noTxtAll, Bool.and_eq_true] at h2
    exact noTxt_mem (ds := xs) (i := i) (by simpa using h) h2.2
theorem wid_ints : ∀ ns : List Int, widAll (ns.map PyData.int) = ns.length
  | [] => rfl
  | n :: ns => by
    simp only [List.map_cons, widAll, wid, List.length_cons, wid_ints ns]
    omega
theorem noTxt_ints : ∀ ns : List Int, noTxtAll (ns.map PyData.int) = true
  | [] => rfl
  | n :: ns => by simp only [List.map_cons, noTxtAll, noTxt, noTxt_ints ns, Bool.and_self]
/-! ### what counted -/
def GoodG (gps : List Int) : Prop := ∀ i : Nat, i < gps.length → 0 ≤ gps.getD i 0 ∧ gps.getD i 0 ≤ i
def down (gps : List Int) : Nat → Int → List Int
  | 0, _ => []
  | f + 1, i => if i < 0 then [] else i :: down gps f (gps.getD i.toNat 0 - 1)
theorem down_neg (gps : List Int) : ∀ (f : Nat) (i : Int), i < 0 → down gps f i = []
  | 0, _, _ => rfl
  | f + 1, i, h => if_pos h
theorem down_fuel {gps : List Int} (hg : GoodG gps) : ∀ (f f' : Nat) (i : Int), i < gps.length → i < f → i < f' → down gps f i = down gps f' i
  | 0, f', i, _, h1, _ => by
    rw [down_neg gps f' i (by omega)]
    rfl
  | f + 1, 0, i, _, _, h2 => by
    rw [down_neg gps (f + 1) i (by omega)]
    rfl
  | f + 1, f' + 1, i, hl, h1, h2 => by
    show (if i < 0 then [] else _) = (if i < 0 then [] else _)
    by_cases h : i < 0
    · rw [if_pos h, if_pos h]
    · rw [if_neg h, if_neg h]
      have g := hg i.toNat (by omega)
      rw [down_fuel hg f f' _ (by omega) (by omega) (by omega)]
def chainD (gps : List Int) (i : Int) : List Int := down gps (i + 1).toNat i
theorem chainD_neg (gps : List Int) {i : Int} (h : i < 0) : chainD gps i = [] := down_neg gps _ i h
theorem chainD_pos {gps : List Int} (hg : GoodG gps) {i : Int} (h0 : 0 ≤ i) (hl : i < gps.length) : chainD gps i = i :: chainD gps (gps.getD i.toNat 0 - 1) := by
  unfold chainD
  rw [show (i + 1).toNat = i.toNat + 1 by omega]
  show (if i < 0 then [] else _) = _
  rw [if_neg (by omega)]
  have g := hg i.toNat (by omega)
  rw [down_fuel hg i.toNat (gps.getD i.toNat 0 - 1 + 1).toNat _ (by omega) (by omega) (by omega)]
def chainL (gps : List Int) : List Int := (chainD gps ((gps.length : Int) - 1)).reverse
theorem chainD_len {gps : List Int} (hg : GoodG gps) : ∀ (n : Nat) (i : Int), i < n → i < gps.length → (chainD gps i).length ≤ n
  | 0, i, h, _ => by rw [chainD_neg gps (by omega)]; exact Nat.le_refl _
  | n + 1, i, h, hl => by
    by_cases h0 : i < 0
    · rw [chainD_neg gps h0]
      exact Nat.zero_le _
    · have g := hg i.toNat (by omega)
      rw [chainD_pos hg (by omega) hl, List.length_cons]
      have := chainD_len hg n (gps.getD i.toNat 0 - 1) (by omega) (by omega)
      omega
theorem chainL_len {gps : List Int} (hg : GoodG gps) : (chainL gps).length ≤ gps.length := by
  unfold chainL
  rw [List.length_reverse]
  exact chainD_len hg gps.length _ (by omega) (by omega)
/-- what each write sees, as a value -/
def seenV (g : Int) : V := if g > 0 then .int (g - 1) else .non
/-! ### what stands in each reached board -/
theorem sh_app {ns : List Int} {x g : Int} (h0 : 0 ≤ g) (h1 : g ≤ ns.length) : sh (ns ++ [x]) g = sh ns g := by
  unfold sh
  by_cases h : g = 0
  · rw [if_pos h, if_pos h]
  · rw [if_neg h, if_neg h, List.getD_eq_getElem?_getD, List.getD_eq_getElem?_getD, List.getElem?_append_left (by omega)]
theorem getD_app {ns : List Int} {x : Int} {i : Nat} (h : i < ns.length) : (ns ++ [x]).getD i 0 = ns.getD i 0 := by
  rw [List.getD_eq_getElem?_getD, List.getD_eq_getElem?_getD, List.getElem?_append_left h]
theorem getD_end {ns : List Int} {x : Int} : (ns ++ [x]).getD ns.length 0 = x := by
  rw [List.getD_eq_getElem?_getD, List.getElem?_append_right (Nat.le_refl _), Nat.sub_self]
  rfl
structure Ok (S : Bo) : Prop where
  gl : S.gps.length = S.nums.length
  gg : GoodG S.gps
  ge : ∀ i : Nat, i < S.gps.length → S.nums.getD i 0 = sh S.nums (S.gps.getD i 0) + 1
  he : ∀ c n g, S.held c = some (n, g) → 0 ≤ g ∧ g ≤ S.nums.length ∧ n = sh S.nums g
theorem ok_start (l : List Int) : Ok (Bo.start l) := ⟨rfl, fun i h => absurd h (Nat.not_lt_zero _), fun i h => absurd h (Nat.not_lt_zero _), fun c n g h => nomatch h⟩
theorem ok_read {S : Bo} (h : Ok S) (c : Int) : Ok (S.read c) := ⟨h.gl, h.gg, h.ge, fun c' n g e => by
  have e' : (if c' = c then some (S.now, S.len) else S.held c') = some (n, g) := e
  by_cases hc : c' = c
  · rw [if_pos hc] at e'
    cases e'
    exact ⟨Int.natCast_nonneg _, Int.le_refl _, rfl⟩
  · rw [if_neg hc] at e'
    exact h.he c' n g e'⟩
theorem ok_vain {S : Bo} (h : Ok S) (c n g : Int) : Ok (S.vain c n g) := ⟨h.gl, h.gg, h.ge, fun c' n' g' e => by
  have e' : (if c' = c then none else S.held c') = some (n', g') := e
  by_cases hc : c' = c
  · rw [if_pos hc] at e'
    cases e'
  · rw [if_neg hc] at e'
    exact h.he c' n' g' e'⟩
theorem ok_write {S : Bo} (h : Ok S) {c n g : Int} (hh : S.held c = some (n, g)) : Ok (S.write c n g) := by
  obtain ⟨h0, h1, h2⟩ := h.he c n g hh
  have gl := h.gl
  refine ⟨by show (S.gps ++ [g]).length = (S.nums ++ [n + 1]).length; rw [List.length_append, List.length_append, gl]; rfl, fun i hi => ?_, fun i hi => ?_, fun c' n' g' e => ?_⟩
  · have hi' : i < (S.gps ++ [g]).length := hi
    rw [List.length_append, List.length_singleton] at hi'
    show 0 ≤ (S.gps ++ [g]).getD i 0 ∧ (S.gps ++ [g]).getD i 0 ≤ i
    by_cases hl : i < S.gps.length
    · rw [getD_app hl]
      exact h.gg i hl
    · have e : i = S.gps.length := by omega
      subst e
      rw [getD_end]
      omega
  · have hi' : i < (S.gps ++ [g]).length := hi
    rw [List.length_append, List.length_singleton] at hi'
    show (S.nums ++ [n + 1]).getD i 0 = sh (S.nums ++ [n + 1]) ((S.gps ++ [g]).getD i 0) + 1
    by_cases hl : i < S.gps.length
    · have g1 := h.gg i hl
      rw [getD_app (by omega), getD_app hl, sh_app g1.1 (by omega)]
      exact h.ge i hl
    · have e : i = S.gps.length := by omega
      subst e
      rw [getD_end]
      rw [gl, getD_end, sh_app h0 h1, ← h2]
  · have e' : (if c' = c then none else S.held c') = some (n', g') := e
    by_cases hc : c' = c
    · rw [if_pos hc] at e'
      cases e'
    · rw [if_neg hc] at e'
      obtain ⟨k0, k1, k2⟩ := h.he c' n' g' e'
      refine ⟨k0, ?_, ?_⟩
      · show g' ≤ ((S.nums ++ [n + 1]).length : Nat)
        rw [List.length_append]
        omega
      · show n' = sh (S.nums ++ [n + 1]) g'
        rw [sh_app k0 k1]
        exact k2
theorem ok_call {S : Bo} (h : Ok S) (c : Int) : Ok (S.call c) := by
  cases hh : S.held c with
  | none =>
    rw [(call_none hh).1]
    exact ok_read h c
  | some ng =>
    obtain ⟨n, g⟩ := ng
    by_cases h1 : c ∈ S.care ∧ n ≠ S.now
    · rw [(call_vain hh h1).1]
      exact ok_vain h c n g
    · rw [(call_write hh h1).1]
      exact ok_write h hh
/-- the numbers along a chain -/
theorem chain_nums {S : Bo} (h : Ok S) : ∀ (n : Nat) (i : Int), i < n → i < S.gps.length → -1 ≤ i → 0 ≤ sh S.nums (i + 1) ∧ ((chainD S.gps i).map fun j => S.nums.getD j.toNat 0).reverse = Sa.rg 1 (sh S.nums (i + 1)).toNat ∧ ∀ j ∈ chainD S.gps i, 0 ≤ j ∧ j < S.nums.length
  | 0, i, hi, _, h1 => by
    have e : i = -1 := by omega
    subst e
    rw [chainD_neg _ (by omega), show sh S.nums ((-1 : Int) + 1) = 0 from rfl]
    exact ⟨Int.le_refl _, rfl, fun j hj => nomatch hj⟩
  | n + 1, i, hi, hl, h1 => by
    by_cases h0 : i < 0
    · have e : i = -1 := by omega
      subst e
      rw [chainD_neg _ (by omega), show sh S.nums ((-1 : Int) + 1) = 0 from rfl]
      exact ⟨Int.le_refl _, rfl, fun j hj => nomatch hj⟩
    · have g := h.gg i.toNat (by omega)
      have ge := h.ge i.toNat (by omega)
      have gl := h.gl
      obtain ⟨a1, a2, a3⟩ := chain_nums h n (S.gps.getD i.toNat 0 - 1) (by omega) (by omega) (by omega)
      rw [show S.gps.getD i.toNat 0 - 1 + 1 = S.gps.getD i.toNat 0 by omega] at a1 a2
      have es : sh S.nums (i + 1) = sh S.nums (S.gps.getD i.toNat 0) + 1 := by
        rw [← ge]
        unfold sh
        rw [if_neg (by omega), show (i + 1 - 1).toNat = i.toNat by omega]
      refine ⟨by omega, ?_, fun j hj => ?_⟩
      · rw [chainD_pos h.gg (by omega) hl, List.map_cons, List.reverse_cons, a2, es, show (sh S.nums (S.gps.getD i.toNat 0) + 1).toNat = (sh S.nums (S.gps.getD i.toNat 0)).toNat + 1 by omega, Sa.rg_succ, ge]
        congr 2
        omega
      · rw [chainD_pos h.gg (by omega) hl] at hj
        rcases List.mem_cons.mp hj with rfl | hj
        · omega
        · exact a3 j hj
theorem chainL_nums {S : Bo} (h : Ok S) : (chainL S.gps).map (fun j => S.nums.getD j.toNat 0) = Sa.rg 1 S.now.toNat ∧ 0 ≤ S.now ∧ ∀ j ∈ chainL S.gps, 0 ≤ j ∧ j < S.nums.length := by
  obtain ⟨a1, a2, a3⟩ := chain_nums h S.gps.length ((S.gps.length : Int) - 1) (by omega) (by omega) (by omega)
  have gl := h.gl
  rw [show (S.gps.length : Int) - 1 + 1 = (S.nums.length : Int) by omega] at a1 a2
  unfold chainL
  refine ⟨?_, a1, fun j hj => a3 j (List.mem_reverse.mp hj)⟩
  rw [List.map_reverse]
  exact a2
theorem chainL_now {S : Bo} (h : Ok S) : ((chainL S.gps).length : Int) = S.now := by
  have e := congrArg List.length (chainL_nums h).1
  rw [List.length_map, Sa.rg_len] at e
  have := (chainL_nums h).2.1
  omega
/-! ### a call taken back -/
section
variable {K : PySem.W.Frag} {L : List Fc} {M : List Cell} {H : Hp} {kvs : List (Key × V)} {des : List V} {S S1 : Bo} {c n g : Int} {p q : Addr} {ds : List (Str × Int × Int)} {d : Str × Int × Int}
theorem deed_last (hS : SA L M H) (hB : Sa.In1 (fB K kvs des S1) L) (e : S1.deeds = ds ++ [d]) : ∃ p, des[des.length - 1]? = some (.ref p) ∧ SA (fT K p [.str d.1, .int d.2.1, .int d.2.2] :: L) M H := by
  have e1 : (S1.deeds.map deedD).getLast? = some (deedD d) := by rw [e, List.map_append]; simp
  obtain ⟨v, hv, hd⟩ := Sa.dpa_last (hS.ask hB.at).2 e1
  obtain ⟨p, a, b, c, rfl, h1, h2, h3, h4⟩ := Sa.dp_tup3 hd
  refine ⟨p, hv, hS.ad fun F hF => ?_⟩
  obtain ⟨v', hv', hd'⟩ := Sa.dpa_last (hF _ hB.mem).2 e1
  obtain ⟨p', a', b', c', rfl, g1, g2, g3, g4⟩ := Sa.dp_tup3 hd'
  rw [hv] at hv'
  cases hv'
  rw [Sa.dp_str g2, Sa.dp_int g3, Sa.dp_int g4] at g1
  exact g1
theorem fb_unread (hS : SA L M H) (hB : Sa.In1 (fB K kvs des (S.read c)) L) (hh : S.held c = none) : SA (fB K (Sa.ddrop kvs c) des.dropLast S :: L) M H := hS.ad fun F hF => by
  have gB : (fB K kvs des (S.read c)).p F := hF _ hB.mem
  refine ⟨?_, ?_⟩
  · have z := Sa.dk_drop (n := c) gB.1
    have e : (fun m => if m = c then none else heldD (S.read c).held m) = heldD S.held := by
      funext m
      unfold heldD Bo.read
      by_cases h : m = c
      · simp only [if_pos h]
        rw [h, hh]
        rfl
      · simp only [if_neg h]
    rw [e] at z
    exact z
  · have z := Sa.dpa_drop gB.2
    have e : ((S.read c).deeds.map deedD).dropLast = S.deeds.map deedD := by
      show ((S.deeds ++ [_]).map deedD).dropLast = _
      rw [List.map_append]
      exact List.dropLast_concat
    rw [e] at z
    exact z
theorem fb_unput (hS : SA L M H) (hB : Sa.In1 (fB K kvs des S1) L) (hh : S.held c = some (n, g)) (e1 : ∀ m, S1.held m = if m = c then none else S.held m) (e2 : S1.deeds = S.deeds ++ [d]) (h1 : Sa.In1 (Sa.fU p [.int n, .int g]) L) : SA (fB K (Sa.dput kvs c (.ref p)) des.dropLast S :: L) M H := hS.ad fun F hF => by
  have g1 : SqT K F p [.int n, .int g] := SqT.of (hF _ h1.mem)
  have gB : (fB K kvs des S1).p F := hF _ hB.mem
  refine ⟨?_, ?_⟩
  · have z := Sa.dk_put (n := c) gB.1 (.tup g1 (.cons (.int _) (.cons (.int _) .nil)))
    have e : (fun m => if m = c then some (PyData.tuple [.int n, .int g]) else heldD S1.held m) = heldD S.held := by
      funext m
      unfold heldD
      rw [e1]
      by_cases h : m = c
      · simp only [if_pos h]
        rw [h, hh]
        rfl
      · simp only [if_neg h]
    rw [e] at z
    exact z
  · have z := Sa.dpa_drop gB.2
    have e : (S1.deeds.map deedD).dropLast = S.deeds.map deedD := by
      rw [e2, List.map_append]
      exact List.dropLast_concat
    rw [e] at z
    exact z
theorem drop_end (ns : List Int) (x : Int) : (ns ++ [x]).dropLast = ns := List.dropLast_concat
theorem getD_last (ns : List Int) (x : Int) : (ns ++ [x]).getD ((ns ++ [x]).length - 1) 0 = x := by
  rw [List.length_append, List.length_singleton, Nat.add_sub_cancel]
  exact getD_end
theorem bz_back {m : Nat} {kvs' : List (Key × V)} {des' : List V} (z : Bz kvs des (S.call c) m) (h1 : kvs'.length ≤ kvs.length + 1) (h2 : des'.length ≤ des.length) : Bz kvs' des' S (m + 1) := by
  obtain ⟨z1, z2, z3, z4, z5, z6⟩ := z
  have e : S.calls.length ≤ (S.call c).calls.length ∧ S.nums.length ≤ (S.call c).nums.length ∧ S.wrs.length ≤ (S.call c).wrs.length ∧ S.gps.length ≤ (S.call c).gps.length := by
    cases hh : S.held c with
    | none =>
      rw [(call_none hh).1]
      exact ⟨by show _ ≤ (S.calls ++ [c]).length; simp, Nat.le_refl _, Nat.le_refl _, Nat.le_refl _⟩
    | some ng =>
      obtain ⟨n, g⟩ := ng
      by_cases h1 : c ∈ S.care ∧ n ≠ S.now
      · rw [(call_vain hh h1).1]
        exact ⟨by show _ ≤ (S.calls ++ [c]).length; simp, Nat.le_refl _, Nat.le_refl _, Nat.le_refl _⟩
      · rw [(call_write hh h1).1]
        exact ⟨by show _ ≤ (S.calls ++ [c]).length; simp, by show _ ≤ (S.nums ++ [n + 1]).length; simp, by show _ ≤ (S.wrs ++ [c]).length; simp, by show _ ≤ (S.gps ++ [g]).length; simp⟩
  obtain ⟨e1, e2, e3, e4⟩ := e
  exact ⟨by omega, by omega, by omega, by omega, by omega, by omega⟩
end
/-! ### x in a tuple of whole numbers -/
theorem st_inTu {K : PySem.W.Frag} {L : List Fc} {M : List Cell} {H : Hp} {a : Addr} {n : Int} {ns : List Int} {Q : VK} (hS : SA L M H) (h : At L M (fT K a (ns.map V.int))) (q : Q (.bl (decide (n ∈ ns))) H) : rIn K false (.int n) (.ref a) H Q :=
  ⟨a, _, rfl, .inr (h H hS), rfl, Sa.flat_ints ns, by
    show Q (.bl (inV (.int n) (ns.map V.int))) H
    rw [Sa.inV_ints]
    exact q⟩
theorem in41_set {ns : List Int} {i : Nat} {r : Int} (h : In41 ns) (h0 : 0 ≤ r) (h1 : r ≤ 40) : In41 (ns.set i r) := fun n hn => by
  rcases List.mem_or_eq_of_mem_set hn with hn | hn
  · exact h n hn
  · rw [hn]; exact ⟨h0, h1⟩
/-! ### two sets of numbers asked with == -/
section
variable {P : Program} {w : World} {A : Around} {E : Value → Shared → Prop} {s : Shared} {a b : Addr} {S T : Int → Bool} {n m : Nat}
theorem ent_setEq : entryFor table "set.__eq__" = some Builtin.«frozenset.__eq__» :=
  entryFor_alias (id' := "frozenset.__eq__") (by kernel_rfl) rfl (by decide +kernel) (by kernel_rfl)
theorem wp_quiet {x : Value} (g : ∃ k tk, x = Value.int k tk) {Q : Bool → Shared → Prop} (h : Q true s) : wpAny (model P w) A (Builtin.Frozenset.quietEq x) Q E s := by
  obtain ⟨k, tk, rfl⟩ := g
  unfold Builtin.Frozenset.quietEq
  exact wpAny_pure h
theorem setR_size (R : SetR w s.heap a S n) {Q : Nat → Shared → Prop} (h : Q n s) : wpAny (model P w) A (Builtin.Frozenset.sizeOf a) Q E s := by
  obtain ⟨o, es, ep, t, ho, hx, hd, g, nd, hm, hb, hf, hn, _⟩ := R
  unfold Builtin.Frozenset.sizeOf
  refine wpAny_bind (wpAny_setEntries_of ho hd hf (wpAny_pure ?_))
  rw [hn]
  exact h
theorem wp_isSet (h0 : s.TypeIs (.ref a) "set") {Q : Bool → Shared → Prop} (h : Q true s) : wpAny (model P w) A (Builtin.Frozenset.isAnySet (.ref a)) Q E s := by
  unfold Builtin.Frozenset.isAnySet orM
  refine wpAny_bind (wpAny_isInstance h0 F.sub_set_set ?_)
  exact wpAny_pure h
theorem wp_unseen {es es2 : Array (Int × Value)} {ep ep2 : Nat} {t t2 : SetTable} {o o2 : Obj} (ho : s.heap.get? a = some o) (hd : o.data = .set es ep t) (hf : t.fits es.size = true)
    (ho2 : s.heap.get? b = some o2) (hd2 : o2.data = .set es2 ep2 t2) (hf2 : t2.fits es2.size = true) (g : ∀ e ∈ es.toList, GoodE e) (g2 : ∀ e ∈ es2.toList, GoodE e) {Q : List (Int × Value) → Shared → Prop} (h : Q es.toList s) :
    wpAny (model P w) A (Builtin.Frozenset.walkUnseen a b) Q E s := by
  unfold Builtin.Frozenset.walkUnseen
  refine wpAny_bind (wpAny_setEntries_of ho hd hf ?_)
  refine wpAny_bind (wpAny_setEntries_of ho2 hd2 hf2 ?_)
  have gg : ∀ e ∈ es.toList ++ es2.toList, ∃ k tk, e.2 = Value.int k tk := fun e he => by
    rcases List.mem_append.mp he with z | z
    · obtain ⟨k, tk, h1, _⟩ := g e z
      exact ⟨k, tk, h1⟩
    · obtain ⟨k, tk, h1, _⟩ := g2 e z
      exact ⟨k, tk, h1⟩
  refine wpAny_bind (wpAny_forIn_list _ (fun rest r s' => r.1 = none ∧ s' = s ∧ ∀ e ∈ rest, ∃ k tk, e.2 = Value.int k tk) _ ?_ ?_ _ _ ⟨rfl, rfl, gg⟩)
  · rintro ⟨hh, x⟩ rest r s' ⟨h1, rfl, h3⟩
    refine wpAny_bind (wp_quiet (h3 _ List.mem_cons_self) ?_)
    exact wpAny_pure ⟨rfl, rfl, fun e he => h3 e (List.mem_cons_of_mem _ he)⟩
  · rintro ⟨r1, r2⟩ s' ⟨h1, rfl, _⟩
    simp only at h1
    subst h1
    exact wpAny_pure h
theorem wp_same {es : Array (Int × Value)} {ep : Nat} {t : SetTable} {o : Obj} {id : String} (ho : s.heap.get? a = some o) (hd : o.data = .set es ep t) (hf : t.fits es.size = true) {Q : Unit → Shared → Prop} (h : Q () s) : wpAny (model P w) A (Builtin.Frozenset.unchanged id a ep) Q E s := by
  unfold Builtin.Frozenset.unchanged
  refine wpAny_bind (wpAny_setEpoch_of ho hd hf ?_)
  simp only [bne_self_eq_false, Bool.false_eq_true, ↓reduceIte]
  exact wpAny_pure h
/-- all of the one among the other's -/
theorem wp_subset {id : String} {Q : Bool → Shared → Prop} (R : SetR w s.heap a S n) (R2 : SetR w s.heap b T n) (h : ∀ r : Bool, (r = true ↔ ∀ k, S k = true → T k = true) → Q r s) :
    wpAny (model P w) A (Builtin.Frozenset.subsetOf id a b) Q E s := by
  have R0 := R2.setOf (P := P)
  unfold Builtin.Frozenset.subsetOf
  refine wpAny_bind (setR_size R ?_)
  refine wpAny_bind (setR_size R2 ?_)
  rw [if_neg (Nat.lt_irrefl n)]
  obtain ⟨o, es, ep, t, ho, hx, hd, g, nd, hm, hb, hf, hn, _⟩ := R
  obtain ⟨o2, es2, ep2, t2, ho2, hx2, hd2, g2, nd2, hm2, hb2, hf2, hn2, _⟩ := R2
  refine wpAny_bind (wpAny_setEpoch_of ho hd hf ?_)
  refine wpAny_bind (wp_unseen ho hd hf ho2 hd2 hf2 g g2 ?_)
  have hm' : ∀ k, S k = true ↔ k ∈ es.toList.map keyOf := hm
  refine wpAny_bind (wpAny_forIn_list _ (fun rest r s' => r.1 = none ∧ s' = s ∧ (∀ e ∈ rest, GoodE e) ∧ ∃ l0, es.toList = l0 ++ rest ∧ ∀ e ∈ l0, T (keyOf e) = true) _ ?_ ?_ _ _ ⟨rfl, rfl, g, [], rfl, fun _ z => nomatch z⟩)
  · rintro ⟨hh, x⟩ rest r s' ⟨h1, rfl, h3, l0, h4, h5⟩
    obtain ⟨k, tk, e1, e2⟩ := h3 _ List.mem_cons_self
    simp only at e1 e2
    have e3 : hh = (intKind P w).hash k := e2
    clear e2
    subst e1 e3
    have hk : keyOf ((intKind P w).hash k, Value.int k tk) = k := rfl
    refine wpAny_bind ?_
    refine wpAny_holding ?_
    refine wpAny_setFind_of (intKind_is P w k tk) rfl R0 fun q hq => ?_
    cases hT : T k with
    | false =>
      rw [hT] at hq
      have hq2 : q.isNone = true := by
        cases q with
        | none => rfl
        | some _ => cases hq
      rw [hq2]
      simp only [↓reduceIte]
      refine wpAny_pure ?_
      refine wpAny_pure (h false ⟨(fun z => nomatch z), fun z => ?_⟩)
      have hin : S k = true := (hm' k).mpr (List.mem_map.mpr ⟨_, by rw [h4]; exact List.mem_append_right _ List.mem_cons_self, hk⟩)
      rw [z k hin] at hT
      cases hT
    | true =>
      rw [hT] at hq
      have hq2 : q.isNone = false := by
        cases q with
        | none => cases hq
        | some _ => rfl
      rw [hq2]
      simp only [Bool.false_eq_true, ↓reduceIte]
      refine wpAny_bind (wp_same ho hd hf ?_)
      refine wpAny_pure ⟨rfl, rfl, fun e he => h3 e (List.mem_cons_of_mem _ he), l0 ++ [((intKind P w).hash k, Value.int k tk)], by rw [h4, List.append_assoc]; rfl, fun e he => ?_⟩
      rcases List.mem_append.mp he with z | z
      · exact h5 e z
      · rw [List.mem_singleton.mp z]
        exact hT
  · rintro ⟨r1, r2⟩ s' ⟨h1, rfl, _, l0, h4, h5⟩
    simp only at h1
    subst h1
    refine wpAny_pure (h true ⟨fun _ k hk => ?_, fun _ => rfl⟩)
    obtain ⟨e, he, rfl⟩ := List.mem_map.mp ((hm' k).mp hk)
    rw [h4, List.append_nil] at he
    exact h5 e he
end
section
variable {P : Program} {w : World} {A : Around} {E : Value → Shared → Prop} {s : Shared} {a b : Addr} {S T : Int → Bool} {n m : Nat}
theorem setR_type (R : SetR w s.heap a S n) : s.TypeIs (.ref a) "set" := by
  obtain ⟨o, es, ep, t, ho, hx, _⟩ := R
  exact ⟨o, ho, hx.1⟩
theorem setR_list (R : SetR w s.heap a S n) : ∃ l : List Int, l.Nodup ∧ l.length = n ∧ ∀ k, S k = true ↔ k ∈ l := by
  obtain ⟨o, es, ep, t, ho, hx, hd, g, nd, hm, hb, hf, hn, _⟩ := R
  exact ⟨es.toList.map keyOf, nd, by rw [List.length_map, Array.length_toList, hn], hm⟩
theorem sets_size (R : SetR w s.heap a S n) (R2 : SetR w s.heap b T m) (h : ∀ k, S k = T k) : n = m := by
  obtain ⟨l, d1, e1, m1⟩ := setR_list R
  obtain ⟨l2, d2, e2, m2⟩ := setR_list R2
  have h1 := Sa.nd_le d1 (ks := l2) fun k hk => (m2 k).mp (by rw [← h k]; exact (m1 k).mpr hk)
  have h2 := Sa.nd_le d2 (ks := l) fun k hk => (m1 k).mp (by rw [h k]; exact (m2 k).mpr hk)
  omega
theorem sets_full (R : SetR w s.heap a S n) (R2 : SetR w s.heap b T n) (h : ∀ k, S k = true → T k = true) (k : Int) : S k = T k := by
  obtain ⟨l, d1, e1, m1⟩ := setR_list R
  obtain ⟨l2, d2, e2, m2⟩ := setR_list R2
  rw [Bool.eq_iff_iff]
  refine ⟨h k, fun hk => ?_⟩
  by_cases hs : S k = true
  · exact hs
  · have h1 := Sa.nd_le (l := k :: l) (ks := l2) (List.nodup_cons.mpr ⟨fun z => hs ((m1 k).mpr z), d1⟩) fun j hj => by
      rcases List.mem_cons.mp hj with rfl | hj
      · exact (m2 _).mp hk
      · exact (m2 j).mp (h j ((m1 j).mpr hj))
    rw [List.length_cons] at h1
    omega
theorem sets_eq {Q : Value → Shared → Prop} (R : SetR w s.heap a S n) (R2 : SetR w s.heap b T m) (hu : A.units < cLine) (h : ∀ r : Bool, (r = true ↔ ∀ k, S k = T k) → Q (.bool r) s) :
    wpAny (model P w) A (compareOp .Eq (.ref a) (.ref b)) Q E s := by
  show wpAny _ _ (richCompare .Eq (.ref a) (.ref b)) Q E s
  refine wpAny_richCompare_same_room (setR_type R) (setR_type R2) F.slot_set_eq (wpAny_call_entry F.slot_set_eq (setR_type R) ent_setEq ?_ (F.args_set_eq_2 _ _)) hu
  unfold Builtin.«frozenset.__eq__»
  show wpAny _ _ (Builtin.Frozenset.slot1 "__eq__" ⟨[.ref a, .ref b], []⟩ >>= fun p => _) _ _ _
  have e0 : Builtin.Frozenset.slot1 "__eq__" ⟨[.ref a, .ref b], []⟩ = pure (Value.ref a, Value.ref b) := rfl
  rw [e0]
  refine wpAny_bind (wpAny_pure ?_)
  try dsimp only
  refine wpAny_bind (wp_isSet (setR_type R2) ?_)
  rw [if_neg (by decide)]
  refine wpAny_bind (wpAny_pure ?_)
  refine wpAny_bind (wpAny_pure ?_)
  refine wpAny_bind (setR_size R ?_)
  refine wpAny_bind (setR_size R2 ?_)
  try dsimp only
  by_cases hnm : n = m
  · subst hnm
    rw [if_neg (by rw [bne_self_eq_false]; decide)]
    refine wpAny_bind ?_
    refine wpAny_bind ?_
    unfold andM
    refine wpAny_bind (wpAny_isInstance (setR_type R) F.sub_set_frozenset ?_)
    refine wpAny_pure ?_
    rw [if_neg (by decide)]
    refine wp_subset R R2 fun r hr => ?_
    refine wpAny_pure ⟨_, rfl, (fun z => nomatch z), h r ⟨fun z k => sets_full R R2 (hr.mp z) k, fun z => hr.mpr fun k hk => by rw [← z k]; exact hk⟩⟩
  · rw [if_pos (by rw [bne_iff_ne]; exact hnm)]
    refine wpAny_bind (wpAny_pure ?_)
    exact wpAny_pure ⟨_, rfl, (fun z => nomatch z), h false ⟨(fun z => nomatch z), fun z => absurd (sets_size R R2 z) hnm⟩⟩
end
/-! as a step of a walk -/
def rEqS (w : World) : R2 := fun x y H Q => ∃ (a b : Addr) (S T : Int → Bool) (n m : Nat), x = .ref a ∧ y = .ref b ∧ H a = some (SetO w a S n) ∧ H b = some (SetO w b T m) ∧ ∀ r : Bool, (r = true ↔ ∀ k, S k = T k) → Q (.bl r) H
theorem op_eqS {X : Cx} (hu : X.A.units < cLine) : OpR X (compareOp .Eq) (rEqS X.w) := by
  intro pins s σ H x y u v Q I rx ry h
  obtain ⟨a, b, S, T, n, m, rfl, rfl, ha, hb, q⟩ := h
  cases rx
  cases ry
  exact sets_eq (setO_get I ha) (setO_get I hb) hu fun r hr => ⟨.bl r, H, I, rfl, q r hr⟩
theorem st_eqS {w : World} {L : List Fc} {M : List Cell} {H : Hp} {Q : VK} {a b : Addr} {ns ms : List Int} {n m : Nat} (hS : SA L M H) (h1 : (a, SetO w a (fun j => decide (j ∈ ns)) n) ∈ M) (h2 : (b, SetO w b (fun j => decide (j ∈ ms)) m) ∈ M)
    (q : ∀ r : Bool, (r = true ↔ ∀ k, k ∈ ns ↔ k ∈ ms) → Q (.bl r) H) : rEqS w (.ref a) (.ref b) H Q :=
  ⟨a, b, _, _, n, m, rfl, rfl, hS.at h1, hS.at h2, fun r hr => q r (hr.trans (forall_congr' fun k => by rw [Bool.eq_iff_iff, decide_eq_true_iff, decide_eq_true_iff]))⟩
/-- the last number, 0 of none -/
def lst (ns : List Int) : Int := ns.getD (ns.length - 1) 0
def gl (ns : List Int) (i lo : Int) : List Int := (Sa.rg lo (i + 1 - lo).toNat).filter fun g => decide (sh ns g = ns.getD i.toNat 0 - 1)
theorem gl_len (ns : List Int) (i lo : Int) : (gl ns i lo).length ≤ (i + 1 - lo).toNat := by
  unfold gl
  have h := List.length_filter_le (fun g => decide (sh ns g = ns.getD i.toNat 0 - 1)) (Sa.rg lo (i + 1 - lo).toNat)
  rw [Sa.rg_len] at h
  exact h
theorem gl_mem {ns : List Int} {i lo x : Int} : x ∈ gl ns i lo ↔ (lo ≤ x ∧ x < lo + ((i + 1 - lo).toNat : Int)) ∧ sh ns x = ns.getD i.toNat 0 - 1 := by
  unfold gl
  rw [List.mem_filter, Sa.mem_rg, decide_eq_true_iff]
theorem getD_at {ns : List Int} {i : Nat} {v : Int} (h : ns[i]? = some v) : ns.getD i 0 = v := by
  rw [List.getD_eq_getElem?_getD, h]
  rfl
theorem po_at {ns : List Int} (h : Po ns) {i : Nat} (hi : i < ns.length) : 1 ≤ ns.getD i 0 ∧ ns.getD i 0 ≤ top (ns.take i) + 1 := by
  have h1 := po_take h (i + 1)
  have e : ns.take (i + 1) = ns.take i ++ [ns.getD i 0] := by
    rw [List.take_succ_eq_append_getElem hi, List.getD_eq_getElem?_getD, List.getElem?_eq_getElem hi]
    rfl
  rw [e] at h1
  exact (po_snoc.mp h1).2
theorem gl_ne {ns : List Int} (h : Po ns) {i : Nat} (hi : i < ns.length) : 0 < (gl ns i 0).length := by
  obtain ⟨h1, h2⟩ := po_at h hi
  by_cases h3 : ns.getD i 0 = 1
  · refine List.length_pos_of_mem (a := (0 : Int)) (gl_mem.mpr ⟨⟨by omega, by omega⟩, ?_⟩)
    rw [Int.toNat_natCast, h3]
    rfl
  · have h4 := po_has (po_take h i) (ns.getD i 0 - 1) (by omega) (by omega)
    obtain ⟨j, hj⟩ := List.mem_iff_getElem?.mp h4
    have h5 := (List.getElem?_eq_some_iff.mp hj).1
    rw [List.length_take] at h5
    rw [List.getElem?_take_of_lt (by omega)] at hj
    refine List.length_pos_of_mem (a := ((j : Int) + 1)) (gl_mem.mpr ⟨⟨by omega, by omega⟩, ?_⟩)
    rw [Int.toNat_natCast]
    unfold sh
    rw [if_neg (by omega), show ((j : Int) + 1 - 1).toNat = j by omega]
    exact getD_at hj
/-- a course's beginning -/
def Cp (ns F : List Int) (n : Nat) : Prop := F.length = n ∧ ∀ j, j < n → 0 ≤ F.getD j 0 ∧ F.getD j 0 ≤ j ∧ sh ns (F.getD j 0) = ns.getD j 0 - 1
theorem cp_snoc {ns F : List Int} {n : Nat} {x : Int} (h : Cp ns F n) (hx : x ∈ gl ns n 0) : Cp ns (F ++ [x]) (n + 1) := by
  refine ⟨by rw [List.length_append, h.1]; rfl, fun j hj => ?_⟩
  by_cases h2 : j < n
  · have e : (F ++ [x]).getD j 0 = F.getD j 0 := by
      rw [List.getD_eq_getElem?_getD, List.getElem?_append_left (by rw [h.1]; exact h2), List.getD_eq_getElem?_getD]
    rw [e]
    exact h.2 j h2
  · obtain rfl : j = n := by omega
    have e : (F ++ [x]).getD j 0 = x := by
      rw [List.getD_eq_getElem?_getD, List.getElem?_append_right (by rw [h.1]; exact Nat.le_refl _), h.1, Nat.sub_self]
      rfl
    rw [e]
    obtain ⟨⟨h3, h4⟩, h5⟩ := gl_mem.mp hx
    rw [Int.toNat_natCast] at h5
    exact ⟨h3, by omega, h5⟩
theorem lst_sh (ns : List Int) : sh ns (ns.length : Int) = lst ns := by
  unfold sh lst
  by_cases h : ns.length = 0
  · rw [if_pos (by omega), List.length_eq_zero_iff.mp h]
    rfl
  · rw [if_neg (by omega), show ((ns.length : Int) - 1).toNat = ns.length - 1 by omega]
theorem sh_pos {ns : List Int} {s : Int} (h : 0 ≤ s) : sh ns (s + 1) = ns.getD s.toNat 0 := by
  unfold sh
  rw [if_neg (by omega), show (s + 1 - 1) = s by omega]
theorem cut_less {ns : List Int} : cutV (ns.map V.int) none (some (-1)) = ns.dropLast.map V.int := by
  have e : HT.sIx (ns.map V.int).length (ns.map V.int).length (some (-1)) = ns.length - 1 := by
    rw [List.length_map]
    show (if (-1 : Int) < 0 then ((-1 : Int) + (ns.length : Int)).toNat else min (-1 : Int).toNat ns.length) = ns.length - 1
    rw [if_pos (by decide)]
    omega
  unfold cutV
  rw [e, HT.sIx_none, List.drop_zero, Nat.sub_zero, List.dropLast_eq_take, List.map_take]
theorem lst_some {ns : List Int} (h : Po ns) (h0 : 0 < ns.length) : 1 ≤ lst ns ∧ lst ns ≤ ns.length := by
  have h1 := po_at h (i := ns.length - 1) (by omega)
  have h2 := top_le_len (po_take h (ns.length - 1))
  rw [List.length_take] at h2
  unfold lst
  omega
theorem po_less {ns : List Int} (h : Po ns) : Po ns.dropLast := by
  rw [List.dropLast_eq_take]
  exact po_take h _
theorem dput_len (kvs : List (Key × V)) (n : Int) (v : V) : (Sa.dput kvs n v).length ≤ kvs.length + 1 := length_putK kvs _ v
theorem last_of {ms : List Int} (h : 0 < ms.length) : (ms ++ [0]).getD ((-1 : Int) - (1 : Int) + ((ms ++ [0]).length : Int)).toNat 0 = lst ms := by
  have e : ((-1 : Int) - (1 : Int) + ((ms ++ [0]).length : Int)).toNat = ms.length - 1 := by
    simp only [List.length_append, List.length_cons, List.length_nil]
    omega
  unfold lst
  rw [e, List.getD_eq_getElem?_getD, List.getElem?_append_left (by omega), List.getD_eq_getElem?_getD]
/-- the falls of a list -/
def fl (ns : List Int) : List Int := (Sa.rg 0 ns.length).filter fun i => !decide (ns.getD i.toNat 0 = sh ns i + 1)
/-- the others -/
def lk (ns : List Int) : List Int := (Sa.rg 0 ns.length).filter fun i => decide (ns.getD i.toNat 0 = sh ns i + 1)
theorem fl_len (ns : List Int) : (fl ns).length ≤ ns.length := by
  unfold fl
  have h := List.length_filter_le (fun i => !decide (ns.getD i.toNat 0 = sh ns i + 1)) (Sa.rg 0 ns.length)
  rw [Sa.rg_len] at h
  exact h
theorem lk_len (ns : List Int) : (lk ns).length ≤ ns.length := by
  unfold lk
  have h := List.length_filter_le (fun i => decide (ns.getD i.toNat 0 = sh ns i + 1)) (Sa.rg 0 ns.length)
  rw [Sa.rg_len] at h
  exact h
theorem lk_fl (ns : List Int) : (Sa.rg 0 ns.length).filter (fun i => !decide (i ∈ fl ns)) = lk ns := by
  refine List.filter_congr (fun i hi => ?_)
  have e : (i ∈ fl ns) ↔ ¬ (ns.getD i.toNat 0 = sh ns i + 1) := by
    unfold fl
    rw [List.mem_filter]
    simp [hi]
  by_cases h : ns.getD i.toNat 0 = sh ns i + 1
  · rw [decide_eq_true h, decide_eq_false (fun h2 => e.mp h2 h)]
    rfl
  · rw [decide_eq_false h, decide_eq_true (e.mpr h)]
    rfl
theorem top_mem (ns : List Int) : top ns = 0 ∨ top ns ∈ ns := by
  induction ns using snoc_ind with
  | h0 => exact .inl rfl
  | h1 l x ih =>
    rw [top_snoc]
    by_cases h : top l ≤ x
    · rw [Int.max_eq_right h]
      exact .inr (by simp)
    · rw [Int.max_eq_left (by omega)]
      rcases ih with h2 | h2
      · exact .inl h2
      · exact .inr (by simp [h2])
theorem max_top {ns : List Int} {m : Int} (h1 : m ∈ ns ++ [0]) (h2 : ∀ y, y ∈ ns ++ [0] → y ≤ m) : m = top ns := by
  have h3 := top_nonneg ns
  have h4 : m ≤ top ns := by
    rcases List.mem_append.mp h1 with h5 | h5
    · exact le_top h5
    · simp at h5
      omega
  have h5 : top ns ≤ m := by
    rcases top_mem ns with h6 | h6
    · rw [h6]
      exact h2 0 (by simp)
    · exact h2 _ (by simp [h6])
  omega
theorem po_all : ∀ {ns : List Int}, (∀ s : Nat, s < ns.length → 1 ≤ ns.getD s 0 ∧ ns.getD s 0 ≤ top (ns.take s) + 1) → Po ns := by
  intro ns
  induction ns using snoc_ind with
  | h0 => intro _; exact po_nil
  | h1 l x ih =>
    intro h
    refine po_snoc.mpr ⟨ih (fun s hs => ?_), ?_⟩
    · have h2 := h s (by rw [List.length_append]; omega)
      rw [List.getD_eq_getElem?_getD, List.getElem?_append_left hs, List.take_append_of_le_length (by omega)] at h2
      rw [List.getD_eq_getElem?_getD]
      exact h2
    · have h2 := h l.length (by rw [List.length_append]; show l.length < l.length + 1; omega)
      rw [List.getD_eq_getElem?_getD, List.getElem?_append_right (Nat.le_refl _), List.take_append_of_le_length (Nat.le_refl _), List.take_length, Nat.sub_self] at h2
      exact h2
/-- whether a write could have read -/
def ok1 (ns : List Int) (s : Int) : Bool := decide (1 ≤ ns.getD s.toNat 0) && decide (ns.getD s.toNat 0 ≤ top (ns.take s.toNat) + 1)
theorem po_ok1 {ns : List Int} (h : (Sa.rg 0 ns.length).filter (fun s => !ok1 ns s) = []) : Po ns := by
  refine po_all (fun s hs => ?_)
  have h2 := List.filter_eq_nil_iff.mp h (s : Int) (Sa.mem_rg.mpr ⟨by omega, by omega⟩)
  unfold ok1 at h2
  rw [Int.toNat_natCast] at h2
  simpa using h2
theorem back {ns : List Int} {s : Nat} {v : Int} (h : s < ns.length) : (ns.set s v).set s (ns.getD s 0) = ns := by
  rw [List.set_set, List.getD_eq_getElem?_getD, List.getElem?_eq_getElem h]
  exact List.set_getElem_self h
/-- the places of the numbers that are greater than all ahead, from a greatest one and a place on -/
def gr : Int → Nat → List Int → List Int
  | _, _, [] => []
  | g, i, n :: ns => if g < n then (i : Int) :: gr n (i + 1) ns else gr g (i + 1) ns
theorem gr_append (bs : List Int) : ∀ (as : List Int) (g : Int) (i : Nat), gr g i (as ++ bs) = gr g i as ++ gr (as.foldl max g) (i + as.length) bs
  | [], g, i => rfl
  | n :: as, g, i => by
    show (if g < n then (i : Int) :: gr n (i + 1) (as ++ bs) else gr g (i + 1) (as ++ bs)) = (if g < n then (i : Int) :: gr n (i + 1) as else gr g (i + 1) as) ++ gr (as.foldl max (max g n)) (i + (as.length + 1)) bs
    have e : i + 1 + as.length = i + (as.length + 1) := by omega
    by_cases h : g < n
    · rw [if_pos h, if_pos h, gr_append bs as n (i + 1), e, show max g n = n by omega]
      rfl
    · rw [if_neg h, if_neg h, gr_append bs as g (i + 1), e, show max g n = g by omega]
theorem gr_mem : ∀ (ns : List Int) (g : Int) (i : Nat) (x : Int), x ∈ gr g i ns → (i : Int) ≤ x ∧ x < i + ns.length
  | [], _, _, _, h => by cases h
  | n :: ns, g, i, x, h => by
    have h1 : x ∈ (if g < n then (i : Int) :: gr n (i + 1) ns else gr g (i + 1) ns) := h
    rw [List.length_cons]
    by_cases hc : g < n
    · rw [if_pos hc] at h1
      rcases List.mem_cons.mp h1 with h2 | h2
      · omega
      · have := gr_mem ns n (i + 1) x h2
        omega
    · rw [if_neg hc] at h1
      have := gr_mem ns g (i + 1) x h1
      omega
theorem gr_len : ∀ (ns : List Int) (g : Int) (i : Nat), (gr g i ns).length ≤ ns.length
  | [], _, _ => Nat.le_refl _
  | n :: ns, g, i => by
    show (if g < n then (i : Int) :: gr n (i + 1) ns else gr g (i + 1) ns).length ≤ ns.length + 1
    split
    · have := gr_len ns n (i + 1)
      simp only [List.length_cons]
      omega
    · have := gr_len ns g (i + 1)
      omega
theorem fw_append (bs : List Int) : ∀ (as : List Int) (g : Int) (i : Nat), fw g i (as ++ bs) = match fw g i as with
    | some k => some k
    | none => fw (as.foldl max g) (i + as.length) bs
  | [], g, i => rfl
  | n :: as, g, i => by
    show (if 1 ≤ n ∧ n ≤ g + 1 then fw (max g n) (i + 1) (as ++ bs) else some i) = match (if 1 ≤ n ∧ n ≤ g + 1 then fw (max g n) (i + 1) as else some i) with
      | some k => some k
      | none => fw (as.foldl max (max g n)) (i + (as.length + 1)) bs
    have e : i + 1 + as.length = i + (as.length + 1) := by omega
    by_cases h : 1 ≤ n ∧ n ≤ g + 1
    · rw [if_pos h, if_pos h, fw_append bs as, e]
    · rw [if_neg h, if_neg h]
theorem fw_mono : ∀ (ns : List Int) (g g' : Int) (i j : Nat), g ≤ g' → fw g i ns = none → fw g' j ns = none
  | [], _, _, _, _, _, _ => rfl
  | n :: ns, g, g', i, j, hg, h => by
    have h1 : (if 1 ≤ n ∧ n ≤ g + 1 then fw (max g n) (i + 1) ns else some i) = none := h
    show (if 1 ≤ n ∧ n ≤ g' + 1 then fw (max g' n) (j + 1) ns else some j) = none
    by_cases hc : 1 ≤ n ∧ n ≤ g + 1
    · rw [if_pos hc] at h1
      rw [if_pos (by omega)]
      exact fw_mono ns _ _ _ _ (by omega) h1
    · rw [if_neg hc] at h1
      cases h1
/-- the numbers there are 1, 2 and so on -/
theorem gr_nums {ns : List Int} (hP : Po ns) : (gr 0 0 ns).map (fun s => ns.getD s.toNat 0) = Sa.rg 1 (gr 0 0 ns).length ∧ ((gr 0 0 ns).length : Int) = top ns := by
  induction ns using snoc_ind with
  | h0 => exact ⟨rfl, rfl⟩
  | h1 l x ih =>
    obtain ⟨h1, h2, h3⟩ := po_snoc.mp hP
    obtain ⟨i1, i2⟩ := ih h1
    have e1 : gr 0 0 (l ++ [x]) = gr 0 0 l ++ (if top l < x then [(l.length : Int)] else []) := by
      rw [gr_append]
      show gr 0 0 l ++ (if top l < x then ((0 + l.length : Nat) : Int) :: [] else []) = _
      rw [Nat.zero_add]
    have e2 : (gr 0 0 l).map (fun s => (l ++ [x]).getD s.toNat 0) = (gr 0 0 l).map (fun s => l.getD s.toNat 0) := by
      apply List.map_congr_left
      intro s hs
      have := gr_mem l 0 0 s hs
      rw [List.getD_eq_getElem?_getD, List.getD_eq_getElem?_getD, List.getElem?_append_left (by omega)]
    rw [e1, top_snoc]
    by_cases hc : top l < x
    · rw [if_pos hc, List.map_append, e2, i1, List.length_append, List.length_singleton, Sa.rg_succ]
      refine ⟨?_, by omega⟩
      congr 1
      show [(l ++ [x]).getD ((l.length : Int)).toNat 0] = [1 + ((gr 0 0 l).length : Int)]
      rw [Int.toNat_natCast, List.getD_eq_getElem?_getD, List.getElem?_append_right (Nat.le_refl _), Nat.sub_self]
      show [x] = _
      congr 1
      omega
    · rw [if_neg hc, List.append_nil, e2]
      exact ⟨i1, by omega⟩
theorem split_at {ns : List Int} {s : Nat} (h : s < ns.length) : ns = ns.take s ++ ns.getD s 0 :: ns.drop (s + 1) := by
  rw [List.getD_eq_getElem?_getD, List.getElem?_eq_getElem h]
  show ns = ns.take s ++ ns[s] :: ns.drop (s + 1)
  rw [← List.drop_eq_getElem_cons h, List.take_append_drop]
/-- one number raised by one -/
theorem raise_one {ns : List Int} (hP : Po ns) {s : Nat} (hs : s < ns.length) : fw 0 0 (ns.set s (ns.getD s 0 + 1)) = if (s : Int) ∈ gr 0 0 ns then some s else none := by
  have hsp := split_at hs
  generalize hx : ns.getD s 0 = x at hsp ⊢
  generalize ha : ns.take s = as at hsp
  generalize hb : ns.drop (s + 1) = bs at hsp
  have hla : as.length = s := by rw [← ha, List.length_take]; omega
  have e1 : ns.set s (x + 1) = as ++ (x + 1) :: bs := by
    rw [hsp, List.set_append_right _ _ (by omega), hla, Nat.sub_self]
    rfl
  have hP2 : fw 0 0 (as ++ x :: bs) = none := by rw [← hsp]; exact hP
  rw [fw_append] at hP2
  have hmem : (s : Int) ∈ gr 0 0 ns ↔ top as < x := by
    rw [hsp, gr_append, List.mem_append]
    show _ ∨ (s : Int) ∈ (if top as < x then ((0 + as.length : Nat) : Int) :: gr x (0 + as.length + 1) bs else gr (top as) (0 + as.length + 1) bs) ↔ _
    constructor
    · rintro (h | h)
      · have := gr_mem as 0 0 _ h
        omega
      · by_cases hc : top as < x
        · exact hc
        · rw [if_neg hc] at h
          have := gr_mem bs _ _ _ h
          omega
    · intro hc
      right
      rw [if_pos hc]
      exact List.mem_cons.mpr (.inl (by omega))
  rw [e1, fw_append]
  cases h1 : fw 0 0 as with
  | some k => rw [h1] at hP2; cases hP2
  | none =>
    rw [h1] at hP2
    have hP3 : (if 1 ≤ x ∧ x ≤ top as + 1 then fw (max (top as) x) (0 + as.length + 1) bs else some (0 + as.length)) = none := hP2
    show (if 1 ≤ x + 1 ∧ x + 1 ≤ top as + 1 then fw (max (top as) (x + 1)) (0 + as.length + 1) bs else some (0 + as.length)) = _
    by_cases hc : 1 ≤ x ∧ x ≤ top as + 1
    · rw [if_pos hc] at hP3
      by_cases hg : top as < x
      · rw [if_neg (by omega), if_pos (hmem.mpr hg), hla, Nat.zero_add]
      · rw [if_pos (by omega), if_neg (fun h => hg (hmem.mp h))]
        exact fw_mono bs _ _ _ _ (by omega) hP3
    · rw [if_neg hc] at hP3
      cases hP3
theorem getD_rg {lo : Int} {k j : Nat} (h : j < k) : (Sa.rg lo k).getD j 0 = lo + j := by
  rw [List.getD_eq_getElem?_getD, Sa.rg_get h]
  rfl
theorem sh_rg {k : Nat} {g : Int} (h0 : 0 ≤ g) (h1 : g ≤ k) : sh (Sa.rg 1 k) g = g := by
  unfold sh
  by_cases h : g = 0
  · rw [if_pos h, h]
  · rw [if_neg h, getD_rg (by omega)]
    omega
theorem po_rg : ∀ k : Nat, Po (Sa.rg 1 k) ∧ top (Sa.rg 1 k) = k
  | 0 => ⟨po_nil, rfl⟩
  | k + 1 => by
    obtain ⟨h1, h2⟩ := po_rg k
    rw [Sa.rg_succ]
    refine ⟨po_snoc.mpr ⟨h1, by omega, by omega⟩, ?_⟩
    rw [top_snoc, h2]
    omega
theorem gr_rg : ∀ k : Nat, gr 0 0 (Sa.rg 1 k) = Sa.rg 0 k
  | 0 => rfl
  | k + 1 => by
    have ht : (Sa.rg 1 k).foldl max 0 = (k : Int) := (po_rg k).2
    rw [Sa.rg_succ, gr_append, gr_rg k, Sa.rg_succ, ht, Sa.rg_len]
    congr 1
    show (if (k : Int) < (1 : Int) + (k : Int) then [((0 + k : Nat) : Int)] else _) = _
    rw [if_pos (by omega)]
    rw [Nat.zero_add, Int.zero_add]
theorem fl_rg (k : Nat) : fl (Sa.rg 1 k) = [] := by
  unfold fl
  rw [List.filter_eq_nil_iff]
  intro i hi
  obtain ⟨h0, h1⟩ := Sa.mem_rg.mp hi
  rw [Sa.rg_len] at h1
  rw [getD_rg (by omega), sh_rg h0 (by omega), decide_eq_true (by omega)]
  decide
/-! ### boards by their calls -/
def run (care : List Int) (l : List Int) : Bo := l.foldl Bo.call (Bo.start care)
theorem run_snoc (care l : List Int) (c : Int) : run care (l ++ [c]) = (run care l).call c := by
  unfold run
  rw [List.foldl_append]
  rfl
theorem run_nil (care : List Int) : run care [] = Bo.start care := rfl
theorem run_care (care : List Int) (l : List Int) : (run care l).care = care := snoc_ind (P := fun l => (run care l).care = care) rfl (fun l x h => by rw [run_snoc, call_care]; exact h) l
theorem run_ok (care : List Int) (l : List Int) : Ok (run care l) := snoc_ind (P := fun l => Ok (run care l)) (ok_start care) (fun l x h => by rw [run_snoc]; exact ok_call h x) l
/-- all careful -/
def Pc (S : Bo) : Prop := S.nums = Sa.rg 1 S.nums.length ∧ S.gps = Sa.rg 0 S.nums.length
theorem pc_now {S : Bo} (h : Pc S) : S.now = S.nums.length := by
  have e := sh_rg (k := S.nums.length) (g := (S.nums.length : Int)) (by omega) (Int.le_refl _)
  unfold Bo.now
  rw [← h.1] at e
  exact e
theorem pc_call {S : Bo} (h : Pc S) (ho : Ok S) {c : Int} (hc : c ∈ S.care) : Pc (S.call c) := by
  cases hh : S.held c with
  | none =>
    rw [(call_none hh).1]
    exact h
  | some ng =>
    obtain ⟨n, g⟩ := ng
    by_cases h1 : c ∈ S.care ∧ n ≠ S.now
    · rw [(call_vain hh h1).1]
      exact h
    · rw [(call_write hh h1).1]
      have hn : n = S.now := Decidable.not_not.mp (fun e => h1 ⟨hc, e⟩)
      obtain ⟨g0, g1, g2⟩ := ho.he c n g hh
      have e := sh_rg (k := S.nums.length) g0 (by omega)
      rw [← h.1, ← g2, hn, pc_now h] at e
      have e1 : (S.write c n g).nums.length = S.nums.length + 1 := by show (S.nums ++ [n + 1]).length = _; simp
      refine ⟨?_, ?_⟩
      · rw [e1, Sa.rg_succ, ← h.1]
        show S.nums ++ [n + 1] = _
        rw [hn, pc_now h]
        congr 2
        omega
      · rw [e1, Sa.rg_succ, ← h.2]
        show S.gps ++ [g] = _
        congr 2
        omega
theorem run_pc {care l : List Int} (h : ∀ c ∈ l, c ∈ care) : Pc (run care l) := by
  revert h
  exact snoc_ind (P := fun l => (∀ c ∈ l, c ∈ care) → Pc (run care l)) (fun _ => ⟨rfl, rfl⟩) (fun l x ih h => by
    rw [run_snoc]
    exact pc_call (ih fun c hc => h c (List.mem_append_left _ hc)) (run_ok care l) (by rw [run_care]; exact h x (List.mem_append_right _ List.mem_cons_self))) l
theorem run_take {care l : List Int} {i : Nat} {c : Int} (h : l[i]? = some c) : run care (l.take (i + 1)) = (run care (l.take i)).call c := by
  rw [Sa.take_at h, run_snoc]
theorem run_len (care : List Int) (l : List Int) : (run care l).nums.length ≤ l.length := snoc_ind (P := fun l => (run care l).nums.length ≤ l.length) (Nat.le_refl _) (fun l x h => by
  rw [run_snoc, List.length_append, List.length_singleton]
  cases hh : (run care l).held x with
  | none =>
    rw [(call_none hh).1]
    exact Nat.le_succ_of_le h
  | some ng =>
    obtain ⟨n, g⟩ := ng
    by_cases h1 : x ∈ (run care l).care ∧ n ≠ (run care l).now
    · rw [(call_vain hh h1).1]
      exact Nat.le_succ_of_le h
    · rw [(call_write hh h1).1]
      show ((run care l).nums ++ [n + 1]).length ≤ _
      rw [List.length_append, List.length_singleton]
      omega) l
theorem good_rg (k : Nat) : GoodG (Sa.rg 0 k) := fun i h => by
  rw [Sa.rg_len] at h
  rw [getD_rg h]
  omega
theorem chainD_rg {k : Nat} : ∀ (m : Nat), m ≤ k → (chainD (Sa.rg 0 k) ((m : Int) - 1)).reverse = Sa.rg 0 m
  | 0, _ => by
    rw [chainD_neg _ (by omega)]
    rfl
  | m + 1, h => by
    rw [chainD_pos (good_rg k) (by omega) (by rw [Sa.rg_len]; omega), List.reverse_cons, getD_rg (by omega), show (0 : Int) + (((((m + 1 : Nat) : Int) - 1).toNat : Nat) : Int) - 1 = (m : Int) - 1 by omega, chainD_rg m (by omega), Sa.rg_succ]
    congr 2
    omega
theorem chain_rg (k : Nat) : chainL (Sa.rg 0 k) = Sa.rg 0 k := by
  unfold chainL
  rw [Sa.rg_len]
  exact chainD_rg k (Nat.le_refl _)
theorem run_wrs (care : List Int) (l : List Int) : (run care l).wrs.length = (run care l).nums.length := snoc_ind (P := fun l => (run care l).wrs.length = (run care l).nums.length) rfl (fun l x h => by
  rw [run_snoc]
  cases hh : (run care l).held x with
  | none =>
    rw [(call_none hh).1]
    exact h
  | some ng =>
    obtain ⟨n, g⟩ := ng
    by_cases h1 : x ∈ (run care l).care ∧ n ≠ (run care l).now
    · rw [(call_vain hh h1).1]
      exact h
    · rw [(call_write hh h1).1]
      show ((run care l).wrs ++ [x]).length = ((run care l).nums ++ [n + 1]).length
      rw [List.length_append, List.length_append, h]
      rfl) l
theorem run_calls (care : List Int) (l : List Int) : (run care l).calls = l := snoc_ind (P := fun l => (run care l).calls = l) rfl (fun l x h => by
  rw [run_snoc]
  cases hh : (run care l).held x with
  | none =>
    rw [(call_none hh).1]
    show (run care l).calls ++ [x] = l ++ [x]
    rw [h]
  | some ng =>
    obtain ⟨n, g⟩ := ng
    by_cases h1 : x ∈ (run care l).care ∧ n ≠ (run care l).now
    · rw [(call_vain hh h1).1]
      show (run care l).calls ++ [x] = l ++ [x]
      rw [h]
    · rw [(call_write hh h1).1]
      show (run care l).calls ++ [x] = l ++ [x]
      rw [h]) l
/-! ### the walk's small words -/
local macro_rules | `(tactic| walk_at "in1") => `(tactic| first
  | with_reducible exact Sa.In1.hd
  | assumption
  | ((with_reducible apply Sa.In1.tl); walk_at "in1"))
local macro_rules | `(tactic| walk_at "fp") => `(tactic| first | (show Sa.fpos _ _ = some 0; decide +kernel) | (show Sa.fpos _ _ = some 1; decide +kernel) | (show Sa.fpos _ _ = some 2; decide +kernel) | (show Sa.fpos _ _ = some 3; decide +kernel) | (show Sa.fpos _ _ = some 4; decide +kernel) | (show Sa.fpos _ _ = some 5; decide +kernel) | (show Sa.fpos _ _ = some 6; decide +kernel))
local macro_rules | `(tactic| walk_at "atg") => `(tactic| first
  | ((with_reducible show At _ _ (Sa.fI (Ba.b _) _ _ _)); exact at_board (by walk_at "grp"))
  | ((with_reducible show At _ _ (fQ _ (Sad.st _) _)); exact Sa.At.q (at_st (by walk_at "grp")))
  | ((with_reducible show At _ _ (fQ _ (Sad.nu _) _)); exact Sa.At.q (at_nu (by walk_at "grp")))
  | ((with_reducible show At _ _ (fQ _ (Sad.wr _) _)); exact Sa.At.q (at_wr (by walk_at "grp")))
  | ((with_reducible show At _ _ (fQ _ (Sad.ga _) _)); exact Sa.At.q (at_ga (by walk_at "grp")))
  | ((with_reducible show At _ _ (fL (Sad.nu _) _)); exact at_nu (by walk_at "grp"))
  | ((with_reducible show At _ _ (fL (Sad.wr _) _)); exact at_wr (by walk_at "grp"))
  | ((with_reducible show At _ _ (fL (Sad.ga _) _)); exact at_ga (by walk_at "grp"))
  | ((with_reducible show At _ _ (Sa.fK (Sad.he _) _)); exact at_he (by walk_at "grp")))
local macro_rules | `(tactic| walk_at "atM") => `(tactic| first
  | assumption
  | with_reducible exact Sa.At.q (by assumption)
  | with_reducible exact Sa.At.cellL List.mem_cons_self
  | with_reducible exact Sa.At.q (Sa.At.cellL List.mem_cons_self)
  | with_reducible exact Sa.At.dL (by assumption)
  | with_reducible exact Sa.At.dL (Sa.At.cellL List.mem_cons_self)
  | with_reducible exact Sa.At.nilQ List.mem_cons_self
  | with_reducible exact Sa.At.nilL List.mem_cons_self
  | with_reducible exact Sa.At.cellT List.mem_cons_self
  | with_reducible exact Sa.At.cellK List.mem_cons_self
  | with_reducible exact Sa.At.ins List.mem_cons_self
  | ((with_reducible apply Sa.At.tm); walk_at "atM")
  | ((with_reducible apply Sa.At.ap); walk_at "atM"))
local macro_rules | `(tactic| walk_at "atL") => `(tactic| first
  | with_reducible exact Sa.At.hd
  | with_reducible exact Sa.At.q Sa.At.hd
  | with_reducible exact Sa.At.u Sa.At.hd
  | with_reducible exact Sa.At.dL Sa.At.hd
  | with_reducible exact Sa.At.u (by assumption)
  | ((with_reducible apply Sa.At.tl); walk_at "atL"))
local macro_rules | `(tactic| walk_at "atd") => `(tactic| first
  | exact Sa.At.cellL List.mem_cons_self
  | exact Sa.At.q (Sa.At.cellL List.mem_cons_self)
  | exact Sa.At.dL (Sa.At.cellL List.mem_cons_self)
  | ((with_reducible apply Sa.At.tm); walk_at "atd"))
local macro_rules | `(tactic| walk_at "atm2") => `(tactic| first
  | assumption
  | with_reducible exact Sa.At.q (by assumption)
  | with_reducible exact Sa.At.dL (by assumption)
  | ((with_reducible apply Sa.At.tm); walk_at "atm2")
  | ((with_reducible apply Sa.At.ap); walk_at "atm2"))
local macro_rules | `(tactic| walk_at "atm") => `(tactic| first
  | walk_at "atm2"
  | ((with_reducible apply Sa.At.tl); walk_at "atm"))
local macro_rules | `(tactic| walk_at "at") => `(tactic| first
  | assumption
  | with_reducible exact Sa.At.int
  | with_reducible exact Sa.At.bl
  | with_reducible exact Sa.At.non
  | with_reducible exact Sa.At.str
  | walk_at "atg"
  | walk_at "atM"
  | walk_at "atL"
  | walk_at "atm"
  | exact Sa.At.int
  | exact Sa.At.non
  | walk_at "atd")
local macro_rules | `(tactic| walk_at "chg") => `(tactic| first
  | with_reducible exact Sa.Chg.hd
  | exact Sa.Chg.hd
  | ((with_reducible apply Sa.Chg.tl); walk_at "chg")
  | ((with_reducible apply Sa.Chg.app); walk_at "chg"))
local macro_rules | `(tactic| walk_at "del") => `(tactic| first
  | with_reducible exact Sa.Del.hd
  | exact Sa.Del.hd
  | ((with_reducible apply Sa.Del.tl); walk_at "del")
  | ((with_reducible apply Sa.Del.app); walk_at "del"))
local macro_rules | `(tactic| walk_at "grp") => `(tactic| first
  | assumption
  | with_reducible exact Sa.Grp.hd
  | ((with_reducible apply Sa.Grp.tl); walk_at "grp")
  | ((with_reducible apply Sa.Grp.ap); walk_at "grp"))
local macro_rules | `(tactic| walk_at "sub") => `(tactic| first
  | with_reducible exact Sa.Sub.nil
  | with_reducible exact Sa.Sub.rest
  | ((with_reducible apply Sa.Sub.cons); (walk_at "in1"); (walk_at "sub"))
  | ((with_reducible apply Sa.Sub.tl); walk_at "sub"))
local macro_rules | `(tactic| walk_at "sam") => `(tactic| first
  | with_reducible exact Sa.SubM.same
  | ((with_reducible apply Sa.SubM.cons); (walk_at "del"); (walk_at "sam"))
  | ((with_reducible apply Sa.SubM.grp); (walk_at "grp"); (walk_at "sam"))
  | ((with_reducible apply Sa.SubM.skip); walk_at "sam")
  | ((with_reducible apply Sa.SubM.skipB); walk_at "sam"))
local macro_rules | `(tactic| walk_at "sa2") => `(tactic| exact Sa.SA.take (by assumption) (by walk_at "sub") (by walk_at "sam"))
local macro_rules | `(tactic| walk_at "pick") => `(tactic| first
  | with_reducible exact Sa.Pick.done
  | ((with_reducible apply Sa.Pick.cons); (walk_at "del"); (walk_at "pick"))
  | ((with_reducible apply Sa.Pick.skip); walk_at "pick"))
local macro_rules | `(tactic| walk_at "sa") => `(tactic| first
  | assumption
  | exact Sa.SA.pick (by assumption) (by walk_at "pick")
  | exact Sa.SA.pick (Sa.SA.drop (by assumption)) (by walk_at "pick")
  | exact Sa.SA.pick (Sa.SA.drop (Sa.SA.drop (by assumption))) (by walk_at "pick")
  | exact Sa.SA.pick (Sa.SA.drop (Sa.SA.drop (Sa.SA.drop (by assumption)))) (by walk_at "pick"))
local macro_rules | `(tactic| walk_at "len") => `(tactic| first
  | (obtain ⟨_, rfl, _⟩ := ‹Exists _›; rfl)
  | (obtain ⟨_, _, rfl, _⟩ := ‹Exists _›; rfl)
  | (obtain ⟨_, _, _, rfl, _⟩ := ‹Exists _›; rfl)
  | (obtain ⟨_, _, _, _, rfl, _⟩ := ‹Exists _›; rfl)
  | (obtain ⟨_, _, _, _, _, rfl, _⟩ := ‹Exists _›; rfl)
  | (obtain ⟨_, _, _, _, _, _, rfl, _⟩ := ‹Exists _›; rfl)
  | (obtain ⟨_, _, _, _, _, _, _, rfl, _⟩ := ‹Exists _›; rfl)
  | (obtain ⟨_, _, _, _, _, _, _, _, rfl, _⟩ := ‹Exists _›; rfl))
local macro_rules | `(tactic| walk_at "om") => `(tactic| first | omega | (simp only [List.length_map, List.length_append, List.length_cons, List.length_nil, List.length_set, List.length_range, List.length_take, List.length_drop, List.length_replicate, List.length_reverse, List.length_dropLast, Sa.rg_len, Sa.en2_len] <;> omega))
local macro_rules | `(tactic| walk_at "sA") => `(tactic| first
  | refine Sa.Go.go ?_
  | ((with_reducible show tVar _ _ _ _); refine Sa.st_var rfl ?_))
local macro_rules | `(tactic| walk_at "sB") => `(tactic| first
  | ((with_reducible show Sa.DG2b _ _ _ _ _); refine Sa.st_DG2e (by assumption) (by walk_at "at") (by assumption) ?_)
  | ((with_reducible show tyV _ "list" (V.ref _) _ ∧ _); refine Sa.st_tyL (by assumption) (by walk_at "at") ?_)
  | ((with_reducible show rAppend _ [V.int _] _ _); refine Sa.st_appI (by assumption) (by walk_at "chg") (by walk_at "om") (fun _ _ => ?_))
  | ((with_reducible show rI Sa.CPowW _ (V.int _) (V.int _) _ _); refine Sa.st_pow (by omega) (by omega) (by omega) (by omega) ?_; try simp only [Int.reduceToNat, Int.reducePow])
  | ((with_reducible show rI Sa.CDivX _ (V.int _) (V.int _) _ _); refine Sa.st_div (by omega) (by omega) ?_)
  | ((with_reducible show rI Sa.CModX _ (V.int _) (V.int _) _ _); refine Sa.st_mod (by omega) ?_)
  | ((with_reducible show tAug _ _ _ _ _ _); refine Sa.st_aug rfl ?_)
  | ((with_reducible show Sa.DNi _ _ _ _); refine Sa.st_DNi (by assumption) (by walk_at "at") ?_)
  | ((with_reducible show Sa.DIi _ _ _ _); refine Sa.st_DIi (by assumption) (by walk_at "at") ?_)
  | ((with_reducible show rIxT _ (V.ref _) (V.int _) _ _); refine Sa.st_ixT (by assumption) (by walk_at "at") (by rfl) ?_)
  | ((with_reducible show Sa.FldA _ _ (V.ref _) _ _); refine Sa.st_FldA (by assumption) (by walk_at "at") (by assumption) (by assumption) (by walk_at "fp") (by rfl) ?_)
  | ((with_reducible show Sa.MethA _ _ (V.ref _) _ _); refine Sa.st_MethA (by assumption) (by walk_at "at") (by decide +kernel) ?_)
  | ((with_reducible show gTup _ _ _ (V.ref _) _ _ _); refine Sa.st_gtup (by assumption) (by walk_at "at") (by rfl) ?_)
  | ((with_reducible show rI Sa.CMulX _ (V.int _) (V.int _) _ _); first | refine Sa.st_mul1 (by omega) (by omega) ?_ | refine Sa.st_mul2 (by omega) (by omega) ?_)
  | ((with_reducible show Sa.rLen _ _ _ _); first | refine Sa.st_lenD (by assumption) ?_ | refine Sa.st_lenU (by assumption) ?_ | refine Sa.st_lenI (by assumption) (by walk_at "at") ?_ | refine Sa.st_lenL (by assumption) (by walk_at "at") ?_ | refine Sa.st_lenT (by assumption) (by walk_at "at") ?_)
  | ((with_reducible show Sa.rListOf _ _ _ _); refine Sa.st_listOf (by assumption) (by walk_at "at") (fun _ _ _ => ?_))
  | ((with_reducible show rIxL _ (V.ref _) (V.int _) _ _); refine Sa.st_ixL (by assumption) (by walk_at "at") (by first | exact Sa.atI_ints (by walk_at "om") (by walk_at "om") | exact Sa.atI_neg (by walk_at "om") (by walk_at "om") | rfl) ?_)
  | ((with_reducible show rNeD _ _ _ _ _); first | refine Sa.st_neL0 (by assumption) (by walk_at "at") (by walk_at "at") ?_ | refine Sa.st_neL (by assumption) (by walk_at "at") (by walk_at "at") ?_)
  | ((with_reducible show rEqD _ _ _ _ _); first | refine Sa.st_eqL0 (by assumption) (by walk_at "at") (by walk_at "at") ?_ | refine Sa.st_eqL (by assumption) (by walk_at "at") (by walk_at "at") ?_)
  | ((with_reducible show StX.InsC _ _ _ _ ∧ _); refine Sa.st_InsC (by assumption) (by walk_at "at") ?_)
  | ((with_reducible show Sa.DGt (V.ref _) (V.int _) _ _); refine Sa.st_DGt (by assumption) (by walk_at "at") (by assumption) ?_)
  | ((with_reducible show rAppend _ [_] _ _); refine Sa.st_app (by assumption) (by walk_at "chg") (by walk_at "om") (fun _ _ => ?_)))
local macro_rules | `(tactic| walk_at "sC") => `(tactic| first
  | ((with_reducible show rIsi _ [V.int _, V.ty "int"] _ _); refine Sa.st_kInt (.int _) ?_; try dsimp only [Sa.kInt])
  | ((with_reducible show rIsi _ [V.int _, V.ty "bool"] _ _); refine Sa.st_kBool (.int _) ?_; try dsimp only [Sa.kBool])
  | ((with_reducible show rIsi _ [_, V.ty "bool"] _ _); refine Sa.st_kBool (by assumption) ?_; try dsimp only [Sa.kBool])
  | ((with_reducible show rIsi _ [_, V.ty "int"] _ _); refine Sa.st_kInt (by assumption) ?_; try dsimp only [Sa.kInt])
  | ((with_reducible show rIsi _ [_, V.ty "str"] _ _); refine Sa.st_kStr (by assumption) ?_; try dsimp only [Sa.kStr])
  | ((with_reducible show rIsi _ [_, V.ty "list"] _ _); refine Sa.st_kList (by assumption) ?_; try dsimp only [Sa.kList])
  | ((with_reducible show rIsi _ [_, V.ty "tuple"] _ _); refine Sa.st_kTuple (by assumption) ?_; try dsimp only [Sa.kTuple])
  | ((with_reducible show rSlL _ _ none (some _) _ _); refine Sa.st_slTo (by assumption) (by walk_at "at") (by walk_at "om") (fun _ _ _ => ?_))
  | ((with_reducible show rSlL _ _ (some _) none _ _); refine Sa.st_slFrom (by assumption) (by walk_at "at") (by walk_at "om") (fun _ _ _ => ?_))
  | ((with_reducible show rCat _ _ _ _); first | refine Sa.st_catI1 (by assumption) (by walk_at "at") (by walk_at "at") (by walk_at "om") (fun _ _ _ => ?_) | refine Sa.st_catI (by assumption) (by walk_at "at") (by walk_at "at") (by walk_at "om") (fun _ _ _ => ?_))
  | ((with_reducible show Sa.DG2a _ _ _ _ _ _); refine Sa.st_DG2a (by assumption) (by walk_at "at") ?_)
  | ((with_reducible show Sa.DG2b _ _ _ _ _); refine Sa.st_DG2b (by assumption) (by walk_at "at") ?_)
  | ((with_reducible show Sa.DPu _ _ _ _ _); refine Sa.st_DPu (by assumption) (by walk_at "chg") (by walk_at "om") (fun _ _ => ?_))
  | ((with_reducible show tDNewK _ _ _); refine Sa.st_dnew (by assumption) (fun _ _ _ => ?_))
  | ((with_reducible show tDisp [_] _ _ _); refine Sa.st_disp1 (by assumption) (fun _ _ _ => ?_))
  | ((with_reducible show Sa.DDs [_] _ _ _); refine Sa.st_DDs1 (by assumption) (fun _ _ => ?_))
  | ((with_reducible show Sa.LRg _ _ _ _); refine Sa.st_LRg (by assumption) (by walk_at "om") (by walk_at "om") (by walk_at "om") (by walk_at "om") (fun _ _ _ => ?_))
  | ((with_reducible show rIn _ false (V.int _) _ _ _); refine Sa.st_in (by assumption) (by walk_at "at") ?_)
  | ((with_reducible show rIn _ true (V.int _) _ _ _); refine Sa.st_notIn (by assumption) (by walk_at "at") ?_)
  | ((with_reducible show rSetL _ (V.int _) _ _ _); first | refine Sa.st_setI (by assumption) (by walk_at "chg") (by walk_at "om") (by walk_at "om") (fun _ _ => ?_) | refine Sa.st_setN (by assumption) (by walk_at "chg") (by omega) (by walk_at "om") (fun _ _ => ?_) | refine Sa.st_setL (by assumption) (by walk_at "chg") (by rfl) (fun _ _ => ?_))
  | ((with_reducible show Sa.SetFrom _ _ _ _ _); refine Sa.st_from1 (by assumption) (by walk_at "chg") (by omega) (by walk_at "om") (by walk_at "om") (fun _ _ => ?_))
  | ((with_reducible show Sa.FldP _ _ (V.ref _) _ _ _); refine Sa.st_FldN (by assumption) (by walk_at "chg") (by assumption) (by assumption) (by decide +kernel) (by rfl) (by decide +kernel) (fun _ _ => ?_))
  | ((with_reducible show Sa.MakeA _ _ _ _ _); refine Sa.st_MakeA (by assumption) (fun _ _ _ _ => ?_))
  | ((with_reducible show Sa.DDe _ (V.int _) _ _); refine Sa.st_DDe (by assumption) (by walk_at "chg") (by first | assumption | simp only [*, Option.isSome]) (fun _ _ => ?_))
  | ((with_reducible show Sa.DPa _ _ (V.ref _) _ _); refine Sa.st_DPa (by assumption) (by walk_at "at") ?_)
  | ((with_reducible show Sa.DPb _ (V.int _) _ _); refine Sa.st_DPb (by assumption) (by walk_at "chg") (by assumption) (fun _ _ => ?_))
  | ((with_reducible show rPop (V.ref _) _ _ _); refine Sa.st_popI (by assumption) (by walk_at "chg") (by walk_at "om") (fun _ _ => ?_))
  | ((with_reducible show Sa.DSa _ _ _ (V.ref _) _ _); refine Sa.st_DSa (by assumption) (by walk_at "at") ?_)
  | ((with_reducible show rCntI _ (V.ref _) [V.int _] _ _); refine Sa.st_count (by assumption) (by walk_at "at") ?_)
  | ((with_reducible show rReverse (V.ref _) _ _ _); refine Sa.st_rev (by assumption) (by walk_at "chg") (fun _ _ => ?_))
  | ((with_reducible show Sa.rLenO _ _ _ [V.ref _] _ _); refine Sa.st_lenO (by assumption) (by walk_at "at") ?_)
  | ((with_reducible show 0 ≤ _ ∧ _ < 2 ^ 63 ∧ _); refine ⟨by omega, by omega, ?_⟩)
  | ((with_reducible show Sa.RevA _ (V.ref _) _ _); refine Sa.st_RevA (by assumption) (by walk_at "at") (fun _ _ _ => ?_))
  | ((with_reducible show Sa.LcAdd _ (V.int _) _ _); refine Sa.st_lcaddI (by assumption) (by walk_at "chg") (by walk_at "om") (fun _ _ => ?_)))
local macro_rules | `(tactic| walk_at "s1") => `(tactic| first | walk_at "sA" | walk_at "sB" | walk_at "sC")
local macro_rules | `(tactic| walk_at "go") => `(tactic| repeat walk_at "s1")
local macro_rules | `(tactic| walk_at "s0") => `(tactic| first | ((with_reducible show Sa.NewL _ _ _); refine Sa.st_newL (by assumption) (by walk_at "om") (fun _ _ _ => ?_)) | ((with_reducible show Sa.NewT _ _ _); refine Sa.st_newU (by assumption) (by walk_at "om") (fun _ _ _ => ?_)))
local macro_rules | `(tactic| walk_at "gn") => `(tactic| repeat (first | walk_at "sA" | walk_at "sB" | walk_at "s0" | walk_at "sC"))
local macro_rules | `(tactic| walk_at "st") => `(tactic| simp only [Sa.cxK, Sa.cxK', Sa.asg2, Sa.asg3, Sa.asg2t, L2.start, List.map_cons, List.map_nil, List.length_cons, List.length_nil, Nat.zero_add, Nat.reduceAdd, Nat.reduceSub, List.replicate_succ, List.replicate_zero, List.cons_append, List.nil_append, List.replicate])
local macro_rules | `(tactic| walk_at "if") => `(tactic| (refine Sa.if_dec (fun _ => ?_) (fun _ => ?_)))
local macro_rules | `(tactic| walk_at "nm") => `(tactic| (try dsimp only [List.set_cons_succ, List.set_cons_zero]))
local macro_rules | `(tactic| walk_at "mn") => `(tactic| (intro x hx; simp only [List.mem_cons, List.not_mem_nil, or_false] at hx; omega))
local macro_rules | `(tactic| walk_at "yes") => `(tactic| refine Sa.if_dec (fun _ => ?_) (fun h => absurd (by first | trivial | rfl) h))
local macro_rules | `(tactic| walk_at "no") => `(tactic| refine Sa.if_dec (fun h => by cases h) (fun _ => ?_))
local macro_rules | `(tactic| walk_at "atD") => `(tactic| first
  | walk_at "at"
  | (with_reducible apply Sa.At.lst; (walk_at "at"); (walk_at "ats"))
  | (with_reducible apply Sa.At.tup; (walk_at "at"); (walk_at "ats")))
local macro_rules | `(tactic| walk_at "ats") => `(tactic| first
  | with_reducible exact Sa.At.nil
  | (with_reducible apply Sa.At.cons; (walk_at "atD"); (walk_at "ats")))
local macro_rules | `(tactic| walk_at "dp") => `(tactic| first
  | exact Sa.depth_int | exact Sa.depth_ints | exact Sa.depth_bool | exact Sa.depth_none
  | (simp [PyData.depth, PyData.depthAll, Sa.depthAll_ints]; done)
  | (simp only [PyData.depth, PyData.depthAll, Sa.depthAll_ints]; omega))
local macro_rules | `(tactic| walk_at "dw") => `(tactic| first | exact Nat.zero_le _ | (simp only [wid, widAll, wid_ints]; omega))
local macro_rules | `(tactic| walk_at "dt") => `(tactic| first | rfl | (simp only [noTxt, noTxtAll, noTxt_ints, Bool.and_self, Bool.and_true, Bool.true_and]; done))
local macro_rules | `(tactic| walk_at "call") => `(tactic| fail)
local macro_rules | `(tactic| walk_at "dec") => `(tactic| ((with_reducible show ite (decide _ = true) _ _); first
  | (refine Sa.if_yes (by with_reducible rfl) ?_)
  | (refine Sa.if_yes (by omega) ?_)
  | (refine Sa.if_no (by omega) ?_)
  | (refine Sa.if_no (fun h => V.noConfusion h) ?_)))
local macro_rules | `(tactic| walk_at "sD") => `(tactic| first
  | ((with_reducible show gLst _ _ _ (V.ref _) _ _ _); refine Sa.st_glst (by assumption) (by walk_at "at") (by rfl) ?_)
  | ((with_reducible show Sa.ipC Sa.CMulX _ (V.int _) (V.int _) _ _); refine Sa.st_imul2 (by omega) (by omega) ?_)
  | ((with_reducible show rSum _ [V.ref _] _ _); refine Sa.st_sum (by assumption) (by walk_at "at") ?_)
  | ((with_reducible show rMax _ [V.ref _] _ _); refine Sa.st_max (by assumption) (by walk_at "at") (by walk_at "om") (fun _ _ _ => ?_))
  | ((with_reducible show Sa.InsA (V.ref _) [V.int _, V.int _] _ _); refine Sa.st_insI (by assumption) (by walk_at "chg") (by walk_at "om") (by omega) (by omega) (fun _ _ => ?_))
  | ((with_reducible show rPopAt (V.ref _) [V.int _] _ _); refine Sa.st_popAtI (by assumption) (by walk_at "chg") (by omega) (by walk_at "om") (by walk_at "om") (fun _ _ => ?_))
  | ((with_reducible show rClear (V.ref _) [] _ _); refine Sa.st_clear (by assumption) (by walk_at "chg") (fun _ _ => ?_))
  | ((with_reducible show rRep (V.ref _) (V.int _) _ _); refine Sa.st_repI (by assumption) (by walk_at "at") (by omega) (by omega) (fun _ _ _ => ?_))
  | ((with_reducible show rCat _ _ _ _); refine Sa.st_cat1I (by assumption) (by walk_at "at") (by walk_at "at") (by walk_at "om") (fun _ _ _ => ?_)))
local macro_rules | `(tactic| walk_at "au") => `(tactic| repeat (first | walk_at "sA" | walk_at "sB" | walk_at "s0" | walk_at "sC" | walk_at "sD" | walk_at "call" | walk_at "dec"))
local macro_rules | `(tactic| walk_at "gd") => `(tactic| repeat (first | walk_at "sA" | walk_at "sB" | walk_at "s0" | walk_at "sC" | walk_at "sD"))
local macro_rules | `(tactic| walk_at "nt") => `(tactic| first
  | assumption
  | exact nt_nil
  | ((with_reducible apply nt_cons); (first | exact (fun _ z => HO.noConfusion z) | exact jar_nt (by assumption)); walk_at "nt")
  | ((with_reducible apply nt_app); (walk_at "nt"); (walk_at "nt")))
local macro_rules | `(tactic| walk_at "atT") => `(tactic| first
  | assumption
  | with_reducible exact At.cellKT List.mem_cons_self
  | ((with_reducible apply Sa.At.tm); walk_at "atT")
  | ((with_reducible apply Sa.At.ap); walk_at "atT"))
local macro_rules | `(tactic| walk_at "sT") => `(tactic| first
  | ((with_reducible show rRepA _ (V.ref _) (V.int _) _ _); refine st_repA (by assumption) (by walk_at "in1") (by omega) (by omega) (fun _ _ _ => ?_))
  | ((with_reducible show rCatA _ (V.ref _) (V.ref _) _ _); refine st_catAI (by assumption) (by walk_at "in1") (by walk_at "in1") (by walk_at "om") (fun _ _ _ => ?_))
  | ((with_reducible show rSlA _ (V.ref _) none (some _) _ _); refine st_slToA (by assumption) (by walk_at "in1") (by omega) (fun _ _ _ => ?_))
  | ((with_reducible show rSlA _ (V.ref _) (some _) none _ _); refine st_slFromA (by assumption) (by walk_at "in1") (by omega) (fun _ _ _ => ?_))
  | ((with_reducible show tDNewT _ _ _); refine st_dnewT (by assumption) (fun _ _ _ => ?_))
  | ((with_reducible show tDispT [_] _ _ _); refine st_dispT (by assumption) (fun _ _ _ => ?_))
  | ((with_reducible show Sa.DG2a _ _ _ _ _ _); refine st_DGT (by assumption) (by walk_at "atT") ?_)
  | ((with_reducible show Sa.DG2b _ (V.ref _) (V.int 0) _ _); refine st_DGTb (by assumption) (by walk_at "atT") (by walk_at "at") ?_))
local macro_rules | `(tactic| walk_at "gt") => `(tactic| repeat (first | walk_at "sA" | walk_at "sT" | walk_at "sB" | walk_at "s0" | walk_at "sC"))
def sp_Board_writes (K : PySem.W.Frag) (C : Addr) : Sp := fun vs H Q _ => ∃ R : Ba, vs = [.ref R.b] ∧ ∃ (L : List Fc) (M0 M : List Cell) (kvs : List (Key × V)) (des : List V) (S : Bo), SA L M0 H ∧ Sa.Grp M0 (bcells C R kvs des S) M ∧
  ∀ p H', SA L ((p, .lst (S.nums.map V.int)) :: M0) H' → Q (.ref p) H'
theorem sc_Board_writes : FnScope ["self"] ["self"] (defScope s_Board_writes) := ⟨rfl, rfl, rfl, by decide +kernel, rfl, by decide +kernel, by decide +kernel⟩
abbrev Ok_Board_writes (P : Program) (w : World) (K : PySem.W.Frag) (mg : Str → Option Value) (base : Heap) : Prop := ∃ f fd, Fun K "writes" "Board.writes" s_Board_writes f fd ∧ Meth K (Sa.clsOf mg "Board") "writes" f ∧ FnOk P w K mg base CX0 1 f fd ["self"] (sp_Board_writes K (Sa.clsOf mg "Board"))
theorem ok_Board_writes {P : Program} {w : World} {K : PySem.W.Frag} {mg : Str → Option Value} {base : Heap} (T : Top K mg) : Ok_Board_writes P w K mg base := by
  obtain ⟨f, fd, F, m⟩ := T.d_Board_writes
  have k_Board := T.k_Board
  have a_Board__careful := T.a_Board__careful
  have a_Board__calls := T.a_Board__calls
  have a_Board__deeds := T.a_Board__deeds
  have a_Board__held := T.a_Board__held
  have a_Board__numbers := T.a_Board__numbers
  have a_Board__writers := T.a_Board__writers
  have a_Board__gaps := T.a_Board__gaps
  refine ⟨f, fd, F, m, F.ok sc_Board_writes (fun vs H Q E h => by first | (obtain ⟨_, rfl, _⟩ := h; rfl) | (obtain ⟨_, _, rfl, _⟩ := h; rfl) | (obtain ⟨_, _, _, rfl, _⟩ := h; rfl) | (obtain ⟨_, _, _, _, rfl, _⟩ := h; rfl) | (obtain ⟨_, _, _, _, _, rfl, _⟩ := h; rfl) | (obtain ⟨_, _, _, _, _, _, rfl, _⟩ := h; rfl) | (obtain ⟨_, _, _, _, _, _, _, rfl, _⟩ := h; rfl) | (obtain ⟨_, _, _, _, _, _, _, _, rfl, _⟩ := h; rfl)) (fun cdv A outer s H vs Q E hr h => ?_)⟩
  refine ⟨_, (pss_one (ps_ret (pe_callTy Sa.call_list_of (by rfl) T.z_list (by decide +kernel) (pa_cons (pe_fld (pv 0) rfl) pa_nil)))), ?_⟩
  obtain ⟨R, rfl, L, M0, M, kvs, des, S, hS, hg, q⟩ := h
  have hS1 := hS.grp hg
  simp only [bcells_eq, List.cons_append, List.nil_append] at hS1
  walk_at "st"
  walk_at "gn"
  exact q _ _ (bc_back1 hg (by assumption))

def sp_Board___eq__ (K : PySem.W.Frag) (C : Addr) : Sp := fun vs H Q _ => ∃ (R1 : Ba) (v : V), vs = [.ref R1.b, v] ∧ ((∃ (R2 : Ba), v = .ref R2.b ∧ ∃ (L : List Fc) (M0 M1 M2 : List Cell) (kv1 kv2 : List (Key × V)) (de1 de2 : List V) (S1 S2 : Bo), SA L M0 H ∧ Sa.Grp M0 (bcells C R1 kv1 de1 S1) M1 ∧ Sa.Grp M0 (bcells C R2 kv2 de2 S2) M2 ∧
  ∀ H', SA L M0 H' → Q (.bl (decide (S1.care = S2.care) && decide (S1.calls = S2.calls))) H') ∨ (∃ (L : List Fc) (M : List Cell) (d : PyData), SA L M H ∧ At L M (fD K v d) ∧ ∀ H', SA L M H' → Q (.bl false) H'))
theorem sc_Board___eq__ : FnScope ["self", "other"] ["self", "other"] (defScope s_Board___eq__) := ⟨rfl, rfl, rfl, by decide +kernel, rfl, by decide +kernel, by decide +kernel⟩
abbrev Ok_Board___eq__ (P : Program) (w : World) (K : PySem.W.Frag) (mg : Str → Option Value) (base : Heap) : Prop := ∃ f fd, Fun K "__eq__" "Board.__eq__" s_Board___eq__ f fd ∧ Meth K (Sa.clsOf mg "Board") "__eq__" f ∧ FnOk P w K mg base CX0 1 f fd ["self", "other"] (sp_Board___eq__ K (Sa.clsOf mg "Board"))
theorem ok_Board___eq__ {P : Program} {w : World} {K : PySem.W.Frag} {mg : Str → Option Value} {base : Heap} (T : Top K mg) : Ok_Board___eq__ P w K mg base := by
  obtain ⟨f, fd, F, m⟩ := T.d_Board___eq__
  have k_Board := T.k_Board
  have a_Board__careful := T.a_Board__careful
  have a_Board__calls := T.a_Board__calls
  have a_Board__deeds := T.a_Board__deeds
  have a_Board__held := T.a_Board__held
  have a_Board__numbers := T.a_Board__numbers
  have a_Board__writers := T.a_Board__writers
  have a_Board__gaps := T.a_Board__gaps
  refine ⟨f, fd, F, m, F.ok sc_Board___eq__ (fun vs H Q E h => by first | (obtain ⟨_, rfl, _⟩ := h; rfl) | (obtain ⟨_, _, rfl, _⟩ := h; rfl) | (obtain ⟨_, _, _, rfl, _⟩ := h; rfl) | (obtain ⟨_, _, _, _, rfl, _⟩ := h; rfl) | (obtain ⟨_, _, _, _, _, rfl, _⟩ := h; rfl) | (obtain ⟨_, _, _, _, _, _, rfl, _⟩ := h; rfl) | (obtain ⟨_, _, _, _, _, _, _, rfl, _⟩ := h; rfl) | (obtain ⟨_, _, _, _, _, _, _, _, rfl, _⟩ := h; rfl)) (fun cdv A outer s H vs Q E hr h => ?_)⟩
  refine ⟨_, (pss_one (ps_ret (pe_and (pe_callB call_isi (by rfl) T.z_isinstance (by decide +kernel) (pa_cons (pv 1) (pa_cons (pe_glob (v := .ref (Sa.clsOf mg "Board")) rfl T.g_Board rfl) pa_nil))) (pe_and (pe_cmpR (op_eqD hr.units) (pe_fld (pv 0) rfl) (pe_fld (pv 1) rfl) (nomark _)) (pe_one (pe_cmpR (op_eqD hr.units) (pe_fld (pv 0) rfl) (pe_fld (pv 1) rfl) (nomark _))))))), ?_⟩
  obtain ⟨R1, v, rfl, h⟩ := h
  obtain ⟨qa, qn, qt, qm⟩ := T.q_Board
  obtain ⟨ic, ty⟩ := T.t_Board
  rcases h with ⟨R2, rfl, L, M0, M1, M2, kv1, kv2, de1, de2, S1, S2, hS, hg1, hg2, q⟩ | ⟨L, M, d, hS, hd, q⟩
  · have b1 := at_board (L := L) hg1
    have b2 := at_board (L := L) hg2
    have c1 := at_ca (L := L) hg1
    have c2 := at_ca (L := L) hg2
    have d1 := at_cl (L := L) hg1
    have d2 := at_cl (L := L) hg2
    walk_at "st"
    walk_at "gn"
    refine ⟨.ref R2.b, .ref _, .ref _, .ref _, true, rfl, .own _, .base (.ins (b2 _ hS) T.k_Board qa qn qt qm), kit_self, true, rfl, ?_⟩
    refine Sa.if_t ?_
    walk_at "gn"
    refine Sa.if_dec (fun h1 => ?_) (fun h1 => ?_)
    · rw [decide_eq_true h1, Bool.true_and] at q
      walk_at "gn"
      exact q _ hS
    · rw [decide_eq_false h1, Bool.false_and] at q
      walk_at "gn"
      exact q _ hS
  · walk_at "st"
    walk_at "gn"
    refine ⟨v, .ref _, .type (Sa.tyN d), .ref _, false, rfl, .own _, Sa.ty_of (hd _ hS), kit_any ic ty d, false, rfl, ?_⟩
    refine Sa.if_f ?_
    walk_at "gn"
    exact q _ hS

structure G_ap where
  x : Option V
def sp__law_apart (K : PySem.W.Frag) (C : Addr) : Sp := fun vs H Q _ => ∃ (R : Ba) (c : Int), vs = [.ref R.b, .int c] ∧ ∃ (L : List Fc) (M0 M : List Cell) (kv : List (Key × V)) (de : List V) (S : Bo), SA L M0 H ∧ Sa.Grp M0 (bcells C R kv de S) M ∧ S.nums.length ≤ 1000 ∧
  ∀ H', SA L M0 H' → Q (.bl true) H'
theorem sc__law_apart : FnScope ["_law_board", "_law_clerk_here", "_law_thing"] ["_law_board", "_law_clerk_here"] (defScope s__law_apart) := ⟨rfl, rfl, rfl, by decide +kernel, rfl, by decide +kernel, by decide +kernel⟩
abbrev Ok__law_apart (P : Program) (w : World) (K : PySem.W.Frag) (mg : Str → Option Value) (base : Heap) : Prop := ∃ f fd, Fun K "_law_apart" "_law_apart" s__law_apart f fd ∧ mg "_law_apart" = some (.ref f) ∧ FnOk P w K mg base CX0 2 f fd ["_law_board", "_law_clerk_here"] (sp__law_apart K (Sa.clsOf mg "Board"))
theorem ok__law_apart {P : Program} {w : World} {K : PySem.W.Frag} {mg : Str → Option Value} {base : Heap} (T : Top K mg) (h_Board_writes : Ok_Board_writes P w K mg base) (h_Board___eq__ : Ok_Board___eq__ P w K mg base) : Ok__law_apart P w K mg base := by
  obtain ⟨f, fd, F, m⟩ := T.d__law_apart
  obtain ⟨f_Board_writes, fd_Board_writes, F_Board_writes, m_Board_writes, G_Board_writes⟩ := h_Board_writes
  have b_Board_writes := F_Board_writes.binds (ps := ["self"]) (fun _ _ _ _ _ _ us hl => match us, hl with | [_], _ => rfl)
  obtain ⟨f_Board___eq__, fd_Board___eq__, F_Board___eq__, m_Board___eq__, G_Board___eq__⟩ := h_Board___eq__
  have b_Board___eq__ := F_Board___eq__.binds (ps := ["self", "other"]) (fun _ _ _ _ _ _ us hl => match us, hl with | [_, _], _ => rfl)
  refine ⟨f, fd, F, m, F.ok sc__law_apart (fun vs H Q E h => by first | (obtain ⟨_, rfl, _⟩ := h; rfl) | (obtain ⟨_, _, rfl, _⟩ := h; rfl) | (obtain ⟨_, _, _, rfl, _⟩ := h; rfl) | (obtain ⟨_, _, _, _, rfl, _⟩ := h; rfl) | (obtain ⟨_, _, _, _, _, rfl, _⟩ := h; rfl) | (obtain ⟨_, _, _, _, _, _, rfl, _⟩ := h; rfl) | (obtain ⟨_, _, _, _, _, _, _, rfl, _⟩ := h; rfl) | (obtain ⟨_, _, _, _, _, _, _, _, rfl, _⟩ := h; rfl)) (fun cdv A outer s H vs Q E hr h => ?_)⟩
  refine ⟨_, (pss_cons (ps_for PassesOwn.never rfl (pi_tup (pe_tup (pa_cons (pv 1) (pa_cons (pe_lst (pa_cons (pv 1) pa_nil)) (pa_cons pe_str (pa_cons pe_non (pa_cons (pe_meth0 (pv 0) T.k_Board m_Board_writes G_Board_writes (hr.mono (by first | decide | omega)) b_Board_writes .nil pass0) (pa_cons (pe_tup (pa_cons (pv 1) (pa_cons (pe_lst pa_nil) pa_nil))) pa_nil)))))))) (pg_name (i := 2) sc__law_apart.nd rfl (.inl rfl)) (pss_one (ps_if (pt_cmpR (op_eqA (E := E0) G_Board___eq__ (hr.mono (by first | decide | omega)) m_Board___eq__.at_ m_Board___eq__.fn b_Board___eq__ pass0) (pv 0) (pv 2) (nomark _)) (pss_one (ps_ret pe_bl)) pss_nil)))
      (pss_one (ps_ret pe_bl))), ?_⟩
  obtain ⟨R, c, rfl, L, M0, M, kv, de, S, hS, hg, hz, q⟩ := h
  have b1 := at_board (L := L) hg
  walk_at "st"
  walk_at "gn"
  refine ⟨R, rfl, L, _, _, kv, de, S, by assumption, Sa.Grp.tl hg, fun wl H2 hS2 => ?_⟩
  walk_at "gn"
  rename_i l1 Ha hSa l2 Hb hSb t1 Hc hSc t2 Hd hSd
  clear hSa hSb hSc hS2
  refine Sa.st_t1 hSd (Sa.At.u Sa.At.hd) ?_
  refine Sa.lp_tup (γ := G_ap) (fun i g => [some (.ref R.b), some (.int c), g.x]) (fun _ _ => Sa.fU t2 [V.int c, V.ref l1, V.str (Str.ofString "board"), V.non, V.ref wl, V.ref t1] :: Sa.fU t1 [V.int c, V.ref l2] :: L) (fun _ g => (l2, .lst []) :: (wl, .lst (S.nums.map V.int)) :: (l1, .lst [.int c]) :: M0) (fun i g => True) ⟨⟨none⟩, rfl, trivial, hSd⟩ (fun i x _ _ => Sa.At.u Sa.At.hd) ?_ ?_
  · rintro i x ⟨x1⟩ H9 hx _ hS9
    try simp only at hS9
    clear hSd
    have hall : ∃ d, At (Sa.fU t2 [V.int c, V.ref l1, V.str (Str.ofString "board"), V.non, V.ref wl, V.ref t1] :: Sa.fU t1 [V.int c, V.ref l2] :: L) ((l2, .lst []) :: (wl, .lst (S.nums.map V.int)) :: (l1, .lst [.int c]) :: M0) (fD K x d) := by
      match i, hx with
      | 0, hx => exact ⟨.int c, by obtain rfl := (Option.some.inj hx).symm; exact Sa.At.int⟩
      | 1, hx => exact ⟨.list ([c].map PyData.int), by obtain rfl := (Option.some.inj hx).symm; exact Sa.At.dL (by walk_at "at")⟩
      | 2, hx => exact ⟨.str (Str.ofString "board"), by obtain rfl := (Option.some.inj hx).symm; exact Sa.At.str⟩
      | 3, hx => exact ⟨.none, by obtain rfl := (Option.some.inj hx).symm; exact Sa.At.non⟩
      | 4, hx => exact ⟨.list (S.nums.map PyData.int), by obtain rfl := (Option.some.inj hx).symm; exact Sa.At.dL (by walk_at "at")⟩
      | 5, hx => exact ⟨.tuple [.int c, .list (([] : List Int).map PyData.int)], by obtain rfl := (Option.some.inj hx).symm; exact Sa.At.tup (by walk_at "at") (Sa.At.cons Sa.At.int (Sa.At.cons (Sa.At.dL (by walk_at "at")) Sa.At.nil))⟩
    obtain ⟨d, hd⟩ := hall
    walk_at "nm"
    walk_at "gn"
    refine ⟨R.b, _, _, d, rfl, (show At _ _ _ from at_board (.tl (.tl (.tl hg)))) _ hS9, hd _ hS9, R, x, rfl, .inr ⟨_, _, d, hS9, hd, fun Ha hSa => ⟨_, rfl, ?_⟩⟩⟩
    walk_at "gn"
    exact ⟨⟨_⟩, rfl, trivial, hSa⟩
  · rintro ⟨x1⟩ H9 _ hS9
    try simp only at hS9
    clear hSd
    walk_at "gn"
    exact q _ (by walk_at "sa2")

/-- data of a depth below so much -/
def spn__law_alike (n : Nat) (K : PySem.W.Frag) : Sp := fun vs H Q _ => ∃ (v u : V), vs = [v, u] ∧ ∃ (L : List Fc) (M : List Cell) (d e : PyData), SA L M H ∧ At L M (fD K v d) ∧ At L M (fD K u e) ∧ e.depth < n ∧
  ∀ (b : Bool) H', (b = true ↔ d = e) → SA L M H' → Q (.bl b) H'
theorem spn__law_alike_zero (K : PySem.W.Frag) : ∀ vs H Q E, ¬ spn__law_alike 0 K vs H Q E := by
  rintro vs H Q E ⟨_, _, _, _, _, _, _, _, _, _, h, _⟩
  exact absurd h (Nat.not_lt_zero _)
local macro_rules | `(tactic| walk_at "call") => `(tactic| first
  | ((with_reducible show sp__law_alike _ ([V.int _, V.int _] ++ []) _ _ _); refine call_alikeI (by assumption) (by omega) (fun _ _ => ?_))
  | ((with_reducible show sp__law_alike _ ([V.bl _, V.bl _] ++ []) _ _ _); refine call_alikeB (by assumption) (by first | rfl | (rw [Bool.eq_iff_iff]; simp only [Bool.and_eq_true, Bool.or_eq_true, Bool.not_eq_true', decide_eq_true_eq, decide_eq_false_iff_not, Bool.false_eq_true, iff_false, iff_true]; omega)) (fun _ _ => ?_))
  | ((with_reducible show sp__law_alike _ _ _ _ _); refine call_alike (by assumption) (by walk_at "atD") (by walk_at "atD") (by walk_at "dp") (fun _ _ => ?_)))
theorem sc__law_alike : FnScope ["_law_told", "_law_due", "_law_one", "_law_other"] ["_law_told", "_law_due"] (defScope s__law_alike) := ⟨rfl, rfl, rfl, by decide +kernel, rfl, by decide +kernel, by decide +kernel⟩
theorem step__law_alike {P : Program} {w : World} {K : PySem.W.Frag} {mg : Str → Option Value} {base : Heap} (T : Top K mg) {f__law_alike : Addr} {fd__law_alike : FuncData} (F__law_alike : Fun K "_law_alike" "_law_alike" s__law_alike f__law_alike fd__law_alike) (m__law_alike : mg "_law_alike" = some (.ref f__law_alike)) (n : Nat) (G__law_alike : FnOk P w K mg base CX0 (0 + n) f__law_alike fd__law_alike ["_law_told", "_law_due"] (spn__law_alike n K)) : FnOk P w K mg base CX0 (0 + n + 1) f__law_alike fd__law_alike ["_law_told", "_law_due"] (spn__law_alike (n + 1) K) := by
  have b__law_alike := F__law_alike.binds (ps := ["_law_told", "_law_due"]) (fun _ _ _ _ _ _ us hl => match us, hl with | [_, _], _ => rfl)
  refine F__law_alike.ok sc__law_alike (fun vs H Q E h => by first | (obtain ⟨_, rfl, _⟩ := h; rfl) | (obtain ⟨_, _, rfl, _⟩ := h; rfl) | (obtain ⟨_, _, _, rfl, _⟩ := h; rfl) | (obtain ⟨_, _, _, _, rfl, _⟩ := h; rfl) | (obtain ⟨_, _, _, _, _, rfl, _⟩ := h; rfl) | (obtain ⟨_, _, _, _, _, _, rfl, _⟩ := h; rfl) | (obtain ⟨_, _, _, _, _, _, _, rfl, _⟩ := h; rfl) | (obtain ⟨_, _, _, _, _, _, _, _, rfl, _⟩ := h; rfl)) (fun cdv A outer s H vs Q E hr h => ?_)
  refine ⟨_, (pss_cons (ps_if (pt_cmpR Sa.op_isN (pv 1) pe_non (nomark _)) (pss_one (ps_ret (pe_cmpR Sa.op_isN (pv 0) pe_non (nomark _)))) pss_nil)
      (pss_cons (ps_if (pt_val (pe_callB call_isi (by rfl) T.z_isinstance (by decide +kernel) (pa_cons (pv 1) (pa_cons (pe_bltn (v := .ty "bool") (u := .type "bool") (by rfl) T.z_bool (by decide +kernel) rfl) pa_nil)))) (pss_one (ps_ret (pe_and (pe_callB call_isi (by rfl) T.z_isinstance (by decide +kernel) (pa_cons (pv 0) (pa_cons (pe_bltn (v := .ty "bool") (u := .type "bool") (by rfl) T.z_bool (by decide +kernel) rfl) pa_nil))) (pe_one (pe_cmpR op_eq (pv 0) (pv 1) (nomark _)))))) pss_nil)
      (pss_cons (ps_if (pt_val (pe_callB call_isi (by rfl) T.z_isinstance (by decide +kernel) (pa_cons (pv 1) (pa_cons (pe_bltn (v := .ty "int") (u := .type "int") (by rfl) T.z_int (by decide +kernel) rfl) pa_nil)))) (pss_one (ps_ret (pe_and (pe_callB call_isi (by rfl) T.z_isinstance (by decide +kernel) (pa_cons (pv 0) (pa_cons (pe_bltn (v := .ty "int") (u := .type "int") (by rfl) T.z_int (by decide +kernel) rfl) pa_nil))) (pe_and (pe_not (pe_callB call_isi (by rfl) T.z_isinstance (by decide +kernel) (pa_cons (pv 0) (pa_cons (pe_bltn (v := .ty "bool") (u := .type "bool") (by rfl) T.z_bool (by decide +kernel) rfl) pa_nil)))) (pe_one (pe_cmpR op_eq (pv 0) (pv 1) (nomark _))))))) pss_nil)
      (pss_cons (ps_if (pt_val (pe_callB call_isi (by rfl) T.z_isinstance (by decide +kernel) (pa_cons (pv 1) (pa_cons (pe_bltn (v := .ty "str") (u := .type "str") (by rfl) T.z_str (by decide +kernel) rfl) pa_nil)))) (pss_one (ps_ret (pe_and (pe_callB call_isi (by rfl) T.z_isinstance (by decide +kernel) (pa_cons (pv 0) (pa_cons (pe_bltn (v := .ty "str") (u := .type "str") (by rfl) T.z_str (by decide +kernel) rfl) pa_nil))) (pe_one (pe_cmpR op_eq (pv 0) (pv 1) (nomark _)))))) pss_nil)
      (pss_cons (ps_if (pt_val (pe_callB call_isi (by rfl) T.z_isinstance (by decide +kernel) (pa_cons (pv 1) (pa_cons (pe_bltn (v := .ty "list") (u := .type "list") (by rfl) T.z_list (by decide +kernel) rfl) pa_nil)))) (pss_one (ps_if (PW.pt (pw_or (pt_not (pt_val (pe_callB call_isi (by rfl) T.z_isinstance (by decide +kernel) (pa_cons (pv 0) (pa_cons (pe_bltn (v := .ty "list") (u := .type "list") (by rfl) T.z_list (by decide +kernel) rfl) pa_nil))))) (pw_or1 (pt_cmpR op_ne (pe_callB Sa.call_len (by rfl) T.z_len boot_len (pa_cons (pv 0) pa_nil)) (pe_callB Sa.call_len (by rfl) T.z_len boot_len (pa_cons (pv 1) pa_nil)) (nomark _))))) (pss_one (ps_ret pe_bl)) pss_nil)) (pss_one (ps_if (PW.pt (pw_or (pt_not (pt_val (pe_callB call_isi (by rfl) T.z_isinstance (by decide +kernel) (pa_cons (pv 0) (pa_cons (pe_bltn (v := .ty "tuple") (u := .type "tuple") (by rfl) T.z_tuple (by decide +kernel) rfl) pa_nil))))) (pw_or1 (pt_cmpR op_ne (pe_callB Sa.call_len (by rfl) T.z_len boot_len (pa_cons (pv 0) pa_nil)) (pe_callB Sa.call_len (by rfl) T.z_len boot_len (pa_cons (pv 1) pa_nil)) (nomark _))))) (pss_one (ps_ret pe_bl)) pss_nil)))
      (pss_cons (ps_for PassesOwn.never rfl (RZ.pi_zipA (by rfl) T.z_zip (pa_cons (pv 0) (pa_cons (pv 1) pa_nil))) (pg_tup rfl (pgs_cons (pg_name (i := 2) sc__law_alike.nd rfl (.inl rfl)) (pgs_cons (pg_name (i := 3) sc__law_alike.nd rfl (.inl rfl)) pgs_nil))) (pss_one (ps_if (pt_not (pt_val (pe_call G__law_alike (hr.mono (by first | decide | omega)) (by rfl) m__law_alike F__law_alike.kp b__law_alike .nil pass0 (pa_cons (pv 2) (pa_cons (pv 3) pa_nil))))) (pss_one (ps_ret pe_bl)) pss_nil)))
      (pss_one (ps_ret pe_bl)))))))), ?_⟩
  obtain ⟨v, u, rfl, L, M, d, e, hS, hd, he, hn, q⟩ := h
  have hd1 := hd H hS
  have he1 := he H hS
  simp only [fD] at hd1 he1
  have q0 : ∀ (b : Bool) H', (b = true ↔ d = e) → SA [Sa.fS H] [] H' → Q (.bl b) H' := fun b H' hb hs => q b H' hb (hS.ext hs.same)
  clear q
  have hs := SA.self H
  walk_at "st"
  walk_at "go"
  cases e with
  | none =>
    obtain rfl := Sa.dp_none he1
    walk_at "go"
    refine Sa.if_dec (fun h => ?_) (fun h => absurd rfl h)
    walk_at "go"
    refine q0 _ H ?_ hs
    cases d <;> first | (cases hd1; done) | (cases hd1; simp)
  | bool b =>
    obtain rfl := Sa.dp_bool he1
    walk_at "go"
    refine Sa.if_dec (fun h => by cases h) (fun _ => ?_)
    walk_at "go"
    cases d with
    | bool c =>
      obtain rfl := Sa.dp_bool hd1
      dsimp only [Sa.kBool]
      walk_at "go"
      refine Sa.st_eq rfl ?_
      exact q0 _ H (by simp) hs
    | dict kv => cases hd1
    | _ =>
      dsimp only [Sa.kBool]
      walk_at "go"
      exact q0 _ H (by simp) hs
  | int i =>
    obtain rfl := Sa.dp_int he1
    walk_at "go"
    refine Sa.if_dec (fun h => by cases h) (fun _ => ?_)
    walk_at "go"
    cases d with
    | int c =>
      obtain rfl := Sa.dp_int hd1
      dsimp only [Sa.kInt]
      walk_at "go"
      exact q0 _ H (by simp) hs
    | dict kv => cases hd1
    | _ =>
      dsimp only [Sa.kInt]
      walk_at "go"
      exact q0 _ H (by simp) hs
  | str z =>
    obtain rfl := Sa.dp_str he1
    walk_at "go"
    refine Sa.if_dec (fun h => by cases h) (fun _ => ?_)
    walk_at "go"
    cases d with
    | str c =>
      obtain rfl := Sa.dp_str hd1
      dsimp only [Sa.kStr]
      walk_at "go"
      refine Sa.st_eq rfl ?_
      exact q0 _ H (by simp) hs
    | dict kv => cases hd1
    | _ =>
      dsimp only [Sa.kStr]
      walk_at "go"
      exact q0 _ H (by simp) hs
  | list es =>
    obtain ⟨a, xs, rfl, ha, hxs⟩ := Sa.dp_list he1
    walk_at "go"
    refine Sa.if_dec (fun h => by cases h) (fun _ => ?_)
    walk_at "go"
    cases d with
    | list ds =>
      obtain ⟨b, ys, rfl, hb, hys⟩ := Sa.dp_list hd1
      dsimp only [Sa.kList]
      walk_at "go"
      refine Sa.if_dec (fun hl => ?_) (fun hl => ?_)
      rotate_left
      · walk_at "go"
        refine q0 _ H ?_ hs
        constructor
        · intro h; cases h
        · intro h; cases h; exact absurd rfl hl
      have hl1 : ds.length = es.length := by omega
      have hl2 : ys.length = xs.length := by rw [Sa.dpa_len hxs, Sa.dpa_len hys, hl1]
      have A1 : At [Sa.fS H] [] (fQ K a xs) := Sa.At.ofS ha
      have A2 : At [Sa.fS H] [] (fQ K b ys) := Sa.At.ofS hb
      have A3 : At [Sa.fS H] [] (fDs K xs es) := Sa.At.ofS hxs
      have A4 : At [Sa.fS H] [] (fDs K ys ds) := Sa.At.ofS hys
      walk_at "go"
      refine Sa.st_zAL hs A2 A1 ?_
      refine Sa.lp_zip (n := ys.length) (γ := Option V × Option V) (fun _ g => [some (.ref b), some (.ref a), g.1, g.2]) (fun _ _ => [Sa.fS H]) (fun _ _ => []) (fun i _ => ds.take i = es.take i) (by omega) ⟨(none, none), rfl, rfl, hs⟩ (fun _ _ _ _ => A2) (fun _ _ _ _ => A1) ?_ ?_
      · rintro i y x g H1 hy hx hp hs1
        obtain ⟨d1, hd2, hd3⟩ := Sa.dpa_get (A4 H1 hs1) hy
        obtain ⟨e1, he2, he3⟩ := Sa.dpa_get (A3 H1 hs1) hx
        have hdep := depth_mem he2
        have hn2 : e1.depth < n := by
          have hn3 : PyData.depthAll es + 1 < n + 1 := hn
          omega
        walk_at "nm"
        walk_at "go"
        refine ⟨y, x, rfl, [Sa.fS H1], [], d1, e1, SA.self H1, Sa.At.ofS hd3, Sa.At.ofS he3, hn2, fun bb H2 hbb hs2 => ?_⟩
        have hs3 := hs1.ext hs2.same
        walk_at "go"
        refine Sa.if_bool (fun h => ?_) (fun h => ?_)
        · walk_at "go"
          refine ⟨(some y, some x), rfl, ?_, hs3⟩
          show ds.take (i + 1) = es.take (i + 1)
          rw [Sa.take_at hd2, Sa.take_at he2, hbb.mp h, show ds.take i = es.take i from hp]
        · walk_at "go"
          refine q0 _ H2 ?_ hs3
          constructor
          · intro h; cases h
          · intro h4
            cases h4
            rw [hd2] at he2
            cases he2
            rw [hbb.mpr rfl] at h
            cases h
      · intro g H1 hp hs1
        walk_at "go"
        refine q0 _ H1 ?_ hs1
        have h5 : ds.take ys.length = es.take ys.length := hp
        rw [List.take_of_length_le (by rw [Sa.dpa_len hys]; omega), List.take_of_length_le (by rw [Sa.dpa_len hys]; omega)] at h5
        rw [h5]
        simp
    | dict kv => cases hd1
    | _ =>
      dsimp only [Sa.kList]
      walk_at "go"
      exact q0 _ H (by simp) hs
  | tuple es =>
    obtain ⟨a, xs, rfl, ha, hxs⟩ := Sa.dp_tuple he1
    walk_at "go"
    refine Sa.if_dec (fun h => by cases h) (fun _ => ?_)
    walk_at "go"
    cases d with
    | tuple ds =>
      obtain ⟨b, ys, rfl, hb, hys⟩ := Sa.dp_tuple hd1
      dsimp only [Sa.kTuple]
      walk_at "go"
      refine Sa.if_dec (fun hl => ?_) (fun hl => ?_)
      rotate_left
      · walk_at "go"
        refine q0 _ H ?_ hs
        constructor
        · intro h; cases h
        · intro h; cases h; exact absurd rfl hl
      have hl1 : ds.length = es.length := by omega
      have hl2 : ys.length = xs.length := by rw [Sa.dpa_len hxs, Sa.dpa_len hys, hl1]
      have A1 : At [Sa.fS H] [] (fT K a xs) := Sa.At.ofS ha
      have A2 : At [Sa.fS H] [] (fT K b ys) := Sa.At.ofS hb
      have A3 : At [Sa.fS H] [] (fDs K xs es) := Sa.At.ofS hxs
      have A4 : At [Sa.fS H] [] (fDs K ys ds) := Sa.At.ofS hys
      walk_at "go"
      refine Sa.st_zAT hs A2 A1 ?_
      refine Sa.lp_zipT (γ := Option V × Option V) (fun _ g => [some (.ref b), some (.ref a), g.1, g.2]) (fun _ _ => [Sa.fS H]) (fun _ _ => []) (fun i _ => ds.take i = es.take i) hl2 ⟨(none, none), rfl, rfl, hs⟩ (fun _ _ _ => A2) (fun _ _ _ => A1) ?_ ?_
      · rintro i y x g H1 hy hx hp hs1
        obtain ⟨d1, hd2, hd3⟩ := Sa.dpa_get (A4 H1 hs1) hy
        obtain ⟨e1, he2, he3⟩ := Sa.dpa_get (A3 H1 hs1) hx
        have hdep := depth_mem he2
        have hn2 : e1.depth < n := by
          have hn3 : PyData.depthAll es + 1 < n + 1 := hn
          omega
        walk_at "nm"
        walk_at "go"
        refine ⟨y, x, rfl, [Sa.fS H1], [], d1, e1, SA.self H1, Sa.At.ofS hd3, Sa.At.ofS he3, hn2, fun bb H2 hbb hs2 => ?_⟩
        have hs3 := hs1.ext hs2.same
        walk_at "go"
        refine Sa.if_bool (fun h => ?_) (fun h => ?_)
        · walk_at "go"
          refine ⟨(some y, some x), rfl, ?_, hs3⟩
          show ds.take (i + 1) = es.take (i + 1)
          rw [Sa.take_at hd2, Sa.take_at he2, hbb.mp h, show ds.take i = es.take i from hp]
        · walk_at "go"
          refine q0 _ H2 ?_ hs3
          constructor
          · intro h; cases h
          · intro h4
            cases h4
            rw [hd2] at he2
            cases he2
            rw [hbb.mpr rfl] at h
            cases h
      · intro g H1 hp hs1
        walk_at "go"
        refine q0 _ H1 ?_ hs1
        have h5 : ds.take ys.length = es.take ys.length := hp
        rw [List.take_of_length_le (by rw [Sa.dpa_len hys]; omega), List.take_of_length_le (by rw [Sa.dpa_len hys]; omega)] at h5
        rw [h5]
        simp
    | dict kv => cases hd1
    | _ =>
      dsimp only [Sa.kTuple]
      walk_at "go"
      exact q0 _ H (by simp) hs
  | dict kv => cases he1
def sp__law_alike (K : PySem.W.Frag) : Sp := spn__law_alike 4 K
abbrev Ok__law_alike (P : Program) (w : World) (K : PySem.W.Frag) (mg : Str → Option Value) (base : Heap) : Prop := ∃ f fd, Fun K "_law_alike" "_law_alike" s__law_alike f fd ∧ mg "_law_alike" = some (.ref f) ∧ FnOk P w K mg base CX0 4 f fd ["_law_told", "_law_due"] (sp__law_alike K)
theorem ok__law_alike {P : Program} {w : World} {K : PySem.W.Frag} {mg : Str → Option Value} {base : Heap} (T : Top K mg) : Ok__law_alike P w K mg base := by
  obtain ⟨f, fd, F, m⟩ := T.d__law_alike
  have key : ∀ n : Nat, FnOk P w K mg base CX0 (0 + n) f fd ["_law_told", "_law_due"] (spn__law_alike n K) := by
    intro n
    induction n with
    | zero => exact Sa.fn_none (spn__law_alike_zero K)
    | succ n ih => exact step__law_alike T F m n ih
  exact ⟨f, fd, F, m, key 4⟩
theorem call_alike {K : PySem.W.Frag} {L : List Fc} {M : List Cell} {H : Hp} {v u : V} {d : PyData} {Q : VK} {E : XK} (hS : SA L M H) (hd : At L M (fD K v d)) (he : At L M (fD K u d)) (hn : d.depth < 4) (q : ∀ H', SA L M H' → Q (.bl true) H') : sp__law_alike K ([v, u] ++ []) H Q E :=
  ⟨v, u, rfl, L, M, d, d, hS, hd, he, hn, fun b H' hb hs => by
    obtain rfl : b = true := hb.mpr rfl
    exact q H' hs⟩
theorem call_alikeI {K : PySem.W.Frag} {L : List Fc} {M : List Cell} {H : Hp} {i j : Int} {Q : VK} {E : XK} (hS : SA L M H) (e : i = j) (q : ∀ H', SA L M H' → Q (.bl true) H') : sp__law_alike K ([.int i, .int j] ++ []) H Q E := by
  subst e
  exact call_alike hS Sa.At.int Sa.At.int Sa.depth_int q
theorem call_alikeB {K : PySem.W.Frag} {L : List Fc} {M : List Cell} {H : Hp} {i j : Bool} {Q : VK} {E : XK} (hS : SA L M H) (e : i = j) (q : ∀ H', SA L M H' → Q (.bl true) H') : sp__law_alike K ([.bl i, .bl j] ++ []) H Q E := by
  subst e
  exact call_alike hS Sa.At.bl Sa.At.bl Sa.depth_bool q

def sp__law_judged (K : PySem.W.Frag) (C : Addr) : Sp := fun vs H Q _ => ∃ (R1 R2 : Ba) (due : Bool), vs = [.ref R1.b, .ref R2.b, .bl due] ∧ ∃ (L : List Fc) (M0 M1 M2 : List Cell) (kv1 kv2 : List (Key × V)) (de1 de2 : List V) (S1 S2 : Bo), SA L M0 H ∧ Sa.Grp M0 (bcells C R1 kv1 de1 S1) M1 ∧ Sa.Grp M0 (bcells C R2 kv2 de2 S2) M2 ∧
  due = (decide (S1.care = S2.care) && decide (S1.calls = S2.calls)) ∧ ∀ H', SA L M0 H' → Q (.bl true) H'
local macro_rules | `(tactic| walk_at "call") => `(tactic| first
  | ((with_reducible show sp__law_alike _ ([V.int _, V.int _] ++ []) _ _ _); refine call_alikeI (by assumption) (by omega) (fun _ _ => ?_))
  | ((with_reducible show sp__law_alike _ ([V.bl _, V.bl _] ++ []) _ _ _); refine call_alikeB (by assumption) (by first | rfl | (rw [Bool.eq_iff_iff]; simp only [Bool.and_eq_true, Bool.or_eq_true, Bool.not_eq_true', decide_eq_true_eq, decide_eq_false_iff_not, Bool.false_eq_true, iff_false, iff_true]; omega)) (fun _ _ => ?_))
  | ((with_reducible show sp__law_alike _ _ _ _ _); refine call_alike (by assumption) (by walk_at "atD") (by walk_at "atD") (by walk_at "dp") (fun _ _ => ?_)))
theorem sc__law_judged : FnScope ["_law_first_board", "_law_second_board", "_law_due"] ["_law_first_board", "_law_second_board", "_law_due"] (defScope s__law_judged) := ⟨rfl, rfl, rfl, by decide +kernel, rfl, by decide +kernel, by decide +kernel⟩
abbrev Ok__law_judged (P : Program) (w : World) (K : PySem.W.Frag) (mg : Str → Option Value) (base : Heap) : Prop := ∃ f fd, Fun K "_law_judged" "_law_judged" s__law_judged f fd ∧ mg "_law_judged" = some (.ref f) ∧ FnOk P w K mg base CX0 5 f fd ["_law_first_board", "_law_second_board", "_law_due"] (sp__law_judged K (Sa.clsOf mg "Board"))
theorem ok__law_judged {P : Program} {w : World} {K : PySem.W.Frag} {mg : Str → Option Value} {base : Heap} (T : Top K mg) (h__law_alike : Ok__law_alike P w K mg base) (h_Board___eq__ : Ok_Board___eq__ P w K mg base) : Ok__law_judged P w K mg base := by
  obtain ⟨f, fd, F, m⟩ := T.d__law_judged
  obtain ⟨f__law_alike, fd__law_alike, F__law_alike, m__law_alike, G__law_alike⟩ := h__law_alike
  have b__law_alike := F__law_alike.binds (ps := ["_law_told", "_law_due"]) (fun _ _ _ _ _ _ us hl => match us, hl with | [_, _], _ => rfl)
  obtain ⟨f_Board___eq__, fd_Board___eq__, F_Board___eq__, m_Board___eq__, G_Board___eq__⟩ := h_Board___eq__
  have b_Board___eq__ := F_Board___eq__.binds (ps := ["self", "other"]) (fun _ _ _ _ _ _ us hl => match us, hl with | [_, _], _ => rfl)
  refine ⟨f, fd, F, m, F.ok sc__law_judged (fun vs H Q E h => by first | (obtain ⟨_, rfl, _⟩ := h; rfl) | (obtain ⟨_, _, rfl, _⟩ := h; rfl) | (obtain ⟨_, _, _, rfl, _⟩ := h; rfl) | (obtain ⟨_, _, _, _, rfl, _⟩ := h; rfl) | (obtain ⟨_, _, _, _, _, rfl, _⟩ := h; rfl) | (obtain ⟨_, _, _, _, _, _, rfl, _⟩ := h; rfl) | (obtain ⟨_, _, _, _, _, _, _, rfl, _⟩ := h; rfl) | (obtain ⟨_, _, _, _, _, _, _, _, rfl, _⟩ := h; rfl)) (fun cdv A outer s H vs Q E hr h => ?_)⟩
  refine ⟨_, (pss_one (ps_ret (pe_and (pe_call G__law_alike (hr.mono (by first | decide | omega)) (by rfl) m__law_alike F__law_alike.kp b__law_alike .nil pass0 (pa_cons (pe_cmpR (op_eqO (E := E0) G_Board___eq__ (hr.mono (by first | decide | omega)) m_Board___eq__.at_ m_Board___eq__.fn b_Board___eq__ pass0) (pv 0) (pv 1) (nomark _)) (pa_cons (pv 2) pa_nil))) (pe_one (pe_call G__law_alike (hr.mono (by first | decide | omega)) (by rfl) m__law_alike F__law_alike.kp b__law_alike .nil pass0 (pa_cons (pe_cmpR (op_eqO (E := E0) G_Board___eq__ (hr.mono (by first | decide | omega)) m_Board___eq__.at_ m_Board___eq__.fn b_Board___eq__ pass0) (pv 1) (pv 0) (nomark _)) (pa_cons (pv 2) pa_nil))))))), ?_⟩
  obtain ⟨R1, R2, due, rfl, L, M0, M1, M2, kv1, kv2, de1, de2, S1, S2, hS, hg1, hg2, hdue, q⟩ := h
  have b1 := at_board (L := L) hg1
  have b2 := at_board (L := L) hg2
  walk_at "st"
  walk_at "gn"
  refine ⟨R1.b, R2.b, _, _, _, _, rfl, rfl, b1 _ hS, b2 _ hS, R1, .ref R2.b, rfl, .inl ⟨R2, rfl, L, M0, M1, M2, kv1, kv2, de1, de2, S1, S2, hS, hg1, hg2, fun H8 hS8 => ⟨_, rfl, ?_⟩⟩⟩
  walk_at "gn"
  refine call_alikeB hS8 hdue.symm (fun H9 hS9 => ⟨_, rfl, ?_⟩)
  refine Sa.if_t ?_
  walk_at "gn"
  refine ⟨R2.b, R1.b, _, _, _, _, rfl, rfl, b2 _ hS9, b1 _ hS9, R2, .ref R1.b, rfl, .inl ⟨R1, rfl, L, M0, M2, M1, kv2, kv1, de2, de1, S2, S1, hS9, hg2, hg1, fun Ha hSa => ⟨_, rfl, ?_⟩⟩⟩
  walk_at "gn"
  refine call_alikeB hSa ?_ (fun Hb hSb => ?_)
  · rw [hdue, show decide (S2.care = S1.care) = decide (S1.care = S2.care) by rw [Bool.eq_iff_iff, decide_eq_true_iff, decide_eq_true_iff]; exact eq_comm, show decide (S2.calls = S1.calls) = decide (S1.calls = S2.calls) by rw [Bool.eq_iff_iff, decide_eq_true_iff, decide_eq_true_iff]; exact eq_comm]
  walk_at "gn"
  exact q _ hSb

def sp_Board__write (K : PySem.W.Frag) (C : Addr) : Sp := fun vs H Q _ => ∃ (R : Ba) (c n g : Int), vs = [.ref R.b, .int c, .int n, .int g] ∧ ∃ S : Bo, S.held c = some (n, g) ∧ BoT K C R S (S.write c n g) (.int (n + 1)) H Q
theorem sc_Board__write : FnScope ["self", "clerk", "number", "gap"] ["self", "clerk", "number", "gap"] (defScope s_Board__write) := ⟨rfl, rfl, rfl, by decide +kernel, rfl, by decide +kernel, by decide +kernel⟩
abbrev Ok_Board__write (P : Program) (w : World) (K : PySem.W.Frag) (mg : Str → Option Value) (base : Heap) : Prop := ∃ f fd, Fun K "_write" "Board._write" s_Board__write f fd ∧ Meth K (Sa.clsOf mg "Board") "_write" f ∧ FnOk P w K mg base CX0 1 f fd ["self", "clerk", "number", "gap"] (sp_Board__write K (Sa.clsOf mg "Board"))
theorem ok_Board__write {P : Program} {w : World} {K : PySem.W.Frag} {mg : Str → Option Value} {base : Heap} (T : Top K mg) : Ok_Board__write P w K mg base := by
  obtain ⟨f, fd, F, m⟩ := T.d_Board__write
  have k_Board := T.k_Board
  have a_Board__careful := T.a_Board__careful
  have a_Board__calls := T.a_Board__calls
  have a_Board__deeds := T.a_Board__deeds
  have a_Board__held := T.a_Board__held
  have a_Board__numbers := T.a_Board__numbers
  have a_Board__writers := T.a_Board__writers
  have a_Board__gaps := T.a_Board__gaps
  obtain ⟨u_WRITE, g_WRITE, r_WRITE⟩ := T.c_WRITE
  refine ⟨f, fd, F, m, F.ok sc_Board__write (fun vs H Q E h => by first | (obtain ⟨_, rfl, _⟩ := h; rfl) | (obtain ⟨_, _, rfl, _⟩ := h; rfl) | (obtain ⟨_, _, _, rfl, _⟩ := h; rfl) | (obtain ⟨_, _, _, _, rfl, _⟩ := h; rfl) | (obtain ⟨_, _, _, _, _, rfl, _⟩ := h; rfl) | (obtain ⟨_, _, _, _, _, _, rfl, _⟩ := h; rfl) | (obtain ⟨_, _, _, _, _, _, _, rfl, _⟩ := h; rfl) | (obtain ⟨_, _, _, _, _, _, _, _, rfl, _⟩ := h; rfl)) (fun cdv A outer s H vs Q E hr h => ?_)⟩
  refine ⟨_, (pss_cons (ps_ddel (pe_fld (pv 0) rfl) (pv 1))
      (pss_cons (ps_expr (pe_bm PySem.F.plainAttrs_list PySem.F.slot_list_append PySem.F.type_list_append mt_append (pe_fld (pv 0) rfl) (pa_cons (pe_op op_add (pv 2) pe_int) pa_nil)))
      (pss_cons (ps_expr (pe_bm PySem.F.plainAttrs_list PySem.F.slot_list_append PySem.F.type_list_append mt_append (pe_fld (pv 0) rfl) (pa_cons (pv 1) pa_nil)))
      (pss_cons (ps_expr (pe_bm PySem.F.plainAttrs_list PySem.F.slot_list_append PySem.F.type_list_append mt_append (pe_fld (pv 0) rfl) (pa_cons (pv 3) pa_nil)))
      (pss_cons (ps_expr (pe_bm PySem.F.plainAttrs_list PySem.F.slot_list_append PySem.F.type_list_append mt_append (pe_fld (pv 0) rfl) (pa_cons (pv 1) pa_nil)))
      (pss_cons (ps_expr (pe_bm PySem.F.plainAttrs_list PySem.F.slot_list_append PySem.F.type_list_append mt_append (pe_fld (pv 0) rfl) (pa_cons (pe_tup (pa_cons (pe_glob rfl g_WRITE r_WRITE) (pa_cons (pv 2) (pa_cons (pv 3) pa_nil)))) pa_nil)))
      (pss_one (ps_ret (pe_op op_add (pv 2) pe_int))))))))), ?_⟩
  obtain ⟨R, c, n, g, rfl, S, hh, L, M0, M, kvs, des, m, hS, hB, hg, hz, hm, q⟩ := h
  have hS1 := hS.grp hg
  obtain ⟨z1, z2, z3, z4, z5, z6⟩ := id hz
  obtain ⟨pr, hv, -⟩ := held_at hS hB hh
  simp only [bcells_eq, List.cons_append, List.nil_append] at hS1
  walk_at "st"
  walk_at "gn"
  simp only [bcells_eq, List.cons_append, List.nil_append] at q
  exact q _ _ _ (Sa.SA.subs (fb_write (by assumption) (.tl hB) .hd) (.cons .hd (.tl (.tl .rest)))) hz.write

def sp_number_in_gap (K : PySem.W.Frag) : Sp := fun vs H Q _ => ∃ (a : Addr) (g : Int), vs = [.ref a, .int g] ∧ ∃ (L : List Fc) (M : List Cell) (ns : List Int), SA L M H ∧ At L M (fL a (ns.map V.int)) ∧ 0 ≤ g ∧ g ≤ ns.length ∧
  ∀ H', SA L M H' → Q (.int (sh ns g)) H'
theorem sc_number_in_gap : FnScope ["writes", "gap"] ["writes", "gap"] (defScope s_number_in_gap) := ⟨rfl, rfl, rfl, by decide +kernel, rfl, by decide +kernel, by decide +kernel⟩
abbrev Ok_number_in_gap (P : Program) (w : World) (K : PySem.W.Frag) (mg : Str → Option Value) (base : Heap) : Prop := ∃ f fd, Fun K "number_in_gap" "number_in_gap" s_number_in_gap f fd ∧ mg "number_in_gap" = some (.ref f) ∧ FnOk P w K mg base CX0 1 f fd ["writes", "gap"] (sp_number_in_gap K)
theorem ok_number_in_gap {P : Program} {w : World} {K : PySem.W.Frag} {mg : Str → Option Value} {base : Heap} (T : Top K mg) : Ok_number_in_gap P w K mg base := by
  obtain ⟨f, fd, F, m⟩ := T.d_number_in_gap
  refine ⟨f, fd, F, m, F.ok sc_number_in_gap (fun vs H Q E h => by first | (obtain ⟨_, rfl, _⟩ := h; rfl) | (obtain ⟨_, _, rfl, _⟩ := h; rfl) | (obtain ⟨_, _, _, rfl, _⟩ := h; rfl) | (obtain ⟨_, _, _, _, rfl, _⟩ := h; rfl) | (obtain ⟨_, _, _, _, _, rfl, _⟩ := h; rfl) | (obtain ⟨_, _, _, _, _, _, rfl, _⟩ := h; rfl) | (obtain ⟨_, _, _, _, _, _, _, rfl, _⟩ := h; rfl) | (obtain ⟨_, _, _, _, _, _, _, _, rfl, _⟩ := h; rfl)) (fun cdv A outer s H vs Q E hr h => ?_)⟩
  refine ⟨_, (pss_cons (ps_if (pt_cmpR op_eq (pv 1) pe_int (nomark _)) (pss_one (ps_ret pe_int)) pss_nil)
      (pss_one (ps_ret (pe_ix ix_list (pv 0) (pe_op op_sub (pv 1) pe_int) (fun _ _ => rfl))))), ?_⟩
  obtain ⟨a, g, rfl, L, M, ns, hS, hA, h0, h1, q⟩ := h
  walk_at "st"
  walk_at "go"
  refine Sa.if_dec (fun hg => ?_) (fun hg => ?_)
  · walk_at "go"
    have q1 := q _ hS
    rw [show sh ns g = 0 from if_pos hg] at q1
    exact q1
  · walk_at "go"
    have q1 := q _ hS
    rw [show sh ns g = ns.getD (g - 1).toNat 0 from if_neg hg] at q1
    exact q1

def sp_Board_now (K : PySem.W.Frag) (C : Addr) : Sp := fun vs H Q _ => ∃ R : Ba, vs = [.ref R.b] ∧ ∃ (L : List Fc) (M0 M : List Cell) (kvs : List (Key × V)) (des : List V) (S : Bo), SA L M0 H ∧ Sa.Grp M0 (bcells C R kvs des S) M ∧ S.nums.length ≤ 10000 ∧
  ∀ H', SA L M0 H' → Q (.int S.now) H'
local macro_rules | `(tactic| walk_at "call") => `(tactic| first
  | ((with_reducible show sp_number_in_gap _ _ _ _ _); refine ⟨_, _, rfl, _, _, _, by assumption, by walk_at "at", by omega, by omega, fun _ _ => ?_⟩))
theorem sc_Board_now : FnScope ["self"] ["self"] (defScope s_Board_now) := ⟨rfl, rfl, rfl, by decide +kernel, rfl, by decide +kernel, by decide +kernel⟩
abbrev Ok_Board_now (P : Program) (w : World) (K : PySem.W.Frag) (mg : Str → Option Value) (base : Heap) : Prop := ∃ f fd, Fun K "now" "Board.now" s_Board_now f fd ∧ Meth K (Sa.clsOf mg "Board") "now" f ∧ FnOk P w K mg base CX0 2 f fd ["self"] (sp_Board_now K (Sa.clsOf mg "Board"))
theorem ok_Board_now {P : Program} {w : World} {K : PySem.W.Frag} {mg : Str → Option Value} {base : Heap} (T : Top K mg) (h_number_in_gap : Ok_number_in_gap P w K mg base) : Ok_Board_now P w K mg base := by
  obtain ⟨f, fd, F, m⟩ := T.d_Board_now
  obtain ⟨f_number_in_gap, fd_number_in_gap, F_number_in_gap, m_number_in_gap, G_number_in_gap⟩ := h_number_in_gap
  have b_number_in_gap := F_number_in_gap.binds (ps := ["writes", "gap"]) (fun _ _ _ _ _ _ us hl => match us, hl with | [_, _], _ => rfl)
  have k_Board := T.k_Board
  have a_Board__careful := T.a_Board__careful
  have a_Board__calls := T.a_Board__calls
  have a_Board__deeds := T.a_Board__deeds
  have a_Board__held := T.a_Board__held
  have a_Board__numbers := T.a_Board__numbers
  have a_Board__writers := T.a_Board__writers
  have a_Board__gaps := T.a_Board__gaps
  refine ⟨f, fd, F, m, F.ok sc_Board_now (fun vs H Q E h => by first | (obtain ⟨_, rfl, _⟩ := h; rfl) | (obtain ⟨_, _, rfl, _⟩ := h; rfl) | (obtain ⟨_, _, _, rfl, _⟩ := h; rfl) | (obtain ⟨_, _, _, _, rfl, _⟩ := h; rfl) | (obtain ⟨_, _, _, _, _, rfl, _⟩ := h; rfl) | (obtain ⟨_, _, _, _, _, _, rfl, _⟩ := h; rfl) | (obtain ⟨_, _, _, _, _, _, _, rfl, _⟩ := h; rfl) | (obtain ⟨_, _, _, _, _, _, _, _, rfl, _⟩ := h; rfl)) (fun cdv A outer s H vs Q E hr h => ?_)⟩
  refine ⟨_, (pss_one (ps_ret (pe_call G_number_in_gap (hr.mono (by first | decide | omega)) (by rfl) m_number_in_gap F_number_in_gap.kp b_number_in_gap .nil pass0 (pa_cons (pe_fld (pv 0) rfl) (pa_cons (pe_callB Sa.call_len (by rfl) T.z_len boot_len (pa_cons (pe_fld (pv 0) rfl) pa_nil)) pa_nil))))), ?_⟩
  obtain ⟨R, rfl, L, M0, M, kvs, des, S, hS, hg, hl, q⟩ := h
  have hS1 := hS.grp hg
  simp only [bcells_eq, List.cons_append, List.nil_append] at hS1
  walk_at "st"
  walk_at "gn"
  refine ⟨_, _, rfl, L, _, S.nums, by assumption, by walk_at "at", by omega, by omega, fun H1 hS2 => ?_⟩
  exact q _ (Sa.SA.ungrp (B := bcells _ R kvs des S) (by simp only [bcells_eq, List.cons_append, List.nil_append]; exact hS2) hg)

def sp_Board__try_in_vain (K : PySem.W.Frag) (C : Addr) : Sp := fun vs H Q _ => ∃ (R : Ba) (c n g : Int), vs = [.ref R.b, .int c, .int n, .int g] ∧ ∃ S : Bo, S.held c = some (n, g) ∧ BoT K C R S (S.vain c n g) .non H Q
theorem sc_Board__try_in_vain : FnScope ["self", "clerk", "number", "gap"] ["self", "clerk", "number", "gap"] (defScope s_Board__try_in_vain) := ⟨rfl, rfl, rfl, by decide +kernel, rfl, by decide +kernel, by decide +kernel⟩
abbrev Ok_Board__try_in_vain (P : Program) (w : World) (K : PySem.W.Frag) (mg : Str → Option Value) (base : Heap) : Prop := ∃ f fd, Fun K "_try_in_vain" "Board._try_in_vain" s_Board__try_in_vain f fd ∧ Meth K (Sa.clsOf mg "Board") "_try_in_vain" f ∧ FnOk P w K mg base CX0 1 f fd ["self", "clerk", "number", "gap"] (sp_Board__try_in_vain K (Sa.clsOf mg "Board"))
theorem ok_Board__try_in_vain {P : Program} {w : World} {K : PySem.W.Frag} {mg : Str → Option Value} {base : Heap} (T : Top K mg) : Ok_Board__try_in_vain P w K mg base := by
  obtain ⟨f, fd, F, m⟩ := T.d_Board__try_in_vain
  have k_Board := T.k_Board
  have a_Board__careful := T.a_Board__careful
  have a_Board__calls := T.a_Board__calls
  have a_Board__deeds := T.a_Board__deeds
  have a_Board__held := T.a_Board__held
  have a_Board__numbers := T.a_Board__numbers
  have a_Board__writers := T.a_Board__writers
  have a_Board__gaps := T.a_Board__gaps
  obtain ⟨u_VAIN, g_VAIN, r_VAIN⟩ := T.c_VAIN
  refine ⟨f, fd, F, m, F.ok sc_Board__try_in_vain (fun vs H Q E h => by first | (obtain ⟨_, rfl, _⟩ := h; rfl) | (obtain ⟨_, _, rfl, _⟩ := h; rfl) | (obtain ⟨_, _, _, rfl, _⟩ := h; rfl) | (obtain ⟨_, _, _, _, rfl, _⟩ := h; rfl) | (obtain ⟨_, _, _, _, _, rfl, _⟩ := h; rfl) | (obtain ⟨_, _, _, _, _, _, rfl, _⟩ := h; rfl) | (obtain ⟨_, _, _, _, _, _, _, rfl, _⟩ := h; rfl) | (obtain ⟨_, _, _, _, _, _, _, _, rfl, _⟩ := h; rfl)) (fun cdv A outer s H vs Q E hr h => ?_)⟩
  refine ⟨_, (pss_cons (ps_ddel (pe_fld (pv 0) rfl) (pv 1))
      (pss_cons (ps_expr (pe_bm PySem.F.plainAttrs_list PySem.F.slot_list_append PySem.F.type_list_append mt_append (pe_fld (pv 0) rfl) (pa_cons (pv 1) pa_nil)))
      (pss_cons (ps_expr (pe_bm PySem.F.plainAttrs_list PySem.F.slot_list_append PySem.F.type_list_append mt_append (pe_fld (pv 0) rfl) (pa_cons (pe_tup (pa_cons (pe_glob rfl g_VAIN r_VAIN) (pa_cons (pv 2) (pa_cons (pv 3) pa_nil)))) pa_nil)))
      (pss_one (ps_ret pe_non))))), ?_⟩
  obtain ⟨R, c, n, g, rfl, S, hh, L, M0, M, kvs, des, m, hS, hB, hg, hz, hm, q⟩ := h
  have hS1 := hS.grp hg
  obtain ⟨z1, z2, z3, z4, z5, z6⟩ := id hz
  obtain ⟨pr, hv, -⟩ := held_at hS hB hh
  simp only [bcells_eq, List.cons_append, List.nil_append] at hS1
  walk_at "st"
  walk_at "gn"
  simp only [bcells_eq, List.cons_append, List.nil_append] at q
  exact q _ _ _ (Sa.SA.subs (fb_vain (by assumption) (.tl hB) .hd) (.cons .hd (.tl (.tl .rest)))) hz.vain

def sp_Board__read (K : PySem.W.Frag) (C : Addr) : Sp := fun vs H Q _ => ∃ (R : Ba) (c : Int), vs = [.ref R.b, .int c] ∧ ∃ S : Bo, BoT K C R S (S.read c) (.int S.now) H Q
theorem sc_Board__read : FnScope ["self", "clerk", "number"] ["self", "clerk"] (defScope s_Board__read) := ⟨rfl, rfl, rfl, by decide +kernel, rfl, by decide +kernel, by decide +kernel⟩
abbrev Ok_Board__read (P : Program) (w : World) (K : PySem.W.Frag) (mg : Str → Option Value) (base : Heap) : Prop := ∃ f fd, Fun K "_read" "Board._read" s_Board__read f fd ∧ Meth K (Sa.clsOf mg "Board") "_read" f ∧ FnOk P w K mg base CX0 3 f fd ["self", "clerk"] (sp_Board__read K (Sa.clsOf mg "Board"))
theorem ok_Board__read {P : Program} {w : World} {K : PySem.W.Frag} {mg : Str → Option Value} {base : Heap} (T : Top K mg) (h_Board_now : Ok_Board_now P w K mg base) : Ok_Board__read P w K mg base := by
  obtain ⟨f, fd, F, m⟩ := T.d_Board__read
  obtain ⟨f_Board_now, fd_Board_now, F_Board_now, m_Board_now, G_Board_now⟩ := h_Board_now
  have b_Board_now := F_Board_now.binds (ps := ["self"]) (fun _ _ _ _ _ _ us hl => match us, hl with | [_], _ => rfl)
  have k_Board := T.k_Board
  have a_Board__careful := T.a_Board__careful
  have a_Board__calls := T.a_Board__calls
  have a_Board__deeds := T.a_Board__deeds
  have a_Board__held := T.a_Board__held
  have a_Board__numbers := T.a_Board__numbers
  have a_Board__writers := T.a_Board__writers
  have a_Board__gaps := T.a_Board__gaps
  obtain ⟨u_READ, g_READ, r_READ⟩ := T.c_READ
  refine ⟨f, fd, F, m, F.ok sc_Board__read (fun vs H Q E h => by first | (obtain ⟨_, rfl, _⟩ := h; rfl) | (obtain ⟨_, _, rfl, _⟩ := h; rfl) | (obtain ⟨_, _, _, rfl, _⟩ := h; rfl) | (obtain ⟨_, _, _, _, rfl, _⟩ := h; rfl) | (obtain ⟨_, _, _, _, _, rfl, _⟩ := h; rfl) | (obtain ⟨_, _, _, _, _, _, rfl, _⟩ := h; rfl) | (obtain ⟨_, _, _, _, _, _, _, rfl, _⟩ := h; rfl) | (obtain ⟨_, _, _, _, _, _, _, _, rfl, _⟩ := h; rfl)) (fun cdv A outer s H vs Q E hr h => ?_)⟩
  refine ⟨_, (pss_cons (ps_set (i := 2) sc_Board__read.nd rfl (.inl rfl) (pe_meth0 (pv 0) T.k_Board m_Board_now G_Board_now (hr.mono (by first | decide | omega)) b_Board_now .nil pass0))
      (pss_cons (ps_dput (hu_of hr) (pe_fld (pv 0) rfl) (pv 1) (pe_tup (pa_cons (pv 2) (pa_cons (pe_callB Sa.call_len (by rfl) T.z_len boot_len (pa_cons (pe_fld (pv 0) rfl) pa_nil)) pa_nil))) rfl)
      (pss_cons (ps_expr (pe_bm PySem.F.plainAttrs_list PySem.F.slot_list_append PySem.F.type_list_append mt_append (pe_fld (pv 0) rfl) (pa_cons (pv 1) pa_nil)))
      (pss_cons (ps_expr (pe_bm PySem.F.plainAttrs_list PySem.F.slot_list_append PySem.F.type_list_append mt_append (pe_fld (pv 0) rfl) (pa_cons (pe_tup (pa_cons (pe_glob rfl g_READ r_READ) (pa_cons (pv 2) (pa_cons (pe_callB Sa.call_len (by rfl) T.z_len boot_len (pa_cons (pe_fld (pv 0) rfl) pa_nil)) pa_nil)))) pa_nil)))
      (pss_one (ps_ret (pv 2))))))), ?_⟩
  obtain ⟨R, c, rfl, S, L, M0, M, kvs, des, m, hS, hB, hg, hz, hm, q⟩ := h
  have hS1 := hS.grp hg
  obtain ⟨z1, z2, z3, z4, z5, z6⟩ := id hz
  simp only [bcells_eq, List.cons_append, List.nil_append] at hS1
  walk_at "st"
  walk_at "gn"
  refine ⟨R, rfl, L, _, _, kvs, des, S, hS1, bgrp, by omega, fun H1 hS2 => ?_⟩
  clear hS1
  walk_at "gn"
  simp only [bcells_eq, List.cons_append, List.nil_append] at q
  exact q _ _ _ (Sa.SA.subs (fb_read (by assumption) (.tl (.tl hB)) (.tl .hd) .hd) (.cons .hd (.tl (.tl (.tl .rest))))) hz.read

def sp_check_clerk (K : PySem.W.Frag) : Sp := fun vs H Q _ => ∃ c : Int, vs = [.int c] ∧ 0 ≤ c ∧ Q .non H
theorem sc_check_clerk : FnScope ["clerk"] ["clerk"] (defScope s_check_clerk) := ⟨rfl, rfl, rfl, by decide +kernel, rfl, by decide +kernel, by decide +kernel⟩
abbrev Ok_check_clerk (P : Program) (w : World) (K : PySem.W.Frag) (mg : Str → Option Value) (base : Heap) : Prop := ∃ f fd, Fun K "check_clerk" "check_clerk" s_check_clerk f fd ∧ mg "check_clerk" = some (.ref f) ∧ FnOk P w K mg base CX0 1 f fd ["clerk"] (sp_check_clerk K)
theorem ok_check_clerk {P : Program} {w : World} {K : PySem.W.Frag} {mg : Str → Option Value} {base : Heap} (T : Top K mg) : Ok_check_clerk P w K mg base := by
  obtain ⟨f, fd, F, m⟩ := T.d_check_clerk
  refine ⟨f, fd, F, m, F.ok sc_check_clerk (fun vs H Q E h => by first | (obtain ⟨_, rfl, _⟩ := h; rfl) | (obtain ⟨_, _, rfl, _⟩ := h; rfl) | (obtain ⟨_, _, _, rfl, _⟩ := h; rfl) | (obtain ⟨_, _, _, _, rfl, _⟩ := h; rfl) | (obtain ⟨_, _, _, _, _, rfl, _⟩ := h; rfl) | (obtain ⟨_, _, _, _, _, _, rfl, _⟩ := h; rfl) | (obtain ⟨_, _, _, _, _, _, _, rfl, _⟩ := h; rfl) | (obtain ⟨_, _, _, _, _, _, _, _, rfl, _⟩ := h; rfl)) (fun cdv A outer s H vs Q E hr h => ?_)⟩
  refine ⟨_, (pss_one (ps_if (pt_cmpR op_lt (pv 0) pe_int (nomark _)) (pss_one ps_never) pss_nil)), ?_⟩
  obtain ⟨c, rfl, h0, q⟩ := h
  walk_at "st"
  walk_at "go"
  refine Sa.if_dec (fun hc => absurd hc (by omega)) (fun _ => ?_)
  walk_at "go"
  exact q

def sp_Board___call__ (K : PySem.W.Frag) (C : Addr) : Sp := fun vs H Q _ => ∃ (R : Ba) (c : Int), vs = [.ref R.b, .int c] ∧ 0 ≤ c ∧ ∃ S : Bo, BoT K C R S (S.call c) (optI (S.told c)) H Q
theorem sc_Board___call__ : FnScope ["self", "clerk", "number", "gap"] ["self", "clerk"] (defScope s_Board___call__) := ⟨rfl, rfl, rfl, by decide +kernel, rfl, by decide +kernel, by decide +kernel⟩
abbrev Ok_Board___call__ (P : Program) (w : World) (K : PySem.W.Frag) (mg : Str → Option Value) (base : Heap) : Prop := ∃ f fd, Fun K "__call__" "Board.__call__" s_Board___call__ f fd ∧ StX.CallO K (Sa.clsOf mg "Board") f ∧ FnOk P w K mg base CX0 4 f fd ["self", "clerk"] (sp_Board___call__ K (Sa.clsOf mg "Board"))
theorem ok_Board___call__ {P : Program} {w : World} {K : PySem.W.Frag} {mg : Str → Option Value} {base : Heap} (T : Top K mg) (h_Board__write : Ok_Board__write P w K mg base) (h_Board_now : Ok_Board_now P w K mg base) (h_Board__try_in_vain : Ok_Board__try_in_vain P w K mg base) (h_Board__read : Ok_Board__read P w K mg base) (h_check_clerk : Ok_check_clerk P w K mg base) : Ok_Board___call__ P w K mg base := by
  obtain ⟨f, fd, F, m⟩ := T.d_Board___call__
  obtain ⟨f_Board__write, fd_Board__write, F_Board__write, m_Board__write, G_Board__write⟩ := h_Board__write
  have b_Board__write := F_Board__write.binds (ps := ["self", "clerk", "number", "gap"]) (fun _ _ _ _ _ _ us hl => match us, hl with | [_, _, _, _], _ => rfl)
  obtain ⟨f_Board_now, fd_Board_now, F_Board_now, m_Board_now, G_Board_now⟩ := h_Board_now
  have b_Board_now := F_Board_now.binds (ps := ["self"]) (fun _ _ _ _ _ _ us hl => match us, hl with | [_], _ => rfl)
  obtain ⟨f_Board__try_in_vain, fd_Board__try_in_vain, F_Board__try_in_vain, m_Board__try_in_vain, G_Board__try_in_vain⟩ := h_Board__try_in_vain
  have b_Board__try_in_vain := F_Board__try_in_vain.binds (ps := ["self", "clerk", "number", "gap"]) (fun _ _ _ _ _ _ us hl => match us, hl with | [_, _, _, _], _ => rfl)
  obtain ⟨f_Board__read, fd_Board__read, F_Board__read, m_Board__read, G_Board__read⟩ := h_Board__read
  have b_Board__read := F_Board__read.binds (ps := ["self", "clerk"]) (fun _ _ _ _ _ _ us hl => match us, hl with | [_, _], _ => rfl)
  obtain ⟨f_check_clerk, fd_check_clerk, F_check_clerk, m_check_clerk, G_check_clerk⟩ := h_check_clerk
  have b_check_clerk := F_check_clerk.binds (ps := ["clerk"]) (fun _ _ _ _ _ _ us hl => match us, hl with | [_], _ => rfl)
  have k_Board := T.k_Board
  have a_Board__careful := T.a_Board__careful
  have a_Board__calls := T.a_Board__calls
  have a_Board__deeds := T.a_Board__deeds
  have a_Board__held := T.a_Board__held
  have a_Board__numbers := T.a_Board__numbers
  have a_Board__writers := T.a_Board__writers
  have a_Board__gaps := T.a_Board__gaps
  refine ⟨f, fd, F, m, F.ok sc_Board___call__ (fun vs H Q E h => by first | (obtain ⟨_, rfl, _⟩ := h; rfl) | (obtain ⟨_, _, rfl, _⟩ := h; rfl) | (obtain ⟨_, _, _, rfl, _⟩ := h; rfl) | (obtain ⟨_, _, _, _, rfl, _⟩ := h; rfl) | (obtain ⟨_, _, _, _, _, rfl, _⟩ := h; rfl) | (obtain ⟨_, _, _, _, _, _, rfl, _⟩ := h; rfl) | (obtain ⟨_, _, _, _, _, _, _, rfl, _⟩ := h; rfl) | (obtain ⟨_, _, _, _, _, _, _, _, rfl, _⟩ := h; rfl)) (fun cdv A outer s H vs Q E hr h => ?_)⟩
  refine ⟨_, (pss_cons (ps_expr (pe_call G_check_clerk (hr.mono (by first | decide | omega)) (by rfl) m_check_clerk F_check_clerk.kp b_check_clerk .nil pass0 (pa_cons (pv 1) pa_nil)))
      (pss_cons (ps_if (pt_cmp (pc_dnotin (hu_of hr) (pv 1) (pe_fld (pv 0) rfl))) (pss_one (ps_ret (pe_meth (pv 0) T.k_Board m_Board__read G_Board__read (hr.mono (by first | decide | omega)) b_Board__read .nil pass0 (pa_cons (pv 1) pa_nil)))) pss_nil)
      (pss_cons (ps_asg (pe_dget (hu_of hr) (pe_fld (pv 0) rfl) (pv 1) (fun _ _ => rfl)) (pg_tup rfl (pgs_cons (pg_name (i := 2) sc_Board___call__.nd rfl (.inl rfl)) (pgs_cons (pg_name (i := 3) sc_Board___call__.nd rfl (.inl rfl)) pgs_nil))))
      (pss_cons (ps_if (PW.pt (pw_and (pt_cmpR op_in_seq (pv 1) (pe_fld (pv 0) rfl) (by first | rfl | exact nomark _)) (pw_and1 (pt_cmpR op_ne (pv 2) (pe_meth0 (pv 0) T.k_Board m_Board_now G_Board_now (hr.mono (by first | decide | omega)) b_Board_now .nil pass0) (nomark _))))) (pss_one (ps_ret (pe_meth (pv 0) T.k_Board m_Board__try_in_vain G_Board__try_in_vain (hr.mono (by first | decide | omega)) b_Board__try_in_vain .nil pass0 (pa_cons (pv 1) (pa_cons (pv 2) (pa_cons (pv 3) pa_nil)))))) pss_nil)
      (pss_one (ps_ret (pe_meth (pv 0) T.k_Board m_Board__write G_Board__write (hr.mono (by first | decide | omega)) b_Board__write .nil pass0 (pa_cons (pv 1) (pa_cons (pv 2) (pa_cons (pv 3) pa_nil)))))))))), ?_⟩
  obtain ⟨R, c, rfl, h0, S, L, M0, M, kvs, des, m, hS, hB, hg, hz, hm, q⟩ := h
  have z4 := hz.z4
  have hS1 := hS.grp hg
  simp only [bcells_eq, List.cons_append, List.nil_append] at hS1
  walk_at "st"
  walk_at "gn"
  refine ⟨c, rfl, h0, ?_⟩
  walk_at "gn"
  cases hh : S.held c with
  | none =>
    have hv := held_no hS1 hB hh
    rw [hv]
    walk_at "gn"
    refine ⟨R, c, rfl, S, L, _, _, kvs, des, m, hS1, hB, bgrp, hz, hm, fun kvs' des' H' hS2 hz2 => ?_⟩
    have e1 : S.call c = S.read c := by unfold Bo.call; rw [hh]
    have e2 : S.told c = some S.now := by unfold Bo.told; rw [hh]
    rw [e1, e2] at q
    exact q _ _ _ hS2 hz2
  | some ng =>
    obtain ⟨n, g⟩ := ng
    obtain ⟨pr, hv, hS2⟩ := held_at hS1 hB hh
    clear hS1
    rw [hv]
    walk_at "gn"
    refine Sa.if_dec (fun hc => ?_) (fun hc => ?_)
    · walk_at "gn"
      refine ⟨R, rfl, _, _, _, kvs, des, S, hS2, bgrp, by omega, fun H3 hS3 => ?_⟩
      clear hS2
      walk_at "gn"
      refine Sa.if_dec (fun hn => ?_) (fun hn => ?_)
      · have e0 : ¬ (c ∈ S.care ∧ n ≠ S.now) := fun h => h.2 hn
        have e1 : S.call c = S.write c n g := by unfold Bo.call; rw [hh]; exact if_neg e0
        have e2 : S.told c = some (n + 1) := by unfold Bo.told; rw [hh]; exact if_neg e0
        walk_at "gn"
        refine ⟨R, c, n, g, rfl, S, hh, _, _, _, kvs, des, m, hS3, .tl hB, bgrp, hz, hm, fun kvs' des' H' hS4 hz2 => ?_⟩
        rw [e1, e2] at q
        exact q _ _ _ (hS4.subs (.cons .hd (.tl (.tl .rest)))) hz2
      · have e0 : c ∈ S.care ∧ n ≠ S.now := ⟨hc, hn⟩
        have e1 : S.call c = S.vain c n g := by unfold Bo.call; rw [hh]; exact if_pos e0
        have e2 : S.told c = none := by unfold Bo.told; rw [hh]; exact if_pos e0
        walk_at "gn"
        refine ⟨R, c, n, g, rfl, S, hh, _, _, _, kvs, des, m, hS3, .tl hB, bgrp, hz, hm, fun kvs' des' H' hS4 hz2 => ?_⟩
        rw [e1, e2] at q
        exact q _ _ _ (hS4.subs (.cons .hd (.tl (.tl .rest)))) hz2
    · have e0 : ¬ (c ∈ S.care ∧ n ≠ S.now) := fun h => hc h.1
      have e1 : S.call c = S.write c n g := by unfold Bo.call; rw [hh]; exact if_neg e0
      have e2 : S.told c = some (n + 1) := by unfold Bo.told; rw [hh]; exact if_neg e0
      walk_at "gn"
      refine ⟨R, c, n, g, rfl, S, hh, _, _, _, kvs, des, m, hS2, .tl hB, bgrp, hz, hm, fun kvs' des' H' hS4 hz2 => ?_⟩
      rw [e1, e2] at q
      exact q _ _ _ (hS4.subs (.cons .hd (.tl (.tl .rest)))) hz2

def sp__law_dip (K : PySem.W.Frag) : Sp := fun vs H Q _ => ∃ (p : Addr) (n : Int), vs = [.ref p, .int n] ∧ ∃ (L : List Fc) (M : List Cell) (o : HO) (k : Int), SA L ((p, o) :: M) H ∧ Jar o k ∧ 0 < n ∧ n ≤ 1000000000000000000000000000000 ∧ k ≤ 1000000000 ∧
  ∀ r o' k' H', 0 ≤ r → r < n → Jar o' k' → k' ≤ k + 1 → SA L ((p, o') :: M) H' → Q (.int r) H'
theorem sc__law_dip : FnScope ["_law_bowl_here", "_law_many", "_law_digit", "_law_stirred"] ["_law_bowl_here", "_law_many"] (defScope s__law_dip) := ⟨rfl, rfl, rfl, by decide +kernel, rfl, by decide +kernel, by decide +kernel⟩
abbrev Ok__law_dip (P : Program) (w : World) (K : PySem.W.Frag) (mg : Str → Option Value) (base : Heap) : Prop := ∃ f fd, Fun K "_law_dip" "_law_dip" s__law_dip f fd ∧ mg "_law_dip" = some (.ref f) ∧ FnOk P w K mg base CX0 1 f fd ["_law_bowl_here", "_law_many"] (sp__law_dip K)
theorem ok__law_dip {P : Program} {w : World} {K : PySem.W.Frag} {mg : Str → Option Value} {base : Heap} (T : Top K mg) : Ok__law_dip P w K mg base := by
  obtain ⟨f, fd, F, m⟩ := T.d__law_dip
  refine ⟨f, fd, F, m, F.ok sc__law_dip (fun vs H Q E h => by first | (obtain ⟨_, rfl, _⟩ := h; rfl) | (obtain ⟨_, _, rfl, _⟩ := h; rfl) | (obtain ⟨_, _, _, rfl, _⟩ := h; rfl) | (obtain ⟨_, _, _, _, rfl, _⟩ := h; rfl) | (obtain ⟨_, _, _, _, _, rfl, _⟩ := h; rfl) | (obtain ⟨_, _, _, _, _, _, rfl, _⟩ := h; rfl) | (obtain ⟨_, _, _, _, _, _, _, rfl, _⟩ := h; rfl) | (obtain ⟨_, _, _, _, _, _, _, _, rfl, _⟩ := h; rfl)) (fun cdv A outer s H vs Q E hr h => ?_)⟩
  refine ⟨_, (pss_cons (ps_if (pt_cmpR op_gt (pe_ix ix_list (pv 0) pe_int (fun _ _ => rfl)) pe_int (nomark _)) (pss_cons (ps_set (i := 2) sc__law_dip.nd rfl (.inl rfl) (pe_op Sa.op_modX (pe_callTy Sa.call_int1 (by rfl) T.z_int (by decide +kernel) (pa_cons (pe_ix ix_list (pv 0) pe_int (fun _ _ => rfl)) pa_nil)) (pv 1)))
      (pss_cons (ps_asg (pe_op Sa.op_fdivX (pe_ix ix_list (pv 0) pe_int (fun _ _ => rfl)) (pv 1)) (pg_sub (pv 0) pe_int set_list))
      (pss_one (ps_ret (pv 2))))) pss_nil)
      (pss_cons (ps_asg (pe_op op_add (pe_ix ix_list (pv 0) pe_int (fun _ _ => rfl)) pe_int) (pg_sub (pv 0) pe_int set_list))
      (pss_cons (ps_set (i := 3) sc__law_dip.nd rfl (.inl rfl) (pe_op Sa.op_modX (pe_op Sa.op_powW (pe_callTy Sa.call_int1 (by rfl) T.z_int (by decide +kernel) (pa_cons (pe_op op_add (pe_ix ix_list (pv 0) pe_int (fun _ _ => rfl)) (pe_op Sa.op_mulX pe_int (pe_ix ix_list (pv 0) pe_int (fun _ _ => rfl)))) pa_nil)) pe_int) (pe_op op_add (pe_op Sa.op_powW pe_int pe_int) pe_int)))
      (pss_cons (ps_set (i := 3) sc__law_dip.nd rfl (.inl rfl) (pe_op Sa.op_modX (pe_op Sa.op_powW (pe_callTy Sa.call_int1 (by rfl) T.z_int (by decide +kernel) (pa_cons (pe_op op_add (pv 3) (pe_op Sa.op_mulX pe_int (pe_ix ix_list (pv 0) pe_int (fun _ _ => rfl)))) pa_nil)) pe_int) (pe_op op_add (pe_op Sa.op_powW pe_int pe_int) pe_int)))
      (pss_one (ps_ret (pe_op Sa.op_modX (pe_callTy Sa.call_int1 (by rfl) T.z_int (by decide +kernel) (pa_cons (pe_op Sa.op_fdivX (pv 3) pe_int) pa_nil)) (pv 1)))))))), ?_⟩
  obtain ⟨p, n, rfl, L, M, o, k, hS, ⟨c, m0, rfl, hc, hm0, hm1, hk⟩, hn, hn2, hk2, q⟩ := h
  walk_at "st"
  walk_at "go"
  refine Sa.if_dec (fun h2 => ?_) (fun h2 => ?_)
  · walk_at "go"
    exact q _ _ k _ (Int.emod_nonneg _ (by omega)) (Int.emod_lt_of_pos _ hn) ⟨c / n, m0, rfl, Int.ediv_nonneg hc (by omega), hm0, hm1, hk⟩ (by omega) (by assumption)
  · walk_at "go"
    exact q _ _ (k + 1) _ (Int.emod_nonneg _ (by omega)) (Int.emod_lt_of_pos _ hn) ⟨c, m0, rfl, hc, hm0, hm1, by omega⟩ (by omega) (by assumption)
theorem call_dip {K : PySem.W.Frag} {L : List Fc} {M : List Cell} {H : Hp} {p : Addr} {o : HO} {n k : Int} {Q : VK} {E : XK} (hS : SA L ((p, o) :: M) H) (hj : Jar o k) (h0 : 0 < n) (h1 : n ≤ 1000000000000000000000000000000) (hk : k ≤ 1000000000)
    (q : ∀ r o' k' H', 0 ≤ r → r < n → Jar o' k' → k' ≤ k + 1 → SA L ((p, o') :: M) H' → Q (.int r) H') : sp__law_dip K ([.ref p, .int n] ++ []) H Q E :=
  ⟨p, n, rfl, L, M, o, k, hS, hj, h0, h1, hk, q⟩

def sp_Board_undo (K : PySem.W.Frag) (C : Addr) : Sp := fun vs H Q _ => ∃ R : Ba, vs = [.ref R.b] ∧ ∃ (S : Bo) (c : Int) (L : List Fc) (M0 M : List Cell) (kvs : List (Key × V)) (des : List V) (m : Nat), SA L M0 H ∧ Sa.In1 (fB K kvs des (S.call c)) L ∧ Sa.Grp M0 (bcells C R kvs des (S.call c)) M ∧ Bz kvs des (S.call c) m ∧ m < 10000 ∧
  ∀ (kvs' : List (Key × V)) (des' : List V) (H' : Hp), SA (fB K kvs' des' S :: L) (bcells C R kvs' des' S ++ M) H' → Bz kvs' des' S (m + 1) → Q .non H'
theorem sc_Board_undo : FnScope ["self", "clerk", "deed", "number", "gap"] ["self"] (defScope s_Board_undo) := ⟨rfl, rfl, rfl, by decide +kernel, rfl, by decide +kernel, by decide +kernel⟩
abbrev Ok_Board_undo (P : Program) (w : World) (K : PySem.W.Frag) (mg : Str → Option Value) (base : Heap) : Prop := ∃ f fd, Fun K "undo" "Board.undo" s_Board_undo f fd ∧ Meth K (Sa.clsOf mg "Board") "undo" f ∧ FnOk P w K mg base CX0 1 f fd ["self"] (sp_Board_undo K (Sa.clsOf mg "Board"))
theorem ok_Board_undo {P : Program} {w : World} {K : PySem.W.Frag} {mg : Str → Option Value} {base : Heap} (T : Top K mg) : Ok_Board_undo P w K mg base := by
  obtain ⟨f, fd, F, m⟩ := T.d_Board_undo
  have k_Board := T.k_Board
  have a_Board__careful := T.a_Board__careful
  have a_Board__calls := T.a_Board__calls
  have a_Board__deeds := T.a_Board__deeds
  have a_Board__held := T.a_Board__held
  have a_Board__numbers := T.a_Board__numbers
  have a_Board__writers := T.a_Board__writers
  have a_Board__gaps := T.a_Board__gaps
  obtain ⟨u_READ, g_READ, r_READ⟩ := T.c_READ
  obtain ⟨u_WRITE, g_WRITE, r_WRITE⟩ := T.c_WRITE
  refine ⟨f, fd, F, m, F.ok sc_Board_undo (fun vs H Q E h => by first | (obtain ⟨_, rfl, _⟩ := h; rfl) | (obtain ⟨_, _, rfl, _⟩ := h; rfl) | (obtain ⟨_, _, _, rfl, _⟩ := h; rfl) | (obtain ⟨_, _, _, _, rfl, _⟩ := h; rfl) | (obtain ⟨_, _, _, _, _, rfl, _⟩ := h; rfl) | (obtain ⟨_, _, _, _, _, _, rfl, _⟩ := h; rfl) | (obtain ⟨_, _, _, _, _, _, _, rfl, _⟩ := h; rfl) | (obtain ⟨_, _, _, _, _, _, _, _, rfl, _⟩ := h; rfl)) (fun cdv A outer s H vs Q E hr h => ?_)⟩
  refine ⟨_, (pss_cons (ps_if (pt_cmpR op_eq (pe_callB Sa.call_len (by rfl) T.z_len boot_len (pa_cons (pe_fld (pv 0) rfl) pa_nil)) pe_int (nomark _)) (pss_one ps_never) pss_nil)
      (pss_cons (ps_set (i := 1) sc_Board_undo.nd rfl (.inl rfl) (pe_bm0 PySem.F.plainAttrs_list PySem.F.slot_list_pop PySem.F.type_list_pop mt_pop (pe_fld (pv 0) rfl)))
      (pss_cons (ps_asg (pe_bm0 PySem.F.plainAttrs_list PySem.F.slot_list_pop PySem.F.type_list_pop mt_pop (pe_fld (pv 0) rfl)) (pg_tup rfl (pgs_cons (pg_name (i := 2) sc_Board_undo.nd rfl (.inl rfl)) (pgs_cons (pg_name (i := 3) sc_Board_undo.nd rfl (.inl rfl)) (pgs_cons (pg_name (i := 4) sc_Board_undo.nd rfl (.inl rfl)) pgs_nil)))))
      (pss_cons (ps_if (pt_cmpR op_eq (pv 2) (pe_glob rfl g_READ r_READ) (nomark _)) (pss_cons (ps_ddel (pe_fld (pv 0) rfl) (pv 1))
      (pss_one (ps_ret pe_non))) pss_nil)
      (pss_cons (ps_if (pt_cmpR op_eq (pv 2) (pe_glob rfl g_WRITE r_WRITE) (nomark _)) (pss_cons (ps_expr (pe_bm0 PySem.F.plainAttrs_list PySem.F.slot_list_pop PySem.F.type_list_pop mt_pop (pe_fld (pv 0) rfl)))
      (pss_cons (ps_expr (pe_bm0 PySem.F.plainAttrs_list PySem.F.slot_list_pop PySem.F.type_list_pop mt_pop (pe_fld (pv 0) rfl)))
      (pss_one (ps_expr (pe_bm0 PySem.F.plainAttrs_list PySem.F.slot_list_pop PySem.F.type_list_pop mt_pop (pe_fld (pv 0) rfl)))))) pss_nil)
      (pss_cons (ps_dput (hu_of hr) (pe_fld (pv 0) rfl) (pv 1) (pe_tup (pa_cons (pv 3) (pa_cons (pv 4) pa_nil))) rfl)
      (pss_one (ps_ret pe_non)))))))), ?_⟩
  obtain ⟨R, rfl, S, c, L, M0, M, kvs, des, m, hS, hB, hg, hz, hm, q⟩ := h
  obtain ⟨z1, z2, z3, z4, z5, z6⟩ := id hz
  have bk := fun kvs' des' => bz_back (kvs' := kvs') (des' := des') hz
  have hS1 := hS.grp hg
  clear hS
  walk_at "st"
  cases hh : S.held c with
  | none =>
    obtain ⟨e1, _⟩ := call_none hh
    rw [e1] at hB hS1 z3
    have hcl : 0 < (S.read c).calls.length := by show 0 < (S.calls ++ [c]).length; simp
    obtain ⟨pd, hd, hS2⟩ := deed_last hS1 hB (ds := S.deeds) (d := (("read" : Str), S.now, S.len)) rfl
    simp only [bcells_eq, List.cons_append, List.nil_append] at hS2 q
    obtain ⟨v, hv, _⟩ := Sa.dk_some (n := c) (hS1.ask hB.at).1 (d := .tuple [.int S.now, .int S.len]) (by unfold heldD Bo.read; simp)
    have hvs : (Sa.dv kvs c).isSome = true := by rw [hv]; rfl
    clear hS1
    walk_at "gn"
    refine Sa.if_dec (fun h => absurd h (by omega)) (fun _ => ?_)
    walk_at "gn"
    rw [show (S.read c).calls.getD ((S.read c).calls.length - 1) 0 = c from getD_last S.calls c]
    refine Sa.st_pop (by assumption) (by walk_at "chg") hd (fun H5 hS5 => ?_)
    rw [show (S.read c).calls.dropLast = S.calls from drop_end S.calls c] at hS5
    clear hS2
    walk_at "gn"
    refine Sa.st_eq rfl ?_
    walk_at "gn"
    refine Sa.if_dec (fun _ => ?_) (fun h => absurd rfl h)
    walk_at "gn"
    have hdd := Sa.ddrop_len kvs c
    exact q _ _ _ (Sa.SA.take (fb_unread (by assumption) (.tl hB) hh) (.cons .hd (.tl (.tl .rest))) (by walk_at "sam")) (bk _ _ (by omega) (by rw [List.length_dropLast]; omega))
  | some ng =>
    obtain ⟨n, g⟩ := ng
    by_cases h1 : c ∈ S.care ∧ n ≠ S.now
    · obtain ⟨e1, _⟩ := call_vain hh h1
      rw [e1] at hB hS1 z3 z4 z5 z6
      have hcl : 0 < (S.vain c n g).calls.length := by show 0 < (S.calls ++ [c]).length; simp
      obtain ⟨pd, hd, hS2⟩ := deed_last hS1 hB (ds := S.deeds) (d := (("vain" : Str), n, g)) rfl
      simp only [bcells_eq, List.cons_append, List.nil_append] at hS2 q
      clear hS1
      walk_at "gn"
      refine Sa.if_dec (fun h => absurd h (by omega)) (fun _ => ?_)
      walk_at "gn"
      rw [show (S.vain c n g).calls.getD ((S.vain c n g).calls.length - 1) 0 = c from getD_last S.calls c]
      refine Sa.st_pop (by assumption) (by walk_at "chg") hd (fun H5 hS5 => ?_)
      rw [show (S.vain c n g).calls.dropLast = S.calls from drop_end S.calls c] at hS5
      clear hS2
      walk_at "gn"
      refine Sa.st_eq rfl ?_
      walk_at "gn"
      refine Sa.if_dec (fun h => absurd h (by decide +kernel)) (fun _ => ?_)
      walk_at "gn"
      refine Sa.st_eq rfl ?_
      walk_at "gn"
      refine Sa.if_dec (fun h => absurd h (by decide +kernel)) (fun _ => ?_)
      walk_at "gn"
      have hdl := fun v : V => Sa.dput_len kvs c v
      exact q _ _ _ (Sa.SA.take (fb_unput (by assumption) (.tl (.tl hB)) hh (fun _ => rfl) rfl .hd) (.cons .hd (.tl (.tl (.tl .rest)))) (by walk_at "sam")) (bk _ _ (hdl _) (by rw [List.length_dropLast]; omega))
    · obtain ⟨e1, _⟩ := call_write hh h1
      rw [e1] at hB hS1 z3 z4 z5 z6
      have hcl : 0 < (S.write c n g).calls.length := by show 0 < (S.calls ++ [c]).length; simp
      obtain ⟨pd, hd, hS2⟩ := deed_last hS1 hB (ds := S.deeds) (d := (("write" : Str), n, g)) rfl
      simp only [bcells_eq, List.cons_append, List.nil_append] at hS2 q
      clear hS1
      walk_at "gn"
      refine Sa.if_dec (fun h => absurd h (by omega)) (fun _ => ?_)
      walk_at "gn"
      rw [show (S.write c n g).calls.getD ((S.write c n g).calls.length - 1) 0 = c from getD_last S.calls c]
      refine Sa.st_pop (by assumption) (by walk_at "chg") hd (fun H5 hS5 => ?_)
      rw [show (S.write c n g).calls.dropLast = S.calls from drop_end S.calls c] at hS5
      clear hS2
      have w1 : 0 < (S.write c n g).nums.length := by show 0 < (S.nums ++ [n + 1]).length; simp
      have w2 : 0 < (S.write c n g).wrs.length := by show 0 < (S.wrs ++ [c]).length; simp
      have w3 : 0 < (S.write c n g).gps.length := by show 0 < (S.gps ++ [g]).length; simp
      walk_at "gn"
      refine Sa.st_eq rfl ?_
      walk_at "gn"
      refine Sa.if_dec (fun h => absurd h (by decide +kernel)) (fun _ => ?_)
      walk_at "gn"
      refine Sa.st_eq rfl ?_
      walk_at "gn"
      refine Sa.if_dec (fun _ => ?_) (fun h => absurd rfl h)
      walk_at "gn"
      rename_i hS9
      rw [show (S.write c n g).nums.dropLast = S.nums from drop_end S.nums _, show (S.write c n g).wrs.dropLast = S.wrs from drop_end S.wrs _, show (S.write c n g).gps.dropLast = S.gps from drop_end S.gps _] at hS9
      clear hS5
      have hdl := fun v : V => Sa.dput_len kvs c v
      exact q _ _ _ (Sa.SA.take (fb_unput (by assumption) (.tl (.tl hB)) hh (fun _ => rfl) rfl .hd) (.cons .hd (.tl (.tl (.tl .rest)))) (by walk_at "sam")) (bk _ _ (hdl _) (by rw [List.length_dropLast]; omega))

theorem fb_start {K : PySem.W.Frag} {L : List Fc} {M : List Cell} {H : Hp} {care : List Int} (hS : SA L M H) : SA (fB K [] [] (Bo.start care) :: L) M H := hS.ad fun F hF => ⟨Sa.dk_nil, .nil⟩
def sp_Board___init__ (K : PySem.W.Frag) (C : Addr) : Sp := fun vs H Q _ => ∃ x a : Addr, vs = [.ref x, .ref a] ∧ ∃ (L : List Fc) (M : List Cell) (dx : Addr) (ns : List Int), SA L ((x, .ins C dx (Sa.flds [] [])) :: M) H ∧ At L ((x, .ins C dx (Sa.flds [] [])) :: M) (fQ K a (ns.map V.int)) ∧ (∀ n ∈ ns, 0 ≤ n) ∧ ns.length ≤ 63 ∧
  ∀ (R : Ba) (care : List Int) (H' : Hp), R.b = x → care.Pairwise (· < ·) → (∀ k, k ∈ care ↔ k ∈ ns) → SA (fB K [] [] (Bo.start care) :: L) (bcells C R [] [] (Bo.start care) ++ M) H' → Q .non H'
theorem sc_Board___init__ : FnScope ["self", "careful", "clerk"] ["self", "careful"] (defScope s_Board___init__) := ⟨rfl, rfl, rfl, by decide +kernel, rfl, by decide +kernel, by decide +kernel⟩
abbrev Ok_Board___init__ (P : Program) (w : World) (K : PySem.W.Frag) (mg : Str → Option Value) (base : Heap) : Prop := ∃ f fd, Fun K "__init__" "Board.__init__" s_Board___init__ f fd ∧ Mk K (Sa.clsOf mg "Board") f ∧ FnOk P w K mg base CX0 2 f fd ["self", "careful"] (sp_Board___init__ K (Sa.clsOf mg "Board"))
theorem ok_Board___init__ {P : Program} {w : World} {K : PySem.W.Frag} {mg : Str → Option Value} {base : Heap} (T : Top K mg) (h_check_clerk : Ok_check_clerk P w K mg base) : Ok_Board___init__ P w K mg base := by
  obtain ⟨f, fd, F, m⟩ := T.d_Board___init__
  obtain ⟨f_check_clerk, fd_check_clerk, F_check_clerk, m_check_clerk, G_check_clerk⟩ := h_check_clerk
  have b_check_clerk := F_check_clerk.binds (ps := ["clerk"]) (fun _ _ _ _ _ _ us hl => match us, hl with | [_], _ => rfl)
  have k_Board := T.k_Board
  have a_Board__careful := T.a_Board__careful
  have a_Board__calls := T.a_Board__calls
  have a_Board__deeds := T.a_Board__deeds
  have a_Board__held := T.a_Board__held
  have a_Board__numbers := T.a_Board__numbers
  have a_Board__writers := T.a_Board__writers
  have a_Board__gaps := T.a_Board__gaps
  refine ⟨f, fd, F, m, F.ok sc_Board___init__ (fun vs H Q E h => by first | (obtain ⟨_, rfl, _⟩ := h; rfl) | (obtain ⟨_, _, rfl, _⟩ := h; rfl) | (obtain ⟨_, _, _, rfl, _⟩ := h; rfl) | (obtain ⟨_, _, _, _, rfl, _⟩ := h; rfl) | (obtain ⟨_, _, _, _, _, rfl, _⟩ := h; rfl) | (obtain ⟨_, _, _, _, _, _, rfl, _⟩ := h; rfl) | (obtain ⟨_, _, _, _, _, _, _, rfl, _⟩ := h; rfl) | (obtain ⟨_, _, _, _, _, _, _, _, rfl, _⟩ := h; rfl)) (fun cdv A outer s H vs Q E hr h => ?_)⟩
  refine ⟨_, (pss_cons (ps_for PassesOwn.never rfl (pi_list (pv 1)) (pg_name (i := 2) sc_Board___init__.nd rfl (.inl rfl)) (pss_one (ps_expr (pe_call G_check_clerk (hr.mono (by first | decide | omega)) (by rfl) m_check_clerk F_check_clerk.kp b_check_clerk .nil pass0 (pa_cons (pv 2) pa_nil)))))
      (pss_cons (ps_fld (pv 0) (pe_callB (cr_sortedSet rfl) (by rfl) T.z_sorted (by decide +kernel) (pa_cons (pe_callTy (Sa.cr_setL rfl) (by rfl) T.z_set (by decide +kernel) (pa_cons (pv 1) pa_nil)) pa_nil)) rfl)
      (pss_cons (ps_fld (pv 0) (pe_lst pa_nil) rfl)
      (pss_cons (ps_fld (pv 0) (pe_lst pa_nil) rfl)
      (pss_cons (ps_fld (pv 0) pe_dnewK rfl)
      (pss_cons (ps_fld (pv 0) (pe_lst pa_nil) rfl)
      (pss_cons (ps_fld (pv 0) (pe_lst pa_nil) rfl)
      (pss_one (ps_fld (pv 0) (pe_lst pa_nil) rfl))))))))), ?_⟩
  obtain ⟨x, a, rfl, L, M, dx, ns, hS, hA, h0, hl, q⟩ := h
  walk_at "st"
  walk_at "gn"
  refine Sa.st_l1 (by assumption) (by walk_at "at") ?_
  refine Sa.lp_list (γ := Option V) (fun i g => [some (.ref x), some (.ref a), g]) (fun _ _ => L) (fun _ _ => (x, .ins _ dx (Sa.flds [] [])) :: M) (fun _ _ => True) ⟨none, rfl, trivial, hS⟩ (fun _ _ _ _ => hA) ?_ ?_
  · rintro i y g H1 hy _ hS1
    obtain ⟨n, hn, rfl⟩ := Sa.ints_at hy
    walk_at "nm"
    walk_at "gn"
    refine ⟨n, rfl, h0 n (List.mem_of_getElem? hn), ?_⟩
    exact ⟨_, rfl, trivial, hS1⟩
  · rintro g H1 _ hS1
    walk_at "gn"
    refine Sa.st_mkset hS1 (by walk_at "at") hl (fun ps c H2 hc hS2 => ?_)
    walk_at "gn"
    refine Sa.st_sortedSet hS2 hc (fun ms l H3 h1 h2 hS3 => ?_)
    clear hS1 hS2
    walk_at "gn"
    simp only [bcells_eq, List.cons_append, List.nil_append] at q
    exact q ⟨x, dx, _, _, _, _, _, _, _⟩ ms _ rfl h1 h2 (Sa.SA.take (fb_start (by assumption)) (.cons .hd (.tl .rest)) (by
      show Sa.SubM ((x, _) :: (_, _) :: (_, _) :: (_, _) :: (_, _) :: (_, _) :: (_, _) :: (_, _) :: M) _
      walk_at "sam"))

theorem in41_rev {ns : List Int} (h : In41 ns) : In41 ns.reverse := fun n hn => h n (List.mem_reverse.mp hn)
theorem in41_ins {ns : List Int} {i : Nat} {r : Int} (h : In41 ns) (h0 : 0 ≤ r) (h1 : r ≤ 40) : In41 (ns.take i ++ [r] ++ ns.drop i) := fun n hn => by
  rcases List.mem_append.mp hn with hn | hn
  · rcases List.mem_append.mp hn with hn | hn
    · exact h n (List.mem_of_mem_take hn)
    · rw [List.mem_singleton.mp hn]; exact ⟨h0, h1⟩
  · exact h n (List.mem_of_mem_drop hn)
theorem ins_len {ns : List Int} {i : Nat} {r : Int} (h : i ≤ ns.length) : (ns.take i ++ [r] ++ ns.drop i).length = ns.length + 1 := by
  simp only [List.length_append, List.length_take, List.length_drop, List.length_singleton]
  omega
def sp__law_other_careful (K : PySem.W.Frag) : Sp := fun vs H Q _ => ∃ (p cr : Addr), vs = [.ref p, .ref cr] ∧ ∃ (L : List Fc) (M : List Cell) (o : HO) (k : Int) (ns : List Int), SA L ((p, o) :: M) H ∧ At L M (fL cr (ns.map V.int)) ∧ ns.length ≤ 200 ∧ In41 ns ∧ Jar o k ∧ k ≤ 900000000 ∧
  ∀ f ms o' k' H', ms.length ≤ ns.length + 1 → In41 ms → Jar o' k' → k' ≤ k + 10 → SA L ((f, .lst (ms.map V.int)) :: (p, o') :: M) H' → Q (.ref f) H'
local macro_rules | `(tactic| walk_at "call") => `(tactic| first
  | ((with_reducible show sp__law_dip _ _ _ _ _); refine call_dip (Sa.SA.front (by assumption) (by walk_at "del")) (by assumption) (by omega) (by omega) (by omega) (fun _ _ _ _ _ _ _ _ _ => ?_)))
theorem sc__law_other_careful : FnScope ["_law_bowl_here", "_law_careful_here", "_law_found", "_law_way"] ["_law_bowl_here", "_law_careful_here"] (defScope s__law_other_careful) := ⟨rfl, rfl, rfl, by decide +kernel, rfl, by decide +kernel, by decide +kernel⟩
abbrev Ok__law_other_careful (P : Program) (w : World) (K : PySem.W.Frag) (mg : Str → Option Value) (base : Heap) : Prop := ∃ f fd, Fun K "_law_other_careful" "_law_other_careful" s__law_other_careful f fd ∧ mg "_law_other_careful" = some (.ref f) ∧ FnOk P w K mg base CX0 2 f fd ["_law_bowl_here", "_law_careful_here"] (sp__law_other_careful K)
theorem ok__law_other_careful {P : Program} {w : World} {K : PySem.W.Frag} {mg : Str → Option Value} {base : Heap} (T : Top K mg) (h__law_dip : Ok__law_dip P w K mg base) : Ok__law_other_careful P w K mg base := by
  obtain ⟨f, fd, F, m⟩ := T.d__law_other_careful
  obtain ⟨f__law_dip, fd__law_dip, F__law_dip, m__law_dip, G__law_dip⟩ := h__law_dip
  have b__law_dip := F__law_dip.binds (ps := ["_law_bowl_here", "_law_many"]) (fun _ _ _ _ _ _ us hl => match us, hl with | [_, _], _ => rfl)
  refine ⟨f, fd, F, m, F.ok sc__law_other_careful (fun vs H Q E h => by first | (obtain ⟨_, rfl, _⟩ := h; rfl) | (obtain ⟨_, _, rfl, _⟩ := h; rfl) | (obtain ⟨_, _, _, rfl, _⟩ := h; rfl) | (obtain ⟨_, _, _, _, rfl, _⟩ := h; rfl) | (obtain ⟨_, _, _, _, _, rfl, _⟩ := h; rfl) | (obtain ⟨_, _, _, _, _, _, rfl, _⟩ := h; rfl) | (obtain ⟨_, _, _, _, _, _, _, rfl, _⟩ := h; rfl) | (obtain ⟨_, _, _, _, _, _, _, _, rfl, _⟩ := h; rfl)) (fun cdv A outer s H vs Q E hr h => ?_)⟩
  refine ⟨_, (pss_cons (ps_par (i := 2) (j := 3) (by rfl) sc__law_other_careful.nd rfl rfl (by decide) rfl rfl (pa_cons (pe_callTy Sa.call_list_of (by rfl) T.z_list (by decide +kernel) (pa_cons (pv 1) pa_nil)) (pa_cons (pe_call G__law_dip (hr.mono (by first | decide | omega)) (by rfl) m__law_dip F__law_dip.kp b__law_dip .nil pass0 (pa_cons (pv 0) (pa_cons pe_int pa_nil))) pa_nil)) (by rfl))
      (pss_cons (ps_expr (pe_bm0 PySem.F.plainAttrs_list PySem.F.slot_list_reverse PySem.F.type_list_reverse mt_reverse (pv 2)))
      (Evl.pss_cut (ps_if (PW.pt (pw_and (pt_cmpR (op_neD hr.units) (pv 2) (pe_lst pa_nil) (nomark _)) (pw_and1 (pt_cmpR op_lt (pv 3) pe_int (nomark _))))) (pss_one (ps_expr (pe_bm PySem.F.plainAttrs_list PySem.F.slot_list_insert PySem.F.type_list_insert Sa.mt_insA (pv 2) (pa_cons (pe_call G__law_dip (hr.mono (by first | decide | omega)) (by rfl) m__law_dip F__law_dip.kp b__law_dip .nil pass0 (pa_cons (pv 0) (pa_cons (pe_op op_add (pe_callB Sa.call_len (by rfl) T.z_len boot_len (pa_cons (pv 2) pa_nil)) pe_int) pa_nil))) (pa_cons (pe_ix ix_list (pv 2) (pe_call G__law_dip (hr.mono (by first | decide | omega)) (by rfl) m__law_dip F__law_dip.kp b__law_dip .nil pass0 (pa_cons (pv 0) (pa_cons (pe_callB Sa.call_len (by rfl) T.z_len boot_len (pa_cons (pv 2) pa_nil)) pa_nil))) (fun _ _ => rfl)) pa_nil))))) pss_nil)
      (Evl.pss_cut (ps_if (pt_cmpR op_eq (pv 3) pe_int (nomark _)) (pss_one (ps_expr (pe_bm PySem.F.plainAttrs_list PySem.F.slot_list_insert PySem.F.type_list_insert Sa.mt_insA (pv 2) (pa_cons (pe_call G__law_dip (hr.mono (by first | decide | omega)) (by rfl) m__law_dip F__law_dip.kp b__law_dip .nil pass0 (pa_cons (pv 0) (pa_cons (pe_op op_add (pe_callB Sa.call_len (by rfl) T.z_len boot_len (pa_cons (pv 2) pa_nil)) pe_int) pa_nil))) (pa_cons (pe_call G__law_dip (hr.mono (by first | decide | omega)) (by rfl) m__law_dip F__law_dip.kp b__law_dip .nil pass0 (pa_cons (pv 0) (pa_cons pe_int pa_nil))) pa_nil))))) pss_nil)
      (Evl.pss_cut (ps_if (PW.pt (pw_and (pt_cmpR (op_neD hr.units) (pv 2) (pe_lst pa_nil) (nomark _)) (pw_and1 (pt_cmpR op_eq (pv 3) pe_int (nomark _))))) (pss_one (ps_expr (pe_bm PySem.F.plainAttrs_list PySem.F.slot_list_pop PySem.F.type_list_pop mt_popAt (pv 2) (pa_cons (pe_call G__law_dip (hr.mono (by first | decide | omega)) (by rfl) m__law_dip F__law_dip.kp b__law_dip .nil pass0 (pa_cons (pv 0) (pa_cons (pe_callB Sa.call_len (by rfl) T.z_len boot_len (pa_cons (pv 2) pa_nil)) pa_nil))) pa_nil)))) pss_nil)
      (pss_one (ps_ret (pv 2)))))))), ?_⟩
  obtain ⟨p, cr, rfl, L, M, o, k, ns, hS, hA, hl, hns, hj, hk, q⟩ := h
  walk_at "st"
  walk_at "gn"
  rename_i fa H1 hS1
  refine call_dip (Sa.SA.front hS1 (by walk_at "del")) hj (by omega) (by omega) (by omega) (fun way o2 k2 H2 hw0 hw1 hj2 hk2 hS2 => ?_)
  clear hS hS1
  walk_at "gn"
  rename_i H3 hS3
  clear hS2
  have hr := in41_rev hns
  have hrl : ns.reverse.length = ns.length := List.length_reverse
  generalize ns.reverse = rs at hr hrl hS3
  refine Sa.st_cut (Mid := fun σ H => ∃ (us : List Int) (o4 : HO) (k4 : Int), σ = [some (.ref p), some (.ref cr), some (.ref fa), some (.int way)] ∧ In41 us ∧ (us.length = ns.length ∨ us.length = ns.length + 1 ∧ way < 4) ∧ Jar o4 k4 ∧ k4 ≤ k + 3 ∧ SA L ((fa, .lst (us.map V.int)) :: (p, o4) :: M) H) ?_ ?_
  · walk_at "gn"
    refine Sa.if_dec (fun h4 => ?_) (fun h4 => ?_)
    · walk_at "gn"
      exact ⟨rs, o2, k2, rfl, hr, .inl hrl, hj2, by omega, by walk_at "sa2"⟩
    · have hpos := List.length_pos_iff.mpr h4
      walk_at "gn"
      refine Sa.if_dec (fun h5 => ?_) (fun h5 => ?_)
      · walk_at "gn"
        refine call_dip (Sa.SA.front (by assumption) (by walk_at "del")) hj2 (by omega) (by omega) (by omega) (fun r4 o4 k4 H5 hr4 hr5 hj4 hk4 hS5 => ?_)
        walk_at "gn"
        refine call_dip (Sa.SA.front hS5 (by walk_at "del")) hj4 (by omega) (by omega) (by omega) (fun r5 o5 k5 H6 hr6 hr7 hj5 hk5 hS6 => ?_)
        have hg := in41_get hr hr6 hr7
        walk_at "gn"
        refine Sa.st_insI hS6 (by walk_at "chg") (by omega) hr4 (by omega) (fun H7 hS7 => ?_)
        walk_at "gn"
        exact ⟨rs.take r4.toNat ++ [rs.getD r5.toNat 0] ++ rs.drop r4.toNat, o5, k5, rfl, in41_ins hr hg.1 hg.2, .inr ⟨by rw [ins_len (by omega), hrl], by omega⟩, hj5, by omega, by walk_at "sa2"⟩
      · walk_at "gn"
        exact ⟨rs, o2, k2, rfl, hr, .inl hrl, hj2, by omega, by walk_at "sa2"⟩
  rintro _ H4 ⟨us, o4, k4, rfl, hus, hul, hj4, hk4, hS4⟩
  clear hS3
  walk_at "gn"
  refine Sa.st_cut (Mid := fun σ H => ∃ (us : List Int) (o4 : HO) (k4 : Int), σ = [some (.ref p), some (.ref cr), some (.ref fa), some (.int way)] ∧ In41 us ∧ us.length ≤ ns.length + 1 ∧ Jar o4 k4 ∧ k4 ≤ k + 6 ∧ SA L ((fa, .lst (us.map V.int)) :: (p, o4) :: M) H) ?_ ?_
  · walk_at "gn"
    refine Sa.if_dec (fun h4 => ?_) (fun h4 => ?_)
    · walk_at "gn"
      refine call_dip (Sa.SA.front hS4 (by walk_at "del")) hj4 (by omega) (by omega) (by omega) (fun r4 o5 k5 H5 hr4 hr5 hj5 hk5 hS5 => ?_)
      walk_at "gn"
      refine call_dip (Sa.SA.front hS5 (by walk_at "del")) hj5 (by omega) (by omega) (by omega) (fun r5 o6 k6 H6 hr6 hr7 hj6 hk6 hS6 => ?_)
      walk_at "gn"
      refine Sa.st_insI hS6 (by walk_at "chg") (by omega) hr4 (by omega) (fun H7 hS7 => ?_)
      walk_at "gn"
      exact ⟨us.take r4.toNat ++ [r5] ++ us.drop r4.toNat, o6, k6, rfl, in41_ins hus hr6 (by omega), by rw [ins_len (by omega)]; omega, hj6, by omega, by walk_at "sa2"⟩
    · walk_at "gn"
      exact ⟨us, o4, k4, rfl, hus, by omega, hj4, by omega, by walk_at "sa2"⟩
  rintro _ H5 ⟨vs, o5, k5, rfl, hvs, hvl, hj5, hk5, hS5⟩
  clear hS4
  walk_at "gn"
  refine Sa.st_cut (Mid := fun σ H => ∃ (us : List Int) (o4 : HO) (k4 : Int), σ = [some (.ref p), some (.ref cr), some (.ref fa), some (.int way)] ∧ In41 us ∧ us.length ≤ ns.length + 1 ∧ Jar o4 k4 ∧ k4 ≤ k + 9 ∧ SA L ((fa, .lst (us.map V.int)) :: (p, o4) :: M) H) ?_ ?_
  · walk_at "gn"
    refine Sa.if_dec (fun h4 => ?_) (fun h4 => ?_)
    · walk_at "gn"
      exact ⟨vs, o5, k5, rfl, hvs, hvl, hj5, by omega, by walk_at "sa2"⟩
    · have hpos := List.length_pos_iff.mpr h4
      walk_at "gn"
      refine Sa.if_dec (fun h5 => ?_) (fun h5 => ?_)
      · walk_at "gn"
        refine call_dip (Sa.SA.front (by assumption) (by walk_at "del")) hj5 (by omega) (by omega) (by omega) (fun r4 o6 k6 H6 hr4 hr5 hj6 hk6 hS6 => ?_)
        walk_at "gn"
        refine Sa.st_popAtI hS6 (by walk_at "chg") hr4 hr5 (by omega) (fun H7 hS7 => ?_)
        have hle := List.length_eraseIdx_le vs r4.toNat
        walk_at "gn"
        exact ⟨vs.eraseIdx r4.toNat, o6, k6, rfl, fun n hn => hvs n (List.mem_of_mem_eraseIdx hn), by omega, hj6, by omega, by walk_at "sa2"⟩
      · walk_at "gn"
        exact ⟨vs, o5, k5, rfl, hvs, hvl, hj5, by omega, by walk_at "sa2"⟩
  rintro _ H6 ⟨ws, o6, k6, rfl, hws, hwl, hj6, hk6, hS6⟩
  clear hS5
  walk_at "gn"
  exact q _ ws o6 k6 _ hwl hws hj6 (by omega) (by walk_at "sa2")

def sp__law_other_calls (K : PySem.W.Frag) : Sp := fun vs H Q _ => ∃ (p cr : Addr), vs = [.ref p, .ref cr] ∧ ∃ (L : List Fc) (M : List Cell) (o : HO) (k : Int) (ns : List Int), SA L ((p, o) :: M) H ∧ At L M (fL cr (ns.map V.int)) ∧ ns.length ≤ 200 ∧ In41 ns ∧ Jar o k ∧ k ≤ 900000000 ∧
  ∀ f ms o' k' H', ms.length ≤ ns.length + 1 → In41 ms → Jar o' k' → k' ≤ k + 10 → SA L ((f, .lst (ms.map V.int)) :: (p, o') :: M) H' → Q (.ref f) H'
local macro_rules | `(tactic| walk_at "call") => `(tactic| first
  | ((with_reducible show sp__law_dip _ _ _ _ _); refine call_dip (Sa.SA.front (by assumption) (by walk_at "del")) (by assumption) (by omega) (by omega) (by omega) (fun _ _ _ _ _ _ _ _ _ => ?_)))
theorem sc__law_other_calls : FnScope ["_law_bowl_here", "_law_calls_here", "_law_found", "_law_way", "_law_spot", "_law_another", "_law_kept"] ["_law_bowl_here", "_law_calls_here"] (defScope s__law_other_calls) := ⟨rfl, rfl, rfl, by decide +kernel, rfl, by decide +kernel, by decide +kernel⟩
abbrev Ok__law_other_calls (P : Program) (w : World) (K : PySem.W.Frag) (mg : Str → Option Value) (base : Heap) : Prop := ∃ f fd, Fun K "_law_other_calls" "_law_other_calls" s__law_other_calls f fd ∧ mg "_law_other_calls" = some (.ref f) ∧ FnOk P w K mg base CX0 2 f fd ["_law_bowl_here", "_law_calls_here"] (sp__law_other_calls K)
theorem ok__law_other_calls {P : Program} {w : World} {K : PySem.W.Frag} {mg : Str → Option Value} {base : Heap} (T : Top K mg) (h__law_dip : Ok__law_dip P w K mg base) : Ok__law_other_calls P w K mg base := by
  obtain ⟨f, fd, F, m⟩ := T.d__law_other_calls
  obtain ⟨f__law_dip, fd__law_dip, F__law_dip, m__law_dip, G__law_dip⟩ := h__law_dip
  have b__law_dip := F__law_dip.binds (ps := ["_law_bowl_here", "_law_many"]) (fun _ _ _ _ _ _ us hl => match us, hl with | [_, _], _ => rfl)
  refine ⟨f, fd, F, m, F.ok sc__law_other_calls (fun vs H Q E h => by first | (obtain ⟨_, rfl, _⟩ := h; rfl) | (obtain ⟨_, _, rfl, _⟩ := h; rfl) | (obtain ⟨_, _, _, rfl, _⟩ := h; rfl) | (obtain ⟨_, _, _, _, rfl, _⟩ := h; rfl) | (obtain ⟨_, _, _, _, _, rfl, _⟩ := h; rfl) | (obtain ⟨_, _, _, _, _, _, rfl, _⟩ := h; rfl) | (obtain ⟨_, _, _, _, _, _, _, rfl, _⟩ := h; rfl) | (obtain ⟨_, _, _, _, _, _, _, _, rfl, _⟩ := h; rfl)) (fun cdv A outer s H vs Q E hr h => ?_)⟩
  refine ⟨_, (pss_cons (ps_par (i := 2) (j := 3) (by rfl) sc__law_other_calls.nd rfl rfl (by decide) rfl rfl (pa_cons (pe_callTy Sa.call_list_of (by rfl) T.z_list (by decide +kernel) (pa_cons (pv 1) pa_nil)) (pa_cons (pe_call G__law_dip (hr.mono (by first | decide | omega)) (by rfl) m__law_dip F__law_dip.kp b__law_dip .nil pass0 (pa_cons (pv 0) (pa_cons pe_int pa_nil))) pa_nil)) (by rfl))
      (pss_cons (ps_set (i := 4) sc__law_other_calls.nd rfl (.inl rfl) (pe_call G__law_dip (hr.mono (by first | decide | omega)) (by rfl) m__law_dip F__law_dip.kp b__law_dip .nil pass0 (pa_cons (pv 0) (pa_cons (pe_op op_add (pe_callB Sa.call_len (by rfl) T.z_len boot_len (pa_cons (pv 2) pa_nil)) pe_int) pa_nil))))
      (Evl.pss_cut (ps_if (pt_cmpR op_eq (pv 3) pe_int (nomark _)) (pss_one (ps_expr (pe_bm PySem.F.plainAttrs_list PySem.F.slot_list_insert PySem.F.type_list_insert Sa.mt_insA (pv 2) (pa_cons (pv 4) (pa_cons (pe_call G__law_dip (hr.mono (by first | decide | omega)) (by rfl) m__law_dip F__law_dip.kp b__law_dip .nil pass0 (pa_cons (pv 0) (pa_cons pe_int pa_nil))) pa_nil))))) pss_nil)
      (Evl.pss_cut (ps_if (PW.pt (pw_and (pt_cmpR op_lt (pv 4) (pe_callB Sa.call_len (by rfl) T.z_len boot_len (pa_cons (pv 2) pa_nil)) (nomark _)) (pw_and1 (pt_cmpR op_in_seq (pv 3) (pe_tup (pa_cons pe_int (pa_cons pe_int (pa_cons pe_int pa_nil)))) (by first | rfl | exact nomark _))))) (pss_cons (ps_set (i := 5) sc__law_other_calls.nd rfl (.inl rfl) (pe_call G__law_dip (hr.mono (by first | decide | omega)) (by rfl) m__law_dip F__law_dip.kp b__law_dip .nil pass0 (pa_cons (pv 0) (pa_cons (pe_callB Sa.call_len (by rfl) T.z_len boot_len (pa_cons (pv 2) pa_nil)) pa_nil))))
      (pss_cons (ps_set (i := 6) sc__law_other_calls.nd rfl (.inl rfl) (pe_ix ix_list (pv 2) (pv 4) (fun _ _ => rfl)))
      (pss_one (ps_if (pt_cmpR op_eq (pv 3) pe_int (nomark _)) (pss_one (ps_asg (pe_call G__law_dip (hr.mono (by first | decide | omega)) (by rfl) m__law_dip F__law_dip.kp b__law_dip .nil pass0 (pa_cons (pv 0) (pa_cons pe_int pa_nil))) (pg_sub (pv 2) (pv 4) set_list))) (pss_one (ps_if (pt_cmpR op_eq (pv 3) pe_int (nomark _)) (pss_one (ps_expr (pe_bm PySem.F.plainAttrs_list PySem.F.slot_list_pop PySem.F.type_list_pop mt_popAt (pv 2) (pa_cons (pv 4) pa_nil)))) (pss_cons (ps_asg (pe_ix ix_list (pv 2) (pv 5) (fun _ _ => rfl)) (pg_sub (pv 2) (pv 4) set_list))
      (pss_one (ps_asg (pv 6) (pg_sub (pv 2) (pv 5) set_list)))))))))) pss_nil)
      (pss_one (ps_ret (pv 2))))))), ?_⟩
  obtain ⟨p, cr, rfl, L, M, o, k, ns, hS, hA, hl, hns, hj, hk, q⟩ := h
  walk_at "st"
  walk_at "gn"
  rename_i fa H1 hS1
  refine call_dip (Sa.SA.front hS1 (by walk_at "del")) hj (by omega) (by omega) (by omega) (fun way o2 k2 H2 hw0 hw1 hj2 hk2 hS2 => ?_)
  clear hS hS1
  walk_at "gn"
  refine call_dip (Sa.SA.front (by assumption) (by walk_at "del")) hj2 (by omega) (by omega) (by omega) (fun sp o3 k3 H3 hp0 hp1 hj3 hk3 hS3 => ?_)
  clear hS2
  walk_at "gn"
  refine Sa.st_cut (Mid := fun σ H => ∃ (us : List Int) (o4 : HO) (k4 : Int), σ = [some (.ref p), some (.ref cr), some (.ref fa), some (.int way), some (.int sp), none, none] ∧ In41 us ∧ us.length ≤ ns.length + 1 ∧ Jar o4 k4 ∧ k4 ≤ k + 3 ∧ SA L ((fa, .lst (us.map V.int)) :: (p, o4) :: M) H) ?_ ?_
  · walk_at "gn"
    refine Sa.if_dec (fun h4 => ?_) (fun h4 => ?_)
    · walk_at "gn"
      refine call_dip (Sa.SA.front hS3 (by walk_at "del")) hj3 (by omega) (by omega) (by omega) (fun r4 o4 k4 H5 hr4 hr5 hj4 hk4 hS5 => ?_)
      walk_at "gn"
      refine Sa.st_insI hS5 (by walk_at "chg") (by omega) hp0 (by omega) (fun H6 hS6 => ?_)
      walk_at "gn"
      refine ⟨_, o4, k4, rfl, fun n hn => ?_, ?_, hj4, by omega, by walk_at "sa2"⟩
      · rcases List.mem_append.mp hn with hn | hn
        · rcases List.mem_append.mp hn with hn | hn
          · exact hns n (List.mem_of_mem_take hn)
          · rw [List.mem_singleton.mp hn]; exact ⟨hr4, by omega⟩
        · exact hns n (List.mem_of_mem_drop hn)
      · simp only [List.length_append, List.length_take, List.length_drop, List.length_singleton]
        omega
    · walk_at "gn"
      exact ⟨ns, o3, k3, rfl, hns, by omega, hj3, by omega, by walk_at "sa2"⟩
  rintro _ H4 ⟨us, o4, k4, rfl, hus, hul, hj4, hk4, hS4⟩
  clear hS3
  walk_at "gn"
  refine Sa.st_cut (Mid := fun σ H => ∃ (vs : List Int) (o5 : HO) (k5 : Int) (x y : Option V), σ = [some (.ref p), some (.ref cr), some (.ref fa), some (.int way), some (.int sp), x, y] ∧ In41 vs ∧ vs.length ≤ ns.length + 1 ∧ Jar o5 k5 ∧ k5 ≤ k + 6 ∧ SA L ((fa, .lst (vs.map V.int)) :: (p, o5) :: M) H) ?_ ?_
  · walk_at "gn"
    refine Sa.if_dec (fun h5 => ?_) (fun h5 => ?_)
    · walk_at "gn"
      rename_i tu H5 hS5
      refine st_inTu (ns := [2, 3, 4]) hS5 (by walk_at "at") ?_
      walk_at "gn"
      refine Sa.if_dec (fun h6 => ?_) (fun h6 => ?_)
      · walk_at "gn"
        refine call_dip (Sa.SA.front hS5 (by walk_at "del")) hj4 (by omega) (by omega) (by omega) (fun an o5 k5 H6 ha0 ha1 hj5 hk5 hS6 => ?_)
        clear hS5
        have hg := in41_get hus hp0 h5
        walk_at "gn"
        refine Sa.if_dec (fun h7 => ?_) (fun h7 => ?_)
        · walk_at "gn"
          refine call_dip (Sa.SA.front hS6 (by walk_at "del")) hj5 (by omega) (by omega) (by omega) (fun r6 o6 k6 H7 hb0 hb1 hj6 hk6 hS7 => ?_)
          walk_at "gn"
          exact ⟨us.set sp.toNat r6, o6, k6, _, _, rfl, in41_set hus hb0 (by omega), by rw [List.length_set]; exact hul, hj6, by omega, by walk_at "sa2"⟩
        · walk_at "gn"
          refine Sa.if_dec (fun h8 => ?_) (fun h8 => ?_)
          · walk_at "gn"
            refine Sa.st_popAtI hS6 (by walk_at "chg") hp0 h5 (by omega) (fun H7 hS7 => ?_)
            walk_at "gn"
            have hle := List.length_eraseIdx_le us sp.toNat
            exact ⟨us.eraseIdx sp.toNat, o5, k5, _, _, rfl, fun n hn => hus n (List.mem_of_mem_eraseIdx hn), by omega, hj5, by omega, by walk_at "sa2"⟩
          · have hga := in41_get hus ha0 ha1
            walk_at "gn"
            exact ⟨(us.set sp.toNat (us.getD an.toNat 0)).set an.toNat (us.getD sp.toNat 0), o5, k5, _, _, rfl, in41_set (in41_set hus hga.1 hga.2) hg.1 hg.2, by rw [List.length_set, List.length_set]; exact hul, hj5, by omega, by walk_at "sa2"⟩
      · walk_at "gn"
        exact ⟨us, o4, k4, _, _, rfl, hus, hul, hj4, by omega, by walk_at "sa2"⟩
    · walk_at "gn"
      exact ⟨us, o4, k4, _, _, rfl, hus, hul, hj4, by omega, by walk_at "sa2"⟩
  rintro _ H5 ⟨vs, o5, k5, x1, x2, rfl, hvs, hvl, hj5, hk5, hS5⟩
  clear hS4
  walk_at "gn"
  exact q _ vs o5 k5 _ (by omega) hvs hj5 (by omega) (by walk_at "sa2")

structure G_calls where
  F : List Int
  o : HO
  k : Int
  x : Option V
  y : Option V
def sp__law_calls (K : PySem.W.Frag) : Sp := fun vs H Q _ => ∃ (p cr : Addr) (m : Int), vs = [.ref p, .ref cr, .int m] ∧ ∃ (L : List Fc) (M : List Cell) (o : HO) (k : Int) (ns : List Int), SA L ((p, o) :: M) H ∧ At L M (fL cr (ns.map V.int)) ∧ 1 ≤ ns.length ∧ ns.length ≤ 41 ∧ In41 ns ∧ Jar o k ∧ 0 ≤ m ∧ m ≤ 200 ∧ k ≤ 900000000 ∧
  ∀ f ms o' k' H', ms.length ≤ m → In41 ms → Jar o' k' → k' ≤ k + 1000 → SA L ((f, .lst (ms.map V.int)) :: (p, o') :: M) H' → Q (.ref f) H'
local macro_rules | `(tactic| walk_at "call") => `(tactic| first
  | ((with_reducible show sp__law_dip _ _ _ _ _); refine call_dip (Sa.SA.front (by assumption) (by walk_at "del")) (by assumption) (by omega) (by omega) (by omega) (fun _ _ _ _ _ _ _ _ _ => ?_)))
theorem sc__law_calls : FnScope ["_law_bowl_here", "_law_crew", "_law_most", "_law_manner", "_law_size", "_law_found", "_law_turn", "_law_spot"] ["_law_bowl_here", "_law_crew", "_law_most"] (defScope s__law_calls) := ⟨rfl, rfl, rfl, by decide +kernel, rfl, by decide +kernel, by decide +kernel⟩
abbrev Ok__law_calls (P : Program) (w : World) (K : PySem.W.Frag) (mg : Str → Option Value) (base : Heap) : Prop := ∃ f fd, Fun K "_law_calls" "_law_calls" s__law_calls f fd ∧ mg "_law_calls" = some (.ref f) ∧ FnOk P w K mg base CX0 2 f fd ["_law_bowl_here", "_law_crew", "_law_most"] (sp__law_calls K)
theorem ok__law_calls {P : Program} {w : World} {K : PySem.W.Frag} {mg : Str → Option Value} {base : Heap} (T : Top K mg) (h__law_dip : Ok__law_dip P w K mg base) : Ok__law_calls P w K mg base := by
  obtain ⟨f, fd, F, m⟩ := T.d__law_calls
  obtain ⟨f__law_dip, fd__law_dip, F__law_dip, m__law_dip, G__law_dip⟩ := h__law_dip
  have b__law_dip := F__law_dip.binds (ps := ["_law_bowl_here", "_law_many"]) (fun _ _ _ _ _ _ us hl => match us, hl with | [_, _], _ => rfl)
  refine ⟨f, fd, F, m, F.ok sc__law_calls (fun vs H Q E h => by first | (obtain ⟨_, rfl, _⟩ := h; rfl) | (obtain ⟨_, _, rfl, _⟩ := h; rfl) | (obtain ⟨_, _, _, rfl, _⟩ := h; rfl) | (obtain ⟨_, _, _, _, rfl, _⟩ := h; rfl) | (obtain ⟨_, _, _, _, _, rfl, _⟩ := h; rfl) | (obtain ⟨_, _, _, _, _, _, rfl, _⟩ := h; rfl) | (obtain ⟨_, _, _, _, _, _, _, rfl, _⟩ := h; rfl) | (obtain ⟨_, _, _, _, _, _, _, _, rfl, _⟩ := h; rfl)) (fun cdv A outer s H vs Q E hr h => ?_)⟩
  refine ⟨_, (pss_cons (ps_par (i := 3) (j := 4) (by rfl) sc__law_calls.nd rfl rfl (by decide) rfl rfl (pa_cons (pe_call G__law_dip (hr.mono (by first | decide | omega)) (by rfl) m__law_dip F__law_dip.kp b__law_dip .nil pass0 (pa_cons (pv 0) (pa_cons pe_int pa_nil))) (pa_cons (pe_call G__law_dip (hr.mono (by first | decide | omega)) (by rfl) m__law_dip F__law_dip.kp b__law_dip .nil pass0 (pa_cons (pv 0) (pa_cons (pe_op op_add (pv 2) pe_int) pa_nil))) pa_nil)) (by rfl))
      (pss_cons (ps_set (i := 5) sc__law_calls.nd rfl (.inl rfl) (pe_lst pa_nil))
      (pss_cons (ps_for PassesOwn.never rfl (pi_range1 (by rfl) T.z_range (pa_cons (pv 4) pa_nil)) (pg_name (i := 6) sc__law_calls.nd rfl (.inl rfl)) (pss_cons (ps_set (i := 7) sc__law_calls.nd rfl (.inl rfl) (pe_call G__law_dip (hr.mono (by first | decide | omega)) (by rfl) m__law_dip F__law_dip.kp b__law_dip .nil pass0 (pa_cons (pv 0) (pa_cons (pe_callB Sa.call_len (by rfl) T.z_len boot_len (pa_cons (pv 1) pa_nil)) pa_nil))))
      (pss_one (ps_if (PW.pt (pw_and (pt_cmpR op_eq (pv 3) pe_int (nomark _)) (pw_and (pt_cmpR (op_neD hr.units) (pv 5) (pe_lst pa_nil) (nomark _)) (pw_and1 (pt_cmpR op_gt (pe_call G__law_dip (hr.mono (by first | decide | omega)) (by rfl) m__law_dip F__law_dip.kp b__law_dip .nil pass0 (pa_cons (pv 0) (pa_cons pe_int pa_nil))) pe_int (nomark _)))))) (pss_one (ps_expr (pe_bm PySem.F.plainAttrs_list PySem.F.slot_list_append PySem.F.type_list_append mt_append (pv 5) (pa_cons (pe_ix ix_list (pv 5) (pe_un un_neg pe_int) (fun _ _ => rfl)) pa_nil)))) (pss_one (ps_if (PW.pt (pw_and (pt_cmpR op_eq (pv 3) pe_int (nomark _)) (pw_and1 (pt_cmpR op_gt (pe_call G__law_dip (hr.mono (by first | decide | omega)) (by rfl) m__law_dip F__law_dip.kp b__law_dip .nil pass0 (pa_cons (pv 0) (pa_cons pe_int pa_nil))) pe_int (nomark _))))) (pss_one (ps_expr (pe_bm PySem.F.plainAttrs_list PySem.F.slot_list_append PySem.F.type_list_append mt_append (pv 5) (pa_cons (pe_ix ix_list (pv 1) (pe_op Sa.op_modX (pe_callTy Sa.call_int1 (by rfl) T.z_int (by decide +kernel) (pa_cons (pv 6) pa_nil)) (pe_callB Sa.call_len (by rfl) T.z_len boot_len (pa_cons (pv 1) pa_nil))) (fun _ _ => rfl)) pa_nil)))) (pss_one (ps_expr (pe_bm PySem.F.plainAttrs_list PySem.F.slot_list_append PySem.F.type_list_append mt_append (pv 5) (pa_cons (pe_ifExp (PW.pt (pw_and (pt_cmpR op_eq (pv 3) pe_int (nomark _)) (pw_and1 (pt_cmpR op_gt (pe_callB Sa.call_len (by rfl) T.z_len boot_len (pa_cons (pv 1) pa_nil)) pe_int (nomark _))))) (pe_ix ix_list (pv 1) (pe_callB (Sa.call_min2 rfl) (by rfl) T.z_min (by decide +kernel) (pa_cons (pv 7) (pa_cons pe_int pa_nil))) (fun _ _ => rfl)) (pe_ix ix_list (pv 1) (pv 7) (fun _ _ => rfl))) pa_nil))))))))))
      (pss_one (ps_ret (pv 5)))))), ?_⟩
  obtain ⟨p, cr, m, rfl, L, M, o, k, ns, hS, hA, hl0, hl1, hns, hj, hm0, hm1, hk, q⟩ := h
  walk_at "st"
  walk_at "gn"
  refine call_dip (by assumption) hj (by omega) (by omega) (by omega) (fun mn o1 k1 H1 hr0 hr1 hj1 hk1 hS1 => ?_)
  walk_at "gn"
  refine call_dip (by assumption) hj1 (by omega) (by omega) (by omega) (fun sz o2 k2 H2 hr2 hr3 hj2 hk2 hS2 => ?_)
  walk_at "go"
  refine Sa.st_newL (by assumption) (by walk_at "om") (fun fa X_H hSf => ?_)
  walk_at "gn"
  refine Sa.st_r1 (n := sz.toNat) rfl (by omega) (by omega) ?_
  refine Sa.lp_rng (γ := G_calls) (fun i g => [some (.ref p), some (.ref cr), some (.int m), some (.int mn), some (.int sz), some (.ref fa), g.x, g.y]) (fun _ _ => L) (fun _ g => (fa, .lst (g.F.map V.int)) :: (p, g.o) :: M)
    (fun i g => g.F.length = i ∧ In41 g.F ∧ Jar g.o g.k ∧ g.k ≤ k + 2 + 2 * i) ⟨⟨[], o2, k2, none, none⟩, rfl, ⟨rfl, (fun n hn => nomatch hn), hj2, by show k2 ≤ k + 2 + 2 * ((0 : Nat) : Int); omega⟩, by walk_at "sa2"⟩ ?_ ?_
  · rintro i ⟨F, o3, k3, x, y⟩ H3 hi ⟨h1, h2, h3, h4⟩ hS3
    simp only at h1 h2 h3 h4 hS3
    walk_at "nm"
    walk_at "gn"
    refine call_dip (Sa.SA.front (by assumption) (by walk_at "del")) h3 (by omega) (by omega) (by omega) (fun sp o4 k4 H4 hr4 hr5 hj4 hk4 hS4 => ?_)
    walk_at "gn"
    have fin : ∀ (r : Int) (o5 : HO) (k5 : Int) (H5 : Hp) (v1 v2 : Option V), 0 ≤ r → r ≤ 40 → Jar o5 k5 → k5 ≤ k3 + 2 → SA L ((fa, .lst ((F ++ [r]).map V.int)) :: (p, o5) :: M) H5 →
        Iv (γ := G_calls) (fun i g => [some (.ref p), some (.ref cr), some (.int m), some (.int mn), some (.int sz), some (.ref fa), g.x, g.y]) (fun _ _ => L) (fun _ g => (fa, .lst (g.F.map V.int)) :: (p, g.o) :: M)
          (fun i g => g.F.length = i ∧ In41 g.F ∧ Jar g.o g.k ∧ g.k ≤ k + 2 + 2 * i) (i + 1) [some (.ref p), some (.ref cr), some (.int m), some (.int mn), some (.int sz), some (.ref fa), v1, v2] H5 := fun r o5 k5 H5 v1 v2 q0 q1 q2 q3 q4 =>
      ⟨⟨F ++ [r], o5, k5, v1, v2⟩, rfl, ⟨by rw [List.length_append, h1]; rfl, in41_add h2 q0 q1, q2, by show k5 ≤ k + 2 + 2 * ((i + 1 : Nat) : Int); omega⟩, q4⟩
    refine Sa.if_dec (fun hm1 => ?_) (fun hm1 => ?_)
    · walk_at "gn"
      refine Sa.if_dec (fun hF => ?_) (fun hF => ?_)
      · walk_at "gn"
        refine Sa.if_dec (fun h => absurd h (by omega)) (fun _ => ?_)
        walk_at "gn"
        refine Sa.if_dec (fun hc1 => ?_) (fun hc1 => ?_)
        · walk_at "gn"
          refine Sa.if_dec (fun hc2 => ?_) (fun hc2 => ?_)
          · have e := in41_get hns (i := min sp 1) (by omega) (by omega)
            walk_at "gn"
            exact fin _ o4 k4 _ _ _ e.1 e.2 hj4 (by omega) (by walk_at "sa2")
          · have e := in41_get hns hr4 hr5
            walk_at "gn"
            exact fin _ o4 k4 _ _ _ e.1 e.2 hj4 (by omega) (by walk_at "sa2")
        · have e := in41_get hns hr4 hr5
          walk_at "gn"
          exact fin _ o4 k4 _ _ _ e.1 e.2 hj4 (by omega) (by walk_at "sa2")
      · have hF1 : 0 < F.length := List.length_pos_iff.mpr hF
        walk_at "gn"
        refine call_dip (Sa.SA.front (by assumption) (by walk_at "del")) hj4 (by omega) (by omega) (by omega) (fun r5 o5 k5 H5 hr6 hr7 hj5 hk5 hS5 => ?_)
        walk_at "gn"
        refine Sa.if_dec (fun hc => ?_) (fun hc => ?_)
        · have e := in41_get h2 (i := (-1 : Int) + F.length) (by omega) (by omega)
          walk_at "gn"
          exact fin _ o5 k5 _ _ _ e.1 e.2 hj5 (by omega) (by walk_at "sa2")
        · walk_at "gn"
          refine Sa.if_dec (fun h => absurd h (by omega)) (fun _ => ?_)
          walk_at "gn"
          refine Sa.if_dec (fun hc1 => ?_) (fun hc1 => ?_)
          · walk_at "gn"
            refine Sa.if_dec (fun hc2 => ?_) (fun hc2 => ?_)
            · have e := in41_get hns (i := min sp 1) (by omega) (by omega)
              walk_at "gn"
              exact fin _ o5 k5 _ _ _ e.1 e.2 hj5 (by omega) (by walk_at "sa2")
            · have e := in41_get hns hr4 hr5
              walk_at "gn"
              exact fin _ o5 k5 _ _ _ e.1 e.2 hj5 (by omega) (by walk_at "sa2")
          · have e := in41_get hns hr4 hr5
            walk_at "gn"
            exact fin _ o5 k5 _ _ _ e.1 e.2 hj5 (by omega) (by walk_at "sa2")
    · walk_at "gn"
      refine Sa.if_dec (fun hm2 => ?_) (fun hm2 => ?_)
      · walk_at "gn"
        refine call_dip (Sa.SA.front (by assumption) (by walk_at "del")) hj4 (by omega) (by omega) (by omega) (fun r5 o5 k5 H5 hr6 hr7 hj5 hk5 hS5 => ?_)
        walk_at "gn"
        refine Sa.if_dec (fun hc => ?_) (fun hc => ?_)
        · have e0 : 0 ≤ ((0 : Int) + (i : Int)) % (ns.length : Int) := Int.emod_nonneg _ (by omega)
          have e1 : ((0 : Int) + (i : Int)) % (ns.length : Int) < ns.length := Int.emod_lt_of_pos _ (by omega)
          have e := in41_get hns e0 e1
          walk_at "gn"
          exact fin _ o5 k5 _ _ _ e.1 e.2 hj5 (by omega) (by walk_at "sa2")
        · walk_at "gn"
          walk_at "gn"
          refine Sa.if_dec (fun hc1 => ?_) (fun hc1 => ?_)
          · walk_at "gn"
            refine Sa.if_dec (fun hc2 => ?_) (fun hc2 => ?_)
            · have e := in41_get hns (i := min sp 1) (by omega) (by omega)
              walk_at "gn"
              exact fin _ o5 k5 _ _ _ e.1 e.2 hj5 (by omega) (by walk_at "sa2")
            · have e := in41_get hns hr4 hr5
              walk_at "gn"
              exact fin _ o5 k5 _ _ _ e.1 e.2 hj5 (by omega) (by walk_at "sa2")
          · have e := in41_get hns hr4 hr5
            walk_at "gn"
            exact fin _ o5 k5 _ _ _ e.1 e.2 hj5 (by omega) (by walk_at "sa2")
      · walk_at "gn"
        walk_at "gn"
        refine Sa.if_dec (fun hc1 => ?_) (fun hc1 => ?_)
        · walk_at "gn"
          refine Sa.if_dec (fun hc2 => ?_) (fun hc2 => ?_)
          · have e := in41_get hns (i := min sp 1) (by omega) (by omega)
            walk_at "gn"
            exact fin _ o4 k4 _ _ _ e.1 e.2 hj4 (by omega) (by walk_at "sa2")
          · have e := in41_get hns hr4 hr5
            walk_at "gn"
            exact fin _ o4 k4 _ _ _ e.1 e.2 hj4 (by omega) (by walk_at "sa2")
        · have e := in41_get hns hr4 hr5
          walk_at "gn"
          exact fin _ o4 k4 _ _ _ e.1 e.2 hj4 (by omega) (by walk_at "sa2")
  · rintro ⟨F, o3, k3, x, y⟩ H3 ⟨h1, h2, h3, h4⟩ hS3
    simp only at h1 h2 h3 h4 hS3
    walk_at "gn"
    exact q _ F o3 k3 _ (by omega) h2 h3 (by omega) (by walk_at "sa2")

structure G_cast where
  F : List Int
  o : HO
  k : Int
  x : Option V
def sp__law_cast (K : PySem.W.Frag) : Sp := fun vs H Q _ => ∃ (p : Addr), vs = [.ref p] ∧ ∃ (L : List Fc) (M : List Cell) (o : HO) (k : Int), SA L ((p, o) :: M) H ∧ Jar o k ∧ k ≤ 900000000 ∧
  ∀ c cr so ns ms o' k' H', 1 ≤ ns.length → ns.length ≤ 6 → In41 ns → ms.length ≤ 8 → In41 ms → Jar o' k' → k' ≤ k + 100 → SA L ((c, .lst [.ref cr, .ref so]) :: (cr, .lst (ns.map V.int)) :: (so, .lst (ms.map V.int)) :: (p, o') :: M) H' → Q (.ref c) H'
local macro_rules | `(tactic| walk_at "call") => `(tactic| first
  | ((with_reducible show sp__law_dip _ _ _ _ _); refine call_dip (Sa.SA.front (by assumption) (by walk_at "del")) (by assumption) (by omega) (by omega) (by omega) (fun _ _ _ _ _ _ _ _ _ => ?_)))
theorem sc__law_cast : FnScope ["_law_bowl_here", "_law_crew", "_law_manner", "_law_some", "_law_turn", "_law_one"] ["_law_bowl_here"] (defScope s__law_cast) := ⟨rfl, rfl, rfl, by decide +kernel, rfl, by decide +kernel, by decide +kernel⟩
abbrev Ok__law_cast (P : Program) (w : World) (K : PySem.W.Frag) (mg : Str → Option Value) (base : Heap) : Prop := ∃ f fd, Fun K "_law_cast" "_law_cast" s__law_cast f fd ∧ mg "_law_cast" = some (.ref f) ∧ FnOk P w K mg base CX0 2 f fd ["_law_bowl_here"] (sp__law_cast K)
theorem ok__law_cast {P : Program} {w : World} {K : PySem.W.Frag} {mg : Str → Option Value} {base : Heap} (T : Top K mg) (h__law_dip : Ok__law_dip P w K mg base) : Ok__law_cast P w K mg base := by
  obtain ⟨f, fd, F, m⟩ := T.d__law_cast
  obtain ⟨f__law_dip, fd__law_dip, F__law_dip, m__law_dip, G__law_dip⟩ := h__law_dip
  have b__law_dip := F__law_dip.binds (ps := ["_law_bowl_here", "_law_many"]) (fun _ _ _ _ _ _ us hl => match us, hl with | [_, _], _ => rfl)
  refine ⟨f, fd, F, m, F.ok sc__law_cast (fun vs H Q E h => by first | (obtain ⟨_, rfl, _⟩ := h; rfl) | (obtain ⟨_, _, rfl, _⟩ := h; rfl) | (obtain ⟨_, _, _, rfl, _⟩ := h; rfl) | (obtain ⟨_, _, _, _, rfl, _⟩ := h; rfl) | (obtain ⟨_, _, _, _, _, rfl, _⟩ := h; rfl) | (obtain ⟨_, _, _, _, _, _, rfl, _⟩ := h; rfl) | (obtain ⟨_, _, _, _, _, _, _, rfl, _⟩ := h; rfl) | (obtain ⟨_, _, _, _, _, _, _, _, rfl, _⟩ := h; rfl)) (fun cdv A outer s H vs Q E hr h => ?_)⟩
  refine ⟨_, (pss_cons (ps_setLc (i := 1) (own := [("_law_turn", 4)]) (g := (gName 4)) (by rfl) sc__law_cast.nd rfl rfl (sw_true rfl rfl rfl (by decide +kernel)) (pi_range1 (by rfl) T.z_range (pa_cons (pe_op op_add pe_int (pe_call G__law_dip (hr.mono (by first | decide | omega)) (by rfl) m__law_dip F__law_dip.kp b__law_dip .nil pass0 (pa_cons (pv 0) (pa_cons pe_int pa_nil)))) pa_nil)) (blkOk_by (N := ["_law_bowl_here", "_law_crew", "_law_manner", "_law_some", "_law_turn", "_law_one"]) (sc := defScope s__law_cast) (by decide +kernel)) (fun _ _ _ _ _ => (pg_name (i := 4) sc__law_cast.nd rfl (.inl rfl))) (fun _ _ _ _ _ => pts_nil) (fun _ _ _ _ _ => (pe_call G__law_dip (hr.mono (by first | decide | omega)) (by rfl) m__law_dip F__law_dip.kp b__law_dip .nil pass0 (pa_cons (pv 0) (pa_cons (pe_ix (Sa.ix_listK (K := K) rfl) (pe_lst (pa_cons pe_int (pa_cons pe_int pa_nil))) (pe_call G__law_dip (hr.mono (by first | decide | omega)) (by rfl) m__law_dip F__law_dip.kp b__law_dip .nil pass0 (pa_cons (pv 0) (pa_cons pe_int pa_nil))) (fun _ _ => rfl)) pa_nil)))))
      (pss_cons (ps_set (i := 2) sc__law_cast.nd rfl (.inr rfl) (pe_call G__law_dip (hr.mono (by first | decide | omega)) (by rfl) m__law_dip F__law_dip.kp b__law_dip .nil pass0 (pa_cons (pv 0) (pa_cons pe_int pa_nil))))
      (pss_cons (ps_setLc (i := 3) (own := [("_law_one", 5)]) (g := (gName 5)) (by rfl) sc__law_cast.nd rfl rfl (sw_true rfl rfl rfl (by decide +kernel)) (pi_list (pv 1)) (blkOk_by (N := ["_law_bowl_here", "_law_crew", "_law_manner", "_law_some", "_law_turn", "_law_one"]) (sc := defScope s__law_cast) (by decide +kernel)) (fun _ _ _ _ _ => (pg_name (i := 5) sc__law_cast.nd rfl (.inl rfl))) (fun _ _ _ _ _ => (pts_one (PW.pt (pw_or (pt_cmpR op_eq (pv 2) pe_int (nomark _)) (pw_or1 (PW.pt (pw_and (pt_cmpR op_gt (pv 2) pe_int (nomark _)) (pw_and1 (pt_cmpR op_eq (pe_call G__law_dip (hr.mono (by first | decide | omega)) (by rfl) m__law_dip F__law_dip.kp b__law_dip .nil pass0 (pa_cons (pv 0) (pa_cons pe_int pa_nil))) pe_int (nomark _)))))))))) (fun _ _ _ _ _ => (pv 5)))
      (pss_cons (ps_for PassesOwn.never rfl (pi_range1 (by rfl) T.z_range (pa_cons (pe_call G__law_dip (hr.mono (by first | decide | omega)) (by rfl) m__law_dip F__law_dip.kp b__law_dip .nil pass0 (pa_cons (pv 0) (pa_cons pe_int pa_nil))) pa_nil)) (pg_name (i := 4) sc__law_cast.nd rfl (.inl rfl)) (pss_one (ps_if (pt_cmpR op_gt (pv 2) pe_int (nomark _)) (pss_one (ps_expr (pe_bm PySem.F.plainAttrs_list PySem.F.slot_list_append PySem.F.type_list_append mt_append (pv 3) (pa_cons (pe_call G__law_dip (hr.mono (by first | decide | omega)) (by rfl) m__law_dip F__law_dip.kp b__law_dip .nil pass0 (pa_cons (pv 0) (pa_cons pe_int pa_nil))) pa_nil)))) pss_nil)))
      (pss_one (ps_ret (pe_lst (pa_cons (pv 1) (pa_cons (pv 3) pa_nil))))))))), ?_⟩
  obtain ⟨p, rfl, L, M, o, k, hS, hj, hk, q⟩ := h
  walk_at "st"
  walk_at "gn"
  refine call_dip (by assumption) hj (by omega) (by omega) (by omega) (fun r0 o1 k1 H1 hr0 hr1 hj1 hk1 hS1 => ?_)
  walk_at "gn"
  refine Sa.st_r1c (n := (1 + r0).toNat) rfl (by omega) (by omega) ?_
  refine Sa.lcG_rng (γ := G_cast) (fun _ _ => L) (fun _ g => (p, g.o) :: M) (fun _ g => g.F.map V.int) (fun i g => g.F.length = i ∧ In41 g.F ∧ Jar g.o g.k ∧ g.k ≤ k + 1 + 2 * i) (g0 := ⟨[], o1, k1, none⟩) hS1 ⟨rfl, (fun n hn => nomatch hn), hj1, by show k1 ≤ k + 1 + 2 * ((0 : Nat) : Int); omega⟩ rfl ⟨rfl, rfl⟩ (fun x => rfl) ?_ ?_
  · rintro i ⟨F, o2, k2, x⟩ D H2 hi ⟨h1, h2, h3, h4⟩ hS2
    simp only at h1 h2 h3 h4 hS2
    walk_at "gn"
    refine call_dip (Sa.SA.front (by assumption) (by walk_at "del")) h3 (by omega) (by omega) (by omega) (fun r1 o3 k3 H3 hr2 hr3 hj3 hk3 hS3 => ?_)
    walk_at "gn"
    refine Sa.st_menu (ms := [8, 41]) (fun x => 1 ≤ x ∧ x ≤ 41) (by assumption) (by walk_at "at") rfl (by omega) (by walk_at "om") (by walk_at "mn") (fun y hy => ?_)
    walk_at "gn"
    refine call_dip (by assumption) hj3 (by omega) (by omega) (by omega) (fun r4 o5 k5 H5 hr4 hr5 hj5 hk5 hS5 => ?_)
    walk_at "gn"
    exact ⟨⟨F ++ [r4], o5, k5, none⟩, ⟨by rw [List.length_append, h1]; rfl, in41_add h2 hr4 (by omega), hj5, by show k5 ≤ k + 1 + 2 * ((i + 1 : Nat) : Int); omega⟩, by walk_at "sa2"⟩
  rintro cr ⟨ns, o2, k2, x⟩ H2 ⟨h1, h2, h3, h4⟩ hS2
  simp only at h1 h2 h3 h4 hS2
  walk_at "gn"
  refine call_dip (Sa.SA.front (by assumption) (by walk_at "del")) h3 (by omega) (by omega) (by omega) (fun mn o3 k3 H3 hr2 hr3 hj3 hk3 hS3 => ?_)
  walk_at "gn"
  refine Sa.st_l1c (by assumption) (by walk_at "at") ?_
  refine Sa.lcG_list (γ := G_cast) (fun _ _ => L) (fun _ g => (p, g.o) :: (cr, .lst (ns.map V.int)) :: M) (fun _ g => g.F.map V.int) (fun i g => g.F.length ≤ i ∧ In41 g.F ∧ Jar g.o g.k ∧ g.k ≤ k3 + i) (g0 := ⟨[], o3, k3, none⟩) hS3 ⟨Nat.le_refl _, (fun n hn => nomatch hn), hj3, by show k3 ≤ k3 + ((0 : Nat) : Int); omega⟩ rfl ⟨rfl, rfl⟩ (fun _ _ _ _ => by walk_at "at") (fun x => rfl) ?_ ?_
  · rintro i y ⟨F, o4, k4, x⟩ D H4 hy ⟨g1, g2, g3, g4⟩ hS4
    simp only at g1 g2 g3 g4 hS4
    obtain ⟨n, hn, rfl⟩ := Sa.ints_at hy
    have hil := (List.getElem?_eq_some_iff.mp hn).1
    have hn1 := h2 n (List.mem_of_getElem? hn)
    have yes : ∀ (o5 : HO) (k5 : Int) (H5 : Hp), SA L ((D, .lst ((F ++ [n]).map V.int)) :: (p, o5) :: (cr, .lst (ns.map V.int)) :: M) H5 → Jar o5 k5 → k5 ≤ k4 + 1 →
        Sa.LcN (γ := G_cast) (fun _ _ => L) (fun _ g => (p, g.o) :: (cr, .lst (ns.map V.int)) :: M) (fun _ g => g.F.map V.int) (fun i g => g.F.length ≤ i ∧ In41 g.F ∧ Jar g.o g.k ∧ g.k ≤ k3 + i) D (i + 1) H5 := fun o5 k5 H5 hS5 hj5 hk5 => by
      exact ⟨⟨F ++ [n], o5, k5, none⟩, ⟨by rw [List.length_append]; show F.length + 1 ≤ i + 1; omega, in41_add g2 hn1.1 hn1.2, hj5, by show k5 ≤ k3 + ((i + 1 : Nat) : Int); omega⟩, by walk_at "sa2"⟩
    walk_at "gn"
    refine Sa.if_dec (fun hc => ?_) (fun hc => ?_)
    · walk_at "gn"
      exact yes o4 k4 _ (by walk_at "sa2") g3 (by omega)
    · walk_at "gn"
      refine Sa.if_dec (fun hc2 => ?_) (fun hc2 => ?_)
      · walk_at "gn"
        refine call_dip (Sa.SA.front (by assumption) (by walk_at "del")) g3 (by omega) (by omega) (by omega) (fun r5 o5 k5 H5 hr4 hr5 hj5 hk5 hS5 => ?_)
        walk_at "gn"
        refine Sa.if_dec (fun hc3 => ?_) (fun hc3 => ?_)
        · walk_at "go"
          exact yes o5 k5 _ (by walk_at "sa2") hj5 (by omega)
        · exact ⟨⟨F, o5, k5, none⟩, ⟨by show F.length ≤ i + 1; omega, g2, hj5, by show k5 ≤ k3 + ((i + 1 : Nat) : Int); omega⟩, by walk_at "sa2"⟩
      · exact ⟨⟨F, o4, k4, none⟩, ⟨by show F.length ≤ i + 1; omega, g2, g3, by show k4 ≤ k3 + ((i + 1 : Nat) : Int); omega⟩, by walk_at "sa2"⟩
  rintro so ⟨ms, o4, k4, x⟩ H4 ⟨g1, g2, g3, g4⟩ hS4
  simp only [List.length_map] at g1 g2 g3 g4 hS4
  walk_at "gn"
  refine call_dip (Sa.SA.front (by assumption) (by walk_at "del")) g3 (by omega) (by omega) (by omega) (fun r5 o5 k5 H5 hr4 hr5 hj5 hk5 hS5 => ?_)
  walk_at "gn"
  refine Sa.st_r1 (n := r5.toNat) rfl (by omega) (by omega) ?_
  refine Sa.lp_rng (γ := G_cast) (fun i g => [some (.ref p), some (.ref cr), some (.int mn), some (.ref so), g.x, none]) (fun _ _ => L) (fun _ g => (so, .lst (g.F.map V.int)) :: (p, g.o) :: (cr, .lst (ns.map V.int)) :: M)
    (fun i g => g.F.length ≤ 6 + i ∧ In41 g.F ∧ Jar g.o g.k ∧ g.k ≤ k5 + i) ⟨⟨ms, o5, k5, none⟩, rfl, ⟨by show ms.length ≤ 6 + 0; omega, g2, hj5, by show k5 ≤ k5 + ((0 : Nat) : Int); omega⟩, by walk_at "sa2"⟩ ?_ ?_
  · rintro i ⟨F, o6, k6, x⟩ H6 hi ⟨f1, f2, f3, f4⟩ hS6
    simp only at f1 f2 f3 f4 hS6
    walk_at "nm"
    walk_at "gn"
    refine Sa.if_dec (fun hc => ?_) (fun hc => ?_)
    · walk_at "gn"
      refine call_dip (Sa.SA.front (by assumption) (by walk_at "del")) f3 (by omega) (by omega) (by omega) (fun r7 o7 k7 H7 hr6 hr7 hj7 hk7 hS7 => ?_)
      walk_at "gn"
      exact ⟨⟨F ++ [r7], o7, k7, _⟩, rfl, ⟨by rw [List.length_append]; show F.length + 1 ≤ 6 + (i + 1); omega, in41_add f2 hr6 (by omega), hj7, by show k7 ≤ k5 + ((i + 1 : Nat) : Int); omega⟩, by walk_at "sa2"⟩
    · walk_at "gn"
      exact ⟨⟨F, o6, k6, _⟩, rfl, ⟨by show F.length ≤ 6 + (i + 1); omega, f2, f3, by show k6 ≤ k5 + ((i + 1 : Nat) : Int); omega⟩, by walk_at "sa2"⟩
  · rintro ⟨F, o6, k6, x⟩ H6 ⟨f1, f2, f3, f4⟩ hS6
    simp only at f1 f2 f3 f4 hS6
    walk_at "gn"
    exact q _ cr so ns F o6 k6 _ (by omega) (by omega) h2 (by omega) f2 f3 (by omega) (by walk_at "sa2")

theorem if_andE {L : List Fc} {M : List Cell} {H : Hp} {σ : L2.St} {Q : VK} {b1 b2 : Bool} {tb : TE} (hS : SA L M H) (he : Sa.EvV tb σ L M (.bl b2)) (q : ∀ H', SA L M H' → Q (.bl (b1 && b2)) H') : if b1 = true then tb σ H Q else Q (.bl false) H := by
  cases b1 with
  | true => exact he H hS Q q
  | false => exact q H hS
structure G_b1 where
  kv : List (Key × V)
  de : List V
  x : Option V
def sp__law_right (K : PySem.W.Frag) : Sp := fun vs H Q _ => ∃ (p : Addr) (n : Int), vs = [.ref p, .int n] ∧ ∃ (L : List Fc) (M : List Cell) (o : HO), SA L ((p, o) :: M) H ∧ Jar o 0 ∧ 0 ≤ n ∧ n ≤ 200 ∧
  ∀ H', SA L M H' → Q (.bl true) H'
local macro_rules | `(tactic| walk_at "call") => `(tactic| first
  | ((with_reducible show sp__law_dip _ _ _ _ _); refine call_dip (Sa.SA.front (by assumption) (by walk_at "del")) (by assumption) (by omega) (by omega) (by omega) (fun _ _ _ _ _ _ _ _ _ => ?_)))
theorem sc__law_right : FnScope ["_law_bowl_here", "_law_most", "_law_cast_here", "_law_calls_here", "_law_others", "_law_another", "_law_first_board", "_law_second_board", "_law_clerk_here", "_law_same", "_law_more"] ["_law_bowl_here", "_law_most"] (defScope s__law_right) := ⟨rfl, rfl, rfl, by decide +kernel, rfl, by decide +kernel, by decide +kernel⟩
abbrev Ok__law_right (P : Program) (w : World) (K : PySem.W.Frag) (mg : Str → Option Value) (base : Heap) : Prop := ∃ f fd, Fun K "_law_right" "_law_right" s__law_right f fd ∧ mg "_law_right" = some (.ref f) ∧ FnOk P w K mg base CX0 6 f fd ["_law_bowl_here", "_law_most"] (sp__law_right K)
theorem ok__law_right {P : Program} {w : World} {K : PySem.W.Frag} {mg : Str → Option Value} {base : Heap} (T : Top K mg) (h__law_apart : Ok__law_apart P w K mg base) (h__law_judged : Ok__law_judged P w K mg base) (h_Board___call__ : Ok_Board___call__ P w K mg base) (h__law_dip : Ok__law_dip P w K mg base) (h_Board_undo : Ok_Board_undo P w K mg base) (h_Board___init__ : Ok_Board___init__ P w K mg base) (h__law_other_careful : Ok__law_other_careful P w K mg base) (h__law_other_calls : Ok__law_other_calls P w K mg base) (h__law_calls : Ok__law_calls P w K mg base) (h__law_cast : Ok__law_cast P w K mg base) : Ok__law_right P w K mg base := by
  obtain ⟨f, fd, F, m⟩ := T.d__law_right
  obtain ⟨f__law_apart, fd__law_apart, F__law_apart, m__law_apart, G__law_apart⟩ := h__law_apart
  have b__law_apart := F__law_apart.binds (ps := ["_law_board", "_law_clerk_here"]) (fun _ _ _ _ _ _ us hl => match us, hl with | [_, _], _ => rfl)
  obtain ⟨f__law_judged, fd__law_judged, F__law_judged, m__law_judged, G__law_judged⟩ := h__law_judged
  have b__law_judged := F__law_judged.binds (ps := ["_law_first_board", "_law_second_board", "_law_due"]) (fun _ _ _ _ _ _ us hl => match us, hl with | [_, _, _], _ => rfl)
  obtain ⟨f_Board___call__, fd_Board___call__, F_Board___call__, m_Board___call__, G_Board___call__⟩ := h_Board___call__
  have b_Board___call__ := F_Board___call__.binds (ps := ["self", "clerk"]) (fun _ _ _ _ _ _ us hl => match us, hl with | [_, _], _ => rfl)
  obtain ⟨f__law_dip, fd__law_dip, F__law_dip, m__law_dip, G__law_dip⟩ := h__law_dip
  have b__law_dip := F__law_dip.binds (ps := ["_law_bowl_here", "_law_many"]) (fun _ _ _ _ _ _ us hl => match us, hl with | [_, _], _ => rfl)
  obtain ⟨f_Board_undo, fd_Board_undo, F_Board_undo, m_Board_undo, G_Board_undo⟩ := h_Board_undo
  have b_Board_undo := F_Board_undo.binds (ps := ["self"]) (fun _ _ _ _ _ _ us hl => match us, hl with | [_], _ => rfl)
  obtain ⟨f_Board___init__, fd_Board___init__, F_Board___init__, m_Board___init__, G_Board___init__⟩ := h_Board___init__
  have b_Board___init__ := F_Board___init__.binds (ps := ["self", "careful"]) (fun _ _ _ _ _ _ us hl => match us, hl with | [_, _], _ => rfl)
  obtain ⟨f__law_other_careful, fd__law_other_careful, F__law_other_careful, m__law_other_careful, G__law_other_careful⟩ := h__law_other_careful
  have b__law_other_careful := F__law_other_careful.binds (ps := ["_law_bowl_here", "_law_careful_here"]) (fun _ _ _ _ _ _ us hl => match us, hl with | [_, _], _ => rfl)
  obtain ⟨f__law_other_calls, fd__law_other_calls, F__law_other_calls, m__law_other_calls, G__law_other_calls⟩ := h__law_other_calls
  have b__law_other_calls := F__law_other_calls.binds (ps := ["_law_bowl_here", "_law_calls_here"]) (fun _ _ _ _ _ _ us hl => match us, hl with | [_, _], _ => rfl)
  obtain ⟨f__law_calls, fd__law_calls, F__law_calls, m__law_calls, G__law_calls⟩ := h__law_calls
  have b__law_calls := F__law_calls.binds (ps := ["_law_bowl_here", "_law_crew", "_law_most"]) (fun _ _ _ _ _ _ us hl => match us, hl with | [_, _, _], _ => rfl)
  obtain ⟨f__law_cast, fd__law_cast, F__law_cast, m__law_cast, G__law_cast⟩ := h__law_cast
  have b__law_cast := F__law_cast.binds (ps := ["_law_bowl_here"]) (fun _ _ _ _ _ _ us hl => match us, hl with | [_], _ => rfl)
  refine ⟨f, fd, F, m, F.ok sc__law_right (fun vs H Q E h => by first | (obtain ⟨_, rfl, _⟩ := h; rfl) | (obtain ⟨_, _, rfl, _⟩ := h; rfl) | (obtain ⟨_, _, _, rfl, _⟩ := h; rfl) | (obtain ⟨_, _, _, _, rfl, _⟩ := h; rfl) | (obtain ⟨_, _, _, _, _, rfl, _⟩ := h; rfl) | (obtain ⟨_, _, _, _, _, _, rfl, _⟩ := h; rfl) | (obtain ⟨_, _, _, _, _, _, _, rfl, _⟩ := h; rfl) | (obtain ⟨_, _, _, _, _, _, _, _, rfl, _⟩ := h; rfl)) (fun cdv A outer s H vs Q E hr h => ?_)⟩
  refine ⟨_, (pss_cons (ps_set (i := 2) sc__law_right.nd rfl (.inl rfl) (pe_call G__law_cast (hr.mono (by first | decide | omega)) (by rfl) m__law_cast F__law_cast.kp b__law_cast .nil pass0 (pa_cons (pv 0) pa_nil)))
      (pss_cons (ps_set (i := 3) sc__law_right.nd rfl (.inl rfl) (pe_call G__law_calls (hr.mono (by first | decide | omega)) (by rfl) m__law_calls F__law_calls.kp b__law_calls .nil pass0 (pa_cons (pv 0) (pa_cons (pe_ix ix_list (pv 2) pe_int (fun _ _ => rfl)) (pa_cons (pv 1) pa_nil)))))
      (pss_cons (ps_par (i := 4) (j := 5) (by rfl) sc__law_right.nd rfl rfl (by decide) rfl rfl (pa_cons (pe_call G__law_other_calls (hr.mono (by first | decide | omega)) (by rfl) m__law_other_calls F__law_other_calls.kp b__law_other_calls .nil pass0 (pa_cons (pv 0) (pa_cons (pv 3) pa_nil))) (pa_cons (pe_call G__law_other_careful (hr.mono (by first | decide | omega)) (by rfl) m__law_other_careful F__law_other_careful.kp b__law_other_careful .nil pass0 (pa_cons (pv 0) (pa_cons (pe_ix ix_list (pv 2) pe_int (fun _ _ => rfl)) pa_nil))) pa_nil)) (by rfl))
      (pss_cons (ps_par (i := 6) (j := 7) (by rfl) sc__law_right.nd rfl rfl (by decide) rfl rfl (pa_cons (pe_make m_Board___init__ G_Board___init__ (hr.mono (by first | decide | omega)) (by rfl) T.g_Board b_Board___init__ .nil pass0 (pa_cons (pe_callTy Sa.call_list_of (by rfl) T.z_list (by decide +kernel) (pa_cons (pe_ix ix_list (pv 2) pe_int (fun _ _ => rfl)) pa_nil)) pa_nil)) (pa_cons (pe_make m_Board___init__ G_Board___init__ (hr.mono (by first | decide | omega)) (by rfl) T.g_Board b_Board___init__ .nil pass0 (pa_cons (pe_callTy Sa.call_list_of (by rfl) T.z_list (by decide +kernel) (pa_cons (pv 5) pa_nil)) pa_nil)) pa_nil)) (by rfl))
      (pss_cons (ps_for PassesOwn.never rfl (pi_list (pv 3)) (pg_name (i := 8) sc__law_right.nd rfl (.inl rfl)) (pss_one (ps_expr (StX.pe_callO (pv 6) m_Board___call__ (G_Board___call__.raw b_Board___call__ .nil) (hr.mono (by first | decide | omega)) pass0 (pa_cons (pv 8) pa_nil)))))
      (pss_cons (ps_for PassesOwn.never rfl (pi_list (pv 4)) (pg_name (i := 8) sc__law_right.nd rfl (.inl rfl)) (pss_one (ps_expr (StX.pe_callO (pv 7) m_Board___call__ (G_Board___call__.raw b_Board___call__ .nil) (hr.mono (by first | decide | omega)) pass0 (pa_cons (pv 8) pa_nil)))))
      (pss_cons (ps_set (i := 9) sc__law_right.nd rfl (.inl rfl) (pe_cmpR (op_eqS (Nat.lt_of_le_of_lt (Nat.le_add_right _ 64) hr.units)) (pe_callTy (Sa.cr_setL rfl) (by rfl) T.z_set (by decide +kernel) (pa_cons (pe_ix ix_list (pv 2) pe_int (fun _ _ => rfl)) pa_nil)) (pe_callTy (Sa.cr_setL rfl) (by rfl) T.z_set (by decide +kernel) (pa_cons (pv 5) pa_nil)) (nomark _)))
      (pss_cons (ps_if (pt_not (pt_val (pe_call G__law_judged (hr.mono (by first | decide | omega)) (by rfl) m__law_judged F__law_judged.kp b__law_judged .nil pass0 (pa_cons (pv 6) (pa_cons (pv 7) (pa_cons (pe_and (pv 9) (pe_one (pe_cmpR (op_eqD hr.units) (pv 3) (pv 4) (nomark _)))) pa_nil)))))) (pss_one (ps_ret pe_bl)) pss_nil)
      (pss_cons (ps_set (i := 10) sc__law_right.nd rfl (.inl rfl) (pe_slice sl_list (pe_lst (pa_cons (pe_ix ix_list (pe_ix ix_list (pv 2) pe_int (fun _ _ => rfl)) pe_int (fun _ _ => rfl)) (pa_cons (pe_call G__law_dip (hr.mono (by first | decide | omega)) (by rfl) m__law_dip F__law_dip.kp b__law_dip .nil pass0 (pa_cons (pv 0) (pa_cons pe_int pa_nil))) pa_nil))) po_none (po_some (pe_call G__law_dip (hr.mono (by first | decide | omega)) (by rfl) m__law_dip F__law_dip.kp b__law_dip .nil pass0 (pa_cons (pv 0) (pa_cons pe_int pa_nil))))))
      (Evl.pss_cut (ps_if (PW.pt (pw_and (pt_cmpR op_gt (pe_callB Sa.call_len (by rfl) T.z_len boot_len (pa_cons (pv 4) pa_nil)) (pe_callB Sa.call_len (by rfl) T.z_len boot_len (pa_cons (pv 3) pa_nil)) (nomark _)) (pw_and1 (pt_cmpR op_eq (pe_call G__law_dip (hr.mono (by first | decide | omega)) (by rfl) m__law_dip F__law_dip.kp b__law_dip .nil pass0 (pa_cons (pv 0) (pa_cons pe_int pa_nil))) pe_int (nomark _))))) (pss_one (ps_set (i := 10) sc__law_right.nd rfl (.inl rfl) (pe_lst (pa_cons (pe_ix ix_list (pv 4) (pe_un un_neg pe_int) (fun _ _ => rfl)) pa_nil)))) pss_nil)
      (pss_cons (ps_for PassesOwn.never rfl (pi_list (pv 10)) (pg_name (i := 8) sc__law_right.nd rfl (.inl rfl)) (pss_one (ps_expr (StX.pe_callO (pv 6) m_Board___call__ (G_Board___call__.raw b_Board___call__ .nil) (hr.mono (by first | decide | omega)) pass0 (pa_cons (pv 8) pa_nil)))))
      (pss_cons (ps_if (pt_not (pt_val (pe_call G__law_judged (hr.mono (by first | decide | omega)) (by rfl) m__law_judged F__law_judged.kp b__law_judged .nil pass0 (pa_cons (pv 6) (pa_cons (pv 7) (pa_cons (pe_and (pv 9) (pe_one (pe_cmpR (op_eqD hr.units) (pe_op op_cat (pv 3) (pv 10)) (pv 4) (nomark _)))) pa_nil)))))) (pss_one (ps_ret pe_bl)) pss_nil)
      (pss_cons (ps_for PassesOwn.never rfl (pi_list (pv 10)) (pg_name (i := 8) sc__law_right.nd rfl (.inl rfl)) (pss_one (ps_expr (pe_meth0 (pv 6) T.k_Board m_Board_undo G_Board_undo (hr.mono (by first | decide | omega)) b_Board_undo .nil pass0))))
      (pss_cons (ps_set (i := 8) sc__law_right.nd rfl (.inl rfl) (pe_call G__law_dip (hr.mono (by first | decide | omega)) (by rfl) m__law_dip F__law_dip.kp b__law_dip .nil pass0 (pa_cons (pv 0) (pa_cons pe_int pa_nil))))
      (pss_cons (ps_expr (StX.pe_callO (pv 7) m_Board___call__ (G_Board___call__.raw b_Board___call__ .nil) (hr.mono (by first | decide | omega)) pass0 (pa_cons (pv 8) pa_nil)))
      (pss_cons (ps_if (pt_not (pt_val (pe_call G__law_judged (hr.mono (by first | decide | omega)) (by rfl) m__law_judged F__law_judged.kp b__law_judged .nil pass0 (pa_cons (pv 6) (pa_cons (pv 7) (pa_cons (pe_and (pv 9) (pe_one (pe_cmpR (op_eqD hr.units) (pv 3) (pe_op op_cat (pv 4) (pe_lst (pa_cons (pv 8) pa_nil))) (nomark _)))) pa_nil)))))) (pss_one (ps_ret pe_bl)) pss_nil)
      (pss_cons (ps_expr (StX.pe_callO (pv 6) m_Board___call__ (G_Board___call__.raw b_Board___call__ .nil) (hr.mono (by first | decide | omega)) pass0 (pa_cons (pv 8) pa_nil)))
      (pss_cons (ps_if (pt_not (pt_val (pe_call G__law_judged (hr.mono (by first | decide | omega)) (by rfl) m__law_judged F__law_judged.kp b__law_judged .nil pass0 (pa_cons (pv 6) (pa_cons (pv 7) (pa_cons (pe_and (pv 9) (pe_one (pe_cmpR (op_eqD hr.units) (pv 3) (pv 4) (nomark _)))) pa_nil)))))) (pss_one (ps_ret pe_bl)) pss_nil)
      (pss_one (ps_ret (pe_call G__law_apart (hr.mono (by first | decide | omega)) (by rfl) m__law_apart F__law_apart.kp b__law_apart .nil pass0 (pa_cons (pv 6) (pa_cons (pv 8) pa_nil))))))))))))))))))))))), ?_⟩
  obtain ⟨p, n, rfl, L, M, o, hS, hj, h0, h1, q⟩ := h
  walk_at "st"
  walk_at "gn"
  refine ⟨p, rfl, L, M, o, 0, hS, hj, by omega, fun c cr so ns ms o1 k1 H1 hn0 hn1 hns hm1 hms hj1 hk1 hS1 => ?_⟩
  clear hS
  have hc0 := in41_get hns (i := 0) (by omega) (by omega)
  walk_at "gn"
  refine ⟨p, cr, n, rfl, _, _, o1, k1, ns, Sa.SA.front hS1 (by walk_at "del"), by walk_at "at", hn0, by omega, hns, hj1, h0, h1, by omega, fun fc F o2 k2 H2 hFl hF hj2 hk2 hS2 => ?_⟩
  clear hS1
  walk_at "gn"
  refine ⟨p, fc, rfl, _, _, o2, k2, F, Sa.SA.front hS2 (by walk_at "del"), by walk_at "at", by omega, hF, hj2, by omega, fun fo O o3 k3 H3 hOl hO hj3 hk3 hS3 => ?_⟩
  clear hS2
  walk_at "gn"
  refine ⟨p, so, rfl, _, _, o3, k3, ms, Sa.SA.front hS3 (by walk_at "del"), by walk_at "at", by omega, hms, hj3, by omega, fun fa A o4 k4 H4 hAl hA hj4 hk4 hS4 => ?_⟩
  clear hS3
  walk_at "gn"
  rename_i la Ha hSa rb rd Hb hSb
  refine ⟨_, _, rfl, _, _, _, ms, by assumption, by walk_at "at", fun n hn => (hms n hn).1, by omega, fun R1 care1 H5 hb1 hcp1 hcm1 hS5 => ?_⟩
  subst hb1
  clear hSa hSb hS4
  walk_at "gn"
  rename_i lb Ha hSa rb rd Hb hSb
  refine ⟨_, _, rfl, _, _, _, A, by assumption, by walk_at "at", fun n hn => (hA n hn).1, by omega, fun R2 care2 H6 hb2 hcp2 hcm2 hS6 => ?_⟩
  subst hb2
  clear hSa hSb hS5
  have hS7 : SA (fB K [] [] (Bo.start care1) :: fB K [] [] (Bo.start care2) :: L) ((fc, .lst (F.map V.int)) :: (bcells (Sa.clsOf mg "Board") R1 [] [] (Bo.start care1) ++ (bcells (Sa.clsOf mg "Board") R2 [] [] (Bo.start care2) ++ (p, o4) :: (fa, .lst (A.map V.int)) :: (fo, .lst (O.map V.int)) :: (c, .lst [.ref cr, .ref so]) :: (cr, .lst (ns.map V.int)) :: (so, .lst (ms.map V.int)) :: M))) H6 := Sa.SA.take hS6 (by walk_at "sub") (by walk_at "sam")
  clear hS6
  walk_at "gn"
  refine Sa.st_l1 hS7 (by walk_at "at") ?_
  refine Sa.lp_list (γ := G_b1) (fun i g => [some (.ref p), some (.int n), some (.ref c), some (.ref fc), some (.ref fo), some (.ref fa), some (.ref R1.b), some (.ref R2.b), g.x, none, none]) (fun i g => fB K g.kv g.de (run care1 (F.take i)) :: fB K [] [] (Bo.start care2) :: L)
    (fun i g => (fc, .lst (F.map V.int)) :: (bcells (Sa.clsOf mg "Board") R1 g.kv g.de (run care1 (F.take i)) ++ (bcells (Sa.clsOf mg "Board") R2 [] [] (Bo.start care2) ++ (p, o4) :: (fa, .lst (A.map V.int)) :: (fo, .lst (O.map V.int)) :: (c, .lst [.ref cr, .ref so]) :: (cr, .lst (ns.map V.int)) :: (so, .lst (ms.map V.int)) :: M)))
    (fun i g => Bz g.kv g.de (run care1 (F.take i)) i) ⟨⟨[], [], none⟩, rfl, ⟨Nat.le_refl _, Nat.le_refl _, Nat.le_refl _, Nat.le_refl _, Nat.le_refl _, Nat.le_refl _⟩, hS7⟩ (fun _ _ _ _ => by walk_at "at") ?_ ?_
  · rintro i y ⟨kv, de, x1⟩ H8 hy hz hS8
    simp only at hz hS8
    clear hS7
    obtain ⟨cl, hcl, rfl⟩ := Sa.ints_at hy
    have hil := (List.getElem?_eq_some_iff.mp hcl).1
    have hcl0 := (hF cl (List.mem_of_getElem? hcl)).1
    have es := run_take (care := care1) hcl
    walk_at "nm"
    walk_at "gn"
    refine ⟨R1, cl, rfl, hcl0, run care1 (F.take i), _, _, _, kv, de, i, hS8, by walk_at "in1", by walk_at "grp", hz, by omega, fun kv2 de2 H9 hS9 hz9 => ?_⟩
    rw [← es] at hS9 hz9
    walk_at "gn"
    exact ⟨⟨kv2, de2, _⟩, rfl, hz9, Sa.SA.take hS9 (by walk_at "sub") (by walk_at "sam")⟩
  rintro ⟨kv1, de1, x1⟩ H8 hz1 hS8
  simp only [List.length_map] at hz1 hS8
  try rw [List.length_map]
  rw [List.take_length] at hz1 hS8
  clear hS7
  walk_at "gn"
  have hS9 : SA (fB K kv1 de1 (run care1 F) :: fB K [] [] (Bo.start care2) :: L) ((fo, .lst (O.map V.int)) :: (bcells (Sa.clsOf mg "Board") R1 kv1 de1 (run care1 F) ++ (bcells (Sa.clsOf mg "Board") R2 [] [] (Bo.start care2) ++ (p, o4) :: (fa, .lst (A.map V.int)) :: (fc, .lst (F.map V.int)) :: (c, .lst [.ref cr, .ref so]) :: (cr, .lst (ns.map V.int)) :: (so, .lst (ms.map V.int)) :: M))) H8 := Sa.SA.take hS8 (by walk_at "sub") (by walk_at "sam")
  clear hS8
  refine Sa.st_l1 hS9 (by walk_at "at") ?_
  refine Sa.lp_list (γ := G_b1) (fun i g => [some (.ref p), some (.int n), some (.ref c), some (.ref fc), some (.ref fo), some (.ref fa), some (.ref R1.b), some (.ref R2.b), g.x, none, none]) (fun i g => fB K kv1 de1 (run care1 F) :: fB K g.kv g.de (run care2 (O.take i)) :: L)
    (fun i g => (fo, .lst (O.map V.int)) :: (bcells (Sa.clsOf mg "Board") R1 kv1 de1 (run care1 F) ++ (bcells (Sa.clsOf mg "Board") R2 g.kv g.de (run care2 (O.take i)) ++ (p, o4) :: (fa, .lst (A.map V.int)) :: (fc, .lst (F.map V.int)) :: (c, .lst [.ref cr, .ref so]) :: (cr, .lst (ns.map V.int)) :: (so, .lst (ms.map V.int)) :: M)))
    (fun i g => Bz g.kv g.de (run care2 (O.take i)) i) ⟨⟨[], [], x1⟩, rfl, ⟨Nat.le_refl _, Nat.le_refl _, Nat.le_refl _, Nat.le_refl _, Nat.le_refl _, Nat.le_refl _⟩, hS9⟩ (fun _ _ _ _ => by walk_at "at") ?_ ?_
  · rintro i y ⟨kv, de, x1⟩ H8 hy hz hS8
    simp only at hz hS8
    clear hS9
    obtain ⟨cl, hcl, rfl⟩ := Sa.ints_at hy
    have hil := (List.getElem?_eq_some_iff.mp hcl).1
    have hcl0 := (hO cl (List.mem_of_getElem? hcl)).1
    have es := run_take (care := care2) hcl
    walk_at "nm"
    walk_at "gn"
    refine ⟨R2, cl, rfl, hcl0, run care2 (O.take i), _, _, _, kv, de, i, hS8, by walk_at "in1", by walk_at "grp", hz, by omega, fun kv2 de2 H9 hS9 hz9 => ?_⟩
    rw [← es] at hS9 hz9
    walk_at "gn"
    exact ⟨⟨kv2, de2, _⟩, rfl, hz9, Sa.SA.take hS9 (by walk_at "sub") (by walk_at "sam")⟩
  rintro ⟨kv2, de2, x2⟩ H8 hz2 hS8
  simp only [List.length_map] at hz2 hS8
  try rw [List.length_map]
  rw [List.take_length] at hz2 hS8
  clear hS9
  walk_at "gn"
  refine Sa.st_mkset hS8 (ns := ms) (by walk_at "at") (by omega) (fun s1 n1 H9 hn1 hS9 => ?_)
  clear hS8
  walk_at "gn"
  refine Sa.st_mkset hS9 (ns := A) (by walk_at "at") (by omega) (fun s2 n2 H10 hn2 hSa => ?_)
  clear hS9
  refine st_eqS hSa (ns := ms) (ms := A) (List.mem_cons_of_mem _ List.mem_cons_self) List.mem_cons_self (fun sm hsm => ?_)
  have hcare : sm = decide (care1 = care2) := by
    rw [Bool.eq_iff_iff, hsm, decide_eq_true_iff]
    refine ⟨fun z => asc_eq hcp1 hcp2 fun x => ?_, fun z k => ?_⟩
    · rw [hcm1, hcm2]
      exact z x
    · rw [← hcm1, ← hcm2, z]
  have hSb : SA (fB K kv1 de1 (run care1 F) :: fB K kv2 de2 (run care2 O) :: L) ((p, o4) :: (bcells (Sa.clsOf mg "Board") R1 kv1 de1 (run care1 F) ++ (bcells (Sa.clsOf mg "Board") R2 kv2 de2 (run care2 O) ++ (fo, .lst (O.map V.int)) :: (fc, .lst (F.map V.int)) :: (c, .lst [.ref cr, .ref so]) :: (cr, .lst (ns.map V.int)) :: M))) H10 := Sa.SA.take hSa (by walk_at "sub") (by walk_at "sam")
  clear hSa
  walk_at "gn"
  refine if_andE hSb (b2 := decide (F = O)) (fun H' hS' Q' q' => ?_) (fun H11 hSc => ?_)
  · walk_at "gn"
    exact q' _ hS'
  clear hSb
  walk_at "gn"
  refine ⟨R1, R2, _, rfl, _, _, _, _, kv1, kv2, de1, de2, run care1 F, run care2 O, hSc, by walk_at "grp", by walk_at "grp", by rw [run_care, run_care, run_calls, run_calls, ← hcare], fun H12 hSd => ?_⟩
  clear hSc
  walk_at "gn"
  refine call_dip (Sa.SA.front hSd (by walk_at "del")) hj4 (by omega) (by omega) (by omega) (fun r5 o5 k5 H13 hr0 hr1 hj5 hk5 hSe => ?_)
  clear hSd
  walk_at "gn"
  rename_i ml H14 hSf
  clear hSe
  refine call_dip (Sa.SA.front hSf (by walk_at "del")) hj5 (by omega) (by omega) (by omega) (fun r6 o6 k6 H15 hr2 hr3 hj6 hk6 hSg => ?_)
  clear hSf
  replace hSg : SA (fB K kv1 de1 (run care1 F) :: fB K kv2 de2 (run care2 O) :: L) ((ml, .lst ([ns.getD 0 0, r5].map V.int)) :: (p, o6) :: (bcells (Sa.clsOf mg "Board") R1 kv1 de1 (run care1 F) ++ (bcells (Sa.clsOf mg "Board") R2 kv2 de2 (run care2 O) ++ (fo, .lst (O.map V.int)) :: (fc, .lst (F.map V.int)) :: (c, .lst [.ref cr, .ref so]) :: (cr, .lst (ns.map V.int)) :: M))) H15 := Sa.SA.take hSg .rest (by walk_at "sam")
  refine ⟨_, rfl, ?_⟩
  refine Sa.st_slTo hSg (by walk_at "at") (by omega) (fun m1 H16 hSh => ?_)
  clear hSg
  have hW0 : ∀ x ∈ [ns.getD 0 0, r5].take r6.toNat, 0 ≤ x := fun x hx => by
    have hx := List.mem_of_mem_take hx
    simp only [List.mem_cons, List.not_mem_nil, or_false] at hx
    have h7 : 0 ≤ ns.getD 0 0 := hc0.1
    omega
  have hWl : ([ns.getD 0 0, r5].take r6.toNat).length ≤ 2 := by
    rw [List.length_take]
    simp only [List.length_cons, List.length_nil]
    omega
  generalize [ns.getD 0 0, r5].take r6.toNat = W0 at hSh hW0 hWl
  walk_at "gn"
  refine Sa.st_cut (Mid := fun σ H => ∃ (mo : Addr) (W : List Int) (o7 : HO) (k7 : Int), σ = [some (.ref p), some (.int n), some (.ref c), some (.ref fc), some (.ref fo), some (.ref fa), some (.ref R1.b), some (.ref R2.b), x2, some (.bl sm), some (.ref mo)] ∧ SA (fB K kv1 de1 (run care1 F) :: fB K kv2 de2 (run care2 O) :: L) ((mo, .lst (W.map V.int)) :: (p, o7) :: (bcells (Sa.clsOf mg "Board") R1 kv1 de1 (run care1 F) ++ (bcells (Sa.clsOf mg "Board") R2 kv2 de2 (run care2 O) ++ (fo, .lst (O.map V.int)) :: (fc, .lst (F.map V.int)) :: (c, .lst [.ref cr, .ref so]) :: (cr, .lst (ns.map V.int)) :: M))) H ∧ W.length ≤ 2 ∧ (∀ x ∈ W, 0 ≤ x) ∧ Jar o7 k7 ∧ k7 ≤ 100000) ?_ ?_
  · walk_at "gn"
    refine Sa.if_dec (fun h2 => ?_) (fun h2 => ?_)
    · walk_at "gn"
      refine call_dip (Sa.SA.front hSh (by walk_at "del")) hj6 (by omega) (by omega) (by omega) (fun r7 o7 k7 H17 hr4 hr5 hj7 hk7 hSi => ?_)
      walk_at "gn"
      refine Sa.if_dec (fun h3 => ?_) (fun h3 => ?_)
      · walk_at "gn"
        rename_i lw H18 hSj
        have hOe := in41_get hO (i := -1 + (O.length : Int)) (by omega) (by omega)
        exact ⟨lw, [O.getD (-1 + (O.length : Int)).toNat 0], o7, k7, rfl, Sa.SA.take hSj .rest (by walk_at "sam"), by show 1 ≤ 2; omega, fun x hx => by rw [List.mem_singleton.mp hx]; exact hOe.1, hj7, by omega⟩
      · walk_at "gn"
        exact ⟨m1, W0, o7, k7, rfl, Sa.SA.take hSi .rest (by walk_at "sam"), hWl, hW0, hj7, by omega⟩
    · walk_at "gn"
      exact ⟨m1, W0, o6, k6, rfl, Sa.SA.take hSh .rest (by walk_at "sam"), hWl, hW0, hj6, by omega⟩
  rintro _ H17 ⟨mo, W, o7, k7, rfl, hSi, hWl, hW0, hj7, hk7⟩
  clear hSh
  walk_at "gn"
  refine Sa.st_l1 hSi (by walk_at "at") ?_
  refine Sa.lp_list (γ := G_b1) (fun i g => [some (.ref p), some (.int n), some (.ref c), some (.ref fc), some (.ref fo), some (.ref fa), some (.ref R1.b), some (.ref R2.b), g.x, some (.bl sm), some (.ref mo)]) (fun i g => fB K g.kv g.de (run care1 (F ++ W.take i)) :: fB K kv2 de2 (run care2 O) :: L)
    (fun i g => (mo, .lst (W.map V.int)) :: (p, o7) :: (bcells (Sa.clsOf mg "Board") R1 g.kv g.de (run care1 (F ++ W.take i)) ++ (bcells (Sa.clsOf mg "Board") R2 kv2 de2 (run care2 O) ++ (fo, .lst (O.map V.int)) :: (fc, .lst (F.map V.int)) :: (c, .lst [.ref cr, .ref so]) :: (cr, .lst (ns.map V.int)) :: M)))
    (fun i g => Bz g.kv g.de (run care1 (F ++ W.take i)) (F.length + i)) ⟨⟨kv1, de1, x2⟩, rfl, by
      show Bz kv1 de1 (run care1 (F ++ W.take 0)) _
      rw [List.take_zero, List.append_nil]
      exact hz1, by
      show SA (fB K kv1 de1 (run care1 (F ++ W.take 0)) :: _) ((mo, .lst (W.map V.int)) :: (p, o7) :: (bcells (Sa.clsOf mg "Board") R1 kv1 de1 (run care1 (F ++ W.take 0)) ++ (bcells (Sa.clsOf mg "Board") R2 kv2 de2 (run care2 O) ++ (fo, .lst (O.map V.int)) :: (fc, .lst (F.map V.int)) :: (c, .lst [.ref cr, .ref so]) :: (cr, .lst (ns.map V.int)) :: M))) _
      rw [List.take_zero, List.append_nil]
      exact hSi⟩ (fun _ _ _ _ => by walk_at "at") ?_ ?_
  · rintro i y ⟨kv, de, x1⟩ H8 hy hz hS8
    simp only at hz hS8
    clear hSi
    obtain ⟨cl, hcl, rfl⟩ := Sa.ints_at hy
    have hil := (List.getElem?_eq_some_iff.mp hcl).1
    have hcl0 := hW0 cl (List.mem_of_getElem? hcl)
    have es : run care1 (F ++ W.take (i + 1)) = (run care1 (F ++ W.take i)).call cl := by
      rw [Sa.take_at hcl, ← List.append_assoc, run_snoc]
    walk_at "nm"
    walk_at "gn"
    refine ⟨R1, cl, rfl, hcl0, run care1 (F ++ W.take i), _, _, _, kv, de, F.length + i, hS8, by walk_at "in1", by walk_at "grp", hz, by omega, fun kv2 de2 H9 hS9 hz9 => ?_⟩
    rw [← es] at hS9 hz9
    walk_at "gn"
    exact ⟨⟨kv2, de2, _⟩, rfl, hz9, Sa.SA.take hS9 (by walk_at "sub") (by walk_at "sam")⟩
  rintro ⟨kv3, de3, x3⟩ H18 hz3 hSj
  simp only [List.length_map] at hz3 hSj
  try rw [List.length_map]
  rw [List.take_length] at hz3 hSj
  clear hSi
  walk_at "gn"
  refine if_andE hSj (b2 := decide (F ++ W = O)) (fun H' hS' Q' q' => ?_) (fun H19 hSk => ?_)
  · walk_at "gn"
    exact q' _ (by walk_at "sa2")
  clear hSj
  walk_at "gn"
  refine ⟨R1, R2, _, rfl, _, _, _, _, kv3, kv2, de3, de2, (run care1 (F ++ W)), (run care2 O), hSk, by walk_at "grp", by walk_at "grp", by rw [run_care, run_care, run_calls, run_calls, ← hcare], fun H20 hSl => ?_⟩
  clear hSk
  walk_at "gn"
  have e00 : F ++ W.take (W.length - 0) = F ++ W := by rw [Nat.sub_zero, List.take_length]
  refine Sa.st_l1 hSl (by walk_at "at") ?_
  refine Sa.lp_list (γ := G_b1) (fun i g => [some (.ref p), some (.int n), some (.ref c), some (.ref fc), some (.ref fo), some (.ref fa), some (.ref R1.b), some (.ref R2.b), g.x, some (.bl sm), some (.ref mo)]) (fun j g => fB K g.kv g.de (run care1 (F ++ W.take (W.length - j))) :: fB K kv2 de2 (run care2 O) :: L)
    (fun j g => (mo, .lst (W.map V.int)) :: (p, o7) :: (bcells (Sa.clsOf mg "Board") R1 g.kv g.de (run care1 (F ++ W.take (W.length - j))) ++ (bcells (Sa.clsOf mg "Board") R2 kv2 de2 (run care2 O) ++ (fo, .lst (O.map V.int)) :: (fc, .lst (F.map V.int)) :: (c, .lst [.ref cr, .ref so]) :: (cr, .lst (ns.map V.int)) :: M)))
    (fun j g => Bz g.kv g.de (run care1 (F ++ W.take (W.length - j))) (F.length + W.length + j)) ⟨⟨kv3, de3, x3⟩, rfl, by
      show Bz kv3 de3 (run care1 (F ++ W.take (W.length - 0))) _
      rw [e00]
      exact hz3, by
      show SA (fB K kv3 de3 (run care1 (F ++ W.take (W.length - 0))) :: _) ((mo, .lst (W.map V.int)) :: (p, o7) :: (bcells (Sa.clsOf mg "Board") R1 kv3 de3 (run care1 (F ++ W.take (W.length - 0))) ++ (bcells (Sa.clsOf mg "Board") R2 kv2 de2 (run care2 O) ++ (fo, .lst (O.map V.int)) :: (fc, .lst (F.map V.int)) :: (c, .lst [.ref cr, .ref so]) :: (cr, .lst (ns.map V.int)) :: M))) _
      rw [e00]
      exact hSl⟩ (fun _ _ _ _ => by walk_at "at") ?_ ?_
  · rintro j y ⟨kv, de, x1⟩ H8 hy hz hS8
    simp only at hz hS8
    clear hSl
    obtain ⟨cl, hcl, rfl⟩ := Sa.ints_at hy
    have hjl := (List.getElem?_eq_some_iff.mp hcl).1
    have hil : W.length - (j + 1) < W.length := by omega
    have hc1 : W[W.length - (j + 1)]? = some W[W.length - (j + 1)] := List.getElem?_eq_getElem hil
    have es : run care1 (F ++ W.take (W.length - j)) = (run care1 (F ++ W.take (W.length - (j + 1)))).call W[W.length - (j + 1)] := by
      rw [show W.length - j = W.length - (j + 1) + 1 by omega, Sa.take_at hc1, ← List.append_assoc, run_snoc]
    rw [es] at hz hS8
    walk_at "nm"
    walk_at "gn"
    refine ⟨R1, rfl, run care1 (F ++ W.take (W.length - (j + 1))), W[W.length - (j + 1)], _, _, _, kv, de, F.length + W.length + j, hS8, by walk_at "in1", by walk_at "grp", hz, by omega, fun kv2 de2 H9 hS9 hz9 => ?_⟩
    walk_at "gn"
    exact ⟨⟨kv2, de2, _⟩, rfl, hz9, Sa.SA.take hS9 (by walk_at "sub") (by walk_at "sam")⟩
  rintro ⟨kv4, de4, x4⟩ H21 hz4 hSm
  simp only [List.length_map] at hz4 hSm
  try rw [List.length_map]
  rw [Nat.sub_self, List.take_zero, List.append_nil] at hz4 hSm
  clear hSl
  walk_at "gn"
  refine call_dip (Sa.SA.front hSm (by walk_at "del")) hj7 (by omega) (by omega) (by omega) (fun cl o8 k8 H22 hcl0 hcl1 hj8 hk8 hSn => ?_)
  clear hSm
  walk_at "gn"
  refine ⟨R2, cl, rfl, hcl0, (run care2 O), _, _, _, kv2, de2, O.length, hSn, by walk_at "in1", by walk_at "grp", hz2, by omega, fun kv5 de5 H23 hSo hz5 => ?_⟩
  rw [← run_snoc] at hSo hz5
  clear hSn
  have hSp : SA (fB K kv4 de4 (run care1 F) :: fB K kv5 de5 (run care2 (O ++ [cl])) :: L) ((mo, .lst (W.map V.int)) :: (p, o8) :: (bcells (Sa.clsOf mg "Board") R1 kv4 de4 (run care1 F) ++ (bcells (Sa.clsOf mg "Board") R2 kv5 de5 (run care2 (O ++ [cl])) ++ (fo, .lst (O.map V.int)) :: (fc, .lst (F.map V.int)) :: (c, .lst [.ref cr, .ref so]) :: (cr, .lst (ns.map V.int)) :: M))) H23 := Sa.SA.take hSo (by walk_at "sub") (by walk_at "sam")
  clear hSo
  walk_at "gn"
  refine if_andE hSp (b2 := decide (F = O ++ [cl])) (fun H' hS' Q' q' => ?_) (fun H24 hSq => ?_)
  · walk_at "gn"
    exact q' _ (by walk_at "sa2")
  clear hSp
  walk_at "gn"
  refine ⟨R1, R2, _, rfl, _, _, _, _, kv4, kv5, de4, de5, (run care1 F), run care2 (O ++ [cl]), hSq, by walk_at "grp", by walk_at "grp", by rw [run_care, run_care, run_calls, run_calls, ← hcare], fun H25 hSr => ?_⟩
  clear hSq
  walk_at "gn"
  refine ⟨R1, cl, rfl, hcl0, (run care1 F), _, _, _, kv4, de4, F.length + W.length + W.length, hSr, by walk_at "in1", by walk_at "grp", hz4, by omega, fun kv6 de6 H26 hSs hz6 => ?_⟩
  rw [← run_snoc] at hSs hz6
  clear hSr
  have hSt : SA (fB K kv6 de6 (run care1 (F ++ [cl])) :: fB K kv5 de5 (run care2 (O ++ [cl])) :: L) ((mo, .lst (W.map V.int)) :: (p, o8) :: (bcells (Sa.clsOf mg "Board") R1 kv6 de6 (run care1 (F ++ [cl])) ++ (bcells (Sa.clsOf mg "Board") R2 kv5 de5 (run care2 (O ++ [cl])) ++ (fo, .lst (O.map V.int)) :: (fc, .lst (F.map V.int)) :: (c, .lst [.ref cr, .ref so]) :: (cr, .lst (ns.map V.int)) :: M))) H26 := Sa.SA.take hSs (by walk_at "sub") (by walk_at "sam")
  clear hSs
  walk_at "gn"
  refine if_andE hSt (b2 := decide (F = O)) (fun H' hS' Q' q' => ?_) (fun H27 hSu => ?_)
  · walk_at "gn"
    exact q' _ hS'
  clear hSt
  walk_at "gn"
  have hFO : decide (F ++ [cl] = O ++ [cl]) = decide (F = O) := by
    rw [Bool.eq_iff_iff, decide_eq_true_iff, decide_eq_true_iff]
    exact List.append_left_inj [cl]
  refine ⟨R1, R2, _, rfl, _, _, _, _, kv6, kv5, de6, de5, run care1 (F ++ [cl]), run care2 (O ++ [cl]), hSu, by walk_at "grp", by walk_at "grp", by rw [run_care, run_care, run_calls, run_calls, ← hcare, hFO], fun H28 hSv => ?_⟩
  clear hSu
  walk_at "gn"
  have hnl := run_len care1 (F ++ [cl])
  rw [List.length_append, List.length_singleton] at hnl
  refine ⟨R1, cl, rfl, _, _, _, kv6, de6, run care1 (F ++ [cl]), hSv, by walk_at "grp", by omega, fun H29 hSw => ?_⟩
  exact q _ (by walk_at "sa2")

def sp__law_bowl (K : PySem.W.Frag) : Sp := fun vs H Q _ => ∃ (a : Addr) (rk : Int), vs = [.ref a, .int rk] ∧ ∃ (L : List Fc) (M : List Cell) (ns : List Int), SA L M H ∧ At L M (fQ K a (ns.map V.int)) ∧ 0 ≤ rk ∧ rk ≤ 1000 ∧
  ∀ p o H', Jar o 0 → SA L ((p, o) :: M) H' → Q (.ref p) H'
theorem sc__law_bowl : FnScope ["_law_script", "_law_rank", "_law_cell"] ["_law_script", "_law_rank"] (defScope s__law_bowl) := ⟨rfl, rfl, rfl, by decide +kernel, rfl, by decide +kernel, by decide +kernel⟩
abbrev Ok__law_bowl (P : Program) (w : World) (K : PySem.W.Frag) (mg : Str → Option Value) (base : Heap) : Prop := ∃ f fd, Fun K "_law_bowl" "_law_bowl" s__law_bowl f fd ∧ mg "_law_bowl" = some (.ref f) ∧ FnOk P w K mg base CX0 1 f fd ["_law_script", "_law_rank"] (sp__law_bowl K)
theorem ok__law_bowl {P : Program} {w : World} {K : PySem.W.Frag} {mg : Str → Option Value} {base : Heap} (T : Top K mg) : Ok__law_bowl P w K mg base := by
  obtain ⟨f, fd, F, m⟩ := T.d__law_bowl
  refine ⟨f, fd, F, m, F.ok sc__law_bowl (fun vs H Q E h => by first | (obtain ⟨_, rfl, _⟩ := h; rfl) | (obtain ⟨_, _, rfl, _⟩ := h; rfl) | (obtain ⟨_, _, _, rfl, _⟩ := h; rfl) | (obtain ⟨_, _, _, _, rfl, _⟩ := h; rfl) | (obtain ⟨_, _, _, _, _, rfl, _⟩ := h; rfl) | (obtain ⟨_, _, _, _, _, _, rfl, _⟩ := h; rfl) | (obtain ⟨_, _, _, _, _, _, _, rfl, _⟩ := h; rfl) | (obtain ⟨_, _, _, _, _, _, _, _, rfl, _⟩ := h; rfl)) (fun cdv A outer s H vs Q E hr h => ?_)⟩
  refine ⟨_, (pss_cons (ps_set (i := 2) sc__law_bowl.nd rfl (.inl rfl) (pe_ifExp (pt_cmpR op_lt (pv 1) (pe_callB Sa.call_len (by rfl) T.z_len boot_len (pa_cons (pv 0) pa_nil)) (nomark _)) (pe_ix ix_list (pv 0) (pv 1) (fun _ _ => rfl)) pe_int))
      (pss_one (ps_ret (pe_lst (pa_cons (pe_callB (Sa.call_max2 rfl) (by rfl) T.z_max (by decide +kernel) (pa_cons pe_int (pa_cons (pe_op op_sub (pe_callB Sa.call_abs (by rfl) T.z_abs (by decide +kernel) (pa_cons (pv 2) pa_nil)) (pe_op Sa.op_powW pe_int pe_int)) pa_nil))) (pa_cons (pe_op Sa.op_modX (pe_callTy Sa.call_int1 (by rfl) T.z_int (by decide +kernel) (pa_cons (pe_op op_add (pe_op op_add (pe_op Sa.op_mulX (pv 2) pe_int) (pe_op Sa.op_mulX (pv 1) pe_int)) pe_int) pa_nil)) (pe_op op_add (pe_op Sa.op_powW pe_int pe_int) pe_int)) (pa_cons pe_int pa_nil))))))), ?_⟩
  obtain ⟨a, rk, rfl, L, M, ns, hS, hA, h0, h1, q⟩ := h
  walk_at "st"
  walk_at "go"
  have fin : ∀ cell : Int, ∀ H, SA L M H → ∀ p H', SA L ((p, .lst [.int (max 0 ((if cell < 0 then -cell else cell) - 1000000000000000000)), .int ((cell * 52361 + rk * 6700417 + 15485863) % (1000000000000000000000000000000 + 57)), .int 0]) :: M) H' → Q (.ref p) H' := fun cell H _ p H' h' =>
    q p _ H' ⟨_, _, rfl, by omega, Int.emod_nonneg _ (by decide), Int.lt_trans (Int.emod_lt_of_pos _ (by decide)) (by decide), by decide⟩ h'
  refine Sa.if_dec (fun h2 => ?_) (fun h2 => ?_)
  · try rw [List.length_map] at h2
    walk_at "go"
    refine Sa.st_newL (by assumption) (by walk_at "om") (fun p H' h' => ?_)
    exact fin _ _ hS p H' h'
  · walk_at "go"
    refine Sa.st_newL (by assumption) (by walk_at "om") (fun p H' h' => ?_)
    exact fin _ _ hS p H' h'

def sp_law (K : PySem.W.Frag) : Sp := fun vs H Q _ => ∃ (a : Addr) (ns : List Int), vs = [.ref a] ∧ SqL K H a (ns.map V.int) ∧ ns.length ≤ 63 ∧ ∀ H', Q (.bl true) H'
theorem sc_law : FnScope ["_law_script", "_law_rank"] ["_law_script"] (defScope s_law) := ⟨rfl, rfl, rfl, by decide +kernel, rfl, by decide +kernel, by decide +kernel⟩
abbrev Ok_law (P : Program) (w : World) (K : PySem.W.Frag) (mg : Str → Option Value) (base : Heap) : Prop := ∃ f fd, Fun K "law" "law" s_law f fd ∧ mg "law" = some (.ref f) ∧ FnOk P w K mg base CX0 7 f fd ["_law_script"] (sp_law K)
theorem ok_law {P : Program} {w : World} {K : PySem.W.Frag} {mg : Str → Option Value} {base : Heap} (T : Top K mg) (h__law_right : Ok__law_right P w K mg base) (h__law_bowl : Ok__law_bowl P w K mg base) : Ok_law P w K mg base := by
  obtain ⟨f, fd, F, m⟩ := T.d_law
  obtain ⟨f__law_right, fd__law_right, F__law_right, m__law_right, G__law_right⟩ := h__law_right
  have b__law_right := F__law_right.binds (ps := ["_law_bowl_here", "_law_most"]) (fun _ _ _ _ _ _ us hl => match us, hl with | [_, _], _ => rfl)
  obtain ⟨f__law_bowl, fd__law_bowl, F__law_bowl, m__law_bowl, G__law_bowl⟩ := h__law_bowl
  have b__law_bowl := F__law_bowl.binds (ps := ["_law_script", "_law_rank"]) (fun _ _ _ _ _ _ us hl => match us, hl with | [_, _], _ => rfl)
  refine ⟨f, fd, F, m, F.ok sc_law (fun vs H Q E h => by first | (obtain ⟨_, rfl, _⟩ := h; rfl) | (obtain ⟨_, _, rfl, _⟩ := h; rfl) | (obtain ⟨_, _, _, rfl, _⟩ := h; rfl) | (obtain ⟨_, _, _, _, rfl, _⟩ := h; rfl) | (obtain ⟨_, _, _, _, _, rfl, _⟩ := h; rfl) | (obtain ⟨_, _, _, _, _, _, rfl, _⟩ := h; rfl) | (obtain ⟨_, _, _, _, _, _, _, rfl, _⟩ := h; rfl) | (obtain ⟨_, _, _, _, _, _, _, _, rfl, _⟩ := h; rfl)) (fun cdv A outer s H vs Q E hr h => ?_)⟩
  refine ⟨_, (pss_cons (ps_for PassesOwn.never rfl (pi_range1 (by rfl) T.z_range (pa_cons (pe_callB (Sa.call_max2 rfl) (by rfl) T.z_max (by decide +kernel) (pa_cons pe_int (pa_cons (pe_callB (Sa.call_min2 rfl) (by rfl) T.z_min (by decide +kernel) (pa_cons pe_int (pa_cons (pe_callB Sa.call_len (by rfl) T.z_len boot_len (pa_cons (pv 0) pa_nil)) pa_nil))) pa_nil))) pa_nil)) (pg_name (i := 1) sc_law.nd rfl (.inl rfl)) (pss_one (ps_if (pt_not (pt_val (pe_call G__law_right (hr.mono (by first | decide | omega)) (by rfl) m__law_right F__law_right.kp b__law_right .nil pass0 (pa_cons (pe_call G__law_bowl (hr.mono (by first | decide | omega)) (by rfl) m__law_bowl F__law_bowl.kp b__law_bowl .nil pass0 (pa_cons (pv 0) (pa_cons (pv 1) pa_nil))) (pa_cons (pe_ix ix_list (pe_lst (pa_cons pe_int (pa_cons pe_int pa_nil))) (pe_callB (Sa.call_min2 rfl) (by rfl) T.z_min (by decide +kernel) (pa_cons (pv 1) (pa_cons pe_int pa_nil))) (fun _ _ => rfl)) pa_nil))))) (pss_one (ps_ret pe_bl)) pss_nil)))
      (pss_one (ps_ret pe_bl))), ?_⟩
  obtain ⟨a, ns, rfl, hS, hl, q⟩ := h
  have hS0 := Sa.SA.self H
  have hA : At [Sa.fS H] [] (fQ K a (ns.map V.int)) := Sa.At.ofS (f := fQ K a (ns.map V.int)) hS
  walk_at "st"
  walk_at "gn"
  try rw [List.length_map]
  refine Sa.st_r1 (n := _) rfl (by omega) (by omega) ?_
  refine Sa.lp_rng (γ := Option V) (fun i g => [some (.ref a), g]) (fun _ _ => [Sa.fS H]) (fun _ _ => []) (fun i g => True) ⟨none, rfl, trivial, hS0⟩ ?_ ?_
  · rintro i g H1 hi _ hS1
    walk_at "nm"
    walk_at "gn"
    refine ⟨_, _, rfl, _, _, ns, hS1, hA, by omega, by omega, fun p o H2 hj hS2 => ?_⟩
    walk_at "gn"
    first
      | refine Sa.st_menu (ms := [_, _, _]) (fun x => x ∈ [_, _, _]) (by assumption) (by walk_at "at") rfl (by omega) (by walk_at "om") (fun x hx => hx) (fun x hx => ?_)
      | refine Sa.st_menu (ms := [_, _]) (fun x => x ∈ [_, _]) (by assumption) (by walk_at "at") rfl (by omega) (by walk_at "om") (fun x hx => hx) (fun x hx => ?_)
    simp only [List.mem_cons, List.not_mem_nil, or_false] at hx
    walk_at "gn"
    refine ⟨_, _, rfl, [Sa.fS H], [], _, by walk_at "sa", by assumption, by omega, by omega, fun H3 hS3 => ?_⟩
    walk_at "gn"
    exact ⟨_, rfl, trivial, by walk_at "sa"⟩
  · rintro g H1 _ hS1
    walk_at "gn"
    exact q _

theorem fun_same {K : PySem.W.Frag} {x qual : Str} {st : Stmt} {f : Addr} {fd fd' : FuncData} (F : Fun K x qual st f fd) (G : Fun K x qual st f fd') : fd = fd' := by
  obtain ⟨_, _, _, _, _, _, _, _, _, e1, l1, _⟩ := F.ex
  obtain ⟨_, _, _, _, _, _, _, _, _, e2, l2, _⟩ := G.ex
  rw [l1] at l2
  cases l2
  rfl
theorem all_ok {P : Program} {w : World} {K : PySem.W.Frag} {mg : Str → Option Value} {base : Heap} (T : Top K mg) {f : Addr} {fd : FuncData} (F : Fun K "law" "law" s_law f fd) (m : mg "law" = some (.ref f)) : FnOk P w K mg base CX0 7 f fd ["_law_script"] (sp_law K) := by
  have h_Board_writes : Ok_Board_writes P w K mg base := ok_Board_writes T
  have h_Board___eq__ : Ok_Board___eq__ P w K mg base := ok_Board___eq__ T
  have h__law_apart : Ok__law_apart P w K mg base := ok__law_apart T h_Board_writes h_Board___eq__
  have h__law_alike : Ok__law_alike P w K mg base := ok__law_alike T
  have h__law_judged : Ok__law_judged P w K mg base := ok__law_judged T h__law_alike h_Board___eq__
  have h_Board__write : Ok_Board__write P w K mg base := ok_Board__write T
  have h_number_in_gap : Ok_number_in_gap P w K mg base := ok_number_in_gap T
  have h_Board_now : Ok_Board_now P w K mg base := ok_Board_now T h_number_in_gap
  have h_Board__try_in_vain : Ok_Board__try_in_vain P w K mg base := ok_Board__try_in_vain T
  have h_Board__read : Ok_Board__read P w K mg base := ok_Board__read T h_Board_now
  have h_check_clerk : Ok_check_clerk P w K mg base := ok_check_clerk T
  have h_Board___call__ : Ok_Board___call__ P w K mg base := ok_Board___call__ T h_Board__write h_Board_now h_Board__try_in_vain h_Board__read h_check_clerk
  have h__law_dip : Ok__law_dip P w K mg base := ok__law_dip T
  have h_Board_undo : Ok_Board_undo P w K mg base := ok_Board_undo T
  have h_Board___init__ : Ok_Board___init__ P w K mg base := ok_Board___init__ T h_check_clerk
  have h__law_other_careful : Ok__law_other_careful P w K mg base := ok__law_other_careful T h__law_dip
  have h__law_other_calls : Ok__law_other_calls P w K mg base := ok__law_other_calls T h__law_dip
  have h__law_calls : Ok__law_calls P w K mg base := ok__law_calls T h__law_dip
  have h__law_cast : Ok__law_cast P w K mg base := ok__law_cast T h__law_dip
  have h__law_right : Ok__law_right P w K mg base := ok__law_right T h__law_apart h__law_judged h_Board___call__ h__law_dip h_Board_undo h_Board___init__ h__law_other_careful h__law_other_calls h__law_calls h__law_cast
  have h__law_bowl : Ok__law_bowl P w K mg base := ok__law_bowl T
  have h_law : Ok_law P w K mg base := ok_law T h__law_right h__law_bowl
  obtain ⟨f1, fd1, F1, m1, G1⟩ := h_law
  have e : f1 = f := by
    rw [m] at m1
    cases m1
    rfl
  subst e
  have e2 : fd1 = fd := fun_same F1 F
  subst e2
  exact G1
theorem all_mk {l : PySem.W.OpenLaw} {w : World} {K : PySem.W.Frag} {h : Heap} {mg : Str → Option Value} {fa : Addr} (X : K.In h) (G : h.Ns mainGlobals mg) (hfa : mg "law" = some (.ref fa))
    {f0 : Addr} {od0 an0 : Option Addr} {sl0 : Array (Option Value)} {oc0 kV0 dc0 pm0 cd0 ct0 : Value}
    (a0 : PySem.W.nsIn K mainGlobals "number_in_gap" = some (some (.ref f0))) (l0 : K.lookup f0 = some ⟨oc0, od0, .func (PySem.W.fnOf "number_in_gap" "number_in_gap" (defArgs s_number_in_gap) (defBody s_number_in_gap) (defScope s_number_in_gap) .none kV0 dc0 pm0 an0 cd0 ct0), sl0⟩) (c0 : PySem.W.codeIn K cd0 "number_in_gap" = true) (k0 : PySem.W.keepIn K (.ref f0) = true)
    {f1 : Addr} {od1 an1 : Option Addr} {sl1 : Array (Option Value)} {oc1 kV1 dc1 pm1 cd1 ct1 : Value}
    (a1 : PySem.W.nsIn K mainGlobals "check_clerk" = some (some (.ref f1))) (l1 : K.lookup f1 = some ⟨oc1, od1, .func (PySem.W.fnOf "check_clerk" "check_clerk" (defArgs s_check_clerk) (defBody s_check_clerk) (defScope s_check_clerk) .none kV1 dc1 pm1 an1 cd1 ct1), sl1⟩) (c1 : PySem.W.codeIn K cd1 "check_clerk" = true) (k1 : PySem.W.keepIn K (.ref f1) = true)
    {f2 : Addr} {od2 an2 : Option Addr} {sl2 : Array (Option Value)} {oc2 kV2 dc2 pm2 cd2 ct2 : Value}
    (a2 : PySem.W.nsIn K mainGlobals "_law_bowl" = some (some (.ref f2))) (l2 : K.lookup f2 = some ⟨oc2, od2, .func (PySem.W.fnOf "_law_bowl" "_law_bowl" (defArgs s__law_bowl) (defBody s__law_bowl) (defScope s__law_bowl) .none kV2 dc2 pm2 an2 cd2 ct2), sl2⟩) (c2 : PySem.W.codeIn K cd2 "_law_bowl" = true) (k2 : PySem.W.keepIn K (.ref f2) = true)
    {f3 : Addr} {od3 an3 : Option Addr} {sl3 : Array (Option Value)} {oc3 kV3 dc3 pm3 cd3 ct3 : Value}
    (a3 : PySem.W.nsIn K mainGlobals "_law_dip" = some (some (.ref f3))) (l3 : K.lookup f3 = some ⟨oc3, od3, .func (PySem.W.fnOf "_law_dip" "_law_dip" (defArgs s__law_dip) (defBody s__law_dip) (defScope s__law_dip) .none kV3 dc3 pm3 an3 cd3 ct3), sl3⟩) (c3 : PySem.W.codeIn K cd3 "_law_dip" = true) (k3 : PySem.W.keepIn K (.ref f3) = true)
    {f4 : Addr} {od4 an4 : Option Addr} {sl4 : Array (Option Value)} {oc4 kV4 dc4 pm4 cd4 ct4 : Value}
    (a4 : PySem.W.nsIn K mainGlobals "_law_alike" = some (some (.ref f4))) (l4 : K.lookup f4 = some ⟨oc4, od4, .func (PySem.W.fnOf "_law_alike" "_law_alike" (defArgs s__law_alike) (defBody s__law_alike) (defScope s__law_alike) .none kV4 dc4 pm4 an4 cd4 ct4), sl4⟩) (c4 : PySem.W.codeIn K cd4 "_law_alike" = true) (k4 : PySem.W.keepIn K (.ref f4) = true)
    {f5 : Addr} {od5 an5 : Option Addr} {sl5 : Array (Option Value)} {oc5 kV5 dc5 pm5 cd5 ct5 : Value}
    (a5 : PySem.W.nsIn K mainGlobals "_law_cast" = some (some (.ref f5))) (l5 : K.lookup f5 = some ⟨oc5, od5, .func (PySem.W.fnOf "_law_cast" "_law_cast" (defArgs s__law_cast) (defBody s__law_cast) (defScope s__law_cast) .none kV5 dc5 pm5 an5 cd5 ct5), sl5⟩) (c5 : PySem.W.codeIn K cd5 "_law_cast" = true) (k5 : PySem.W.keepIn K (.ref f5) = true)
    {f6 : Addr} {od6 an6 : Option Addr} {sl6 : Array (Option Value)} {oc6 kV6 dc6 pm6 cd6 ct6 : Value}
    (a6 : PySem.W.nsIn K mainGlobals "_law_calls" = some (some (.ref f6))) (l6 : K.lookup f6 = some ⟨oc6, od6, .func (PySem.W.fnOf "_law_calls" "_law_calls" (defArgs s__law_calls) (defBody s__law_calls) (defScope s__law_calls) .none kV6 dc6 pm6 an6 cd6 ct6), sl6⟩) (c6 : PySem.W.codeIn K cd6 "_law_calls" = true) (k6 : PySem.W.keepIn K (.ref f6) = true)
    {f7 : Addr} {od7 an7 : Option Addr} {sl7 : Array (Option Value)} {oc7 kV7 dc7 pm7 cd7 ct7 : Value}
    (a7 : PySem.W.nsIn K mainGlobals "_law_other_calls" = some (some (.ref f7))) (l7 : K.lookup f7 = some ⟨oc7, od7, .func (PySem.W.fnOf "_law_other_calls" "_law_other_calls" (defArgs s__law_other_calls) (defBody s__law_other_calls) (defScope s__law_other_calls) .none kV7 dc7 pm7 an7 cd7 ct7), sl7⟩) (c7 : PySem.W.codeIn K cd7 "_law_other_calls" = true) (k7 : PySem.W.keepIn K (.ref f7) = true)
    {f8 : Addr} {od8 an8 : Option Addr} {sl8 : Array (Option Value)} {oc8 kV8 dc8 pm8 cd8 ct8 : Value}
    (a8 : PySem.W.nsIn K mainGlobals "_law_other_careful" = some (some (.ref f8))) (l8 : K.lookup f8 = some ⟨oc8, od8, .func (PySem.W.fnOf "_law_other_careful" "_law_other_careful" (defArgs s__law_other_careful) (defBody s__law_other_careful) (defScope s__law_other_careful) .none kV8 dc8 pm8 an8 cd8 ct8), sl8⟩) (c8 : PySem.W.codeIn K cd8 "_law_other_careful" = true) (k8 : PySem.W.keepIn K (.ref f8) = true)
    {f9 : Addr} {od9 an9 : Option Addr} {sl9 : Array (Option Value)} {oc9 kV9 dc9 pm9 cd9 ct9 : Value}
    (a9 : PySem.W.nsIn K mainGlobals "_law_judged" = some (some (.ref f9))) (l9 : K.lookup f9 = some ⟨oc9, od9, .func (PySem.W.fnOf "_law_judged" "_law_judged" (defArgs s__law_judged) (defBody s__law_judged) (defScope s__law_judged) .none kV9 dc9 pm9 an9 cd9 ct9), sl9⟩) (c9 : PySem.W.codeIn K cd9 "_law_judged" = true) (k9 : PySem.W.keepIn K (.ref f9) = true)
    {f10 : Addr} {od10 an10 : Option Addr} {sl10 : Array (Option Value)} {oc10 kV10 dc10 pm10 cd10 ct10 : Value}
    (a10 : PySem.W.nsIn K mainGlobals "_law_apart" = some (some (.ref f10))) (l10 : K.lookup f10 = some ⟨oc10, od10, .func (PySem.W.fnOf "_law_apart" "_law_apart" (defArgs s__law_apart) (defBody s__law_apart) (defScope s__law_apart) .none kV10 dc10 pm10 an10 cd10 ct10), sl10⟩) (c10 : PySem.W.codeIn K cd10 "_law_apart" = true) (k10 : PySem.W.keepIn K (.ref f10) = true)
    {f11 : Addr} {od11 an11 : Option Addr} {sl11 : Array (Option Value)} {oc11 kV11 dc11 pm11 cd11 ct11 : Value}
    (a11 : PySem.W.nsIn K mainGlobals "_law_right" = some (some (.ref f11))) (l11 : K.lookup f11 = some ⟨oc11, od11, .func (PySem.W.fnOf "_law_right" "_law_right" (defArgs s__law_right) (defBody s__law_right) (defScope s__law_right) .none kV11 dc11 pm11 an11 cd11 ct11), sl11⟩) (c11 : PySem.W.codeIn K cd11 "_law_right" = true) (k11 : PySem.W.keepIn K (.ref f11) = true)
    {f12 : Addr} {od12 an12 : Option Addr} {sl12 : Array (Option Value)} {oc12 kV12 dc12 pm12 cd12 ct12 : Value}
    (a12 : PySem.W.nsIn K mainGlobals "law" = some (some (.ref f12))) (l12 : K.lookup f12 = some ⟨oc12, od12, .func (PySem.W.fnOf "law" "law" (defArgs s_law) (defBody s_law) (defScope s_law) .none kV12 dc12 pm12 an12 cd12 ct12), sl12⟩) (c12 : PySem.W.codeIn K cd12 "law" = true) (k12 : PySem.W.keepIn K (.ref f12) = true)
    {C_Board : Addr} (n_Board : PySem.W.nsIn K mainGlobals "Board" = some (some (.ref C_Board))) (pg_Board : PySem.W.plainGet K C_Board Str.empty = true) (hd_Board : PySem.W.hasDictIn K C_Board = true) (po_Board : PySem.W.plainOver K C_Board = true) (sa_Board : PySem.W.findIn K (.ref C_Board) "__setattr__" = some (some (.builtin "object.__setattr__"))) (mk_Board : PySem.W.makesIn K C_Board = true) (kc_Board : PySem.W.keepIn K (.ref C_Board) = true)
    (na_Board__careful : PySem.W.findIn K (.ref C_Board) "_careful" = some none)
    (na_Board__calls : PySem.W.findIn K (.ref C_Board) "_calls" = some none)
    (na_Board__deeds : PySem.W.findIn K (.ref C_Board) "_deeds" = some none)
    (na_Board__held : PySem.W.findIn K (.ref C_Board) "_held" = some none)
    (na_Board__numbers : PySem.W.findIn K (.ref C_Board) "_numbers" = some none)
    (na_Board__writers : PySem.W.findIn K (.ref C_Board) "_writers" = some none)
    (na_Board__gaps : PySem.W.findIn K (.ref C_Board) "_gaps" = some none)
    {f_Board___init__ : Addr} {od_Board___init__ an_Board___init__ : Option Addr} {sl_Board___init__ : Array (Option Value)} {oc_Board___init__ kV_Board___init__ dc_Board___init__ pm_Board___init__ cd_Board___init__ ct_Board___init__ : Value}
    (a_Board___init__ : PySem.W.findIn K (.ref C_Board) "__init__" = some (some (.ref f_Board___init__))) (i_Board___init__ : PySem.W.isFn K (.ref f_Board___init__) = true) (l_Board___init__ : K.lookup f_Board___init__ = some ⟨oc_Board___init__, od_Board___init__, .func (PySem.W.fnOf "__init__" "Board.__init__" (defArgs s_Board___init__) (defBody s_Board___init__) (defScope s_Board___init__) .none kV_Board___init__ dc_Board___init__ pm_Board___init__ an_Board___init__ cd_Board___init__ ct_Board___init__), sl_Board___init__⟩) (c_Board___init__ : PySem.W.codeIn K cd_Board___init__ "Board.__init__" = true) (k_Board___init__ : PySem.W.keepIn K (.ref f_Board___init__) = true)
    {f_Board___call__ : Addr} {od_Board___call__ an_Board___call__ : Option Addr} {sl_Board___call__ : Array (Option Value)} {oc_Board___call__ kV_Board___call__ dc_Board___call__ pm_Board___call__ cd_Board___call__ ct_Board___call__ : Value}
    (a_Board___call__ : PySem.W.findIn K (.ref C_Board) "__call__" = some (some (.ref f_Board___call__))) (i_Board___call__ : PySem.W.isFn K (.ref f_Board___call__) = true) (l_Board___call__ : K.lookup f_Board___call__ = some ⟨oc_Board___call__, od_Board___call__, .func (PySem.W.fnOf "__call__" "Board.__call__" (defArgs s_Board___call__) (defBody s_Board___call__) (defScope s_Board___call__) .none kV_Board___call__ dc_Board___call__ pm_Board___call__ an_Board___call__ cd_Board___call__ ct_Board___call__), sl_Board___call__⟩) (c_Board___call__ : PySem.W.codeIn K cd_Board___call__ "Board.__call__" = true) (k_Board___call__ : PySem.W.keepIn K (.ref f_Board___call__) = true)
    (fi_Board___call__ : PySem.W.fnIn K f_Board___call__ = true)
    {f_Board__read : Addr} {od_Board__read an_Board__read : Option Addr} {sl_Board__read : Array (Option Value)} {oc_Board__read kV_Board__read dc_Board__read pm_Board__read cd_Board__read ct_Board__read : Value}
    (a_Board__read : PySem.W.findIn K (.ref C_Board) "_read" = some (some (.ref f_Board__read))) (i_Board__read : PySem.W.isFn K (.ref f_Board__read) = true) (l_Board__read : K.lookup f_Board__read = some ⟨oc_Board__read, od_Board__read, .func (PySem.W.fnOf "_read" "Board._read" (defArgs s_Board__read) (defBody s_Board__read) (defScope s_Board__read) .none kV_Board__read dc_Board__read pm_Board__read an_Board__read cd_Board__read ct_Board__read), sl_Board__read⟩) (c_Board__read : PySem.W.codeIn K cd_Board__read "Board._read" = true) (k_Board__read : PySem.W.keepIn K (.ref f_Board__read) = true)
    {f_Board__write : Addr} {od_Board__write an_Board__write : Option Addr} {sl_Board__write : Array (Option Value)} {oc_Board__write kV_Board__write dc_Board__write pm_Board__write cd_Board__write ct_Board__write : Value}
    (a_Board__write : PySem.W.findIn K (.ref C_Board) "_write" = some (some (.ref f_Board__write))) (i_Board__write : PySem.W.isFn K (.ref f_Board__write) = true) (l_Board__write : K.lookup f_Board__write = some ⟨oc_Board__write, od_Board__write, .func (PySem.W.fnOf "_write" "Board._write" (defArgs s_Board__write) (defBody s_Board__write) (defScope s_Board__write) .none kV_Board__write dc_Board__write pm_Board__write an_Board__write cd_Board__write ct_Board__write), sl_Board__write⟩) (c_Board__write : PySem.W.codeIn K cd_Board__write "Board._write" = true) (k_Board__write : PySem.W.keepIn K (.ref f_Board__write) = true)
    {f_Board__try_in_vain : Addr} {od_Board__try_in_vain an_Board__try_in_vain : Option Addr} {sl_Board__try_in_vain : Array (Option Value)} {oc_Board__try_in_vain kV_Board__try_in_vain dc_Board__try_in_vain pm_Board__try_in_vain cd_Board__try_in_vain ct_Board__try_in_vain : Value}
    (a_Board__try_in_vain : PySem.W.findIn K (.ref C_Board) "_try_in_vain" = some (some (.ref f_Board__try_in_vain))) (i_Board__try_in_vain : PySem.W.isFn K (.ref f_Board__try_in_vain) = true) (l_Board__try_in_vain : K.lookup f_Board__try_in_vain = some ⟨oc_Board__try_in_vain, od_Board__try_in_vain, .func (PySem.W.fnOf "_try_in_vain" "Board._try_in_vain" (defArgs s_Board__try_in_vain) (defBody s_Board__try_in_vain) (defScope s_Board__try_in_vain) .none kV_Board__try_in_vain dc_Board__try_in_vain pm_Board__try_in_vain an_Board__try_in_vain cd_Board__try_in_vain ct_Board__try_in_vain), sl_Board__try_in_vain⟩) (c_Board__try_in_vain : PySem.W.codeIn K cd_Board__try_in_vain "Board._try_in_vain" = true) (k_Board__try_in_vain : PySem.W.keepIn K (.ref f_Board__try_in_vain) = true)
    {f_Board_now : Addr} {od_Board_now an_Board_now : Option Addr} {sl_Board_now : Array (Option Value)} {oc_Board_now kV_Board_now dc_Board_now pm_Board_now cd_Board_now ct_Board_now : Value}
    (a_Board_now : PySem.W.findIn K (.ref C_Board) "now" = some (some (.ref f_Board_now))) (i_Board_now : PySem.W.isFn K (.ref f_Board_now) = true) (l_Board_now : K.lookup f_Board_now = some ⟨oc_Board_now, od_Board_now, .func (PySem.W.fnOf "now" "Board.now" (defArgs s_Board_now) (defBody s_Board_now) (defScope s_Board_now) .none kV_Board_now dc_Board_now pm_Board_now an_Board_now cd_Board_now ct_Board_now), sl_Board_now⟩) (c_Board_now : PySem.W.codeIn K cd_Board_now "Board.now" = true) (k_Board_now : PySem.W.keepIn K (.ref f_Board_now) = true)
    {f_Board_writes : Addr} {od_Board_writes an_Board_writes : Option Addr} {sl_Board_writes : Array (Option Value)} {oc_Board_writes kV_Board_writes dc_Board_writes pm_Board_writes cd_Board_writes ct_Board_writes : Value}
    (a_Board_writes : PySem.W.findIn K (.ref C_Board) "writes" = some (some (.ref f_Board_writes))) (i_Board_writes : PySem.W.isFn K (.ref f_Board_writes) = true) (l_Board_writes : K.lookup f_Board_writes = some ⟨oc_Board_writes, od_Board_writes, .func (PySem.W.fnOf "writes" "Board.writes" (defArgs s_Board_writes) (defBody s_Board_writes) (defScope s_Board_writes) .none kV_Board_writes dc_Board_writes pm_Board_writes an_Board_writes cd_Board_writes ct_Board_writes), sl_Board_writes⟩) (c_Board_writes : PySem.W.codeIn K cd_Board_writes "Board.writes" = true) (k_Board_writes : PySem.W.keepIn K (.ref f_Board_writes) = true)
    {f_Board_undo : Addr} {od_Board_undo an_Board_undo : Option Addr} {sl_Board_undo : Array (Option Value)} {oc_Board_undo kV_Board_undo dc_Board_undo pm_Board_undo cd_Board_undo ct_Board_undo : Value}
    (a_Board_undo : PySem.W.findIn K (.ref C_Board) "undo" = some (some (.ref f_Board_undo))) (i_Board_undo : PySem.W.isFn K (.ref f_Board_undo) = true) (l_Board_undo : K.lookup f_Board_undo = some ⟨oc_Board_undo, od_Board_undo, .func (PySem.W.fnOf "undo" "Board.undo" (defArgs s_Board_undo) (defBody s_Board_undo) (defScope s_Board_undo) .none kV_Board_undo dc_Board_undo pm_Board_undo an_Board_undo cd_Board_undo ct_Board_undo), sl_Board_undo⟩) (c_Board_undo : PySem.W.codeIn K cd_Board_undo "Board.undo" = true) (k_Board_undo : PySem.W.keepIn K (.ref f_Board_undo) = true)
    {f_Board___eq__ : Addr} {od_Board___eq__ an_Board___eq__ : Option Addr} {sl_Board___eq__ : Array (Option Value)} {oc_Board___eq__ kV_Board___eq__ dc_Board___eq__ pm_Board___eq__ cd_Board___eq__ ct_Board___eq__ : Value}
    (a_Board___eq__ : PySem.W.findIn K (.ref C_Board) "__eq__" = some (some (.ref f_Board___eq__))) (i_Board___eq__ : PySem.W.isFn K (.ref f_Board___eq__) = true) (l_Board___eq__ : K.lookup f_Board___eq__ = some ⟨oc_Board___eq__, od_Board___eq__, .func (PySem.W.fnOf "__eq__" "Board.__eq__" (defArgs s_Board___eq__) (defBody s_Board___eq__) (defScope s_Board___eq__) .none kV_Board___eq__ dc_Board___eq__ pm_Board___eq__ an_Board___eq__ cd_Board___eq__ ct_Board___eq__), sl_Board___eq__⟩) (c_Board___eq__ : PySem.W.codeIn K cd_Board___eq__ "Board.__eq__" = true) (k_Board___eq__ : PySem.W.keepIn K (.ref f_Board___eq__) = true)
    (ha_Board : PySem.W.findIn K (.ref C_Board) "__class__" = some (some (.builtin "object.__class__"))) (hm_Board : PySem.W.mroIn K C_Board (.type "object") = some true)
    (ehn : PySem.W.specialIn K (.builtin "object.__class__") "__get__" = some (some (.builtin "getset_descriptor.__get__"))) (eht : PySem.W.takesIn K (.builtin "object.__class__") = some true)
    (ic_Board : PySem.W.isClsIn K C_Board = true) (ty_Board : PySem.W.typeIn K (.ref C_Board) = some (.type "type"))
    {u_READ : Value} (gc_READ : PySem.W.nsIn K mainGlobals "READ" = some (some u_READ)) (rc_READ : RelV (.str "read") u_READ)
    {u_WRITE : Value} (gc_WRITE : PySem.W.nsIn K mainGlobals "WRITE" = some (some u_WRITE)) (rc_WRITE : RelV (.str "write") u_WRITE)
    {u_VAIN : Value} (gc_VAIN : PySem.W.nsIn K mainGlobals "VAIN" = some (some u_VAIN)) (rc_VAIN : RelV (.str "vain") u_VAIN)
    (z_max : PySem.W.nsIn K mainGlobals "max" = some none)
    (z_len : PySem.W.nsIn K mainGlobals "len" = some none)
    (z_int : PySem.W.nsIn K mainGlobals "int" = some none)
    (z_abs : PySem.W.nsIn K mainGlobals "abs" = some none)
    (z_isinstance : PySem.W.nsIn K mainGlobals "isinstance" = some none)
    (z_bool : PySem.W.nsIn K mainGlobals "bool" = some none)
    (z_str : PySem.W.nsIn K mainGlobals "str" = some none)
    (z_list : PySem.W.nsIn K mainGlobals "list" = some none)
    (z_zip : PySem.W.nsIn K mainGlobals "zip" = some none)
    (z_tuple : PySem.W.nsIn K mainGlobals "tuple" = some none)
    (z_range : PySem.W.nsIn K mainGlobals "range" = some none)
    (z_min : PySem.W.nsIn K mainGlobals "min" = some none)
    (z_set : PySem.W.nsIn K mainGlobals "set" = some none)
    (z_sorted : PySem.W.nsIn K mainGlobals "sorted" = some none)
    : ∃ fd : FuncData, (∀ (s : Shared) (v : Value), BindsTo s fd ⟨[v], []⟩ [("_law_script", v)]) ∧ ∀ base : Heap, K.In base → base.Ns mainGlobals mg → FnOk l.prog w K mg base CX0 7 fa fd ["_law_script"] (sp_law K) := by
  have e := hfa.symm.trans (PySem.W.mg_of X G a12)
  cases e
  have e_Board : Sa.clsOf mg "Board" = C_Board := Sa.clsOf_eq (PySem.W.mg_of X G n_Board)
  have T : Top K mg := {
    d_number_in_gap := ⟨_, _, fun_mk (st := s_number_in_gap) l0 c0 k0, PySem.W.mg_of X G a0⟩
    d_check_clerk := ⟨_, _, fun_mk (st := s_check_clerk) l1 c1 k1, PySem.W.mg_of X G a1⟩
    d__law_bowl := ⟨_, _, fun_mk (st := s__law_bowl) l2 c2 k2, PySem.W.mg_of X G a2⟩
    d__law_dip := ⟨_, _, fun_mk (st := s__law_dip) l3 c3 k3, PySem.W.mg_of X G a3⟩
    d__law_alike := ⟨_, _, fun_mk (st := s__law_alike) l4 c4 k4, PySem.W.mg_of X G a4⟩
    d__law_cast := ⟨_, _, fun_mk (st := s__law_cast) l5 c5 k5, PySem.W.mg_of X G a5⟩
    d__law_calls := ⟨_, _, fun_mk (st := s__law_calls) l6 c6 k6, PySem.W.mg_of X G a6⟩
    d__law_other_calls := ⟨_, _, fun_mk (st := s__law_other_calls) l7 c7 k7, PySem.W.mg_of X G a7⟩
    d__law_other_careful := ⟨_, _, fun_mk (st := s__law_other_careful) l8 c8 k8, PySem.W.mg_of X G a8⟩
    d__law_judged := ⟨_, _, fun_mk (st := s__law_judged) l9 c9 k9, PySem.W.mg_of X G a9⟩
    d__law_apart := ⟨_, _, fun_mk (st := s__law_apart) l10 c10 k10, PySem.W.mg_of X G a10⟩
    d__law_right := ⟨_, _, fun_mk (st := s__law_right) l11 c11 k11, PySem.W.mg_of X G a11⟩
    d_law := ⟨_, _, fun_mk (st := s_law) l12 c12 k12, PySem.W.mg_of X G a12⟩
    k_Board := by rw [e_Board]; exact ⟨pg_Board, hd_Board, po_Board, sa_Board⟩
    g_Board := by rw [e_Board]; exact PySem.W.mg_of X G n_Board
    a_Board__careful := by rw [e_Board]; exact na_Board__careful
    a_Board__calls := by rw [e_Board]; exact na_Board__calls
    a_Board__deeds := by rw [e_Board]; exact na_Board__deeds
    a_Board__held := by rw [e_Board]; exact na_Board__held
    a_Board__numbers := by rw [e_Board]; exact na_Board__numbers
    a_Board__writers := by rw [e_Board]; exact na_Board__writers
    a_Board__gaps := by rw [e_Board]; exact na_Board__gaps
    d_Board___init__ := by rw [e_Board]; exact ⟨_, _, fun_mk (st := s_Board___init__) l_Board___init__ c_Board___init__ k_Board___init__, ⟨mk_Board, a_Board___init__, i_Board___init__, kc_Board⟩⟩
    d_Board___call__ := by rw [e_Board]; exact ⟨_, _, fun_mk (st := s_Board___call__) l_Board___call__ c_Board___call__ k_Board___call__, ⟨a_Board___call__, i_Board___call__, fi_Board___call__⟩⟩
    d_Board__read := by rw [e_Board]; exact ⟨_, _, fun_mk (st := s_Board__read) l_Board__read c_Board__read k_Board__read, ⟨a_Board__read, i_Board__read, k_Board__read⟩⟩
    d_Board__write := by rw [e_Board]; exact ⟨_, _, fun_mk (st := s_Board__write) l_Board__write c_Board__write k_Board__write, ⟨a_Board__write, i_Board__write, k_Board__write⟩⟩
    d_Board__try_in_vain := by rw [e_Board]; exact ⟨_, _, fun_mk (st := s_Board__try_in_vain) l_Board__try_in_vain c_Board__try_in_vain k_Board__try_in_vain, ⟨a_Board__try_in_vain, i_Board__try_in_vain, k_Board__try_in_vain⟩⟩
    d_Board_now := by rw [e_Board]; exact ⟨_, _, fun_mk (st := s_Board_now) l_Board_now c_Board_now k_Board_now, ⟨a_Board_now, i_Board_now, k_Board_now⟩⟩
    d_Board_writes := by rw [e_Board]; exact ⟨_, _, fun_mk (st := s_Board_writes) l_Board_writes c_Board_writes k_Board_writes, ⟨a_Board_writes, i_Board_writes, k_Board_writes⟩⟩
    d_Board_undo := by rw [e_Board]; exact ⟨_, _, fun_mk (st := s_Board_undo) l_Board_undo c_Board_undo k_Board_undo, ⟨a_Board_undo, i_Board_undo, k_Board_undo⟩⟩
    d_Board___eq__ := by rw [e_Board]; exact ⟨_, _, fun_mk (st := s_Board___eq__) l_Board___eq__ c_Board___eq__ k_Board___eq__, ⟨a_Board___eq__, i_Board___eq__, k_Board___eq__⟩⟩
    q_Board := by rw [e_Board]; exact ⟨ha_Board, ehn, eht, hm_Board⟩
    t_Board := by rw [e_Board]; exact ⟨ic_Board, ty_Board⟩
    c_READ := ⟨_, PySem.W.mg_of X G gc_READ, rc_READ⟩
    c_WRITE := ⟨_, PySem.W.mg_of X G gc_WRITE, rc_WRITE⟩
    c_VAIN := ⟨_, PySem.W.mg_of X G gc_VAIN, rc_VAIN⟩
    z_max := PySem.W.mg_none_of X G z_max
    z_len := PySem.W.mg_none_of X G z_len
    z_int := PySem.W.mg_none_of X G z_int
    z_abs := PySem.W.mg_none_of X G z_abs
    z_isinstance := PySem.W.mg_none_of X G z_isinstance
    z_bool := PySem.W.mg_none_of X G z_bool
    z_str := PySem.W.mg_none_of X G z_str
    z_list := PySem.W.mg_none_of X G z_list
    z_zip := PySem.W.mg_none_of X G z_zip
    z_tuple := PySem.W.mg_none_of X G z_tuple
    z_range := PySem.W.mg_none_of X G z_range
    z_min := PySem.W.mg_none_of X G z_min
    z_set := PySem.W.mg_none_of X G z_set
    z_sorted := PySem.W.mg_none_of X G z_sorted
  }
  exact ⟨PySem.W.fnOf "law" "law" (defArgs s_law) (defBody s_law) (defScope s_law) .none kV12 dc12 pm12 an12 cd12 ct12, fun s v => .of_eq rfl, fun base _ _ => all_ok T (fun_mk (st := s_law) l12 c12 k12) hfa⟩
theorem walk {l : PySem.W.OpenLaw} {q : Program} {loose : List Str} {XP : (Str → Option Value) → Heap → Prop} {YP : World → Heap → Prop} {d : DefRec} {K : Params → PySem.W.Frag} (hn : l.most = some 63) (hdf : d.params.defaults = [])
    (hY : ∀ (w : World) (h : Heap), YP w h → (K w.params).In h)
    (F : ∀ (w : World) (mg : Str → Option Value) (fa : Addr) (h : Heap), (K w.params).In h → h.Ns mainGlobals mg → mg d.name = some (.ref fa) →
      ∃ fd : FuncData, (∀ (s : Shared) (u : Value), BindsTo s fd ⟨[u], []⟩ [("_law_script", u)]) ∧ ∀ base : Heap, (K w.params).In base → base.Ns mainGlobals mg → FnOk l.prog w (K w.params) mg base CX0 7 fa fd ["_law_script"] (sp_law (K w.params))) :
    PySem.W.WalkO q loose XP YP l.row.toRowW d [] (fun f vs => PySem.call f vs) :=
  L2.walk_of (n := 63) (k := 7) (x := "_law_script") (CX := fun _ => CX0) (sp := fun w => sp_law (K w.params)) hn (by decide) hdf ⟨rfl, by decide, by decide⟩ hY F (fun _ _ a ns hl _ hS => ⟨a, ns, rfl, hS, hl, fun _ => rfl⟩) fun _ _ _ _ _ z => z
end T
open PySem PySem.W PyProof.Rows
set_option maxRecDepth 100000 in
set_option maxHeartbeats 0 in
theorem PySem.Challenge.cw_staletally_k59_equal_boards_holds : PySem.Challenge.rw_staletally_k59_equal_boards.Holds := by
  w_on; o_law; k_head; (case hw => w_witness2)
  k_fill
  refine T.walk (l := PySem.Challenge.rw_staletally_k59_equal_boards) rfl rfl (fun w h Y => PySem.W.kIn_of Y) ?F
  case F =>
    intro w mg fa h KX G hmg
    refine' T.all_mk KX G hmg ?a0 ?l0 ?c0 ?k0 ?a1 ?l1 ?c1 ?k1 ?a2 ?l2 ?c2 ?k2 ?a3 ?l3 ?c3 ?k3 ?a4 ?l4 ?c4 ?k4 ?a5 ?l5 ?c5 ?k5 ?a6 ?l6 ?c6 ?k6 ?a7 ?l7 ?c7 ?k7 ?a8 ?l8 ?c8 ?k8 ?a9 ?l9 ?c9 ?k9 ?a10 ?l10 ?c10 ?k10 ?a11 ?l11 ?c11 ?k11 ?a12 ?l12 ?c12 ?k12 ?n_Board ?pg_Board ?hd_Board ?po_Board ?sa_Board ?mk_Board ?kc_Board ?na_Board__careful ?na_Board__calls ?na_Board__deeds ?na_Board__held ?na_Board__numbers ?na_Board__writers ?na_Board__gaps ?a_Board___init__ ?i_Board___init__ ?l_Board___init__ ?c_Board___init__ ?k_Board___init__ ?a_Board___call__ ?i_Board___call__ ?l_Board___call__ ?c_Board___call__ ?k_Board___call__ ?fi_Board___call__ ?a_Board__read ?i_Board__read ?l_Board__read ?c_Board__read ?k_Board__read ?a_Board__write ?i_Board__write ?l_Board__write ?c_Board__write ?k_Board__write ?a_Board__try_in_vain ?i_Board__try_in_vain ?l_Board__try_in_vain ?c_Board__try_in_vain ?k_Board__try_in_vain ?a_Board_now ?i_Board_now ?l_Board_now ?c_Board_now ?k_Board_now ?a_Board_writes ?i_Board_writes ?l_Board_writes ?c_Board_writes ?k_Board_writes ?a_Board_undo ?i_Board_undo ?l_Board_undo ?c_Board_undo ?k_Board_undo ?a_Board___eq__ ?i_Board___eq__ ?l_Board___eq__ ?c_Board___eq__ ?k_Board___eq__ ?ha_Board ?hm_Board ?ehn ?eht ?ic_Board ?ty_Board ?gc_READ ?rc_READ ?gc_WRITE ?rc_WRITE ?gc_VAIN ?rc_VAIN ?z_max ?z_len ?z_int ?z_abs ?z_isinstance ?z_bool ?z_str ?z_list ?z_zip ?z_tuple ?z_range ?z_min ?z_set ?z_sorted
    (case a0 => k_is); (case l0 => k_is); (case c0 => k_is); (case k0 => k_is)
    (case a1 => k_is); (case l1 => k_is); (case c1 => k_is); (case k1 => k_is)
    (case a2 => k_is); (case l2 => k_is); (case c2 => k_is); (case k2 => k_is)
    (case a3 => k_is); (case l3 => k_is); (case c3 => k_is); (case k3 => k_is)
    (case a4 => k_is); (case l4 => k_is); (case c4 => k_is); (case k4 => k_is)
    (case a5 => k_is); (case l5 => k_is); (case c5 => k_is); (case k5 => k_is)
    (case a6 => k_is); (case l6 => k_is); (case c6 => k_is); (case k6 => k_is)
    (case a7 => k_is); (case l7 => k_is); (case c7 => k_is); (case k7 => k_is)
    (case a8 => k_is); (case l8 => k_is); (case c8 => k_is); (case k8 => k_is)
    (case a9 => k_is); (case l9 => k_is); (case c9 => k_is); (case k9 => k_is)
    (case a10 => k_is); (case l10 => k_is); (case c10 => k_is); (case k10 => k_is)
    (case a11 => k_is); (case l11 => k_is); (case c11 => k_is); (case k11 => k_is)
    (case a12 => k_is); (case l12 => k_is); (case c12 => k_is); (case k12 => k_is)
    (case n_Board => k_is)
    (case pg_Board => k_is)
    (case hd_Board => k_is)
    (case po_Board => k_is)
    (case sa_Board => k_is)
    (case mk_Board => k_is)
    (case kc_Board => k_is)
    (case na_Board__careful => k_is)
    (case na_Board__calls => k_is)
    (case na_Board__deeds => k_is)
    (case na_Board__held => k_is)
    (case na_Board__numbers => k_is)
    (case na_Board__writers => k_is)
    (case na_Board__gaps => k_is)
    (case a_Board___init__ => k_is)
    (case i_Board___init__ => k_is)
    (case l_Board___init__ => k_is)
    (case c_Board___init__ => k_is)
    (case k_Board___init__ => k_is)
    (case a_Board___call__ => k_is)
    (case i_Board___call__ => k_is)
    (case l_Board___call__ => k_is)
    (case c_Board___call__ => k_is)
    (case k_Board___call__ => k_is)
    (case fi_Board___call__ => k_is)
    (case a_Board__read => k_is)
    (case i_Board__read => k_is)
    (case l_Board__read => k_is)
    (case c_Board__read => k_is)
    (case k_Board__read => k_is)
    (case a_Board__write => k_is)
    (case i_Board__write => k_is)
    (case l_Board__write => k_is)
    (case c_Board__write => k_is)
    (case k_Board__write => k_is)
    (case a_Board__try_in_vain => k_is)
    (case i_Board__try_in_vain => k_is)
    (case l_Board__try_in_vain => k_is)
    (case c_Board__try_in_vain => k_is)
    (case k_Board__try_in_vain => k_is)
    (case a_Board_now => k_is)
    (case i_Board_now => k_is)
    (case l_Board_now => k_is)
    (case c_Board_now => k_is)
    (case k_Board_now => k_is)
    (case a_Board_writes => k_is)
    (case i_Board_writes => k_is)
    (case l_Board_writes => k_is)
    (case c_Board_writes => k_is)
    (case k_Board_writes => k_is)
    (case a_Board_undo => k_is)
    (case i_Board_undo => k_is)
    (case l_Board_undo => k_is)
    (case c_Board_undo => k_is)
    (case k_Board_undo => k_is)
    (case a_Board___eq__ => k_is)
    (case i_Board___eq__ => k_is)
    (case l_Board___eq__ => k_is)
    (case c_Board___eq__ => k_is)
    (case k_Board___eq__ => k_is)
    (case ha_Board => k_is)
    (case hm_Board => k_is)
    (case ehn => k_is)
    (case eht => k_is)
    (case ic_Board => k_is)
    (case ty_Board => k_is)
    (case gc_READ => k_is)
    (case rc_READ => (first | exact rfl | exact ⟨_, rfl⟩))
    (case gc_WRITE => k_is)
    (case rc_WRITE => (first | exact rfl | exact ⟨_, rfl⟩))
    (case gc_VAIN => k_is)
    (case rc_VAIN => (first | exact rfl | exact ⟨_, rfl⟩))
    (case z_max => k_is)
    (case z_len => k_is)
    (case z_int => k_is)
    (case z_abs => k_is)
    (case z_isinstance => k_is)
    (case z_bool => k_is)
    (case z_str => k_is)
    (case z_list => k_is)
    (case z_zip => k_is)
    (case z_tuple => k_is)
    (case z_range => k_is)
    (case z_min => k_is)
    (case z_set => k_is)
    (case z_sorted => k_is)
#print axioms PySem.Challenge.cw_staletally_k59_equal_boards_holds
