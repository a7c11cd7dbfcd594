import PyProof.Rows.All
import Wide.All
import OpenK.AllK
import Wide.FinOn
import HandS.ForMost
import HandS.Walk
import HandS.Wide
import HandS.Flow
import HandS.Style
import HandS.TupLe
import HandS.Evl
import HandS.IsInst
import HandS.Zip
import HandS.Conv
import HandS.SetFor
import HandS.SetKeys
import HandS.Strs
import HandS.Star
import HandS.MakeKw
import HandS.MakeKwOnly
import HandS.OwnEq
import HandS.TryOnly
import HandS.More
import KE.KExcIs
import HandS.ExcInit
import HandS.ExcField
import HandS.ExcOwn
import HandS.WordsExc
import PySem.Challenge.RW_staletally_k14_reads_refused
set_option Elab.async false
set_option linter.all false
set_option maxRecDepth 100000
set_option maxHeartbeats 4000000
/-! Sa: the state of a walk, told as two lists: facts that last (what stands in the part of the heap that is not written) and cells that are owned (and may be written). -/
namespace Sa
open PySem PySem.Spec PyProof.Rows L2

/-- a fact that a growing heap keeps -/
structure Fc where
  p : Hp → Prop
  mono : ∀ H H', Same H H' → p H → p H'
abbrev Cell := Addr × HO

theorem same_up {H : Hp} {p : Addr} {o : HO} (h : H p = none) : Same H (upd H p o) := fun b x e => by
  rw [upd_ne (ne_of_none e h)]
  exact e
/-- an object that the smaller heap does not have may change in the greater one -/
theorem same_mut {F H : Hp} {p : Addr} {o : HO} (e : Same F H) (h : F p = none) : Same F (upd H p o) := fun b x q => by
  rw [upd_ne (ne_of_none q h)]
  exact e b x q
theorem same_both {F H : Hp} {p : Addr} {o : HO} (e : Same F H) : Same (upd F p o) (upd H p o) := fun b x q => by
  by_cases hb : b = p
  · rw [hb, upd_same] at q ⊢
    exact q
  · rw [upd_ne hb] at q ⊢
    exact e b x q

structure SA (L : List Fc) (M : List Cell) (H : Hp) : Prop where
  fr : ∃ F, Same F H ∧ (∀ f ∈ L, f.p F) ∧ ∀ m ∈ M, F m.1 = none
  ce : ∀ m ∈ M, H m.1 = some m.2
  nd : (M.map (·.1)).Nodup

section
variable {L L' : List Fc} {M M' : List Cell} {H : Hp} {a p : Addr} {o o' : HO} {f g : Fc} {c : Cell}
/-- one cell changed | one taken out -/
inductive Chg : List Cell → Addr → HO → HO → List Cell → Prop
  | hd {M : List Cell} {a : Addr} {o o' : HO} : Chg ((a, o) :: M) a o o' ((a, o') :: M)
  | tl {M M' : List Cell} {a : Addr} {o o' : HO} {c : Cell} : Chg M a o o' M' → Chg (c :: M) a o o' (c :: M')
inductive Del : List Cell → Addr → HO → List Cell → Prop
  | hd {M : List Cell} {a : Addr} {o : HO} : Del ((a, o) :: M) a o M
  | tl {M M' : List Cell} {a : Addr} {o : HO} {c : Cell} : Del M a o M' → Del (c :: M) a o (c :: M')
theorem Chg.mem (h : Chg M a o o' M') : (a, o) ∈ M := by
  induction h with
  | hd => exact List.mem_cons_self
  | tl _ ih => exact List.mem_cons_of_mem _ ih
theorem Chg.keys (h : Chg M a o o' M') : M'.map (·.1) = M.map (·.1) := by
  induction h with
  | hd => rfl
  | tl _ ih => simp only [List.map_cons, ih]
theorem Chg.cell (h : Chg M a o o' M') (nd : (M.map (·.1)).Nodup) : ∀ m ∈ M', m = (a, o') ∨ (m ∈ M ∧ m.1 ≠ a) := by
  induction h with
  | hd =>
    intro m hm
    rcases List.mem_cons.mp hm with h | h
    · exact .inl h
    · refine .inr ⟨List.mem_cons_of_mem _ h, fun e => ?_⟩
      have hn := (List.nodup_cons.mp nd).1
      exact hn (List.mem_map.mpr ⟨m, h, e⟩)
  | tl h' ih =>
    intro m hm
    have hn := List.nodup_cons.mp nd
    rcases List.mem_cons.mp hm with h | h
    · subst h
      refine .inr ⟨List.mem_cons_self, fun e => ?_⟩
      exact hn.1 (List.mem_map.mpr ⟨_, h'.mem, e.symm⟩)
    · rcases ih hn.2 m h with z | z
      · exact .inl z
      · exact .inr ⟨List.mem_cons_of_mem _ z.1, z.2⟩
theorem Del.perm (h : Del M a o M') : M.Perm ((a, o) :: M') := by
  induction h with
  | hd => exact List.Perm.refl _
  | tl _ ih => exact (List.Perm.cons _ ih).trans (List.Perm.swap _ _ _)

theorem SA.perm (h : SA L M H) (q : M.Perm M') : SA L M' H := by
  obtain ⟨⟨F, h1, h2, h3⟩, h4, h5⟩ := h
  exact ⟨⟨F, h1, h2, fun m hm => h3 m (q.mem_iff.mpr hm)⟩, fun m hm => h4 m (q.mem_iff.mpr hm), (List.Perm.nodup_iff (q.map _)).mp h5⟩
theorem SA.front (h : SA L M H) (d : Del M a o M') : SA L ((a, o) :: M') H := h.perm d.perm
theorem SA.back (h : SA L ((a, o) :: M') H) (d : Del M a o M') : SA L M H := h.perm d.perm.symm
theorem SA.subL (h : SA L M H) (q : ∀ f ∈ L', f ∈ L) : SA L' M H := by
  obtain ⟨⟨F, h1, h2, h3⟩, h4, h5⟩ := h
  exact ⟨⟨F, h1, fun f hf => h2 f (q f hf), h3⟩, h4, h5⟩
theorem SA.drop (h : SA (f :: L) M H) : SA L M H := h.subL fun _ => List.mem_cons_of_mem _
theorem SA.dropM (h : SA L (c :: M) H) : SA L M H := by
  obtain ⟨⟨F, h1, h2, h3⟩, h4, h5⟩ := h
  exact ⟨⟨F, h1, h2, fun m hm => h3 m (List.mem_cons_of_mem _ hm)⟩, fun m hm => h4 m (List.mem_cons_of_mem _ hm), (List.nodup_cons.mp h5).2⟩
/-- a new object, owned -/
theorem SA.newM (h : SA L M H) (hp : H p = none) : SA L ((p, o) :: M) (upd H p o) := by
  obtain ⟨⟨F, h1, h2, h3⟩, h4, h5⟩ := h
  have hF := h1.free hp
  refine ⟨⟨F, h1.trans (same_up hp), h2, fun m hm => ?_⟩, fun m hm => ?_, ?_⟩
  · rcases List.mem_cons.mp hm with rfl | h
    · exact hF
    · exact h3 m h
  · rcases List.mem_cons.mp hm with rfl | h
    · exact upd_same
    · have e := h4 m h
      rw [upd_ne (ne_of_none e hp)]
      exact e
  · refine List.nodup_cons.mpr ⟨fun hm => ?_, h5⟩
    obtain ⟨m, hm, e⟩ := List.mem_map.mp hm
    have q := h4 m hm
    rw [show m.1 = p from e, hp] at q
    cases q
/-- a new object that is never written -/
theorem SA.newF (h : SA L M H) (hp : H p = none) (hf : ∀ F : Hp, F p = some o → (∀ x ∈ L, x.p F) → f.p F) : SA (f :: L) M (upd H p o) := by
  obtain ⟨⟨F, h1, h2, h3⟩, h4, h5⟩ := h
  have hF := h1.free hp
  have s1 : Same F (upd F p o) := same_up hF
  have h2' : ∀ x ∈ L, x.p (upd F p o) := fun x hx => x.mono _ _ s1 (h2 x hx)
  refine ⟨⟨upd F p o, same_both h1, fun x hx => ?_, fun m hm => ?_⟩, fun m hm => ?_, h5⟩
  · rcases List.mem_cons.mp hx with rfl | h
    · exact hf _ upd_same h2'
    · exact h2' x h
  · have e := h4 m hm
    rw [upd_ne (ne_of_none e hp)]
    exact h3 m hm
  · have e := h4 m hm
    rw [upd_ne (ne_of_none e hp)]
    exact e
/-- an owned one is written no more -/
theorem SA.freeze (h : SA L ((p, o) :: M) H) (hf : ∀ F : Hp, F p = some o → (∀ x ∈ L, x.p F) → f.p F) : SA (f :: L) M H := by
  obtain ⟨⟨F, h1, h2, h3⟩, h4, h5⟩ := h
  have hF : F p = none := h3 (p, o) List.mem_cons_self
  have hH : H p = some o := h4 (p, o) List.mem_cons_self
  have s1 : Same F (upd F p o) := same_up hF
  have h2' : ∀ x ∈ L, x.p (upd F p o) := fun x hx => x.mono _ _ s1 (h2 x hx)
  refine ⟨⟨upd F p o, fun b x q => ?_, fun x hx => ?_, fun m hm => ?_⟩, fun m hm => h4 m (List.mem_cons_of_mem _ hm), (List.nodup_cons.mp h5).2⟩
  · by_cases hb : b = p
    · rw [hb, upd_same] at q
      rw [hb, hH]
      exact q
    · rw [upd_ne hb] at q
      exact h1 b x q
  · rcases List.mem_cons.mp hx with rfl | h
    · exact hf _ upd_same h2'
    · exact h2' x h
  · have hn := (List.nodup_cons.mp h5).1
    have e : m.1 ≠ p := fun e => hn (List.mem_map.mpr ⟨m, hm, e⟩)
    rw [upd_ne e]
    exact h3 m (List.mem_cons_of_mem _ hm)
/-- a fact that follows from those that are there -/
theorem SA.fact (h : SA L M H) (hf : ∀ F : Hp, (∀ x ∈ L, x.p F) → f.p F) : SA (f :: L) M H := by
  obtain ⟨⟨F, h1, h2, h3⟩, h4, h5⟩ := h
  refine ⟨⟨F, h1, fun x hx => ?_, h3⟩, h4, h5⟩
  rcases List.mem_cons.mp hx with rfl | h
  · exact hf _ h2
  · exact h2 x h
/-- an owned one is written -/
theorem SA.set (h : SA L M H) (d : Chg M a o o' M') : SA L M' (upd H a o') := by
  obtain ⟨⟨F, h1, h2, h3⟩, h4, h5⟩ := h
  have hF : F a = none := h3 _ d.mem
  refine ⟨⟨F, same_mut h1 hF, h2, fun m hm => ?_⟩, fun m hm => ?_, by rw [d.keys]; exact h5⟩
  · rcases d.cell h5 m hm with rfl | ⟨h, _⟩
    · exact hF
    · exact h3 m h
  · rcases d.cell h5 m hm with rfl | ⟨h, hn⟩
    · exact upd_same
    · rw [upd_ne hn]
      exact h4 m h
theorem SA.at (h : SA L M H) (d : (a, o) ∈ M) : H a = some o := h.ce _ d

/-- cells taken out of others, in an order of one's own -/
inductive Pick : List Cell → List Cell → Prop
  | done {M : List Cell} : Pick M M
  | cons {M1 M1' M2 : List Cell} {a : Addr} {o : HO} : Del M1 a o M1' → Pick M1' M2 → Pick M1 ((a, o) :: M2)
  | skip {M1 M2 : List Cell} {c : Cell} : Pick M1 M2 → Pick (c :: M1) M2
theorem Pick.perm {M1 M2 : List Cell} (h : Pick M1 M2) : ∃ R, M1.Perm (M2 ++ R) := by
  induction h with
  | done => exact ⟨[], by rw [List.append_nil]⟩
  | cons d _ ih =>
    obtain ⟨R, hR⟩ := ih
    exact ⟨R, d.perm.trans (List.Perm.cons _ hR)⟩
  | skip _ ih =>
    obtain ⟨R, hR⟩ := ih
    exact ⟨_ :: R, (List.Perm.cons _ hR).trans List.perm_middle.symm⟩
theorem SA.front_of {M2 R : List Cell} (h : SA L (M2 ++ R) H) : SA L M2 H := by
  obtain ⟨⟨F, h1, h2, h3⟩, h4, h5⟩ := h
  refine ⟨⟨F, h1, h2, fun m hm => h3 m (List.mem_append_left _ hm)⟩, fun m hm => h4 m (List.mem_append_left _ hm), ?_⟩
  rw [List.map_append] at h5
  exact (List.nodup_append.mp h5).1
theorem SA.pick {M1 M2 : List Cell} (h : SA L M1 H) (p : Pick M1 M2) : SA L M2 H := by
  obtain ⟨R, hR⟩ := p.perm
  exact (h.perm hR).front_of
/-- what the state says -/
def At (L : List Fc) (M : List Cell) (f : Fc) : Prop := ∀ H, SA L M H → f.p H
theorem SA.ask (h : SA L M H) (q : At L M f) : f.p H := q H h
theorem At.mem (h : f ∈ L) : At L M f := fun H s => by
  obtain ⟨⟨F, h1, h2, h3⟩, h4, h5⟩ := s
  exact f.mono _ _ h1 (h2 f h)
theorem At.hd : At (f :: L) M f := At.mem List.mem_cons_self
theorem At.tl (h : At L M f) : At (g :: L) M f := fun H s => h H s.drop
theorem At.tm (h : At L M f) : At L (c :: M) f := fun H s => h H s.dropM
end

/-! ### the facts -/
variable {K : PySem.W.Frag}
theorem rd_same {H H' : Hp} {a : Addr} {u : HO} (e : Same H H') (h : Rd H a u) : Rd H' a u := by
  rcases h with h | ⟨o, h⟩
  · exact Or.inl (e a _ h)
  · exact Or.inr ⟨o, e a _ h⟩
theorem sqT_same {H H' : Hp} {a : Addr} {xs : List V} (e : Same H H') (h : SqT K H a xs) : SqT K H' a xs := by
  rcases h with h | h
  · exact Or.inl (rd_same e h)
  · exact Or.inr h
mutual
theorem dp_same {H H' : Hp} (e : Same H H') : ∀ (d : PyData) (v : V), Dp K H v d → Dp K H' v d
  | .none, _, h => by cases h; exact .non
  | .bool b, _, h => by cases h; exact .bl b
  | .int i, _, h => by cases h; exact .int i
  | .str x, _, h => by cases h; exact .str x
  | .list ds, _, h => by
    cases h with
    | lst h1 h2 => exact .lst (e.seq h1) (dpa_same e ds _ h2)
  | .tuple ds, _, h => by
    cases h with
    | tup h1 h2 => exact .tup (sqT_same e h1) (dpa_same e ds _ h2)
  | .dict _, _, h => by cases h
theorem dpa_same {H H' : Hp} (e : Same H H') : ∀ (ds : List PyData) (vs : List V), DpAll K H vs ds → DpAll K H' vs ds
  | [], _, h => by cases h; exact .nil
  | d :: ds, _, h => by
    cases h with
    | cons h1 h2 => exact .cons (dp_same e d _ h1) (dpa_same e ds _ h2)
end
/-- a list | a tuple | a dict stands there -/
def fQ (K : PySem.W.Frag) (a : Addr) (xs : List V) : Fc := ⟨fun H => SqL K H a xs, fun _ _ e h => e.seq h⟩
def fL (a : Addr) (xs : List V) : Fc := ⟨fun H => H a = some (.lst xs), fun _ _ e h => e a _ h⟩
def fT (K : PySem.W.Frag) (a : Addr) (xs : List V) : Fc := ⟨fun H => SqT K H a xs, fun _ _ e h => sqT_same e h⟩
def fK (a : Addr) (kvs : List (Key × V)) : Fc := ⟨fun H => H a = some (.dK kvs), fun _ _ e h => e a _ h⟩
/-- a value tells a datum -/
def fD (K : PySem.W.Frag) (v : V) (d : PyData) : Fc := ⟨fun H => Dp K H v d, fun _ _ e h => dp_same e d v h⟩
def fDs (K : PySem.W.Frag) (vs : List V) (ds : List PyData) : Fc := ⟨fun H => DpAll K H vs ds, fun _ _ e h => dpa_same e ds vs h⟩
/-- a heap that stood ahead stands -/
def fS (H0 : Hp) : Fc := ⟨fun H => Same H0 H, fun _ _ e h => h.trans e⟩

section
variable {L L' : List Fc} {M M' : List Cell} {H : Hp} {a p : Addr} {o o' : HO} {f g : Fc} {c : Cell} {xs ys : List V} {v : V} {d : PyData} {ds : List PyData} {kvs : List (Key × V)}
theorem At.cellL (h : (a, HO.lst xs) ∈ M) : At L M (fL a xs) := fun H s => s.at h
theorem At.q (h : At L M (fL a xs)) : At L M (fQ K a xs) := fun H s => SqL.of (h H s)
theorem At.cellT (h : (a, HO.tup xs) ∈ M) : At L M (fT K a xs) := fun H s => SqT.of (s.at h)
theorem At.cellK (h : (a, HO.dK kvs) ∈ M) : At L M (fK a kvs) := fun H s => s.at h
theorem At.int {i : Int} : At L M (fD K (.int i) (.int i)) := fun _ _ => .int i
theorem At.bl {b : Bool} : At L M (fD K (.bl b) (.bool b)) := fun _ _ => .bl b
theorem At.non : At L M (fD K .non .none) := fun _ _ => .non
theorem At.str {x : Str} : At L M (fD K (.str x) (.str x)) := fun _ _ => .str x
theorem At.lst (h : At L M (fQ K a xs)) (h2 : At L M (fDs K xs ds)) : At L M (fD K (.ref a) (.list ds)) := fun H s => .lst (h H s) (h2 H s)
theorem At.tup (h : At L M (fT K a xs)) (h2 : At L M (fDs K xs ds)) : At L M (fD K (.ref a) (.tuple ds)) := fun H s => .tup (h H s) (h2 H s)
theorem At.nil : At L M (fDs K [] []) := fun _ _ => .nil
theorem At.cons (h : At L M (fD K v d)) (h2 : At L M (fDs K xs ds)) : At L M (fDs K (v :: xs) (d :: ds)) := fun H s => .cons (h H s) (h2 H s)
theorem dpa_ints (H : Hp) : ∀ ns : List Int, DpAll K H (ns.map V.int) (ns.map PyData.int)
  | [] => .nil
  | n :: ns => .cons (.int n) (dpa_ints H ns)
theorem At.ints {ns : List Int} : At L M (fDs K (ns.map V.int) (ns.map PyData.int)) := fun H _ => dpa_ints H ns

theorem SA.self (H : Hp) : SA [fS H] [] H := by
  refine ⟨⟨H, Same.refl H, fun f hf => ?_, fun _ hm => (by cases hm)⟩, fun _ hm => (by cases hm), List.nodup_nil⟩
  rcases List.mem_cons.mp hf with rfl | hf
  · exact Same.refl H
  · cases hf
theorem SA.ext {H' : Hp} (h : SA L M H) (e : Same H H') : SA L M H' := by
  obtain ⟨⟨F, h1, h2, h3⟩, h4, h5⟩ := h
  exact ⟨⟨F, h1.trans e, h2, h3⟩, fun m hm => e _ _ (h4 m hm), h5⟩
theorem SA.same {H0 : Hp} (h : SA (fS H0 :: L) M H) : Same H0 H := At.hd (f := fS H0) H h
theorem At.ofS {H0 : Hp} (h : f.p H0) : At (fS H0 :: L) M f := fun _ hs => f.mono _ _ hs.same h
/-- a new object of a walk that began at H, told to whom it belongs -/
theorem SA.ext1 {H' : Hp} {L1 : List Fc} (h : SA L M H) (e : SA (fS H :: L1) [(p, o)] H') : SA L ((p, o) :: M) H' := by
  have e1 := e.same
  obtain ⟨⟨F1, g1, g2, g3⟩, g4, g5⟩ := e
  have hp : H p = none := (show Same H F1 from g2 (fS H) List.mem_cons_self).free (g3 (p, o) List.mem_cons_self)
  obtain ⟨⟨F, h1, h2, h3⟩, h4, h5⟩ := h
  refine ⟨⟨F, h1.trans e1, h2, fun m hm => ?_⟩, fun m hm => ?_, ?_⟩
  · rcases List.mem_cons.mp hm with rfl | hm
    · exact h1.free hp
    · exact h3 m hm
  · rcases List.mem_cons.mp hm with rfl | hm
    · exact g4 _ List.mem_cons_self
    · exact e1 _ _ (h4 m hm)
  · refine List.nodup_cons.mpr ⟨fun hm => ?_, h5⟩
    obtain ⟨m, hm, e⟩ := List.mem_map.mp hm
    have q := h4 m hm
    rw [show m.1 = p from e, hp] at q
    cases q
theorem SA.fzL (h : SA L ((p, .lst xs) :: M) H) : SA (fL p xs :: L) M H := h.freeze fun _ e _ => e
theorem SA.newL (h : SA L M H) (hp : H p = none) : SA (fL p xs :: L) M (upd H p (.lst xs)) := h.newF hp fun _ e _ => e
theorem SA.newT (h : SA L M H) (hp : H p = none) : SA (fT K p xs :: L) M (upd H p (.tup xs)) := h.newF hp fun _ e _ => SqT.of e
end

/-! ### steps: a reading from the left -/
section
variable {L L' : List Fc} {M M' : List Cell} {H : Hp} {σ : L2.St} {Q : VK} {a p : Addr} {o o' : HO} {f g : Fc} {c : Cell} {xs ys : List V} {v x y z : V} {D : Ends} {ta tb te : TE} {t u : TT} {ts tu : TS} {tr : TA} {r : R2}
theorem st_var {i : Nat} (h : σ[i]? = some (some v)) (q : Q v H) : tVar i σ H Q := ⟨v, h, q⟩
theorem st_c (q : Q v H) : tC v σ H Q := q
theorem st_op (h : ta σ H fun x H1 => tb σ H1 fun y H2 => r x y H2 Q) : tOp r ta tb σ H Q := h
theorem st_un {r : V → Hp → VK → Prop} (h : ta σ H fun x H1 => r x H1 Q) : tUn r ta σ H Q := h
theorem st_I0 {g : Int → Int → V} {i j : Int} (q : Q (g i j) H) : rI0 g (.int i) (.int j) H Q := ⟨i, j, rfl, rfl, q⟩
theorem st_I {C : Int → Int → Prop} {g : Int → Int → V} {i j : Int} (hc : C i j) (q : Q (g i j) H) : rI C g (.int i) (.int j) H Q := ⟨i, j, rfl, rfl, hc, q⟩
theorem st_U {g : Int → V} {i : Int} (q : Q (g i) H) : rU g (.int i) H Q := ⟨i, rfl, q⟩
theorem st_eq (hs : scal x y = true) (q : Q (.bl (decide (x = y))) H) : rEq x y H Q := ⟨hs, q⟩
theorem st_ne (hs : scal x y = true) (q : Q (.bl (!decide (x = y))) H) : rNe x y H Q := ⟨hs, q⟩
theorem st_eqI {i j : Int} (q : Q (.bl (decide (i = j))) H) : rEq (.int i) (.int j) H Q := by
  refine ⟨rfl, ?_⟩
  have e : (V.int i = V.int j) = (i = j) := by simp
  simp only [e]
  exact q
theorem st_neI {i j : Int} (q : Q (.bl (!decide (i = j))) H) : rNe (.int i) (.int j) H Q := by
  refine ⟨rfl, ?_⟩
  have e : (V.int i = V.int j) = (i = j) := by simp
  simp only [e]
  exact q
theorem st_tnil {Q : List V → Hp → Prop} (q : Q [] H) : tNil σ H Q := q
theorem st_tcons {Q : List V → Hp → Prop} (q : ta σ H fun x H1 => tr σ H1 fun xs H2 => Q (x :: xs) H2) : tCons ta tr σ H Q := q
theorem st_test {Q : Bool → Hp → Prop} (q : te σ H fun x H' => ∃ k, x = .bl k ∧ Q k H') : tTest te σ H Q := q
theorem st_tB {Q : Bool → Hp → Prop} (q : te σ H fun x H' => ∃ k, x = .bl k ∧ Q k H') : tB te σ H Q := q
theorem st_isbl {Q : Bool → Hp → Prop} {k : Bool} (q : Q k H) : ∃ k', V.bl k = .bl k' ∧ Q k' H := ⟨k, rfl, q⟩
theorem st_if (q : t σ H fun c H1 => if c = true then ta σ H1 Q else tb σ H1 Q) : tIf t ta tb σ H Q := q
theorem st_and {Q : Bool → Hp → Prop} (q : t σ H fun c H1 => if c = true then u σ H1 Q else Q false H1) : tAnd t u σ H Q := q
theorem st_or {Q : Bool → Hp → Prop} (q : t σ H fun c H1 => if c = true then Q true H1 else u σ H1 Q) : tOr t u σ H Q := q
theorem st_not {Q : Bool → Hp → Prop} (q : t σ H fun c H1 => Q (!c) H1) : tNot t σ H Q := q
theorem st_andV (q : ta σ H fun x H1 => ∃ c, x = .bl c ∧ if c = true then tb σ H1 Q else Q (.bl false) H1) : tAndV ta tb σ H Q := q
theorem st_orV (q : ta σ H fun x H1 => ∃ c, x = .bl c ∧ if c = true then Q (.bl true) H1 else tb σ H1 Q) : tOrV ta tb σ H Q := q
theorem st_notV (q : ta σ H fun x H1 => ∃ c, x = .bl c ∧ Q (.bl (!c)) H1) : tNotV ta σ H Q := q
theorem st_blE {k : Bool} {P : Bool → Prop} (q : P k) : ∃ c, V.bl k = .bl c ∧ P c := ⟨k, rfl, q⟩
theorem st_seq (q : ts { D with nx := tu D } σ H) : tSeq ts tu D σ H := q
theorem st_cut {Mid : L2.St → Hp → Prop} (h : ts { D with nx := Mid } σ H) (q : ∀ σ' H', Mid σ' H' → tu D σ' H') : Evl.tCut ts tu D σ H := ⟨Mid, h, q⟩
theorem st_asg {g : TG} (q : te σ H fun x H1 => g x σ H1 D.nx) : tAsg te g D σ H := q
theorem st_name {i : Nat} {N : L2.St → Hp → Prop} (q : N (σ.set i (some v)) H) : gName i v σ H N := q
theorem st_ifS {tc : TT} (q : tc σ H fun b H1 => if b = true then ts D σ H1 else tu D σ H1) : tIfS tc ts tu D σ H := q
theorem st_ret (q : te σ H D.rt) : tRet te D σ H := q
theorem st_retN (q : D.rt .non H) : tRetN D σ H := q
theorem st_drop (q : te σ H fun _ H1 => D.nx σ H1) : tDrop te D σ H := q
theorem st_next (q : D.nx σ H) : tNext D σ H := q
theorem st_aug {i : Nat} {ti : TIp} (h : σ[i]? = some (some x)) (q : te σ H fun y H1 => ti x y H1 fun z H2 => D.nx (σ.set i (some z)) H2) : tAug i te ti D σ H := ⟨x, h, q⟩
theorem st_ip {F : Int → Int → Int} {i j : Int} (q : Q (.int (F i j)) H) : ipI F (.int i) (.int j) H Q := ⟨i, j, rfl, rfl, q⟩
theorem st_cb {rr : List V → Hp → VK → Prop} (q : tr σ H fun vs H1 => rr vs H1 Q) : tCB rr tr σ H Q := q
theorem st_call {sp : Sp} {dvs : List V} {E : XK} (q : tr σ H fun vs H1 => sp (vs ++ dvs) H1 Q E) : tCall sp dvs E tr σ H Q := q
theorem st_isN (q : te σ H fun x H1 => Q (.bl (decide (x = .non))) H1) : tIsN te σ H Q := q
theorem st_notN (q : te σ H fun x H1 => Q (.bl (!decide (x = .non))) H1) : tNotN te σ H Q := q
/-- ways -/
theorem if_dec {P : Prop} [Decidable P] {A B : Prop} (h1 : P → A) (h2 : ¬ P → B) : if decide P = true then A else B := by
  by_cases h : P
  · rw [if_pos (decide_eq_true h)]
    exact h1 h
  · rw [if_neg (by rw [decide_eq_false h]; decide)]
    exact h2 h
theorem if_not {b : Bool} {A B : Prop} (h : if b = true then B else A) : if (!b) = true then A else B := by
  cases b with
  | true => exact h
  | false => exact h
theorem if_t {A B : Prop} (h : A) : if true = true then A else B := h
theorem if_f {A B : Prop} (h : B) : if false = true then A else B := h
theorem if_bool {b : Bool} {A B : Prop} (h1 : b = true → A) (h2 : b = false → B) : if b = true then A else B := by
  cases b with
  | true => exact h1 rfl
  | false => exact h2 rfl

/-- reads -/
theorem st_ixL {i : Int} (hS : SA L M H) (h : At L M (fQ K p xs)) (e : atI xs i = some v) (q : Q v H) : rIxL K (.ref p) (.int i) H Q := ⟨p, xs, i, v, rfl, rfl, h H hS, e, q⟩
theorem st_ixT {i : Int} (hS : SA L M H) (h : At L M (fT K p xs)) (e : atI xs i = some v) (q : Q v H) : rIxT K (.ref p) (.int i) H Q := ⟨p, xs, i, v, rfl, rfl, h H hS, e, q⟩
theorem st_len (hS : SA L M H) (h : At L M (fQ K p xs)) (q : Q (.int (xs.length : Int)) H) : (∃ p' xs', [V.ref p] = [.ref p'] ∧ (SqL K H p' xs' ∨ SqT K H p' xs') ∧ Q (.int xs'.length) H) := ⟨p, xs, rfl, .inl (h H hS), q⟩
/-- new things -/
theorem st_new (hS : SA L M H) (q : ∀ p H', SA L ((p, o) :: M) H' → Q (.ref p) H') : ∀ p, H p = none → Q (.ref p) (upd H p o) := fun p hp => q p _ (hS.newM hp)
def NewL (xs : List V) (H : Hp) (Q : VK) : Prop := xs.length ≤ sizeLine ∧ ∀ p, H p = none → Q (.ref p) (upd H p (.lst xs))
def NewT (xs : List V) (H : Hp) (Q : VK) : Prop := xs.length ≤ sizeLine ∧ ∀ p, H p = none → Q (.ref p) (upd H p (.tup xs))
theorem st_lst (q : tr σ H fun xs H1 => NewL xs H1 Q) : tLst tr σ H Q := q
theorem st_tup (q : tr σ H fun xs H1 => NewT xs H1 Q) : tTup tr σ H Q := q
theorem st_newL (hS : SA L M H) (hl : xs.length ≤ 100000) (q : ∀ p H', SA L ((p, .lst xs) :: M) H' → Q (.ref p) H') : NewL xs H Q :=
  ⟨Nat.le_trans hl (by decide), fun p hp => q p _ (hS.newM hp)⟩
theorem st_newT (hS : SA L M H) (hl : xs.length ≤ 100000) (q : ∀ p H', SA (fT K p xs :: L) M H' → Q (.ref p) H') : NewT xs H Q :=
  ⟨Nat.le_trans hl (by decide), fun p hp => q p _ (hS.newT hp)⟩
/-- writes -/
theorem st_setL {j : Nat} {k : Int} {N : Hp → Prop} (hS : SA L M H) (d : Chg M p (.lst xs) (.lst (xs.set j v)) M') (hj : ixN xs.length k = some j) (q : ∀ H', SA L M' H' → N H') : rSetL (.ref p) (.int k) v H N :=
  ⟨p, xs, k, j, rfl, rfl, hS.at d.mem, hj, q _ (hS.set d)⟩
theorem st_app (hS : SA L M H) (d : Chg M p (.lst xs) (.lst (xs ++ [v])) M') (hz : xs.length < 100000) (q : ∀ H', SA L M' H' → Q .non H') : rAppend (.ref p) [v] H Q :=
  ⟨p, xs, v, rfl, rfl, hS.at d.mem, Nat.lt_of_lt_of_le hz (by decide), q _ (hS.set d)⟩
end
end Sa

namespace Sa
open PySem PySem.Spec PyProof.Rows L2
/-! ### rules of one's own -/
/-- ** of a number of at most sixty figures by a small one -/
def CPowW (i j : Int) : Prop := 0 ≤ j ∧ j ≤ 1000 ∧ -1000000000000000000000000000000000000000000000000000000000000 < i ∧ i < 1000000000000000000000000000000000000000000000000000000000000
theorem op_powW {X : Cx} : OpR X (binaryOp .Pow) (rI CPowW fun i j => .int (i ^ j.toNat)) := opI fun i j _ _ _ _ _ hc q => by
  have h0 : i.natAbs < 2 ^ 250 := by
    have e : (1000000000000000000000000000000000000000000000000000000000000 : Nat) < 2 ^ 250 := by decide +kernel
    have h := hc.2.2
    omega
  have h1 : Builtin.Int.intBits i ≤ 1000 := by
    have h := PySem.Flt.log2_lt_of (by decide) h0
    unfold Builtin.Int.intBits
    split <;> omega
  have h2 : (Builtin.Int.intBits i : Int) * j ≤ 2 ^ 27 := by
    have a : (Builtin.Int.intBits i : Int) * j ≤ 1000 * j := Int.mul_le_mul_of_nonneg_right (by omega) hc.1
    have b := hc.2.1
    omega
  exact pow_int hc.1 h2 q
def CMulX (i j : Int) : Prop := (-18446744073709551616 < i ∧ i < 18446744073709551616) ∨ (-18446744073709551616 < j ∧ j < 18446744073709551616) ∨ CMulW i j
theorem op_mulX {X : Cx} : OpR X (binaryOp .Mult) (rI CMulX fun i j => .int (i * j)) := opI fun i j _ _ _ _ _ hc q => by
  rcases hc with h | h | h
  · exact mul_int q (CMul.ok (.inl h))
  · exact mul_int q (CMul.ok (.inr h))
  · exact mul_int q h.ok
def CDivX (i j : Int) : Prop := 0 < j ∧ j < 1000000000000000000000000000000000000000000000000000000000000
theorem op_fdivX {X : Cx} : OpR X (binaryOp .FloorDiv) (rI CDivX fun i j => .int (i / j)) := opI fun i j _ _ _ _ _ hc q => by
  have h1 : (0 : Int) < j := hc.1
  have h0 : j.natAbs < 2 ^ 250 := by
    have e : (1000000000000000000000000000000000000000000000000000000000000 : Nat) < 2 ^ 250 := by decide +kernel
    have h := hc.2
    omega
  exact floordiv_int (by omega) (by rw [Int.fdiv_eq_ediv_of_nonneg i (by omega)]; exact q) (.inl (PyProof.noPylong_of_log2 (Nat.lt_trans (PySem.Flt.log2_lt_of (by decide) h0) (by decide))))
def CModX (i j : Int) : Prop := 0 < j
theorem op_modX {X : Cx} : OpR X (binaryOp .Mod) (rI CModX fun i j => .int (i % j)) := opI fun i j _ _ _ _ _ hc q => by
  have h1 : (0 : Int) < j := hc
  exact mod_int (by omega) (by rw [Int.fmod_eq_emod_of_nonneg i (by omega)]; exact q)
section
variable {X : Cx} {CX : CXT} {k : Nat} {f : Addr} {fd : FuncData} {ps : List Str} {sp : Sp} {E : XK} {x : Str} {p pos : Pos} {t tk : TA} {g : List Value → List Value → List Value} {gV : List V → List V → List V} {ks : List Str} {kws : List Keyword}
/-- f(k = v, ..) -/
theorem pe_callK0 (F : FnOk X.prog X.w X.K X.mg X.base CX k f fd ps sp) (hr : Room k X.A) (hg : Gl X x) (hm : X.mg x = some (.ref f)) (hk : PySem.W.keepIn X.K (.ref f) = true) (hb : KBinds X.K fd ps ks g gV) (hx : Passes CX X E)
    (hkw : PK X kws tk) (hall : (backToKw pos (keywordEach kws X.env)).all (·.1.isSome) = true := by rfl) (hks : (backToKw pos (keywordEach kws X.env)).filterMap (·.1) = ks := by rfl)
    (hdb : (x == ("__debug__" : Str)) = false := by decide) (hpl : ((backTo pos (starEach [] X.env)).any (·.1) || (backToKw pos (keywordEach kws X.env)).any (·.1.isNone)) = false := by rfl) :
    PE X (.Call (.Name x p) [] kws pos) (tCallK sp gV E tNil tk) := by
  refine ⟨fun pins s σ H Q I h => ?_⟩
  refine wpAny_Call_Name_kw (ld_glob I hg hm ?_ hdb)
  refine PySem.W.callWith_KW0 (h₀ := X.base) I.ok.mod.kin hk hall (thn (hkw.run pos pins s σ H _ I h) fun ws s2 ⟨zs, H2, I2, rz, q2⟩ => ⟨I2.kIn, ?_⟩) hpl
  rw [hks]
  exact run_fnk F hr hb hx I2 .nil rz q2
end
/-! ### built-ins by name -/
def rAbs : List V → Hp → VK → Prop := fun xs H Q => ∃ i, xs = [.int i] ∧ Q (.int (if i < 0 then -i else i)) H
def rMax2 : List V → Hp → VK → Prop := fun xs H Q => ∃ i j, xs = [.int i, .int j] ∧ Q (.int (if j > i then j else i)) H
def rMin2 : List V → Hp → VK → Prop := fun xs H Q => ∃ i j, xs = [.int i, .int j] ∧ Q (.int (if j < i then j else i)) H
def rInt1 : List V → Hp → VK → Prop := fun xs H Q => (∃ i, xs = [.int i] ∧ Q (.int i) H) ∨ ∃ k, xs = [.bl k] ∧ Q (.int (if k then 1 else 0)) H
def rLen (K : PySem.W.Frag) : List V → Hp → VK → Prop := fun xs H Q => ∃ x n, xs = [x] ∧ LenV K x H n ∧ Q (.int n) H
def rListOf (K : PySem.W.Frag) : List V → Hp → VK → Prop := fun xs H Q => ∃ p ys, xs = [.ref p] ∧ (SqL K H p ys ∨ SqT K H p ys) ∧ ∀ l, H l = none → Q (.ref l) (upd H l (.lst ys))
def rIsN : R2 := fun x y H Q => y = .non ∧ Q (.bl (decide (x = .non))) H
def rNotN : R2 := fun x y H Q => y = .non ∧ Q (.bl (!decide (x = .non))) H
def rIsBl : R2 := fun x y H Q => ∃ a b, x = .bl a ∧ y = .bl b ∧ Q (.bl (decide (a = b))) H
theorem call_abs {X : Cx} : CallR X (.builtin "abs") rAbs := L2.call_abs
theorem call_max2 {X : Cx} (hc : X.calm = true) : CallR X (.builtin "max") rMax2 := L2.call_max2 hc
theorem call_min2 {X : Cx} (hc : X.calm = true) : CallR X (.builtin "min") rMin2 := L2.call_min2 hc
theorem call_int1 {X : Cx} : CallR X (.type "int") rInt1 := L2.call_int1
theorem call_len {X : Cx} : CallR X (.builtin "len") (rLen X.K) := L2.call_len
theorem call_list_of {X : Cx} : CallR X (.type "list") (rListOf X.K) := L2.call_list_of
theorem op_isN {X : Cx} : OpR X (compareOp .Is) rIsN := L2.op_isN
theorem op_notN {X : Cx} : OpR X (compareOp .IsNot) rNotN := L2.op_notN
theorem op_is_bl {X : Cx} : OpR X (compareOp .Is) rIsBl := L2.op_is_bl

variable {K : PySem.W.Frag}
section
variable {L L' : List Fc} {M M' : List Cell} {H : Hp} {σ : L2.St} {Q : VK} {a p : Addr} {o o' : HO} {f g : Fc} {c : Cell} {xs ys : List V} {v x y z : V} {D : Ends} {ta tb tc te : TE} {t u : TT} {ts tu : TS} {tr tk : TA} {r r' : R2}
theorem st_pow {g : Int → Int → V} {i j : Int} (h0 : 0 ≤ j) (h1 : j ≤ 1000) (h2 : -1000000000000000000000000000000000000000000000000000000000000 < i) (h3 : i < 1000000000000000000000000000000000000000000000000000000000000) (q : Q (g i j) H) : rI CPowW g (.int i) (.int j) H Q := st_I ⟨h0, h1, h2, h3⟩ q
theorem st_mul1 {g : Int → Int → V} {i j : Int} (h0 : -18446744073709551616 < i) (h1 : i < 18446744073709551616) (q : Q (g i j) H) : rI CMulX g (.int i) (.int j) H Q := st_I (.inl ⟨h0, h1⟩) q
theorem st_mul2 {g : Int → Int → V} {i j : Int} (h0 : -18446744073709551616 < j) (h1 : j < 18446744073709551616) (q : Q (g i j) H) : rI CMulX g (.int i) (.int j) H Q := st_I (.inr (.inl ⟨h0, h1⟩)) q
theorem st_div {g : Int → Int → V} {i j : Int} (h0 : 0 < j) (h1 : j < 1000000000000000000000000000000000000000000000000000000000000) (q : Q (g i j) H) : rI CDivX g (.int i) (.int j) H Q := st_I ⟨h0, h1⟩ q
theorem st_mod {g : Int → Int → V} {i j : Int} (h0 : 0 < j) (q : Q (g i j) H) : rI CModX g (.int i) (.int j) H Q := st_I h0 q
/-- a rest is handed on as a letter -/
theorem st_modL {i j : Int} (h0 : 0 < j) (q : ∀ r : Int, 0 ≤ r → r < j → Q (.int r) H) : rI CModX (fun i j => .int (i % j)) (.int i) (.int j) H Q := st_I h0 (q _ (Int.emod_nonneg _ (by omega)) (Int.emod_lt_of_pos _ h0))
theorem st_abs {i : Int} (q : Q (.int (if i < 0 then -i else i)) H) : rAbs [.int i] H Q := ⟨i, rfl, q⟩
theorem max_is {i j : Int} : (if j > i then j else i) = max i j := by
  rw [Int.max_def]
  split <;> split <;> omega
theorem min_is {i j : Int} : (if j < i then j else i) = min i j := by
  rw [Int.min_def]
  split <;> split <;> omega
theorem st_max2 {i j : Int} (q : Q (.int (max i j)) H) : rMax2 [.int i, .int j] H Q := ⟨i, j, rfl, by rw [max_is]; exact q⟩
theorem st_min2 {i j : Int} (q : Q (.int (min i j)) H) : rMin2 [.int i, .int j] H Q := ⟨i, j, rfl, by rw [min_is]; exact q⟩
theorem st_int1 {i : Int} (q : Q (.int i) H) : rInt1 [.int i] H Q := .inl ⟨i, rfl, q⟩
theorem st_int1b {k : Bool} (q : Q (.int (if k then 1 else 0)) H) : rInt1 [.bl k] H Q := .inr ⟨k, rfl, q⟩
theorem st_lenL (hS : SA L M H) (h : At L M (fQ K p xs)) (q : Q (.int (xs.length : Int)) H) : rLen K [.ref p] H Q := ⟨_, _, rfl, .inl ⟨xs, h H hS, rfl⟩, q⟩
theorem st_lenT (hS : SA L M H) (h : At L M (fT K p xs)) (q : Q (.int (xs.length : Int)) H) : rLen K [.ref p] H Q := ⟨_, _, rfl, .inr ⟨xs, h H hS, rfl⟩, q⟩
theorem st_listOf (hS : SA L M H) (h : At L M (fQ K p xs)) (q : ∀ l H', SA L ((l, .lst xs) :: M) H' → Q (.ref l) H') : rListOf K [.ref p] H Q :=
  ⟨p, xs, rfl, .inl (h H hS), fun l hl => q l _ (hS.newM hl)⟩
theorem st_rIsN (q : Q (.bl (decide (x = .non))) H) : rIsN x .non H Q := ⟨rfl, q⟩
theorem st_rNotN (q : Q (.bl (!decide (x = .non))) H) : rNotN x .non H Q := ⟨rfl, q⟩
theorem st_rIsBl {a b : Bool} (q : Q (.bl (decide (a = b))) H) : rIsBl (.bl a) (.bl b) H Q := ⟨a, b, rfl, rfl, q⟩
theorem st_chain (q : ta σ H fun x H1 => tb σ H1 fun y H2 => r x y H2 fun z H3 => ∃ k, z = .bl k ∧ (if k = true then tc σ H3 fun w' H4 => r' y w' H4 Q else Q (.bl false) H3)) : tChain r r' ta tb tc σ H Q := q
theorem st_par {i j : Nat} (q : tr σ H fun vs H1 => ∃ v w, vs = [v, w] ∧ D.nx ((σ.set i (some v)).set j (some w)) H1) : tPar i j tr D σ H := q
theorem st_par2 {i j : Nat} (q : D.nx ((σ.set i (some x)).set j (some y)) H) : ∃ v w, [x, y] = [v, w] ∧ D.nx ((σ.set i (some v)).set j (some w)) H := ⟨x, y, rfl, q⟩
theorem st_par3 {i j l : Nat} (q : tr σ H fun vs H1 => ∃ u v w, vs = [u, v, w] ∧ D.nx (((σ.set i (some u)).set j (some v)).set l (some w)) H1) : tPar3 i j l tr D σ H := q
theorem st_par33 {i j l : Nat} (q : D.nx (((σ.set i (some x)).set j (some y)).set l (some z)) H) : ∃ u v w, [x, y, z] = [u, v, w] ∧ D.nx (((σ.set i (some u)).set j (some v)).set l (some w)) H := ⟨x, y, z, rfl, q⟩
theorem st_callK {sp : Sp} {gV : List V → List V → List V} {E : XK} (q : tr σ H fun vs H1 => tk σ H1 fun zs H2 => sp (gV vs zs) H2 Q E) : tCallK sp gV E tr tk σ H Q := q
theorem st_bm {T : String} {rr : V → List V → Hp → VK → Prop} (q : ta σ H fun x H1 => tyV K T x H1 ∧ tr σ H1 fun xs H2 => rr x xs H2 Q) : tBM K T rr ta tr σ H Q := q
theorem st_tyL {N : Prop} (hS : SA L M H) (h : At L M (fQ K p xs)) (q : N) : tyV K "list" (.ref p) H ∧ N := ⟨.inl ⟨rfl, xs, h H hS⟩, q⟩
theorem st_sub {to ti : TE} {tset : TSet} {N : L2.St → Hp → Prop} (q : to σ H fun o H1 => ti σ H1 fun i H2 => tset o i v H2 fun H3 => N σ H3) : gSub to ti tset v σ H N := q
/-! slices, sums of lists, the greatest of a list -/
theorem st_sl {tl th : TO} {rr : V → Option Int → Option Int → Hp → VK → Prop} (q : te σ H fun x H1 => tl σ H1 fun l H2 => th σ H2 fun u H3 => rr x l u H3 Q) : tSl rr te tl th σ H Q := q
theorem st_noP {Q : Option Int → Hp → Prop} (q : Q none H) : tNoPart σ H Q := q
theorem st_part {Q : Option Int → Hp → Prop} (q : te σ H fun x H1 => ∃ i, x = .int i ∧ Q (some i) H1) : tPart te σ H Q := q
theorem st_slL {lo hi : Option Int} (hS : SA L M H) (h : At L M (fQ K a xs)) (q : ∀ p H', SA L ((p, .lst (cutV xs lo hi)) :: M) H' → Q (.ref p) H') : rSlL K (.ref a) lo hi H Q := ⟨a, xs, rfl, h H hS, fun p hp => q p _ (hS.newM hp)⟩
theorem st_cat {b : Addr} (hS : SA L M H) (h1 : At L M (fL a xs)) (h2 : At L M (fL b ys)) (hl : xs.length + ys.length ≤ 100000) (q : ∀ p H', SA L ((p, .lst (xs ++ ys)) :: M) H' → Q (.ref p) H') : rCat (.ref a) (.ref b) H Q :=
  ⟨a, b, xs, ys, rfl, rfl, h1 H hS, h2 H hS, Nat.le_trans hl (by decide), fun p hp => q p _ (hS.newM hp)⟩
theorem st_max {ns : List Int} (hS : SA L M H) (h : At L M (fQ K a (ns.map V.int))) (h0 : 0 < ns.length) (q : ∀ m, m ∈ ns → (∀ y, y ∈ ns → y ≤ m) → Q (.int m) H) : rMax K [.ref a] H Q := ⟨a, ns, rfl, h H hS, h0, q⟩
theorem st_min {ns : List Int} (hS : SA L M H) (h : At L M (fQ K a (ns.map V.int))) (h0 : 0 < ns.length) (q : ∀ m, m ∈ ns → (∀ y, y ∈ ns → m ≤ y) → Q (.int m) H) : rMin K [.ref a] H Q := ⟨a, ns, rfl, h H hS, h0, q⟩
theorem st_sum {ns : List Int} (hS : SA L M H) (h : At L M (fQ K a (ns.map V.int))) (q : Q (.int ns.sum) H) : rSum K [.ref a] H Q := ⟨a, ns, rfl, h H hS, q⟩
theorem cut_to {ns : List Int} {j : Int} (h : 0 ≤ j) : cutV (ns.map V.int) none (some j) = (ns.take j.toNat).map V.int := by
  obtain ⟨k, rfl⟩ := Int.eq_ofNat_of_zero_le h
  unfold cutV
  rw [HT.sIx_none, HT.sIx_nat, List.drop_zero, List.length_map, Nat.sub_zero, Int.toNat_natCast, List.map_take]
  by_cases hk : k ≤ ns.length
  · rw [Nat.min_eq_left hk]
  · rw [Nat.min_eq_right (by omega), List.take_of_length_le (by rw [List.length_map]; exact Nat.le_refl _), List.take_of_length_le (by rw [List.length_map]; omega)]
theorem cut_from {ns : List Int} {j : Int} (h : 0 ≤ j) : cutV (ns.map V.int) (some j) none = (ns.drop j.toNat).map V.int := by
  obtain ⟨k, rfl⟩ := Int.eq_ofNat_of_zero_le h
  unfold cutV
  rw [HT.sIx_none, HT.sIx_nat, List.length_map, Int.toNat_natCast, List.map_drop]
  by_cases hk : k ≤ ns.length
  · rw [Nat.min_eq_left hk, List.take_of_length_le (by rw [List.length_drop, List.length_map]; exact Nat.le_refl _)]
  · rw [Nat.min_eq_right (by omega), List.drop_of_length_le (by rw [List.length_map]; exact Nat.le_refl _), List.drop_of_length_le (by rw [List.length_map]; omega)]
    simp
/-- lists compared -/
theorem eqv_ints : ∀ ns ms : List Int, PyData.eqvAll (ns.map PyData.int) (ms.map PyData.int) = decide (ns = ms) := by
  intro ns
  induction ns with
  | nil => intro ms; cases ms <;> rfl
  | cons n ns ih =>
    intro ms
    cases ms with
    | nil => rfl
    | cons m ms =>
      show ((n == m) && PyData.eqvAll (ns.map PyData.int) (ms.map PyData.int)) = _
      rw [ih ms]
      by_cases h1 : n = m
      · by_cases h2 : ns = ms
        · simp [h1, h2]
        · simp [h1, h2]
      · simp [h1]
end
end Sa

namespace Sa
open PySem PySem.Spec PyProof.Rows L2
variable {K : PySem.W.Frag}
/-! ### lists of numbers compared -/
theorem canAll_ints : ∀ ns : List Int, PyData.canLayAll0 (ns.map PyData.int) = true
  | [] => rfl
  | n :: ns => by
    show (PyData.canLay0 (.int n) && PyData.canLayAll0 (ns.map PyData.int)) = true
    rw [canAll_ints ns]
    rfl
theorem depthAll_ints : ∀ ns : List Int, PyData.depthAll (ns.map PyData.int) = 0
  | [] => rfl
  | n :: ns => by
    show max (PyData.depth (.int n)) (PyData.depthAll (ns.map PyData.int)) = 0
    rw [depthAll_ints ns]
    rfl
theorem shaped_ints (ns : List Int) : SeqAt.shaped (.list (ns.map PyData.int)) = true := by
  unfold SeqAt.shaped
  rw [show PyData.canLay0 (.list (ns.map PyData.int)) = PyData.canLayAll0 (ns.map PyData.int) from rfl, canAll_ints,
    show PyData.depth (.list (ns.map PyData.int)) = PyData.depthAll (ns.map PyData.int) + 1 from rfl, depthAll_ints]
  rfl
section
variable {L L' : List Fc} {M M' : List Cell} {H : Hp} {σ : L2.St} {Q : VK} {a p b : Addr} {o o' : HO} {f g : Fc} {c : Cell} {xs ys : List V} {v x y z : V} {D : Ends} {ta tb tc te : TE} {t u : TT} {ts tu : TS} {tr tk : TA} {r r' : R2} {ns ms : List Int}
theorem dp_ints (h : SqL K H a (ns.map V.int)) : Dp K H (.ref a) (.list (ns.map PyData.int)) := .lst h (dpa_ints H ns)
theorem st_eqL (hS : SA L M H) (h1 : At L M (fQ K a (ns.map V.int))) (h2 : At L M (fQ K b (ms.map V.int))) (q : Q (.bl (decide (ns = ms))) H) : rEqD K (.ref a) (.ref b) H Q :=
  ⟨_, _, dp_ints (h1 H hS), dp_ints (h2 H hS), shaped_ints ns, shaped_ints ms, by
    rw [show PyData.eqv (.list (ns.map PyData.int)) (.list (ms.map PyData.int)) = PyData.eqvAll (ns.map PyData.int) (ms.map PyData.int) from rfl, eqv_ints]
    exact q⟩
theorem st_neL (hS : SA L M H) (h1 : At L M (fQ K a (ns.map V.int))) (h2 : At L M (fQ K b (ms.map V.int))) (q : Q (.bl (!decide (ns = ms))) H) : rNeD K (.ref a) (.ref b) H Q :=
  ⟨_, _, dp_ints (h1 H hS), dp_ints (h2 H hS), shaped_ints ns, shaped_ints ms, by
    rw [show PyData.eqv (.list (ns.map PyData.int)) (.list (ms.map PyData.int)) = PyData.eqvAll (ns.map PyData.int) (ms.map PyData.int) from rfl, eqv_ints]
    exact q⟩
/-- an empty list written on the spot -/
theorem st_eqL0 (hS : SA L M H) (h1 : At L M (fQ K a (ns.map V.int))) (h2 : At L M (fQ K b [])) (q : Q (.bl (decide (ns = []))) H) : rEqD K (.ref a) (.ref b) H Q := st_eqL (ms := []) hS h1 h2 q
theorem st_neL0 (hS : SA L M H) (h1 : At L M (fQ K a (ns.map V.int))) (h2 : At L M (fQ K b [])) (q : Q (.bl (!decide (ns = []))) H) : rNeD K (.ref a) (.ref b) H Q := st_neL (ms := []) hS h1 h2 q
theorem SA.ign (h : SA L M H) (hp : H p = none) : SA L M (upd H p o) := (h.newM hp).dropM

/-! ### items of a list of numbers -/
theorem atI_ints {i : Int} (h0 : 0 ≤ i) (h1 : i < ns.length) : atI (ns.map V.int) i = some (.int (ns.getD i.toNat 0)) := by
  have hl : i.toNat < ns.length := by omega
  unfold atI ixN
  rw [if_pos h0, if_pos (by rw [List.length_map]; exact h1)]
  show (ns.map V.int)[i.toNat]? = _
  rw [List.getElem?_map, List.getElem?_eq_getElem hl, List.getD_eq_getElem?_getD, List.getElem?_eq_getElem hl]
  rfl
theorem atI_neg {i : Int} (h0 : i < 0) (h1 : -(ns.length : Int) ≤ i) : atI (ns.map V.int) i = some (.int (ns.getD (i + ns.length).toNat 0)) := by
  have hl : (i + ns.length).toNat < ns.length := by omega
  unfold atI ixN
  rw [if_neg (by omega), if_pos (by rw [List.length_map]; exact h1), List.length_map]
  show (ns.map V.int)[(i + ns.length).toNat]? = _
  rw [List.getElem?_map, List.getElem?_eq_getElem hl, List.getD_eq_getElem?_getD, List.getElem?_eq_getElem hl]
  rfl
theorem st_ixI {i : Int} (hS : SA L M H) (h : At L M (fQ K p (ns.map V.int))) (h0 : 0 ≤ i) (h1 : i < ns.length) (q : Q (.int (ns.getD i.toNat 0)) H) : rIxL K (.ref p) (.int i) H Q :=
  st_ixL hS h (atI_ints h0 h1) q
theorem st_ixN {i : Int} (hS : SA L M H) (h : At L M (fQ K p (ns.map V.int))) (h0 : i < 0) (h1 : -(ns.length : Int) ≤ i) (q : Q (.int (ns.getD (i + ns.length).toNat 0)) H) : rIxL K (.ref p) (.int i) H Q :=
  st_ixL hS h (atI_neg h0 h1) q
theorem ixN_ok {n : Nat} {i : Int} (h0 : 0 ≤ i) (h1 : i < n) : ixN n i = some i.toNat := by
  unfold ixN
  rw [if_pos h0, if_pos h1]

theorem map_set {j : Nat} {w : Int} : (ns.map V.int).set j (.int w) = (ns.set j w).map V.int := by rw [List.map_set]
theorem st_setI {i w : Int} {N : Hp → Prop} (hS : SA L M H) (d : Chg M p (.lst (ns.map V.int)) (.lst ((ns.set i.toNat w).map V.int)) M') (h0 : 0 ≤ i) (h1 : i < ns.length) (q : ∀ H', SA L M' H' → N H') : rSetL (.ref p) (.int i) (.int w) H N := by
  refine ⟨p, _, i, i.toNat, rfl, rfl, hS.at d.mem, ixN_ok h0 (by rw [List.length_map]; exact h1), ?_⟩
  rw [map_set]
  exact q _ (hS.set d)
theorem st_appI {w : Int} (hS : SA L M H) (d : Chg M p (.lst (ns.map V.int)) (.lst ((ns ++ [w]).map V.int)) M') (hz : ns.length < 100000) (q : ∀ H', SA L M' H' → Q .non H') : rAppend (.ref p) [.int w] H Q := by
  refine ⟨p, _, .int w, rfl, rfl, hS.at d.mem, by rw [List.length_map]; exact Nat.lt_of_lt_of_le hz (by decide), ?_⟩
  have e : ns.map V.int ++ [V.int w] = (ns ++ [w]).map V.int := by rw [List.map_append]; rfl
  rw [e]
  exact q _ (hS.set d)
/-- an item of a written list of numbers, at a place that is not written: what all have it has -/
theorem st_menu {i : Int} (P : Int → Prop) (hS : SA L M H) (h : At L M (fQ K p xs)) (e : xs = ms.map V.int) (h0 : 0 ≤ i) (h1 : i < ms.length) (hP : ∀ x ∈ ms, P x) (q : ∀ x, P x → Q (.int x) H) : rIxL K (.ref p) (.int i) H Q := by
  subst e
  refine st_ixL hS h (atI_ints h0 h1) (q _ (hP _ ?_))
  have hl : i.toNat < ms.length := by omega
  rw [List.getD_eq_getElem?_getD, List.getElem?_eq_getElem hl]
  exact List.getElem_mem hl
theorem st_slTo {j : Int} (hS : SA L M H) (h : At L M (fQ K a (ns.map V.int))) (h0 : 0 ≤ j) (q : ∀ p H', SA L ((p, .lst ((ns.take j.toNat).map V.int)) :: M) H' → Q (.ref p) H') : rSlL K (.ref a) none (some j) H Q :=
  st_slL hS h (by rw [cut_to h0]; exact q)
theorem st_slFrom {j : Int} (hS : SA L M H) (h : At L M (fQ K a (ns.map V.int))) (h0 : 0 ≤ j) (q : ∀ p H', SA L ((p, .lst ((ns.drop j.toNat).map V.int)) :: M) H' → Q (.ref p) H') : rSlL K (.ref a) (some j) none H Q :=
  st_slL hS h (by rw [cut_from h0]; exact q)
theorem st_catI (hS : SA L M H) (h1 : At L M (fL a (ns.map V.int))) (h2 : At L M (fL b (ms.map V.int))) (hl : ns.length + ms.length ≤ 100000) (q : ∀ p H', SA L ((p, .lst ((ns ++ ms).map V.int)) :: M) H' → Q (.ref p) H') : rCat (.ref a) (.ref b) H Q :=
  st_cat hS h1 h2 (by rw [List.length_map, List.length_map]; exact hl) (by rw [← List.map_append]; exact q)
theorem st_catI1 {w : Int} (hS : SA L M H) (h1 : At L M (fL a (ns.map V.int))) (h2 : At L M (fL b [.int w])) (hl : ns.length + 1 ≤ 100000) (q : ∀ p H', SA L ((p, .lst ((ns ++ [w]).map V.int)) :: M) H' → Q (.ref p) H') : rCat (.ref a) (.ref b) H Q :=
  st_catI (ms := [w]) hS h1 h2 hl q
theorem st_lenI (hS : SA L M H) (h : At L M (fQ K p (ns.map V.int))) (q : Q (.int (ns.length : Int)) H) : rLen K [.ref p] H Q := st_lenL hS h (by rw [List.length_map]; exact q)
theorem st_cat3 {u v w : Int} (hS : SA L M H) (h1 : At L M (fL a [.int u, .int v, .int w])) (h2 : At L M (fL b (ms.map V.int))) (hl : 3 + ms.length ≤ 100000) (q : ∀ p H', SA L ((p, .lst (([u, v, w] ++ ms).map V.int)) :: M) H' → Q (.ref p) H') : rCat (.ref a) (.ref b) H Q :=
  st_catI (ns := [u, v, w]) hS h1 h2 hl q
theorem ints_at {i : Nat} (h : (ns.map V.int)[i]? = some x) : ∃ n, ns[i]? = some n ∧ x = .int n := by
  rw [List.getElem?_map] at h
  cases e : ns[i]? with
  | none => rw [e] at h; cases h
  | some n =>
    rw [e] at h
    exact ⟨n, rfl, (Option.some.inj h).symm⟩
theorem drop_at {α : Type} {l : List α} {i : Nat} {n : α} (h : l[i]? = some n) : l.drop i = n :: l.drop (i + 1) := by
  obtain ⟨hl, e⟩ := List.getElem?_eq_some_iff.mp h
  rw [List.drop_eq_getElem_cons hl, e]
theorem take_at {α : Type} {l : List α} {i : Nat} {n : α} (h : l[i]? = some n) : l.take (i + 1) = l.take i ++ [n] := by
  obtain ⟨hl, e⟩ := List.getElem?_eq_some_iff.mp h
  rw [List.take_add_one, h]
  rfl
/-! ### loops: an invariant by the turn and a ghost -/
/-- the state at turn n -/
def Iv {γ : Type} (s : Nat → γ → L2.St) (Lf : Nat → γ → List Fc) (Mf : Nat → γ → List Cell) (pr : Nat → γ → Prop) (n : Nat) (σ : L2.St) (H : Hp) : Prop :=
  ∃ g : γ, σ = s n g ∧ pr n g ∧ SA (Lf n g) (Mf n g) H
/-- what a for asks behind its iterator -/
def Lp (J : It) (g : TG) (tb : TS) (D : Ends) (σ : L2.St) (H : Hp) : Prop :=
  ∃ W : Nat → Nat → L2.St → Hp → Prop, (∃ m, W 0 m σ H) ∧ ∀ i m σ H, W i m σ H →
    (J.stop i H ∧ D.nx σ H) ∨ (J.go i H ∧ ∃ N : L2.St → Hp → Prop, (∀ σ' H', N σ' H' → ∃ m', m' < m ∧ W (i + 1) m' σ' H') ∧ ∀ x H', J.yld i H x H' → g x σ H' fun σ2 H2 => tb { D with nx := N, ct := N, bk := D.nx } σ2 H2)
theorem st_for {wi : TI} {g : TG} (q : wi σ H fun J H1 => Lp J g ts D σ H1) : tFor wi g ts D σ H := q
theorem st_iList (q : te σ H fun x H1 => ∃ a, x = .ref a ∧ (∃ xs, SqL K H1 a xs) ∧ R (Itl K a) H1) : iList K te σ H R := q
theorem st_iRng1 (q : tr σ H fun vs H1 => ∃ j : Int, vs = [.int j] ∧ -(2 ^ 62) ≤ j ∧ j < 2 ^ 62 ∧ R (Itr 0 j.toNat) H1) : iRng1 tr σ H R := q
theorem st_iRng2 (q : tr σ H fun vs H1 => ∃ i j : Int, vs = [.int i, .int j] ∧ (-(2 ^ 62) ≤ i ∧ i < 2 ^ 62 ∧ -(2 ^ 62) ≤ j ∧ j < 2 ^ 62) ∧ R (Itr i (j - i).toNat) H1) : iRng2 tr σ H R := q
theorem st_iEnum (q : tr σ H fun vs H1 => ∃ a xs, vs = [.ref a] ∧ SqL K H1 a xs ∧ R (Ite K a) H1) : iEnum K tr σ H R := q
theorem st_iZip (q : tr σ H fun vs H1 => ∃ a b xs ys, vs = [.ref a, .ref b] ∧ SqL K H1 a xs ∧ SqL K H1 b ys ∧ R (Itz K a b) H1) : iZip K tr σ H R := q
theorem st_r1 {g : TG} {n : Nat} {j : Int} (h : j.toNat = n) (hb : j < 2 ^ 62) (hc : -(2 ^ 62) ≤ j) (q : Lp (Itr 0 n) g ts D σ H) : ∃ j' : Int, [V.int j] = [.int j'] ∧ -(2 ^ 62) ≤ j' ∧ j' < 2 ^ 62 ∧ Lp (Itr 0 j'.toNat) g ts D σ H :=
  ⟨j, rfl, hc, hb, by rw [h]; exact q⟩
theorem st_r2 {g : TG} {n : Nat} {i j : Int} (h : (j - i).toNat = n) (hb : -(2 ^ 62) ≤ i ∧ i < 2 ^ 62 ∧ -(2 ^ 62) ≤ j ∧ j < 2 ^ 62) (q : Lp (Itr i n) g ts D σ H) : ∃ i' j' : Int, [V.int i, V.int j] = [.int i', .int j'] ∧ (-(2 ^ 62) ≤ i' ∧ i' < 2 ^ 62 ∧ -(2 ^ 62) ≤ j' ∧ j' < 2 ^ 62) ∧ Lp (Itr i' (j' - i').toNat) g ts D σ H :=
  ⟨i, j, rfl, hb, by rw [h]; exact q⟩
theorem st_e1 {g : TG} (hS : SA L M H) (h : At L M (fQ K a xs)) (q : Lp (Ite K a) g ts D σ H) : ∃ a' xs, [V.ref a] = [.ref a'] ∧ SqL K H a' xs ∧ Lp (Ite K a') g ts D σ H := ⟨a, xs, rfl, h H hS, q⟩
theorem st_l1 {g : TG} (hS : SA L M H) (h : At L M (fQ K a xs)) (q : Lp (Itl K a) g ts D σ H) : ∃ a', V.ref a = .ref a' ∧ (∃ xs, SqL K H a' xs) ∧ Lp (Itl K a') g ts D σ H := ⟨a, rfl, ⟨xs, h H hS⟩, q⟩
theorem st_z1 {g : TG} (hS : SA L M H) (h : At L M (fQ K a xs)) (h2 : At L M (fQ K b ys)) (q : Lp (Itz K a b) g ts D σ H) : ∃ a' b' xs ys, [V.ref a, V.ref b] = [.ref a', .ref b'] ∧ SqL K H a' xs ∧ SqL K H b' ys ∧ Lp (Itz K a' b') g ts D σ H := ⟨a, b, xs, ys, rfl, h H hS, h2 H hS, q⟩
section
variable {γ : Type} (s : Nat → γ → L2.St) (Lf : Nat → γ → List Fc) (Mf : Nat → γ → List Cell) (pr : Nat → γ → Prop)
theorem lp_rng {lo : Int} {n : Nat} {j : Nat} (h0 : Iv s Lf Mf pr 0 σ H)
    (hs : ∀ (i : Nat) (g : γ) (H : Hp), i < n → pr i g → SA (Lf i g) (Mf i g) H → ts { D with nx := Iv s Lf Mf pr (i + 1), ct := Iv s Lf Mf pr (i + 1), bk := D.nx } ((s i g).set j (some (.int (lo + (i : Int))))) H)
    (hd : ∀ (g : γ) (H : Hp), pr n g → SA (Lf n g) (Mf n g) H → D.nx (s n g) H) : Lp (Itr lo n) (gName j) ts D σ H :=
  for_it (walk_range (lo := lo) (n := n)) (Iv s Lf Mf pr) h0 (fun _ _ _ _ _ => trivial) (fun i x σ H H' hi hp hy => by
    obtain ⟨g, rfl, h1, h2⟩ := hp
    obtain ⟨rfl, rfl⟩ := hy
    exact hs i g H' hi h1 h2) (fun σ H hp => by
    obtain ⟨g, rfl, h1, h2⟩ := hp
    exact hd g H h1 h2)
theorem lp_list {j : Nat} (h0 : Iv s Lf Mf pr 0 σ H) (hG : ∀ (i : Nat) (g : γ), i ≤ xs.length → pr i g → At (Lf i g) (Mf i g) (fQ K a xs))
    (hs : ∀ (i : Nat) (x : V) (g : γ) (H : Hp), xs[i]? = some x → pr i g → SA (Lf i g) (Mf i g) H → ts { D with nx := Iv s Lf Mf pr (i + 1), ct := Iv s Lf Mf pr (i + 1), bk := D.nx } ((s i g).set j (some x)) H)
    (hd : ∀ (g : γ) (H : Hp), pr xs.length g → SA (Lf xs.length g) (Mf xs.length g) H → D.nx (s xs.length g) H) : Lp (Itl K a) (gName j) ts D σ H :=
  for_it (walk_list (xs := xs)) (Iv s Lf Mf pr) h0 (fun i σ H hi hp => by
    obtain ⟨g, rfl, h1, h2⟩ := hp
    exact hG i g hi h1 H h2) (fun i x σ H H' hi hp hy => by
    obtain ⟨g, rfl, h1, h2⟩ := hp
    obtain ⟨rfl, hx⟩ := hy
    exact hs i x g H' hx h1 h2) (fun σ H hp => by
    obtain ⟨g, rfl, h1, h2⟩ := hp
    exact hd g H h1 h2)
/-- for i, x in enumerate(xs) -/
theorem lp_enum {j k : Nat} (h0 : Iv s Lf Mf pr 0 σ H) (hG : ∀ (i : Nat) (g : γ), i ≤ xs.length → pr i g → At (Lf i g) (Mf i g) (fQ K a xs))
    (hs : ∀ (i : Nat) (x : V) (g : γ) (H : Hp), xs[i]? = some x → pr i g → SA (Lf i g) (Mf i g) H → ts { D with nx := Iv s Lf Mf pr (i + 1), ct := Iv s Lf Mf pr (i + 1), bk := D.nx } (((s i g).set j (some (.int (i : Nat)))).set k (some x)) H)
    (hd : ∀ (g : γ) (H : Hp), pr xs.length g → SA (Lf xs.length g) (Mf xs.length g) H → D.nx (s xs.length g) H) : Lp (Ite K a) (gTup K 2 (gCons (gName j) (gCons (gName k) gNil))) ts D σ H :=
  for_it (walk_enum (xs := xs)) (Iv s Lf Mf pr) h0 (fun i σ H hi hp => by
    obtain ⟨g, rfl, h1, h2⟩ := hp
    exact hG i g hi h1 H h2) (fun i x σ H H' hi hp hy => by
    obtain ⟨g, rfl, h1, h2⟩ := hp
    obtain ⟨T, y1, y2, rfl, hT, rfl, e1, e2⟩ := hy
    cases e1
    refine ⟨T, [.int (i : Nat), y2], rfl, SqT.of upd_same, rfl, _, _, rfl, _, _, rfl, rfl, ?_⟩
    exact hs i y2 g _ e2 h1 (h2.ign hT)) (fun σ H hp => by
    obtain ⟨g, rfl, h1, h2⟩ := hp
    exact hd g H h1 h2)
/-- for x, y in zip(xs, ys) -/
theorem lp_zip {j k : Nat} {n : Nat} (hn : n = min xs.length ys.length) (h0 : Iv s Lf Mf pr 0 σ H) (hG : ∀ (i : Nat) (g : γ), i ≤ n → pr i g → At (Lf i g) (Mf i g) (fQ K a xs)) (hG2 : ∀ (i : Nat) (g : γ), i ≤ n → pr i g → At (Lf i g) (Mf i g) (fQ K b ys))
    (hs : ∀ (i : Nat) (x y : V) (g : γ) (H : Hp), xs[i]? = some x → ys[i]? = some y → pr i g → SA (Lf i g) (Mf i g) H → ts { D with nx := Iv s Lf Mf pr (i + 1), ct := Iv s Lf Mf pr (i + 1), bk := D.nx } (((s i g).set j (some x)).set k (some y)) H)
    (hd : ∀ (g : γ) (H : Hp), pr n g → SA (Lf n g) (Mf n g) H → D.nx (s n g) H) : Lp (Itz K a b) (gTup K 2 (gCons (gName j) (gCons (gName k) gNil))) ts D σ H :=
  for_it (walk_zip (xs := xs) (ys := ys) hn) (Iv s Lf Mf pr) h0 (fun i σ H hi hp => by
    obtain ⟨g, rfl, h1, h2⟩ := hp
    exact ⟨hG i g hi h1 H h2, hG2 i g hi h1 H h2⟩) (fun i x σ H H' hi hp hy => by
    obtain ⟨g, rfl, h1, h2⟩ := hp
    obtain ⟨T, y1, y2, rfl, hT, rfl, e1, e2⟩ := hy
    refine ⟨T, [y1, y2], rfl, SqT.of upd_same, rfl, _, _, rfl, _, _, rfl, rfl, ?_⟩
    exact hs i y1 y2 g _ e1 e2 h1 (h2.ign hT)) (fun σ H hp => by
    obtain ⟨g, rfl, h1, h2⟩ := hp
    exact hd g H h1 h2)
end

/-! ### comprehensions -/
def Lc (J : It) (g : TG) (tt : TT) (te : TE) (vs : List Nat) (σ : L2.St) (Q : VK) (H1 : Hp) : Prop := ∀ D, H1 D = none → ∃ W : Nat → Nat → Hp → Prop, (∃ m, W 0 m (upd H1 D (.lst []))) ∧ ∀ i m H, W i m H →
  (J.stop i H ∧ Q (.ref D) H) ∨ (J.go i H ∧ ∃ Nx : Hp → Prop, (∀ H', Nx H' → ∃ m', m' < m ∧ W (i + 1) m' H') ∧ ∀ x H', J.yld i H x H' → g x (wipe σ vs) H' fun σ2 H2 => wipe σ2 vs = wipe σ vs ∧ tt σ2 H2 fun b H3 =>
    if b = true then te σ2 H3 fun y H4 => ∃ acc, H4 D = some (.lst acc) ∧ acc.length < sizeLine ∧ Nx (upd H4 D (.lst (acc ++ [y]))) else Nx H3)
theorem st_r1c {g : TG} {vs : List Nat} {n : Nat} {j : Int} (h : j.toNat = n) (hb : j < 2 ^ 62) (hc : -(2 ^ 62) ≤ j) (q : Lc (Itr 0 n) g t te vs σ Q H) : ∃ j' : Int, [V.int j] = [.int j'] ∧ -(2 ^ 62) ≤ j' ∧ j' < 2 ^ 62 ∧ Lc (Itr 0 j'.toNat) g t te vs σ Q H :=
  ⟨j, rfl, hc, hb, by rw [h]; exact q⟩
theorem st_r2c {g : TG} {vs : List Nat} {n : Nat} {i j : Int} (h : (j - i).toNat = n) (hb : -(2 ^ 62) ≤ i ∧ i < 2 ^ 62 ∧ -(2 ^ 62) ≤ j ∧ j < 2 ^ 62) (q : Lc (Itr i n) g t te vs σ Q H) : ∃ i' j' : Int, [V.int i, V.int j] = [.int i', .int j'] ∧ (-(2 ^ 62) ≤ i' ∧ i' < 2 ^ 62 ∧ -(2 ^ 62) ≤ j' ∧ j' < 2 ^ 62) ∧ Lc (Itr i' (j' - i').toNat) g t te vs σ Q H :=
  ⟨i, j, rfl, hb, by rw [h]; exact q⟩
theorem st_e1c {g : TG} {vs : List Nat} (hS : SA L M H) (h : At L M (fQ K a xs)) (q : Lc (Ite K a) g t te vs σ Q H) : ∃ a' xs, [V.ref a] = [.ref a'] ∧ SqL K H a' xs ∧ Lc (Ite K a') g t te vs σ Q H := ⟨a, xs, rfl, h H hS, q⟩
theorem st_l1c {g : TG} {vs : List Nat} (hS : SA L M H) (h : At L M (fQ K a xs)) (q : Lc (Itl K a) g t te vs σ Q H) : ∃ a', V.ref a = .ref a' ∧ (∃ xs, SqL K H a' xs) ∧ Lc (Itl K a') g t te vs σ Q H := ⟨a, rfl, ⟨xs, h H hS⟩, q⟩
theorem st_z1c {g : TG} {vs : List Nat} (hS : SA L M H) (h : At L M (fQ K a xs)) (h2 : At L M (fQ K b ys)) (q : Lc (Itz K a b) g t te vs σ Q H) : ∃ a' b' xs ys, [V.ref a, V.ref b] = [.ref a', .ref b'] ∧ SqL K H a' xs ∧ SqL K H b' ys ∧ Lc (Itz K a' b') g t te vs σ Q H := ⟨a, b, xs, ys, rfl, h H hS, h2 H hS, q⟩
theorem st_lc {wi : TI} {g : TG} {vs : List Nat} (q : wi σ H fun J H1 => Lc J g t te vs σ Q H1) : tLc wi g t te vs σ H Q := q
/-- a test, an item, of a state that they leave as it is (but for what is new) -/
def EvT (t : TT) (σ : L2.St) (L : List Fc) (M : List Cell) (b : Bool) : Prop := ∀ H, SA L M H → ∀ Q : Bool → Hp → Prop, (∀ H', SA L M H' → Q b H') → t σ H Q
def EvV (te : TE) (σ : L2.St) (L : List Fc) (M : List Cell) (v : V) : Prop := ∀ H, SA L M H → ∀ Q : VK, (∀ H', SA L M H' → Q v H') → te σ H Q
theorem evT_yes : EvT tYes σ L M true := fun H hS Q q => q H hS
open Evl (given given_yes given_no given_len) in
theorem lc_turn {D : Addr} {σ2 : L2.St} {ff : Nat → Bool} {w : Nat → V} {i : Nat} (hi : i < 50000) (hS : SA L ((D, .lst (given i ff w)) :: M) H)
    (ht : EvT t σ2 L ((D, .lst (given i ff w)) :: M) (ff i)) (he : ff i = true → EvV te σ2 L ((D, .lst (given i ff w)) :: M) (w i)) :
    t σ2 H fun b H3 => if b = true then te σ2 H3 fun y H4 => ∃ acc, H4 D = some (.lst acc) ∧ acc.length < sizeLine ∧ SA L ((D, .lst (given (i + 1) ff w)) :: M) (upd H4 D (.lst (acc ++ [y]))) else SA L ((D, .lst (given (i + 1) ff w)) :: M) H3 := by
  refine ht H hS _ fun H3 hS3 => ?_
  cases hf : ff i with
  | true =>
    refine if_t ?_
    refine he hf H3 hS3 _ fun H4 hS4 => ⟨given i ff w, hS4.at List.mem_cons_self, Nat.lt_of_le_of_lt (given_len i ff w) (Nat.lt_of_lt_of_le hi (by decide)), ?_⟩
    rw [given_yes hf]
    exact hS4.set .hd
  | false =>
    refine if_f ?_
    rw [given_no hf]
    exact hS3
open Evl (given) in
theorem lc_rng {lo : Int} {n j : Nat} {vs : List Nat} (hn : n < 50000) (hS : SA L M H) (ff : Nat → Bool) (w : Nat → V) (hw : ∀ x, wipe ((wipe σ vs).set j (some x)) vs = wipe σ vs)
    (ht : ∀ (i : Nat) (D : Addr) acc, i < n → EvT t ((wipe σ vs).set j (some (.int (lo + (i : Int))))) L ((D, .lst acc) :: M) (ff i))
    (he : ∀ (i : Nat) (D : Addr) acc, i < n → ff i = true → EvV te ((wipe σ vs).set j (some (.int (lo + (i : Int))))) L ((D, .lst acc) :: M) (w i))
    (q : ∀ D H', SA L ((D, .lst (given n ff w)) :: M) H' → Q (.ref D) H') : Lc (Itr lo n) (gName j) t te vs σ Q H := fun D hD =>
  lc_it (walk_range (lo := lo) (n := n)) (fun i H => SA L ((D, .lst (given i ff w)) :: M) H) (hS.newM hD) (fun _ _ _ _ => trivial) (fun i x H H' hi hp hy => by
    obtain ⟨rfl, rfl⟩ := hy
    exact ⟨hw _, lc_turn (by omega) hp (ht i D _ hi) (he i D _ hi)⟩) (fun H' hp => q D H' hp)
open Evl (given) in
theorem lc_lst {j : Nat} {vs : List Nat} (hn : xs.length < 50000) (hS : SA L M H) (hx : At L M (fQ K a xs)) (ff : Nat → Bool) (w : Nat → V) (hw : ∀ x, wipe ((wipe σ vs).set j (some x)) vs = wipe σ vs)
    (ht : ∀ (i : Nat) (x : V) (D : Addr) acc, xs[i]? = some x → EvT t ((wipe σ vs).set j (some x)) L ((D, .lst acc) :: M) (ff i))
    (he : ∀ (i : Nat) (x : V) (D : Addr) acc, xs[i]? = some x → ff i = true → EvV te ((wipe σ vs).set j (some x)) L ((D, .lst acc) :: M) (w i))
    (q : ∀ D H', SA L ((D, .lst (given xs.length ff w)) :: M) H' → Q (.ref D) H') : Lc (Itl K a) (gName j) t te vs σ Q H := fun D hD =>
  lc_it (walk_list (xs := xs)) (fun i H => SA L ((D, .lst (given i ff w)) :: M) H) (hS.newM hD) (fun i H _ hp => hx H hp.dropM) (fun i x H H' hi hp hy => by
    obtain ⟨rfl, hx⟩ := hy
    exact ⟨hw _, lc_turn (by omega) hp (ht i x D _ hx) (he i x D _ hx)⟩) (fun H' hp => q D H' hp)
open Evl (given) in
theorem lc_enum {j k : Nat} {vs : List Nat} (hn : xs.length < 50000) (hS : SA L M H) (hx : At L M (fQ K a xs)) (ff : Nat → Bool) (w : Nat → V) (hw : ∀ x y, wipe (((wipe σ vs).set j (some x)).set k (some y)) vs = wipe σ vs)
    (ht : ∀ (i : Nat) (x : V) (D : Addr) acc, xs[i]? = some x → EvT t (((wipe σ vs).set j (some (.int (i : Nat)))).set k (some x)) L ((D, .lst acc) :: M) (ff i))
    (he : ∀ (i : Nat) (x : V) (D : Addr) acc, xs[i]? = some x → ff i = true → EvV te (((wipe σ vs).set j (some (.int (i : Nat)))).set k (some x)) L ((D, .lst acc) :: M) (w i))
    (q : ∀ D H', SA L ((D, .lst (given xs.length ff w)) :: M) H' → Q (.ref D) H') : Lc (Ite K a) (gTup K 2 (gCons (gName j) (gCons (gName k) gNil))) t te vs σ Q H := fun D hD =>
  lc_it (walk_enum (xs := xs)) (fun i H => SA L ((D, .lst (given i ff w)) :: M) H) (hS.newM hD) (fun i H _ hp => hx H hp.dropM) (fun i x H H' hi hp hy => by
    obtain ⟨T, y1, y2, rfl, hT, rfl, e1, e2⟩ := hy
    cases e1
    refine ⟨T, [.int (i : Nat), y2], rfl, SqT.of upd_same, rfl, _, _, rfl, _, _, rfl, rfl, ?_⟩
    exact ⟨hw _ _, lc_turn (by omega) (hp.ign hT) (ht i y2 D _ e2) (he i y2 D _ e2)⟩) (fun H' hp => q D H' hp)
end
end Sa
namespace Sa
open PySem PySem.Spec PyProof.Rows L2
/-! ### keywords alone, in the parameters' order; in another order by g -/
def g0 {α : Type} : List α → List α → List α
  | [], ws => ws
  | _ :: _, _ => []
theorem kb0 {K : PySem.W.Frag} {x qual : Str} {st : Stmt} {f : Addr} {fd : FuncData} {ps ks : List Str} (F : Fun K x qual st f fd) (h0 : 0 < ps.length)
    (h : ∀ (kV doc pm : Value) (an : Option Addr) (cdv ct : Value) (ws : List Value), ws.length = ps.length → bindArgs (PySem.W.fnOf x qual (defArgs st) (defBody st) (defScope st) .none kV doc pm an cdv ct) ⟨[], ks.zip ws⟩ = pure (ps.zip ws)) : KBinds K fd ps ks g0 g0 := by
  obtain ⟨oc, od, kV, doc, pm, an, cdv, ct, osl, rfl, lk, hcd⟩ := F.ex
  refine ⟨fun s us ws _ hl => ?_, fun {vs us zs ws} r rz => ?_⟩
  · cases us with
    | nil => exact .of_eq (h kV doc pm an cdv ct ws hl)
    | cons u us =>
      have hl' : 0 = ps.length := hl
      omega
  · cases r with
    | nil => exact rz
    | cons _ _ => exact .nil
/-- one value by position, the rest by name in the parameters' order -/
def g1 {α : Type} : List α → List α → List α
  | [u], ws => u :: ws
  | _, _ => []
theorem kb1 {K : PySem.W.Frag} {x qual : Str} {st : Stmt} {f : Addr} {fd : FuncData} {ps ks : List Str} (F : Fun K x qual st f fd) (h0 : 0 < ps.length)
    (h : ∀ (kV doc pm : Value) (an : Option Addr) (cdv ct : Value) (u : Value) (ws : List Value), (u :: ws).length = ps.length → bindArgs (PySem.W.fnOf x qual (defArgs st) (defBody st) (defScope st) .none kV doc pm an cdv ct) ⟨[u], ks.zip ws⟩ = pure (ps.zip (u :: ws))) : KBinds K fd ps ks g1 g1 := by
  obtain ⟨oc, od, kV, doc, pm, an, cdv, ct, osl, rfl, lk, hcd⟩ := F.ex
  refine ⟨fun s us ws _ hl => ?_, fun {vs us zs ws} r rz => ?_⟩
  · match us, hl with
    | [], hl =>
      have hl' : 0 = ps.length := hl
      omega
    | [u], hl => exact .of_eq (h kV doc pm an cdv ct u ws hl)
    | _ :: _ :: _, hl =>
      have hl' : 0 = ps.length := hl
      omega
  · cases r with
    | nil => exact .nil
    | cons r rr =>
      cases rr with
      | nil => exact .cons r rz
      | cons _ _ => exact .nil
end Sa
namespace Sa
open PySem PySem.Spec PyProof.Rows L2
theorem cxK {CX : CXT} {P : Program} {w : World} {K : PySem.W.Frag} {mg : Str → Option Value} {base : Heap} {N : List Str} {qual : Str} {sc : Scope} {f : Addr} {cd : Value} {A : Around} {outer : List Env} {s : Shared} {H : Hp} {E : XK} : (cxOf CX P w K mg base N qual sc f cd A outer s H E).nox.K = K := rfl
theorem cxK' {CX : CXT} {P : Program} {w : World} {K : PySem.W.Frag} {mg : Str → Option Value} {base : Heap} {N : List Str} {qual : Str} {sc : Scope} {f : Addr} {cd : Value} {A : Around} {outer : List Env} {s : Shared} {H : Hp} {E : XK} : (cxOf CX P w K mg base N qual sc f cd A outer s H E).K = K := rfl
theorem asg2 {x y : Str} {p q : Pos} {env : Env} : (assignEach [.Name x p, .Name y q] env).length = 2 := rfl
theorem asg3 {x y z : Str} {p q r : Pos} {env : Env} : (assignEach [.Name x p, .Name y q, .Name z r] env).length = 3 := rfl
theorem asg2t {x : Str} {p q : Pos} {es : List Expr} {k : Nat} {env : Env} : (assignEach [.Name x p, .Tuple es k q] env).length = 2 := rfl
end Sa

namespace Sa
open PySem PySem.Spec PyProof.Rows L2 RZ
/-! ### data: isinstance, zip of two lists or tuples -/
def tyN : PyData → String
  | .none => "NoneType"
  | .bool _ => "bool"
  | .int _ => "int"
  | .str _ => "str"
  | .list _ => "list"
  | .tuple _ => "tuple"
  | .dict _ => "dict"
section
variable {K : PySem.W.Frag} {L L' : List Fc} {M M' : List Cell} {H : Hp} {σ : L2.St} {Q : VK} {a p b : Addr} {xs ys : List V} {v x y z : V} {D : Ends} {te : TE} {t : TT} {ts tu : TS} {tr : TA} {d : PyData} {ds : List PyData}
theorem dp_list (h : Dp K H v (.list ds)) : ∃ a xs, v = .ref a ∧ SqL K H a xs ∧ DpAll K H xs ds := by
  cases h with
  | lst h1 h2 => exact ⟨_, _, rfl, h1, h2⟩
theorem dp_tuple (h : Dp K H v (.tuple ds)) : ∃ a xs, v = .ref a ∧ SqT K H a xs ∧ DpAll K H xs ds := by
  cases h with
  | tup h1 h2 => exact ⟨_, _, rfl, h1, h2⟩
theorem dp_int {i : Int} (h : Dp K H v (.int i)) : v = .int i := by cases h; rfl
theorem dp_bool {i : Bool} (h : Dp K H v (.bool i)) : v = .bl i := by cases h; rfl
theorem dp_none (h : Dp K H v .none) : v = .non := by cases h; rfl
theorem dp_str {i : Str} (h : Dp K H v (.str i)) : v = .str i := by cases h; rfl
theorem dpa_len : ∀ {xs : List V} {ds : List PyData}, DpAll K H xs ds → xs.length = ds.length
  | _, _, .nil => rfl
  | _, _, .cons _ h => by simp only [List.length_cons, dpa_len h]
theorem dpa_get : ∀ {xs : List V} {ds : List PyData} {i : Nat} {x : V}, DpAll K H xs ds → xs[i]? = some x → ∃ d, ds[i]? = some d ∧ Dp K H x d
  | _, _, _, _, .nil, h => by simp at h
  | _, _, 0, _, .cons h1 _, h => by
    simp at h
    subst h
    exact ⟨_, rfl, h1⟩
  | _, _, i + 1, _, .cons _ h2, h => by
    obtain ⟨d, e, h3⟩ := dpa_get (i := i) h2 (by simpa using h)
    exact ⟨d, by simpa using e, h3⟩
theorem ty_of (h : Dp K H v d) : TyX K H v (.type (tyN d)) := by
  cases h with
  | non => exact .base .non
  | bl b => exact .base (.bl b)
  | int i => exact .base (.int i)
  | str x => exact .base (.str x)
  | lst h1 h2 =>
    rcases h1 with (h1 | ⟨o, h1⟩) | ⟨o, its, n, h1, h2, _⟩
    · exact .base (.lst h1)
    · exact .base (.frz h1)
    · exact .kList h1 h2
  | tup h1 h2 =>
    rcases h1 with (h1 | ⟨o, h1⟩) | ⟨o, its, n, h1, h2, _⟩
    · exact .base (.tup h1)
    · exact .fTuple h1
    · exact .kTuple h1 h2
theorem st_isi {T : String} {r : Bool} (h : Dp K H v d) (e : kitB (tyN d) T = some r) (q : Q (.bl r) H) : rIsi K [v, .ty T] H Q :=
  ⟨v, .ty T, .type (tyN d), .type T, r, rfl, .ty T, ty_of h, kit_ty e, q⟩
def kBool : PyData → Bool
  | .bool _ => true
  | _ => false
theorem st_kBool (h : Dp K H v d) (q : Q (.bl (kBool d)) H) : rIsi K [v, .ty "bool"] H Q :=
  st_isi (r := kBool d) h (by cases d <;> (dsimp only [tyN, kBool]; decide +kernel)) q
def kInt : PyData → Bool
  | .int _ => true
  | .bool _ => true
  | _ => false
theorem st_kInt (h : Dp K H v d) (q : Q (.bl (kInt d)) H) : rIsi K [v, .ty "int"] H Q :=
  st_isi (r := kInt d) h (by cases d <;> (dsimp only [tyN, kInt]; decide +kernel)) q
def kStr : PyData → Bool
  | .str _ => true
  | _ => false
theorem st_kStr (h : Dp K H v d) (q : Q (.bl (kStr d)) H) : rIsi K [v, .ty "str"] H Q :=
  st_isi (r := kStr d) h (by cases d <;> (dsimp only [tyN, kStr]; decide +kernel)) q
def kList : PyData → Bool
  | .list _ => true
  | _ => false
theorem st_kList (h : Dp K H v d) (q : Q (.bl (kList d)) H) : rIsi K [v, .ty "list"] H Q :=
  st_isi (r := kList d) h (by cases d <;> (dsimp only [tyN, kList]; decide +kernel)) q
def kTuple : PyData → Bool
  | .tuple _ => true
  | _ => false
theorem st_kTuple (h : Dp K H v d) (q : Q (.bl (kTuple d)) H) : rIsi K [v, .ty "tuple"] H Q :=
  st_isi (r := kTuple d) h (by cases d <;> (dsimp only [tyN, kTuple]; decide +kernel)) q
theorem st_newTc (hS : SA L M H) (hl : xs.length ≤ 100000) (q : ∀ p H', SA L ((p, .tup xs) :: M) H' → Q (.ref p) H') : NewT xs H Q :=
  ⟨Nat.le_trans hl (by decide), fun p hp => q p _ (hS.newM hp)⟩
/-- isinstance(v, (list, tuple)) -/
theorem st_isiLT {tp : Addr} (hS : SA L ((tp, .tup [.ty "list", .ty "tuple"]) :: M) H) (h : Dp K H v d) (q : Q (.bl (kList d || kTuple d)) H) : rIsiT K [v, .ref tp] H Q := by
  have e1 : kitB (tyN d) "list" = some (kList d) := by cases d <;> (dsimp only [tyN, kList]; decide +kernel)
  have e2 : kitB (tyN d) "tuple" = some (kTuple d) := by cases d <;> (dsimp only [tyN, kTuple]; decide +kernel)
  refine ⟨v, tp, [.ty "list", .ty "tuple"], .type (tyN d), [.type "list", .type "tuple"], kList d || kTuple d, rfl, hS.at List.mem_cons_self, .cons (.ty _) (.cons (.ty _) .nil), ty_of h, ?_, q⟩
  refine kitAny_cons (kit_ty e1) (fun hb => ?_) (fun hb => by rw [hb]; rfl)
  rw [hb, Bool.false_or]
  refine kitAny_cons (kit_ty e2) (fun hb => ?_) (fun hb => hb)
  rw [hb]
  rfl
/-- v[i] of a list or a tuple -/
theorem st_ixD {i : Int} {n : Nat} (h : Dp K H v (.list ds)) (hi : i = (n : Int)) (hl : n < ds.length) (q : ∀ x d, ds[n]? = some d → Dp K H x d → Q x H) : rIx K v (.int i) H Q := by
  obtain ⟨a, xs, rfl, h1, h2⟩ := dp_list h
  have hlx : n < xs.length := by rw [dpa_len h2]; exact hl
  have hx : xs[n]? = some xs[n] := List.getElem?_eq_getElem hlx
  obtain ⟨d, e, h3⟩ := dpa_get h2 hx
  subst hi
  exact .inl ⟨a, xs, (n : Int), _, rfl, rfl, h1, atI_nat hx, q _ d e h3⟩
theorem st_ixU {i : Int} {n : Nat} (h : Dp K H v (.tuple ds)) (hi : i = (n : Int)) (hl : n < ds.length) (q : ∀ x d, ds[n]? = some d → Dp K H x d → Q x H) : rIx K v (.int i) H Q := by
  obtain ⟨a, xs, rfl, h1, h2⟩ := dp_tuple h
  have hlx : n < xs.length := by rw [dpa_len h2]; exact hl
  have hx : xs[n]? = some xs[n] := List.getElem?_eq_getElem hlx
  obtain ⟨d, e, h3⟩ := dpa_get h2 hx
  subst hi
  exact .inr (.inl ⟨a, xs, (n : Int), _, rfl, rfl, h1, atI_nat hx, q _ d e h3⟩)
theorem st_lenD (h : Dp K H v (.list ds)) (q : Q (.int (ds.length : Int)) H) : rLen K [v] H Q := by
  obtain ⟨a, xs, rfl, h1, h2⟩ := dp_list h
  rw [← dpa_len h2] at q
  exact ⟨_, _, rfl, .inl ⟨xs, h1, rfl⟩, q⟩
theorem st_lenU (h : Dp K H v (.tuple ds)) (q : Q (.int (ds.length : Int)) H) : rLen K [v] H Q := by
  obtain ⟨a, xs, rfl, h1, h2⟩ := dp_tuple h
  rw [← dpa_len h2] at q
  exact ⟨_, _, rfl, .inr ⟨xs, h1, rfl⟩, q⟩
theorem st_iZipA {R : It → Hp → Prop} (q : tr σ H fun vs H1 => ∃ a b xs ys, vs = [.ref a, .ref b] ∧ ((SqL K H1 a xs ∧ SqL K H1 b ys ∧ R (Itz K a b) H1) ∨ (SqT K H1 a xs ∧ SqT K H1 b ys ∧ R (ItzT K a b) H1))) : iZipA K tr σ H R := q
theorem st_zAL {g : TG} (hS : SA L M H) (h : At L M (fQ K a xs)) (h2 : At L M (fQ K b ys)) (q : Lp (Itz K a b) g ts D σ H) : ∃ a' b' xs ys, [V.ref a, V.ref b] = [.ref a', .ref b'] ∧ ((SqL K H a' xs ∧ SqL K H b' ys ∧ Lp (Itz K a' b') g ts D σ H) ∨ (SqT K H a' xs ∧ SqT K H b' ys ∧ Lp (ItzT K a' b') g ts D σ H)) :=
  ⟨a, b, xs, ys, rfl, .inl ⟨h H hS, h2 H hS, q⟩⟩
theorem st_zAT {g : TG} (hS : SA L M H) (h : At L M (fT K a xs)) (h2 : At L M (fT K b ys)) (q : Lp (ItzT K a b) g ts D σ H) : ∃ a' b' xs ys, [V.ref a, V.ref b] = [.ref a', .ref b'] ∧ ((SqL K H a' xs ∧ SqL K H b' ys ∧ Lp (Itz K a' b') g ts D σ H) ∨ (SqT K H a' xs ∧ SqT K H b' ys ∧ Lp (ItzT K a' b') g ts D σ H)) :=
  ⟨a, b, xs, ys, rfl, .inr ⟨h H hS, h2 H hS, q⟩⟩
variable {γ : Type} (s : Nat → γ → L2.St) (Lf : Nat → γ → List Fc) (Mf : Nat → γ → List Cell) (pr : Nat → γ → Prop)
/-- for x, y in zip(xs, ys), two tuples of one length -/
theorem lp_zipT {j k : Nat} (hn : xs.length = ys.length) (h0 : Iv s Lf Mf pr 0 σ H) (hG : ∀ (i : Nat) (g : γ), pr i g → At (Lf i g) (Mf i g) (fT K a xs)) (hG2 : ∀ (i : Nat) (g : γ), pr i g → At (Lf i g) (Mf i g) (fT K b ys))
    (hs : ∀ (i : Nat) (x y : V) (g : γ) (H : Hp), xs[i]? = some x → ys[i]? = some y → pr i g → SA (Lf i g) (Mf i g) H → ts { D with nx := Iv s Lf Mf pr (i + 1), ct := Iv s Lf Mf pr (i + 1), bk := D.nx } (((s i g).set j (some x)).set k (some y)) H)
    (hd : ∀ (g : γ) (H : Hp), pr xs.length g → SA (Lf xs.length g) (Mf xs.length g) H → D.nx (s xs.length g) H) : Lp (ItzT K a b) (gTup K 2 (gCons (gName j) (gCons (gName k) gNil))) ts D σ H :=
  for_zipT hn (Iv s Lf Mf pr) h0 (fun i σ H hp => by
    obtain ⟨g, rfl, h1, h2⟩ := hp
    exact ⟨hG i g h1 H h2, hG2 i g h1 H h2⟩) (fun i x y T σ H e1 e2 hp hT => by
    obtain ⟨g, rfl, h1, h2⟩ := hp
    refine ⟨T, [x, y], rfl, SqT.of upd_same, rfl, _, _, rfl, _, _, rfl, rfl, ?_⟩
    exact hs i x y g _ e1 e2 h1 (h2.ign hT)) (fun σ H hp => by
    obtain ⟨g, rfl, h1, h2⟩ := hp
    exact hd g H h1 h2)
end
theorem depth_bool {b : Bool} {n : Nat} : (PyData.bool b).depth < n + 1 := Nat.succ_pos n
theorem depth_int {b : Int} {n : Nat} : (PyData.int b).depth < n + 1 := Nat.succ_pos n
theorem depth_none {n : Nat} : PyData.none.depth < n + 1 := Nat.succ_pos n
theorem depth_ints {ns : List Int} {n : Nat} : (PyData.list (ns.map PyData.int)).depth < n + 2 := by
  show PyData.depthAll (ns.map PyData.int) + 1 < n + 2
  rw [depthAll_ints]
  omega
theorem fn_none {P : Program} {w : World} {K : PySem.W.Frag} {mg : Str → Option Value} {base : Heap} {CX : CXT} {k : Nat} {f : Addr} {fd : FuncData} {ps : List Str} {sp : Sp} (no : ∀ vs H Q E, ¬ sp vs H Q E) : FnOk P w K mg base CX k f fd ps sp :=
  ⟨fun vs H Q E h => absurd h (no vs H Q E), fun A outer s H args us vs Q E _ _ _ _ h => absurd h (no vs H Q E)⟩
/-- data without dicts are one if they are alike in kind and content -/
def dEq (d e : PyData) : Prop := d = e
end Sa

namespace Sa
open PySem PySem.Spec PyProof.Rows L2
/-! ### dicts whose keys are numbers -/
/-- what a dict has at a number -/
def dv (kvs : List (Key × V)) (n : Int) : Option V := valV kvs (Sum.inl n : Key)
def dput (kvs : List (Key × V)) (n : Int) (v : V) : List (Key × V) := putK kvs (Sum.inl n : Key) v
theorem dv_put (kvs : List (Key × V)) (n m : Int) (v : V) : dv (dput kvs n v) m = if m = n then some v else dv kvs m := by
  unfold dv dput
  rw [valV_put]
  by_cases h : m = n
  · rw [if_pos h, if_pos (by rw [h])]
  · rw [if_neg h, if_neg (fun e => h (Sum.inl.inj e))]
theorem dv_nil (n : Int) : dv [] n = none := rfl
theorem dput_len (kvs : List (Key × V)) (n : Int) (v : V) : (dput kvs n v).length ≤ kvs.length + 1 := length_putK kvs _ v
def DNi (y x : V) (H : Hp) (Q : VK) : Prop := ∃ a o, x = .ref a ∧ DGet H a y o ∧ Q (.bl (!o.isSome)) H
def DIi (y x : V) (H : Hp) (Q : VK) : Prop := ∃ a o, x = .ref a ∧ DGet H a y o ∧ Q (.bl o.isSome) H
def DGt (x y : V) (H : Hp) (Q : VK) : Prop := ∃ a v, x = .ref a ∧ DGet H a y (some v) ∧ Q v H
def DG1 (td ty : TE) (x : V) (σ : L2.St) (H1 : Hp) (Q : VK) : Prop := ∃ a, x = .ref a ∧ IsD H1 a ∧ ty σ H1 fun y H2 => ∃ o, DGet H2 a y o ∧ Q (o.getD .non) H2
def DG2b (a : Addr) (y z : V) (H : Hp) (Q : VK) : Prop := ∃ o, DGet H a y o ∧ Q (o.getD z) H
def DG2a (ty tx : TE) (σ : L2.St) (x : V) (H1 : Hp) (Q : VK) : Prop := ∃ a, x = .ref a ∧ IsD H1 a ∧ ty σ H1 fun y H2 => tx σ H2 fun z H3 => DG2b a y z H3 Q
def DPu (x y v : V) (H : Hp) (N : Hp → Prop) : Prop := ∃ a H4, x = .ref a ∧ DPut H a y v H4 ∧ N H4
def DDs (ps : List (V × V)) (p : Addr) (H2 : Hp) (Q : VK) : Prop := H2 p = some (.dK []) ∧ ∃ kvs : List (Key × V), ps = kvs.map (fun kv => (kV kv.1, kv.2)) ∧ kvs.length ≤ 15 ∧ Q (.ref p) (upd H2 p (.dK (mergeK [] kvs)))
section
variable {K : PySem.W.Frag} {L L' : List Fc} {M M' : List Cell} {H : Hp} {σ : L2.St} {Q : VK} {a p b : Addr} {xs ys : List V} {v x y z : V} {D : Ends} {te td ty tx tv : TE} {t : TT} {ts tu : TS} {tr : TA} {kvs : List (Key × V)} {n : Int} {N : Hp → Prop}
theorem st_dni (q : ty σ H fun y H1 => td σ H1 fun x H2 => DNi y x H2 Q) : tDNotIn ty td σ H Q := q
theorem st_dii (q : ty σ H fun y H1 => td σ H1 fun x H2 => DIi y x H2 Q) : tDIn ty td σ H Q := q
theorem st_dgt (q : td σ H fun x H1 => ty σ H1 fun y H2 => DGt x y H2 Q) : tDGet td ty σ H Q := q
theorem st_dg2 (q : td σ H fun x H1 => DG2a ty tx σ x H1 Q) : tDGet2 td ty tx σ H Q := q
theorem st_dput (q : tv σ H fun v H1 => td σ H1 fun x H2 => ty σ H2 fun y H3 => DPu x y v H3 fun H4 => D.nx σ H4) : sDPut td ty tv D σ H := q
theorem dget_n (h : At L M (fK p kvs)) (hS : SA L M H) : DGet H p (.int n) (dv kvs n) := DGet.k (k := Sum.inl n) (h H hS)
theorem st_DNi (hS : SA L M H) (h : At L M (fK p kvs)) (q : Q (.bl (!(dv kvs n).isSome)) H) : DNi (.int n) (.ref p) H Q := ⟨p, _, rfl, dget_n h hS, q⟩
theorem st_DIi (hS : SA L M H) (h : At L M (fK p kvs)) (q : Q (.bl (dv kvs n).isSome) H) : DIi (.int n) (.ref p) H Q := ⟨p, _, rfl, dget_n h hS, q⟩
theorem st_DGt (hS : SA L M H) (h : At L M (fK p kvs)) (e : dv kvs n = some v) (q : Q v H) : DGt (.ref p) (.int n) H Q := ⟨p, v, rfl, by rw [← e]; exact dget_n h hS, q⟩
theorem st_DG2a (hS : SA L M H) (h : At L M (fK p kvs)) (q : ty σ H fun y H2 => tx σ H2 fun z H3 => DG2b p y z H3 Q) : DG2a ty tx σ (.ref p) H Q := ⟨p, rfl, .inl ⟨kvs, .inl (h H hS)⟩, q⟩
theorem st_DG2b (hS : SA L M H) (h : At L M (fK p kvs)) (q : Q ((dv kvs n).getD z) H) : DG2b p (.int n) z H Q := ⟨_, dget_n h hS, q⟩
theorem st_DPu (hS : SA L M H) (d : Chg M p (.dK kvs) (.dK (dput kvs n v)) M') (hl : kvs.length < 100000) (q : ∀ H', SA L M' H' → N H') : DPu (.ref p) (.int n) v H N :=
  ⟨p, _, rfl, DPut.k (k := Sum.inl n) (hS.at d.mem) (Nat.lt_of_lt_of_le hl (by decide)), q _ (hS.set d)⟩
theorem st_dnew (hS : SA L M H) (q : ∀ p H', SA L ((p, .dK []) :: M) H' → Q (.ref p) H') : tDNewK σ H Q := fun p hp => q p _ (hS.newM hp)
/-- a display {k: v} of one pair -/
theorem st_disp1 {tk : TE} (hS : SA L M H) (q : ∀ p H', SA L ((p, .dK []) :: M) H' → tk σ H' fun x H1 => tv σ H1 fun y H2 => DDs [(x, y)] p H2 Q) : tDisp [(tk, tv)] σ H Q := fun p hp => q p _ (hS.newM hp)
theorem st_DDs1 (hS : SA L ((p, .dK []) :: M) H) (q : ∀ H', SA L ((p, .dK (dput [] n v)) :: M) H' → Q (.ref p) H') : DDs [(.int n, v)] p H Q :=
  ⟨hS.at List.mem_cons_self, [(Sum.inl n, v)], rfl, (show 1 ≤ 15 by decide), q _ (hS.set .hd)⟩
end
end Sa

namespace Sa
open PySem PySem.Spec PyProof.Rows L2
/-- lo, lo + 1, .., n of them -/
def rg (lo : Int) (n : Nat) : List Int := (List.range n).map fun i => lo + (i : Nat)
theorem rg_len (lo : Int) (n : Nat) : (rg lo n).length = n := by unfold rg; rw [List.length_map, List.length_range]
theorem rg_get {lo : Int} {n i : Nat} (h : i < n) : (rg lo n)[i]? = some (lo + (i : Nat)) := by
  unfold rg
  rw [List.getElem?_map, List.getElem?_range h]
  rfl
theorem rg_succ (lo : Int) (n : Nat) : rg lo (n + 1) = rg lo n ++ [lo + (n : Nat)] := by
  unfold rg
  rw [List.range_succ, List.map_append]
  rfl
theorem mem_rg {lo : Int} {n : Nat} {x : Int} : x ∈ rg lo n ↔ lo ≤ x ∧ x < lo + n := by
  unfold rg
  rw [List.mem_map]
  constructor
  · rintro ⟨i, hi, rfl⟩
    have := List.mem_range.mp hi
    omega
  · intro h
    exact ⟨(x - lo).toNat, List.mem_range.mpr (by omega), by omega⟩
section
variable {K : PySem.W.Frag} {L L' : List Fc} {M M' : List Cell} {H : Hp} {σ : L2.St} {Q : VK} {a p b : Addr} {xs ys : List V} {v x y z : V} {D : Ends} {ta tb te td ty tx tv : TE} {t : TT} {ts tu : TS} {tr : TA} {ns ms : List Int} {N : Hp → Prop}
theorem rgV_rg (i j : Int) : rgV i j = (rg i (j - i).toNat).map V.int := by
  unfold rgV rg
  rw [List.map_map]
  rfl
/-- list(range(..)) -/
def LRg (i j : Int) (H : Hp) (Q : VK) : Prop := RgOk i j ∧ ∀ q, H q = none → Q (.ref q) (upd H q (.lst (rgV i j)))
theorem st_lr1 (q : ta σ H fun x H1 => ∃ n, x = .int n ∧ LRg 0 n H1 Q) : tLstRg (tRg1 ta) σ H Q := q
theorem st_lr2 (q : ta σ H fun x H1 => tb σ H1 fun y H2 => ∃ i j, x = .int i ∧ y = .int j ∧ LRg i j H2 Q) : tLstRg (tRg2 ta tb) σ H Q := q
theorem st_lr2b {i j : Int} (q : LRg i j H Q) : ∃ i' j', V.int i = .int i' ∧ V.int j = .int j' ∧ LRg i' j' H Q := ⟨i, j, rfl, rfl, q⟩
theorem st_LRg {i j : Int} (hS : SA L M H) (h0 : -100000 ≤ i) (h1 : j ≤ 100000) (h2 : i ≤ 100000) (h3 : -100000 ≤ j) (q : ∀ p H', SA L ((p, .lst ((rg i (j - i).toNat).map V.int)) :: M) H' → Q (.ref p) H') : LRg i j H Q :=
  ⟨⟨by omega, by omega, by omega, by omega, by omega⟩, fun p hp => by
    rw [rgV_rg]
    exact q p _ (hS.newM hp)⟩
/-- x in xs -/
theorem flat_ints : ∀ ns : List Int, (ns.map V.int).all flatV = true
  | [] => rfl
  | n :: ns => by
    rw [List.map_cons, List.all_cons, flat_ints ns]
    rfl
theorem inV_ints (n : Int) : ∀ ns : List Int, inV (.int n) (ns.map V.int) = decide (n ∈ ns)
  | [] => rfl
  | m :: ns => by
    have ih := inV_ints n ns
    unfold inV at ih ⊢
    rw [List.map_cons, List.any_cons, ih]
    have e : eqV (.int m) (.int n) = decide (n = m) := by
      show (m == n) = decide (n = m)
      by_cases h : n = m
      · rw [h]; simp
      · have h2 : ¬ m = n := fun e => h e.symm
        simp [h, h2]
    rw [e]
    by_cases h : n = m
    · simp [h]
    · simp [h]
theorem st_in {n : Int} (hS : SA L M H) (h : At L M (fQ K a (ns.map V.int))) (q : Q (.bl (decide (n ∈ ns))) H) : rIn K false (.int n) (.ref a) H Q :=
  ⟨a, _, rfl, .inl (h H hS), rfl, flat_ints ns, by
    rw [inV_ints]
    exact q⟩
theorem st_notIn {n : Int} (hS : SA L M H) (h : At L M (fQ K a (ns.map V.int))) (q : Q (.bl (!decide (n ∈ ns))) H) : rIn K true (.int n) (.ref a) H Q :=
  ⟨a, _, rfl, .inl (h H hS), rfl, flat_ints ns, by
    rw [inV_ints]
    exact q⟩
/-! ### comprehensions of numbers over numbers -/
theorem lcI_turn {Dl : Addr} {σ2 : L2.St} {P : Int → Bool} {F : Int → Int} {is : List Int} {i : Nat} {n : Int} (hi : is[i]? = some n) (hl : is.length < 50000) (hS : SA L ((Dl, .lst ((((is.take i).filter P).map F).map V.int)) :: M) H)
    (ht : EvT t σ2 L ((Dl, .lst ((((is.take i).filter P).map F).map V.int)) :: M) (P n)) (he : P n = true → EvV te σ2 L ((Dl, .lst ((((is.take i).filter P).map F).map V.int)) :: M) (.int (F n))) :
    t σ2 H fun b H3 => if b = true then te σ2 H3 fun y H4 => ∃ acc, H4 Dl = some (.lst acc) ∧ acc.length < sizeLine ∧ SA L ((Dl, .lst ((((is.take (i + 1)).filter P).map F).map V.int)) :: M) (upd H4 Dl (.lst (acc ++ [y]))) else SA L ((Dl, .lst ((((is.take (i + 1)).filter P).map F).map V.int)) :: M) H3 := by
  refine ht H hS _ fun H3 hS3 => ?_
  have e1 : is.take (i + 1) = is.take i ++ [n] := take_at hi
  cases hf : P n with
  | true =>
    refine if_t ?_
    refine he hf H3 hS3 _ fun H4 hS4 => ⟨_, hS4.at List.mem_cons_self, ?_, ?_⟩
    · rw [List.length_map, List.length_map]
      have h1 := List.length_filter_le P (is.take i)
      rw [List.length_take] at h1
      exact Nat.lt_of_le_of_lt h1 (Nat.lt_of_le_of_lt (Nat.min_le_right _ _) (Nat.lt_of_lt_of_le hl (by decide)))
    · have e2 : (((is.take i).filter P).map F).map V.int ++ [V.int (F n)] = (((is.take (i + 1)).filter P).map F).map V.int := by
        rw [e1, List.filter_append, List.filter_cons, if_pos hf, List.map_append, List.map_append]
        rfl
      rw [e2]
      exact hS4.set .hd
  | false =>
    refine if_f ?_
    have e2 : (is.take (i + 1)).filter P = (is.take i).filter P := by
      rw [e1, List.filter_append, List.filter_cons, if_neg (by rw [hf]; decide)]
      simp
    rw [e2]
    exact hS3
/-- [F n for n in xs if P n] -/
theorem lcI_list {j : Nat} {vs : List Nat} (P : Int → Bool) (F : Int → Int) (hS : SA L M H) (hx : At L M (fQ K a (ns.map V.int))) (hn : ns.length < 50000) (hw : ∀ x, wipe ((wipe σ vs).set j (some x)) vs = wipe σ vs)
    (ht : ∀ (n : Int) (Dl : Addr) acc, n ∈ ns → EvT t ((wipe σ vs).set j (some (.int n))) L ((Dl, .lst acc) :: M) (P n))
    (he : ∀ (n : Int) (Dl : Addr) acc, n ∈ ns → P n = true → EvV te ((wipe σ vs).set j (some (.int n))) L ((Dl, .lst acc) :: M) (.int (F n)))
    (q : ∀ Dl H', SA L ((Dl, .lst (((ns.filter P).map F).map V.int)) :: M) H' → Q (.ref Dl) H') : Lc (Itl K a) (gName j) t te vs σ Q H := fun Dl hD =>
  lc_it (walk_list (xs := ns.map V.int)) (fun i H => SA L ((Dl, .lst ((((ns.take i).filter P).map F).map V.int)) :: M) H) (hS.newM hD) (fun i H _ hp => hx H hp.dropM) (fun i x H H' hi hp hy => by
    obtain ⟨rfl, hx⟩ := hy
    obtain ⟨n, hn2, rfl⟩ := ints_at hx
    have hm := List.mem_of_getElem? hn2
    exact ⟨hw _, lcI_turn hn2 hn hp (ht n Dl _ hm) (he n Dl _ hm)⟩) (fun H' hp => q Dl H' (by
    rw [List.length_map, List.take_length] at hp
    exact hp))
/-- [F n for n in range(lo, ..) if P n] -/
theorem lcI_rng {lo : Int} {m j : Nat} {vs : List Nat} (P : Int → Bool) (F : Int → Int) (hS : SA L M H) (hn : m < 50000) (hw : ∀ x, wipe ((wipe σ vs).set j (some x)) vs = wipe σ vs)
    (ht : ∀ (n : Int) (Dl : Addr) acc, lo ≤ n → n < lo + m → EvT t ((wipe σ vs).set j (some (.int n))) L ((Dl, .lst acc) :: M) (P n))
    (he : ∀ (n : Int) (Dl : Addr) acc, lo ≤ n → n < lo + m → P n = true → EvV te ((wipe σ vs).set j (some (.int n))) L ((Dl, .lst acc) :: M) (.int (F n)))
    (q : ∀ Dl H', SA L ((Dl, .lst ((((rg lo m).filter P).map F).map V.int)) :: M) H' → Q (.ref Dl) H') : Lc (Itr lo m) (gName j) t te vs σ Q H := fun Dl hD =>
  lc_it (walk_range (lo := lo) (n := m)) (fun i H => SA L ((Dl, .lst (((((rg lo m).take i).filter P).map F).map V.int)) :: M) H) (hS.newM hD) (fun _ _ _ _ => trivial) (fun i x H H' hi hp hy => by
    obtain ⟨rfl, rfl⟩ := hy
    exact ⟨hw _, lcI_turn (rg_get hi) (by rw [rg_len]; exact hn) hp (ht _ Dl _ (by omega) (by omega)) (he _ Dl _ (by omega) (by omega))⟩) (fun H' hp => q Dl H' (by
    rw [List.take_of_length_le (by rw [rg_len]; exact Nat.le_refl _)] at hp
    exact hp))
theorem filt_true {α : Type} (l : List α) : l.filter (fun _ => true) = l := List.filter_eq_self.mpr (fun _ _ => rfl)
/-- data of a list of numbers -/
theorem At.dL (h : At L M (fL a (ns.map V.int))) : At L M (fD K (.ref a) (.list (ns.map PyData.int))) := fun H s => dp_ints (SqL.of (h H s))
end
theorem ints_inj {ns ms : List Int} (h : PyData.list (ns.map PyData.int) = PyData.list (ms.map PyData.int)) : ns = ms := by
  have h1 : ns.map PyData.int = ms.map PyData.int := PyData.list.inj h
  exact List.map_inj_right (fun a b e => PyData.int.inj e) |>.mp h1
end Sa
namespace Sa
open PySem PySem.Spec PyProof.Rows L2
/-! ### rules whose written part is told by name (within a comprehension) -/
section
variable {X : Cx} {K : PySem.W.Frag}
theorem ix_listK (h : X.K = K) : IxR X (rIxL K) := by subst h; exact ix_list
theorem ix_seqK (h : X.K = K) : IxR X (rIx K) := by subst h; exact ix_seq
theorem ix_tupK (h : X.K = K) : IxR X (rIxT K) := by subst h; exact ix_tup
theorem call_lenK (h : X.K = K) : CallR X (.builtin "len") (rLen K) := by subst h; exact call_len
theorem call_list_ofK (h : X.K = K) : CallR X (.type "list") (rListOf K) := by subst h; exact call_list_of
theorem op_in_seqK (h : X.K = K) : OpR X (compareOp .In) (rIn K false) := by subst h; exact op_in_seq
theorem op_notIn_seqK (h : X.K = K) : OpR X (compareOp .NotIn) (rIn K true) := by subst h; exact op_notIn_seq
theorem cr_maxK (hc : X.calm = true) (h : X.K = K) : CallR X (.builtin "max") (rMax K) := by subst h; exact cr_max hc
theorem cr_minK (hc : X.calm = true) (h : X.K = K) : CallR X (.builtin "min") (rMin K) := by subst h; exact cr_min hc
theorem cr_sumK (hc : X.calm = true) (h : X.K = K) : CallR X (.builtin "sum") (rSum K) := by subst h; exact cr_sum hc
theorem op_eqDK (hu : X.A.units + 64 < cLine) (h : X.K = K) : OpR X (compareOp .Eq) (rEqD K) := by subst h; exact op_eqD hu
theorem op_neDK (hu : X.A.units + 64 < cLine) (h : X.K = K) : OpR X (compareOp .NotEq) (rNeD K) := by subst h; exact op_neD hu
theorem call_isiK (h : X.K = K) : CallR X (.builtin "isinstance") (rIsi K) := by subst h; exact call_isi
theorem call_isiTK (h : X.K = K) : CallR X (.builtin "isinstance") (rIsiT K) := by subst h; exact call_isiT
theorem sl_listK (h : X.K = K) : SlR X (rSlL K) := by subst h; exact sl_list
theorem pg_tupK {es : List Expr} {k : Nat} {t : TGs} {n : Nat} {pos : Pos} (hK : X.K = K) (hc : X.calm = true) (h : PGs X es t) (hn : (assignEach es X.env).length = n) (hst : (assignEach es X.env).findIdx? (·.1) = none := by rfl) : PG X (.Tuple es k pos) (gTup K n t) := by
  subst hK
  subst hn
  exact pg_tup hc h rfl hst
end
end Sa

namespace Sa
open PySem PySem.Spec PyProof.Rows L2 HT PyProof
/-! ### xs[a:] = ys -/
theorem bounds_from {a n : Nat} (ha : a ≤ n) : sliceBounds (some (a : Int)) none none n = ((a : Int), (n : Int), 1) := by
  simp only [sliceBounds, Option.getD_none]
  have h1 : ¬ ((a : Int) < 0) := by omega
  simp only [h1, if_false, show (1 : Int) > 0 by decide, if_true]
  congr 1
  omega
theorem setItem_from {prog : Program} {w : World} {A : Around} {E : Value → Shared → Prop} {s : Shared} {l b sl : Addr} {items new : Array Value} {n n2 : Nat} {vl : Value} {a : Nat} {Q : Unit → Shared → Prop}
    (e : s.heap.get? l = some { cls := .type "list", data := .seq items n }) (e2 : s.heap.get? b = some { cls := .type "list", data := .seq new n2 }) (hne : l ≠ b)
    (hs : s.heap.IsSliceOf sl vl .none .none) (pl : IsPart vl (some (a : Int))) (ha : a ≤ items.size)
    (hsz : items.size + new.size ≤ sizeLine) (h : Q () { s with heap := s.heap.update l (Obj.mapSeq fun xs => xs.extract 0 a ++ new ++ xs.extract items.size xs.size) }) :
    wpAny (model prog w) A (setItem (.ref l) (.ref sl) (.ref b)) Q E s := by
  have hl : s.heap.IsList l items := PySem.IsL.isList e
  have hb : s.heap.IsList b new := PySem.IsL.isList e2
  obtain ⟨os, hos, hcs, hds⟩ := id hs
  have hTs : s.TypeIs (.ref sl) "slice" := ⟨os, hos, hcs⟩
  have hstep : ¬ ((rawPart none == rawInt 0) = true) := Bool.false_ne_true
  have hsame : Builtin.List.listSameRef (.ref l) (.ref b) = false := by
    unfold Builtin.List.listSameRef
    exact beq_eq_false_iff_ne.mpr hne
  have hmax : (max (a : Int) (items.size : Int)).toNat = items.size := by omega
  have hz' : ((fun xs : Array Value => xs.extract 0 a ++ new ++ xs.extract items.size xs.size) items).size ≤ sizeLine + 1 := by
    simp only [Array.size_append, Array.size_extract]
    omega
  unfold setItem
  try with_reducible refine wpAny_holding ?_
  first | refine wpAny_bind (wpAny_pure ?_) | skip
  refine wpAny_bind (wpAny_sequenceKey hl.typeIs (by decide) ?_)
  refine wpAny_bind (wpAny_callSpecial?_slot (name := Str.ofString "__setitem__") hl.typeIs slot_list_setitem
    (wpAny_call_entry slot_list_setitem hl.typeIs entry_list_setitem ?_ (args_list_setitem _ _ _)))
  show wpAny _ _ (Builtin.List.listSubscript? (.ref sl) >>= _) _ _ s
  refine wpAny_bind ?_
  unfold Builtin.List.listSubscript?
  refine wpAny_bind (wpAny_specialOf hTs slice_no_index ?_)
  simp only [Option.isNone_none, if_true]
  refine wpAny_pure ?_
  show wpAny _ _ (typeOf (.ref sl) >>= _) _ _ s
  refine wpAny_bind (wpAny_typeOf hTs ?_)
  first
    | rw [if_neg (by decide)]
    | refine PySem.W.KFB.if_not (by decide) ?_
  rw [listSliceParts_eq]
  refine wpAny_bind (wpAny_bind (wpAny_field hos hds (x := .none) rfl (wpAny_bind (wpAny_listPart .none ?_))))
  rw [if_neg hstep]
  refine wpAny_bind (wpAny_field hos hds (x := vl) rfl (wpAny_bind (wpAny_listPart pl ?_)))
  refine wpAny_bind (wpAny_field hos hds (x := .none) rfl (wpAny_bind (wpAny_listPart .none (wpAny_pure ?_))))
  first
    | simp only [hsame, Bool.false_eq_true, if_false]
    | refine PySem.W.KFB.if_not hsame ?_
    | (dsimp only
       rw [if_neg (by rw [hsame]; exact Bool.false_ne_true)])
  refine wpAny_bind (m := Builtin.List.listAllItems (.ref b) "must assign iterable to extended slice") ?_
  unfold Builtin.List.listAllItems
  refine wpAny_bind (wpAny_typeOf hb.typeIs ?_)
  first
    | refine PySem.W.KFB.if_so (by decide) ?_
    | rw [if_pos (by decide)]
    | simp only [beq_self_eq_true, Bool.true_or, if_true]
  unfold Builtin.List.listItems
  refine wpAny_bind (wpAny_seqItems e2 rfl (wpAny_pure ?_))
  refine wpAny_bind (wpAny_bind (wpAny_seqItems e rfl (wpAny_pure ?_)))
  refine wpAny_bind (wpAny_of_eq ((sliceIndices_raw (some (a : Int)) none none items.size (by simp)).trans (congrArg (pure : Int × Int × Int → Sem (Int × Int × Int)) (bounds_from ha))) ?_)
  show wpAny _ _ (if ((1 : Int) == 1) = true then _ else _) _ _ s
  rw [if_pos (by decide)]
  refine wpAny_bind (wpAny_rule ?_)
  first
    | simp only [notLongL hsz, Bool.false_eq_true, if_false]
    | refine PySem.W.KFB.if_not (notLongL hsz) ?_
  first | refine wpAny_bind (wpAny_pure ?_) | skip
  show wpAny _ _ (updateSeq l (fun xs => xs.extract 0 ((a : Int)).toNat ++ new ++ xs.extract (max (a : Int) (items.size : Int)).toNat xs.size) >>= _) _ _ s
  rw [hmax, Int.toNat_natCast]
  refine wpAny_bind (wpAny_updateSeq (hz := Nat.le_trans (Nat.le_add_right _ _) hsz) (_hz' := hz') e rfl ?_)
  refine wpAny_bind (wpAny_letGo ?_)
  first
    | exact wpAny_bind (wpAny_pure (wpAny_pure ⟨.none, rfl, wpAny_pure h⟩))
    | exact wpAny_pure ⟨.none, rfl, wpAny_pure h⟩
theorem splice_from (its ys : List Value) (a : Nat) (ha : a ≤ its.length) : (its.toArray.extract 0 a ++ ys.toArray ++ its.toArray.extract its.toArray.size its.toArray.size) = (its.take a ++ ys).toArray := by
  have h := splice_eq its ys a its.length
  rw [List.size_toArray] at h ⊢
  rw [h, List.drop_length, List.append_nil]
def SetFrom (o i v : V) (H : Hp) (N : Hp → Prop) : Prop := ∃ l b a xs ys, o = .ref l ∧ i = .int a ∧ v = .ref b ∧ H l = some (.lst xs) ∧ H b = some (.lst ys) ∧ l ≠ b ∧ 0 ≤ a ∧ a ≤ xs.length ∧ xs.length + ys.length ≤ sizeLine ∧ N (upd H l (.lst (xs.take a.toNat ++ ys)))
theorem set_from {X : Cx} {pins : List (Addr × Obj)} {s : Shared} {σ : L2.St} {H : Hp} {l b sl : Addr} {xs ys : List V} {a : Int} {vl : Value} {Q : Unit → Shared → Prop} (I : Inv X pins σ H s)
    (hH : H l = some (.lst xs)) (hB : H b = some (.lst ys)) (hne : l ≠ b) (hs : s.heap.IsSliceOf sl vl .none .none) (ra : RelV (.int a) vl) (h0 : 0 ≤ a) (hac : a ≤ xs.length)
    (hz : xs.length + ys.length ≤ sizeLine) (h : ∀ s', Inv X pins σ (upd H l (.lst (xs.take a.toNat ++ ys))) s' → Q () s') :
    wpAny (model X.prog X.w) X.A (setItem (.ref l) (.ref sl) (.ref b)) Q X.xe s := by
  obtain ⟨ta, rfl⟩ := ra
  obtain ⟨z, its, n, r, hl, e⟩ := I.lstM hH
  obtain ⟨z2, its2, n2, r2, hl2, e2⟩ := I.lstM hB
  obtain ⟨a', rfl⟩ := Int.eq_ofNat_of_zero_le h0
  simp only [Int.toNat_natCast] at h
  refine setItem_from (a := a') e e2 hne hs (.int _ _) (by rw [List.size_toArray]; omega) (by rw [List.size_toArray, List.size_toArray]; omega) (h _ ?_)
  refine I.lset (its' := its.take a' ++ its2) (t' := s.toks) hH e ?_ (Vals.append (r.take _) r2) ?_
  · exact splice_from its its2 a' (by omega)
  · rw [List.length_append, List.length_take]
    omega
/-- o[i:] = .. -/
def gFrom (to ti : TE) : TG := fun v σ H Q => to σ H fun o H1 => ti σ H1 fun i H2 => SetFrom o i v H2 fun H3 => Q σ H3
theorem pg_from {X : Cx} {o i : Expr} {to ti : TE} {p2 pos : Pos} (ho : PE X o to) (hi : PE X i ti)
    (ha : ∀ v, assign (.Subscript o (.Slice (some i) none none p2) pos) X.env v = (do
      let ov ← holding [v] (eval o X.env)
      let iv ← holding [v, ov] (eval (.Slice (some i) none none p2) X.env)
      standAt pos
      holding [v, ov, iv] (setItem ov iv v)
      release [iv, v, ov] []) := by intro _; rfl) : PG X (.Subscript o (.Slice (some i) none none p2) pos) (gFrom to ti) := by
  refine ⟨fun pins s σ H v u Q I r h => ?_⟩
  rw [ha]
  refine wpAny_bind (wpAny_holding (thn (ho.run pins s σ H _ I h) fun ov s1 ⟨x, H1, I1, r1, q1⟩ => ?_))
  refine wpAny_bind (wpAny_holding (wpAny_Slice ?_))
  rw [evalPart_some]
  refine thn (hi.run pins s1 σ H1 _ I1 q1) fun iv s2 ⟨y, H2, I2, r2, l, b, a, xs, ys, ex, ey, ev, hH, hB, hne, h0, h1, hz, q2⟩ => ?_
  subst ex ey ev
  rw [evalPart_none]
  refine wpAny_pure ?_
  refine wpAny_pure ?_
  have I4 : Inv X pins σ H2 { s2 with heap := s2.heap.push { cls := .type "slice", data := .fields #[iv, .none, .none] } } := I2.kept (t' := s2.toks) fun b ob q => Heap.get?_push_of_some _ q
  obtain rfl : ov = Value.ref l := r1
  obtain rfl : u = Value.ref b := r
  refine wpAny_bind (wpAny_standAt (wpAny_bind (wpAny_holding (set_from I4 hH hB hne (Heap.IsSliceOf.new ..) r2 h0 h1 hz fun s3 I3 => ?_))))
  exact wpAny_release ⟨σ, _, I3, q2⟩
theorem st_from {L : List Fc} {M M' : List Cell} {H : Hp} {l b : Addr} {a : Int} {ns ms : List Int} {N : Hp → Prop} (hS : SA L M H) (d : Chg M l (.lst (ns.map V.int)) (.lst ((ns.take a.toNat ++ ms).map V.int)) M') (hb : (b, .lst (ms.map V.int)) ∈ M) (hne : l ≠ b) (h0 : 0 ≤ a) (h1 : a ≤ ns.length)
    (hz : ns.length + ms.length ≤ 100000) (q : ∀ H', SA L M' H' → N H') : SetFrom (.ref l) (.int a) (.ref b) H N :=
  ⟨l, b, a, _, _, rfl, rfl, rfl, hS.at d.mem, hS.at hb, hne, h0, by rw [List.length_map]; exact h1, by rw [List.length_map, List.length_map]; exact Nat.le_trans hz (by decide), by
    rw [← List.map_take, ← List.map_append]
    exact q _ (hS.set d)⟩
theorem Del.mem1 {M M' : List Cell} {a : Addr} {o o' : HO} (d : Chg M a o o' M') : a ∈ M.map (·.1) := List.mem_map.mpr ⟨_, d.mem, rfl⟩
theorem st_gFrom {to ti : TE} {v : V} {σ : L2.St} {H : Hp} {N : L2.St → Hp → Prop} (q : to σ H fun o H1 => ti σ H1 fun i H2 => SetFrom o i v H2 fun H3 => N σ H3) : gFrom to ti v σ H N := q
/-- the list that is put in has just been made -/
theorem st_from1 {L : List Fc} {M M' : List Cell} {H : Hp} {l b : Addr} {a : Int} {ns ms : List Int} {N : Hp → Prop} (hS : SA L ((b, .lst (ms.map V.int)) :: M) H) (d : Chg M l (.lst (ns.map V.int)) (.lst ((ns.take a.toNat ++ ms).map V.int)) M') (h0 : 0 ≤ a) (h1 : a ≤ ns.length)
    (hz : ns.length + ms.length ≤ 100000) (q : ∀ H', SA L ((b, .lst (ms.map V.int)) :: M') H' → N H') : SetFrom (.ref l) (.int a) (.ref b) H N :=
  st_from hS (.tl d) List.mem_cons_self (fun e => by
    have h := hS.nd
    rw [List.map_cons] at h
    exact (List.nodup_cons.mp h).1 (e ▸ Del.mem1 d)) h0 h1 hz q
end Sa

namespace Sa
open PySem PySem.Spec PyProof.Rows L2
/-! ### methods of lists of numbers; d.setdefault -/
def FirstAt (l : List Int) (v : Int) (c : Nat) : Prop := l[c]? = some v ∧ ∀ m, m < c → l[m]? ≠ some v
theorem first_ex {v : Int} : ∀ {l : List Int}, v ∈ l → ∃ c, FirstAt l v c
  | x :: t, h => by
    by_cases hx : x = v
    · exact ⟨0, by rw [hx]; rfl, fun m hm => absurd hm (Nat.not_lt_zero _)⟩
    · have ht : v ∈ t := by
        rcases List.mem_cons.mp h with h2 | h2
        · exact absurd h2.symm hx
        · exact h2
      obtain ⟨c, h1, h2⟩ := first_ex ht
      refine ⟨c + 1, h1, fun m hm => ?_⟩
      cases m with
      | zero => exact fun e => hx (Option.some.inj e)
      | succ m => exact h2 m (by omega)
section
variable {K : PySem.W.Frag} {L L' : List Fc} {M M' : List Cell} {H : Hp} {σ : L2.St} {Q : VK} {a p b : Addr} {ns ms : List Int} {v x y z : V} {ty tx td ta : TE} {kvs : List (Key × V)} {n : Int}
theorem st_count (hS : SA L M H) (h : At L M (fQ K a (ns.map V.int))) (q : Q (.int ((ns.count n : Nat) : Int)) H) : rCntI K (.ref a) [.int n] H Q := ⟨a, ns, n, rfl, rfl, h H hS, q⟩
theorem st_index (hS : SA L M H) (h : At L M (fQ K a (ns.map V.int))) (hn : n ∈ ns) (q : ∀ j : Nat, FirstAt ns n j → Q (.int (j : Int)) H) : rIndex K (.ref a) [.int n] H Q := by
  obtain ⟨j, h1, h2⟩ := first_ex hn
  refine ⟨a, _, .int n, j, .int n, rfl, rfl, h H hS, rfl, flat_ints ns, by rw [List.getElem?_map, h1]; rfl, by show (n == n) = true; simp, fun m z hm hz => ?_, q j ⟨h1, h2⟩⟩
  rw [List.getElem?_map] at hz
  cases hc : ns[m]? with
  | none => rw [hc] at hz; cases hz
  | some c =>
    rw [hc] at hz
    cases hz
    show (c == n) = false
    have := h2 m hm
    rw [hc] at this
    simpa using fun e => this (by rw [e])
theorem st_bm0 {T : String} {rr : V → List V → Hp → VK → Prop} (q : ta σ H fun x H1 => tyV K T x H1 ∧ rr x [] H1 Q) : tBM0 K T rr ta σ H Q := q
theorem st_rev (hS : SA L M H) (d : Chg M p (.lst (ns.map V.int)) (.lst (ns.reverse.map V.int)) M') (q : ∀ H', SA L M' H' → Q .non H') : rReverse (.ref p) [] H Q :=
  ⟨p, _, rfl, rfl, hS.at d.mem, by rw [← List.map_reverse]; exact q _ (hS.set d)⟩
def DSb (a : Addr) (y z : V) (H3 : Hp) (Q : VK) : Prop := ∃ (kvs : List (Key × V)) (k : Key), H3 a = some (.dK kvs) ∧ y = kV k ∧ kvs.length < sizeLine ∧ (∀ v, valV kvs k = some v → Q v H3) ∧ (valV kvs k = none → Q z (upd H3 a (.dK (putK kvs k z))))
def DSa (ty tx : TE) (σ : L2.St) (x : V) (H1 : Hp) (Q : VK) : Prop := ∃ a, x = .ref a ∧ IsD H1 a ∧ ty σ H1 fun y H2 => tx σ H2 fun z H3 => DSb a y z H3 Q
theorem st_dsd (q : td σ H fun x H1 => DSa ty tx σ x H1 Q) : tDSetd td ty tx σ H Q := q
theorem st_DSa (hS : SA L M H) (h : At L M (fK p kvs)) (q : ty σ H fun y H2 => tx σ H2 fun z H3 => DSb p y z H3 Q) : DSa ty tx σ (.ref p) H Q := ⟨p, rfl, .inl ⟨kvs, .inl (h H hS)⟩, q⟩
theorem st_DSb (hS : SA L ((p, .dK kvs) :: M) H) (hl : kvs.length < 100000) (q : ∀ v kvs' H', (∀ m, dv kvs' m = if m = n then some ((dv kvs n).getD z) else dv kvs m) → kvs'.length ≤ kvs.length + 1 → SA L ((p, .dK kvs') :: M) H' → Q v H') : DSb p (.int n) z H Q := by
  refine ⟨kvs, Sum.inl n, hS.at List.mem_cons_self, rfl, Nat.lt_of_lt_of_le hl (by decide), fun v hv => ?_, fun hv => ?_⟩
  · refine q v kvs H (fun m => ?_) (Nat.le_succ _) hS
    have e : dv kvs n = some v := hv
    by_cases h : m = n
    · rw [if_pos h, h, e]
      rfl
    · rw [if_neg h]
  · refine q z (dput kvs n z) _ (fun m => ?_) (dput_len kvs n z) (hS.set .hd)
    have e : dv kvs n = none := hv
    rw [dv_put, e]
    rfl
end
end Sa

namespace Sa
open PySem PySem.Spec PyProof.Rows L2
/-! ### cells in groups; facts by their place -/
theorem SA.append1 {L : List Fc} {M : List Cell} {H : Hp} : ∀ {B : List Cell}, SA L (B ++ M) H → SA L M H
  | [], h => h
  | _ :: _, h => SA.append1 h.dropM
theorem Chg.app {M M' : List Cell} {a : Addr} {o o' : HO} (h : Chg M a o o' M') : ∀ {B : List Cell}, Chg (B ++ M) a o o' (B ++ M')
  | [] => h
  | _ :: _ => .tl (Chg.app h)
theorem Del.app {M M' : List Cell} {a : Addr} {o : HO} (h : Del M a o M') : ∀ {B : List Cell}, Del (B ++ M) a o (B ++ M')
  | [] => h
  | _ :: _ => .tl (Del.app h)
theorem At.ap {L : List Fc} {M : List Cell} {f : Fc} {B : List Cell} (h : At L M f) : At L (B ++ M) f := fun H s => h H s.append1
/-- a group taken out -/
inductive Grp : List Cell → List Cell → List Cell → Prop
  | hd {B M : List Cell} : Grp (B ++ M) B M
  | tl {M B M' : List Cell} {c : Cell} : Grp M B M' → Grp (c :: M) B (c :: M')
  | ap {M B M' A : List Cell} : Grp M B M' → Grp (A ++ M) B (A ++ M')
theorem Grp.perm {M B M' : List Cell} (h : Grp M B M') : M.Perm (B ++ M') := by
  induction h with
  | hd => exact List.Perm.refl _
  | tl _ ih => exact (List.Perm.cons _ ih).trans List.perm_middle.symm
  | @ap M B M' A _ ih =>
    refine (List.Perm.append_left A ih).trans ?_
    rw [← List.append_assoc, ← List.append_assoc]
    exact List.Perm.append_right _ List.perm_append_comm
theorem SA.grp {L : List Fc} {M B M' : List Cell} {H : Hp} (h : SA L M H) (g : Grp M B M') : SA L (B ++ M') H := h.perm g.perm
theorem SA.ungrp {L : List Fc} {M B M' : List Cell} {H : Hp} (h : SA L (B ++ M') H) (g : Grp M B M') : SA L M H := h.perm g.perm.symm
/-- a fact is among them -/
inductive In1 (f : Fc) : List Fc → Prop
  | hd {L : List Fc} : In1 f (f :: L)
  | tl {L : List Fc} {g : Fc} : In1 f L → In1 f (g :: L)
theorem In1.mem {f : Fc} {L : List Fc} (h : In1 f L) : f ∈ L := by
  induction h with
  | hd => exact List.mem_cons_self
  | tl _ ih => exact List.mem_cons_of_mem _ ih
theorem In1.at {f : Fc} {L : List Fc} {M : List Cell} (h : In1 f L) : At L M f := At.mem h.mem
inductive Sub : List Fc → List Fc → Prop
  | nil {L : List Fc} : Sub [] L
  | rest {L : List Fc} : Sub L L
  | cons {L L' : List Fc} {f : Fc} : In1 f L → Sub L' L → Sub (f :: L') L
  | tl {L L' : List Fc} {f : Fc} : Sub L' L → Sub L' (f :: L)
theorem Sub.mem {L L' : List Fc} (h : Sub L' L) : ∀ f ∈ L', f ∈ L := by
  induction h with
  | nil => exact fun f h => nomatch h
  | rest => exact fun f h => h
  | cons h1 _ ih =>
    intro f hf
    rcases List.mem_cons.mp hf with rfl | hf
    · exact h1.mem
    · exact ih f hf
  | tl _ ih => exact fun f hf => List.mem_cons_of_mem _ (ih f hf)
theorem SA.subs {L L' : List Fc} {M : List Cell} {H : Hp} (h : SA L M H) (q : Sub L' L) : SA L' M H := h.subL q.mem
inductive SubM : List Cell → List Cell → Prop
  | same {M : List Cell} : SubM M M
  | cons {M M1 M2 : List Cell} {a : Addr} {o : HO} : Del M a o M1 → SubM M2 M1 → SubM ((a, o) :: M2) M
  | grp {M M1 M2 B : List Cell} : Grp M B M1 → SubM M2 M1 → SubM (B ++ M2) M
  | skip {M M2 : List Cell} {c : Cell} : SubM M2 M → SubM M2 (c :: M)
  | skipB {M M2 B : List Cell} : SubM M2 M → SubM M2 (B ++ M)
theorem SubM.perm {M M2 : List Cell} (h : SubM M2 M) : ∃ R, M.Perm (M2 ++ R) := by
  induction h with
  | same => exact ⟨[], by rw [List.append_nil]⟩
  | cons d _ ih =>
    obtain ⟨R, hR⟩ := ih
    exact ⟨R, d.perm.trans (List.Perm.cons _ hR)⟩
  | @grp M M1 M2 B g _ ih =>
    obtain ⟨R, hR⟩ := ih
    refine ⟨R, g.perm.trans ?_⟩
    rw [List.append_assoc]
    exact List.Perm.append_left _ hR
  | skip _ ih =>
    obtain ⟨R, hR⟩ := ih
    exact ⟨_ :: R, (List.Perm.cons _ hR).trans List.perm_middle.symm⟩
  | @skipB M M2 B _ ih =>
    obtain ⟨R, hR⟩ := ih
    exact ⟨B ++ R, (List.Perm.append_left B hR).trans (List.perm_append_comm_assoc B M2 R)⟩
theorem SA.take {L L' : List Fc} {M M2 : List Cell} {H : Hp} (h : SA L M H) (q : Sub L' L) (p : SubM M2 M) : SA L' M2 H := by
  obtain ⟨R, hR⟩ := p.perm
  exact ((h.subs q).perm hR).front_of

/-! ### attributes -/
def fpos : List Str → Str → Option Nat
  | [], _ => none
  | n :: ns, f => if n = f then some 0 else (fpos ns f).map (· + 1)
def flds (ns : List Str) (vs : List V) : List (Str × V) := ns.zip vs
theorem flds_at : ∀ {ns : List Str} {vs : List V} {f : Str} {i : Nat} {v : V}, fpos ns f = some i → vs[i]? = some v → (flds ns vs).lookup f = some v
  | [], _, _, _, _, h, _ => by cases h
  | n :: ns, [], _, _, _, _, h => by simp at h
  | n :: ns, x :: vs, f, i, v, h, hv => by
    show List.lookup f ((n, x) :: flds ns vs) = some v
    by_cases e : n = f
    · have h' : (if n = f then some 0 else (fpos ns f).map (· + 1)) = some i := h
      rw [if_pos e] at h'
      cases h'
      have hb : (f == n) = true := beq_iff_eq.mpr e.symm
      simp only [List.lookup, hb]
      simpa using hv
    · have h' : (if n = f then some 0 else (fpos ns f).map (· + 1)) = some i := h
      rw [if_neg e] at h'
      obtain ⟨j, hj, rfl⟩ := Option.map_eq_some_iff.mp h'
      have hb : (f == n) = false := beq_eq_false_iff_ne.mpr (fun z => e z.symm)
      simp only [List.lookup, hb]
      exact flds_at hj (by simpa using hv)
theorem flds_no : ∀ {ns : List Str} {vs : List V} {f : Str}, fpos ns f = none → (flds ns vs).lookup f = none
  | [], _, _, _ => rfl
  | _ :: _, [], _, _ => rfl
  | n :: ns, x :: vs, f, h => by
    show List.lookup f ((n, x) :: flds ns vs) = none
    have h' : (if n = f then some 0 else (fpos ns f).map (· + 1)) = none := h
    by_cases e : n = f
    · rw [if_pos e] at h'
      cases h'
    · rw [if_neg e] at h'
      have hb : (f == n) = false := beq_eq_false_iff_ne.mpr (fun z => e z.symm)
      simp only [List.lookup, hb]
      exact flds_no (Option.map_eq_none_iff.mp h')
theorem flds_new : ∀ {ns : List Str} {vs : List V} {f : Str} {v : V}, fpos ns f = none → ns.length = vs.length → putF f v (flds ns vs) = flds (ns ++ [f]) (vs ++ [v])
  | [], [], _, _, _, _ => rfl
  | [], _ :: _, _, _, _, h => by simp at h
  | _ :: _, [], _, _, _, h => by simp at h
  | n :: ns, x :: vs, f, v, h, hl => by
    show putF f v ((n, x) :: flds ns vs) = (n, x) :: flds (ns ++ [f]) (vs ++ [v])
    have h' : (if n = f then some 0 else (fpos ns f).map (· + 1)) = none := h
    by_cases e : n = f
    · rw [if_pos e] at h'
      cases h'
    · rw [if_neg e] at h'
      show (if n = f then _ else (n, x) :: putF f v (flds ns vs)) = _
      rw [if_neg e, flds_new (Option.map_eq_none_iff.mp h') (by simpa using hl)]
def FldA (K : PySem.W.Frag) (f : Str) (x : V) (H1 : Hp) (Q : VK) : Prop := ∃ a C dx fs v, x = .ref a ∧ H1 a = some (.ins C dx fs) ∧ Cls K C ∧ NoAttr K C f ∧ fs.lookup f = some v ∧ Q v H1
def FldP (K : PySem.W.Frag) (f : Str) (x y : V) (H2 : Hp) (N : Hp → Prop) : Prop := ∃ a C dx fs, x = .ref a ∧ H2 a = some (.ins C dx fs) ∧ Cls K C ∧ NoAttr K C f ∧ fs.length < 1000 ∧ N (upd H2 a (.ins C dx (putF f y fs)))
def MethA (C : Addr) (m : Str) (x : V) (H1 : Hp) (N : Prop) : Prop := ∃ a dx fs, x = .ref a ∧ H1 a = some (.ins C dx fs) ∧ fs.lookup m = none ∧ N
section
variable {K : PySem.W.Frag} {L L' : List Fc} {M M' : List Cell} {H : Hp} {σ : L2.St} {Q : VK} {a p b C dx : Addr} {ns : List Str} {vs : List V} {f m : Str} {v x y : V} {D : Ends} {ta tv te td ty : TE} {tr : TA} {N : Hp → Prop} {sp : Sp} {dvs : List V} {E : XK}
theorem st_fld (q : ta σ H fun x H1 => FldA K f x H1 Q) : tFld K ta f σ H Q := q
theorem At.cellI {fs : List (Str × V)} (h : (a, HO.ins C dx fs) ∈ M) : At L M ⟨fun H => H a = some (.ins C dx fs), fun _ _ e h => e a _ h⟩ := fun H s => s.at h
def fI (a C dx : Addr) (fs : List (Str × V)) : Fc := ⟨fun H => H a = some (.ins C dx fs), fun _ _ e h => e a _ h⟩
theorem At.ins {fs : List (Str × V)} (h : (a, HO.ins C dx fs) ∈ M) : At L M (fI a C dx fs) := fun H s => s.at h
theorem st_FldA {i : Nat} (hS : SA L M H) (h : At L M (fI a C dx (flds ns vs))) (c : Cls K C) (n : NoAttr K C f) (hi : fpos ns f = some i) (hv : vs[i]? = some v) (q : Q v H) : FldA K f (.ref a) H Q := ⟨a, C, dx, _, v, rfl, h H hS, c, n, flds_at hi hv, q⟩
theorem st_sfld (q : tv σ H fun y H1 => ta σ H1 fun x H2 => FldP K f x y H2 fun H3 => D.nx σ H3) : sFld K ta tv f D σ H := by
  refine ?_
  show tv σ H fun y H1 => ta σ H1 fun x H2 => ∃ a C dx fs, x = .ref a ∧ H2 a = some (.ins C dx fs) ∧ Cls K C ∧ NoAttr K C f ∧ fs.length < 1000 ∧ D.nx σ (upd H2 a (.ins C dx (putF f y fs)))
  exact q
theorem st_FldN (hS : SA L M H) (d : Chg M a (.ins C dx (flds ns vs)) (.ins C dx (flds (ns ++ [f]) (vs ++ [y]))) M') (c : Cls K C) (n : NoAttr K C f) (hi : fpos ns f = none) (hl : ns.length = vs.length) (h9 : ns.length < 900) (q : ∀ H', SA L M' H' → N H') : FldP K f (.ref a) y H N :=
  ⟨a, C, dx, _, rfl, hS.at d.mem, c, n, by rw [flds, List.length_zip]; omega, by rw [flds_new hi hl]; exact q _ (hS.set d)⟩
theorem st_meth (q : ta σ H fun x H1 => MethA C m x H1 (tr σ H1 fun vs H2 => sp (x :: (vs ++ dvs)) H2 Q E)) : tMeth C m sp dvs E ta tr σ H Q := q
theorem st_MethA {N : Prop} (hS : SA L M H) (h : At L M (fI a C dx (flds ns vs))) (hi : fpos ns m = none) (q : N) : MethA C m (.ref a) H N := ⟨a, dx, _, rfl, h H hS, flds_no hi, q⟩
def MakeA (C : Addr) (H1 : Hp) (G : V → Hp → VK → XK → Prop) (Q : VK) (E : XK) : Prop := ∀ x dx, H1 x = none → H1 dx = none → dx ≠ x → G (.ref x) (upd (upd H1 dx (.own x)) x (.ins C dx [])) (fun v H2 => v = .non ∧ Q (.ref x) H2) E
theorem st_make (q : tr σ H fun vs H1 => MakeA C H1 (fun x H2 Q2 E2 => sp (x :: (vs ++ dvs)) H2 Q2 E2) Q E) : tMake C sp dvs E tr σ H Q := q
theorem st_MakeA {G : V → Hp → VK → XK → Prop} (hS : SA L M H) (q : ∀ x dx H', SA L ((x, .ins C dx (flds [] [])) :: M) H' → G (.ref x) H' (fun v H2 => v = .non ∧ Q (.ref x) H2) E) : MakeA C H G Q E := fun x dx hx hd ne =>
  q x dx _ (((hS.newM (o := .own x) hd).newM (p := x) (o := .ins C dx (flds [] [])) (by rw [upd_ne (fun e => ne e.symm)]; exact hx)).perm (List.Perm.swap _ _ _)).dropM
theorem st_nonV {P : Prop} (q : P) : V.non = .non ∧ P := ⟨rfl, q⟩
/-! ### del d[k]; d.pop(k); xs.pop(); a tuple taken apart -/
def ddrop (kvs : List (Key × V)) (n : Int) : List (Key × V) := dropK kvs (Sum.inl n : Key)
theorem dv_drop (kvs : List (Key × V)) (n k : Int) : dv (ddrop kvs n) k = if k = n then none else dv kvs k := by
  unfold dv ddrop dropK valV
  rw [List.find?_filter]
  by_cases h : k = n
  · subst h
    rw [if_pos rfl]
    rw [Option.map_eq_none_iff, List.find?_eq_none]
    intro x _
    by_cases hx : x.1 = (Sum.inl k : Key)
    · simp [hx]
    · simp [hx]
  · rw [if_neg h]
    congr 2
    funext a
    by_cases hx : a.1 = (Sum.inl k : Key)
    · simp [hx, h]
    · simp [hx]
theorem ddrop_len (kvs : List (Key × V)) (n : Int) : (ddrop kvs n).length ≤ kvs.length := dropK_le kvs _
variable {kvs : List (Key × V)} {n : Int}
def DDe (x y : V) (H2 : Hp) (N : Hp → Prop) : Prop := ∃ a kvs k, x = .ref a ∧ H2 a = some (.dK kvs) ∧ y = kV k ∧ (valV kvs k).isSome = true ∧ N (upd H2 a (.dK (dropK kvs k)))
theorem st_ddel (q : td σ H fun x H1 => ty σ H1 fun y H2 => DDe x y H2 fun H3 => D.nx σ H3) : sDDel td ty D σ H := q
theorem st_DDe (hS : SA L M H) (d : Chg M p (.dK kvs) (.dK (ddrop kvs n)) M') (h : (dv kvs n).isSome = true) (q : ∀ H', SA L M' H' → N H') : DDe (.ref p) (.int n) H N :=
  ⟨p, kvs, Sum.inl n, rfl, hS.at d.mem, rfl, h, q _ (hS.set d)⟩
def DPb (a : Addr) (y : V) (H2 : Hp) (Q : VK) : Prop := ∃ kvs k v, H2 a = some (.dK kvs) ∧ y = kV k ∧ valV kvs k = some v ∧ Q v (upd H2 a (.dK (dropK kvs k)))
def DPa (ty : TE) (σ : L2.St) (x : V) (H1 : Hp) (Q : VK) : Prop := ∃ a, x = .ref a ∧ IsD H1 a ∧ ty σ H1 fun y H2 => DPb a y H2 Q
theorem st_dpop (q : td σ H fun x H1 => DPa ty σ x H1 Q) : tDPop1 td ty σ H Q := q
theorem st_DPa (hS : SA L M H) (h : At L M (fK p kvs)) (q : ty σ H fun y H2 => DPb p y H2 Q) : DPa ty σ (.ref p) H Q := ⟨p, rfl, .inl ⟨kvs, .inl (h H hS)⟩, q⟩
theorem st_DPb (hS : SA L M H) (d : Chg M p (.dK kvs) (.dK (ddrop kvs n)) M') (h : dv kvs n = some v) (q : ∀ H', SA L M' H' → Q v H') : DPb p (.int n) H Q :=
  ⟨kvs, Sum.inl n, v, hS.at d.mem, rfl, h, q _ (hS.set d)⟩
theorem st_pop {xs : List V} (hS : SA L M H) (d : Chg M p (.lst xs) (.lst xs.dropLast) M') (h : xs[xs.length - 1]? = some y) (q : ∀ H', SA L M' H' → Q y H') : rPop (.ref p) [] H Q :=
  ⟨p, xs, y, rfl, rfl, hS.at d.mem, h, q _ (hS.set d)⟩
theorem st_popI {ns : List Int} (hS : SA L M H) (d : Chg M p (.lst (ns.map V.int)) (.lst (ns.dropLast.map V.int)) M') (h : 0 < ns.length) (q : ∀ H', SA L M' H' → Q (.int (ns.getD (ns.length - 1) 0)) H') : rPop (.ref p) [] H Q := by
  refine ⟨p, _, .int (ns.getD (ns.length - 1) 0), rfl, rfl, hS.at d.mem, ?_, ?_⟩
  · rw [List.length_map, List.getElem?_map, List.getD_eq_getElem?_getD, List.getElem?_eq_getElem (by omega)]
    rfl
  · rw [← List.map_dropLast]
    exact q _ (hS.set d)
theorem st_gtup {k : Nat} {t : TGs} {xs : List V} {R : L2.St → Hp → Prop} (hS : SA L M H) (h : At L M (fT K p xs)) (hl : xs.length = k) (q : t xs σ H R) : gTup K k t (.ref p) σ H R := ⟨p, xs, rfl, h H hS, hl, q⟩
theorem st_gcons {t : TG} {u : TGs} {xs : List V} {R : L2.St → Hp → Prop} (q : t x σ H fun σ' H' => u xs σ' H' R) : gCons t u (x :: xs) σ H R := ⟨x, xs, rfl, q⟩
theorem st_gnil {R : L2.St → Hp → Prop} (q : R σ H) : gNil [] σ H R := ⟨rfl, q⟩
/-! ### a dict whose values are data -/
def DkV (K : PySem.W.Frag) (kvs : List (Key × V)) (h : Int → Option PyData) (H : Hp) : Prop := ∀ n : Int, match dv kvs n, h n with
  | none, none => True
  | some v, some d => Dp K H v d
  | _, _ => False
def fDk (K : PySem.W.Frag) (kvs : List (Key × V)) (h : Int → Option PyData) : Fc := ⟨DkV K kvs h, fun H H' e g n => by
  have g1 := g n
  revert g1
  cases dv kvs n with
  | none => cases h n with
    | none => exact fun _ => trivial
    | some d => exact fun x => x
  | some v => cases h n with
    | none => exact fun x => x
    | some d => exact fun x => dp_same e d v x⟩
theorem dk_nil {H : Hp} : DkV K [] (fun _ => none) H := fun n => trivial
theorem dk_put {h : Int → Option PyData} {d : PyData} (g : DkV K kvs h H) (hd : Dp K H v d) : DkV K (dput kvs n v) (fun m => if m = n then some d else h m) H := fun k => by
  have g1 := g k
  show match dv (dput kvs n v) k, (if k = n then some d else h k) with | none, none => True | some v, some d => Dp K H v d | _, _ => False
  rw [dv_put]
  by_cases e : k = n
  · rw [if_pos e, if_pos e]
    exact hd
  · rw [if_neg e, if_neg e]
    exact g1
theorem dk_drop {h : Int → Option PyData} (g : DkV K kvs h H) : DkV K (ddrop kvs n) (fun m => if m = n then none else h m) H := fun k => by
  have g1 := g k
  show match dv (ddrop kvs n) k, (if k = n then none else h k) with | none, none => True | some v, some d => Dp K H v d | _, _ => False
  rw [dv_drop]
  by_cases e : k = n
  · rw [if_pos e, if_pos e]
    exact trivial
  · rw [if_neg e, if_neg e]
    exact g1
theorem dk_none {h : Int → Option PyData} (g : DkV K kvs h H) (e : h n = none) : dv kvs n = none := by
  have g1 := g n
  rw [e] at g1
  revert g1
  cases dv kvs n with
  | none => exact fun _ => rfl
  | some v => exact fun x => absurd x id
theorem dk_some {h : Int → Option PyData} {d : PyData} (g : DkV K kvs h H) (e : h n = some d) : ∃ v, dv kvs n = some v ∧ Dp K H v d := by
  have g1 := g n
  rw [e] at g1
  revert g1
  cases dv kvs n with
  | none => exact fun x => absurd x id
  | some v => exact fun x => ⟨v, rfl, x⟩
theorem dpa_app : ∀ {xs ys : List V} {ds es : List PyData}, DpAll K H xs ds → DpAll K H ys es → DpAll K H (xs ++ ys) (ds ++ es)
  | _, _, _, _, .nil, h => h
  | _, _, _, _, .cons h1 h2, h => .cons h1 (dpa_app h2 h)
theorem dpa_drop : ∀ {xs : List V} {ds : List PyData}, DpAll K H xs ds → DpAll K H xs.dropLast ds.dropLast
  | _, _, .nil => .nil
  | _, _, .cons h1 .nil => .nil
  | _, _, .cons h1 (.cons h2 h3) => .cons h1 (dpa_drop (.cons h2 h3))
theorem dpa_last : ∀ {xs : List V} {ds : List PyData} {d : PyData}, DpAll K H xs ds → ds.getLast? = some d → ∃ x, xs[xs.length - 1]? = some x ∧ Dp K H x d := by
  intro xs ds d h e
  rw [List.getLast?_eq_getElem?] at e
  have hl := dpa_len h
  have hlt : ds.length - 1 < ds.length := (List.getElem?_eq_some_iff.mp e).1
  have hx : xs[xs.length - 1]? = some xs[xs.length - 1] := List.getElem?_eq_getElem (by omega)
  obtain ⟨d2, e2, h2⟩ := dpa_get h hx
  rw [hl, e] at e2
  cases e2
  exact ⟨_, hx, h2⟩
/-- a tuple of two, of three -/
theorem dp_tup2 {x y : PyData} (h : Dp K H v (.tuple [x, y])) : ∃ p a b, v = .ref p ∧ SqT K H p [a, b] ∧ Dp K H a x ∧ Dp K H b y := by
  obtain ⟨p, xs, rfl, h1, h2⟩ := dp_tuple h
  cases h2 with
  | cons h3 h4 => cases h4 with
    | cons h5 h6 =>
      cases h6
      exact ⟨p, _, _, rfl, h1, h3, h5⟩
theorem dp_tup3 {x y z : PyData} (h : Dp K H v (.tuple [x, y, z])) : ∃ p a b c, v = .ref p ∧ SqT K H p [a, b, c] ∧ Dp K H a x ∧ Dp K H b y ∧ Dp K H c z := by
  obtain ⟨p, xs, rfl, h1, h2⟩ := dp_tuple h
  cases h2 with
  | cons h3 h4 => cases h4 with
    | cons h5 h6 => cases h6 with
      | cons h7 h8 =>
        cases h8
        exact ⟨p, _, _, _, rfl, h1, h3, h5, h7⟩
end
/-! ### o.m(k = v); o(..) of an instance -/
section
variable {X : Cx} {CX : CXT} {k : Nat} {f C : Addr} {fd : FuncData} {ps ks : List Str} {sp : Sp} {E : XK} {m : Str} {o : Expr} {ta : TE} {tk : TA} {kws : List Keyword} {p pos apos : Pos} {g : List Value → List Value → List Value} {gV : List V → List V → List V}
def tMethK0 (C : Addr) (m : Str) (sp : Sp) (gV : List V → List V → List V) (E : XK) (ta : TE) (tk : TA) : TE := fun σ H Q => ta σ H fun x H1 => MethA C m x H1 (tk σ H1 fun zs H2 => sp (gV [x] zs) H2 Q E)
theorem pe_methK0 {pl : Sem Bool} (he : PE X o ta) (c : Cls X.K C) (hm : Meth X.K C m f) (F : FnOk X.prog X.w X.K X.mg X.base CX k f fd ps sp) (hr : Room k X.A) (hb : KBinds X.K fd ps ks g gV) (hx : Passes CX X E) (hkw : PK X kws tk)
    (hall : (backToKw pos (keywordEach kws X.env)).all (·.1.isSome) = true := by rfl) (hks : (backToKw pos (keywordEach kws X.env)).filterMap (·.1) = ks := by rfl)
    (hpl : ((backTo pos (starEach [] X.env)).any (·.1) || (backToKw pos (keywordEach kws X.env)).any (·.1.isNone)) = false := by rfl)
    (ht : eval (.Call (.Attribute o m apos) [] kws pos) X.env = (do
      let ov ← eval o X.env
      standAt apos.atName
      let (f, first) ← holding [ov] (getMethod ov m pl)
      callWith pos f first (backTo pos (starEach [] X.env)) (backToKw pos (keywordEach kws X.env))) := by rfl) :
    PE X (.Call (.Attribute o m apos) [] kws pos) (tMethK0 C m sp gV E ta tk) := by
  refine ⟨fun pins s σ H Q I h => ?_⟩
  refine PySem.W.methodCall_KW (pl := pl) (thn (he.run pins s σ H _ I h) fun u s1 ⟨x, H1, I1, rx, a, dx, fs, ex, ea, l, q⟩ => ?_) ht
  subst ex
  obtain rfl : u = Value.ref a := rx
  refine getmeth_ok I1 ea c hm l ?_
  refine PySem.W.callWith_KW0 (first := [.ref a]) (h₀ := X.base) I.ok.mod.kin hm.kp hall (thn (hkw.run pos pins s1 σ H1 _ I1 q) fun ws s2 ⟨zs, H2, I2, rz, q2⟩ => ⟨I2.kIn, ?_⟩) hpl
  rw [hks]
  exact run_fnk (us := [.ref a]) (vs := [.ref a]) F hr hb hx I2 (.cons rfl .nil) rz q2
end
section
variable {X : Cx} {K : PySem.W.Frag} {L : List Fc} {M : List Cell} {H : Hp} {σ : L2.St} {Q : VK} {a p b C dx : Addr} {ns : List Str} {vs : List V} {m : Str} {ta tf : TE} {tr tk : TA} {sp : Sp} {E : XK} {gV : List V → List V → List V}
theorem st_methK0 (q : ta σ H fun x H1 => MethA C m x H1 (tk σ H1 fun zs H2 => sp (gV [x] zs) H2 Q E)) : tMethK0 C m sp gV E ta tk σ H Q := q
def CallOA (X : Cx) (C : Addr) (y : V) (H1 : Hp) (N : Addr → Prop) : Prop := ∃ a, y = .ref a ∧ N a
theorem st_callO (q : tf σ H fun y H1 => CallOA X C y H1 fun a => tr σ H1 fun vs H2 => StX.InsC X H2 a C ∧ sp (.ref a :: vs) H2 Q E) : StX.tCallO X C sp E tf tr σ H Q := q
theorem st_CallOA {N : Addr → Prop} (q : N a) : CallOA X C (.ref a) H N := ⟨a, rfl, q⟩
theorem st_InsC {N : Prop} (hS : SA L M H) (h : At L M (fI a C dx (flds ns vs))) (q : N) : StX.InsC X H a C ∧ N := ⟨.inr ⟨dx, _, h H hS⟩, q⟩
end
/-- a tuple stands there, tracked -/
def fU (a : Addr) (xs : List V) : Fc := ⟨fun H => H a = some (.tup xs), fun _ _ e h => e a _ h⟩
section
variable {K : PySem.W.Frag} {L : List Fc} {M : List Cell} {H : Hp} {Q : VK} {a p : Addr} {xs : List V}
theorem At.u (h : At L M (fU p xs)) : At L M (fT K p xs) := fun H s => SqT.of (h H s)
theorem st_newU (hS : SA L M H) (hl : xs.length ≤ 100000) (q : ∀ p H', SA (fU p xs :: L) M H' → Q (.ref p) H') : NewT xs H Q :=
  ⟨Nat.le_trans hl (by decide), fun p hp => q p _ (hS.newF hp fun _ e _ => e)⟩
theorem SA.ad {f : Fc} (h : SA L M H) (q : ∀ F : Hp, (∀ x ∈ L, x.p F) → f.p F) : SA (f :: L) M H := h.fact q
end
/-- the class that a module's name holds -/
def clsOf (mg : Str → Option Value) (x : Str) : Addr := match mg x with
  | some (.ref C) => C
  | _ => default
theorem clsOf_eq {mg : Str → Option Value} {x : Str} {C : Addr} (h : mg x = some (.ref C)) : clsOf mg x = C := by
  unfold clsOf
  rw [h]
/-- two keywords, in the other order -/
def g0r {α : Type} : List α → List α → List α
  | [], [u, v] => [v, u]
  | _, _ => []
theorem kb0r {K : PySem.W.Frag} {x qual : Str} {st : Stmt} {f : Addr} {fd : FuncData} {ps ks : List Str} (F : Fun K x qual st f fd) (h0 : ps.length = 2)
    (h : ∀ (kV doc pm : Value) (an : Option Addr) (cdv ct : Value) (u v : Value), bindArgs (PySem.W.fnOf x qual (defArgs st) (defBody st) (defScope st) .none kV doc pm an cdv ct) ⟨[], ks.zip [u, v]⟩ = pure (ps.zip [v, u])) : KBinds K fd ps ks g0r g0r := by
  obtain ⟨oc, od, kV, doc, pm, an, cdv, ct, osl, rfl, lk, hcd⟩ := F.ex
  refine ⟨fun s us ws _ hl => ?_, fun {vs us zs ws} r rz => ?_⟩
  · rw [h0] at hl
    match us, ws, hl with
    | [], [u, v], _ => exact .of_eq (h kV doc pm an cdv ct u v)
    | [], [], hl => cases hl
    | [], [_], hl => cases hl
    | [], _ :: _ :: _ :: _, hl => cases hl
    | _ :: _, _, hl => cases hl
  · cases r with
    | nil =>
      cases rz with
      | nil => exact .nil
      | cons r1 rz =>
        cases rz with
        | nil => exact .nil
        | cons r2 rz =>
          cases rz with
          | nil => exact .cons r2 (.cons r1 .nil)
          | cons _ _ => exact .nil
    | cons _ _ => exact .nil
/-- the instance by itself, the rest by name: for C(k = v, ..) -/
theorem kbn1 {K : PySem.W.Frag} {x qual : Str} {st : Stmt} {f : Addr} {fd : FuncData} {ps ks : List Str} (F : Fun K x qual st f fd) (h0 : 0 < ps.length)
    (h : ∀ (kV doc pm : Value) (an : Option Addr) (cdv ct : Value) (u : Value) (ws : List Value), ws.length = ks.length → bindArgs (PySem.W.fnOf x qual (defArgs st) (defBody st) (defScope st) .none kV doc pm an cdv ct) ⟨[u], ks.zip ws⟩ = pure (ps.zip (u :: ws))) : KBn K fd ps 1 ks g1 g1 := by
  obtain ⟨oc, od, kV, doc, pm, an, cdv, ct, osl, rfl, lk, hcd⟩ := F.ex
  refine ⟨fun s us ws _ l1 l2 => ?_, fun {vs us zs ws} r rz => ?_⟩
  · match us, l1 with
    | [u], _ => exact .of_eq (h kV doc pm an cdv ct u ws l2)
  · cases r with
    | nil => exact .nil
    | cons r rr =>
      cases rr with
      | nil => exact .cons r rz
      | cons _ _ => exact .nil
end Sa

namespace Sa
open PySem PySem.Spec PyProof.Rows L2
/-! ### comprehensions that change things: an invariant by the turn and a ghost -/
section
variable {K : PySem.W.Frag} {L : List Fc} {M : List Cell} {H : Hp} {σ : L2.St} {Q : VK} {a : Addr} {xs : List V} {te : TE} {t : TT} {γ : Type}
def LcN (Lf : Nat → γ → List Fc) (Mf : Nat → γ → List Cell) (ac : Nat → γ → List V) (pr : Nat → γ → Prop) (D : Addr) (i : Nat) (H : Hp) : Prop := ∃ g, pr i g ∧ SA (Lf i g) ((D, .lst (ac i g)) :: Mf i g) H
def LcAdd (D : Addr) (y : V) (H : Hp) (N : Hp → Prop) : Prop := ∃ acc, H D = some (.lst acc) ∧ acc.length < sizeLine ∧ N (upd H D (.lst (acc ++ [y])))
theorem st_lcadd {D : Addr} {acc : List V} {y : V} {M' : List Cell} {N : Hp → Prop} (hS : SA L M H) (d : Chg M D (.lst acc) (.lst (acc ++ [y])) M') (hl : acc.length < 100000) (q : ∀ H', SA L M' H' → N H') : LcAdd D y H N :=
  ⟨acc, hS.at d.mem, Nat.lt_of_lt_of_le hl (by decide), q _ (hS.set d)⟩
theorem st_lcaddI {D : Addr} {ns : List Int} {w : Int} {M' : List Cell} {N : Hp → Prop} (hS : SA L M H) (d : Chg M D (.lst (ns.map V.int)) (.lst ((ns ++ [w]).map V.int)) M') (hl : ns.length < 100000) (q : ∀ H', SA L M' H' → N H') : LcAdd D (.int w) H N := by
  have e : (ns ++ [w]).map V.int = ns.map V.int ++ [V.int w] := by rw [List.map_append]; rfl
  rw [e] at d
  exact st_lcadd hS d (by rw [List.length_map]; exact hl) q
theorem st_tyes {R : Bool → Hp → Prop} (q : R true H) : tYes σ H R := q
variable (Lf : Nat → γ → List Fc) (Mf : Nat → γ → List Cell) (ac : Nat → γ → List V) (pr : Nat → γ → Prop)
theorem lcG_rng {lo : Int} {n j : Nat} {vs : List Nat} {g0 : γ} (hS : SA L M H) (h0 : pr 0 g0) (e0 : ac 0 g0 = []) (eS : Lf 0 g0 = L ∧ Mf 0 g0 = M) (hw : ∀ x, wipe ((wipe σ vs).set j (some x)) vs = wipe σ vs)
    (hs : ∀ (i : Nat) (g : γ) (D : Addr) (H : Hp), i < n → pr i g → SA (Lf i g) ((D, .lst (ac i g)) :: Mf i g) H →
      t ((wipe σ vs).set j (some (.int (lo + (i : Int))))) H fun b H3 => if b = true then te ((wipe σ vs).set j (some (.int (lo + (i : Int))))) H3 fun y H4 => LcAdd D y H4 (LcN Lf Mf ac pr D (i + 1)) else LcN Lf Mf ac pr D (i + 1) H3)
    (q : ∀ D g H', pr n g → SA (Lf n g) ((D, .lst (ac n g)) :: Mf n g) H' → Q (.ref D) H') : Lc (Itr lo n) (gName j) t te vs σ Q H := fun D hD =>
  lc_it (walk_range (lo := lo) (n := n)) (LcN Lf Mf ac pr D) ⟨g0, h0, by rw [e0, eS.1, eS.2]; exact hS.newM hD⟩ (fun _ _ _ _ => trivial) (fun i x H H' hi hp hy => by
    obtain ⟨rfl, rfl⟩ := hy
    obtain ⟨g, h1, h2⟩ := hp
    exact ⟨hw _, hs i g D _ hi h1 h2⟩) (fun H' hp => by
    obtain ⟨g, h1, h2⟩ := hp
    exact q D g H' h1 h2)
theorem lcG_list {j : Nat} {vs : List Nat} {g0 : γ} (hS : SA L M H) (h0 : pr 0 g0) (e0 : ac 0 g0 = []) (eS : Lf 0 g0 = L ∧ Mf 0 g0 = M) (hG : ∀ (i : Nat) (g : γ), i ≤ xs.length → pr i g → At (Lf i g) (Mf i g) (fQ K a xs)) (hw : ∀ x, wipe ((wipe σ vs).set j (some x)) vs = wipe σ vs)
    (hs : ∀ (i : Nat) (x : V) (g : γ) (D : Addr) (H : Hp), xs[i]? = some x → pr i g → SA (Lf i g) ((D, .lst (ac i g)) :: Mf i g) H →
      t ((wipe σ vs).set j (some x)) H fun b H3 => if b = true then te ((wipe σ vs).set j (some x)) H3 fun y H4 => LcAdd D y H4 (LcN Lf Mf ac pr D (i + 1)) else LcN Lf Mf ac pr D (i + 1) H3)
    (q : ∀ D g H', pr xs.length g → SA (Lf xs.length g) ((D, .lst (ac xs.length g)) :: Mf xs.length g) H' → Q (.ref D) H') : Lc (Itl K a) (gName j) t te vs σ Q H := fun D hD =>
  lc_it (walk_list (xs := xs)) (LcN Lf Mf ac pr D) ⟨g0, h0, by rw [e0, eS.1, eS.2]; exact hS.newM hD⟩ (fun i H hi hp => by
    obtain ⟨g, h1, h2⟩ := hp
    exact hG i g hi h1 H h2.dropM) (fun i x H H' hi hp hy => by
    obtain ⟨rfl, hx⟩ := hy
    obtain ⟨g, h1, h2⟩ := hp
    exact ⟨hw _, hs i x g D _ hx h1 h2⟩) (fun H' hp => by
    obtain ⟨g, h1, h2⟩ := hp
    exact q D g H' h1 h2)
end
end Sa

namespace Sa
open PySem PySem.Spec PyProof.Rows L2
/-! ### steps that ask nothing, found by their head -/
class Go (g : Prop) (n : outParam Prop) : Prop where
  go : n → g
section
variable {K : PySem.W.Frag} {σ : L2.St} {H : Hp} {Q : VK} {QB : Bool → Hp → Prop} {QL : List V → Hp → Prop} {D : Ends} {ta tb tc te td ty tx tv tf to ti : TE} {t u : TT} {ts tu : TS} {tr tk : TA} {r r' : R2} {i j l : Nat} {v w x y z : V} {A B N : Prop} {NS : L2.St → Hp → Prop} {NH : Hp → Prop}
instance : Go (tC v σ H Q) (Q v H) := ⟨st_c⟩
instance : Go (tOp r ta tb σ H Q) (ta σ H fun x H1 => tb σ H1 fun y H2 => r x y H2 Q) := ⟨st_op⟩
instance {r : V → Hp → VK → Prop} : Go (tUn r ta σ H Q) (ta σ H fun x H1 => r x H1 Q) := ⟨st_un⟩
instance : Go (tSeq ts tu D σ H) (ts { D with nx := tu D } σ H) := ⟨st_seq⟩
instance {g : TG} : Go (tAsg te g D σ H) (te σ H fun x H1 => g x σ H1 D.nx) := ⟨st_asg⟩
instance : Go (gName i v σ H NS) (NS (σ.set i (some v)) H) := ⟨st_name⟩
instance {g : Int → Int → V} {i j : Int} : Go (rI0 g (.int i) (.int j) H Q) (Q (g i j) H) := ⟨st_I0⟩
instance {g : Int → V} {i : Int} : Go (rU g (.int i) H Q) (Q (g i) H) := ⟨st_U⟩
instance {i j : Int} : Go (rEq (.int i) (.int j) H Q) (Q (.bl (decide (i = j))) H) := ⟨st_eqI⟩
instance {i j : Int} : Go (rNe (.int i) (.int j) H Q) (Q (.bl (!decide (i = j))) H) := ⟨st_neI⟩
instance : Go (tNil σ H QL) (QL [] H) := ⟨st_tnil⟩
instance : Go (tCons ta tr σ H QL) (ta σ H fun x H1 => tr σ H1 fun xs H2 => QL (x :: xs) H2) := ⟨st_tcons⟩
instance {rr : List V → Hp → VK → Prop} : Go (tCB rr tr σ H Q) (tr σ H fun vs H1 => rr vs H1 Q) := ⟨st_cb⟩
instance {sp : Sp} {dvs : List V} {E : XK} : Go (tCall sp dvs E tr σ H Q) (tr σ H fun vs H1 => sp (vs ++ dvs) H1 Q E) := ⟨st_call⟩
instance {sp : Sp} {gV : List V → List V → List V} {E : XK} : Go (tCallK sp gV E tr tk σ H Q) (tr σ H fun vs H1 => tk σ H1 fun zs H2 => sp (gV vs zs) H2 Q E) := ⟨st_callK⟩
instance : Go (tTest te σ H QB) (te σ H fun x H' => ∃ k, x = .bl k ∧ QB k H') := ⟨st_test⟩
instance : Go (tB te σ H QB) (te σ H fun x H' => ∃ k, x = .bl k ∧ QB k H') := ⟨st_tB⟩
instance : Go (tIfS t ts tu D σ H) (t σ H fun b H1 => if b = true then ts D σ H1 else tu D σ H1) := ⟨st_ifS⟩
instance : Go (tIf t ta tb σ H Q) (t σ H fun c H1 => if c = true then ta σ H1 Q else tb σ H1 Q) := ⟨st_if⟩
instance : Go (tRet te D σ H) (te σ H D.rt) := ⟨st_ret⟩
instance : Go (tRetN D σ H) (D.rt .non H) := ⟨st_retN⟩
instance : Go (tDrop te D σ H) (te σ H fun _ H1 => D.nx σ H1) := ⟨st_drop⟩
instance : Go (tNext D σ H) (D.nx σ H) := ⟨st_next⟩
instance : Go (tAnd t u σ H QB) (t σ H fun c H1 => if c = true then u σ H1 QB else QB false H1) := ⟨st_and⟩
instance : Go (tOr t u σ H QB) (t σ H fun c H1 => if c = true then QB true H1 else u σ H1 QB) := ⟨st_or⟩
instance : Go (tNot t σ H QB) (t σ H fun c H1 => QB (!c) H1) := ⟨st_not⟩
instance : Go (tAndV ta tb σ H Q) (ta σ H fun x H1 => ∃ c, x = .bl c ∧ if c = true then tb σ H1 Q else Q (.bl false) H1) := ⟨st_andV⟩
instance : Go (tOrV ta tb σ H Q) (ta σ H fun x H1 => ∃ c, x = .bl c ∧ if c = true then Q (.bl true) H1 else tb σ H1 Q) := ⟨st_orV⟩
instance : Go (tNotV ta σ H Q) (ta σ H fun x H1 => ∃ c, x = .bl c ∧ Q (.bl (!c)) H1) := ⟨st_notV⟩
instance : Go (tChain r r' ta tb tc σ H Q) (ta σ H fun x H1 => tb σ H1 fun y H2 => r x y H2 fun z H3 => ∃ k, z = .bl k ∧ (if k = true then tc σ H3 fun w' H4 => r' y w' H4 Q else Q (.bl false) H3)) := ⟨st_chain⟩
instance : Go (tPar i j tr D σ H) (tr σ H fun vs H1 => ∃ v w, vs = [v, w] ∧ D.nx ((σ.set i (some v)).set j (some w)) H1) := ⟨st_par⟩
instance : Go (tPar3 i j l tr D σ H) (tr σ H fun vs H1 => ∃ u v w, vs = [u, v, w] ∧ D.nx (((σ.set i (some u)).set j (some v)).set l (some w)) H1) := ⟨st_par3⟩
instance {P : V → V → Prop} : Go (∃ v w, [x, y] = [v, w] ∧ P v w) (P x y) := ⟨fun q => ⟨x, y, rfl, q⟩⟩
instance {P : V → V → V → Prop} : Go (∃ u v w, [x, y, z] = [u, v, w] ∧ P u v w) (P x y z) := ⟨fun q => ⟨x, y, z, rfl, q⟩⟩
instance {k : Bool} {P : Bool → Prop} : Go (∃ c, V.bl k = .bl c ∧ P c) (P k) := ⟨fun q => ⟨k, rfl, q⟩⟩
instance {k : Int} {P : Int → Prop} : Go (∃ c, V.int k = .int c ∧ P c) (P k) := ⟨fun q => ⟨k, rfl, q⟩⟩
instance {F : Int → Int → Int} {i j : Int} : Go (ipI F (.int i) (.int j) H Q) (Q (.int (F i j)) H) := ⟨st_ip⟩
instance {wi : TI} {g : TG} : Go (tFor wi g ts D σ H) (wi σ H fun J H1 => Lp J g ts D σ H1) := ⟨st_for⟩
instance {R : It → Hp → Prop} : Go (iList K te σ H R) (te σ H fun x H1 => ∃ a, x = .ref a ∧ (∃ xs, SqL K H1 a xs) ∧ R (Itl K a) H1) := ⟨st_iList⟩
instance {R : It → Hp → Prop} : Go (iRng1 tr σ H R) (tr σ H fun vs H1 => ∃ j : Int, vs = [.int j] ∧ -(2 ^ 62) ≤ j ∧ j < 2 ^ 62 ∧ R (Itr 0 j.toNat) H1) := ⟨st_iRng1⟩
instance {R : It → Hp → Prop} : Go (iRng2 tr σ H R) (tr σ H fun vs H1 => ∃ i j : Int, vs = [.int i, .int j] ∧ (-(2 ^ 62) ≤ i ∧ i < 2 ^ 62 ∧ -(2 ^ 62) ≤ j ∧ j < 2 ^ 62) ∧ R (Itr i (j - i).toNat) H1) := ⟨st_iRng2⟩
instance {R : It → Hp → Prop} : Go (iEnum K tr σ H R) (tr σ H fun vs H1 => ∃ a xs, vs = [.ref a] ∧ SqL K H1 a xs ∧ R (Ite K a) H1) := ⟨st_iEnum⟩
instance {R : It → Hp → Prop} : Go (iZip K tr σ H R) (tr σ H fun vs H1 => ∃ a b xs ys, vs = [.ref a, .ref b] ∧ SqL K H1 a xs ∧ SqL K H1 b ys ∧ R (Itz K a b) H1) := ⟨st_iZip⟩
instance {R : It → Hp → Prop} : Go (RZ.iZipA K tr σ H R) (tr σ H fun vs H1 => ∃ a b xs ys, vs = [.ref a, .ref b] ∧ ((SqL K H1 a xs ∧ SqL K H1 b ys ∧ R (Itz K a b) H1) ∨ (SqT K H1 a xs ∧ SqT K H1 b ys ∧ R (RZ.ItzT K a b) H1))) := ⟨st_iZipA⟩
instance {wi : TI} {g : TG} {vs : List Nat} : Go (tLc wi g t te vs σ H Q) (wi σ H fun J H1 => Lc J g t te vs σ Q H1) := ⟨st_lc⟩
instance : Go (tLst tr σ H Q) (tr σ H fun xs H1 => NewL xs H1 Q) := ⟨st_lst⟩
instance : Go (tTup tr σ H Q) (tr σ H fun xs H1 => NewT xs H1 Q) := ⟨st_tup⟩
instance {T : String} {rr : V → List V → Hp → VK → Prop} : Go (tBM K T rr ta tr σ H Q) (ta σ H fun x H1 => tyV K T x H1 ∧ tr σ H1 fun xs H2 => rr x xs H2 Q) := ⟨st_bm⟩
instance {T : String} {rr : V → List V → Hp → VK → Prop} : Go (tBM0 K T rr ta σ H Q) (ta σ H fun x H1 => tyV K T x H1 ∧ rr x [] H1 Q) := ⟨st_bm0⟩
instance {tset : TSet} : Go (gSub to ti tset v σ H NS) (to σ H fun o H1 => ti σ H1 fun i H2 => tset o i v H2 fun H3 => NS σ H3) := ⟨st_sub⟩
instance : Go (rIsN x .non H Q) (Q (.bl (decide (x = .non))) H) := ⟨st_rIsN⟩
instance : Go (rNotN x .non H Q) (Q (.bl (!decide (x = .non))) H) := ⟨st_rNotN⟩
instance {i j : Int} : Go (rMax2 [.int i, .int j] H Q) (Q (.int (max i j)) H) := ⟨st_max2⟩
instance {i j : Int} : Go (rMin2 [.int i, .int j] H Q) (Q (.int (min i j)) H) := ⟨st_min2⟩
instance {i : Int} : Go (rInt1 [.int i] H Q) (Q (.int i) H) := ⟨st_int1⟩
instance {k : Bool} : Go (rInt1 [.bl k] H Q) (Q (.int (if k then 1 else 0)) H) := ⟨st_int1b⟩
instance {i : Int} : Go (rAbs [.int i] H Q) (Q (.int (if i < 0 then -i else i)) H) := ⟨st_abs⟩
instance {a b : Bool} : Go (rIsBl (.bl a) (.bl b) H Q) (Q (.bl (decide (a = b))) H) := ⟨st_rIsBl⟩
instance {f : Str} : Go (tFld K ta f σ H Q) (ta σ H fun x H1 => FldA K f x H1 Q) := ⟨st_fld⟩
instance {f : Str} : Go (sFld K ta tv f D σ H) (tv σ H fun y H1 => ta σ H1 fun x H2 => FldP K f x y H2 fun H3 => D.nx σ H3) := ⟨st_sfld⟩
instance {C : Addr} {m : Str} {sp : Sp} {dvs : List V} {E : XK} : Go (tMeth C m sp dvs E ta tr σ H Q) (ta σ H fun x H1 => MethA C m x H1 (tr σ H1 fun vs H2 => sp (x :: (vs ++ dvs)) H2 Q E)) := ⟨st_meth⟩
instance {C : Addr} {m : Str} {sp : Sp} {gV : List V → List V → List V} {E : XK} : Go (tMethK0 C m sp gV E ta tk σ H Q) (ta σ H fun x H1 => MethA C m x H1 (tk σ H1 fun zs H2 => sp (gV [x] zs) H2 Q E)) := ⟨st_methK0⟩
instance {C : Addr} {sp : Sp} {dvs : List V} {E : XK} : Go (tMake C sp dvs E tr σ H Q) (tr σ H fun vs H1 => MakeA C H1 (fun x H2 Q2 E2 => sp (x :: (vs ++ dvs)) H2 Q2 E2) Q E) := ⟨st_make⟩
instance {X : Cx} {C : Addr} {sp : Sp} {E : XK} : Go (StX.tCallO X C sp E tf tr σ H Q) (tf σ H fun y H1 => CallOA X C y H1 fun a => tr σ H1 fun vs H2 => StX.InsC X H2 a C ∧ sp (.ref a :: vs) H2 Q E) := ⟨st_callO⟩
instance {X : Cx} {C a : Addr} {P : Addr → Prop} : Go (CallOA X C (.ref a) H P) (P a) := ⟨st_CallOA⟩
instance : Go (sDDel td ty D σ H) (td σ H fun x H1 => ty σ H1 fun y H2 => DDe x y H2 fun H3 => D.nx σ H3) := ⟨st_ddel⟩
instance : Go (tDPop1 td ty σ H Q) (td σ H fun x H1 => DPa ty σ x H1 Q) := ⟨st_dpop⟩
instance : Go (tDNotIn ty td σ H Q) (ty σ H fun y H1 => td σ H1 fun x H2 => DNi y x H2 Q) := ⟨st_dni⟩
instance : Go (tDIn ty td σ H Q) (ty σ H fun y H1 => td σ H1 fun x H2 => DIi y x H2 Q) := ⟨st_dii⟩
instance : Go (tDGet td ty σ H Q) (td σ H fun x H1 => ty σ H1 fun y H2 => DGt x y H2 Q) := ⟨st_dgt⟩
instance : Go (tDGet2 td ty tx σ H Q) (td σ H fun x H1 => DG2a ty tx σ x H1 Q) := ⟨st_dg2⟩
instance : Go (sDPut td ty tv D σ H) (tv σ H fun v H1 => td σ H1 fun x H2 => ty σ H2 fun y H3 => DPu x y v H3 fun H4 => D.nx σ H4) := ⟨st_dput⟩
instance : Go (tDSetd td ty tx σ H Q) (td σ H fun x H1 => DSa ty tx σ x H1 Q) := ⟨st_dsd⟩
instance {rr : V → Option Int → Option Int → Hp → VK → Prop} {tl th : TO} : Go (tSl rr te tl th σ H Q) (te σ H fun x H1 => tl σ H1 fun l H2 => th σ H2 fun u H3 => rr x l u H3 Q) := ⟨st_sl⟩
instance {QO : Option Int → Hp → Prop} : Go (tNoPart σ H QO) (QO none H) := ⟨st_noP⟩
instance {QO : Option Int → Hp → Prop} : Go (tPart te σ H QO) (te σ H fun x H1 => ∃ i, x = .int i ∧ QO (some i) H1) := ⟨st_part⟩
instance : Go (tLstRg (tRg1 ta) σ H Q) (ta σ H fun x H1 => ∃ n, x = .int n ∧ LRg 0 n H1 Q) := ⟨st_lr1⟩
instance : Go (tLstRg (tRg2 ta tb) σ H Q) (ta σ H fun x H1 => tb σ H1 fun y H2 => ∃ i j, x = .int i ∧ y = .int j ∧ LRg i j H2 Q) := ⟨st_lr2⟩
instance {i j : Int} {P : Int → Int → Prop} : Go (∃ i' j', V.int i = .int i' ∧ V.int j = .int j' ∧ P i' j') (P i j) := ⟨fun q => ⟨i, j, rfl, rfl, q⟩⟩
instance : Go (gFrom to ti v σ H NS) (to σ H fun o H1 => ti σ H1 fun i H2 => SetFrom o i v H2 fun H3 => NS σ H3) := ⟨st_gFrom⟩
instance {t : TG} {u : TGs} {xs : List V} : Go (gCons t u (x :: xs) σ H NS) (t x σ H fun σ' H' => u xs σ' H' NS) := ⟨st_gcons⟩
instance : Go (gNil [] σ H NS) (NS σ H) := ⟨st_gnil⟩
instance : Go (V.non = .non ∧ A) A := ⟨st_nonV⟩
instance : Go (tYes σ H QB) (QB true H) := ⟨st_tyes⟩
instance {b : Bool} : Go (if (!b) = true then A else B) (if b = true then B else A) := ⟨if_not⟩
instance : Go (if true = true then A else B) A := ⟨if_t⟩
instance : Go (if false = true then A else B) B := ⟨if_f⟩
instance : Go (if decide True = true then A else B) A := ⟨if_t⟩
instance {α : Type} {a : α} : Go (if (some a).isSome = true then A else B) A := ⟨if_t⟩
instance {α : Type} : Go (if (none : Option α).isSome = true then A else B) B := ⟨if_f⟩
end
/-! ### while; xs[::-1] -/
section
variable {K : PySem.W.Frag} {L : List Fc} {M : List Cell} {σ : L2.St} {H : Hp} {Q : VK} {D : Ends} {c : TT} {tb : TS} {te : TE} {a : Addr} {xs : List V} {γ : Type}
def Wh (s : Nat → γ → L2.St) (Lf : Nat → γ → List Fc) (Mf : Nat → γ → List Cell) (pr : Nat → γ → Prop) (m : Nat) (σ : L2.St) (H : Hp) : Prop := ∃ g : γ, σ = s m g ∧ pr m g ∧ SA (Lf m g) (Mf m g) H
def WhN (s : Nat → γ → L2.St) (Lf : Nat → γ → List Fc) (Mf : Nat → γ → List Cell) (pr : Nat → γ → Prop) (m : Nat) (σ : L2.St) (H : Hp) : Prop := ∃ m', m' < m ∧ Wh s Lf Mf pr m' σ H
def WhB (W : Nat → L2.St → Hp → Prop) (m : Nat) (tb : TS) (D : Ends) (σ : L2.St) (H1 : Hp) : Prop := ∃ N : L2.St → Hp → Prop, (∀ σ' H', N σ' H' → ∃ m', m' < m ∧ W m' σ' H') ∧ tb { D with nx := N, ct := N, bk := D.nx } σ H1
instance (s : Nat → γ → L2.St) (Lf : Nat → γ → List Fc) (Mf : Nat → γ → List Cell) (pr : Nat → γ → Prop) (m : Nat) : Go (WhB (Wh s Lf Mf pr) m tb D σ H) (tb { D with nx := WhN s Lf Mf pr m, ct := WhN s Lf Mf pr m, bk := D.nx } σ H) := ⟨fun q => ⟨WhN s Lf Mf pr m, fun _ _ h => h, q⟩⟩
theorem lp_while (s : Nat → γ → L2.St) (Lf : Nat → γ → List Fc) (Mf : Nat → γ → List Cell) (pr : Nat → γ → Prop) (m0 : Nat) (h0 : Wh s Lf Mf pr m0 σ H)
    (hs : ∀ (m : Nat) (g : γ) (H : Hp), pr m g → SA (Lf m g) (Mf m g) H → c (s m g) H fun b H1 => if b = true then WhB (Wh s Lf Mf pr) m tb D (s m g) H1 else D.nx (s m g) H1) : tWhile c tb D σ H :=
  ⟨Wh s Lf Mf pr, ⟨m0, h0⟩, fun m σ H ⟨g, e, h1, h2⟩ => by
    subst e
    exact hs m g H h1 h2⟩
def RevA (K : PySem.W.Frag) (x : V) (H1 : Hp) (Q : VK) : Prop := ∃ a xs, x = .ref a ∧ SqL K H1 a xs ∧ ∀ p, H1 p = none → Q (.ref p) (upd H1 p (.lst xs.reverse))
instance : Go (tRevL K te σ H Q) (te σ H fun x H1 => RevA K x H1 Q) := ⟨fun q => q⟩
theorem st_RevA {ns : List Int} (hS : SA L M H) (h : At L M (fQ K a (ns.map V.int))) (q : ∀ p H', SA L ((p, .lst (ns.reverse.map V.int)) :: M) H' → Q (.ref p) H') : RevA K (.ref a) H Q :=
  ⟨a, _, rfl, h H hS, fun p hp => by
    rw [← List.map_reverse]
    exact q p _ (hS.newM hp)⟩
end
end Sa

namespace Sa
open PySem PySem.Spec PyProof.Rows L2
/-! ### further steps -/
theorem if_yes {P : Prop} [Decidable P] {A B : Prop} (h : P) (q : A) : if decide P = true then A else B := by
  rw [if_pos (decide_eq_true h)]
  exact q
theorem if_no {P : Prop} [Decidable P] {A B : Prop} (h : ¬ P) (q : B) : if decide P = true then A else B := by
  rw [if_neg (by rw [decide_eq_false h]; decide)]
  exact q
section
variable {K : PySem.W.Frag} {L L' : List Fc} {M M' : List Cell} {H : Hp} {σ : L2.St} {Q : VK} {a p b : Addr} {xs ys : List V} {v x y z : V} {D : Ends} {ta tb te td ty tx tv to ti : TE} {t : TT} {ts tu : TS} {tr : TA} {ns ms : List Int} {N : Hp → Prop}
theorem st_cat1I {w : Int} (hS : SA L M H) (h1 : At L M (fL a [.int w])) (h2 : At L M (fL b (ms.map V.int))) (hl : 1 + ms.length ≤ 100000) (q : ∀ p H', SA L ((p, .lst ((w :: ms).map V.int)) :: M) H' → Q (.ref p) H') : rCat (.ref a) (.ref b) H Q :=
  st_catI (ns := [w]) hS h1 h2 hl q
theorem st_glst {k : Nat} {t : TGs} {R : L2.St → Hp → Prop} (hS : SA L M H) (h : At L M (fQ K p xs)) (hl : xs.length = k) (q : t xs σ H R) : gLst K k t (.ref p) σ H R := ⟨p, xs, rfl, h H hS, hl, q⟩
/-- xs[i] += e -/
theorem get_list {X : Cx} : PGet X (rIxL X.K) := by
  intro pins s σ H o i ov iv Q I ro ri h
  obtain ⟨p, xs, k, z, rfl, rfl, hq, he, q⟩ := h
  cases ro
  obtain ⟨t, rfl⟩ := ri
  obtain ⟨its, r, pl, hz⟩ := I.list hq
  obtain ⟨j, h1, h2, h3, h4, h5⟩ := atI_get he
  obtain ⟨w, ew, rw'⟩ := r.get h2
  have hl := r.length
  have hn := line63
  have fin : EP X pins σ Q w s := ⟨z, H, I, rw', q⟩
  by_cases h0 : 0 ≤ k
  · have hj : k.toNat = j := by
      rw [seqIndex_of h0 h5] at h1
      exact Option.some.inj h1
    exact wpAny_getItem_list pl.isList h0 (by omega) (by rw [hj]; simpa using ew) fin
  · have hj : (k + (its.toArray.size : Int)).toNat = j := by
      rw [seqIndex_neg (by omega) h4] at h1
      rw [List.size_toArray, ← hl]
      exact Option.some.inj h1
    exact wpAny_getItem_list_neg pl.isList (by omega) (by rw [List.size_toArray] <;> omega) (by omega) (by rw [hj]; simpa using ew) fin
theorem ps_augL {X : Cx} {o i e : Expr} {tip : TIp} {op : Operator} {tpos pos : Pos} (ho : PE X o to) (hi : PE X i ti) (he : PE X e te) (hp : PIp X op tip)
    (ha : ∀ ov iv new, augStore i ov iv new = (do holding [new, ov, iv] (setItem ov iv new); release [new, ov, iv] []; pure .next) := by intros; rfl) : PS X (.AugAssign (.Subscript o i tpos) op e pos) (tAugS to ti te (rIxL X.K) tip rSetL) :=
  ps_augS ho hi get_list he hp set_list ha
instance {tget : V → V → Hp → VK → Prop} {tip : TIp} {tset : TSet} : Go (tAugS to ti te tget tip tset D σ H) (to σ H fun o H1 => ti σ H1 fun i H2 => tget o i H2 fun x H3 => te σ H3 fun y H4 => tip x y H4 fun z H5 => tset o i z H5 fun H6 => D.nx σ H6) := ⟨fun q => q⟩
theorem st_setN {i w : Int} (hS : SA L M H) (d : Chg M p (.lst (ns.map V.int)) (.lst ((ns.set (i + ns.length).toNat w).map V.int)) M') (h0 : i < 0) (h1 : -(ns.length : Int) ≤ i) (q : ∀ H', SA L M' H' → N H') : rSetL (.ref p) (.int i) (.int w) H N := by
  refine ⟨p, _, i, (i + ns.length).toNat, rfl, rfl, hS.at d.mem, ?_, ?_⟩
  · unfold ixN
    rw [if_neg (by omega), List.length_map, if_pos h1]
  · rw [map_set]
    exact q _ (hS.set d)
/-- an item of a displayed list of numbers -/
theorem st_one {i : Int} (ms : List Int) (hS : SA L M H) (h : At L M (fQ K p xs)) (e : xs = ms.map V.int) (h0 : 0 ≤ i) (h1 : i < ms.length) (q : ∀ x, x ∈ ms → Q (.int x) H) : rIxL K (.ref p) (.int i) H Q :=
  st_menu (fun x => x ∈ ms) hS h e h0 h1 (fun _ h => h) q
/-- xs.insert(i, y); xs.pop(i); xs.clear() -/
def InsA (x : V) (vs : List V) (H : Hp) (Q : VK) : Prop := ∃ (l : Addr) (xs : List V) (i : Int) (y : V), x = .ref l ∧ vs = [.int i, y] ∧ H l = some (.lst xs) ∧ xs.length < sizeLine ∧ 0 ≤ i ∧ i < 2 ^ 63 ∧ Q .non (upd H l (.lst (xs.take i.toNat ++ [y] ++ xs.drop i.toNat)))
theorem mt_insA {X : Cx} : MtR X "list.insert" InsA := mt_insert
theorem st_insI {i w : Int} (hS : SA L M H) (d : Chg M p (.lst (ns.map V.int)) (.lst ((ns.take i.toNat ++ [w] ++ ns.drop i.toNat).map V.int)) M') (hz : ns.length < 100000) (h0 : 0 ≤ i) (h1 : i < 2 ^ 63) (q : ∀ H', SA L M' H' → Q .non H') : InsA (.ref p) [.int i, .int w] H Q :=
  ⟨p, _, i, .int w, rfl, rfl, hS.at d.mem, by rw [List.length_map]; exact Nat.lt_of_lt_of_le hz (by decide), h0, h1, by
    have e : (ns.map V.int).take i.toNat ++ [V.int w] ++ (ns.map V.int).drop i.toNat = (ns.take i.toNat ++ [w] ++ ns.drop i.toNat).map V.int := by
      rw [List.map_append, List.map_append, List.map_take, List.map_drop]
      rfl
    rw [e]
    exact q _ (hS.set d)⟩
theorem map_erase : ∀ (ns : List Int) (j : Nat), (ns.map V.int).eraseIdx j = (ns.eraseIdx j).map V.int
  | [], _ => rfl
  | n :: ns, 0 => rfl
  | n :: ns, j + 1 => by
    show V.int n :: (ns.map V.int).eraseIdx j = V.int n :: (ns.eraseIdx j).map V.int
    rw [map_erase ns j]
theorem st_popAtI {i : Int} (hS : SA L M H) (d : Chg M p (.lst (ns.map V.int)) (.lst ((ns.eraseIdx i.toNat).map V.int)) M') (h0 : 0 ≤ i) (h1 : i < ns.length) (hz : ns.length < 100000) (q : ∀ H', SA L M' H' → Q (.int (ns.getD i.toNat 0)) H') : rPopAt (.ref p) [.int i] H Q := by
  have hl : i.toNat < ns.length := by omega
  refine ⟨p, _, i, i.toNat, .int (ns.getD i.toNat 0), rfl, rfl, hS.at d.mem, by omega, by omega, ?_, ?_, ?_⟩
  · rw [List.length_map]
    exact seqIndex_of h0 (by omega)
  · rw [List.getElem?_map, List.getD_eq_getElem?_getD, List.getElem?_eq_getElem hl]
    rfl
  · rw [map_erase]
    exact q _ (hS.set d)
theorem st_clear {xs : List V} (hS : SA L M H) (d : Chg M p (.lst xs) (.lst []) M') (q : ∀ H', SA L M' H' → Q .non H') : rClear (.ref p) [] H Q := ⟨p, xs, rfl, rfl, hS.at d.mem, q _ (hS.set d)⟩
/-- [w] * n -/
theorem st_repI {n w : Int} (hS : SA L M H) (h : At L M (fL a [.int w])) (h0 : -100000 ≤ n) (h1 : n ≤ 100000) (q : ∀ p H', SA L ((p, .lst ((List.replicate n.toNat w).map V.int)) :: M) H' → Q (.ref p) H') : rRep (.ref a) (.int n) H Q := by
  refine ⟨a, n, _, rfl, rfl, h H hS, by omega, by omega, ?_, fun p hp => ?_⟩
  · have e : sizeLine ≥ 100000 := by decide
    simp only [List.length_cons, List.length_nil]
    omega
  · have e : (List.replicate n.toNat [V.int w]).flatten = (List.replicate n.toNat w).map V.int := by
      rw [List.map_replicate]
      induction n.toNat with
      | zero => rfl
      | succ k ih => rw [List.replicate_succ, List.flatten_cons, ih, List.replicate_succ]; rfl
    rw [e]
    exact q p _ (hS.newM hp)
theorem st_DG2e {kvs : List (Key × V)} {n : Int} {w : V} (hS : SA L M H) (h : At L M (fK p kvs)) (e : (dv kvs n).getD z = w) (q : Q w H) : DG2b p (.int n) z H Q := st_DG2b hS h (by rw [e]; exact q)
/-- x *= y, x >>= y -/
def ipC (C : Int → Int → Prop) (f : Int → Int → Int) : TIp := fun x y H Q => ∃ i j, x = .int i ∧ y = .int j ∧ C i j ∧ Q (.int (f i j)) H
theorem ip_mulW {X : Cx} : PIp X .Mult (ipC CMulX fun i j => i * j) := by
  intro pins s σ H x y v u Q I r1 r2 h
  obtain ⟨i, j, e1, e2, hc, q⟩ := h
  subst e1; subst e2
  obtain ⟨t, rfl⟩ := r1
  obtain ⟨t', rfl⟩ := r2
  rcases hc with h | h | h
  · exact imul_int ⟨.int _, H, I.tok _, ⟨_, rfl⟩, q⟩ (CMul.ok (.inl h))
  · exact imul_int ⟨.int _, H, I.tok _, ⟨_, rfl⟩, q⟩ (CMul.ok (.inr h))
  · exact imul_int ⟨.int _, H, I.tok _, ⟨_, rfl⟩, q⟩ h.ok
theorem ip_shr {X : Cx} : PIp X .RShift (ipC (fun _ j => 0 ≤ j) fun i j => i.fdiv (2 ^ j.toNat)) := by
  intro pins s σ H x y v u Q I r1 r2 h
  obtain ⟨i, j, e1, e2, hc, q⟩ := h
  subst e1; subst e2
  obtain ⟨t, rfl⟩ := r1
  obtain ⟨t', rfl⟩ := r2
  exact irshift_int hc ⟨.int _, H, I.tok _, ⟨_, rfl⟩, q⟩
theorem st_imul2 {i j : Int} (h0 : -18446744073709551616 < j) (h1 : j < 18446744073709551616) (q : Q (.int (i * j)) H) : ipC CMulX (fun i j => i * j) (.int i) (.int j) H Q := ⟨i, j, rfl, rfl, .inr (.inl ⟨h0, h1⟩), q⟩
end
end Sa

namespace Sa
open PySem PySem.Spec PyProof.Rows L2
/-! ### comprehensions over enumerate; of data; loops over pairs -/
def en2 (ns : List Int) : List (Int × Int) := (List.range ns.length).map fun (i : Nat) => ((i : Int), ns.getD i 0)
theorem en2_len (ns : List Int) : (en2 ns).length = ns.length := by unfold en2; rw [List.length_map, List.length_range]
theorem en2_at {ns : List Int} {i : Nat} {n : Int} (h : ns[i]? = some n) : (en2 ns)[i]? = some ((i : Int), n) := by
  have hl := (List.getElem?_eq_some_iff.mp h).1
  unfold en2
  rw [List.getElem?_map, List.getElem?_range hl]
  show some ((i : Int), ns.getD i 0) = _
  rw [List.getD_eq_getElem?_getD, h]
  rfl
theorem en2_mem {ns : List Int} {i n : Int} (h : (i, n) ∈ en2 ns) : 0 ≤ i ∧ i < ns.length ∧ n = ns.getD i.toNat 0 := by
  unfold en2 at h
  obtain ⟨k, hk, e⟩ := List.mem_map.mp h
  have hk2 := List.mem_range.mp hk
  cases e
  exact ⟨by omega, by omega, by rw [Int.toNat_natCast]⟩
theorem en2_snoc (ns : List Int) (x : Int) : en2 (ns ++ [x]) = en2 ns ++ [((ns.length : Int), x)] := by
  unfold en2
  rw [List.length_append, List.length_singleton, List.range_succ, List.map_append]
  congr 1
  · refine List.map_congr_left fun i hi => ?_
    rw [List.getD_eq_getElem?_getD, List.getElem?_append_left (List.mem_range.mp hi), List.getD_eq_getElem?_getD]
  · simp
section
variable {K : PySem.W.Frag} {L L' : List Fc} {M M' : List Cell} {H : Hp} {σ : L2.St} {Q : VK} {a p b : Addr} {xs ys : List V} {v x y z : V} {D : Ends} {te : TE} {t : TT} {ts tu : TS} {ns : List Int} {α : Type}
theorem lcA_turn {Dl : Addr} {σ2 : L2.St} {P : α → Bool} {F : α → Int} {is : List α} {i : Nat} {n : α} (hi : is[i]? = some n) (hl : is.length < 50000) (hS : SA L ((Dl, .lst ((((is.take i).filter P).map F).map V.int)) :: M) H)
    (ht : EvT t σ2 L ((Dl, .lst ((((is.take i).filter P).map F).map V.int)) :: M) (P n)) (he : P n = true → EvV te σ2 L ((Dl, .lst ((((is.take i).filter P).map F).map V.int)) :: M) (.int (F n))) :
    t σ2 H fun b H3 => if b = true then te σ2 H3 fun y H4 => ∃ acc, H4 Dl = some (.lst acc) ∧ acc.length < sizeLine ∧ SA L ((Dl, .lst ((((is.take (i + 1)).filter P).map F).map V.int)) :: M) (upd H4 Dl (.lst (acc ++ [y]))) else SA L ((Dl, .lst ((((is.take (i + 1)).filter P).map F).map V.int)) :: M) H3 := by
  refine ht H hS _ fun H3 hS3 => ?_
  have e1 : is.take (i + 1) = is.take i ++ [n] := take_at hi
  cases hf : P n with
  | true =>
    refine if_t ?_
    refine he hf H3 hS3 _ fun H4 hS4 => ⟨_, hS4.at List.mem_cons_self, ?_, ?_⟩
    · rw [List.length_map, List.length_map]
      have h1 := List.length_filter_le P (is.take i)
      rw [List.length_take] at h1
      exact Nat.lt_of_le_of_lt h1 (Nat.lt_of_le_of_lt (Nat.min_le_right _ _) (Nat.lt_of_lt_of_le hl (by decide)))
    · have e2 : (((is.take i).filter P).map F).map V.int ++ [V.int (F n)] = (((is.take (i + 1)).filter P).map F).map V.int := by
        rw [e1, List.filter_append, List.filter_cons, if_pos hf, List.map_append, List.map_append]
        rfl
      rw [e2]
      exact hS4.set .hd
  | false =>
    refine if_f ?_
    have e2 : (is.take (i + 1)).filter P = (is.take i).filter P := by
      rw [e1, List.filter_append, List.filter_cons, if_neg (by rw [hf]; decide)]
      simp
    rw [e2]
    exact hS3
/-- [F (i, n) for i, n in enumerate(ns) if P (i, n)] -/
theorem lcI_enum {j k : Nat} {vs : List Nat} (P : Int × Int → Bool) (F : Int × Int → Int) (hS : SA L M H) (hx : At L M (fQ K a (ns.map V.int))) (hn : ns.length < 50000) (hw : ∀ x y, wipe (((wipe σ vs).set j (some x)).set k (some y)) vs = wipe σ vs)
    (ht : ∀ (i n : Int) (Dl : Addr) acc, (i, n) ∈ en2 ns → EvT t (((wipe σ vs).set j (some (.int i))).set k (some (.int n))) L ((Dl, .lst acc) :: M) (P (i, n)))
    (he : ∀ (i n : Int) (Dl : Addr) acc, (i, n) ∈ en2 ns → P (i, n) = true → EvV te (((wipe σ vs).set j (some (.int i))).set k (some (.int n))) L ((Dl, .lst acc) :: M) (.int (F (i, n))))
    (q : ∀ Dl H', SA L ((Dl, .lst ((((en2 ns).filter P).map F).map V.int)) :: M) H' → Q (.ref Dl) H') : Lc (Ite K a) (gTup K 2 (gCons (gName j) (gCons (gName k) gNil))) t te vs σ Q H := fun Dl hD =>
  lc_it (walk_enum (xs := ns.map V.int)) (fun i H => SA L ((Dl, .lst (((((en2 ns).take i).filter P).map F).map V.int)) :: M) H) (hS.newM hD) (fun i H _ hp => hx H hp.dropM) (fun i x H H' hi hp hy => by
    obtain ⟨T, y1, y2, rfl, hT, rfl, e1, e2⟩ := hy
    cases e1
    obtain ⟨n, hn2, rfl⟩ := ints_at e2
    have hm := en2_at hn2
    refine ⟨T, [.int (i : Nat), .int n], rfl, SqT.of upd_same, rfl, _, _, rfl, _, _, rfl, rfl, ?_⟩
    exact ⟨hw _ _, lcA_turn hm (by rw [en2_len]; exact hn) (hp.ign hT) (ht _ _ Dl _ (List.mem_of_getElem? hm)) (he _ _ Dl _ (List.mem_of_getElem? hm))⟩) (fun H' hp => q Dl H' (by
    rw [List.length_map, List.take_of_length_le (by rw [en2_len]; exact Nat.le_refl _)] at hp
    exact hp))
/-- [F n for n in ns if P n], F n any value that is there -/
theorem lcV_turn {Dl : Addr} {σ2 : L2.St} {P : α → Bool} {F : α → V} {is : List α} {i : Nat} {n : α} (hi : is[i]? = some n) (hl : is.length < 50000) (hS : SA L ((Dl, .lst (((is.take i).filter P).map F)) :: M) H)
    (ht : EvT t σ2 L ((Dl, .lst (((is.take i).filter P).map F)) :: M) (P n)) (he : P n = true → EvV te σ2 L ((Dl, .lst (((is.take i).filter P).map F)) :: M) (F n)) :
    t σ2 H fun b H3 => if b = true then te σ2 H3 fun y H4 => ∃ acc, H4 Dl = some (.lst acc) ∧ acc.length < sizeLine ∧ SA L ((Dl, .lst (((is.take (i + 1)).filter P).map F)) :: M) (upd H4 Dl (.lst (acc ++ [y]))) else SA L ((Dl, .lst (((is.take (i + 1)).filter P).map F)) :: M) H3 := by
  refine ht H hS _ fun H3 hS3 => ?_
  have e1 : is.take (i + 1) = is.take i ++ [n] := take_at hi
  cases hf : P n with
  | true =>
    refine if_t ?_
    refine he hf H3 hS3 _ fun H4 hS4 => ⟨_, hS4.at List.mem_cons_self, ?_, ?_⟩
    · rw [List.length_map]
      have h1 := List.length_filter_le P (is.take i)
      rw [List.length_take] at h1
      exact Nat.lt_of_le_of_lt h1 (Nat.lt_of_le_of_lt (Nat.min_le_right _ _) (Nat.lt_of_lt_of_le hl (by decide)))
    · have e2 : ((is.take i).filter P).map F ++ [F n] = ((is.take (i + 1)).filter P).map F := by
        rw [e1, List.filter_append, List.filter_cons, if_pos hf, List.map_append]
        rfl
      rw [e2]
      exact hS4.set .hd
  | false =>
    refine if_f ?_
    have e2 : (is.take (i + 1)).filter P = (is.take i).filter P := by
      rw [e1, List.filter_append, List.filter_cons, if_neg (by rw [hf]; decide)]
      simp
    rw [e2]
    exact hS3
theorem lcV_list {j : Nat} {vs : List Nat} (P : Int → Bool) (F : Int → V) (hS : SA L M H) (hx : At L M (fQ K a (ns.map V.int))) (hn : ns.length < 50000) (hw : ∀ x, wipe ((wipe σ vs).set j (some x)) vs = wipe σ vs)
    (ht : ∀ (n : Int) (Dl : Addr) acc, n ∈ ns → EvT t ((wipe σ vs).set j (some (.int n))) L ((Dl, .lst acc) :: M) (P n))
    (he : ∀ (n : Int) (Dl : Addr) acc, n ∈ ns → P n = true → EvV te ((wipe σ vs).set j (some (.int n))) L ((Dl, .lst acc) :: M) (F n))
    (q : ∀ Dl H', SA L ((Dl, .lst ((ns.filter P).map F)) :: M) H' → Q (.ref Dl) H') : Lc (Itl K a) (gName j) t te vs σ Q H := fun Dl hD =>
  lc_it (walk_list (xs := ns.map V.int)) (fun i H => SA L ((Dl, .lst (((ns.take i).filter P).map F)) :: M) H) (hS.newM hD) (fun i H _ hp => hx H hp.dropM) (fun i x H H' hi hp hy => by
    obtain ⟨rfl, hx⟩ := hy
    obtain ⟨n, hn2, rfl⟩ := ints_at hx
    have hm := List.mem_of_getElem? hn2
    exact ⟨hw _, lcV_turn hn2 hn hp (ht n Dl _ hm) (he n Dl _ hm)⟩) (fun H' hp => q Dl H' (by
    rw [List.length_map, List.take_length] at hp
    exact hp))
/-- an item that tells a datum -/
def EvD (K : PySem.W.Frag) (te : TE) (σ : L2.St) (L : List Fc) (M : List Cell) (d : PyData) : Prop := ∀ H, SA L M H → ∀ Q : VK, (∀ v H', SA (fD K v d :: L) M H' → Q v H') → te σ H Q
def LD (K : PySem.W.Frag) (L : List Fc) (M : List Cell) (Dl : Addr) (ds : List PyData) (i : Nat) (H : Hp) : Prop := ∃ xs : List V, xs.length ≤ i ∧ SA (fDs K xs ds :: L) ((Dl, .lst xs) :: M) H
theorem lcD_turn {Dl : Addr} {σ2 : L2.St} {P : α → Bool} {dF : α → PyData} {is : List α} {i : Nat} {n : α} (hi : is[i]? = some n) (hl : is.length < 50000) (hx : LD K L M Dl (((is.take i).filter P).map dF) i H)
    (ht : ∀ (xs : List V) ds, EvT t σ2 (fDs K xs ds :: L) ((Dl, .lst xs) :: M) (P n)) (he : ∀ (xs : List V) ds, P n = true → EvD K te σ2 (fDs K xs ds :: L) ((Dl, .lst xs) :: M) (dF n)) :
    t σ2 H fun b H3 => if b = true then te σ2 H3 fun y H4 => ∃ acc, H4 Dl = some (.lst acc) ∧ acc.length < sizeLine ∧ LD K L M Dl (((is.take (i + 1)).filter P).map dF) (i + 1) (upd H4 Dl (.lst (acc ++ [y]))) else LD K L M Dl (((is.take (i + 1)).filter P).map dF) (i + 1) H3 := by
  obtain ⟨xs, hxl, hS⟩ := hx
  have hil := (List.getElem?_eq_some_iff.mp hi).1
  refine ht xs _ H hS _ fun H3 hS3 => ?_
  have e1 : is.take (i + 1) = is.take i ++ [n] := take_at hi
  cases hf : P n with
  | true =>
    refine if_t ?_
    refine he xs _ hf H3 hS3 _ fun y H4 hS4 => ⟨_, hS4.at List.mem_cons_self, Nat.lt_of_le_of_lt hxl (Nat.lt_of_lt_of_le (Nat.lt_trans hil hl) (by decide)), ?_⟩
    refine ⟨xs ++ [y], by rw [List.length_append]; exact Nat.succ_le_succ hxl, ?_⟩
    have e2 : ((is.take (i + 1)).filter P).map dF = ((is.take i).filter P).map dF ++ [dF n] := by
      rw [e1, List.filter_append, List.filter_cons, if_pos hf, List.map_append]
      rfl
    rw [e2]
    have h5 : SA (fDs K (xs ++ [y]) (((is.take i).filter P).map dF ++ [dF n]) :: fD K y (dF n) :: fDs K xs (((is.take i).filter P).map dF) :: L) ((Dl, .lst xs) :: M) H4 := hS4.ad fun F hF => dpa_app (hF _ (List.mem_cons_of_mem _ List.mem_cons_self)) (.cons (hF _ List.mem_cons_self) .nil)
    exact (h5.subs (.cons .hd (.tl (.tl (.tl .rest))))).set .hd
  | false =>
    refine if_f ?_
    have e2 : (is.take (i + 1)).filter P = (is.take i).filter P := by
      rw [e1, List.filter_append, List.filter_cons, if_neg (by rw [hf]; decide)]
      simp
    rw [e2]
    exact ⟨xs, Nat.le_succ_of_le hxl, hS3⟩
theorem ld_zero (hS : SA L M H) {Dl : Addr} (hD : H Dl = none) : LD K L M Dl [] 0 (upd H Dl (.lst [])) := ⟨[], Nat.le_refl _, (hS.newM hD).ad fun F hF => .nil⟩
theorem lcD_enum {j k : Nat} {vs : List Nat} (P : Int × Int → Bool) (dF : Int × Int → PyData) (hS : SA L M H) (hx : At L M (fQ K a (ns.map V.int))) (hn : ns.length < 50000) (hw : ∀ x y, wipe (((wipe σ vs).set j (some x)).set k (some y)) vs = wipe σ vs)
    (ht : ∀ (i n : Int) (Dl : Addr) xs ds, (i, n) ∈ en2 ns → EvT t (((wipe σ vs).set j (some (.int i))).set k (some (.int n))) (fDs K xs ds :: L) ((Dl, .lst xs) :: M) (P (i, n)))
    (he : ∀ (i n : Int) (Dl : Addr) xs ds, (i, n) ∈ en2 ns → P (i, n) = true → EvD K te (((wipe σ vs).set j (some (.int i))).set k (some (.int n))) (fDs K xs ds :: L) ((Dl, .lst xs) :: M) (dF (i, n)))
    (q : ∀ Dl xs H', SA (fDs K xs (((en2 ns).filter P).map dF) :: L) ((Dl, .lst xs) :: M) H' → Q (.ref Dl) H') : Lc (Ite K a) (gTup K 2 (gCons (gName j) (gCons (gName k) gNil))) t te vs σ Q H := fun Dl hD =>
  lc_it (walk_enum (xs := ns.map V.int)) (fun i H => LD K L M Dl ((((en2 ns).take i).filter P).map dF) i H) (ld_zero hS hD) (fun i H _ hp => by
    obtain ⟨xs, _, h⟩ := hp
    exact hx H h.drop.dropM) (fun i x H H' hi hp hy => by
    obtain ⟨T, y1, y2, rfl, hT, rfl, e1, e2⟩ := hy
    cases e1
    obtain ⟨n, hn2, rfl⟩ := ints_at e2
    have hm := en2_at hn2
    refine ⟨T, [.int (i : Nat), .int n], rfl, SqT.of upd_same, rfl, _, _, rfl, _, _, rfl, rfl, ?_⟩
    have hp2 : LD K L M Dl ((((en2 ns).take i).filter P).map dF) i (upd H T (.tup [.int (i : Nat), .int n])) := by
      obtain ⟨xs, h1, h2⟩ := hp
      exact ⟨xs, h1, h2.ign hT⟩
    exact ⟨hw _ _, lcD_turn hm (by rw [en2_len]; exact hn) hp2 (fun xs ds => ht _ _ Dl xs ds (List.mem_of_getElem? hm)) (fun xs ds => he _ _ Dl xs ds (List.mem_of_getElem? hm))⟩) (fun H' hp => by
    rw [List.length_map, List.take_of_length_le (by rw [en2_len]; exact Nat.le_refl _)] at hp
    obtain ⟨xs, _, h⟩ := hp
    exact q Dl xs H' h)
theorem lcD_list {j : Nat} {vs : List Nat} (P : Int → Bool) (dF : Int → PyData) (hS : SA L M H) (hx : At L M (fQ K a (ns.map V.int))) (hn : ns.length < 50000) (hw : ∀ x, wipe ((wipe σ vs).set j (some x)) vs = wipe σ vs)
    (ht : ∀ (n : Int) (Dl : Addr) xs ds, n ∈ ns → EvT t ((wipe σ vs).set j (some (.int n))) (fDs K xs ds :: L) ((Dl, .lst xs) :: M) (P n))
    (he : ∀ (n : Int) (Dl : Addr) xs ds, n ∈ ns → P n = true → EvD K te ((wipe σ vs).set j (some (.int n))) (fDs K xs ds :: L) ((Dl, .lst xs) :: M) (dF n))
    (q : ∀ Dl xs H', SA (fDs K xs ((ns.filter P).map dF) :: L) ((Dl, .lst xs) :: M) H' → Q (.ref Dl) H') : Lc (Itl K a) (gName j) t te vs σ Q H := fun Dl hD =>
  lc_it (walk_list (xs := ns.map V.int)) (fun i H => LD K L M Dl (((ns.take i).filter P).map dF) i H) (ld_zero hS hD) (fun i H _ hp => by
    obtain ⟨xs, _, h⟩ := hp
    exact hx H h.drop.dropM) (fun i x H H' hi hp hy => by
    obtain ⟨rfl, hx⟩ := hy
    obtain ⟨n, hn2, rfl⟩ := ints_at hx
    exact ⟨hw _, lcD_turn hn2 hn hp (fun xs ds => ht _ Dl xs ds (List.mem_of_getElem? hn2)) (fun xs ds => he _ Dl xs ds (List.mem_of_getElem? hn2))⟩) (fun H' hp => by
    rw [List.length_map, List.take_length] at hp
    obtain ⟨xs, _, h⟩ := hp
    exact q Dl xs H' h)
theorem lcD_rng {lo : Int} {m j : Nat} {vs : List Nat} (P : Int → Bool) (dF : Int → PyData) (hS : SA L M H) (hn : m < 50000) (hw : ∀ x, wipe ((wipe σ vs).set j (some x)) vs = wipe σ vs)
    (ht : ∀ (n : Int) (Dl : Addr) xs ds, lo ≤ n → n < lo + m → EvT t ((wipe σ vs).set j (some (.int n))) (fDs K xs ds :: L) ((Dl, .lst xs) :: M) (P n))
    (he : ∀ (n : Int) (Dl : Addr) xs ds, lo ≤ n → n < lo + m → P n = true → EvD K te ((wipe σ vs).set j (some (.int n))) (fDs K xs ds :: L) ((Dl, .lst xs) :: M) (dF n))
    (q : ∀ Dl xs H', SA (fDs K xs (((rg lo m).filter P).map dF) :: L) ((Dl, .lst xs) :: M) H' → Q (.ref Dl) H') : Lc (Itr lo m) (gName j) t te vs σ Q H := fun Dl hD =>
  lc_it (walk_range (lo := lo) (n := m)) (fun i H => LD K L M Dl ((((rg lo m).take i).filter P).map dF) i H) (ld_zero hS hD) (fun _ _ _ _ => trivial) (fun i x H H' hi hp hy => by
    obtain ⟨rfl, rfl⟩ := hy
    exact ⟨hw _, lcD_turn (rg_get hi) (by rw [rg_len]; exact hn) hp (fun xs ds => ht _ Dl xs ds (by omega) (by omega)) (fun xs ds => he _ Dl xs ds (by omega) (by omega))⟩) (fun H' hp => by
    rw [List.take_of_length_le (by rw [rg_len]; exact Nat.le_refl _)] at hp
    obtain ⟨xs, _, h⟩ := hp
    exact q Dl xs H' h)
/-- a new tuple of two, as a datum -/
theorem SA.tup2 {d1 d2 : PyData} (h : SA (fU p [x, y] :: L) M H) (h1 : ∀ H, Dp K H x d1) (h2 : ∀ H, Dp K H y d2) : SA (fD K (.ref p) (.tuple [d1, d2]) :: L) M H :=
  (h.ad (f := fD K (.ref p) (.tuple [d1, d2])) fun F hF => .tup (SqT.of (hF _ List.mem_cons_self)) (.cons (h1 F) (.cons (h2 F) .nil))).subs (.cons .hd (.tl (.tl .rest)))
def pairD (p : Int × Int) : PyData := .tuple [.int p.1, .int p.2]
/-- for u, v in a list of pairs -/
theorem lp_pairs {γ : Type} (s : Nat → γ → L2.St) (Lf : Nat → γ → List Fc) (Mf : Nat → γ → List Cell) (pr : Nat → γ → Prop) {j k : Nat} {ps : List α} {f g : α → PyData} (h0 : Iv s Lf Mf pr 0 σ H) (hG : ∀ (i : Nat) (c : γ), i ≤ ps.length → pr i c → At (Lf i c) (Mf i c) (fQ K a xs))
    (hD : ∀ (i : Nat) (c : γ), i ≤ ps.length → pr i c → At (Lf i c) (Mf i c) (fDs K xs (ps.map fun u => .tuple [f u, g u])))
    (hs : ∀ (i : Nat) (u : α) (x y : V) (c : γ) (H : Hp), ps[i]? = some u → pr i c → SA (Lf i c) (Mf i c) H → Dp K H x (f u) → Dp K H y (g u) → ts { D with nx := Iv s Lf Mf pr (i + 1), ct := Iv s Lf Mf pr (i + 1), bk := D.nx } (((s i c).set j (some x)).set k (some y)) H)
    (hd : ∀ (c : γ) (H : Hp), pr ps.length c → SA (Lf ps.length c) (Mf ps.length c) H → D.nx (s ps.length c) H) : Lp (Itl K a) (gTup K 2 (gCons (gName j) (gCons (gName k) gNil))) ts D σ H := by
  have hl : xs.length = ps.length := by
    obtain ⟨c, _, h1, h2⟩ := h0
    have e := dpa_len (hD 0 c (Nat.zero_le _) h1 _ h2)
    rw [List.length_map] at e
    exact e
  refine for_it (walk_list (xs := xs)) (Iv s Lf Mf pr) h0 (fun i σ H hi hp => ?_) (fun i x σ H H' hi hp hy => ?_) (fun σ H hp => ?_)
  · obtain ⟨c, rfl, h1, h2⟩ := hp
    exact hG i c (by omega) h1 H h2
  · obtain ⟨c, rfl, h1, h2⟩ := hp
    obtain ⟨rfl, hx⟩ := hy
    obtain ⟨d, e, h3⟩ := dpa_get (hD i c (by omega) h1 _ h2) hx
    rw [List.getElem?_map] at e
    cases hu : ps[i]? with
    | none => rw [hu] at e; cases e
    | some u =>
      rw [hu] at e
      cases e
      obtain ⟨T, x1, x2, rfl, hT, g1, g2⟩ := dp_tup2 h3
      exact ⟨T, [x1, x2], rfl, hT, rfl, _, _, rfl, _, _, rfl, rfl, hs i u x1 x2 c _ hu h1 h2 g1 g2⟩
  · obtain ⟨c, rfl, h1, h2⟩ := hp
    rw [hl] at h1 h2 ⊢
    exact hd c H h1 h2
end
/-! ### break, continue, ranges that go down -/
section
variable {K : PySem.W.Frag} {L : List Fc} {M : List Cell} {σ : L2.St} {H : Hp} {Q : VK} {D : Ends} {ts : TS} {tr : TA} {γ : Type}
instance {te : TE} {R : It → Hp → Prop} : Go (iTup K te σ H R) (te σ H fun x H1 => ∃ a, x = .ref a ∧ (∃ xs, SqT K H1 a xs) ∧ R (Itt K a) H1) := ⟨fun q => q⟩
theorem st_t1 {g : TG} {a : Addr} {xs : List V} (hS : SA L M H) (h : At L M (fT K a xs)) (q : Lp (Itt K a) g ts D σ H) : ∃ a', V.ref a = .ref a' ∧ (∃ xs, SqT K H a' xs) ∧ Lp (Itt K a') g ts D σ H := ⟨a, rfl, ⟨xs, h H hS⟩, q⟩
instance : Go (tBreak D σ H) (D.bk σ H) := ⟨fun q => q⟩
instance : Go (tCont D σ H) (D.ct σ H) := ⟨fun q => q⟩
instance {R : It → Hp → Prop} : Go (iRng3 tr σ H R) (tr σ H fun vs H1 => ∃ (i j c : Int) (n : Nat), vs = [.int i, .int j, .int c] ∧ RgC i j c n ∧ R (Itc i c n) H1) := ⟨fun q => q⟩
theorem st_r3 {g : TG} {n : Nat} {i j : Int} (h : (i - j).toNat = n) (hb : -(2 ^ 62) ≤ i ∧ i < 2 ^ 62 ∧ -(2 ^ 62) ≤ j ∧ j < 2 ^ 62) (q : Lp (Itc i (-1) n) g ts D σ H) : ∃ (i' j' c : Int) (n' : Nat), [V.int i, V.int j, V.int (-1)] = [.int i', .int j', .int c] ∧ RgC i' j' c n' ∧ Lp (Itc i' c n') g ts D σ H :=
  ⟨i, j, -1, n, rfl, by rw [← h]; exact RgC.neg hb.1 hb.2.1 hb.2.2.1 hb.2.2.2, q⟩
theorem lp_rngD (s : Nat → γ → L2.St) (Lf : Nat → γ → List Fc) (Mf : Nat → γ → List Cell) (pr : Nat → γ → Prop) {lo : Int} {n : Nat} {j : Nat} (h0 : Iv s Lf Mf pr 0 σ H)
    (hs : ∀ (i : Nat) (g : γ) (H : Hp), i < n → pr i g → SA (Lf i g) (Mf i g) H → ts { D with nx := Iv s Lf Mf pr (i + 1), ct := Iv s Lf Mf pr (i + 1), bk := D.nx } ((s i g).set j (some (.int (lo - (i : Int))))) H)
    (hd : ∀ (g : γ) (H : Hp), pr n g → SA (Lf n g) (Mf n g) H → D.nx (s n g) H) : Lp (Itc lo (-1) n) (gName j) ts D σ H :=
  for_it (walk_rangeC (lo := lo) (c := -1) (n := n)) (Iv s Lf Mf pr) h0 (fun _ _ _ _ _ => trivial) (fun i x σ H H' hi hp hy => by
    obtain ⟨g, rfl, h1, h2⟩ := hp
    obtain ⟨rfl, rfl⟩ := hy
    have e : lo + (i : Int) * (-1) = lo - (i : Int) := by omega
    show gName j (V.int (lo + (i : Int) * (-1))) _ _ _
    rw [e]
    exact hs i g H' hi h1 h2) (fun σ H hp => by
    obtain ⟨g, rfl, h1, h2⟩ := hp
    exact hd g H h1 h2)
end
/-- the other way round, any items -/
theorem st_revV {L : List Fc} {M M' : List Cell} {H : Hp} {p : Addr} {xs : List V} {Q : VK} (hS : SA L M H) (d : Chg M p (.lst xs) (.lst xs.reverse) M') (q : ∀ H', SA L M' H' → Q .non H') : rReverse (.ref p) [] H Q := ⟨p, xs, rfl, rfl, hS.at d.mem, q _ (hS.set d)⟩
/-- a list of data that is compared to [] -/
theorem st_ne0 {K : PySem.W.Frag} {L : List Fc} {M : List Cell} {H : Hp} {a b : Addr} {ds : List PyData} {Q : VK} (hS : SA L M H) (h1 : At L M (fD K (.ref a) (.list ds))) (h2 : At L M (fQ K b [])) (hs : SeqAt.shaped (.list ds) = true) (q : Q (.bl (!decide (ds = []))) H) : rNeD K (.ref a) (.ref b) H Q :=
  ⟨_, .list [], h1 H hS, .lst (h2 H hS) .nil, hs, rfl, by
    have e : PyData.eqv (.list ds) (.list []) = decide (ds = []) := by
      cases ds with
      | nil => rfl
      | cons d ds => rfl
    rw [e]
    exact q⟩
/-- [] -/
theorem At.nilL {L : List Fc} {M : List Cell} {a : Addr} (h : (a, HO.lst []) ∈ M) : At L M (fL a (([] : List Int).map V.int)) := fun H s => s.at h
theorem At.nilQ {K : PySem.W.Frag} {L : List Fc} {M : List Cell} {a : Addr} (h : (a, HO.lst []) ∈ M) : At L M (fQ K a (([] : List Int).map V.int)) := At.q (At.nilL h)
/-- data that are alike -/
theorem st_eqSame {K : PySem.W.Frag} {L : List Fc} {M : List Cell} {H : Hp} {x y : V} {d : PyData} {Q : VK} (hS : SA L M H) (h1 : At L M (fD K x d)) (h2 : At L M (fD K y d)) (hs : SeqAt.shaped d = true) (he : PyData.eqv d d = true) (q : Q (.bl true) H) : rEqD K x y H Q :=
  ⟨d, d, h1 H hS, h2 H hS, hs, hs, by rw [he]; exact q⟩
theorem eqv_il (ns : List Int) : PyData.eqv (.list (ns.map PyData.int)) (.list (ns.map PyData.int)) = true := by
  rw [show PyData.eqv (.list (ns.map PyData.int)) (.list (ns.map PyData.int)) = PyData.eqvAll (ns.map PyData.int) (ns.map PyData.int) from rfl, eqv_ints, decide_eq_true rfl]
theorem eqv_l2 (a b : List Int) : PyData.eqv (.list [.list (a.map PyData.int), .list (b.map PyData.int)]) (.list [.list (a.map PyData.int), .list (b.map PyData.int)]) = true := by
  show (PyData.eqv (.list (a.map PyData.int)) (.list (a.map PyData.int)) && (PyData.eqv (.list (b.map PyData.int)) (.list (b.map PyData.int)) && true)) = true
  rw [eqv_il, eqv_il]
  rfl
theorem shaped_l2 (a b : List Int) : SeqAt.shaped (.list [.list (a.map PyData.int), .list (b.map PyData.int)]) = true := by
  unfold SeqAt.shaped
  rw [show PyData.canLay0 (.list [.list (a.map PyData.int), .list (b.map PyData.int)]) = (PyData.canLayAll0 (a.map PyData.int) && (PyData.canLayAll0 (b.map PyData.int) && true)) from rfl, canAll_ints, canAll_ints,
    show PyData.depth (.list [.list (a.map PyData.int), .list (b.map PyData.int)]) = max (PyData.depthAll (a.map PyData.int) + 1) (max (PyData.depthAll (b.map PyData.int) + 1) 0) + 1 from rfl, depthAll_ints, depthAll_ints]
  rfl
/-! ### over a tuple -/
theorem lp_tup {K : PySem.W.Frag} {σ : L2.St} {H : Hp} {D : Ends} {ts : TS} {a : Addr} {xs : List V} {γ : Type} (s : Nat → γ → L2.St) (Lf : Nat → γ → List Fc) (Mf : Nat → γ → List Cell) (pr : Nat → γ → Prop) {j : Nat} (h0 : Iv s Lf Mf pr 0 σ H) (hG : ∀ (i : Nat) (g : γ), i ≤ xs.length → pr i g → At (Lf i g) (Mf i g) (fT K a xs))
    (hs : ∀ (i : Nat) (x : V) (g : γ) (H : Hp), xs[i]? = some x → pr i g → SA (Lf i g) (Mf i g) H → ts { D with nx := Iv s Lf Mf pr (i + 1), ct := Iv s Lf Mf pr (i + 1), bk := D.nx } ((s i g).set j (some x)) H)
    (hd : ∀ (g : γ) (H : Hp), pr xs.length g → SA (Lf xs.length g) (Mf xs.length g) H → D.nx (s xs.length g) H) : Lp (Itt K a) (gName j) ts D σ H :=
  for_it (walk_tup (xs := xs)) (Iv s Lf Mf pr) h0 (fun i σ H hi hp => by
    obtain ⟨g, rfl, h1, h2⟩ := hp
    exact hG i g hi h1 H h2) (fun i x σ H H' hi hp hy => by
    obtain ⟨g, rfl, h1, h2⟩ := hp
    obtain ⟨rfl, hx⟩ := hy
    exact hs i x g H' hx h1 h2) (fun σ H hp => by
    obtain ⟨g, rfl, h1, h2⟩ := hp
    exact hd g H h1 h2)
/-! ### x is True -/
def okB : V → Bool
  | .non => true
  | .bl _ => true
  | .int _ => true
  | .str _ => true
  | .ref _ => true
  | _ => false
def rIsBx : R2 := fun x y H Q => ∃ b, y = .bl b ∧ okB x = true ∧ Q (.bl (decide (x = .bl b))) H
theorem op_isBx {X : Cx} : OpR X (compareOp .Is) rIsBx := by
  intro pins s σ H x y v u Q I rx ry h
  obtain ⟨b, rfl, hx, q⟩ := h
  cases (show u = Value.bool b from ry)
  cases x with
  | bl a =>
    cases (show v = Value.bool a from rx)
    by_cases e : a = b
    · subst e
      exact wpAny_is_self rfl ⟨.bl true, H, I, rfl, by simpa using q⟩
    · exact wpAny_is_other rfl (fun z => e (Value.bool.inj z)) ⟨.bl false, H, I, rfl, by simpa [e] using q⟩
  | non =>
    cases (show v = Value.none from rx)
    exact wpAny_is_other rfl (fun z => by cases z) ⟨.bl false, H, I, rfl, by simpa using q⟩
  | int i =>
    obtain ⟨t, rfl⟩ := rx
    exact wpAny_is_other rfl (fun z => by cases z) ⟨.bl false, H, I, rfl, by simpa using q⟩
  | str i =>
    obtain ⟨t, rfl⟩ := rx
    exact wpAny_is_other rfl (fun z => by cases z) ⟨.bl false, H, I, rfl, by simpa using q⟩
  | ref a =>
    cases (show v = Value.ref a from rx)
    exact wpAny_is_other rfl (fun z => by cases z) ⟨.bl false, H, I, rfl, by simpa using q⟩
  | _ => cases hx
section
variable {H : Hp} {Q : VK} {b : Bool}
instance {a : Bool} : Go (rIsBx (.bl a) (.bl b) H Q) (Q (.bl (decide (a = b))) H) := ⟨fun q => ⟨b, rfl, rfl, by
  have e : (V.bl a = V.bl b) = (a = b) := by simp
  simp only [e]
  exact q⟩⟩
instance : Go (rIsBx .non (.bl b) H Q) (Q (.bl false) H) := ⟨fun q => ⟨b, rfl, rfl, by simpa using q⟩⟩
instance {i : Int} : Go (rIsBx (.int i) (.bl b) H Q) (Q (.bl false) H) := ⟨fun q => ⟨b, rfl, rfl, by simpa using q⟩⟩
instance {i : Str} : Go (rIsBx (.str i) (.bl b) H Q) (Q (.bl false) H) := ⟨fun q => ⟨b, rfl, rfl, by simpa using q⟩⟩
instance {i : Addr} : Go (rIsBx (.ref i) (.bl b) H Q) (Q (.bl false) H) := ⟨fun q => ⟨b, rfl, rfl, by simpa using q⟩⟩
end
end Sa

namespace Sa
open PySem PySem.Spec PyProof.Rows L2
/-! ### errors of classes that take their __init__ from a base -/
structure ErC (K : PySem.W.Frag) (C fI : Addr) : Prop where
  oex : OexC K C
  ini : PySem.W.findIn K (.ref C) "__init__" = some (some (.ref fI))
  ga : PySem.W.findIn K (.ref C) "__getattribute__" = some (some (.builtin "BaseException.__getattribute__"))
  gg : PySem.W.findIn K (.ref C) "__getattr__" = some none
  hdC : PySem.W.hasDictIn K C = true
  nov : PySem.W.findIn K (.ref C) "value" = some none
  ha : PySem.W.findIn K (.ref C) "__class__" = some (some (.builtin "object.__class__"))
  hn : PySem.W.specialIn K (.builtin "object.__class__") "__get__" = some (some (.builtin "getset_descriptor.__get__"))
  ht : PySem.W.takesIn K (.builtin "object.__class__") = some true
  hm : PySem.W.mroIn K C (.type "object") = some true
theorem ErC.xf {K : PySem.W.Frag} {C fI : Addr} (h : ErC K C fI) : XfC K C := ⟨h.ga, h.gg, h.oex.exC, h.hdC⟩
theorem clsIn_of {K : PySem.W.Frag} {C : Addr} (h : OexC K C) : (PySem.W.clsIn K C).isSome = true := by
  obtain ⟨nm, q, N, bs, bm, sn, sub, ab, col, dd, k0, k1, k2, k3, k5, hC, hbm⟩ := h.cls
  have e : PySem.W.clsIn K C = some { name := nm, bases := bs, mro := .ref C :: bm, ns := N, qualname := q, hasDict := true, slotNames := sn, subclasses := sub, abstract := ab, collection := col, hasDel := false } := by unfold PySem.W.clsIn; rw [hC] <;> rfl
  rw [e]
  rfl
/-- an error's dict, its value -/
def erO (v : V) : HO := .xd [(("value" : Str), v)]
/-! #### its __init__ -/
def sp_eini (K : PySem.W.Frag) : Sp := fun vs H Q _ => ∃ (a C fI : Addr) (v : V), vs = [.ref a, v] ∧ ErC K C fI ∧ H a = some (exo a C none) ∧ ∀ d, H d = none → d ≠ a → Q .non (upd (upd H d (exd d [(("value" : Str), v)])) a (exo a C (some d)))
section
variable {K : PySem.W.Frag} {L : List Fc} {M : List Cell} {H : Hp} {σ : L2.St} {Q : VK} {QX : XK} {D : Ends} {C fI a d : Addr} {v x : V} {ta : TA} {te to : TE}
/-- C(e): what is left is its dict -/
def MkB (C : Addr) (sp : Sp) (dvs vs : List V) (H1 : Hp) (Q : XK) : Prop := vs.length ≤ 1000 ∧ ∀ a, H1 a = none → sp (.ref a :: (vs ++ dvs)) (upd H1 a (exo a C none)) (fun v H2 => v = .non ∧ ∃ (d : Addr) (fs : List (Str × V)), H2 a = some (exo a C (some d)) ∧ H2 d = some (exd d fs) ∧ H1 d = none ∧ Q (.ref C) (some d) (upd (del H2 a) d (.xd fs))) (fun _ _ _ => False)
theorem st_MkB (hS : SA L M H) (e : ErC K C fI) (q : ∀ d H', SA L ((d, erO v) :: M) H' → QX (.ref C) (some d) H') : MkB C (sp_eini K) [] [v] H QX := by
  refine ⟨by show 1 ≤ 1000; decide, fun a ha => ⟨a, C, fI, v, rfl, e, upd_same, fun d hd hne => ⟨rfl, d, [(("value" : Str), v)], upd_same, ?_, ?_, ?_⟩⟩⟩
  · rw [upd_ne hne, upd_same]
  · rw [upd_ne hne] at hd
    exact hd
  · rw [upd_ne hne] at hd
    have eh : upd (del (upd (upd (upd H a (exo a C none)) d (exd d [(("value" : Str), v)])) a (exo a C (some d))) a) d (.xd [(("value" : Str), v)]) = upd H d (erO v) := by
      funext b
      by_cases hb : b = d
      · rw [hb, upd_same, upd_same]
        rfl
      · rw [upd_ne hb, upd_ne hb]
        by_cases hb2 : b = a
        · rw [hb2, del_same, ha]
        · rw [del_ne hb2, upd_ne hb2, upd_ne hb, upd_ne hb2]
    rw [eh]
    exact q d _ (hS.newM hd)
/-- raise C(e) -/
def tRs (t : L2.St → Hp → XK → Prop) (W : WX) : TS := fun _ σ H => t σ H fun cls d H' => W cls d σ H'
theorem ps_rs {X : Cx} {W : WX} {e : Expr} {t : L2.St → Hp → XK → Prop} {pos : Pos} (hc : X.calm = true) (tk : Takes X W) (he : PMk X e t) : PS X (.Raise (some e) none pos) (tRs t W) := ps_raise hc tk he
instance {sp : Sp} {dvs : List V} {W : WX} : Go (tRs (tMkO C sp dvs ta) W D σ H) (ta σ H fun vs H1 => MkB C sp dvs vs H1 (fun cls d H' => W cls d σ H')) := ⟨fun q => q⟩
/-- self.f = e in an __init__ -/
def OstA (K : PySem.W.Frag) (f : Str) (x y : V) (H2 : Hp) (N : Hp → Prop) : Prop := ∃ a C : Addr, x = .ref a ∧ OexC K C ∧ PySem.W.findIn K (.ref C) f = some none ∧
  ((H2 a = some (exo a C none) ∧ ∀ dx, H2 dx = none → dx ≠ a → N (upd (upd H2 dx (exd dx [(f, y)])) a (exo a C (some dx)))) ∨
    ∃ (dx : Addr) (fs : List (Str × V)), H2 a = some (exo a C (some dx)) ∧ H2 dx = some (exd dx fs) ∧ fs.length ≤ 900 ∧ N (upd H2 dx (exd dx ((f, y) :: fs))))
instance {f : Str} : Go (tOst K f to te D σ H) (te σ H fun y H1 => to σ H1 fun x H2 => OstA K f x y H2 fun H3 => D.nx σ H3) := ⟨fun q => q⟩
/-- what an except clause wishes -/
theorem st_wAs {c cls : Value} {dd : Option Addr} {i : Nat} {ts : Addr → Value → Option Addr → TS} {Wout : WX} (h : PySem.W.exmOne K cls c = some true)
    (q : ∀ a, H a = none → ts a cls dd { nx := fun σ' H' => D.nx (σ'.set i none) H', rt := D.rt, bk := fun σ' H' => D.bk (σ'.set i none) H', ct := fun σ' H' => D.ct (σ'.set i none) H' } (σ.set i (some (.ref a))) H) : WE (wAs K c i ts Wout D) σ cls dd H :=
  ⟨true, h, fun _ => q, fun z => nomatch z⟩
instance {sp : Sp} {E : L2.St → XK} : Go (tCallS sp E ta σ H Q) (ta σ H fun vs H1 => sp vs H1 Q (E σ)) := ⟨fun q => q⟩
def tCallKS (sp : Sp) (gV : List V → List V → List V) (E : L2.St → XK) (tk : TA) : TE := fun σ H Q => tk σ H fun zs H2 => sp (gV [] zs) H2 Q (E σ)
instance {sp : Sp} {gV : List V → List V → List V} {E : L2.St → XK} : Go (tCallKS sp gV E ta σ H Q) (ta σ H fun zs H2 => sp (gV [] zs) H2 Q (E σ)) := ⟨fun q => q⟩
end
section
variable {X : Cx} {CX : CXT} {k : Nat} {f : Addr} {fd : FuncData} {ps ks : List Str} {sp : Sp} {E : L2.St → XK} {x : Str} {p pos : Pos} {tk : TA} {kws : List Keyword} {g : List Value → List Value → List Value} {gV : List V → List V → List V}
theorem run_fnkS {pins : List (Addr × Obj)} {σ : L2.St} {H : Hp} {s : Shared} {Q : VK} {us ws : List Value} {vs zs : List V} (F : FnOk X.prog X.w X.K X.mg X.base CX k f fd ps sp) (hr : Room k X.A) (hb : KBinds X.K fd ps ks g gV) (hx : PassesAt CX X σ (E σ))
    (I : Inv X pins σ H s) (r : Vals vs us) (rz : Vals zs ws) (h : sp (gV vs zs) H Q (E σ)) : wpAny (model X.prog X.w) X.A (call (.ref f) us (ks.zip ws)) (EP X pins σ Q) X.xe s := by
  have r2 := hb.rel r rz
  have hl : (g us ws).length = ps.length := by rw [← r2.length]; exact F.len _ _ _ _ h
  refine wpAny_call (codeAny_mono (F.run X.A X.stack s H ⟨us, ks.zip ws⟩ (g us ws) (gV vs zs) Q (E σ) hr I.env0 (hb.to s us ws I.kIn hl) r2 h) fun r s' hq => ?_)
  cases r with
  | error e => exact hx pins H s e s' I hq
  | ok fl =>
    cases fl with
    | ret u => exact I.after hq
    | next => exact False.elim hq
    | brk => exact False.elim hq
    | cont => exact False.elim hq
/-- f(k = v, ..) in a try -/
theorem pe_callK0S (F : FnOk X.prog X.w X.K X.mg X.base CX k f fd ps sp) (hr : Room k X.A) (hg : Gl X x) (hm : X.mg x = some (.ref f)) (hk : PySem.W.keepIn X.K (.ref f) = true) (hb : KBinds X.K fd ps ks g gV) (hx : ∀ σ, PassesAt CX X σ (E σ))
    (hkw : PK X kws tk) (hall : (backToKw pos (keywordEach kws X.env)).all (·.1.isSome) = true := by rfl) (hks : (backToKw pos (keywordEach kws X.env)).filterMap (·.1) = ks := by rfl)
    (hdb : (x == ("__debug__" : Str)) = false := by decide) (hpl : ((backTo pos (starEach [] X.env)).any (·.1) || (backToKw pos (keywordEach kws X.env)).any (·.1.isNone)) = false := by rfl) :
    PE X (.Call (.Name x p) [] kws pos) (tCallKS sp gV E tk) := by
  refine ⟨fun pins s σ H Q I h => ?_⟩
  refine wpAny_Call_Name_kw (ld_glob I hg hm ?_ hdb)
  refine PySem.W.callWith_KW0 (h₀ := X.base) I.ok.mod.kin hk hall (thn (hkw.run pos pins s σ H _ I h) fun ws s2 ⟨zs, H2, I2, rz, q2⟩ => ⟨I2.kIn, ?_⟩) hpl
  rw [hks]
  exact run_fnkS F hr hb (hx σ) I2 .nil rz q2
end
/-! #### in an except suite -/
def XfB (K : PySem.W.Frag) (a : Addr) (cls : Value) (d : Option Addr) (n : Str) (x : V) (H1 : Hp) (Q : VK) : Prop := x = .ref a ∧ ∃ C : Addr, cls = .ref C ∧ XfC K C ∧ PySem.W.findIn K (.ref C) n = some none ∧ ∃ (dd : Addr) (fs : List (Str × V)) (v : V), d = some dd ∧ H1 dd = some (.xd fs) ∧ fs.lookup n = some v ∧ Q v H1
def tXfA (K : PySem.W.Frag) (a : Addr) (cls : Value) (d : Option Addr) (n : Str) (te : TE) : TE := fun σ H Q => te σ H fun x H1 => XfB K a cls d n x H1 Q
theorem pe_xfA {X : Cx} {a : Addr} {oe : Obj} {cls : Value} {d : Option Addr} {pn : List (Addr × Obj)} {e : Expr} {te : TE} {pos : Pos} {n : Str} (hz : Zc cls d oe) (hf : ∃ vs, oe.data = .fields vs) (he : PE (X.suite a ((a, oe) :: pn)) e te) (hb : attributeBase e n X.env (eval e X.env) = eval e X.env := by rfl) :
    PE (X.suite a ((a, oe) :: pn)) (.Attribute e n pos) (tXfA X.K a cls d n te) := by
  refine ⟨fun pins s σ H Q I h => ?_⟩
  refine attr_of hb (thn (he.run pins s σ H _ I h) fun u s1 hh => ?_)
  obtain ⟨x, H1, I1, rx, ex, C, ec, T, hno, dd, fs, v, ed, ea, l, q⟩ := hh
  subst ex
  obtain rfl : u = Value.ref a := rx
  subst ec
  subst ed
  obtain ⟨ha, _⟩ := I1.pin (a, oe) (List.mem_append_left _ List.mem_cons_self)
  obtain ⟨vs, hd⟩ := hf
  have hx : ObjOk X.prog X.w H1 s1.heap dd (.xd fs) := I1.hok dd _ ea
  obtain ⟨mA, hns, hr⟩ := hx
  obtain ⟨od, ho, hl⟩ := lookIn_ns hns
  obtain ⟨u, hu, ru⟩ := RelO.some_of (v := v) (o := mA n) (by rw [← l]; exact hr n)
  have J : PySem.W.InstAt s1.heap a oe C (some od) := ⟨ha, hz.1, by unfold PySem.W.notCls; rw [hd] <;> rfl, by rw [hz.2]; exact ho⟩
  exact HandSPX.exc_get I1.kIn J T.ga T.gg T.exC (PySem.W.findObj_own T.hdC hno rfl (by rw [hl, hu])) (handed_of ru) ⟨v, H1, I1.tok _, ru, q⟩
inductive KitL (K : PySem.W.Frag) (t : Value) : List Value → Bool → Prop
  | nil : KitL K t [] false
  | yes {c : Value} {cs : List Value} (h : PySem.W.kitOne K t c = some true) : KitL K t (c :: cs) true
  | no {c : Value} {cs : List Value} {b : Bool} (h : PySem.W.kitOne K t c = some false) (r : KitL K t cs b) : KitL K t (c :: cs) b
theorem KitL.any {K : PySem.W.Frag} {t : Value} {cs : List Value} {b : Bool} (h : KitL K t cs b) : PySem.W.kitAny K t cs = some b := by
  induction h with
  | nil => rfl
  | yes h => exact kitAny_cons h (fun z => nomatch z) (fun _ => rfl)
  | no h _ ih => exact kitAny_cons h (fun _ => ih) (fun z => nomatch z)
def clV (cs : List Addr) : List Value := cs.map Value.ref
theorem clV_pair : ∀ cs : List Addr, Paired ClsV (cs.map V.ref) (clV cs)
  | [] => .nil
  | c :: cs => .cons (.own c) (clV_pair cs)
/-- isinstance(e, D), isinstance(e, (D1, D2, ..)) -/
def IsEB (K : PySem.W.Frag) (cls : Value) (d : Option Addr) (a : Addr) (xs : List V) (H : Hp) (Q : VK) : Prop := ∃ (C fI dd : Addr) (fs : List (Str × V)) (b : Bool), cls = .ref C ∧ ErC K C fI ∧ d = some dd ∧ H dd = some (.xd fs) ∧ Q (.bl b) H ∧
  ((∃ D, xs = [.ref a, .ref D] ∧ PySem.W.kitOne K (.ref C) (.ref D) = some b) ∨ ∃ (tp : Addr) (cs : List Addr), xs = [.ref a, .ref tp] ∧ H tp = some (.tup (cs.map V.ref)) ∧ KitL K (.ref C) (clV cs) b)
theorem call_isEA {X : Cx} {a : Addr} {oe : Obj} {cls : Value} {d : Option Addr} {pn : List (Addr × Obj)} (hz : Zc cls d oe) (hf : ∃ vs, oe.data = .fields vs) : CallR (X.suite a ((a, oe) :: pn)) (.builtin "isinstance") (IsEB X.K cls d a) := by
  intro pins s σ H xs us Q I r h
  obtain ⟨C, fI, dd, fs, b, ec, T, ed, ea, q, h⟩ := h
  subst ec
  subst ed
  obtain ⟨ha, _⟩ := I.pin (a, oe) (List.mem_append_left _ List.mem_cons_self)
  obtain ⟨vs, hd⟩ := hf
  have hx : ObjOk X.prog X.w H s.heap dd (.xd fs) := I.hok dd _ ea
  obtain ⟨mA, hns, hr⟩ := hx
  obtain ⟨od, ho, hl⟩ := lookIn_ns hns
  have J : PySem.W.InstAt s.heap a oe C (some od) := ⟨ha, hz.1, by unfold PySem.W.notCls; rw [hd] <;> rfl, by rw [hz.2]; exact ho⟩
  have Z := PySem.W.kitx_exc (x := a) (ox := oe) (od := some od) (clsIn_of T.oex) T.ga T.gg T.oex.exC T.ha T.hn T.ht T.hm
  rcases h with ⟨D, rfl, e⟩ | ⟨tp, cs, rfl, hT, e⟩
  · obtain ⟨u1, u2, rfl, r1, r2⟩ := vals2 r
    cases (show u1 = Value.ref a from r1)
    cases (show u2 = Value.ref D from r2)
    exact PySem.W.kia_one Z I.kIn J e (fun z => nomatch z) fun tk => ⟨.bl b, H, I.tok tk, rfl, q⟩
  · obtain ⟨u1, u2, rfl, r1, r2⟩ := vals2 r
    cases (show u1 = Value.ref a from r1)
    cases (show u2 = Value.ref tp from r2)
    obtain ⟨_, its, rv, o, h1, h2, n, h3⟩ := (show ObjOk X.prog X.w H s.heap tp (.tup (cs.map V.ref)) from I.hok tp _ hT)
    have e3 := ClsV.all (clV_pair cs) rv
    subst e3
    obtain ⟨oc, od2, dt, sl⟩ := o
    simp only at h2 h3
    subst h2 h3
    exact PySem.W.kia_tup Z I.kIn J h1 e.any (fun z => nomatch z) fun tk => ⟨.bl b, H, I.tok tk, rfl, q⟩
section
variable {K : PySem.W.Frag} {L : List Fc} {M : List Cell} {H : Hp} {σ : L2.St} {Q : VK} {a C fI dd tp D : Addr} {v : V} {te : TE}
instance {cls : Value} {d : Option Addr} {n : Str} : Go (tXfA K a cls d n te σ H Q) (te σ H fun x H1 => XfB K a cls d n x H1 Q) := ⟨fun q => q⟩
theorem st_XfB (hS : SA L M H) (h : At L M ⟨fun H => H dd = some (erO v), fun _ _ e h => e dd _ h⟩) (e : ErC K C fI) (q : Q v H) : XfB K a (.ref C) (some dd) "value" (.ref a) H Q :=
  ⟨rfl, C, rfl, e.xf, e.nov, dd, _, v, rfl, h H hS, by simp [List.lookup], q⟩
def fE (dd : Addr) (v : V) : Fc := ⟨fun H => H dd = some (erO v), fun _ _ e h => e dd _ h⟩
theorem At.er (h : (dd, erO v) ∈ M) : At L M (fE dd v) := fun H s => s.at h
theorem st_IsE1 {b : Bool} (hS : SA L M H) (h : At L M (fE dd v)) (e : ErC K C fI) (k : PySem.W.kitOne K (.ref C) (.ref D) = some b) (q : Q (.bl b) H) : IsEB K (.ref C) (some dd) a [.ref a, .ref D] H Q :=
  ⟨C, fI, dd, _, b, rfl, e, rfl, h H hS, q, .inl ⟨D, rfl, k⟩⟩
theorem st_IsET {b : Bool} {cs : List Addr} (hS : SA L M H) (h : At L M (fE dd v)) (ht : At L M (fU tp (cs.map V.ref))) (e : ErC K C fI) (k : KitL K (.ref C) (clV cs) b) (q : Q (.bl b) H) : IsEB K (.ref C) (some dd) a [.ref a, .ref tp] H Q :=
  ⟨C, fI, dd, _, b, rfl, e, rfl, h H hS, q, .inr ⟨tp, cs, rfl, ht H hS, k⟩⟩
end
end Sa
namespace Sa
open PySem PySem.Spec PyProof.Rows L2
theorem kitCls_mk {K : PySem.W.Frag} {C D : Addr} {b : Bool} (ic : PySem.W.isClsIn K D = true) (ty : PySem.W.typeIn K (.ref D) = some (.type "type")) (s : PySem.W.subIn K (.ref C) (.ref D) = some b) : PySem.W.kitCls K (.ref C) (.ref D) = some b := by
  have e2 : ((PySem.W.clsIn K D).isSome && PySem.W.typeIn K (.ref D) == some (.type "type")) = true := by
    have h2' : (PySem.W.clsIn K D).isSome = true := ic
    rw [h2', ty] <;> rfl
  show (if ((PySem.W.clsIn K D).isSome && PySem.W.typeIn K (.ref D) == some (.type "type")) = true then PySem.W.subIn K (.ref C) (.ref D) else none) = some b
  rw [if_pos e2]
  exact s
theorem kit_mk {K : PySem.W.Frag} {C D : Addr} {b : Bool} (ic : PySem.W.isClsIn K D = true) (ty : PySem.W.typeIn K (.ref D) = some (.type "type")) (s : PySem.W.subIn K (.ref C) (.ref D) = some b) (ne : (Value.ref C == Value.ref D) = false ∨ b = true) : PySem.W.kitOne K (.ref C) (.ref D) = some b := by
  show (if (Value.ref C == Value.ref D) = true then some true else PySem.W.kitCls K (.ref C) (.ref D)) = some b
  rcases ne with e | e
  · rw [if_neg (by rw [e]; exact Bool.false_ne_true)]
    exact kitCls_mk ic ty s
  · rw [kitCls_mk ic ty s, e]
    exact ite_self _
theorem exm_mk {K : PySem.W.Frag} {C D : Addr} {b : Bool} (ex : PySem.W.subIn K (.ref D) (.type "BaseException") = some true) (ic : PySem.W.isClsIn K D = true) (ty : PySem.W.typeIn K (.ref D) = some (.type "type")) (s : PySem.W.subIn K (.ref C) (.ref D) = some b) : PySem.W.exmOne K (.ref C) (.ref D) = some b := by
  have e1 : (PySem.W.subIn K (.ref D) (.type "BaseException") == some true) = true := by rw [ex] <;> rfl
  show (if (PySem.W.subIn K (.ref D) (.type "BaseException") == some true) = true then PySem.W.kitCls K (.ref C) (.ref D) else none) = some b
  rw [if_pos e1]
  exact kitCls_mk ic ty s
end Sa
namespace Sa
open PySem PySem.Spec PyProof.Rows L2
inductive KitW (K : PySem.W.Frag) (t : Value) : List V → Bool → Prop
  | nil : KitW K t [] false
  | yes {c : Addr} {cs : List V} {b : Bool} (h : PySem.W.kitOne K t (.ref c) = some true) (r : KitW K t cs b) : KitW K t (.ref c :: cs) true
  | no {c : Addr} {cs : List V} {b : Bool} (h : PySem.W.kitOne K t (.ref c) = some false) (r : KitW K t cs b) : KitW K t (.ref c :: cs) b
theorem KitW.out {K : PySem.W.Frag} {t : Value} {xs : List V} {b : Bool} (h : KitW K t xs b) : ∃ cs : List Addr, xs = cs.map V.ref ∧ KitL K t (clV cs) b := by
  induction h with
  | nil => exact ⟨[], rfl, .nil⟩
  | @yes c _ _ h _ ih =>
    obtain ⟨cs, e, _⟩ := ih
    exact ⟨c :: cs, by rw [e]; rfl, .yes h⟩
  | @no c _ _ h _ ih =>
    obtain ⟨cs, e, r⟩ := ih
    exact ⟨c :: cs, by rw [e]; rfl, .no h r⟩
section
variable {K : PySem.W.Frag} {L : List Fc} {M : List Cell} {H : Hp} {Q : VK} {a C fI dd tp D : Addr} {v : V} {xs : List V} {b : Bool}
theorem st_IsEW (hS : SA L M H) (h : At L M (fE dd v)) (ht : At L M (fU tp xs)) (e : ErC K C fI) (k : KitW K (.ref C) xs b) (q : Q (.bl b) H) : IsEB K (.ref C) (some dd) a [.ref a, .ref tp] H Q := by
  obtain ⟨cs, rfl, k2⟩ := k.out
  exact st_IsET hS h ht e k2 q
theorem st_XfE (hS : SA L M H) (h : At L M (fE dd v)) (e : ErC K C fI) (q : Q v H) : XfB K a (.ref C) (some dd) "value" (.ref a) H Q := st_XfB hS h e q
theorem At.er0 : At L ((dd, erO v) :: M) (fE dd v) := At.er List.mem_cons_self
end
end Sa
namespace Sa
open PySem PySem.Spec PyProof.Rows L2
theorem st_wOn {K : PySem.W.Frag} {H : Hp} {σ : L2.St} {D : Ends} {c cls : Value} {dd : Option Addr} {ts : Addr → Value → Option Addr → TS} {Wout : WX} (h : PySem.W.exmOne K cls c = some true) (q : ∀ a, H a = none → ts a cls dd D σ H) : WE (wOnly K c ts Wout D) σ cls dd H :=
  ⟨true, h, fun _ => q, fun z => nomatch z⟩
end Sa

namespace T
open PySem PySem.Spec PyProof.Rows L2
open Sa (SA At fL fQ fT fD fDs fK Fc Cell Iv EvT EvV)
def topS (i : Nat) : Stmt := PySem.Challenge.pw_staletally_k14_reads_refused.main.body.getD i (.Pass ⟨0, 0, 0, 0⟩)
abbrev s_first_wrong : Stmt := topS 7
abbrev s_check_possible : Stmt := topS 8
abbrev s_number_in_gap : Stmt := topS 9
abbrev s_may_read : Stmt := topS 11
abbrev s_gaps_of : Stmt := topS 12
abbrev s_gaps : Stmt := topS 13
abbrev s_latest : Stmt := topS 14
abbrev s_earliest : Stmt := topS 15
abbrev s_ways : Stmt := topS 16
abbrev s_courses : Stmt := topS 17
abbrev s_first_wrong_read : Stmt := topS 18
abbrev s_sees : Stmt := topS 19
abbrev s__law_bowl : Stmt := topS 21
abbrev s__law_dip : Stmt := topS 22
abbrev s__law_writes : Stmt := topS 23
abbrev s__law_bent : Stmt := topS 24
abbrev s__law_alike : Stmt := topS 25
abbrev s__law_wrong : Stmt := topS 26
abbrev s__law_number : Stmt := topS 27
abbrev s__law_course : Stmt := topS 28
abbrev s__law_asked : Stmt := topS 29
abbrev s__law_due : Stmt := topS 30
abbrev s__law_odd_course : Stmt := topS 31
abbrev s__law_right : Stmt := topS 32
abbrev s_law : Stmt := topS 33
abbrev s_TallyError___init__ : Stmt := inClass (topS 1) 0
/-- what the top has left -/
structure Top (K : PySem.W.Frag) (mg : Str → Option Value) : Prop where
  d_first_wrong : ∃ f fd, Fun K "first_wrong" "first_wrong" s_first_wrong f fd ∧ mg "first_wrong" = some (.ref f)
  d_check_possible : ∃ f fd, Fun K "check_possible" "check_possible" s_check_possible f fd ∧ mg "check_possible" = some (.ref f)
  d_number_in_gap : ∃ f fd, Fun K "number_in_gap" "number_in_gap" s_number_in_gap f fd ∧ mg "number_in_gap" = some (.ref f)
  d_may_read : ∃ f fd, Fun K "may_read" "may_read" s_may_read f fd ∧ mg "may_read" = some (.ref f)
  d_gaps_of : ∃ f fd, Fun K "gaps_of" "gaps_of" s_gaps_of f fd ∧ mg "gaps_of" = some (.ref f)
  d_gaps : ∃ f fd, Fun K "gaps" "gaps" s_gaps f fd ∧ mg "gaps" = some (.ref f)
  d_latest : ∃ f fd, Fun K "latest" "latest" s_latest f fd ∧ mg "latest" = some (.ref f)
  d_earliest : ∃ f fd, Fun K "earliest" "earliest" s_earliest f fd ∧ mg "earliest" = some (.ref f)
  d_ways : ∃ f fd, Fun K "ways" "ways" s_ways f fd ∧ mg "ways" = some (.ref f)
  d_courses : ∃ f fd, Fun K "courses" "courses" s_courses f fd ∧ mg "courses" = some (.ref f)
  d_first_wrong_read : ∃ f fd, Fun K "first_wrong_read" "first_wrong_read" s_first_wrong_read f fd ∧ mg "first_wrong_read" = some (.ref f)
  d_sees : ∃ f fd, Fun K "sees" "sees" s_sees f fd ∧ mg "sees" = some (.ref f)
  d__law_bowl : ∃ f fd, Fun K "_law_bowl" "_law_bowl" s__law_bowl f fd ∧ mg "_law_bowl" = some (.ref f)
  d__law_dip : ∃ f fd, Fun K "_law_dip" "_law_dip" s__law_dip f fd ∧ mg "_law_dip" = some (.ref f)
  d__law_writes : ∃ f fd, Fun K "_law_writes" "_law_writes" s__law_writes f fd ∧ mg "_law_writes" = some (.ref f)
  d__law_bent : ∃ f fd, Fun K "_law_bent" "_law_bent" s__law_bent f fd ∧ mg "_law_bent" = some (.ref f)
  d__law_alike : ∃ f fd, Fun K "_law_alike" "_law_alike" s__law_alike f fd ∧ mg "_law_alike" = some (.ref f)
  d__law_wrong : ∃ f fd, Fun K "_law_wrong" "_law_wrong" s__law_wrong f fd ∧ mg "_law_wrong" = some (.ref f)
  d__law_number : ∃ f fd, Fun K "_law_number" "_law_number" s__law_number f fd ∧ mg "_law_number" = some (.ref f)
  d__law_course : ∃ f fd, Fun K "_law_course" "_law_course" s__law_course f fd ∧ mg "_law_course" = some (.ref f)
  d__law_asked : ∃ f fd, Fun K "_law_asked" "_law_asked" s__law_asked f fd ∧ mg "_law_asked" = some (.ref f)
  d__law_due : ∃ f fd, Fun K "_law_due" "_law_due" s__law_due f fd ∧ mg "_law_due" = some (.ref f)
  d__law_odd_course : ∃ f fd, Fun K "_law_odd_course" "_law_odd_course" s__law_odd_course f fd ∧ mg "_law_odd_course" = some (.ref f)
  d__law_right : ∃ f fd, Fun K "_law_right" "_law_right" s__law_right f fd ∧ mg "_law_right" = some (.ref f)
  d_law : ∃ f fd, Fun K "law" "law" s_law f fd ∧ mg "law" = some (.ref f)
  g_TallyError : mg "TallyError" = some (.ref (Sa.clsOf mg "TallyError"))
  g_InvalidNumber : mg "InvalidNumber" = some (.ref (Sa.clsOf mg "InvalidNumber"))
  g_NotPossible : mg "NotPossible" = some (.ref (Sa.clsOf mg "NotPossible"))
  g_InvalidGap : mg "InvalidGap" = some (.ref (Sa.clsOf mg "InvalidGap"))
  g_UnknownWrite : mg "UnknownWrite" = some (.ref (Sa.clsOf mg "UnknownWrite"))
  d_TallyError___init__ : ∃ f fd, Fun K "__init__" "TallyError.__init__" s_TallyError___init__ f fd ∧ (PySem.W.typeIn K (.ref f) = some (.type "function") ∧ Sa.ErC K (Sa.clsOf mg "UnknownWrite") f ∧ Sa.ErC K (Sa.clsOf mg "NotPossible") f ∧ Sa.ErC K (Sa.clsOf mg "InvalidGap") f)
  k_UnknownWrite_NotPossible : PySem.W.kitOne K (.ref (Sa.clsOf mg "UnknownWrite")) (.ref (Sa.clsOf mg "NotPossible")) = some false
  k_UnknownWrite_UnknownWrite : PySem.W.kitOne K (.ref (Sa.clsOf mg "UnknownWrite")) (.ref (Sa.clsOf mg "UnknownWrite")) = some true
  k_UnknownWrite_InvalidGap : PySem.W.kitOne K (.ref (Sa.clsOf mg "UnknownWrite")) (.ref (Sa.clsOf mg "InvalidGap")) = some false
  k_UnknownWrite_InvalidNumber : PySem.W.kitOne K (.ref (Sa.clsOf mg "UnknownWrite")) (.ref (Sa.clsOf mg "InvalidNumber")) = some false
  m_UnknownWrite_TallyError : PySem.W.exmOne K (.ref (Sa.clsOf mg "UnknownWrite")) (.ref (Sa.clsOf mg "TallyError")) = some true
  k_NotPossible_NotPossible : PySem.W.kitOne K (.ref (Sa.clsOf mg "NotPossible")) (.ref (Sa.clsOf mg "NotPossible")) = some true
  k_NotPossible_UnknownWrite : PySem.W.kitOne K (.ref (Sa.clsOf mg "NotPossible")) (.ref (Sa.clsOf mg "UnknownWrite")) = some false
  k_NotPossible_InvalidGap : PySem.W.kitOne K (.ref (Sa.clsOf mg "NotPossible")) (.ref (Sa.clsOf mg "InvalidGap")) = some false
  k_NotPossible_InvalidNumber : PySem.W.kitOne K (.ref (Sa.clsOf mg "NotPossible")) (.ref (Sa.clsOf mg "InvalidNumber")) = some false
  m_NotPossible_TallyError : PySem.W.exmOne K (.ref (Sa.clsOf mg "NotPossible")) (.ref (Sa.clsOf mg "TallyError")) = some true
  k_InvalidGap_NotPossible : PySem.W.kitOne K (.ref (Sa.clsOf mg "InvalidGap")) (.ref (Sa.clsOf mg "NotPossible")) = some false
  k_InvalidGap_UnknownWrite : PySem.W.kitOne K (.ref (Sa.clsOf mg "InvalidGap")) (.ref (Sa.clsOf mg "UnknownWrite")) = some false
  k_InvalidGap_InvalidGap : PySem.W.kitOne K (.ref (Sa.clsOf mg "InvalidGap")) (.ref (Sa.clsOf mg "InvalidGap")) = some true
  k_InvalidGap_InvalidNumber : PySem.W.kitOne K (.ref (Sa.clsOf mg "InvalidGap")) (.ref (Sa.clsOf mg "InvalidNumber")) = some false
  m_InvalidGap_TallyError : PySem.W.exmOne K (.ref (Sa.clsOf mg "InvalidGap")) (.ref (Sa.clsOf mg "TallyError")) = some true
  z_enumerate : mg "enumerate" = none
  z_max : mg "max" = none
  z_range : mg "range" = none
  z_len : mg "len" = none
  z_list : mg "list" = none
  z_int : mg "int" = none
  z_abs : mg "abs" = none
  z_min : mg "min" = none
  z_isinstance : mg "isinstance" = none
  z_bool : mg "bool" = none
  z_str : mg "str" = none
  z_zip : mg "zip" = none
  z_tuple : mg "tuple" = none
/-! ### possible lists -/
/-- the first write that cannot have read: from a greatest number and an index on -/
def fw : Int → Nat → List Int → Option Nat
  | _, _, [] => none
  | g, i, n :: ns => if 1 ≤ n ∧ n ≤ g + 1 then fw (max g n) (i + 1) ns else some i
def optV : Option Nat → V
  | none => .non
  | some i => .int (i : Nat)
theorem optV_non (o : Option Nat) : decide (optV o = V.non) = decide (o = none) := by
  cases o <;> simp [optV]
def top (ns : List Int) : Int := ns.foldl max 0
def Po (ns : List Int) : Prop := fw 0 0 ns = none
theorem fw_snoc (n : Int) : ∀ (ns : List Int) (g : Int) (i : Nat), fw g i (ns ++ [n]) = match fw g i ns with
    | some j => some j
    | none => if 1 ≤ n ∧ n ≤ ns.foldl max g + 1 then none else some (i + ns.length)
  | [], g, i => rfl
  | m :: ns, g, i => by
    show (if 1 ≤ m ∧ m ≤ g + 1 then fw (max g m) (i + 1) (ns ++ [n]) else some i) = match (if 1 ≤ m ∧ m ≤ g + 1 then fw (max g m) (i + 1) ns else some i) with
      | some j => some j
      | none => if 1 ≤ n ∧ n ≤ ns.foldl max (max g m) + 1 then none else some (i + (ns.length + 1))
    by_cases h : 1 ≤ m ∧ m ≤ g + 1
    · rw [if_pos h, if_pos h, fw_snoc n ns (max g m) (i + 1)]
      have e : i + 1 + ns.length = i + (ns.length + 1) := by omega
      rw [e]
    · rw [if_neg h, if_neg h]
theorem po_nil : Po [] := rfl
theorem po_snoc {ns : List Int} {n : Int} : Po (ns ++ [n]) ↔ Po ns ∧ 1 ≤ n ∧ n ≤ top ns + 1 := by
  unfold Po top
  rw [fw_snoc]
  cases h : fw 0 0 ns with
  | some j => simp
  | none =>
    by_cases h2 : 1 ≤ n ∧ n ≤ ns.foldl max 0 + 1
    · simp [if_pos h2, h2]
    · simp only [if_neg h2, true_and]
      constructor
      · intro h; cases h
      · intro h; exact absurd h h2
theorem top_nil : top [] = 0 := rfl
theorem top_snoc {ns : List Int} {n : Int} : top (ns ++ [n]) = max (top ns) n := by
  unfold top
  rw [List.foldl_append]
  rfl
/-- induction from the end -/
theorem snoc_ind {α : Type} {P : List α → Prop} (h0 : P []) (h1 : ∀ l x, P l → P (l ++ [x])) : ∀ l, P l := by
  intro l
  have key : ∀ n (l : List α), l.length = n → P l := by
    intro n
    induction n with
    | zero => intro l hl; rw [List.length_eq_zero_iff.mp hl]; exact h0
    | succ n ih =>
      intro l hl
      have hne : l ≠ [] := by intro e; rw [e] at hl; cases hl
      rw [← List.dropLast_concat_getLast hne]
      exact h1 _ _ (ih _ (by rw [List.length_dropLast, hl]; rfl))
  exact key l.length l rfl
theorem top_nonneg (ns : List Int) : 0 ≤ top ns := by
  induction ns using snoc_ind with
  | h0 => exact Int.le_refl 0
  | h1 l x ih => rw [top_snoc]; omega
theorem le_top {ns : List Int} {n : Int} (h : n ∈ ns) : n ≤ top ns := by
  induction ns using snoc_ind with
  | h0 => cases h
  | h1 l x ih =>
    rw [top_snoc]
    rcases List.mem_append.mp h with h | h
    · have := ih h; omega
    · have := List.mem_singleton.mp h; omega
theorem po_pos {ns : List Int} (h : Po ns) : ∀ n ∈ ns, 1 ≤ n := by
  induction ns using snoc_ind with
  | h0 => intro n hn; cases hn
  | h1 l x ih =>
    have h2 := po_snoc.mp h
    intro n hn
    rcases List.mem_append.mp hn with h3 | h3
    · exact ih h2.1 n h3
    · rw [List.mem_singleton.mp h3]; exact h2.2.1
theorem top_le_len {ns : List Int} (h : Po ns) : top ns ≤ ns.length := by
  induction ns using snoc_ind with
  | h0 => exact Int.le_refl 0
  | h1 l x ih =>
    have h2 := po_snoc.mp h
    have h3 := ih h2.1
    rw [top_snoc, List.length_append, List.length_singleton]
    omega
theorem po_has {ns : List Int} (h : Po ns) : ∀ v, 1 ≤ v → v ≤ top ns → v ∈ ns := by
  induction ns using snoc_ind with
  | h0 => intro v h1 h2; rw [top_nil] at h2; omega
  | h1 l x ih =>
    have h2 := po_snoc.mp h
    intro v hv1 hv2
    rw [top_snoc] at hv2
    by_cases hx : v = x
    · rw [hx]; exact List.mem_append_right _ (List.mem_singleton.mpr rfl)
    · exact List.mem_append_left _ (ih h2.1 v hv1 (by omega))
theorem po_pre {ns ms : List Int} (h : Po (ns ++ ms)) : Po ns := by
  induction ms using snoc_ind with
  | h0 => rw [List.append_nil] at h; exact h
  | h1 l x ih =>
    rw [← List.append_assoc] at h
    exact ih (po_snoc.mp h).1
theorem po_take {ns : List Int} (h : Po ns) (i : Nat) : Po (ns.take i) := by
  rw [← List.take_append_drop i ns] at h
  exact po_pre h
theorem top_mono {ns ms : List Int} : top ns ≤ top (ns ++ ms) := by
  induction ms using snoc_ind with
  | h0 => rw [List.append_nil]; exact Int.le_refl _
  | h1 l x ih => rw [← List.append_assoc, top_snoc]; omega
theorem getD_mem {ns : List Int} {i : Nat} (h : i < ns.length) : ns.getD i 0 ∈ ns := by
  rw [List.getD_eq_getElem?_getD, List.getElem?_eq_getElem h]
  exact List.getElem_mem h
theorem fw_some : ∀ (ns : List Int) (g : Int) (j k : Nat), fw g j ns = some k → ∃ i, k = j + i ∧ i < ns.length ∧ fw g j (ns.take i) = none ∧ ∀ bs, fw g j (ns.take (i + 1) ++ bs) = some k
  | [], g, j, k, h => by cases h
  | n :: ns, g, j, k, h => by
    have h1 : (if 1 ≤ n ∧ n ≤ g + 1 then fw (max g n) (j + 1) ns else some j) = some k := h
    by_cases hc : 1 ≤ n ∧ n ≤ g + 1
    · rw [if_pos hc] at h1
      obtain ⟨i, e1, e2, e3, e4⟩ := fw_some ns _ _ _ h1
      refine ⟨i + 1, by omega, by simp only [List.length_cons]; omega, ?_, fun bs => ?_⟩
      · show (if 1 ≤ n ∧ n ≤ g + 1 then fw (max g n) (j + 1) (ns.take i) else some j) = none
        rw [if_pos hc, e3]
      · show (if 1 ≤ n ∧ n ≤ g + 1 then fw (max g n) (j + 1) (ns.take (i + 1) ++ bs) else some j) = some k
        rw [if_pos hc, e4]
    · rw [if_neg hc] at h1
      cases h1
      refine ⟨0, by omega, by simp only [List.length_cons]; omega, rfl, fun bs => ?_⟩
      show (if 1 ≤ n ∧ n ≤ g + 1 then fw (max g n) (j + 1) ([] ++ bs) else some j) = some j
      rw [if_neg hc]
theorem fw_some0 {ns : List Int} {k : Nat} (h : fw 0 0 ns = some k) : k < ns.length ∧ fw 0 0 (ns.take k) = none ∧ ∀ bs, fw 0 0 (ns.take (k + 1) ++ bs) = some k := by
  obtain ⟨i, e1, e2, e3, e4⟩ := fw_some ns 0 0 k h
  obtain rfl : k = i := by omega
  exact ⟨e2, e3, e4⟩
theorem fw_take {ns : List Int} {k : Nat} (h : fw 0 0 ns = some k) (e : Nat) : fw 0 0 (ns.take e) = none ↔ e ≤ k := by
  obtain ⟨h1, h2, h3⟩ := fw_some0 h
  constructor
  · intro h4
    by_cases hk : e ≤ k
    · exact hk
    · have e1 : ns.take e = ns.take (k + 1) ++ (ns.take e).drop (k + 1) := by
        have e2 : (ns.take e).take (k + 1) = ns.take (k + 1) := by rw [List.take_take, Nat.min_eq_left (by omega)]
        rw [← e2, List.take_append_drop]
      rw [e1, h3] at h4
      cases h4
  · intro hk
    have e1 : ns.take e = (ns.take k).take e := by rw [List.take_take, Nat.min_eq_left hk]
    rw [e1]
    exact po_take h2 e
def optD : Option Nat → PyData
  | none => .none
  | some i => .int (i : Nat)
theorem At_opt {K : PySem.W.Frag} {L : List Fc} {M : List Cell} {o : Option Nat} : At L M (fD K (optV o) (optD o)) := by
  cases o with
  | none => exact Sa.At.non
  | some i => exact Sa.At.int
theorem depth_opt {o : Option Nat} {n : Nat} : (optD o).depth < n + 1 := by
  cases o with
  | none => exact Sa.depth_none
  | some i => exact Sa.depth_int
/-- a source of draws: what is left of a great cell, a mixed number, a count -/
def Jar (o : HO) (k : Int) : Prop := ∃ c m : Int, o = .lst [.int c, .int m, .int k] ∧ 0 ≤ c ∧ 0 ≤ m ∧ m < 10000000000000000000000000000000 ∧ 0 ≤ k
theorem alike_all : ∀ ds es : List PyData, ds.length = es.length → (∀ (i : Nat) (d e : PyData), ds[i]? = some d → es[i]? = some e → d = e) → ds = es := fun ds es hl h => by
  apply List.ext_getElem?
  intro i
  cases h1 : ds[i]? with
  | none =>
    have h2 := List.getElem?_eq_none_iff.mp h1
    exact (List.getElem?_eq_none (by omega)).symm
  | some d =>
    have h2 := (List.getElem?_eq_some_iff.mp h1).1
    have h3 : es[i]? = some (es[i]'(by omega)) := List.getElem?_eq_getElem (by omega)
    rw [h3, h i d _ h1 h3]
theorem depth_mem : ∀ {ds : List PyData} {i : Nat} {d : PyData}, ds[i]? = some d → d.depth ≤ PyData.depthAll ds
  | [], _, _, h => by simp at h
  | x :: xs, 0, d, h => by
    simp at h
    subst h
    exact Nat.le_max_left _ _
  | x :: xs, i + 1, d, h => Nat.le_trans (depth_mem (ds := xs) (i := i) (by simpa using h)) (Nat.le_max_right _ _)
mutual
def wid : PyData → Nat
  | .list ds => widAll ds
  | .tuple ds => widAll ds
  | _ => 0
def widAll : List PyData → Nat
  | [] => 0
  | d :: ds => wid d + 1 + widAll ds
end
theorem wid_len : ∀ ds : List PyData, ds.length ≤ widAll ds
  | [] => Nat.zero_le _
  | d :: ds => by
    have h := wid_len ds
    simp only [widAll, List.length_cons]
    omega
theorem wid_mem : ∀ {ds : List PyData} {i : Nat} {d : PyData}, ds[i]? = some d → wid d < widAll ds
  | [], _, _, h => by simp at h
  | x :: xs, 0, d, h => by
    simp at h
    subst h
    simp only [widAll]
    omega
  | x :: xs, i + 1, d, h => by
    have h2 := wid_mem (ds := xs) (i := i) (d := d) (by simpa using h)
    simp only [widAll]
    omega
mutual
def noTxt : PyData → Bool
  | .str _ => false
  | .list ds => noTxtAll ds
  | .tuple ds => noTxtAll ds
  | _ => true
def noTxtAll : List PyData → Bool
  | [] => true
  | d :: ds => noTxt d && noTxtAll ds
end
theorem noTxt_mem : ∀ {ds : List PyData} {i : Nat} {d : PyData}, ds[i]? = some d → noTxtAll ds = true → noTxt d = true
  | [], _, _, h, _ => by simp at h
  | x :: xs, 0, d, h, h2 => by
    simp at h
    subst h
    simp only [noTxtAll, Bool.and_eq_true] at h2
    exact h2.1
  | x :: xs, i + 1, d, h, h2 => by
    simp only [noTxtAll, Bool.and_eq_true] at h2
    exact noTxt_mem (ds := xs) (i := i) (by simpa using h) h2.2
theorem wid_ints : ∀ ns : List Int, widAll (ns.map PyData.int) = ns.length
  | [] => rfl
  | n :: ns => by
    simp only [List.map_cons, widAll, wid, List.length_cons, wid_ints ns]
    omega
theorem noTxt_ints : ∀ ns : List Int, noTxtAll (ns.map PyData.int) = true
  | [] => rfl
  | n :: ns => by simp only [List.map_cons, noTxtAll, noTxt, noTxt_ints ns, Bool.and_self]
/-- what the board shows in a gap -/
def sh (ns : List Int) (g : Int) : Int := if g = 0 then 0 else ns.getD (g - 1).toNat 0
/-- the gaps in which a write may have read -/
def gp (ns : List Int) (i : Int) : List Int := (Sa.rg 0 (i + 1).toNat).filter fun g => decide (sh ns g = ns.getD i.toNat 0 - 1)
theorem gp_len (ns : List Int) (i : Int) : (gp ns i).length ≤ (i + 1).toNat := by
  unfold gp
  have h := List.length_filter_le (fun g => decide (sh ns g = ns.getD i.toNat 0 - 1)) (Sa.rg 0 (i + 1).toNat)
  rw [Sa.rg_len] at h
  exact h
theorem gp_mem {ns : List Int} {i x : Int} : x ∈ gp ns i ↔ (0 ≤ x ∧ x < 0 + ((i + 1).toNat : Int)) ∧ sh ns x = ns.getD i.toNat 0 - 1 := by
  unfold gp
  rw [List.mem_filter, Sa.mem_rg, decide_eq_true_iff]
/-- the last number, 0 of none -/
def lst (ns : List Int) : Int := ns.getD (ns.length - 1) 0
def gl (ns : List Int) (i lo : Int) : List Int := (Sa.rg lo (i + 1 - lo).toNat).filter fun g => decide (sh ns g = ns.getD i.toNat 0 - 1)
theorem gl_len (ns : List Int) (i lo : Int) : (gl ns i lo).length ≤ (i + 1 - lo).toNat := by
  unfold gl
  have h := List.length_filter_le (fun g => decide (sh ns g = ns.getD i.toNat 0 - 1)) (Sa.rg lo (i + 1 - lo).toNat)
  rw [Sa.rg_len] at h
  exact h
theorem gl_mem {ns : List Int} {i lo x : Int} : x ∈ gl ns i lo ↔ (lo ≤ x ∧ x < lo + ((i + 1 - lo).toNat : Int)) ∧ sh ns x = ns.getD i.toNat 0 - 1 := by
  unfold gl
  rw [List.mem_filter, Sa.mem_rg, decide_eq_true_iff]
theorem getD_at {ns : List Int} {i : Nat} {v : Int} (h : ns[i]? = some v) : ns.getD i 0 = v := by
  rw [List.getD_eq_getElem?_getD, h]
  rfl
theorem po_at {ns : List Int} (h : Po ns) {i : Nat} (hi : i < ns.length) : 1 ≤ ns.getD i 0 ∧ ns.getD i 0 ≤ top (ns.take i) + 1 := by
  have h1 := po_take h (i + 1)
  have e : ns.take (i + 1) = ns.take i ++ [ns.getD i 0] := by
    rw [List.take_succ_eq_append_getElem hi, List.getD_eq_getElem?_getD, List.getElem?_eq_getElem hi]
    rfl
  rw [e] at h1
  exact (po_snoc.mp h1).2
theorem gl_ne {ns : List Int} (h : Po ns) {i : Nat} (hi : i < ns.length) : 0 < (gl ns i 0).length := by
  obtain ⟨h1, h2⟩ := po_at h hi
  by_cases h3 : ns.getD i 0 = 1
  · refine List.length_pos_of_mem (a := (0 : Int)) (gl_mem.mpr ⟨⟨by omega, by omega⟩, ?_⟩)
    rw [Int.toNat_natCast, h3]
    rfl
  · have h4 := po_has (po_take h i) (ns.getD i 0 - 1) (by omega) (by omega)
    obtain ⟨j, hj⟩ := List.mem_iff_getElem?.mp h4
    have h5 := (List.getElem?_eq_some_iff.mp hj).1
    rw [List.length_take] at h5
    rw [List.getElem?_take_of_lt (by omega)] at hj
    refine List.length_pos_of_mem (a := ((j : Int) + 1)) (gl_mem.mpr ⟨⟨by omega, by omega⟩, ?_⟩)
    rw [Int.toNat_natCast]
    unfold sh
    rw [if_neg (by omega), show ((j : Int) + 1 - 1).toNat = j by omega]
    exact getD_at hj
/-- a course's beginning -/
def Cp (ns F : List Int) (n : Nat) : Prop := F.length = n ∧ ∀ j, j < n → 0 ≤ F.getD j 0 ∧ F.getD j 0 ≤ j ∧ sh ns (F.getD j 0) = ns.getD j 0 - 1
theorem cp_snoc {ns F : List Int} {n : Nat} {x : Int} (h : Cp ns F n) (hx : x ∈ gl ns n 0) : Cp ns (F ++ [x]) (n + 1) := by
  refine ⟨by rw [List.length_append, h.1]; rfl, fun j hj => ?_⟩
  by_cases h2 : j < n
  · have e : (F ++ [x]).getD j 0 = F.getD j 0 := by
      rw [List.getD_eq_getElem?_getD, List.getElem?_append_left (by rw [h.1]; exact h2), List.getD_eq_getElem?_getD]
    rw [e]
    exact h.2 j h2
  · obtain rfl : j = n := by omega
    have e : (F ++ [x]).getD j 0 = x := by
      rw [List.getD_eq_getElem?_getD, List.getElem?_append_right (by rw [h.1]; exact Nat.le_refl _), h.1, Nat.sub_self]
      rfl
    rw [e]
    obtain ⟨⟨h3, h4⟩, h5⟩ := gl_mem.mp hx
    rw [Int.toNat_natCast] at h5
    exact ⟨h3, by omega, h5⟩
theorem lst_sh (ns : List Int) : sh ns (ns.length : Int) = lst ns := by
  unfold sh lst
  by_cases h : ns.length = 0
  · rw [if_pos (by omega), List.length_eq_zero_iff.mp h]
    rfl
  · rw [if_neg (by omega), show ((ns.length : Int) - 1).toNat = ns.length - 1 by omega]
theorem sh_pos {ns : List Int} {s : Int} (h : 0 ≤ s) : sh ns (s + 1) = ns.getD s.toNat 0 := by
  unfold sh
  rw [if_neg (by omega), show (s + 1 - 1) = s by omega]
theorem cut_less {ns : List Int} : cutV (ns.map V.int) none (some (-1)) = ns.dropLast.map V.int := by
  have e : HT.sIx (ns.map V.int).length (ns.map V.int).length (some (-1)) = ns.length - 1 := by
    rw [List.length_map]
    show (if (-1 : Int) < 0 then ((-1 : Int) + (ns.length : Int)).toNat else min (-1 : Int).toNat ns.length) = ns.length - 1
    rw [if_pos (by decide)]
    omega
  unfold cutV
  rw [e, HT.sIx_none, List.drop_zero, Nat.sub_zero, List.dropLast_eq_take, List.map_take]
theorem lst_some {ns : List Int} (h : Po ns) (h0 : 0 < ns.length) : 1 ≤ lst ns ∧ lst ns ≤ ns.length := by
  have h1 := po_at h (i := ns.length - 1) (by omega)
  have h2 := top_le_len (po_take h (ns.length - 1))
  rw [List.length_take] at h2
  unfold lst
  omega
theorem po_less {ns : List Int} (h : Po ns) : Po ns.dropLast := by
  rw [List.dropLast_eq_take]
  exact po_take h _
theorem dput_len (kvs : List (Key × V)) (n : Int) (v : V) : (Sa.dput kvs n v).length ≤ kvs.length + 1 := length_putK kvs _ v
theorem last_of {ms : List Int} (h : 0 < ms.length) : (ms ++ [0]).getD ((-1 : Int) - (1 : Int) + ((ms ++ [0]).length : Int)).toNat 0 = lst ms := by
  have e : ((-1 : Int) - (1 : Int) + ((ms ++ [0]).length : Int)).toNat = ms.length - 1 := by
    simp only [List.length_append, List.length_cons, List.length_nil]
    omega
  unfold lst
  rw [e, List.getD_eq_getElem?_getD, List.getElem?_append_left (by omega), List.getD_eq_getElem?_getD]
/-! ### numbers of chains -/
/-- what stands in F at the places ahead of i at which a number stands, added up -/
def smA (ns F : List Int) (i : Nat) (v : Int) : Int := (((Sa.rg 0 i).filter fun e => decide (ns.getD e.toNat 0 = v)).map fun e => F.getD e.toNat 0).sum
theorem smA_zero (ns F : List Int) (v : Int) : smA ns F 0 v = 0 := rfl
theorem smA_succ (ns F : List Int) (i : Nat) (v : Int) : smA ns F (i + 1) v = smA ns F i v + if ns.getD i 0 = v then F.getD i 0 else 0 := by
  unfold smA
  rw [Sa.rg_succ, List.filter_append, List.map_append, List.sum_append, Int.zero_add, List.filter_cons]
  congr 1
  rw [Int.toNat_natCast]
  by_cases h : ns.getD i 0 = v
  · rw [if_pos (decide_eq_true h), if_pos h]
    simp
  · rw [if_neg (by rw [decide_eq_false h]; decide), if_neg h]
    rfl
theorem smA_ext {ns ms F G : List Int} {v : Int} : ∀ {i : Nat}, (∀ j, j < i → ns.getD j 0 = ms.getD j 0) → (∀ j, j < i → F.getD j 0 = G.getD j 0) → smA ns F i v = smA ms G i v
  | 0, _, _ => rfl
  | i + 1, h1, h2 => by
    rw [smA_succ, smA_succ, smA_ext (fun j hj => h1 j (by omega)) (fun j hj => h2 j (by omega)), h1 i (by omega), h2 i (by omega)]
def cuL (ns : List Int) : Nat → List Int
  | 0 => []
  | i + 1 => cuL ns i ++ [if ns.getD i 0 = 1 then 1 else smA ns (cuL ns i) i (ns.getD i 0 - 1)]
theorem cuL_len (ns : List Int) : ∀ i : Nat, (cuL ns i).length = i
  | 0 => rfl
  | i + 1 => by
    show (cuL ns i ++ [_]).length = i + 1
    rw [List.length_append, cuL_len]
    rfl
theorem cuL_last (ns : List Int) (i : Nat) : (cuL ns (i + 1)).getD i 0 = if ns.getD i 0 = 1 then 1 else smA ns (cuL ns i) i (ns.getD i 0 - 1) := by
  show (cuL ns i ++ [_]).getD i 0 = _
  rw [List.getD_eq_getElem?_getD, List.getElem?_append_right (by rw [cuL_len]; exact Nat.le_refl _), cuL_len, Nat.sub_self]
  rfl
theorem cuL_pre (ns : List Int) {j : Nat} : ∀ {i : Nat}, j < i → (cuL ns (i + 1)).getD j 0 = (cuL ns i).getD j 0 := fun {i} h => by
  show (cuL ns i ++ [_]).getD j 0 = _
  rw [List.getD_eq_getElem?_getD, List.getElem?_append_left (by rw [cuL_len]; exact h), List.getD_eq_getElem?_getD]
theorem cuL_at (ns : List Int) {j : Nat} : ∀ {i : Nat}, j < i → (cuL ns i).getD j 0 = (cuL ns (j + 1)).getD j 0
  | 0, h => absurd h (Nat.not_lt_zero _)
  | i + 1, h => by
    by_cases e : j = i
    · rw [e]
    · rw [cuL_pre ns (by omega), cuL_at ns (by omega)]
theorem cuL_ext {ns ms : List Int} : ∀ {i : Nat}, (∀ j, j < i → ns.getD j 0 = ms.getD j 0) → cuL ns i = cuL ms i
  | 0, _ => rfl
  | i + 1, h => by
    have ih := cuL_ext (i := i) (fun j hj => h j (by omega))
    show cuL ns i ++ [if ns.getD i 0 = 1 then 1 else smA ns (cuL ns i) i (ns.getD i 0 - 1)] = cuL ms i ++ [if ms.getD i 0 = 1 then 1 else smA ms (cuL ms i) i (ms.getD i 0 - 1)]
    rw [ih, h i (by omega), smA_ext (F := cuL ms i) (G := cuL ms i) (fun j hj => h j (by omega)) (fun _ _ => rfl)]
theorem getD_take {ns : List Int} {j m : Nat} (h : j < m) : (ns.take m).getD j 0 = ns.getD j 0 := by
  rw [List.getD_eq_getElem?_getD, List.getElem?_take_of_lt h, List.getD_eq_getElem?_getD]
theorem cuL_take {ns : List Int} {i m : Nat} (h : i ≤ m) : cuL (ns.take m) i = cuL ns i := cuL_ext fun j hj => getD_take (by omega)
/-- how many chains -/
def chN (ns : List Int) : Int := if ns.length = 0 then 1 else (cuL ns ns.length).getD (ns.length - 1) 0
theorem ch_take {ns : List Int} {s : Nat} (h : s ≤ ns.length) : chN (ns.take s) = (1 :: cuL ns ns.length).getD s 0 := by
  unfold chN
  rw [List.length_take, Nat.min_eq_left h, cuL_take (Nat.le_refl _)]
  cases s with
  | zero => rfl
  | succ s =>
    rw [if_neg (by omega), Nat.add_sub_cancel, List.getD_cons_succ, cuL_at ns (i := ns.length) (by omega)]
/-- the numbers of chains by the number at their end -/
def enN (ns : List Int) (i : Nat) (v : Int) : Int := if v = 0 then 1 else smA ns (cuL ns i) i v
theorem enN_new {ns : List Int} (i : Nat) (v : Int) (hv : v ≠ 0) : enN ns (i + 1) v = enN ns i v + if ns.getD i 0 = v then (if ns.getD i 0 = 1 then 1 else smA ns (cuL ns i) i (ns.getD i 0 - 1)) else 0 := by
  unfold enN
  rw [if_neg hv, if_neg hv, smA_succ, smA_ext (G := cuL ns i) (fun _ _ => rfl) (fun j hj => cuL_pre ns hj), cuL_last]
theorem enN_el {ns : List Int} (i : Nat) : (if ns.getD i 0 = 1 then 1 else smA ns (cuL ns i) i (ns.getD i 0 - 1)) = enN ns i (ns.getD i 0 - 1) := by
  unfold enN
  by_cases h : ns.getD i 0 = 1
  · rw [if_pos h, if_pos (by omega)]
  · rw [if_neg h, if_neg (by omega)]
/-! ### which gaps are right, and the first that is not -/
def mrB (ns : List Int) (i g : Int) : Bool := decide (0 ≤ g ∧ g ≤ i ∧ sh ns g = ns.getD i.toNat 0 - 1)
def fwr (ns : List Int) : Nat → List Int → Option Nat
  | _, [] => none
  | i, g :: r => if mrB ns i g = true then fwr ns (i + 1) r else some i
theorem fwr_none {ns : List Int} : ∀ {cs : List Int} {i : Nat}, fwr ns i cs = none ↔ ∀ j, j < cs.length → mrB ns ((i + j : Nat) : Int) (cs.getD j 0) = true
  | [], i => ⟨fun _ j hj => absurd hj (Nat.not_lt_zero _), fun _ => rfl⟩
  | g :: r, i => by
    show (if mrB ns i g = true then fwr ns (i + 1) r else some i) = none ↔ _
    constructor
    · intro h j hj
      by_cases hc : mrB ns i g = true
      · rw [if_pos hc] at h
        cases j with
        | zero => exact hc
        | succ j =>
          have h2 := fwr_none.mp h j (by simpa using hj)
          rw [show i + 1 + j = i + (j + 1) by omega] at h2
          exact h2
      · rw [if_neg hc] at h
        cases h
    · intro h
      have h0 : mrB ns i g = true := h 0 (Nat.succ_pos _)
      rw [if_pos h0, fwr_none]
      intro j hj
      have h2 := h (j + 1) (by simpa using hj)
      rw [show i + 1 + j = i + (j + 1) by omega]
      exact h2
theorem cp_fwr {ns cs : List Int} : Cp ns cs ns.length ↔ cs.length = ns.length ∧ fwr ns 0 cs = none := by
  unfold Cp
  rw [fwr_none]
  constructor
  · rintro ⟨h1, h2⟩
    refine ⟨h1, fun j hj => ?_⟩
    have h3 := h2 j (by omega)
    rw [Nat.zero_add]
    unfold mrB
    rw [Int.toNat_natCast]
    exact decide_eq_true h3
  · rintro ⟨h1, h2⟩
    refine ⟨h1, fun j hj => ?_⟩
    have h3 := h2 j (by omega)
    rw [Nat.zero_add] at h3
    unfold mrB at h3
    rw [Int.toNat_natCast] at h3
    exact of_decide_eq_true h3
theorem cp_po {ns cs : List Int} (h : Cp ns cs ns.length) : Po ns := by
  have key : ∀ i : Nat, i ≤ ns.length → Po (ns.take i) := by
    intro i
    induction i with
    | zero => intro _; rw [List.take_zero]; exact po_nil
    | succ i ih =>
      intro hi
      have hP := ih (by omega)
      have e : ns.take (i + 1) = ns.take i ++ [ns.getD i 0] := Sa.take_at (by rw [List.getD_eq_getElem?_getD, List.getElem?_eq_getElem (by omega)]; rfl)
      obtain ⟨g0, g1, g2⟩ := h.2 i (by omega)
      rw [e]
      refine po_snoc.mpr ⟨hP, ?_⟩
      have ht := top_nonneg (ns.take i)
      by_cases hg : cs.getD i 0 = 0
      · rw [hg] at g2
        have e0 : sh ns 0 = 0 := rfl
        omega
      · have e1 : sh ns (cs.getD i 0) = (ns.take i).getD (cs.getD i 0 - 1).toNat 0 := by
          unfold sh
          rw [if_neg hg, getD_take (by omega)]
        have hm : (ns.take i).getD (cs.getD i 0 - 1).toNat 0 ∈ ns.take i := getD_mem (by rw [List.length_take]; omega)
        have a1 := le_top hm
        have a2 := po_pos hP _ hm
        omega
  have h2 := key ns.length (Nat.le_refl _)
  rw [List.take_length] at h2
  exact h2
/-- what writes see -/
def snV (cs : List Int) : List V := cs.map fun g => if 0 < g then V.int (g - 1) else V.non
def snD (cs : List Int) : List PyData := cs.map fun g => if 0 < g then PyData.int (g - 1) else PyData.none
theorem dpa_sn {K : PySem.W.Frag} {H : Hp} : ∀ cs : List Int, DpAll K H (snV cs) (snD cs)
  | [] => .nil
  | g :: cs => by
    refine .cons ?_ (dpa_sn cs)
    by_cases h : 0 < g
    · simp only [if_pos h]
      exact .int _
    · simp only [if_neg h]
      exact .non
theorem At_sn {K : PySem.W.Frag} {L : List Fc} {M : List Cell} {a : Addr} {cs : List Int} (h : At L M (fL a (snV cs))) : At L M (fD K (.ref a) (.list (snD cs))) := fun H s => .lst (SqL.of (h H s)) (dpa_sn cs)
theorem snV_len (cs : List Int) : (snV cs).length = cs.length := by unfold snV; rw [List.length_map]
theorem depth_sn : ∀ cs : List Int, PyData.depthAll (snD cs) = 0
  | [] => rfl
  | g :: cs => by
    show max (PyData.depth (if 0 < g then PyData.int (g - 1) else PyData.none)) (PyData.depthAll (snD cs)) = 0
    rw [depth_sn cs]
    by_cases h : 0 < g
    · rw [if_pos h]; rfl
    · rw [if_neg h]; rfl
theorem can_sn : ∀ cs : List Int, PyData.canLayAll0 (snD cs) = true
  | [] => rfl
  | g :: cs => by
    show (PyData.canLay0 (if 0 < g then PyData.int (g - 1) else PyData.none) && PyData.canLayAll0 (snD cs)) = true
    rw [can_sn cs]
    by_cases h : 0 < g
    · rw [if_pos h]; rfl
    · rw [if_neg h]; rfl
theorem shaped_sn (cs : List Int) : SeqAt.shaped (.list (snD cs)) = true := by
  unfold SeqAt.shaped
  rw [show PyData.canLay0 (.list (snD cs)) = PyData.canLayAll0 (snD cs) from rfl, can_sn, show PyData.depth (.list (snD cs)) = PyData.depthAll (snD cs) + 1 from rfl, depth_sn]
  rfl
theorem snV_at {cs : List Int} {i : Int} (h0 : 0 ≤ i) (h1 : i < cs.length) : atI (snV cs) i = some (if 0 < cs.getD i.toNat 0 then V.int (cs.getD i.toNat 0 - 1) else V.non) := by
  have hl : i.toNat < cs.length := by omega
  unfold atI ixN
  rw [if_pos h0, if_pos (by rw [snV_len]; exact h1)]
  show (snV cs)[i.toNat]? = _
  unfold snV
  rw [List.getElem?_map, List.getElem?_eq_getElem hl, List.getD_eq_getElem?_getD, List.getElem?_eq_getElem hl]
  rfl
theorem snV_nn {cs : List Int} (h : ∀ g ∈ cs, 0 ≤ g) : (cs.map fun g => if g = 0 then V.non else V.int (g - 1)) = snV cs := by
  unfold snV
  refine List.map_congr_left fun g hg => ?_
  have := h g hg
  by_cases h0 : g = 0
  · rw [if_pos h0, if_neg (by omega)]
  · rw [if_neg h0, if_pos (by omega)]
theorem cp_nn {ns cs : List Int} (h : Cp ns cs ns.length) : ∀ g ∈ cs, 0 ≤ g := fun g hg => by
  obtain ⟨j, hj, rfl⟩ := List.getElem_of_mem hg
  have h2 := (h.2 j (by have := h.1; omega)).1
  rw [List.getD_eq_getElem?_getD, List.getElem?_eq_getElem hj] at h2
  exact h2
def icB (ns cs : List Int) : Bool := decide (fw 0 0 ns = none) && (decide (cs.length = ns.length) && decide (fwr ns 0 cs = none))
def dueB (ns cs : List Int) : Bool := decide (cs.length = ns.length) && decide (fwr ns 0 cs = none)
theorem icB_due (ns cs : List Int) : icB ns cs = dueB ns cs := by
  unfold icB dueB
  rw [Bool.eq_iff_iff]
  simp only [Bool.and_eq_true, decide_eq_true_eq]
  constructor
  · rintro ⟨_, h⟩
    exact h
  · intro h
    exact ⟨cp_po (cp_fwr.mpr h), h⟩
theorem fwr_at {ns : List Int} : ∀ {cs : List Int} {i j : Nat}, fwr ns i cs = some j → i ≤ j ∧ j < i + cs.length
  | [], i, j, h => nomatch h
  | g :: r, i, j, h => by
    have h : (if mrB ns i g = true then fwr ns (i + 1) r else some i) = some j := h
    rw [List.length_cons]
    by_cases hc : mrB ns i g = true
    · rw [if_pos hc] at h
      have := fwr_at h
      omega
    · rw [if_neg hc] at h
      cases h
      omega
theorem fwr_lt {ns cs : List Int} {j : Nat} (h : fwr ns 0 cs = some j) : j < cs.length := by
  have := fwr_at h
  omega
theorem fwr_cons (ns : List Int) (i : Nat) (g : Int) (r : List Int) : fwr ns i (g :: r) = if mrB ns i g = true then fwr ns (i + 1) r else some i := rfl
theorem fz_ints {K : PySem.W.Frag} {L : List Fc} {M : List Cell} {H : Hp} {p : Addr} (ms : List Int) (h : SA L ((p, .lst (ms.map V.int)) :: M) H) : SA (fD K (.ref p) (.list (ms.map PyData.int)) :: L) M H :=
  h.freeze (f := fD K (.ref p) (.list (ms.map PyData.int))) fun _ e _ => Sa.dp_ints (SqL.of e)
/-- a list that holds one list of ints -/
theorem fz_nest {K : PySem.W.Frag} {L : List Fc} {M : List Cell} {H : Hp} {p f : Addr} (ms : List Int) (h : SA L ((p, .lst [.ref f]) :: (f, .lst (ms.map V.int)) :: M) H) : SA (fD K (.ref p) (.list [.list (ms.map PyData.int)]) :: L) M H := by
  have h2 : SA (fD K (.ref f) (.list (ms.map PyData.int)) :: L) ((p, .lst [.ref f]) :: M) H := fz_ints ms (h.front (.tl .hd))
  have h3 := h2.freeze (f := fD K (.ref p) (.list [.list (ms.map PyData.int)])) fun F e hF => .lst (SqL.of e) (.cons (hF _ List.mem_cons_self) .nil)
  exact h3.subs (.cons .hd (.tl (.tl .rest)))
/-! ### the last, the first gap up to a place in which the board shows a number -/
def hasg (ns : List Int) : Nat → Int → Bool
  | 0, v => decide (v = 0)
  | i + 1, v => hasg ns i v || decide (v = sh ns ((i : Int) + 1))
def lg (ns : List Int) : Nat → Int → Int
  | 0, _ => 0
  | i + 1, v => if v = sh ns ((i : Int) + 1) then (i : Int) + 1 else lg ns i v
def eg (ns : List Int) : Nat → Int → Int
  | 0, _ => 0
  | i + 1, v => if hasg ns i v = true then eg ns i v else (i : Int) + 1
def lateL (ns : List Int) : List Int := (List.range ns.length).map fun i => lg ns i (ns.getD i 0 - 1)
def earlyL (ns : List Int) : List Int := (List.range ns.length).map fun i => eg ns i (ns.getD i 0 - 1)
theorem lateL_len (ns : List Int) : (lateL ns).length = ns.length := by unfold lateL; rw [List.length_map, List.length_range]
theorem earlyL_len (ns : List Int) : (earlyL ns).length = ns.length := by unfold earlyL; rw [List.length_map, List.length_range]
theorem hasg_iff (ns : List Int) : ∀ (i : Nat) (v : Int), hasg ns i v = true ↔ ∃ g : Nat, g ≤ i ∧ sh ns g = v
  | 0, v => by
    show decide (v = 0) = true ↔ _
    rw [decide_eq_true_eq]
    constructor
    · intro h
      exact ⟨0, Nat.le_refl _, by rw [h]; rfl⟩
    · rintro ⟨g, hg, e⟩
      obtain rfl : g = 0 := by omega
      rw [← e]
      rfl
  | i + 1, v => by
    show (hasg ns i v || decide (v = sh ns ((i : Int) + 1))) = true ↔ _
    rw [Bool.or_eq_true, hasg_iff ns i v, decide_eq_true_eq]
    constructor
    · rintro (⟨g, hg, e⟩ | h)
      · exact ⟨g, by omega, e⟩
      · exact ⟨i + 1, Nat.le_refl _, h.symm⟩
    · rintro ⟨g, hg, e⟩
      by_cases h : g = i + 1
      · subst h
        exact .inr e.symm
      · exact .inl ⟨g, by omega, e⟩
theorem lg_is (ns : List Int) : ∀ (i : Nat) (v : Int), hasg ns i v = true → 0 ≤ lg ns i v ∧ lg ns i v ≤ i ∧ sh ns (lg ns i v) = v ∧ ∀ g : Int, lg ns i v < g → g ≤ i → sh ns g ≠ v
  | 0, v, h => by
    have hv : v = 0 := of_decide_eq_true h
    exact ⟨Int.le_refl _, Int.le_refl _, by rw [hv]; rfl, fun g h1 h2 => by
      have h1' : (0 : Int) < g := h1
      omega⟩
  | i + 1, v, h => by
    unfold lg
    by_cases e : v = sh ns ((i : Int) + 1)
    · simp only [if_pos e]
      exact ⟨by omega, by omega, e.symm, fun g h1 h2 => by omega⟩
    · simp only [if_neg e]
      have h' : (hasg ns i v || decide (v = sh ns ((i : Int) + 1))) = true := h
      rw [decide_eq_false e, Bool.or_false] at h'
      obtain ⟨a1, a2, a3, a4⟩ := lg_is ns i v h'
      refine ⟨a1, by omega, a3, fun g h1 h2 => ?_⟩
      by_cases hg : g = (i : Int) + 1
      · rw [hg]
        exact fun z => e z.symm
      · exact a4 g h1 (by omega)
theorem eg_is (ns : List Int) : ∀ (i : Nat) (v : Int), hasg ns i v = true → 0 ≤ eg ns i v ∧ eg ns i v ≤ i ∧ sh ns (eg ns i v) = v ∧ ∀ g : Int, 0 ≤ g → g < eg ns i v → sh ns g ≠ v
  | 0, v, h => by
    have hv : v = 0 := of_decide_eq_true h
    exact ⟨Int.le_refl _, Int.le_refl _, by rw [hv]; rfl, fun g h1 h2 => by
      have h2' : g < (0 : Int) := h2
      omega⟩
  | i + 1, v, h => by
    unfold eg
    by_cases e : hasg ns i v = true
    · simp only [if_pos e]
      obtain ⟨a1, a2, a3, a4⟩ := eg_is ns i v e
      exact ⟨a1, by omega, a3, a4⟩
    · simp only [if_neg e]
      have h' : (hasg ns i v || decide (v = sh ns ((i : Int) + 1))) = true := h
      rw [Bool.or_eq_true, decide_eq_true_eq] at h'
      have hv := h'.resolve_left e
      refine ⟨by omega, by omega, hv.symm, fun g h1 h2 z => e ((hasg_iff ns i v).mpr ⟨g.toNat, by omega, ?_⟩)⟩
      rw [show ((g.toNat : Nat) : Int) = g by omega]
      exact z
theorem po_hasg {ns : List Int} (hP : Po ns) {i : Nat} (hi : i < ns.length) : hasg ns i (ns.getD i 0 - 1) = true := by
  have h2 : ns.take (i + 1) = ns.take i ++ [ns.getD i 0] := Sa.take_at (by rw [List.getD_eq_getElem?_getD, List.getElem?_eq_getElem hi]; rfl)
  have h3 := po_take hP (i + 1)
  rw [h2] at h3
  obtain ⟨h4, h5, h6⟩ := po_snoc.mp h3
  rw [hasg_iff]
  by_cases h0 : ns.getD i 0 - 1 = 0
  · exact ⟨0, Nat.zero_le _, by rw [h0]; rfl⟩
  · obtain ⟨j, hj, e⟩ := List.getElem_of_mem (po_has h4 (ns.getD i 0 - 1) (by omega) (by omega))
    rw [List.length_take] at hj
    refine ⟨j + 1, by omega, ?_⟩
    unfold sh
    rw [if_neg (by omega), show ((((j + 1 : Nat) : Int) - 1)).toNat = j by omega, ← e, List.getD_eq_getElem?_getD, List.getElem?_eq_getElem (by omega), List.getElem_take]
    rfl
theorem sh_next (ns : List Int) (i : Nat) : sh ns ((i : Int) + 1) = ns.getD i 0 := by
  unfold sh
  rw [if_neg (by omega), show ((i : Int) + 1 - 1).toNat = i by omega]
/-! ### the first of a number, from either end -/
theorem shl_at {ns : List Int} {i j : Nat} (hj : j ≤ i) (hi : i ≤ ns.length) : (0 :: ns.take i)[j]? = some (sh ns j) := by
  cases j with
  | zero => rfl
  | succ j =>
    rw [List.getElem?_cons_succ, List.getElem?_take_of_lt (by omega), List.getElem?_eq_getElem (by omega)]
    rw [show ((j + 1 : Nat) : Int) = (j : Int) + 1 by omega, sh_next, List.getD_eq_getElem?_getD, List.getElem?_eq_getElem (by omega)]
    rfl
theorem shl_mem {ns : List Int} {i : Nat} {v : Int} (hi : i ≤ ns.length) (h : hasg ns i v = true) : v ∈ 0 :: ns.take i := by
  obtain ⟨g, hg, e⟩ := (hasg_iff ns i v).mp h
  exact List.mem_of_getElem? (by rw [shl_at hg hi, e])
theorem shl_len {ns : List Int} {i : Nat} (hi : i ≤ ns.length) : (0 :: ns.take i).length = i + 1 := by
  rw [List.length_cons, List.length_take, Nat.min_eq_left hi]
theorem first_eg {ns : List Int} {i j : Nat} {v : Int} (hi : i ≤ ns.length) (h : hasg ns i v = true) (f : Sa.FirstAt (0 :: ns.take i) v j) : (j : Int) = eg ns i v := by
  obtain ⟨a1, a2, a3, a4⟩ := eg_is ns i v h
  have hj := (List.getElem?_eq_some_iff.mp f.1).1
  rw [shl_len hi] at hj
  have hv := f.1
  rw [shl_at (by omega) hi] at hv
  have hv2 : sh ns j = v := Option.some.inj hv
  rcases Int.lt_trichotomy (j : Int) (eg ns i v) with c | c | c
  · exact absurd hv2 (a4 j (by omega) c)
  · exact c
  · refine absurd ?_ (f.2 (eg ns i v).toNat (by omega))
    rw [shl_at (by omega) hi, show (((eg ns i v).toNat : Nat) : Int) = eg ns i v by omega, a3]
theorem shr_at {ns : List Int} {i j : Nat} (hj : j ≤ i) (hi : i ≤ ns.length) : (0 :: ns.take i).reverse[j]? = some (sh ns ((i : Int) - j)) := by
  rw [List.getElem?_reverse (by rw [shl_len hi]; omega), shl_len hi, shl_at (by omega) hi]
  congr 2
  omega
theorem first_lg {ns : List Int} {i j : Nat} {v : Int} (hi : i ≤ ns.length) (h : hasg ns i v = true) (f : Sa.FirstAt (0 :: ns.take i).reverse v j) : (i : Int) - j = lg ns i v := by
  obtain ⟨a1, a2, a3, a4⟩ := lg_is ns i v h
  have hj := (List.getElem?_eq_some_iff.mp f.1).1
  rw [List.length_reverse, shl_len hi] at hj
  have hv := f.1
  rw [shr_at (by omega) hi] at hv
  have hv2 : sh ns ((i : Int) - j) = v := Option.some.inj hv
  rcases Int.lt_trichotomy ((i : Int) - j) (lg ns i v) with c | c | c
  · refine absurd ?_ (f.2 ((i : Int) - lg ns i v).toNat (by omega))
    rw [shr_at (by omega) hi, show (i : Int) - ((((i : Int) - lg ns i v).toNat : Nat) : Int) = lg ns i v by omega, a3]
  · exact c
  · exact absurd hv2 (a4 _ c (by omega))
/-! ### how many gaps show a number -/
def cnt (ns : List Int) (i : Nat) (v : Int) : Nat := (0 :: ns.take i).count v
theorem cnt_zero (ns : List Int) (v : Int) : cnt ns 0 v = if v = 0 then 1 else 0 := by
  unfold cnt
  rw [List.take_zero, List.count_cons, List.count_nil]
  by_cases h : v = 0
  · simp [h]
  · simp [h, Ne.symm h]
theorem cnt_succ {ns : List Int} {i : Nat} (hi : i < ns.length) (v : Int) : cnt ns (i + 1) v = cnt ns i v + if v = ns.getD i 0 then 1 else 0 := by
  unfold cnt
  have e : ns.take (i + 1) = ns.take i ++ [ns.getD i 0] := Sa.take_at (by rw [List.getD_eq_getElem?_getD, List.getElem?_eq_getElem hi]; rfl)
  rw [e, ← List.cons_append, List.count_append]
  congr 1
  rw [List.count_singleton]
  by_cases h : v = ns.getD i 0
  · rw [if_pos h, if_pos (by rw [h]; exact beq_self_eq_true _)]
  · rw [if_neg h, if_neg (by simpa using fun e => h e.symm)]
theorem cnt_le {ns : List Int} {i : Nat} {v : Int} (hi : i ≤ ns.length) : cnt ns i v ≤ i + 1 := by
  have h : (0 :: ns.take i).count v ≤ (0 :: ns.take i).length := List.count_le_length
  rw [shl_len hi] at h
  exact h
theorem cnt_pos {ns : List Int} {i : Nat} {v : Int} (hi : i ≤ ns.length) (h : hasg ns i v = true) : 0 < cnt ns i v := List.count_pos_iff.mpr (shl_mem hi h)
theorem cnt_no {ns : List Int} {i : Nat} {v : Int} (hi : i ≤ ns.length) (h : hasg ns i v = false) : cnt ns i v = 0 := List.count_eq_zero.mpr (fun hm => by
  obtain ⟨j, hj⟩ := List.mem_iff_getElem?.mp hm
  have hl := (List.getElem?_eq_some_iff.mp hj).1
  rw [shl_len hi] at hl
  rw [shl_at (by omega) hi] at hj
  have h2 := (hasg_iff ns i v).mpr ⟨j, by omega, Option.some.inj hj⟩
  rw [h] at h2
  cases h2)
theorem cnt_one {ns : List Int} {v : Int} : ∀ {i : Nat}, i ≤ ns.length → hasg ns i v = true → (cnt ns i v = 1 ↔ eg ns i v = lg ns i v)
  | 0, _, h => by
    have hv : v = 0 := of_decide_eq_true h
    rw [cnt_zero, if_pos hv]
    exact ⟨fun _ => rfl, fun _ => rfl⟩
  | i + 1, hi, h => by
    have e1 : sh ns ((i : Int) + 1) = ns.getD i 0 := sh_next ns i
    rw [cnt_succ (by omega)]
    show _ ↔ (if hasg ns i v = true then eg ns i v else (i : Int) + 1) = (if v = sh ns ((i : Int) + 1) then (i : Int) + 1 else lg ns i v)
    rw [e1]
    cases hh : hasg ns i v with
    | true =>
      have hp := cnt_pos (by omega) hh
      rw [if_pos rfl]
      by_cases hv : v = ns.getD i 0
      · rw [if_pos hv, if_pos hv]
        have a2 := (eg_is ns i v hh).2.1
        constructor
        · intro h2; omega
        · intro h2; omega
      · rw [if_neg hv, if_neg hv]
        exact cnt_one (by omega) hh
    | false =>
      rw [cnt_no (by omega) hh]
      have h' : (hasg ns i v || decide (v = sh ns ((i : Int) + 1))) = true := h
      rw [hh, Bool.false_or, decide_eq_true_eq, e1] at h'
      rw [if_pos h', if_pos h']
      exact ⟨fun _ => rfl, fun _ => rfl⟩
/-- the product of how many -/
def wayN (ns : List Int) : Nat → Int
  | 0 => 1
  | i + 1 => wayN ns i * (cnt ns i (ns.getD i 0 - 1) : Nat)
theorem way_one {ns : List Int} (hP : Po ns) : ∀ {i : Nat}, i ≤ ns.length → 1 ≤ wayN ns i ∧ (wayN ns i = 1 ↔ ∀ j, j < i → eg ns j (ns.getD j 0 - 1) = lg ns j (ns.getD j 0 - 1))
  | 0, _ => ⟨Int.le_refl _, fun _ j hj => absurd hj (Nat.not_lt_zero _), fun _ => rfl⟩
  | i + 1, hi => by
    obtain ⟨h1, h2⟩ := way_one hP (i := i) (by omega)
    have hh := po_hasg hP (i := i) (by omega)
    have hp := cnt_pos (by omega) hh
    have h3 := cnt_one (by omega) hh
    have e : wayN ns (i + 1) = wayN ns i * (cnt ns i (ns.getD i 0 - 1) : Nat) := rfl
    generalize cnt ns i (ns.getD i 0 - 1) = c at hp h3 e
    have h4 : 1 ≤ wayN ns i * (c : Int) := by
      have := Int.mul_le_mul h1 (show (1 : Int) ≤ c by omega) (by decide) (by omega)
      omega
    refine ⟨by omega, ?_⟩
    rw [e]
    constructor
    · intro h5 j hj
      have hc1 : c = 1 := by
        have h6 : (1 : Int) * c ≤ wayN ns i * c := Int.mul_le_mul_of_nonneg_right h1 (by omega)
        omega
      have hw1 : wayN ns i = 1 := by
        rw [hc1] at h5
        omega
      by_cases hji : j = i
      · rw [hji]
        exact h3.mp hc1
      · exact h2.mp hw1 j (by omega)
    · intro h5
      rw [h2.mpr (fun j hj => h5 j (by omega)), h3.mpr (h5 i (by omega))]
      rfl
theorem late_early {ns : List Int} (hP : Po ns) : lateL ns = earlyL ns ↔ wayN ns ns.length = 1 := by
  rw [(way_one hP (Nat.le_refl _)).2]
  unfold lateL earlyL
  rw [List.map_inj_left]
  constructor
  · intro h j hj
    exact (h j (List.mem_range.mpr hj)).symm
  · intro h j hj
    exact (h j (List.mem_range.mp hj)).symm
theorem wayN_pre {ns ms : List Int} : ∀ {i : Nat}, i ≤ ns.length → wayN (ns ++ ms) i = wayN ns i
  | 0, _ => rfl
  | i + 1, hi => by
    show wayN (ns ++ ms) i * (cnt (ns ++ ms) i ((ns ++ ms).getD i 0 - 1) : Nat) = wayN ns i * (cnt ns i (ns.getD i 0 - 1) : Nat)
    rw [wayN_pre (by omega)]
    have e1 : (ns ++ ms).getD i 0 = ns.getD i 0 := by rw [List.getD_eq_getElem?_getD, List.getElem?_append_left (by omega), List.getD_eq_getElem?_getD]
    rw [e1]
    unfold cnt
    rw [List.take_append_of_le_length (by omega)]
theorem wayN_snoc {ns : List Int} {n : Int} : wayN (ns ++ [n]) (ns ++ [n]).length = wayN ns ns.length * ((0 :: ns).count (n - 1) : Nat) := by
  rw [List.length_append, List.length_singleton]
  show wayN (ns ++ [n]) ns.length * (cnt (ns ++ [n]) ns.length ((ns ++ [n]).getD ns.length 0 - 1) : Nat) = _
  rw [wayN_pre (Nat.le_refl _)]
  have e1 : (ns ++ [n]).getD ns.length 0 = n := by rw [List.getD_eq_getElem?_getD, List.getElem?_append_right (Nat.le_refl _), Nat.sub_self]; rfl
  rw [e1]
  unfold cnt
  rw [List.take_append_of_le_length (Nat.le_refl _), List.take_length]
/-! ### rows of gaps, by the number that the board shows in them -/
abbrev Row := Addr × List Int
abbrev rowC (r : Row) : Cell := (r.1, .lst (r.2.map V.int))
theorem chg_rows {M : List Cell} {xs : List Int} : ∀ {rows : List Row} {k : Nat} {r : Row}, rows[k]? = some r → Sa.Chg (rows.map rowC ++ M) r.1 (.lst (r.2.map V.int)) (.lst (xs.map V.int)) ((rows.set k (r.1, xs)).map rowC ++ M)
  | [], k, r, h => by simp at h
  | r0 :: rows, 0, r, h => by
    cases h
    exact .hd
  | r0 :: rows, k + 1, r, h => .tl (chg_rows (rows := rows) (k := k) h)
theorem mem_rows {M : List Cell} {rows : List Row} {k : Nat} {r : Row} (h : rows[k]? = some r) : (r.1, HO.lst (r.2.map V.int)) ∈ rows.map rowC ++ M :=
  List.mem_append_left _ (List.mem_map.mpr ⟨r, List.mem_of_getElem? h, rfl⟩)
/-- what holds of them ahead of write i -/
structure RwI (ns : List Int) (i : Nat) (kvs : List (Key × V)) (rows : List Row) : Prop where
  len : (rows.length : Int) = top (ns.take i) + 1
  dv : ∀ v : Int, Sa.dv kvs v = if 0 ≤ v then (rows[v.toNat]?).map (fun r => V.ref r.1) else none
  gap : ∀ (k : Nat) (r : Row), rows[k]? = some r → 0 < r.2.length ∧ r.2.length ≤ i + 1 ∧ ∀ g ∈ r.2, 0 ≤ g ∧ g ≤ i ∧ sh ns g = k
theorem rw_start (ns : List Int) (a : Addr) : RwI ns 0 (Sa.dput [] 0 (.ref a)) [(a, [0])] := by
  refine ⟨rfl, fun v => ?_, fun k r h => ?_⟩
  · rw [Sa.dv_put, Sa.dv_nil]
    by_cases h : v = 0
    · rw [if_pos h, if_pos (by omega), h]
      rfl
    · rw [if_neg h]
      by_cases h0 : 0 ≤ v
      · rw [if_pos h0, List.getElem?_eq_none (by show 1 ≤ v.toNat; omega)]
        rfl
      · rw [if_neg h0]
  · match k, h with
    | 0, h =>
      cases h
      refine ⟨Nat.zero_lt_one, Nat.le_refl 1, fun g hg => ?_⟩
      rw [List.mem_singleton.mp hg]
      exact ⟨Int.le_refl _, Int.le_refl _, rfl⟩
    | k + 1, h => simp at h
theorem rw_old {ns : List Int} {i : Nat} {kvs : List (Key × V)} {rows : List Row} {r : Row} (hP : Po ns) (hi : i < ns.length) (h : RwI ns i kvs rows) (hr : rows[(ns.getD i 0).toNat]? = some r) : RwI ns (i + 1) kvs (rows.set (ns.getD i 0).toNat (r.1, r.2 ++ [(i : Int) + 1])) := by
  have hn := po_at hP hi
  have hkl := (List.getElem?_eq_some_iff.mp hr).1
  have htk : ns.take (i + 1) = ns.take i ++ [ns.getD i 0] := Sa.take_at (by rw [List.getD_eq_getElem?_getD, List.getElem?_eq_getElem hi]; rfl)
  have hl := h.len
  refine ⟨?_, fun v => ?_, fun k r2 h2 => ?_⟩
  · rw [List.length_set, htk, top_snoc, Int.max_eq_left (by omega)]
    exact hl
  · rw [h.dv v]
    by_cases h0 : 0 ≤ v
    · rw [if_pos h0, if_pos h0]
      by_cases e : v.toNat = (ns.getD i 0).toNat
      · rw [e, hr, List.getElem?_set_self hkl]
        rfl
      · rw [List.getElem?_set_ne (fun z => e z.symm)]
    · rw [if_neg h0, if_neg h0]
  · by_cases e : k = (ns.getD i 0).toNat
    · subst e
      rw [List.getElem?_set_self hkl] at h2
      cases h2
      obtain ⟨g1, g2, g3⟩ := h.gap _ r hr
      refine ⟨by rw [List.length_append, List.length_singleton]; omega, by rw [List.length_append, List.length_singleton]; omega, fun g hg => ?_⟩
      rcases List.mem_append.mp hg with hg | hg
      · have := g3 g hg
        exact ⟨this.1, by omega, this.2.2⟩
      · rw [List.mem_singleton.mp hg, sh_pos (by omega), Int.toNat_natCast]
        exact ⟨by omega, by omega, by omega⟩
    · rw [List.getElem?_set_ne (fun z => e z.symm)] at h2
      obtain ⟨g1, g2, g3⟩ := h.gap k r2 h2
      exact ⟨g1, by omega, fun g hg => by
        have := g3 g hg
        exact ⟨this.1, by omega, this.2.2⟩⟩
theorem rw_new {ns : List Int} {i : Nat} {kvs : List (Key × V)} {rows : List Row} {a : Addr} (hP : Po ns) (hi : i < ns.length) (h : RwI ns i kvs rows) (hr : rows[(ns.getD i 0).toNat]? = none) : RwI ns (i + 1) (Sa.dput kvs (ns.getD i 0) (.ref a)) (rows ++ [(a, [(i : Int) + 1])]) := by
  have hn := po_at hP hi
  have hkl := List.getElem?_eq_none_iff.mp hr
  have htk : ns.take (i + 1) = ns.take i ++ [ns.getD i 0] := Sa.take_at (by rw [List.getD_eq_getElem?_getD, List.getElem?_eq_getElem hi]; rfl)
  have hl := h.len
  have ek : (ns.getD i 0).toNat = rows.length := by omega
  refine ⟨?_, fun v => ?_, fun k r2 h2 => ?_⟩
  · rw [List.length_append, List.length_singleton, htk, top_snoc, Int.max_eq_right (by omega)]
    omega
  · rw [Sa.dv_put]
    by_cases e : v = ns.getD i 0
    · rw [if_pos e, if_pos (by omega), e, ek, List.getElem?_append_right (Nat.le_refl _), Nat.sub_self]
      rfl
    · rw [if_neg e, h.dv v]
      by_cases h0 : 0 ≤ v
      · rw [if_pos h0, if_pos h0]
        by_cases h1 : v.toNat < rows.length
        · rw [List.getElem?_append_left h1]
        · rw [List.getElem?_eq_none (by omega), List.getElem?_eq_none (by rw [List.length_append, List.length_singleton]; omega)]
      · rw [if_neg h0, if_neg h0]
  · by_cases e : k < rows.length
    · rw [List.getElem?_append_left e] at h2
      obtain ⟨g1, g2, g3⟩ := h.gap k r2 h2
      exact ⟨g1, by omega, fun g hg => by
        have := g3 g hg
        exact ⟨this.1, by omega, this.2.2⟩⟩
    · by_cases e2 : k = rows.length
      · subst e2
        rw [List.getElem?_append_right (Nat.le_refl _), Nat.sub_self] at h2
        cases h2
        refine ⟨Nat.zero_lt_one, by show 1 ≤ i + 1 + 1; omega, fun g hg => ?_⟩
        rw [List.mem_singleton.mp hg, sh_pos (by omega), Int.toNat_natCast]
        exact ⟨by omega, by omega, by omega⟩
      · rw [List.getElem?_eq_none (by rw [List.length_append, List.length_singleton]; omega)] at h2
        cases h2
theorem rw_at {ns : List Int} {i : Nat} {kvs : List (Key × V)} {rows : List Row} (hP : Po ns) (hi : i < ns.length) (h : RwI ns i kvs rows) : ∃ r, rows[(ns.getD i 0 - 1).toNat]? = some r ∧ Sa.dv kvs (ns.getD i 0 - 1) = some (.ref r.1) ∧ 0 < r.2.length ∧ r.2.length ≤ i + 1 ∧ ∀ g ∈ r.2, 0 ≤ g ∧ g ≤ i ∧ sh ns g = ns.getD i 0 - 1 := by
  have hn := po_at hP hi
  have hl := h.len
  have hlt : (ns.getD i 0 - 1).toNat < rows.length := by omega
  have e : rows[(ns.getD i 0 - 1).toNat]? = some rows[(ns.getD i 0 - 1).toNat] := List.getElem?_eq_getElem hlt
  obtain ⟨g1, g2, g3⟩ := h.gap _ _ e
  refine ⟨_, e, ?_, g1, g2, fun g hg => ?_⟩
  · rw [h.dv, if_pos (by omega), e]
    rfl
  · have := g3 g hg
    exact ⟨this.1, this.2.1, by omega⟩
theorem cp_next {ns F : List Int} {i : Nat} {x : Int} (h : Cp ns F i) (hx : 0 ≤ x ∧ x ≤ i ∧ sh ns x = ns.getD i 0 - 1) : Cp ns (F ++ [x]) (i + 1) :=
  cp_snoc h (gl_mem.mpr ⟨by omega, by rw [Int.toNat_natCast]; exact hx.2.2⟩)
theorem st_DSc {L : List Fc} {M : List Cell} {H : Hp} {p : Addr} {kvs : List (Key × V)} {n : Int} {z : V} {Q : VK} (hS : SA L ((p, .dK kvs) :: M) H) (hl : kvs.length < 100000) (q : ∀ kvs' H', (∀ m, Sa.dv kvs' m = if m = n then some ((Sa.dv kvs n).getD z) else Sa.dv kvs m) → kvs'.length ≤ kvs.length + 1 → SA L ((p, .dK kvs') :: M) H' → Q ((Sa.dv kvs n).getD z) H') : Sa.DSb p (.int n) z H Q := by
  refine ⟨kvs, Sum.inl n, hS.at List.mem_cons_self, rfl, Nat.lt_of_lt_of_le hl (by decide), fun v hv => ?_, fun hv => ?_⟩
  · have e : Sa.dv kvs n = some v := hv
    have q1 := q kvs H (fun m => ?_) (Nat.le_succ _) hS
    · rw [e] at q1
      exact q1
    · by_cases h : m = n
      · rw [if_pos h, h, e]
        rfl
      · rw [if_neg h]
  · have e : Sa.dv kvs n = none := hv
    have q1 := q (Sa.dput kvs n z) _ (fun m => ?_) (Sa.dput_len kvs n z) (hS.set .hd)
    · rw [e] at q1
      exact q1
    · rw [Sa.dv_put, e]
      rfl
theorem rw_dv {ns : List Int} {i : Nat} {kvs kvs' : List (Key × V)} {rows : List Row} (h : RwI ns i kvs rows) (e : ∀ v, Sa.dv kvs' v = Sa.dv kvs v) : RwI ns i kvs' rows := ⟨h.len, fun v => by rw [e]; exact h.dv v, h.gap⟩
theorem cp_more {ns cs : List Int} (h : Cp ns cs ns.length) : Cp (ns ++ [1] ++ [2]) (cs ++ [0] ++ [(ns.length : Int) + 1]) (ns ++ [1] ++ [2]).length := by
  have hl := h.1
  have e2 : (ns ++ [1] ++ [2]).length = ns.length + 2 := by simp
  have shp : ∀ g : Int, 0 ≤ g → g ≤ ns.length → sh (ns ++ [1] ++ [2]) g = sh ns g := fun g h0 h1 => by
    unfold sh
    by_cases hz : g = 0
    · rw [if_pos hz, if_pos hz]
    · rw [if_neg hz, if_neg hz, List.append_assoc, List.getD_eq_getElem?_getD, List.getD_eq_getElem?_getD, List.getElem?_append_left (by omega)]
  rw [e2]
  refine ⟨by simp [hl], fun j hj => ?_⟩
  by_cases h1 : j < ns.length
  · have hj2 := h.2 j h1
    have a1 : (cs ++ [0] ++ [(ns.length : Int) + 1]).getD j 0 = cs.getD j 0 := by
      rw [List.append_assoc, List.getD_eq_getElem?_getD, List.getD_eq_getElem?_getD, List.getElem?_append_left (by omega)]
    have a2 : (ns ++ [1] ++ [2]).getD j 0 = ns.getD j 0 := by
      rw [List.append_assoc, List.getD_eq_getElem?_getD, List.getD_eq_getElem?_getD, List.getElem?_append_left (by omega)]
    rw [a1, a2, shp _ hj2.1 (by omega)]
    exact hj2
  · by_cases h2 : j = ns.length
    · have a1 : (cs ++ [0] ++ [(ns.length : Int) + 1]).getD j 0 = 0 := by
        rw [h2, List.append_assoc, List.getD_eq_getElem?_getD, List.getElem?_append_right (by omega), hl, Nat.sub_self]
        rfl
      have a2 : (ns ++ [1] ++ [2]).getD j 0 = 1 := by
        rw [h2, List.append_assoc, List.getD_eq_getElem?_getD, List.getElem?_append_right (by omega), Nat.sub_self]
        rfl
      rw [a1, a2, shp _ (Int.le_refl _) (by omega)]
      exact ⟨Int.le_refl _, by omega, rfl⟩
    · have h3 : j = ns.length + 1 := by omega
      have a1 : (cs ++ [0] ++ [(ns.length : Int) + 1]).getD j 0 = (ns.length : Int) + 1 := by
        rw [h3, List.append_assoc, List.getD_eq_getElem?_getD, List.getElem?_append_right (by omega), hl, show ns.length + 1 - ns.length = 1 by omega]
        rfl
      have a2 : (ns ++ [1] ++ [2]).getD j 0 = 2 := by
        rw [h3, List.append_assoc, List.getD_eq_getElem?_getD, List.getElem?_append_right (by omega), show ns.length + 1 - ns.length = 1 by omega]
        rfl
      have a3 : (ns ++ [1] ++ [2]).getD ns.length 0 = 1 := by
        rw [List.append_assoc, List.getD_eq_getElem?_getD, List.getElem?_append_right (by omega), Nat.sub_self]
        rfl
      rw [a1, a2, sh_pos (by omega), Int.toNat_natCast, a3]
      omega
theorem snV_more (cs : List Int) (n : Nat) : snV (cs ++ [0] ++ [(n : Int) + 1]) = snV cs ++ [V.non, V.int (n : Int)] := by
  unfold snV
  rw [List.append_assoc, List.map_append]
  congr 1
  show [if (0 : Int) < 0 then V.int (0 - 1) else V.non, if 0 < (n : Int) + 1 then V.int ((n : Int) + 1 - 1) else V.non] = _
  rw [if_neg (by decide), if_pos (by omega), show (n : Int) + 1 - 1 = (n : Int) by omega]
def vO : Option Int → V
  | none => .non
  | some i => .int i
/-- where the way down stands behind so many steps -/
def DwI (ns : List Int) (s t : Nat) (at_ : Option Int) (st : Int) : Prop := match at_ with
  | some a => 0 ≤ a ∧ a < ns.length ∧ st = t ∧ ns.getD a.toNat 0 = ns.getD s 0 - t
  | none => st = ns.getD s 0
/-! ### lists in which numbers are gone -/
/-- the least greatest number ahead with which the rest can be -/
def nd : List (Option Int) → Int
  | [] => 0
  | none :: r => max (nd r - 1) 0
  | some n :: r => if nd r ≤ n then n - 1 else nd r
/-- all that can stand behind a greatest number -/
def fill : List (Option Int) → Int → List (List Int)
  | [], _ => [[]]
  | none :: r, g => (Sa.rg 1 (g + 1).toNat).flatMap fun x => (fill r (max g x)).map (x :: ·)
  | some n :: r, g => if 1 ≤ n ∧ n ≤ g + 1 then (fill r (max g n)).map (n :: ·) else []
theorem fill_none (r : List (Option Int)) (g : Int) : fill (none :: r) g = (Sa.rg 1 (g + 1).toNat).flatMap fun x => (fill r (max g x)).map (x :: ·) := rfl
theorem fill_some (n : Int) (r : List (Option Int)) (g : Int) : fill (some n :: r) g = if 1 ≤ n ∧ n ≤ g + 1 then (fill r (max g n)).map (n :: ·) else [] := rfl
theorem rg_cons (lo : Int) (n : Nat) : Sa.rg lo (n + 1) = lo :: Sa.rg (lo + 1) n := by
  unfold Sa.rg
  rw [List.range_succ_eq_map, List.map_cons, List.map_map]
  congr 1
  · omega
  · apply List.map_congr_left
    intro a _
    show lo + ((a + 1 : Nat) : Int) = lo + 1 + (a : Nat)
    omega
def pos1 (os : List (Option Int)) : Prop := ∀ n, some n ∈ os → 1 ≤ n
theorem pos1_tl {o : Option Int} {r : List (Option Int)} (h : pos1 (o :: r)) : pos1 r := fun n hn => h n (List.mem_cons_of_mem _ hn)
theorem rg1_mem {g x : Int} (hg : 0 ≤ g) : x ∈ Sa.rg 1 (g + 1).toNat ↔ 1 ≤ x ∧ x ≤ g + 1 := by
  rw [Sa.mem_rg]
  omega
theorem nd_nn : ∀ {os : List (Option Int)}, pos1 os → 0 ≤ nd os
  | [], _ => Int.le_refl _
  | none :: r, _ => Int.le_max_right _ _
  | some n :: r, h => by
    have h1 := nd_nn (pos1_tl h)
    have h2 := h n List.mem_cons_self
    unfold nd
    split <;> omega
theorem fill_ne : ∀ {os : List (Option Int)} {g : Int}, pos1 os → 0 ≤ g → (fill os g ≠ [] ↔ nd os ≤ g)
  | [], g, _, hg => by
    unfold fill nd
    exact ⟨fun _ => hg, fun _ => by simp⟩
  | none :: r, g, h, hg => by
    have h0 := pos1_tl h
    unfold fill nd
    constructor
    · intro h1
      obtain ⟨l, hl⟩ := List.exists_mem_of_ne_nil _ h1
      obtain ⟨x, hx, hl2⟩ := List.mem_flatMap.mp hl
      obtain ⟨l2, h3, _⟩ := List.mem_map.mp hl2
      have hx2 := (rg1_mem hg).mp hx
      have h4 := (fill_ne (g := max g x) h0 (by omega)).mp (List.ne_nil_of_mem h3)
      omega
    · intro h1
      have h4 := (fill_ne (g := max g (g + 1)) h0 (by omega)).mpr (by omega)
      obtain ⟨l, hl⟩ := List.exists_mem_of_ne_nil _ h4
      exact List.ne_nil_of_mem (List.mem_flatMap.mpr ⟨g + 1, (rg1_mem hg).mpr (by omega), List.mem_map.mpr ⟨l, hl, rfl⟩⟩)
  | some n :: r, g, h, hg => by
    have h0 := pos1_tl h
    have h1 := h n List.mem_cons_self
    have h2 := fill_ne (g := max g n) h0 (by omega)
    have h3 := nd_nn h0
    unfold fill nd
    by_cases hc : 1 ≤ n ∧ n ≤ g + 1
    · rw [if_pos hc]
      have : (fill r (max g n)).map (n :: ·) ≠ [] ↔ fill r (max g n) ≠ [] := by simp
      rw [this, h2]
      split <;> omega
    · rw [if_neg hc]
      refine ⟨fun z => absurd rfl z, fun z => ?_⟩
      split at z <;> omega
theorem fill_bad : ∀ {os : List (Option Int)} {g : Int}, 0 ≤ g → fill os g ≠ [] → pos1 os
  | [], g, _, _ => fun n hn => nomatch hn
  | none :: r, g, hg, h => by
    unfold fill at h
    obtain ⟨l, hl⟩ := List.exists_mem_of_ne_nil _ h
    obtain ⟨x, hx, hl2⟩ := List.mem_flatMap.mp hl
    obtain ⟨l2, h3, _⟩ := List.mem_map.mp hl2
    have h4 := fill_bad (os := r) (g := max g x) (by omega) (List.ne_nil_of_mem h3)
    intro n hn
    rcases List.mem_cons.mp hn with e | e
    · cases e
    · exact h4 n e
  | some m :: r, g, hg, h => by
    unfold fill at h
    by_cases hc : 1 ≤ m ∧ m ≤ g + 1
    · rw [if_pos hc] at h
      have h4 := fill_bad (os := r) (g := max g m) (by omega) (fun z => h (by rw [z]; rfl))
      intro n hn
      rcases List.mem_cons.mp hn with e | e
      · cases e
        exact hc.1
      · exact h4 n e
    · rw [if_neg hc] at h
      exact absurd rfl h
/-- the first of them -/
def ff : List (Option Int) → Int → List Int
  | [], _ => []
  | some n :: r, g => n :: ff r (max g n)
  | none :: r, g => if 0 < g ∧ nd r ≤ g then 1 :: ff r (max g 1) else (g + 1) :: ff r (max g (g + 1))
theorem head_flat {α β : Type} {f : α → List β} : ∀ {l : List α} {y : β}, (∃ a l1 l2, l = l1 ++ a :: l2 ∧ (∀ b ∈ l1, f b = []) ∧ (f a).head? = some y) → (l.flatMap f).head? = some y := by
  rintro l y ⟨a, l1, l2, rfl, h1, h2⟩
  rw [List.flatMap_append, List.flatMap_eq_nil_iff.mpr h1, List.nil_append, List.flatMap_cons]
  cases hf : f a with
  | nil => rw [hf] at h2; cases h2
  | cons z zs => rw [hf] at h2; cases h2; rfl
theorem ff_head : ∀ {os : List (Option Int)} {g : Int}, pos1 os → 0 ≤ g → fill os g ≠ [] → (fill os g).head? = some (ff os g)
  | [], g, _, _, _ => rfl
  | some n :: r, g, h, hg, hf => by
    have h0 := pos1_tl h
    unfold fill at hf ⊢
    by_cases hc : 1 ≤ n ∧ n ≤ g + 1
    · rw [if_pos hc] at hf ⊢
      have h4 := ff_head (os := r) (g := max g n) h0 (by omega) (fun z => hf (by rw [z]; rfl))
      rw [List.head?_map, h4]
      rfl
    · rw [if_neg hc] at hf
      exact absurd rfl hf
  | none :: r, g, h, hg, hf => by
    have h0 := pos1_tl h
    have hn := (fill_ne h hg).mp hf
    unfold nd at hn
    unfold fill ff
    have hn0 := nd_nn h0
    refine head_flat ?_
    by_cases hc : 0 < g ∧ nd r ≤ g
    · rw [if_pos hc]
      refine ⟨1, [], Sa.rg 2 g.toNat, ?_, (fun b hb => nomatch hb), ?_⟩
      · rw [show (g + 1).toNat = g.toNat + 1 by omega, rg_cons]
        rfl
      · have h4 := ff_head (os := r) (g := max g 1) h0 (by omega) ((fill_ne h0 (by omega)).mpr (by omega))
        rw [List.head?_map, h4]
        rfl
    · rw [if_neg hc]
      refine ⟨g + 1, Sa.rg 1 g.toNat, [], ?_, fun b hb => ?_, ?_⟩
      · rw [show (g + 1).toNat = g.toNat + 1 by omega, Sa.rg_succ, show (1 : Int) + (g.toNat : Nat) = g + 1 by omega]
      · have hb2 := Sa.mem_rg.mp hb
        have : fill r (max g b) = [] := Classical.byContradiction fun z => by
          have := (fill_ne (g := max g b) h0 (by omega)).mp z
          omega
        rw [this]
        rfl
      · have h4 := ff_head (os := r) (g := max g (g + 1)) h0 (by omega) ((fill_ne h0 (by omega)).mpr (by omega))
        rw [List.head?_map, h4]
        rfl
/-! the lines, number by number -/
def ext (o : Option Int) (l : List Int) : List (List Int) := match o with
  | none => (Sa.rg 1 (top l + 1).toNat).map fun x => l ++ [x]
  | some n => if 1 ≤ n ∧ n ≤ top l + 1 then [l ++ [n]] else []
def stp (o : Option Int) (R : List (List Int)) : List (List Int) := R.flatMap (ext o)
def rows (os : List (Option Int)) : List (List Int) := os.foldl (fun R o => stp o R) [[]]
theorem rows_snoc (os : List (Option Int)) (o : Option Int) : rows (os ++ [o]) = stp o (rows os) := by
  unfold rows
  rw [List.foldl_append]
  rfl
theorem ext_fill (o : Option Int) (os : List (Option Int)) (l : List Int) : (ext o l).flatMap (fun z => (fill os (top z)).map (z ++ ·)) = (fill (o :: os) (top l)).map (l ++ ·) := by
  cases o with
  | none =>
    rw [fill_none]
    show ((Sa.rg 1 (top l + 1).toNat).map fun x => l ++ [x]).flatMap (fun z => (fill os (top z)).map (z ++ ·)) = _
    rw [List.flatMap_map, List.map_flatMap]
    congr 1
    funext x
    rw [top_snoc, List.map_map]
    congr 1
    funext z
    exact List.append_assoc l [x] z
  | some n =>
    rw [fill_some]
    show (if 1 ≤ n ∧ n ≤ top l + 1 then [l ++ [n]] else []).flatMap (fun z => (fill os (top z)).map (z ++ ·)) = _
    by_cases hc : 1 ≤ n ∧ n ≤ top l + 1
    · rw [if_pos hc, if_pos hc, List.flatMap_cons, List.flatMap_nil, List.append_nil, top_snoc, List.map_map]
      congr 1
      funext z
      exact List.append_assoc l [n] z
    · rw [if_neg hc, if_neg hc]
      rfl
theorem rows_go : ∀ (os : List (Option Int)) (R : List (List Int)), os.foldl (fun R o => stp o R) R = R.flatMap fun l => (fill os (top l)).map (l ++ ·)
  | [], R => by
    show R = R.flatMap fun l => [l ++ []]
    simp
  | o :: os, R => by
    show os.foldl (fun R o => stp o R) (stp o R) = _
    rw [rows_go os (stp o R)]
    unfold stp
    rw [List.flatMap_assoc]
    congr 1
    funext l
    exact ext_fill o os l
theorem rows_fill (os : List (Option Int)) : rows os = fill os 0 := by
  unfold rows
  rw [rows_go]
  simp [top]
def fct : Nat → Nat
  | 0 => 1
  | i + 1 => (i + 1) * fct i
theorem flat_len {α β : Type} {f : α → List β} {m : Nat} : ∀ {l : List α}, (∀ a ∈ l, (f a).length ≤ m) → (l.flatMap f).length ≤ l.length * m
  | [], _ => Nat.zero_le _
  | a :: l, h => by
    rw [List.flatMap_cons, List.length_append, List.length_cons, Nat.succ_mul]
    have h1 := h a List.mem_cons_self
    have h2 := flat_len (f := f) (l := l) fun b hb => h b (List.mem_cons_of_mem _ hb)
    omega
theorem ext_top {o : Option Int} {l z : List Int} (h : z ∈ ext o l) : ∃ x, z = l ++ [x] ∧ 1 ≤ x ∧ x ≤ top l + 1 ∧ top l ≤ top z ∧ top z ≤ top l + 1 := by
  have fin : ∀ x : Int, 1 ≤ x → x ≤ top l + 1 → z = l ++ [x] → ∃ x, z = l ++ [x] ∧ 1 ≤ x ∧ x ≤ top l + 1 ∧ top l ≤ top z ∧ top z ≤ top l + 1 := fun x h1 h2 e => by
    refine ⟨x, e, h1, h2, ?_⟩
    rw [e, top_snoc]
    omega
  cases o with
  | none =>
    obtain ⟨x, hx, e⟩ := List.mem_map.mp h
    have := Sa.mem_rg.mp hx
    exact fin x (by omega) (by omega) e.symm
  | some n =>
    have h : z ∈ (if 1 ≤ n ∧ n ≤ top l + 1 then [l ++ [n]] else []) := h
    by_cases hc : 1 ≤ n ∧ n ≤ top l + 1
    · rw [if_pos hc] at h
      exact fin n hc.1 hc.2 (List.mem_singleton.mp h)
    · rw [if_neg hc] at h
      cases h
theorem ext_len {o : Option Int} {l : List Int} {i : Nat} (h : top l ≤ i) : (ext o l).length ≤ i + 1 := by
  cases o with
  | none =>
    show ((Sa.rg 1 (top l + 1).toNat).map fun x => l ++ [x]).length ≤ i + 1
    rw [List.length_map, Sa.rg_len]
    omega
  | some n =>
    show (if 1 ≤ n ∧ n ≤ top l + 1 then [l ++ [n]] else []).length ≤ i + 1
    split
    · exact Nat.succ_le_succ (Nat.zero_le i)
    · exact Nat.zero_le _
theorem rows_ok : ∀ (i : Nat) (os : List (Option Int)), os.length = i → (∀ l ∈ rows os, l.length = i ∧ 0 ≤ top l ∧ top l ≤ i) ∧ (rows os).length ≤ fct i := by
  intro i
  induction i with
  | zero =>
    intro os h
    rw [List.eq_nil_of_length_eq_zero h]
    refine ⟨fun l hl => ?_, Nat.le_refl 1⟩
    rw [List.mem_singleton.mp hl]
    exact ⟨rfl, Int.le_refl 0, Int.le_refl 0⟩
  | succ i ih =>
    intro os h
    have e : os = os.dropLast ++ [os.getLast (by intro z; rw [z] at h; cases h)] := (List.dropLast_concat_getLast _).symm
    rw [e, rows_snoc]
    obtain ⟨h1, h2⟩ := ih os.dropLast (by rw [List.length_dropLast]; omega)
    refine ⟨fun l hl => ?_, ?_⟩
    · obtain ⟨l0, h3, h4⟩ := List.mem_flatMap.mp hl
      obtain ⟨x, e2, h5, h6, h7, h8⟩ := ext_top h4
      obtain ⟨g1, g2, g3⟩ := h1 l0 h3
      refine ⟨by rw [e2, List.length_append, g1]; rfl, by omega, by omega⟩
    · have h3 : (stp (os.getLast (by intro z; rw [z] at h; cases h)) (rows os.dropLast)).length ≤ (rows os.dropLast).length * (i + 1) := flat_len fun l hl => ext_len (h1 l hl).2.2
      show _ ≤ (i + 1) * fct i
      rw [Nat.mul_comm (i + 1)]
      exact Nat.le_trans h3 (Nat.mul_le_mul_right _ h2)
theorem fct_le : ∀ {i : Nat}, i ≤ 7 → fct i ≤ 5040
  | 0, _ => by decide
  | 1, _ => by decide
  | 2, _ => by decide
  | 3, _ => by decide
  | 4, _ => by decide
  | 5, _ => by decide
  | 6, _ => by decide
  | 7, _ => by decide
  | i + 8, h => absurd h (by omega)
def oV : Option Int → V
  | none => .non
  | some i => .int i
def oD : Option Int → PyData
  | none => .none
  | some i => .int i
theorem ov_at {os : List (Option Int)} {i : Nat} {y : V} (h : (os.map oV)[i]? = some y) : ∃ o, os[i]? = some o ∧ y = oV o := by
  rw [List.getElem?_map] at h
  obtain ⟨o, h1, h2⟩ := Option.map_eq_some_iff.mp h
  exact ⟨o, h1, h2.symm⟩
theorem ov_ints (ns : List Int) : (ns.map some).map oV = ns.map V.int := by
  rw [List.map_map]
  rfl
theorem dpa_oV {K : PySem.W.Frag} {H : Hp} : ∀ os : List (Option Int), DpAll K H (os.map oV) (os.map oD)
  | [] => .nil
  | none :: os => .cons .non (dpa_oV os)
  | some i :: os => .cons (.int i) (dpa_oV os)
theorem at_ovs {K : PySem.W.Frag} {L : List Fc} {M : List Cell} {a : Addr} {os : List (Option Int)} (h : At L M (fQ K a (os.map oV))) : At L M (fD K (.ref a) (.list (os.map oD))) := Sa.At.lst h (fun _ _ => dpa_oV os)
theorem depth_oDs : ∀ os : List (Option Int), PyData.depthAll (os.map oD) = 0
  | [] => rfl
  | none :: os => by show max 0 (PyData.depthAll (os.map oD)) = 0; rw [depth_oDs os]; rfl
  | some i :: os => by show max 0 (PyData.depthAll (os.map oD)) = 0; rw [depth_oDs os]; rfl
theorem oD_inj : ∀ {a b : List (Option Int)}, a.map oD = b.map oD → a = b
  | [], [], _ => rfl
  | [], _ :: _, h => nomatch h
  | _ :: _, [], h => nomatch h
  | x :: a, y :: b, h => by
    simp only [List.map_cons, List.cons.injEq] at h
    rw [oD_inj h.2]
    cases x <;> cases y <;> simp_all [oD]
theorem st_RevV {K : PySem.W.Frag} {L : List Fc} {M : List Cell} {H : Hp} {a : Addr} {xs : List V} {Q : VK} (hS : SA L M H) (h : At L M (fQ K a xs)) (q : ∀ p H', SA L ((p, .lst xs.reverse) :: M) H' → Q (.ref p) H') : Sa.RevA K (.ref a) H Q :=
  ⟨a, xs, rfl, h H hS, fun p hp => q p _ (hS.newM hp)⟩
/-! lists of numbers, as facts -/
inductive LsA (H : Hp) : List V → List (List Int) → Prop where
  | nil : LsA H [] []
  | cons {a : Addr} {l : List Int} {vs : List V} {ls : List (List Int)} (h : H a = some (.lst (l.map V.int))) (t : LsA H vs ls) : LsA H (.ref a :: vs) (l :: ls)
theorem LsA.same {H H' : Hp} (e : Same H H') : ∀ {vs ls}, LsA H vs ls → LsA H' vs ls
  | _, _, .nil => .nil
  | _, _, .cons h t => .cons (e _ _ h) (LsA.same e t)
def fLs (vs : List V) (ls : List (List Int)) : Fc := ⟨fun H => LsA H vs ls, fun _ _ e h => h.same e⟩
theorem LsA.len {H : Hp} : ∀ {vs ls}, LsA H vs ls → vs.length = ls.length
  | _, _, .nil => rfl
  | _, _, .cons _ t => congrArg (· + 1) (LsA.len t)
theorem LsA.app {H : Hp} {ws : List V} {ks : List (List Int)} (g : LsA H ws ks) : ∀ {vs ls}, LsA H vs ls → LsA H (vs ++ ws) (ls ++ ks)
  | _, _, .nil => g
  | _, _, .cons h t => .cons h (LsA.app g t)
theorem LsA.get {H : Hp} : ∀ {vs ls} {i : Nat} {v : V}, LsA H vs ls → vs[i]? = some v → ∃ a l, v = .ref a ∧ ls[i]? = some l ∧ H a = some (.lst (l.map V.int))
  | _, _, i, v, .nil, h => by simp at h
  | _, _, 0, v, .cons (a := a) (l := l) h t, e => by
    cases e
    exact ⟨a, l, rfl, rfl, h⟩
  | _, _, i + 1, v, .cons h t, e => LsA.get t (i := i) e
theorem LsA.dp {K : PySem.W.Frag} {H : Hp} : ∀ {vs ls}, LsA H vs ls → DpAll K H vs (ls.map fun l => .list (l.map PyData.int))
  | _, _, .nil => .nil
  | _, _, .cons h t => .cons (.lst (SqL.of h) (Sa.dpa_ints H _)) (LsA.dp t)
/-- an item is a list -/
theorem ls_at {L : List Fc} {M : List Cell} {H : Hp} {vs : List V} {ls : List (List Int)} {i : Nat} {v : V} (hS : SA L M H) (hA : At L M (fLs vs ls)) (h : vs[i]? = some v) : ∃ a l, v = .ref a ∧ ls[i]? = some l ∧ At L M (fL a (l.map V.int)) := by
  obtain ⟨a, l, rfl, h2, _⟩ := LsA.get (hA H hS) h
  refine ⟨a, l, rfl, h2, fun H' s => ?_⟩
  obtain ⟨a', l', e, h3, h4⟩ := LsA.get (hA H' s) h
  cases e
  rw [h2] at h3
  cases h3
  exact h4
theorem st_ext {L : List Fc} {M M' : List Cell} {H : Hp} {p b : Addr} {xs zs : List V} {Q : VK} (hS : SA L M H) (d : Sa.Chg M p (.lst xs) (.lst (xs ++ zs)) M') (h : At L M (fL b zs)) (hz : xs.length + zs.length ≤ 100000) (q : ∀ H', SA L M' H' → Q .non H') : rExtend (.ref p) [.ref b] H Q :=
  ⟨p, b, xs, zs, rfl, rfl, hS.at d.mem, h H hS, Nat.le_trans hz (by decide), q _ (hS.set d)⟩
theorem ov_set {os : List (Option Int)} {j : Nat} {o : Option Int} : (os.map oV).set j (oV o) = (os.set j o).map oV := (List.map_set).symm
theorem ix_at {n : Nat} {i : Int} (h0 : 0 ≤ i) (h1 : i < n) : ixN n i = some i.toNat := by
  unfold ixN
  rw [if_pos h0, if_pos h1]
/-! ### lists in their order -/
theorem lx_irr : ∀ a : List Int, ¬ a < a
  | [] => List.not_lt_nil _
  | x :: a => fun h => by
    rcases List.cons_lt_cons_iff.mp h with h | ⟨_, h⟩
    · omega
    · exact lx_irr a h
theorem lx_tr : ∀ {a b c : List Int}, a < b → b < c → a < c
  | _, [], _, h, _ => absurd h (List.not_lt_nil _)
  | _, _ :: _, [], _, h => absurd h (List.not_lt_nil _)
  | [], _ :: _, z :: c, _, _ => List.nil_lt_cons z c
  | x :: a, y :: b, z :: c, h, g => by
    rcases List.cons_lt_cons_iff.mp h with h1 | ⟨e1, h1⟩
    · rcases List.cons_lt_cons_iff.mp g with g1 | ⟨e2, g1⟩
      · exact List.cons_lt_cons_iff.mpr (.inl (by omega))
      · exact List.cons_lt_cons_iff.mpr (.inl (by omega))
    · rcases List.cons_lt_cons_iff.mp g with g1 | ⟨e2, g1⟩
      · exact List.cons_lt_cons_iff.mpr (.inl (by omega))
      · exact List.cons_lt_cons_iff.mpr (.inr ⟨by omega, lx_tr h1 g1⟩)
theorem lx_tri : ∀ a b : List Int, a < b ∨ a = b ∨ b < a
  | [], [] => .inr (.inl rfl)
  | [], y :: b => .inl (List.nil_lt_cons y b)
  | x :: a, [] => .inr (.inr (List.nil_lt_cons x a))
  | x :: a, y :: b => by
    by_cases h1 : x < y
    · exact .inl (List.cons_lt_cons_iff.mpr (.inl h1))
    · by_cases h2 : x = y
      · subst h2
        rcases lx_tri a b with h | rfl | h
        · exact .inl (List.cons_lt_cons_iff.mpr (.inr ⟨rfl, h⟩))
        · exact .inr (.inl rfl)
        · exact .inr (.inr (List.cons_lt_cons_iff.mpr (.inr ⟨rfl, h⟩)))
      · exact .inr (.inr (List.cons_lt_cons_iff.mpr (.inl (by omega))))
theorem lx_asy {a b : List Int} (h : a < b) : ¬ b < a := fun g => lx_irr a (lx_tr h g)
/-! ### all courses -/
def CO (ns : List Int) : Nat → List (List Int)
  | 0 => [[]]
  | i + 1 => (CO ns i).flatMap fun c => (gp ns i).map fun g => c ++ [g]
theorem co_len : ∀ {ns : List Int} {i : Nat} {c : List Int}, c ∈ CO ns i → c.length = i
  | _, 0, c, h => by rw [List.mem_singleton.mp h]; rfl
  | ns, i + 1, c, h => by
    obtain ⟨d, hd, h⟩ := List.mem_flatMap.mp h
    obtain ⟨g, _, rfl⟩ := List.mem_map.mp h
    rw [List.length_append, co_len hd]
    rfl
theorem flatk_len {α β : Type} {f : α → List β} {k : Nat} : ∀ {l : List α}, (∀ x ∈ l, (f x).length = k) → (l.flatMap f).length = l.length * k
  | [], _ => by rw [List.flatMap_nil, List.length_nil, List.length_nil, Nat.zero_mul]
  | x :: l, h => by
    rw [List.flatMap_cons, List.length_append, h x List.mem_cons_self, flatk_len fun y hy => h y (List.mem_cons_of_mem _ hy), List.length_cons, Nat.succ_mul]
    omega
theorem co_succ_len (ns : List Int) (i : Nat) : (CO ns (i + 1)).length = (CO ns i).length * (gp ns i).length := flatk_len fun x _ => List.length_map _
def fact : Nat → Nat
  | 0 => 1
  | n + 1 => fact n * (n + 1)
theorem co_fact (ns : List Int) : ∀ i : Nat, (CO ns i).length ≤ fact i
  | 0 => Nat.le_refl 1
  | i + 1 => by
    rw [co_succ_len]
    have h := gp_len ns (i : Int)
    exact Nat.mul_le_mul (co_fact ns i) (by omega)
theorem fact_mono : ∀ {i j : Nat}, i ≤ j → fact i ≤ fact j
  | i, 0, h => by rw [Nat.le_zero.mp h]; exact Nat.le_refl _
  | i, j + 1, h => by
    rcases Nat.lt_or_ge i (j + 1) with h2 | h2
    · have := fact_mono (show i ≤ j by omega)
      show fact i ≤ fact j * (j + 1)
      exact Nat.le_trans this (Nat.le_mul_of_pos_right _ (by omega))
    · obtain rfl : i = j + 1 := by omega
      exact Nat.le_refl _
theorem co_small (ns : List Int) {i : Nat} (h : i ≤ 8) : (CO ns i).length ≤ 40320 := Nat.le_trans (co_fact ns i) (fact_mono h)
/-- rows as lists that are read -/
theorem rows_ls {L : List Fc} {M : List Cell} : ∀ {rows : List Row}, (∀ r ∈ rows, At L M (fL r.1 (r.2.map V.int))) → At L M (fLs (rows.map fun r => V.ref r.1) (rows.map (·.2)))
  | [], _ => fun _ _ => .nil
  | r :: rows, h => fun H s => .cons (h r List.mem_cons_self H s) (rows_ls (rows := rows) (fun x hx => h x (List.mem_cons_of_mem _ hx)) H s)
theorem rows_push {L : List Fc} {H : Hp} {c D : Addr} {x y : HO} {A R : List Cell} (h : SA L ((c, x) :: (D, y) :: (A ++ R)) H) : SA L ((D, y) :: ((A ++ [(c, x)]) ++ R)) H := by
  refine h.perm ?_
  refine (List.Perm.swap _ _ _).trans (List.Perm.cons _ ?_)
  rw [List.append_assoc]
  exact List.perm_middle.symm
theorem rg_asc2 (lo : Int) : ∀ n : Nat, (Sa.rg lo n).Pairwise (· < ·)
  | 0 => List.Pairwise.nil
  | n + 1 => by
    rw [Sa.rg_succ]
    refine List.pairwise_append.mpr ⟨rg_asc2 lo n, List.pairwise_singleton _ _, fun a ha b hb => ?_⟩
    rw [List.mem_singleton.mp hb]
    exact (Sa.mem_rg.mp ha).2
theorem gp_asc (ns : List Int) (i : Int) : (gp ns i).Pairwise (· < ·) := List.Pairwise.sublist List.filter_sublist (rg_asc2 0 _)
theorem lx_app : ∀ {a b : List Int} (x y : List Int), a.length = b.length → a < b → a ++ x < b ++ y
  | [], [], _, _, _, h => absurd h (lx_irr _)
  | [], _ :: _, _, _, e, _ => by cases e
  | _ :: _, [], _, _, e, _ => by cases e
  | p :: a, q :: b, x, y, e, h => by
    show p :: (a ++ x) < q :: (b ++ y)
    rcases List.cons_lt_cons_iff.mp h with h | ⟨h1, h2⟩
    · exact List.cons_lt_cons_iff.mpr (.inl h)
    · exact List.cons_lt_cons_iff.mpr (.inr ⟨h1, lx_app x y (by simpa using e) h2⟩)
theorem lx_app2 : ∀ (a : List Int) {x y : List Int}, x < y → a ++ x < a ++ y
  | [], _, _, h => h
  | p :: a, _, _, h => List.cons_lt_cons_iff.mpr (.inr ⟨rfl, lx_app2 a h⟩)
theorem co_asc (ns : List Int) : ∀ i : Nat, (CO ns i).Pairwise (· < ·)
  | 0 => List.pairwise_singleton _ _
  | i + 1 => by
    show ((CO ns i).flatMap fun c => (gp ns i).map fun g => c ++ [g]).Pairwise (· < ·)
    refine List.pairwise_flatMap.mpr ⟨fun c _ => List.pairwise_map.mpr ((gp_asc ns i).imp fun {x y} h => lx_app2 c (List.cons_lt_cons_iff.mpr (.inl h))), ?_⟩
    refine (co_asc ns i).imp_of_mem fun {c d} hc hd h x hx y hy => ?_
    obtain ⟨g, _, rfl⟩ := List.mem_map.mp hx
    obtain ⟨g2, _, rfl⟩ := List.mem_map.mp hy
    exact lx_app _ _ ((co_len hc).trans (co_len hd).symm) h
theorem co_mem {ns : List Int} : ∀ {i : Nat} {c : List Int}, c ∈ CO ns i → ∀ j, j < i → c.getD j 0 ∈ gp ns j
  | 0, _, _, j, hj => absurd hj (Nat.not_lt_zero _)
  | i + 1, c, h, j, hj => by
    obtain ⟨d, hd, h⟩ := List.mem_flatMap.mp h
    obtain ⟨g, hg, rfl⟩ := List.mem_map.mp h
    have hl := co_len hd
    by_cases h2 : j < i
    · rw [List.getD_eq_getElem?_getD, List.getElem?_append_left (by omega), ← List.getD_eq_getElem?_getD]
      exact co_mem hd j h2
    · obtain rfl : j = i := by omega
      rw [List.getD_eq_getElem?_getD, List.getElem?_append_right (by omega), hl, Nat.sub_self]
      exact hg
theorem gp_le (ns : List Int) {i : Nat} {g : Int} (h : g ∈ gp ns i) : 0 ≤ g ∧ g ≤ i := by
  have := (gp_mem.mp h).1
  omega
theorem gp_cnt {ns : List Int} (i : Nat) (hi : i < ns.length) : (gp ns i).length = cnt ns i (ns.getD i 0 - 1) := by
  have key : ∀ (k : Nat) (v : Int), k ≤ ns.length → ((Sa.rg 0 (k + 1)).filter fun g => decide (sh ns g = v)).length = cnt ns k v := by
    intro k v
    induction k with
    | zero =>
      intro _
      rw [cnt_zero]
      show ([(0 : Int) + ((0 : Nat) : Int)].filter fun g => decide (sh ns g = v)).length = _
      by_cases h : v = 0
      · rw [if_pos h, List.filter_cons_of_pos (by rw [decide_eq_true_eq, h]; rfl)]
        rfl
      · rw [if_neg h, List.filter_cons_of_neg (by rw [decide_eq_true_eq]; exact fun z => h z.symm)]
        rfl
    | succ k ih =>
      intro hk
      rw [Sa.rg_succ, List.filter_append, List.length_append, ih (by omega), cnt_succ (by omega)]
      congr 1
      rw [Int.zero_add, show ((k + 1 : Nat) : Int) = (k : Int) + 1 by omega]
      by_cases h : v = ns.getD k 0
      · rw [if_pos h, List.filter_cons_of_pos (by rw [decide_eq_true_eq, sh_next, h])]
        rfl
      · rw [if_neg h, List.filter_cons_of_neg (by rw [decide_eq_true_eq, sh_next]; exact fun z => h z.symm)]
        rfl
  have h := key i (ns.getD i 0 - 1) (by omega)
  unfold gp
  rw [show ((i : Int) + 1).toNat = i + 1 by omega, Int.toNat_natCast]
  exact h
theorem co_way {ns : List Int} : ∀ {i : Nat}, i ≤ ns.length → ((CO ns i).length : Int) = wayN ns i
  | 0, _ => rfl
  | i + 1, h => by
    rw [co_succ_len, gp_cnt i (by omega), Int.natCast_mul, co_way (by omega)]
    rfl
theorem co_pre {ns : List Int} {i : Nat} (h : i < ns.length) : CO ns.dropLast i = CO ns i := by
  have hl : ns.dropLast.length = ns.length - 1 := List.length_dropLast
  have hs : ∀ g : Int, 0 ≤ g → g ≤ i → sh ns.dropLast g = sh ns g := fun g h0 h1 => by
    unfold sh
    by_cases e : g = 0
    · rw [if_pos e, if_pos e]
    · rw [if_neg e, if_neg e, List.getD_eq_getElem?_getD, List.getElem?_dropLast, if_pos (by omega), List.getD_eq_getElem?_getD]
  have hg : ∀ j : Nat, j < i → gp ns.dropLast j = gp ns j := fun j hj => by
    unfold gp
    refine List.filter_congr fun g hg => ?_
    have := Sa.mem_rg.mp hg
    rw [hs g (by omega) (by omega), List.getD_eq_getElem?_getD, List.getElem?_dropLast, if_pos (by omega), List.getD_eq_getElem?_getD]
  have : ∀ k : Nat, k ≤ i → CO ns.dropLast k = CO ns k := by
    intro k
    induction k with
    | zero => exact fun _ => rfl
    | succ k ih =>
      intro hk
      show (CO ns.dropLast k).flatMap _ = (CO ns k).flatMap _
      rw [ih (by omega), hg k (by omega)]
  exact this i (Nat.le_refl _)
inductive Ans where
  | no
  | num (k : Nat) (v : Int)
  | row (cs : List Int)
def ansW (door : Int) (ns : List Int) (place : Int) (cs : List Int) : Ans := match fw 0 0 ns with
  | some i => .num 0 i
  | none => if door = 0 then (if 0 ≤ place ∧ place < ns.length then .no else .num 1 place) else if door = 5 then (if cs.length = ns.length then (match fwr ns 0 cs with | some j => .num 2 (cs.getD j 0) | none => .no) else .row cs) else .no
def kdL (k : Nat) : List V := [.bl (decide (k = 0)), .bl (decide (k = 1)), .bl (decide (k = 2)), .bl false]
def AnsK (L : List Fc) (M : List Cell) (Q : VK) : Ans → Prop
  | .no => ∀ H', SA L M H' → Q .non H'
  | .num k v => ∀ t kl H', SA (Sa.fU t [.ref kl, .int v] :: L) ((kl, .lst (kdL k)) :: M) H' → Q (.ref t) H'
  | .row cs => ∀ t kl l H', SA (Sa.fU t [.ref kl, .ref l] :: L) ((kl, .lst (kdL 2)) :: (l, .lst (cs.map V.int)) :: M) H' → Q (.ref t) H'
theorem st_isiLst {K : PySem.W.Frag} {L : List Fc} {M : List Cell} {H : Hp} {f : Addr} {xs : List V} {Q : VK} (hS : SA L M H) (h : At L M (fL f xs)) (q : Q (.bl false) H) : rIsi K [.ref f, .ty "int"] H Q :=
  ⟨.ref f, .ty "int", .type "list", .type "int", false, rfl, .ty "int", .base (.lst (h H hS)), kit_ty (by decide +kernel), q⟩
theorem ans_fw {door place : Int} {ns cs : List Int} {i : Nat} (h : fw 0 0 ns = some i) : ansW door ns place cs = .num 0 (i : Int) := by unfold ansW; rw [h]
theorem ans_po {door place : Int} {ns cs : List Int} (h : Po ns) : ansW door ns place cs = if door = 0 then (if 0 ≤ place ∧ place < ns.length then .no else .num 1 place) else if door = 5 then (if cs.length = ns.length then (match fwr ns 0 cs with | some j => .num 2 (cs.getD j 0) | none => .no) else .row cs) else .no := by unfold ansW; rw [show fw 0 0 ns = none from h]
theorem ans0 {place : Int} {ns cs : List Int} (h : Po ns) (h0 : 0 ≤ place) (h1 : place < ns.length) : ansW 0 ns place cs = .no := by rw [ans_po h, if_pos rfl, if_pos ⟨h0, h1⟩]
theorem ans1 {place : Int} {ns cs : List Int} (h : Po ns) (h0 : ¬ (0 ≤ place ∧ place < ns.length)) : ansW 0 ns place cs = .num 1 place := by rw [ans_po h, if_pos rfl, if_neg h0]
theorem ansM {door place : Int} {ns cs : List Int} (h : Po ns) (h0 : 0 < door) (h5 : door < 5) : ansW door ns place cs = .no := by rw [ans_po h, if_neg (by omega), if_neg (by omega)]
theorem ans5r {place : Int} {ns cs : List Int} (h : Po ns) (h0 : cs.length ≠ ns.length) : ansW 5 ns place cs = .row cs := by rw [ans_po h, if_neg (by decide), if_pos rfl, if_neg h0]
theorem ans5s {place : Int} {ns cs : List Int} {j : Nat} (h : Po ns) (h0 : cs.length = ns.length) (hj : fwr ns 0 cs = some j) : ansW 5 ns place cs = .num 2 (cs.getD j 0) := by rw [ans_po h, if_neg (by decide), if_pos rfl, if_pos h0, hj]
theorem ans5n {place : Int} {ns cs : List Int} (h : Po ns) (h0 : cs.length = ns.length) (hj : fwr ns 0 cs = none) : ansW 5 ns place cs = .no := by rw [ans_po h, if_neg (by decide), if_pos rfl, if_pos h0, hj]
/-! ### comprehensions of two for -/
section
variable {K : PySem.W.Frag} {L : List Fc} {M : List Cell} {H : Hp} {σ σ2 : L2.St} {Q : VK} {a : Addr} {xs : List V} {te : TE} {t t1 : TT} {g g1 : TG} {wi1 : TI} {γ : Type} {vs vs1 : List Nat} {D : Addr} {Nx : Hp → Prop}
/-- the inner loop -/
def Li (J1 : It) (g1 : TG) (t1 : TT) (te : TE) (vs1 : List Nat) (σ2 : L2.St) (D : Addr) (Nx : Hp → Prop) (H : Hp) : Prop :=
  ∃ W1 : Nat → Nat → Hp → Prop, (∃ m, W1 0 m H) ∧ ∀ j k H, W1 j k H →
    (J1.stop j H ∧ Nx H) ∨ (J1.go j H ∧ ∃ Nx1 : Hp → Prop, (∀ H', Nx1 H' → ∃ k', k' < k ∧ W1 (j + 1) k' H') ∧ ∀ x H', J1.yld j H x H' → g1 x (wipe σ2 vs1) H' fun σ3 H5 => wipe σ3 vs1 = wipe σ2 vs1 ∧ t1 σ3 H5 fun b H6 =>
      if b = true then te σ3 H6 fun y H7 => ∃ acc, H7 D = some (.lst acc) ∧ acc.length < sizeLine ∧ Nx1 (upd H7 D (.lst (acc ++ [y]))) else Nx1 H6)
def Lc2 (J : It) (g : TG) (t : TT) (wi1 : TI) (g1 : TG) (t1 : TT) (te : TE) (vs vs1 : List Nat) (σ : L2.St) (Q : VK) (H1 : Hp) : Prop :=
  ∀ D, H1 D = none → ∃ W : Nat → Nat → Hp → Prop, (∃ m, W 0 m (upd H1 D (.lst []))) ∧ ∀ i m H, W i m H →
    (J.stop i H ∧ Q (.ref D) H) ∨ (J.go i H ∧ ∃ Nx : Hp → Prop, (∀ H', Nx H' → ∃ m', m' < m ∧ W (i + 1) m' H') ∧ ∀ x H', J.yld i H x H' → g x (wipe σ vs) H' fun σ2 H2 => wipe σ2 vs = wipe σ vs ∧ t σ2 H2 fun b H3 =>
      if b = true then wi1 σ2 H3 fun J1 H4 => Li J1 g1 t1 te vs1 σ2 D Nx H4 else Nx H3)
theorem st_lc2 {wi : TI} (q : wi σ H fun J H1 => Lc2 J g t wi1 g1 t1 te vs vs1 σ Q H1) : tLc2 wi g t wi1 g1 t1 te vs vs1 σ H Q := q
theorem st_r1c2 {n : Nat} {j : Int} (h : j.toNat = n) (hb : j < 2 ^ 62) (hc : -(2 ^ 62) ≤ j) (q : Lc2 (Itr 0 n) g t wi1 g1 t1 te vs vs1 σ Q H) : ∃ j' : Int, [V.int j] = [.int j'] ∧ -(2 ^ 62) ≤ j' ∧ j' < 2 ^ 62 ∧ Lc2 (Itr 0 j'.toNat) g t wi1 g1 t1 te vs vs1 σ Q H :=
  ⟨j, rfl, hc, hb, by rw [h]; exact q⟩
theorem st_e1c2 (hS : SA L M H) (h : At L M (fQ K a xs)) (q : Lc2 (Ite K a) g t wi1 g1 t1 te vs vs1 σ Q H) : ∃ a' xs, [V.ref a] = [.ref a'] ∧ SqL K H a' xs ∧ Lc2 (Ite K a') g t wi1 g1 t1 te vs vs1 σ Q H := ⟨a, xs, rfl, h H hS, q⟩
theorem st_l1c2 (hS : SA L M H) (h : At L M (fQ K a xs)) (q : Lc2 (Itl K a) g t wi1 g1 t1 te vs vs1 σ Q H) : ∃ a', V.ref a = .ref a' ∧ (∃ xs, SqL K H a' xs) ∧ Lc2 (Itl K a') g t wi1 g1 t1 te vs vs1 σ Q H := ⟨a, rfl, ⟨xs, h H hS⟩, q⟩
theorem st_r1i {n : Nat} {j : Int} (h : j.toNat = n) (hb : j < 2 ^ 62) (hc : -(2 ^ 62) ≤ j) (q : Li (Itr 0 n) g1 t1 te vs1 σ2 D Nx H) : ∃ j' : Int, [V.int j] = [.int j'] ∧ -(2 ^ 62) ≤ j' ∧ j' < 2 ^ 62 ∧ Li (Itr 0 j'.toNat) g1 t1 te vs1 σ2 D Nx H :=
  ⟨j, rfl, hc, hb, by rw [h]; exact q⟩
theorem st_r2i {n : Nat} {i j : Int} (h : (j - i).toNat = n) (hb : -(2 ^ 62) ≤ i ∧ i < 2 ^ 62 ∧ -(2 ^ 62) ≤ j ∧ j < 2 ^ 62) (q : Li (Itr i n) g1 t1 te vs1 σ2 D Nx H) : ∃ i' j' : Int, [V.int i, V.int j] = [.int i', .int j'] ∧ (-(2 ^ 62) ≤ i' ∧ i' < 2 ^ 62 ∧ -(2 ^ 62) ≤ j' ∧ j' < 2 ^ 62) ∧ Li (Itr i' (j' - i').toNat) g1 t1 te vs1 σ2 D Nx H :=
  ⟨i, j, rfl, hb, by rw [h]; exact q⟩
theorem st_l1i (hS : SA L M H) (h : At L M (fQ K a xs)) (q : Li (Itl K a) g1 t1 te vs1 σ2 D Nx H) : ∃ a', V.ref a = .ref a' ∧ (∃ xs, SqL K H a' xs) ∧ Li (Itl K a') g1 t1 te vs1 σ2 D Nx H := ⟨a, rfl, ⟨xs, h H hS⟩, q⟩
theorem st_t1i (hS : SA L M H) (h : At L M (Sa.fT K a xs)) (q : Li (Itt K a) g1 t1 te vs1 σ2 D Nx H) : ∃ a', V.ref a = .ref a' ∧ (∃ xs, SqT K H a' xs) ∧ Li (Itt K a') g1 t1 te vs1 σ2 D Nx H := ⟨a, rfl, ⟨xs, h H hS⟩, q⟩
theorem li_it {J : It} {n : Nat} {G : Hp → Prop} {Y : Nat → Hp → V → Hp → Prop} (w : Walk J n G Y) (Pv : Nat → Hp → Prop) (h0 : Pv 0 H) (hG : ∀ j H, j ≤ n → Pv j H → G H)
    (hs : ∀ j x H H', j < n → Pv j H → Y j H x H' → g1 x (wipe σ2 vs1) H' fun σ3 H5 => wipe σ3 vs1 = wipe σ2 vs1 ∧ t1 σ3 H5 fun b H6 =>
      if b = true then te σ3 H6 fun y H7 => ∃ acc, H7 D = some (.lst acc) ∧ acc.length < sizeLine ∧ Pv (j + 1) (upd H7 D (.lst (acc ++ [y]))) else Pv (j + 1) H6) (hd : ∀ H, Pv n H → Nx H) : Li J g1 t1 te vs1 σ2 D Nx H := by
  refine ⟨fun i m H => m = n - i ∧ i ≤ n ∧ Pv i H, ⟨n, by simp, Nat.zero_le _, h0⟩, ?_⟩
  rintro i m H ⟨rfl, hi, p⟩
  have q := hG i H hi p
  by_cases hlt : i < n
  · exact .inr ⟨w.goes i H hlt q, Pv (i + 1), fun H' p' => ⟨n - (i + 1), by omega, rfl, hlt, p'⟩, fun x H' y => hs i x H H' hlt p (w.yields i H x H' hlt q y)⟩
  · have e : i = n := by omega
    subst e
    exact .inl ⟨w.stops H q, hd H p⟩
theorem lc2_it {J : It} {n : Nat} {G : Hp → Prop} {Y : Nat → Hp → V → Hp → Prop} (w : Walk J n G Y) (Pv : Addr → Nat → Hp → Prop) (h0 : ∀ D, H D = none → Pv D 0 (upd H D (.lst []))) (hG : ∀ D i H, i ≤ n → Pv D i H → G H)
    (hs : ∀ D i x H H', i < n → Pv D i H → Y i H x H' → g x (wipe σ vs) H' fun σ2 H2 => wipe σ2 vs = wipe σ vs ∧ t σ2 H2 fun b H3 =>
      if b = true then wi1 σ2 H3 fun J1 H4 => Li J1 g1 t1 te vs1 σ2 D (Pv D (i + 1)) H4 else Pv D (i + 1) H3) (hd : ∀ D H, Pv D n H → Q (.ref D) H) : Lc2 J g t wi1 g1 t1 te vs vs1 σ Q H := by
  intro D hD
  refine ⟨fun i m H => m = n - i ∧ i ≤ n ∧ Pv D i H, ⟨n, by simp, Nat.zero_le _, h0 D hD⟩, ?_⟩
  rintro i m H ⟨rfl, hi, p⟩
  have q := hG D i H hi p
  by_cases hlt : i < n
  · exact .inr ⟨w.goes i H hlt q, Pv D (i + 1), fun H' p' => ⟨n - (i + 1), by omega, rfl, hlt, p'⟩, fun x H' y => hs D i x H H' hlt p (w.yields i H x H' hlt q y)⟩
  · have e : i = n := by omega
    subst e
    exact .inl ⟨w.stops H q, hd D H p⟩
variable (Lf : Nat → γ → List Fc) (Mf : Nat → γ → List Cell) (ac : Nat → γ → List V) (pr : Nat → γ → Prop)
theorem li_rng {lo : Int} {n j : Nat} (h0 : Sa.LcN Lf Mf ac pr D 0 H) (hw : ∀ x, wipe ((wipe σ2 vs1).set j (some x)) vs1 = wipe σ2 vs1)
    (hs : ∀ (i : Nat) (g : γ) (H : Hp), i < n → pr i g → SA (Lf i g) ((D, .lst (ac i g)) :: Mf i g) H →
      t1 ((wipe σ2 vs1).set j (some (.int (lo + (i : Int))))) H fun b H3 => if b = true then te ((wipe σ2 vs1).set j (some (.int (lo + (i : Int))))) H3 fun y H4 => Sa.LcAdd D y H4 (Sa.LcN Lf Mf ac pr D (i + 1)) else Sa.LcN Lf Mf ac pr D (i + 1) H3)
    (q : ∀ g H', pr n g → SA (Lf n g) ((D, .lst (ac n g)) :: Mf n g) H' → Nx H') : Li (Itr lo n) (gName j) t1 te vs1 σ2 D Nx H :=
  li_it (walk_range (lo := lo) (n := n)) (Sa.LcN Lf Mf ac pr D) h0 (fun _ _ _ _ => trivial) (fun i x H H' hi hp hy => by
    obtain ⟨rfl, rfl⟩ := hy
    obtain ⟨g, h1, h2⟩ := hp
    exact ⟨hw _, hs i g _ hi h1 h2⟩) (fun H' hp => by
    obtain ⟨g, h1, h2⟩ := hp
    exact q g H' h1 h2)
theorem li_list {j : Nat} (h0 : Sa.LcN Lf Mf ac pr D 0 H) (hG : ∀ (i : Nat) (g : γ), i ≤ xs.length → pr i g → At (Lf i g) ((D, .lst (ac i g)) :: Mf i g) (fQ K a xs)) (hw : ∀ x, wipe ((wipe σ2 vs1).set j (some x)) vs1 = wipe σ2 vs1)
    (hs : ∀ (i : Nat) (x : V) (g : γ) (H : Hp), xs[i]? = some x → pr i g → SA (Lf i g) ((D, .lst (ac i g)) :: Mf i g) H →
      t1 ((wipe σ2 vs1).set j (some x)) H fun b H3 => if b = true then te ((wipe σ2 vs1).set j (some x)) H3 fun y H4 => Sa.LcAdd D y H4 (Sa.LcN Lf Mf ac pr D (i + 1)) else Sa.LcN Lf Mf ac pr D (i + 1) H3)
    (q : ∀ g H', pr xs.length g → SA (Lf xs.length g) ((D, .lst (ac xs.length g)) :: Mf xs.length g) H' → Nx H') : Li (Itl K a) (gName j) t1 te vs1 σ2 D Nx H :=
  li_it (walk_list (xs := xs)) (Sa.LcN Lf Mf ac pr D) h0 (fun i H hi hp => by
    obtain ⟨g, h1, h2⟩ := hp
    exact hG i g hi h1 H h2) (fun i x H H' hi hp hy => by
    obtain ⟨rfl, hx⟩ := hy
    obtain ⟨g, h1, h2⟩ := hp
    exact ⟨hw _, hs i x g _ hx h1 h2⟩) (fun H' hp => by
    obtain ⟨g, h1, h2⟩ := hp
    exact q g H' h1 h2)
theorem li_tup {j : Nat} (h0 : Sa.LcN Lf Mf ac pr D 0 H) (hG : ∀ (i : Nat) (g : γ), i ≤ xs.length → pr i g → At (Lf i g) ((D, .lst (ac i g)) :: Mf i g) (Sa.fT K a xs)) (hw : ∀ x, wipe ((wipe σ2 vs1).set j (some x)) vs1 = wipe σ2 vs1)
    (hs : ∀ (i : Nat) (x : V) (g : γ) (H : Hp), xs[i]? = some x → pr i g → SA (Lf i g) ((D, .lst (ac i g)) :: Mf i g) H →
      t1 ((wipe σ2 vs1).set j (some x)) H fun b H3 => if b = true then te ((wipe σ2 vs1).set j (some x)) H3 fun y H4 => Sa.LcAdd D y H4 (Sa.LcN Lf Mf ac pr D (i + 1)) else Sa.LcN Lf Mf ac pr D (i + 1) H3)
    (q : ∀ g H', pr xs.length g → SA (Lf xs.length g) ((D, .lst (ac xs.length g)) :: Mf xs.length g) H' → Nx H') : Li (Itt K a) (gName j) t1 te vs1 σ2 D Nx H :=
  li_it (walk_tup (xs := xs)) (Sa.LcN Lf Mf ac pr D) h0 (fun i H hi hp => by
    obtain ⟨g, h1, h2⟩ := hp
    exact hG i g hi h1 H h2) (fun i x H H' hi hp hy => by
    obtain ⟨rfl, hx⟩ := hy
    obtain ⟨g, h1, h2⟩ := hp
    exact ⟨hw _, hs i x g _ hx h1 h2⟩) (fun H' hp => by
    obtain ⟨g, h1, h2⟩ := hp
    exact q g H' h1 h2)
theorem lc2_rng {lo : Int} {n j : Nat} {g0 : γ} (hS : SA L M H) (h0 : pr 0 g0) (e0 : ac 0 g0 = []) (eS : Lf 0 g0 = L ∧ Mf 0 g0 = M) (hw : ∀ x, wipe ((wipe σ vs).set j (some x)) vs = wipe σ vs)
    (hs : ∀ (i : Nat) (g : γ) (D : Addr) (H : Hp), i < n → pr i g → SA (Lf i g) ((D, .lst (ac i g)) :: Mf i g) H →
      t ((wipe σ vs).set j (some (.int (lo + (i : Int))))) H fun b H3 => if b = true then wi1 ((wipe σ vs).set j (some (.int (lo + (i : Int))))) H3 fun J1 H4 => Li J1 g1 t1 te vs1 ((wipe σ vs).set j (some (.int (lo + (i : Int))))) D (Sa.LcN Lf Mf ac pr D (i + 1)) H4 else Sa.LcN Lf Mf ac pr D (i + 1) H3)
    (q : ∀ D g H', pr n g → SA (Lf n g) ((D, .lst (ac n g)) :: Mf n g) H' → Q (.ref D) H') : Lc2 (Itr lo n) (gName j) t wi1 g1 t1 te vs vs1 σ Q H :=
  lc2_it (walk_range (lo := lo) (n := n)) (Sa.LcN Lf Mf ac pr) (fun D hD => ⟨g0, h0, by rw [e0, eS.1, eS.2]; exact hS.newM hD⟩) (fun _ _ _ _ _ => trivial) (fun D i x H H' hi hp hy => by
    obtain ⟨rfl, rfl⟩ := hy
    obtain ⟨g, h1, h2⟩ := hp
    exact ⟨hw _, hs i g D _ hi h1 h2⟩) (fun D H' hp => by
    obtain ⟨g, h1, h2⟩ := hp
    exact q D g H' h1 h2)
theorem lc2_list {j : Nat} {g0 : γ} (hS : SA L M H) (h0 : pr 0 g0) (e0 : ac 0 g0 = []) (eS : Lf 0 g0 = L ∧ Mf 0 g0 = M) (hG : ∀ (i : Nat) (g : γ), i ≤ xs.length → pr i g → At (Lf i g) (Mf i g) (fQ K a xs)) (hw : ∀ x, wipe ((wipe σ vs).set j (some x)) vs = wipe σ vs)
    (hs : ∀ (i : Nat) (x : V) (g : γ) (D : Addr) (H : Hp), xs[i]? = some x → pr i g → SA (Lf i g) ((D, .lst (ac i g)) :: Mf i g) H →
      t ((wipe σ vs).set j (some x)) H fun b H3 => if b = true then wi1 ((wipe σ vs).set j (some x)) H3 fun J1 H4 => Li J1 g1 t1 te vs1 ((wipe σ vs).set j (some x)) D (Sa.LcN Lf Mf ac pr D (i + 1)) H4 else Sa.LcN Lf Mf ac pr D (i + 1) H3)
    (q : ∀ D g H', pr xs.length g → SA (Lf xs.length g) ((D, .lst (ac xs.length g)) :: Mf xs.length g) H' → Q (.ref D) H') : Lc2 (Itl K a) (gName j) t wi1 g1 t1 te vs vs1 σ Q H :=
  lc2_it (walk_list (xs := xs)) (Sa.LcN Lf Mf ac pr) (fun D hD => ⟨g0, h0, by rw [e0, eS.1, eS.2]; exact hS.newM hD⟩) (fun D i H hi hp => by
    obtain ⟨g, h1, h2⟩ := hp
    exact hG i g hi h1 H h2.dropM) (fun D i x H H' hi hp hy => by
    obtain ⟨rfl, hx⟩ := hy
    obtain ⟨g, h1, h2⟩ := hp
    exact ⟨hw _, hs i x g D _ hx h1 h2⟩) (fun D H' hp => by
    obtain ⟨g, h1, h2⟩ := hp
    exact q D g H' h1 h2)
theorem lc2_enum {j k : Nat} {g0 : γ} (hS : SA L M H) (h0 : pr 0 g0) (e0 : ac 0 g0 = []) (eS : Lf 0 g0 = L ∧ Mf 0 g0 = M) (hG : ∀ (i : Nat) (g : γ), i ≤ xs.length → pr i g → At (Lf i g) (Mf i g) (fQ K a xs)) (hw : ∀ x y, wipe (((wipe σ vs).set j (some x)).set k (some y)) vs = wipe σ vs)
    (hs : ∀ (i : Nat) (x : V) (g : γ) (D : Addr) (H : Hp), xs[i]? = some x → pr i g → SA (Lf i g) ((D, .lst (ac i g)) :: Mf i g) H →
      t (((wipe σ vs).set j (some (.int (i : Nat)))).set k (some x)) H fun b H3 => if b = true then wi1 (((wipe σ vs).set j (some (.int (i : Nat)))).set k (some x)) H3 fun J1 H4 => Li J1 g1 t1 te vs1 (((wipe σ vs).set j (some (.int (i : Nat)))).set k (some x)) D (Sa.LcN Lf Mf ac pr D (i + 1)) H4 else Sa.LcN Lf Mf ac pr D (i + 1) H3)
    (q : ∀ D g H', pr xs.length g → SA (Lf xs.length g) ((D, .lst (ac xs.length g)) :: Mf xs.length g) H' → Q (.ref D) H') : Lc2 (Ite K a) (gTup K 2 (gCons (gName j) (gCons (gName k) gNil))) t wi1 g1 t1 te vs vs1 σ Q H :=
  lc2_it (walk_enum (xs := xs)) (Sa.LcN Lf Mf ac pr) (fun D hD => ⟨g0, h0, by rw [e0, eS.1, eS.2]; exact hS.newM hD⟩) (fun D i H hi hp => by
    obtain ⟨g, h1, h2⟩ := hp
    exact hG i g hi h1 H h2.dropM) (fun D i x H H' hi hp hy => by
    obtain ⟨g, h1, h2⟩ := hp
    obtain ⟨T, y1, y2, rfl, hT, rfl, e1, e2⟩ := hy
    cases e1
    refine ⟨T, [.int (i : Nat), y2], rfl, SqT.of upd_same, rfl, _, _, rfl, _, _, rfl, rfl, ?_⟩
    exact ⟨hw _ _, hs i y2 g D _ e2 h1 (h2.ign hT)⟩) (fun D H' hp => by
    obtain ⟨g, h1, h2⟩ := hp
    exact q D g H' h1 h2)
end
/-! ### a method of a list, called within a comprehension -/
section
variable {X : Cx} {K : PySem.W.Frag}
theorem mt_lcountK (h : X.K = K) : MtR X "list.count" (rCntI K) := by subst h; exact mt_lcount
theorem pe_bmK {ty0 id name : String} {r : V → List V → Hp → VK → Prop} {o e : Expr} {es : List Expr} {to : TE} {t : TA} {apos cpos : Pos} (h : X.K = K) (pa : PlainAttrs ty0) (slot : Slot ty0 name id) (hty : typeOf (.builtin id) = pure (.type "method_descriptor")) (hm : MtR X id r) (ho : PE X o to) (ha : PA X (e :: es) t)
    (hbase : attributeBase o name X.env (eval o X.env) = eval o X.env := by rfl)
    (hfew : ((backTo cpos (starEach (e :: es) X.env)).all (fun x => !x.1) && (backToKw cpos (keywordEach [] X.env)).all (fun x => x.1.isSome)
      && decide ((e :: es).length + ([] : List Keyword).length + (if ([] : List Keyword).isEmpty then 0 else 1) < 30)) = true := by rfl)
    (hline : (apos.endLine == cpos.line) = true := by rfl) (hs : starEach (e :: es) X.env = (false, eval e X.env) :: starEach es X.env := by rfl) (hplain : (backTo cpos (starEach es X.env)).any (·.1) = false := by rfl) :
    PE X (.Call (.Attribute o name apos) (e :: es) [] cpos) (tBM K ty0 r to t) := by
  subst h
  exact pe_bm pa slot hty hm ho ha hbase hfew hline hs hplain
end
theorem pi_listK {X : Cx} {K : PySem.W.Frag} {tg l : Expr} {tl : TE} (h : X.K = K) (hl : PE X l tl) : PI X tg l (iList K tl) := by subst h; exact pi_list hl
theorem pi_enumK {X : Cx} {K : PySem.W.Frag} {tg l : Expr} {t : TI} (h : X.K = K) (q : PI X tg l t) : PI X tg l t := q
theorem pi_tupK {X : Cx} {K : PySem.W.Frag} {tg l : Expr} {tl : TE} (h : X.K = K) (hl : PE X l tl) : PI X tg l (iTup K tl) := by subst h; exact pi_tup hl
/-! ### the walk's small words -/
local macro_rules | `(tactic| walk_at "in1") => `(tactic| first
  | with_reducible exact Sa.In1.hd
  | assumption
  | ((with_reducible apply Sa.In1.tl); walk_at "in1"))
local macro_rules | `(tactic| walk_at "fp") => `(tactic| first | (show Sa.fpos _ _ = some 0; decide +kernel) | (show Sa.fpos _ _ = some 1; decide +kernel) | (show Sa.fpos _ _ = some 2; decide +kernel) | (show Sa.fpos _ _ = some 3; decide +kernel) | (show Sa.fpos _ _ = some 4; decide +kernel) | (show Sa.fpos _ _ = some 5; decide +kernel) | (show Sa.fpos _ _ = some 6; decide +kernel))
local macro_rules | `(tactic| walk_at "atg") => `(tactic| first
  | ((with_reducible show At _ _ (Sa.fI (Ba.b _) _ _ _)); exact at_board (by walk_at "grp"))
  | ((with_reducible show At _ _ (fQ _ (Sad.st _) _)); exact Sa.At.q (at_st (by walk_at "grp")))
  | ((with_reducible show At _ _ (fQ _ (Sad.nu _) _)); exact Sa.At.q (at_nu (by walk_at "grp")))
  | ((with_reducible show At _ _ (fQ _ (Sad.wr _) _)); exact Sa.At.q (at_wr (by walk_at "grp")))
  | ((with_reducible show At _ _ (fQ _ (Sad.ga _) _)); exact Sa.At.q (at_ga (by walk_at "grp")))
  | ((with_reducible show At _ _ (fL (Sad.nu _) _)); exact at_nu (by walk_at "grp"))
  | ((with_reducible show At _ _ (fL (Sad.wr _) _)); exact at_wr (by walk_at "grp"))
  | ((with_reducible show At _ _ (fL (Sad.ga _) _)); exact at_ga (by walk_at "grp"))
  | ((with_reducible show At _ _ (Sa.fK (Sad.he _) _)); exact at_he (by walk_at "grp")))
local macro_rules | `(tactic| walk_at "atM") => `(tactic| first
  | assumption
  | with_reducible exact Sa.At.q (by assumption)
  | with_reducible exact Sa.At.cellL List.mem_cons_self
  | with_reducible exact Sa.At.q (Sa.At.cellL List.mem_cons_self)
  | with_reducible exact Sa.At.dL (by assumption)
  | with_reducible exact Sa.At.dL (Sa.At.cellL List.mem_cons_self)
  | with_reducible exact Sa.At.nilQ List.mem_cons_self
  | with_reducible exact Sa.At.nilL List.mem_cons_self
  | with_reducible exact Sa.At.cellT List.mem_cons_self
  | with_reducible exact Sa.At.cellK List.mem_cons_self
  | with_reducible exact Sa.At.ins List.mem_cons_self
  | ((with_reducible apply Sa.At.tm); walk_at "atM")
  | ((with_reducible apply Sa.At.ap); walk_at "atM"))
local macro_rules | `(tactic| walk_at "atL") => `(tactic| first
  | with_reducible exact Sa.At.hd
  | with_reducible exact Sa.At.q Sa.At.hd
  | with_reducible exact Sa.At.u Sa.At.hd
  | with_reducible exact Sa.At.dL Sa.At.hd
  | with_reducible exact Sa.At.u (by assumption)
  | ((with_reducible apply Sa.At.tl); walk_at "atL"))
local macro_rules | `(tactic| walk_at "atd") => `(tactic| first
  | exact Sa.At.cellL List.mem_cons_self
  | exact Sa.At.q (Sa.At.cellL List.mem_cons_self)
  | exact Sa.At.dL (Sa.At.cellL List.mem_cons_self)
  | ((with_reducible apply Sa.At.tm); walk_at "atd"))
local macro_rules | `(tactic| walk_at "atm2") => `(tactic| first
  | assumption
  | with_reducible exact Sa.At.q (by assumption)
  | with_reducible exact Sa.At.dL (by assumption)
  | ((with_reducible apply Sa.At.tm); walk_at "atm2")
  | ((with_reducible apply Sa.At.ap); walk_at "atm2"))
local macro_rules | `(tactic| walk_at "atm") => `(tactic| first
  | walk_at "atm2"
  | ((with_reducible apply Sa.At.tl); walk_at "atm"))
local macro_rules | `(tactic| walk_at "at") => `(tactic| first
  | assumption
  | with_reducible exact Sa.At.int
  | with_reducible exact Sa.At.bl
  | with_reducible exact Sa.At.non
  | with_reducible exact Sa.At.str
  | walk_at "atg"
  | walk_at "atM"
  | walk_at "atL"
  | walk_at "atm"
  | exact Sa.At.int
  | exact Sa.At.non
  | walk_at "atd")
local macro_rules | `(tactic| walk_at "chg") => `(tactic| first
  | with_reducible exact Sa.Chg.hd
  | exact Sa.Chg.hd
  | ((with_reducible apply Sa.Chg.tl); walk_at "chg")
  | ((with_reducible apply Sa.Chg.app); walk_at "chg"))
local macro_rules | `(tactic| walk_at "del") => `(tactic| first
  | with_reducible exact Sa.Del.hd
  | exact Sa.Del.hd
  | ((with_reducible apply Sa.Del.tl); walk_at "del")
  | ((with_reducible apply Sa.Del.app); walk_at "del"))
local macro_rules | `(tactic| walk_at "grp") => `(tactic| first
  | assumption
  | with_reducible exact Sa.Grp.hd
  | ((with_reducible apply Sa.Grp.tl); walk_at "grp")
  | ((with_reducible apply Sa.Grp.ap); walk_at "grp"))
local macro_rules | `(tactic| walk_at "sub") => `(tactic| first
  | with_reducible exact Sa.Sub.nil
  | with_reducible exact Sa.Sub.rest
  | ((with_reducible apply Sa.Sub.cons); (walk_at "in1"); (walk_at "sub"))
  | ((with_reducible apply Sa.Sub.tl); walk_at "sub"))
local macro_rules | `(tactic| walk_at "sam") => `(tactic| first
  | with_reducible exact Sa.SubM.same
  | ((with_reducible apply Sa.SubM.cons); (walk_at "del"); (walk_at "sam"))
  | ((with_reducible apply Sa.SubM.grp); (walk_at "grp"); (walk_at "sam"))
  | ((with_reducible apply Sa.SubM.skip); walk_at "sam")
  | ((with_reducible apply Sa.SubM.skipB); walk_at "sam"))
local macro_rules | `(tactic| walk_at "sa2") => `(tactic| exact Sa.SA.take (by assumption) (by walk_at "sub") (by walk_at "sam"))
local macro_rules | `(tactic| walk_at "pick") => `(tactic| first
  | with_reducible exact Sa.Pick.done
  | ((with_reducible apply Sa.Pick.cons); (walk_at "del"); (walk_at "pick"))
  | ((with_reducible apply Sa.Pick.skip); walk_at "pick"))
local macro_rules | `(tactic| walk_at "sa") => `(tactic| first
  | assumption
  | exact Sa.SA.pick (by assumption) (by walk_at "pick")
  | exact Sa.SA.pick (Sa.SA.drop (by assumption)) (by walk_at "pick")
  | exact Sa.SA.pick (Sa.SA.drop (Sa.SA.drop (by assumption))) (by walk_at "pick")
  | exact Sa.SA.pick (Sa.SA.drop (Sa.SA.drop (Sa.SA.drop (by assumption)))) (by walk_at "pick"))
local macro_rules | `(tactic| walk_at "len") => `(tactic| first
  | (obtain ⟨_, rfl, _⟩ := ‹Exists _›; rfl)
  | (obtain ⟨_, _, rfl, _⟩ := ‹Exists _›; rfl)
  | (obtain ⟨_, _, _, rfl, _⟩ := ‹Exists _›; rfl)
  | (obtain ⟨_, _, _, _, rfl, _⟩ := ‹Exists _›; rfl)
  | (obtain ⟨_, _, _, _, _, rfl, _⟩ := ‹Exists _›; rfl)
  | (obtain ⟨_, _, _, _, _, _, rfl, _⟩ := ‹Exists _›; rfl)
  | (obtain ⟨_, _, _, _, _, _, _, rfl, _⟩ := ‹Exists _›; rfl)
  | (obtain ⟨_, _, _, _, _, _, _, _, rfl, _⟩ := ‹Exists _›; rfl))
local macro_rules | `(tactic| walk_at "om") => `(tactic| first | omega | (simp only [List.length_map, List.length_append, List.length_cons, List.length_nil, List.length_set, List.length_range, List.length_take, List.length_drop, List.length_replicate, List.length_reverse, List.length_dropLast, Sa.rg_len, Sa.en2_len] <;> omega))
local macro_rules | `(tactic| walk_at "sA") => `(tactic| first
  | refine Sa.Go.go ?_
  | ((with_reducible show tVar _ _ _ _); refine Sa.st_var rfl ?_))
local macro_rules | `(tactic| walk_at "sB") => `(tactic| first
  | ((with_reducible show Sa.DG2b _ _ _ _ _); refine Sa.st_DG2e (by assumption) (by walk_at "at") (by assumption) ?_)
  | ((with_reducible show tyV _ "list" (V.ref _) _ ∧ _); refine Sa.st_tyL (by assumption) (by walk_at "at") ?_)
  | ((with_reducible show rAppend _ [V.int _] _ _); refine Sa.st_appI (by assumption) (by walk_at "chg") (by walk_at "om") (fun _ _ => ?_))
  | ((with_reducible show rI Sa.CPowW _ (V.int _) (V.int _) _ _); refine Sa.st_pow (by omega) (by omega) (by omega) (by omega) ?_; try simp only [Int.reduceToNat, Int.reducePow])
  | ((with_reducible show rI Sa.CDivX _ (V.int _) (V.int _) _ _); refine Sa.st_div (by omega) (by omega) ?_)
  | ((with_reducible show rI Sa.CModX _ (V.int _) (V.int _) _ _); refine Sa.st_mod (by omega) ?_)
  | ((with_reducible show tAug _ _ _ _ _ _); refine Sa.st_aug rfl ?_)
  | ((with_reducible show Sa.DNi _ _ _ _); refine Sa.st_DNi (by assumption) (by walk_at "at") ?_)
  | ((with_reducible show Sa.DIi _ _ _ _); refine Sa.st_DIi (by assumption) (by walk_at "at") ?_)
  | ((with_reducible show rIxT _ (V.ref _) (V.int _) _ _); refine Sa.st_ixT (by assumption) (by walk_at "at") (by rfl) ?_)
  | ((with_reducible show Sa.FldA _ _ (V.ref _) _ _); refine Sa.st_FldA (by assumption) (by walk_at "at") (by assumption) (by assumption) (by walk_at "fp") (by rfl) ?_)
  | ((with_reducible show Sa.MethA _ _ (V.ref _) _ _); refine Sa.st_MethA (by assumption) (by walk_at "at") (by decide +kernel) ?_)
  | ((with_reducible show gTup _ _ _ (V.ref _) _ _ _); refine Sa.st_gtup (by assumption) (by walk_at "at") (by rfl) ?_)
  | ((with_reducible show rI Sa.CMulX _ (V.int _) (V.int _) _ _); first | refine Sa.st_mul1 (by omega) (by omega) ?_ | refine Sa.st_mul2 (by omega) (by omega) ?_)
  | ((with_reducible show Sa.rLen _ _ _ _); first | refine Sa.st_lenD (by assumption) ?_ | refine Sa.st_lenU (by assumption) ?_ | refine Sa.st_lenI (by assumption) (by walk_at "at") ?_ | refine Sa.st_lenL (by assumption) (by walk_at "at") ?_ | refine Sa.st_lenT (by assumption) (by walk_at "at") ?_)
  | ((with_reducible show Sa.rListOf _ _ _ _); refine Sa.st_listOf (by assumption) (by walk_at "at") (fun _ _ _ => ?_))
  | ((with_reducible show rIxL _ (V.ref _) (V.int _) _ _); refine Sa.st_ixL (by assumption) (by walk_at "at") (by first | exact Sa.atI_ints (by walk_at "om") (by walk_at "om") | exact Sa.atI_neg (by walk_at "om") (by walk_at "om") | rfl) ?_)
  | ((with_reducible show rNeD _ _ _ _ _); first | refine Sa.st_neL0 (by assumption) (by walk_at "at") (by walk_at "at") ?_ | refine Sa.st_neL (by assumption) (by walk_at "at") (by walk_at "at") ?_)
  | ((with_reducible show rEqD _ _ _ _ _); first | refine Sa.st_eqL0 (by assumption) (by walk_at "at") (by walk_at "at") ?_ | refine Sa.st_eqL (by assumption) (by walk_at "at") (by walk_at "at") ?_)
  | ((with_reducible show StX.InsC _ _ _ _ ∧ _); refine Sa.st_InsC (by assumption) (by walk_at "at") ?_)
  | ((with_reducible show Sa.DGt (V.ref _) (V.int _) _ _); refine Sa.st_DGt (by assumption) (by walk_at "at") (by assumption) ?_)
  | ((with_reducible show rAppend _ [_] _ _); refine Sa.st_app (by assumption) (by walk_at "chg") (by walk_at "om") (fun _ _ => ?_)))
local macro_rules | `(tactic| walk_at "sC") => `(tactic| first
  | ((with_reducible show rIsi _ [V.int _, V.ty "int"] _ _); refine Sa.st_kInt (.int _) ?_; try dsimp only [Sa.kInt])
  | ((with_reducible show rIsi _ [V.int _, V.ty "bool"] _ _); refine Sa.st_kBool (.int _) ?_; try dsimp only [Sa.kBool])
  | ((with_reducible show rIsi _ [_, V.ty "bool"] _ _); refine Sa.st_kBool (by assumption) ?_; try dsimp only [Sa.kBool])
  | ((with_reducible show rIsi _ [_, V.ty "int"] _ _); refine Sa.st_kInt (by assumption) ?_; try dsimp only [Sa.kInt])
  | ((with_reducible show rIsi _ [_, V.ty "str"] _ _); refine Sa.st_kStr (by assumption) ?_; try dsimp only [Sa.kStr])
  | ((with_reducible show rIsi _ [_, V.ty "list"] _ _); refine Sa.st_kList (by assumption) ?_; try dsimp only [Sa.kList])
  | ((with_reducible show rIsi _ [_, V.ty "tuple"] _ _); refine Sa.st_kTuple (by assumption) ?_; try dsimp only [Sa.kTuple])
  | ((with_reducible show rSlL _ _ none (some _) _ _); refine Sa.st_slTo (by assumption) (by walk_at "at") (by walk_at "om") (fun _ _ _ => ?_))
  | ((with_reducible show rSlL _ _ (some _) none _ _); refine Sa.st_slFrom (by assumption) (by walk_at "at") (by walk_at "om") (fun _ _ _ => ?_))
  | ((with_reducible show rCat _ _ _ _); first | refine Sa.st_catI1 (by assumption) (by walk_at "at") (by walk_at "at") (by walk_at "om") (fun _ _ _ => ?_) | refine Sa.st_catI (by assumption) (by walk_at "at") (by walk_at "at") (by walk_at "om") (fun _ _ _ => ?_))
  | ((with_reducible show Sa.DG2a _ _ _ _ _ _); refine Sa.st_DG2a (by assumption) (by walk_at "at") ?_)
  | ((with_reducible show Sa.DG2b _ _ _ _ _); refine Sa.st_DG2b (by assumption) (by walk_at "at") ?_)
  | ((with_reducible show Sa.DPu _ _ _ _ _); refine Sa.st_DPu (by assumption) (by walk_at "chg") (by walk_at "om") (fun _ _ => ?_))
  | ((with_reducible show tDNewK _ _ _); refine Sa.st_dnew (by assumption) (fun _ _ _ => ?_))
  | ((with_reducible show tDisp [_] _ _ _); refine Sa.st_disp1 (by assumption) (fun _ _ _ => ?_))
  | ((with_reducible show Sa.DDs [_] _ _ _); refine Sa.st_DDs1 (by assumption) (fun _ _ => ?_))
  | ((with_reducible show Sa.LRg _ _ _ _); refine Sa.st_LRg (by assumption) (by walk_at "om") (by walk_at "om") (by walk_at "om") (by walk_at "om") (fun _ _ _ => ?_))
  | ((with_reducible show rIn _ false (V.int _) _ _ _); refine Sa.st_in (by assumption) (by walk_at "at") ?_)
  | ((with_reducible show rIn _ true (V.int _) _ _ _); refine Sa.st_notIn (by assumption) (by walk_at "at") ?_)
  | ((with_reducible show rSetL _ (V.int _) _ _ _); first | refine Sa.st_setI (by assumption) (by walk_at "chg") (by walk_at "om") (by walk_at "om") (fun _ _ => ?_) | refine Sa.st_setN (by assumption) (by walk_at "chg") (by omega) (by walk_at "om") (fun _ _ => ?_) | refine Sa.st_setL (by assumption) (by walk_at "chg") (by rfl) (fun _ _ => ?_))
  | ((with_reducible show Sa.SetFrom _ _ _ _ _); refine Sa.st_from1 (by assumption) (by walk_at "chg") (by omega) (by walk_at "om") (by walk_at "om") (fun _ _ => ?_))
  | ((with_reducible show Sa.FldP _ _ (V.ref _) _ _ _); refine Sa.st_FldN (by assumption) (by walk_at "chg") (by assumption) (by assumption) (by decide +kernel) (by rfl) (by decide +kernel) (fun _ _ => ?_))
  | ((with_reducible show Sa.MakeA _ _ _ _ _); refine Sa.st_MakeA (by assumption) (fun _ _ _ _ => ?_))
  | ((with_reducible show Sa.DDe _ (V.int _) _ _); refine Sa.st_DDe (by assumption) (by walk_at "chg") (by first | assumption | simp only [*, Option.isSome]) (fun _ _ => ?_))
  | ((with_reducible show Sa.DPa _ _ (V.ref _) _ _); refine Sa.st_DPa (by assumption) (by walk_at "at") ?_)
  | ((with_reducible show Sa.DPb _ (V.int _) _ _); refine Sa.st_DPb (by assumption) (by walk_at "chg") (by assumption) (fun _ _ => ?_))
  | ((with_reducible show rPop (V.ref _) _ _ _); refine Sa.st_popI (by assumption) (by walk_at "chg") (by walk_at "om") (fun _ _ => ?_))
  | ((with_reducible show Sa.DSa _ _ _ (V.ref _) _ _); refine Sa.st_DSa (by assumption) (by walk_at "at") ?_)
  | ((with_reducible show rCntI _ (V.ref _) [V.int _] _ _); refine Sa.st_count (by assumption) (by walk_at "at") ?_)
  | ((with_reducible show rReverse (V.ref _) _ _ _); refine Sa.st_rev (by assumption) (by walk_at "chg") (fun _ _ => ?_))
  | ((with_reducible show Sa.rLenO _ _ _ [V.ref _] _ _); refine Sa.st_lenO (by assumption) (by walk_at "at") ?_)
  | ((with_reducible show 0 ≤ _ ∧ _ < 2 ^ 63 ∧ _); refine ⟨by omega, by omega, ?_⟩)
  | ((with_reducible show Sa.RevA _ (V.ref _) _ _); refine Sa.st_RevA (by assumption) (by walk_at "at") (fun _ _ _ => ?_))
  | ((with_reducible show Sa.LcAdd _ (V.int _) _ _); refine Sa.st_lcaddI (by assumption) (by walk_at "chg") (by walk_at "om") (fun _ _ => ?_)))
local macro_rules | `(tactic| walk_at "s1") => `(tactic| first | walk_at "sA" | walk_at "sB" | walk_at "sC")
local macro_rules | `(tactic| walk_at "go") => `(tactic| repeat walk_at "s1")
local macro_rules | `(tactic| walk_at "s0") => `(tactic| first | ((with_reducible show Sa.NewL _ _ _); refine Sa.st_newL (by assumption) (by walk_at "om") (fun _ _ _ => ?_)) | ((with_reducible show Sa.NewT _ _ _); refine Sa.st_newU (by assumption) (by walk_at "om") (fun _ _ _ => ?_)))
local macro_rules | `(tactic| walk_at "gn") => `(tactic| repeat (first | walk_at "sA" | walk_at "sB" | walk_at "s0" | walk_at "sC"))
local macro_rules | `(tactic| walk_at "st") => `(tactic| simp only [Sa.cxK, Sa.cxK', Sa.asg2, Sa.asg3, Sa.asg2t, L2.start, List.map_cons, List.map_nil, List.length_cons, List.length_nil, Nat.zero_add, Nat.reduceAdd, Nat.reduceSub, List.replicate_succ, List.replicate_zero, List.cons_append, List.nil_append, List.replicate])
local macro_rules | `(tactic| walk_at "if") => `(tactic| (refine Sa.if_dec (fun _ => ?_) (fun _ => ?_)))
local macro_rules | `(tactic| walk_at "nm") => `(tactic| (try dsimp only [List.set_cons_succ, List.set_cons_zero]))
local macro_rules | `(tactic| walk_at "mn") => `(tactic| (intro x hx; simp only [List.mem_cons, List.not_mem_nil, or_false] at hx; omega))
local macro_rules | `(tactic| walk_at "yes") => `(tactic| refine Sa.if_dec (fun _ => ?_) (fun h => absurd (by first | trivial | rfl) h))
local macro_rules | `(tactic| walk_at "no") => `(tactic| refine Sa.if_dec (fun h => by cases h) (fun _ => ?_))
local macro_rules | `(tactic| walk_at "atD") => `(tactic| first
  | walk_at "at"
  | (with_reducible apply Sa.At.lst; (walk_at "at"); (walk_at "ats"))
  | (with_reducible apply Sa.At.tup; (walk_at "at"); (walk_at "ats")))
local macro_rules | `(tactic| walk_at "ats") => `(tactic| first
  | with_reducible exact Sa.At.nil
  | (with_reducible apply Sa.At.cons; (walk_at "atD"); (walk_at "ats")))
local macro_rules | `(tactic| walk_at "dp") => `(tactic| first
  | exact Sa.depth_int | exact Sa.depth_ints | exact Sa.depth_bool | exact Sa.depth_none
  | (simp [PyData.depth, PyData.depthAll, Sa.depthAll_ints]; done)
  | (simp only [PyData.depth, PyData.depthAll, Sa.depthAll_ints]; omega))
local macro_rules | `(tactic| walk_at "dw") => `(tactic| first | exact Nat.zero_le _ | (simp only [wid, widAll, wid_ints]; omega))
local macro_rules | `(tactic| walk_at "dt") => `(tactic| first | rfl | (simp only [noTxt, noTxtAll, noTxt_ints, Bool.and_self, Bool.and_true, Bool.true_and]; done))
local macro_rules | `(tactic| walk_at "call") => `(tactic| fail)
local macro_rules | `(tactic| walk_at "dec") => `(tactic| ((with_reducible show ite (decide _ = true) _ _); first
  | (refine Sa.if_yes (by with_reducible rfl) ?_)
  | (refine Sa.if_yes (by omega) ?_)
  | (refine Sa.if_no (by omega) ?_)
  | (refine Sa.if_no (fun h => V.noConfusion h) ?_)))
local macro_rules | `(tactic| walk_at "sD") => `(tactic| first
  | ((with_reducible show gLst _ _ _ (V.ref _) _ _ _); refine Sa.st_glst (by assumption) (by walk_at "at") (by rfl) ?_)
  | ((with_reducible show Sa.ipC Sa.CMulX _ (V.int _) (V.int _) _ _); refine Sa.st_imul2 (by omega) (by omega) ?_)
  | ((with_reducible show rSum _ [V.ref _] _ _); refine Sa.st_sum (by assumption) (by walk_at "at") ?_)
  | ((with_reducible show rMax _ [V.ref _] _ _); refine Sa.st_max (by assumption) (by walk_at "at") (by walk_at "om") (fun _ _ _ => ?_))
  | ((with_reducible show Sa.InsA (V.ref _) [V.int _, V.int _] _ _); refine Sa.st_insI (by assumption) (by walk_at "chg") (by walk_at "om") (by omega) (by omega) (fun _ _ => ?_))
  | ((with_reducible show rPopAt (V.ref _) [V.int _] _ _); refine Sa.st_popAtI (by assumption) (by walk_at "chg") (by omega) (by walk_at "om") (by walk_at "om") (fun _ _ => ?_))
  | ((with_reducible show rClear (V.ref _) [] _ _); refine Sa.st_clear (by assumption) (by walk_at "chg") (fun _ _ => ?_))
  | ((with_reducible show rRep (V.ref _) (V.int _) _ _); refine Sa.st_repI (by assumption) (by walk_at "at") (by omega) (by omega) (fun _ _ _ => ?_))
  | ((with_reducible show rCat _ _ _ _); refine Sa.st_cat1I (by assumption) (by walk_at "at") (by walk_at "at") (by walk_at "om") (fun _ _ _ => ?_)))
local macro_rules | `(tactic| walk_at "au") => `(tactic| repeat (first | walk_at "sA" | walk_at "sB" | walk_at "s0" | walk_at "sC" | walk_at "sD" | walk_at "call" | walk_at "dec"))
local macro_rules | `(tactic| walk_at "gd") => `(tactic| repeat (first | walk_at "sA" | walk_at "sB" | walk_at "s0" | walk_at "sC" | walk_at "sD"))
local macro_rules | `(tactic| walk_at "ere") => `(tactic| first
  | with_reducible exact Sa.At.er0
  | ((with_reducible apply Sa.At.tm); walk_at "ere"))
local macro_rules | `(tactic| walk_at "kit") => `(tactic| first
  | with_reducible exact Sa.KitW.nil
  | ((with_reducible apply Sa.KitW.no); (assumption); (walk_at "kit"))
  | ((with_reducible apply Sa.KitW.yes); (assumption); (walk_at "kit")))
local macro_rules | `(tactic| walk_at "sC") => `(tactic| first
  | ((with_reducible show Sa.IsEB _ _ _ _ _ _ _); first | refine Sa.st_IsE1 (by assumption) (by walk_at "ere") (by assumption) (by assumption) ?_ | refine Sa.st_IsEW (by assumption) (by walk_at "ere") (by walk_at "at") (by assumption) (by walk_at "kit") ?_)
  | ((with_reducible show Sa.XfB _ _ _ _ _ _ _ _); refine Sa.st_XfE (by assumption) (by walk_at "ere") (by assumption) ?_))
local macro_rules | `(tactic| walk_at "ras") => `(tactic| refine Sa.st_MkB (by assumption) (by assumption) (fun _ _ _ => ?_))
local macro_rules | `(tactic| walk_at "cat") => `(tactic| first | refine Sa.st_wAs (by assumption) (fun _ _ => ?_) | refine Sa.st_wOn (by assumption) (fun _ _ => ?_))
def sp__law_wrong (K : PySem.W.Frag) : Sp := fun vs H Q _ => ∃ (a : Addr) (ns : List Int), vs = [.ref a] ∧ ∃ (L : List Fc) (M : List Cell), SA L M H ∧ At L M (fL a (ns.map V.int)) ∧ ns.length ≤ 1000 ∧
  ∀ H', SA L M H' → Q (optV (fw 0 0 ns)) H'
/-- the numbers seen are those from 0 to the greatest one -/
structure G_wrong where
  kvs : List (Key × V)
  g : Int
  x : Option V
  y : Option V
theorem sc__law_wrong : FnScope ["_law_writes_here", "_law_seen_here", "_law_spot", "_law_number_here"] ["_law_writes_here"] (defScope s__law_wrong) := ⟨rfl, rfl, rfl, by decide +kernel, rfl, by decide +kernel, by decide +kernel⟩
abbrev Ok__law_wrong (P : Program) (w : World) (K : PySem.W.Frag) (mg : Str → Option Value) (base : Heap) : Prop := ∃ f fd, Fun K "_law_wrong" "_law_wrong" s__law_wrong f fd ∧ mg "_law_wrong" = some (.ref f) ∧ FnOk P w K mg base CX0 1 f fd ["_law_writes_here"] (sp__law_wrong K)
theorem ok__law_wrong {P : Program} {w : World} {K : PySem.W.Frag} {mg : Str → Option Value} {base : Heap} (T : Top K mg) : Ok__law_wrong P w K mg base := by
  obtain ⟨f, fd, F, m⟩ := T.d__law_wrong
  refine ⟨f, fd, F, m, F.ok sc__law_wrong (fun vs H Q E h => by first | (obtain ⟨_, rfl, _⟩ := h; rfl) | (obtain ⟨_, _, rfl, _⟩ := h; rfl) | (obtain ⟨_, _, _, rfl, _⟩ := h; rfl) | (obtain ⟨_, _, _, _, rfl, _⟩ := h; rfl) | (obtain ⟨_, _, _, _, _, rfl, _⟩ := h; rfl) | (obtain ⟨_, _, _, _, _, _, rfl, _⟩ := h; rfl) | (obtain ⟨_, _, _, _, _, _, _, rfl, _⟩ := h; rfl) | (obtain ⟨_, _, _, _, _, _, _, _, rfl, _⟩ := h; rfl)) (fun cdv A outer s H vs Q E hr h => ?_)⟩
  refine ⟨_, (pss_cons (ps_set (i := 1) sc__law_wrong.nd rfl (.inl rfl) (pe_disp (pps_cons pe_int pe_bl pps_nil) (by rfl) (by rfl) (fun z => by cases z) (by decide)))
      (pss_cons (ps_for PassesOwn.never rfl (pi_enum (by rfl) T.z_enumerate (pa_cons (pv 0) pa_nil)) (pg_tup rfl (pgs_cons (pg_name (i := 2) sc__law_wrong.nd rfl (.inl rfl)) (pgs_cons (pg_name (i := 3) sc__law_wrong.nd rfl (.inl rfl)) pgs_nil))) (pss_cons (ps_if (pt_cmp (pc_dnotin (hu_of hr) (pe_op op_sub (pv 3) pe_int) (pv 1))) (pss_one (ps_ret (pv 2))) pss_nil)
      (pss_one (ps_dput (hu_of hr) (pv 1) (pv 3) pe_bl rfl))))
      (pss_one (ps_ret pe_non)))), ?_⟩
  obtain ⟨a, ns, rfl, L, M, hS, hA, hl, q⟩ := h
  have hQ : At L M (fQ K a (ns.map V.int)) := Sa.At.q hA
  walk_at "st"
  walk_at "s1"
  walk_at "s1"
  refine Sa.st_disp1 (by assumption) (fun X_p X_H hS1 => ?_)
  walk_at "go"
  refine Sa.st_e1 (by assumption) (by walk_at "at") ?_
  refine Sa.lp_enum (γ := G_wrong) (fun i g => [some (.ref a), some (.ref X_p), g.x, g.y]) (fun _ _ => L) (fun _ g => (X_p, .dK g.kvs) :: M)
    (fun i g => fw 0 0 ns = fw g.g i (ns.drop i) ∧ 0 ≤ g.g ∧ (∀ v : Int, (Sa.dv g.kvs v).isSome = decide (0 ≤ v ∧ v ≤ g.g)) ∧ g.kvs.length ≤ i + 1) ⟨⟨Sa.dput [] 0 (.bl true), 0, none, none⟩, rfl, ⟨rfl, Int.le_refl 0, fun v => ?_, Nat.le_refl _⟩, by assumption⟩ (fun i g _ _ => by walk_at "at") ?_ ?_
  · rw [Sa.dv_put, Sa.dv_nil]
    by_cases hv : v = 0
    · rw [if_pos hv, hv]; rfl
    · rw [if_neg hv]
      exact (decide_eq_false (by show ¬(0 ≤ v ∧ v ≤ 0); omega)).symm
  · rintro i x ⟨kvs, g, y, z⟩ H hx ⟨h1, h2, h3, h4⟩ hS1
    simp only at h1 h2 h3 h4 hS1
    obtain ⟨n, hn, rfl⟩ := Sa.ints_at hx
    have hil := (List.getElem?_eq_some_iff.mp hn).1
    have hd := Sa.drop_at hn
    walk_at "nm"
    walk_at "go"
    rw [h3]
    refine Sa.if_dec (fun hv => ?_) (fun hv => ?_)
    · walk_at "go"
      refine ⟨⟨Sa.dput kvs n (.bl true), max g n, _, _⟩, rfl, ⟨?_, ?_, fun v => ?_, ?_⟩, by assumption⟩
      · show fw 0 0 ns = fw (max g n) (i + 1) (ns.drop (i + 1))
        rw [h1, hd]
        exact if_pos (by omega)
      · show 0 ≤ max g n
        omega
      · show (Sa.dv (Sa.dput kvs n (.bl true)) v).isSome = decide (0 ≤ v ∧ v ≤ max g n)
        rw [Sa.dv_put]
        by_cases hv2 : v = n
        · rw [if_pos hv2]
          exact (decide_eq_true (by omega)).symm
        · rw [if_neg hv2, h3]
          exact decide_eq_decide.mpr (by omega)
      · have := Sa.dput_len kvs n (.bl true)
        show (Sa.dput kvs n (.bl true)).length ≤ i + 1 + 1
        omega
    · walk_at "go"
      have e : fw 0 0 ns = some i := by
        rw [h1, hd]
        exact if_neg (by omega)
      have q1 := q H (by walk_at "sa")
      rw [e] at q1
      exact q1
  · rintro ⟨kvs, g, y, z⟩ H ⟨h1, h2, h3, h4⟩ hS1
    simp only at h1 h2 h3 h4 hS1
    walk_at "go"
    have e : fw 0 0 ns = none := by
      rw [h1, List.length_map, List.drop_length]
      rfl
    have q1 := q H (by walk_at "sa")
    rw [e] at q1
    exact q1

def sp__law_dip (K : PySem.W.Frag) : Sp := fun vs H Q _ => ∃ (p : Addr) (n : Int), vs = [.ref p, .int n] ∧ ∃ (L : List Fc) (M : List Cell) (o : HO) (k : Int), SA L ((p, o) :: M) H ∧ Jar o k ∧ 0 < n ∧ n ≤ 1000000000000000000000000000000 ∧ k ≤ 1000000000 ∧
  ∀ r o' k' H', 0 ≤ r → r < n → Jar o' k' → k' ≤ k + 1 → SA L ((p, o') :: M) H' → Q (.int r) H'
theorem sc__law_dip : FnScope ["_law_bowl_here", "_law_many", "_law_digit", "_law_stirred"] ["_law_bowl_here", "_law_many"] (defScope s__law_dip) := ⟨rfl, rfl, rfl, by decide +kernel, rfl, by decide +kernel, by decide +kernel⟩
abbrev Ok__law_dip (P : Program) (w : World) (K : PySem.W.Frag) (mg : Str → Option Value) (base : Heap) : Prop := ∃ f fd, Fun K "_law_dip" "_law_dip" s__law_dip f fd ∧ mg "_law_dip" = some (.ref f) ∧ FnOk P w K mg base CX0 1 f fd ["_law_bowl_here", "_law_many"] (sp__law_dip K)
theorem ok__law_dip {P : Program} {w : World} {K : PySem.W.Frag} {mg : Str → Option Value} {base : Heap} (T : Top K mg) : Ok__law_dip P w K mg base := by
  obtain ⟨f, fd, F, m⟩ := T.d__law_dip
  refine ⟨f, fd, F, m, F.ok sc__law_dip (fun vs H Q E h => by first | (obtain ⟨_, rfl, _⟩ := h; rfl) | (obtain ⟨_, _, rfl, _⟩ := h; rfl) | (obtain ⟨_, _, _, rfl, _⟩ := h; rfl) | (obtain ⟨_, _, _, _, rfl, _⟩ := h; rfl) | (obtain ⟨_, _, _, _, _, rfl, _⟩ := h; rfl) | (obtain ⟨_, _, _, _, _, _, rfl, _⟩ := h; rfl) | (obtain ⟨_, _, _, _, _, _, _, rfl, _⟩ := h; rfl) | (obtain ⟨_, _, _, _, _, _, _, _, rfl, _⟩ := h; rfl)) (fun cdv A outer s H vs Q E hr h => ?_)⟩
  refine ⟨_, (pss_cons (ps_if (pt_cmpR op_gt (pe_ix ix_list (pv 0) pe_int (fun _ _ => rfl)) pe_int (nomark _)) (pss_cons (ps_set (i := 2) sc__law_dip.nd rfl (.inl rfl) (pe_op Sa.op_modX (pe_callTy Sa.call_int1 (by rfl) T.z_int (by decide +kernel) (pa_cons (pe_ix ix_list (pv 0) pe_int (fun _ _ => rfl)) pa_nil)) (pv 1)))
      (pss_cons (ps_asg (pe_op Sa.op_fdivX (pe_ix ix_list (pv 0) pe_int (fun _ _ => rfl)) (pv 1)) (pg_sub (pv 0) pe_int set_list))
      (pss_one (ps_ret (pv 2))))) pss_nil)
      (pss_cons (ps_asg (pe_op op_add (pe_ix ix_list (pv 0) pe_int (fun _ _ => rfl)) pe_int) (pg_sub (pv 0) pe_int set_list))
      (pss_cons (ps_set (i := 3) sc__law_dip.nd rfl (.inl rfl) (pe_op Sa.op_modX (pe_op Sa.op_powW (pe_callTy Sa.call_int1 (by rfl) T.z_int (by decide +kernel) (pa_cons (pe_op op_add (pe_ix ix_list (pv 0) pe_int (fun _ _ => rfl)) (pe_op Sa.op_mulX pe_int (pe_ix ix_list (pv 0) pe_int (fun _ _ => rfl)))) pa_nil)) pe_int) (pe_op op_add (pe_op Sa.op_powW pe_int pe_int) pe_int)))
      (pss_cons (ps_set (i := 3) sc__law_dip.nd rfl (.inl rfl) (pe_op Sa.op_modX (pe_op Sa.op_powW (pe_callTy Sa.call_int1 (by rfl) T.z_int (by decide +kernel) (pa_cons (pe_op op_add (pv 3) (pe_op Sa.op_mulX pe_int (pe_ix ix_list (pv 0) pe_int (fun _ _ => rfl)))) pa_nil)) pe_int) (pe_op op_add (pe_op Sa.op_powW pe_int pe_int) pe_int)))
      (pss_one (ps_ret (pe_op Sa.op_modX (pe_callTy Sa.call_int1 (by rfl) T.z_int (by decide +kernel) (pa_cons (pe_op Sa.op_fdivX (pv 3) pe_int) pa_nil)) (pv 1)))))))), ?_⟩
  obtain ⟨p, n, rfl, L, M, o, k, hS, ⟨c, m0, rfl, hc, hm0, hm1, hk⟩, hn, hn2, hk2, q⟩ := h
  walk_at "st"
  walk_at "go"
  refine Sa.if_dec (fun h2 => ?_) (fun h2 => ?_)
  · walk_at "go"
    exact q _ _ k _ (Int.emod_nonneg _ (by omega)) (Int.emod_lt_of_pos _ hn) ⟨c / n, m0, rfl, Int.ediv_nonneg hc (by omega), hm0, hm1, hk⟩ (by omega) (by assumption)
  · walk_at "go"
    exact q _ _ (k + 1) _ (Int.emod_nonneg _ (by omega)) (Int.emod_lt_of_pos _ hn) ⟨c, m0, rfl, hc, hm0, hm1, by omega⟩ (by omega) (by assumption)
theorem call_dip {K : PySem.W.Frag} {L : List Fc} {M : List Cell} {H : Hp} {p : Addr} {o : HO} {n k : Int} {Q : VK} {E : XK} (hS : SA L ((p, o) :: M) H) (hj : Jar o k) (h0 : 0 < n) (h1 : n ≤ 1000000000000000000000000000000) (hk : k ≤ 1000000000)
    (q : ∀ r o' k' H', 0 ≤ r → r < n → Jar o' k' → k' ≤ k + 1 → SA L ((p, o') :: M) H' → Q (.int r) H') : sp__law_dip K ([.ref p, .int n] ++ []) H Q E :=
  ⟨p, n, rfl, L, M, o, k, hS, hj, h0, h1, hk, q⟩

/-- data of a depth below so much -/
def spn__law_alike (n : Nat) (K : PySem.W.Frag) : Sp := fun vs H Q _ => ∃ (v u : V), vs = [v, u] ∧ ∃ (L : List Fc) (M : List Cell) (d e : PyData), SA L M H ∧ At L M (fD K v d) ∧ At L M (fD K u e) ∧ e.depth < n ∧
  ∀ (b : Bool) H', (b = true ↔ d = e) → SA L M H' → Q (.bl b) H'
theorem spn__law_alike_zero (K : PySem.W.Frag) : ∀ vs H Q E, ¬ spn__law_alike 0 K vs H Q E := by
  rintro vs H Q E ⟨_, _, _, _, _, _, _, _, _, _, h, _⟩
  exact absurd h (Nat.not_lt_zero _)
local macro_rules | `(tactic| walk_at "call") => `(tactic| first
  | ((with_reducible show sp__law_alike _ ([V.int _, V.int _] ++ []) _ _ _); refine call_alikeI (by assumption) (by omega) (fun _ _ => ?_))
  | ((with_reducible show sp__law_alike _ ([V.bl _, V.bl _] ++ []) _ _ _); refine call_alikeB (by assumption) (by first | rfl | (rw [Bool.eq_iff_iff]; simp only [Bool.and_eq_true, Bool.or_eq_true, Bool.not_eq_true', decide_eq_true_eq, decide_eq_false_iff_not, Bool.false_eq_true, iff_false, iff_true]; omega)) (fun _ _ => ?_))
  | ((with_reducible show sp__law_alike _ _ _ _ _); refine call_alike (by assumption) (by walk_at "atD") (by walk_at "atD") (by walk_at "dp") (fun _ _ => ?_)))
theorem sc__law_alike : FnScope ["_law_told", "_law_due_here", "_law_one", "_law_other"] ["_law_told", "_law_due_here"] (defScope s__law_alike) := ⟨rfl, rfl, rfl, by decide +kernel, rfl, by decide +kernel, by decide +kernel⟩
theorem step__law_alike {P : Program} {w : World} {K : PySem.W.Frag} {mg : Str → Option Value} {base : Heap} (T : Top K mg) {f__law_alike : Addr} {fd__law_alike : FuncData} (F__law_alike : Fun K "_law_alike" "_law_alike" s__law_alike f__law_alike fd__law_alike) (m__law_alike : mg "_law_alike" = some (.ref f__law_alike)) (n : Nat) (G__law_alike : FnOk P w K mg base CX0 (0 + n) f__law_alike fd__law_alike ["_law_told", "_law_due_here"] (spn__law_alike n K)) : FnOk P w K mg base CX0 (0 + n + 1) f__law_alike fd__law_alike ["_law_told", "_law_due_here"] (spn__law_alike (n + 1) K) := by
  have b__law_alike := F__law_alike.binds (ps := ["_law_told", "_law_due_here"]) (fun _ _ _ _ _ _ us hl => match us, hl with | [_, _], _ => rfl)
  refine F__law_alike.ok sc__law_alike (fun vs H Q E h => by first | (obtain ⟨_, rfl, _⟩ := h; rfl) | (obtain ⟨_, _, rfl, _⟩ := h; rfl) | (obtain ⟨_, _, _, rfl, _⟩ := h; rfl) | (obtain ⟨_, _, _, _, rfl, _⟩ := h; rfl) | (obtain ⟨_, _, _, _, _, rfl, _⟩ := h; rfl) | (obtain ⟨_, _, _, _, _, _, rfl, _⟩ := h; rfl) | (obtain ⟨_, _, _, _, _, _, _, rfl, _⟩ := h; rfl) | (obtain ⟨_, _, _, _, _, _, _, _, rfl, _⟩ := h; rfl)) (fun cdv A outer s H vs Q E hr h => ?_)
  refine ⟨_, (pss_cons (ps_if (pt_cmpR Sa.op_isN (pv 1) pe_non (nomark _)) (pss_one (ps_ret (pe_cmpR Sa.op_isN (pv 0) pe_non (nomark _)))) pss_nil)
      (pss_cons (ps_if (pt_val (pe_callB call_isi (by rfl) T.z_isinstance (by decide +kernel) (pa_cons (pv 1) (pa_cons (pe_bltn (v := .ty "bool") (u := .type "bool") (by rfl) T.z_bool (by decide +kernel) rfl) pa_nil)))) (pss_one (ps_ret (pe_and (pe_callB call_isi (by rfl) T.z_isinstance (by decide +kernel) (pa_cons (pv 0) (pa_cons (pe_bltn (v := .ty "bool") (u := .type "bool") (by rfl) T.z_bool (by decide +kernel) rfl) pa_nil))) (pe_one (pe_cmpR op_eq (pv 0) (pv 1) (nomark _)))))) pss_nil)
      (pss_cons (ps_if (pt_val (pe_callB call_isi (by rfl) T.z_isinstance (by decide +kernel) (pa_cons (pv 1) (pa_cons (pe_bltn (v := .ty "int") (u := .type "int") (by rfl) T.z_int (by decide +kernel) rfl) pa_nil)))) (pss_one (ps_ret (pe_and (pe_callB call_isi (by rfl) T.z_isinstance (by decide +kernel) (pa_cons (pv 0) (pa_cons (pe_bltn (v := .ty "int") (u := .type "int") (by rfl) T.z_int (by decide +kernel) rfl) pa_nil))) (pe_and (pe_not (pe_callB call_isi (by rfl) T.z_isinstance (by decide +kernel) (pa_cons (pv 0) (pa_cons (pe_bltn (v := .ty "bool") (u := .type "bool") (by rfl) T.z_bool (by decide +kernel) rfl) pa_nil)))) (pe_one (pe_cmpR op_eq (pv 0) (pv 1) (nomark _))))))) pss_nil)
      (pss_cons (ps_if (pt_val (pe_callB call_isi (by rfl) T.z_isinstance (by decide +kernel) (pa_cons (pv 1) (pa_cons (pe_bltn (v := .ty "str") (u := .type "str") (by rfl) T.z_str (by decide +kernel) rfl) pa_nil)))) (pss_one (ps_ret (pe_and (pe_callB call_isi (by rfl) T.z_isinstance (by decide +kernel) (pa_cons (pv 0) (pa_cons (pe_bltn (v := .ty "str") (u := .type "str") (by rfl) T.z_str (by decide +kernel) rfl) pa_nil))) (pe_one (pe_cmpR op_eq (pv 0) (pv 1) (nomark _)))))) pss_nil)
      (pss_cons (ps_if (pt_val (pe_callB call_isi (by rfl) T.z_isinstance (by decide +kernel) (pa_cons (pv 1) (pa_cons (pe_bltn (v := .ty "list") (u := .type "list") (by rfl) T.z_list (by decide +kernel) rfl) pa_nil)))) (pss_one (ps_if (PW.pt (pw_or (pt_not (pt_val (pe_callB call_isi (by rfl) T.z_isinstance (by decide +kernel) (pa_cons (pv 0) (pa_cons (pe_bltn (v := .ty "list") (u := .type "list") (by rfl) T.z_list (by decide +kernel) rfl) pa_nil))))) (pw_or1 (pt_cmpR op_ne (pe_callB Sa.call_len (by rfl) T.z_len boot_len (pa_cons (pv 0) pa_nil)) (pe_callB Sa.call_len (by rfl) T.z_len boot_len (pa_cons (pv 1) pa_nil)) (nomark _))))) (pss_one (ps_ret pe_bl)) pss_nil)) (pss_one (ps_if (PW.pt (pw_or (pt_not (pt_val (pe_callB call_isi (by rfl) T.z_isinstance (by decide +kernel) (pa_cons (pv 0) (pa_cons (pe_bltn (v := .ty "tuple") (u := .type "tuple") (by rfl) T.z_tuple (by decide +kernel) rfl) pa_nil))))) (pw_or1 (pt_cmpR op_ne (pe_callB Sa.call_len (by rfl) T.z_len boot_len (pa_cons (pv 0) pa_nil)) (pe_callB Sa.call_len (by rfl) T.z_len boot_len (pa_cons (pv 1) pa_nil)) (nomark _))))) (pss_one (ps_ret pe_bl)) pss_nil)))
      (pss_cons (ps_for PassesOwn.never rfl (RZ.pi_zipA (by rfl) T.z_zip (pa_cons (pv 0) (pa_cons (pv 1) pa_nil))) (pg_tup rfl (pgs_cons (pg_name (i := 2) sc__law_alike.nd rfl (.inl rfl)) (pgs_cons (pg_name (i := 3) sc__law_alike.nd rfl (.inl rfl)) pgs_nil))) (pss_one (ps_if (pt_not (pt_val (pe_call G__law_alike (hr.mono (by first | decide | omega)) (by rfl) m__law_alike F__law_alike.kp b__law_alike .nil pass0 (pa_cons (pv 2) (pa_cons (pv 3) pa_nil))))) (pss_one (ps_ret pe_bl)) pss_nil)))
      (pss_one (ps_ret pe_bl)))))))), ?_⟩
  obtain ⟨v, u, rfl, L, M, d, e, hS, hd, he, hn, q⟩ := h
  have hd1 := hd H hS
  have he1 := he H hS
  simp only [fD] at hd1 he1
  have q0 : ∀ (b : Bool) H', (b = true ↔ d = e) → SA [Sa.fS H] [] H' → Q (.bl b) H' := fun b H' hb hs => q b H' hb (hS.ext hs.same)
  clear q
  have hs := SA.self H
  walk_at "st"
  walk_at "go"
  cases e with
  | none =>
    obtain rfl := Sa.dp_none he1
    walk_at "go"
    refine Sa.if_dec (fun h => ?_) (fun h => absurd rfl h)
    walk_at "go"
    refine q0 _ H ?_ hs
    cases d <;> first | (cases hd1; done) | (cases hd1; simp)
  | bool b =>
    obtain rfl := Sa.dp_bool he1
    walk_at "go"
    refine Sa.if_dec (fun h => by cases h) (fun _ => ?_)
    walk_at "go"
    cases d with
    | bool c =>
      obtain rfl := Sa.dp_bool hd1
      dsimp only [Sa.kBool]
      walk_at "go"
      refine Sa.st_eq rfl ?_
      exact q0 _ H (by simp) hs
    | dict kv => cases hd1
    | _ =>
      dsimp only [Sa.kBool]
      walk_at "go"
      exact q0 _ H (by simp) hs
  | int i =>
    obtain rfl := Sa.dp_int he1
    walk_at "go"
    refine Sa.if_dec (fun h => by cases h) (fun _ => ?_)
    walk_at "go"
    cases d with
    | int c =>
      obtain rfl := Sa.dp_int hd1
      dsimp only [Sa.kInt]
      walk_at "go"
      exact q0 _ H (by simp) hs
    | dict kv => cases hd1
    | _ =>
      dsimp only [Sa.kInt]
      walk_at "go"
      exact q0 _ H (by simp) hs
  | str z =>
    obtain rfl := Sa.dp_str he1
    walk_at "go"
    refine Sa.if_dec (fun h => by cases h) (fun _ => ?_)
    walk_at "go"
    cases d with
    | str c =>
      obtain rfl := Sa.dp_str hd1
      dsimp only [Sa.kStr]
      walk_at "go"
      refine Sa.st_eq rfl ?_
      exact q0 _ H (by simp) hs
    | dict kv => cases hd1
    | _ =>
      dsimp only [Sa.kStr]
      walk_at "go"
      exact q0 _ H (by simp) hs
  | list es =>
    obtain ⟨a, xs, rfl, ha, hxs⟩ := Sa.dp_list he1
    walk_at "go"
    refine Sa.if_dec (fun h => by cases h) (fun _ => ?_)
    walk_at "go"
    cases d with
    | list ds =>
      obtain ⟨b, ys, rfl, hb, hys⟩ := Sa.dp_list hd1
      dsimp only [Sa.kList]
      walk_at "go"
      refine Sa.if_dec (fun hl => ?_) (fun hl => ?_)
      rotate_left
      · walk_at "go"
        refine q0 _ H ?_ hs
        constructor
        · intro h; cases h
        · intro h; cases h; exact absurd rfl hl
      have hl1 : ds.length = es.length := by omega
      have hl2 : ys.length = xs.length := by rw [Sa.dpa_len hxs, Sa.dpa_len hys, hl1]
      have A1 : At [Sa.fS H] [] (fQ K a xs) := Sa.At.ofS ha
      have A2 : At [Sa.fS H] [] (fQ K b ys) := Sa.At.ofS hb
      have A3 : At [Sa.fS H] [] (fDs K xs es) := Sa.At.ofS hxs
      have A4 : At [Sa.fS H] [] (fDs K ys ds) := Sa.At.ofS hys
      walk_at "go"
      refine Sa.st_zAL hs A2 A1 ?_
      refine Sa.lp_zip (n := ys.length) (γ := Option V × Option V) (fun _ g => [some (.ref b), some (.ref a), g.1, g.2]) (fun _ _ => [Sa.fS H]) (fun _ _ => []) (fun i _ => ds.take i = es.take i) (by omega) ⟨(none, none), rfl, rfl, hs⟩ (fun _ _ _ _ => A2) (fun _ _ _ _ => A1) ?_ ?_
      · rintro i y x g H1 hy hx hp hs1
        obtain ⟨d1, hd2, hd3⟩ := Sa.dpa_get (A4 H1 hs1) hy
        obtain ⟨e1, he2, he3⟩ := Sa.dpa_get (A3 H1 hs1) hx
        have hdep := depth_mem he2
        have hn2 : e1.depth < n := by
          have hn3 : PyData.depthAll es + 1 < n + 1 := hn
          omega
        walk_at "nm"
        walk_at "go"
        refine ⟨y, x, rfl, [Sa.fS H1], [], d1, e1, SA.self H1, Sa.At.ofS hd3, Sa.At.ofS he3, hn2, fun bb H2 hbb hs2 => ?_⟩
        have hs3 := hs1.ext hs2.same
        walk_at "go"
        refine Sa.if_bool (fun h => ?_) (fun h => ?_)
        · walk_at "go"
          refine ⟨(some y, some x), rfl, ?_, hs3⟩
          show ds.take (i + 1) = es.take (i + 1)
          rw [Sa.take_at hd2, Sa.take_at he2, hbb.mp h, show ds.take i = es.take i from hp]
        · walk_at "go"
          refine q0 _ H2 ?_ hs3
          constructor
          · intro h; cases h
          · intro h4
            cases h4
            rw [hd2] at he2
            cases he2
            rw [hbb.mpr rfl] at h
            cases h
      · intro g H1 hp hs1
        walk_at "go"
        refine q0 _ H1 ?_ hs1
        have h5 : ds.take ys.length = es.take ys.length := hp
        rw [List.take_of_length_le (by rw [Sa.dpa_len hys]; omega), List.take_of_length_le (by rw [Sa.dpa_len hys]; omega)] at h5
        rw [h5]
        simp
    | dict kv => cases hd1
    | _ =>
      dsimp only [Sa.kList]
      walk_at "go"
      exact q0 _ H (by simp) hs
  | tuple es =>
    obtain ⟨a, xs, rfl, ha, hxs⟩ := Sa.dp_tuple he1
    walk_at "go"
    refine Sa.if_dec (fun h => by cases h) (fun _ => ?_)
    walk_at "go"
    cases d with
    | tuple ds =>
      obtain ⟨b, ys, rfl, hb, hys⟩ := Sa.dp_tuple hd1
      dsimp only [Sa.kTuple]
      walk_at "go"
      refine Sa.if_dec (fun hl => ?_) (fun hl => ?_)
      rotate_left
      · walk_at "go"
        refine q0 _ H ?_ hs
        constructor
        · intro h; cases h
        · intro h; cases h; exact absurd rfl hl
      have hl1 : ds.length = es.length := by omega
      have hl2 : ys.length = xs.length := by rw [Sa.dpa_len hxs, Sa.dpa_len hys, hl1]
      have A1 : At [Sa.fS H] [] (fT K a xs) := Sa.At.ofS ha
      have A2 : At [Sa.fS H] [] (fT K b ys) := Sa.At.ofS hb
      have A3 : At [Sa.fS H] [] (fDs K xs es) := Sa.At.ofS hxs
      have A4 : At [Sa.fS H] [] (fDs K ys ds) := Sa.At.ofS hys
      walk_at "go"
      refine Sa.st_zAT hs A2 A1 ?_
      refine Sa.lp_zipT (γ := Option V × Option V) (fun _ g => [some (.ref b), some (.ref a), g.1, g.2]) (fun _ _ => [Sa.fS H]) (fun _ _ => []) (fun i _ => ds.take i = es.take i) hl2 ⟨(none, none), rfl, rfl, hs⟩ (fun _ _ _ => A2) (fun _ _ _ => A1) ?_ ?_
      · rintro i y x g H1 hy hx hp hs1
        obtain ⟨d1, hd2, hd3⟩ := Sa.dpa_get (A4 H1 hs1) hy
        obtain ⟨e1, he2, he3⟩ := Sa.dpa_get (A3 H1 hs1) hx
        have hdep := depth_mem he2
        have hn2 : e1.depth < n := by
          have hn3 : PyData.depthAll es + 1 < n + 1 := hn
          omega
        walk_at "nm"
        walk_at "go"
        refine ⟨y, x, rfl, [Sa.fS H1], [], d1, e1, SA.self H1, Sa.At.ofS hd3, Sa.At.ofS he3, hn2, fun bb H2 hbb hs2 => ?_⟩
        have hs3 := hs1.ext hs2.same
        walk_at "go"
        refine Sa.if_bool (fun h => ?_) (fun h => ?_)
        · walk_at "go"
          refine ⟨(some y, some x), rfl, ?_, hs3⟩
          show ds.take (i + 1) = es.take (i + 1)
          rw [Sa.take_at hd2, Sa.take_at he2, hbb.mp h, show ds.take i = es.take i from hp]
        · walk_at "go"
          refine q0 _ H2 ?_ hs3
          constructor
          · intro h; cases h
          · intro h4
            cases h4
            rw [hd2] at he2
            cases he2
            rw [hbb.mpr rfl] at h
            cases h
      · intro g H1 hp hs1
        walk_at "go"
        refine q0 _ H1 ?_ hs1
        have h5 : ds.take ys.length = es.take ys.length := hp
        rw [List.take_of_length_le (by rw [Sa.dpa_len hys]; omega), List.take_of_length_le (by rw [Sa.dpa_len hys]; omega)] at h5
        rw [h5]
        simp
    | dict kv => cases hd1
    | _ =>
      dsimp only [Sa.kTuple]
      walk_at "go"
      exact q0 _ H (by simp) hs
  | dict kv => cases he1
def sp__law_alike (K : PySem.W.Frag) : Sp := spn__law_alike 4 K
abbrev Ok__law_alike (P : Program) (w : World) (K : PySem.W.Frag) (mg : Str → Option Value) (base : Heap) : Prop := ∃ f fd, Fun K "_law_alike" "_law_alike" s__law_alike f fd ∧ mg "_law_alike" = some (.ref f) ∧ FnOk P w K mg base CX0 4 f fd ["_law_told", "_law_due_here"] (sp__law_alike K)
theorem ok__law_alike {P : Program} {w : World} {K : PySem.W.Frag} {mg : Str → Option Value} {base : Heap} (T : Top K mg) : Ok__law_alike P w K mg base := by
  obtain ⟨f, fd, F, m⟩ := T.d__law_alike
  have key : ∀ n : Nat, FnOk P w K mg base CX0 (0 + n) f fd ["_law_told", "_law_due_here"] (spn__law_alike n K) := by
    intro n
    induction n with
    | zero => exact Sa.fn_none (spn__law_alike_zero K)
    | succ n ih => exact step__law_alike T F m n ih
  exact ⟨f, fd, F, m, key 4⟩
theorem call_alike {K : PySem.W.Frag} {L : List Fc} {M : List Cell} {H : Hp} {v u : V} {d : PyData} {Q : VK} {E : XK} (hS : SA L M H) (hd : At L M (fD K v d)) (he : At L M (fD K u d)) (hn : d.depth < 4) (q : ∀ H', SA L M H' → Q (.bl true) H') : sp__law_alike K ([v, u] ++ []) H Q E :=
  ⟨v, u, rfl, L, M, d, d, hS, hd, he, hn, fun b H' hb hs => by
    obtain rfl : b = true := hb.mpr rfl
    exact q H' hs⟩
theorem call_alikeI {K : PySem.W.Frag} {L : List Fc} {M : List Cell} {H : Hp} {i j : Int} {Q : VK} {E : XK} (hS : SA L M H) (e : i = j) (q : ∀ H', SA L M H' → Q (.bl true) H') : sp__law_alike K ([.int i, .int j] ++ []) H Q E := by
  subst e
  exact call_alike hS Sa.At.int Sa.At.int Sa.depth_int q
theorem call_alikeB {K : PySem.W.Frag} {L : List Fc} {M : List Cell} {H : Hp} {i j : Bool} {Q : VK} {E : XK} (hS : SA L M H) (e : i = j) (q : ∀ H', SA L M H' → Q (.bl true) H') : sp__law_alike K ([.bl i, .bl j] ++ []) H Q E := by
  subst e
  exact call_alike hS Sa.At.bl Sa.At.bl Sa.depth_bool q

def sp__law_number (K : PySem.W.Frag) : Sp := fun vs H Q _ => ∃ (a : Addr) (g : Int), vs = [.ref a, .int g] ∧ ∃ (L : List Fc) (M : List Cell) (ns : List Int), SA L M H ∧ At L M (fL a (ns.map V.int)) ∧ 0 ≤ g ∧ g ≤ ns.length ∧
  ∀ H', SA L M H' → Q (.int (sh ns g)) H'
theorem sc__law_number : FnScope ["_law_writes_here", "_law_gap_here"] ["_law_writes_here", "_law_gap_here"] (defScope s__law_number) := ⟨rfl, rfl, rfl, by decide +kernel, rfl, by decide +kernel, by decide +kernel⟩
abbrev Ok__law_number (P : Program) (w : World) (K : PySem.W.Frag) (mg : Str → Option Value) (base : Heap) : Prop := ∃ f fd, Fun K "_law_number" "_law_number" s__law_number f fd ∧ mg "_law_number" = some (.ref f) ∧ FnOk P w K mg base CX0 1 f fd ["_law_writes_here", "_law_gap_here"] (sp__law_number K)
theorem ok__law_number {P : Program} {w : World} {K : PySem.W.Frag} {mg : Str → Option Value} {base : Heap} (T : Top K mg) : Ok__law_number P w K mg base := by
  obtain ⟨f, fd, F, m⟩ := T.d__law_number
  refine ⟨f, fd, F, m, F.ok sc__law_number (fun vs H Q E h => by first | (obtain ⟨_, rfl, _⟩ := h; rfl) | (obtain ⟨_, _, rfl, _⟩ := h; rfl) | (obtain ⟨_, _, _, rfl, _⟩ := h; rfl) | (obtain ⟨_, _, _, _, rfl, _⟩ := h; rfl) | (obtain ⟨_, _, _, _, _, rfl, _⟩ := h; rfl) | (obtain ⟨_, _, _, _, _, _, rfl, _⟩ := h; rfl) | (obtain ⟨_, _, _, _, _, _, _, rfl, _⟩ := h; rfl) | (obtain ⟨_, _, _, _, _, _, _, _, rfl, _⟩ := h; rfl)) (fun cdv A outer s H vs Q E hr h => ?_)⟩
  refine ⟨_, (pss_one (ps_ret (pe_ifExp (pt_cmpR op_gt (pv 1) pe_int (nomark _)) (pe_ix ix_list (pv 0) (pe_op op_sub (pv 1) pe_int) (fun _ _ => rfl)) pe_int))), ?_⟩
  obtain ⟨a, g, rfl, L, M, ns, hS, hA, h0, h1, q⟩ := h
  walk_at "st"
  walk_at "go"
  refine Sa.if_dec (fun hg => ?_) (fun hg => ?_)
  · walk_at "go"
    have q1 := q _ hS
    rw [show sh ns g = ns.getD (g - 1).toNat 0 from if_neg (by omega)] at q1
    exact q1
  · walk_at "go"
    have q1 := q _ hS
    rw [show sh ns g = 0 from if_pos (by omega)] at q1
    exact q1

structure G_d14 where
  x : Option V
  y : Option V
def sp__law_due (K : PySem.W.Frag) : Sp := fun vs H Q _ => ∃ (a c : Addr) (door place : Int), vs = [.int door, .ref a, .int place, .ref c] ∧ ∃ (L : List Fc) (M : List Cell) (ns cs : List Int), SA L M H ∧ At L M (fL a (ns.map V.int)) ∧ At L M (fL c (cs.map V.int)) ∧ 0 ≤ door ∧ door ≤ 5 ∧ ns.length ≤ 1000 ∧ cs.length ≤ 1000 ∧ AnsK L M Q (ansW door ns place cs)
theorem sc__law_due : FnScope ["_law_door", "_law_some", "_law_place", "_law_line", "_law_wrong_here", "_law_spot", "_law_one"] ["_law_door", "_law_some", "_law_place", "_law_line"] (defScope s__law_due) := ⟨rfl, rfl, rfl, by decide +kernel, rfl, by decide +kernel, by decide +kernel⟩
abbrev Ok__law_due (P : Program) (w : World) (K : PySem.W.Frag) (mg : Str → Option Value) (base : Heap) : Prop := ∃ f fd, Fun K "_law_due" "_law_due" s__law_due f fd ∧ mg "_law_due" = some (.ref f) ∧ FnOk P w K mg base CX0 2 f fd ["_law_door", "_law_some", "_law_place", "_law_line"] (sp__law_due K)
theorem ok__law_due {P : Program} {w : World} {K : PySem.W.Frag} {mg : Str → Option Value} {base : Heap} (T : Top K mg) (h__law_number : Ok__law_number P w K mg base) (h__law_wrong : Ok__law_wrong P w K mg base) : Ok__law_due P w K mg base := by
  obtain ⟨f, fd, F, m⟩ := T.d__law_due
  obtain ⟨f__law_number, fd__law_number, F__law_number, m__law_number, G__law_number⟩ := h__law_number
  have b__law_number := F__law_number.binds (ps := ["_law_writes_here", "_law_gap_here"]) (fun _ _ _ _ _ _ us hl => match us, hl with | [_, _], _ => rfl)
  obtain ⟨f__law_wrong, fd__law_wrong, F__law_wrong, m__law_wrong, G__law_wrong⟩ := h__law_wrong
  have b__law_wrong := F__law_wrong.binds (ps := ["_law_writes_here"]) (fun _ _ _ _ _ _ us hl => match us, hl with | [_], _ => rfl)
  refine ⟨f, fd, F, m, F.ok sc__law_due (fun vs H Q E h => by first | (obtain ⟨_, rfl, _⟩ := h; rfl) | (obtain ⟨_, _, rfl, _⟩ := h; rfl) | (obtain ⟨_, _, _, rfl, _⟩ := h; rfl) | (obtain ⟨_, _, _, _, rfl, _⟩ := h; rfl) | (obtain ⟨_, _, _, _, _, rfl, _⟩ := h; rfl) | (obtain ⟨_, _, _, _, _, _, rfl, _⟩ := h; rfl) | (obtain ⟨_, _, _, _, _, _, _, rfl, _⟩ := h; rfl) | (obtain ⟨_, _, _, _, _, _, _, _, rfl, _⟩ := h; rfl)) (fun cdv A outer s H vs Q E hr h => ?_)⟩
  refine ⟨_, (pss_cons (ps_set (i := 4) sc__law_due.nd rfl (.inl rfl) (pe_call G__law_wrong (hr.mono (by first | decide | omega)) (by rfl) m__law_wrong F__law_wrong.kp b__law_wrong .nil pass0 (pa_cons (pv 1) pa_nil)))
      (pss_cons (ps_if (pt_cmpR Sa.op_notN (pv 4) pe_non (nomark _)) (pss_one (ps_ret (pe_tup (pa_cons (pe_lst (pa_cons pe_bl (pa_cons pe_bl (pa_cons pe_bl (pa_cons pe_bl pa_nil))))) (pa_cons (pv 4) pa_nil))))) pss_nil)
      (pss_cons (ps_if (PW.pt (pw_and (pt_cmpR op_eq (pv 0) pe_int (nomark _)) (pw_and1 (pt_not (pt_chain op_le op_lt pe_int (pv 2) (pe_callB Sa.call_len (by rfl) T.z_len boot_len (pa_cons (pv 1) pa_nil))))))) (pss_one (ps_ret (pe_tup (pa_cons (pe_lst (pa_cons pe_bl (pa_cons pe_bl (pa_cons pe_bl (pa_cons pe_bl pa_nil))))) (pa_cons (pv 2) pa_nil))))) pss_nil)
      (pss_cons (ps_if (PW.pt (pw_and (pt_cmpR op_eq (pv 0) pe_int (nomark _)) (pw_and1 (pt_cmpR op_ne (pe_callB Sa.call_len (by rfl) T.z_len boot_len (pa_cons (pv 3) pa_nil)) (pe_callB Sa.call_len (by rfl) T.z_len boot_len (pa_cons (pv 1) pa_nil)) (nomark _))))) (pss_one (ps_ret (pe_tup (pa_cons (pe_lst (pa_cons pe_bl (pa_cons pe_bl (pa_cons pe_bl (pa_cons pe_bl pa_nil))))) (pa_cons (pe_callTy Sa.call_list_of (by rfl) T.z_list (by decide +kernel) (pa_cons (pv 3) pa_nil)) pa_nil))))) pss_nil)
      (pss_cons (ps_if (pt_cmpR op_eq (pv 0) pe_int (nomark _)) (pss_one (ps_for PassesOwn.never rfl (pi_enum (by rfl) T.z_enumerate (pa_cons (pv 3) pa_nil)) (pg_tup rfl (pgs_cons (pg_name (i := 5) sc__law_due.nd rfl (.inl rfl)) (pgs_cons (pg_name (i := 6) sc__law_due.nd rfl (.inl rfl)) pgs_nil))) (pss_one (ps_if (PW.pt (pw_or (pt_not (pt_chain op_le op_le pe_int (pv 6) (pv 5))) (pw_or1 (pt_cmpR op_ne (pe_call G__law_number (hr.mono (by first | decide | omega)) (by rfl) m__law_number F__law_number.kp b__law_number .nil pass0 (pa_cons (pv 1) (pa_cons (pv 6) pa_nil))) (pe_op op_sub (pe_ix ix_list (pv 1) (pv 5) (fun _ _ => rfl)) pe_int) (nomark _))))) (pss_one (ps_ret (pe_tup (pa_cons (pe_lst (pa_cons pe_bl (pa_cons pe_bl (pa_cons pe_bl (pa_cons pe_bl pa_nil))))) (pa_cons (pv 6) pa_nil))))) pss_nil)))) pss_nil)
      (pss_one (ps_ret pe_non))))))), ?_⟩
  obtain ⟨a, c, door, place, rfl, L, M, ns, cs, hS, hA, hC, hd0, hd5, hl, hcl, q⟩ := h
  walk_at "st"
  walk_at "gn"
  refine ⟨a, ns, rfl, L, M, hS, hA, hl, fun H1 hS1 => ?_⟩
  clear hS
  walk_at "gn"
  cases hf : fw 0 0 ns with
  | some i =>
    rw [ans_fw hf] at q
    dsimp only [optV]
    refine Sa.if_dec (fun h => nomatch h) (fun _ => ?_)
    walk_at "gn"
    rename_i kl H2 hS2 t H3 hS3
    have hSf : SA (Sa.fU t [.ref kl, .int (i : Nat)] :: L) ((kl, .lst [.bl true, .bl false, .bl false, .bl false]) :: M) H3 := by walk_at "sa2"
    exact q t kl _ hSf
  | none =>
    have hP : Po ns := hf
    rw [ans_po hP] at q
    dsimp only [optV]
    refine Sa.if_dec (fun _ => ?_) (fun h => absurd rfl h)
    walk_at "gn"
    by_cases hd : door = 0
    · rw [if_pos hd] at q
      refine Sa.if_yes hd ?_
      walk_at "gn"
      have bad : ¬ (0 ≤ place ∧ place < ns.length) → AnsK L M Q (.num 1 place) := fun z => by rw [if_neg z] at q; exact q
      refine Sa.if_dec (fun h5 => ?_) (fun h5 => ?_)
      rotate_left
      · walk_at "gn"
        rename_i kl H2 hS2 t H3 hS3
        have hSf : SA (Sa.fU t [.ref kl, .int place] :: L) ((kl, .lst [.bl false, .bl true, .bl false, .bl false]) :: M) H3 := by walk_at "sa2"
        exact (bad (fun z => h5 z.1)) t kl _ hSf
      walk_at "gn"
      try simp only [List.length_map]
      refine Sa.if_dec (fun h6 => ?_) (fun h6 => ?_)
      rotate_left
      · walk_at "gn"
        rename_i kl H2 hS2 t H3 hS3
        have hSf : SA (Sa.fU t [.ref kl, .int place] :: L) ((kl, .lst [.bl false, .bl true, .bl false, .bl false]) :: M) H3 := by walk_at "sa2"
        exact (bad (fun z => h6 (by omega))) t kl _ hSf
      rw [if_pos ⟨h5, by omega⟩] at q
      walk_at "gn"
      refine Sa.if_no (by omega) ?_
      walk_at "gn"
      refine Sa.if_no (by omega) ?_
      walk_at "gn"
      exact q _ hS1
    · rw [if_neg hd] at q
      refine Sa.if_no hd ?_
      walk_at "gn"
      by_cases h5 : door = 5
      · rw [if_pos h5] at q
        refine Sa.if_yes h5 ?_
        walk_at "gn"
        try simp only [List.length_map]
        refine Sa.if_dec (fun h6 => ?_) (fun h6 => ?_)
        rotate_left
        · rw [if_neg (by omega)] at q
          walk_at "gn"
          rename_i kl H2 hS2 l H3 hS3 t H4 hS4
          have hSf : SA (Sa.fU t [.ref kl, .ref l] :: L) ((kl, .lst [.bl false, .bl false, .bl true, .bl false]) :: (l, .lst (cs.map V.int)) :: M) H4 := by walk_at "sa2"
          exact q t kl l _ hSf
        have h6 : cs.length = ns.length := by omega
        rw [if_pos h6] at q
        walk_at "gn"
        refine Sa.if_yes h5 ?_
        walk_at "gn"
        refine Sa.st_e1 hS1 (by walk_at "at") ?_
        refine Sa.lp_enum (γ := G_d14) (xs := cs.map V.int) (fun _ g => [some (.int door), some (.ref a), some (.int place), some (.ref c), some .non, g.x, g.y]) (fun _ _ => L) (fun _ _ => M) (fun i g => fwr ns 0 cs = fwr ns i (cs.drop i)) ⟨⟨none, none⟩, rfl, rfl, hS1⟩ (fun _ _ _ _ => by walk_at "at") ?_ ?_
        · rintro i x ⟨x1, x2⟩ H2 hx hR hS2
          try simp only at hR hS2
          clear hS1
          obtain ⟨g, hg, rfl⟩ := Sa.ints_at hx
          have hil := (List.getElem?_eq_some_iff.mp hg).1
          have hgd : cs.getD i 0 = g := by rw [List.getD_eq_getElem?_getD, hg]; rfl
          rw [Sa.drop_at hg, fwr_cons] at hR
          have bad : mrB ns i g ≠ true → AnsK L M Q (.num 2 g) := fun z => by
            rw [if_neg z] at hR
            rw [hR] at q
            rw [← hgd]
            exact q
          walk_at "nm"
          walk_at "gn"
          have mr : mrB ns i g = true → 0 ≤ g ∧ g ≤ i ∧ sh ns g = ns.getD ((i : Int)).toNat 0 - 1 := fun z => of_decide_eq_true z
          refine Sa.if_dec (fun g1 => ?_) (fun g1 => ?_)
          rotate_left
          · walk_at "gn"
            rename_i kl H5 hS5 t H6 hS6
            have hSf : SA (Sa.fU t [.ref kl, .int g] :: L) ((kl, .lst [.bl false, .bl false, .bl true, .bl false]) :: M) H6 := by walk_at "sa2"
            exact (bad (fun z => g1 (mr z).1)) t kl _ hSf
          walk_at "gn"
          refine Sa.if_dec (fun g2 => ?_) (fun g2 => ?_)
          rotate_left
          · walk_at "gn"
            rename_i kl H5 hS5 t H6 hS6
            have hSf : SA (Sa.fU t [.ref kl, .int g] :: L) ((kl, .lst [.bl false, .bl false, .bl true, .bl false]) :: M) H6 := by walk_at "sa2"
            exact (bad (fun z => g2 (mr z).2.1)) t kl _ hSf
          walk_at "gn"
          refine ⟨a, g, rfl, _, _, ns, hS2, by walk_at "at", g1, by omega, fun H3 hS3 => ?_⟩
          walk_at "gn"
          refine Sa.if_dec (fun g3 => ?_) (fun g3 => ?_)
          rotate_left
          · walk_at "gn"
            rename_i kl H5 hS5 t H6 hS6
            have hSf : SA (Sa.fU t [.ref kl, .int g] :: L) ((kl, .lst [.bl false, .bl false, .bl true, .bl false]) :: M) H6 := by walk_at "sa2"
            exact (bad (fun z => g3 (mr z).2.2)) t kl _ hSf
          walk_at "gn"
          rw [if_pos (show mrB ns i g = true from decide_eq_true ⟨g1, g2, g3⟩)] at hR
          exact ⟨⟨_, _⟩, rfl, hR, hS3⟩
        · rintro ⟨x1, x2⟩ H2 hR hS2
          try simp only at hR hS2
          clear hS1
          rw [List.length_map, List.drop_length] at hR
          rw [hR] at q
          walk_at "gn"
          exact q _ hS2
      · rw [if_neg h5] at q
        refine Sa.if_no h5 ?_
        walk_at "gn"
        refine Sa.if_no h5 ?_
        walk_at "gn"
        exact q _ hS1

def sp_number_in_gap (K : PySem.W.Frag) : Sp := fun vs H Q _ => ∃ (a : Addr) (g : Int), vs = [.ref a, .int g] ∧ ∃ (L : List Fc) (M : List Cell) (ns : List Int), SA L M H ∧ At L M (fL a (ns.map V.int)) ∧ 0 ≤ g ∧ g ≤ ns.length ∧
  ∀ H', SA L M H' → Q (.int (sh ns g)) H'
theorem sc_number_in_gap : FnScope ["writes", "gap"] ["writes", "gap"] (defScope s_number_in_gap) := ⟨rfl, rfl, rfl, by decide +kernel, rfl, by decide +kernel, by decide +kernel⟩
abbrev Ok_number_in_gap (P : Program) (w : World) (K : PySem.W.Frag) (mg : Str → Option Value) (base : Heap) : Prop := ∃ f fd, Fun K "number_in_gap" "number_in_gap" s_number_in_gap f fd ∧ mg "number_in_gap" = some (.ref f) ∧ FnOk P w K mg base CX0 1 f fd ["writes", "gap"] (sp_number_in_gap K)
theorem ok_number_in_gap {P : Program} {w : World} {K : PySem.W.Frag} {mg : Str → Option Value} {base : Heap} (T : Top K mg) : Ok_number_in_gap P w K mg base := by
  obtain ⟨f, fd, F, m⟩ := T.d_number_in_gap
  refine ⟨f, fd, F, m, F.ok sc_number_in_gap (fun vs H Q E h => by first | (obtain ⟨_, rfl, _⟩ := h; rfl) | (obtain ⟨_, _, rfl, _⟩ := h; rfl) | (obtain ⟨_, _, _, rfl, _⟩ := h; rfl) | (obtain ⟨_, _, _, _, rfl, _⟩ := h; rfl) | (obtain ⟨_, _, _, _, _, rfl, _⟩ := h; rfl) | (obtain ⟨_, _, _, _, _, _, rfl, _⟩ := h; rfl) | (obtain ⟨_, _, _, _, _, _, _, rfl, _⟩ := h; rfl) | (obtain ⟨_, _, _, _, _, _, _, _, rfl, _⟩ := h; rfl)) (fun cdv A outer s H vs Q E hr h => ?_)⟩
  refine ⟨_, (pss_cons (ps_if (pt_cmpR op_eq (pv 1) pe_int (nomark _)) (pss_one (ps_ret pe_int)) pss_nil)
      (pss_one (ps_ret (pe_ix ix_list (pv 0) (pe_op op_sub (pv 1) pe_int) (fun _ _ => rfl))))), ?_⟩
  obtain ⟨a, g, rfl, L, M, ns, hS, hA, h0, h1, q⟩ := h
  walk_at "st"
  walk_at "go"
  refine Sa.if_dec (fun hg => ?_) (fun hg => ?_)
  · walk_at "go"
    have q1 := q _ hS
    rw [show sh ns g = 0 from if_pos hg] at q1
    exact q1
  · walk_at "go"
    have q1 := q _ hS
    rw [show sh ns g = ns.getD (g - 1).toNat 0 from if_neg hg] at q1
    exact q1

def sp_gaps_of (K : PySem.W.Frag) : Sp := fun vs H Q _ => ∃ (a : Addr) (i : Int), vs = [.ref a, .int i] ∧ ∃ (L : List Fc) (M : List Cell) (ns : List Int), SA L M H ∧ At L M (fL a (ns.map V.int)) ∧ 0 ≤ i ∧ i < ns.length ∧ ns.length ≤ 1000 ∧
  ∀ f H', SA L ((f, .lst ((gp ns i).map V.int)) :: M) H' → Q (.ref f) H'
local macro_rules | `(tactic| walk_at "call") => `(tactic| first
  | ((with_reducible show sp_number_in_gap _ _ _ _ _); refine ⟨_, _, rfl, _, _, _, by assumption, by walk_at "at", by omega, by omega, fun _ _ => ?_⟩))
theorem sc_gaps_of : FnScope ["writes", "index", "gap"] ["writes", "index"] (defScope s_gaps_of) := ⟨rfl, rfl, rfl, by decide +kernel, rfl, by decide +kernel, by decide +kernel⟩
abbrev Ok_gaps_of (P : Program) (w : World) (K : PySem.W.Frag) (mg : Str → Option Value) (base : Heap) : Prop := ∃ f fd, Fun K "gaps_of" "gaps_of" s_gaps_of f fd ∧ mg "gaps_of" = some (.ref f) ∧ FnOk P w K mg base CX0 2 f fd ["writes", "index"] (sp_gaps_of K)
theorem ok_gaps_of {P : Program} {w : World} {K : PySem.W.Frag} {mg : Str → Option Value} {base : Heap} (T : Top K mg) (h_number_in_gap : Ok_number_in_gap P w K mg base) : Ok_gaps_of P w K mg base := by
  obtain ⟨f, fd, F, m⟩ := T.d_gaps_of
  obtain ⟨f_number_in_gap, fd_number_in_gap, F_number_in_gap, m_number_in_gap, G_number_in_gap⟩ := h_number_in_gap
  have b_number_in_gap := F_number_in_gap.binds (ps := ["writes", "gap"]) (fun _ _ _ _ _ _ us hl => match us, hl with | [_, _], _ => rfl)
  refine ⟨f, fd, F, m, F.ok sc_gaps_of (fun vs H Q E h => by first | (obtain ⟨_, rfl, _⟩ := h; rfl) | (obtain ⟨_, _, rfl, _⟩ := h; rfl) | (obtain ⟨_, _, _, rfl, _⟩ := h; rfl) | (obtain ⟨_, _, _, _, rfl, _⟩ := h; rfl) | (obtain ⟨_, _, _, _, _, rfl, _⟩ := h; rfl) | (obtain ⟨_, _, _, _, _, _, rfl, _⟩ := h; rfl) | (obtain ⟨_, _, _, _, _, _, _, rfl, _⟩ := h; rfl) | (obtain ⟨_, _, _, _, _, _, _, _, rfl, _⟩ := h; rfl)) (fun cdv A outer s H vs Q E hr h => ?_)⟩
  refine ⟨_, (pss_one (ps_ret (pe_lc (own := [("gap", 2)]) (g := (gName 2)) (by rfl) sc_gaps_of.nd (pi_range1 (by rfl) T.z_range (pa_cons (pe_op op_add (pv 1) pe_int) pa_nil)) (blkOk_by (N := ["writes", "index", "gap"]) (sc := defScope s_gaps_of) (by decide +kernel)) (fun _ _ _ _ _ => (pg_name (i := 2) sc_gaps_of.nd rfl (.inl rfl))) (fun _ _ _ _ _ => (pts_one (pt_cmpR op_eq (pe_call G_number_in_gap (hr.mono (by first | decide | omega)) (by rfl) m_number_in_gap F_number_in_gap.kp b_number_in_gap .nil pass0 (pa_cons (pv 0) (pa_cons (pv 2) pa_nil))) (pe_op op_sub (pe_ix (Sa.ix_listK (K := K) rfl) (pv 0) (pv 1) (fun _ _ => rfl)) pe_int) (nomark _)))) (fun _ _ _ _ _ => (pv 2))))), ?_⟩
  obtain ⟨a, i, rfl, L, M, ns, hS, hA, h0, h1, h2, q⟩ := h
  walk_at "st"
  walk_at "go"
  refine Sa.st_r1c (n := (i + 1).toNat) rfl (by omega) (by omega) ?_
  refine Sa.lcI_rng (fun g => decide (sh ns g = ns.getD i.toNat 0 - 1)) (fun g => g) (by assumption) (by omega) (fun x => rfl) (fun g Dl acc hg0 hg1 => ?_) (fun g Dl acc hg0 hg1 _ => ?_) (fun f H6 hS6 => ?_)
  · intro H6 hS6 Q1 q1
    walk_at "go"
    refine ⟨_, _, rfl, _, _, ns, by assumption, by walk_at "at", by omega, by omega, fun H7 hS7 => ?_⟩
    walk_at "go"
    exact q1 _ hS7
  · intro H6 hS6 Q1 q1
    walk_at "go"
    exact q1 _ hS6
  · rw [List.map_id'] at hS6
    exact q _ _ hS6

def sp_TallyError___init__ (K : PySem.W.Frag) : Sp := Sa.sp_eini K
theorem sc_TallyError___init__ : FnScope ["self", "value"] ["self", "value"] (defScope s_TallyError___init__) := ⟨rfl, rfl, rfl, by decide +kernel, rfl, by decide +kernel, by decide +kernel⟩
abbrev Ok_TallyError___init__ (P : Program) (w : World) (K : PySem.W.Frag) (mg : Str → Option Value) (base : Heap) : Prop := ∃ f fd, Fun K "__init__" "TallyError.__init__" s_TallyError___init__ f fd ∧ (PySem.W.typeIn K (.ref f) = some (.type "function") ∧ Sa.ErC K (Sa.clsOf mg "UnknownWrite") f ∧ Sa.ErC K (Sa.clsOf mg "NotPossible") f ∧ Sa.ErC K (Sa.clsOf mg "InvalidGap") f) ∧ FnOk P w K mg base CX0 1 f fd ["self", "value"] (sp_TallyError___init__ K)
theorem ok_TallyError___init__ {P : Program} {w : World} {K : PySem.W.Frag} {mg : Str → Option Value} {base : Heap} (T : Top K mg) : Ok_TallyError___init__ P w K mg base := by
  obtain ⟨f, fd, F, m⟩ := T.d_TallyError___init__
  refine ⟨f, fd, F, m, F.ok sc_TallyError___init__ (fun vs H Q E h => by first | (obtain ⟨_, rfl, _⟩ := h; rfl) | (obtain ⟨_, _, rfl, _⟩ := h; rfl) | (obtain ⟨_, _, _, rfl, _⟩ := h; rfl) | (obtain ⟨_, _, _, _, rfl, _⟩ := h; rfl) | (obtain ⟨_, _, _, _, _, rfl, _⟩ := h; rfl) | (obtain ⟨_, _, _, _, _, _, rfl, _⟩ := h; rfl) | (obtain ⟨_, _, _, _, _, _, _, rfl, _⟩ := h; rfl) | (obtain ⟨_, _, _, _, _, _, _, _, rfl, _⟩ := h; rfl)) (fun cdv A outer s H vs Q E hr h => ?_)⟩
  refine ⟨_, (pss_one (ps_ost (pv 0) (pv 1))), ?_⟩
  obtain ⟨a, C, fI, v, rfl, hE, ha, q⟩ := h
  walk_at "st"
  walk_at "go"
  exact ⟨a, C, rfl, hE.oex, hE.nov, .inl ⟨ha, fun dx hd hne => q dx hd hne⟩⟩

def sp_first_wrong (K : PySem.W.Frag) : Sp := fun vs H Q _ => ∃ (a : Addr) (ns : List Int), vs = [.ref a] ∧ ∃ L M, SA L M H ∧ At L M (fL a (ns.map V.int)) ∧
  ∀ H', SA L M H' → Q (optV (fw 0 0 ns)) H'
theorem sc_first_wrong : FnScope ["writes", "greatest", "index", "number"] ["writes"] (defScope s_first_wrong) := ⟨rfl, rfl, rfl, by decide +kernel, rfl, by decide +kernel, by decide +kernel⟩
abbrev Ok_first_wrong (P : Program) (w : World) (K : PySem.W.Frag) (mg : Str → Option Value) (base : Heap) : Prop := ∃ f fd, Fun K "first_wrong" "first_wrong" s_first_wrong f fd ∧ mg "first_wrong" = some (.ref f) ∧ FnOk P w K mg base CX0 1 f fd ["writes"] (sp_first_wrong K)
theorem ok_first_wrong {P : Program} {w : World} {K : PySem.W.Frag} {mg : Str → Option Value} {base : Heap} (T : Top K mg) : Ok_first_wrong P w K mg base := by
  obtain ⟨f, fd, F, m⟩ := T.d_first_wrong
  refine ⟨f, fd, F, m, F.ok sc_first_wrong (fun vs H Q E h => by first | (obtain ⟨_, rfl, _⟩ := h; rfl) | (obtain ⟨_, _, rfl, _⟩ := h; rfl) | (obtain ⟨_, _, _, rfl, _⟩ := h; rfl) | (obtain ⟨_, _, _, _, rfl, _⟩ := h; rfl) | (obtain ⟨_, _, _, _, _, rfl, _⟩ := h; rfl) | (obtain ⟨_, _, _, _, _, _, rfl, _⟩ := h; rfl) | (obtain ⟨_, _, _, _, _, _, _, rfl, _⟩ := h; rfl) | (obtain ⟨_, _, _, _, _, _, _, _, rfl, _⟩ := h; rfl)) (fun cdv A outer s H vs Q E hr h => ?_)⟩
  refine ⟨_, (pss_cons (ps_set (i := 1) sc_first_wrong.nd rfl (.inl rfl) pe_int)
      (pss_cons (ps_for PassesOwn.never rfl (pi_enum (by rfl) T.z_enumerate (pa_cons (pv 0) pa_nil)) (pg_tup rfl (pgs_cons (pg_name (i := 2) sc_first_wrong.nd rfl (.inl rfl)) (pgs_cons (pg_name (i := 3) sc_first_wrong.nd rfl (.inl rfl)) pgs_nil))) (pss_cons (ps_if (pt_not (pt_chain op_le op_le pe_int (pv 3) (pe_op op_add (pv 1) pe_int))) (pss_one (ps_ret (pv 2))) pss_nil)
      (pss_one (ps_set (i := 1) sc_first_wrong.nd rfl (.inl rfl) (pe_callB (Sa.call_max2 rfl) (by rfl) T.z_max (by decide +kernel) (pa_cons (pv 1) (pa_cons (pv 3) pa_nil)))))))
      (pss_one (ps_ret pe_non)))), ?_⟩
  obtain ⟨a, ns, rfl, L, M, hS, hA, q⟩ := h
  walk_at "st"
  walk_at "go"
  have hQ : At L M (fQ K a (ns.map V.int)) := Sa.At.q hA
  refine Sa.st_e1 hS hQ ?_
  refine Sa.lp_enum (γ := Int × Option V × Option V) (fun i g => [some (.ref a), some (.int g.1), g.2.1, g.2.2]) (fun _ _ => L) (fun _ _ => M) (fun i g => fw 0 0 ns = fw g.1 i (ns.drop i)) ⟨(0, none, none), rfl, rfl, hS⟩ (fun _ _ _ _ => hQ) ?_ ?_
  · intro i x g H hx hp hS
    obtain ⟨n, hn, rfl⟩ := Sa.ints_at hx
    have hd := Sa.drop_at hn
    walk_at "go"
    refine Sa.if_dec (fun h1 => ?_) (fun h1 => ?_)
    · walk_at "go"
      refine Sa.if_dec (fun h2 => ?_) (fun h2 => ?_)
      · walk_at "go"
        refine ⟨(max g.1 n, _, _), rfl, ?_, hS⟩
        rw [hp, hd]
        exact if_pos ⟨h1, h2⟩
      · walk_at "go"
        have e : fw 0 0 ns = some i := by
          rw [hp, hd]
          exact if_neg (fun h => h2 h.2)
        have q1 := q H hS
        rw [e] at q1
        exact q1
    · walk_at "go"
      have e : fw 0 0 ns = some i := by
        rw [hp, hd]
        exact if_neg (fun h => h1 h.1)
      have q1 := q H hS
      rw [e] at q1
      exact q1
  · intro g H hp hS
    walk_at "go"
    have e : fw 0 0 ns = none := by
      rw [hp, List.length_map, List.drop_length]
      rfl
    have q1 := q H hS
    rw [e] at q1
    exact q1

def sp_check_possible (K : PySem.W.Frag) (C : Addr) : Sp := fun vs H Q E => ∃ (a : Addr) (ns : List Int), vs = [.ref a] ∧ ∃ (L : List Fc) (M : List Cell), SA L M H ∧ At L M (fL a (ns.map V.int)) ∧ (∀ i, fw 0 0 ns = some i → ∀ d H', SA L ((d, Sa.erO (.int i)) :: M) H' → E (.ref C) (some d) H') ∧
  (Po ns → ∀ H', SA L M H' → Q .non H')
local macro_rules | `(tactic| walk_at "call") => `(tactic| first
  | ((with_reducible show sp_first_wrong _ _ _ _ _); refine ⟨_, _, rfl, _, _, by assumption, by walk_at "at", fun _ _ => ?_⟩))
theorem sc_check_possible : FnScope ["writes", "index"] ["writes"] (defScope s_check_possible) := ⟨rfl, rfl, rfl, by decide +kernel, rfl, by decide +kernel, by decide +kernel⟩
abbrev Ok_check_possible (P : Program) (w : World) (K : PySem.W.Frag) (mg : Str → Option Value) (base : Heap) : Prop := ∃ f fd, Fun K "check_possible" "check_possible" s_check_possible f fd ∧ mg "check_possible" = some (.ref f) ∧ FnOk P w K mg base (L2.CX P w) 3 f fd ["writes"] (sp_check_possible K (Sa.clsOf mg "NotPossible"))
theorem ok_check_possible {P : Program} {w : World} {K : PySem.W.Frag} {mg : Str → Option Value} {base : Heap} (T : Top K mg) (h_TallyError___init__ : Ok_TallyError___init__ P w K mg base) (h_first_wrong : Ok_first_wrong P w K mg base) : Ok_check_possible P w K mg base := by
  obtain ⟨f, fd, F, m⟩ := T.d_check_possible
  obtain ⟨f_TallyError___init__, fd_TallyError___init__, F_TallyError___init__, m_TallyError___init__, G_TallyError___init__⟩ := h_TallyError___init__
  obtain ⟨_, x_UnknownWrite, x_NotPossible, x_InvalidGap⟩ := id m_TallyError___init__
  have b_TallyError___init__ := F_TallyError___init__.binds (ps := ["self", "value"]) (fun _ _ _ _ _ _ us hl => match us, hl with | [_, _], _ => rfl)
  obtain ⟨f_first_wrong, fd_first_wrong, F_first_wrong, m_first_wrong, G_first_wrong⟩ := h_first_wrong
  have b_first_wrong := F_first_wrong.binds (ps := ["writes"]) (fun _ _ _ _ _ _ us hl => match us, hl with | [_], _ => rfl)
  refine ⟨f, fd, F, m, F.okX sc_check_possible (fun vs H Q E h => by first | (obtain ⟨_, rfl, _⟩ := h; rfl) | (obtain ⟨_, _, rfl, _⟩ := h; rfl) | (obtain ⟨_, _, _, rfl, _⟩ := h; rfl) | (obtain ⟨_, _, _, _, rfl, _⟩ := h; rfl) | (obtain ⟨_, _, _, _, _, rfl, _⟩ := h; rfl) | (obtain ⟨_, _, _, _, _, _, rfl, _⟩ := h; rfl) | (obtain ⟨_, _, _, _, _, _, _, rfl, _⟩ := h; rfl) | (obtain ⟨_, _, _, _, _, _, _, _, rfl, _⟩ := h; rfl)) (fun cdv A outer s H vs Q E hr h => ?_)⟩
  refine ⟨_, (pss_cons (ps_set (i := 1) sc_check_possible.nd rfl (.inl rfl) (pe_call G_first_wrong (hr.mono (by first | decide | omega)) (by rfl) m_first_wrong F_first_wrong.kp b_first_wrong .nil pass0 (pa_cons (pv 0) pa_nil)))
      (pss_one (ps_if (pt_cmpR Sa.op_notN (pv 1) pe_non (nomark _)) (pss_one (Sa.ps_rs rfl (takes_of rfl rfl rfl rfl) (pmk_oex x_NotPossible.oex x_NotPossible.ini m_TallyError___init__.1 G_TallyError___init__ (hr.mono (by first | decide | omega)) b_TallyError___init__ .nil pass0 (by rfl) T.g_NotPossible (pa_cons (pv 1) pa_nil)))) pss_nil))), ?_⟩
  obtain ⟨a, ns, rfl, L, M, hS, hA, q2, q⟩ := h
  walk_at "st"
  walk_at "gn"
  refine ⟨a, ns, rfl, L, M, hS, hA, fun H1 hS1 => ?_⟩
  cases hf : fw 0 0 ns with
  | none =>
    walk_at "gn"
    walk_at "yes"
    walk_at "gn"
    exact q hf _ hS1
  | some i =>
    walk_at "gn"
    refine Sa.if_dec (fun h => by cases h) (fun _ => ?_)
    walk_at "gn"
    walk_at "ras"
    exact q2 i hf _ _ (by assumption)

def sp_gaps (K : PySem.W.Frag) (C C2 : Addr) : Sp := fun vs H Q E => ∃ (a : Addr) (i : Int), vs = [.ref a, .int i] ∧ ∃ (L : List Fc) (M : List Cell) (ns : List Int), SA L M H ∧ At L M (fL a (ns.map V.int)) ∧ (∀ i, fw 0 0 ns = some i → ∀ d H', SA L ((d, Sa.erO (.int i)) :: M) H' → E (.ref C) (some d) H') ∧ (Po ns → ¬ (0 ≤ i ∧ i < ns.length) → ∀ d H', SA L ((d, Sa.erO (.int i)) :: M) H' → E (.ref C2) (some d) H') ∧ ns.length ≤ 1000 ∧
  (Po ns → 0 ≤ i → i < ns.length → ∀ f H', SA L ((f, .lst ((gp ns i).map V.int)) :: M) H' → Q (.ref f) H')
local macro_rules | `(tactic| walk_at "call") => `(tactic| first
  | ((with_reducible show sp_gaps_of _ _ _ _ _); refine ⟨_, _, rfl, _, _, _, by assumption, by walk_at "at", by omega, by omega, by omega, fun _ _ _ => ?_⟩))
theorem sc_gaps : FnScope ["writes", "index"] ["writes", "index"] (defScope s_gaps) := ⟨rfl, rfl, rfl, by decide +kernel, rfl, by decide +kernel, by decide +kernel⟩
abbrev Ok_gaps (P : Program) (w : World) (K : PySem.W.Frag) (mg : Str → Option Value) (base : Heap) : Prop := ∃ f fd, Fun K "gaps" "gaps" s_gaps f fd ∧ mg "gaps" = some (.ref f) ∧ FnOk P w K mg base (L2.CX P w) 4 f fd ["writes", "index"] (sp_gaps K (Sa.clsOf mg "NotPossible") (Sa.clsOf mg "UnknownWrite"))
theorem ok_gaps {P : Program} {w : World} {K : PySem.W.Frag} {mg : Str → Option Value} {base : Heap} (T : Top K mg) (h_gaps_of : Ok_gaps_of P w K mg base) (h_TallyError___init__ : Ok_TallyError___init__ P w K mg base) (h_check_possible : Ok_check_possible P w K mg base) : Ok_gaps P w K mg base := by
  obtain ⟨f, fd, F, m⟩ := T.d_gaps
  obtain ⟨f_gaps_of, fd_gaps_of, F_gaps_of, m_gaps_of, G_gaps_of⟩ := h_gaps_of
  have b_gaps_of := F_gaps_of.binds (ps := ["writes", "index"]) (fun _ _ _ _ _ _ us hl => match us, hl with | [_, _], _ => rfl)
  obtain ⟨f_TallyError___init__, fd_TallyError___init__, F_TallyError___init__, m_TallyError___init__, G_TallyError___init__⟩ := h_TallyError___init__
  obtain ⟨_, x_UnknownWrite, x_NotPossible, x_InvalidGap⟩ := id m_TallyError___init__
  have b_TallyError___init__ := F_TallyError___init__.binds (ps := ["self", "value"]) (fun _ _ _ _ _ _ us hl => match us, hl with | [_, _], _ => rfl)
  obtain ⟨f_check_possible, fd_check_possible, F_check_possible, m_check_possible, G_check_possible⟩ := h_check_possible
  have b_check_possible := F_check_possible.binds (ps := ["writes"]) (fun _ _ _ _ _ _ us hl => match us, hl with | [_], _ => rfl)
  refine ⟨f, fd, F, m, F.okX sc_gaps (fun vs H Q E h => by first | (obtain ⟨_, rfl, _⟩ := h; rfl) | (obtain ⟨_, _, rfl, _⟩ := h; rfl) | (obtain ⟨_, _, _, rfl, _⟩ := h; rfl) | (obtain ⟨_, _, _, _, rfl, _⟩ := h; rfl) | (obtain ⟨_, _, _, _, _, rfl, _⟩ := h; rfl) | (obtain ⟨_, _, _, _, _, _, rfl, _⟩ := h; rfl) | (obtain ⟨_, _, _, _, _, _, _, rfl, _⟩ := h; rfl) | (obtain ⟨_, _, _, _, _, _, _, _, rfl, _⟩ := h; rfl)) (fun cdv A outer s H vs Q E hr h => ?_)⟩
  refine ⟨_, (pss_cons (ps_expr (pe_call G_check_possible (hr.mono (by first | decide | omega)) (by rfl) m_check_possible F_check_possible.kp b_check_possible .nil (passes_call (takes_of rfl rfl rfl rfl) (fun _ _ _ _ z => z)) (pa_cons (pv 0) pa_nil)))
      (pss_cons (ps_if (pt_not (pt_chain op_le op_lt pe_int (pv 1) (pe_callB Sa.call_len (by rfl) T.z_len boot_len (pa_cons (pv 0) pa_nil)))) (pss_one (Sa.ps_rs rfl (takes_of rfl rfl rfl rfl) (pmk_oex x_UnknownWrite.oex x_UnknownWrite.ini m_TallyError___init__.1 G_TallyError___init__ (hr.mono (by first | decide | omega)) b_TallyError___init__ .nil pass0 (by rfl) T.g_UnknownWrite (pa_cons (pv 1) pa_nil)))) pss_nil)
      (pss_one (ps_ret (pe_call G_gaps_of (hr.mono (by first | decide | omega)) (by rfl) m_gaps_of F_gaps_of.kp b_gaps_of .nil pass0 (pa_cons (pv 0) (pa_cons (pv 1) pa_nil))))))), ?_⟩
  obtain ⟨a, i, rfl, L, M, ns, hS, hA, q2, q3, h2, q0⟩ := h
  walk_at "st"
  walk_at "gn"
  refine ⟨a, ns, rfl, L, M, hS, hA, q2, fun hP H1 hS1 => ?_⟩
  clear hS
  walk_at "gn"
  refine Sa.if_dec (fun h0 => ?_) (fun h0 => ?_)
  rotate_left
  · walk_at "gn"
    walk_at "ras"
    exact q3 hP (fun z => h0 z.1) _ _ (by assumption)
  walk_at "gn"
  try rw [List.length_map]
  refine Sa.if_dec (fun h1 => ?_) (fun h1 => ?_)
  rotate_left
  · walk_at "gn"
    walk_at "ras"
    exact q3 hP (fun z => h1 (by omega)) _ _ (by assumption)
  walk_at "gn"
  exact ⟨_, _, rfl, _, _, ns, by assumption, by walk_at "at", h0, by omega, h2, q0 hP h0 (by omega)⟩

structure G_latest where
  kvs : List (Key × V)
  x : Option V
  y : Option V
def sp_latest (K : PySem.W.Frag) (C : Addr) : Sp := fun vs H Q E => ∃ (a : Addr) (ns : List Int), vs = [.ref a] ∧ ∃ (L : List Fc) (M : List Cell), SA L M H ∧ At L M (fL a (ns.map V.int)) ∧ (∀ i, fw 0 0 ns = some i → ∀ d H', SA L ((d, Sa.erO (.int i)) :: M) H' → E (.ref C) (some d) H') ∧ ns.length ≤ 1000 ∧
  (Po ns → ∀ f H', SA L ((f, .lst ((lateL ns).map V.int)) :: M) H' → Q (.ref f) H')
theorem sc_latest : FnScope ["writes", "last_gap", "course", "index", "number"] ["writes"] (defScope s_latest) := ⟨rfl, rfl, rfl, by decide +kernel, rfl, by decide +kernel, by decide +kernel⟩
abbrev Ok_latest (P : Program) (w : World) (K : PySem.W.Frag) (mg : Str → Option Value) (base : Heap) : Prop := ∃ f fd, Fun K "latest" "latest" s_latest f fd ∧ mg "latest" = some (.ref f) ∧ FnOk P w K mg base (L2.CX P w) 4 f fd ["writes"] (sp_latest K (Sa.clsOf mg "NotPossible"))
theorem ok_latest {P : Program} {w : World} {K : PySem.W.Frag} {mg : Str → Option Value} {base : Heap} (T : Top K mg) (h_check_possible : Ok_check_possible P w K mg base) : Ok_latest P w K mg base := by
  obtain ⟨f, fd, F, m⟩ := T.d_latest
  obtain ⟨f_check_possible, fd_check_possible, F_check_possible, m_check_possible, G_check_possible⟩ := h_check_possible
  have b_check_possible := F_check_possible.binds (ps := ["writes"]) (fun _ _ _ _ _ _ us hl => match us, hl with | [_], _ => rfl)
  refine ⟨f, fd, F, m, F.okX sc_latest (fun vs H Q E h => by first | (obtain ⟨_, rfl, _⟩ := h; rfl) | (obtain ⟨_, _, rfl, _⟩ := h; rfl) | (obtain ⟨_, _, _, rfl, _⟩ := h; rfl) | (obtain ⟨_, _, _, _, rfl, _⟩ := h; rfl) | (obtain ⟨_, _, _, _, _, rfl, _⟩ := h; rfl) | (obtain ⟨_, _, _, _, _, _, rfl, _⟩ := h; rfl) | (obtain ⟨_, _, _, _, _, _, _, rfl, _⟩ := h; rfl) | (obtain ⟨_, _, _, _, _, _, _, _, rfl, _⟩ := h; rfl)) (fun cdv A outer s H vs Q E hr h => ?_)⟩
  refine ⟨_, (pss_cons (ps_expr (pe_call G_check_possible (hr.mono (by first | decide | omega)) (by rfl) m_check_possible F_check_possible.kp b_check_possible .nil (passes_call (takes_of rfl rfl rfl rfl) (fun _ _ _ _ z => z)) (pa_cons (pv 0) pa_nil)))
      (pss_cons (ps_set (i := 1) sc_latest.nd rfl (.inl rfl) (pe_disp (pps_cons pe_int pe_int pps_nil) (by rfl) (by rfl) (fun z => by cases z) (by decide)))
      (pss_cons (ps_set (i := 2) sc_latest.nd rfl (.inl rfl) (pe_lst pa_nil))
      (pss_cons (ps_for (passes_of rfl) rfl (pi_enum (by rfl) T.z_enumerate (pa_cons (pv 0) pa_nil)) (pg_tup rfl (pgs_cons (pg_name (i := 3) sc_latest.nd rfl (.inl rfl)) (pgs_cons (pg_name (i := 4) sc_latest.nd rfl (.inl rfl)) pgs_nil))) (pss_cons (ps_expr (pe_bm PySem.F.plainAttrs_list PySem.F.slot_list_append PySem.F.type_list_append mt_append (pv 2) (pa_cons (pe_dget (hu_of hr) (pv 1) (pe_op op_sub (pv 4) pe_int) (fun _ _ => rfl)) pa_nil)))
      (pss_one (ps_dput (hu_of hr) (pv 1) (pv 4) (pe_op op_add (pv 3) pe_int) rfl))))
      (pss_one (ps_ret (pv 2))))))), ?_⟩
  obtain ⟨a, ns, rfl, L, M, hS, hA, q2, hl, q0⟩ := h
  walk_at "st"
  walk_at "gn"
  refine ⟨a, ns, rfl, L, M, hS, hA, q2, fun hP H1 hS1 => ?_⟩
  have q := q0 hP
  clear hS
  walk_at "gn"
  rename_i dd _ _ _ _ co Hc hSc
  clear hS1
  have gs : ∀ i : Nat, (List.range (i + 1)).map (fun j => lg ns j (ns.getD j 0 - 1)) = (List.range i).map (fun j => lg ns j (ns.getD j 0 - 1)) ++ [lg ns i (ns.getD i 0 - 1)] := fun i => by
    rw [List.range_succ, List.map_append]
    rfl
  refine Sa.st_e1 hSc (by walk_at "at") ?_
  refine Sa.lp_enum (γ := G_latest) (fun i g => [some (.ref a), some (.ref dd), some (.ref co), g.x, g.y]) (fun _ _ => L) (fun i g => (co, .lst (((List.range i).map fun j => lg ns j (ns.getD j 0 - 1)).map V.int)) :: (dd, .dK g.kvs) :: M)
    (fun i g => g.kvs.length ≤ i + 1 ∧ ∀ v, Sa.dv g.kvs v = if hasg ns i v = true then some (.int (lg ns i v)) else none) ⟨⟨_, none, none⟩, rfl, ⟨Sa.dput_len [] 0 _, fun v => by
      show Sa.dv (Sa.dput [] 0 (.int 0)) v = _
      rw [Sa.dv_put, Sa.dv_nil]
      show (if v = 0 then _ else _) = (if decide (v = 0) = true then _ else _)
      by_cases h : v = 0
      · rw [if_pos h, if_pos (decide_eq_true h)]
        rfl
      · rw [if_neg h, if_neg (by rw [decide_eq_false h]; decide)]⟩, hSc⟩ (fun i g _ _ => by walk_at "at") ?_ ?_
  · rintro i y ⟨kvs, x1, x2⟩ H2 hy ⟨hk, hd⟩ hS2
    simp only at hk hd hS2
    clear hSc
    obtain ⟨n, hn, rfl⟩ := Sa.ints_at hy
    have hil := (List.getElem?_eq_some_iff.mp hn).1
    have en : ns.getD i 0 = n := by rw [List.getD_eq_getElem?_getD, hn]; rfl
    have hh := po_hasg hP hil
    have hv : Sa.dv kvs (n - 1) = some (.int (lg ns i (n - 1))) := by
      rw [hd, if_pos (by rw [← en]; exact hh)]
    have hlr : ((List.range i).map fun j => lg ns j (ns.getD j 0 - 1)).length = i := by rw [List.length_map, List.length_range]
    walk_at "nm"
    walk_at "gn"
    have hdl := Sa.dput_len kvs n (.int ((i : Int) + 1))
    refine ⟨⟨Sa.dput kvs n (.int ((i : Int) + 1)), _, _⟩, rfl, ⟨?_, ?_⟩, ?_⟩
    · show (Sa.dput kvs n (.int ((i : Int) + 1))).length ≤ i + 1 + 1
      omega
    · intro v
      show Sa.dv (Sa.dput kvs n (.int ((i : Int) + 1))) v = if (hasg ns i v || decide (v = sh ns ((i : Int) + 1))) = true then some (.int (if v = sh ns ((i : Int) + 1) then (i : Int) + 1 else lg ns i v)) else none
      rw [Sa.dv_put, sh_next, en, hd]
      by_cases h : v = n
      · rw [if_pos h, if_pos h, if_pos (by rw [decide_eq_true h, Bool.or_true])]
      · rw [if_neg h, if_neg h, decide_eq_false h, Bool.or_false]
    · show SA L ((co, .lst (((List.range (i + 1)).map fun j => lg ns j (ns.getD j 0 - 1)).map V.int)) :: (dd, .dK (Sa.dput kvs n (.int ((i : Int) + 1)))) :: M) _
      rw [gs, en]
      walk_at "sa2"
  · rintro ⟨kvs, x1, x2⟩ H2 ⟨hk, hd⟩ hS2
    simp only [List.length_map] at hk hd hS2
    clear hSc
    walk_at "gn"
    exact q co _ (by
      show SA L ((co, .lst (((List.range ns.length).map fun j => lg ns j (ns.getD j 0 - 1)).map V.int)) :: M) _
      walk_at "sa2")

structure G_earliest where
  kvs : List (Key × V)
  x : Option V
  y : Option V
def sp_earliest (K : PySem.W.Frag) (C : Addr) : Sp := fun vs H Q E => ∃ (a : Addr) (ns : List Int), vs = [.ref a] ∧ ∃ (L : List Fc) (M : List Cell), SA L M H ∧ At L M (fL a (ns.map V.int)) ∧ (∀ i, fw 0 0 ns = some i → ∀ d H', SA L ((d, Sa.erO (.int i)) :: M) H' → E (.ref C) (some d) H') ∧ ns.length ≤ 1000 ∧
  (Po ns → ∀ f H', SA L ((f, .lst ((earlyL ns).map V.int)) :: M) H' → Q (.ref f) H')
theorem sc_earliest : FnScope ["writes", "first_gap", "course", "index", "number"] ["writes"] (defScope s_earliest) := ⟨rfl, rfl, rfl, by decide +kernel, rfl, by decide +kernel, by decide +kernel⟩
abbrev Ok_earliest (P : Program) (w : World) (K : PySem.W.Frag) (mg : Str → Option Value) (base : Heap) : Prop := ∃ f fd, Fun K "earliest" "earliest" s_earliest f fd ∧ mg "earliest" = some (.ref f) ∧ FnOk P w K mg base (L2.CX P w) 4 f fd ["writes"] (sp_earliest K (Sa.clsOf mg "NotPossible"))
theorem ok_earliest {P : Program} {w : World} {K : PySem.W.Frag} {mg : Str → Option Value} {base : Heap} (T : Top K mg) (h_check_possible : Ok_check_possible P w K mg base) : Ok_earliest P w K mg base := by
  obtain ⟨f, fd, F, m⟩ := T.d_earliest
  obtain ⟨f_check_possible, fd_check_possible, F_check_possible, m_check_possible, G_check_possible⟩ := h_check_possible
  have b_check_possible := F_check_possible.binds (ps := ["writes"]) (fun _ _ _ _ _ _ us hl => match us, hl with | [_], _ => rfl)
  refine ⟨f, fd, F, m, F.okX sc_earliest (fun vs H Q E h => by first | (obtain ⟨_, rfl, _⟩ := h; rfl) | (obtain ⟨_, _, rfl, _⟩ := h; rfl) | (obtain ⟨_, _, _, rfl, _⟩ := h; rfl) | (obtain ⟨_, _, _, _, rfl, _⟩ := h; rfl) | (obtain ⟨_, _, _, _, _, rfl, _⟩ := h; rfl) | (obtain ⟨_, _, _, _, _, _, rfl, _⟩ := h; rfl) | (obtain ⟨_, _, _, _, _, _, _, rfl, _⟩ := h; rfl) | (obtain ⟨_, _, _, _, _, _, _, _, rfl, _⟩ := h; rfl)) (fun cdv A outer s H vs Q E hr h => ?_)⟩
  refine ⟨_, (pss_cons (ps_expr (pe_call G_check_possible (hr.mono (by first | decide | omega)) (by rfl) m_check_possible F_check_possible.kp b_check_possible .nil (passes_call (takes_of rfl rfl rfl rfl) (fun _ _ _ _ z => z)) (pa_cons (pv 0) pa_nil)))
      (pss_cons (ps_set (i := 1) sc_earliest.nd rfl (.inl rfl) (pe_disp (pps_cons pe_int pe_int pps_nil) (by rfl) (by rfl) (fun z => by cases z) (by decide)))
      (pss_cons (ps_set (i := 2) sc_earliest.nd rfl (.inl rfl) (pe_lst pa_nil))
      (pss_cons (ps_for (passes_of rfl) rfl (pi_enum (by rfl) T.z_enumerate (pa_cons (pv 0) pa_nil)) (pg_tup rfl (pgs_cons (pg_name (i := 3) sc_earliest.nd rfl (.inl rfl)) (pgs_cons (pg_name (i := 4) sc_earliest.nd rfl (.inl rfl)) pgs_nil))) (pss_cons (ps_expr (pe_bm PySem.F.plainAttrs_list PySem.F.slot_list_append PySem.F.type_list_append mt_append (pv 2) (pa_cons (pe_dget (hu_of hr) (pv 1) (pe_op op_sub (pv 4) pe_int) (fun _ _ => rfl)) pa_nil)))
      (pss_one (ps_expr (pe_dsetd (pv 1) (pv 4) (pe_op op_add (pv 3) pe_int) ⟨rfl, by rfl, rfl, rfl⟩)))))
      (pss_one (ps_ret (pv 2))))))), ?_⟩
  obtain ⟨a, ns, rfl, L, M, hS, hA, q2, hl, q0⟩ := h
  walk_at "st"
  walk_at "gn"
  refine ⟨a, ns, rfl, L, M, hS, hA, q2, fun hP H1 hS1 => ?_⟩
  have q := q0 hP
  clear hS
  walk_at "gn"
  rename_i dd _ _ _ _ co Hc hSc
  clear hS1
  have gs : ∀ i : Nat, (List.range (i + 1)).map (fun j => eg ns j (ns.getD j 0 - 1)) = (List.range i).map (fun j => eg ns j (ns.getD j 0 - 1)) ++ [eg ns i (ns.getD i 0 - 1)] := fun i => by
    rw [List.range_succ, List.map_append]
    rfl
  refine Sa.st_e1 hSc (by walk_at "at") ?_
  refine Sa.lp_enum (γ := G_earliest) (fun i g => [some (.ref a), some (.ref dd), some (.ref co), g.x, g.y]) (fun _ _ => L) (fun i g => (co, .lst (((List.range i).map fun j => eg ns j (ns.getD j 0 - 1)).map V.int)) :: (dd, .dK g.kvs) :: M)
    (fun i g => g.kvs.length ≤ i + 1 ∧ ∀ v, Sa.dv g.kvs v = if hasg ns i v = true then some (.int (eg ns i v)) else none) ⟨⟨_, none, none⟩, rfl, ⟨Sa.dput_len [] 0 _, fun v => by
      show Sa.dv (Sa.dput [] 0 (.int 0)) v = _
      rw [Sa.dv_put, Sa.dv_nil]
      show (if v = 0 then _ else _) = (if decide (v = 0) = true then _ else _)
      by_cases h : v = 0
      · rw [if_pos h, if_pos (decide_eq_true h)]
        rfl
      · rw [if_neg h, if_neg (by rw [decide_eq_false h]; decide)]⟩, hSc⟩ (fun i g _ _ => by walk_at "at") ?_ ?_
  · rintro i y ⟨kvs, x1, x2⟩ H2 hy ⟨hk, hd⟩ hS2
    simp only at hk hd hS2
    clear hSc
    obtain ⟨n, hn, rfl⟩ := Sa.ints_at hy
    have hil := (List.getElem?_eq_some_iff.mp hn).1
    have en : ns.getD i 0 = n := by rw [List.getD_eq_getElem?_getD, hn]; rfl
    have hh := po_hasg hP hil
    have hv : Sa.dv kvs (n - 1) = some (.int (eg ns i (n - 1))) := by
      rw [hd, if_pos (by rw [← en]; exact hh)]
    have hlr : ((List.range i).map fun j => eg ns j (ns.getD j 0 - 1)).length = i := by rw [List.length_map, List.length_range]
    walk_at "nm"
    walk_at "gn"
    refine Sa.st_DSb (n := n) (Sa.SA.front (by assumption) (by walk_at "del")) (by omega) (fun w kvs' H3 hw hk3 hS3 => ?_)
    walk_at "gn"
    refine ⟨⟨kvs', _, _⟩, rfl, ⟨?_, ?_⟩, ?_⟩
    · show kvs'.length ≤ i + 1 + 1
      omega
    · intro v
      show Sa.dv kvs' v = if (hasg ns i v || decide (v = sh ns ((i : Int) + 1))) = true then some (.int (if hasg ns i v = true then eg ns i v else (i : Int) + 1)) else none
      rw [hw, sh_next, en]
      by_cases h : v = n
      · subst h
        rw [if_pos rfl, hd]
        cases hasg ns i v with
        | true => simp
        | false => simp
      · rw [if_neg h, hd]
        cases hasg ns i v with
        | true => simp
        | false => simp [h]
    · show SA L ((co, .lst (((List.range (i + 1)).map fun j => eg ns j (ns.getD j 0 - 1)).map V.int)) :: (dd, .dK kvs') :: M) _
      rw [gs, en]
      walk_at "sa2"
  · rintro ⟨kvs, x1, x2⟩ H2 ⟨hk, hd⟩ hS2
    simp only [List.length_map] at hk hd hS2
    clear hSc
    walk_at "gn"
    exact q co _ (by
      show SA L ((co, .lst (((List.range ns.length).map fun j => eg ns j (ns.getD j 0 - 1)).map V.int)) :: M) _
      walk_at "sa2")

structure G_ways where
  kvs : List (Key × V)
  x : Option V
def sp_ways (K : PySem.W.Frag) (C : Addr) : Sp := fun vs H Q E => ∃ (a : Addr) (ns : List Int), vs = [.ref a] ∧ ∃ (L : List Fc) (M : List Cell), SA L M H ∧ At L M (fL a (ns.map V.int)) ∧ (∀ i, fw 0 0 ns = some i → ∀ d H', SA L ((d, Sa.erO (.int i)) :: M) H' → E (.ref C) (some d) H') ∧ ns.length ≤ 1000 ∧
  (Po ns → ∀ H', SA L M H' → Q (.int (wayN ns ns.length)) H')
theorem sc_ways : FnScope ["writes", "gaps_with", "product_of_all", "number"] ["writes"] (defScope s_ways) := ⟨rfl, rfl, rfl, by decide +kernel, rfl, by decide +kernel, by decide +kernel⟩
abbrev Ok_ways (P : Program) (w : World) (K : PySem.W.Frag) (mg : Str → Option Value) (base : Heap) : Prop := ∃ f fd, Fun K "ways" "ways" s_ways f fd ∧ mg "ways" = some (.ref f) ∧ FnOk P w K mg base (L2.CX P w) 4 f fd ["writes"] (sp_ways K (Sa.clsOf mg "NotPossible"))
theorem ok_ways {P : Program} {w : World} {K : PySem.W.Frag} {mg : Str → Option Value} {base : Heap} (T : Top K mg) (h_check_possible : Ok_check_possible P w K mg base) : Ok_ways P w K mg base := by
  obtain ⟨f, fd, F, m⟩ := T.d_ways
  obtain ⟨f_check_possible, fd_check_possible, F_check_possible, m_check_possible, G_check_possible⟩ := h_check_possible
  have b_check_possible := F_check_possible.binds (ps := ["writes"]) (fun _ _ _ _ _ _ us hl => match us, hl with | [_], _ => rfl)
  refine ⟨f, fd, F, m, F.okX sc_ways (fun vs H Q E h => by first | (obtain ⟨_, rfl, _⟩ := h; rfl) | (obtain ⟨_, _, rfl, _⟩ := h; rfl) | (obtain ⟨_, _, _, rfl, _⟩ := h; rfl) | (obtain ⟨_, _, _, _, rfl, _⟩ := h; rfl) | (obtain ⟨_, _, _, _, _, rfl, _⟩ := h; rfl) | (obtain ⟨_, _, _, _, _, _, rfl, _⟩ := h; rfl) | (obtain ⟨_, _, _, _, _, _, _, rfl, _⟩ := h; rfl) | (obtain ⟨_, _, _, _, _, _, _, _, rfl, _⟩ := h; rfl)) (fun cdv A outer s H vs Q E hr h => ?_)⟩
  refine ⟨_, (pss_cons (ps_expr (pe_call G_check_possible (hr.mono (by first | decide | omega)) (by rfl) m_check_possible F_check_possible.kp b_check_possible .nil (passes_call (takes_of rfl rfl rfl rfl) (fun _ _ _ _ z => z)) (pa_cons (pv 0) pa_nil)))
      (pss_cons (ps_set (i := 1) sc_ways.nd rfl (.inl rfl) (pe_disp (pps_cons pe_int pe_int pps_nil) (by rfl) (by rfl) (fun z => by cases z) (by decide)))
      (pss_cons (ps_set (i := 2) sc_ways.nd rfl (.inl rfl) pe_int)
      (pss_cons (ps_for (passes_of rfl) rfl (pi_list (pv 0)) (pg_name (i := 3) sc_ways.nd rfl (.inl rfl)) (pss_cons (ps_aug (i := 2) sc_ways.nd rfl (.inl rfl) (pe_dget (hu_of hr) (pv 1) (pe_op op_sub (pv 3) pe_int) (fun _ _ => rfl)) Sa.ip_mulW)
      (pss_one (ps_dput (hu_of hr) (pv 1) (pv 3) (pe_op op_add (pe_dget2 (hu_of hr) (pv 1) (pv 3) pe_int ⟨rfl, by rfl, rfl, rfl⟩) pe_int) rfl))))
      (pss_one (ps_ret (pv 2))))))), ?_⟩
  obtain ⟨a, ns, rfl, L, M, hS, hA, q2, hl, q0⟩ := h
  walk_at "st"
  walk_at "gn"
  refine ⟨a, ns, rfl, L, M, hS, hA, q2, fun hP H0 hS0 => ?_⟩
  have q := q0 hP
  walk_at "au"
  rename_i gw H1 hS1 H2 hS2
  clear hS hS0 hS1
  refine Sa.st_l1 hS2 (by walk_at "at") ?_
  refine Sa.lp_list (γ := G_ways) (fun i g => [some (.ref a), some (.ref gw), some (.int (wayN ns i)), g.x]) (fun _ _ => L) (fun i g => (gw, .dK g.kvs) :: M)
    (fun i g => g.kvs.length ≤ i + 1 ∧ ∀ v, Sa.dv g.kvs v = if hasg ns i v = true then some (.int (cnt ns i v : Nat)) else none) ⟨⟨_, none⟩, rfl, ⟨Sa.dput_len [] 0 _, fun v => by
      show Sa.dv (Sa.dput [] 0 (.int 1)) v = _
      rw [Sa.dv_put, Sa.dv_nil, cnt_zero]
      show (if v = 0 then _ else _) = (if decide (v = 0) = true then _ else _)
      by_cases h : v = 0
      · rw [if_pos h, if_pos (decide_eq_true h), if_pos h]
        rfl
      · rw [if_neg h, if_neg (by rw [decide_eq_false h]; decide)]⟩, hS2⟩ (fun i g _ _ => by walk_at "at") ?_ ?_
  · rintro i y ⟨kvs, x⟩ H3 hy ⟨hk, hd⟩ hS3
    simp only at hk hd hS3
    clear hS2
    obtain ⟨n, hn, rfl⟩ := Sa.ints_at hy
    have hil := (List.getElem?_eq_some_iff.mp hn).1
    have en : ns.getD i 0 = n := by rw [List.getD_eq_getElem?_getD, hn]; rfl
    have hh := po_hasg hP hil
    rw [en] at hh
    have hv : Sa.dv kvs (n - 1) = some (.int (cnt ns i (n - 1) : Nat)) := by
      rw [hd, if_pos hh]
    have hc1 := cnt_le (v := n - 1) (Nat.le_of_lt hil)
    have hc2 : (Sa.dv kvs n).getD (.int 0) = .int (cnt ns i n : Nat) := by
      rw [hd]
      cases e : hasg ns i n with
      | true => rfl
      | false => rw [cnt_no (by omega) e]; rfl
    walk_at "nm"
    walk_at "au"
    have hdl := Sa.dput_len kvs n (.int ((cnt ns i n : Nat) + 1))
    refine ⟨⟨Sa.dput kvs n (.int ((cnt ns i n : Nat) + 1)), some (.int n)⟩, ?_, ⟨?_, ?_⟩, ?_⟩
    · show _ = [some (V.ref a), some (V.ref gw), some (V.int (wayN ns i * (cnt ns i (ns.getD i 0 - 1) : Nat))), some (V.int n)]
      rw [en]
      rfl
    · show (Sa.dput kvs n _).length ≤ i + 1 + 1
      omega
    · intro v
      show Sa.dv (Sa.dput kvs n (.int ((cnt ns i n : Nat) + 1))) v = if (hasg ns i v || decide (v = sh ns ((i : Int) + 1))) = true then some (.int (cnt ns (i + 1) v : Nat)) else none
      rw [Sa.dv_put, sh_next, en, hd, cnt_succ hil, en]
      by_cases h : v = n
      · subst h
        rw [if_pos rfl, decide_eq_true rfl, Bool.or_true, if_pos rfl, if_pos rfl]
        rfl
      · rw [if_neg h, if_neg h, decide_eq_false h, Bool.or_false]
        rfl
    · walk_at "sa2"
  · rintro ⟨kvs, x⟩ H3 ⟨hk, hd⟩ hS3
    try simp only [List.length_map] at hk hd hS3
    clear hS2
    rw [List.length_map]
    walk_at "au"
    exact q _ (by walk_at "sa2")

structure G_co where
  f : Addr
  rows : List Row
  x : Option V
  y : Option V
abbrev refs (rows : List Row) : List V := rows.map fun r => V.ref r.1
def sp_courses (K : PySem.W.Frag) (C : Addr) : Sp := fun vs H Q E => ∃ (a : Addr) (ns : List Int), vs = [.ref a] ∧ ∃ (L : List Fc) (M : List Cell), SA L M H ∧ At L M (fL a (ns.map V.int)) ∧ (∀ i, fw 0 0 ns = some i → ∀ d H', SA L ((d, Sa.erO (.int i)) :: M) H' → E (.ref C) (some d) H') ∧ ns.length ≤ 8 ∧
  (Po ns → ∀ f rows H', rows.map Prod.snd = CO ns ns.length → SA L ((f, .lst (refs rows)) :: (rows.map rowC ++ M)) H' → Q (.ref f) H')
local macro_rules | `(tactic| walk_at "call") => `(tactic| first
  | ((with_reducible show sp_gaps_of _ _ _ _ _); refine ⟨_, _, rfl, _, _, _, by assumption, by walk_at "at", by omega, by omega, by omega, fun _ _ _ => ?_⟩))
theorem sc_courses : FnScope ["writes", "found", "index", "choices", "course", "gap"] ["writes"] (defScope s_courses) := ⟨rfl, rfl, rfl, by decide +kernel, rfl, by decide +kernel, by decide +kernel⟩
abbrev Ok_courses (P : Program) (w : World) (K : PySem.W.Frag) (mg : Str → Option Value) (base : Heap) : Prop := ∃ f fd, Fun K "courses" "courses" s_courses f fd ∧ mg "courses" = some (.ref f) ∧ FnOk P w K mg base (L2.CX P w) 4 f fd ["writes"] (sp_courses K (Sa.clsOf mg "NotPossible"))
theorem ok_courses {P : Program} {w : World} {K : PySem.W.Frag} {mg : Str → Option Value} {base : Heap} (T : Top K mg) (h_gaps_of : Ok_gaps_of P w K mg base) (h_check_possible : Ok_check_possible P w K mg base) : Ok_courses P w K mg base := by
  obtain ⟨f, fd, F, m⟩ := T.d_courses
  obtain ⟨f_gaps_of, fd_gaps_of, F_gaps_of, m_gaps_of, G_gaps_of⟩ := h_gaps_of
  have b_gaps_of := F_gaps_of.binds (ps := ["writes", "index"]) (fun _ _ _ _ _ _ us hl => match us, hl with | [_, _], _ => rfl)
  obtain ⟨f_check_possible, fd_check_possible, F_check_possible, m_check_possible, G_check_possible⟩ := h_check_possible
  have b_check_possible := F_check_possible.binds (ps := ["writes"]) (fun _ _ _ _ _ _ us hl => match us, hl with | [_], _ => rfl)
  refine ⟨f, fd, F, m, F.okX sc_courses (fun vs H Q E h => by first | (obtain ⟨_, rfl, _⟩ := h; rfl) | (obtain ⟨_, _, rfl, _⟩ := h; rfl) | (obtain ⟨_, _, _, rfl, _⟩ := h; rfl) | (obtain ⟨_, _, _, _, rfl, _⟩ := h; rfl) | (obtain ⟨_, _, _, _, _, rfl, _⟩ := h; rfl) | (obtain ⟨_, _, _, _, _, _, rfl, _⟩ := h; rfl) | (obtain ⟨_, _, _, _, _, _, _, rfl, _⟩ := h; rfl) | (obtain ⟨_, _, _, _, _, _, _, _, rfl, _⟩ := h; rfl)) (fun cdv A outer s H vs Q E hr h => ?_)⟩
  refine ⟨_, (pss_cons (ps_expr (pe_call G_check_possible (hr.mono (by first | decide | omega)) (by rfl) m_check_possible F_check_possible.kp b_check_possible .nil (passes_call (takes_of rfl rfl rfl rfl) (fun _ _ _ _ z => z)) (pa_cons (pv 0) pa_nil)))
      (pss_cons (ps_set (i := 1) sc_courses.nd rfl (.inl rfl) (pe_lst (pa_cons (pe_lst pa_nil) pa_nil)))
      (pss_cons (ps_for (passes_of rfl) rfl (pi_range1 (by rfl) T.z_range (pa_cons (pe_callB Sa.call_len (by rfl) T.z_len boot_len (pa_cons (pv 0) pa_nil)) pa_nil)) (pg_name (i := 2) sc_courses.nd rfl (.inl rfl)) (pss_cons (ps_set (i := 3) sc_courses.nd rfl (.inr rfl) (pe_call G_gaps_of (hr.mono (by first | decide | omega)) (by rfl) m_gaps_of F_gaps_of.kp b_gaps_of .nil pass0 (pa_cons (pv 0) (pa_cons (pv 2) pa_nil))))
      (pss_one (by apply ps_setLc2 (i := 1) (own := [("course", 4), ("gap", 5)]) (vs1 := [5]) (g := (gName 4)) (g1 := (gName 5)) (by rfl) sc_courses.nd rfl rfl (sw_true rfl rfl rfl (by decide +kernel)); (exact (pi_list (pv 1))); (exact (blkOk_by (N := ["writes", "found", "index", "choices", "course", "gap"]) (sc := defScope s_courses) (by decide +kernel))); (exact (by decide)); (exact (fun _ _ _ _ _ => (pg_name (i := 4) sc_courses.nd rfl (.inl rfl)))); (exact (fun _ _ _ _ _ => pts_nil)); (exact (fun _ _ _ _ _ => (pi_listK (K := K) rfl (pv 3)))); (exact (fun _ _ _ _ _ => (pg_name (i := 5) sc_courses.nd rfl (.inl rfl)))); (exact (fun _ _ _ _ _ => pts_nil)); (exact (fun _ _ _ _ _ => (pe_op op_cat (pv 4) (pe_lst (pa_cons (pv 5) pa_nil))))); all_goals (first | (intro _; rfl) | (intro _ _; rfl))))))
      (pss_one (ps_ret (pv 1)))))), ?_⟩
  obtain ⟨a, ns, rfl, L, M, hS, hA, q2, hl, q0⟩ := h
  walk_at "st"
  walk_at "gn"
  refine ⟨a, ns, rfl, L, M, hS, hA, q2, fun hP H1 hS1 => ?_⟩
  have q := q0 hP
  clear hS
  walk_at "gn"
  rename_i ea H2 hS2 fa H3 hS3
  clear hS1
  refine Sa.st_r1 (n := ns.length) (by omega) (by omega) (by omega) ?_
  refine Sa.lp_rng (γ := G_co) (fun _ g => [some (.ref a), some (.ref g.f), g.x, g.y, none, none]) (fun _ _ => L) (fun _ g => (g.f, .lst (refs g.rows)) :: (g.rows.map rowC ++ M)) (fun i g => g.rows.map Prod.snd = CO ns i) ⟨⟨fa, [(ea, [])], none, none⟩, rfl, rfl, by
    show SA L ((fa, .lst [.ref ea]) :: (ea, .lst []) :: M) _
    walk_at "sa2"⟩ ?_ ?_
  · rintro i ⟨f, rows, x1, x2⟩ H4 hi hR hS4
    simp only at hR hS4
    clear hS2 hS3
    have hcs := co_small ns (i := i) (by omega)
    have hrl : rows.length = (CO ns i).length := by rw [← hR, List.length_map]
    have hgl := gp_len ns (i : Int)
    have hns := co_small ns (i := i + 1) (by omega)
    rw [co_succ_len] at hns
    have hA2 : At L ((f, .lst (refs rows)) :: (rows.map rowC ++ M)) (fL a (ns.map V.int)) := Sa.At.tm (Sa.At.ap hA)
    walk_at "nm"
    rw [Int.zero_add]
    walk_at "gn"
    refine ⟨_, _, rfl, _, _, ns, hS4, hA2, by omega, by omega, by omega, fun ch H5 hS5 => ?_⟩
    clear hS4
    walk_at "gn"
    refine st_lc2 ?_
    walk_at "gn"
    refine st_l1c2 (xs := refs rows) hS5 (by walk_at "at") ?_
    refine lc2_list (γ := List Row) (xs := refs rows) (fun _ _ => L) (fun _ rs => rs.map rowC ++ ((ch, .lst ((gp ns (i : Int)).map V.int)) :: (f, .lst (refs rows)) :: (rows.map rowC ++ M))) (fun _ rs => refs rs) (fun j rs => rs.map Prod.snd = ((CO ns i).take j).flatMap fun c => (gp ns i).map fun g => c ++ [g]) (g0 := []) hS5 rfl rfl ⟨rfl, rfl⟩ (fun _ _ _ _ => by walk_at "at") (fun x => rfl) ?_ ?_
    · intro j x rs D H6 hx hrs hS6
      clear hS5
      obtain ⟨⟨ca, c⟩, hc, rfl⟩ : ∃ r : Row, rows[j]? = some r ∧ x = .ref r.1 := by
        unfold refs at hx
        rw [List.getElem?_map] at hx
        cases e : rows[j]? with
        | none => rw [e] at hx; cases hx
        | some r => rw [e] at hx; exact ⟨r, rfl, (Option.some.inj hx).symm⟩
      have hcl := (List.getElem?_eq_some_iff.mp hc).1
      have hcc : (CO ns i)[j]? = some c := by rw [← hR, List.getElem?_map, hc]; rfl
      have hlen : c.length = i := co_len (List.mem_of_getElem? hcc)
      dsimp only
      walk_at "gn"
      have hrl2 : rs.length ≤ 40320 := by
        rw [← List.length_map (f := Prod.snd), hrs, flatk_len (k := (gp ns i).length) fun x _ => List.length_map _, List.length_take]
        exact Nat.le_trans (Nat.mul_le_mul_right _ (Nat.min_le_right _ _)) hns
      have hfl : (((CO ns i).take j).flatMap fun c => (gp ns i).map fun g => c ++ [g]).length + (gp ns i).length ≤ 40320 := by
        rw [flatk_len (k := (gp ns i).length) fun x _ => List.length_map _, List.length_take, ← Nat.succ_mul]
        exact Nat.le_trans (Nat.mul_le_mul_right _ (by omega)) hns
      refine st_l1i (xs := (gp ns (i : Int)).map V.int) hS6 (by walk_at "at") ?_
      refine li_list (γ := List Row) (xs := (gp ns (i : Int)).map V.int) (fun _ _ => L) (fun _ ys => ys.map rowC ++ ((ch, .lst ((gp ns (i : Int)).map V.int)) :: (f, .lst (refs rows)) :: (rows.map rowC ++ M))) (fun _ ys => refs ys) (fun k ys => ys.map Prod.snd = (((CO ns i).take j).flatMap fun c => (gp ns i).map fun g => c ++ [g]) ++ ((gp ns i).take k).map fun g => c ++ [g]) ⟨rs, by simp only [List.take_zero, List.map_nil, List.append_nil]; exact hrs, hS6⟩ (fun _ _ _ _ => by walk_at "at") (fun x => rfl) ?_ ?_
      · intro k y ys H7 hy hys hS7
        obtain ⟨g, hg, rfl⟩ := Sa.ints_at hy
        have hgk := (List.getElem?_eq_some_iff.mp hg).1
        have hyl : ys.length ≤ 40320 := by
          rw [← List.length_map (f := Prod.snd), hys, List.length_append, List.length_map, List.length_take]
          omega
        have hAc : At L ((D, .lst (refs ys)) :: (ys.map rowC ++ ((ch, .lst ((gp ns (i : Int)).map V.int)) :: (f, .lst (refs rows)) :: (rows.map rowC ++ M)))) (fL ca (c.map V.int)) := Sa.At.tm (Sa.At.ap (Sa.At.tm (Sa.At.tm (Sa.At.cellL (mem_rows hc)))))
        walk_at "gn"
        rename_i dl H8 hS8 cc H9 hS9
        replace hS9 : SA L ((cc, .lst ((c ++ [g]).map V.int)) :: (D, .lst (refs ys)) :: (ys.map rowC ++ ((ch, .lst ((gp ns (i : Int)).map V.int)) :: (f, .lst (refs rows)) :: (rows.map rowC ++ M)))) H9 := by walk_at "sa2"
        refine Sa.st_lcadd hS9 (by walk_at "chg") (by unfold refs; rw [List.length_map]; omega) (fun Ha hSa => ?_)
        have hSb := rows_push hSa
        have e1 : refs (ys ++ [(cc, c ++ [g])]) = refs ys ++ [V.ref cc] := by
          unfold refs
          rw [List.map_append]
          rfl
        have e2 : (ys ++ [(cc, c ++ [g])]).map rowC = ys.map rowC ++ [(cc, .lst ((c ++ [g]).map V.int))] := by
          rw [List.map_append]
          rfl
        refine ⟨ys ++ [(cc, c ++ [g])], ?_, by simp only [e1, e2]; exact hSb⟩
        show (ys ++ [(cc, c ++ [g])]).map Prod.snd = _ ++ ((gp ns i).take (k + 1)).map fun g => c ++ [g]
        rw [List.map_append, hys, Sa.take_at hg, List.map_append, List.append_assoc]
        rfl
      · intro ys H7 hys hS7
        rw [List.length_map, List.take_length] at hys
        refine ⟨ys, ?_, hS7⟩
        show ys.map Prod.snd = ((CO ns i).take (j + 1)).flatMap fun c => (gp ns i).map fun g => c ++ [g]
        rw [hys, Sa.take_at hcc, List.flatMap_append, List.flatMap_singleton]
    · intro D rs H6 hrs hS6
      walk_at "gn"
      refine ⟨⟨D, rs, _, _⟩, rfl, ?_, by walk_at "sa2"⟩
      show rs.map Prod.snd = (CO ns i).flatMap fun c => (gp ns i).map fun g => c ++ [g]
      rw [hrs, List.take_of_length_le (by unfold refs; rw [List.length_map, hrl]; exact Nat.le_refl _)]
  · rintro ⟨f, rows, x1, x2⟩ H4 hR hS4
    simp only at hR hS4
    clear hS2 hS3
    walk_at "gn"
    exact q f rows _ hR hS4

def sp_may_read (K : PySem.W.Frag) : Sp := fun vs H Q _ => ∃ (a : Addr) (i g : Int), vs = [.ref a, .int i, .int g] ∧ ∃ (L : List Fc) (M : List Cell) (ns : List Int), SA L M H ∧ At L M (fL a (ns.map V.int)) ∧ 0 ≤ i ∧ i < ns.length ∧
  ∀ H', SA L M H' → Q (.bl (mrB ns i g)) H'
local macro_rules | `(tactic| walk_at "call") => `(tactic| first
  | ((with_reducible show sp_number_in_gap _ _ _ _ _); refine ⟨_, _, rfl, _, _, _, by assumption, by walk_at "at", by omega, by omega, fun _ _ => ?_⟩))
theorem sc_may_read : FnScope ["writes", "index", "gap"] ["writes", "index", "gap"] (defScope s_may_read) := ⟨rfl, rfl, rfl, by decide +kernel, rfl, by decide +kernel, by decide +kernel⟩
abbrev Ok_may_read (P : Program) (w : World) (K : PySem.W.Frag) (mg : Str → Option Value) (base : Heap) : Prop := ∃ f fd, Fun K "may_read" "may_read" s_may_read f fd ∧ mg "may_read" = some (.ref f) ∧ FnOk P w K mg base CX0 2 f fd ["writes", "index", "gap"] (sp_may_read K)
theorem ok_may_read {P : Program} {w : World} {K : PySem.W.Frag} {mg : Str → Option Value} {base : Heap} (T : Top K mg) (h_number_in_gap : Ok_number_in_gap P w K mg base) : Ok_may_read P w K mg base := by
  obtain ⟨f, fd, F, m⟩ := T.d_may_read
  obtain ⟨f_number_in_gap, fd_number_in_gap, F_number_in_gap, m_number_in_gap, G_number_in_gap⟩ := h_number_in_gap
  have b_number_in_gap := F_number_in_gap.binds (ps := ["writes", "gap"]) (fun _ _ _ _ _ _ us hl => match us, hl with | [_, _], _ => rfl)
  refine ⟨f, fd, F, m, F.ok sc_may_read (fun vs H Q E h => by first | (obtain ⟨_, rfl, _⟩ := h; rfl) | (obtain ⟨_, _, rfl, _⟩ := h; rfl) | (obtain ⟨_, _, _, rfl, _⟩ := h; rfl) | (obtain ⟨_, _, _, _, rfl, _⟩ := h; rfl) | (obtain ⟨_, _, _, _, _, rfl, _⟩ := h; rfl) | (obtain ⟨_, _, _, _, _, _, rfl, _⟩ := h; rfl) | (obtain ⟨_, _, _, _, _, _, _, rfl, _⟩ := h; rfl) | (obtain ⟨_, _, _, _, _, _, _, _, rfl, _⟩ := h; rfl)) (fun cdv A outer s H vs Q E hr h => ?_)⟩
  refine ⟨_, (pss_one (ps_ret (pe_and (pe_chain op_le op_le pe_int (pv 2) (pv 1)) (pe_one (pe_cmpR op_eq (pe_call G_number_in_gap (hr.mono (by first | decide | omega)) (by rfl) m_number_in_gap F_number_in_gap.kp b_number_in_gap .nil pass0 (pa_cons (pv 0) (pa_cons (pv 2) pa_nil))) (pe_op op_sub (pe_ix ix_list (pv 0) (pv 1) (fun _ _ => rfl)) pe_int) (nomark _)))))), ?_⟩
  obtain ⟨a, i, g, rfl, L, M, ns, hS, hA, h0, h1, q⟩ := h
  unfold mrB at q
  walk_at "st"
  walk_at "au"
  refine Sa.if_dec (fun c1 => ?_) (fun c1 => ?_)
  · walk_at "au"
    refine Sa.if_dec (fun c2 => ?_) (fun c2 => ?_)
    · walk_at "au"
      rw [show decide (0 ≤ g ∧ g ≤ i ∧ sh ns g = ns.getD i.toNat 0 - 1) = decide (sh ns g = ns.getD i.toNat 0 - 1) from decide_eq_decide.mpr ⟨fun h => h.2.2, fun h => ⟨c1, c2, h⟩⟩] at q
      exact q _ (by assumption)
    · walk_at "au"
      rw [decide_eq_false (fun h => c2 h.2.1)] at q
      exact q _ (by assumption)
  · walk_at "au"
    rw [decide_eq_false (fun h => c1 h.1)] at q
    exact q _ (by assumption)

def sp_first_wrong_read (K : PySem.W.Frag) : Sp := fun vs H Q _ => ∃ (a c : Addr), vs = [.ref a, .ref c] ∧ ∃ (L : List Fc) (M : List Cell) (ns cs : List Int), SA L M H ∧ At L M (fL a (ns.map V.int)) ∧ At L M (fQ K c (cs.map V.int)) ∧ cs.length ≤ ns.length ∧
  ∀ H', SA L M H' → Q (optV (fwr ns 0 cs)) H'
local macro_rules | `(tactic| walk_at "call") => `(tactic| first
  | ((with_reducible show sp_may_read _ _ _ _ _); refine ⟨_, _, _, rfl, _, _, _, by assumption, by walk_at "at", by omega, by omega, fun _ _ => ?_⟩))
theorem sc_first_wrong_read : FnScope ["writes", "course", "index", "gap"] ["writes", "course"] (defScope s_first_wrong_read) := ⟨rfl, rfl, rfl, by decide +kernel, rfl, by decide +kernel, by decide +kernel⟩
abbrev Ok_first_wrong_read (P : Program) (w : World) (K : PySem.W.Frag) (mg : Str → Option Value) (base : Heap) : Prop := ∃ f fd, Fun K "first_wrong_read" "first_wrong_read" s_first_wrong_read f fd ∧ mg "first_wrong_read" = some (.ref f) ∧ FnOk P w K mg base CX0 3 f fd ["writes", "course"] (sp_first_wrong_read K)
theorem ok_first_wrong_read {P : Program} {w : World} {K : PySem.W.Frag} {mg : Str → Option Value} {base : Heap} (T : Top K mg) (h_may_read : Ok_may_read P w K mg base) : Ok_first_wrong_read P w K mg base := by
  obtain ⟨f, fd, F, m⟩ := T.d_first_wrong_read
  obtain ⟨f_may_read, fd_may_read, F_may_read, m_may_read, G_may_read⟩ := h_may_read
  have b_may_read := F_may_read.binds (ps := ["writes", "index", "gap"]) (fun _ _ _ _ _ _ us hl => match us, hl with | [_, _, _], _ => rfl)
  refine ⟨f, fd, F, m, F.ok sc_first_wrong_read (fun vs H Q E h => by first | (obtain ⟨_, rfl, _⟩ := h; rfl) | (obtain ⟨_, _, rfl, _⟩ := h; rfl) | (obtain ⟨_, _, _, rfl, _⟩ := h; rfl) | (obtain ⟨_, _, _, _, rfl, _⟩ := h; rfl) | (obtain ⟨_, _, _, _, _, rfl, _⟩ := h; rfl) | (obtain ⟨_, _, _, _, _, _, rfl, _⟩ := h; rfl) | (obtain ⟨_, _, _, _, _, _, _, rfl, _⟩ := h; rfl) | (obtain ⟨_, _, _, _, _, _, _, _, rfl, _⟩ := h; rfl)) (fun cdv A outer s H vs Q E hr h => ?_)⟩
  refine ⟨_, (pss_cons (ps_for PassesOwn.never rfl (pi_enum (by rfl) T.z_enumerate (pa_cons (pv 1) pa_nil)) (pg_tup rfl (pgs_cons (pg_name (i := 2) sc_first_wrong_read.nd rfl (.inl rfl)) (pgs_cons (pg_name (i := 3) sc_first_wrong_read.nd rfl (.inl rfl)) pgs_nil))) (pss_one (ps_if (pt_not (pt_val (pe_call G_may_read (hr.mono (by first | decide | omega)) (by rfl) m_may_read F_may_read.kp b_may_read .nil pass0 (pa_cons (pv 0) (pa_cons (pv 2) (pa_cons (pv 3) pa_nil)))))) (pss_one (ps_ret (pv 2))) pss_nil)))
      (pss_one (ps_ret pe_non))), ?_⟩
  obtain ⟨a, c, rfl, L, M, ns, cs, hS, hA, hC, hl, q⟩ := h
  walk_at "st"
  walk_at "au"
  refine Sa.st_e1 hS hC ?_
  refine Sa.lp_enum (γ := Option V × Option V) (fun i g => [some (.ref a), some (.ref c), g.1, g.2]) (fun _ _ => L) (fun _ _ => M) (fun i g => fwr ns 0 cs = fwr ns i (cs.drop i)) ⟨(none, none), rfl, rfl, hS⟩ (fun _ _ _ _ => hC) ?_ ?_
  · intro i x g H hx hp hS
    obtain ⟨n, hn, rfl⟩ := Sa.ints_at hx
    have hil := (List.getElem?_eq_some_iff.mp hn).1
    have hd := Sa.drop_at hn
    rw [hd] at hp
    replace hp : fwr ns 0 cs = if mrB ns i n = true then fwr ns (i + 1) (cs.drop (i + 1)) else some i := hp
    walk_at "nm"
    walk_at "au"
    refine Sa.if_bool (fun h1 => ?_) (fun h1 => ?_)
    · rw [if_pos h1] at hp
      walk_at "au"
      exact ⟨(_, _), rfl, hp, by assumption⟩
    · rw [if_neg (by rw [h1]; decide)] at hp
      walk_at "au"
      rw [hp] at q
      exact q _ (by assumption)
  · intro g H hp hS
    walk_at "au"
    rw [hp, List.length_map, List.drop_length] at q
    exact q _ (by assumption)

def sp_sees (K : PySem.W.Frag) (C C2 : Addr) : Sp := fun vs H Q E => ∃ (a c : Addr), vs = [.ref a, .ref c] ∧ ∃ (L : List Fc) (M : List Cell) (ns cs : List Int), SA L M H ∧ At L M (fL a (ns.map V.int)) ∧ At L M (fQ K c (cs.map V.int)) ∧ (∀ i, fw 0 0 ns = some i → ∀ d H', SA L ((d, Sa.erO (.int i)) :: M) H' → E (.ref C) (some d) H') ∧
  (Po ns → cs.length ≠ ns.length → ∀ d l H', SA L ((d, Sa.erO (.ref l)) :: (l, .lst (cs.map V.int)) :: M) H' → E (.ref C2) (some d) H') ∧
  (Po ns → cs.length = ns.length → ∀ j, fwr ns 0 cs = some j → ∀ d H', SA L ((d, Sa.erO (.int (cs.getD j 0))) :: M) H' → E (.ref C2) (some d) H') ∧ ns.length ≤ 1000 ∧
  (Po ns → cs.length = ns.length → fwr ns 0 cs = none → ∀ f H', SA L ((f, .lst (snV cs)) :: M) H' → Q (.ref f) H')
local macro_rules | `(tactic| walk_at "call") => `(tactic| first
  | ((with_reducible show sp_first_wrong_read _ _ _ _ _); refine ⟨_, _, rfl, _, _, _, _, by assumption, by walk_at "at", by walk_at "at", by omega, fun _ _ => ?_⟩))
theorem sc_sees : FnScope ["writes", "course", "wrong", "gap"] ["writes", "course"] (defScope s_sees) := ⟨rfl, rfl, rfl, by decide +kernel, rfl, by decide +kernel, by decide +kernel⟩
abbrev Ok_sees (P : Program) (w : World) (K : PySem.W.Frag) (mg : Str → Option Value) (base : Heap) : Prop := ∃ f fd, Fun K "sees" "sees" s_sees f fd ∧ mg "sees" = some (.ref f) ∧ FnOk P w K mg base (L2.CX P w) 4 f fd ["writes", "course"] (sp_sees K (Sa.clsOf mg "NotPossible") (Sa.clsOf mg "InvalidGap"))
theorem ok_sees {P : Program} {w : World} {K : PySem.W.Frag} {mg : Str → Option Value} {base : Heap} (T : Top K mg) (h_TallyError___init__ : Ok_TallyError___init__ P w K mg base) (h_first_wrong_read : Ok_first_wrong_read P w K mg base) (h_check_possible : Ok_check_possible P w K mg base) : Ok_sees P w K mg base := by
  obtain ⟨f, fd, F, m⟩ := T.d_sees
  obtain ⟨f_TallyError___init__, fd_TallyError___init__, F_TallyError___init__, m_TallyError___init__, G_TallyError___init__⟩ := h_TallyError___init__
  obtain ⟨_, x_UnknownWrite, x_NotPossible, x_InvalidGap⟩ := id m_TallyError___init__
  have b_TallyError___init__ := F_TallyError___init__.binds (ps := ["self", "value"]) (fun _ _ _ _ _ _ us hl => match us, hl with | [_, _], _ => rfl)
  obtain ⟨f_first_wrong_read, fd_first_wrong_read, F_first_wrong_read, m_first_wrong_read, G_first_wrong_read⟩ := h_first_wrong_read
  have b_first_wrong_read := F_first_wrong_read.binds (ps := ["writes", "course"]) (fun _ _ _ _ _ _ us hl => match us, hl with | [_, _], _ => rfl)
  obtain ⟨f_check_possible, fd_check_possible, F_check_possible, m_check_possible, G_check_possible⟩ := h_check_possible
  have b_check_possible := F_check_possible.binds (ps := ["writes"]) (fun _ _ _ _ _ _ us hl => match us, hl with | [_], _ => rfl)
  refine ⟨f, fd, F, m, F.okX sc_sees (fun vs H Q E h => by first | (obtain ⟨_, rfl, _⟩ := h; rfl) | (obtain ⟨_, _, rfl, _⟩ := h; rfl) | (obtain ⟨_, _, _, rfl, _⟩ := h; rfl) | (obtain ⟨_, _, _, _, rfl, _⟩ := h; rfl) | (obtain ⟨_, _, _, _, _, rfl, _⟩ := h; rfl) | (obtain ⟨_, _, _, _, _, _, rfl, _⟩ := h; rfl) | (obtain ⟨_, _, _, _, _, _, _, rfl, _⟩ := h; rfl) | (obtain ⟨_, _, _, _, _, _, _, _, rfl, _⟩ := h; rfl)) (fun cdv A outer s H vs Q E hr h => ?_)⟩
  refine ⟨_, (pss_cons (ps_expr (pe_call G_check_possible (hr.mono (by first | decide | omega)) (by rfl) m_check_possible F_check_possible.kp b_check_possible .nil (passes_call (takes_of rfl rfl rfl rfl) (fun _ _ _ _ z => z)) (pa_cons (pv 0) pa_nil)))
      (pss_cons (ps_if (pt_cmpR op_ne (pe_callB Sa.call_len (by rfl) T.z_len boot_len (pa_cons (pv 1) pa_nil)) (pe_callB Sa.call_len (by rfl) T.z_len boot_len (pa_cons (pv 0) pa_nil)) (nomark _)) (pss_one (Sa.ps_rs rfl (takes_of rfl rfl rfl rfl) (pmk_oex x_InvalidGap.oex x_InvalidGap.ini m_TallyError___init__.1 G_TallyError___init__ (hr.mono (by first | decide | omega)) b_TallyError___init__ .nil pass0 (by rfl) T.g_InvalidGap (pa_cons (pe_callTy Sa.call_list_of (by rfl) T.z_list (by decide +kernel) (pa_cons (pv 1) pa_nil)) pa_nil)))) pss_nil)
      (pss_cons (ps_set (i := 2) sc_sees.nd rfl (.inl rfl) (pe_call G_first_wrong_read (hr.mono (by first | decide | omega)) (by rfl) m_first_wrong_read F_first_wrong_read.kp b_first_wrong_read .nil pass0 (pa_cons (pv 0) (pa_cons (pv 1) pa_nil))))
      (pss_cons (ps_if (pt_cmpR Sa.op_notN (pv 2) pe_non (nomark _)) (pss_one (Sa.ps_rs rfl (takes_of rfl rfl rfl rfl) (pmk_oex x_InvalidGap.oex x_InvalidGap.ini m_TallyError___init__.1 G_TallyError___init__ (hr.mono (by first | decide | omega)) b_TallyError___init__ .nil pass0 (by rfl) T.g_InvalidGap (pa_cons (pe_ix ix_list (pv 1) (pv 2) (fun _ _ => rfl)) pa_nil)))) pss_nil)
      (pss_one (ps_ret (pe_lc (own := [("gap", 3)]) (g := (gName 3)) (by rfl) sc_sees.nd (pi_list (pv 1)) (blkOk_by (N := ["writes", "course", "wrong", "gap"]) (sc := defScope s_sees) (by decide +kernel)) (fun _ _ _ _ _ => (pg_name (i := 3) sc_sees.nd rfl (.inl rfl))) (fun _ _ _ _ _ => pts_nil) (fun _ _ _ _ _ => (pe_ifExp (pt_cmpR op_gt (pv 3) pe_int (nomark _)) (pe_op op_sub (pv 3) pe_int) pe_non))))))))), ?_⟩
  obtain ⟨a, c, rfl, L, M, ns, cs, hS, hA, hC, q2, q3, q4, hl, q0⟩ := h
  walk_at "st"
  walk_at "gn"
  refine ⟨a, ns, rfl, L, M, hS, hA, q2, fun hP H1 hS1 => ?_⟩
  clear hS
  walk_at "gn"
  try simp only [List.length_map]
  refine Sa.if_dec (fun h0 => ?_) (fun h0 => ?_)
  rotate_left
  · walk_at "gn"
    walk_at "ras"
    exact q3 hP (by omega) _ _ _ (by assumption)
  have h0 : cs.length = ns.length := by omega
  walk_at "gn"
  walk_at "call"
  rename_i H2 hS2
  clear hS1
  cases hf : fwr ns 0 cs with
  | some j =>
    have hj : j < cs.length := fwr_lt hf
    dsimp only [optV]
    walk_at "gn"
    refine Sa.if_dec (fun h => nomatch h) (fun _ => ?_)
    walk_at "gn"
    walk_at "ras"
    rename_i d H3 hS3
    rw [Int.toNat_natCast] at hS3
    exact q4 hP h0 j hf _ _ hS3
  | none =>
    dsimp only [optV]
    walk_at "gn"
    refine Sa.if_dec (fun _ => ?_) (fun h => absurd rfl h)
    walk_at "gn"
    refine Sa.st_l1c hS2 (by walk_at "at") ?_
    refine Sa.lcV_list (ns := cs) (fun _ => true) (fun g => if 0 < g then V.int (g - 1) else V.non) hS2 (by walk_at "at") (by omega) (fun x => rfl) (fun g Dl acc hg => ?_) (fun g Dl acc hg _ => ?_) (fun D H3 hS3 => ?_)
    · intro H6 hS6 Q1 q1
      walk_at "gn"
      exact q1 _ hS6
    · intro H6 hS6 Q1 q1
      walk_at "gn"
      refine Sa.if_dec (fun h1 => ?_) (fun h1 => ?_)
      · walk_at "gn"
        rw [if_pos h1] at q1
        exact q1 _ hS6
      · walk_at "gn"
        rw [if_neg h1] at q1
        exact q1 _ hS6
    · rw [Sa.filt_true] at hS3
      exact q0 hP h0 hf _ _ hS3

def sp__law_asked (K : PySem.W.Frag) : Sp := fun vs H Q _ => ∃ (a c : Addr) (door place : Int) (b : Bool), vs = [.int door, .ref a, .int place, .ref c, .bl b] ∧ ∃ (L : List Fc) (M : List Cell) (ns cs : List Int), SA L M H ∧ At L M (fL a (ns.map V.int)) ∧ At L M (fL c (cs.map V.int)) ∧ 0 ≤ door ∧ door ≤ 5 ∧ ns.length ≤ 1000 ∧ cs.length ≤ 1000 ∧ (door = 4 → ns.length ≤ 8) ∧ AnsK L M Q (ansW door ns place cs)
theorem sc__law_asked : FnScope ["_law_door", "_law_some", "_law_place", "_law_line", "_law_by_name", "_law_found", "_law_told", "e", "_law_kinds"] ["_law_door", "_law_some", "_law_place", "_law_line", "_law_by_name"] (defScope s__law_asked) := ⟨rfl, rfl, rfl, by decide +kernel, rfl, by decide +kernel, by decide +kernel⟩
abbrev Ok__law_asked (P : Program) (w : World) (K : PySem.W.Frag) (mg : Str → Option Value) (base : Heap) : Prop := ∃ f fd, Fun K "_law_asked" "_law_asked" s__law_asked f fd ∧ mg "_law_asked" = some (.ref f) ∧ FnOk P w K mg base CX0 5 f fd ["_law_door", "_law_some", "_law_place", "_law_line", "_law_by_name"] (sp__law_asked K)
theorem ok__law_asked {P : Program} {w : World} {K : PySem.W.Frag} {mg : Str → Option Value} {base : Heap} (T : Top K mg) (h_gaps : Ok_gaps P w K mg base) (h_latest : Ok_latest P w K mg base) (h_earliest : Ok_earliest P w K mg base) (h_ways : Ok_ways P w K mg base) (h_courses : Ok_courses P w K mg base) (h_sees : Ok_sees P w K mg base) : Ok__law_asked P w K mg base := by
  obtain ⟨f, fd, F, m⟩ := T.d__law_asked
  obtain ⟨f_gaps, fd_gaps, F_gaps, m_gaps, G_gaps⟩ := h_gaps
  have b_gaps := F_gaps.binds (ps := ["writes", "index"]) (fun _ _ _ _ _ _ us hl => match us, hl with | [_, _], _ => rfl)
  obtain ⟨f_latest, fd_latest, F_latest, m_latest, G_latest⟩ := h_latest
  have b_latest := F_latest.binds (ps := ["writes"]) (fun _ _ _ _ _ _ us hl => match us, hl with | [_], _ => rfl)
  obtain ⟨f_earliest, fd_earliest, F_earliest, m_earliest, G_earliest⟩ := h_earliest
  have b_earliest := F_earliest.binds (ps := ["writes"]) (fun _ _ _ _ _ _ us hl => match us, hl with | [_], _ => rfl)
  obtain ⟨f_ways, fd_ways, F_ways, m_ways, G_ways⟩ := h_ways
  have b_ways := F_ways.binds (ps := ["writes"]) (fun _ _ _ _ _ _ us hl => match us, hl with | [_], _ => rfl)
  obtain ⟨f_courses, fd_courses, F_courses, m_courses, G_courses⟩ := h_courses
  have b_courses := F_courses.binds (ps := ["writes"]) (fun _ _ _ _ _ _ us hl => match us, hl with | [_], _ => rfl)
  obtain ⟨f_sees, fd_sees, F_sees, m_sees, G_sees⟩ := h_sees
  have b_sees := F_sees.binds (ps := ["writes", "course"]) (fun _ _ _ _ _ _ us hl => match us, hl with | [_, _], _ => rfl)
  have kb_gaps_writes_index := Sa.kb0 (ps := ["writes", "index"]) (ks := ["writes", "index"]) F_gaps (by decide) (fun _ _ _ _ _ _ ws hl => match ws, hl with | [_, _], _ => rfl)
  have kb_latest_writes := Sa.kb0 (ps := ["writes"]) (ks := ["writes"]) F_latest (by decide) (fun _ _ _ _ _ _ ws hl => match ws, hl with | [_], _ => rfl)
  have kb_earliest_writes := Sa.kb0 (ps := ["writes"]) (ks := ["writes"]) F_earliest (by decide) (fun _ _ _ _ _ _ ws hl => match ws, hl with | [_], _ => rfl)
  have kb_ways_writes := Sa.kb0 (ps := ["writes"]) (ks := ["writes"]) F_ways (by decide) (fun _ _ _ _ _ _ ws hl => match ws, hl with | [_], _ => rfl)
  have kb_courses_writes := Sa.kb0 (ps := ["writes"]) (ks := ["writes"]) F_courses (by decide) (fun _ _ _ _ _ _ ws hl => match ws, hl with | [_], _ => rfl)
  have kb_sees_writes_course := Sa.kb0 (ps := ["writes", "course"]) (ks := ["writes", "course"]) F_sees (by decide) (fun _ _ _ _ _ _ ws hl => match ws, hl with | [_, _], _ => rfl)
  obtain ⟨_, _, _, _, x_UnknownWrite, x_NotPossible, x_InvalidGap⟩ := T.d_TallyError___init__
  have k_UnknownWrite_NotPossible := T.k_UnknownWrite_NotPossible
  have k_UnknownWrite_UnknownWrite := T.k_UnknownWrite_UnknownWrite
  have k_UnknownWrite_InvalidGap := T.k_UnknownWrite_InvalidGap
  have k_UnknownWrite_InvalidNumber := T.k_UnknownWrite_InvalidNumber
  have m_UnknownWrite_TallyError := T.m_UnknownWrite_TallyError
  have k_NotPossible_NotPossible := T.k_NotPossible_NotPossible
  have k_NotPossible_UnknownWrite := T.k_NotPossible_UnknownWrite
  have k_NotPossible_InvalidGap := T.k_NotPossible_InvalidGap
  have k_NotPossible_InvalidNumber := T.k_NotPossible_InvalidNumber
  have m_NotPossible_TallyError := T.m_NotPossible_TallyError
  have k_InvalidGap_NotPossible := T.k_InvalidGap_NotPossible
  have k_InvalidGap_UnknownWrite := T.k_InvalidGap_UnknownWrite
  have k_InvalidGap_InvalidGap := T.k_InvalidGap_InvalidGap
  have k_InvalidGap_InvalidNumber := T.k_InvalidGap_InvalidNumber
  have m_InvalidGap_TallyError := T.m_InvalidGap_TallyError
  refine ⟨f, fd, F, m, F.ok sc__law_asked (fun vs H Q E h => by first | (obtain ⟨_, rfl, _⟩ := h; rfl) | (obtain ⟨_, _, rfl, _⟩ := h; rfl) | (obtain ⟨_, _, _, rfl, _⟩ := h; rfl) | (obtain ⟨_, _, _, _, rfl, _⟩ := h; rfl) | (obtain ⟨_, _, _, _, _, rfl, _⟩ := h; rfl) | (obtain ⟨_, _, _, _, _, _, rfl, _⟩ := h; rfl) | (obtain ⟨_, _, _, _, _, _, _, rfl, _⟩ := h; rfl) | (obtain ⟨_, _, _, _, _, _, _, _, rfl, _⟩ := h; rfl)) (fun cdv A outer s H vs Q E hr h => ?_)⟩
  refine ⟨_, (pss_cons (ps_asg (pe_tup (pa_cons pe_non (pa_cons pe_non pa_nil))) (pg_tup rfl (pgs_cons (pg_name (i := 5) sc__law_asked.nd rfl (.inl rfl)) (pgs_cons (pg_name (i := 6) sc__law_asked.nd rfl (.inl rfl)) pgs_nil))))
      (pss_cons (ps_try_as (i := 7) rfl rfl sc__law_asked.nd rfl rfl ⟨rfl, by decide, .inl T.g_TallyError⟩ takes0
        (fun W pn xe tk xp => (pss_one (ps_if (pt_cmpR op_eq (pv 0) pe_int (nomark _)) (pss_one (ps_set (i := 6) sc__law_asked.nd rfl (.inl rfl) (pe_ifExp (pt_val (pv 4)) (Sa.pe_callK0S G_gaps (hr.mono (by first | decide | omega)) (by rfl) m_gaps F_gaps.kp kb_gaps_writes_index (fun σ => passAt tk σ) (pk_cons (pv 1) (pk_cons (pv 2) pk_nil))) (pe_callS G_gaps (hr.mono (by first | decide | omega)) (by rfl) m_gaps F_gaps.kp b_gaps (fun σ => passAt tk σ) (pa_cons (pv 1) (pa_cons (pv 2) pa_nil)))))) (pss_one (ps_if (pt_cmpR op_eq (pv 0) pe_int (nomark _)) (pss_one (ps_set (i := 6) sc__law_asked.nd rfl (.inl rfl) (pe_ifExp (pt_val (pv 4)) (Sa.pe_callK0S G_latest (hr.mono (by first | decide | omega)) (by rfl) m_latest F_latest.kp kb_latest_writes (fun σ => passAt tk σ) (pk_cons (pv 1) pk_nil)) (pe_callS G_latest (hr.mono (by first | decide | omega)) (by rfl) m_latest F_latest.kp b_latest (fun σ => passAt tk σ) (pa_cons (pv 1) pa_nil))))) (pss_one (ps_if (pt_cmpR op_eq (pv 0) pe_int (nomark _)) (pss_one (ps_set (i := 6) sc__law_asked.nd rfl (.inl rfl) (pe_ifExp (pt_val (pv 4)) (Sa.pe_callK0S G_earliest (hr.mono (by first | decide | omega)) (by rfl) m_earliest F_earliest.kp kb_earliest_writes (fun σ => passAt tk σ) (pk_cons (pv 1) pk_nil)) (pe_callS G_earliest (hr.mono (by first | decide | omega)) (by rfl) m_earliest F_earliest.kp b_earliest (fun σ => passAt tk σ) (pa_cons (pv 1) pa_nil))))) (pss_one (ps_if (pt_cmpR op_eq (pv 0) pe_int (nomark _)) (pss_one (ps_set (i := 6) sc__law_asked.nd rfl (.inl rfl) (pe_ifExp (pt_val (pv 4)) (Sa.pe_callK0S G_ways (hr.mono (by first | decide | omega)) (by rfl) m_ways F_ways.kp kb_ways_writes (fun σ => passAt tk σ) (pk_cons (pv 1) pk_nil)) (pe_callS G_ways (hr.mono (by first | decide | omega)) (by rfl) m_ways F_ways.kp b_ways (fun σ => passAt tk σ) (pa_cons (pv 1) pa_nil))))) (pss_one (ps_if (pt_cmpR op_eq (pv 0) pe_int (nomark _)) (pss_one (ps_set (i := 6) sc__law_asked.nd rfl (.inl rfl) (pe_ifExp (pt_val (pv 4)) (Sa.pe_callK0S G_courses (hr.mono (by first | decide | omega)) (by rfl) m_courses F_courses.kp kb_courses_writes (fun σ => passAt tk σ) (pk_cons (pv 1) pk_nil)) (pe_callS G_courses (hr.mono (by first | decide | omega)) (by rfl) m_courses F_courses.kp b_courses (fun σ => passAt tk σ) (pa_cons (pv 1) pa_nil))))) (pss_one (ps_set (i := 6) sc__law_asked.nd rfl (.inl rfl) (pe_ifExp (pt_val (pv 4)) (Sa.pe_callK0S G_sees (hr.mono (by first | decide | omega)) (by rfl) m_sees F_sees.kp kb_sees_writes_course (fun σ => passAt tk σ) (pk_cons (pv 1) (pk_cons (pv 3) pk_nil))) (pe_callS G_sees (hr.mono (by first | decide | omega)) (by rfl) m_sees F_sees.kp b_sees (fun σ => passAt tk σ) (pa_cons (pv 1) (pa_cons (pv 3) pa_nil)))))))))))))))))
        (fun a oe cls d pn hz hf => (pss_cons (ps_set (i := 8) sc__law_asked.nd rfl (.inl rfl) (pe_lst (pa_cons (pe_callB (Sa.call_isEA hz hf) (by rfl) T.z_isinstance (by decide +kernel) (pa_cons (pv 7) (pa_cons (pe_glob (v := .ref (Sa.clsOf mg "NotPossible")) rfl T.g_NotPossible rfl) pa_nil))) (pa_cons (pe_callB (Sa.call_isEA hz hf) (by rfl) T.z_isinstance (by decide +kernel) (pa_cons (pv 7) (pa_cons (pe_glob (v := .ref (Sa.clsOf mg "UnknownWrite")) rfl T.g_UnknownWrite rfl) pa_nil))) (pa_cons (pe_callB (Sa.call_isEA hz hf) (by rfl) T.z_isinstance (by decide +kernel) (pa_cons (pv 7) (pa_cons (pe_glob (v := .ref (Sa.clsOf mg "InvalidGap")) rfl T.g_InvalidGap rfl) pa_nil))) pa_nil)))))
      (pss_one (ps_set (i := 5) sc__law_asked.nd rfl (.inl rfl) (pe_tup (pa_cons (pe_op op_cat (pv 8) (pe_lst (pa_cons (pe_callB (Sa.call_isEA hz hf) (by rfl) T.z_isinstance (by decide +kernel) (pa_cons (pv 7) (pa_cons (pe_glob (v := .ref (Sa.clsOf mg "InvalidNumber")) rfl T.g_InvalidNumber rfl) pa_nil))) pa_nil))) (pa_cons (Sa.pe_xfA hz hf (pv 7)) pa_nil))))))))
      (pss_cons (ps_if (PW.pt (pw_and (pt_cmpR Sa.op_isN (pv 5) pe_non (nomark _)) (pw_and1 (pt_cmpR op_ne (pe_cmpR op_eq (pv 0) pe_int (nomark _)) (pe_callB call_isi (by rfl) T.z_isinstance (by decide +kernel) (pa_cons (pv 6) (pa_cons (pe_bltn (v := .ty "int") (u := .type "int") (by rfl) T.z_int (by decide +kernel) rfl) pa_nil))) (nomark _))))) (pss_one (ps_ret (pe_tup (pa_cons (pe_lst pa_nil) (pa_cons (pv 6) pa_nil))))) pss_nil)
      (pss_one (ps_ret (pv 5)))))), ?_⟩
  obtain ⟨a, c, door, place, b, rfl, L, M, ns, cs, hS, hA, hC, hd0, hd5, hl, hcl, h4, q⟩ := h
  have qfw : ∀ i : Nat, fw 0 0 ns = some i → AnsK L M Q (.num 0 (i : Int)) := fun i h => by rw [← ans_fw h]; exact q
  walk_at "st"
  walk_at "gn"
  rename_i tp0 H0 hS0
  clear hS
  rcases (show door = 0 ∨ door = 1 ∨ door = 2 ∨ door = 3 ∨ door = 4 ∨ door = 5 by omega) with rfl | rfl | rfl | rfl | rfl | rfl
  · have qd := q
    walk_at "dec"
    walk_at "gn"
    cases b
    all_goals
      walk_at "gn"
      refine ⟨a, place, rfl, _, _, ns, hS0, by walk_at "at", fun i hi d H1 h1 => ?_, fun hP hno d H1 h1 => ?_, hl, fun hP h5 h6 f H1 h1 => ?_⟩
      · walk_at "cat"
        walk_at "gn"
        rename_i k1 Ha hSa k2 Hb hSb
        clear hSa h1
        refine Sa.st_cat hSb (xs := [.bl true, .bl false, .bl false]) (ys := [.bl false]) (by walk_at "at") (by walk_at "at") (show 3 + 1 ≤ 100000 by decide) (fun kl Hc hSc => ?_)
        clear hSb
        walk_at "gn"
        refine Sa.if_no (fun h => V.noConfusion h) ?_
        walk_at "gn"
        rename_i t Hd hSd
        have hSf : SA (Sa.fU t [.ref kl, .int (i : Nat)] :: L) ((kl, .lst ([.bl true, .bl false, .bl false] ++ [.bl false])) :: M) Hd := by walk_at "sa2"
        exact (qfw i hi) t kl _ hSf
      · rw [ans1 hP hno] at qd
        walk_at "cat"
        walk_at "gn"
        rename_i k1 Ha hSa k2 Hb hSb
        clear hSa h1
        refine Sa.st_cat hSb (xs := [.bl false, .bl true, .bl false]) (ys := [.bl false]) (by walk_at "at") (by walk_at "at") (show 3 + 1 ≤ 100000 by decide) (fun kl Hc hSc => ?_)
        clear hSb
        walk_at "gn"
        refine Sa.if_no (fun h => V.noConfusion h) ?_
        walk_at "gn"
        rename_i t Hd hSd
        have hSf : SA (Sa.fU t [.ref kl, .int place] :: L) ((kl, .lst ([.bl false, .bl true, .bl false] ++ [.bl false])) :: M) Hd := by walk_at "sa2"
        exact (qd) t kl _ hSf
      · rw [ans0 hP h5 h6] at qd
        walk_at "gn"
        refine Sa.if_yes rfl ?_
        walk_at "gn"
        refine st_isiLst h1 (by walk_at "at") ?_
        refine Sa.st_ne rfl ?_
        walk_at "gn"
        refine Sa.if_yes rfl ?_
        walk_at "gn"
        exact (qd) _ (by walk_at "sa2")
  · have qd := q
    walk_at "dec"
    walk_at "gn"
    walk_at "dec"
    walk_at "gn"
    cases b
    all_goals
      walk_at "gn"
      refine ⟨a, ns, rfl, _, _, hS0, by walk_at "at", fun i hi d H1 h1 => ?_, hl, fun hP f H1 h1 => ?_⟩
      · walk_at "cat"
        walk_at "gn"
        rename_i k1 Ha hSa k2 Hb hSb
        clear hSa h1
        refine Sa.st_cat hSb (xs := [.bl true, .bl false, .bl false]) (ys := [.bl false]) (by walk_at "at") (by walk_at "at") (show 3 + 1 ≤ 100000 by decide) (fun kl Hc hSc => ?_)
        clear hSb
        walk_at "gn"
        refine Sa.if_no (fun h => V.noConfusion h) ?_
        walk_at "gn"
        rename_i t Hd hSd
        have hSf : SA (Sa.fU t [.ref kl, .int (i : Nat)] :: L) ((kl, .lst ([.bl true, .bl false, .bl false] ++ [.bl false])) :: M) Hd := by walk_at "sa2"
        exact (qfw i hi) t kl _ hSf
      · rw [ansM hP (by decide) (by decide)] at qd
        walk_at "gn"
        refine Sa.if_yes rfl ?_
        walk_at "gn"
        refine st_isiLst h1 (by walk_at "at") ?_
        refine Sa.st_ne rfl ?_
        walk_at "gn"
        refine Sa.if_yes rfl ?_
        walk_at "gn"
        exact (qd) _ (by walk_at "sa2")
  · have qd := q
    walk_at "dec"
    walk_at "gn"
    walk_at "dec"
    walk_at "gn"
    walk_at "dec"
    walk_at "gn"
    cases b
    all_goals
      walk_at "gn"
      refine ⟨a, ns, rfl, _, _, hS0, by walk_at "at", fun i hi d H1 h1 => ?_, hl, fun hP f H1 h1 => ?_⟩
      · walk_at "cat"
        walk_at "gn"
        rename_i k1 Ha hSa k2 Hb hSb
        clear hSa h1
        refine Sa.st_cat hSb (xs := [.bl true, .bl false, .bl false]) (ys := [.bl false]) (by walk_at "at") (by walk_at "at") (show 3 + 1 ≤ 100000 by decide) (fun kl Hc hSc => ?_)
        clear hSb
        walk_at "gn"
        refine Sa.if_no (fun h => V.noConfusion h) ?_
        walk_at "gn"
        rename_i t Hd hSd
        have hSf : SA (Sa.fU t [.ref kl, .int (i : Nat)] :: L) ((kl, .lst ([.bl true, .bl false, .bl false] ++ [.bl false])) :: M) Hd := by walk_at "sa2"
        exact (qfw i hi) t kl _ hSf
      · rw [ansM hP (by decide) (by decide)] at qd
        walk_at "gn"
        refine Sa.if_yes rfl ?_
        walk_at "gn"
        refine st_isiLst h1 (by walk_at "at") ?_
        refine Sa.st_ne rfl ?_
        walk_at "gn"
        refine Sa.if_yes rfl ?_
        walk_at "gn"
        exact (qd) _ (by walk_at "sa2")
  · have qd := q
    walk_at "dec"
    walk_at "gn"
    walk_at "dec"
    walk_at "gn"
    walk_at "dec"
    walk_at "gn"
    walk_at "dec"
    walk_at "gn"
    cases b
    all_goals
      walk_at "gn"
      refine ⟨a, ns, rfl, _, _, hS0, by walk_at "at", fun i hi d H1 h1 => ?_, hl, fun hP H1 h1 => ?_⟩
      · walk_at "cat"
        walk_at "gn"
        rename_i k1 Ha hSa k2 Hb hSb
        clear hSa h1
        refine Sa.st_cat hSb (xs := [.bl true, .bl false, .bl false]) (ys := [.bl false]) (by walk_at "at") (by walk_at "at") (show 3 + 1 ≤ 100000 by decide) (fun kl Hc hSc => ?_)
        clear hSb
        walk_at "gn"
        refine Sa.if_no (fun h => V.noConfusion h) ?_
        walk_at "gn"
        rename_i t Hd hSd
        have hSf : SA (Sa.fU t [.ref kl, .int (i : Nat)] :: L) ((kl, .lst ([.bl true, .bl false, .bl false] ++ [.bl false])) :: M) Hd := by walk_at "sa2"
        exact (qfw i hi) t kl _ hSf
      · rw [ansM hP (by decide) (by decide)] at qd
        walk_at "gn"
        refine Sa.if_yes rfl ?_
        walk_at "gn"
        refine Sa.st_ne rfl ?_
        walk_at "gn"
        refine Sa.if_yes rfl ?_
        walk_at "gn"
        exact (qd) _ (by walk_at "sa2")
  · have qd := q
    walk_at "dec"
    walk_at "gn"
    walk_at "dec"
    walk_at "gn"
    walk_at "dec"
    walk_at "gn"
    walk_at "dec"
    walk_at "gn"
    walk_at "dec"
    walk_at "gn"
    cases b
    all_goals
      walk_at "gn"
      refine ⟨a, ns, rfl, _, _, hS0, by walk_at "at", fun i hi d H1 h1 => ?_, h4 rfl, fun hP f rows H1 hrw h1 => ?_⟩
      · walk_at "cat"
        walk_at "gn"
        rename_i k1 Ha hSa k2 Hb hSb
        clear hSa h1
        refine Sa.st_cat hSb (xs := [.bl true, .bl false, .bl false]) (ys := [.bl false]) (by walk_at "at") (by walk_at "at") (show 3 + 1 ≤ 100000 by decide) (fun kl Hc hSc => ?_)
        clear hSb
        walk_at "gn"
        refine Sa.if_no (fun h => V.noConfusion h) ?_
        walk_at "gn"
        rename_i t Hd hSd
        have hSf : SA (Sa.fU t [.ref kl, .int (i : Nat)] :: L) ((kl, .lst ([.bl true, .bl false, .bl false] ++ [.bl false])) :: M) Hd := by walk_at "sa2"
        exact (qfw i hi) t kl _ hSf
      · rw [ansM hP (by decide) (by decide)] at qd
        walk_at "gn"
        refine Sa.if_yes rfl ?_
        walk_at "gn"
        refine st_isiLst h1 (by walk_at "at") ?_
        refine Sa.st_ne rfl ?_
        walk_at "gn"
        refine Sa.if_yes rfl ?_
        walk_at "gn"
        exact (qd) _ (by walk_at "sa2")
  · have qd := q
    walk_at "dec"
    walk_at "gn"
    walk_at "dec"
    walk_at "gn"
    walk_at "dec"
    walk_at "gn"
    walk_at "dec"
    walk_at "gn"
    walk_at "dec"
    walk_at "gn"
    cases b
    all_goals
      walk_at "gn"
      refine ⟨a, c, rfl, _, _, ns, cs, hS0, by walk_at "at", by walk_at "at", fun i hi d H1 h1 => ?_, fun hP hne d l H1 h1 => ?_, fun hP he j hj d H1 h1 => ?_, hl, fun hP he hj f H1 h1 => ?_⟩
      · walk_at "cat"
        walk_at "gn"
        rename_i k1 Ha hSa k2 Hb hSb
        clear hSa h1
        refine Sa.st_cat hSb (xs := [.bl true, .bl false, .bl false]) (ys := [.bl false]) (by walk_at "at") (by walk_at "at") (show 3 + 1 ≤ 100000 by decide) (fun kl Hc hSc => ?_)
        clear hSb
        walk_at "gn"
        refine Sa.if_no (fun h => V.noConfusion h) ?_
        walk_at "gn"
        rename_i t Hd hSd
        have hSf : SA (Sa.fU t [.ref kl, .int (i : Nat)] :: L) ((kl, .lst ([.bl true, .bl false, .bl false] ++ [.bl false])) :: M) Hd := by walk_at "sa2"
        exact (qfw i hi) t kl _ hSf
      · rw [ans5r hP hne] at qd
        walk_at "cat"
        walk_at "gn"
        rename_i k1 Ha hSa k2 Hb hSb
        clear hSa h1
        refine Sa.st_cat hSb (xs := [.bl false, .bl false, .bl true]) (ys := [.bl false]) (by walk_at "at") (by walk_at "at") (show 3 + 1 ≤ 100000 by decide) (fun kl Hc hSc => ?_)
        clear hSb
        walk_at "gn"
        refine Sa.if_no (fun h => V.noConfusion h) ?_
        walk_at "gn"
        rename_i t Hd hSd
        have hSf : SA (Sa.fU t [.ref kl, .ref l] :: L) ((kl, .lst ([.bl false, .bl false, .bl true] ++ [.bl false])) :: (l, .lst (cs.map V.int)) :: M) Hd := by walk_at "sa2"
        exact (qd) t kl l _ hSf
      · rw [ans5s hP he hj] at qd
        walk_at "cat"
        walk_at "gn"
        rename_i k1 Ha hSa k2 Hb hSb
        clear hSa h1
        refine Sa.st_cat hSb (xs := [.bl false, .bl false, .bl true]) (ys := [.bl false]) (by walk_at "at") (by walk_at "at") (show 3 + 1 ≤ 100000 by decide) (fun kl Hc hSc => ?_)
        clear hSb
        walk_at "gn"
        refine Sa.if_no (fun h => V.noConfusion h) ?_
        walk_at "gn"
        rename_i t Hd hSd
        have hSf : SA (Sa.fU t [.ref kl, .int (cs.getD j 0)] :: L) ((kl, .lst ([.bl false, .bl false, .bl true] ++ [.bl false])) :: M) Hd := by walk_at "sa2"
        exact (qd) t kl _ hSf
      · rw [ans5n hP he hj] at qd
        walk_at "gn"
        refine Sa.if_yes rfl ?_
        walk_at "gn"
        refine st_isiLst h1 (by walk_at "at") ?_
        refine Sa.st_ne rfl ?_
        walk_at "gn"
        refine Sa.if_yes rfl ?_
        walk_at "gn"
        exact (qd) _ (by walk_at "sa2")

structure G_bent where
  F : List Int
  o : HO
  k : Int
  x : Option V
  y : Option V
  z : Option V
  w : Option V
def Bd (ns : List Int) : Prop := ∀ n ∈ ns, -1000000000 ≤ n ∧ n ≤ 1000000000
theorem bd_set {ns : List Int} {i : Nat} {v : Int} (h : Bd ns) (h1 : -1000000000 ≤ v) (h2 : v ≤ 1000000000) : Bd (ns.set i v) := fun n hn => by
  rcases List.mem_or_eq_of_mem_set hn with h3 | h3
  · exact h n h3
  · rw [h3]; exact ⟨h1, h2⟩
def sp__law_bent (K : PySem.W.Frag) : Sp := fun vs H Q _ => ∃ (p a : Addr), vs = [.ref p, .ref a] ∧ ∃ (L : List Fc) (M : List Cell) (o : HO) (k : Int) (ns : List Int), SA L ((p, o) :: M) H ∧ At L M (fL a (ns.map V.int)) ∧ Jar o k ∧ k ≤ 900000000 ∧ Bd ns ∧ ns.length ≤ 1000 ∧
  ∀ f ms o' k' H', Bd ms → ms.length = ns.length → Jar o' k' → k' ≤ k + 10000 → SA L ((f, .lst (ms.map V.int)) :: (p, o') :: M) H' → Q (.ref f) H'
local macro_rules | `(tactic| walk_at "call") => `(tactic| first
  | ((with_reducible show sp__law_dip _ _ _ _ _); refine call_dip (Sa.SA.front (by assumption) (by walk_at "del")) (by assumption) (by omega) (by omega) (by omega) (fun _ _ _ _ _ _ _ _ _ => ?_)))
theorem sc__law_bent : FnScope ["_law_bowl_here", "_law_writes_here", "_law_found", "_law_turn", "_law_spot", "_law_odd", "_law_number_here"] ["_law_bowl_here", "_law_writes_here"] (defScope s__law_bent) := ⟨rfl, rfl, rfl, by decide +kernel, rfl, by decide +kernel, by decide +kernel⟩
abbrev Ok__law_bent (P : Program) (w : World) (K : PySem.W.Frag) (mg : Str → Option Value) (base : Heap) : Prop := ∃ f fd, Fun K "_law_bent" "_law_bent" s__law_bent f fd ∧ mg "_law_bent" = some (.ref f) ∧ FnOk P w K mg base CX0 2 f fd ["_law_bowl_here", "_law_writes_here"] (sp__law_bent K)
theorem ok__law_bent {P : Program} {w : World} {K : PySem.W.Frag} {mg : Str → Option Value} {base : Heap} (T : Top K mg) (h__law_dip : Ok__law_dip P w K mg base) : Ok__law_bent P w K mg base := by
  obtain ⟨f, fd, F, m⟩ := T.d__law_bent
  obtain ⟨f__law_dip, fd__law_dip, F__law_dip, m__law_dip, G__law_dip⟩ := h__law_dip
  have b__law_dip := F__law_dip.binds (ps := ["_law_bowl_here", "_law_many"]) (fun _ _ _ _ _ _ us hl => match us, hl with | [_, _], _ => rfl)
  refine ⟨f, fd, F, m, F.ok sc__law_bent (fun vs H Q E h => by first | (obtain ⟨_, rfl, _⟩ := h; rfl) | (obtain ⟨_, _, rfl, _⟩ := h; rfl) | (obtain ⟨_, _, _, rfl, _⟩ := h; rfl) | (obtain ⟨_, _, _, _, rfl, _⟩ := h; rfl) | (obtain ⟨_, _, _, _, _, rfl, _⟩ := h; rfl) | (obtain ⟨_, _, _, _, _, _, rfl, _⟩ := h; rfl) | (obtain ⟨_, _, _, _, _, _, _, rfl, _⟩ := h; rfl) | (obtain ⟨_, _, _, _, _, _, _, _, rfl, _⟩ := h; rfl)) (fun cdv A outer s H vs Q E hr h => ?_)⟩
  refine ⟨_, (pss_cons (ps_set (i := 2) sc__law_bent.nd rfl (.inl rfl) (pe_callTy Sa.call_list_of (by rfl) T.z_list (by decide +kernel) (pa_cons (pv 1) pa_nil)))
      (pss_cons (ps_for PassesOwn.never rfl (pi_range1 (by rfl) T.z_range (pa_cons (pe_call G__law_dip (hr.mono (by first | decide | omega)) (by rfl) m__law_dip F__law_dip.kp b__law_dip .nil pass0 (pa_cons (pv 0) (pa_cons pe_int pa_nil))) pa_nil)) (pg_name (i := 3) sc__law_bent.nd rfl (.inl rfl)) (pss_one (ps_if (pt_cmpR (op_neD hr.units) (pv 2) (pe_lst pa_nil) (nomark _)) (pss_cons (ps_par (i := 4) (j := 5) (by rfl) sc__law_bent.nd rfl rfl (by decide) rfl rfl (pa_cons (pe_call G__law_dip (hr.mono (by first | decide | omega)) (by rfl) m__law_dip F__law_dip.kp b__law_dip .nil pass0 (pa_cons (pv 0) (pa_cons (pe_callB Sa.call_len (by rfl) T.z_len boot_len (pa_cons (pv 2) pa_nil)) pa_nil))) (pa_cons (pe_call G__law_dip (hr.mono (by first | decide | omega)) (by rfl) m__law_dip F__law_dip.kp b__law_dip .nil pass0 (pa_cons (pv 0) (pa_cons pe_int pa_nil))) pa_nil)) (by rfl))
      (pss_cons (ps_set (i := 6) sc__law_bent.nd rfl (.inl rfl) (pe_ix ix_list (pe_lst (pa_cons pe_int (pa_cons (pe_un un_neg pe_int) (pa_cons (pe_op op_add (pe_ix ix_list (pv 2) (pv 4) (fun _ _ => rfl)) pe_int) (pa_cons (pe_op op_sub (pe_ix ix_list (pv 2) (pv 4) (fun _ _ => rfl)) pe_int) (pa_cons (pe_op op_add (pe_callB (cr_max rfl) (by rfl) T.z_max (by decide +kernel) (pa_cons (pe_op op_cat (pe_slice sl_list (pv 2) po_none (po_some (pv 4))) (pe_lst (pa_cons pe_int pa_nil))) pa_nil)) pe_int) (pa_cons pe_int (pa_cons pe_int (pa_cons pe_int pa_nil))))))))) (pv 5) (fun _ _ => rfl)))
      (pss_cons (ps_if (pt_cmpR op_gt (pv 5) pe_int (nomark _)) (pss_one (ps_set (i := 6) sc__law_bent.nd rfl (.inl rfl) (pe_op op_sub (pe_call G__law_dip (hr.mono (by first | decide | omega)) (by rfl) m__law_dip F__law_dip.kp b__law_dip .nil pass0 (pa_cons (pv 0) (pa_cons (pe_op op_add (pe_op Sa.op_mulX pe_int (pe_op Sa.op_powW pe_int pe_int)) pe_int) pa_nil))) (pe_op Sa.op_powW pe_int pe_int)))) pss_nil)
      (pss_one (ps_asg (pe_callB (Sa.call_max2 rfl) (by rfl) T.z_max (by decide +kernel) (pa_cons (pe_un un_neg (pe_op Sa.op_powW pe_int pe_int)) (pa_cons (pe_callB (Sa.call_min2 rfl) (by rfl) T.z_min (by decide +kernel) (pa_cons (pe_op Sa.op_powW pe_int pe_int) (pa_cons (pv 6) pa_nil))) pa_nil))) (pg_sub (pv 2) (pv 4) set_list)))))) pss_nil)))
      (pss_one (ps_ret (pv 2))))), ?_⟩
  obtain ⟨p, a, rfl, L, M, o, k, ns, hS, hA, hj, hk, hB, hl, q⟩ := h
  walk_at "st"
  walk_at "s1"
  walk_at "s1"
  walk_at "s1"
  walk_at "s1"
  walk_at "s1"
  walk_at "s1"
  refine Sa.st_listOf (by assumption) (by walk_at "at") (fun X_f X_H hSf => ?_)
  walk_at "gn"
  refine call_dip (Sa.SA.front (by assumption) (by walk_at "del")) (by assumption) (by omega) (by omega) (by omega) (fun r0 o1 k1 H1 hr0 hr1 hj1 hk1 hS1 => ?_)
  walk_at "gn"
  refine Sa.st_r1 (n := r0.toNat) rfl (by omega) (by omega) ?_
  refine Sa.lp_rng (γ := G_bent) (fun i g => [some (.ref p), some (.ref a), some (.ref X_f), g.x, g.y, g.z, g.w]) (fun _ _ => L) (fun _ g => (X_f, .lst (g.F.map V.int)) :: (p, g.o) :: M)
    (fun i g => Bd g.F ∧ g.F.length = ns.length ∧ Jar g.o g.k ∧ g.k ≤ k + 1 + 3 * i) ⟨⟨ns, o1, k1, none, none, none, none⟩, rfl, ⟨hB, rfl, hj1, by show k1 ≤ k + 1 + 3 * ((0 : Nat) : Int); omega⟩, Sa.SA.front (by assumption) (by walk_at "del")⟩ ?_ ?_
  · rintro i ⟨F, o4, k4, x, y, z, w⟩ H4 hi ⟨hP, hl4, hj4, hk4⟩ hS4
    simp only at hP hl4 hj4 hk4 hS4
    have fin : ∀ (u : Int) (j : Nat) (o6 : HO) (k6 : Int) (H6 : Hp) (v6 v7 v8 v9 : Option V), SA L ((X_f, .lst ((F.set j u).map V.int)) :: (p, o6) :: M) H6 → -1000000000 ≤ u → u ≤ 1000000000 → Jar o6 k6 → k6 ≤ k4 + 3 →
        Iv (γ := G_bent) (fun i g => [some (.ref p), some (.ref a), some (.ref X_f), g.x, g.y, g.z, g.w]) (fun _ _ => L) (fun _ g => (X_f, .lst (g.F.map V.int)) :: (p, g.o) :: M)
          (fun i g => Bd g.F ∧ g.F.length = ns.length ∧ Jar g.o g.k ∧ g.k ≤ k + 1 + 3 * i) (i + 1) [some (.ref p), some (.ref a), some (.ref X_f), v6, v7, v8, v9] H6 := fun u j o6 k6 H6 v6 v7 v8 v9 h5 h1 h2 h3 h4 =>
      ⟨⟨F.set j u, o6, k6, v6, v7, v8, v9⟩, rfl, ⟨bd_set hP h1 h2, by rw [List.length_set]; exact hl4, h3, by show k6 ≤ k + 1 + 3 * ((i + 1 : Nat) : Int); omega⟩, h5⟩
    walk_at "nm"
    walk_at "gn"
    refine Sa.if_dec (fun hF => ?_) (fun hF => ?_)
    · walk_at "gn"
      exact ⟨⟨F, o4, k4, _, y, z, w⟩, rfl, ⟨hP, hl4, hj4, by show k4 ≤ k + 1 + 3 * ((i + 1 : Nat) : Int); omega⟩, by walk_at "sa"⟩
    · have hF1 : 0 < F.length := List.length_pos_iff.mpr hF
      walk_at "gn"
      try rw [List.length_map]
      refine call_dip (Sa.SA.front (by assumption) (by walk_at "del")) (by assumption) (by omega) (by omega) (by omega) (fun sp o5 k5 H5 hr0 hr1 hj5 hk5 hS5 => ?_)
      walk_at "gn"
      refine call_dip (by assumption) (by assumption) (by omega) (by omega) (by omega) (fun od o6 k6 H6 ho0 ho1 hj6 hk6 hS6 => ?_)
      walk_at "gn"
      refine Sa.st_max (by assumption) (by walk_at "at") (by walk_at "om") (fun mx _ _ => ?_)
      walk_at "gn"
      refine Sa.st_menu (ms := [_, _, _, _, _, _, _, _]) (fun x => True) (by assumption) (by walk_at "at") rfl ho0 (by walk_at "om") (fun _ _ => trivial) (fun x hx => ?_)
      walk_at "gn"
      refine Sa.if_dec (fun h3 => ?_) (fun h3 => ?_)
      · walk_at "gn"
        refine call_dip (Sa.SA.front (by assumption) (by walk_at "del")) (by assumption) (by omega) (by omega) (by omega) (fun r7 o7 k7 H7 hr7 hr8 hj7 hk7 hS7 => ?_)
        walk_at "gn"
        exact fin _ _ o7 k7 _ _ _ _ _ (by walk_at "sa") (by omega) (by omega) hj7 (by omega)
      · walk_at "gn"
        exact fin _ _ o6 k6 _ _ _ _ _ (by walk_at "sa") (by omega) (by omega) hj6 (by omega)
  · rintro ⟨F, o4, k4, x, y, z, w⟩ H4 ⟨hP, hl4, hj4, hk4⟩ hS4
    simp only at hP hl4 hj4 hk4 hS4
    walk_at "gn"
    exact q _ F o4 k4 H4 hP hl4 hj4 (by omega) hS4

structure G_oc where
  cs : List Int
  o : HO
  k : Int
  x4 : Option V
  x5 : Option V
  x6 : Option V
  x7 : Option V
def sp__law_odd_course (K : PySem.W.Frag) : Sp := fun vs H Q _ => ∃ (p a : Addr), vs = [.ref p, .ref a] ∧ ∃ (L : List Fc) (M : List Cell) (o : HO) (k : Int) (cs : List Int), SA L ((p, o) :: M) H ∧ At L M (fL a (cs.map V.int)) ∧ Jar o k ∧ k ≤ 900000000 ∧ cs.length ≤ 900 ∧
  ∀ f (ms : List Int) o' k' H', ms.length ≤ cs.length + 1 → Jar o' k' → k' ≤ k + 100 → SA L ((f, .lst (ms.map V.int)) :: (p, o') :: M) H' → Q (.ref f) H'
local macro_rules | `(tactic| walk_at "call") => `(tactic| first
  | ((with_reducible show sp__law_dip _ _ _ _ _); refine call_dip (Sa.SA.front (by assumption) (by walk_at "del")) (by assumption) (by omega) (by omega) (by omega) (fun _ _ _ _ _ _ _ _ _ => ?_)))
theorem sc__law_odd_course : FnScope ["_law_bowl_here", "_law_course_here", "_law_found", "_law_way", "_law_turn", "_law_spot", "_law_off", "_law_far"] ["_law_bowl_here", "_law_course_here"] (defScope s__law_odd_course) := ⟨rfl, rfl, rfl, by decide +kernel, rfl, by decide +kernel, by decide +kernel⟩
abbrev Ok__law_odd_course (P : Program) (w : World) (K : PySem.W.Frag) (mg : Str → Option Value) (base : Heap) : Prop := ∃ f fd, Fun K "_law_odd_course" "_law_odd_course" s__law_odd_course f fd ∧ mg "_law_odd_course" = some (.ref f) ∧ FnOk P w K mg base CX0 2 f fd ["_law_bowl_here", "_law_course_here"] (sp__law_odd_course K)
theorem ok__law_odd_course {P : Program} {w : World} {K : PySem.W.Frag} {mg : Str → Option Value} {base : Heap} (T : Top K mg) (h__law_dip : Ok__law_dip P w K mg base) : Ok__law_odd_course P w K mg base := by
  obtain ⟨f, fd, F, m⟩ := T.d__law_odd_course
  obtain ⟨f__law_dip, fd__law_dip, F__law_dip, m__law_dip, G__law_dip⟩ := h__law_dip
  have b__law_dip := F__law_dip.binds (ps := ["_law_bowl_here", "_law_many"]) (fun _ _ _ _ _ _ us hl => match us, hl with | [_, _], _ => rfl)
  refine ⟨f, fd, F, m, F.ok sc__law_odd_course (fun vs H Q E h => by first | (obtain ⟨_, rfl, _⟩ := h; rfl) | (obtain ⟨_, _, rfl, _⟩ := h; rfl) | (obtain ⟨_, _, _, rfl, _⟩ := h; rfl) | (obtain ⟨_, _, _, _, rfl, _⟩ := h; rfl) | (obtain ⟨_, _, _, _, _, rfl, _⟩ := h; rfl) | (obtain ⟨_, _, _, _, _, _, rfl, _⟩ := h; rfl) | (obtain ⟨_, _, _, _, _, _, _, rfl, _⟩ := h; rfl) | (obtain ⟨_, _, _, _, _, _, _, _, rfl, _⟩ := h; rfl)) (fun cdv A outer s H vs Q E hr h => ?_)⟩
  refine ⟨_, (pss_cons (ps_par (i := 2) (j := 3) (by rfl) sc__law_odd_course.nd rfl rfl (by decide) rfl rfl (pa_cons (pe_callTy Sa.call_list_of (by rfl) T.z_list (by decide +kernel) (pa_cons (pv 1) pa_nil)) (pa_cons (pe_call G__law_dip (hr.mono (by first | decide | omega)) (by rfl) m__law_dip F__law_dip.kp b__law_dip .nil pass0 (pa_cons (pv 0) (pa_cons pe_int pa_nil))) pa_nil)) (by rfl))
      (Evl.pss_cut (ps_if (pt_cmpR op_eq (pv 3) pe_int (nomark _)) (pss_one (ps_expr (pe_bm PySem.F.plainAttrs_list PySem.F.slot_list_append PySem.F.type_list_append mt_append (pv 2) (pa_cons (pe_call G__law_dip (hr.mono (by first | decide | omega)) (by rfl) m__law_dip F__law_dip.kp b__law_dip .nil pass0 (pa_cons (pv 0) (pa_cons pe_int pa_nil))) pa_nil)))) pss_nil)
      (Evl.pss_cut (ps_if (pt_cmpR op_eq (pv 3) pe_int (nomark _)) (pss_one (ps_set (i := 2) sc__law_odd_course.nd rfl (.inl rfl) (pe_slice sl_list (pv 2) po_none (po_some (pe_call G__law_dip (hr.mono (by first | decide | omega)) (by rfl) m__law_dip F__law_dip.kp b__law_dip .nil pass0 (pa_cons (pv 0) (pa_cons (pe_op op_add (pe_callB Sa.call_len (by rfl) T.z_len boot_len (pa_cons (pv 2) pa_nil)) pe_int) pa_nil))))))) pss_nil)
      (Evl.pss_cut (ps_if (PW.pt (pw_and (pt_cmpR op_gt (pv 3) pe_int (nomark _)) (pw_and1 (pt_cmpR (op_neD hr.units) (pv 2) (pe_lst pa_nil) (nomark _))))) (pss_one (ps_for PassesOwn.never rfl (pi_range1 (by rfl) T.z_range (pa_cons (pe_op op_add pe_int (pe_call G__law_dip (hr.mono (by first | decide | omega)) (by rfl) m__law_dip F__law_dip.kp b__law_dip .nil pass0 (pa_cons (pv 0) (pa_cons pe_int pa_nil)))) pa_nil)) (pg_name (i := 4) sc__law_odd_course.nd rfl (.inl rfl)) (pss_cons (ps_par (i := 5) (j := 6) (by rfl) sc__law_odd_course.nd rfl rfl (by decide) rfl rfl (pa_cons (pe_call G__law_dip (hr.mono (by first | decide | omega)) (by rfl) m__law_dip F__law_dip.kp b__law_dip .nil pass0 (pa_cons (pv 0) (pa_cons (pe_callB Sa.call_len (by rfl) T.z_len boot_len (pa_cons (pv 2) pa_nil)) pa_nil))) (pa_cons (pe_call G__law_dip (hr.mono (by first | decide | omega)) (by rfl) m__law_dip F__law_dip.kp b__law_dip .nil pass0 (pa_cons (pv 0) (pa_cons pe_int pa_nil))) pa_nil)) (by rfl))
      (pss_cons (ps_set (i := 7) sc__law_odd_course.nd rfl (.inl rfl) (pe_op op_sub (pe_call G__law_dip (hr.mono (by first | decide | omega)) (by rfl) m__law_dip F__law_dip.kp b__law_dip .nil pass0 (pa_cons (pv 0) (pa_cons (pe_op op_add (pe_op Sa.op_mulX pe_int (pe_op Sa.op_powW pe_int pe_int)) pe_int) pa_nil))) (pe_op Sa.op_powW pe_int pe_int)))
      (pss_one (ps_asg (pe_ix ix_list (pe_lst (pa_cons (pe_call G__law_dip (hr.mono (by first | decide | omega)) (by rfl) m__law_dip F__law_dip.kp b__law_dip .nil pass0 (pa_cons (pv 0) (pa_cons (pe_op op_add (pv 5) pe_int) pa_nil))) (pa_cons (pe_op op_add (pe_op op_add (pv 5) pe_int) (pv 6)) (pa_cons (pe_op op_sub (pe_un un_neg pe_int) (pv 6)) (pa_cons (pv 7) pa_nil))))) (pe_call G__law_dip (hr.mono (by first | decide | omega)) (by rfl) m__law_dip F__law_dip.kp b__law_dip .nil pass0 (pa_cons (pv 0) (pa_cons pe_int pa_nil))) (fun _ _ => rfl)) (pg_sub (pv 2) (pv 5) set_list))))))) pss_nil)
      (pss_one (ps_ret (pv 2))))))), ?_⟩
  obtain ⟨p, a, rfl, L, M, o, k, cs, hS, hA, hj, hk, hl, q⟩ := h
  walk_at "st"
  walk_at "gn"
  rename_i f H1 hS1
  walk_at "call"
  rename_i w o1 k1 H2 hw0 hw1 hj1 hk1 hS2
  clear hS hS1
  walk_at "gn"
  refine Sa.st_cut (Mid := fun σ H => ∃ (ms : List Int) (o5 : HO) (k5 : Int), σ = [some (.ref p), some (.ref a), some (.ref f), some (.int w), none, none, none, none] ∧ SA L ((f, .lst (ms.map V.int)) :: (p, o5) :: M) H ∧ Jar o5 k5 ∧ k5 ≤ k + 2 ∧ ms.length ≤ cs.length + 1) ?_ ?_
  · walk_at "gn"
    refine Sa.if_dec (fun h1 => ?_) (fun h1 => ?_)
    · walk_at "gn"
      walk_at "call"
      rename_i r o5 k5 H3 r0 r1 hj5 hk5 hS3
      walk_at "gn"
      exact ⟨_, o5, k5, rfl, by walk_at "sa2", hj5, by omega, by rw [List.length_append]; exact Nat.le_refl _⟩
    · walk_at "gn"
      exact ⟨cs, o1, k1, rfl, by walk_at "sa2", hj1, by omega, Nat.le_succ _⟩
  clear hS2 hj1 hk1
  rintro _ H3 ⟨ms, o2, k2, rfl, hS3, hj2, hk2, hml⟩
  walk_at "nm"
  refine Sa.st_cut (Mid := fun σ H => ∃ (f : Addr) (ms : List Int) (o5 : HO) (k5 : Int), σ = [some (.ref p), some (.ref a), some (.ref f), some (.int w), none, none, none, none] ∧ SA L ((f, .lst (ms.map V.int)) :: (p, o5) :: M) H ∧ Jar o5 k5 ∧ k5 ≤ k + 3 ∧ ms.length ≤ cs.length + 1) ?_ ?_
  · walk_at "gn"
    refine Sa.if_dec (fun h1 => ?_) (fun h1 => ?_)
    · walk_at "gn"
      walk_at "call"
      rename_i r o5 k5 H4 r0 r1 hj5 hk5 hS4
      walk_at "gn"
      rename_i f2 H5 hS5
      exact ⟨f2, _, o5, k5, rfl, by walk_at "sa2", hj5, by omega, by rw [List.length_take]; omega⟩
    · walk_at "gn"
      exact ⟨f, ms, o2, k2, rfl, by walk_at "sa2", hj2, by omega, hml⟩
  clear hS3 hj2 hk2 hml
  rintro _ H4 ⟨f, ms, o2, k2, rfl, hS4, hj2, hk2, hml⟩
  walk_at "nm"
  refine Sa.st_cut (Mid := fun σ H => ∃ (ms : List Int) (o5 : HO) (k5 : Int) (x4 x5 x6 x7 : Option V), σ = [some (.ref p), some (.ref a), some (.ref f), some (.int w), x4, x5, x6, x7] ∧ SA L ((f, .lst (ms.map V.int)) :: (p, o5) :: M) H ∧ Jar o5 k5 ∧ k5 ≤ k + 50 ∧ ms.length ≤ cs.length + 1) ?_ ?_
  · walk_at "gn"
    refine Sa.if_dec (fun h1 => ?_) (fun h1 => ?_)
    · walk_at "gn"
      rename_i el H5 hS5
      clear hS4
      refine Sa.if_dec (fun h2 => ?_) (fun h2 => ?_)
      · walk_at "gn"
        exact ⟨ms, o2, k2, _, _, _, _, rfl, by walk_at "sa2", hj2, by omega, hml⟩
      · have hmp := List.length_pos_iff.mpr h2
        walk_at "gn"
        walk_at "call"
        rename_i n o3 k3 H6 n0 n1 hj3 hk3 hS6
        clear hS5
        walk_at "gn"
        refine Sa.st_r1 (n := (1 + n).toNat) rfl (by omega) (by omega) ?_
        refine Sa.lp_rng (γ := G_oc) (fun i g => [some (.ref p), some (.ref a), some (.ref f), some (.int w), g.x4, g.x5, g.x6, g.x7]) (fun _ _ => L) (fun _ g => (f, .lst (g.cs.map V.int)) :: (p, g.o) :: M) (fun i g => g.cs.length = ms.length ∧ Jar g.o g.k ∧ g.k ≤ k + 4 + 10 * i) ⟨⟨ms, o3, k3, none, none, none, none⟩, rfl, ⟨rfl, hj3, by show k3 ≤ k + 4 + 10 * ((0 : Nat) : Int); omega⟩, by walk_at "sa2"⟩ ?_ ?_
        · rintro i ⟨ds, o4, k4, y4, y5, y6, y7⟩ H7 hi ⟨g1, g2, g3⟩ hS7
          simp only at g1 g2 g3 hS7
          clear hS6
          walk_at "nm"
          walk_at "gn"
          walk_at "call"
          rename_i sp oa ka Ha s0 s1 hja hka hSa
          clear hS7
          walk_at "gn"
          walk_at "call"
          rename_i of ob kb Hb t0 t1 hjb hkb hSb
          clear hSa
          walk_at "gn"
          walk_at "call"
          rename_i fr oc kc Hc u0 u1 hjc hkc hSc
          clear hSb
          walk_at "gn"
          walk_at "call"
          rename_i r1 od kd Hd v0 v1 hjd hkd hSd
          clear hSc
          walk_at "gn"
          rename_i dl He hSe
          clear hSd
          walk_at "call"
          rename_i r2 oe ke Hf w0 w1 hje hke hSf
          clear hSe
          walk_at "gn"
          refine Sa.st_one [_, _, _, _] (by assumption) (by walk_at "at") rfl (by omega) (by walk_at "om") (fun t ht => ?_)
          walk_at "gn"
          exact ⟨⟨ds.set sp.toNat t, oe, ke, _, _, _, _⟩, rfl, ⟨by show (ds.set sp.toNat t).length = _; rw [List.length_set]; exact g1, hje, by show ke ≤ k + 4 + 10 * ((i + 1 : Nat) : Int); omega⟩, by walk_at "sa2"⟩
        · rintro ⟨ds, o4, k4, y4, y5, y6, y7⟩ H7 ⟨g1, g2, g3⟩ hS7
          simp only at g1 g2 g3 hS7
          clear hS6
          walk_at "gn"
          exact ⟨ds, o4, k4, _, _, _, _, rfl, by walk_at "sa2", g2, by omega, by omega⟩
    · walk_at "gn"
      exact ⟨ms, o2, k2, _, _, _, _, rfl, by walk_at "sa2", hj2, by omega, hml⟩
  clear hS4 hj2 hk2 hml
  rintro _ H5 ⟨ms, o2, k2, x4, x5, x6, x7, rfl, hS5, hj2, hk2, hml⟩
  walk_at "nm"
  walk_at "gn"
  exact q f ms o2 k2 _ hml hj2 (by omega) hS5

structure G_crs where
  hv : List (Key × V)
  rows : List Row
  F : List Int
  o : HO
  k : Int
  x1 : Option V
  x2 : Option V
  x3 : Option V
  x4 : Option V
  x5 : Option V
def sp__law_course (K : PySem.W.Frag) : Sp := fun vs H Q _ => ∃ (p a : Addr), vs = [.ref p, .ref a] ∧ ∃ (L : List Fc) (M : List Cell) (o : HO) (k : Int) (ns : List Int), SA L ((p, o) :: M) H ∧ At L M (fL a (ns.map V.int)) ∧ Po ns ∧ ns.length ≤ 1000 ∧ Jar o k ∧ k ≤ 800000000 ∧
  ∀ (f : Addr) (cs : List Int) (o' : HO) (k' : Int) (H' : Hp), Cp ns cs ns.length → Jar o' k' → k' ≤ k + 5000 → SA L ((f, .lst (cs.map V.int)) :: (p, o') :: M) H' → Q (.ref f) H'
local macro_rules | `(tactic| walk_at "call") => `(tactic| first
  | ((with_reducible show sp__law_dip _ _ _ _ _); refine call_dip (Sa.SA.front (by assumption) (by walk_at "del")) (by assumption) (by omega) (by omega) (by omega) (fun _ _ _ _ _ _ _ _ _ => ?_)))
theorem sc__law_course : FnScope ["_law_bowl_here", "_law_writes_here", "_law_found", "_law_manner", "_law_having", "_law_spot", "_law_number_here", "_law_some", "_law_chosen", "_law_line"] ["_law_bowl_here", "_law_writes_here"] (defScope s__law_course) := ⟨rfl, rfl, rfl, by decide +kernel, rfl, by decide +kernel, by decide +kernel⟩
abbrev Ok__law_course (P : Program) (w : World) (K : PySem.W.Frag) (mg : Str → Option Value) (base : Heap) : Prop := ∃ f fd, Fun K "_law_course" "_law_course" s__law_course f fd ∧ mg "_law_course" = some (.ref f) ∧ FnOk P w K mg base CX0 2 f fd ["_law_bowl_here", "_law_writes_here"] (sp__law_course K)
theorem ok__law_course {P : Program} {w : World} {K : PySem.W.Frag} {mg : Str → Option Value} {base : Heap} (T : Top K mg) (h__law_dip : Ok__law_dip P w K mg base) : Ok__law_course P w K mg base := by
  obtain ⟨f, fd, F, m⟩ := T.d__law_course
  obtain ⟨f__law_dip, fd__law_dip, F__law_dip, m__law_dip, G__law_dip⟩ := h__law_dip
  have b__law_dip := F__law_dip.binds (ps := ["_law_bowl_here", "_law_many"]) (fun _ _ _ _ _ _ us hl => match us, hl with | [_, _], _ => rfl)
  refine ⟨f, fd, F, m, F.ok sc__law_course (fun vs H Q E h => by first | (obtain ⟨_, rfl, _⟩ := h; rfl) | (obtain ⟨_, _, rfl, _⟩ := h; rfl) | (obtain ⟨_, _, _, rfl, _⟩ := h; rfl) | (obtain ⟨_, _, _, _, rfl, _⟩ := h; rfl) | (obtain ⟨_, _, _, _, _, rfl, _⟩ := h; rfl) | (obtain ⟨_, _, _, _, _, _, rfl, _⟩ := h; rfl) | (obtain ⟨_, _, _, _, _, _, _, rfl, _⟩ := h; rfl) | (obtain ⟨_, _, _, _, _, _, _, _, rfl, _⟩ := h; rfl)) (fun cdv A outer s H vs Q E hr h => ?_)⟩
  refine ⟨_, (pss_cons (ps_par3 (i := 2) (j := 3) (l := 4) (by rfl) sc__law_course.nd rfl rfl rfl (by decide) (by decide) (by decide) rfl rfl rfl (pa_cons (pe_lst pa_nil) (pa_cons (pe_call G__law_dip (hr.mono (by first | decide | omega)) (by rfl) m__law_dip F__law_dip.kp b__law_dip .nil pass0 (pa_cons (pv 0) (pa_cons pe_int pa_nil))) (pa_cons (pe_disp (pps_cons pe_int (pe_lst (pa_cons pe_int pa_nil)) pps_nil) (by rfl) (by rfl) (fun z => by cases z) (by decide)) pa_nil))) (by rfl))
      (pss_cons (ps_for PassesOwn.never rfl (pi_enum (by rfl) T.z_enumerate (pa_cons (pv 1) pa_nil)) (pg_tup rfl (pgs_cons (pg_name (i := 5) sc__law_course.nd rfl (.inl rfl)) (pgs_cons (pg_name (i := 6) sc__law_course.nd rfl (.inl rfl)) pgs_nil))) (pss_cons (ps_set (i := 7) sc__law_course.nd rfl (.inl rfl) (pe_dget (hu_of hr) (pv 4) (pe_op op_sub (pv 6) pe_int) (fun _ _ => rfl)))
      (pss_cons (ps_set (i := 8) sc__law_course.nd rfl (.inl rfl) (pe_call G__law_dip (hr.mono (by first | decide | omega)) (by rfl) m__law_dip F__law_dip.kp b__law_dip .nil pass0 (pa_cons (pv 0) (pa_cons (pe_callB Sa.call_len (by rfl) T.z_len boot_len (pa_cons (pv 7) pa_nil)) pa_nil))))
      (Evl.pss_cut (ps_if (PW.pt (pw_and (pt_cmpR op_gt (pv 3) pe_int (nomark _)) (pw_and1 (pt_cmpR op_gt (pe_call G__law_dip (hr.mono (by first | decide | omega)) (by rfl) m__law_dip F__law_dip.kp b__law_dip .nil pass0 (pa_cons (pv 0) (pa_cons pe_int pa_nil))) pe_int (nomark _))))) (pss_one (ps_set (i := 8) sc__law_course.nd rfl (.inl rfl) (pe_ix ix_list (pe_lst (pa_cons (pv 8) (pa_cons pe_int (pa_cons (pe_op op_sub (pe_callB Sa.call_len (by rfl) T.z_len boot_len (pa_cons (pv 7) pa_nil)) pe_int) (pa_cons (pe_callB (Sa.call_max2 rfl) (by rfl) T.z_max (by decide +kernel) (pa_cons pe_int (pa_cons (pe_op op_sub (pe_callB Sa.call_len (by rfl) T.z_len boot_len (pa_cons (pv 7) pa_nil)) pe_int) pa_nil))) pa_nil))))) (pv 3) (fun _ _ => rfl)))) pss_nil)
      (pss_cons (ps_expr (pe_bm PySem.F.plainAttrs_list PySem.F.slot_list_append PySem.F.type_list_append mt_append (pv 2) (pa_cons (pe_ix ix_list (pv 7) (pv 8) (fun _ _ => rfl)) pa_nil)))
      (pss_cons (ps_set (i := 9) sc__law_course.nd rfl (.inl rfl) (pe_dsetd (pv 4) (pv 6) (pe_lst pa_nil) ⟨rfl, by rfl, rfl, rfl⟩))
      (pss_one (ps_expr (pe_bm PySem.F.plainAttrs_list PySem.F.slot_list_append PySem.F.type_list_append mt_append (pv 9) (pa_cons (pe_op op_add (pv 5) pe_int) pa_nil))))))))))
      (pss_one (ps_ret (pv 2))))), ?_⟩
  obtain ⟨p, a, rfl, L, M, o, k, ns, hS, hA, hP, hl, hj, hk, q⟩ := h
  walk_at "st"
  walk_at "gn"
  refine call_dip (Sa.SA.front (by assumption) (by walk_at "del")) hj (by omega) (by omega) (by omega) (fun mn o1 k1 H1 hr0 hr1 hj1 hk1 hS1 => ?_)
  walk_at "gn"
  rename_i f _ _ hd Hb hSb r0 Hc hSc
  refine Sa.st_DDs1 (Sa.SA.front hSc (by walk_at "del")) (fun H2 hS2 => ?_)
  clear hSc hSb hS1
  walk_at "gn"
  refine Sa.st_e1 hS2 (by walk_at "at") ?_
  refine Sa.lp_enum (γ := G_crs) (fun _ g => [some (.ref p), some (.ref a), some (.ref f), some (.int mn), some (.ref hd), g.x1, g.x2, g.x3, g.x4, g.x5]) (fun _ _ => L) (fun _ g => (p, g.o) :: (f, .lst (g.F.map V.int)) :: (hd, .dK g.hv) :: (g.rows.map rowC ++ M)) (fun i g => RwI ns i g.hv g.rows ∧ g.hv.length ≤ i + 1 ∧ Cp ns g.F i ∧ Jar g.o g.k ∧ g.k ≤ k + 1 + 2 * i)
    ⟨⟨_, [(r0, [0])], [], o1, k1, none, none, none, none, none⟩, rfl, ⟨rw_start ns r0, Sa.dput_len [] 0 _, ⟨rfl, fun j hj => absurd hj (Nat.not_lt_zero _)⟩, hj1, by show k1 ≤ k + 1 + 2 * ((0 : Nat) : Int); omega⟩, by
      show SA L ((p, o1) :: (f, .lst []) :: (hd, .dK (Sa.dput [] 0 (.ref r0))) :: (r0, .lst [.int 0]) :: M) _
      walk_at "sa2"⟩ (fun i g _ _ => Sa.At.tm (Sa.At.tm (Sa.At.tm (Sa.At.ap (Sa.At.q hA))))) ?_ ?_
  · rintro i y ⟨hv, rows, F, o2, k2, x1, x2, x3, x4, x5⟩ H3 hy ⟨hR, hvl, hF, hj2, hk2⟩ hS3
    simp only at hR hvl hF hj2 hk2 hS3
    clear hS2
    obtain ⟨n, hn, rfl⟩ := Sa.ints_at hy
    have hil := (List.getElem?_eq_some_iff.mp hn).1
    have en : ns.getD i 0 = n := by rw [List.getD_eq_getElem?_getD, hn]; rfl
    obtain ⟨⟨ra, xs⟩, hr, hdv, hx0, hx1, hxg⟩ := rw_at hP hil hR
    simp only at hdv hx0 hx1 hxg
    have hFl := hF.1
    have hAr : ∀ (o' : HO) (F' : List Int), At L ((p, o') :: (f, .lst (F'.map V.int)) :: (hd, .dK hv) :: (rows.map rowC ++ M)) (fL ra (xs.map V.int)) := fun o' F' => Sa.At.tm (Sa.At.tm (Sa.At.tm (Sa.At.cellL (mem_rows hr))))
    have hA1 := hAr o2 F
    rw [en] at hdv
    walk_at "nm"
    walk_at "gn"
    refine call_dip (Sa.SA.front hS3 (by walk_at "del")) hj2 (by omega) (by omega) (by omega) (fun c3 o3 k3 H4 hc0 hc1 hj3 hk3 hS4 => ?_)
    clear hS3
    have hA2 := hAr o3 F
    walk_at "gn"
    refine Sa.st_cut (Mid := fun σ H => ∃ (ch : Int) (o4 : HO) (k4 : Int), σ = [some (.ref p), some (.ref a), some (.ref f), some (.int mn), some (.ref hd), some (.int (i : Int)), some (.int n), some (.ref ra), some (.int ch), x5] ∧ 0 ≤ ch ∧ ch < xs.length ∧ Jar o4 k4 ∧ k4 ≤ k + 1 + 2 * ((i + 1 : Nat) : Int) ∧ SA L ((p, o4) :: (f, .lst (F.map V.int)) :: (hd, .dK hv) :: (rows.map rowC ++ M)) H) ?_ ?_
    · walk_at "gn"
      refine Sa.if_dec (fun h1 => ?_) (fun h1 => ?_)
      · walk_at "gn"
        refine call_dip (Sa.SA.front hS4 (by walk_at "del")) hj3 (by omega) (by omega) (by omega) (fun c4 o4 k4 H5 hd0 hd1 hj4 hk4 hS5 => ?_)
        clear hS4
        have hA3 := hAr o4 F
        walk_at "gn"
        refine Sa.if_dec (fun h2 => ?_) (fun h2 => ?_)
        · walk_at "gn"
          refine Sa.st_one [c3, 0, (xs.length : Int) - 1, max 0 ((xs.length : Int) - 2)] (by assumption) (by walk_at "at") rfl hr0 (by show mn < 4; omega) (fun x hx => ?_)
          have hxb : 0 ≤ x ∧ x < xs.length := by
            rcases List.mem_cons.mp hx with h | hx
            · omega
            rcases List.mem_cons.mp hx with h | hx
            · omega
            rcases List.mem_cons.mp hx with h | hx
            · omega
            rw [List.mem_singleton.mp hx]
            omega
          walk_at "gn"
          exact ⟨x, o4, k4, rfl, hxb.1, hxb.2, hj4, by omega, by walk_at "sa2"⟩
        · walk_at "gn"
          exact ⟨c3, o4, k4, rfl, hc0, hc1, hj4, by omega, hS5⟩
      · walk_at "gn"
        exact ⟨c3, o3, k3, rfl, hc0, hc1, hj3, by omega, hS4⟩
    rintro _ H6 ⟨ch, o4, k4, rfl, hch0, hch1, hj4, hk4, hS6⟩
    clear hS4
    have hA4 := hAr o4 F
    walk_at "gn"
    rename_i Hf hSf nw Hn hSn
    clear hSf hS6
    have hn1 := (po_at hP hil).1
    rw [en] at hn1
    have hxm : xs.getD ch.toNat 0 ∈ xs := getD_mem (by omega)
    have hcn := cp_next hF (hxg _ hxm)
    refine st_DSc (kvs := hv) (Sa.SA.front hSn (by walk_at "del")) (by omega) (fun hv2 H9 hdv2 hvl2 hS9 => ?_)
    clear hSn
    have hdn := hR.dv n
    rw [if_pos (by omega)] at hdn
    cases hrn : rows[n.toNat]? with
    | some r2 =>
      rw [hrn] at hdn
      replace hdn : Sa.dv hv n = some (.ref r2.1) := hdn
      obtain ⟨q1, q2, q3⟩ := hR.gap _ _ hrn
      rw [hdn]
      have hA5 : At L ((hd, .dK hv2) :: (nw, .lst []) :: (p, o4) :: (f, .lst ((F ++ [xs.getD ch.toNat 0]).map V.int)) :: (rows.map rowC ++ M)) (fL r2.1 (r2.2.map V.int)) := Sa.At.tm (Sa.At.tm (Sa.At.tm (Sa.At.tm (Sa.At.cellL (mem_rows hrn)))))
      show gName 9 (V.ref r2.1) _ H9 _
      walk_at "gn"
      refine Sa.st_appI (ns := r2.2) (w := (i : Int) + 1) hS9 (.tl (.tl (.tl (.tl (chg_rows hrn))))) (by omega) (fun H10 hS10 => ?_)
      have hR2 := rw_old (r := r2) hP hil hR (by rw [en]; exact hrn)
      rw [en] at hR2
      walk_at "gn"
      refine ⟨⟨hv2, rows.set n.toNat (r2.1, r2.2 ++ [(i : Int) + 1]), F ++ [xs.getD ch.toNat 0], o4, k4, _, _, _, _, _⟩, rfl, ⟨rw_dv hR2 fun v => ?_, by show hv2.length ≤ i + 1 + 1; omega, hcn, hj4, hk4⟩, by walk_at "sa2"⟩
      rw [hdv2 v]
      by_cases c : v = n
      · rw [if_pos c, c, hdn]
        rfl
      · rw [if_neg c]
    | none =>
      rw [hrn] at hdn
      replace hdn : Sa.dv hv n = none := hdn
      rw [hdn]
      have hR2 := rw_new (a := nw) hP hil hR (by rw [en]; exact hrn)
      rw [en] at hR2
      have hA6 : At L ((hd, .dK hv2) :: (nw, .lst []) :: (p, o4) :: (f, .lst ((F ++ [xs.getD ch.toNat 0]).map V.int)) :: (rows.map rowC ++ M)) (fL nw (([] : List Int).map V.int)) := Sa.At.tm (Sa.At.nilL List.mem_cons_self)
      show gName 9 (V.ref nw) _ H9 _
      walk_at "gn"
      refine ⟨⟨hv2, rows ++ [(nw, [(i : Int) + 1])], F ++ [xs.getD ch.toNat 0], o4, k4, _, _, _, _, _⟩, rfl, ⟨rw_dv hR2 fun v => ?_, by show hv2.length ≤ i + 1 + 1; omega, hcn, hj4, hk4⟩, ?_⟩
      · rw [hdv2 v, Sa.dv_put]
        by_cases c : v = n
        · rw [if_pos c, if_pos c, hdn]
          rfl
        · rw [if_neg c, if_neg c]
      · show SA L ((p, o4) :: (f, .lst ((F ++ [xs.getD ch.toNat 0]).map V.int)) :: (hd, .dK hv2) :: ((rows ++ [(nw, [(i : Int) + 1])]).map rowC ++ M)) _
        have er : (rows ++ [(nw, [(i : Int) + 1])]).map rowC ++ M = rows.map rowC ++ (nw, HO.lst [V.int ((i : Int) + 1)]) :: M := by
          rw [List.map_append, List.append_assoc]
          rfl
        rw [er]
        walk_at "sa2"
  · rintro ⟨hv, rows, F, o2, k2, x1, x2, x3, x4, x5⟩ H3 ⟨hR, hvl, hF, hj2, hk2⟩ hS3
    simp only [List.length_map] at hR hvl hF hj2 hk2 hS3
    clear hS2
    walk_at "gn"
    exact q f F o2 k2 _ hF hj2 (by omega) (by walk_at "sa2")

structure G_writes where
  F : List Int
  t : Int
  o : HO
  k : Int
  x : Option V
  y : Option V
  z : Option V
def sp__law_writes (K : PySem.W.Frag) : Sp := fun vs H Q _ => ∃ (p : Addr) (n : Int), vs = [.ref p, .int n] ∧ ∃ (L : List Fc) (M : List Cell) (o : HO) (k : Int), SA L ((p, o) :: M) H ∧ Jar o k ∧ 0 ≤ n ∧ n ≤ 1000 ∧ k ≤ 900000000 ∧
  ∀ f ns o' k' H', Po ns → (ns.length : Int) ≤ n → Jar o' k' → k' ≤ k + 10000 → SA L ((f, .lst (ns.map V.int)) :: (p, o') :: M) H' → Q (.ref f) H'
local macro_rules | `(tactic| walk_at "call") => `(tactic| first
  | ((with_reducible show sp__law_dip _ _ _ _ _); refine call_dip (Sa.SA.front (by assumption) (by walk_at "del")) (by assumption) (by omega) (by omega) (by omega) (fun _ _ _ _ _ _ _ _ _ => ?_)))
theorem sc__law_writes : FnScope ["_law_bowl_here", "_law_most", "_law_manner", "_law_size", "_law_found", "_law_top", "_law_turn", "_law_before", "_law_number_here"] ["_law_bowl_here", "_law_most"] (defScope s__law_writes) := ⟨rfl, rfl, rfl, by decide +kernel, rfl, by decide +kernel, by decide +kernel⟩
abbrev Ok__law_writes (P : Program) (w : World) (K : PySem.W.Frag) (mg : Str → Option Value) (base : Heap) : Prop := ∃ f fd, Fun K "_law_writes" "_law_writes" s__law_writes f fd ∧ mg "_law_writes" = some (.ref f) ∧ FnOk P w K mg base CX0 2 f fd ["_law_bowl_here", "_law_most"] (sp__law_writes K)
theorem ok__law_writes {P : Program} {w : World} {K : PySem.W.Frag} {mg : Str → Option Value} {base : Heap} (T : Top K mg) (h__law_dip : Ok__law_dip P w K mg base) : Ok__law_writes P w K mg base := by
  obtain ⟨f, fd, F, m⟩ := T.d__law_writes
  obtain ⟨f__law_dip, fd__law_dip, F__law_dip, m__law_dip, G__law_dip⟩ := h__law_dip
  have b__law_dip := F__law_dip.binds (ps := ["_law_bowl_here", "_law_many"]) (fun _ _ _ _ _ _ us hl => match us, hl with | [_, _], _ => rfl)
  refine ⟨f, fd, F, m, F.ok sc__law_writes (fun vs H Q E h => by first | (obtain ⟨_, rfl, _⟩ := h; rfl) | (obtain ⟨_, _, rfl, _⟩ := h; rfl) | (obtain ⟨_, _, _, rfl, _⟩ := h; rfl) | (obtain ⟨_, _, _, _, rfl, _⟩ := h; rfl) | (obtain ⟨_, _, _, _, _, rfl, _⟩ := h; rfl) | (obtain ⟨_, _, _, _, _, _, rfl, _⟩ := h; rfl) | (obtain ⟨_, _, _, _, _, _, _, rfl, _⟩ := h; rfl) | (obtain ⟨_, _, _, _, _, _, _, _, rfl, _⟩ := h; rfl)) (fun cdv A outer s H vs Q E hr h => ?_)⟩
  refine ⟨_, (pss_cons (ps_par (i := 2) (j := 3) (by rfl) sc__law_writes.nd rfl rfl (by decide) rfl rfl (pa_cons (pe_call G__law_dip (hr.mono (by first | decide | omega)) (by rfl) m__law_dip F__law_dip.kp b__law_dip .nil pass0 (pa_cons (pv 0) (pa_cons pe_int pa_nil))) (pa_cons (pe_call G__law_dip (hr.mono (by first | decide | omega)) (by rfl) m__law_dip F__law_dip.kp b__law_dip .nil pass0 (pa_cons (pv 0) (pa_cons (pe_op op_add (pv 1) pe_int) pa_nil))) pa_nil)) (by rfl))
      (pss_cons (ps_par (i := 4) (j := 5) (by rfl) sc__law_writes.nd rfl rfl (by decide) rfl rfl (pa_cons (pe_lst pa_nil) (pa_cons pe_int pa_nil)) (by rfl))
      (pss_cons (ps_for PassesOwn.never rfl (pi_range1 (by rfl) T.z_range (pa_cons (pv 3) pa_nil)) (pg_name (i := 6) sc__law_writes.nd rfl (.inl rfl)) (pss_cons (ps_set (i := 7) sc__law_writes.nd rfl (.inl rfl) (pe_ifExp (pt_cmpR (op_neD hr.units) (pv 4) (pe_lst pa_nil) (nomark _)) (pe_ix ix_list (pv 4) (pe_un un_neg pe_int) (fun _ _ => rfl)) pe_int))
      (pss_cons (ps_set (i := 8) sc__law_writes.nd rfl (.inl rfl) (pe_op op_add pe_int (pe_call G__law_dip (hr.mono (by first | decide | omega)) (by rfl) m__law_dip F__law_dip.kp b__law_dip .nil pass0 (pa_cons (pv 0) (pa_cons (pe_op op_add (pv 5) pe_int) pa_nil)))))
      (pss_cons (ps_if (pt_cmpR op_gt (pe_call G__law_dip (hr.mono (by first | decide | omega)) (by rfl) m__law_dip F__law_dip.kp b__law_dip .nil pass0 (pa_cons (pv 0) (pa_cons pe_int pa_nil))) pe_int (nomark _)) (pss_one (ps_set (i := 8) sc__law_writes.nd rfl (.inl rfl) (pe_ix ix_list (pe_lst (pa_cons (pv 8) (pa_cons (pe_op op_add (pv 5) pe_int) (pa_cons (pe_op op_add (pv 7) pe_int) (pa_cons pe_int (pa_cons (pe_callB (Sa.call_max2 rfl) (by rfl) T.z_max (by decide +kernel) (pa_cons pe_int (pa_cons (pv 7) pa_nil))) (pa_cons (pe_callB (Sa.call_min2 rfl) (by rfl) T.z_min (by decide +kernel) (pa_cons (pv 8) (pa_cons pe_int pa_nil))) pa_nil))))))) (pv 2) (fun _ _ => rfl)))) pss_nil)
      (pss_cons (ps_expr (pe_bm PySem.F.plainAttrs_list PySem.F.slot_list_append PySem.F.type_list_append mt_append (pv 4) (pa_cons (pv 8) pa_nil)))
      (pss_one (ps_set (i := 5) sc__law_writes.nd rfl (.inl rfl) (pe_callB (Sa.call_max2 rfl) (by rfl) T.z_max (by decide +kernel) (pa_cons (pv 5) (pa_cons (pv 8) pa_nil))))))))))
      (pss_one (ps_ret (pv 4)))))), ?_⟩
  obtain ⟨p, n, rfl, L, M, o, k, hS, hj, hn, hn2, hk, q⟩ := h
  walk_at "st"
  walk_at "go"
  refine call_dip (by assumption) (by assumption) (by omega) (by omega) (by omega) (fun manner o1 k1 H1 hm0 hm1 hj1 hk1 hS1 => ?_)
  walk_at "go"
  refine call_dip (by assumption) (by assumption) (by omega) (by omega) (by omega) (fun size o2 k2 H2 hs0 hs1 hj2 hk2 hS2 => ?_)
  walk_at "go"
  refine Sa.st_newL (by assumption) (by walk_at "om") (fun f H3 hS3 => ?_)
  walk_at "go"
  refine Sa.st_r1 (n := size.toNat) rfl (by omega) (by omega) ?_
  refine Sa.lp_rng (γ := G_writes) (fun i g => [some (.ref p), some (.int n), some (.int manner), some (.int size), some (.ref f), some (.int g.t), g.x, g.y, g.z]) (fun _ _ => L) (fun _ g => (f, .lst (g.F.map V.int)) :: (p, g.o) :: M)
    (fun i g => Po g.F ∧ g.t = top g.F ∧ g.F.length = i ∧ Jar g.o g.k ∧ g.k ≤ k + 2 + 2 * i) ⟨⟨[], 0, o2, k2, none, none, none⟩, rfl, ⟨po_nil, rfl, rfl, hj2, by show k2 ≤ k + 2 + 2 * ((0 : Nat) : Int); omega⟩, hS3⟩ ?_ ?_
  · rintro i ⟨F, t, o4, k4, x, y, z⟩ H4 hi ⟨hP, ht, hl, hj4, hk4⟩ hS4
    simp only at hP ht hl hj4 hk4 hS4
    have ht0 := top_nonneg F
    have ht1 := top_le_len hP
    walk_at "nm"
    walk_at "go"
    refine Sa.st_newL (by assumption) (by walk_at "om") (fun m1 H5 hS5 => ?_)
    walk_at "go"
    replace hS5 := hS5.dropM
    have htl : ∀ b : Int, b ∈ F → b ≤ t := fun b hb => by rw [ht]; exact le_top hb
    have hpo := po_pos hP
    have fin : ∀ (x : Int) (o6 : HO) (k6 : Int) (H6 : Hp) (v6 v7 v8 : Option V), 1 ≤ x → x ≤ t + 1 → Jar o6 k6 → k6 ≤ k4 + 2 → SA L ((f, .lst ((F ++ [x]).map V.int)) :: (p, o6) :: M) H6 →
        Iv (γ := G_writes) (fun i g => [some (.ref p), some (.int n), some (.int manner), some (.int size), some (.ref f), some (.int g.t), g.x, g.y, g.z]) (fun _ _ => L) (fun _ g => (f, .lst (g.F.map V.int)) :: (p, g.o) :: M)
          (fun i g => Po g.F ∧ g.t = top g.F ∧ g.F.length = i ∧ Jar g.o g.k ∧ g.k ≤ k + 2 + 2 * i) (i + 1) [some (.ref p), some (.int n), some (.int manner), some (.int size), some (.ref f), some (.int (max t x)), v6, v7, v8] H6 := fun x o6 k6 H6 v6 v7 v8 h1 h2 h3 h4 h5 =>
      ⟨⟨F ++ [x], max t x, o6, k6, v6, v7, v8⟩, rfl, ⟨po_snoc.mpr ⟨hP, h1, by omega⟩, by rw [top_snoc, ht], by rw [List.length_append, hl]; rfl, h3, by show k6 ≤ k + 2 + 2 * ((i + 1 : Nat) : Int); omega⟩, h5⟩
    refine Sa.if_dec (fun hF => ?_) (fun hF => ?_)
    rotate_left
    · have hF1 : 0 < F.length := List.length_pos_iff.mpr hF
      walk_at "go"
      have hb := getD_mem (ns := F) (i := (-1 + (F.length : Int)).toNat) (by omega)
      have hb1 := htl _ hb
      have hb2 := hpo _ hb
      generalize F.getD (-1 + (F.length : Int)).toNat 0 = b at hb1 hb2 ⊢
      walk_at "nm"
      refine call_dip (Sa.SA.front (by assumption) (by walk_at "del")) (by assumption) (by omega) (by omega) (by omega) (fun r1 o5 k5 H6 hr0 hr1 hj5 hk5 hS6 => ?_)
      walk_at "go"
      refine call_dip (by assumption) (by assumption) (by omega) (by omega) (by omega) (fun r2 o6 k6 H7 hr2 hr3 hj6 hk6 hS7 => ?_)
      walk_at "go"
      refine Sa.if_dec (fun h3 => ?_) (fun h3 => ?_)
      · walk_at "go"
        refine Sa.st_newL (by assumption) (by walk_at "om") (fun m2 H8 hS8 => ?_)
        walk_at "go"
        refine Sa.st_menu (ms := [_, _, _, _, _, _]) (fun x => 1 ≤ x ∧ x ≤ t + 1) (by assumption) (by walk_at "at") rfl hm0 (by walk_at "om") (by walk_at "mn") (fun x hx => ?_)
        walk_at "go"
        exact fin x o6 k6 _ _ _ _ hx.1 hx.2 hj6 (by omega) (Sa.SA.front (Sa.SA.dropM (by assumption)) (by walk_at "del"))
      · walk_at "go"
        exact fin (1 + r1) o6 k6 _ _ _ _ (by omega) (by omega) hj6 (by omega) (Sa.SA.front (by assumption) (by walk_at "del"))
    · walk_at "go"
      walk_at "nm"
      refine call_dip (Sa.SA.front (by assumption) (by walk_at "del")) (by assumption) (by omega) (by omega) (by omega) (fun r1 o5 k5 H6 hr0 hr1 hj5 hk5 hS6 => ?_)
      walk_at "go"
      refine call_dip (by assumption) (by assumption) (by omega) (by omega) (by omega) (fun r2 o6 k6 H7 hr2 hr3 hj6 hk6 hS7 => ?_)
      walk_at "go"
      refine Sa.if_dec (fun h3 => ?_) (fun h3 => ?_)
      · walk_at "go"
        refine Sa.st_newL (by assumption) (by walk_at "om") (fun m2 H8 hS8 => ?_)
        walk_at "go"
        refine Sa.st_menu (ms := [_, _, _, _, _, _]) (fun x => 1 ≤ x ∧ x ≤ t + 1) (by assumption) (by walk_at "at") rfl hm0 (by walk_at "om") (by walk_at "mn") (fun x hx => ?_)
        walk_at "go"
        exact fin x o6 k6 _ _ _ _ hx.1 hx.2 hj6 (by omega) (Sa.SA.front (Sa.SA.dropM (by assumption)) (by walk_at "del"))
      · walk_at "go"
        exact fin (1 + r1) o6 k6 _ _ _ _ (by omega) (by omega) hj6 (by omega) (Sa.SA.front (by assumption) (by walk_at "del"))
  · rintro ⟨F, t, o4, k4, x, y, z⟩ H4 ⟨hP, ht, hl, hj4, hk4⟩ hS4
    simp only at hP ht hl hj4 hk4 hS4
    walk_at "go"
    exact q f F o4 k4 H4 hP (by omega) hj4 (by omega) hS4

structure G_r14 where
  ns : List Int
  o : HO
  k : Int
  x7 : Option V
  x8 : Option V
  x9 : Option V
  x10 : Option V
  x11 : Option V
  x12 : Option V
  x13 : Option V
  x14 : Option V
  x15 : Option V
structure G_s14 where
  o : HO
  k : Int
  x10 : Option V
  x11 : Option V
  x12 : Option V
  x13 : Option V
  x14 : Option V
def sp__law_right (K : PySem.W.Frag) : Sp := fun vs H Q _ => ∃ (p : Addr) (n : Int), vs = [.ref p, .int n] ∧ ∃ (L : List Fc) (M : List Cell) (o : HO), SA L ((p, o) :: M) H ∧ Jar o 0 ∧ 0 ≤ n ∧ n ≤ 500 ∧
  ∀ H', SA L M H' → Q (.bl true) H'
local macro_rules | `(tactic| walk_at "call") => `(tactic| first
  | ((with_reducible show sp__law_dip _ _ _ _ _); refine call_dip (Sa.SA.front (by assumption) (by walk_at "del")) (by assumption) (by omega) (by omega) (by omega) (fun _ _ _ _ _ _ _ _ _ => ?_))
  | ((with_reducible show sp__law_alike _ ([V.int _, V.int _] ++ []) _ _ _); refine call_alikeI (by assumption) (by omega) (fun _ _ => ?_))
  | ((with_reducible show sp__law_alike _ ([V.bl _, V.bl _] ++ []) _ _ _); refine call_alikeB (by assumption) (by first | rfl | (rw [Bool.eq_iff_iff]; simp only [Bool.and_eq_true, Bool.or_eq_true, Bool.not_eq_true', decide_eq_true_eq, decide_eq_false_iff_not, Bool.false_eq_true, iff_false, iff_true]; omega)) (fun _ _ => ?_))
  | ((with_reducible show sp__law_alike _ _ _ _ _); refine call_alike (by assumption) (by walk_at "atD") (by walk_at "atD") (by walk_at "dp") (fun _ _ => ?_))
  | ((with_reducible show sp__law_writes _ _ _ _ _); refine ⟨_, _, rfl, _, _, _, _, (Sa.SA.front (by assumption) (by walk_at "del")), by assumption, by omega, by omega, by omega, fun _ _ _ _ _ _ _ _ _ _ => ?_⟩))
theorem sc__law_right : FnScope ["_law_bowl_here", "_law_most", "_law_writes_here", "_law_line", "_law_some", "_law_place", "_law_first_door", "_law_turn", "_law_elder", "_law_course_here", "_law_step", "_law_door", "_law_found", "_law_due_here", "_law_changed", "_law_wrong_here"] ["_law_bowl_here", "_law_most"] (defScope s__law_right) := ⟨rfl, rfl, rfl, by decide +kernel, rfl, by decide +kernel, by decide +kernel⟩
abbrev Ok__law_right (P : Program) (w : World) (K : PySem.W.Frag) (mg : Str → Option Value) (base : Heap) : Prop := ∃ f fd, Fun K "_law_right" "_law_right" s__law_right f fd ∧ mg "_law_right" = some (.ref f) ∧ FnOk P w K mg base CX0 6 f fd ["_law_bowl_here", "_law_most"] (sp__law_right K)
theorem ok__law_right {P : Program} {w : World} {K : PySem.W.Frag} {mg : Str → Option Value} {base : Heap} (T : Top K mg) (h__law_wrong : Ok__law_wrong P w K mg base) (h__law_dip : Ok__law_dip P w K mg base) (h__law_alike : Ok__law_alike P w K mg base) (h__law_due : Ok__law_due P w K mg base) (h__law_asked : Ok__law_asked P w K mg base) (h__law_bent : Ok__law_bent P w K mg base) (h__law_odd_course : Ok__law_odd_course P w K mg base) (h__law_course : Ok__law_course P w K mg base) (h__law_writes : Ok__law_writes P w K mg base) : Ok__law_right P w K mg base := by
  obtain ⟨f, fd, F, m⟩ := T.d__law_right
  obtain ⟨f__law_wrong, fd__law_wrong, F__law_wrong, m__law_wrong, G__law_wrong⟩ := h__law_wrong
  have b__law_wrong := F__law_wrong.binds (ps := ["_law_writes_here"]) (fun _ _ _ _ _ _ us hl => match us, hl with | [_], _ => rfl)
  obtain ⟨f__law_dip, fd__law_dip, F__law_dip, m__law_dip, G__law_dip⟩ := h__law_dip
  have b__law_dip := F__law_dip.binds (ps := ["_law_bowl_here", "_law_many"]) (fun _ _ _ _ _ _ us hl => match us, hl with | [_, _], _ => rfl)
  obtain ⟨f__law_alike, fd__law_alike, F__law_alike, m__law_alike, G__law_alike⟩ := h__law_alike
  have b__law_alike := F__law_alike.binds (ps := ["_law_told", "_law_due_here"]) (fun _ _ _ _ _ _ us hl => match us, hl with | [_, _], _ => rfl)
  obtain ⟨f__law_due, fd__law_due, F__law_due, m__law_due, G__law_due⟩ := h__law_due
  have b__law_due := F__law_due.binds (ps := ["_law_door", "_law_some", "_law_place", "_law_line"]) (fun _ _ _ _ _ _ us hl => match us, hl with | [_, _, _, _], _ => rfl)
  obtain ⟨f__law_asked, fd__law_asked, F__law_asked, m__law_asked, G__law_asked⟩ := h__law_asked
  have b__law_asked := F__law_asked.binds (ps := ["_law_door", "_law_some", "_law_place", "_law_line", "_law_by_name"]) (fun _ _ _ _ _ _ us hl => match us, hl with | [_, _, _, _, _], _ => rfl)
  obtain ⟨f__law_bent, fd__law_bent, F__law_bent, m__law_bent, G__law_bent⟩ := h__law_bent
  have b__law_bent := F__law_bent.binds (ps := ["_law_bowl_here", "_law_writes_here"]) (fun _ _ _ _ _ _ us hl => match us, hl with | [_, _], _ => rfl)
  obtain ⟨f__law_odd_course, fd__law_odd_course, F__law_odd_course, m__law_odd_course, G__law_odd_course⟩ := h__law_odd_course
  have b__law_odd_course := F__law_odd_course.binds (ps := ["_law_bowl_here", "_law_course_here"]) (fun _ _ _ _ _ _ us hl => match us, hl with | [_, _], _ => rfl)
  obtain ⟨f__law_course, fd__law_course, F__law_course, m__law_course, G__law_course⟩ := h__law_course
  have b__law_course := F__law_course.binds (ps := ["_law_bowl_here", "_law_writes_here"]) (fun _ _ _ _ _ _ us hl => match us, hl with | [_, _], _ => rfl)
  obtain ⟨f__law_writes, fd__law_writes, F__law_writes, m__law_writes, G__law_writes⟩ := h__law_writes
  have b__law_writes := F__law_writes.binds (ps := ["_law_bowl_here", "_law_most"]) (fun _ _ _ _ _ _ us hl => match us, hl with | [_, _], _ => rfl)
  refine ⟨f, fd, F, m, F.ok sc__law_right (fun vs H Q E h => by first | (obtain ⟨_, rfl, _⟩ := h; rfl) | (obtain ⟨_, _, rfl, _⟩ := h; rfl) | (obtain ⟨_, _, _, rfl, _⟩ := h; rfl) | (obtain ⟨_, _, _, _, rfl, _⟩ := h; rfl) | (obtain ⟨_, _, _, _, _, rfl, _⟩ := h; rfl) | (obtain ⟨_, _, _, _, _, _, rfl, _⟩ := h; rfl) | (obtain ⟨_, _, _, _, _, _, _, rfl, _⟩ := h; rfl) | (obtain ⟨_, _, _, _, _, _, _, _, rfl, _⟩ := h; rfl)) (fun cdv A outer s H vs Q E hr h => ?_)⟩
  refine ⟨_, (pss_cons (ps_set (i := 2) sc__law_right.nd rfl (.inl rfl) (pe_call G__law_writes (hr.mono (by first | decide | omega)) (by rfl) m__law_writes F__law_writes.kp b__law_writes .nil pass0 (pa_cons (pv 0) (pa_cons (pv 1) pa_nil))))
      (pss_cons (ps_set (i := 3) sc__law_right.nd rfl (.inl rfl) (pe_call G__law_odd_course (hr.mono (by first | decide | omega)) (by rfl) m__law_odd_course F__law_odd_course.kp b__law_odd_course .nil pass0 (pa_cons (pv 0) (pa_cons (pe_call G__law_course (hr.mono (by first | decide | omega)) (by rfl) m__law_course F__law_course.kp b__law_course .nil pass0 (pa_cons (pv 0) (pa_cons (pv 2) pa_nil))) pa_nil))))
      (pss_cons (ps_set (i := 4) sc__law_right.nd rfl (.inl rfl) (pe_call G__law_bent (hr.mono (by first | decide | omega)) (by rfl) m__law_bent F__law_bent.kp b__law_bent .nil pass0 (pa_cons (pv 0) (pa_cons (pv 2) pa_nil))))
      (pss_cons (ps_set (i := 5) sc__law_right.nd rfl (.inl rfl) (pe_ix ix_list (pe_lst (pa_cons (pe_call G__law_dip (hr.mono (by first | decide | omega)) (by rfl) m__law_dip F__law_dip.kp b__law_dip .nil pass0 (pa_cons (pv 0) (pa_cons (pe_op op_add (pe_callB Sa.call_len (by rfl) T.z_len boot_len (pa_cons (pv 4) pa_nil)) pe_int) pa_nil))) (pa_cons (pe_un un_neg pe_int) (pa_cons (pe_callB Sa.call_len (by rfl) T.z_len boot_len (pa_cons (pv 4) pa_nil)) (pa_cons (pe_op op_sub (pe_call G__law_dip (hr.mono (by first | decide | omega)) (by rfl) m__law_dip F__law_dip.kp b__law_dip .nil pass0 (pa_cons (pv 0) (pa_cons (pe_op op_add (pe_op Sa.op_mulX pe_int (pe_op Sa.op_powW pe_int pe_int)) pe_int) pa_nil))) (pe_op Sa.op_powW pe_int pe_int)) pa_nil))))) (pe_call G__law_dip (hr.mono (by first | decide | omega)) (by rfl) m__law_dip F__law_dip.kp b__law_dip .nil pass0 (pa_cons (pv 0) (pa_cons pe_int pa_nil))) (fun _ _ => rfl)))
      (pss_cons (ps_set (i := 6) sc__law_right.nd rfl (.inl rfl) (pe_call G__law_dip (hr.mono (by first | decide | omega)) (by rfl) m__law_dip F__law_dip.kp b__law_dip .nil pass0 (pa_cons (pv 0) (pa_cons pe_int pa_nil))))
      (pss_cons (ps_for PassesOwn.never rfl (pi_range1 (by rfl) T.z_range (pa_cons pe_int pa_nil)) (pg_name (i := 7) sc__law_right.nd rfl (.inl rfl)) (pss_cons (ps_par (i := 8) (j := 9) (by rfl) sc__law_right.nd rfl rfl (by decide) rfl rfl (pa_cons (pe_callTy Sa.call_list_of (by rfl) T.z_list (by decide +kernel) (pa_cons (pv 4) pa_nil)) (pa_cons (pe_callTy Sa.call_list_of (by rfl) T.z_list (by decide +kernel) (pa_cons (pv 3) pa_nil)) pa_nil)) (by rfl))
      (pss_cons (ps_for PassesOwn.never rfl (pi_range1 (by rfl) T.z_range (pa_cons pe_int pa_nil)) (pg_name (i := 10) sc__law_right.nd rfl (.inl rfl)) (pss_cons (ps_set (i := 11) sc__law_right.nd rfl (.inl rfl) (pe_op Sa.op_modX (pe_callTy Sa.call_int1 (by rfl) T.z_int (by decide +kernel) (pa_cons (pe_op op_add (pv 6) (pv 10)) pa_nil)) pe_int))
      (pss_one (ps_if (PW.pt (pw_or (pt_cmpR op_ne (pv 11) pe_int (nomark _)) (pw_or1 (pt_cmpR op_lt (pe_callB Sa.call_len (by rfl) T.z_len boot_len (pa_cons (pv 4) pa_nil)) pe_int (nomark _))))) (pss_cons (ps_set (i := 12) sc__law_right.nd rfl (.inl rfl) (pe_call G__law_asked (hr.mono (by first | decide | omega)) (by rfl) m__law_asked F__law_asked.kp b__law_asked .nil pass0 (pa_cons (pv 11) (pa_cons (pv 4) (pa_cons (pv 5) (pa_cons (pv 3) (pa_cons (pe_cmpR op_eq (pe_call G__law_dip (hr.mono (by first | decide | omega)) (by rfl) m__law_dip F__law_dip.kp b__law_dip .nil pass0 (pa_cons (pv 0) (pa_cons pe_int pa_nil))) pe_int (nomark _)) pa_nil)))))))
      (pss_cons (ps_set (i := 13) sc__law_right.nd rfl (.inl rfl) (pe_call G__law_due (hr.mono (by first | decide | omega)) (by rfl) m__law_due F__law_due.kp b__law_due .nil pass0 (pa_cons (pv 11) (pa_cons (pv 8) (pa_cons (pv 5) (pa_cons (pv 9) pa_nil))))))
      (pss_cons (ps_if (PW.pt (pw_or (pt_not (pt_val (pe_call G__law_alike (hr.mono (by first | decide | omega)) (by rfl) m__law_alike F__law_alike.kp b__law_alike .nil pass0 (pa_cons (pv 12) (pa_cons (pv 13) pa_nil))))) (pw_or (pt_cmpR (op_neD hr.units) (pv 4) (pv 8) (nomark _)) (pw_or1 (pt_cmpR (op_neD hr.units) (pv 3) (pv 9) (nomark _)))))) (pss_one (ps_ret pe_bl)) pss_nil)
      (pss_one (ps_if (PW.pt (pw_and (pt_cmpR Sa.op_notN (pv 12) pe_non (nomark _)) (pw_and1 (pt_val (pe_callB call_isi (by rfl) T.z_isinstance (by decide +kernel) (pa_cons (pe_ix ix_tup (pv 12) pe_int (fun _ _ => rfl)) (pa_cons (pe_bltn (v := .ty "list") (u := .type "list") (by rfl) T.z_list (by decide +kernel) rfl) pa_nil))))))) (pss_cons (ps_set (i := 14) sc__law_right.nd rfl (.inl rfl) (pe_ix ix_tup (pv 12) pe_int (fun _ _ => rfl)))
      (pss_cons (ps_expr (pe_bm PySem.F.plainAttrs_list PySem.F.slot_list_append PySem.F.type_list_append mt_append (pv 14) (pa_cons (pe_call G__law_dip (hr.mono (by first | decide | omega)) (by rfl) m__law_dip F__law_dip.kp b__law_dip .nil pass0 (pa_cons (pv 0) (pa_cons pe_int pa_nil))) pa_nil)))
      (pss_one (ps_if (pt_cmpR (op_neD hr.units) (pv 3) (pv 9) (nomark _)) (pss_one (ps_ret pe_bl)) pss_nil)))) pss_nil))))) pss_nil))))
      (pss_cons (ps_set (i := 15) sc__law_right.nd rfl (.inl rfl) (pe_call G__law_wrong (hr.mono (by first | decide | omega)) (by rfl) m__law_wrong F__law_wrong.kp b__law_wrong .nil pass0 (pa_cons (pv 4) pa_nil)))
      (pss_one (ps_if (pt_cmpR Sa.op_notN (pv 15) pe_non (nomark _)) (pss_one (ps_asg pe_int (pg_sub (pv 4) (pv 15) set_list))) pss_nil))))))
      (pss_one (ps_ret pe_bl)))))))), ?_⟩
  obtain ⟨p, n, rfl, L, M, o, hS, hj, h0, h1, q⟩ := h
  walk_at "st"
  walk_at "gn"
  walk_at "call"
  rename_i fw0 ws o1 k1 H1 hP hl hj1 hk1 hS1
  clear hS
  have hB : Bd ws := fun x hx => by
    have := le_top hx
    have := top_le_len hP
    have := po_pos hP x hx
    omega
  walk_at "gn"
  refine ⟨_, _, rfl, _, _, _, _, ws, Sa.SA.front hS1 (by walk_at "del"), by walk_at "at", hP, by omega, hj1, by omega, fun fc cs0 o2 k2 H2 hcp hj2 hk2 hS2 => ?_⟩
  clear hS1
  have hcl0 := hcp.1
  walk_at "gn"
  refine ⟨_, _, rfl, _, _, _, _, cs0, Sa.SA.front hS2 (by walk_at "del"), by walk_at "at", hj2, by omega, by omega, fun fl cs o3 k3 H3 hcl hj3 hk3 hS3 => ?_⟩
  clear hS2
  walk_at "gn"
  refine ⟨_, _, rfl, _, _, _, _, ws, Sa.SA.front hS3 (by walk_at "del"), by walk_at "at", hj3, by omega, hB, by omega, fun pb ms0 o4 k4 H4 hB2 hl2 hj4 hk4 hS4 => ?_⟩
  clear hS3
  walk_at "gn"
  walk_at "call"
  rename_i r1 o5 k5 H5 a0 a1 hj5 hk5 hS5
  clear hS4
  walk_at "gn"
  walk_at "call"
  rename_i r2 o6 k6 H6 b0 b1 hj6 hk6 hS6
  clear hS5
  walk_at "gn"
  rename_i dl H7 hS7
  clear hS6
  walk_at "call"
  rename_i r3 o7 k7 H8 c0 c1 hj7 hk7 hS8
  clear hS7
  walk_at "gn"
  refine Sa.st_one [_, _, _, _] hS8 (by walk_at "at") rfl (by omega) (by walk_at "om") (fun place hpl => ?_)
  walk_at "gn"
  walk_at "call"
  rename_i fd o8 k8 H9 d0 d1 hj8 hk8 hS9
  clear hS8
  walk_at "gn"
  refine Sa.st_r1 (n := 3) rfl (by omega) (by omega) ?_
  refine Sa.lp_rng (γ := G_r14) (fun i g => [some (.ref p), some (.int n), some (.ref fw0), some (.ref fl), some (.ref pb), some (.int place), some (.int fd), g.x7, g.x8, g.x9, g.x10, g.x11, g.x12, g.x13, g.x14, g.x15]) (fun _ _ => L) (fun _ g => (fl, .lst (cs.map V.int)) :: (pb, .lst (g.ns.map V.int)) :: (p, g.o) :: M)
    (fun i g => g.ns.length ≤ 500 ∧ Jar g.o g.k ∧ g.k ≤ 100000 + 100 * i) ⟨⟨ms0, o8, k8, none, none, none, none, none, none, none, none, none⟩, rfl, ⟨by show ms0.length ≤ 500; omega, hj8, by show k8 ≤ 100000 + 100 * ((0 : Nat) : Int); omega⟩, by walk_at "sa2"⟩ ?_ ?_
  · rintro i ⟨ns, oa, ka, y7, y8, y9, y10, y11, y12, y13, y14, y15⟩ Ha hi ⟨g1, g2, g3⟩ hSa
    simp only at g1 g2 g3 hSa
    clear hS9
    walk_at "nm"
    walk_at "gn"
    rename_i el Hb hSb ch Hc hSc
    clear hSa hSb
    refine Sa.st_r1 (n := 6) rfl (by omega) (by omega) ?_
    refine Sa.lp_rng (γ := G_s14) (fun j g => [some (.ref p), some (.int n), some (.ref fw0), some (.ref fl), some (.ref pb), some (.int place), some (.int fd), some (.int (0 + (i : Int))), some (.ref el), some (.ref ch), g.x10, g.x11, g.x12, g.x13, g.x14, y15]) (fun _ _ => L) (fun _ g => (el, .lst (ns.map V.int)) :: (ch, .lst (cs.map V.int)) :: (fl, .lst (cs.map V.int)) :: (pb, .lst (ns.map V.int)) :: (p, g.o) :: M)
      (fun j g => Jar g.o g.k ∧ g.k ≤ 100000 + 100 * i + 2 * j) ⟨⟨oa, ka, y10, y11, y12, y13, y14⟩, rfl, ⟨g2, by show ka ≤ 100000 + 100 * i + 2 * ((0 : Nat) : Int); omega⟩, by walk_at "sa2"⟩ ?_ ?_
    · rintro j ⟨ob, kb, z10, z11, z12, z13, z14⟩ Hd hj0 ⟨e1, e2⟩ hSd
      simp only at e1 e2 hSd
      clear hSc
      have hmod := Int.emod_nonneg (fd + (0 + (j : Int))) (show (6 : Int) ≠ 0 by decide)
      have hmod2 := Int.emod_lt_of_pos (fd + (0 + (j : Int))) (show (0 : Int) < 6 by decide)
      walk_at "nm"
      walk_at "gn"
      generalize (fd + (0 + (j : Int))) % 6 = door at *
      by_cases hd4 : door = 4
      · refine Sa.if_yes hd4 ?_
        walk_at "gn"
        refine Sa.if_dec (fun h9 => ?_) (fun h9 => ?_)
        rotate_left
        · walk_at "gn"
          exact ⟨⟨ob, kb, _, _, _, _, _⟩, rfl, ⟨e1, by show kb ≤ 100000 + 100 * i + 2 * ((j + 1 : Nat) : Int); omega⟩, by walk_at "sa2"⟩
        have hdl : door = 4 → ns.length ≤ 8 := fun _ => by omega
        walk_at "gn"
        walk_at "call"
        rename_i r oc kc He u0 u1 hjc hkc hSe
        clear hSd
        walk_at "gn"
        refine ⟨pb, fl, door, place, decide (r = 0), rfl, _, _, ns, cs, hSe, by walk_at "at", by walk_at "at", hmod, by omega, by omega, by omega, hdl, ?_⟩
        generalize han : ansW door ns place cs = an
        cases an with
        | no =>
          intro Hf hSf
          clear hSe
          walk_at "gn"
          refine ⟨el, ch, door, place, rfl, _, _, ns, cs, hSf, by walk_at "at", by walk_at "at", hmod, by omega, by omega, by omega, ?_⟩
          rw [han]
          intro Hg hSg
          clear hSf
          walk_at "gn"
          refine call_alike hSg Sa.At.non Sa.At.non Sa.depth_none (fun Hh hSh => ?_)
          walk_at "gn"
          refine Sa.if_yes rfl ?_
          walk_at "gn"
          refine Sa.if_yes rfl ?_
          walk_at "gn"
          refine Sa.if_yes rfl ?_
          walk_at "gn"
          exact ⟨⟨oc, kc, _, _, _, _, _⟩, rfl, ⟨hjc, by show kc ≤ 100000 + 100 * i + 2 * ((j + 1 : Nat) : Int); omega⟩, by walk_at "sa2"⟩
        | num k v =>
          intro t kl Hf hSf
          unfold kdL at hSf
          clear hSe
          walk_at "gn"
          refine ⟨el, ch, door, place, rfl, _, _, ns, cs, hSf, by walk_at "at", by walk_at "at", hmod, by omega, by omega, by omega, ?_⟩
          rw [han]
          intro t2 kl2 Hg hSg
          unfold kdL at hSg
          clear hSf
          walk_at "gn"
          refine call_alike hSg (by walk_at "atD") (by walk_at "atD") (by walk_at "dp") (fun Hh hSh => ?_)
          clear hSg
          walk_at "gn"
          refine Sa.if_yes rfl ?_
          walk_at "gn"
          refine Sa.if_yes rfl ?_
          walk_at "gn"
          refine Sa.if_no (fun h => V.noConfusion h) ?_
          walk_at "gn"
          refine Sa.st_kList (.int _) ?_
          dsimp only [Sa.kList]
          walk_at "gn"
          exact ⟨⟨oc, kc, _, _, _, _, _⟩, rfl, ⟨hjc, by show kc ≤ 100000 + 100 * i + 2 * ((j + 1 : Nat) : Int); omega⟩, by walk_at "sa2"⟩
        | row cs2 =>
          intro t kl l Hf hSf
          unfold kdL at hSf
          clear hSe
          walk_at "gn"
          refine ⟨el, ch, door, place, rfl, _, _, ns, cs, hSf, by walk_at "at", by walk_at "at", hmod, by omega, by omega, by omega, ?_⟩
          rw [han]
          intro t2 kl2 l2 Hg hSg
          unfold kdL at hSg
          clear hSf
          walk_at "gn"
          refine call_alike hSg (by walk_at "atD") (by walk_at "atD") (by walk_at "dp") (fun Hh hSh => ?_)
          clear hSg
          walk_at "gn"
          refine Sa.if_yes rfl ?_
          walk_at "gn"
          refine Sa.if_yes rfl ?_
          walk_at "gn"
          refine Sa.if_no (fun h => V.noConfusion h) ?_
          walk_at "gn"
          have hDl : Dp K Hh (.ref l) (.list (cs2.map PyData.int)) := hSh.ask (Sa.At.dL (K := K) (by walk_at "at"))
          refine Sa.st_kList hDl ?_
          dsimp only [Sa.kList]
          walk_at "gn"
          walk_at "call"
          rename_i r9 od kd Hi v0 v1 hjd hkd hSi
          clear hSh hDl
          have hc2 : cs2.length ≤ 1000 := by
            have hz := han
            unfold ansW at hz
            split at hz
            · cases hz
            · split at hz
              · split at hz <;> cases hz
              · split at hz
                · split at hz
                  · split at hz <;> cases hz
                  · cases hz
                    omega
                · cases hz
          walk_at "gn"
          refine Sa.if_yes rfl ?_
          walk_at "gn"
          exact ⟨⟨od, kd, _, _, _, _, _⟩, rfl, ⟨hjd, by show kd ≤ 100000 + 100 * i + 2 * ((j + 1 : Nat) : Int); omega⟩, by walk_at "sa2"⟩
      · refine Sa.if_no hd4 ?_
        have hdl : door = 4 → ns.length ≤ 8 := fun z => absurd z hd4
        walk_at "gn"
        walk_at "call"
        rename_i r oc kc He u0 u1 hjc hkc hSe
        clear hSd
        walk_at "gn"
        refine ⟨pb, fl, door, place, decide (r = 0), rfl, _, _, ns, cs, hSe, by walk_at "at", by walk_at "at", hmod, by omega, by omega, by omega, hdl, ?_⟩
        generalize han : ansW door ns place cs = an
        cases an with
        | no =>
          intro Hf hSf
          clear hSe
          walk_at "gn"
          refine ⟨el, ch, door, place, rfl, _, _, ns, cs, hSf, by walk_at "at", by walk_at "at", hmod, by omega, by omega, by omega, ?_⟩
          rw [han]
          intro Hg hSg
          clear hSf
          walk_at "gn"
          refine call_alike hSg Sa.At.non Sa.At.non Sa.depth_none (fun Hh hSh => ?_)
          walk_at "gn"
          refine Sa.if_yes rfl ?_
          walk_at "gn"
          refine Sa.if_yes rfl ?_
          walk_at "gn"
          refine Sa.if_yes rfl ?_
          walk_at "gn"
          exact ⟨⟨oc, kc, _, _, _, _, _⟩, rfl, ⟨hjc, by show kc ≤ 100000 + 100 * i + 2 * ((j + 1 : Nat) : Int); omega⟩, by walk_at "sa2"⟩
        | num k v =>
          intro t kl Hf hSf
          unfold kdL at hSf
          clear hSe
          walk_at "gn"
          refine ⟨el, ch, door, place, rfl, _, _, ns, cs, hSf, by walk_at "at", by walk_at "at", hmod, by omega, by omega, by omega, ?_⟩
          rw [han]
          intro t2 kl2 Hg hSg
          unfold kdL at hSg
          clear hSf
          walk_at "gn"
          refine call_alike hSg (by walk_at "atD") (by walk_at "atD") (by walk_at "dp") (fun Hh hSh => ?_)
          clear hSg
          walk_at "gn"
          refine Sa.if_yes rfl ?_
          walk_at "gn"
          refine Sa.if_yes rfl ?_
          walk_at "gn"
          refine Sa.if_no (fun h => V.noConfusion h) ?_
          walk_at "gn"
          refine Sa.st_kList (.int _) ?_
          dsimp only [Sa.kList]
          walk_at "gn"
          exact ⟨⟨oc, kc, _, _, _, _, _⟩, rfl, ⟨hjc, by show kc ≤ 100000 + 100 * i + 2 * ((j + 1 : Nat) : Int); omega⟩, by walk_at "sa2"⟩
        | row cs2 =>
          intro t kl l Hf hSf
          unfold kdL at hSf
          clear hSe
          walk_at "gn"
          refine ⟨el, ch, door, place, rfl, _, _, ns, cs, hSf, by walk_at "at", by walk_at "at", hmod, by omega, by omega, by omega, ?_⟩
          rw [han]
          intro t2 kl2 l2 Hg hSg
          unfold kdL at hSg
          clear hSf
          walk_at "gn"
          refine call_alike hSg (by walk_at "atD") (by walk_at "atD") (by walk_at "dp") (fun Hh hSh => ?_)
          clear hSg
          walk_at "gn"
          refine Sa.if_yes rfl ?_
          walk_at "gn"
          refine Sa.if_yes rfl ?_
          walk_at "gn"
          refine Sa.if_no (fun h => V.noConfusion h) ?_
          walk_at "gn"
          have hDl : Dp K Hh (.ref l) (.list (cs2.map PyData.int)) := hSh.ask (Sa.At.dL (K := K) (by walk_at "at"))
          refine Sa.st_kList hDl ?_
          dsimp only [Sa.kList]
          walk_at "gn"
          walk_at "call"
          rename_i r9 od kd Hi v0 v1 hjd hkd hSi
          clear hSh hDl
          have hc2 : cs2.length ≤ 1000 := by
            have hz := han
            unfold ansW at hz
            split at hz
            · cases hz
            · split at hz
              · split at hz <;> cases hz
              · split at hz
                · split at hz
                  · split at hz <;> cases hz
                  · cases hz
                    omega
                · cases hz
          walk_at "gn"
          refine Sa.if_yes rfl ?_
          walk_at "gn"
          exact ⟨⟨od, kd, _, _, _, _, _⟩, rfl, ⟨hjd, by show kd ≤ 100000 + 100 * i + 2 * ((j + 1 : Nat) : Int); omega⟩, by walk_at "sa2"⟩
    · rintro ⟨ob, kb, z10, z11, z12, z13, z14⟩ Hd ⟨e1, e2⟩ hSd
      simp only at e1 e2 hSd
      clear hSc
      walk_at "gn"
      refine ⟨_, ns, rfl, _, _, hSd, by walk_at "at", by omega, fun He hSe => ?_⟩
      clear hSd
      walk_at "gn"
      cases hfw : fw 0 0 ns with
      | none =>
        dsimp only [optV]
        refine Sa.if_dec (fun _ => ?_) (fun h => absurd rfl h)
        walk_at "gn"
        exact ⟨⟨ns, ob, kb, _, _, _, _, _, _, _, _, _⟩, rfl, ⟨g1, e1, by show kb ≤ 100000 + 100 * ((i + 1 : Nat) : Int); omega⟩, by walk_at "sa2"⟩
      | some e =>
        dsimp only [optV]
        refine Sa.if_dec (fun h => nomatch h) (fun _ => ?_)
        obtain ⟨h31, h32, h33⟩ := fw_some0 hfw
        walk_at "gn"
        exact ⟨⟨ns.set ((e : Nat) : Int).toNat 1, ob, kb, _, _, _, _, _, _, _, _, _⟩, rfl, ⟨by show (ns.set _ 1).length ≤ 500; rw [List.length_set]; exact g1, e1, by show kb ≤ 100000 + 100 * ((i + 1 : Nat) : Int); omega⟩, by walk_at "sa2"⟩
  · rintro ⟨ns, oa, ka, y7, y8, y9, y10, y11, y12, y13, y14, y15⟩ Ha ⟨g1, g2, g3⟩ hSa
    simp only at g1 g2 g3 hSa
    walk_at "gn"
    exact q _ (by walk_at "sa2")

def sp__law_bowl (K : PySem.W.Frag) : Sp := fun vs H Q _ => ∃ (a : Addr) (rk : Int), vs = [.ref a, .int rk] ∧ ∃ (L : List Fc) (M : List Cell) (ns : List Int), SA L M H ∧ At L M (fQ K a (ns.map V.int)) ∧ 0 ≤ rk ∧ rk ≤ 1000 ∧
  ∀ p o H', Jar o 0 → SA L ((p, o) :: M) H' → Q (.ref p) H'
theorem sc__law_bowl : FnScope ["_law_script", "_law_rank", "_law_cell"] ["_law_script", "_law_rank"] (defScope s__law_bowl) := ⟨rfl, rfl, rfl, by decide +kernel, rfl, by decide +kernel, by decide +kernel⟩
abbrev Ok__law_bowl (P : Program) (w : World) (K : PySem.W.Frag) (mg : Str → Option Value) (base : Heap) : Prop := ∃ f fd, Fun K "_law_bowl" "_law_bowl" s__law_bowl f fd ∧ mg "_law_bowl" = some (.ref f) ∧ FnOk P w K mg base CX0 1 f fd ["_law_script", "_law_rank"] (sp__law_bowl K)
theorem ok__law_bowl {P : Program} {w : World} {K : PySem.W.Frag} {mg : Str → Option Value} {base : Heap} (T : Top K mg) : Ok__law_bowl P w K mg base := by
  obtain ⟨f, fd, F, m⟩ := T.d__law_bowl
  refine ⟨f, fd, F, m, F.ok sc__law_bowl (fun vs H Q E h => by first | (obtain ⟨_, rfl, _⟩ := h; rfl) | (obtain ⟨_, _, rfl, _⟩ := h; rfl) | (obtain ⟨_, _, _, rfl, _⟩ := h; rfl) | (obtain ⟨_, _, _, _, rfl, _⟩ := h; rfl) | (obtain ⟨_, _, _, _, _, rfl, _⟩ := h; rfl) | (obtain ⟨_, _, _, _, _, _, rfl, _⟩ := h; rfl) | (obtain ⟨_, _, _, _, _, _, _, rfl, _⟩ := h; rfl) | (obtain ⟨_, _, _, _, _, _, _, _, rfl, _⟩ := h; rfl)) (fun cdv A outer s H vs Q E hr h => ?_)⟩
  refine ⟨_, (pss_cons (ps_set (i := 2) sc__law_bowl.nd rfl (.inl rfl) (pe_ifExp (pt_cmpR op_lt (pv 1) (pe_callB Sa.call_len (by rfl) T.z_len boot_len (pa_cons (pv 0) pa_nil)) (nomark _)) (pe_ix ix_list (pv 0) (pv 1) (fun _ _ => rfl)) pe_int))
      (pss_one (ps_ret (pe_lst (pa_cons (pe_callB (Sa.call_max2 rfl) (by rfl) T.z_max (by decide +kernel) (pa_cons pe_int (pa_cons (pe_op op_sub (pe_callB Sa.call_abs (by rfl) T.z_abs (by decide +kernel) (pa_cons (pv 2) pa_nil)) (pe_op Sa.op_powW pe_int pe_int)) pa_nil))) (pa_cons (pe_op Sa.op_modX (pe_callTy Sa.call_int1 (by rfl) T.z_int (by decide +kernel) (pa_cons (pe_op op_add (pe_op op_add (pe_op Sa.op_mulX (pv 2) pe_int) (pe_op Sa.op_mulX (pv 1) pe_int)) pe_int) pa_nil)) (pe_op op_add (pe_op Sa.op_powW pe_int pe_int) pe_int)) (pa_cons pe_int pa_nil))))))), ?_⟩
  obtain ⟨a, rk, rfl, L, M, ns, hS, hA, h0, h1, q⟩ := h
  walk_at "st"
  walk_at "go"
  have fin : ∀ cell : Int, ∀ H, SA L M H → ∀ p H', SA L ((p, .lst [.int (max 0 ((if cell < 0 then -cell else cell) - 1000000000000000000)), .int ((cell * 52361 + rk * 6700417 + 15485863) % (1000000000000000000000000000000 + 57)), .int 0]) :: M) H' → Q (.ref p) H' := fun cell H _ p H' h' =>
    q p _ H' ⟨_, _, rfl, by omega, Int.emod_nonneg _ (by decide), Int.lt_trans (Int.emod_lt_of_pos _ (by decide)) (by decide), by decide⟩ h'
  refine Sa.if_dec (fun h2 => ?_) (fun h2 => ?_)
  · try rw [List.length_map] at h2
    walk_at "go"
    refine Sa.st_newL (by assumption) (by walk_at "om") (fun p H' h' => ?_)
    exact fin _ _ hS p H' h'
  · walk_at "go"
    refine Sa.st_newL (by assumption) (by walk_at "om") (fun p H' h' => ?_)
    exact fin _ _ hS p H' h'

def sp_law (K : PySem.W.Frag) : Sp := fun vs H Q _ => ∃ (a : Addr) (ns : List Int), vs = [.ref a] ∧ SqL K H a (ns.map V.int) ∧ ns.length ≤ 63 ∧ ∀ H', Q (.bl true) H'
theorem sc_law : FnScope ["_law_script", "_law_rank"] ["_law_script"] (defScope s_law) := ⟨rfl, rfl, rfl, by decide +kernel, rfl, by decide +kernel, by decide +kernel⟩
abbrev Ok_law (P : Program) (w : World) (K : PySem.W.Frag) (mg : Str → Option Value) (base : Heap) : Prop := ∃ f fd, Fun K "law" "law" s_law f fd ∧ mg "law" = some (.ref f) ∧ FnOk P w K mg base CX0 7 f fd ["_law_script"] (sp_law K)
theorem ok_law {P : Program} {w : World} {K : PySem.W.Frag} {mg : Str → Option Value} {base : Heap} (T : Top K mg) (h__law_right : Ok__law_right P w K mg base) (h__law_bowl : Ok__law_bowl P w K mg base) : Ok_law P w K mg base := by
  obtain ⟨f, fd, F, m⟩ := T.d_law
  obtain ⟨f__law_right, fd__law_right, F__law_right, m__law_right, G__law_right⟩ := h__law_right
  have b__law_right := F__law_right.binds (ps := ["_law_bowl_here", "_law_most"]) (fun _ _ _ _ _ _ us hl => match us, hl with | [_, _], _ => rfl)
  obtain ⟨f__law_bowl, fd__law_bowl, F__law_bowl, m__law_bowl, G__law_bowl⟩ := h__law_bowl
  have b__law_bowl := F__law_bowl.binds (ps := ["_law_script", "_law_rank"]) (fun _ _ _ _ _ _ us hl => match us, hl with | [_, _], _ => rfl)
  refine ⟨f, fd, F, m, F.ok sc_law (fun vs H Q E h => by first | (obtain ⟨_, rfl, _⟩ := h; rfl) | (obtain ⟨_, _, rfl, _⟩ := h; rfl) | (obtain ⟨_, _, _, rfl, _⟩ := h; rfl) | (obtain ⟨_, _, _, _, rfl, _⟩ := h; rfl) | (obtain ⟨_, _, _, _, _, rfl, _⟩ := h; rfl) | (obtain ⟨_, _, _, _, _, _, rfl, _⟩ := h; rfl) | (obtain ⟨_, _, _, _, _, _, _, rfl, _⟩ := h; rfl) | (obtain ⟨_, _, _, _, _, _, _, _, rfl, _⟩ := h; rfl)) (fun cdv A outer s H vs Q E hr h => ?_)⟩
  refine ⟨_, (pss_cons (ps_for PassesOwn.never rfl (pi_range1 (by rfl) T.z_range (pa_cons (pe_callB (Sa.call_max2 rfl) (by rfl) T.z_max (by decide +kernel) (pa_cons pe_int (pa_cons (pe_callB (Sa.call_min2 rfl) (by rfl) T.z_min (by decide +kernel) (pa_cons pe_int (pa_cons (pe_callB Sa.call_len (by rfl) T.z_len boot_len (pa_cons (pv 0) pa_nil)) pa_nil))) pa_nil))) pa_nil)) (pg_name (i := 1) sc_law.nd rfl (.inl rfl)) (pss_one (ps_if (pt_not (pt_val (pe_call G__law_right (hr.mono (by first | decide | omega)) (by rfl) m__law_right F__law_right.kp b__law_right .nil pass0 (pa_cons (pe_call G__law_bowl (hr.mono (by first | decide | omega)) (by rfl) m__law_bowl F__law_bowl.kp b__law_bowl .nil pass0 (pa_cons (pv 0) (pa_cons (pv 1) pa_nil))) (pa_cons (pe_ix ix_list (pe_lst (pa_cons pe_int (pa_cons pe_int (pa_cons pe_int pa_nil)))) (pe_callB (Sa.call_min2 rfl) (by rfl) T.z_min (by decide +kernel) (pa_cons (pv 1) (pa_cons pe_int pa_nil))) (fun _ _ => rfl)) pa_nil))))) (pss_one (ps_ret pe_bl)) pss_nil)))
      (pss_one (ps_ret pe_bl))), ?_⟩
  obtain ⟨a, ns, rfl, hS, hl, q⟩ := h
  have hS0 := Sa.SA.self H
  have hA : At [Sa.fS H] [] (fQ K a (ns.map V.int)) := Sa.At.ofS (f := fQ K a (ns.map V.int)) hS
  walk_at "st"
  walk_at "gn"
  try rw [List.length_map]
  refine Sa.st_r1 (n := _) rfl (by omega) (by omega) ?_
  refine Sa.lp_rng (γ := Option V) (fun i g => [some (.ref a), g]) (fun _ _ => [Sa.fS H]) (fun _ _ => []) (fun i g => True) ⟨none, rfl, trivial, hS0⟩ ?_ ?_
  · rintro i g H1 hi _ hS1
    walk_at "nm"
    walk_at "gn"
    refine ⟨_, _, rfl, _, _, ns, hS1, hA, by omega, by omega, fun p o H2 hj hS2 => ?_⟩
    walk_at "gn"
    first
      | refine Sa.st_menu (ms := [_, _, _]) (fun x => x ∈ [_, _, _]) (by assumption) (by walk_at "at") rfl (by omega) (by walk_at "om") (fun x hx => hx) (fun x hx => ?_)
      | refine Sa.st_menu (ms := [_, _]) (fun x => x ∈ [_, _]) (by assumption) (by walk_at "at") rfl (by omega) (by walk_at "om") (fun x hx => hx) (fun x hx => ?_)
    simp only [List.mem_cons, List.not_mem_nil, or_false] at hx
    walk_at "gn"
    refine ⟨_, _, rfl, [Sa.fS H], [], _, by walk_at "sa", by assumption, by omega, by omega, fun H3 hS3 => ?_⟩
    walk_at "gn"
    exact ⟨_, rfl, trivial, by walk_at "sa"⟩
  · rintro g H1 _ hS1
    walk_at "gn"
    exact q _

theorem fun_same {K : PySem.W.Frag} {x qual : Str} {st : Stmt} {f : Addr} {fd fd' : FuncData} (F : Fun K x qual st f fd) (G : Fun K x qual st f fd') : fd = fd' := by
  obtain ⟨_, _, _, _, _, _, _, _, _, e1, l1, _⟩ := F.ex
  obtain ⟨_, _, _, _, _, _, _, _, _, e2, l2, _⟩ := G.ex
  rw [l1] at l2
  cases l2
  rfl
theorem all_ok {P : Program} {w : World} {K : PySem.W.Frag} {mg : Str → Option Value} {base : Heap} (T : Top K mg) {f : Addr} {fd : FuncData} (F : Fun K "law" "law" s_law f fd) (m : mg "law" = some (.ref f)) : FnOk P w K mg base CX0 7 f fd ["_law_script"] (sp_law K) := by
  have h__law_wrong : Ok__law_wrong P w K mg base := ok__law_wrong T
  have h__law_dip : Ok__law_dip P w K mg base := ok__law_dip T
  have h__law_alike : Ok__law_alike P w K mg base := ok__law_alike T
  have h__law_number : Ok__law_number P w K mg base := ok__law_number T
  have h__law_due : Ok__law_due P w K mg base := ok__law_due T h__law_number h__law_wrong
  have h_number_in_gap : Ok_number_in_gap P w K mg base := ok_number_in_gap T
  have h_gaps_of : Ok_gaps_of P w K mg base := ok_gaps_of T h_number_in_gap
  have h_TallyError___init__ : Ok_TallyError___init__ P w K mg base := ok_TallyError___init__ T
  have h_first_wrong : Ok_first_wrong P w K mg base := ok_first_wrong T
  have h_check_possible : Ok_check_possible P w K mg base := ok_check_possible T h_TallyError___init__ h_first_wrong
  have h_gaps : Ok_gaps P w K mg base := ok_gaps T h_gaps_of h_TallyError___init__ h_check_possible
  have h_latest : Ok_latest P w K mg base := ok_latest T h_check_possible
  have h_earliest : Ok_earliest P w K mg base := ok_earliest T h_check_possible
  have h_ways : Ok_ways P w K mg base := ok_ways T h_check_possible
  have h_courses : Ok_courses P w K mg base := ok_courses T h_gaps_of h_check_possible
  have h_may_read : Ok_may_read P w K mg base := ok_may_read T h_number_in_gap
  have h_first_wrong_read : Ok_first_wrong_read P w K mg base := ok_first_wrong_read T h_may_read
  have h_sees : Ok_sees P w K mg base := ok_sees T h_TallyError___init__ h_first_wrong_read h_check_possible
  have h__law_asked : Ok__law_asked P w K mg base := ok__law_asked T h_gaps h_latest h_earliest h_ways h_courses h_sees
  have h__law_bent : Ok__law_bent P w K mg base := ok__law_bent T h__law_dip
  have h__law_odd_course : Ok__law_odd_course P w K mg base := ok__law_odd_course T h__law_dip
  have h__law_course : Ok__law_course P w K mg base := ok__law_course T h__law_dip
  have h__law_writes : Ok__law_writes P w K mg base := ok__law_writes T h__law_dip
  have h__law_right : Ok__law_right P w K mg base := ok__law_right T h__law_wrong h__law_dip h__law_alike h__law_due h__law_asked h__law_bent h__law_odd_course h__law_course h__law_writes
  have h__law_bowl : Ok__law_bowl P w K mg base := ok__law_bowl T
  have h_law : Ok_law P w K mg base := ok_law T h__law_right h__law_bowl
  obtain ⟨f1, fd1, F1, m1, G1⟩ := h_law
  have e : f1 = f := by
    rw [m] at m1
    cases m1
    rfl
  subst e
  have e2 : fd1 = fd := fun_same F1 F
  subst e2
  exact G1
theorem all_mk {l : PySem.W.OpenLaw} {w : World} {K : PySem.W.Frag} {h : Heap} {mg : Str → Option Value} {fa : Addr} (X : K.In h) (G : h.Ns mainGlobals mg) (hfa : mg "law" = some (.ref fa))
    {f0 : Addr} {od0 an0 : Option Addr} {sl0 : Array (Option Value)} {oc0 kV0 dc0 pm0 cd0 ct0 : Value}
    (a0 : PySem.W.nsIn K mainGlobals "first_wrong" = some (some (.ref f0))) (l0 : K.lookup f0 = some ⟨oc0, od0, .func (PySem.W.fnOf "first_wrong" "first_wrong" (defArgs s_first_wrong) (defBody s_first_wrong) (defScope s_first_wrong) .none kV0 dc0 pm0 an0 cd0 ct0), sl0⟩) (c0 : PySem.W.codeIn K cd0 "first_wrong" = true) (k0 : PySem.W.keepIn K (.ref f0) = true)
    {f1 : Addr} {od1 an1 : Option Addr} {sl1 : Array (Option Value)} {oc1 kV1 dc1 pm1 cd1 ct1 : Value}
    (a1 : PySem.W.nsIn K mainGlobals "check_possible" = some (some (.ref f1))) (l1 : K.lookup f1 = some ⟨oc1, od1, .func (PySem.W.fnOf "check_possible" "check_possible" (defArgs s_check_possible) (defBody s_check_possible) (defScope s_check_possible) .none kV1 dc1 pm1 an1 cd1 ct1), sl1⟩) (c1 : PySem.W.codeIn K cd1 "check_possible" = true) (k1 : PySem.W.keepIn K (.ref f1) = true)
    {f2 : Addr} {od2 an2 : Option Addr} {sl2 : Array (Option Value)} {oc2 kV2 dc2 pm2 cd2 ct2 : Value}
    (a2 : PySem.W.nsIn K mainGlobals "number_in_gap" = some (some (.ref f2))) (l2 : K.lookup f2 = some ⟨oc2, od2, .func (PySem.W.fnOf "number_in_gap" "number_in_gap" (defArgs s_number_in_gap) (defBody s_number_in_gap) (defScope s_number_in_gap) .none kV2 dc2 pm2 an2 cd2 ct2), sl2⟩) (c2 : PySem.W.codeIn K cd2 "number_in_gap" = true) (k2 : PySem.W.keepIn K (.ref f2) = true)
    {f3 : Addr} {od3 an3 : Option Addr} {sl3 : Array (Option Value)} {oc3 kV3 dc3 pm3 cd3 ct3 : Value}
    (a3 : PySem.W.nsIn K mainGlobals "may_read" = some (some (.ref f3))) (l3 : K.lookup f3 = some ⟨oc3, od3, .func (PySem.W.fnOf "may_read" "may_read" (defArgs s_may_read) (defBody s_may_read) (defScope s_may_read) .none kV3 dc3 pm3 an3 cd3 ct3), sl3⟩) (c3 : PySem.W.codeIn K cd3 "may_read" = true) (k3 : PySem.W.keepIn K (.ref f3) = true)
    {f4 : Addr} {od4 an4 : Option Addr} {sl4 : Array (Option Value)} {oc4 kV4 dc4 pm4 cd4 ct4 : Value}
    (a4 : PySem.W.nsIn K mainGlobals "gaps_of" = some (some (.ref f4))) (l4 : K.lookup f4 = some ⟨oc4, od4, .func (PySem.W.fnOf "gaps_of" "gaps_of" (defArgs s_gaps_of) (defBody s_gaps_of) (defScope s_gaps_of) .none kV4 dc4 pm4 an4 cd4 ct4), sl4⟩) (c4 : PySem.W.codeIn K cd4 "gaps_of" = true) (k4 : PySem.W.keepIn K (.ref f4) = true)
    {f5 : Addr} {od5 an5 : Option Addr} {sl5 : Array (Option Value)} {oc5 kV5 dc5 pm5 cd5 ct5 : Value}
    (a5 : PySem.W.nsIn K mainGlobals "gaps" = some (some (.ref f5))) (l5 : K.lookup f5 = some ⟨oc5, od5, .func (PySem.W.fnOf "gaps" "gaps" (defArgs s_gaps) (defBody s_gaps) (defScope s_gaps) .none kV5 dc5 pm5 an5 cd5 ct5), sl5⟩) (c5 : PySem.W.codeIn K cd5 "gaps" = true) (k5 : PySem.W.keepIn K (.ref f5) = true)
    {f6 : Addr} {od6 an6 : Option Addr} {sl6 : Array (Option Value)} {oc6 kV6 dc6 pm6 cd6 ct6 : Value}
    (a6 : PySem.W.nsIn K mainGlobals "latest" = some (some (.ref f6))) (l6 : K.lookup f6 = some ⟨oc6, od6, .func (PySem.W.fnOf "latest" "latest" (defArgs s_latest) (defBody s_latest) (defScope s_latest) .none kV6 dc6 pm6 an6 cd6 ct6), sl6⟩) (c6 : PySem.W.codeIn K cd6 "latest" = true) (k6 : PySem.W.keepIn K (.ref f6) = true)
    {f7 : Addr} {od7 an7 : Option Addr} {sl7 : Array (Option Value)} {oc7 kV7 dc7 pm7 cd7 ct7 : Value}
    (a7 : PySem.W.nsIn K mainGlobals "earliest" = some (some (.ref f7))) (l7 : K.lookup f7 = some ⟨oc7, od7, .func (PySem.W.fnOf "earliest" "earliest" (defArgs s_earliest) (defBody s_earliest) (defScope s_earliest) .none kV7 dc7 pm7 an7 cd7 ct7), sl7⟩) (c7 : PySem.W.codeIn K cd7 "earliest" = true) (k7 : PySem.W.keepIn K (.ref f7) = true)
    {f8 : Addr} {od8 an8 : Option Addr} {sl8 : Array (Option Value)} {oc8 kV8 dc8 pm8 cd8 ct8 : Value}
    (a8 : PySem.W.nsIn K mainGlobals "ways" = some (some (.ref f8))) (l8 : K.lookup f8 = some ⟨oc8, od8, .func (PySem.W.fnOf "ways" "ways" (defArgs s_ways) (defBody s_ways) (defScope s_ways) .none kV8 dc8 pm8 an8 cd8 ct8), sl8⟩) (c8 : PySem.W.codeIn K cd8 "ways" = true) (k8 : PySem.W.keepIn K (.ref f8) = true)
    {f9 : Addr} {od9 an9 : Option Addr} {sl9 : Array (Option Value)} {oc9 kV9 dc9 pm9 cd9 ct9 : Value}
    (a9 : PySem.W.nsIn K mainGlobals "courses" = some (some (.ref f9))) (l9 : K.lookup f9 = some ⟨oc9, od9, .func (PySem.W.fnOf "courses" "courses" (defArgs s_courses) (defBody s_courses) (defScope s_courses) .none kV9 dc9 pm9 an9 cd9 ct9), sl9⟩) (c9 : PySem.W.codeIn K cd9 "courses" = true) (k9 : PySem.W.keepIn K (.ref f9) = true)
    {f10 : Addr} {od10 an10 : Option Addr} {sl10 : Array (Option Value)} {oc10 kV10 dc10 pm10 cd10 ct10 : Value}
    (a10 : PySem.W.nsIn K mainGlobals "first_wrong_read" = some (some (.ref f10))) (l10 : K.lookup f10 = some ⟨oc10, od10, .func (PySem.W.fnOf "first_wrong_read" "first_wrong_read" (defArgs s_first_wrong_read) (defBody s_first_wrong_read) (defScope s_first_wrong_read) .none kV10 dc10 pm10 an10 cd10 ct10), sl10⟩) (c10 : PySem.W.codeIn K cd10 "first_wrong_read" = true) (k10 : PySem.W.keepIn K (.ref f10) = true)
    {f11 : Addr} {od11 an11 : Option Addr} {sl11 : Array (Option Value)} {oc11 kV11 dc11 pm11 cd11 ct11 : Value}
    (a11 : PySem.W.nsIn K mainGlobals "sees" = some (some (.ref f11))) (l11 : K.lookup f11 = some ⟨oc11, od11, .func (PySem.W.fnOf "sees" "sees" (defArgs s_sees) (defBody s_sees) (defScope s_sees) .none kV11 dc11 pm11 an11 cd11 ct11), sl11⟩) (c11 : PySem.W.codeIn K cd11 "sees" = true) (k11 : PySem.W.keepIn K (.ref f11) = true)
    {f12 : Addr} {od12 an12 : Option Addr} {sl12 : Array (Option Value)} {oc12 kV12 dc12 pm12 cd12 ct12 : Value}
    (a12 : PySem.W.nsIn K mainGlobals "_law_bowl" = some (some (.ref f12))) (l12 : K.lookup f12 = some ⟨oc12, od12, .func (PySem.W.fnOf "_law_bowl" "_law_bowl" (defArgs s__law_bowl) (defBody s__law_bowl) (defScope s__law_bowl) .none kV12 dc12 pm12 an12 cd12 ct12), sl12⟩) (c12 : PySem.W.codeIn K cd12 "_law_bowl" = true) (k12 : PySem.W.keepIn K (.ref f12) = true)
    {f13 : Addr} {od13 an13 : Option Addr} {sl13 : Array (Option Value)} {oc13 kV13 dc13 pm13 cd13 ct13 : Value}
    (a13 : PySem.W.nsIn K mainGlobals "_law_dip" = some (some (.ref f13))) (l13 : K.lookup f13 = some ⟨oc13, od13, .func (PySem.W.fnOf "_law_dip" "_law_dip" (defArgs s__law_dip) (defBody s__law_dip) (defScope s__law_dip) .none kV13 dc13 pm13 an13 cd13 ct13), sl13⟩) (c13 : PySem.W.codeIn K cd13 "_law_dip" = true) (k13 : PySem.W.keepIn K (.ref f13) = true)
    {f14 : Addr} {od14 an14 : Option Addr} {sl14 : Array (Option Value)} {oc14 kV14 dc14 pm14 cd14 ct14 : Value}
    (a14 : PySem.W.nsIn K mainGlobals "_law_writes" = some (some (.ref f14))) (l14 : K.lookup f14 = some ⟨oc14, od14, .func (PySem.W.fnOf "_law_writes" "_law_writes" (defArgs s__law_writes) (defBody s__law_writes) (defScope s__law_writes) .none kV14 dc14 pm14 an14 cd14 ct14), sl14⟩) (c14 : PySem.W.codeIn K cd14 "_law_writes" = true) (k14 : PySem.W.keepIn K (.ref f14) = true)
    {f15 : Addr} {od15 an15 : Option Addr} {sl15 : Array (Option Value)} {oc15 kV15 dc15 pm15 cd15 ct15 : Value}
    (a15 : PySem.W.nsIn K mainGlobals "_law_bent" = some (some (.ref f15))) (l15 : K.lookup f15 = some ⟨oc15, od15, .func (PySem.W.fnOf "_law_bent" "_law_bent" (defArgs s__law_bent) (defBody s__law_bent) (defScope s__law_bent) .none kV15 dc15 pm15 an15 cd15 ct15), sl15⟩) (c15 : PySem.W.codeIn K cd15 "_law_bent" = true) (k15 : PySem.W.keepIn K (.ref f15) = true)
    {f16 : Addr} {od16 an16 : Option Addr} {sl16 : Array (Option Value)} {oc16 kV16 dc16 pm16 cd16 ct16 : Value}
    (a16 : PySem.W.nsIn K mainGlobals "_law_alike" = some (some (.ref f16))) (l16 : K.lookup f16 = some ⟨oc16, od16, .func (PySem.W.fnOf "_law_alike" "_law_alike" (defArgs s__law_alike) (defBody s__law_alike) (defScope s__law_alike) .none kV16 dc16 pm16 an16 cd16 ct16), sl16⟩) (c16 : PySem.W.codeIn K cd16 "_law_alike" = true) (k16 : PySem.W.keepIn K (.ref f16) = true)
    {f17 : Addr} {od17 an17 : Option Addr} {sl17 : Array (Option Value)} {oc17 kV17 dc17 pm17 cd17 ct17 : Value}
    (a17 : PySem.W.nsIn K mainGlobals "_law_wrong" = some (some (.ref f17))) (l17 : K.lookup f17 = some ⟨oc17, od17, .func (PySem.W.fnOf "_law_wrong" "_law_wrong" (defArgs s__law_wrong) (defBody s__law_wrong) (defScope s__law_wrong) .none kV17 dc17 pm17 an17 cd17 ct17), sl17⟩) (c17 : PySem.W.codeIn K cd17 "_law_wrong" = true) (k17 : PySem.W.keepIn K (.ref f17) = true)
    {f18 : Addr} {od18 an18 : Option Addr} {sl18 : Array (Option Value)} {oc18 kV18 dc18 pm18 cd18 ct18 : Value}
    (a18 : PySem.W.nsIn K mainGlobals "_law_number" = some (some (.ref f18))) (l18 : K.lookup f18 = some ⟨oc18, od18, .func (PySem.W.fnOf "_law_number" "_law_number" (defArgs s__law_number) (defBody s__law_number) (defScope s__law_number) .none kV18 dc18 pm18 an18 cd18 ct18), sl18⟩) (c18 : PySem.W.codeIn K cd18 "_law_number" = true) (k18 : PySem.W.keepIn K (.ref f18) = true)
    {f19 : Addr} {od19 an19 : Option Addr} {sl19 : Array (Option Value)} {oc19 kV19 dc19 pm19 cd19 ct19 : Value}
    (a19 : PySem.W.nsIn K mainGlobals "_law_course" = some (some (.ref f19))) (l19 : K.lookup f19 = some ⟨oc19, od19, .func (PySem.W.fnOf "_law_course" "_law_course" (defArgs s__law_course) (defBody s__law_course) (defScope s__law_course) .none kV19 dc19 pm19 an19 cd19 ct19), sl19⟩) (c19 : PySem.W.codeIn K cd19 "_law_course" = true) (k19 : PySem.W.keepIn K (.ref f19) = true)
    {f20 : Addr} {od20 an20 : Option Addr} {sl20 : Array (Option Value)} {oc20 kV20 dc20 pm20 cd20 ct20 : Value}
    (a20 : PySem.W.nsIn K mainGlobals "_law_asked" = some (some (.ref f20))) (l20 : K.lookup f20 = some ⟨oc20, od20, .func (PySem.W.fnOf "_law_asked" "_law_asked" (defArgs s__law_asked) (defBody s__law_asked) (defScope s__law_asked) .none kV20 dc20 pm20 an20 cd20 ct20), sl20⟩) (c20 : PySem.W.codeIn K cd20 "_law_asked" = true) (k20 : PySem.W.keepIn K (.ref f20) = true)
    {f21 : Addr} {od21 an21 : Option Addr} {sl21 : Array (Option Value)} {oc21 kV21 dc21 pm21 cd21 ct21 : Value}
    (a21 : PySem.W.nsIn K mainGlobals "_law_due" = some (some (.ref f21))) (l21 : K.lookup f21 = some ⟨oc21, od21, .func (PySem.W.fnOf "_law_due" "_law_due" (defArgs s__law_due) (defBody s__law_due) (defScope s__law_due) .none kV21 dc21 pm21 an21 cd21 ct21), sl21⟩) (c21 : PySem.W.codeIn K cd21 "_law_due" = true) (k21 : PySem.W.keepIn K (.ref f21) = true)
    {f22 : Addr} {od22 an22 : Option Addr} {sl22 : Array (Option Value)} {oc22 kV22 dc22 pm22 cd22 ct22 : Value}
    (a22 : PySem.W.nsIn K mainGlobals "_law_odd_course" = some (some (.ref f22))) (l22 : K.lookup f22 = some ⟨oc22, od22, .func (PySem.W.fnOf "_law_odd_course" "_law_odd_course" (defArgs s__law_odd_course) (defBody s__law_odd_course) (defScope s__law_odd_course) .none kV22 dc22 pm22 an22 cd22 ct22), sl22⟩) (c22 : PySem.W.codeIn K cd22 "_law_odd_course" = true) (k22 : PySem.W.keepIn K (.ref f22) = true)
    {f23 : Addr} {od23 an23 : Option Addr} {sl23 : Array (Option Value)} {oc23 kV23 dc23 pm23 cd23 ct23 : Value}
    (a23 : PySem.W.nsIn K mainGlobals "_law_right" = some (some (.ref f23))) (l23 : K.lookup f23 = some ⟨oc23, od23, .func (PySem.W.fnOf "_law_right" "_law_right" (defArgs s__law_right) (defBody s__law_right) (defScope s__law_right) .none kV23 dc23 pm23 an23 cd23 ct23), sl23⟩) (c23 : PySem.W.codeIn K cd23 "_law_right" = true) (k23 : PySem.W.keepIn K (.ref f23) = true)
    {f24 : Addr} {od24 an24 : Option Addr} {sl24 : Array (Option Value)} {oc24 kV24 dc24 pm24 cd24 ct24 : Value}
    (a24 : PySem.W.nsIn K mainGlobals "law" = some (some (.ref f24))) (l24 : K.lookup f24 = some ⟨oc24, od24, .func (PySem.W.fnOf "law" "law" (defArgs s_law) (defBody s_law) (defScope s_law) .none kV24 dc24 pm24 an24 cd24 ct24), sl24⟩) (c24 : PySem.W.codeIn K cd24 "law" = true) (k24 : PySem.W.keepIn K (.ref f24) = true)
    {C_TallyError : Addr} (n_TallyError : PySem.W.nsIn K mainGlobals "TallyError" = some (some (.ref C_TallyError))) (ic_TallyError : PySem.W.isClsIn K C_TallyError = true) (ty_TallyError : PySem.W.typeIn K (.ref C_TallyError) = some (.type "type")) (ex_TallyError : PySem.W.subIn K (.ref C_TallyError) (.type "BaseException") = some true)
    {C_InvalidNumber : Addr} (n_InvalidNumber : PySem.W.nsIn K mainGlobals "InvalidNumber" = some (some (.ref C_InvalidNumber))) (ic_InvalidNumber : PySem.W.isClsIn K C_InvalidNumber = true) (ty_InvalidNumber : PySem.W.typeIn K (.ref C_InvalidNumber) = some (.type "type")) (ex_InvalidNumber : PySem.W.subIn K (.ref C_InvalidNumber) (.type "BaseException") = some true)
    {C_NotPossible : Addr} (n_NotPossible : PySem.W.nsIn K mainGlobals "NotPossible" = some (some (.ref C_NotPossible))) (ic_NotPossible : PySem.W.isClsIn K C_NotPossible = true) (ty_NotPossible : PySem.W.typeIn K (.ref C_NotPossible) = some (.type "type")) (ex_NotPossible : PySem.W.subIn K (.ref C_NotPossible) (.type "BaseException") = some true)
    {C_InvalidGap : Addr} (n_InvalidGap : PySem.W.nsIn K mainGlobals "InvalidGap" = some (some (.ref C_InvalidGap))) (ic_InvalidGap : PySem.W.isClsIn K C_InvalidGap = true) (ty_InvalidGap : PySem.W.typeIn K (.ref C_InvalidGap) = some (.type "type")) (ex_InvalidGap : PySem.W.subIn K (.ref C_InvalidGap) (.type "BaseException") = some true)
    {C_UnknownWrite : Addr} (n_UnknownWrite : PySem.W.nsIn K mainGlobals "UnknownWrite" = some (some (.ref C_UnknownWrite))) (ic_UnknownWrite : PySem.W.isClsIn K C_UnknownWrite = true) (ty_UnknownWrite : PySem.W.typeIn K (.ref C_UnknownWrite) = some (.type "type")) (ex_UnknownWrite : PySem.W.subIn K (.ref C_UnknownWrite) (.type "BaseException") = some true)
    {f_I : Addr} {od_I an_I : Option Addr} {sl_I : Array (Option Value)} {oc_I kV_I dc_I pm_I cd_I ct_I : Value}
    (i_UnknownWrite : PySem.W.findIn K (.ref C_UnknownWrite) "__init__" = some (some (.ref f_I)))
    {nm_UnknownWrite q_UnknownWrite : Str} {N_UnknownWrite : Addr} {bs_UnknownWrite bm_UnknownWrite : List Value} {sn_UnknownWrite : List Str} {sub_UnknownWrite : List Value} {ab_UnknownWrite : Bool} {col_UnknownWrite : Option Bool} {dd_UnknownWrite : Option Addr} {m0_UnknownWrite m1_UnknownWrite m2_UnknownWrite m3_UnknownWrite m5_UnknownWrite : Option Value} (xL_UnknownWrite : K.lookup C_UnknownWrite = some (PySem.excClassObj nm_UnknownWrite q_UnknownWrite C_UnknownWrite N_UnknownWrite bs_UnknownWrite bm_UnknownWrite true sn_UnknownWrite sub_UnknownWrite ab_UnknownWrite col_UnknownWrite dd_UnknownWrite m0_UnknownWrite m1_UnknownWrite m2_UnknownWrite m3_UnknownWrite m5_UnknownWrite "ValueError.__new__")) (hb_UnknownWrite : PySem.HandSPX.refsVE bm_UnknownWrite = true)
    (sa_UnknownWrite : PySem.W.findIn K (.ref C_UnknownWrite) "__setattr__" = some (some (.builtin "object.__setattr__"))) (ga_UnknownWrite : PySem.W.findIn K (.ref C_UnknownWrite) "__getattribute__" = some (some (.builtin "BaseException.__getattribute__"))) (gg_UnknownWrite : PySem.W.findIn K (.ref C_UnknownWrite) "__getattr__" = some none) (nv_UnknownWrite : PySem.W.findIn K (.ref C_UnknownWrite) "value" = some none) (ha_UnknownWrite : PySem.W.findIn K (.ref C_UnknownWrite) "__class__" = some (some (.builtin "object.__class__"))) (hm_UnknownWrite : PySem.W.mroIn K C_UnknownWrite (.type "object") = some true) (kp_UnknownWrite : PySem.W.keepIn K (.ref C_UnknownWrite) = true) (hd_UnknownWrite : PySem.W.hasDictIn K C_UnknownWrite = true)
    (i_NotPossible : PySem.W.findIn K (.ref C_NotPossible) "__init__" = some (some (.ref f_I)))
    {nm_NotPossible q_NotPossible : Str} {N_NotPossible : Addr} {bs_NotPossible bm_NotPossible : List Value} {sn_NotPossible : List Str} {sub_NotPossible : List Value} {ab_NotPossible : Bool} {col_NotPossible : Option Bool} {dd_NotPossible : Option Addr} {m0_NotPossible m1_NotPossible m2_NotPossible m3_NotPossible m5_NotPossible : Option Value} (xL_NotPossible : K.lookup C_NotPossible = some (PySem.excClassObj nm_NotPossible q_NotPossible C_NotPossible N_NotPossible bs_NotPossible bm_NotPossible true sn_NotPossible sub_NotPossible ab_NotPossible col_NotPossible dd_NotPossible m0_NotPossible m1_NotPossible m2_NotPossible m3_NotPossible m5_NotPossible "ValueError.__new__")) (hb_NotPossible : PySem.HandSPX.refsVE bm_NotPossible = true)
    (sa_NotPossible : PySem.W.findIn K (.ref C_NotPossible) "__setattr__" = some (some (.builtin "object.__setattr__"))) (ga_NotPossible : PySem.W.findIn K (.ref C_NotPossible) "__getattribute__" = some (some (.builtin "BaseException.__getattribute__"))) (gg_NotPossible : PySem.W.findIn K (.ref C_NotPossible) "__getattr__" = some none) (nv_NotPossible : PySem.W.findIn K (.ref C_NotPossible) "value" = some none) (ha_NotPossible : PySem.W.findIn K (.ref C_NotPossible) "__class__" = some (some (.builtin "object.__class__"))) (hm_NotPossible : PySem.W.mroIn K C_NotPossible (.type "object") = some true) (kp_NotPossible : PySem.W.keepIn K (.ref C_NotPossible) = true) (hd_NotPossible : PySem.W.hasDictIn K C_NotPossible = true)
    (i_InvalidGap : PySem.W.findIn K (.ref C_InvalidGap) "__init__" = some (some (.ref f_I)))
    {nm_InvalidGap q_InvalidGap : Str} {N_InvalidGap : Addr} {bs_InvalidGap bm_InvalidGap : List Value} {sn_InvalidGap : List Str} {sub_InvalidGap : List Value} {ab_InvalidGap : Bool} {col_InvalidGap : Option Bool} {dd_InvalidGap : Option Addr} {m0_InvalidGap m1_InvalidGap m2_InvalidGap m3_InvalidGap m5_InvalidGap : Option Value} (xL_InvalidGap : K.lookup C_InvalidGap = some (PySem.excClassObj nm_InvalidGap q_InvalidGap C_InvalidGap N_InvalidGap bs_InvalidGap bm_InvalidGap true sn_InvalidGap sub_InvalidGap ab_InvalidGap col_InvalidGap dd_InvalidGap m0_InvalidGap m1_InvalidGap m2_InvalidGap m3_InvalidGap m5_InvalidGap "ValueError.__new__")) (hb_InvalidGap : PySem.HandSPX.refsVE bm_InvalidGap = true)
    (sa_InvalidGap : PySem.W.findIn K (.ref C_InvalidGap) "__setattr__" = some (some (.builtin "object.__setattr__"))) (ga_InvalidGap : PySem.W.findIn K (.ref C_InvalidGap) "__getattribute__" = some (some (.builtin "BaseException.__getattribute__"))) (gg_InvalidGap : PySem.W.findIn K (.ref C_InvalidGap) "__getattr__" = some none) (nv_InvalidGap : PySem.W.findIn K (.ref C_InvalidGap) "value" = some none) (ha_InvalidGap : PySem.W.findIn K (.ref C_InvalidGap) "__class__" = some (some (.builtin "object.__class__"))) (hm_InvalidGap : PySem.W.mroIn K C_InvalidGap (.type "object") = some true) (kp_InvalidGap : PySem.W.keepIn K (.ref C_InvalidGap) = true) (hd_InvalidGap : PySem.W.hasDictIn K C_InvalidGap = true)
    (eti : PySem.W.typeIn K (.ref f_I) = some (.type "function")) (eli : K.lookup f_I = some ⟨oc_I, od_I, .func (PySem.W.fnOf "__init__" "TallyError.__init__" (defArgs s_TallyError___init__) (defBody s_TallyError___init__) (defScope s_TallyError___init__) .none kV_I dc_I pm_I an_I cd_I ct_I), sl_I⟩) (eci : PySem.W.codeIn K cd_I "TallyError.__init__" = true) (eki : PySem.W.keepIn K (.ref f_I) = true)
    (ehn : PySem.W.specialIn K (.builtin "object.__class__") "__get__" = some (some (.builtin "getset_descriptor.__get__"))) (eht : PySem.W.takesIn K (.builtin "object.__class__") = some true)
    (s_UnknownWrite_NotPossible : PySem.W.subIn K (.ref C_UnknownWrite) (.ref C_NotPossible) = some false) (ne_UnknownWrite_NotPossible : (Value.ref C_UnknownWrite == Value.ref C_NotPossible) = false)
    (s_UnknownWrite_UnknownWrite : PySem.W.subIn K (.ref C_UnknownWrite) (.ref C_UnknownWrite) = some true) (ne_UnknownWrite_UnknownWrite : true = true)
    (s_UnknownWrite_InvalidGap : PySem.W.subIn K (.ref C_UnknownWrite) (.ref C_InvalidGap) = some false) (ne_UnknownWrite_InvalidGap : (Value.ref C_UnknownWrite == Value.ref C_InvalidGap) = false)
    (s_UnknownWrite_InvalidNumber : PySem.W.subIn K (.ref C_UnknownWrite) (.ref C_InvalidNumber) = some false) (ne_UnknownWrite_InvalidNumber : (Value.ref C_UnknownWrite == Value.ref C_InvalidNumber) = false)
    (s_UnknownWrite_TallyError : PySem.W.subIn K (.ref C_UnknownWrite) (.ref C_TallyError) = some true) (ne_UnknownWrite_TallyError : true = true)
    (s_NotPossible_NotPossible : PySem.W.subIn K (.ref C_NotPossible) (.ref C_NotPossible) = some true) (ne_NotPossible_NotPossible : true = true)
    (s_NotPossible_UnknownWrite : PySem.W.subIn K (.ref C_NotPossible) (.ref C_UnknownWrite) = some false) (ne_NotPossible_UnknownWrite : (Value.ref C_NotPossible == Value.ref C_UnknownWrite) = false)
    (s_NotPossible_InvalidGap : PySem.W.subIn K (.ref C_NotPossible) (.ref C_InvalidGap) = some false) (ne_NotPossible_InvalidGap : (Value.ref C_NotPossible == Value.ref C_InvalidGap) = false)
    (s_NotPossible_InvalidNumber : PySem.W.subIn K (.ref C_NotPossible) (.ref C_InvalidNumber) = some false) (ne_NotPossible_InvalidNumber : (Value.ref C_NotPossible == Value.ref C_InvalidNumber) = false)
    (s_NotPossible_TallyError : PySem.W.subIn K (.ref C_NotPossible) (.ref C_TallyError) = some true) (ne_NotPossible_TallyError : true = true)
    (s_InvalidGap_NotPossible : PySem.W.subIn K (.ref C_InvalidGap) (.ref C_NotPossible) = some false) (ne_InvalidGap_NotPossible : (Value.ref C_InvalidGap == Value.ref C_NotPossible) = false)
    (s_InvalidGap_UnknownWrite : PySem.W.subIn K (.ref C_InvalidGap) (.ref C_UnknownWrite) = some false) (ne_InvalidGap_UnknownWrite : (Value.ref C_InvalidGap == Value.ref C_UnknownWrite) = false)
    (s_InvalidGap_InvalidGap : PySem.W.subIn K (.ref C_InvalidGap) (.ref C_InvalidGap) = some true) (ne_InvalidGap_InvalidGap : true = true)
    (s_InvalidGap_InvalidNumber : PySem.W.subIn K (.ref C_InvalidGap) (.ref C_InvalidNumber) = some false) (ne_InvalidGap_InvalidNumber : (Value.ref C_InvalidGap == Value.ref C_InvalidNumber) = false)
    (s_InvalidGap_TallyError : PySem.W.subIn K (.ref C_InvalidGap) (.ref C_TallyError) = some true) (ne_InvalidGap_TallyError : true = true)
    (z_enumerate : PySem.W.nsIn K mainGlobals "enumerate" = some none)
    (z_max : PySem.W.nsIn K mainGlobals "max" = some none)
    (z_range : PySem.W.nsIn K mainGlobals "range" = some none)
    (z_len : PySem.W.nsIn K mainGlobals "len" = some none)
    (z_list : PySem.W.nsIn K mainGlobals "list" = some none)
    (z_int : PySem.W.nsIn K mainGlobals "int" = some none)
    (z_abs : PySem.W.nsIn K mainGlobals "abs" = some none)
    (z_min : PySem.W.nsIn K mainGlobals "min" = some none)
    (z_isinstance : PySem.W.nsIn K mainGlobals "isinstance" = some none)
    (z_bool : PySem.W.nsIn K mainGlobals "bool" = some none)
    (z_str : PySem.W.nsIn K mainGlobals "str" = some none)
    (z_zip : PySem.W.nsIn K mainGlobals "zip" = some none)
    (z_tuple : PySem.W.nsIn K mainGlobals "tuple" = some none)
    : ∃ fd : FuncData, (∀ (s : Shared) (v : Value), BindsTo s fd ⟨[v], []⟩ [("_law_script", v)]) ∧ ∀ base : Heap, K.In base → base.Ns mainGlobals mg → FnOk l.prog w K mg base CX0 7 fa fd ["_law_script"] (sp_law K) := by
  have e := hfa.symm.trans (PySem.W.mg_of X G a24)
  cases e
  have e_TallyError : Sa.clsOf mg "TallyError" = C_TallyError := Sa.clsOf_eq (PySem.W.mg_of X G n_TallyError)
  have e_InvalidNumber : Sa.clsOf mg "InvalidNumber" = C_InvalidNumber := Sa.clsOf_eq (PySem.W.mg_of X G n_InvalidNumber)
  have e_NotPossible : Sa.clsOf mg "NotPossible" = C_NotPossible := Sa.clsOf_eq (PySem.W.mg_of X G n_NotPossible)
  have e_InvalidGap : Sa.clsOf mg "InvalidGap" = C_InvalidGap := Sa.clsOf_eq (PySem.W.mg_of X G n_InvalidGap)
  have e_UnknownWrite : Sa.clsOf mg "UnknownWrite" = C_UnknownWrite := Sa.clsOf_eq (PySem.W.mg_of X G n_UnknownWrite)
  have T : Top K mg := {
    d_first_wrong := ⟨_, _, fun_mk (st := s_first_wrong) l0 c0 k0, PySem.W.mg_of X G a0⟩
    d_check_possible := ⟨_, _, fun_mk (st := s_check_possible) l1 c1 k1, PySem.W.mg_of X G a1⟩
    d_number_in_gap := ⟨_, _, fun_mk (st := s_number_in_gap) l2 c2 k2, PySem.W.mg_of X G a2⟩
    d_may_read := ⟨_, _, fun_mk (st := s_may_read) l3 c3 k3, PySem.W.mg_of X G a3⟩
    d_gaps_of := ⟨_, _, fun_mk (st := s_gaps_of) l4 c4 k4, PySem.W.mg_of X G a4⟩
    d_gaps := ⟨_, _, fun_mk (st := s_gaps) l5 c5 k5, PySem.W.mg_of X G a5⟩
    d_latest := ⟨_, _, fun_mk (st := s_latest) l6 c6 k6, PySem.W.mg_of X G a6⟩
    d_earliest := ⟨_, _, fun_mk (st := s_earliest) l7 c7 k7, PySem.W.mg_of X G a7⟩
    d_ways := ⟨_, _, fun_mk (st := s_ways) l8 c8 k8, PySem.W.mg_of X G a8⟩
    d_courses := ⟨_, _, fun_mk (st := s_courses) l9 c9 k9, PySem.W.mg_of X G a9⟩
    d_first_wrong_read := ⟨_, _, fun_mk (st := s_first_wrong_read) l10 c10 k10, PySem.W.mg_of X G a10⟩
    d_sees := ⟨_, _, fun_mk (st := s_sees) l11 c11 k11, PySem.W.mg_of X G a11⟩
    d__law_bowl := ⟨_, _, fun_mk (st := s__law_bowl) l12 c12 k12, PySem.W.mg_of X G a12⟩
    d__law_dip := ⟨_, _, fun_mk (st := s__law_dip) l13 c13 k13, PySem.W.mg_of X G a13⟩
    d__law_writes := ⟨_, _, fun_mk (st := s__law_writes) l14 c14 k14, PySem.W.mg_of X G a14⟩
    d__law_bent := ⟨_, _, fun_mk (st := s__law_bent) l15 c15 k15, PySem.W.mg_of X G a15⟩
    d__law_alike := ⟨_, _, fun_mk (st := s__law_alike) l16 c16 k16, PySem.W.mg_of X G a16⟩
    d__law_wrong := ⟨_, _, fun_mk (st := s__law_wrong) l17 c17 k17, PySem.W.mg_of X G a17⟩
    d__law_number := ⟨_, _, fun_mk (st := s__law_number) l18 c18 k18, PySem.W.mg_of X G a18⟩
    d__law_course := ⟨_, _, fun_mk (st := s__law_course) l19 c19 k19, PySem.W.mg_of X G a19⟩
    d__law_asked := ⟨_, _, fun_mk (st := s__law_asked) l20 c20 k20, PySem.W.mg_of X G a20⟩
    d__law_due := ⟨_, _, fun_mk (st := s__law_due) l21 c21 k21, PySem.W.mg_of X G a21⟩
    d__law_odd_course := ⟨_, _, fun_mk (st := s__law_odd_course) l22 c22 k22, PySem.W.mg_of X G a22⟩
    d__law_right := ⟨_, _, fun_mk (st := s__law_right) l23 c23 k23, PySem.W.mg_of X G a23⟩
    d_law := ⟨_, _, fun_mk (st := s_law) l24 c24 k24, PySem.W.mg_of X G a24⟩
    g_TallyError := by rw [e_TallyError]; exact PySem.W.mg_of X G n_TallyError
    g_InvalidNumber := by rw [e_InvalidNumber]; exact PySem.W.mg_of X G n_InvalidNumber
    g_NotPossible := by rw [e_NotPossible]; exact PySem.W.mg_of X G n_NotPossible
    g_InvalidGap := by rw [e_InvalidGap]; exact PySem.W.mg_of X G n_InvalidGap
    g_UnknownWrite := by rw [e_UnknownWrite]; exact PySem.W.mg_of X G n_UnknownWrite
    d_TallyError___init__ := by rw [e_UnknownWrite, e_NotPossible, e_InvalidGap]; exact ⟨_, _, fun_mk (st := s_TallyError___init__) eli eci eki, eti, ⟨⟨⟨_, _, _, _, _, _, _, _, _, _, _, _, _, _, _, xL_UnknownWrite, hb_UnknownWrite⟩, sa_UnknownWrite, ex_UnknownWrite, ty_UnknownWrite, kp_UnknownWrite⟩, i_UnknownWrite, ga_UnknownWrite, gg_UnknownWrite, hd_UnknownWrite, nv_UnknownWrite, ha_UnknownWrite, ehn, eht, hm_UnknownWrite⟩, ⟨⟨⟨_, _, _, _, _, _, _, _, _, _, _, _, _, _, _, xL_NotPossible, hb_NotPossible⟩, sa_NotPossible, ex_NotPossible, ty_NotPossible, kp_NotPossible⟩, i_NotPossible, ga_NotPossible, gg_NotPossible, hd_NotPossible, nv_NotPossible, ha_NotPossible, ehn, eht, hm_NotPossible⟩, ⟨⟨⟨_, _, _, _, _, _, _, _, _, _, _, _, _, _, _, xL_InvalidGap, hb_InvalidGap⟩, sa_InvalidGap, ex_InvalidGap, ty_InvalidGap, kp_InvalidGap⟩, i_InvalidGap, ga_InvalidGap, gg_InvalidGap, hd_InvalidGap, nv_InvalidGap, ha_InvalidGap, ehn, eht, hm_InvalidGap⟩⟩
    k_UnknownWrite_NotPossible := by rw [e_UnknownWrite, e_NotPossible]; exact Sa.kit_mk ic_NotPossible ty_NotPossible s_UnknownWrite_NotPossible (.inl ne_UnknownWrite_NotPossible)
    k_UnknownWrite_UnknownWrite := by rw [e_UnknownWrite]; exact Sa.kit_mk ic_UnknownWrite ty_UnknownWrite s_UnknownWrite_UnknownWrite (.inr rfl)
    k_UnknownWrite_InvalidGap := by rw [e_UnknownWrite, e_InvalidGap]; exact Sa.kit_mk ic_InvalidGap ty_InvalidGap s_UnknownWrite_InvalidGap (.inl ne_UnknownWrite_InvalidGap)
    k_UnknownWrite_InvalidNumber := by rw [e_UnknownWrite, e_InvalidNumber]; exact Sa.kit_mk ic_InvalidNumber ty_InvalidNumber s_UnknownWrite_InvalidNumber (.inl ne_UnknownWrite_InvalidNumber)
    m_UnknownWrite_TallyError := by rw [e_UnknownWrite, e_TallyError]; exact Sa.exm_mk ex_TallyError ic_TallyError ty_TallyError s_UnknownWrite_TallyError
    k_NotPossible_NotPossible := by rw [e_NotPossible]; exact Sa.kit_mk ic_NotPossible ty_NotPossible s_NotPossible_NotPossible (.inr rfl)
    k_NotPossible_UnknownWrite := by rw [e_NotPossible, e_UnknownWrite]; exact Sa.kit_mk ic_UnknownWrite ty_UnknownWrite s_NotPossible_UnknownWrite (.inl ne_NotPossible_UnknownWrite)
    k_NotPossible_InvalidGap := by rw [e_NotPossible, e_InvalidGap]; exact Sa.kit_mk ic_InvalidGap ty_InvalidGap s_NotPossible_InvalidGap (.inl ne_NotPossible_InvalidGap)
    k_NotPossible_InvalidNumber := by rw [e_NotPossible, e_InvalidNumber]; exact Sa.kit_mk ic_InvalidNumber ty_InvalidNumber s_NotPossible_InvalidNumber (.inl ne_NotPossible_InvalidNumber)
    m_NotPossible_TallyError := by rw [e_NotPossible, e_TallyError]; exact Sa.exm_mk ex_TallyError ic_TallyError ty_TallyError s_NotPossible_TallyError
    k_InvalidGap_NotPossible := by rw [e_InvalidGap, e_NotPossible]; exact Sa.kit_mk ic_NotPossible ty_NotPossible s_InvalidGap_NotPossible (.inl ne_InvalidGap_NotPossible)
    k_InvalidGap_UnknownWrite := by rw [e_InvalidGap, e_UnknownWrite]; exact Sa.kit_mk ic_UnknownWrite ty_UnknownWrite s_InvalidGap_UnknownWrite (.inl ne_InvalidGap_UnknownWrite)
    k_InvalidGap_InvalidGap := by rw [e_InvalidGap]; exact Sa.kit_mk ic_InvalidGap ty_InvalidGap s_InvalidGap_InvalidGap (.inr rfl)
    k_InvalidGap_InvalidNumber := by rw [e_InvalidGap, e_InvalidNumber]; exact Sa.kit_mk ic_InvalidNumber ty_InvalidNumber s_InvalidGap_InvalidNumber (.inl ne_InvalidGap_InvalidNumber)
    m_InvalidGap_TallyError := by rw [e_InvalidGap, e_TallyError]; exact Sa.exm_mk ex_TallyError ic_TallyError ty_TallyError s_InvalidGap_TallyError
    z_enumerate := PySem.W.mg_none_of X G z_enumerate
    z_max := PySem.W.mg_none_of X G z_max
    z_range := PySem.W.mg_none_of X G z_range
    z_len := PySem.W.mg_none_of X G z_len
    z_list := PySem.W.mg_none_of X G z_list
    z_int := PySem.W.mg_none_of X G z_int
    z_abs := PySem.W.mg_none_of X G z_abs
    z_min := PySem.W.mg_none_of X G z_min
    z_isinstance := PySem.W.mg_none_of X G z_isinstance
    z_bool := PySem.W.mg_none_of X G z_bool
    z_str := PySem.W.mg_none_of X G z_str
    z_zip := PySem.W.mg_none_of X G z_zip
    z_tuple := PySem.W.mg_none_of X G z_tuple
  }
  exact ⟨PySem.W.fnOf "law" "law" (defArgs s_law) (defBody s_law) (defScope s_law) .none kV24 dc24 pm24 an24 cd24 ct24, fun s v => .of_eq rfl, fun base _ _ => all_ok T (fun_mk (st := s_law) l24 c24 k24) hfa⟩
theorem walk {l : PySem.W.OpenLaw} {q : Program} {loose : List Str} {XP : (Str → Option Value) → Heap → Prop} {YP : World → Heap → Prop} {d : DefRec} {K : Params → PySem.W.Frag} (hn : l.most = some 63) (hdf : d.params.defaults = [])
    (hY : ∀ (w : World) (h : Heap), YP w h → (K w.params).In h)
    (F : ∀ (w : World) (mg : Str → Option Value) (fa : Addr) (h : Heap), (K w.params).In h → h.Ns mainGlobals mg → mg d.name = some (.ref fa) →
      ∃ fd : FuncData, (∀ (s : Shared) (u : Value), BindsTo s fd ⟨[u], []⟩ [("_law_script", u)]) ∧ ∀ base : Heap, (K w.params).In base → base.Ns mainGlobals mg → FnOk l.prog w (K w.params) mg base CX0 7 fa fd ["_law_script"] (sp_law (K w.params))) :
    PySem.W.WalkO q loose XP YP l.row.toRowW d [] (fun f vs => PySem.call f vs) :=
  L2.walk_of (n := 63) (k := 7) (x := "_law_script") (CX := fun _ => CX0) (sp := fun w => sp_law (K w.params)) hn (by decide) hdf ⟨rfl, by decide, by decide⟩ hY F (fun _ _ a ns hl _ hS => ⟨a, ns, rfl, hS, hl, fun _ => rfl⟩) fun _ _ _ _ _ z => z
end T
open PySem PySem.W PyProof.Rows
set_option maxRecDepth 100000 in
set_option maxHeartbeats 0 in
theorem PySem.Challenge.cw_staletally_k14_reads_refused_holds : PySem.Challenge.rw_staletally_k14_reads_refused.Holds := by
  w_on; o_law; k_head; (case hw => w_witness2)
  k_fill
  refine T.walk (l := PySem.Challenge.rw_staletally_k14_reads_refused) rfl rfl (fun w h Y => PySem.W.kIn_of Y) ?F
  case F =>
    intro w mg fa h KX G hmg
    refine' T.all_mk KX G hmg ?a0 ?l0 ?c0 ?k0 ?a1 ?l1 ?c1 ?k1 ?a2 ?l2 ?c2 ?k2 ?a3 ?l3 ?c3 ?k3 ?a4 ?l4 ?c4 ?k4 ?a5 ?l5 ?c5 ?k5 ?a6 ?l6 ?c6 ?k6 ?a7 ?l7 ?c7 ?k7 ?a8 ?l8 ?c8 ?k8 ?a9 ?l9 ?c9 ?k9 ?a10 ?l10 ?c10 ?k10 ?a11 ?l11 ?c11 ?k11 ?a12 ?l12 ?c12 ?k12 ?a13 ?l13 ?c13 ?k13 ?a14 ?l14 ?c14 ?k14 ?a15 ?l15 ?c15 ?k15 ?a16 ?l16 ?c16 ?k16 ?a17 ?l17 ?c17 ?k17 ?a18 ?l18 ?c18 ?k18 ?a19 ?l19 ?c19 ?k19 ?a20 ?l20 ?c20 ?k20 ?a21 ?l21 ?c21 ?k21 ?a22 ?l22 ?c22 ?k22 ?a23 ?l23 ?c23 ?k23 ?a24 ?l24 ?c24 ?k24 ?n_TallyError ?ic_TallyError ?ty_TallyError ?ex_TallyError ?n_InvalidNumber ?ic_InvalidNumber ?ty_InvalidNumber ?ex_InvalidNumber ?n_NotPossible ?ic_NotPossible ?ty_NotPossible ?ex_NotPossible ?n_InvalidGap ?ic_InvalidGap ?ty_InvalidGap ?ex_InvalidGap ?n_UnknownWrite ?ic_UnknownWrite ?ty_UnknownWrite ?ex_UnknownWrite ?i_UnknownWrite ?xL_UnknownWrite ?hb_UnknownWrite ?sa_UnknownWrite ?ga_UnknownWrite ?gg_UnknownWrite ?nv_UnknownWrite ?ha_UnknownWrite ?hm_UnknownWrite ?kp_UnknownWrite ?hd_UnknownWrite ?i_NotPossible ?xL_NotPossible ?hb_NotPossible ?sa_NotPossible ?ga_NotPossible ?gg_NotPossible ?nv_NotPossible ?ha_NotPossible ?hm_NotPossible ?kp_NotPossible ?hd_NotPossible ?i_InvalidGap ?xL_InvalidGap ?hb_InvalidGap ?sa_InvalidGap ?ga_InvalidGap ?gg_InvalidGap ?nv_InvalidGap ?ha_InvalidGap ?hm_InvalidGap ?kp_InvalidGap ?hd_InvalidGap ?eti ?eli ?eci ?eki ?ehn ?eht ?s_UnknownWrite_NotPossible ?ne_UnknownWrite_NotPossible ?s_UnknownWrite_UnknownWrite ?ne_UnknownWrite_UnknownWrite ?s_UnknownWrite_InvalidGap ?ne_UnknownWrite_InvalidGap ?s_UnknownWrite_InvalidNumber ?ne_UnknownWrite_InvalidNumber ?s_UnknownWrite_TallyError ?ne_UnknownWrite_TallyError ?s_NotPossible_NotPossible ?ne_NotPossible_NotPossible ?s_NotPossible_UnknownWrite ?ne_NotPossible_UnknownWrite ?s_NotPossible_InvalidGap ?ne_NotPossible_InvalidGap ?s_NotPossible_InvalidNumber ?ne_NotPossible_InvalidNumber ?s_NotPossible_TallyError ?ne_NotPossible_TallyError ?s_InvalidGap_NotPossible ?ne_InvalidGap_NotPossible ?s_InvalidGap_UnknownWrite ?ne_InvalidGap_UnknownWrite ?s_InvalidGap_InvalidGap ?ne_InvalidGap_InvalidGap ?s_InvalidGap_InvalidNumber ?ne_InvalidGap_InvalidNumber ?s_InvalidGap_TallyError ?ne_InvalidGap_TallyError ?z_enumerate ?z_max ?z_range ?z_len ?z_list ?z_int ?z_abs ?z_min ?z_isinstance ?z_bool ?z_str ?z_zip ?z_tuple
    (case a0 => k_is); (case l0 => k_is); (case c0 => k_is); (case k0 => k_is)
    (case a1 => k_is); (case l1 => k_is); (case c1 => k_is); (case k1 => k_is)
    (case a2 => k_is); (case l2 => k_is); (case c2 => k_is); (case k2 => k_is)
    (case a3 => k_is); (case l3 => k_is); (case c3 => k_is); (case k3 => k_is)
    (case a4 => k_is); (case l4 => k_is); (case c4 => k_is); (case k4 => k_is)
    (case a5 => k_is); (case l5 => k_is); (case c5 => k_is); (case k5 => k_is)
    (case a6 => k_is); (case l6 => k_is); (case c6 => k_is); (case k6 => k_is)
    (case a7 => k_is); (case l7 => k_is); (case c7 => k_is); (case k7 => k_is)
    (case a8 => k_is); (case l8 => k_is); (case c8 => k_is); (case k8 => k_is)
    (case a9 => k_is); (case l9 => k_is); (case c9 => k_is); (case k9 => k_is)
    (case a10 => k_is); (case l10 => k_is); (case c10 => k_is); (case k10 => k_is)
    (case a11 => k_is); (case l11 => k_is); (case c11 => k_is); (case k11 => k_is)
    (case a12 => k_is); (case l12 => k_is); (case c12 => k_is); (case k12 => k_is)
    (case a13 => k_is); (case l13 => k_is); (case c13 => k_is); (case k13 => k_is)
    (case a14 => k_is); (case l14 => k_is); (case c14 => k_is); (case k14 => k_is)
    (case a15 => k_is); (case l15 => k_is); (case c15 => k_is); (case k15 => k_is)
    (case a16 => k_is); (case l16 => k_is); (case c16 => k_is); (case k16 => k_is)
    (case a17 => k_is); (case l17 => k_is); (case c17 => k_is); (case k17 => k_is)
    (case a18 => k_is); (case l18 => k_is); (case c18 => k_is); (case k18 => k_is)
    (case a19 => k_is); (case l19 => k_is); (case c19 => k_is); (case k19 => k_is)
    (case a20 => k_is); (case l20 => k_is); (case c20 => k_is); (case k20 => k_is)
    (case a21 => k_is); (case l21 => k_is); (case c21 => k_is); (case k21 => k_is)
    (case a22 => k_is); (case l22 => k_is); (case c22 => k_is); (case k22 => k_is)
    (case a23 => k_is); (case l23 => k_is); (case c23 => k_is); (case k23 => k_is)
    (case a24 => k_is); (case l24 => k_is); (case c24 => k_is); (case k24 => k_is)
    (case n_TallyError => k_is)
    (case ic_TallyError => k_is)
    (case ty_TallyError => k_is)
    (case ex_TallyError => k_is)
    (case n_InvalidNumber => k_is)
    (case ic_InvalidNumber => k_is)
    (case ty_InvalidNumber => k_is)
    (case ex_InvalidNumber => k_is)
    (case n_NotPossible => k_is)
    (case ic_NotPossible => k_is)
    (case ty_NotPossible => k_is)
    (case ex_NotPossible => k_is)
    (case n_InvalidGap => k_is)
    (case ic_InvalidGap => k_is)
    (case ty_InvalidGap => k_is)
    (case ex_InvalidGap => k_is)
    (case n_UnknownWrite => k_is)
    (case ic_UnknownWrite => k_is)
    (case ty_UnknownWrite => k_is)
    (case ex_UnknownWrite => k_is)
    (case i_UnknownWrite => k_is)
    (case xL_UnknownWrite => k_is)
    (case hb_UnknownWrite => decide +kernel)
    (case sa_UnknownWrite => k_is)
    (case ga_UnknownWrite => k_is)
    (case gg_UnknownWrite => k_is)
    (case nv_UnknownWrite => k_is)
    (case ha_UnknownWrite => k_is)
    (case hm_UnknownWrite => k_is)
    (case kp_UnknownWrite => k_is)
    (case hd_UnknownWrite => k_is)
    (case i_NotPossible => k_is)
    (case xL_NotPossible => k_is)
    (case hb_NotPossible => decide +kernel)
    (case sa_NotPossible => k_is)
    (case ga_NotPossible => k_is)
    (case gg_NotPossible => k_is)
    (case nv_NotPossible => k_is)
    (case ha_NotPossible => k_is)
    (case hm_NotPossible => k_is)
    (case kp_NotPossible => k_is)
    (case hd_NotPossible => k_is)
    (case i_InvalidGap => k_is)
    (case xL_InvalidGap => k_is)
    (case hb_InvalidGap => decide +kernel)
    (case sa_InvalidGap => k_is)
    (case ga_InvalidGap => k_is)
    (case gg_InvalidGap => k_is)
    (case nv_InvalidGap => k_is)
    (case ha_InvalidGap => k_is)
    (case hm_InvalidGap => k_is)
    (case kp_InvalidGap => k_is)
    (case hd_InvalidGap => k_is)
    (case eti => k_is)
    (case eli => k_is)
    (case eci => k_is)
    (case eki => k_is)
    (case ehn => k_is)
    (case eht => k_is)
    (case s_UnknownWrite_NotPossible => k_is)
    (case ne_UnknownWrite_NotPossible => exact rfl)
    (case s_UnknownWrite_UnknownWrite => k_is)
    (case ne_UnknownWrite_UnknownWrite => exact rfl)
    (case s_UnknownWrite_InvalidGap => k_is)
    (case ne_UnknownWrite_InvalidGap => exact rfl)
    (case s_UnknownWrite_InvalidNumber => k_is)
    (case ne_UnknownWrite_InvalidNumber => exact rfl)
    (case s_UnknownWrite_TallyError => k_is)
    (case ne_UnknownWrite_TallyError => exact rfl)
    (case s_NotPossible_NotPossible => k_is)
    (case ne_NotPossible_NotPossible => exact rfl)
    (case s_NotPossible_UnknownWrite => k_is)
    (case ne_NotPossible_UnknownWrite => exact rfl)
    (case s_NotPossible_InvalidGap => k_is)
    (case ne_NotPossible_InvalidGap => exact rfl)
    (case s_NotPossible_InvalidNumber => k_is)
    (case ne_NotPossible_InvalidNumber => exact rfl)
    (case s_NotPossible_TallyError => k_is)
    (case ne_NotPossible_TallyError => exact rfl)
    (case s_InvalidGap_NotPossible => k_is)
    (case ne_InvalidGap_NotPossible => exact rfl)
    (case s_InvalidGap_UnknownWrite => k_is)
    (case ne_InvalidGap_UnknownWrite => exact rfl)
    (case s_InvalidGap_InvalidGap => k_is)
    (case ne_InvalidGap_InvalidGap => exact rfl)
    (case s_InvalidGap_InvalidNumber => k_is)
    (case ne_InvalidGap_InvalidNumber => exact rfl)
    (case s_InvalidGap_TallyError => k_is)
    (case ne_InvalidGap_TallyError => exact rfl)
    (case z_enumerate => k_is)
    (case z_max => k_is)
    (case z_range => k_is)
    (case z_len => k_is)
    (case z_list => k_is)
    (case z_int => k_is)
    (case z_abs => k_is)
    (case z_min => k_is)
    (case z_isinstance => k_is)
    (case z_bool => k_is)
    (case z_str => k_is)
    (case z_zip => k_is)
    (case z_tuple => k_is)
#print axioms PySem.Challenge.cw_staletally_k14_reads_refused_holds
