import PyProof.Rows.All
import Wide.All
import OpenK.AllK
import Wide.FinOn
import HandS.ForMost
import HandS.Walk
import PyProof.DictCopy
import PyProof.DictUpdate
import PyProof.FactsAll.dict_2
import HandS.TupMul
import HandS.SlotsOwn
import OpenK.KOps
import HandS.Conv
import HandS.Zip
import HandS.SetFor
import PyProof.EnumMake
import KE.GoesMore
import KE.GoesEnum
import KE.KDictZip
import KE.KDictItemsList
import HandS.DictTup
import KE.DataMinMax
import HandS.DictComp
import HandS.Slots
import HandS.Codes
import HandS.TupAny
import HandS.IsInst
import HandS.More
import HandS.SetKeys
import HandS.Star
import HandS.Property
import HandS.Defaults
import PySem.Challenge.RW_blindfuses_k58_whole_loads_and_boxes
import HandS.Style
import HandS.Flow
set_option Elab.async false
set_option linter.all false
set_option maxRecDepth 100000
set_option maxHeartbeats 4000000
/-! Bx: immutable data, frames, what evaluates to what, comprehensions over data. -/
namespace Bx
open PySem L2

/-- data that never changes -/
inductive D where
  | non
  | bl (b : Bool)
  | int (i : Int)
  | str (s : Str)
  | tup (l : List D)

mutual
/-- in H the value v is the datum -/
def Im (H : Hp) : D → V → Prop
  | .non, v => v = .non
  | .bl b, v => v = .bl b
  | .int i, v => v = .int i
  | .str s, v => v = .str s
  | .tup l, v => ∃ a xs, v = .ref a ∧ H a = some (.tup xs) ∧ ImL H l xs
def ImL (H : Hp) : List D → List V → Prop
  | [], vs => vs = []
  | d :: ds, vs => ∃ v r, vs = v :: r ∧ Im H d v ∧ ImL H ds r
end

/-- tuples stay -/
def Tx (H H' : Hp) : Prop := ∀ a xs, H a = some (.tup xs) → H' a = some (.tup xs)
theorem Tx.refl (H : Hp) : Tx H H := fun _ _ h => h
theorem Tx.trans {H H1 H2 : Hp} (a : Tx H H1) (b : Tx H1 H2) : Tx H H2 := fun x o h => b x o (a x o h)
theorem Same.tx {H H' : Hp} (e : Same H H') : Tx H H' := fun a xs h => e a _ h
theorem tx_upd {H : Hp} {a : Addr} {o u : HO} (h : H a = some u) (n : ∀ xs, u ≠ .tup xs) : Tx H (upd H a o) := fun b xs q => by
  rw [upd_ne (ne_of q h fun z => n xs z.symm)]
  exact q
theorem same_new {H : Hp} {p : Addr} (h : H p = none) (o : HO) : Same H (upd H p o) := fun b u q => by
  rw [upd_ne (ne_of_none q h)]
  exact q
/-- what the elder heap does not know may change -/
theorem same_mut {H H' : Hp} {p : Addr} {o : HO} (e : Same H H') (h : H p = none) : Same H (upd H' p o) := fun a u ha => by
  rw [upd_ne (ne_of_none ha h)]
  exact e a u ha
theorem tx_new {H : Hp} {p : Addr} (h : H p = none) (o : HO) : Tx H (upd H p o) := Same.tx (same_new h o)

mutual
theorem Im.keep {H H' : Hp} (t : Tx H H') : ∀ (d : D) (v : V), Im H d v → Im H' d v
  | .non, _, h => h
  | .bl _, _, h => h
  | .int _, _, h => h
  | .str _, _, h => h
  | .tup l, v, h => by
    obtain ⟨a, xs, e, ha, hl⟩ := h
    exact ⟨a, xs, e, t a xs ha, ImL.keep t l xs hl⟩
theorem ImL.keep {H H' : Hp} (t : Tx H H') : ∀ (ds : List D) (vs : List V), ImL H ds vs → ImL H' ds vs
  | [], _, h => h
  | d :: ds, vs, h => by
    obtain ⟨v, r, e, h1, h2⟩ := h
    exact ⟨v, r, e, Im.keep t d v h1, ImL.keep t ds r h2⟩
end
theorem Im.mono {H H' : Hp} {d : D} {v : V} (h : Im H d v) (e : Same H H') : Im H' d v := Im.keep (Same.tx e) d v h
theorem Im.tx {H H' : Hp} {d : D} {v : V} (h : Im H d v) (t : Tx H H') : Im H' d v := Im.keep t d v h
theorem ImL.mono {H H' : Hp} {ds : List D} {vs : List V} (h : ImL H ds vs) (e : Same H H') : ImL H' ds vs := ImL.keep (Same.tx e) ds vs h
theorem ImL.tx {H H' : Hp} {ds : List D} {vs : List V} (h : ImL H ds vs) (t : Tx H H') : ImL H' ds vs := ImL.keep t ds vs h
section
variable {H H' : Hp} {d : D} {ds es : List D} {v : V} {vs ws : List V}
theorem im_int {i : Int} (h : Im H (.int i) v) : v = .int i := h
theorem im_bl {b : Bool} (h : Im H (.bl b) v) : v = .bl b := h
theorem im_str {x : Str} (h : Im H (.str x) v) : v = .str x := h
theorem im_non (h : Im H .non v) : v = .non := h
theorem im_tup {l : List D} (h : Im H (.tup l) v) : ∃ a xs, v = .ref a ∧ H a = some (.tup xs) ∧ ImL H l xs := h
theorem im_new {p : Addr} (h : ImL H ds vs) (hp : H p = some (.tup vs)) : Im H (.tup ds) (.ref p) := ⟨p, vs, rfl, hp, h⟩
theorem iml_nil : ImL H [] [] := rfl
theorem iml_cons (h : Im H d v) (hs : ImL H ds vs) : ImL H (d :: ds) (v :: vs) := ⟨v, vs, rfl, h, hs⟩
theorem iml_nil_inv (h : ImL H [] vs) : vs = [] := h
theorem iml_cons_inv (h : ImL H (d :: ds) vs) : ∃ v r, vs = v :: r ∧ Im H d v ∧ ImL H ds r := h
theorem ImL.len : ∀ {ds : List D} {vs : List V}, ImL H ds vs → vs.length = ds.length
  | [], _, h => by
    have e := iml_nil_inv h
    subst e
    rfl
  | d :: ds, vs, h => by
    obtain ⟨v, r, e, _, h2⟩ := iml_cons_inv h
    subst e
    show r.length + 1 = ds.length + 1
    rw [ImL.len h2]
theorem ImL.app : ∀ {ds es : List D} {vs ws : List V}, ImL H ds vs → ImL H es ws → ImL H (ds ++ es) (vs ++ ws)
  | [], _, _, _, h, q => by
    have e := iml_nil_inv h
    subst e
    exact q
  | d :: ds, es, vs, ws, h, q => by
    obtain ⟨v, r, e, h1, h2⟩ := iml_cons_inv h
    subst e
    exact iml_cons h1 (ImL.app h2 q)
theorem ImL.take : ∀ {ds : List D} {vs : List V} (n : Nat), ImL H ds vs → ImL H (ds.take n) (vs.take n)
  | _, vs, 0, _ => by
    rw [List.take_zero, List.take_zero]
    exact iml_nil
  | [], vs, n + 1, h => by
    have e := iml_nil_inv h
    subst e
    exact iml_nil
  | d :: ds, vs, n + 1, h => by
    obtain ⟨v, r, e, h1, h2⟩ := iml_cons_inv h
    subst e
    exact iml_cons h1 (ImL.take n h2)
theorem ImL.drop : ∀ {ds : List D} {vs : List V} (n : Nat), ImL H ds vs → ImL H (ds.drop n) (vs.drop n)
  | _, vs, 0, h => h
  | [], vs, n + 1, h => by
    have e := iml_nil_inv h
    subst e
    exact iml_nil
  | d :: ds, vs, n + 1, h => by
    obtain ⟨v, r, e, h1, h2⟩ := iml_cons_inv h
    subst e
    exact ImL.drop n h2
/-- the i-th value is the i-th datum -/
theorem ImL.at : ∀ {ds : List D} {vs : List V} {i : Nat} {v : V}, ImL H ds vs → vs[i]? = some v → ∃ d, ds[i]? = some d ∧ Im H d v
  | [], vs, i, v, h, q => by
    have e := iml_nil_inv h
    subst e
    simp at q
  | d :: ds, vs, 0, v, h, q => by
    obtain ⟨v', r, e, h1, h2⟩ := iml_cons_inv h
    subst e
    have e2 : v' = v := Option.some.inj q
    subst e2
    exact ⟨d, rfl, h1⟩
  | d :: ds, vs, i + 1, v, h, q => by
    obtain ⟨v', r, e, h1, h2⟩ := iml_cons_inv h
    subst e
    exact ImL.at (i := i) h2 q
theorem ImL.get {i : Nat} (h : ImL H ds vs) (q : ds[i]? = some d) : ∃ v, vs[i]? = some v ∧ Im H d v := by
  have hl : i < ds.length := (List.getElem?_eq_some_iff.mp q).1
  have hl2 : i < vs.length := by rw [h.len]; exact hl
  obtain ⟨d', e, hi⟩ := h.at (List.getElem?_eq_getElem hl2)
  rw [q] at e
  cases e
  exact ⟨_, List.getElem?_eq_getElem hl2, hi⟩
theorem iml_map {α : Type} {f : α → D} {g : α → V} : ∀ {l : List α}, (∀ a ∈ l, Im H (f a) (g a)) → ImL H (l.map f) (l.map g)
  | [], _ => iml_nil
  | a :: l, h => iml_cons (h a List.mem_cons_self) (iml_map fun b hb => h b (List.mem_cons_of_mem _ hb))
/-- a list of flat data is told by its values -/
theorem iml_flat {α : Type} {f : α → D} {g : α → V} (hf : ∀ a v, Im H (f a) v → v = g a) : ∀ {l : List α} {vs : List V}, ImL H (l.map f) vs → vs = l.map g
  | [], _, h => iml_nil_inv h
  | a :: l, vs, h => by
    obtain ⟨v, r, e, h1, h2⟩ := iml_cons_inv h
    subst e
    rw [hf a v h1, iml_flat hf h2]
    rfl
end

/-! ### to the library's data, and == -/
mutual
def D.py : D → PyData
  | .non => .none
  | .bl b => .bool b
  | .int i => .int i
  | .str s => .str s
  | .tup l => .tuple (pyL l)
def pyL : List D → List PyData
  | [] => []
  | d :: ds => d.py :: pyL ds
end
theorem pyL_map : ∀ l : List D, pyL l = l.map D.py
  | [] => rfl
  | d :: ds => by
    show d.py :: pyL ds = d.py :: ds.map D.py
    rw [pyL_map ds]
mutual
theorem Im.dp {K : PySem.W.Frag} {H : Hp} : ∀ (d : D) (v : V), Im H d v → Dp K H v d.py
  | .non, _, h => by
    cases im_non h
    exact .non
  | .bl b, _, h => by
    cases im_bl h
    exact .bl b
  | .int i, _, h => by
    cases im_int h
    exact .int i
  | .str s, _, h => by
    cases im_str h
    exact .str s
  | .tup l, v, h => by
    obtain ⟨a, xs, e, ha, hl⟩ := im_tup h
    subst e
    exact .tup (SqT.of ha) (ImL.dp l xs hl)
theorem ImL.dp {K : PySem.W.Frag} {H : Hp} : ∀ (ds : List D) (vs : List V), ImL H ds vs → DpAll K H vs (pyL ds)
  | [], _, h => by
    cases iml_nil_inv h
    exact .nil
  | d :: ds, vs, h => by
    obtain ⟨v, r, e, h1, h2⟩ := iml_cons_inv h
    subst e
    exact .cons (Im.dp d v h1) (ImL.dp ds r h2)
end
mutual
/-- how deep; all texts laid, no tuple longer than 1000 -/
def D.dep : D → Nat
  | .tup l => depL l + 1
  | _ => 0
def depL : List D → Nat
  | [] => 0
  | d :: ds => max d.dep (depL ds)
end
mutual
def D.lay : D → Bool
  | .str s => PyData.canLay0 (.str s)
  | .tup l => layL l
  | _ => true
def layL : List D → Bool
  | [] => true
  | d :: ds => d.lay && layL ds
end
mutual
theorem dep_py : ∀ d : D, d.py.depth = d.dep
  | .non => rfl
  | .bl _ => rfl
  | .int _ => rfl
  | .str _ => rfl
  | .tup l => by
    show PyData.depthAll (pyL l) + 1 = depL l + 1
    rw [dep_pyL l]
theorem dep_pyL : ∀ l : List D, PyData.depthAll (pyL l) = depL l
  | [] => rfl
  | d :: ds => by
    show max d.py.depth (PyData.depthAll (pyL ds)) = max d.dep (depL ds)
    rw [dep_py d, dep_pyL ds]
end
mutual
theorem lay_py : ∀ d : D, d.lay = true → d.py.canLay0 = true
  | .non, _ => rfl
  | .bl _, _ => rfl
  | .int _, _ => rfl
  | .str _, h => h
  | .tup l, h => by
    show PyData.canLay0 (.tuple (pyL l)) = true
    unfold PyData.canLay0
    exact lay_pyL l h
theorem lay_pyL : ∀ l : List D, layL l = true → PyData.canLayAll0 (pyL l) = true
  | [], _ => rfl
  | d :: ds, h => by
    have h' : (d.lay && layL ds) = true := h
    rw [Bool.and_eq_true] at h'
    show (d.py.canLay0 && PyData.canLayAll0 (pyL ds)) = true
    rw [lay_py d h'.1, lay_pyL ds h'.2]
    rfl
end
theorem shaped_of {d : D} (h : d.lay = true) (hd : d.dep ≤ 63) : SeqAt.shaped d.py = true := by
  unfold SeqAt.shaped
  rw [lay_py d h, dep_py, Bool.true_and]
  exact decide_eq_true (by omega)
theorem shaped_list {l : List D} (h : layL l = true) (hd : depL l ≤ 62) : SeqAt.shaped (.list (pyL l)) = true := by
  unfold SeqAt.shaped
  have e1 : (PyData.list (pyL l)).canLay0 = true := by
    unfold PyData.canLay0
    exact lay_pyL l h
  have e2 : (PyData.list (pyL l)).depth = depL l + 1 := by
    show PyData.depthAll (pyL l) + 1 = depL l + 1
    rw [dep_pyL l]
  rw [e1, e2, Bool.true_and]
  exact decide_eq_true (by omega)
mutual
/-- no bool within -/
def D.nob : D → Bool
  | .bl _ => false
  | .tup l => nobL l
  | _ => true
def nobL : List D → Bool
  | [] => true
  | d :: ds => d.nob && nobL ds
end
mutual
theorem eqv_self : ∀ d : D, PyData.eqv d.py d.py = true
  | .non => by
    show PyData.eqv .none .none = true
    unfold PyData.eqv
    rfl
  | .bl b => by
    show PyData.eqv (.bool b) (.bool b) = true
    unfold PyData.eqv
    exact beq_self_eq_true _
  | .int i => by
    show PyData.eqv (.int i) (.int i) = true
    unfold PyData.eqv
    exact beq_self_eq_true _
  | .str i => by
    show PyData.eqv (.str i) (.str i) = true
    unfold PyData.eqv
    exact beq_self_eq_true _
  | .tup l => by
    show PyData.eqv (.tuple (pyL l)) (.tuple (pyL l)) = true
    unfold PyData.eqv
    exact eqvL_self l
theorem eqvL_self : ∀ l : List D, PyData.eqvAll (pyL l) (pyL l) = true
  | [] => by
    show PyData.eqvAll [] [] = true
    unfold PyData.eqvAll
    rfl
  | d :: ds => by
    show PyData.eqvAll (d.py :: pyL ds) (d.py :: pyL ds) = true
    unfold PyData.eqvAll
    rw [eqv_self d, eqvL_self ds]
    rfl
end
mutual
theorem eqv_eq : ∀ d e : D, d.nob = true → e.nob = true → PyData.eqv d.py e.py = true → d = e
  | .non, .non, _, _, _ => rfl
  | .int i, .int j, _, _, h => by
    have h' : PyData.eqv (.int i) (.int j) = true := h
    unfold PyData.eqv at h'
    rw [eq_of_beq h']
  | .str i, .str j, _, _, h => by
    have h' : PyData.eqv (.str i) (.str j) = true := h
    unfold PyData.eqv at h'
    rw [eq_of_beq h']
  | .tup l, .tup m, h1, h2, h => by
    have h' : PyData.eqv (.tuple (pyL l)) (.tuple (pyL m)) = true := h
    unfold PyData.eqv at h'
    rw [eqvL_eq l m h1 h2 h']
  | .bl _, _, h, _, _ => by cases h
  | .non, .bl _, _, h, _ => by cases h
  | .int _, .bl _, _, h, _ => by cases h
  | .str _, .bl _, _, h, _ => by cases h
  | .tup _, .bl _, _, h, _ => by cases h
  | .non, .int i, _, _, h => by
    have h' : PyData.eqv .none (.int i) = true := h
    unfold PyData.eqv at h'
    cases h'
  | .non, .str i, _, _, h => by
    have h' : PyData.eqv .none (.str i) = true := h
    unfold PyData.eqv at h'
    cases h'
  | .non, .tup i, _, _, h => by
    have h' : PyData.eqv .none (.tuple (pyL i)) = true := h
    unfold PyData.eqv at h'
    cases h'
  | .int i, .non, _, _, h => by
    have h' : PyData.eqv (.int i) .none = true := h
    unfold PyData.eqv at h'
    cases h'
  | .int i, .str j, _, _, h => by
    have h' : PyData.eqv (.int i) (.str j) = true := h
    unfold PyData.eqv at h'
    cases h'
  | .int i, .tup j, _, _, h => by
    have h' : PyData.eqv (.int i) (.tuple (pyL j)) = true := h
    unfold PyData.eqv at h'
    cases h'
  | .str i, .non, _, _, h => by
    have h' : PyData.eqv (.str i) .none = true := h
    unfold PyData.eqv at h'
    cases h'
  | .str i, .int j, _, _, h => by
    have h' : PyData.eqv (.str i) (.int j) = true := h
    unfold PyData.eqv at h'
    cases h'
  | .str i, .tup j, _, _, h => by
    have h' : PyData.eqv (.str i) (.tuple (pyL j)) = true := h
    unfold PyData.eqv at h'
    cases h'
  | .tup i, .non, _, _, h => by
    have h' : PyData.eqv (.tuple (pyL i)) .none = true := h
    unfold PyData.eqv at h'
    cases h'
  | .tup i, .int j, _, _, h => by
    have h' : PyData.eqv (.tuple (pyL i)) (.int j) = true := h
    unfold PyData.eqv at h'
    cases h'
  | .tup i, .str j, _, _, h => by
    have h' : PyData.eqv (.tuple (pyL i)) (.str j) = true := h
    unfold PyData.eqv at h'
    cases h'
theorem eqvL_eq : ∀ l m : List D, nobL l = true → nobL m = true → PyData.eqvAll (pyL l) (pyL m) = true → l = m
  | [], [], _, _, _ => rfl
  | d :: ds, e :: es, h1, h2, h => by
    have h' : PyData.eqvAll (d.py :: pyL ds) (e.py :: pyL es) = true := h
    unfold PyData.eqvAll at h'
    rw [Bool.and_eq_true] at h'
    have h1' : (d.nob && nobL ds) = true := h1
    have h2' : (e.nob && nobL es) = true := h2
    rw [Bool.and_eq_true] at h1' h2'
    rw [eqv_eq d e h1'.1 h2'.1 h'.1, eqvL_eq ds es h1'.2 h2'.2 h'.2]
  | [], e :: es, _, _, h => by
    have h' : PyData.eqvAll [] (e.py :: pyL es) = true := h
    unfold PyData.eqvAll at h'
    cases h'
  | d :: ds, [], _, _, h => by
    have h' : PyData.eqvAll (d.py :: pyL ds) [] = true := h
    unfold PyData.eqvAll at h'
    cases h'
end

/-! ### what evaluates to what -/
def EvP (te : TE) (σ : L2.St) (H : Hp) (P : V → Hp → Prop) : Prop := ∀ H1, Same H H1 → ∀ Q : VK, (∀ v H2, Same H1 H2 → P v H2 → Q v H2) → te σ H1 Q
abbrev EvI (te : TE) (σ : L2.St) (H : Hp) (d : D) : Prop := EvP te σ H fun v H' => Im H' d v
def EvT (tt : TT) (σ : L2.St) (H : Hp) (b : Bool) : Prop := ∀ H1, Same H H1 → ∀ Q : Bool → Hp → Prop, (∀ H2, Same H1 H2 → Q b H2) → tt σ H1 Q
theorem EvP.mono {te : TE} {σ : L2.St} {H H' : Hp} {P : V → Hp → Prop} (h : EvP te σ H P) (e : Same H H') : EvP te σ H' P := fun H1 a Q q => h H1 (e.trans a) Q q
theorem EvT.mono {te : TT} {σ : L2.St} {H H' : Hp} {b : Bool} (h : EvT te σ H b) (e : Same H H') : EvT te σ H' b := fun H1 a Q q => h H1 (e.trans a) Q q
theorem evt_yes {σ : L2.St} {H : Hp} : EvT tYes σ H true := fun H1 _ Q q => q H1 (Same.refl H1)

/-- what a comprehension has made after i turns: the data that its turns gave (a turn may give nothing) -/
def given (f : Nat → Option D) (n : Nat) : List D := (List.range n).filterMap f
theorem given_zero (f : Nat → Option D) : given f 0 = [] := rfl
theorem given_succ (f : Nat → Option D) (n : Nat) : given f (n + 1) = given f n ++ (f n).toList := by
  unfold given
  rw [List.range_succ, List.filterMap_append]
  cases h : f n <;> simp [h]
theorem given_len (f : Nat → Option D) (n : Nat) : (given f n).length ≤ n := by
  unfold given
  have h := List.length_filterMap_le f (List.range n)
  rw [List.length_range] at h
  exact h
theorem given_list {α : Type} (xs : List α) (g : α → Option D) (f : Nat → Option D) (h : ∀ i x, xs[i]? = some x → f i = g x) : given f xs.length = xs.filterMap g := by
  unfold given
  have key : ∀ n, n ≤ xs.length → (List.range n).filterMap f = (xs.take n).filterMap g := by
    intro n
    induction n with
    | zero => intro _; simp
    | succ n ih =>
      intro hn
      have hlt : n < xs.length := hn
      have e1 : xs[n]? = some xs[n] := List.getElem?_eq_getElem hlt
      rw [List.range_succ, List.filterMap_append, ih (Nat.le_of_lt hlt), List.take_add_one, e1]
      show _ = List.filterMap g (xs.take n ++ [xs[n]])
      rw [List.filterMap_append]
      have e2 := h n _ e1
      simp [List.filterMap_cons, e2]
  have := key xs.length (Nat.le_refl _)
  rwa [List.take_length] at this

/-- a comprehension over any walk; each turn is told by what its target, tests and element do, whatever is wanted behind -/
theorem lcI {J : It} {n : Nat} {G : Hp → Prop} {Y : Nat → Hp → V → Hp → Prop} (w : Walk J n G Y) {g : TG} {tt : TT} {te : TE} {vs : List Nat} {σ : L2.St} {H1 : Hp} {Dl : Addr} {Qd : VK}
    (hD : H1 Dl = none) (hG : ∀ H, Same H1 H → G H) (hn : n ≤ 60000) (f : Nat → Option D)
    (hs : ∀ i x H H', i < n → Same H1 H → Y i H x H' → Same H H' ∧ ∀ K : L2.St → Hp → Prop, (∀ σ2 H2, Same H' H2 → wipe σ2 vs = wipe σ vs → (EvT tt σ2 H2 (f i).isSome ∧ ∀ d, f i = some d → EvI te σ2 H2 d) → K σ2 H2) → g x (wipe σ vs) H' K)
    (hd : ∀ H xs, Same H1 H → H Dl = some (.lst xs) → ImL H (given f n) xs → Qd (.ref Dl) H) :
    ∃ W : Nat → Nat → Hp → Prop, (∃ m, W 0 m (upd H1 Dl (.lst []))) ∧ ∀ i m H, W i m H →
      (J.stop i H ∧ Qd (.ref Dl) H) ∨ (J.go i H ∧ ∃ Nx : Hp → Prop, (∀ H', Nx H' → ∃ m', m' < m ∧ W (i + 1) m' H') ∧ ∀ x H', J.yld i H x H' → g x (wipe σ vs) H' fun σ2 H2 => wipe σ2 vs = wipe σ vs ∧ tt σ2 H2 fun b H3 =>
        if b = true then te σ2 H3 fun y H4 => ∃ acc, H4 Dl = some (.lst acc) ∧ acc.length < sizeLine ∧ Nx (upd H4 Dl (.lst (acc ++ [y]))) else Nx H3) := by
  refine lc_it (Qd := fun H => Qd (.ref Dl) H) w (fun i H => Same H1 H ∧ ∃ xs, H Dl = some (.lst xs) ∧ ImL H (given f i) xs) ⟨same_new hD _, [], upd_same, iml_nil⟩ (fun i H _ p => hG H p.1) ?_ (fun H p => ?_)
  · rintro i x H H' hi ⟨s0, xs, hx, hl⟩ y
    obtain ⟨s1, k⟩ := hs i x H H' hi s0 y
    refine k _ fun σ2 H2 s2 hw ⟨ht, he⟩ => ⟨hw, ?_⟩
    refine ht H2 (Same.refl H2) _ fun H3 s3 => ?_
    have sa : Same H H3 := (s1.trans s2).trans s3
    cases hf : f i with
    | none =>
      show Same H1 H3 ∧ _
      refine ⟨s0.trans sa, xs, sa _ _ hx, ?_⟩
      rw [given_succ, hf]
      show ImL H3 (given f i ++ []) xs
      rw [List.append_nil]
      exact hl.mono sa
    | some d =>
      show te σ2 H3 _
      refine he d hf H3 s3 _ fun v H4 s4 hv => ?_
      have sb : Same H H4 := sa.trans s4
      have hl4 := hl.mono sb
      have hx4 := sb _ _ hx
      refine ⟨xs, hx4, ?_, same_mut (s0.trans sb) hD, xs ++ [v], upd_same, ?_⟩
      · have q := given_len f i
        rw [hl4.len]
        exact Nat.lt_of_le_of_lt q (Nat.lt_of_lt_of_le (Nat.lt_of_lt_of_le hi hn) (by decide))
      · rw [given_succ, hf]
        have t : Tx H4 (upd H4 Dl (.lst (xs ++ [v]))) := tx_upd hx4 (fun _ z => nomatch z)
        exact (hl4.tx t).app (iml_cons (hv.tx t) iml_nil)
  · obtain ⟨s0, xs, hx, hl⟩ := p
    exact hd H xs s0 hx hl
end Bx

/-! Rx1: rules that the hand layer lacks: xs[i] op= e of a list, d | e of dicts, t * n with n at least 1, len of an instance with an own length. -/
namespace Rx
open PySem PySem.Spec PyProof.Rows L2

/-- xs[i], read ahead of an operator's store -/
theorem pget_list {X : Cx} : PGet X (fun o i H Q => ∃ (p : Addr) (xs : List V) (j : Nat) (v : V), o = .ref p ∧ i = .int (j : Int) ∧ SqL X.K H p xs ∧ xs[j]? = some v ∧ Q v H) := by
  intro pins s σ H o i ov iv Q I ro ri h
  obtain ⟨p, xs, j, v, rfl, rfl, hq, hv, q⟩ := h
  cases ro
  obtain ⟨t, rfl⟩ := ri
  obtain ⟨its, r, pl, hz⟩ := I.list hq
  obtain ⟨u, hu, ru⟩ := r.get hv
  have hj : j < xs.length := (List.getElem?_eq_some_iff.mp hv).1
  have hn := line63
  exact wpAny_getItem_list pl.isList (by omega) (by omega) (by rw [Int.toNat_natCast]; simpa using hu) ⟨v, H, I, ru, q⟩

/-! ### d | e -/
section
variable {prog : Program} {w : World} {K : Type} [DecidableEq K] {knd : KeyKind prog w K}
theorem meets_dict_or (knd : KeyKind prog w K) (d o : Addr) (hdS : (d == sysModules) = false) (hoS : (o == sysModules) = false) :
    MeetsIn prog w (Builtin.«dict.__or__» ⟨[.ref d, .ref o], []⟩) (fun _ R s => ∃ kvs more, s.heap.DictOf knd d kvs ∧ s.heap.DictOf knd o more ∧ kvs.length + more.length ≤ sizeLine ∧
      ∀ h', h'.DictOf knd s.heap.objs.size (merged kvs more) → (∀ b q, s.heap.get? b = some q → h'.get? b = some q) → R (.ok (.ret (.ref s.heap.objs.size))) { s with heap := h' }) :=
  .of_wp fun A R s ⟨kvs, more, hm, hmo, hsz, h⟩ => by
    obtain ⟨ob, es, ep, ho, hc, hdat, hk, hp, hn⟩ := id hm
    have hes : es.size ≤ sizeLine + 1 := by
      have e1 := hp.length
      have e2 : es.toList.length = es.size := by simp
      omega
    have hlt : o < s.heap.objs.size := by
      obtain ⟨oo, _, _, hoo, _⟩ := id hmo
      exact Heap.lt_size hoo
    unfold Builtin.«dict.__or__»
    refine wpAny_bind ?_
    unfold Builtin.Dict.dictSlotArgs
    refine wpAny_bind (wpAny_notOrdered_dict hm.typeIs ?_)
    show wpAny _ _ (pure (Value.ref d, Value.ref o)) _ _ s
    refine wpAny_pure ?_
    show wpAny _ _ ((isInstance (.ref d) (.type "dict") <&&> isInstance (.ref o) (.type "dict")) >>= _) _ _ s
    refine wpAny_bind (wpAny_bind (wpAny_isInstance hm.typeIs isSubtype_dict_dict ?_))
    show wpAny _ _ (isInstance (.ref o) (.type "dict")) _ _ s
    refine wpAny_isInstance hmo.typeIs isSubtype_dict_dict ?_
    simp only [Bool.not_true, Bool.false_eq_true, if_false]
    have fin : ∀ es' : Array DictEntry, es' = es → wpAny (model prog w) A.in1 (holding [Value.ref s.heap.objs.size] (Builtin.Dict.addrOf (Value.ref s.heap.objs.size) >>= fun a => Builtin.Dict.updateFrom "dict.__or__" a (.ref o) [] (.ref s.heap.objs.size)))
        (fun fin s' => ∃ v, fin = .done (.ret v) ∧ R (.ok (.ret v)) s') (fun e s' => R (.error e) s') { s with heap := s.heap.push { cls := .type "dict", data := .dict es' } } := by
      rintro es' rfl
      have D1 : (s.heap.push { cls := .type "dict", data := .dict es' }).DictOf knd s.heap.objs.size kvs := ⟨_, es', 0, Heap.get?_push_size _ rfl, ⟨rfl, rfl, rfl⟩, rfl, hk, hp, hn⟩
      have D2 : (s.heap.push { cls := .type "dict", data := .dict es' }).DictOf knd o more := hmo.push _
      refine wpAny_holding (wpAny_bind (wpAny_pure ?_))
      unfold Builtin.Dict.updateFrom
      refine wpAny_bind (wpAny_typeOf (s := { s with heap := s.heap.push { cls := .type "dict", data := .dict es' } }) D2.typeIs ?_)
      rw [if_neg (by decide)]
      refine wpAny_bind ?_
      unfold Builtin.Dict.merge
      refine wpAny_bind ?_
      · unfold Builtin.Dict.readDirectly
        refine wpAny_bind (wpAny_isInstance (s := { s with heap := s.heap.push { cls := .type "dict", data := .dict es' } }) D2.typeIs isSubtype_dict_dict ?_)
        simp only [Bool.not_true, Bool.false_eq_true, if_false]
        refine wpAny_bind (wpAny_specialOf (s := { s with heap := s.heap.push { cls := .type "dict", data := .dict es' } }) D2.typeIs F.slot_dict_iter.lookup (wpAny_pure ?_))
        simp only [beq_self_eq_true, if_true]
        refine wpAny_bind (wpAny_pure ?_)
        refine wpAny_mergeDict (hsz := hsz) (Ne.symm (Nat.ne_of_lt hlt)) hoS D1 D2 fun h' hd' ho' hs' => ?_
        show wpAny _ _ (Builtin.Dict.addKeywords s.heap.objs.size [] >>= _) _ _ _
        refine wpAny_bind (wpAny_pure (wpAny_pure ⟨_, rfl, h h' hd' fun b q e => ?_⟩))
        exact (hs'.2 b (Nat.ne_of_lt (Heap.lt_size e))).trans (Heap.get?_push_of_some _ e)
    show wpAny _ _ (Builtin.Dict.copyOf "dict.__or__" (.ref d) >>= _) _ _ s
    refine wpAny_bind ?_
    unfold Builtin.Dict.copyOf
    refine wpAny_bind (wpAny_pure ?_)
    unfold Builtin.Dict.showsAll
    rw [if_neg (by rw [hdS]; exact Bool.false_ne_true)]
    refine wpAny_bind (wpAny_pure ?_)
    refine wpAny_bind (wpAny_dictEntries ho hdat ?_)
    by_cases hemp : es.isEmpty = true
    · rw [if_pos hemp]
      refine wpAny_bind (wpAny_rule (wpAny_newObj_type ?_))
      exact fin #[] (Array.isEmpty_iff.mp hemp).symm
    · rw [if_neg hemp]
      refine wpAny_bind ?_
      unfold Builtin.Dict.readDirectly
      refine wpAny_bind (wpAny_isInstance hm.typeIs isSubtype_dict_dict ?_)
      simp only [Bool.not_true, Bool.false_eq_true, if_false]
      refine wpAny_bind (wpAny_specialOf hm.typeIs F.slot_dict_iter.lookup (wpAny_pure ?_))
      simp only [beq_self_eq_true, if_true]
      refine wpAny_bind (wpAny_entriesForEmpty (knd := knd) ho hdat hk (wpAny_newObj_type ?_ hes))
      exact fin es rfl
end
def rOrD : R2 := fun x y H Q => ∃ a b ks ls, x = .ref a ∧ y = .ref b ∧ H a = some (.dK ks) ∧ H b = some (.dK ls) ∧ ks.length + ls.length ≤ sizeLine ∧ ∀ p, H p = none → Q (.ref p) (upd H p (.dK (mergeK ks ls)))
theorem op_orD {X : Cx} : OpR X (binaryOp .BitOr) rOrD := by
  intro pins s σ H x y v u Q I rx ry h
  obtain ⟨a, b, ks, ls, rfl, rfl, ha, hb, hz, q⟩ := h
  cases rx
  cases ry
  obtain ⟨z1, n1, vs, rel1, d1⟩ := dk_of I.hok ha
  obtain ⟨z2, n2, ws, rel2, d2⟩ := dk_of I.hok hb
  have l1 : ks.length = vs.length := Paired.length rel1
  have l2 : ls.length = ws.length := Paired.length rel2
  have hbig : sysModules < s.heap.objs.size := I.big
  refine wpAny_binaryOp_same (op := .BitOr) (T := "dict") d1.typeIs d2.typeIs F.fills_dict_or F.slot_dict_or
    (call_meetsIn F.slot_dict_or d1.typeIs F.entry_dict_or (F.args_dict_or_2 _ _) (meets_dict_or (mixKind X.prog X.w) a b n1 n2) ⟨vs, ws, d1, d2, by omega, fun h' dd kp => ?_⟩)
  refine ⟨by simp, .ref s.heap.objs.size, _, I.laid (t' := s.toks) kp (Nat.le_refl _) (o := .dK (mergeK ks ls)) ?_, rfl, q _ (I.hok.fresh (Nat.le_refl _))⟩
  refine dk_new ?_ (beq_eq_false_iff_ne.mpr (Ne.symm (Nat.ne_of_lt hbig))) (KV.merge rel2 rel1) dd
  have := length_mergeK ls ks
  omega
end Rx

/-! Rx2: t * n with n at least 1 (t * 1 is t itself); len of an instance with an own length. -/
namespace Rx
open PySem PySem.Spec PyProof.Rows L2

theorem tuple_mul1 (l : Addr) (items : Array Value) (n : Nat) (dd : Option Addr) (sl : Array (Option Value)) (u : Tok) :
    Meets (Builtin.«tuple.__mul__» ⟨[.ref l, .int 1 u], []⟩) (fun _ R s => s.heap.get? l = some { cls := .type "tuple", dict := dd, data := .seq items n, slots := sl } ∧ R (.ok (.ret (Value.ref l))) s) :=
  .of_wp fun prog w A R s h => by
    obtain ⟨hp, g, d, tk, os⟩ := s
    obtain ⟨hl, h⟩ := h
    have f1 := AutoSeq1.idx_int
    have c0 : (decide ((1 : Int) < -(2 ^ 63)) || decide ((1 : Int) ≥ 2 ^ 63)) = false := by decide
    wp_walk using wpAny_loadPart' hl
    all_goals (first | exact ⟨_, rfl, h⟩ | skip)
def rRepT1 (K : PySem.W.Frag) : R2 := fun x y H Q => ∃ (l : Addr) (k : Nat) (xs : List V), x = .ref l ∧ y = .int (k : Int) ∧ H l = some (.tup xs) ∧ xs ≠ [] ∧ 1 ≤ k ∧ k ≤ 1000 ∧ xs.length ≤ 1000 ∧
  ∀ p H', Same H H' → H' p = some (.tup (List.replicate k xs).flatten) → Q (.ref p) H'
theorem op_repT1 {X : Cx} : OpR X (binaryOp .Mult) (rRepT1 X.K) := by
  intro pins s σ H x y v u Q I rx ry h
  obtain ⟨l, k, xs, rfl, rfl, hT, hne, h1, h2, hz, q⟩ := h
  by_cases hk : k = 1
  · subst hk
    cases rx
    obtain ⟨t, rfl⟩ := ry
    obtain ⟨hs, its, r, ⟨⟨cls, dd, data, sl⟩, ho, hc, n, hd⟩⟩ := I.hok l _ hT
    simp only at hc hd
    subst hc hd
    have e1 : (((1 : Nat) : Int)) = 1 := rfl
    rw [e1]
    refine wpAny_binaryOp_repeat_ref (T := "tuple") (U := "int") (by decide) ⟨_, ho, rfl⟩ (fun s' => typeIs_int s' 1 t) noFill_tuple_mul F.fills_int_mul F.slot_int_rmul repeat_tuple F.slot_int_index.lookup
      (call_meets F.slot_int_rmul (typeIs_int s 1 t) F.entry_int_rmul (F.args_int_rmul_2 _ _) (int_rmul_tuple 1 t l its.toArray n dd sl)
        ⟨ho, rfl, ⟨_, ho, rfl⟩, call_meets F.slot_tuple_mul ⟨_, ho, rfl⟩ F.entry_tuple_mul (F.args_tuple_mul_2 _ _) (tuple_mul1 l its.toArray n dd sl t) ⟨ho, ?_⟩⟩)
    refine ⟨.ref l, H, I, rfl, q l H (Same.refl H) ?_⟩
    rw [hT]
    simp
  · refine op_repT pins s σ H _ _ v u Q I rx ry ⟨l, k, xs, rfl, rfl, SqT.of hT, hne, by omega, by omega, hz, fun p hp => ?_⟩
    refine q p _ (fun b o e => ?_) ?_
    · rw [upd_ne (ne_of_none e hp)]
      exact e
    · rw [upd_same, Int.toNat_natCast]

/-! ### len(x), x an instance with slots whose class has an own length -/
theorem len_sl {X : Cx} {CX : CXT} {n : Nat} {C g : Addr} {sp : Sp} {E : XK} (c : SlX.SCls X.K C) (hs : PySem.W.findIn X.K (.ref C) "__len__" = some (some (.ref g))) (hf : PySem.W.isFn X.K (.ref g) = true) (F : FnR X.prog X.w X.K X.mg X.base CX n g sp)
    (hr : Room (n + 1) X.A) (hx : Passes CX X E) :
    CallR X (.builtin "len") (fun xs H Q => ∃ a dx vs, xs = [V.ref a] ∧ SlX.Slt H a C dx vs ∧ sp [.ref a] H (fun z H' => ∃ i : Nat, i < 1000 ∧ z = .int (i : Int) ∧ Q z H') E) := by
  intro pins s σ H xs us Q I r h
  obtain ⟨a, dx, vs, rfl, hsl, q⟩ := h
  obtain ⟨u, rfl, ru⟩ := vals1 r
  cases (show u = Value.ref a from ru)
  obtain ⟨sl, od, _, J, _⟩ := SlX.slt_inst I hsl
  obtain ⟨m, F0⟩ := I.fr
  have hr2 : Room n X.A.in1 := Room.in1 hr
  refine PySem.W.len_K F0 I.mod.kin J hs hf (wpAny_mono (wpAny_call (SlX.run_at (us := [.ref a]) (ws := [.ref a]) F hr2 I.env0.in1 hx I (.cons rfl .nil) q)) (fun w s' z => ?_) fun _ _ x => x)
  obtain ⟨z', H', I', rz, i, hi, ei, qz⟩ := z
  subst ei
  obtain ⟨t, e⟩ := (show ∃ t, w = Value.int (i : Int) t from rz)
  subst e
  exact ⟨⟨by omega, by omega⟩, .int (i : Int), H', I'.tok _, ⟨_, rfl⟩, qz⟩
end Rx

/-! Rx3: sorted(t) of a tuple of texts, tuple(d) of a dict, len(set(t)) of a tuple of different ints. -/
namespace Rx
open PySem PySem.Spec PyProof.Rows L2
section
variable {X : Cx}
theorem cr_sortedST : CallR X (.builtin "sorted") (fun xs H Q => ∃ (a : Addr) (ks : List Str), xs = [.ref a] ∧ SqT X.K H a (ks.map V.str) ∧ ks.length < 64 ∧
    ∀ ys p, ys.Perm ks → sortedS ys = true → H p = none → Q (.ref p) (upd H p (.lst (ys.map V.str)))) := by
  intro pins s σ H xs us Q I r q
  obtain ⟨a, ks, ex, hd, h64, q⟩ := q
  subst ex
  obtain ⟨u, eu, rx⟩ := vals1 r
  subst eu
  cases rx
  obtain ⟨its, rv, ⟨o, ho, hc, n, hdat⟩, hz⟩ := I.tuple hd
  have hS : StrsAre its ks := rv.strs
  have hal : its.length = ks.length := by
    have e := rv.length
    rw [List.length_map] at e
    exact e.symm
  refine Calls.call_function_entry PyProof.Rows.kind_sorted PyProof.Rows.plain_sorted PyProof.Rows.entry_sorted (PyProof.Rows.args_sorted1 _) ?_
  unfold Builtin.«sorted»
  refine wpAny_bind (m := checkCount "sorted" 1 1 _) (wpAny_pure ?_)
  refine wpAny_bind (wpAny_collect_seq a (.inr rfl) ho hc hdat (fun h' hk => ?_) (by rw [List.size_toArray, hal, sizeLine_eq]; omega))
  have I1 : Inv X pins σ H { s with heap := h' } := I.kept (t' := s.toks) hk
  have ei : its.toArray.toList = its := by simp
  rw [ei]
  refine wpAny_bind (wpAny_newList ?_ (by rw [hal, sizeLine_eq]; omega))
  have hoL : (h'.push (seqObj "list" its.toArray 0)).get? h'.objs.size = some (seqObj "list" its.toArray 0) := Heap.get?_push_size _ rfl
  show wpAny _ _ _ _ _ { s with heap := h'.push (seqObj "list" its.toArray 0) }
  refine wpAny_bind (wpAny_holding (wpAny_call_entry PyProof.Rows.slot_list_sort ⟨_, hoL, rfl⟩ PyProof.Rows.entry_list_sort
    (list_sort_treeK strKind_oneLt (s := { s with heap := h'.push (seqObj "list" its.toArray 0) }) hoL hS.keysOf (fun v₁ v₂ rest e => keyKind_strs (by rw [← e]; exact hS)) (by rw [hal]; exact h64) fun st' hp hs => ⟨_, rfl, ?_⟩)
    (PyProof.Rows.args_list_sort _)))
  obtain ⟨ys, g1, g2, g3⟩ := sorted_out_str hS hp hs
  obtain ⟨e', he'⟩ := PyProof.Rows.sortedHeap_at (vs := its) (out := (arrOf st').map (·.2)) hoL
  have hlen : (ys.map V.str).length ≤ sizeLine := by
    rw [List.length_map, g2.length_eq]
    exact Nat.le_trans (Nat.le_of_lt h64) (by decide)
  refine wpAny_pure ⟨_, rfl, .ref h'.objs.size, upd H h'.objs.size (.lst (ys.map V.str)), I1.laid (t' := s.toks) (fun b u e => ?_) (Nat.le_refl _)
    (show ObjOk X.prog X.w _ _ _ (.lst (ys.map V.str)) from ⟨hlen, ((arrOf st').map (·.2)).toList, e', vals_of_strs g1, by rw [Array.toArray_toList]; exact he'⟩), rfl, q ys _ g2 g3 (I1.hok.fresh (Nat.le_refl _))⟩
  have hb : b < h'.objs.size := Heap.lt_size e
  rw [PyProof.Rows.sortedHeap_old (Nat.ne_of_lt hb) (by rw [size_push']; exact Nat.lt_succ_of_lt hb)]
  exact Heap.get?_push_of_some _ e
end

/-! ### tuple(d) -/
section
variable {prog : Program} {w : World} {A : Around} {E : Value → Shared → Prop} {s : Shared} {d : Addr} {kvs : List (Key × Value)} {ep : Nat}
theorem collect_dict {Q : List Value → Shared → Prop} (lo : (d == sysModules) = false) (hh : A.handled = none) (hat : s.heap.DictAt (mixKind prog w) d kvs ep) (hz : kvs.length ≤ sizeLine)
    (hQ : ∀ (h' : Heap) (tk : Nat) (acc : Array Value), (∀ b o, s.heap.get? b = some o → h'.get? b = some o) → PySem.ItemsOf (fun i v => ∃ k x, kvs[i]? = some (k, x) ∧ (mixKind prog w).is k v = true) acc kvs.length → Q acc.toList { s with heap := h', toks := tk }) :
    wpAny (model prog w) A (collect (.ref d)) Q E s := PySem.W.kdu_collect (A := A) (PySem.W.kdl_dict (knd := mixKind prog w) (kvs := kvs) (ep := ep) lo) hh hat hz hQ
theorem code_tuple_new_dict {Q₁ : Value → Shared → Prop} (lo : (d == sysModules) = false) (hh : A.handled = none) (hat : s.heap.DictAt (mixKind prog w) d kvs ep) (hz : kvs.length ≤ sizeLine)
    (h : ∀ (h' : Heap) (tk : Nat) (acc : Array Value), (∀ b o, s.heap.get? b = some o → h'.get? b = some o) → PySem.ItemsOf (fun i v => ∃ k x, kvs[i]? = some (k, x) ∧ (mixKind prog w).is k v = true) acc kvs.length →
      Q₁ (.ref h'.objs.size) { s with heap := h'.push { cls := .type "tuple", data := .seq acc }, toks := tk }) :
    codeAny (model prog w) A (.call (.builtin "tuple.__new__") ⟨[.type "tuple", .ref d], []⟩) (wants Q₁ E) s := by
  refine codeAny_of_tree ?_
  show wpAny _ A.in1 (do checkBuiltinCall "tuple.__new__" ⟨[.type "tuple", .ref d], []⟩; again (.builtin "tuple.__new__" ⟨[.type "tuple", .ref d], []⟩)) _ _ s
  refine wpAny_bind (wpAny_of_eq (F.newCall_tuple_1 _) (wpAny_pure ⟨plainId_quiet F.plain_tuple_new _, codeAny_builtin F.entry_tuple_new ?_⟩))
  rw [Around.under_plainId F.plain_tuple_new _]
  have hsub := sub_tuple_self
  have hinit := init_tuple_lookup
  have hmh := madeHere_tuple
  have hTI : s.TypeIs (.ref d) "dict" := hat.dictOf.typeIs
  have hh1 : A.in1.handled = none := hh
  wp_walk using wpAny_typeOf hTI, collect_dict (A := A.in1) lo hh1 hat hz
  intro h' tk acc hk hacc
  show wpAny _ _ (Builtin.Tuple.tupleExact acc.toList.toArray >>= fun v => ret v) _ _ _
  unfold Builtin.Tuple.tupleExact
  refine wpAny_bind (wpAny_newObj_type ?_ (by show acc.toList.toArray.size ≤ sizeLine; simp only [Array.toArray_toList]; rw [hacc.1]; exact hz))
  refine wpAny_pure ?_
  have e : acc.toList.toArray = acc := by simp
  rw [e]
  exact h h' tk acc hk hacc
theorem call_tuple_dict {Q : Value → Shared → Prop} (lo : (d == sysModules) = false) (hh : A.handled = none) (hat : s.heap.DictAt (mixKind prog w) d kvs ep) (hz : kvs.length ≤ sizeLine)
    (hQ : ∀ (h' : Heap) (tk : Nat) (acc : Array Value), (∀ b o, s.heap.get? b = some o → h'.get? b = some o) → PySem.ItemsOf (fun i v => ∃ k x, kvs[i]? = some (k, x) ∧ (mixKind prog w).is k v = true) acc kvs.length →
      Q (.ref h'.objs.size) { s with heap := h'.push { cls := .type "tuple", data := .seq acc }, toks := tk }) :
    wpAny (model prog w) A (call (.type "tuple") [.ref d]) Q E s := by
  refine callType_codes (Q₁ := fun obj s₁ => s₁.TypeIs obj "tuple" ∧ Q obj s₁) F.called_tuple (F.typeCall_tuple_1 _) F.entry_object_init
    (code_tuple_new_dict (A := A.in1) lo hh hat hz fun h' tk acc hk hacc => ⟨⟨_, Heap.get?_push_size _ rfl, rfl⟩, hQ h' tk acc hk hacc⟩) fun obj s₁ h₁ => ?_
  exact ⟨h₁.1, F.args_object_init_2 obj _, object_init_meets F.called_tuple.init.lookup F.called_tuple.made (by decide) prog w A.in1 _ s₁ ⟨h₁.1, rfl, h₁.2⟩⟩
end
section
variable {X : Cx}
theorem call_tupleD (hcalm : X.calm = true) : CallR X (.type "tuple") (fun xs H Q => ∃ (p : Addr) (kvs : List (Key × V)), xs = [.ref p] ∧ H p = some (.dK kvs) ∧ ∀ q, H q = none → Q (.ref q) (upd H q (.tup (kvs.map fun kv => kV kv.1)))) := by
  intro pins s σ H xs us Q I r h
  obtain ⟨p, kvs, e, hk, q⟩ := h
  subst e
  obtain ⟨u, eu, rx⟩ := vals1 r
  subst eu
  obtain rfl : u = Value.ref p := rx
  obtain ⟨z, lo, vs, rk, hd⟩ := (show ObjOk X.prog X.w H s.heap p (.dK kvs) from I.hok p _ hk)
  obtain ⟨ep, hat⟩ := hd.dictAt
  have hl : kvs.length = vs.length := Paired.length rk
  refine call_tuple_dict lo (I.ok.hd hcalm) hat (by rw [← hl]; exact z) fun h' tk acc hkeep hacc => ?_
  have I2 : Inv X pins σ H { s with heap := h', toks := tk } := I.kept hkeep
  refine ⟨.ref h'.objs.size, upd H h'.objs.size (.tup (kvs.map fun kv => kV kv.1)), I2.laid (t' := tk) (fun c o e => Heap.get?_push_of_some _ e) (Nat.le_refl _) (show ObjOk X.prog X.w _ _ _ (.tup (kvs.map fun kv => kV kv.1)) from ⟨?_, acc.toList, ?_, ?_⟩), rfl, q _ (I2.hok.fresh (Nat.le_refl _))⟩
  · rw [List.length_map]; exact z
  · have el : acc.toList.length = acc.size := by simp
    refine vals_of_at (by rw [List.length_map, el, hacc.1, hl]) fun j x w h1 h2 => ?_
    obtain ⟨k, y, hky, hi⟩ := hacc.2 j w (by rw [← Array.getElem?_toList]; exact h2)
    have e1 : (kvs.map (·.1))[j]? = some k := by
      rw [KV.keys rk, List.getElem?_map, hky] <;> rfl
    have e2 : (kvs.map fun kv => kV kv.1)[j]? = some (kV k) := by
      have e3 : (kvs.map fun kv => kV kv.1) = (kvs.map (·.1)).map kV := by rw [List.map_map] <;> rfl
      rw [e3, List.getElem?_map, e1] <;> rfl
    rw [e2] at h1
    cases h1
    exact keyIs_rel hi
  · rw [Array.toArray_toList]; exact IsTup.new _ _

/-! ### len(set(t)), t of different ints -/
def tLenSetT (K : PySem.W.Frag) (ta : TE) : TE := fun σ H Q => ta σ H fun x H1 => ∃ (l : Addr) (ns : List Int), x = .ref l ∧ SqT K H1 l (ns.map V.int) ∧ ns.Nodup ∧ ns.length ≤ 1000 ∧ Q (.int (ns.length : Nat)) H1
theorem pe_lenSetT {a : Expr} {ta : TE} {p p2 q pos : Pos} (hg : Gl X "len") (hm : X.mg "len" = none) (hg2 : Gl X "set") (hm2 : X.mg "set" = none) (ha : PE X a ta) (hc : X.calm = true := by rfl)
    (na : starEach [a] X.env = (false, eval a X.env) :: starEach [] X.env := by rfl) : PE X (.Call (.Name "len" p) [.Call (.Name "set" p2) [a] [] q] [] pos) (tLenSetT X.K ta) := by
  refine ⟨fun pins s σ H Q I h => ?_⟩
  refine Call_ (ld_blt I hg hm boot_len ?_)
  refine PyProof.Rows.callWith_builtin1 (PyProof.Rows.args_cons ?_ rfl) rfl rfl
  refine Call_ (ld_blt I hg2 hm2 boot_set ?_)
  refine PyProof.Rows.callWith_type1 (PyProof.Rows.args_cons (thn (ha.run pins s σ H _ I h) fun v s1 ⟨x, H1, I1, r1, q1⟩ => PyProof.Rows.args_nil ?_) na) na rfl
  obtain ⟨l, ns, rfl, hq, hnd, hl, q1⟩ := q1
  cases r1
  obtain ⟨its, r, pl, hz⟩ := I1.tuple hq
  refine call_set_tupI ns (I1.ok.hd hc) (show s1.heap.IsTuple l its.toArray from pl) (by simpa using RZ.intsAre_vals r) (by unfold scanBound; omega) fun h' tk c hS hcn hk => ?_
  refine PyProof.Rows.args_nil ?_
  obtain ⟨o, es, ep, t, ho, hex, hd, _, hn1, hmem, hb, hf, hn, _⟩ := hS
  have hlen : es.size = ns.length := by
    have pm : (es.toList.map keyOf).Perm ns := (List.perm_ext_iff_of_nodup hn1 hnd).mpr fun k => by
      rw [← hmem k]
      exact decide_eq_true_iff
    have e := pm.length_eq
    rw [List.length_map, Array.length_toList] at e
    exact e
  have I2 : Inv X pins σ H1 { s1 with heap := h', toks := tk } := I1.kept hk
  exact call_len_set ho hex hd hf (by rw [hlen] <;> omega) ⟨.int ns.length, H1, I2.tok _, ⟨_, by rw [hlen]⟩, q1⟩
end
end Rx

/-! Rx4: for i, x in enumerate(t), t a tuple. -/
namespace Rx
open PySem PySem.Spec PyProof.Rows L2

theorem meets_enumerate_newT (l : Addr) (items : Array Value) (n : Nat) (dct : Option Addr) (sl : Array (Option Value)) :
    Meets (Builtin.«enumerate.__new__» ⟨[.type "enumerate", .ref l], []⟩) (fun _ R s => s.heap.get? l = some { cls := .type "tuple", dict := dct, data := .seq items n, slots := sl } ∧
      R (.ok (.ret (.ref (s.heap.push { cls := .type "tuple_iterator", data := .fields #[.ref l, .int 0 0] }).objs.size)))
        { s with heap := (s.heap.push { cls := .type "tuple_iterator", data := .fields #[.ref l, .int 0 0] }).push { cls := .type "enumerate", data := .fields #[.none, .bool false, .ref s.heap.objs.size, rawInt 0, .none, .none] } }) :=
  .of_wp fun prog w A R s h => by
    obtain ⟨hp, g, d, tk, os⟩ := s; obtain ⟨hl, h⟩ := h
    have hsub := sub_enumerate
    have hL : Heap.IsTuple (Shared.heap ⟨hp, g, d, tk, os⟩) l items := ⟨_, hl, rfl, n, rfl⟩
    wp_walk using AutoSeq1.wpAny_loadPart' hl
    refine wpAny_stack_any fun st => wpAny_pure ?_
    split
    · rename_i c _ _ _ _ _
      cases (c == Value.type "enumerate")
      · wp_walk using AutoSeq1.wpAny_loadPart' hl, wpAny_pyIter_tuple hL
        exact ⟨_, rfl, h⟩
      · wp_walk using AutoSeq1.wpAny_loadPart' hl, wpAny_pyIter_tuple hL
        exact ⟨_, rfl, h⟩
    · wp_walk using AutoSeq1.wpAny_loadPart' hl, wpAny_pyIter_tuple hL
      exact ⟨_, rfl, h⟩
section
variable {prog : Program} {w : World} {A : Around} {E : Value → Shared → Prop} {s : Shared}
theorem call_enumerate_tuple {l : Addr} {items : Array Value} {Q : Value → Shared → Prop} (hL : s.heap.IsTuple l items)
    (h : ∀ h', IsEnum h' (s.heap.objs.size + 1) s.heap.objs.size 0 .none → h'.IsTupleIter s.heap.objs.size l 0 → h'.objs.size = s.heap.objs.size + 2 →
      (∀ b o, s.heap.get? b = some o → h'.get? b = some o) → Q (.ref (s.heap.objs.size + 1)) { s with heap := h' }) :
    wpAny (model prog w) A (call (.type "enumerate") [.ref l]) Q E s := by
  obtain ⟨⟨c, dct, dt, sl⟩, hl, hc, n, hd⟩ := hL
  replace hc : c = .type "tuple" := hc
  replace hd : dt = .seq items n := hd
  subst hc hd
  refine callType_new F.called_enumerate (by decide) (F.typeCall_enumerate_1 _) (F.newCall_enumerate_1 _) (fun obj => F.args_object_init_2 obj _) F.entry_enumerate_new
    (meets_enumerate_newT l items n dct sl) ⟨hl, ?_⟩
  have hz : (s.heap.push { cls := .type "tuple_iterator", data := .fields #[.ref l, .int 0 0] }).objs.size = s.heap.objs.size + 1 := Heap.size_push ..
  show _ ∧ _
  rw [hz]
  have he : IsEnum ((s.heap.push { cls := .type "tuple_iterator", data := .fields #[.ref l, .int 0 0] }).push
      { cls := .type "enumerate", data := .fields #[.none, .bool false, .ref s.heap.objs.size, rawInt 0, .none, .none] }) (s.heap.objs.size + 1) s.heap.objs.size 0 .none := by
    have := Heap.get?_push_size (s.heap.push { cls := .type "tuple_iterator", data := .fields #[.ref l, .int 0 0] })
      (o := { cls := .type "enumerate", data := .fields #[.none, .bool false, .ref s.heap.objs.size, rawInt 0, .none, .none] }) rfl
    rw [hz] at this; exact this
  refine ⟨⟨_, he, rfl⟩, h _ he ⟨_, Heap.get?_push_of_some _ (Heap.get?_push_size _ rfl), rfl, rfl⟩ (by rw [Heap.size_push, hz]) fun b o x => Heap.get?_push_of_some _ (Heap.get?_push_of_some _ x)⟩
end

def IteT (K : PySem.W.Frag) (a : Addr) : It :=
  ⟨fun i H => ∃ (xs : List V) (x : V), SqT K H a xs ∧ xs[i]? = some x, fun i H v H' => ∃ T x, v = .ref T ∧ H T = none ∧ H' = upd H T (.tup [.int (i : Nat), x]) ∧ ∀ xs, SqT K H a xs → xs[i]? = some x, fun i H => ∃ xs : List V, SqT K H a xs ∧ xs.length = i⟩
theorem turn_enumT {P : Program} {w : World} {K : PySem.W.Frag} {elts : List Expr} {kk : Nat} {tpos : Pos} (a e it : Addr) :
    Turn P w K (.Tuple elts kk tpos) (IteT K a) [e, it] e (fun i h => (∃ old, IsEnum h e it ((i : Nat) : Int) old) ∧ h.IsTupleIter it a i ∧ e ≠ it ∧ a ≠ it ∧ a ≠ e) where
  mem := by simp
  obj := fun i h st b hb => by
    obtain ⟨⟨old, he⟩, ⟨o, ho, hc, hd⟩, _⟩ := st
    have e' : b = e ∨ b = it := by simpa using hb
    rcases e' with z | z
    · rw [z]; exact ⟨_, he, fun v q => nomatch q⟩
    · rw [z]; exact ⟨o, ho, fun v q => by rw [hd] at q; cases q⟩
  keep := fun i h h' st k => let ⟨⟨old, he⟩, hi, hne⟩ := st; ⟨⟨old, k e (by simp) _ he⟩, hi.at fun o q => k it (by simp) o q, hne⟩
  item := by
    intro X hP hw hK hc i pins s σ H E I hf st hg
    subst hP hw hK
    obtain ⟨⟨old, he⟩, hit, hne, ha, hae⟩ := st
    obtain ⟨xs, x, hq, hx⟩ := hg
    obtain ⟨its, rv, p, hz⟩ := I.tuple hq
    obtain ⟨u, hu, ru⟩ := rv.get hx
    have hel : e < s.heap.objs.size := Heap.lt_size he
    have hil : it < s.heap.objs.size := by obtain ⟨_, q, _⟩ := hit; exact Heap.lt_size q
    have hi : i < its.toArray.size := by
      have z := (List.getElem?_eq_some_iff.mp hu).1
      simpa using z
    refine wpAny_pyNext_enum_itemD (Draws.tuple (prog := X.prog) (w := X.w) (A := X.A.in1) (I.ok.hd hc) it a ha its.toArray) he ⟨hit, p⟩ hi hne (by simp [hne, Ne.symm hae]) fun x' h' tk hx' ho hst hT hsz hk => ?_
    have ex : x' = u := by
      have z : its.toArray[i]? = some x' := hx'
      rw [List.getElem?_toArray, hu] at z
      exact (Option.some.inj z).symm
    subst ex
    refine ⟨_, rfl, wpAny_letOwnedTupleGo_enum (s := { s with heap := h', toks := tk + 1 }) ho fun h'' he' sb => ?_⟩
    have hT2 : h''.get? s.heap.objs.size = some { cls := .type "tuple", data := .seq #[.int i tk, x'] } := (sb.2 _ (Nat.ne_of_gt hel)).trans hT
    have new : ObjOk X.prog X.w (upd H s.heap.objs.size (.tup [.int (i : Nat), x])) h'' s.heap.objs.size (.tup [.int (i : Nat), x]) :=
      ⟨by show 2 ≤ sizeLine; decide, [.int i tk, x'], .cons ⟨_, rfl⟩ (.cons ru .nil), ⟨_, hT2, rfl, _, rfl⟩⟩
    have I1 : Inv X pins σ (upd H s.heap.objs.size (.tup [.int (i : Nat), x])) { s with heap := h'', toks := tk + 1 } :=
      I.turnedNew (ch := [e, it]) (fun b ob hb q => (sb.2 b (fun z => hb (by simp [z]))).trans (hk b ob (fun z => hb (by simp [z])) (fun z => hb (by simp [z])) q)) hf (Nat.le_refl _) new
    refine ⟨.ref s.heap.objs.size, _, I1, rfl, ⟨_, x, rfl, I.hok.fresh (Nat.le_refl _), rfl, fun ys hy => by rw [I.tuple_inj hy hq]; exact hx⟩, ⟨⟨x', ?_⟩, hst.1.at fun o q => (sb.2 it (Ne.symm hne)).trans q, hne, ha, hae⟩, fun b hb => ?_⟩
    · have e1 : ((i + 1 : Nat) : Int) = (i : Int) + 1 := by omega
      rw [e1]; exact he'
    · have hb' : b < s.heap.objs.size := by
        have e' : b = e ∨ b = it := by simpa using hb
        rcases e' with z | z
        · rw [z]; exact hel
        · rw [z]; exact hil
      rw [upd_ne (Nat.ne_of_lt hb')]
      exact (hf b hb).1
  done := by
    intro X hP hw hK hc i pins s σ H E I hf st hg
    subst hP hw hK
    obtain ⟨⟨old, he⟩, hit, hne, ha, hae⟩ := st
    obtain ⟨xs, hq, hx⟩ := hg
    obtain ⟨its, rv, p, hz⟩ := I.tuple hq
    obtain ⟨f0, f1, f2, f3, f4, f5⟩ := hf it (by simp)
    have hl := rv.length
    have e1 : its.toArray.size = i := by simp; omega
    have hit' : s.heap.IsTupleIter it a its.toArray.size := by rw [e1]; exact hit
    exact wpAny_pyNext_enum_endD (Draws.tuple (prog := X.prog) (w := X.w) (A := X.A.in1) (I.ok.hd hc) it a ha its.toArray) he ⟨hit', p⟩ fun h' eb => ⟨rfl, I.turned (t' := s.toks) (fun b o hb q => eb b o hb q) f0 f1 f3 f4 f5⟩
  self := fun A i s Q E st h => let ⟨⟨_, he⟩, _⟩ := st; wpAny_pyIter_enum he h
def iEnumT (K : PySem.W.Frag) (ta : TA) : TI := fun σ H R => ta σ H fun vs H1 => ∃ a xs, vs = [.ref a] ∧ SqT K H1 a xs ∧ R (IteT K a) H1
theorem pi_enumT {X : Cx} {e : Expr} {ta : TA} {p pos tpos : Pos} {elts : List Expr} {kk : Nat} (hg : Gl X "enumerate") (hm : X.mg "enumerate" = none) (ha : PA X [e] ta) (hs : starEach [e] X.env = [(false, eval e X.env)] := by rfl) :
    PI X (.Tuple elts kk tpos) (.Call (.Name "enumerate" p) [e] [] pos) (iEnumT X.K ta) := by
  refine ⟨fun pins s σ H R I h => ?_⟩
  refine Call_ (ld_blt I hg hm boot_enumerate (PyProof.Rows.callWith_type1 (thn (ha.run pos pins s σ H _ I h) fun us s1 ⟨vs, H1, I1, r1, q1⟩ => ?_) hs rfl))
  obtain ⟨a, xs, ex, hq, q⟩ := q1
  subst ex
  cases r1 with
  | cons r rr =>
    cases rr
    cases r
    obtain ⟨its, rv, p', hz⟩ := I1.tuple hq
    have hal : a < s1.heap.objs.size := by obtain ⟨_, q', _⟩ := id p'; exact Heap.lt_size q'
    refine call_enumerate_tuple (show s1.heap.IsTuple a its.toArray from p') fun h' he hit hsz hk => wpAny_pyIter_enum he ?_
    have I2 : Inv X pins σ H1 { s1 with heap := h' } := I1.kept (t' := s1.toks) hk
    refine ⟨s1.heap.objs.size + 1, [s1.heap.objs.size + 1, s1.heap.objs.size], _, _, H1, rfl, I2, turn_enumT a (s1.heap.objs.size + 1) s1.heap.objs.size, ⟨⟨.none, he⟩, hit, Nat.succ_ne_self _, Nat.ne_of_lt hal, Nat.ne_of_lt (Nat.lt_succ_of_lt hal)⟩, fun b hb => ?_, q⟩
    have e' : b = s1.heap.objs.size + 1 ∨ b = s1.heap.objs.size := by simpa using hb
    have hle : s1.heap.objs.size ≤ b := by
      rcases e' with z | z
      · rw [z]; exact Nat.le_add_right _ _
      · rw [z]; exact Nat.le_refl _
    exact I1.fpOk hle (I1.hok.fresh hle)
theorem walk_enumT {K : PySem.W.Frag} {a : Addr} {xs : List V} : Walk (IteT K a) xs.length (fun H => SqT K H a xs) (YPair (fun i => some (.int (i : Nat))) (fun i => xs[i]?)) := by
  refine ⟨fun i _ hi q => ⟨xs, xs[i], q, by simp [hi]⟩, fun _ q => ⟨xs, q, rfl⟩, fun i H v H' _ q y => ?_⟩
  obtain ⟨T, x, h1, h2, h3, h4⟩ := y
  exact ⟨T, .int (i : Nat), x, h1, h2, h3, rfl, h4 xs q⟩
end Rx

/-! Rx5: list(zip(t, u)) of two tuples. -/
namespace Rx
open PySem PySem.Spec PyProof.Rows L2
theorem zip_no_len : typeLookup (.type "zip") "__len__" = pure none := by rw [typeLookup_type, builtinLookup_eq_fast]; kernel_rfl
theorem zip_no_hint : typeLookup (.type "zip") "__length_hint__" = pure none := by rw [typeLookup_type, builtinLookup_eq_fast]; kernel_rfl
section
variable {prog : Program} {w : World} {A : Around} {E : Value → Shared → Prop} {s : Shared}
theorem zipT_item_held {z TI TO T i1 i2 l1 l2 : Addr} {f : Bool} {oT : Obj} {k1 k2 : Nat} {xs ys : Array Value} {x y : Value} {Q : Value → Shared → Prop} (D : ZipApart z TI TO i1 i2 l1 l2)
    (hz : IsZipHeld s.heap z TI TO T f) (hT : s.heap.get? T = some oT) (hTI : IsPair s.heap TI (.ref i1) (.ref i2))
    (h1 : s.heap.IsTupleIter i1 l1 k1) (h2 : s.heap.IsTupleIter i2 l2 k2) (hl1 : s.heap.IsTuple l1 xs) (hl2 : s.heap.IsTuple l2 ys) (hx : xs[k1]? = some x) (hy : ys[k2]? = some y)
    (hQ : ∀ h', IsZipHeld h' z TI TO T true → h'.IsTupleIter i1 l1 (k1 + 1) → h'.IsTupleIter i2 l2 (k2 + 1) → IsPair h' s.heap.objs.size x y → h'.objs.size = s.heap.objs.size + 1 →
      (∀ c o, c ≠ z → c ≠ i1 → c ≠ i2 → s.heap.get? c = some o → h'.get? c = some o) → Q (.ref s.heap.objs.size) { s with heap := h' }) :
    wpAny (model prog w) A (Builtin.«zip.__next__» ⟨[.ref z], []⟩) (fun fin s' => ∃ v, fin = .done (.ret v) ∧ Q v s') E s := by
  show wpAny _ _ (field (.ref z) 2 >>= _) _ _ _
  refine wpAny_bind (wpAny_field hz rfl (x := .bool false) rfl ?_)
  show wpAny _ _ (field (.ref z) 3 >>= _) _ _ _
  refine wpAny_bind (wpAny_field hz rfl (x := .ref TI) rfl ?_)
  refine wpAny_bind (wpAny_seqItems hTI rfl ?_)
  show wpAny _ _ (Builtin.SmallTypes.ownedTupleIsFree (.ref z) >>= _) _ _ _
  refine wpAny_bind (wpAny_tupleHeld_zip hz hT fun h₁ hz₁ hs₁ => ?_)
  simp only [Bool.false_eq_true, if_false]
  refine wpAny_bind ?_
  rw [← Array.forIn_toList]
  simp only [List.forIn_cons, List.forIn_nil]
  refine wpAny_bind (wpAny_bind (wpAny_holding ?_))
  show wpAny _ _ (Builtin.SmallTypes.nextOf (.ref i1) >>= _) _ _ _
  refine wpAny_bind (RZ.nextOf_tuple_item (s := { s with heap := h₁ }) (h1.extBut hs₁.extBut D.i1z) (hl1.extBut hs₁.extBut D.l1z) hx fun h₂ h1₂ hs₂ => wpAny_pure ?_)
  refine wpAny_pure ?_
  refine wpAny_bind (wpAny_bind (wpAny_holding ?_))
  show wpAny _ _ (Builtin.SmallTypes.nextOf (.ref i2) >>= _) _ _ _
  refine wpAny_bind (RZ.nextOf_tuple_item (s := { s with heap := h₂ }) ((h2.extBut hs₁.extBut D.i2z).extBut hs₂.extBut D.i12.symm) ((hl2.extBut hs₁.extBut D.l2z).extBut hs₂.extBut D.l2i1) hy fun h₃ h2₃ hs₃ => wpAny_pure ?_)
  refine wpAny_pure (wpAny_pure ?_)
  show wpAny _ _ (newTuple [x, y] >>= _) _ _ _
  refine wpAny_bind (wpAny_newTuple ?_)
  have hsz : h₃.objs.size = s.heap.objs.size := by rw [hs₃.1, hs₂.1, hs₁.1]
  have hz₃ : IsZipHeld h₃ z TI TO T true := hs₃.extBut _ _ D.i2z.symm (hs₂.extBut _ _ D.i1z.symm hz₁)
  have hk : ∀ c o, c ≠ z → c ≠ i1 → c ≠ i2 → s.heap.get? c = some o → h₃.get? c = some o := fun c o c1 c2 c3 e => hs₃.extBut _ _ c3 (hs₂.extBut _ _ c2 (hs₁.extBut _ _ c1 e))
  have h1₃ : h₃.IsTupleIter i1 l1 (k1 + 1) := h1₂.extBut hs₃.extBut D.i12
  refine wpAny_pure ⟨_, rfl, ?_⟩
  show Q (.ref h₃.objs.size) _
  have hp : IsPair (h₃.push { cls := .type "tuple", data := .seq #[x, y] }) h₃.objs.size x y := Heap.get?_push_size _ rfl
  have hz4 : (h₃.push { cls := .type "tuple", data := .seq #[x, y] }).objs.size = h₃.objs.size + 1 := Heap.size_push ..
  rw [hsz] at hp hz4 ⊢
  exact hQ _ (Heap.get?_push_of_some _ hz₃) (h1₃.at fun o e => Heap.get?_push_of_some _ e) (h2₃.at fun o e => Heap.get?_push_of_some _ e) hp hz4 fun c o c1 c2 c3 e => Heap.get?_push_of_some _ (hk c o c1 c2 c3 e)
theorem zipT_end_held {z TI TO T i1 i2 l1 l2 : Addr} {f : Bool} {oT : Obj} {k1 k2 : Nat} {xs ys : Array Value} {Q : Fin → Shared → Prop} (hh : A.handled = none) (D : ZipApart z TI TO i1 i2 l1 l2)
    (hz : IsZipHeld s.heap z TI TO T f) (hT : s.heap.get? T = some oT) (hTI : IsPair s.heap TI (.ref i1) (.ref i2))
    (h1 : s.heap.IsTupleIter i1 l1 k1) (h2 : s.heap.IsTupleIter i2 l2 k2) (hl1 : s.heap.IsTuple l1 xs) (hl2 : s.heap.IsTuple l2 ys) (hend : xs[k1]? = none ∨ ys[k2]? = none)
    (hE : ∀ h' e, (∀ c o, c ≠ z → c ≠ i1 → c ≠ i2 → s.heap.get? c = some o → h'.get? c = some o) → (∃ o, h'.get? e = some o ∧ o.cls = .type "StopIteration") → E (.ref e) { s with heap := h' }) :
    wpAny (model prog w) A (Builtin.«zip.__next__» ⟨[.ref z], []⟩) Q E s := by
  show wpAny _ _ (field (.ref z) 2 >>= _) _ _ _
  refine wpAny_bind (wpAny_field hz rfl (x := .bool false) rfl ?_)
  show wpAny _ _ (field (.ref z) 3 >>= _) _ _ _
  refine wpAny_bind (wpAny_field hz rfl (x := .ref TI) rfl ?_)
  refine wpAny_bind (wpAny_seqItems hTI rfl ?_)
  show wpAny _ _ (Builtin.SmallTypes.ownedTupleIsFree (.ref z) >>= _) _ _ _
  refine wpAny_bind (wpAny_tupleHeld_zip hz hT fun h₁ hz₁ hs₁ => ?_)
  simp only [Bool.false_eq_true, if_false]
  refine wpAny_bind ?_
  rw [← Array.forIn_toList]
  simp only [List.forIn_cons, List.forIn_nil]
  refine wpAny_bind (wpAny_bind (wpAny_holding ?_))
  show wpAny _ _ (Builtin.SmallTypes.nextOf (.ref i1) >>= _) _ _ _
  cases hx : xs[k1]? with
  | none =>
    refine wpAny_bind (RZ.nextOf_tuple_end (s := { s with heap := h₁ }) hh (h1.extBut hs₁.extBut D.i1z) (hl1.extBut hs₁.extBut D.l1z) hx fun h₂ e hs₂ he => ?_)
    exact hE h₂ e (fun c o c1 c2 _ x => hs₂ _ _ c2 (hs₁.extBut _ _ c1 x)) he
  | some x =>
    have hy : ys[k2]? = none := by rcases hend with h | h; rw [hx] at h; cases h; exact h
    refine wpAny_bind (RZ.nextOf_tuple_item (s := { s with heap := h₁ }) (h1.extBut hs₁.extBut D.i1z) (hl1.extBut hs₁.extBut D.l1z) hx fun h₂ h1₂ hs₂ => wpAny_pure ?_)
    refine wpAny_pure ?_
    refine wpAny_bind (wpAny_bind (wpAny_holding ?_))
    show wpAny _ _ (Builtin.SmallTypes.nextOf (.ref i2) >>= _) _ _ _
    refine wpAny_bind (RZ.nextOf_tuple_end (s := { s with heap := h₂ }) hh ((h2.extBut hs₁.extBut D.i2z).extBut hs₂.extBut D.i12.symm) ((hl2.extBut hs₁.extBut D.l2z).extBut hs₂.extBut D.l2i1) hy fun h₃ e hs₃ he => ?_)
    exact hE h₃ e (fun c o c1 c2 c3 x => hs₃ _ _ c3 (hs₂.extBut _ _ c2 (hs₁.extBut _ _ c1 x))) he
/-- zip(t, u) after k turns, its tuples kept -/
structure ZSt (h : Heap) (z TI TO i1 i2 l1 l2 S : Addr) (xs ys : Array Value) (k : Nat) : Prop where
  ti : IsPair h TI (.ref i1) (.ref i2)
  it1 : h.IsTupleIter i1 l1 k
  it2 : h.IsTupleIter i2 l2 k
  t1 : h.IsTuple l1 xs
  t2 : h.IsTuple l2 ys
  out : (IsZip h z TI TO .none ∧ ∃ x y, IsPair h TO x y) ∨ ∃ T f oT, IsZipHeld h z TI TO T f ∧ h.get? T = some oT ∧ T ≠ z ∧ T ≠ i1 ∧ T ≠ i2 ∧ T ≠ S
theorem ZSt.at {h h' : Heap} {z TI TO i1 i2 l1 l2 S : Addr} {xs ys : Array Value} {k : Nat} (st : ZSt h z TI TO i1 i2 l1 l2 S xs ys k) (hS : z ≠ S ∧ TI ≠ S ∧ TO ≠ S ∧ i1 ≠ S ∧ i2 ≠ S ∧ l1 ≠ S ∧ l2 ≠ S)
    (up : ∀ b o, b ≠ S → h.get? b = some o → h'.get? b = some o) : ZSt h' z TI TO i1 i2 l1 l2 S xs ys k := by
  obtain ⟨s1, s2, s3, s4, s5, s6, s7⟩ := hS
  obtain ⟨a1, a2, a3, a4, a5, a6⟩ := st
  refine ⟨up _ _ s2 a1, a2.at fun o e => up _ o s4 e, a3.at fun o e => up _ o s5 e, ?_, ?_, ?_⟩
  · obtain ⟨o, ho, r⟩ := a4
    exact ⟨o, up _ _ s6 ho, r⟩
  · obtain ⟨o, ho, r⟩ := a5
    exact ⟨o, up _ _ s7 ho, r⟩
  · rcases a6 with ⟨e1, x, y, e2⟩ | ⟨T, f, oT, e1, e2, n1, n2, n3, n4⟩
    · exact .inl ⟨up _ _ s1 e1, x, y, up _ _ s3 e2⟩
    · exact .inr ⟨T, f, oT, up _ _ s1 e1, up _ _ n4 e2, n1, n2, n3, n4⟩
theorem zst_item {z TI TO i1 i2 l1 l2 S : Addr} {xs ys : Array Value} {k : Nat} {x y : Value} {Q : Option Value → Shared → Prop} (D : ZipApart z TI TO i1 i2 l1 l2) (hS : S < s.heap.objs.size) (st : ZSt s.heap z TI TO i1 i2 l1 l2 S xs ys k)
    (hx : xs[k]? = some x) (hy : ys[k]? = some y)
    (hQ : ∀ h', ZSt h' z TI TO i1 i2 l1 l2 S xs ys (k + 1) → IsPair h' s.heap.objs.size x y → h'.objs.size = s.heap.objs.size + 1 →
      (∀ c o, c ≠ z → c ≠ TO → c ≠ i1 → c ≠ i2 → s.heap.get? c = some o → h'.get? c = some o) → Q (some (.ref s.heap.objs.size)) { s with heap := h' }) :
    wpAny (model prog w) A (pyNext (.ref z)) Q E s := by
  have st' := st
  obtain ⟨a1, a2, a3, a4, a5, a6⟩ := st
  have nz : ∀ b o, s.heap.get? b = some o → s.heap.objs.size ≠ b := fun b o e => Nat.ne_of_gt (Heap.lt_size e)
  have n1 : s.heap.objs.size ≠ i1 := by obtain ⟨o, ho, _⟩ := a2; exact nz _ _ ho
  have n2 : s.heap.objs.size ≠ i2 := by obtain ⟨o, ho, _⟩ := a3; exact nz _ _ ho
  rcases a6 with ⟨e1, u, v, e2⟩ | ⟨T, f, oT, e1, e2, m1, m2, m3, m4⟩
  · refine RZ.pyNext_zipT_item D e1 a1 e2 a2 a3 a4 a5 hx hy fun h' b1 b2 b3 b4 b5 b6 b7 => hQ h' ⟨b7 _ _ D.TIz D.TITO D.TIi1 D.TIi2 a1, b3, b4, ?_, ?_, .inr ⟨_, false, _, b1, b5, nz _ _ e1, n1, n2, Nat.ne_of_gt hS⟩⟩ b5 b6 b7
    · obtain ⟨o, ho, r⟩ := a4
      exact ⟨o, b7 _ _ D.l1z D.l1TO D.l1i1 D.l1i2 ho, r⟩
    · obtain ⟨o, ho, r⟩ := a5
      exact ⟨o, b7 _ _ D.l2z D.l2TO D.l2i1 D.l2i2 ho, r⟩
  · have hTy : s.TypeIs (.ref z) "zip" := ⟨_, e1, rfl⟩
    unfold pyNext
    refine wpAny_bind (wpAny_attempt (wpAny_callSpecial?_slot (name := Str.ofString "__next__") hTy F.slot_zip_next
      (wpAny_call_entry F.slot_zip_next hTy F.entry_zip_next
        (zipT_item_held D e1 e2 a1 a2 a3 a4 a5 hx hy fun h' b1 b3 b4 b5 b6 b7 => wpAny_pure (hQ h' ⟨b7 _ _ D.TIz D.TIi1 D.TIi2 a1, b3, b4, ?_, ?_, .inr ⟨T, true, _, b1, b7 _ _ m1 m2 m3 e2, m1, m2, m3, m4⟩⟩ b5 b6 fun c o c1 _ c3 c4 e => b7 c o c1 c3 c4 e)) (F.args_zip_next_1 _))))
    · obtain ⟨o, ho, r⟩ := a4
      exact ⟨o, b7 _ _ D.l1z D.l1i1 D.l1i2 ho, r⟩
    · obtain ⟨o, ho, r⟩ := a5
      exact ⟨o, b7 _ _ D.l2z D.l2i1 D.l2i2 ho, r⟩
theorem zst_end {z TI TO i1 i2 l1 l2 S : Addr} {xs ys : Array Value} {k : Nat} {Q : Option Value → Shared → Prop} (hh : A.handled = none) (D : ZipApart z TI TO i1 i2 l1 l2) (st : ZSt s.heap z TI TO i1 i2 l1 l2 S xs ys k)
    (hend : xs[k]? = none ∨ ys[k]? = none)
    (hQ : ∀ h', (∀ c o, c ≠ z → c ≠ TO → c ≠ i1 → c ≠ i2 → s.heap.get? c = some o → h'.get? c = some o) → Q none { s with heap := h' }) :
    wpAny (model prog w) A (pyNext (.ref z)) Q E s := by
  obtain ⟨a1, a2, a3, a4, a5, a6⟩ := st
  rcases a6 with ⟨e1, u, v, e2⟩ | ⟨T, f, oT, e1, e2, m1, m2, m3, m4⟩
  · exact RZ.pyNext_zipT_end hh D e1 a1 e2 a2 a3 a4 a5 hend hQ
  · have hTy : s.TypeIs (.ref z) "zip" := ⟨_, e1, rfl⟩
    unfold pyNext
    refine wpAny_bind (wpAny_attempt (wpAny_callSpecial?_slot (name := Str.ofString "__next__") hTy F.slot_zip_next
      (wpAny_call_entry F.slot_zip_next hTy F.entry_zip_next (zipT_end_held hh D e1 e2 a1 a2 a3 a4 a5 hend fun h' e hk he => ?_) (F.args_zip_next_1 _))))
    obtain ⟨o, ho, hc⟩ := he
    refine wpAny_bind (wpAny_isInstance (T := "StopIteration") (b := true) ⟨o, ho, hc⟩ isSubtype_stop ?_)
    exact wpAny_pure (hQ _ fun c o c1 _ c3 c4 e => hk c o c1 c3 c4 e)
theorem zip_hint {r : Addr} (hT : s.TypeIs (.ref r) "zip") {Q : Bool → Shared → Prop} (h : Q true s) : wpAny (model prog w) A (Builtin.List.listLengthHint (.ref r)) Q E s := by
  unfold Builtin.List.listLengthHint
  refine wpAny_bind (wpAny_specialOf hT zip_no_len ?_)
  refine PySem.W.KFB.if_not rfl ?_
  refine PySem.W.KFB.if_not rfl ?_
  refine wpAny_bind (wpAny_specialOf hT zip_no_hint ?_)
  exact wpAny_pure h
/-- the addresses as hold the pairs -/
structure ZMade (xs ys : Array Value) (lo : Addr) (h : Heap) (as : List Addr) : Prop where
  rise : as.Pairwise (· < ·)
  above : ∀ a ∈ as, lo < a
  pairs : ∀ (j : Nat) (a : Addr), as[j]? = some a → ∃ x y, xs[j]? = some x ∧ ys[j]? = some y ∧ IsPair h a x y
theorem ZMade.there {xs ys : Array Value} {lo : Addr} {h : Heap} {as : List Addr} (g : ZMade xs ys lo h as) {a : Addr} (ha : a ∈ as) : a < h.objs.size := by
  obtain ⟨j, hj⟩ := List.mem_iff_getElem?.mp ha
  obtain ⟨_, _, _, _, e⟩ := g.pairs j a hj
  exact Heap.lt_size e
end
section
variable {prog : Program} {w : World} {A : Around} {s : Shared} {R : Result → Shared → Prop} {xs ys : Array Value}
theorem zlist_loop {z TI TO i1 i2 l1 l2 S : Addr} (hh : A.handled = none) (D : ZipApart z TI TO i1 i2 l1 l2) (hS : z < S ∧ TI < S ∧ TO < S ∧ i1 < S ∧ i2 < S ∧ l1 < S ∧ l2 < S) (hxy : xs.size = ys.size) (hn : xs.size ≤ sizeLine) (res : Value) {h₁ : Heap}
    (hR : ∀ h' tk acc c as, (∀ b o, b ≠ S → b ≠ z → b ≠ TO → b ≠ i1 → b ≠ i2 → h₁.get? b = some o → h'.get? b = some o) → h'.get? S = some { cls := .type "list", dict := none, data := .seq acc c, slots := #[] } → as.length = xs.size → ZMade xs ys S h' as →
      acc.toList = as.map Value.ref → R (.ok (.ret res)) { s with heap := h', toks := tk }) :
    ∀ (k i : Nat) (h : Heap) (tk c : Nat) (acc : Array Value) (as : List Addr), xs.size - i = k → i ≤ xs.size → ZSt h z TI TO i1 i2 l1 l2 S xs ys i → (∀ b o, b ≠ S → b ≠ z → b ≠ TO → b ≠ i1 → b ≠ i2 → h₁.get? b = some o → h.get? b = some o) →
      h.get? S = some { cls := .type "list", dict := none, data := .seq acc c, slots := #[] } → acc.toList = as.map Value.ref → as.length = i → ZMade xs ys S h as →
      codeAny (model prog w) A (.builtin "list.extend.loop" ⟨[.ref S, .ref z, res], []⟩) R { s with heap := h, toks := tk } := by
  obtain ⟨y1, y2, y3, y4, y5, y6, y7⟩ := hS
  have hSz : z ≠ S ∧ TI ≠ S ∧ TO ≠ S ∧ i1 ≠ S ∧ i2 ≠ S ∧ l1 ≠ S ∧ l2 ≠ S := ⟨Nat.ne_of_lt y1, Nat.ne_of_lt y2, Nat.ne_of_lt y3, Nat.ne_of_lt y4, Nat.ne_of_lt y5, Nat.ne_of_lt y6, Nat.ne_of_lt y7⟩
  intro k
  induction k with
  | zero =>
    intro i h tk c acc as hk hi hst hkeep hS hacc hal hG
    have hin : i = xs.size := by omega
    refine codeAny_builtin PySem.F.entry_extend_loop ?_
    rw [Around.under_plainId PySem.F.plain_extend_loop _]
    show wpAny _ A.in1 (pyNext (.ref z) >>= _) _ _ _
    refine wpAny_bind (zst_end (s := { s with heap := h, toks := tk }) (A := A.in1) hh D hst (.inl (by simp; omega)) fun h' he => ?_)
    refine wpAny_pure (hR h' tk acc c as (fun b o h1 h2 h3 h4 h5 e => he b o h2 h3 h4 h5 (hkeep b o h1 h2 h3 h4 h5 e)) (he S _ (Ne.symm hSz.1) (Ne.symm hSz.2.2.1) (Ne.symm hSz.2.2.2.1) (Ne.symm hSz.2.2.2.2.1) hS) (by omega) ⟨hG.rise, hG.above, fun j a hj => ?_⟩ hacc)
    obtain ⟨x, y, g1, g2, e3⟩ := hG.pairs j a hj
    have ha : S < a := hG.above a (List.mem_of_getElem? hj)
    exact ⟨x, y, g1, g2, he a _ (Nat.ne_of_gt (Nat.lt_trans y1 ha)) (Nat.ne_of_gt (Nat.lt_trans y3 ha)) (Nat.ne_of_gt (Nat.lt_trans y4 ha)) (Nat.ne_of_gt (Nat.lt_trans y5 ha)) e3⟩
  | succ k ih =>
    intro i h tk c acc as hk hi hst hkeep hS hacc hal hG
    have hlt : i < xs.size := by omega
    have hlt2 : i < ys.size := by omega
    have hsz : acc.size = i := by rw [← Array.length_toList, hacc, List.length_map, hal]
    refine codeAny_builtin PySem.F.entry_extend_loop ?_
    rw [Around.under_plainId PySem.F.plain_extend_loop _]
    show wpAny _ A.in1 (pyNext (.ref z) >>= _) _ _ _
    refine wpAny_bind (zst_item (s := { s with heap := h, toks := tk }) (S := S) D (Heap.lt_size hS) hst (Array.getElem?_eq_getElem hlt) (Array.getElem?_eq_getElem hlt2) fun h' hst' ht hz hkp => ?_)
    dsimp only at ht hz hkp ⊢
    have kp : ∀ b o, S ≤ b → h.get? b = some o → h'.get? b = some o := fun b o hb e =>
      hkp b o (Nat.ne_of_gt (Nat.lt_of_lt_of_le y1 hb)) (Nat.ne_of_gt (Nat.lt_of_lt_of_le y3 hb)) (Nat.ne_of_gt (Nat.lt_of_lt_of_le y4 hb)) (Nat.ne_of_gt (Nat.lt_of_lt_of_le y5 hb)) e
    have hS' := kp S _ (Nat.le_refl _) hS
    have up : ∀ b o, b ≠ S → h'.get? b = some o → (h'.update S (Obj.mapSeq (·.push (Value.ref h.objs.size)))).get? b = some o := fun b o hb e => (Heap.get?_update_other _ _ (Ne.symm hb)).trans e
    have hSl : S < h.objs.size := Heap.lt_size hS
    show wpAny _ A.in1 (updateSeq S (·.push (Value.ref h.objs.size)) >>= _) _ _ _
    refine wpAny_bind ?_
    refine wpAny_updateSeq hS' rfl (wpAny_pure ⟨plainId_quiet PySem.F.plain_extend_loop _, ih (i + 1) _ tk _ (acc.push (Value.ref h.objs.size)) (as ++ [h.objs.size]) (by omega) hlt (hst'.at hSz up)
      (fun b o h1 h2 h3 h4 h5 e => up b o h1 (hkp b o h2 h3 h4 h5 (hkeep b o h1 h2 h3 h4 h5 e))) (Heap.get?_update_self _ hS' rfl) (by rw [Array.toList_push, hacc, List.map_append]; rfl) (by rw [List.length_append, hal]; rfl) ⟨?_, ?_, ?_⟩⟩) (by rw [hsz]; omega) (by show (acc.push (Value.ref h.objs.size)).size ≤ sizeLine + 1; rw [Array.size_push, hsz]; omega)
    · refine List.pairwise_append.mpr ⟨hG.rise, List.pairwise_singleton _ _, fun a ha b hb => ?_⟩
      rw [List.mem_singleton.mp hb]
      exact hG.there ha
    · intro a ha
      rcases List.mem_append.mp ha with ha | ha
      · exact hG.above a ha
      · rw [List.mem_singleton.mp ha]; exact hSl
    · intro j b hj
      rcases Nat.lt_trichotomy j as.length with h1 | h1 | h1
      · rw [List.getElem?_append_left h1] at hj
        obtain ⟨x, y, g1, g2, e3⟩ := hG.pairs j b hj
        have hb := hG.above b (List.mem_of_getElem? hj)
        exact ⟨x, y, g1, g2, up b _ (Nat.ne_of_gt hb) (kp b _ (Nat.le_of_lt hb) e3)⟩
      · subst h1
        have hb : h.objs.size = b := by simpa using hj
        subst hb
        subst hal
        exact ⟨_, _, Array.getElem?_eq_getElem hlt, Array.getElem?_eq_getElem hlt2, up _ _ (Nat.ne_of_gt hSl) ht⟩
      · have hnone : (as ++ [h.objs.size])[j]? = none := List.getElem?_eq_none (by rw [List.length_append, List.length_singleton]; omega)
        rw [hnone] at hj; cases hj
end
section
variable {prog : Program} {w : World} {A : Around} {E : Value → Shared → Prop} {s : Shared} {xs ys : Array Value}
theorem call_listZip {z TI TO i1 i2 l1 l2 : Addr} {Q : Value → Shared → Prop} (hh : A.handled = none) (D : ZipApart z TI TO i1 i2 l1 l2) (hxy : xs.size = ys.size) (hn : xs.size ≤ sizeLine) (hz : IsZip s.heap z TI TO .none) (hTI : IsPair s.heap TI (.ref i1) (.ref i2)) {u v : Value} (hTO : IsPair s.heap TO u v)
    (h1 : s.heap.IsTupleIter i1 l1 0) (h2 : s.heap.IsTupleIter i2 l2 0) (hl1 : s.heap.IsTuple l1 xs) (hl2 : s.heap.IsTuple l2 ys)
    (hQ : ∀ h' tk acc c as, (∀ b o, b ≠ z → b ≠ TO → b ≠ i1 → b ≠ i2 → s.heap.get? b = some o → h'.get? b = some o) → h'.get? s.heap.objs.size = some { cls := .type "list", dict := none, data := .seq acc c, slots := #[] } → as.length = xs.size → ZMade xs ys s.heap.objs.size h' as →
      acc.toList = as.map Value.ref → Q (.ref s.heap.objs.size) { s with heap := h', toks := tk }) :
    wpAny (model prog w) A (call (.type "list") [.ref z]) Q E s := by
  refine callType_codes (Q₁ := fun obj s₁ => obj = .ref s.heap.objs.size ∧ s₁ = { s with heap := s.heap.push { cls := .type "list", data := .seq #[] } }) PySem.F.called_list (PySem.F.typeCall_list_1 _) PySem.F.entry_list_init
    (code_list_new _ ⟨rfl, rfl⟩) fun obj s₁ h₁ => ?_
  obtain ⟨rfl, rfl⟩ := h₁
  have hS : (s.heap.push { cls := .type "list", data := .seq #[] }).get? s.heap.objs.size = some { cls := .type "list", data := .seq #[] } := Heap.get?_push_size _ rfl
  have lts : ∀ b o, s.heap.get? b = some o → b < s.heap.objs.size := fun b o e => Heap.lt_size e
  have yS : z < s.heap.objs.size ∧ TI < s.heap.objs.size ∧ TO < s.heap.objs.size ∧ i1 < s.heap.objs.size ∧ i2 < s.heap.objs.size ∧ l1 < s.heap.objs.size ∧ l2 < s.heap.objs.size :=
    ⟨lts _ _ hz, lts _ _ hTI, lts _ _ hTO, let ⟨_, e, _⟩ := h1; lts _ _ e, let ⟨_, e, _⟩ := h2; lts _ _ e, let ⟨_, e, _⟩ := hl1; lts _ _ e, let ⟨_, e, _⟩ := hl2; lts _ _ e⟩
  refine ⟨⟨_, hS, rfl⟩, PySem.F.args_list_init_2 _ _, ?_⟩
  generalize hSd : s.heap.objs.size = S at hS hQ yS ⊢
  have hSz : z ≠ S ∧ TI ≠ S ∧ TO ≠ S ∧ i1 ≠ S ∧ i2 ≠ S ∧ l1 ≠ S ∧ l2 ≠ S := ⟨Nat.ne_of_lt yS.1, Nat.ne_of_lt yS.2.1, Nat.ne_of_lt yS.2.2.1, Nat.ne_of_lt yS.2.2.2.1, Nat.ne_of_lt yS.2.2.2.2.1, Nat.ne_of_lt yS.2.2.2.2.2.1, Nat.ne_of_lt yS.2.2.2.2.2.2⟩
  have st0 : ZSt s.heap z TI TO i1 i2 l1 l2 S xs ys 0 := ⟨hTI, h1, h2, hl1, hl2, .inl ⟨hz, _, _, hTO⟩⟩
  have keyL : ∀ (h : Heap) (c₁ tk : Nat), (∀ b o, b ≠ S → s.heap.get? b = some o → h.get? b = some o) →
      h.get? S = some { cls := .type "list", data := .seq #[] c₁ } → codeAny (model prog w) A.in1 (.builtin "list.extend.loop" ⟨[.ref S, .ref z, .none], []⟩) (wants (fun r s₂ => r = .none ∧ Q (.ref S) s₂) E) { s with heap := h, toks := tk } := by
    intro h c₁ tk hk hS₁
    refine zlist_loop (s := s) (h₁ := s.heap) (A := A.in1) hh D yS hxy hn .none (fun h' tk' acc c as hk' hS' hl hG hacc => ⟨rfl, hQ h' tk' acc c as (fun b o q1 q2 q3 q4 e => hk' b o (Nat.ne_of_lt (by rw [← hSd]; exact Heap.lt_size e)) q1 q2 q3 q4 e) hS' hl hG hacc⟩)
      xs.size 0 h tk c₁ #[] [] (Nat.sub_zero _) (Nat.zero_le _) (st0.at hSz hk) (fun b o q1 _ _ _ _ e => hk b o q1 e) hS₁ rfl rfl ⟨List.Pairwise.nil, (fun _ ha => nomatch ha), (fun j a hj => by simp at hj)⟩
  show wpAny _ _ (do let old ← Builtin.List.listItems (.ref S); Builtin.List.listUpdate (.ref S) (fun _ => #[]); letGo old.toList.reverse; Builtin.List.listExtendWith (.ref S) (.ref z) .none) _ _ _
  refine wpAny_bind ?_
  unfold Builtin.List.listItems
  refine wpAny_bind (wpAny_seqItems hS rfl (wpAny_pure ?_))
  show wpAny _ _ (updateSeq S (fun _ => #[]) >>= fun _ => letGo (#[] : Array Value).toList.reverse >>= fun _ => Builtin.List.listExtendWith (.ref S) (.ref z) .none) _ _ _
  refine wpAny_bind (wpAny_updateSeq hS rfl ?_)
  have hS₂ := Heap.get?_update_self (Obj.mapSeq (fun _ => (#[] : Array Value))) hS rfl
  refine wpAny_bind (wpAny_letGo ?_)
  have oth : ∀ b o, b ≠ S → s.heap.get? b = some o → ((s.heap.push { cls := .type "list", data := .seq #[] }).update S (Obj.mapSeq (fun _ => (#[] : Array Value)))).get? b = some o :=
    fun b o hb e => (Heap.get?_update_other _ _ (Ne.symm hb)).trans (Heap.get?_push_of_some _ e)
  have hz₂ := oth _ _ hSz.1 hz
  unfold Builtin.List.listExtendWith
  refine wpAny_bind (wpAny_typeOf (T := "zip") ⟨_, hz₂, rfl⟩ ?_)
  have e1 : Builtin.List.listSameRef (.ref S) (.ref z) = false := by simp [Builtin.List.listSameRef, Ne.symm hSz.1]
  have e2 : (Value.type "zip" == Value.type "list") = false := by decide
  have e3 : (Value.type "zip" == Value.type "tuple") = false := by decide
  simp only [e1, e2, e3, Bool.or_false, Bool.false_eq_true, if_false]
  refine wpAny_bind (wpAny_pyIter_zip hz₂ ?_)
  refine wpAny_bind (wpAny_holding (zip_hint ⟨_, hz₂, rfl⟩ ?_))
  refine wpAny_ite_split (fun _ => ?_) (fun _ => wpAny_pure ⟨plainId_quiet PySem.F.plain_extend_loop _, keyL _ _ _ oth hS₂⟩)
  refine wpAny_bind (wpAny_rule ?_)
  refine wpAny_bind ?_
  show wpAny _ _ (updateSeq S (·.push .none) >>= fun _ => updateSeq S (·.pop)) _ _ _
  refine wpAny_bind (wpAny_updateSeq hS₂ rfl ?_)
  have hS₃ := Heap.get?_update_self (Obj.mapSeq (·.push Value.none)) hS₂ rfl
  refine wpAny_updateSeq (hz := by seq_fits) hS₃ rfl ?_
  have hS₄ := Heap.get?_update_self (Obj.mapSeq (·.pop)) hS₃ rfl
  refine wpAny_pure ⟨plainId_quiet PySem.F.plain_extend_loop _, keyL _ _ _ (fun b o hb e => ?_) hS₄⟩
  exact (Heap.get?_update_other _ _ (Ne.symm hb)).trans ((Heap.get?_update_other _ _ (Ne.symm hb)).trans (oth b o hb e))
end

def tListZip (K : PySem.W.Frag) (ta : TA) : TE := fun σ H Q => ta σ H fun vs H1 => ∃ a b xs ys, vs = [.ref a, .ref b] ∧ SqT K H1 a xs ∧ SqT K H1 b ys ∧ xs.length = ys.length ∧ xs.length ≤ 1000 ∧
  ∀ (H' : Hp) (l : Addr) (as : List Addr), Same H1 H' → H' l = some (.lst (as.map V.ref)) → H1 l = none → as.length = xs.length → (∀ (j : Nat) (a : Addr) (x y : V), as[j]? = some a → xs[j]? = some x → ys[j]? = some y → H' a = some (.tup [x, y])) → Q (.ref l) H'
theorem pe_listZip {X : Cx} {e e2 : Expr} {ta : TA} {p p2 q pos : Pos} (hg : Gl X "list") (hm : X.mg "list" = none) (hg2 : Gl X "zip") (hm2 : X.mg "zip" = none) (ha : PA X [e, e2] ta) (hc : X.calm = true := by rfl)
    (hs : starEach [e, e2] X.env = (false, eval e X.env) :: starEach [e2] X.env := by rfl) (hpl : (backTo q (starEach [e2] X.env)).any (·.1) = false := by rfl) :
    PE X (.Call (.Name "list" p) [.Call (.Name "zip" p2) [e, e2] [] q] [] pos) (tListZip X.K ta) := by
  refine ⟨fun pins s σ H Q I h => ?_⟩
  refine Call_ (ld_blt I hg hm boot_list ?_)
  refine PyProof.Rows.callWith_type1 (PyProof.Rows.args_cons ?_ rfl) rfl rfl
  refine Call_ (ld_blt I hg2 hm2 PyProof.Rows.boot_zip ?_)
  refine PyProof.Rows.callWith_type1 (thn (ha.run q pins s σ H _ I h) fun us s1 ⟨vs, H1, I1, r1, q1⟩ => ?_) hs hpl
  obtain ⟨a, b, xs, ys, rfl, hqx, hqy, hlen, hl, q1⟩ := q1
  obtain ⟨its, rv, p1, _⟩ := I1.tuple hqx
  obtain ⟨its2, rv2, p2', _⟩ := I1.tuple hqy
  cases r1 with
  | cons r rr =>
    cases rr with
    | cons r' rr =>
      cases rr
      cases r
      cases r'
      obtain ⟨o1, ho1, _⟩ := id p1
      obtain ⟨o2, ho2, _⟩ := id p2'
      have n1 : its.length = xs.length := rv.length.symm
      have n2 : its2.length = ys.length := rv2.length.symm
      refine RZ.call_zipT (show s1.heap.IsTuple a its.toArray from p1) (show s1.heap.IsTuple b its2.toArray from p2') fun h' hz hTI hTO h1 h2 hsz hk => ?_
      refine PyProof.Rows.args_nil ?_
      have hl1 : h'.IsTuple a its.toArray := let ⟨o, ho, r⟩ := p1; ⟨o, hk _ _ ho, r⟩
      have hl2 : h'.IsTuple b its2.toArray := let ⟨o, ho, r⟩ := p2'; ⟨o, hk _ _ ho, r⟩
      refine call_listZip (s := { s1 with heap := h' }) (A := X.A) (I1.ok.hd hc) (PySem.W.ktu_apart s1.heap.objs.size a b (Heap.lt_size ho1) (Heap.lt_size ho2)) (by simp; omega) (by simp [sizeLine_eq]; omega) hz hTI hTO h1 h2 hl1 hl2 fun h2' tk acc c as hk2 hS hal hM hacc => ?_
      have hsz' : h'.objs.size = s1.heap.objs.size + 5 := hsz
      have k2 : ∀ b o, s1.heap.get? b = some o → h2'.get? b = some o := fun b o e => by
        have hb : b < s1.heap.objs.size := Heap.lt_size e
        exact hk2 b o (Nat.ne_of_lt (Nat.lt_add_right 4 hb)) (Nat.ne_of_lt (Nat.lt_add_right 3 hb)) (Nat.ne_of_lt hb) (Nat.ne_of_lt (Nat.lt_add_right 1 hb)) (hk b o e)
      have I2 : Inv X pins σ H1 { s1 with heap := h2', toks := tk } := I1.kept k2
      have frs : ∀ c, s1.heap.objs.size ≤ c → H1 c = none := fun c hc => I1.hok.fresh hc
      have nd : as.Nodup := List.Pairwise.imp (fun h => Nat.ne_of_lt h) hM.rise
      have eS : (lstv : HO) → lstv = .lst (as.map V.ref) → Inv X pins σ (upd H1 h'.objs.size lstv) { s1 with heap := h2', toks := tk } := fun lstv e => by
        subst e
        refine I2.take (h' := h2') (t' := tk) (fun b ob _ e => e) (I1.fpOk (by omega) (frs _ (by omega))) ⟨by rw [List.length_map, sizeLine_eq, hal]; simp; omega, as.map Value.ref, c, ?_, by rw [← hacc, Array.toArray_toList]; exact hS⟩
        clear hal hM hacc q1 nd hS
        induction as with
        | nil => exact .nil
        | cons a as ih => exact .cons rfl ih
      have I2' := eS _ rfl
      obtain ⟨H2, I3, g3, q3⟩ := DX.takeT (s := s1) (h' := h2') (tk := tk) (P := fun a vs => ∀ j x y, as[j]? = some a → xs[j]? = some x → ys[j]? = some y → vs = [x, y]) I1 as _ I2' nd fun a ha => by
        have hb := hM.above a ha
        dsimp only at hb
        have hle : s1.heap.objs.size ≤ a := Nat.le_trans (by omega : s1.heap.objs.size ≤ h'.objs.size) (Nat.le_of_lt hb)
        refine ⟨hle, by rw [upd_ne (Nat.ne_of_gt hb)]; exact frs a hle, ?_⟩
        obtain ⟨j, hj⟩ := List.mem_iff_getElem?.mp ha
        obtain ⟨x, y, gx, gy, hp⟩ := hM.pairs j a hj
        have gx' : its[j]? = some x := by simpa using gx
        have gy' : its2[j]? = some y := by simpa using gy
        have jl : j < xs.length := by rw [← n1]; exact (List.getElem?_eq_some_iff.mp gx').1
        have jl2 : j < ys.length := by omega
        have ex : xs[j]? = some xs[j] := List.getElem?_eq_getElem jl
        have ey : ys[j]? = some ys[j] := List.getElem?_eq_getElem jl2
        obtain ⟨u, hu, ru⟩ := rv.get ex
        obtain ⟨u2, hu2, ru2⟩ := rv2.get ey
        rw [gx'] at hu
        rw [gy'] at hu2
        cases hu
        cases hu2
        refine ⟨[xs[j], ys[j]], fun j' x' y' hj' hx' hy' => ?_, fun H2 => ⟨by show 2 ≤ sizeLine; decide, [x, y], .cons ru (.cons ru2 .nil), ⟨_, hp, rfl, _, rfl⟩⟩⟩
        have ej : j = j' := by
          have d1 := (List.getElem?_eq_some_iff.mp hj)
          have d2 := (List.getElem?_eq_some_iff.mp hj')
          obtain ⟨b1, e1⟩ := d1
          obtain ⟨b2, e2⟩ := d2
          rcases Nat.lt_trichotomy j j' with q | q | q
          · exact absurd (e1.trans e2.symm) (List.pairwise_iff_getElem.mp nd j j' b1 b2 q)
          · exact q
          · exact absurd (e2.trans e1.symm) (List.pairwise_iff_getElem.mp nd j' j b2 b1 q)
        subst ej
        rw [ex] at hx'
        rw [ey] at hy'
        cases hx'
        cases hy'
        rfl
      refine ⟨.ref h'.objs.size, H2, I3, rfl, q1 H2 _ as (fun b u e => g3 b u ?_) (g3 _ _ upd_same) (frs _ (by omega)) (by rw [hal]; simp; omega) fun j a x y hj hx hy => ?_⟩
      · rw [upd_ne (ne_of_none e (frs _ (by omega)))]
        exact e
      · obtain ⟨vs, hv, e⟩ := q3 a (List.mem_of_getElem? hj)
        rw [e, hv j x y hj hx hy]
end Rx

/-! Rx6: min of a list of pairs of ints. -/
namespace Rx
open PySem PySem.Spec PyProof.Rows L2
/-- the order of pairs -/
def ltP (p q : Int × Int) : Bool := decide (p.1 < q.1 ∨ (p.1 = q.1 ∧ p.2 < q.2))
theorem ltP_lex (p q : Int × Int) : HT.lexLt [p.1, p.2] [q.1, q.2] = ltP p q := by
  unfold ltP
  rw [HT.lexLt_cons]
  by_cases h : p.1 = q.1
  · rw [if_pos h, HT.lexLt_cons]
    by_cases h2 : p.2 = q.2
    · rw [if_pos h2, HT.lexLt_nil_nil]
      symm
      apply decide_eq_false
      omega
    · rw [if_neg h2]
      apply decide_eq_decide.mpr
      omega
  · rw [if_neg h]
    apply decide_eq_decide.mpr
    omega
theorem argBest_ltP (f : Nat → Int × Int) : ∀ k, argBest (fun i j => ltP (f i) (f j)) k ≤ k ∧ ∀ j, j ≤ k → ltP (f j) (f (argBest (fun i j => ltP (f i) (f j)) k)) = false
  | 0 => ⟨Nat.le_refl _, fun j hj => by
    have : j = 0 := by omega
    subst this
    show ltP (f 0) (f 0) = false
    unfold ltP
    apply decide_eq_false
    omega⟩
  | k + 1 => by
    obtain ⟨h1, h2⟩ := argBest_ltP f k
    simp only [argBest]
    by_cases hc : ltP (f (k + 1)) (f (argBest (fun i j => ltP (f i) (f j)) k)) = true
    · rw [if_pos hc]
      refine ⟨Nat.le_refl _, fun j hj => ?_⟩
      rcases Nat.lt_or_ge j (k + 1) with hlt | hge
      · have h3 := h2 j (by omega)
        unfold ltP at h3 hc ⊢
        have h3 := of_decide_eq_false h3
        have hc := of_decide_eq_true hc
        apply decide_eq_false
        omega
      · have : j = k + 1 := by omega
        subst this
        unfold ltP
        apply decide_eq_false
        omega
    · rw [if_neg hc]
      refine ⟨by omega, fun j hj => ?_⟩
      rcases Nat.lt_or_ge j (k + 1) with hlt | hge
      · exact h2 j (by omega)
      · have : j = k + 1 := by omega
        subst this
        exact eq_false_of_ne_true hc
section
variable {X : Cx}
def rMinP : List V → Hp → VK → Prop := fun xs H Q => ∃ (a : Addr) (ps : List (Int × Int)) (as : List Addr), xs = [.ref a] ∧ H a = some (.lst (as.map V.ref)) ∧ as.length = ps.length ∧ ps ≠ [] ∧
  (∀ (j : Nat) (p : Int × Int), ps[j]? = some p → ∃ b, as[j]? = some b ∧ H b = some (.tup [.int p.1, .int p.2])) ∧
  ∀ (b : Addr) (p : Int × Int), p ∈ ps → (∀ q ∈ ps, ltP q p = false) → H b = some (.tup [.int p.1, .int p.2]) → Q (.ref b) H
theorem cr_minP {k : Nat} (hc : X.calm = true) (hr : Room k X.A) : CallR X (.builtin "min") rMinP := by
  intro pins s σ H xs us Q I r h
  obtain ⟨a, ps, as, rfl, ha, hl, hne, hp, q⟩ := h
  obtain ⟨its, rv, pl, _⟩ := I.list (SqL.of ha)
  rw [Vals.ref1 r]
  have hn : its.length = as.length := by rw [← rv.length, List.length_map]
  have hu : X.A.in1.units < cLine := by
    have := hr.un
    show X.A.units + 1 < _
    omega
  have hpos : 0 < ps.length := List.length_pos_iff.mpr hne
  have at_ : ∀ (j : Nat) (v : Value), its.toArray[j]? = some v → ∃ b, v = .ref b ∧ ∃ hj : j < ps.length, H b = some (.tup [.int (ps.getD j (0, 0)).1, .int (ps.getD j (0, 0)).2]) ∧ ps.getD j (0, 0) ∈ ps := by
    intro j v hv
    have hv' : its[j]? = some v := by simpa using hv
    have hj : j < ps.length := by
      have := (List.getElem?_eq_some_iff.mp hv').1
      omega
    obtain ⟨b, hb, hH⟩ := hp j ps[j] (List.getElem?_eq_getElem hj)
    obtain ⟨u, hu, ru⟩ := rv.get (i := j) (x := V.ref b) (by rw [List.getElem?_map, hb] <;> rfl)
    rw [hv'] at hu
    cases hu
    have e : ps.getD j (0, 0) = ps[j] := by rw [List.getD_eq_getElem?_getD, List.getElem?_eq_getElem hj] <;> rfl
    exact ⟨b, ru, hj, by rw [e]; exact hH, by rw [e]; exact List.getElem_mem hj⟩
  refine call_min_walkH (PySem.W.iter_listW (A := X.A.in1) (I.ok.hd hc) pl.isList fun s₂ e W st hfp hw hk => ?_)
  refine ⟨_, _, _, _, _, _, _, s.heap, fun i j => ltP (ps.getD i (0, 0)) (ps.getD j (0, 0)), rfl, W, st, hfp, by simp; omega, hw, hk, ?_, fun v s' hP m => ?_⟩
  · intro i j vi vj s' Q' E' hk' hi hj hq
    obtain ⟨b, rfl, _, hb, _⟩ := at_ i vi hi
    obtain ⟨c, rfl, _, hc', _⟩ := at_ j vj hj
    obtain ⟨_, i1, r1, p1⟩ := (show ObjOk X.prog X.w H s.heap b (.tup _) from I.hok b _ hb)
    obtain ⟨_, i2, r2, p2⟩ := (show ObjOk X.prog X.w H s.heap c (.tup _) from I.hok c _ hc')
    have p1' : IsTup s'.heap b i1.toArray := by
      obtain ⟨o, ho, rr⟩ := p1
      exact ⟨o, hk' _ _ ho, rr⟩
    have p2' : IsTup s'.heap c i2.toArray := by
      obtain ⟨o, ho, rr⟩ := p2
      exact ⟨o, hk' _ _ ho, rr⟩
    have hq : Q' (Value.bool (ltP (ps.getD i (0, 0)) (ps.getD j (0, 0)))) s' := hq
    rw [← ltP_lex] at hq
    exact HT.lt_tupInts (A := X.A.in1) p1' p2' (intsAre_of (ns := [(ps.getD i (0, 0)).1, (ps.getD i (0, 0)).2]) r1) (intsAre_of (ns := [(ps.getD j (0, 0)).1, (ps.getD j (0, 0)).2]) r2) hu hq
  · obtain ⟨h', tk, rfl, hk'⟩ := PySem.W.moved_old e rfl m
    obtain ⟨b, rfl, _, hb, hm⟩ := at_ _ _ hP
    obtain ⟨z1, z2⟩ := argBest_ltP (fun j => ps.getD j (0, 0)) (its.toArray.size - 1)
    refine ⟨.ref b, H, I.kept hk', rfl, q b _ hm (fun p hp' => ?_) hb⟩
    obtain ⟨j, hj⟩ := List.mem_iff_getElem?.mp hp'
    have e : p = ps.getD j (0, 0) := by rw [List.getD_eq_getElem?_getD, hj] <;> rfl
    rw [e]
    have jl := (List.getElem?_eq_some_iff.mp hj).1
    exact z2 j (by simp; omega)
end
end Rx

/-! Rx7: name = {..} of a dict comprehension on one line, the name a local. -/
namespace Rx
open PySem PySem.Spec PyProof.Rows L2
section
variable {X : Cx}
theorem ps_setDc {i : Nat} {y : Str} {py : Pos} {kx vx tg iter : Expr} {ifs : List Expr} {scope : Scope} {own : List (Str × Nat)} {pos spos : Pos} {wi : TI} {g : TG} {tt : TT} {tk tv : TE} (hc : X.calm = true) (hN : X.N.Nodup) (hy : X.N[i]? = some y) (hyl : X.env.scope.names.lookup y = some .local)
    (hsw : swapsWith (.DictComp kx vx [⟨tg, iter, ifs, 0⟩] scope pos) (some (.Name y py)) spos.line X.env = pure true) (hi : PI X tg iter wi) (ok : BlkOk X.N X.env.scope scope own)
    (hg : ∀ (s : Shared) (H : Hp) (C : Addr) (cl : List (Str × Addr)) (fp : List Addr), PG (X.blk s H scope (compEnvC scope cl C X.env) fp) tg g) (ht : ∀ (s : Shared) (H : Hp) (C : Addr) (cl : List (Str × Addr)) (fp : List Addr), PTs (X.blk s H scope (compEnvC scope cl C X.env) fp) ifs tt)
    (hk : ∀ (s : Shared) (H : Hp) (C : Addr) (cl : List (Str × Addr)) (fp : List Addr), PE (X.blk s H scope (compEnvC scope cl C X.env) fp) kx tk)
    (he : ∀ (s : Shared) (H : Hp) (C : Addr) (cl : List (Str × Addr)) (fp : List Addr), PE (X.blk s H scope (compEnvC scope cl C X.env) fp) vx tv) (hs : ∀ x, foldedSetIterable iter X.env x = pure x := by intro _; rfl) :
    PS X (.Assign [.Name y py] (.DictComp kx vx [⟨tg, iter, ifs, 0⟩] scope pos) spos) (tAsg (tDc wi g tt tk tv (own.map (·.2))) (gName i)) := by
  refine ⟨fun pins s σ H D I h => ?_⟩
  rw [exec_Assign_Name_used _ _ _ _ hsw]
  refine wpAny_bind (wpAny_standAt (wpAny_bind ?_))
  show wpAny _ X.A (do let _ ← comprehension (.DictComp kx vx [⟨tg, iter, ifs, 0⟩] scope pos) scope X.env (firstIterPos [⟨tg, iter, ifs, 0⟩] pos) newDict false (eval iter X.env) (some (assign (.Name y py) X.env))) _ _ s
  have h : tDc wi g tt tk tv (own.map (·.2)) σ H (fun x H1 => gName i x σ H1 D.nx) := h
  refine wpAny_bind (thn (dc_core (Qf := fun _ s' => SP X pins D .next s') hc hN I hi ok hg ht hk he hs h fun L C s' m H' I' q hn f => ?_) fun _ s' hq => wpAny_pure (wpAny_pure hq))
  show wpAny _ _ (assign (.Name y py) X.env (.ref L)) _ _ _
  refine wpAny_assign_Name (store_ok2 (v := V.ref L) I' hN hy (.inl hyl) rfl (fun s2 I2 ⟨a, sb, ha⟩ => ?_) (.inr hyl))
  obtain ⟨f0, f1, f2, f3, f4, f5⟩ := f
  have haC : C ≠ a := by
    rcases ha with z | z
    · rw [z]; exact f1
    · exact fun e => f4 y a z e.symm
  refine ⟨m, hn.sameBut sb haC, fun h3 sb3 => ?_⟩
  exact ⟨_, H', I2.turned (t' := s2.toks) (fun b o hb e => (sb3.2 b hb).trans e) f0 f1 f3 f4 f5, q⟩
theorem sw_trueD {kx vx : Expr} {gs : List Comprehension} {scope : Scope} {pos py : Pos} {y : Str} {l : Nat} {env : Env} (hk : env.scope.kind = .function) (hy : env.scope.names.lookup y = some .local) (hl : (py.line == pos.line) = true)
    (ha : (scope.names.any fun (n, k) => n == y && (k == .local || k == .cell)) = false) : swapsWith (.DictComp kx vx gs scope pos) (some (.Name y py)) l env = pure true := by
  have ky : env.kindOf y = some .local := hy
  have hb : env.blockKind = .function := by unfold Env.blockKind; rw [hk]; rfl
  unfold swapsWith
  simp only [hb, ky, ha, Expr.pos, hl]
  rfl
end
end Rx

/-! Ev: the mirror's data, what evaluates to what, by data. -/
namespace Bf
open PySem L2 Bx

structure Pl where
  rates : List Int
  above : List (Option Nat)
  pts : List (Str × Str × Int)
  rule : Str
abbrev dO : Option Nat → D
  | none => .non
  | some j => .int (j : Nat)
abbrev dPt (p : Str × Str × Int) : D := .tup [.str p.1, .str p.2.1, .int p.2.2]
abbrev dI (l : List Int) : D := .tup (l.map .int)
abbrev dN (l : List Nat) : D := .tup (l.map fun i => .int (i : Nat))
abbrev dB (l : List Bool) : D := .tup (l.map .bl)
abbrev dW (l : List (Option Nat)) : D := .tup (l.map dO)
abbrev dS (l : List Str) : D := .tup (l.map .str)
abbrev dPts (l : List (Str × Str × Int)) : D := .tup (l.map dPt)
abbrev Pl.d (P : Pl) : D := .tup [dI P.rates, dW P.above, dPts P.pts, .str P.rule]
/-- what the walk speaks of -/
inductive A where
  | d (x : D)
  | lst (l : List D)
  | dic (l : List (Str × Int))
  | pl (P : Pl)
abbrev kvs (l : List (Str × Int)) : List (Key × V) := l.map fun e => (Sum.inr e.1, V.int e.2)
def PlanAt (C : Addr) (H : Hp) (p : Addr) (P : Pl) : Prop := ∃ dx t, (H p = some (SlX.SlO p C dx [some (.ref t)]) ∧ H dx = some (.xd [])) ∧ Im H P.d (.ref t)
def Rp (C : Addr) (H : Hp) : A → V → Prop
  | .d x, v => Im H x v
  | .lst l, v => ∃ p vs, v = .ref p ∧ H p = some (.lst vs) ∧ ImL H l vs
  | .dic l, v => ∃ p, v = .ref p ∧ H p = some (.dK (kvs l))
  | .pl P, v => ∃ p, v = .ref p ∧ PlanAt C H p P
def RpL (C : Addr) (H : Hp) : List A → List V → Prop
  | [], vs => vs = []
  | a :: as, vs => ∃ v r, vs = v :: r ∧ Rp C H a v ∧ RpL C H as r
section
variable {C : Addr} {H H' : Hp}
theorem PlanAt.mono {p : Addr} {P : Pl} (h : PlanAt C H p P) (s : Same H H') : PlanAt C H' p P := by
  obtain ⟨dx, t, ⟨h1, h2⟩, h3⟩ := h
  exact ⟨dx, t, ⟨s _ _ h1, s _ _ h2⟩, h3.mono s⟩
theorem Rp.mono {a : A} {v : V} (h : Rp C H a v) (s : Same H H') : Rp C H' a v := by
  cases a with
  | d x => exact Im.mono h s
  | lst l =>
    obtain ⟨p, vs, e, h1, h2⟩ := h
    exact ⟨p, vs, e, s _ _ h1, h2.mono s⟩
  | dic l =>
    obtain ⟨p, e, h1⟩ := h
    exact ⟨p, e, s _ _ h1⟩
  | pl P =>
    obtain ⟨p, e, h1⟩ := h
    exact ⟨p, e, h1.mono s⟩
theorem RpL.mono : ∀ {as : List A} {vs : List V}, RpL C H as vs → Same H H' → RpL C H' as vs
  | [], _, h, _ => h
  | a :: as, _, ⟨v, r, e, h1, h2⟩, s => ⟨v, r, e, h1.mono s, RpL.mono h2 s⟩
theorem RpL.len : ∀ {as : List A} {vs : List V}, RpL C H as vs → vs.length = as.length
  | [], _, h => by rw [show _ = [] from h] <;> rfl
  | a :: as, _, ⟨v, r, e, h1, h2⟩ => by rw [e, List.length_cons, List.length_cons, RpL.len h2]
theorem RpL.ds : ∀ {ds : List D} {vs : List V}, RpL C H (ds.map .d) vs → ImL H ds vs
  | [], _, h => h
  | d :: ds, _, ⟨v, r, e, h1, h2⟩ => ⟨v, r, e, h1, RpL.ds h2⟩
theorem RpL.one {a : A} {vs : List V} (h : RpL C H [a] vs) : ∃ v, vs = [v] ∧ Rp C H a v := by
  obtain ⟨v, r, e, h1, h2⟩ := h
  exact ⟨v, by rw [e, show r = [] from h2], h1⟩
theorem RpL.two {a b : A} {vs : List V} (h : RpL C H [a, b] vs) : ∃ v w, vs = [v, w] ∧ Rp C H a v ∧ Rp C H b w := by
  obtain ⟨v, r, e, h1, h2⟩ := h
  obtain ⟨w, e2, h3⟩ := h2.one
  exact ⟨v, w, by rw [e, e2], h1, h3⟩
theorem RpL.three {a b c : A} {vs : List V} (h : RpL C H [a, b, c] vs) : ∃ v w x, vs = [v, w, x] ∧ Rp C H a v ∧ Rp C H b w ∧ Rp C H c x := by
  obtain ⟨v, r, e, h1, h2⟩ := h
  obtain ⟨w, x, e2, h3⟩ := h2.two
  exact ⟨v, w, x, by rw [e, e2], h1, h3⟩
theorem RpL.four {a b c d : A} {vs : List V} (h : RpL C H [a, b, c, d] vs) : ∃ v w x y, vs = [v, w, x, y] ∧ Rp C H a v ∧ Rp C H b w ∧ Rp C H c x ∧ Rp C H d y := by
  obtain ⟨v, r, e, h1, h2⟩ := h
  obtain ⟨w, x, y, e2, h3⟩ := h2.three
  exact ⟨v, w, x, y, by rw [e, e2], h1, h3⟩
theorem rpl_nil : RpL C H [] [] := rfl
theorem rpl_cons {a : A} {as : List A} {v : V} {vs : List V} (h : Rp C H a v) (r : RpL C H as vs) : RpL C H (a :: as) (v :: vs) := ⟨v, vs, rfl, h, r⟩
end

theorem rp_int {C : Addr} {H : Hp} {i : Int} {v : V} (h : Rp C H (.d (.int i)) v) : v = .int i := h
theorem rp_bl {C : Addr} {H : Hp} {i : Bool} {v : V} (h : Rp C H (.d (.bl i)) v) : v = .bl i := h
theorem rp_str {C : Addr} {H : Hp} {i : Str} {v : V} (h : Rp C H (.d (.str i)) v) : v = .str i := h
theorem rp_non {C : Addr} {H : Hp} {v : V} (h : Rp C H (.d .non) v) : v = .non := h
theorem rp_tup {C : Addr} {H : Hp} {l : List D} {v : V} (h : Rp C H (.d (.tup l)) v) : ∃ a xs, v = .ref a ∧ H a = some (.tup xs) ∧ ImL H l xs := h
theorem rp_lst {C : Addr} {H : Hp} {l : List D} {v : V} (h : Rp C H (.lst l) v) : ∃ a xs, v = .ref a ∧ H a = some (.lst xs) ∧ ImL H l xs := h
theorem rp_d {C : Addr} {H : Hp} {x : D} {v : V} (h : Rp C H (.d x) v) : Im H x v := h
theorem dec_int (i j : Int) : decide (V.int i = V.int j) = decide (i = j) := decide_eq_decide.mpr ⟨fun h => by injection h, fun h => by rw [h]⟩
theorem dec_str (i j : Str) : decide (V.str i = V.str j) = decide (i = j) := decide_eq_decide.mpr ⟨fun h => by injection h, fun h => by rw [h]⟩

/-! ### what evaluates to what -/
abbrev Ev (C : Addr) (te : TE) (σ : L2.St) (H : Hp) (a : A) : Prop := EvP te σ H fun v H' => Rp C H' a v
abbrev EvA (C : Addr) (ta : TA) (σ : L2.St) (H : Hp) (as : List A) : Prop := ∀ H1, Same H H1 → ∀ Q : List V → Hp → Prop, (∀ vs H2, Same H1 H2 → RpL C H2 as vs → Q vs H2) → ta σ H1 Q
/-- an optional bound of a slice -/
abbrev EvO (to : TO) (σ : L2.St) (H : Hp) (o : Option Int) : Prop := ∀ H1, Same H H1 → ∀ Q : Option Int → Hp → Prop, (∀ H2, Same H1 H2 → Q o H2) → to σ H1 Q
section
variable {C : Addr} {K : PySem.W.Frag} {σ : L2.St} {H : Hp} {ta tb tc te : TE} {a b : A} {x y : D}
theorem ev_go {P : V → Hp → Prop} {Q : VK} (e : EvP te σ H P) (k : ∀ v H', Same H H' → P v H' → Q v H') : te σ H Q := e H (Same.refl H) Q k
theorem et_go {tt : TT} {b : Bool} {Q : Bool → Hp → Prop} (e : EvT tt σ H b) (k : ∀ H', Same H H' → Q b H') : tt σ H Q := e H (Same.refl H) Q k
theorem ea_go {ta : TA} {as : List A} {Q : List V → Hp → Prop} (e : EvA C ta σ H as) (k : ∀ vs H', Same H H' → RpL C H' as vs → Q vs H') : ta σ H Q := e H (Same.refl H) Q k
theorem ev_v {i : Nat} {v : V} (h : σ[i]? = some (some v)) (r : Rp C H a v) : Ev C (tVar i) σ H a := fun H1 s Q q => ⟨v, h, q v H1 (Same.refl H1) (r.mono s)⟩
theorem ev_c {v : V} (r : ∀ H, Rp C H a v) : Ev C (tC v) σ H a := fun H1 _ Q q => q v H1 (Same.refl H1) (r H1)
theorem ev_int {i : Int} : Ev C (tC (.int i)) σ H (.d (.int i)) := ev_c fun _ => rfl
theorem ev_str {z : Str} : Ev C (tC (.str z)) σ H (.d (.str z)) := ev_c fun _ => rfl
theorem ev_bl {z : Bool} : Ev C (tC (.bl z)) σ H (.d (.bl z)) := ev_c fun _ => rfl
theorem ev_non : Ev C (tC .non) σ H (.d .non) := ev_c fun _ => rfl
theorem ea_nil : EvA C tNil σ H [] := fun H1 _ Q q => q [] H1 (Same.refl H1) rfl
theorem ea_cons {tr : TA} {as : List A} (e : Ev C te σ H a) (r : EvA C tr σ H as) : EvA C (tCons te tr) σ H (a :: as) := fun H1 s Q q =>
  e H1 s _ fun v H2 s2 h => r H2 (s.trans s2) _ fun vs H3 s3 h2 => q (v :: vs) H3 (s2.trans s3) (rpl_cons (h.mono s3) h2)
theorem ea_one (e : Ev C te σ H a) : EvA C (tCons te tNil) σ H [a] := ea_cons e ea_nil
theorem ev_I0 {g : Int → Int → V} {i j : Int} (ea : Ev C ta σ H (.d (.int i))) (eb : Ev C tb σ H (.d (.int j))) (h : ∀ H, Rp C H a (g i j)) : Ev C (tOp (rI0 g) ta tb) σ H a := fun H1 s Q q =>
  ea H1 s _ fun v H2 s2 h1 => eb H2 (s.trans s2) _ fun w H3 s3 h2 => ⟨i, j, rp_int h1, rp_int h2, q _ H3 (s2.trans s3) (h H3)⟩
theorem ev_I {Cd : Int → Int → Prop} {g : Int → Int → V} {i j : Int} (ea : Ev C ta σ H (.d (.int i))) (eb : Ev C tb σ H (.d (.int j))) (hc : Cd i j) (h : ∀ H, Rp C H a (g i j)) : Ev C (tOp (rI Cd g) ta tb) σ H a := fun H1 s Q q =>
  ea H1 s _ fun v H2 s2 h1 => eb H2 (s.trans s2) _ fun w H3 s3 h2 => ⟨i, j, rp_int h1, rp_int h2, hc, q _ H3 (s2.trans s3) (h H3)⟩
theorem ev_isN (ea : Ev C ta σ H (.d x)) (eb : Ev C tb σ H (.d .non)) {b : Bool} (hb : ∀ (H : Hp) v, Im H x v → decide (v = .non) = b) :
    Ev C (tOp (fun x y H Q => y = .non ∧ Q (.bl (decide (x = .non))) H) ta tb) σ H (.d (.bl b)) := fun H1 s Q q =>
  ea H1 s _ fun v H2 s2 h1 => eb H2 (s.trans s2) _ fun w H3 s3 h2 => ⟨rp_non h2, q _ H3 (s2.trans s3) (by rw [hb H2 v (rp_d h1)]; exact rfl)⟩
theorem ev_notN (ea : Ev C ta σ H (.d x)) (eb : Ev C tb σ H (.d .non)) {b : Bool} (hb : ∀ (H : Hp) v, Im H x v → decide (v = .non) = b) :
    Ev C (tOp (fun x y H Q => y = .non ∧ Q (.bl (!decide (x = .non))) H) ta tb) σ H (.d (.bl (!b))) := fun H1 s Q q =>
  ea H1 s _ fun v H2 s2 h1 => eb H2 (s.trans s2) _ fun w H3 s3 h2 => ⟨rp_non h2, q _ H3 (s2.trans s3) (by rw [hb H2 v (rp_d h1)]; exact rfl)⟩
theorem isN_O (o : Option Nat) (H : Hp) (v : V) (h : Im H (dO o) v) : decide (v = .non) = o.isNone := by
  cases o with
  | none => rw [im_non h] <;> rfl
  | some j => rw [im_int h] <;> rfl
theorem isN_tup (l : List D) (H : Hp) (v : V) (h : Im H (.tup l) v) : decide (v = .non) = false := by
  obtain ⟨_, _, e, _⟩ := im_tup h
  rw [e] <;> rfl
theorem isN_str (l : Str) (H : Hp) (v : V) (h : Im H (.str l) v) : decide (v = .non) = false := by rw [im_str h] <;> rfl
theorem ev_eqZ {i j : Int} (ea : Ev C ta σ H (.d (.int i))) (eb : Ev C tb σ H (.d (.int j))) : Ev C (tOp rEq ta tb) σ H (.d (.bl (decide (i = j)))) := fun H1 s Q q =>
  ea H1 s _ fun v H2 s2 h1 => eb H2 (s.trans s2) _ fun w H3 s3 h2 => by
    rw [rp_int h1, rp_int h2]
    exact ⟨rfl, q _ H3 (s2.trans s3) (by (first | rw [dec_int] | rw [dec_str]); exact rfl)⟩
theorem ev_neZ {i j : Int} (ea : Ev C ta σ H (.d (.int i))) (eb : Ev C tb σ H (.d (.int j))) : Ev C (tOp rNe ta tb) σ H (.d (.bl (!decide (i = j)))) := fun H1 s Q q =>
  ea H1 s _ fun v H2 s2 h1 => eb H2 (s.trans s2) _ fun w H3 s3 h2 => by
    rw [rp_int h1, rp_int h2]
    exact ⟨rfl, q _ H3 (s2.trans s3) (by (first | rw [dec_int] | rw [dec_str]); exact rfl)⟩
theorem ev_eqS {i j : Str} (ea : Ev C ta σ H (.d (.str i))) (eb : Ev C tb σ H (.d (.str j))) : Ev C (tOp rEq ta tb) σ H (.d (.bl (decide (i = j)))) := fun H1 s Q q =>
  ea H1 s _ fun v H2 s2 h1 => eb H2 (s.trans s2) _ fun w H3 s3 h2 => by
    rw [rp_str h1, rp_str h2]
    exact ⟨rfl, q _ H3 (s2.trans s3) (by (first | rw [dec_int] | rw [dec_str]); exact rfl)⟩
theorem ev_neS {i j : Str} (ea : Ev C ta σ H (.d (.str i))) (eb : Ev C tb σ H (.d (.str j))) : Ev C (tOp rNe ta tb) σ H (.d (.bl (!decide (i = j)))) := fun H1 s Q q =>
  ea H1 s _ fun v H2 s2 h1 => eb H2 (s.trans s2) _ fun w H3 s3 h2 => by
    rw [rp_str h1, rp_str h2]
    exact ⟨rfl, q _ H3 (s2.trans s3) (by (first | rw [dec_int] | rw [dec_str]); exact rfl)⟩
theorem ev_ltS {i j : Str} (ea : Ev C ta σ H (.d (.str i))) (eb : Ev C tb σ H (.d (.str j))) : Ev C (tOp (fun x y H Q => ∃ i j, x = .str i ∧ y = .str j ∧ Q (.bl (decide (i.cps.toList < j.cps.toList))) H) ta tb) σ H (.d (.bl (decide (i.cps.toList < j.cps.toList)))) := fun H1 s Q q =>
  ea H1 s _ fun v H2 s2 h1 => eb H2 (s.trans s2) _ fun w H3 s3 h2 => ⟨i, j, rp_str h1, rp_str h2, q _ H3 (s2.trans s3) rfl⟩
/-- == and != of data -/
theorem ev_eqD (ea : Ev C ta σ H (.d x)) (eb : Ev C tb σ H (.d y)) (sx : SeqAt.shaped x.py = true) (sy : SeqAt.shaped y.py = true) {b : Bool} (hb : PyData.eqv x.py y.py = b) : Ev C (tOp (rEqD K) ta tb) σ H (.d (.bl b)) := fun H1 s Q q =>
  ea H1 s _ fun v H2 s2 h1 => eb H2 (s.trans s2) _ fun w H3 s3 h2 => ⟨_, _, Im.dp x v (Im.mono (rp_d h1) s3), Im.dp y w (rp_d h2), sx, sy, q _ H3 (s2.trans s3) (by rw [hb]; exact rfl)⟩
theorem ev_neD (ea : Ev C ta σ H (.d x)) (eb : Ev C tb σ H (.d y)) (sx : SeqAt.shaped x.py = true) (sy : SeqAt.shaped y.py = true) {b : Bool} (hb : PyData.eqv x.py y.py = b) : Ev C (tOp (rNeD K) ta tb) σ H (.d (.bl (!b))) := fun H1 s Q q =>
  ea H1 s _ fun v H2 s2 h1 => eb H2 (s.trans s2) _ fun w H3 s3 h2 => ⟨_, _, Im.dp x v (Im.mono (rp_d h1) s3), Im.dp y w (rp_d h2), sx, sy, q _ H3 (s2.trans s3) (by rw [hb]; exact rfl)⟩
/-- .. of lists -/
theorem ev_eqL {l m : List D} (ea : Ev C ta σ H (.lst l)) (eb : Ev C tb σ H (.lst m)) (sx : SeqAt.shaped (.list (pyL l)) = true) (sy : SeqAt.shaped (.list (pyL m)) = true) {b : Bool} (hb : PyData.eqv (.list (pyL l)) (.list (pyL m)) = b) : Ev C (tOp (rEqD K) ta tb) σ H (.d (.bl b)) := fun H1 s Q q =>
  ea H1 s _ fun v H2 s2 h1 => eb H2 (s.trans s2) _ fun w H3 s3 h2 => by
    obtain ⟨p, vs, e, e1, e2⟩ := rp_lst h1
    obtain ⟨r, ws, f, f1, f2⟩ := rp_lst h2
    subst e
    subst f
    exact ⟨_, _, .lst (SqL.of (s3 _ _ e1)) (ImL.dp l vs (e2.mono s3)), .lst (SqL.of f1) (ImL.dp m ws f2), sx, sy, q _ H3 (s2.trans s3) (by rw [hb]; exact rfl)⟩
theorem ev_neL {l m : List D} (ea : Ev C ta σ H (.lst l)) (eb : Ev C tb σ H (.lst m)) (sx : SeqAt.shaped (.list (pyL l)) = true) (sy : SeqAt.shaped (.list (pyL m)) = true) {b : Bool} (hb : PyData.eqv (.list (pyL l)) (.list (pyL m)) = b) : Ev C (tOp (rNeD K) ta tb) σ H (.d (.bl (!b))) := fun H1 s Q q =>
  ea H1 s _ fun v H2 s2 h1 => eb H2 (s.trans s2) _ fun w H3 s3 h2 => by
    obtain ⟨p, vs, e, e1, e2⟩ := rp_lst h1
    obtain ⟨r, ws, f, f1, f2⟩ := rp_lst h2
    subst e
    subst f
    exact ⟨_, _, .lst (SqL.of (s3 _ _ e1)) (ImL.dp l vs (e2.mono s3)), .lst (SqL.of f1) (ImL.dp m ws f2), sx, sy, q _ H3 (s2.trans s3) (by rw [hb]; exact rfl)⟩
theorem ev_and {b c : Bool} (ea : Ev C ta σ H (.d (.bl b))) (eb : b = true → Ev C tb σ H (.d (.bl c))) : Ev C (tAndV ta tb) σ H (.d (.bl (b && c))) := fun H1 s Q q =>
  ea H1 s _ fun v H2 s2 h1 => ⟨b, rp_bl h1, by
    cases b with
    | false => exact q _ H2 s2 rfl
    | true => exact eb rfl H2 (s.trans s2) _ fun w H3 s3 h2 => q w H3 (s2.trans s3) h2⟩
theorem ev_or {b c : Bool} (ea : Ev C ta σ H (.d (.bl b))) (eb : b = false → Ev C tb σ H (.d (.bl c))) : Ev C (tOrV ta tb) σ H (.d (.bl (b || c))) := fun H1 s Q q =>
  ea H1 s _ fun v H2 s2 h1 => ⟨b, rp_bl h1, by
    cases b with
    | true => exact q _ H2 s2 rfl
    | false => exact eb rfl H2 (s.trans s2) _ fun w H3 s3 h2 => q w H3 (s2.trans s3) h2⟩
theorem ev_not {b : Bool} (ea : Ev C ta σ H (.d (.bl b))) : Ev C (tNotV ta) σ H (.d (.bl (!b))) := fun H1 s Q q => ea H1 s _ fun v H2 s2 h1 => ⟨b, rp_bl h1, q _ H2 s2 rfl⟩
theorem ev_chainI {i j k : Int} {p p' : Int → Int → Bool} (ea : Ev C ta σ H (.d (.int i))) (eb : Ev C tb σ H (.d (.int j))) (ec : Ev C tc σ H (.d (.int k))) :
    Ev C (tChain (rI0 fun i j => .bl (p i j)) (rI0 fun i j => .bl (p' i j)) ta tb tc) σ H (.d (.bl (p i j && p' j k))) := fun H1 s Q q =>
  ea H1 s _ fun v H2 s2 h1 => eb H2 (s.trans s2) _ fun w H3 s3 h2 => ⟨i, j, rp_int h1, rp_int h2, p i j, rfl, by
    cases hp : p i j with
    | false => exact q _ H3 (s2.trans s3) (by rw [hp]; exact rfl)
    | true => exact ec H3 (s.trans (s2.trans s3)) _ fun u H4 s4 h3 => ⟨j, k, rp_int h2, rp_int h3, q _ H4 (s2.trans (s3.trans s4)) (by rw [hp]; exact rfl)⟩⟩
theorem ev_if {tt : TT} {b : Bool} (ec : EvT tt σ H b) {a : A} (e1 : b = true → Ev C ta σ H a) (e2 : b = false → Ev C tb σ H a) : Ev C (tIf tt ta tb) σ H a := fun H1 s Q q =>
  ec H1 s _ fun H2 s2 => by
    cases b with
    | true => exact e1 rfl H2 (s.trans s2) _ fun w H3 s3 h2 => q w H3 (s2.trans s3) h2
    | false => exact e2 rfl H2 (s.trans s2) _ fun w H3 s3 h2 => q w H3 (s2.trans s3) h2
/-- tests -/
theorem et_test {b : Bool} (e : Ev C te σ H (.d (.bl b))) : EvT (tTest te) σ H b := fun H1 s Q q => e H1 s _ fun v H2 s2 h => ⟨b, rp_bl h, q H2 s2⟩
theorem et_val {b : Bool} (e : Ev C te σ H (.d (.bl b))) : EvT (tB te) σ H b := fun H1 s Q q => e H1 s _ fun v H2 s2 h => ⟨b, rp_bl h, q H2 s2⟩
theorem et_not {tt : TT} {b : Bool} (e : EvT tt σ H b) : EvT (tNot tt) σ H (!b) := fun H1 s Q q => e H1 s _ fun H2 s2 => q H2 s2
theorem et_and {tt tu : TT} {b c : Bool} (ea : EvT tt σ H b) (eb : b = true → EvT tu σ H c) : EvT (tAnd tt tu) σ H (b && c) := fun H1 s Q q =>
  ea H1 s _ fun H2 s2 => by
    cases b with
    | false => exact q H2 s2
    | true => exact eb rfl H2 (s.trans s2) _ fun H3 s3 => q H3 (s2.trans s3)
theorem et_or {tt tu : TT} {b c : Bool} (ea : EvT tt σ H b) (eb : b = false → EvT tu σ H c) : EvT (tOr tt tu) σ H (b || c) := fun H1 s Q q =>
  ea H1 s _ fun H2 s2 => by
    cases b with
    | true => exact q H2 s2
    | false => exact eb rfl H2 (s.trans s2) _ fun H3 s3 => q H3 (s2.trans s3)
/-- new tuples, lists -/
theorem ev_tup {t : TA} {ds : List D} (e : EvA C t σ H (ds.map .d)) (hl : ds.length ≤ 1000) : Ev C (tTup t) σ H (.d (.tup ds)) := fun H1 s Q q =>
  e H1 s _ fun vs H2 s2 h => ⟨by rw [h.len, List.length_map, sizeLine_eq]; omega, fun p hp => q _ _ (s2.trans (same_new hp _)) (im_new ((RpL.ds h).mono (same_new hp _)) upd_same)⟩
theorem ev_lst {t : TA} {ds : List D} (e : EvA C t σ H (ds.map .d)) (hl : ds.length ≤ 1000) : Ev C (tLst t) σ H (.lst ds) := fun H1 s Q q =>
  e H1 s _ fun vs H2 s2 h => ⟨by rw [h.len, List.length_map, sizeLine_eq]; omega, fun p hp => q _ _ (s2.trans (same_new hp _)) ⟨p, vs, rfl, upd_same, (RpL.ds h).mono (same_new hp _)⟩⟩
theorem ev_ixT {l : List D} {i : Nat} (ea : Ev C ta σ H (.d (.tup l))) (eb : Ev C tb σ H (.d (.int (i : Nat)))) (h : l[i]? = some x) : Ev C (tOp (rIxT K) ta tb) σ H (.d x) := fun H1 s Q q =>
  ea H1 s _ fun v H2 s2 h1 => eb H2 (s.trans s2) _ fun w H3 s3 h2 => by
    obtain ⟨p, vs, e, e1, e2⟩ := rp_tup (Rp.mono h1 s3)
    obtain ⟨u, hu, hd⟩ := e2.get h
    exact ⟨p, vs, _, u, e, rp_int h2, SqT.of e1, atI_nat hu, q u H3 (s2.trans s3) hd⟩
theorem ev_ixL {l : List D} {i : Nat} (ea : Ev C ta σ H (.lst l)) (eb : Ev C tb σ H (.d (.int (i : Nat)))) (h : l[i]? = some x) : Ev C (tOp (rIxL K) ta tb) σ H (.d x) := fun H1 s Q q =>
  ea H1 s _ fun v H2 s2 h1 => eb H2 (s.trans s2) _ fun w H3 s3 h2 => by
    obtain ⟨p, vs, e, e1, e2⟩ := rp_lst h1
    obtain ⟨u, hu, hd⟩ := (e2.mono s3).get h
    exact ⟨p, vs, _, u, e, rp_int h2, SqL.of (s3 _ _ e1), atI_nat hu, q u H3 (s2.trans s3) hd⟩
/-- calls of built-ins, by their readings -/
abbrev EvR (C : Addr) (r : List V → Hp → VK → Prop) (as : List A) (b : A) : Prop := ∀ vs H Q, RpL C H as vs → (∀ v H', Same H H' → Rp C H' b v → Q v H') → r vs H Q
theorem er_len_tup {l : List D} : EvR C (fun xs H Q => ∃ p ys, xs = [.ref p] ∧ (SqL K H p ys ∨ SqT K H p ys) ∧ Q (.int ys.length) H) [.d (.tup l)] (.d (.int (l.length : Nat))) := fun vs H Q h q => by
  obtain ⟨v, e, hv⟩ := h.one
  obtain ⟨p, xs, e1, e2, e3⟩ := rp_tup hv
  subst e
  subst e1
  exact ⟨p, xs, rfl, .inr (SqT.of e2), q _ H (Same.refl H) (by rw [e3.len]; exact rfl)⟩
theorem er_len_lst {l : List D} : EvR C (fun xs H Q => ∃ p ys, xs = [.ref p] ∧ (SqL K H p ys ∨ SqT K H p ys) ∧ Q (.int ys.length) H) [.lst l] (.d (.int (l.length : Nat))) := fun vs H Q h q => by
  obtain ⟨v, e, hv⟩ := h.one
  obtain ⟨p, xs, e1, e2, e3⟩ := rp_lst hv
  subst e
  subst e1
  exact ⟨p, xs, rfl, .inl (SqL.of e2), q _ H (Same.refl H) (by rw [e3.len]; exact rfl)⟩
theorem er_len_str {z : Str} (hz : z.length ≤ 1000) : EvR C (fun xs H Q => ∃ z, xs = [.str z] ∧ z.length ≤ sizeLine ∧ Q (.int z.length) H) [.d (.str z)] (.d (.int (z.length : Nat))) := fun vs H Q h q => by
  obtain ⟨v, e, hv⟩ := h.one
  subst e
  exact ⟨z, by rw [rp_str hv], by rw [sizeLine_eq]; omega, q _ H (Same.refl H) rfl⟩
theorem er_all {l : List Bool} : EvR C (rAll K) [.lst (l.map .bl)] (.d (.bl (l.all id))) := fun vs H Q h q => by
  obtain ⟨v, e, hv⟩ := h.one
  obtain ⟨p, xs, e1, e2, e3⟩ := rp_lst hv
  subst e
  subst e1
  have e4 : xs = l.map V.bl := iml_flat (fun a v h => im_bl h) e3
  exact ⟨p, l, rfl, by rw [← e4]; exact SqL.of e2, q _ H (Same.refl H) rfl⟩
theorem er_tuple {l : List D} : EvR C (fun xs H Q => ∃ p ys, xs = [.ref p] ∧ ((SqL K H p ys ∧ ∀ l, H l = none → Q (.ref l) (upd H l (.tup ys))) ∨ (SqT K H p ys ∧ Q (.ref p) H))) [.lst l] (.d (.tup l)) := fun vs H Q h q => by
  obtain ⟨v, e, hv⟩ := h.one
  obtain ⟨p, xs, e1, e2, e3⟩ := rp_lst hv
  subst e
  subst e1
  exact ⟨p, xs, rfl, .inl ⟨SqL.of e2, fun l hl => q _ _ (same_new hl _) (im_new (e3.mono (same_new hl _)) upd_same)⟩⟩
theorem er_isi {a : D} {n m : String} {b : Bool} (ha : ∀ H v, Im H a v → TyX K H v (.type n)) (hk : kitB n m = some b) {te : TE} (e : Ev C te σ H (.d a)) : Ev C (fun σ H Q => tCons te (tCons (tC (.ty m)) tNil) σ H fun xs H1 => rIsi K xs H1 Q) σ H (.d (.bl b)) := fun H1 s Q q =>
  e H1 s _ fun v H2 s2 h => ⟨v, .ty m, _, _, b, rfl, .ty m, ha H2 v (rp_d h), kit_ty hk, q _ H2 s2 rfl⟩
theorem tx_int (i : Int) (H : Hp) (v : V) (h : Im H (.int i) v) : TyX K H v (.type "int") := by
  rw [im_int h]
  exact .base (.int i)
theorem tx_bl (i : Bool) (H : Hp) (v : V) (h : Im H (.bl i) v) : TyX K H v (.type "bool") := by
  rw [im_bl h]
  exact .base (.bl i)
theorem tx_str (i : Str) (H : Hp) (v : V) (h : Im H (.str i) v) : TyX K H v (.type "str") := by
  rw [im_str h]
  exact .base (.str i)
theorem tx_tup (l : List D) (H : Hp) (v : V) (h : Im H (.tup l) v) : TyX K H v (.type "tuple") := by
  obtain ⟨p, xs, e, e2, _⟩ := im_tup h
  rw [e]
  exact .base (.tup e2)
/-- a promise by data -/
def SpD (C : Addr) (R : List A → A → Prop) : Sp := fun vs H Q _ => ∃ as r, RpL C H as vs ∧ R as r ∧ ∀ v H', Same H H' → Rp C H' r v → Q v H'
theorem ev_call {R : List A → A → Prop} {as : List A} {r : A} {t : TA} {E : XK} (e : EvA C t σ H as) (hR : R as r) : Ev C (tCall (SpD C R) [] E t) σ H r := fun H1 s Q q =>
  e H1 s _ fun vs H2 s2 h => ⟨as, r, by rw [List.append_nil]; exact h, hR, fun v H' s3 hv => q v H' (s2.trans s3) hv⟩
end
end Bf

/-! Ev2: walks by data, comprehensions, loops; dicts, slices, properties. -/
namespace Bf
open PySem L2 Bx

/-- a walk over data -/
abbrev WkD (J : It) (G : Hp → Prop) (items : List D) : Prop := Walk J items.length G fun i H x H' => Same H H' ∧ ∃ d, items[i]? = some d ∧ Im H' d x
abbrev EvIt (wi : TI) (σ : L2.St) (H : Hp) (items : List D) : Prop := ∀ H1, Same H H1 → ∀ R : It → Hp → Prop, (∀ J H2, Same H1 H2 → WkD J (Tx H2) items → R J H2) → wi σ H1 R
abbrev EvIs (wi : TI) (σ : L2.St) (H : Hp) (items : List D) : Prop := ∀ H1, Same H H1 → ∀ R : It → Hp → Prop, (∀ J H2, Same H1 H2 → WkD J (Same H2) items → R J H2) → wi σ H1 R
section
variable {C : Addr} {K : PySem.W.Frag} {σ : L2.St} {H : Hp} {ta tb tc te : TE} {t : TA} {a b : A} {x y : D}
theorem EvIt.s {wi : TI} {items : List D} (e : EvIt wi σ H items) : EvIs wi σ H items := fun H1 s R q => e H1 s R fun J H2 s2 w => q J H2 s2 (w.mono (fun _ h => Same.tx h) fun _ _ _ _ _ _ y => y)
theorem it_tup {l : List D} (e : Ev C te σ H (.d (.tup l))) : EvIt (iTup K te) σ H l := fun H1 s R q => e H1 s _ fun v H2 s2 h => by
  obtain ⟨p, xs, e1, e2, e3⟩ := rp_tup h
  refine ⟨p, e1, ⟨xs, SqT.of e2⟩, q _ H2 s2 ?_⟩
  have w := walk_tup (K := K) (a := p) (xs := xs)
  rw [e3.len] at w
  exact w.mono (fun H' tx => SqT.of (tx _ _ e2)) fun i H' x H'' hi tx y => by
    obtain ⟨y1, y2⟩ := y
    rw [y1]
    obtain ⟨d, h1, h2⟩ := (e3.tx tx).at y2
    exact ⟨Same.refl _, d, h1, h2⟩
theorem it_list {l : List D} (e : Ev C te σ H (.lst l)) : EvIs (iList K te) σ H l := fun H1 s R q => e H1 s _ fun v H2 s2 h => by
  obtain ⟨p, xs, e1, e2, e3⟩ := rp_lst h
  refine ⟨p, e1, ⟨xs, SqL.of e2⟩, q _ H2 s2 ?_⟩
  have w := walk_list (K := K) (a := p) (xs := xs)
  rw [e3.len] at w
  exact w.mono (fun H' tx => SqL.of (tx _ _ e2)) fun i H' x H'' hi tx y => by
    obtain ⟨y1, y2⟩ := y
    rw [y1]
    obtain ⟨d, h1, h2⟩ := (e3.mono tx).at y2
    exact ⟨Same.refl _, d, h1, h2⟩
theorem walk_zipT {a b : Addr} {xs ys : List V} {n : Nat} (hn : n = min xs.length ys.length) : Walk (RZ.ItzT K a b) n (fun H => SqT K H a xs ∧ SqT K H b ys) (YPair (fun i => xs[i]?) (fun i => ys[i]?)) := by
  subst hn
  refine ⟨fun i _ hi q => ?_, fun _ q => ⟨xs, ys, q.1, q.2, by omega⟩, fun i H v H' _ q y => ?_⟩
  · have h1 : i < xs.length := by omega
    have h2 : i < ys.length := by omega
    exact ⟨xs, ys, xs[i], ys[i], q.1, q.2, by simp [h1], by simp [h2]⟩
  · obtain ⟨T, x, z, h1, h2, h3, h4, h5⟩ := y
    exact ⟨T, x, z, h1, h2, h3, h4 xs q.1, h5 ys q.2⟩
theorem pair_im {H H' : Hp} {T : Addr} {x y : V} {d e : D} (hT : H T = none) (h1 : Im H d x) (h2 : Im H e y) (e' : H' = upd H T (.tup [x, y])) : Same H H' ∧ Im H' (.tup [d, e]) (.ref T) := by
  subst e'
  exact ⟨same_new hT _, im_new (iml_cons (h1.mono (same_new hT _)) (iml_cons (h2.mono (same_new hT _)) iml_nil)) upd_same⟩
abbrev zipD (l m : List D) : List D := List.zipWith (fun a b => .tup [a, b]) l m
theorem it_zip {l m : List D} (e : EvA C t σ H [.d (.tup l), .d (.tup m)]) : EvIt (RZ.iZipA K t) σ H (zipD l m) := fun H1 s R q => e H1 s _ fun vs H2 s2 h => by
  obtain ⟨v, w, ev, hv, hw⟩ := h.two
  obtain ⟨p, xs, e1, e2, e3⟩ := rp_tup hv
  obtain ⟨r, ys, f1, f2, f3⟩ := rp_tup hw
  subst e1
  subst f1
  refine ⟨p, r, xs, ys, ev, .inr ⟨SqT.of e2, SqT.of f2, q _ H2 s2 ?_⟩⟩
  refine (walk_zipT (by rw [List.length_zipWith, e3.len, f3.len])).mono (fun H' tx => ⟨SqT.of (tx _ _ e2), SqT.of (tx _ _ f2)⟩) fun i H' x H'' hi tx y => ?_
  obtain ⟨T, x1, x2, g1, g2, g3, g4, g5⟩ := y
  obtain ⟨d1, h1, i1⟩ := (e3.tx tx).at g4
  obtain ⟨d2, h2, i2⟩ := (f3.tx tx).at g5
  obtain ⟨sm, im⟩ := pair_im g2 i1 i2 g3
  subst g1
  exact ⟨sm, _, by rw [List.getElem?_zipWith, h1, h2], im⟩
abbrev enumD (l : List D) : List D := l.mapIdx fun i d => .tup [.int (i : Nat), d]
theorem it_enumT {l : List D} (e : EvA C t σ H [.d (.tup l)]) : EvIt (Rx.iEnumT K t) σ H (enumD l) := fun H1 s R q => e H1 s _ fun vs H2 s2 h => by
  obtain ⟨v, ev, hv⟩ := h.one
  obtain ⟨p, xs, e1, e2, e3⟩ := rp_tup hv
  subst e1
  refine ⟨p, xs, ev, SqT.of e2, q _ H2 s2 ?_⟩
  have w := Rx.walk_enumT (K := K) (a := p) (xs := xs)
  rw [e3.len] at w
  rw [show l.length = (enumD l).length by rw [List.length_mapIdx]] at w
  refine w.mono (fun H' tx => SqT.of (tx _ _ e2)) fun i H' x H'' hi tx y => ?_
  obtain ⟨T, x1, x2, g1, g2, g3, g4, g5⟩ := y
  obtain ⟨d2, h2, i2⟩ := (e3.tx tx).at g5
  have ex : x1 = V.int (i : Nat) := (Option.some.inj g4).symm
  obtain ⟨sm, im⟩ := pair_im (d := .int (i : Nat)) g2 ex i2 g3
  subst g1
  exact ⟨sm, _, by rw [List.getElem?_mapIdx, h2] <;> rfl, im⟩
theorem it_enum {l : List D} (e : EvA C t σ H [.lst l]) : EvIs (iEnum K t) σ H (enumD l) := fun H1 s R q => e H1 s _ fun vs H2 s2 h => by
  obtain ⟨v, ev, hv⟩ := h.one
  obtain ⟨p, xs, e1, e2, e3⟩ := rp_lst hv
  subst e1
  refine ⟨p, xs, ev, SqL.of e2, q _ H2 s2 ?_⟩
  have w := walk_enum (K := K) (a := p) (xs := xs)
  rw [e3.len] at w
  rw [show l.length = (enumD l).length by rw [List.length_mapIdx]] at w
  refine w.mono (fun H' tx => SqL.of (tx _ _ e2)) fun i H' x H'' hi tx y => ?_
  obtain ⟨T, x1, x2, g1, g2, g3, g4, g5⟩ := y
  obtain ⟨d2, h2, i2⟩ := (e3.mono tx).at g5
  have ex : x1 = V.int (i : Nat) := (Option.some.inj g4).symm
  obtain ⟨sm, im⟩ := pair_im (d := .int (i : Nat)) g2 ex i2 g3
  subst g1
  exact ⟨sm, _, by rw [List.getElem?_mapIdx, h2] <;> rfl, im⟩
abbrev rangeD (n : Nat) : List D := (List.range n).map fun i => .int (i : Nat)
theorem it_range {n : Nat} (e : EvA C t σ H [.d (.int (n : Nat))]) (hn : n < 1000000) : EvIt (iRng1 t) σ H (rangeD n) := fun H1 s R q => e H1 s _ fun vs H2 s2 h => by
  obtain ⟨v, ev, hv⟩ := h.one
  refine ⟨(n : Nat), by rw [ev, rp_int hv], by omega, by omega, q _ H2 s2 ?_⟩
  have w := walk_range (lo := 0) (n := ((n : Nat) : Int).toNat)
  rw [Int.toNat_natCast] at w ⊢
  unfold WkD
  rw [List.length_map, List.length_range]
  refine w.mono (fun _ _ => True.intro) fun i H' x H'' hi tx y => ?_
  obtain ⟨y1, y2⟩ := y
  subst y1
  subst y2
  exact ⟨Same.refl _, .int (i : Nat), by rw [List.getElem?_map, List.getElem?_range hi] <;> rfl, by show V.int (0 + (i : Int)) = V.int (i : Int); rw [Int.zero_add]⟩
theorem it_str {z : Str} (e : Ev C te σ H (.d (.str z))) : EvIt (iStr te) σ H (z.cps.toList.map fun c => .str ⟨#[c]⟩) := fun H1 s R q => e H1 s _ fun v H2 s2 h => by
  refine ⟨z, rp_str h, q _ H2 s2 ?_⟩
  have w := walk_str (z := z)
  unfold WkD
  rw [List.length_map, Array.length_toList]
  refine w.mono (fun _ _ => True.intro) fun i H' x H'' hi tx y => ?_
  obtain ⟨y1, c, y2, y3⟩ := y
  subst y1
  exact ⟨Same.refl _, .str ⟨#[c]⟩, by rw [List.getElem?_map, Array.getElem?_toList, y2] <;> rfl, y3⟩

/-- one turn of a comprehension -/
def Turn1 (C : Addr) (g : TG) (tt : TT) (te : TE) (vs : List Nat) (σ : L2.St) (f : D → Option D) (d : D) (x : V) (H' : Hp) : Prop :=
  ∃ σ2, (∀ Kc : L2.St → Hp → Prop, Kc σ2 H' → g x (wipe σ vs) H' Kc) ∧ wipe σ2 vs = wipe σ vs ∧ EvT tt σ2 H' (f d).isSome ∧ ∀ e, f d = some e → Ev C te σ2 H' (.d e)
theorem ev_lc {wi : TI} {g : TG} {tt : TT} {vs : List Nat} {items : List D} (it : EvIs wi σ H items) (f : D → Option D) (hn : items.length ≤ 1000)
    (hs : ∀ (i : Nat) (d : D) (x : V) (H' : Hp), items[i]? = some d → Same H H' → Im H' d x → Turn1 C g tt te vs σ f d x H') : Ev C (tLc wi g tt te vs) σ H (.lst (items.filterMap f)) := fun H1 s Q q =>
  it H1 s _ fun J H2 s2 w Dl hD => by
    refine lcI w hD (fun _ h => h) (by omega) (fun i => (items[i]?).bind f) (fun i x H3 H4 hi s3 y => ?_) (fun H3 xs s3 h1 h2 => ?_)
    · obtain ⟨s4, d, hd, im⟩ := y
      refine ⟨s4, fun Kc k => ?_⟩
      obtain ⟨σ2, k1, k2, k3, k4⟩ := hs i d x H4 hd (s.trans (s2.trans (s3.trans s4))) im
      refine k1 Kc (k σ2 H4 (Same.refl _) k2 ?_)
      rw [hd]
      exact ⟨k3, k4⟩
    · have e : given (fun i => (items[i]?).bind f) items.length = items.filterMap f := given_list items f _ fun i x h => by rw [h] <;> rfl
      rw [e] at h2
      exact q _ H3 (s2.trans s3) ⟨Dl, xs, rfl, h1, h2⟩
/-- .. without a test, every item gives -/
theorem ev_lcm {wi : TI} {g : TG} {vs : List Nat} {items : List D} (it : EvIs wi σ H items) (f : D → D) (hn : items.length ≤ 1000)
    (hs : ∀ (i : Nat) (d : D) (x : V) (H' : Hp), items[i]? = some d → Same H H' → Im H' d x → ∃ σ2, (∀ Kc : L2.St → Hp → Prop, Kc σ2 H' → g x (wipe σ vs) H' Kc) ∧ wipe σ2 vs = wipe σ vs ∧ Ev C te σ2 H' (.d (f d))) : Ev C (tLc wi g tYes te vs) σ H (.lst (items.map f)) := by
  have e := ev_lc (C := C) (te := te) (tt := tYes) (g := g) (vs := vs) it (fun d => some (f d)) hn fun i d x H' h1 h2 h3 => by
    obtain ⟨σ2, k1, k2, k3⟩ := hs i d x H' h1 h2 h3
    exact ⟨σ2, k1, k2, evt_yes, fun e he => by cases he; exact k3⟩
  rw [List.filterMap_eq_map'] at e
  exact e
theorem g_pair {n m : Nat} {d e : D} {H' : Hp} {v : V} (h : Im H' (.tup [d, e]) v) : ∃ x y, Im H' d x ∧ Im H' e y ∧ ∀ (σ : L2.St) (Kc : L2.St → Hp → Prop), Kc ((σ.set n (some x)).set m (some y)) H' → gTup K 2 (gCons (gName n) (gCons (gName m) gNil)) v σ H' Kc := by
  obtain ⟨p, xs, e1, e2, e3⟩ := im_tup h
  obtain ⟨x, r, f1, f2, f3⟩ := iml_cons_inv e3
  obtain ⟨y, r2, g1, g2, g3⟩ := iml_cons_inv f3
  have g4 := iml_nil_inv g3
  subst g4
  subst g1
  subst f1
  exact ⟨x, y, f2, g2, fun σ Kc k => ⟨p, _, e1, SqT.of e2, rfl, x, _, rfl, y, _, rfl, rfl, k⟩⟩
/-- a for over a walk by data -/
theorem for_d {J : It} {G : Hp → Prop} {items : List D} (w : WkD J G items) {g : TG} {tb : TS} {Dn : Ends} {σ : L2.St} {H : Hp} (Pv : Nat → L2.St → Hp → Prop) (h0 : Pv 0 σ H) (hG : ∀ i σ H, Pv i σ H → G H)
    (hs : ∀ (i : Nat) (d : D) (x : V) (σ : L2.St) (H H' : Hp), items[i]? = some d → Pv i σ H → Same H H' → Im H' d x → g x σ H' fun σ2 H2 => tb { Dn with nx := Pv (i + 1), ct := Pv (i + 1), bk := Dn.nx } σ2 H2) (hd : ∀ σ H, Pv items.length σ H → Dn.nx σ H) :
    ∃ W : Nat → Nat → L2.St → Hp → Prop, (∃ m, W 0 m σ H) ∧ ∀ i m σ H, W i m σ H →
      (J.stop i H ∧ Dn.nx σ H) ∨ (J.go i H ∧ ∃ N : L2.St → Hp → Prop, (∀ σ' H', N σ' H' → ∃ m', m' < m ∧ W (i + 1) m' σ' H') ∧ ∀ x H', J.yld i H x H' → g x σ H' fun σ2 H2 => tb { Dn with nx := N, ct := N, bk := Dn.nx } σ2 H2) :=
  for_it w Pv h0 (fun i σ H _ p => hG i σ H p) (fun i x σ H H' hi p y => by
    obtain ⟨s, d, hd', im⟩ := y
    exact hs i d x σ H H' hd' p s im) hd

/-! ### dicts -/
theorem kvs_get {l : List (Str × Int)} {z : Str} : valV (kvs l) (Sum.inr z) = (l.lookup z).map V.int := by
  unfold valV kvs
  induction l with
  | nil => rfl
  | cons e l ih =>
    rw [List.map_cons, List.find?_cons, List.lookup_cons]
    by_cases h : e.1 = z
    · have h1 : decide ((Sum.inr e.1 : Key) = Sum.inr z) = true := decide_eq_true (by rw [h])
      have h2 : (z == e.1) = true := by rw [h]; exact beq_self_eq_true _
      simp only [h1, h2]
      rfl
    · have h1 : decide ((Sum.inr e.1 : Key) = Sum.inr z) = false := decide_eq_false fun q => h (by injection q)
      have h2 : (z == e.1) = false := beq_eq_false_iff_ne.mpr fun q => h q.symm
      simp only [h1, h2]
      exact ih
theorem dget_dic {l : List (Str × Int)} {p : Addr} {H : Hp} {z : Str} (h : H p = some (.dK (kvs l))) : DGet H p (.str z) ((l.lookup z).map V.int) := .inl ⟨_, Sum.inr z, .inl h, rfl, kvs_get.symm⟩
theorem ev_dget {l : List (Str × Int)} {z : Str} {n : Int} (ea : Ev C ta σ H (.dic l)) (eb : Ev C tb σ H (.d (.str z))) (h : l.lookup z = some n) : Ev C (tDGet ta tb) σ H (.d (.int n)) := fun H1 s Q q =>
  ea H1 s _ fun v H2 s2 h1 => eb H2 (s.trans s2) _ fun w H3 s3 h2 => by
    obtain ⟨p, e1, e2⟩ := h1
    refine ⟨p, .int n, e1, ?_, q _ H3 (s2.trans s3) rfl⟩
    rw [rp_str h2]
    have g := dget_dic (z := z) (s3 _ _ e2)
    rw [h] at g
    exact g
theorem ev_dget2 {l : List (Str × Int)} {z : Str} {n : Int} (ea : Ev C ta σ H (.dic l)) (eb : Ev C tb σ H (.d (.str z))) (ec : Ev C tc σ H (.d (.int n))) : Ev C (tDGet2 ta tb tc) σ H (.d (.int ((l.lookup z).getD n))) := fun H1 s Q q =>
  ea H1 s _ fun v H2 s2 h1 => by
    obtain ⟨p, e1, e2⟩ := h1
    refine ⟨p, e1, .inl ⟨_, .inl e2⟩, ?_⟩
    refine eb H2 (s.trans s2) _ fun w H3 s3 h2 => ec H3 (s.trans (s2.trans s3)) _ fun u H4 s4 h3 => ?_
    refine ⟨(l.lookup z).map V.int, ?_, q _ H4 (s2.trans (s3.trans s4)) ?_⟩
    · rw [rp_str h2]
      exact dget_dic (s4 _ _ (s3 _ _ e2))
    · rw [rp_int h3]
      cases l.lookup z <;> exact rfl
theorem ev_din {l : List (Str × Int)} {z : Str} (ea : Ev C ta σ H (.d (.str z))) (eb : Ev C tb σ H (.dic l)) : Ev C (tDIn ta tb) σ H (.d (.bl (l.lookup z).isSome)) := fun H1 s Q q =>
  ea H1 s _ fun v H2 s2 h1 => eb H2 (s.trans s2) _ fun w H3 s3 h2 => by
    obtain ⟨p, e1, e2⟩ := h2
    refine ⟨p, (l.lookup z).map V.int, e1, ?_, q _ H3 (s2.trans s3) ?_⟩
    · rw [rp_str h1]
      exact dget_dic e2
    · cases l.lookup z <;> exact rfl
/-! ### slices of tuples -/
def cutD (xs : List D) (lo hi : Option Int) : List D := (xs.drop (HT.sIx xs.length 0 lo)).take (HT.sIx xs.length xs.length hi - HT.sIx xs.length 0 lo)
theorem eo_none : EvO (fun _ H Q => Q none H) σ H none := fun H1 _ Q q => q H1 (Same.refl H1)
theorem sl_all {α : Type} (xs : List α) {lo hi : Option Int} (h : HT.sIx xs.length 0 lo = 0 ∧ HT.sIx xs.length xs.length hi = xs.length) : (xs.drop (HT.sIx xs.length 0 lo)).take (HT.sIx xs.length xs.length hi - HT.sIx xs.length 0 lo) = xs := by
  rw [h.1, h.2, List.drop_zero, Nat.sub_zero, List.take_length]
theorem ev_slT {tl th : TO} {l : List D} {lo hi : Option Int} (e : Ev C te σ H (.d (.tup l))) (el : EvO tl σ H lo) (eh : EvO th σ H hi) : Ev C (L2.tSl (rSlA K) te tl th) σ H (.d (.tup (cutD l lo hi))) := fun H1 s Q q =>
  e H1 s _ fun v H2 s2 h => el H2 (s.trans s2) _ fun H3 s3 => eh H3 (s.trans (s2.trans s3)) _ fun H4 s4 => by
    obtain ⟨p, xs, e1, e2, e3⟩ := rp_tup (h.mono (s3.trans s4))
    have sa : Same H1 H4 := s2.trans (s3.trans s4)
    refine ⟨p, xs, e1, SqT.of e2, fun hw => q _ H4 sa ⟨p, xs, rfl, e2, ?_⟩, fun _ r hr => q _ _ (sa.trans (same_new hr _)) (im_new ?_ upd_same)⟩
    · rw [e3.len] at hw
      unfold cutD
      rw [sl_all l hw]
      exact e3
    · have e4 : ImL H4 (cutD l lo hi) (cutV xs lo hi) := by
        unfold cutD cutV
        rw [e3.len]
        exact (e3.drop _).take _
      exact e4.mono (same_new hr _)
theorem ev_slL {tl th : TO} {l : List D} {lo hi : Option Int} (e : Ev C te σ H (.lst l)) (el : EvO tl σ H lo) (eh : EvO th σ H hi) : Ev C (L2.tSl (rSlL K) te tl th) σ H (.lst (cutD l lo hi)) := fun H1 s Q q =>
  e H1 s _ fun v H2 s2 h => el H2 (s.trans s2) _ fun H3 s3 => eh H3 (s.trans (s2.trans s3)) _ fun H4 s4 => by
    obtain ⟨p, xs, e1, e2, e3⟩ := rp_lst (h.mono (s3.trans s4))
    have sa : Same H1 H4 := s2.trans (s3.trans s4)
    refine ⟨p, xs, e1, SqL.of e2, fun r hr => q _ _ (sa.trans (same_new hr _)) ⟨r, _, rfl, upd_same, ?_⟩⟩
    have e4 : ImL H4 (cutD l lo hi) (cutV xs lo hi) := by
      unfold cutD cutV
      rw [e3.len]
      exact (e3.drop _).take _
    exact e4.mono (same_new hr _)
/-- t + u -/
theorem ev_catT {l m : List D} (ea : Ev C ta σ H (.d (.tup l))) (eb : Ev C tb σ H (.d (.tup m))) (hl : l.length + m.length ≤ 1000) : Ev C (tOp (rCatA K) ta tb) σ H (.d (.tup (l ++ m))) := fun H1 s Q q =>
  ea H1 s _ fun v H2 s2 h1 => eb H2 (s.trans s2) _ fun w H3 s3 h2 => by
    obtain ⟨p, xs, e1, e2, e3⟩ := rp_tup (h1.mono s3)
    obtain ⟨r, ys, f1, f2, f3⟩ := rp_tup h2
    have sa := s2.trans s3
    have cat := e3.app f3
    refine ⟨p, r, xs, ys, e1, f1, SqT.of e2, SqT.of f2, by rw [e3.len, f3.len, sizeLine_eq]; omega, fun z => q _ H3 sa ⟨r, ys, rfl, f2, ?_⟩, fun _ z => q _ H3 sa ⟨p, xs, rfl, e2, ?_⟩, fun _ _ t ht => q _ _ (sa.trans (same_new ht _)) (im_new (cat.mono (same_new ht _)) upd_same)⟩
    · have zl : l = [] := List.eq_nil_of_length_eq_zero (by rw [← e3.len, z] <;> rfl)
      rw [zl]
      exact f3
    · have zm : m = [] := List.eq_nil_of_length_eq_zero (by rw [← f3.len, z] <;> rfl)
      rw [zm, List.append_nil]
      exact e3
theorem ev_catL {l m : List D} (ea : Ev C ta σ H (.lst l)) (eb : Ev C tb σ H (.lst m)) (hl : l.length + m.length ≤ 1000) : Ev C (tOp rCat ta tb) σ H (.lst (l ++ m)) := fun H1 s Q q =>
  ea H1 s _ fun v H2 s2 h1 => eb H2 (s.trans s2) _ fun w H3 s3 h2 => by
    obtain ⟨p, xs, e1, e2, e3⟩ := rp_lst (h1.mono s3)
    obtain ⟨r, ys, f1, f2, f3⟩ := rp_lst h2
    exact ⟨p, r, xs, ys, e1, f1, e2, f2, by rw [e3.len, f3.len, sizeLine_eq]; omega, fun t ht => q _ _ ((s2.trans s3).trans (same_new ht _)) ⟨t, _, rfl, upd_same, (e3.app f3).mono (same_new ht _)⟩⟩
/-- in, of flat data -/
theorem ev_inT {neg : Bool} {l : List D} {b : Bool} (ea : Ev C ta σ H (.d x)) (eb : Ev C tb σ H (.d (.tup l))) (h : ∀ (H : Hp) v vs, Im H x v → ImL H l vs → flatV v = true ∧ vs.all flatV = true ∧ inV v vs = b) : Ev C (tOp (rIn K neg) ta tb) σ H (.d (.bl (if neg then !b else b))) := fun H1 s Q q =>
  ea H1 s _ fun v H2 s2 h1 => eb H2 (s.trans s2) _ fun w H3 s3 h2 => by
    obtain ⟨r, ys, f1, f2, f3⟩ := rp_tup h2
    obtain ⟨g1, g2, g3⟩ := h H3 v ys (Im.mono (rp_d h1) s3) f3
    exact ⟨r, ys, f1, .inr (SqT.of f2), g1, g2, q _ H3 (s2.trans s3) (by rw [g3]; exact rfl)⟩
theorem ev_inL {neg : Bool} {l : List D} {b : Bool} (ea : Ev C ta σ H (.d x)) (eb : Ev C tb σ H (.lst l)) (h : ∀ (H : Hp) v vs, Im H x v → ImL H l vs → flatV v = true ∧ vs.all flatV = true ∧ inV v vs = b) : Ev C (tOp (rIn K neg) ta tb) σ H (.d (.bl (if neg then !b else b))) := fun H1 s Q q =>
  ea H1 s _ fun v H2 s2 h1 => eb H2 (s.trans s2) _ fun w H3 s3 h2 => by
    obtain ⟨r, ys, f1, f2, f3⟩ := rp_lst h2
    obtain ⟨g1, g2, g3⟩ := h H3 v ys (Im.mono (rp_d h1) s3) f3
    exact ⟨r, ys, f1, .inl (SqL.of f2), g1, g2, q _ H3 (s2.trans s3) (by rw [g3]; exact rfl)⟩
theorem inV_cons {x y : V} {l : List V} : inV x (y :: l) = (eqV y x || inV x l) := rfl
theorem inV_strs (z : Str) : ∀ l : List Str, inV (.str z) (l.map .str) = decide (z ∈ l)
  | [] => rfl
  | a :: l => by
    rw [List.map_cons, inV_cons, inV_strs z l]
    show (a == z || decide (z ∈ l)) = decide (z ∈ a :: l)
    by_cases h : a = z
    · have h1 : (a == z) = true := by rw [h]; exact beq_self_eq_true _
      rw [h1, Bool.true_or]
      exact (decide_eq_true (by rw [h]; exact List.mem_cons_self)).symm
    · have h1 : (a == z) = false := beq_eq_false_iff_ne.mpr h
      rw [h1, Bool.false_or]
      exact decide_eq_decide.mpr ⟨fun q => List.mem_cons_of_mem _ q, fun q => by
        rcases List.mem_cons.mp q with q | q
        · exact absurd q.symm h
        · exact q⟩
theorem flat_strs (l : List Str) : (l.map V.str).all flatV = true := by
  rw [List.all_map]
  exact List.all_eq_true.mpr fun _ _ => rfl
/-- a text in a tuple (a list) of texts -/
theorem in_strs (z : Str) (l : List Str) : ∀ (H : Hp) v vs, Im H (.str z) v → ImL H (l.map .str) vs → flatV v = true ∧ vs.all flatV = true ∧ inV v vs = decide (z ∈ l) := fun H v vs h1 h2 => by
  have e1 := im_str h1
  have e2 : vs = l.map V.str := iml_flat (fun a v h => im_str h) h2
  subst e1
  subst e2
  exact ⟨rfl, flat_strs l, inV_strs z l⟩
end
end Bf

/-! Ev3: comprehensions over mapped items. -/
namespace Bf
open PySem L2 Bx
theorem zipD_map {α β : Type} (φ : α → D) (ψ : β → D) : ∀ (xs : List α) (ys : List β), zipD (xs.map φ) (ys.map ψ) = (xs.zip ys).map fun e => .tup [φ e.1, ψ e.2]
  | [], _ => rfl
  | _ :: _, [] => rfl
  | x :: xs, y :: ys => by
    show D.tup [φ x, ψ y] :: zipD (xs.map φ) (ys.map ψ) = _
    rw [zipD_map φ ψ xs ys]
    rfl
theorem enumD_map {α : Type} (φ : α → D) (xs : List α) : enumD (xs.map φ) = xs.zipIdx.map fun e => .tup [.int (e.2 : Nat), φ e.1] := by
  apply List.ext_getElem?
  intro i
  rw [List.getElem?_mapIdx, List.getElem?_map, List.getElem?_map, List.getElem?_zipIdx]
  cases xs[i]? with
  | none => rfl
  | some a =>
    show some _ = some _
    rw [Nat.zero_add] <;> rfl
section
variable {C : Addr} {K : PySem.W.Frag} {σ : L2.St} {H : Hp} {ta tb tc te : TE} {t : TA} {α : Type} {wi : TI} {g : TG} {tt : TT} {vs : List Nat} {xs : List α} {φ : α → D}
/-- one turn: the target taken, what then stands, the element -/
def Turn0 (C : Addr) (g : TG) (te : TE) (vs : List Nat) (σ : L2.St) (x : V) (H' : Hp) (d : D) : Prop :=
  ∃ σ2, (∀ Kc : L2.St → Hp → Prop, Kc σ2 H' → g x (wipe σ vs) H' Kc) ∧ wipe σ2 vs = wipe σ vs ∧ Ev C te σ2 H' (.d d)
def TurnO (C : Addr) (g : TG) (tt : TT) (te : TE) (vs : List Nat) (σ : L2.St) (x : V) (H' : Hp) (o : Option D) : Prop :=
  ∃ σ2, (∀ Kc : L2.St → Hp → Prop, Kc σ2 H' → g x (wipe σ vs) H' Kc) ∧ wipe σ2 vs = wipe σ vs ∧ EvT tt σ2 H' o.isSome ∧ ∀ e, o = some e → Ev C te σ2 H' (.d e)
theorem turn_name {n : Nat} {x : V} {H' : Hp} {d : D} (hw : wipe ((wipe σ vs).set n (some x)) vs = wipe σ vs) (e : Ev C te ((wipe σ vs).set n (some x)) H' (.d d)) : Turn0 C (gName n) te vs σ x H' d := ⟨_, fun _ k => k, hw, e⟩
theorem turn_pair {n m : Nat} {x : V} {H' : Hp} {a b d : D} (im : Im H' (.tup [a, b]) x) (h : ∀ v w, Im H' a v → Im H' b w → wipe (((wipe σ vs).set n (some v)).set m (some w)) vs = wipe σ vs ∧ Ev C te (((wipe σ vs).set n (some v)).set m (some w)) H' (.d d)) :
    Turn0 C (gTup K 2 (gCons (gName n) (gCons (gName m) gNil))) te vs σ x H' d := by
  obtain ⟨v, w, h1, h2, k⟩ := g_pair (K := K) (n := n) (m := m) im
  obtain ⟨q1, q2⟩ := h v w h1 h2
  exact ⟨_, fun Kc kk => k _ Kc kk, q1, q2⟩
theorem turnO_name {n : Nat} {x : V} {H' : Hp} {o : Option D} (hw : wipe ((wipe σ vs).set n (some x)) vs = wipe σ vs) (et : EvT tt ((wipe σ vs).set n (some x)) H' o.isSome) (e : ∀ d, o = some d → Ev C te ((wipe σ vs).set n (some x)) H' (.d d)) : TurnO C (gName n) tt te vs σ x H' o := ⟨_, fun _ k => k, hw, et, e⟩
theorem turnO_pair {n m : Nat} {x : V} {H' : Hp} {a b : D} {o : Option D} (im : Im H' (.tup [a, b]) x) (h : ∀ v w, Im H' a v → Im H' b w → wipe (((wipe σ vs).set n (some v)).set m (some w)) vs = wipe σ vs ∧ EvT tt (((wipe σ vs).set n (some v)).set m (some w)) H' o.isSome ∧ ∀ d, o = some d → Ev C te (((wipe σ vs).set n (some v)).set m (some w)) H' (.d d)) :
    TurnO C (gTup K 2 (gCons (gName n) (gCons (gName m) gNil))) tt te vs σ x H' o := by
  obtain ⟨v, w, h1, h2, k⟩ := g_pair (K := K) (n := n) (m := m) im
  obtain ⟨q1, q2, q3⟩ := h v w h1 h2
  exact ⟨_, fun Kc kk => k _ Kc kk, q1, q2, q3⟩
theorem lcA {items : List D} (it : EvIs wi σ H items) (o : Nat → Option D) (hn : items.length ≤ 1000)
    (hs : ∀ (i : Nat) (d : D) (x : V) (H' : Hp), items[i]? = some d → Same H H' → Im H' d x → TurnO C g tt te vs σ x H' (o i)) : Ev C (tLc wi g tt te vs) σ H (.lst (given o items.length)) := fun H1 s Q q =>
  it H1 s _ fun J H2 s2 w Dl hD => by
    refine lcI w hD (fun _ h => h) (by omega) o (fun i x H3 H4 hi s3 y => ?_) (fun H3 xs s3 h1 h2 => ?_)
    · obtain ⟨s4, d, hd, im⟩ := y
      refine ⟨s4, fun Kc k => ?_⟩
      obtain ⟨σ2, k1, k2, k3, k4⟩ := hs i d x H4 hd (s.trans (s2.trans (s3.trans s4))) im
      exact k1 Kc (k σ2 H4 (Same.refl _) k2 ⟨k3, k4⟩)
    · exact q _ H3 (s2.trans s3) ⟨Dl, xs, rfl, h1, h2⟩
theorem ev_lca (it : EvIs wi σ H (xs.map φ)) (f : α → Option D) (hn : xs.length ≤ 1000)
    (hs : ∀ (i : Nat) (a : α) (x : V) (H' : Hp), xs[i]? = some a → Same H H' → Im H' (φ a) x → TurnO C g tt te vs σ x H' (f a)) : Ev C (tLc wi g tt te vs) σ H (.lst (xs.filterMap f)) := by
  have e := lcA (C := C) (g := g) (tt := tt) (te := te) (vs := vs) it (fun i => (xs[i]?).bind f) (by rw [List.length_map]; exact hn) fun i d x H' h1 h2 h3 => by
    rw [List.getElem?_map] at h1
    cases ha : xs[i]? with
    | none => rw [ha] at h1; cases h1
    | some a =>
      rw [ha] at h1
      cases h1
      exact hs i a x H' ha h2 h3
  rw [List.length_map, given_list xs f _ fun i x h => by rw [h] <;> rfl] at e
  exact e
theorem ev_lcma (it : EvIs wi σ H (xs.map φ)) (f : α → D) (hn : xs.length ≤ 1000)
    (hs : ∀ (i : Nat) (a : α) (x : V) (H' : Hp), xs[i]? = some a → Same H H' → Im H' (φ a) x → Turn0 C g te vs σ x H' (f a)) : Ev C (tLc wi g tYes te vs) σ H (.lst (xs.map f)) := by
  have e := ev_lca (C := C) (g := g) (tt := tYes) (te := te) (vs := vs) it (fun a => some (f a)) hn fun i a x H' h1 h2 h3 => by
    obtain ⟨σ2, k1, k2, k3⟩ := hs i a x H' h1 h2 h3
    exact ⟨σ2, k1, k2, evt_yes, fun e he => by cases he; exact k3⟩
  rw [List.filterMap_eq_map'] at e
  exact e
/-- all([ .. ]) -/
theorem ev_allc (it : EvIs wi σ H (xs.map φ)) (p : α → Bool) (hn : xs.length ≤ 1000)
    (hs : ∀ (i : Nat) (a : α) (x : V) (H' : Hp), xs[i]? = some a → Same H H' → Im H' (φ a) x → Turn0 C g te vs σ x H' (.bl (p a))) : Ev C (fun σ H Q => tCons (tLc wi g tYes te vs) tNil σ H fun us H1 => rAll K us H1 Q) σ H (.d (.bl (xs.all p))) := fun H1 s Q q => by
  have e := ev_lcma (C := C) (g := g) (te := te) (vs := vs) it (fun a => .bl (p a)) hn hs
  refine ea_one e H1 s _ fun us H2 s2 h => ?_
  have e2 : xs.map (fun a => D.bl (p a)) = (xs.map p).map D.bl := by rw [List.map_map] <;> rfl
  rw [e2] at h
  refine er_all us H2 Q h fun v H3 s3 hv => q v H3 (s2.trans s3) ?_
  rw [List.all_map] at hv
  exact hv
theorem ev_allT (it : EvIs wi σ H (xs.map φ)) (p : α → Bool) (hp : xs.all p = true) (hn : xs.length ≤ 1000)
    (hs : ∀ (i : Nat) (a : α) (x : V) (H' : Hp), xs[i]? = some a → Same H H' → Im H' (φ a) x → Turn0 C g te vs σ x H' (.bl (p a))) : Ev C (fun σ H Q => tCons (tLc wi g tYes te vs) tNil σ H fun us H1 => rAll K us H1 Q) σ H (.d (.bl true)) := by
  have e := ev_allc (K := K) it p hn hs
  rw [hp] at e
  exact e
theorem ev_inS {c : Nat} {z : Str} (ea : Ev C ta σ H (.d (.str ⟨#[c]⟩))) (eb : Ev C tb σ H (.d (.str z))) : Ev C (tOp (fun x y H Q => ∃ (c : Nat) (z : Str), x = .str ⟨#[c]⟩ ∧ y = .str z ∧ Q (.bl (decide (c ∈ z.cps.toList))) H) ta tb) σ H (.d (.bl (decide (c ∈ z.cps.toList)))) := fun H1 s Q q =>
  ea H1 s _ fun v H2 s2 h1 => eb H2 (s.trans s2) _ fun w H3 s3 h2 => ⟨c, z, rp_str h1, rp_str h2, q _ H3 (s2.trans s3) rfl⟩
theorem RpL.of : ∀ {ds : List D} {us : List V}, ImL H ds us → RpL C H (ds.map .d) us
  | [], _, h => h
  | d :: ds, _, h => by
    obtain ⟨v, r, e, h1, h2⟩ := h
    exact ⟨v, r, e, h1, RpL.of h2⟩
theorem RpL.app : ∀ {as bs : List A} {us ws : List V}, RpL C H as us → RpL C H bs ws → RpL C H (as ++ bs) (us ++ ws)
  | [], _, us, _, h, q => by
    rw [show us = [] from h]
    exact q
  | a :: as, _, _, _, ⟨v, r, e, h1, h2⟩, q => by
    rw [e]
    exact ⟨v, _, rfl, h1, RpL.app h2 q⟩
theorem ea_starL {l : List D} {as : List A} (e : Ev C te σ H (.lst l)) (r : EvA C t σ H as) : EvA C (StX.tStar K te t) σ H (l.map .d ++ as) := fun H1 s Q q =>
  e H1 s _ fun v H2 s2 h => by
    obtain ⟨p, xs, e1, e2, e3⟩ := rp_lst h
    exact ⟨p, xs, e1, .inr (SqL.of e2), r H2 (s.trans s2) _ fun ys H3 s3 h3 => q _ H3 (s2.trans s3) ((RpL.of (e3.mono s3)).app h3)⟩
theorem ea_starT {l : List D} {as : List A} (e : Ev C te σ H (.d (.tup l))) (r : EvA C t σ H as) : EvA C (StX.tStar K te t) σ H (l.map .d ++ as) := fun H1 s Q q =>
  e H1 s _ fun v H2 s2 h => by
    obtain ⟨p, xs, e1, e2, e3⟩ := rp_tup h
    exact ⟨p, xs, e1, .inl (SqT.of e2), r H2 (s.trans s2) _ fun ys H3 s3 h3 => q _ H3 (s2.trans s3) ((RpL.of (e3.mono s3)).app h3)⟩
theorem ea_starL1 {l : List D} (e : Ev C te σ H (.lst l)) : EvA C (StX.tStar K te tNil) σ H (l.map .d) := by
  have h := ea_starL (K := K) e (ea_nil (C := C))
  rw [List.append_nil] at h
  exact h
theorem ea_starT1 {l : List D} (e : Ev C te σ H (.d (.tup l))) : EvA C (StX.tStar K te tNil) σ H (l.map .d) := by
  have h := ea_starT (K := K) e (ea_nil (C := C))
  rw [List.append_nil] at h
  exact h
theorem zipMade {H' : Hp} : ∀ (l m : List D) (xs ys : List V) (as : List Addr), ImL H' l xs → ImL H' m ys → l.length = m.length → as.length = l.length →
    (∀ (j : Nat) (a : Addr) (x y : V), as[j]? = some a → xs[j]? = some x → ys[j]? = some y → H' a = some (.tup [x, y])) → ImL H' (zipD l m) (as.map V.ref)
  | [], m, xs, ys, as, _, _, hl, ha, _ => by
    have z1 : as = [] := List.eq_nil_of_length_eq_zero ha
    have z2 : m = [] := List.eq_nil_of_length_eq_zero hl.symm
    subst z1
    subst z2
    exact rfl
  | d :: l, [], _, _, _, _, _, hl, _, _ => by cases hl
  | d :: l, d2 :: m, xs, ys, [], _, _, _, ha, _ => by cases ha
  | d :: l, d2 :: m, xs, ys, a :: as, h1, h2, hl, ha, g => by
    obtain ⟨x, xs2, rfl, i1, i2⟩ := iml_cons_inv h1
    obtain ⟨y, ys2, rfl, j1, j2⟩ := iml_cons_inv h2
    refine iml_cons ⟨a, _, rfl, g 0 a x y rfl rfl rfl, iml_cons i1 (iml_cons j1 iml_nil)⟩ ?_
    exact zipMade l m xs2 ys2 as i2 j2 (by simpa using hl) (by simpa using ha) fun j b x y h1 h2 h3 => g (j + 1) b x y h1 h2 h3
theorem ev_listZip {l m : List D} (e : EvA C t σ H [.d (.tup l), .d (.tup m)]) (hl : l.length = m.length) (hn : l.length ≤ 1000) : Ev C (Rx.tListZip K t) σ H (.lst (zipD l m)) := fun H1 s Q q =>
  e H1 s _ fun vs H2 s2 h => by
    obtain ⟨v, w, ev, hv, hw⟩ := h.two
    obtain ⟨p, xs, e1, e2, e3⟩ := rp_tup hv
    obtain ⟨r, ys, f1, f2, f3⟩ := rp_tup hw
    subst e1
    subst f1
    refine ⟨p, r, xs, ys, ev, SqT.of e2, SqT.of f2, by rw [e3.len, f3.len]; exact hl, by rw [e3.len]; exact hn, fun H' q0 as s3 g1 _ g2 g3 => q _ H' (s2.trans s3) ⟨q0, _, rfl, g1, ?_⟩⟩
    exact zipMade l m xs ys as (e3.mono s3) (f3.mono s3) hl (by rw [g2, e3.len]) g3
theorem ev_lenD {l : List (Str × Int)} (e : EvA C t σ H [.dic l]) : Ev C (fun σ H Q => t σ H fun xs H1 => (fun xs H Q => ∃ a kvs, xs = [V.ref a] ∧ H a = some (.dK kvs) ∧ Q (.int kvs.length) H) xs H1 Q) σ H (.d (.int (l.length : Nat))) := fun H1 s Q q =>
  e H1 s _ fun vs H2 s2 h => by
    obtain ⟨v, ev, p, e1, h2⟩ := h.one
    subst e1
    exact ⟨p, _, ev, h2, q _ H2 s2 (by rw [List.length_map]; exact rfl)⟩
theorem eo_no : EvO tNoPart σ H none := fun H1 _ Q q => q H1 (Same.refl H1)
theorem eo_some {i : Int} (e : Ev C te σ H (.d (.int i))) : EvO (tPart te) σ H (some i) := fun H1 s Q q => e H1 s _ fun v H2 s2 h => ⟨i, rp_int h, q H2 s2⟩
theorem cutD_from (l : List D) (k : Nat) : cutD l (some (k : Int)) none = l.drop k := by
  unfold cutD
  have e1 : HT.sIx l.length 0 (some (k : Int)) = min k l.length := by
    show (if (k : Int) < 0 then ((k : Int) + (l.length : Int)).toNat else min (k : Int).toNat l.length) = _
    rw [if_neg (by omega), Int.toNat_natCast]
  have e2 : HT.sIx l.length l.length none = l.length := rfl
  rw [e1, e2]
  by_cases h : k ≤ l.length
  · rw [Nat.min_eq_left h]
    exact List.take_of_length_le (by rw [List.length_drop] <;> omega)
  · rw [Nat.min_eq_right (by omega), Nat.sub_self, List.take_zero]
    exact (List.drop_eq_nil_of_le (by omega)).symm
theorem cutD_to (l : List D) (k : Nat) : cutD l none (some (k : Int)) = l.take k := by
  unfold cutD
  have e1 : HT.sIx l.length l.length (some (k : Int)) = min k l.length := by
    show (if (k : Int) < 0 then ((k : Int) + (l.length : Int)).toNat else min (k : Int).toNat l.length) = _
    rw [if_neg (by omega), Int.toNat_natCast]
  have e2 : HT.sIx l.length 0 none = 0 := rfl
  rw [e1, e2, List.drop_zero, Nat.sub_zero]
  by_cases h : k ≤ l.length
  · rw [Nat.min_eq_left h]
  · rw [Nat.min_eq_right (by omega), List.take_length]
    exact (List.take_of_length_le (by omega)).symm
/-- tuple([ .. ]) -/
theorem ev_tupc {l : List D} (e : Ev C te σ H (.lst l)) : Ev C (fun σ H Q => tCons te tNil σ H fun us H1 => (fun xs H Q => ∃ p ys, xs = [.ref p] ∧ ((SqL K H p ys ∧ ∀ l, H l = none → Q (.ref l) (upd H l (.tup ys))) ∨ (SqT K H p ys ∧ Q (.ref p) H))) us H1 Q) σ H (.d (.tup l)) := fun H1 s Q q =>
  ea_one e H1 s _ fun us H2 s2 h => er_tuple us H2 Q h fun v H3 s3 hv => q v H3 (s2.trans s3) hv
/-- a comprehension's list is new -/
theorem lcF (it : EvIs wi σ H (xs.map φ)) (f : α → D) (hn : xs.length ≤ 1000)
    (hs : ∀ (i : Nat) (a : α) (x : V) (H' : Hp), xs[i]? = some a → Same H H' → Im H' (φ a) x → Turn0 C g te vs σ x H' (f a)) : EvP (tLc wi g tYes te vs) σ H fun v H' => ∃ p us, v = .ref p ∧ H p = none ∧ H' p = some (.lst us) ∧ ImL H' (xs.map f) us := fun H1 s Q q =>
  it H1 s _ fun J H2 s2 w Dl hD => by
    refine lcI w hD (fun _ h => h) (by rw [List.length_map]; omega) (fun i => (xs[i]?).map f) (fun i x H3 H4 hi s3 y => ?_) (fun H3 us s3 h1 h2 => ?_)
    · obtain ⟨s4, d, hd, im⟩ := y
      refine ⟨s4, fun Kc k => ?_⟩
      rw [List.getElem?_map] at hd
      cases ha : xs[i]? with
      | none => rw [ha] at hd; cases hd
      | some a =>
        rw [ha] at hd
        cases hd
        obtain ⟨σ2, k1, k2, k3⟩ := hs i a x H4 ha (s.trans (s2.trans (s3.trans s4))) im
        have ef : (xs[i]?).map f = some (f a) := by rw [ha] <;> rfl
        refine k1 Kc (k σ2 H4 (Same.refl _) k2 ?_)
        rw [ef]
        exact ⟨evt_yes, fun e he => by cases he; exact k3⟩
    · rw [List.length_map, given_list xs (fun a => some (f a)) _ fun i x h => by rw [h] <;> rfl, List.filterMap_eq_map'] at h2
      exact q _ H3 (s2.trans s3) ⟨Dl, us, rfl, (s.trans s2).free hD, h1, h2⟩
abbrev dP (p : Int × Int) : D := .tup [.int p.1, .int p.2]
theorem pairs_at {ps : List (Int × Int)} {us : List V} (h : ImL H (ps.map dP) us) : ∃ as : List Addr, us = as.map V.ref ∧ as.length = ps.length ∧ ∀ (j : Nat) (p : Int × Int), ps[j]? = some p → ∃ b, as[j]? = some b ∧ H b = some (.tup [.int p.1, .int p.2]) := by
  induction ps generalizing us with
  | nil => exact ⟨[], iml_nil_inv h, rfl, fun j p hj => by simp at hj⟩
  | cons p ps ih =>
    obtain ⟨v, r, rfl, h1, h2⟩ := iml_cons_inv h
    obtain ⟨as, rfl, hl, ha⟩ := ih h2
    obtain ⟨b, zs, rfl, hb, hz⟩ := im_tup h1
    obtain ⟨x, r1, rfl, i1, i2⟩ := iml_cons_inv hz
    obtain ⟨y, r2, rfl, j1, j2⟩ := iml_cons_inv i2
    have e := iml_nil_inv j2
    subst e
    have e1 := im_int i1
    have e2 := im_int j1
    subst e1
    subst e2
    refine ⟨b :: as, rfl, by rw [List.length_cons, List.length_cons, hl], fun j q hj => ?_⟩
    cases j with
    | zero =>
      cases hj
      exact ⟨b, rfl, hb⟩
    | succ j => exact ha j q hj
theorem eqv_nil (l : List D) : PyData.eqv (.list (pyL l)) (.list (pyL [])) = l.isEmpty := by
  cases l with
  | nil =>
    show PyData.eqv (.list []) (.list []) = true
    unfold PyData.eqv
    unfold PyData.eqvAll
    rfl
  | cons d l =>
    show PyData.eqv (.list (d.py :: pyL l)) (.list []) = false
    unfold PyData.eqv
    unfold PyData.eqvAll
    rfl
theorem lay_ps (ps : List (Int × Int)) : layL (ps.map dP) = true := by
  induction ps with
  | nil => rfl
  | cons p ps ih =>
    show ((dP p).lay && layL (ps.map dP)) = true
    rw [ih]
    rfl
theorem dep_ps (ps : List (Int × Int)) : depL (ps.map dP) ≤ 1 := by
  induction ps with
  | nil => exact Nat.zero_le _
  | cons p ps ih =>
    show max (dP p).dep (depL (ps.map dP)) ≤ 1
    exact Nat.max_le.mpr ⟨Nat.le_refl _, ih⟩
theorem lay_map {β : Type} (f : β → D) (h : ∀ b, (f b).lay = true) (l : List β) : layL (l.map f) = true := by
  induction l with
  | nil => rfl
  | cons b l ih =>
    show ((f b).lay && layL (l.map f)) = true
    rw [ih, h b]
    rfl
theorem dep_map {β : Type} (f : β → D) {n : Nat} (h : ∀ b, (f b).dep ≤ n) (l : List β) : depL (l.map f) ≤ n := by
  induction l with
  | nil => exact Nat.zero_le _
  | cons b l ih => exact Nat.max_le.mpr ⟨h b, ih⟩
theorem nob_map {β : Type} (f : β → D) (h : ∀ b, (f b).nob = true) (l : List β) : nobL (l.map f) = true := by
  induction l with
  | nil => rfl
  | cons b l ih =>
    show ((f b).nob && nobL (l.map f)) = true
    rw [ih, h b]
    rfl
end
end Bf

/-! Ev4: dict comprehensions, ranges that fall. -/
namespace Bf
open PySem L2 Bx
/-- a dict comprehension over a walk -/
theorem dc_it {J : It} {n : Nat} {G : Hp → Prop} {Y : Nat → Hp → V → Hp → Prop} (w : Walk J n G Y) {g : TG} {tt : TT} {tk tv : TE} {vs : List Nat} {σ : L2.St} {H1 : Hp} {Dl : Addr} {Qd : Hp → Prop} (Pv : Nat → Hp → Prop) (h0 : Pv 0 (upd H1 Dl (.dK []))) (hG : ∀ i H, i ≤ n → Pv i H → G H)
    (hs : ∀ i x H H', i < n → Pv i H → Y i H x H' → g x (wipe σ vs) H' fun σ2 H2 => wipe σ2 vs = wipe σ vs ∧ tt σ2 H2 fun b H3 =>
      if b = true then tk σ2 H3 fun y H4 => tv σ2 H4 fun z H5 => ∃ kv k, y = kV k ∧ H5 Dl = some (.dK kv) ∧ kv.length < sizeLine ∧ Pv (i + 1) (upd H5 Dl (.dK (putK kv k z))) else Pv (i + 1) H3) (hd : ∀ H, Pv n H → Qd H) :
    ∃ W : Nat → Nat → Hp → Prop, (∃ m, W 0 m (upd H1 Dl (.dK []))) ∧ ∀ i m H, W i m H →
      (J.stop i H ∧ Qd H) ∨ (J.go i H ∧ ∃ Nx : Hp → Prop, (∀ H', Nx H' → ∃ m', m' < m ∧ W (i + 1) m' H') ∧ ∀ x H', J.yld i H x H' → g x (wipe σ vs) H' fun σ2 H2 => wipe σ2 vs = wipe σ vs ∧ tt σ2 H2 fun b H3 =>
        if b = true then tk σ2 H3 fun y H4 => tv σ2 H4 fun z H5 => ∃ kv k, y = kV k ∧ H5 Dl = some (.dK kv) ∧ kv.length < sizeLine ∧ Nx (upd H5 Dl (.dK (putK kv k z))) else Nx H3) := by
  refine ⟨fun i m H => m = n - i ∧ i ≤ n ∧ Pv i H, ⟨n, by simp, Nat.zero_le _, h0⟩, ?_⟩
  rintro i m H ⟨rfl, hi, p⟩
  have q := hG i H hi p
  by_cases hlt : i < n
  · refine .inr ⟨w.goes i H hlt q, Pv (i + 1), fun H' p' => ⟨n - (i + 1), by omega, rfl, hlt, p'⟩, fun x H' y => hs i x H H' hlt p (w.yields i H x H' hlt q y)⟩
  · have e : i = n := by omega
    subst e
    exact .inl ⟨w.stops H q, hd H p⟩
theorem kvs_none {l : List (Str × Int)} {z : Str} (h : z ∉ l.map (·.1)) : valV (kvs l) (Sum.inr z) = none := by
  rw [kvs_get]
  cases e : l.lookup z with
  | none => rfl
  | some n =>
    exfalso
    apply h
    clear h
    induction l with
    | nil => cases e
    | cons a l ih =>
      rw [List.lookup_cons] at e
      rw [List.map_cons, List.mem_cons]
      by_cases q : z = a.1
      · exact .inl q
      · have b : (z == a.1) = false := beq_eq_false_iff_ne.mpr q
        rw [b] at e
        exact .inr (ih e)
theorem kvs_put {l : List (Str × Int)} {z : Str} (n : Int) (h : z ∉ l.map (·.1)) : putK (kvs l) (Sum.inr z) (.int n) = kvs (l ++ [(z, n)]) := by
  rw [putK_new _ (kvs_none h)]
  unfold kvs
  rw [List.map_append]
  rfl
theorem filt_take {α β : Type} (f : α → Option β) {l : List α} {i : Nat} {a : α} (h : l[i]? = some a) : (l.take (i + 1)).filterMap f = (l.take i).filterMap f ++ (f a).toList := by
  rw [List.take_add_one, h, List.filterMap_append]
  show _ ++ List.filterMap f [a] = _
  cases q : f a <;> simp [q]
section
variable {C : Addr} {K : PySem.W.Frag} {σ : L2.St} {H : Hp} {ta tb tc te tk tv : TE} {t : TA} {α : Type} {wi : TI} {g : TG} {tt : TT} {vs : List Nat} {xs : List α} {φ : α → D}
def TurnD (C : Addr) (g : TG) (tt : TT) (tk tv : TE) (vs : List Nat) (σ : L2.St) (x : V) (H' : Hp) (o : Option (Str × Int)) : Prop :=
  ∃ σ2, (∀ Kc : L2.St → Hp → Prop, Kc σ2 H' → g x (wipe σ vs) H' Kc) ∧ wipe σ2 vs = wipe σ vs ∧ EvT tt σ2 H' o.isSome ∧ ∀ e, o = some e → Ev C tk σ2 H' (.d (.str e.1)) ∧ Ev C tv σ2 H' (.d (.int e.2))
theorem turnD_name {n : Nat} {x : V} {H' : Hp} {o : Option (Str × Int)} (hw : wipe ((wipe σ vs).set n (some x)) vs = wipe σ vs) (et : EvT tt ((wipe σ vs).set n (some x)) H' o.isSome) (e : ∀ d, o = some d → Ev C tk ((wipe σ vs).set n (some x)) H' (.d (.str d.1)) ∧ Ev C tv ((wipe σ vs).set n (some x)) H' (.d (.int d.2))) : TurnD C (gName n) tt tk tv vs σ x H' o := ⟨_, fun _ k => k, hw, et, e⟩
theorem ev_dcF (it : EvIs wi σ H (xs.map φ)) (f : α → Option (Str × Int)) (hn : xs.length ≤ 1000) (hnd : ((xs.filterMap f).map (·.1)).Nodup)
    (hs : ∀ (i : Nat) (a : α) (x : V) (H' : Hp), xs[i]? = some a → Same H H' → Im H' (φ a) x → TurnD C g tt tk tv vs σ x H' (f a)) : EvP (tDc wi g tt tk tv vs) σ H fun v H' => ∃ p, v = .ref p ∧ H p = none ∧ H' p = some (.dK (kvs (xs.filterMap f))) := fun H1 s Q q =>
  it H1 s _ fun J H2 s2 w Dl hD => by
    refine dc_it (Qd := fun H => Q (.ref Dl) H) w (fun i H => Same H2 H ∧ H Dl = some (.dK (kvs ((xs.take i).filterMap f)))) ⟨same_new hD _, upd_same⟩ (fun i H _ p => p.1) ?_ (fun H p => ?_)
    · rintro i x H3 H4 hi ⟨s3, hx⟩ ⟨s4, d, hd, im⟩
      rw [List.getElem?_map] at hd
      cases ha : xs[i]? with
      | none => rw [ha] at hd; cases hd
      | some a =>
        rw [ha] at hd
        cases hd
        obtain ⟨σ2, k1, k2, k3, k4⟩ := hs i a x H4 ha (s.trans (s2.trans (s3.trans s4))) im
        refine k1 _ ⟨k2, ?_⟩
        have ft := filt_take f ha
        refine k3 H4 (Same.refl _) _ fun H5 s5 => ?_
        cases hf : f a with
        | none =>
          rw [hf, show (none : Option (Str × Int)).toList = [] from rfl, List.append_nil] at ft
          show Same H2 H5 ∧ _
          rw [ft]
          exact ⟨s3.trans (s4.trans s5), s5 _ _ (s4 _ _ hx)⟩
        | some e =>
          obtain ⟨e1, e2⟩ := k4 e hf
          show tk σ2 H5 _
          refine e1 H5 s5 _ fun y H6 s6 hy => ?_
          refine e2 H6 (s5.trans s6) _ fun z H7 s7 hz => ?_
          have hx7 := s7 _ _ (s6 _ _ (s5 _ _ (s4 _ _ hx)))
          have hlen : ((xs.take i).filterMap f).length ≤ 1000 := Nat.le_trans (List.length_filterMap_le ..) (by rw [List.length_take]; omega)
          refine ⟨_, Sum.inr e.1, rp_str hy, hx7, by rw [List.length_map, sizeLine_eq]; omega, same_mut (s3.trans (s4.trans (s5.trans (s6.trans s7)))) hD, ?_⟩
          rw [upd_same, ft, hf, rp_int hz]
          have hni : e.1 ∉ ((xs.take i).filterMap f).map (·.1) := fun hm => by
            have sub : ((xs.take (i + 1)).filterMap f).Sublist (xs.filterMap f) := (List.take_sublist _ _).filterMap f
            have nd2 := hnd.sublist (sub.map (·.1))
            rw [ft, hf, List.map_append] at nd2
            exact (List.nodup_append.mp nd2).2.2 _ hm _ List.mem_cons_self rfl
          rw [kvs_put _ hni]
          rfl
    · obtain ⟨s0, hx⟩ := p
      rw [List.length_map, List.take_length] at hx
      exact q _ H (s2.trans s0) ⟨Dl, rfl, (s.trans s2).free hD, hx⟩
theorem ev_dc (it : EvIs wi σ H (xs.map φ)) (f : α → Option (Str × Int)) (hn : xs.length ≤ 1000) (hnd : ((xs.filterMap f).map (·.1)).Nodup)
    (hs : ∀ (i : Nat) (a : α) (x : V) (H' : Hp), xs[i]? = some a → Same H H' → Im H' (φ a) x → TurnD C g tt tk tv vs σ x H' (f a)) : Ev C (tDc wi g tt tk tv vs) σ H (.dic (xs.filterMap f)) := fun H1 s Q q =>
  ev_dcF it f hn hnd hs H1 s Q fun v H' s' ⟨p, e, _, h⟩ => q v H' s' ⟨p, e, h⟩
theorem ev_neg {i : Int} (e : Ev C te σ H (.d (.int i))) : Ev C (tUn (rU fun i => .int (-i)) te) σ H (.d (.int (-i))) := fun H1 s Q q => e H1 s _ fun v H2 s2 h => ⟨i, rp_int h, q _ H2 s2 rfl⟩
theorem it_down {a b : Int} (e : EvA C t σ H [.d (.int a), .d (.int b), .d (.int (-1))]) (ha : -1000 ≤ a ∧ a ≤ 1000) (hb : -1000 ≤ b ∧ b ≤ 1000) : EvIt (iRng3 t) σ H ((List.range (a - b).toNat).map fun i => .int (a - (i : Nat))) := fun H1 s R q => e H1 s _ fun us H2 s2 h => by
  obtain ⟨v, w, x, ev, h1, h2, h3⟩ := h.three
  refine ⟨a, b, -1, (a - b).toNat, by rw [ev, rp_int h1, rp_int h2, rp_int h3], RgC.neg (by omega) (by omega) (by omega) (by omega), q _ H2 s2 ?_⟩
  have wk := walk_rangeC (lo := a) (c := -1) (n := (a - b).toNat)
  unfold WkD
  rw [List.length_map, List.length_range]
  refine wk.mono (fun _ _ => True.intro) fun i H' x H'' hi tx y => ?_
  obtain ⟨y1, y2⟩ := y
  subst y1
  subst y2
  exact ⟨Same.refl _, .int (a - (i : Nat)), by rw [List.getElem?_map, List.getElem?_range hi] <;> rfl, by show V.int (a + (i : Nat) * -1) = V.int (a - (i : Nat)); congr 1; omega⟩
end
end Bf

/-! Mir: what the defs compute, in plain Lean. -/
namespace Bf
open PySem L2 Bx

def Pl.n (P : Pl) : Nat := P.rates.length
def Pl.names (P : Pl) : List Str := P.pts.map (·.1)
def Pl.up (P : Pl) (b : Nat) : Option Nat := P.above.getD b none
def lineF : Nat → Pl → Nat → List Nat
  | 0, _, b => [b]
  | f + 1, P, b => match P.up b with
    | none => [b]
    | some j => lineF f P j ++ [b]
def line (P : Pl) (b : Nat) : List Nat := lineF b P b
def hp (P : Pl) (st : List Bool) : Option Nat → Bool
  | none => false
  | some b => (line P b).all fun i => st.getD i false
def liveIn (P : Pl) (w : List (Option Nat)) (st : List Bool) : List Str := (P.names.zip w).filterMap fun e => if hp P st e.2 then some e.1 else none
def get (L : List (Str × Int)) (z : Str) : Int := (L.lookup z).getD 0
def addTo (v : Int) (f : List Int) (i : Nat) : List Int := f.set i (f.getD i 0 + v)
def curStep (P : Pl) (st : List Bool) (g : Str → Int) (f : List Int) (e : Str × Option Nat) : List Int := match e.2 with
  | none => f
  | some b => if hp P st (some b) then (line P b).foldl (addTo (g e.1)) f else f
def cur (P : Pl) (w : List (Option Nat)) (st : List Bool) (g : Str → Int) : List Int := (P.names.zip w).foldl (curStep P st g) (P.rates.map fun _ => 0)
def over (P : Pl) (w : List (Option Nat)) (st : List Bool) (g : Str → Int) : List (Int × Int) :=
  (List.range P.n).filterMap fun i => if (cur P w st g).getD i 0 > P.rates.getD i 0 then some (P.rates.getD i 0, 0 - (i : Int)) else none
def pick : List (Int × Int) → Int × Int
  | [] => (0, 0)
  | [p] => p
  | p :: ps => if Rx.ltP p (pick ps) then p else pick ps
def tripsF (P : Pl) (w : List (Option Nat)) (g : Str → Int) : Nat → List Bool → List Bool × List Nat
  | 0, st => (st, [])
  | f + 1, st => if over P w st g = [] then (st, []) else
      let i := (0 - (pick (over P w st g)).2).toNat
      ((tripsF P w g f (st.set i false)).1, i :: (tripsF P w g f (st.set i false)).2)
def trips (P : Pl) (w : List (Option Nat)) (st : List Bool) (L : List (Str × Int)) : List Bool × List Nat := tripsF P w (get L) (P.n + 1) st
def allOn (P : Pl) : List Bool := P.rates.map fun _ => true
/-- plugging: state, numbers, the loads that run -/
def plugStep (P : Pl) (w : List (Option Nat)) (L : List (Str × Int)) (a : List Bool × List Nat × List (Str × Int)) (z : Str) : List Bool × List Nat × List (Str × Int) :=
  let here := a.2.2 ++ [(z, get L z)]
  let r := trips P w a.1 here
  (r.1, a.2.1 ++ r.2, here)
def plugF (P : Pl) (w : List (Option Nat)) (L : List (Str × Int)) (order : List Str) : List Bool × List Nat × List (Str × Int) := order.foldl (plugStep P w L) (allOn P, [], [])
def plugged (P : Pl) (w : List (Option Nat)) (L : List (Str × Int)) (order : List Str) : List Bool × List Nat := ((plugF P w L order).1, (plugF P w L order).2.1)
def ordsF {α : Type} : Nat → List α → List (List α)
  | 0, _ => [[]]
  | n + 1, l => if l.isEmpty then [[]] else (l.zipIdx).flatMap fun e => (ordsF n (l.eraseIdx e.2)).map (e.1 :: ·)
def ords {α : Type} (l : List α) : List (List α) := ordsF l.length l
def chs {α : Type} : Nat → List α → List (List α)
  | 0, _ => [[]]
  | n + 1, l => (l.zipIdx).flatMap fun e => (chs n (l.drop (e.2 + 1))).map (e.1 :: ·)
/-- the names of loads that live -/
def lit (P : Pl) (w : List (Option Nat)) (st : List Bool) (L : List (Str × Int)) : List Str := (liveIn P w st).filter fun z => (L.lookup z).isSome
def bestStep (P : Pl) (w : List (Option Nat)) (L : List (Str × Int)) (f : List Str × Option (List Str)) (o : List Str) : List Str × Option (List Str) :=
  let ns := lit P w (plugged P w L o).1 L
  if f.2.isNone || decide (ns.length > f.1.length) then (ns, some o) else f
def best (P : Pl) (w : List (Option Nat)) (L : List (Str × Int)) : List Str × Option (List Str) := (ords (L.map (·.1))).foldl (bestStep P w L) ([], none)
def doesRun (P : Pl) (w : List (Option Nat)) (L : List (Str × Int)) : Bool := (trips P w (allOn P) L).2.isEmpty
def restr (L : List (Str × Int)) (zs : List Str) : List (Str × Int) := zs.map fun z => (z, get L z)
def mostF (P : Pl) (w : List (Option Nat)) (L : List (Str × Int)) (names : List Str) : Nat → List Str
  | 0 => []
  | n + 1 => match (chs (n + 1) names).find? fun zs => doesRun P w (restr L zs) with
    | some zs => zs
    | none => mostF P w L names n
def most (P : Pl) (w : List (Option Nat)) (L : List (Str × Int)) : List Str :=
  let names := P.names.filter fun z => (L.lookup z).isSome
  mostF P w L names names.length

/-! ### what is asked of plans, wirings, states, loads -/
def N3 : List Str := ["bed", "desk", "oven"]
structure GoodP (P : Pl) : Prop where
  r1 : 1 ≤ P.n
  r5 : P.n ≤ 5
  rates : ∀ r ∈ P.rates, 1 ≤ r ∧ r ≤ 99
  al : P.above.length = P.n
  ab : ∀ b j : Nat, P.above[b]? = some (some j) → j < b
  nm : ∃ m, 1 ≤ m ∧ m ≤ 3 ∧ P.names = N3.take m
  kd : ∀ p ∈ P.pts, p.2.1 = "lamp" ∨ p.2.1 = "plug"
  rm : ∀ p ∈ P.pts, 0 ≤ p.2.2 ∧ p.2.2 ≤ 9
  ru : P.rule = "free" ∨ P.rule = "rooms"
def follows (P : Pl) (w : List (Option Nat)) : Prop := P.rule = "free" ∨ ∀ (i j : Nat) (p q : Str × Str × Int) (b c : Option Nat), P.pts[i]? = some p → P.pts[j]? = some q → w[i]? = some b → w[j]? = some c → p.2.1 = "lamp" → q.2.1 = "lamp" → p.2.2 = q.2.2 → b = c
structure GoodW (P : Pl) (w : List (Option Nat)) : Prop where
  len : w.length = P.pts.length
  rng : ∀ b : Nat, some b ∈ w → b < P.n
  fol : follows P w
structure GoodL (P : Pl) (L : List (Str × Int)) : Prop where
  keys : (L.map (·.1)).Sublist P.names
  vals : ∀ e ∈ L, 1 ≤ e.2 ∧ e.2 ≤ 99

theorem line_eq {P : Pl} (hP : ∀ b j : Nat, P.above[b]? = some (some j) → j < b) (b : Nat) : line P b = match P.up b with
    | none => [b]
    | some j => line P j ++ [b] := by
  have upj : ∀ b j, P.up b = some j → j < b := fun b j h => by
    unfold Pl.up at h
    rw [List.getD_eq_getElem?_getD] at h
    cases e : P.above[b]? with
    | none => rw [e] at h; cases h
    | some o => rw [e] at h; exact hP b j (by rw [e]; exact congrArg some h)
  have key : ∀ f b, b ≤ f → lineF f P b = lineF b P b := by
    intro f
    induction f using Nat.strongRecOn with
    | ind f ih =>
      intro b hb
      cases f with
      | zero => rw [Nat.le_zero.mp hb]
      | succ f =>
        cases b with
        | zero =>
          show (match P.up 0 with | none => [0] | some j => lineF f P j ++ [0]) = [0]
          cases h : P.up 0 with
          | none => rfl
          | some j => exact absurd (upj 0 j h) (Nat.not_lt_zero _)
        | succ b =>
          show (match P.up (b + 1) with | none => [b + 1] | some j => lineF f P j ++ [b + 1]) = (match P.up (b + 1) with | none => [b + 1] | some j => lineF b P j ++ [b + 1])
          cases h : P.up (b + 1) with
          | none => rfl
          | some j =>
            have hj := upj _ j h
            show lineF f P j ++ [b + 1] = lineF b P j ++ [b + 1]
            rw [ih f (Nat.lt_succ_self _) j (by omega), ih b (by omega) j (by omega)]
  unfold line
  cases b with
  | zero =>
    cases h : P.up 0 with
    | none => rfl
    | some j => exact absurd (upj 0 j h) (Nat.not_lt_zero _)
  | succ b =>
    show (match P.up (b + 1) with | none => [b + 1] | some j => lineF b P j ++ [b + 1]) = _
    cases h : P.up (b + 1) with
    | none => rfl
    | some j =>
      have hj := upj _ j h
      show lineF b P j ++ [b + 1] = lineF j P j ++ [b + 1]
      rw [key b j (by omega)]
theorem GoodP.up {P : Pl} (h : GoodP P) {b j : Nat} (e : P.up b = some j) : j < b := by
  unfold Pl.up at e
  rw [List.getD_eq_getElem?_getD] at e
  cases q : P.above[b]? with
  | none => rw [q] at e; cases e
  | some o => rw [q] at e; exact h.ab b j (by rw [q]; exact congrArg some e)
/-- the line's places are at most its end -/
theorem line_le {P : Pl} (h : GoodP P) : ∀ b i, i ∈ line P b → i ≤ b := by
  intro b
  induction b using Nat.strongRecOn with
  | ind b ih =>
    intro i hi
    rw [line_eq h.ab] at hi
    cases e : P.up b with
    | none =>
      rw [e] at hi
      rw [List.mem_singleton.mp hi]
      exact Nat.le_refl _
    | some j =>
      rw [e] at hi
      rcases List.mem_append.mp hi with q | q
      · exact Nat.le_trans (ih j (h.up e) i q) (Nat.le_of_lt (h.up e))
      · rw [List.mem_singleton.mp q]
        exact Nat.le_refl _
theorem line_len {P : Pl} (h : GoodP P) : ∀ b, (line P b).length ≤ b + 1 := by
  intro b
  induction b using Nat.strongRecOn with
  | ind b ih =>
    rw [line_eq h.ab]
    cases e : P.up b with
    | none =>
      show 1 ≤ b + 1
      omega
    | some j =>
      have := ih j (h.up e)
      have := h.up e
      show (line P j ++ [b]).length ≤ b + 1
      rw [List.length_append, List.length_singleton]
      omega

/-! ### sorted names -/
def rank (z : Str) : Nat := if z = "bed" then 0 else if z = "desk" then 1 else 2
theorem n3_cases {z : Str} (h : z ∈ N3) : z = "bed" ∨ z = "desk" ∨ z = "oven" := by
  rcases List.mem_cons.mp h with e | h
  · exact .inl e
  rcases List.mem_cons.mp h with e | h
  · exact .inr (.inl e)
  exact .inr (.inr (List.mem_singleton.mp h))
theorem rank_le {a b : Str} (ha : a ∈ N3) (hb : b ∈ N3) : PySem.Spec.ltCps b.cps.toList a.cps.toList = false ↔ rank a ≤ rank b := by
  rcases n3_cases ha with e | e | e <;> rcases n3_cases hb with f | f | f <;> (subst e; subst f; decide +kernel)
theorem rank_inj {a b : Str} (ha : a ∈ N3) (hb : b ∈ N3) (h : rank a = rank b) : a = b := by
  rcases n3_cases ha with e | e | e <;> rcases n3_cases hb with f | f | f <;> subst e <;> subst f <;> first | rfl | exact absurd h (by decide +kernel)
theorem srt_pw : ∀ (l : List Str) (x : Str), x ∈ N3 → (∀ y ∈ l, y ∈ N3) → PyProof.Rows.risingS x l = true → (∀ y ∈ l, rank x ≤ rank y) ∧ l.Pairwise (fun a b => rank a ≤ rank b)
  | [], _, _, _, _ => ⟨fun _ h => (nomatch h), .nil⟩
  | y :: l, x, hx, hl, h => by
    have h' : (!PySem.Spec.ltCps y.cps.toList x.cps.toList && PyProof.Rows.risingS y l) = true := h
    rw [Bool.and_eq_true, Bool.not_eq_true'] at h'
    have hy := hl y List.mem_cons_self
    have r1 := (rank_le hx hy).mp h'.1
    obtain ⟨q1, q2⟩ := srt_pw l y hy (fun z hz => hl z (List.mem_cons_of_mem _ hz)) h'.2
    refine ⟨fun z hz => ?_, List.pairwise_cons.mpr ⟨q1, q2⟩⟩
    rcases List.mem_cons.mp hz with e | hz
    · rw [e]; exact r1
    · exact Nat.le_trans r1 (q1 z hz)
theorem srt_pw' {l : List Str} (hl : ∀ y ∈ l, y ∈ N3) (h : PyProof.Rows.sortedS l = true) : l.Pairwise (fun a b => rank a ≤ rank b) := by
  cases l with
  | nil => exact .nil
  | cons x l =>
    obtain ⟨q1, q2⟩ := srt_pw l x (hl x List.mem_cons_self) (fun z hz => hl z (List.mem_cons_of_mem _ hz)) h
    exact List.pairwise_cons.mpr ⟨q1, q2⟩
theorem pw_uniq : ∀ {l m : List Str}, (∀ y ∈ l, y ∈ N3) → l.Perm m → l.Pairwise (fun a b => rank a ≤ rank b) → m.Pairwise (fun a b => rank a ≤ rank b) → l = m
  | [], m, _, p, _, _ => by rw [List.nil_perm.mp p]
  | x :: l, [], _, p, _, _ => by cases p.length_eq
  | x :: l, y :: m, hl, p, h1, h2 => by
    have hx := hl x List.mem_cons_self
    have hyl : y ∈ x :: l := p.mem_iff.mpr List.mem_cons_self
    have hxm : x ∈ y :: m := p.mem_iff.mp List.mem_cons_self
    have hy := hl y hyl
    have a1 : rank x ≤ rank y := by
      rcases List.mem_cons.mp hyl with e | hm
      · rw [e]; exact Nat.le_refl _
      · exact (List.pairwise_cons.mp h1).1 y hm
    have a2 : rank y ≤ rank x := by
      rcases List.mem_cons.mp hxm with e | hm
      · rw [e]; exact Nat.le_refl _
      · exact (List.pairwise_cons.mp h2).1 x hm
    have e := rank_inj hx hy (Nat.le_antisymm a1 a2)
    subst e
    rw [pw_uniq (fun z hz => hl z (List.mem_cons_of_mem _ hz)) (List.perm_cons x |>.mp p) (List.pairwise_cons.mp h1).2 (List.pairwise_cons.mp h2).2]
/-- sorted(..) of names is told -/
theorem srt_uniq {ys ks : List Str} (hk : ks.Sublist N3) (p : ys.Perm ks) (h : PyProof.Rows.sortedS ys = true) : ys = ks := by
  have hm : ∀ y ∈ ys, y ∈ N3 := fun y hy => hk.subset (p.mem_iff.mp hy)
  refine pw_uniq hm p (srt_pw' hm h) ?_
  have hN : N3.Pairwise (fun a b => rank a ≤ rank b) := by decide +kernel
  exact hN.sublist hk
theorem GoodP.sub {P : Pl} (h : GoodP P) : P.names.Sublist N3 := by
  obtain ⟨m, _, _, e⟩ := h.nm
  rw [e]
  exact List.take_sublist _ _
theorem GoodP.nl {P : Pl} (h : GoodP P) : P.names.length ≤ 3 := h.sub.length_le
theorem GoodP.pl {P : Pl} (h : GoodP P) : P.pts.length ≤ 3 := by
  have e := h.nl
  unfold Pl.names at e
  rw [List.length_map] at e
  exact e
theorem GoodL.sub {P : Pl} {L : List (Str × Int)} (h : GoodP P) (g : GoodL P L) : (L.map (·.1)).Sublist N3 := g.keys.trans h.sub
theorem GoodL.len {P : Pl} {L : List (Str × Int)} (h : GoodP P) (g : GoodL P L) : L.length ≤ 3 := by
  have e := (GoodL.sub h g).length_le
  rw [List.length_map] at e
  exact e
theorem n3_nodup : N3.Nodup := by decide +kernel
theorem GoodL.nd {P : Pl} {L : List (Str × Int)} (h : GoodP P) (g : GoodL P L) : (L.map (·.1)).Nodup := n3_nodup.sublist (GoodL.sub h g)
theorem lookup_in {L : List (Str × Int)} {z : Str} {n : Int} (h : L.lookup z = some n) : (z, n) ∈ L := by
  induction L with
  | nil => cases h
  | cons e L ih =>
    rw [List.lookup_cons] at h
    by_cases q : z = e.1
    · have b : (z == e.1) = true := by rw [q]; exact beq_self_eq_true _
      rw [b] at h
      cases h
      rw [q]
      exact List.mem_cons_self
    · have b : (z == e.1) = false := beq_eq_false_iff_ne.mpr q
      rw [b] at h
      exact List.mem_cons_of_mem _ (ih h)
theorem lookup_mem {L : List (Str × Int)} (hn : (L.map (·.1)).Nodup) {e : Str × Int} (h : e ∈ L) : L.lookup e.1 = some e.2 := by
  induction L with
  | nil => cases h
  | cons a L ih =>
    rw [List.map_cons, List.nodup_cons] at hn
    rw [List.lookup_cons]
    rcases List.mem_cons.mp h with q | q
    · subst q
      rw [beq_self_eq_true]
    · have b : (e.1 == a.1) = false := beq_eq_false_iff_ne.mpr fun z => hn.1 (z ▸ List.mem_map_of_mem q)
      rw [b]
      exact ih hn.2 q
theorem lookup_some {L : List (Str × Int)} {z : Str} : (L.lookup z).isSome = true ↔ z ∈ L.map (·.1) := by
  induction L with
  | nil => simp
  | cons a L ih =>
    rw [List.lookup_cons, List.map_cons, List.mem_cons]
    by_cases q : z = a.1
    · have b : (z == a.1) = true := by rw [q]; exact beq_self_eq_true _
      rw [b]
      simp [q]
    · have b : (z == a.1) = false := beq_eq_false_iff_ne.mpr q
      rw [b]
      simp only [q, false_or]
      exact ih

/-! ### the least pair -/
theorem pick_cons2 (p q : Int × Int) (ps : List (Int × Int)) : pick (p :: q :: ps) = if Rx.ltP p (pick (q :: ps)) then p else pick (q :: ps) := rfl
theorem pick_mem : ∀ {ps : List (Int × Int)}, ps ≠ [] → pick ps ∈ ps
  | [], h => absurd rfl h
  | [p], _ => List.mem_cons_self
  | p :: q :: ps, _ => by
    rw [pick_cons2]
    split
    · exact List.mem_cons_self
    · exact List.mem_cons_of_mem _ (pick_mem (List.cons_ne_nil _ _))
theorem ltP_iff {p q : Int × Int} : Rx.ltP p q = true ↔ p.1 < q.1 ∨ (p.1 = q.1 ∧ p.2 < q.2) := by
  unfold Rx.ltP
  exact decide_eq_true_iff
theorem ltP_not {p q : Int × Int} : Rx.ltP p q = false ↔ ¬ (p.1 < q.1 ∨ (p.1 = q.1 ∧ p.2 < q.2)) := by
  unfold Rx.ltP
  exact decide_eq_false_iff_not
theorem pick_le : ∀ {ps : List (Int × Int)} (q : Int × Int), q ∈ ps → Rx.ltP q (pick ps) = false
  | [], _, h => nomatch h
  | [p], q, h => by
    rw [List.mem_singleton.mp h]
    show Rx.ltP p p = false
    rw [ltP_not]
    omega
  | p :: r :: ps, q, h => by
    rw [pick_cons2]
    by_cases hc : Rx.ltP p (pick (r :: ps)) = true
    · rw [if_pos hc]
      rw [ltP_iff] at hc
      rcases List.mem_cons.mp h with e | h
      · rw [e, ltP_not]
        omega
      · have h2 := pick_le q h
        rw [ltP_not] at h2 ⊢
        omega
    · rw [if_neg hc]
      rcases List.mem_cons.mp h with e | h
      · rw [e]
        exact eq_false_of_ne_true hc
      · exact pick_le q h
theorem pick_uniq {ps : List (Int × Int)} {p : Int × Int} (hp : p ∈ ps) (h : ∀ q ∈ ps, Rx.ltP q p = false) : p = pick ps := by
  have h1 := h _ (pick_mem (List.ne_nil_of_mem hp))
  have h2 := pick_le p hp
  rw [ltP_not] at h1 h2
  have e1 : p.1 = (pick ps).1 := by omega
  have e2 : p.2 = (pick ps).2 := by omega
  exact Prod.ext e1 e2
end Bf

/-! Pln: the plain law's facts: currents, trips. -/
namespace Bf
open PySem L2 Bx
theorem addTo_at (v : Int) (f : List Int) (i j : Nat) : (addTo v f i).getD j 0 = if i = j ∧ i < f.length then f.getD i 0 + v else f.getD j 0 := by
  unfold addTo
  rw [List.getD_eq_getElem?_getD, List.getElem?_set, List.getD_eq_getElem?_getD, List.getD_eq_getElem?_getD]
  by_cases h : i = j
  · by_cases h2 : i < f.length
    · rw [if_pos h, if_pos h2, if_pos ⟨h, h2⟩]
      rfl
    · rw [if_pos h, if_neg h2, if_neg fun z => h2 z.2]
      rw [← h, List.getElem?_eq_none (by omega)]
  · rw [if_neg h, if_neg fun z => h z.1]
theorem fold_on {st : List Bool} (v : Int) : ∀ (l : List Nat) (f : List Int), (∀ i ∈ l, st.getD i false = true) → (∀ j, f.getD j 0 ≠ 0 → st.getD j false = true) → ∀ j, (l.foldl (addTo v) f).getD j 0 ≠ 0 → st.getD j false = true
  | [], _, _, h => h
  | i :: l, f, hl, h => fold_on v l (addTo v f i) (fun k hk => hl k (List.mem_cons_of_mem _ hk)) fun j hj => by
    rw [addTo_at] at hj
    by_cases c : i = j ∧ i < f.length
    · rw [← c.1]
      exact hl i List.mem_cons_self
    · rw [if_neg c] at hj
      exact h j hj
theorem cur_on {P : Pl} {w : List (Option Nat)} {st : List Bool} {g : Str → Int} : ∀ j, (cur P w st g).getD j 0 ≠ 0 → st.getD j false = true := by
  unfold cur
  have key : ∀ (l : List (Str × Option Nat)) (f : List Int), (∀ j, f.getD j 0 ≠ 0 → st.getD j false = true) → ∀ j, (l.foldl (curStep P st g) f).getD j 0 ≠ 0 → st.getD j false = true := by
    intro l
    induction l with
    | nil => intro f h; exact h
    | cons e l ih =>
      intro f h
      refine ih _ ?_
      unfold curStep
      cases e.2 with
      | none => exact h
      | some b =>
        show ∀ j, (if hp P st (some b) = true then _ else f).getD j 0 ≠ 0 → _
        by_cases c : hp P st (some b) = true
        · rw [if_pos c]
          exact fold_on _ _ _ (fun i hi => List.all_eq_true.mp c i hi) h
        · rw [if_neg c]
          exact h
  refine key _ _ fun j hj => ?_
  exfalso
  apply hj
  rw [List.getD_eq_getElem?_getD, List.getElem?_map]
  cases P.rates[j]? <;> rfl
def cnt (st : List Bool) : Nat := (st.filter id).length
theorem cnt_le (st : List Bool) : cnt st ≤ st.length := List.length_filter_le _ _
theorem cnt_off {st : List Bool} {i : Nat} (h : st.getD i false = true) : cnt (st.set i false) + 1 = cnt st := by
  induction st generalizing i with
  | nil => cases h
  | cons b st ih =>
    cases i with
    | zero =>
      have e : b = true := h
      rw [e]
      rfl
    | succ i =>
      have e := ih (i := i) h
      unfold cnt at e ⊢
      cases b with
      | true =>
        show ((st.set i false).filter id).length + 1 + 1 = (st.filter id).length + 1
        omega
      | false => exact e
theorem over_mem {P : Pl} {w : List (Option Nat)} {st : List Bool} {g : Str → Int} {p : Int × Int} (h : p ∈ over P w st g) : ∃ i, i < P.n ∧ p = (P.rates.getD i 0, 0 - (i : Int)) ∧ (cur P w st g).getD i 0 > P.rates.getD i 0 := by
  unfold over at h
  obtain ⟨i, hi, e⟩ := List.mem_filterMap.mp h
  by_cases c : (cur P w st g).getD i 0 > P.rates.getD i 0
  · rw [if_pos c] at e
    exact ⟨i, List.mem_range.mp hi, (Option.some.inj e).symm, c⟩
  · rw [if_neg c] at e
    cases e
def pickI (P : Pl) (w : List (Option Nat)) (st : List Bool) (g : Str → Int) : Nat := (0 - (pick (over P w st g)).2).toNat
theorem rate_pos {P : Pl} (h : GoodP P) {i : Nat} (hi : i < P.n) : 1 ≤ P.rates.getD i 0 := by
  have hi' : i < P.rates.length := hi
  have e : P.rates.getD i 0 = P.rates[i] := by rw [List.getD_eq_getElem?_getD, List.getElem?_eq_getElem hi'] <;> rfl
  rw [e]
  exact (h.rates _ (List.getElem_mem hi')).1
theorem pick_spec {P : Pl} {w : List (Option Nat)} {st : List Bool} {g : Str → Int} (hG : GoodP P) (h : over P w st g ≠ []) :
    pickI P w st g < P.n ∧ 0 - (pick (over P w st g)).2 = ((pickI P w st g : Nat) : Int) ∧ st.getD (pickI P w st g) false = true := by
  obtain ⟨i, hi, e, c⟩ := over_mem (pick_mem h)
  have e2 : pickI P w st g = i := by
    unfold pickI
    rw [e]
    show (0 - (0 - (i : Int))).toNat = i
    omega
  rw [e2, e]
  refine ⟨hi, by show (0 : Int) - (0 - (i : Int)) = i; omega, cur_on (P := P) (w := w) (g := g) i ?_⟩
  have := rate_pos hG hi
  omega
theorem tripsF_nil {P : Pl} {w : List (Option Nat)} {st : List Bool} {g : Str → Int} (f : Nat) (h : over P w st g = []) : tripsF P w g f st = (st, []) := by
  cases f with
  | zero => rfl
  | succ f => exact if_pos h
theorem tripsF_cons {P : Pl} {w : List (Option Nat)} {st : List Bool} {g : Str → Int} (f : Nat) (h : over P w st g ≠ []) :
    tripsF P w g (f + 1) st = ((tripsF P w g f (st.set (pickI P w st g) false)).1, pickI P w st g :: (tripsF P w g f (st.set (pickI P w st g) false)).2) := if_neg h
theorem tripsF_len {P : Pl} {w : List (Option Nat)} {g : Str → Int} : ∀ (f : Nat) (st : List Bool), (tripsF P w g f st).1.length = st.length
  | 0, _ => rfl
  | f + 1, st => by
    by_cases h : over P w st g = []
    · rw [tripsF_nil _ h]
    · rw [tripsF_cons _ h]
      show (tripsF P w g f _).1.length = _
      rw [tripsF_len f, List.length_set]
theorem trips_len {P : Pl} {w : List (Option Nat)} {st : List Bool} {L : List (Str × Int)} : (trips P w st L).1.length = st.length := tripsF_len _ _
theorem tripsF_cnt {P : Pl} {w : List (Option Nat)} {g : Str → Int} (hG : GoodP P) : ∀ (f : Nat) (st : List Bool), (tripsF P w g f st).2.length + cnt (tripsF P w g f st).1 = cnt st
  | 0, st => Nat.zero_add _
  | f + 1, st => by
    by_cases h : over P w st g = []
    · rw [tripsF_nil _ h]
      exact Nat.zero_add _
    · rw [tripsF_cons _ h]
      have e := tripsF_cnt (w := w) (g := g) hG f (st.set (pickI P w st g) false)
      have c := cnt_off (pick_spec hG h).2.2
      show ((tripsF P w g f _).2.length + 1) + cnt (tripsF P w g f _).1 = _
      omega
theorem trips_cnt {P : Pl} {w : List (Option Nat)} {st : List Bool} {L : List (Str × Int)} (hG : GoodP P) : (trips P w st L).2.length + cnt (trips P w st L).1 = cnt st := tripsF_cnt hG _ _
theorem cnt_on (P : Pl) : cnt (allOn P) = P.n := by
  unfold cnt allOn Pl.n
  induction P.rates with
  | nil => rfl
  | cons r l ih =>
    show (List.filter id (l.map fun _ => true)).length + 1 = l.length + 1
    rw [ih]
/-- plugging so far -/
structure PlugOk (P : Pl) (L : List (Str × Int)) (order : List Str) (a : List Bool × List Nat × List (Str × Int)) : Prop where
  len : a.1.length = P.n
  cnt : a.2.1.length + cnt a.1 = P.n
  here : a.2.2 = restr L order
theorem plug_ok {P : Pl} {w : List (Option Nat)} {L : List (Str × Int)} (hG : GoodP P) (order : List Str) : PlugOk P L order (plugF P w L order) := by
  unfold plugF
  have key : ∀ (o1 o2 : List Str) a, PlugOk P L o1 a → PlugOk P L (o1 ++ o2) (o2.foldl (plugStep P w L) a) := by
    intro o1 o2
    induction o2 generalizing o1 with
    | nil => intro a h; rw [List.append_nil]; exact h
    | cons z o2 ih =>
      intro a h
      have h2 : PlugOk P L (o1 ++ [z]) (plugStep P w L a z) := by
        have c := trips_cnt (w := w) (st := a.1) (L := a.2.2 ++ [(z, get L z)]) hG
        refine ⟨trips_len.trans h.len, ?_, ?_⟩
        · show (a.2.1 ++ _).length + _ = _
          rw [List.length_append]
          have := h.cnt
          show _ + (trips P w a.1 (a.2.2 ++ [(z, get L z)])).2.length + cnt (trips P w a.1 (a.2.2 ++ [(z, get L z)])).1 = _
          omega
        · show a.2.2 ++ [(z, get L z)] = _
          rw [h.here]
          unfold restr
          rw [List.map_append]
          rfl
      have h3 := ih (o1 ++ [z]) _ h2
      rw [List.append_assoc] at h3
      exact h3
  have h := key [] order (allOn P, [], []) ⟨List.length_map _, by show 0 + cnt (allOn P) = _; rw [cnt_on, Nat.zero_add], rfl⟩
  exact h
theorem restr_keys (L : List (Str × Int)) (zs : List Str) : (restr L zs).map (·.1) = zs := by
  unfold restr
  rw [List.map_map]
  exact List.map_id' zs
/-! ### orders -/
theorem cons_erase_perm {α : Type} : ∀ (l : List α) (i : Nat) (a : α), l[i]? = some a → (a :: l.eraseIdx i).Perm l
  | [], _, _, h => by cases h
  | b :: l, 0, a, h => by
    cases h
    exact List.Perm.refl _
  | b :: l, i + 1, a, h => by
    have e := cons_erase_perm l i a h
    exact (List.Perm.swap b a _).trans (List.Perm.cons b e)
theorem ordsF_perm {α : Type} : ∀ (n : Nat) (l o : List α), l.length = n → o ∈ ordsF n l → o.Perm l
  | 0, l, o, hl, h => by
    rw [List.mem_singleton.mp h, List.eq_nil_of_length_eq_zero hl]
  | n + 1, l, o, hl, h => by
    have h : o ∈ (if l.isEmpty then [[]] else (l.zipIdx).flatMap fun e => (ordsF n (l.eraseIdx e.2)).map (e.1 :: ·)) := h
    rw [if_neg (by cases l with | nil => cases hl | cons a l => exact Bool.false_ne_true)] at h
    obtain ⟨e, he1, he⟩ := List.mem_flatMap.mp h
    obtain ⟨o2, h2, rfl⟩ := List.mem_map.mp he
    obtain ⟨a, i⟩ := e
    have hi := List.mk_mem_zipIdx_iff_getElem?.mp he1
    have hil := (List.getElem?_eq_some_iff.mp hi).1
    have p := ordsF_perm n (l.eraseIdx i) o2 (by rw [List.length_eraseIdx_of_lt hil]; omega) h2
    exact (List.Perm.cons a p).trans (cons_erase_perm l i a hi)
theorem ords_perm {α : Type} {l o : List α} (h : o ∈ ords l) : o.Perm l := ordsF_perm _ l o rfl h
theorem ordsF_all {α : Type} : ∀ (n : Nat) (l o : List α), l.length = n → o.Perm l → o ∈ ordsF n l
  | 0, l, o, hl, p => by
    have e := List.eq_nil_of_length_eq_zero hl
    subst e
    rw [List.perm_nil.mp p]
    exact List.mem_singleton.mpr rfl
  | n + 1, l, o, hl, p => by
    show o ∈ (if l.isEmpty then [[]] else (l.zipIdx).flatMap fun e => (ordsF n (l.eraseIdx e.2)).map (e.1 :: ·))
    rw [if_neg (by cases l with | nil => cases hl | cons a l => exact Bool.false_ne_true)]
    cases o with
    | nil =>
      have := p.length_eq
      rw [hl] at this
      cases this
    | cons a o =>
      have ha : a ∈ l := p.mem_iff.mp List.mem_cons_self
      obtain ⟨i, hi⟩ := List.mem_iff_getElem?.mp ha
      have hil := (List.getElem?_eq_some_iff.mp hi).1
      refine List.mem_flatMap.mpr ⟨(a, i), List.mk_mem_zipIdx_iff_getElem?.mpr hi, List.mem_map.mpr ⟨o, ?_, rfl⟩⟩
      refine ordsF_all n (l.eraseIdx i) o (by rw [List.length_eraseIdx_of_lt hil]; omega) ?_
      exact List.Perm.cons_inv (p.trans (cons_erase_perm l i a hi).symm)
theorem ords_all {α : Type} {l o : List α} (h : o.Perm l) : o ∈ ords l := ordsF_all _ l o rfl h
/-! ### no loads -/
theorem fold_zero {l : List Nat} : ∀ {f : List Int}, (∀ j, f.getD j 0 = 0) → ∀ j, (l.foldl (addTo 0) f).getD j 0 = 0 := by
  induction l with
  | nil => intro f h; exact h
  | cons i l ih =>
    intro f h
    refine ih fun j => ?_
    rw [addTo_at]
    split
    · rw [h i]
      rfl
    · exact h j
theorem cur_zero {P : Pl} {w : List (Option Nat)} {st : List Bool} {g : Str → Int} (hg : ∀ z, g z = 0) : ∀ j, (cur P w st g).getD j 0 = 0 := by
  unfold cur
  have key : ∀ (l : List (Str × Option Nat)) (f : List Int), (∀ j, f.getD j 0 = 0) → ∀ j, (l.foldl (curStep P st g) f).getD j 0 = 0 := by
    intro l
    induction l with
    | nil => intro f h; exact h
    | cons e l ih =>
      intro f h
      refine ih _ ?_
      unfold curStep
      cases e.2 with
      | none => exact h
      | some b =>
        show ∀ j, (if hp P st (some b) = true then _ else f).getD j 0 = 0
        by_cases c : hp P st (some b) = true
        · rw [if_pos c, hg]
          exact fold_zero h
        · rw [if_neg c]
          exact h
  refine key _ _ fun j => ?_
  rw [List.getD_eq_getElem?_getD, List.getElem?_map]
  cases P.rates[j]? <;> rfl
theorem over_none {P : Pl} {w : List (Option Nat)} {st : List Bool} {g : Str → Int} (h : ∀ i, i < P.n → (cur P w st g).getD i 0 ≤ P.rates.getD i 0) : over P w st g = [] := by
  unfold over
  rw [List.filterMap_eq_nil_iff]
  intro i hi
  have := h i (List.mem_range.mp hi)
  exact if_neg (by omega)
theorem over_zero {P : Pl} {w : List (Option Nat)} {st : List Bool} {g : Str → Int} (hG : GoodP P) (hg : ∀ z, g z = 0) : over P w st g = [] := over_none fun i hi => by
  rw [cur_zero hg i]
  have := rate_pos hG hi
  omega
theorem get_nil (z : Str) : get [] z = 0 := rfl
theorem trips_zero {P : Pl} {w : List (Option Nat)} {st : List Bool} (hG : GoodP P) : trips P w st [] = (st, []) := tripsF_nil _ (over_zero hG get_nil)
theorem all_on_eq {P : Pl} {st : List Bool} (hl : st.length = P.n) (h : ∀ i, i < P.n → st.getD i false = true) : st = allOn P := by
  have hl' : st.length = P.rates.length := hl
  refine List.ext_getElem ?_ fun i h1 h2 => ?_
  · unfold allOn
    rw [List.length_map]
    exact hl
  · have e := h i (by show i < P.rates.length; omega)
    rw [List.getD_eq_getElem?_getD, List.getElem?_eq_getElem h1] at e
    have e2 : (allOn P)[i] = true := List.getElem_map (fun _ => true)
    rw [e2]
    exact e
end Bf

/-! Pl2: the plain law: ends are stable, numbers differ, the best is best, what fits never trips. -/
namespace Bf
open PySem L2 Bx
section
variable {P : Pl} {w : List (Option Nat)} {g : Str → Int}
theorem set_getD (st : List Bool) (i k : Nat) : (st.set i false).getD k false = if i = k then false else st.getD k false := by
  rw [List.getD_eq_getElem?_getD, List.getD_eq_getElem?_getD, List.getElem?_set]
  by_cases h : i = k
  · rw [if_pos h, if_pos h]
    split <;> rfl
  · rw [if_neg h, if_neg h]
theorem tripsF_stable (hG : GoodP P) : ∀ (f : Nat) (st : List Bool), cnt st < f → over P w (tripsF P w g f st).1 g = []
  | 0, st, h => absurd h (Nat.not_lt_zero _)
  | f + 1, st, h => by
    by_cases c : over P w st g = []
    · rw [tripsF_nil _ c]
      exact c
    · rw [tripsF_cons _ c]
      have e := cnt_off (pick_spec hG c).2.2
      exact tripsF_stable hG f _ (by omega)
theorem trips_stable (hG : GoodP P) {st : List Bool} {L : List (Str × Int)} (h : st.length = P.n) : over P w (trips P w st L).1 (get L) = [] :=
  tripsF_stable hG _ _ (by have := cnt_le st; omega)
structure TripOk (P : Pl) (st : List Bool) (r : List Bool × List Nat) : Prop where
  nd : r.2.Nodup
  off : ∀ k ∈ r.2, k < P.n ∧ st.getD k false = true ∧ r.1.getD k false = false
  mono : ∀ k, r.1.getD k false = true → st.getD k false = true
theorem tripsF_ok (hG : GoodP P) : ∀ (f : Nat) (st : List Bool), TripOk P st (tripsF P w g f st)
  | 0, st => ⟨.nil, fun k h => (nomatch h), fun k h => h⟩
  | f + 1, st => by
    by_cases c : over P w st g = []
    · rw [tripsF_nil _ c]
      exact ⟨.nil, fun k h => (nomatch h), fun k h => h⟩
    · rw [tripsF_cons _ c]
      obtain ⟨h1, _, h3⟩ := pick_spec hG c
      obtain ⟨q1, q2, q3⟩ := tripsF_ok hG f (st.set (pickI P w st g) false)
      have off : (tripsF P w g f (st.set (pickI P w st g) false)).1.getD (pickI P w st g) false = false := by
        cases e : (tripsF P w g f (st.set (pickI P w st g) false)).1.getD (pickI P w st g) false with
        | false => rfl
        | true =>
          have e2 := q3 _ e
          rw [set_getD, if_pos rfl] at e2
          cases e2
      refine ⟨List.nodup_cons.mpr ⟨fun hm => ?_, q1⟩, fun k hk => ?_, fun k hk => ?_⟩
      · have e2 := (q2 _ hm).2.1
        rw [set_getD, if_pos rfl] at e2
        cases e2
      · rcases List.mem_cons.mp hk with e | e
        · rw [e]
          exact ⟨h1, h3, off⟩
        · obtain ⟨a, b, d⟩ := q2 k e
          rw [set_getD] at b
          by_cases e2 : pickI P w st g = k
          · rw [if_pos e2] at b
            cases b
          · rw [if_neg e2] at b
            exact ⟨a, b, d⟩
      · have e2 := q3 k hk
        rw [set_getD] at e2
        by_cases e3 : pickI P w st g = k
        · rw [if_pos e3] at e2
          cases e2
        · rw [if_neg e3] at e2
          exact e2
theorem trips_ok (hG : GoodP P) (st : List Bool) (L : List (Str × Int)) : TripOk P st (trips P w st L) := tripsF_ok hG _ _
theorem trips_get {L M : List (Str × Int)} (h : get L = get M) (st : List Bool) : trips P w st L = trips P w st M := by
  unfold trips
  rw [h]
/-! ### loads -/
theorem lookup_restr (L : List (Str × Int)) (z : Str) : ∀ o : List Str, (restr L o).lookup z = if z ∈ o then some (get L z) else none
  | [] => rfl
  | a :: o => by
    show List.lookup z ((a, get L a) :: restr L o) = _
    rw [List.lookup_cons]
    by_cases q : z = a
    · subst q
      rw [beq_self_eq_true, if_pos List.mem_cons_self]
    · have b : (z == a) = false := beq_eq_false_iff_ne.mpr q
      rw [b]
      show List.lookup z (restr L o) = _
      rw [lookup_restr L z o]
      by_cases m : z ∈ o
      · rw [if_pos m, if_pos (List.mem_cons_of_mem _ m)]
      · rw [if_neg m, if_neg fun t => by
          rcases List.mem_cons.mp t with t | t
          · exact q t
          · exact m t]
theorem get_restr (L : List (Str × Int)) (o : List Str) (z : Str) : get (restr L o) z = if z ∈ o then get L z else 0 := by
  show (List.lookup z (restr L o)).getD 0 = _
  rw [lookup_restr]
  split <;> rfl
theorem get_out {L : List (Str × Int)} {z : Str} (h : z ∉ L.map (·.1)) : get L z = 0 := by
  unfold get
  cases e : L.lookup z with
  | none => rfl
  | some n => exact absurd (lookup_some.mp (by rw [e]; rfl)) h
theorem restr_perm {L : List (Str × Int)} {o : List Str} (p : o.Perm (L.map (·.1))) : get (restr L o) = get L := by
  funext z
  rw [get_restr]
  by_cases h : z ∈ o
  · rw [if_pos h]
  · rw [if_neg h]
    exact (get_out fun t => h (p.mem_iff.mpr t)).symm
theorem look_perm {L : List (Str × Int)} {o : List Str} (p : o.Perm (L.map (·.1))) (z : Str) : (restr L o).lookup z = L.lookup z := by
  rw [lookup_restr]
  by_cases h : z ∈ o
  · rw [if_pos h]
    have := lookup_some.mpr (p.mem_iff.mp h)
    unfold get
    cases e : L.lookup z with
    | none => rw [e] at this; cases this
    | some n => rfl
  · rw [if_neg h]
    cases e : L.lookup z with
    | none => rfl
    | some n => exact absurd (p.mem_iff.mpr (lookup_some.mp (by rw [e] <;> rfl))) h
theorem get_pos {L : List (Str × Int)} (hL : GoodL P L) {z : Str} (h : z ∈ L.map (·.1)) : 1 ≤ get L z ∧ get L z ≤ 99 := by
  unfold get
  have e := lookup_some.mpr h
  cases q : L.lookup z with
  | none => rw [q] at e; cases e
  | some n => exact hL.vals _ (lookup_in q)
theorem filt_congr {α β : Type} {f g : α → Option β} : ∀ {l : List α}, (∀ x ∈ l, f x = g x) → l.filterMap f = l.filterMap g
  | [], _ => rfl
  | x :: l, h => by
    rw [List.filterMap_cons, List.filterMap_cons, h x List.mem_cons_self, filt_congr fun y hy => h y (List.mem_cons_of_mem _ hy)]
/-- what the box shows of its loads -/
theorem now_gen : ∀ (names : List Str) (L : List (Str × Int)), names.Nodup → (L.map (·.1)).Sublist names → (names.filterMap fun z => if (L.lookup z).isSome = true then some (z, get L z) else none) = L
  | [], L, _, h => by
    have e : L.map (·.1) = [] := List.sublist_nil.mp h
    rw [List.map_eq_nil_iff.mp e]
    rfl
  | n :: ns, L, hn, h => by
    obtain ⟨hn1, hn2⟩ := List.nodup_cons.mp hn
    rw [List.filterMap_cons]
    by_cases c : n ∈ L.map (·.1)
    · cases L with
      | nil => cases c
      | cons e L =>
        have hs : (e.1 :: L.map (·.1)).Sublist (n :: ns) := h
        have e1 : e.1 = n := by
          rcases List.sublist_cons_iff.mp hs with hs | ⟨r, h1, _⟩
          · exact absurd (hs.subset (show n ∈ e.1 :: L.map (·.1) from c)) hn1
          · injection h1
        have hs2 : (L.map (·.1)).Sublist ns := by
          rw [e1] at hs
          exact List.cons_sublist_cons.mp hs
        have l1 : List.lookup n (e :: L) = some e.2 := by
          rw [List.lookup_cons, e1, beq_self_eq_true]
        have g1 : get (e :: L) n = e.2 := by
          unfold get
          rw [l1]
          rfl
        rw [l1, g1]
        show (n, e.2) :: _ = e :: L
        have e2 : (n, e.2) = e := by rw [← e1]
        rw [e2]
        congr 1
        refine Eq.trans (filt_congr fun z hz => ?_) (now_gen ns L hn2 hs2)
        have nz : z ≠ n := fun t => hn1 (t ▸ hz)
        have b : (z == e.1) = false := beq_eq_false_iff_ne.mpr (by rw [e1]; exact nz)
        have l2 : List.lookup z (e :: L) = L.lookup z := by rw [List.lookup_cons, b]
        have g2 : get (e :: L) z = get L z := by
          unfold get
          rw [l2]
        rw [l2, g2]
    · have l1 : L.lookup n = none := by
        cases e : L.lookup n with
        | none => rfl
        | some v => exact absurd (lookup_some.mp (by rw [e] <;> rfl)) c
      rw [l1]
      show ns.filterMap _ = L
      refine now_gen ns L hn2 ?_
      rcases List.sublist_cons_iff.mp h with h | ⟨r, h1, _⟩
      · exact h
      · rw [h1] at c
        exact absurd List.mem_cons_self c
/-! ### plugging -/
structure PlugOk2 (P : Pl) (L : List (Str × Int)) (order : List Str) (w : List (Option Nat)) (a : List Bool × List Nat × List (Str × Int)) : Prop where
  len : a.1.length = P.n
  here : a.2.2 = restr L order
  nd : a.2.1.Nodup
  off : ∀ k ∈ a.2.1, k < P.n ∧ a.1.getD k false = false
  st : order ≠ [] → over P w a.1 (get (restr L order)) = []
theorem plug_ok2 {L : List (Str × Int)} (hG : GoodP P) (order : List Str) : PlugOk2 P L order w (plugF P w L order) := by
  unfold plugF
  have key : ∀ (o1 o2 : List Str) a, PlugOk2 P L o1 w a → PlugOk2 P L (o1 ++ o2) w (o2.foldl (plugStep P w L) a) := by
    intro o1 o2
    induction o2 generalizing o1 with
    | nil => intro a h; rw [List.append_nil]; exact h
    | cons z o2 ih =>
      intro a h
      have h2 : PlugOk2 P L (o1 ++ [z]) w (plugStep P w L a z) := by
        have t := trips_ok (w := w) hG a.1 (a.2.2 ++ [(z, get L z)])
        have eh : a.2.2 ++ [(z, get L z)] = restr L (o1 ++ [z]) := by
          rw [h.here]
          unfold restr
          rw [List.map_append]
          rfl
        refine ⟨trips_len.trans h.len, eh, ?_, fun k hk => ?_, fun _ => ?_⟩
        · show (a.2.1 ++ (trips P w a.1 (a.2.2 ++ [(z, get L z)])).2).Nodup
          refine List.nodup_append.mpr ⟨h.nd, t.nd, fun x hx y hy e => ?_⟩
          have h1 := (h.off x hx).2
          have h2 := (t.off y hy).2.1
          rw [← e, h1] at h2
          cases h2
        · show k < P.n ∧ (trips P w a.1 (a.2.2 ++ [(z, get L z)])).1.getD k false = false
          rcases List.mem_append.mp hk with q | q
          · obtain ⟨q1, q2⟩ := h.off k q
            refine ⟨q1, ?_⟩
            cases e : (trips P w a.1 (a.2.2 ++ [(z, get L z)])).1.getD k false with
            | false => rfl
            | true =>
              have := t.mono k e
              rw [q2] at this
              cases this
          · exact ⟨(t.off k q).1, (t.off k q).2.2⟩
        · show over P w (trips P w a.1 (a.2.2 ++ [(z, get L z)])).1 _ = []
          rw [← eh]
          exact trips_stable hG h.len
      have h3 := ih (o1 ++ [z]) _ h2
      rw [List.append_assoc] at h3
      exact h3
  exact key [] order (allOn P, [], []) ⟨List.length_map _, rfl, .nil, fun k h => (nomatch h), fun h => absurd rfl h⟩
/-- the end state is stable under all the loads -/
theorem plugged_stable {L : List (Str × Int)} (hG : GoodP P) {o : List Str} (p : o.Perm (L.map (·.1))) : trips P w (plugged P w L o).1 L = ((plugged P w L o).1, []) := by
  cases o with
  | nil =>
    have e : L = [] := List.map_eq_nil_iff.mp (List.nil_perm.mp p)
    subst e
    exact trips_zero hG
  | cons z o =>
    have h := (plug_ok2 (w := w) (L := L) hG (z :: o)).st (List.cons_ne_nil _ _)
    rw [restr_perm p] at h
    exact tripsF_nil _ h
theorem plugF_take {L : List (Str × Int)} {o : List Str} {i : Nat} {z : Str} (h : o[i]? = some z) : plugF P w L (o.take (i + 1)) = plugStep P w L (plugF P w L (o.take i)) z := by
  unfold plugF
  rw [List.take_add_one, h, List.foldl_append]
  rfl
/-! ### the best -/
def litO (P : Pl) (w : List (Option Nat)) (L : List (Str × Int)) (o : List Str) : List Str := lit P w (plugged P w L o).1 L
theorem best_gen (L : List (Str × Int)) : ∀ (os done : List (List Str)) (f : List Str × Option (List Str)), ((done = [] ∧ f = ([], none)) ∨ ((∃ o ∈ done, f = (litO P w L o, some o)) ∧ ∀ o ∈ done, (litO P w L o).length ≤ f.1.length)) →
    (done ++ os = [] ∧ os.foldl (bestStep P w L) f = ([], none)) ∨ ((∃ o ∈ done ++ os, os.foldl (bestStep P w L) f = (litO P w L o, some o)) ∧ ∀ o ∈ done ++ os, (litO P w L o).length ≤ (os.foldl (bestStep P w L) f).1.length)
  | [], done, f, h => by
    rw [List.append_nil]
    exact h
  | o :: os, done, f, h => by
    have h2 := best_gen L os (done ++ [o]) (bestStep P w L f o) (.inr ?_)
    · rw [List.append_assoc] at h2
      exact h2
    · have es : bestStep P w L f o = if (f.2.isNone || decide ((litO P w L o).length > f.1.length)) = true then (litO P w L o, some o) else f := rfl
      rw [es]
      by_cases c : (f.2.isNone || decide ((litO P w L o).length > f.1.length)) = true
      · rw [if_pos c]
        refine ⟨⟨o, List.mem_append_right _ List.mem_cons_self, rfl⟩, fun q hq => ?_⟩
        rcases List.mem_append.mp hq with t | t
        · rcases h with ⟨h1, _⟩ | ⟨⟨o2, h1, h2⟩, h3⟩
          · rw [h1] at t
            cases t
          · have e := h3 q t
            rw [h2] at c e
            have c2 : (litO P w L o).length > (litO P w L o2).length := by
              have c3 : (false || decide ((litO P w L o).length > (litO P w L o2).length)) = true := c
              rw [Bool.false_or] at c3
              exact of_decide_eq_true c3
            show (litO P w L q).length ≤ (litO P w L o).length
            have e' : (litO P w L q).length ≤ (litO P w L o2).length := e
            omega
        · rw [List.mem_singleton.mp t]
          exact Nat.le_refl _
      · rw [if_neg c]
        have c' := eq_false_of_ne_true c
        rw [Bool.or_eq_false_iff] at c'
        rcases h with ⟨h1, h2⟩ | ⟨⟨o2, h1, h2⟩, h3⟩
        · rw [h2] at c'
          exact absurd c'.1 (by decide)
        · refine ⟨⟨o2, List.mem_append_left _ h1, h2⟩, fun q hq => ?_⟩
          rcases List.mem_append.mp hq with t | t
          · exact h3 q t
          · rw [List.mem_singleton.mp t]
            have := of_decide_eq_false c'.2
            omega
theorem best_spec (L : List (Str × Int)) : ∃ o, o.Perm (L.map (·.1)) ∧ best P w L = (litO P w L o, some o) ∧ ∀ q, q.Perm (L.map (·.1)) → (litO P w L q).length ≤ (best P w L).1.length := by
  have h := best_gen (P := P) (w := w) L (ords (L.map (·.1))) [] ([], none) (.inl ⟨rfl, rfl⟩)
  have hm : (L.map (·.1)) ∈ ords (L.map (·.1)) := ords_all (List.Perm.refl _)
  rcases h with ⟨h1, _⟩ | ⟨⟨o, h1, h2⟩, h3⟩
  · rw [List.nil_append] at h1
    rw [h1] at hm
    cases hm
  · rw [List.nil_append] at h1 h3
    exact ⟨o, ords_perm h1, h2, fun q hq => h3 q (ords_all hq)⟩
theorem best_nil : best P w [] = ([], some []) := by
  obtain ⟨o, h1, h2, _⟩ := best_spec (P := P) (w := w) []
  have e : o = [] := List.perm_nil.mp h1
  rw [h2, e]
  have e2 : litO P w [] [] = [] := List.filter_eq_nil_iff.mpr fun z _ h => by cases h
  rw [e2]
/-! ### one load, none -/
theorem plugged_nil : plugged P w [] [] = (allOn P, []) := rfl
theorem plugged_one (hG : GoodP P) (L : List (Str × Int)) : plugged P w (L.take 1) ((L.take 1).map (·.1)) = trips P w (allOn P) (L.take 1) := by
  cases L with
  | nil => exact (trips_zero hG).symm
  | cons e L =>
    have g1 : get [e] e.1 = e.2 := by
      unfold get
      rw [List.lookup_cons, beq_self_eq_true]
      rfl
    show ((trips P w (allOn P) ([] ++ [(e.1, get [e] e.1)])).1, [] ++ (trips P w (allOn P) ([] ++ [(e.1, get [e] e.1)])).2) = trips P w (allOn P) [e]
    rw [g1]
    rfl
/-! ### what fits -/
theorem over_le {st : List Bool} (h : over P w st g = []) {i : Nat} (hi : i < P.n) : (cur P w st g).getD i 0 ≤ P.rates.getD i 0 := by
  unfold over at h
  rw [List.filterMap_eq_nil_iff] at h
  have e := h i (List.mem_range.mpr hi)
  by_cases c : (cur P w st g).getD i 0 > P.rates.getD i 0
  · rw [if_pos c] at e
    cases e
  · omega
def Le (f f' : List Int) : Prop := f.length = f'.length ∧ ∀ j, f.getD j 0 ≤ f'.getD j 0
theorem add_le {v v' : Int} (hv : v ≤ v') : ∀ (l : List Nat) (f f' : List Int), Le f f' → Le (l.foldl (addTo v) f) (l.foldl (addTo v') f')
  | [], _, _, h => h
  | i :: l, f, f', h => add_le hv l _ _ ⟨by unfold addTo; rw [List.length_set, List.length_set]; exact h.1, fun j => by
      rw [addTo_at, addTo_at, h.1]
      have h1 := h.2 i
      have h2 := h.2 j
      split <;> omega⟩
theorem cur_le {st : List Bool} {g' : Str → Int} (hg : ∀ z, g z ≤ g' z) : ∀ j, (cur P w st g).getD j 0 ≤ (cur P w st g').getD j 0 := by
  unfold cur
  have key : ∀ (l : List (Str × Option Nat)) (f f' : List Int), Le f f' → Le (l.foldl (curStep P st g) f) (l.foldl (curStep P st g') f') := by
    intro l
    induction l with
    | nil => intro f f' h; exact h
    | cons e l ih =>
      intro f f' h
      refine ih _ _ ?_
      unfold curStep
      cases e.2 with
      | none => exact h
      | some b =>
        show Le (if hp P st (some b) = true then _ else f) (if hp P st (some b) = true then _ else f')
        by_cases c : hp P st (some b) = true
        · rw [if_pos c, if_pos c]
          exact add_le (hg _) _ _ _ h
        · rw [if_neg c, if_neg c]
          exact h
  exact (key _ _ _ ⟨rfl, fun j => Int.le_refl _⟩).2
theorem fit_trips {L M : List (Str × Int)} (h : over P w (allOn P) (get L) = []) (hg : ∀ z, get M z ≤ get L z) : trips P w (allOn P) M = (allOn P, []) :=
  tripsF_nil _ (over_none fun i hi => Int.le_trans (cur_le hg i) (over_le h hi))
theorem fit_plug {L : List (Str × Int)} (hL : GoodL P L) (h : over P w (allOn P) (get L) = []) (o : List Str) (ho : ∀ z ∈ o, z ∈ L.map (·.1)) : plugF P w L o = (allOn P, [], restr L o) := by
  unfold plugF
  have key : ∀ (o1 o2 : List Str), (∀ z ∈ o1 ++ o2, z ∈ L.map (·.1)) → o2.foldl (plugStep P w L) (allOn P, [], restr L o1) = (allOn P, [], restr L (o1 ++ o2)) := by
    intro o1 o2
    induction o2 generalizing o1 with
    | nil =>
      intro _
      rw [List.append_nil]
      rfl
    | cons z o2 ih =>
      intro hm
      have e : restr L o1 ++ [(z, get L z)] = restr L (o1 ++ [z]) := by
        unfold restr
        rw [List.map_append]
        rfl
      have t : trips P w (allOn P) (restr L (o1 ++ [z])) = (allOn P, []) := fit_trips h fun y => by
        rw [get_restr]
        by_cases c : y ∈ o1 ++ [z]
        · rw [if_pos c]
          exact Int.le_refl _
        · rw [if_neg c]
          by_cases c2 : y ∈ L.map (·.1)
          · have := (get_pos hL c2).1
            omega
          · rw [get_out c2]
            exact Int.le_refl _
      have es : plugStep P w L (allOn P, [], restr L o1) z = (allOn P, [], restr L (o1 ++ [z])) := by
        show ((trips P w (allOn P) (restr L o1 ++ [(z, get L z)])).1, [] ++ (trips P w (allOn P) (restr L o1 ++ [(z, get L z)])).2, restr L o1 ++ [(z, get L z)]) = _
        rw [e, t]
        rfl
      show o2.foldl (plugStep P w L) (plugStep P w L (allOn P, [], restr L o1) z) = _
      rw [es]
      have e3 := ih (o1 ++ [z]) (by rw [List.append_assoc]; exact hm)
      rw [List.append_assoc] at e3
      exact e3
  exact key [] o ho
theorem mostF_run (L : List (Str × Int)) (names : List Str) : ∀ n, mostF P w L names n = [] ∨ doesRun P w (restr L (mostF P w L names n)) = true
  | 0 => .inl rfl
  | n + 1 => by
    show (match (chs (n + 1) names).find? fun zs => doesRun P w (restr L zs) with | some zs => zs | none => mostF P w L names n) = [] ∨ doesRun P w (restr L (match (chs (n + 1) names).find? fun zs => doesRun P w (restr L zs) with | some zs => zs | none => mostF P w L names n)) = true
    cases e : (chs (n + 1) names).find? fun zs => doesRun P w (restr L zs) with
    | some zs => exact .inr (List.find?_some (p := fun zs => doesRun P w (restr L zs)) e)
    | none => exact mostF_run L names n
theorem most_fit {L : List (Str × Int)} (hG : GoodP P) (h : most P w L = L.map (·.1)) : over P w (allOn P) (get L) = [] := by
  have h1 := mostF_run (P := P) (w := w) L (P.names.filter fun z => (L.lookup z).isSome) (P.names.filter fun z => (L.lookup z).isSome).length
  have h2 : mostF P w L (P.names.filter fun z => (L.lookup z).isSome) (P.names.filter fun z => (L.lookup z).isSome).length = L.map (·.1) := h
  rw [h2] at h1
  rcases h1 with h1 | h1
  · rw [List.map_eq_nil_iff.mp h1]
    exact over_zero hG get_nil
  · have h3 : (trips P w (allOn P) (restr L (L.map (·.1)))).2 = [] := List.isEmpty_iff.mp h1
    rw [trips_get (restr_perm (List.Perm.refl _))] at h3
    by_cases c : over P w (allOn P) (get L) = []
    · exact c
    · have e : trips P w (allOn P) L = _ := tripsF_cons P.n c
      rw [e] at h3
      cases h3
theorem fit_all {L : List (Str × Int)} (hG : GoodP P) (hL : GoodL P L) (h : most P w L = L.map (·.1)) {o : List Str} (p : o.Perm (L.map (·.1))) : plugged P w L o = (allOn P, []) := by
  have e := fit_plug hL (most_fit hG h) o fun z hz => p.mem_iff.mp hz
  unfold plugged
  rw [e]
theorem fit_best {L : List (Str × Int)} (hG : GoodP P) (hL : GoodL P L) (h : most P w L = L.map (·.1)) : (best P w L).1 = lit P w (allOn P) L := by
  obtain ⟨o, h1, h2, _⟩ := best_spec (P := P) (w := w) L
  rw [h2]
  show lit P w (plugged P w L o).1 L = _
  rw [fit_all hG hL h h1]
end
end Bf

/-! Pre: the text by places, what the top must hold, callees. -/
namespace Bf
open PySem PySem.Spec PyProof.Rows L2 Bx

def top (i : Nat) : Stmt := PySem.Challenge.pw_blindfuses_k58_whole_loads_and_boxes.main.body.getD i (.Pass ⟨0, 0, 0, 0⟩)
def inClass (st : Stmt) (j : Nat) : Stmt := (C8.clsBody st).getD j (.Pass ⟨0, 0, 0, 0⟩)
abbrev s_is_number : Stmt := top 21
theorem sc_is_number : FnScope ["value", "smallest", "largest"] ["value", "smallest", "largest"] (defScope s_is_number) := ⟨rfl, rfl, rfl, by decide +kernel, rfl, by decide +kernel, by decide +kernel⟩
abbrev s_is_word : Stmt := top 22
theorem sc_is_word : FnScope ["value", "letter"] ["value"] (defScope s_is_word) := ⟨rfl, rfl, rfl, by decide +kernel, rfl, by decide +kernel, by decide +kernel⟩
abbrev s_are_rates : Stmt := top 23
theorem sc_are_rates : FnScope ["row", "rate"] ["row"] (defScope s_are_rates) := ⟨rfl, rfl, rfl, by decide +kernel, rfl, by decide +kernel, by decide +kernel⟩
abbrev s_are_above : Stmt := top 24
theorem sc_are_above : FnScope ["row", "count", "breaker", "other"] ["row", "count"] (defScope s_are_above) := ⟨rfl, rfl, rfl, by decide +kernel, rfl, by decide +kernel, by decide +kernel⟩
abbrev s_is_point : Stmt := top 25
theorem sc_is_point : FnScope ["value"] ["value"] (defScope s_is_point) := ⟨rfl, rfl, rfl, by decide +kernel, rfl, by decide +kernel, by decide +kernel⟩
abbrev s_are_points : Stmt := top 26
theorem sc_are_points : FnScope ["row", "one", "other", "point"] ["row"] (defScope s_are_points) := ⟨rfl, rfl, rfl, by decide +kernel, rfl, by decide +kernel, by decide +kernel⟩
abbrev s_Plan_init : Stmt := inClass (top 27) 1
theorem sc_Plan_init : FnScope ["self", "rates", "above", "points", "rule"] ["self", "rates", "above", "points", "rule"] (defScope s_Plan_init) := ⟨rfl, rfl, rfl, by decide +kernel, rfl, by decide +kernel, by decide +kernel⟩
abbrev s_Plan_rates : Stmt := inClass (top 27) 2
theorem sc_Plan_rates : FnScope ["self"] ["self"] (defScope s_Plan_rates) := ⟨rfl, rfl, rfl, by decide +kernel, rfl, by decide +kernel, by decide +kernel⟩
abbrev s_Plan_above : Stmt := inClass (top 27) 3
theorem sc_Plan_above : FnScope ["self"] ["self"] (defScope s_Plan_above) := ⟨rfl, rfl, rfl, by decide +kernel, rfl, by decide +kernel, by decide +kernel⟩
abbrev s_Plan_points : Stmt := inClass (top 27) 4
theorem sc_Plan_points : FnScope ["self"] ["self"] (defScope s_Plan_points) := ⟨rfl, rfl, rfl, by decide +kernel, rfl, by decide +kernel, by decide +kernel⟩
abbrev s_Plan_rule : Stmt := inClass (top 27) 5
theorem sc_Plan_rule : FnScope ["self"] ["self"] (defScope s_Plan_rule) := ⟨rfl, rfl, rfl, by decide +kernel, rfl, by decide +kernel, by decide +kernel⟩
abbrev s_Plan_names : Stmt := inClass (top 27) 6
theorem sc_Plan_names : FnScope ["self", "point"] ["self"] (defScope s_Plan_names) := ⟨rfl, rfl, rfl, by decide +kernel, rfl, by decide +kernel, by decide +kernel⟩
abbrev s_Plan_len : Stmt := inClass (top 27) 8
theorem sc_Plan_len : FnScope ["self"] ["self"] (defScope s_Plan_len) := ⟨rfl, rfl, rfl, by decide +kernel, rfl, by decide +kernel, by decide +kernel⟩
abbrev s_does_follow : Stmt := top 28
theorem sc_does_follow : FnScope ["plan", "wiring", "found", "point", "breaker"] ["plan", "wiring"] (defScope s_does_follow) := ⟨rfl, rfl, rfl, by decide +kernel, rfl, by decide +kernel, by decide +kernel⟩
abbrev s_is_wiring : Stmt := top 29
theorem sc_is_wiring : FnScope ["plan", "value", "breaker"] ["plan", "value"] (defScope s_is_wiring) := ⟨rfl, rfl, rfl, by decide +kernel, rfl, by decide +kernel, by decide +kernel⟩
abbrev s_check_wiring : Stmt := top 30
theorem sc_check_wiring : FnScope ["plan", "wiring"] ["plan", "wiring"] (defScope s_check_wiring) := ⟨rfl, rfl, rfl, by decide +kernel, rfl, by decide +kernel, by decide +kernel⟩
abbrev s_is_state : Stmt := top 31
theorem sc_is_state : FnScope ["plan", "value", "one"] ["plan", "value"] (defScope s_is_state) := ⟨rfl, rfl, rfl, by decide +kernel, rfl, by decide +kernel, by decide +kernel⟩
abbrev s_check_state : Stmt := top 32
theorem sc_check_state : FnScope ["plan", "state"] ["plan", "state"] (defScope s_check_state) := ⟨rfl, rfl, rfl, by decide +kernel, rfl, by decide +kernel, by decide +kernel⟩
abbrev s_check_name : Stmt := top 33
theorem sc_check_name : FnScope ["plan", "name"] ["plan", "name"] (defScope s_check_name) := ⟨rfl, rfl, rfl, by decide +kernel, rfl, by decide +kernel, by decide +kernel⟩
abbrev s_all_on : Stmt := top 34
theorem sc_all_on : FnScope ["plan", "rate"] ["plan"] (defScope s_all_on) := ⟨rfl, rfl, rfl, by decide +kernel, rfl, by decide +kernel, by decide +kernel⟩
abbrev s_line_up : Stmt := top 35
theorem sc_line_up : FnScope ["plan", "breaker", "found"] ["plan", "breaker"] (defScope s_line_up) := ⟨rfl, rfl, rfl, by decide +kernel, rfl, by decide +kernel, by decide +kernel⟩
abbrev s_has_power : Stmt := top 38
theorem sc_has_power : FnScope ["plan", "state", "breaker", "one"] ["plan", "state", "breaker"] (defScope s_has_power) := ⟨rfl, rfl, rfl, by decide +kernel, rfl, by decide +kernel, by decide +kernel⟩
abbrev s_live_in : Stmt := top 39
theorem sc_live_in : FnScope ["plan", "wiring", "state", "rows", "name", "breaker"] ["plan", "wiring", "state"] (defScope s_live_in) := ⟨rfl, rfl, rfl, by decide +kernel, rfl, by decide +kernel, by decide +kernel⟩
abbrev s_live : Stmt := top 40
theorem sc_live : FnScope ["plan", "wiring", "state"] ["plan", "wiring", "state"] (defScope s_live) := ⟨rfl, rfl, rfl, by decide +kernel, rfl, by decide +kernel, by decide +kernel⟩
abbrev s_wrong_load : Stmt := top 41
theorem sc_wrong_load : FnScope ["plan", "loads", "name"] ["plan", "loads"] (defScope s_wrong_load) := ⟨rfl, rfl, rfl, by decide +kernel, rfl, by decide +kernel, by decide +kernel⟩
abbrev s_check_loads : Stmt := top 42
theorem sc_check_loads : FnScope ["plan", "loads", "name"] ["plan", "loads"] (defScope s_check_loads) := ⟨rfl, rfl, rfl, by decide +kernel, rfl, by decide +kernel, by decide +kernel⟩
abbrev s_currents_in : Stmt := top 43
theorem sc_currents_in : FnScope ["plan", "wiring", "state", "loads", "found", "name", "breaker", "one", "rate"] ["plan", "wiring", "state", "loads"] (defScope s_currents_in) := ⟨rfl, rfl, rfl, by decide +kernel, rfl, by decide +kernel, by decide +kernel⟩
abbrev s_trips_in : Stmt := top 44
theorem sc_trips_in : FnScope ["plan", "wiring", "state", "loads", "numbers", "over", "row", "first", "one"] ["plan", "wiring", "state", "loads"] (defScope s_trips_in) := ⟨rfl, rfl, rfl, by decide +kernel, rfl, by decide +kernel, by decide +kernel⟩
abbrev s_check_all : Stmt := top 45
theorem sc_check_all : FnScope ["plan", "wiring", "state", "loads"] ["plan", "wiring", "state", "loads"] (defScope s_check_all) := ⟨rfl, rfl, rfl, by decide +kernel, rfl, by decide +kernel, by decide +kernel⟩
abbrev s_trips : Stmt := top 46
theorem sc_trips : FnScope ["plan", "wiring", "state", "loads"] ["plan", "wiring", "state", "loads"] (defScope s_trips) := ⟨rfl, rfl, rfl, by decide +kernel, rfl, by decide +kernel, by decide +kernel⟩
abbrev s_choices : Stmt := top 48
theorem sc_choices : FnScope ["things", "size", "found", "place", "thing", "rest"] ["things", "size"] (defScope s_choices) := ⟨rfl, rfl, rfl, by decide +kernel, rfl, by decide +kernel, by decide +kernel⟩
abbrev s_orders_of : Stmt := top 50
theorem sc_orders_of : FnScope ["values", "found", "place", "value", "rest"] ["values"] (defScope s_orders_of) := ⟨rfl, rfl, rfl, by decide +kernel, rfl, by decide +kernel, by decide +kernel⟩
abbrev s_plugged_in : Stmt := top 52
theorem sc_plugged_in : FnScope ["plan", "wiring", "loads", "order", "state", "numbers", "here", "name", "more"] ["plan", "wiring", "loads", "order"] (defScope s_plugged_in) := ⟨rfl, rfl, rfl, by decide +kernel, rfl, by decide +kernel, by decide +kernel⟩
abbrev s_plugged : Stmt := top 53
theorem sc_plugged : FnScope ["plan", "wiring", "loads", "order"] ["plan", "wiring", "loads", "order"] (defScope s_plugged) := ⟨rfl, rfl, rfl, by decide +kernel, rfl, by decide +kernel, by decide +kernel⟩
abbrev s_best_plugging : Stmt := top 54
theorem sc_best_plugging : FnScope ["plan", "wiring", "loads", "found", "order", "state", "names", "name"] ["plan", "wiring", "loads"] (defScope s_best_plugging) := ⟨rfl, rfl, rfl, by decide +kernel, rfl, by decide +kernel, by decide +kernel⟩
abbrev s_switched : Stmt := top 56
theorem sc_switched : FnScope ["state", "breaker"] ["state", "breaker"] (defScope s_switched) := ⟨rfl, rfl, rfl, by decide +kernel, rfl, by decide +kernel, by decide +kernel⟩
abbrev s_State_init : Stmt := inClass (top 57) 1
theorem sc_State_init : FnScope ["self", "facts", "shelf", "past", "undone"] ["self", "facts", "shelf", "past", "undone"] (defScope s_State_init) := ⟨rfl, rfl, rfl, by decide +kernel, rfl, by decide +kernel, by decide +kernel⟩
abbrev s_State_go_on : Stmt := inClass (top 57) 3
theorem sc_State_go_on : FnScope ["self", "operation", "facts", "shelf"] ["self", "operation", "facts", "shelf"] (defScope s_State_go_on) := ⟨rfl, rfl, rfl, by decide +kernel, rfl, by decide +kernel, by decide +kernel⟩
abbrev s_Box_init : Stmt := inClass (top 58) 0
theorem sc_Box_init : FnScope ["self", "plan", "wiring"] ["self", "plan", "wiring"] (defScope s_Box_init) := ⟨rfl, rfl, rfl, by decide +kernel, rfl, by decide +kernel, by decide +kernel⟩
abbrev s_Box_state_now : Stmt := inClass (top 58) 2
theorem sc_Box_state_now : FnScope ["self"] ["self"] (defScope s_Box_state_now) := ⟨rfl, rfl, rfl, by decide +kernel, rfl, by decide +kernel, by decide +kernel⟩
abbrev s_Box_loads_now : Stmt := inClass (top 58) 3
theorem sc_Box_loads_now : FnScope ["self", "name"] ["self"] (defScope s_Box_loads_now) := ⟨rfl, rfl, rfl, by decide +kernel, rfl, by decide +kernel, by decide +kernel⟩
abbrev s_Box_trip_count : Stmt := inClass (top 58) 5
theorem sc_Box_trip_count : FnScope ["self"] ["self"] (defScope s_Box_trip_count) := ⟨rfl, rfl, rfl, by decide +kernel, rfl, by decide +kernel, by decide +kernel⟩
abbrev s_Box_settle : Stmt := inClass (top 58) 8
theorem sc_Box_settle : FnScope ["self", "operation", "state", "loads", "before", "old", "wiring", "count", "later", "numbers"] ["self", "operation", "state", "loads"] (defScope s_Box_settle) := ⟨rfl, rfl, rfl, by decide +kernel, rfl, by decide +kernel, by decide +kernel⟩
abbrev s_Box_plug : Stmt := inClass (top 58) 10
theorem sc_Box_plug : FnScope ["self", "name", "load", "state", "loads", "wiring", "count", "others", "other"] ["self", "name", "load"] (defScope s_Box_plug) := ⟨rfl, rfl, rfl, by decide +kernel, rfl, by decide +kernel, by decide +kernel⟩
abbrev s_Box_reset : Stmt := inClass (top 58) 12
theorem sc_Box_reset : FnScope ["self", "state", "loads", "wiring", "count", "breaker", "numbers", "one"] ["self"] (defScope s_Box_reset) := ⟨rfl, rfl, rfl, by decide +kernel, rfl, by decide +kernel, by decide +kernel⟩
abbrev s_does_run : Stmt := top 60
theorem sc_does_run : FnScope ["plan", "wiring", "loads"] ["plan", "wiring", "loads"] (defScope s_does_run) := ⟨rfl, rfl, rfl, by decide +kernel, rfl, by decide +kernel, by decide +kernel⟩
abbrev s_most_at_once : Stmt := top 61
theorem sc_most_at_once : FnScope ["plan", "wiring", "loads", "names", "size", "some", "name"] ["plan", "wiring", "loads"] (defScope s_most_at_once) := ⟨rfl, rfl, rfl, by decide +kernel, rfl, by decide +kernel, by decide +kernel⟩
abbrev s__law_taken : Stmt := top 63
theorem sc__law_taken : FnScope ["_law_row", "_law_many", "_law_found", "_law_cell"] ["_law_row", "_law_many"] (defScope s__law_taken) := ⟨rfl, rfl, rfl, by decide +kernel, rfl, by decide +kernel, by decide +kernel⟩
abbrev s__law_plan : Stmt := top 64
theorem sc__law_plan : FnScope ["_law_row", "_law_many", "_law_points", "_law_rates", "_law_fed", "_law_name", "_law_k"] ["_law_row"] (defScope s__law_plan) := ⟨rfl, rfl, rfl, by decide +kernel, rfl, by decide +kernel, by decide +kernel⟩
abbrev s__law_wirings : Stmt := top 65
theorem sc__law_wirings : FnScope ["_law_plan_here", "_law_rows", "_law_point", "_law_more", "_law_one", "_law_breaker", "_law_found", "_law_rooms", "_law_unlike", "_law_room"] ["_law_plan_here"] (defScope s__law_wirings) := ⟨rfl, rfl, rfl, by decide +kernel, rfl, by decide +kernel, by decide +kernel⟩
abbrev s__law_wiring : Stmt := top 66
theorem sc__law_wiring : FnScope ["_law_row", "_law_plan_here", "_law_some", "_law_every", "_law_one"] ["_law_row", "_law_plan_here"] (defScope s__law_wiring) := ⟨rfl, rfl, rfl, by decide +kernel, rfl, by decide +kernel, by decide +kernel⟩
abbrev s__law_loads : Stmt := top 67
theorem sc__law_loads : FnScope ["_law_row", "_law_plan_here", "_law_found", "_law_name"] ["_law_row", "_law_plan_here"] (defScope s__law_loads) := ⟨rfl, rfl, rfl, by decide +kernel, rfl, by decide +kernel, by decide +kernel⟩
abbrev s__law_are_fit : Stmt := top 68
theorem sc__law_are_fit : FnScope ["_law_plan_here", "_law_wiring_here", "_law_loads_here", "_law_two", "_law_names", "_law_some", "_law_on", "_law_fit", "_law_name", "_law_box"] ["_law_plan_here", "_law_wiring_here", "_law_loads_here", "_law_two"] (defScope s__law_are_fit) := ⟨rfl, rfl, rfl, by decide +kernel, rfl, by decide +kernel, by decide +kernel⟩
abbrev s_law : Stmt := top 69
theorem sc_law : FnScope ["_law_script", "_law_row", "_law_turn", "_law_plan_here", "_law_wiring_here", "_law_loads_here", "_law_names", "_law_order", "_law_left", "_law_some", "_law_on", "_law_here", "_law_state", "_law_numbers", "_law_box", "_law_told", "_law_name", "_law_lit", "_law_lone", "_law_k"] ["_law_script"] (defScope s_law) := ⟨rfl, rfl, rfl, by decide +kernel, rfl, by decide +kernel, by decide +kernel⟩

/-! ### what the top must hold, by kinds -/
structure DefX (K : PySem.W.Frag) (mg : Str → Option Value) (x : Str) (st : Stmt) (ps : List Str) : Prop where
  ex : ∃ (f : Addr) (fd : FuncData), Fun K x x st f fd ∧ mg x = some (.ref f) ∧ Binds K fd ps []
structure MetX (K : PySem.W.Frag) (C : Addr) (m qual : Str) (st : Stmt) (ps : List Str) : Prop where
  ex : ∃ (f : Addr) (fd : FuncData), Meth K C m f ∧ Fun K m qual st f fd ∧ Binds K fd ps []
structure IniX (K : PySem.W.Frag) (C : Addr) (qual : Str) (st : Stmt) (ps : List Str) : Prop where
  ex : ∃ (f : Addr) (fd : FuncData), Mk K C f ∧ Fun K "__init__" qual st f fd ∧ Binds K fd ps []
structure IniD (K : PySem.W.Frag) (C : Addr) (qual : Str) (st : Stmt) (ps : List Str) (dvs : List V) : Prop where
  ex : ∃ (f : Addr) (fd : FuncData), Mk K C f ∧ FunD K "__init__" qual (defArgs st) (defBody st) (defScope st) dvs [] f fd ∧ Binds K fd ps []
structure ProX (K : PySem.W.Frag) (C : Addr) (x qual : Str) (st : Stmt) : Prop where
  ex : ∃ (p g : Addr) (fd : FuncData), PropOf K C x p g ∧ Fun K x qual st g fd ∧ Binds K fd ["self"] []
structure LenX (K : PySem.W.Frag) (C : Addr) (qual : Str) (st : Stmt) : Prop where
  ex : ∃ (g : Addr) (fd : FuncData), PySem.W.findIn K (.ref C) "__len__" = some (some (.ref g)) ∧ PySem.W.isFn K (.ref g) = true ∧ Fun K "__len__" qual st g fd ∧ Binds K fd ["self"] []
structure Slots1 (K : PySem.W.Frag) (C : Addr) (x : Str) (i : Nat) : Prop where
  ex : ∃ p, SlX.Slot1 K C x p i

/-! ### callees -/
section
variable (P : Program) (w : World) (K : PySem.W.Frag) (mg : Str → Option Value) (base : Heap)
structure PropS (n : Nat) (C : Addr) (x : Str) (sp : Sp) : Prop where
  ex : ∃ p g, PropOf K C x p g ∧ FnR P w K mg base CX0 n g sp
structure PropP (n : Nat) (C : Addr) (x : Str) (sp : Sp) : Prop where
  ex : ∃ (p g : Addr) (fd : FuncData), PropOf K C x p g ∧ FnOk P w K mg base CX0 n g fd ["self"] sp ∧ Binds K fd ["self"] []
structure LenS (n : Nat) (C : Addr) (sp : Sp) : Prop where
  ex : ∃ g, PySem.W.findIn K (.ref C) "__len__" = some (some (.ref g)) ∧ PySem.W.isFn K (.ref g) = true ∧ FnR P w K mg base CX0 n g sp
structure MetS (n : Nat) (C : Addr) (m : Str) (sp : Sp) : Prop where
  ex : ∃ g, Meth K C m g ∧ FnR P w K mg base CX0 n g sp
end
section
variable {X : Cx} {k j n : Nat} {C : Addr} {x m : Str} {sp : Sp} {p pos apos : Pos} {e o : Expr} {es : List Expr} {ta te : TE} {t : TA}
theorem pe_pSl (c : PropS X.prog X.w X.K X.mg X.base n C x sp) (cl : SlX.SCls X.K C) (hr : Room j X.A) (hk : n + 1 ≤ j) (he : PE X e ta) (hb : attributeBase e x X.env (eval e X.env) = eval e X.env := by rfl) : PE X (.Attribute e x pos) (SlX.tPropSl C sp E0 ta) := by
  obtain ⟨p, g, h, F⟩ := c.ex
  exact SlX.pe_propSl he cl h.at_ h.get h.tak h.rec_ F (hr.mono hk) (fun _ _ _ _ h => h) hb
theorem pe_pPl (c : PropP X.prog X.w X.K X.mg X.base n C x sp) (cl : Cls X.K C) (hr : Room j X.A) (hk : n + 1 ≤ j) (he : PE X e ta) (hb : attributeBase e x X.env (eval e X.env) = eval e X.env := by rfl) : PE X (.Attribute e x pos) (tProp C sp [] E0 ta) := by
  obtain ⟨p, g, fd, h, F, b⟩ := c.ex
  exact pe_prop he cl h F (hr.mono hk) b .nil pass0 hb
theorem pe_lenP (c : LenS X.prog X.w X.K X.mg X.base n C sp) (cl : SlX.SCls X.K C) (hr : Room j X.A) (hk : n + 1 ≤ j) (hg : Gl X "len") (hm : X.mg "len" = none) (ha : PA X (e :: es) t)
    (he : starEach (e :: es) X.env = (false, eval e X.env) :: starEach es X.env := by rfl) (hpl : (backTo pos (starEach es X.env)).any (·.1) = false := by rfl) :
    PE X (.Call (.Name "len" p) (e :: es) [] pos) (fun σ H Q => t σ H fun xs H1 => ∃ a dx vs, xs = [V.ref a] ∧ SlX.Slt H1 a C dx vs ∧ sp [.ref a] H1 (fun z H' => ∃ i : Nat, i < 1000 ∧ z = .int (i : Int) ∧ Q z H') E0) := by
  obtain ⟨g, h1, h2, F⟩ := c.ex
  exact pe_callB (Rx.len_sl cl h1 h2 F (hr.mono hk) pass0) hg hm PySem.boot_len ha (by decide) (by decide) he hpl
theorem pe_mSl {pl : Sem Bool} (c : MetS X.prog X.w X.K X.mg X.base n C m sp) (cl : SlX.SCls X.K C) (hr : Room j X.A) (hk : n ≤ j) (he : PE X o ta) (ha : PA X (e :: es) t)
    (hst : starEach (e :: es) X.env = (false, eval e X.env) :: starEach es X.env := by rfl) (hpl : (backTo pos (starEach es X.env)).any (·.1) = false := by rfl)
    (ht : eval (.Call (.Attribute o m apos) (e :: es) [] pos) X.env = (do
      let ov ← eval o X.env
      standAt apos.atName
      let (f, first) ← holding [ov] (getMethod ov m pl)
      callWith pos f first (backTo pos (starEach (e :: es) X.env)) (backToKw pos (keywordEach [] X.env))) := by rfl) :
    PE X (.Call (.Attribute o m apos) (e :: es) [] pos) (SlX.tMethSl C sp E0 ta t) := by
  obtain ⟨g, h1, F⟩ := c.ex
  exact SlX.pe_methSl (pl := pl) he cl h1 F (hr.mono hk) pass0 ha hst hpl ht
end
section
variable {P : Program} {w : World} {K : PySem.W.Frag} {mg : Str → Option Value} {base : Heap} {x qual : Str} {st : Stmt} {f C : Addr} {fd : FuncData} {N ps : List Str} {k : Nat} {sp : Sp} {R : List A → A → Prop} {CP : Addr}
/-- a def's body, by a promise -/
abbrev BodyS (P : Program) (w : World) (K : PySem.W.Frag) (mg : Str → Option Value) (base : Heap) (N : List Str) (qual : Str) (st : Stmt) (k : Nat) (sp : Sp) : Prop :=
  ∀ (f : Addr) (cdv : Value) (A : Around) (outer : List Env) (s : Shared) (H : Hp) (vs : List V) (Q : VK) (E : XK), Room k (A.deeper (envOfC qual (defScope st) s.heap.objs.size f cdv)) → sp vs H Q E →
    ∃ t, PSs (cxOf CX0 P w K mg base N qual (defScope st) f cdv A outer s H E).nox (defBody st) t ∧ t { nx := fun _ H' => Q .non H', rt := Q } (start N vs) H
/-- .. by data -/
abbrev BodyD (P : Program) (w : World) (K : PySem.W.Frag) (mg : Str → Option Value) (base : Heap) (C : Addr) (N : List Str) (qual : Str) (st : Stmt) (k : Nat) (R : List A → A → Prop) : Prop :=
  ∀ (f : Addr) (cdv : Value) (A : Around) (outer : List Env) (s : Shared) (H : Hp) (vs : List V) (Q : VK) (E : XK) (as : List Bf.A) (r : Bf.A), Room k (A.deeper (envOfC qual (defScope st) s.heap.objs.size f cdv)) → RpL C H as vs → R as r →
    (∀ v H', Same H H' → Rp C H' r v → Q v H') → ∃ t, PSs (cxOf CX0 P w K mg base N qual (defScope st) f cdv A outer s H E).nox (defBody st) t ∧ t { nx := fun _ H' => Q .non H', rt := Q } (start N vs) H
theorem body_d (h : BodyD P w K mg base C N qual st k R) : BodyS P w K mg base N qual st k (SpD C R) := fun f cdv A outer s H vs Q E hr ⟨as, r, h1, h2, h3⟩ => h f cdv A outer s H vs Q E as r hr h1 h2 h3
theorem len_d (hl : ∀ as r, R as r → as.length = ps.length) : ∀ vs H Q E, SpD C R vs H Q E → vs.length = ps.length := fun vs H Q E ⟨as, r, h1, h2, _⟩ => by rw [h1.len, hl as r h2]
theorem fn_s (F : Fun K x qual st f fd) (S : FnScope N ps (defScope st)) (len : ∀ vs H Q E, sp vs H Q E → vs.length = ps.length) (h : BodyS P w K mg base N qual st k sp) : FnOk P w K mg base CX0 (k + 1) f fd ps sp := F.ok S len (h f)
theorem cal_s (D : DefX K mg x st ps) (S : FnScope N ps (defScope st)) (len : ∀ vs H Q E, sp vs H Q E → vs.length = ps.length) (h : BodyS P w K mg base N x st k sp) : C8.Cal P w K mg base (k + 1) x sp [] := by
  obtain ⟨f, fd, F, m, b⟩ := D.ex
  exact ⟨f, fd, ps, [], fn_s F S len h, m, F.kp, b, .nil⟩
theorem cal_d (D : DefX K mg x st ps) (S : FnScope N ps (defScope st)) (hl : ∀ as r, R as r → as.length = ps.length) (h : BodyD P w K mg base C N x st k R) : C8.Cal P w K mg base (k + 1) x (SpD C R) [] := cal_s D S (len_d hl) (body_d h)
theorem raw0 {ds : List Value} (F : FnOk P w K mg base CX0 k f fd ps sp) (b : Binds K fd ps []) : FnR P w K mg base CX0 k f sp := (FnOk.raw F b .nil).imp fun vs H Q E h => by rw [List.append_nil]; exact h
theorem pro_d (D : ProX K CP x qual st) (S : FnScope N ["self"] (defScope st)) (hl : ∀ as r, R as r → as.length = 1) (h : BodyD P w K mg base C N qual st k R) : PropS P w K mg base (k + 1) CP x (SpD C R) := by
  obtain ⟨p, g, fd, hp, F, b⟩ := D.ex
  exact ⟨p, g, hp, raw0 (ds := []) (fn_s F S (len_d hl) (body_d h)) b⟩
theorem pro_s (D : ProX K CP x qual st) (S : FnScope N ["self"] (defScope st)) (len : ∀ vs H Q E, sp vs H Q E → vs.length = 1) (h : BodyS P w K mg base N qual st k sp) : PropP P w K mg base (k + 1) CP x sp := by
  obtain ⟨p, g, fd, hp, F, b⟩ := D.ex
  exact ⟨p, g, fd, hp, fn_s F S len h, b⟩
theorem len_d' (D : LenX K CP qual st) (S : FnScope N ["self"] (defScope st)) (hl : ∀ as r, R as r → as.length = 1) (h : BodyD P w K mg base C N qual st k R) : LenS P w K mg base (k + 1) CP (SpD C R) := by
  obtain ⟨g, fd, h1, h2, F, b⟩ := D.ex
  exact ⟨g, h1, h2, raw0 (ds := []) (fn_s F S (len_d hl) (body_d h)) b⟩
theorem mets_s (D : MetX K CP x qual st ps) (S : FnScope N ps (defScope st)) (len : ∀ vs H Q E, sp vs H Q E → vs.length = ps.length) (h : BodyS P w K mg base N qual st k sp) : MetS P w K mg base (k + 1) CP x sp := by
  obtain ⟨f, fd, m, F, b⟩ := D.ex
  exact ⟨f, m, raw0 (ds := []) (fn_s F S len h) b⟩
theorem met_s (cl : Cls K CP) (D : MetX K CP x qual st ps) (S : FnScope N ps (defScope st)) (len : ∀ vs H Q E, sp vs H Q E → vs.length = ps.length) (h : BodyS P w K mg base N qual st k sp) : C8.Met P w K mg base (k + 1) CP x sp [] := by
  obtain ⟨f, fd, m, F, b⟩ := D.ex
  exact ⟨f, fd, ps, [], cl, m, fn_s F S len h, b, .nil⟩
theorem mak_s {y : Str} (D : IniX K CP qual st ps) (hm : mg y = some (.ref CP)) (S : FnScope N ps (defScope st)) (len : ∀ vs H Q E, sp vs H Q E → vs.length = ps.length) (h : BodyS P w K mg base N qual st k sp) : C8.Mak P w K mg base (k + 1) y CP sp [] := by
  obtain ⟨f, fd, M, F, b⟩ := D.ex
  exact ⟨f, fd, ps, [], M, fn_s F S len h, hm, b, .nil⟩
theorem makd_s {y : Str} {dvs : List V} (D : IniD K CP qual st ps dvs) (hm : mg y = some (.ref CP)) (S : FnScope N ps (defScope st)) (len : ∀ vs H Q E, sp vs H Q E → vs.length = ps.length) (h : BodyS P w K mg base N qual st k sp) : C8.Mak P w K mg base (k + 1) y CP sp [] := by
  obtain ⟨f, fd, M, F, b⟩ := D.ex
  refine ⟨f, fd, ps, [], M, F.ok (CX := CX0) S len fun cdv A outer s H vs Q E hr hsp => ?_, hm, b, .nil⟩
  obtain ⟨t, h1, h2⟩ := h f cdv A outer s H vs Q E hr hsp
  exact ⟨t, h1.nox, h2⟩
end
/-! ### rules within a comprehension: the fragment is told -/
section
variable {X : Cx} {e o : Expr} {es : List Expr} {f : Str} {pos p : Pos} {ta te : TE} {t : TA}
theorem ixT (K : PySem.W.Frag) (h : X.K = K := by rfl) : IxR X (rIxT K) := h ▸ ix_tup
theorem ixL (K : PySem.W.Frag) (h : X.K = K := by rfl) : IxR X (rIxL K) := h ▸ ix_list
theorem eqDK (K : PySem.W.Frag) (hu : X.A.units + 64 < cLine) (h : X.K = K := by rfl) : OpR X (compareOp .Eq) (rEqD K) := h ▸ op_eqD hu
theorem neDK (K : PySem.W.Frag) (hu : X.A.units + 64 < cLine) (h : X.K = K := by rfl) : OpR X (compareOp .NotEq) (rNeD K) := h ▸ op_neD hu
theorem inSK (K : PySem.W.Frag) (h : X.K = K := by rfl) : OpR X (compareOp .In) (rIn K false) := h ▸ op_in_seq
theorem notInSK (K : PySem.W.Frag) (h : X.K = K := by rfl) : OpR X (compareOp .NotIn) (rIn K true) := h ▸ op_notIn_seq
theorem catTK (K : PySem.W.Frag) (h : X.K = K := by rfl) : OpR X (binaryOp .Add) (rCatA K) := h ▸ op_catA
theorem slTK (K : PySem.W.Frag) (h : X.K = K := by rfl) : SlR X (rSlA K) := h ▸ sl_tupA
theorem slLK (K : PySem.W.Frag) (h : X.K = K := by rfl) : SlR X (rSlL K) := h ▸ sl_list
abbrev rLenK (K : PySem.W.Frag) : List V → Hp → VK → Prop := fun xs H Q => ∃ p ys, xs = [.ref p] ∧ (SqL K H p ys ∨ SqT K H p ys) ∧ Q (.int ys.length) H
theorem lenSK (K : PySem.W.Frag) (h : X.K = K := by rfl) : CallR X (.builtin "len") (rLenK K) := h ▸ call_len_seq
theorem isiK (K : PySem.W.Frag) (h : X.K = K := by rfl) : CallR X (.builtin "isinstance") (rIsi K) := h ▸ call_isi
theorem pe_slK (K : PySem.W.Frag) (he : PE X e ta) (h : X.K = K := by rfl) (hb : attributeBase e f X.env (eval e X.env) = eval e X.env := by rfl) : PE X (.Attribute e f pos) (SlX.tSl K ta f) := h ▸ SlX.pe_sl he hb
theorem pe_fldK (K : PySem.W.Frag) (he : PE X e ta) (h : X.K = K := by rfl) (hb : attributeBase e f X.env (eval e X.env) = eval e X.env := by rfl) : PE X (.Attribute e f pos) (tFld K ta f) := h ▸ pe_fld he hb
theorem pa_starK (K : PySem.W.Frag) (he : PE X e te) (hr : PA X es t) (h : X.K = K := by rfl) (hs : starEach (.Starred e p :: es) X.env = (true, eval e X.env) :: starEach es X.env := by rfl) : PA X (.Starred e p :: es) (StX.tStar K te t) := h ▸ StX.pa_star he hr hs
end
/-! ### evidence of properties -/
section
variable {C CP : Addr} {K : PySem.W.Frag} {σ : L2.St} {H : Hp} {ta : TE} {t : TA} {R : List A → A → Prop} {Pn : Pl} {r : A} {E : XK}
theorem ev_prop (e : Ev C ta σ H (.pl Pn)) (hR : R [.pl Pn] r) : Ev C (SlX.tPropSl C (SpD C R) E ta) σ H r := fun H1 s Q q =>
  e H1 s _ fun v H2 s2 h => by
    obtain ⟨p, e1, h2⟩ := h
    obtain ⟨dx, tt, h3, _⟩ := id h2
    subst e1
    exact ⟨p, dx, _, rfl, .inr h3, [.pl Pn], r, ⟨_, _, rfl, ⟨p, rfl, h2⟩, rfl⟩, hR, fun v H' s3 hv => q v H' (s2.trans s3) hv⟩
theorem ev_lenP {i : Nat} (e : EvA C t σ H [.pl Pn]) (hR : R [.pl Pn] (.d (.int (i : Nat)))) (hi : i < 1000) : Ev C (fun σ H Q => t σ H fun xs H1 => ∃ a dx vs, xs = [V.ref a] ∧ SlX.Slt H1 a C dx vs ∧ SpD C R [.ref a] H1 (fun z H' => ∃ i : Nat, i < 1000 ∧ z = .int (i : Int) ∧ Q z H') E) σ H (.d (.int (i : Nat))) := fun H1 s Q q =>
  e H1 s _ fun vs H2 s2 h => by
    obtain ⟨v, e0, p, e1, h2⟩ := h.one
    obtain ⟨dx, tt, h3, _⟩ := id h2
    subst e1
    subst e0
    exact ⟨p, dx, _, rfl, .inr h3, [.pl Pn], _, ⟨_, _, rfl, ⟨p, rfl, h2⟩, rfl⟩, hR, fun v H' s3 hv => ⟨i, hi, rp_int hv, q v H' (s2.trans s3) hv⟩⟩
end
end Bf

/-! Txt: all that the top must hold. -/
namespace Bf
open PySem PySem.Spec PyProof.Rows L2 Bx
structure Txt (K : PySem.W.Frag) (mg : Str → Option Value) (CP CS CB : Addr) : Prop where
  b_isinstance : mg "isinstance" = none
  b_int : mg "int" = none
  b_bool : mg "bool" = none
  b_str : mg "str" = none
  b_tuple : mg "tuple" = none
  b_len : mg "len" = none
  b_all : mg "all" = none
  b_enumerate : mg "enumerate" = none
  b_zip : mg "zip" = none
  b_list : mg "list" = none
  b_sorted : mg "sorted" = none
  b_min : mg "min" = none
  b_range : mg "range" = none
  b_set : mg "set" = none
  g_LETTERS : ∃ u, mg "LETTERS" = some u ∧ RelV (.str "abcdefghijklmnopqrstuvwxyz") u
  g_MAX_LETTERS : ∃ u, mg "MAX_LETTERS" = some u ∧ RelV (.int 8) u
  g_MAX_BREAKERS : ∃ u, mg "MAX_BREAKERS" = some u ∧ RelV (.int 5) u
  g_MAX_RATE : ∃ u, mg "MAX_RATE" = some u ∧ RelV (.int 99) u
  g_MAX_POINTS : ∃ u, mg "MAX_POINTS" = some u ∧ RelV (.int 5) u
  g_MAX_ROOM : ∃ u, mg "MAX_ROOM" = some u ∧ RelV (.int 9) u
  g_LAMP : ∃ u, mg "LAMP" = some u ∧ RelV (.str "lamp") u
  g_PLUG : ∃ u, mg "PLUG" = some u ∧ RelV (.str "plug") u
  g_FREE : ∃ u, mg "FREE" = some u ∧ RelV (.str "free") u
  g_ROOMS : ∃ u, mg "ROOMS" = some u ∧ RelV (.str "rooms") u
  g_MAX_LOAD : ∃ u, mg "MAX_LOAD" = some u ∧ RelV (.int 99) u
  clP : SlX.SCls K CP
  clS : SlX.SCls K CS
  clB : Cls K CB
  slP : Slots1 K CP "parts" 0
  slF : Slots1 K CS "facts" 0
  slH : Slots1 K CS "shelf" 2
  slQ : Slots1 K CS "past" 1
  slU : Slots1 K CS "undone" 3
  naP : NoAttr K CB "plan"
  naH : NoAttr K CB "held"
  mgP : mg "Plan" = some (.ref CP)
  mgS : mg "State" = some (.ref CS)
  mgB : mg "Box" = some (.ref CB)
  i_P : IniD K CP "Plan.__init__" s_Plan_init ["self", "rates", "above", "points", "rule"] [.str "free"]
  i_S : IniX K CS "State.__init__" s_State_init ["self", "facts", "shelf", "past", "undone"]
  i_B : IniX K CB "Box.__init__" s_Box_init ["self", "plan", "wiring"]
  p_rates : ProX K CP "rates" "Plan.rates" s_Plan_rates
  p_above : ProX K CP "above" "Plan.above" s_Plan_above
  p_points : ProX K CP "points" "Plan.points" s_Plan_points
  p_rule : ProX K CP "rule" "Plan.rule" s_Plan_rule
  p_names : ProX K CP "names" "Plan.names" s_Plan_names
  l_P : LenX K CP "Plan.__len__" s_Plan_len
  m_go_on : MetX K CS "go_on" "State.go_on" s_State_go_on ["self", "operation", "facts", "shelf"]
  p_state_now : ProX K CB "state_now" "Box.state_now" s_Box_state_now
  p_loads_now : ProX K CB "loads_now" "Box.loads_now" s_Box_loads_now
  p_trip_count : ProX K CB "trip_count" "Box.trip_count" s_Box_trip_count
  m_settle : MetX K CB "settle" "Box.settle" s_Box_settle ["self", "operation", "state", "loads"]
  m_plug : MetX K CB "plug" "Box.plug" s_Box_plug ["self", "name", "load"]
  m_reset : MetX K CB "reset" "Box.reset" s_Box_reset ["self"]
  d_is_number : DefX K mg "is_number" s_is_number ["value", "smallest", "largest"]
  d_is_word : DefX K mg "is_word" s_is_word ["value"]
  d_are_rates : DefX K mg "are_rates" s_are_rates ["row"]
  d_are_above : DefX K mg "are_above" s_are_above ["row", "count"]
  d_is_point : DefX K mg "is_point" s_is_point ["value"]
  d_are_points : DefX K mg "are_points" s_are_points ["row"]
  d_does_follow : DefX K mg "does_follow" s_does_follow ["plan", "wiring"]
  d_is_wiring : DefX K mg "is_wiring" s_is_wiring ["plan", "value"]
  d_check_wiring : DefX K mg "check_wiring" s_check_wiring ["plan", "wiring"]
  d_is_state : DefX K mg "is_state" s_is_state ["plan", "value"]
  d_check_state : DefX K mg "check_state" s_check_state ["plan", "state"]
  d_check_name : DefX K mg "check_name" s_check_name ["plan", "name"]
  d_all_on : DefX K mg "all_on" s_all_on ["plan"]
  d_line_up : DefX K mg "line_up" s_line_up ["plan", "breaker"]
  d_has_power : DefX K mg "has_power" s_has_power ["plan", "state", "breaker"]
  d_live_in : DefX K mg "live_in" s_live_in ["plan", "wiring", "state"]
  d_live : DefX K mg "live" s_live ["plan", "wiring", "state"]
  d_wrong_load : DefX K mg "wrong_load" s_wrong_load ["plan", "loads"]
  d_check_loads : DefX K mg "check_loads" s_check_loads ["plan", "loads"]
  d_currents_in : DefX K mg "currents_in" s_currents_in ["plan", "wiring", "state", "loads"]
  d_trips_in : DefX K mg "trips_in" s_trips_in ["plan", "wiring", "state", "loads"]
  d_check_all : DefX K mg "check_all" s_check_all ["plan", "wiring", "state", "loads"]
  d_trips : DefX K mg "trips" s_trips ["plan", "wiring", "state", "loads"]
  d_choices : DefX K mg "choices" s_choices ["things", "size"]
  d_orders_of : DefX K mg "orders_of" s_orders_of ["values"]
  d_plugged_in : DefX K mg "plugged_in" s_plugged_in ["plan", "wiring", "loads", "order"]
  d_plugged : DefX K mg "plugged" s_plugged ["plan", "wiring", "loads", "order"]
  d_best_plugging : DefX K mg "best_plugging" s_best_plugging ["plan", "wiring", "loads"]
  d_switched : DefX K mg "switched" s_switched ["state", "breaker"]
  d_does_run : DefX K mg "does_run" s_does_run ["plan", "wiring", "loads"]
  d_most_at_once : DefX K mg "most_at_once" s_most_at_once ["plan", "wiring", "loads"]
  d__law_taken : DefX K mg "_law_taken" s__law_taken ["_law_row", "_law_many"]
  d__law_plan : DefX K mg "_law_plan" s__law_plan ["_law_row"]
  d__law_wirings : DefX K mg "_law_wirings" s__law_wirings ["_law_plan_here"]
  d__law_wiring : DefX K mg "_law_wiring" s__law_wiring ["_law_row", "_law_plan_here"]
  d__law_loads : DefX K mg "_law_loads" s__law_loads ["_law_row", "_law_plan_here"]
  d__law_are_fit : DefX K mg "_law_are_fit" s__law_are_fit ["_law_plan_here", "_law_wiring_here", "_law_loads_here", "_law_two"]
  d_law : DefX K mg "law" s_law ["_law_script"]
section
variable {C : Addr} {σ : L2.St} {H : Hp} {t : TA}
theorem ev_b {r : List V → Hp → VK → Prop} {as : List A} {b : A} (e : EvA C t σ H as) (hr : EvR C r as b) : Ev C (fun σ H Q => t σ H fun xs H1 => r xs H1 Q) σ H b := fun H1 s Q q =>
  e H1 s _ fun vs H2 s2 h => hr vs H2 Q h fun v H3 s3 hv => q v H3 (s2.trans s3) hv
theorem ev_t {te : TE} {b : Bool} (e : Ev C te σ H (.d (.bl b))) (h : b = true) : Ev C te σ H (.d (.bl true)) := h ▸ e
theorem et_f {tt : TT} {b : Bool} (e : EvT tt σ H b) (h : b = false) : EvT tt σ H false := h ▸ e
theorem et_t {tt : TT} {b : Bool} (e : EvT tt σ H b) (h : b = true) : EvT tt σ H true := h ▸ e
theorem ev_andT {ta tb : TE} (ea : Ev C ta σ H (.d (.bl true))) (eb : Ev C tb σ H (.d (.bl true))) : Ev C (tAndV ta tb) σ H (.d (.bl true)) := ev_and ea fun _ => eb
theorem ev_orL {ta tb : TE} (ea : Ev C ta σ H (.d (.bl true))) : Ev C (tOrV ta tb) σ H (.d (.bl true)) := ev_or (c := true) ea fun h => by cases h
theorem ev_orR {ta tb : TE} {c : Bool} (ea : Ev C ta σ H (.d (.bl false))) (eb : Ev C tb σ H (.d (.bl c))) : Ev C (tOrV ta tb) σ H (.d (.bl c)) := ev_or ea fun _ => eb
theorem et_orF {tt tu : TT} (ea : EvT tt σ H false) (eb : EvT tu σ H false) : EvT (tOr tt tu) σ H false := et_or ea fun _ => eb
theorem all_true {α : Type} (l : List α) : l.all (fun _ => true) = true := List.all_eq_true.mpr fun _ _ => rfl
theorem ev_parts {K : PySem.W.Frag} {ta : TE} {P : Pl} (e : Ev C ta σ H (.pl P)) (c : SlX.SCls K C) (s1 : Slots1 K C "parts" 0) : Ev C (SlX.tSl K ta "parts") σ H (.d P.d) := fun H1 s Q q =>
  e H1 s _ fun v H2 s2 h => by
    obtain ⟨p, e1, dx, t, h3, h4⟩ := h
    obtain ⟨sp, hs⟩ := s1.ex
    subst e1
    exact ⟨p, C, dx, sp, _, 0, .ref t, rfl, .inr h3, c, hs, rfl, q _ H2 s2 h4⟩
theorem st_ret {C : Addr} {te : TE} {σ : L2.St} {H : Hp} {a : A} {Dn : Ends} (e : Ev C te σ H a) (k : ∀ v H', Same H H' → Rp C H' a v → Dn.rt v H') : tRet te Dn σ H := e H (Same.refl H) _ k
theorem st_if {tt : TT} {t u : TS} {σ : L2.St} {H : Hp} {b : Bool} {Dn : Ends} (e : EvT tt σ H b) (h1 : b = true → ∀ H', Same H H' → t Dn σ H') (h2 : b = false → ∀ H', Same H H' → u Dn σ H') : tIfS tt t u Dn σ H := e H (Same.refl H) _ fun H' s => by
  cases b with
  | true => exact h1 rfl H' s
  | false => exact h2 rfl H' s
theorem st_ifn {tt : TT} {t : TS} {σ : L2.St} {H : Hp} {b : Bool} {Dn : Ends} (e : EvT tt σ H b) (h1 : b = true → ∀ H', Same H H' → t Dn σ H') (h2 : b = false → ∀ H', Same H H' → Dn.nx σ H') : tIfS tt t tNext Dn σ H := st_if e h1 h2
theorem sq_ifn {tt : TT} {t u : TS} {σ : L2.St} {H : Hp} {b : Bool} {Dn : Ends} (e : EvT tt σ H b) (h1 : b = true → ∀ H', Same H H' → t { Dn with nx := u Dn } σ H') (h2 : b = false → ∀ H', Same H H' → u Dn σ H') : tSeq (tIfS tt t tNext) u Dn σ H := st_if (Dn := { Dn with nx := u Dn }) e h1 h2
theorem sq_set {C : Addr} {te : TE} {u : TS} {σ : L2.St} {H : Hp} {a : A} {Dn : Ends} {i : Nat} (e : Ev C te σ H a) (k : ∀ v H', Same H H' → Rp C H' a v → u Dn (σ.set i (some v)) H') : tSeq (tAsg te (gName i)) u Dn σ H := e H (Same.refl H) _ k
theorem sq_expr {C : Addr} {te : TE} {u : TS} {σ : L2.St} {H : Hp} {a : A} {Dn : Ends} (e : Ev C te σ H a) (k : ∀ H', Same H H' → u Dn σ H') : tSeq (tDrop te) u Dn σ H := e H (Same.refl H) _ fun _ H' s _ => k H' s
theorem sq_dnew {u : TS} {σ : L2.St} {H : Hp} {Dn : Ends} {i : Nat} (k : ∀ d, H d = none → u Dn (σ.set i (some (.ref d))) (upd H d (.dK []))) : tSeq (tAsg tDNewK (gName i)) u Dn σ H := fun d hd => k d hd
/-- a for that writes nothing elder than it -/
theorem st_forS {wi : TI} {g : TG} {tb : TS} {σ : L2.St} {H : Hp} {Dn : Ends} {items : List D} (it : EvIs wi σ H items) (Pv : Nat → L2.St → Prop) (h0 : Pv 0 σ)
    (hs : ∀ (i : Nat) (d : D) (x : V) (σ' : L2.St) (H' : Hp) (Dn' : Ends), items[i]? = some d → Pv i σ' → Same H H' → Im H' d x → (∀ σ3 H3, Pv (i + 1) σ3 → Same H' H3 → Dn'.nx σ3 H3) → (∀ σ3 H3, Pv (i + 1) σ3 → Same H' H3 → Dn'.ct σ3 H3) → Dn'.rt = Dn.rt → g x σ' H' (tb Dn'))
    (hd : ∀ σ' H', Pv items.length σ' → Same H H' → Dn.nx σ' H') : tFor wi g tb Dn σ H := it H (Same.refl H) _ fun J H2 s2 w =>
  for_d w (fun i σ' H' => Pv i σ' ∧ Same H2 H') ⟨h0, Same.refl _⟩ (fun i σ' H' p => p.2) (fun i d x σ' H3 H4 hi p s4 im => hs i d x σ' H4 _ hi p.1 (s2.trans (p.2.trans s4)) im (fun σ3 H5 p3 s5 => ⟨p3, p.2.trans (s4.trans s5)⟩) (fun σ3 H5 p3 s5 => ⟨p3, p.2.trans (s4.trans s5)⟩) rfl) (fun σ' H' p => hd σ' H' p.1 (s2.trans p.2))
theorem sq_forS {wi : TI} {g : TG} {tb u : TS} {σ : L2.St} {H : Hp} {Dn : Ends} {items : List D} (it : EvIs wi σ H items) (Pv : Nat → L2.St → Prop) (h0 : Pv 0 σ)
    (hs : ∀ (i : Nat) (d : D) (x : V) (σ' : L2.St) (H' : Hp) (Dn' : Ends), items[i]? = some d → Pv i σ' → Same H H' → Im H' d x → (∀ σ3 H3, Pv (i + 1) σ3 → Same H' H3 → Dn'.nx σ3 H3) → (∀ σ3 H3, Pv (i + 1) σ3 → Same H' H3 → Dn'.ct σ3 H3) → Dn'.rt = Dn.rt → g x σ' H' (tb Dn'))
    (hd : ∀ σ' H', Pv items.length σ' → Same H H' → u Dn σ' H') : tSeq (tFor wi g tb) u Dn σ H := st_forS (Dn := { Dn with nx := u Dn }) it Pv h0 hs hd
/-- .. that writes no tuple -/
theorem st_forT {wi : TI} {g : TG} {tb : TS} {σ : L2.St} {H : Hp} {Dn : Ends} {items : List D} (it : EvIt wi σ H items) (Pv : Nat → L2.St → Hp → Prop) (h0 : ∀ H2, Same H H2 → Pv 0 σ H2)
    (hs : ∀ (i : Nat) (d : D) (x : V) (σ' : L2.St) (H0 H' : Hp) (Dn' : Ends), items[i]? = some d → Pv i σ' H0 → Same H0 H' → Im H' d x → (∀ σ3 H3, Pv (i + 1) σ3 H3 → Tx H' H3 → Dn'.nx σ3 H3) → (∀ σ3 H3, Pv (i + 1) σ3 H3 → Tx H' H3 → Dn'.ct σ3 H3) → Dn'.rt = Dn.rt → g x σ' H' (tb Dn'))
    (hd : ∀ σ' H', Pv items.length σ' H' → Dn.nx σ' H') : tFor wi g tb Dn σ H := it H (Same.refl H) _ fun J H2 s2 w =>
  for_d w (fun i σ' H' => Pv i σ' H' ∧ Tx H2 H') ⟨h0 H2 s2, Tx.refl _⟩ (fun i σ' H' p => p.2) (fun i d x σ' H3 H4 hi p s4 im => hs i d x σ' H3 H4 _ hi p.1 s4 im (fun σ3 H5 p3 t5 => ⟨p3, p.2.trans ((Same.tx s4).trans t5)⟩) (fun σ3 H5 p3 t5 => ⟨p3, p.2.trans ((Same.tx s4).trans t5)⟩) rfl) (fun σ' H' p => hd σ' H' p.1)
theorem sq_forT {wi : TI} {g : TG} {tb u : TS} {σ : L2.St} {H : Hp} {Dn : Ends} {items : List D} (it : EvIt wi σ H items) (Pv : Nat → L2.St → Hp → Prop) (h0 : ∀ H2, Same H H2 → Pv 0 σ H2)
    (hs : ∀ (i : Nat) (d : D) (x : V) (σ' : L2.St) (H0 H' : Hp) (Dn' : Ends), items[i]? = some d → Pv i σ' H0 → Same H0 H' → Im H' d x → (∀ σ3 H3, Pv (i + 1) σ3 H3 → Tx H' H3 → Dn'.nx σ3 H3) → (∀ σ3 H3, Pv (i + 1) σ3 H3 → Tx H' H3 → Dn'.ct σ3 H3) → Dn'.rt = Dn.rt → g x σ' H' (tb Dn'))
    (hd : ∀ σ' H', Pv items.length σ' H' → u Dn σ' H') : tSeq (tFor wi g tb) u Dn σ H := st_forT (Dn := { Dn with nx := u Dn }) it Pv h0 hs hd
theorem er_sortedD {L : List (Str × Int)} (h : (L.map (·.1)).Sublist N3) : EvR C (fun xs H Q => ∃ (a : Addr) (kvs : List (Key × V)) (ks : List Str), xs = [.ref a] ∧ Rd H a (.dK kvs) ∧ kvs.map (·.1) = ks.map Sum.inr ∧ ks.length < 64 ∧ ∀ ys p, ys.Perm ks → sortedS ys = true → H p = none → Q (.ref p) (upd H p (.lst (ys.map V.str)))) [.dic L] (.lst ((L.map (·.1)).map .str)) := fun vs H Q hv q => by
  obtain ⟨v, e, p, e1, e2⟩ := hv.one
  subst e1
  refine ⟨p, kvs L, L.map (·.1), e, .inl e2, by rw [List.map_map, List.map_map] <;> rfl, Nat.lt_of_le_of_lt h.length_le (by decide), fun ys r pm sr hr => ?_⟩
  have ey := srt_uniq h pm sr
  subst ey
  exact q _ _ (same_new hr _) ⟨r, _, rfl, upd_same, iml_map fun _ _ => rfl⟩
theorem er_sortedT {ks ord : List Str} (h : ks.Sublist N3) (pm : ord.Perm ks) {K : PySem.W.Frag} : EvR C (fun xs H Q => ∃ (a : Addr) (ks : List Str), xs = [.ref a] ∧ SqT K H a (ks.map V.str) ∧ ks.length < 64 ∧
    ∀ ys p, ys.Perm ks → sortedS ys = true → H p = none → Q (.ref p) (upd H p (.lst (ys.map V.str)))) [.d (dS ord)] (.lst (ks.map .str)) := fun vs H Q hv q => by
  obtain ⟨v, e, hv⟩ := hv.one
  obtain ⟨p, xs, e1, e2, e3⟩ := rp_tup hv
  subst e1
  have ex : xs = ord.map V.str := iml_flat (fun a v h => im_str h) e3
  refine ⟨p, ord, e, by rw [← ex]; exact SqT.of e2, by rw [pm.length_eq]; exact Nat.lt_of_le_of_lt h.length_le (by decide), fun ys r pm2 sr hr => ?_⟩
  have ey := srt_uniq h (pm2.trans pm) sr
  subst ey
  exact q _ _ (same_new hr _) ⟨r, _, rfl, upd_same, iml_map fun _ _ => rfl⟩
theorem st_expr {C : Addr} {te : TE} {σ : L2.St} {H : Hp} {a : A} {Dn : Ends} (e : Ev C te σ H a) (k : ∀ H', Same H H' → Dn.nx σ H') : tDrop te Dn σ H := e H (Same.refl H) _ fun _ H' s _ => k H' s
theorem st_set {C : Addr} {te : TE} {σ : L2.St} {H : Hp} {a : A} {Dn : Ends} {i : Nat} (e : Ev C te σ H a) (k : ∀ v H', Same H H' → Rp C H' a v → Dn.nx (σ.set i (some v)) H') : tAsg te (gName i) Dn σ H := e H (Same.refl H) _ k
end
end Bf

/-! D1: the defs of plans. -/
namespace Bf
open PySem PySem.Spec PyProof.Rows L2 Bx
section
variable {P : Program} {w : World} {K : PySem.W.Frag} {mg : Str → Option Value} {base : Heap} {CP CS CB : Addr}
def R_is_number (as : List A) (r : A) : Prop := ∃ v a b : Int, as = [.d (.int v), .d (.int a), .d (.int b)] ∧ r = .d (.bl (decide (a ≤ v) && decide (v ≤ b)))
theorem ok_is_number (T : Txt K mg CP CS CB) : C8.Cal P w K mg base 2 "is_number" (SpD CP R_is_number) [] := by
  refine cal_d T.d_is_number sc_is_number (fun as r ⟨v, a, b, e, _⟩ => by rw [e] <;> rfl) fun f cdv A outer s H vs Q E as r hr h hR k => ?_
  obtain ⟨v, a, b, rfl, rfl⟩ := hR
  obtain ⟨v1, v2, v3, rfl, h1, h2, h3⟩ := h.three
  refine ⟨_, (pss_one (ps_ret (pe_and (pe_callB (Bf.isiK K) (by rfl) T.b_isinstance (by decide +kernel) (pa_cons (pv 0) (pa_cons (pe_bltn (v := .ty "int") (by rfl) T.b_int (by decide +kernel) rfl) pa_nil))) (pe_and (pe_not (pe_callB (Bf.isiK K) (by rfl) T.b_isinstance (by decide +kernel) (pa_cons (pv 0) (pa_cons (pe_bltn (v := .ty "bool") (by rfl) T.b_bool (by decide +kernel) rfl) pa_nil)))) (pe_one (pe_chain op_le op_le (pv 1) (pv 0) (pv 2))))))), ?_⟩
  refine st_ret (C := CP) ?_ k
  exact ev_and (b := true) (er_isi (tx_int _) (by decide +kernel) (ev_v rfl h1)) fun _ => ev_and (b := true) (c := decide (a ≤ v) && decide (v ≤ b)) (ev_not (b := false) (er_isi (tx_int _) (by decide +kernel) (ev_v rfl h1))) fun _ => ev_chainI (ev_v rfl h2) (ev_v rfl h1) (ev_v rfl h3)
/-- a word -/
def wordB (z : Str) : Bool := decide (1 ≤ z.length) && decide (z.length ≤ 8) && z.cps.toList.all fun c => decide (c ∈ (Str.ofString "abcdefghijklmnopqrstuvwxyz").cps.toList)
def R_is_word (as : List A) (r : A) : Prop := ∃ z : Str, as = [.d (.str z)] ∧ wordB z = true ∧ r = .d (.bl true)
theorem ok_is_word (T : Txt K mg CP CS CB) : C8.Cal P w K mg base 2 "is_word" (SpD CP R_is_word) [] := by
  refine cal_d T.d_is_word sc_is_word (fun as r ⟨v, e, _⟩ => by rw [e] <;> rfl) fun f cdv A outer s H vs Q E as r hr h hR k => ?_
  obtain ⟨z, rfl, hz, rfl⟩ := hR
  obtain ⟨v1, rfl, h1⟩ := h.one
  unfold wordB at hz
  rw [Bool.and_eq_true, Bool.and_eq_true, decide_eq_true_eq, decide_eq_true_eq] at hz
  obtain ⟨⟨z1, z2⟩, z3⟩ := hz
  refine ⟨_, (pss_cons (ps_if (PW.pt (pw_or (pt_not (pt_val (pe_callB (Bf.isiK K) (by rfl) T.b_isinstance (by decide +kernel) (pa_cons (pv 0) (pa_cons (pe_bltn (v := .ty "str") (by rfl) T.b_str (by decide +kernel) rfl) pa_nil))))) (pw_or1 (pt_not (pt_chain op_le op_le pe_int (pe_callB call_len_str (by rfl) T.b_len (by decide +kernel) (pa_cons (pv 0) pa_nil)) (C8.pe_gc (by rfl) T.g_MAX_LETTERS)))))) (pss_one (ps_ret pe_bl)) pss_nil)
    (pss_one (ps_ret (pe_callB (cr_all rfl) (by rfl) T.b_all (by decide +kernel) (pa_cons (pe_lc (own := [("letter", 1)]) (g := (gName 1)) (tt := tYes) rfl sc_is_word.nd (pi_str (pv 0)) (blkOk_by (own := [("letter", 1)]) (N := ["value", "letter"]) (sc := defScope s_is_word) (by decide +kernel)) (fun _ _ _ _ _ => (pg_name (i := 1) sc_is_word.nd rfl (Or.inl rfl) (Or.inr rfl))) (fun _ _ _ _ _ => pts_nil) (fun _ _ _ _ _ => (pe_cmpR op_in_sign (pv 1) (C8.pe_gc (by rfl) T.g_LETTERS) (by rfl)))) pa_nil))))), ?_⟩
  refine sq_ifn (et_or (b := false) (et_not (b := true) (et_val (C := CP) (er_isi (tx_str _) (by decide +kernel) (ev_v rfl h1)))) fun _ => et_not (et_test (C := CP) (ev_chainI ev_int (ev_b (ea_one (ev_v rfl h1)) (er_len_str (by omega))) (ev_c fun _ => rfl)))) (fun e => ?_) (fun _ H' s' => ?_)
  · exfalso
    have e1 : decide ((1 : Int) ≤ (z.length : Int)) = true := decide_eq_true (by omega)
    have e2 : decide ((z.length : Int) ≤ 8) = true := decide_eq_true (by omega)
    rw [e1, e2] at e
    cases e
  · refine st_ret (C := CP) (a := .d (.bl true)) ?_ fun v H2 s2 hv => k v H2 (s'.trans s2) hv
    exact ev_allT (it_str (ev_v (a := .d (.str z)) rfl (h1.mono s'))).s (fun c => decide (c ∈ (Str.ofString "abcdefghijklmnopqrstuvwxyz").cps.toList)) z3 (by rw [Array.length_toList]; show z.length ≤ _; omega) (fun i a x H2 hi s2 im => turn_name rfl (ev_inS (ev_v rfl im) (ev_c fun _ => rfl)))
def R_are_rates (as : List A) (r : A) : Prop := ∃ l : List Int, as = [.d (dI l)] ∧ 1 ≤ l.length ∧ l.length ≤ 5 ∧ (∀ x ∈ l, 1 ≤ x ∧ x ≤ 99) ∧ r = .d (.bl true)
theorem ok_are_rates (T : Txt K mg CP CS CB) : C8.Cal P w K mg base 4 "are_rates" (SpD CP R_are_rates) [] := by
  have c_is_number := ok_is_number (P := P) (w := w) (base := base) T
  refine cal_d T.d_are_rates sc_are_rates (fun as r ⟨v, e, _⟩ => by rw [e] <;> rfl) fun f cdv A outer s H vs Q E as r hr h hR k => ?_
  obtain ⟨l, rfl, l1, l5, hx, rfl⟩ := hR
  obtain ⟨v1, rfl, h1⟩ := h.one
  refine ⟨_, (pss_one (ps_ret (pe_and (pe_chain op_le op_le pe_int (pe_callB (Bf.lenSK K) (by rfl) T.b_len (by decide +kernel) (pa_cons (pv 0) pa_nil)) (C8.pe_gc (by rfl) T.g_MAX_BREAKERS)) (pe_one (pe_callB (cr_all rfl) (by rfl) T.b_all (by decide +kernel) (pa_cons (pe_lc (own := [("rate", 1)]) (g := (gName 1)) (tt := tYes) rfl sc_are_rates.nd (pi_tup (pv 0)) (blkOk_by (own := [("rate", 1)]) (N := ["row", "rate"]) (sc := defScope s_are_rates) (by decide +kernel)) (fun _ _ _ _ _ => (pg_name (i := 1) sc_are_rates.nd rfl (Or.inl rfl) (Or.inr rfl))) (fun _ _ _ _ _ => pts_nil) (fun _ _ _ _ _ => (C8.pe_c c_is_number hr (by decide) (by rfl) (pa_cons (pv 1) (pa_cons pe_int (pa_cons (C8.pe_gc (by rfl) T.g_MAX_RATE) pa_nil)))))) pa_nil)))))), ?_⟩
  refine st_ret (C := CP) ?_ k
  refine ev_andT (ev_t (ev_chainI ev_int (ev_b (ea_one (ev_v rfl h1)) er_len_tup) (ev_c fun _ => rfl)) ?_) ?_
  · rw [List.length_map]
    simp only [Bool.and_eq_true, decide_eq_true_eq]
    omega
  · refine ev_allT (it_tup (ev_v rfl h1)).s (fun _ => true) (all_true _) (by omega) fun i a x H2 hi s2 im => turn_name rfl ?_
    obtain ⟨a1, a2⟩ := hx a (List.mem_of_getElem? hi)
    refine ev_t (ev_call (as := [.d (.int a), .d (.int 1), .d (.int 99)]) (ea_cons (ev_v rfl im) (ea_cons ev_int (ea_cons (ev_c fun _ => rfl) ea_nil))) ⟨a, 1, 99, rfl, rfl⟩) ?_
    simp only [Bool.and_eq_true, decide_eq_true_eq]
    omega
def R_are_above (as : List A) (r : A) : Prop := ∃ l : List (Option Nat), as = [.d (dW l), .d (.int (l.length : Nat))] ∧ (∀ b j : Nat, l[b]? = some (some j) → j < b) ∧ l.length ≤ 1000 ∧ r = .d (.bl true)
theorem ok_are_above (T : Txt K mg CP CS CB) : C8.Cal P w K mg base 4 "are_above" (SpD CP R_are_above) [] := by
  have c_is_number := ok_is_number (P := P) (w := w) (base := base) T
  refine cal_d T.d_are_above sc_are_above (fun as r ⟨v, e, _⟩ => by rw [e] <;> rfl) fun f cdv A outer s H vs Q E as r hr h hR k => ?_
  obtain ⟨l, rfl, hab, hl, rfl⟩ := hR
  obtain ⟨v1, v2, rfl, h1, h2⟩ := h.two
  refine ⟨_, (pss_cons (ps_if (pt_cmpR op_ne (pe_callB (Bf.lenSK K) (by rfl) T.b_len (by decide +kernel) (pa_cons (pv 0) pa_nil)) (pv 1) (nomark _)) (pss_one (ps_ret pe_bl)) pss_nil)
    (pss_one (ps_ret (pe_callB (cr_all rfl) (by rfl) T.b_all (by decide +kernel) (pa_cons (pe_lc (own := [("breaker", 2), ("other", 3)]) (g := (gTup K 2 (gCons (gName 2) (gCons (gName 3) gNil)))) (tt := tYes) rfl sc_are_above.nd (Rx.pi_enumT (by rfl) T.b_enumerate (pa_cons (pv 0) pa_nil)) (blkOk_by (own := [("breaker", 2), ("other", 3)]) (N := ["row", "count", "breaker", "other"]) (sc := defScope s_are_above) (by decide +kernel)) (fun _ _ _ _ _ => (pg_tup rfl (pgs_cons (pg_name (i := 2) sc_are_above.nd rfl (Or.inl rfl) (Or.inr rfl)) (pgs_cons (pg_name (i := 3) sc_are_above.nd rfl (Or.inl rfl) (Or.inr rfl)) pgs_nil)))) (fun _ _ _ _ _ => pts_nil) (fun _ _ _ _ _ => (pe_or (pe_cmpR op_isN (pv 3) pe_non (nomark _)) (pe_one (C8.pe_c c_is_number hr (by decide) (by rfl) (pa_cons (pv 3) (pa_cons pe_int (pa_cons (pe_op op_sub (pv 2) pe_int) pa_nil)))))))) pa_nil))))), ?_⟩
  refine sq_ifn (et_f (et_test (C := CP) (ev_neZ (ev_b (ea_one (ev_v rfl h1)) er_len_tup) (ev_v rfl h2))) (by rw [List.length_map]; simp)) (fun e => by cases e) fun _ H' s' => ?_
  refine st_ret (C := CP) (a := .d (.bl true)) ?_ fun v H2 s2 hv => k v H2 (s'.trans s2) hv
  have it := it_enumT (K := K) (ea_one (ev_v (C := CP) (σ := L2.start ["row", "count", "breaker", "other"] [v1, v2]) (i := 0) rfl (h1.mono s')))
  rw [enumD_map] at it
  refine ev_allT it.s (fun _ => true) (all_true _) (by rw [List.length_zipIdx]; exact hl) fun i a x H2 hi s2 im => turn_pair im fun v w hv hw => ⟨rfl, ?_⟩
  obtain ⟨o, b⟩ := a
  rw [List.getElem?_zipIdx] at hi
  cases o with
  | none => exact ev_orL (ev_t (ev_isN (ev_v (a := .d .non) rfl hw) ev_non (isN_O none)) rfl)
  | some j =>
    have hj : j < b := by
      cases e : l[i]? with
      | none => rw [e] at hi; cases hi
      | some o =>
        rw [e] at hi
        have e2 : (o, 0 + i) = (some j, b) := Option.some.inj hi
        injection e2 with e3 e4
        subst e3
        have := hab i j e
        omega
    refine ev_orR (ev_isN (b := false) (ev_v (a := .d (.int (j : Nat))) rfl hw) ev_non (isN_O (some j))) (ev_t (ev_call (as := [.d (.int (j : Nat)), .d (.int 0), .d (.int ((b : Int) - 1))]) (ea_cons (ev_v rfl hw) (ea_cons ev_int (ea_one (ev_I0 (g := fun i j => V.int (i - j)) (a := .d (.int ((b : Int) - 1))) (ev_v (a := .d (.int (b : Nat))) rfl hv) ev_int fun _ => rfl)))) ⟨_, _, _, rfl, rfl⟩) ?_)
    simp only [Bool.and_eq_true, decide_eq_true_eq]
    omega
def ptOk (p : Str × Str × Int) : Prop := wordB p.1 = true ∧ (p.2.1 = "lamp" ∨ p.2.1 = "plug") ∧ 0 ≤ p.2.2 ∧ p.2.2 ≤ 9
def R_is_point (as : List A) (r : A) : Prop := ∃ p : Str × Str × Int, as = [.d (dPt p)] ∧ ptOk p ∧ r = .d (.bl true)
theorem ok_is_point (T : Txt K mg CP CS CB) : C8.Cal P w K mg base 4 "is_point" (SpD CP R_is_point) [] := by
  have c_is_word := ok_is_word (P := P) (w := w) (base := base) T
  have c_is_number := ok_is_number (P := P) (w := w) (base := base) T
  refine cal_d T.d_is_point sc_is_point (fun as r ⟨v, e, _⟩ => by rw [e] <;> rfl) fun f cdv A outer s H vs Q E as r hr h hR k => ?_
  obtain ⟨p, rfl, ⟨hw, hk, h0, h9⟩, rfl⟩ := hR
  obtain ⟨v1, rfl, h1⟩ := h.one
  refine ⟨_, (pss_cons (ps_if (PW.pt (pw_or (pt_not (pt_val (pe_callB (Bf.isiK K) (by rfl) T.b_isinstance (by decide +kernel) (pa_cons (pv 0) (pa_cons (pe_bltn (v := .ty "tuple") (by rfl) T.b_tuple (by decide +kernel) rfl) pa_nil))))) (pw_or1 (pt_cmpR op_ne (pe_callB (Bf.lenSK K) (by rfl) T.b_len (by decide +kernel) (pa_cons (pv 0) pa_nil)) pe_int (nomark _))))) (pss_one (ps_ret pe_bl)) pss_nil)
    (pss_one (ps_ret (pe_and (C8.pe_c c_is_word hr (by decide) (by rfl) (pa_cons (pe_ix (Bf.ixT K) (pv 0) pe_int (fun _ _ => rfl)) pa_nil)) (pe_and (pe_cmpR (Bf.inSK K) (pe_ix (Bf.ixT K) (pv 0) pe_int (fun _ _ => rfl)) (pe_tup (pa_cons (C8.pe_gc (by rfl) T.g_LAMP) (pa_cons (C8.pe_gc (by rfl) T.g_PLUG) pa_nil))) (by rfl)) (pe_one (C8.pe_c c_is_number hr (by decide) (by rfl) (pa_cons (pe_ix (Bf.ixT K) (pv 0) pe_int (fun _ _ => rfl)) (pa_cons pe_int (pa_cons (C8.pe_gc (by rfl) T.g_MAX_ROOM) pa_nil)))))))))), ?_⟩
  refine sq_ifn (et_orF (et_f (et_not (b := true) (et_val (C := CP) (er_isi (tx_tup _) (by decide +kernel) (ev_v rfl h1)))) rfl) (et_f (et_test (C := CP) (ev_neZ (ev_b (ea_one (ev_v rfl h1)) er_len_tup) ev_int)) rfl)) (fun e => by cases e) fun _ H' s' => ?_
  refine st_ret (C := CP) (a := .d (.bl true)) ?_ fun v H2 s2 hv => k v H2 (s'.trans s2) hv
  have h1' := h1.mono s'
  refine ev_andT (ev_call (as := [.d (.str p.1)]) (ea_one (ev_ixT (i := 0) (ev_v rfl h1') ev_int rfl)) ⟨p.1, rfl, hw, rfl⟩) (ev_andT (ev_t (ev_inT (b := decide (p.2.1 ∈ [(Str.ofString "lamp"), "plug"])) (ev_ixT (i := 1) (ev_v rfl h1') ev_int rfl) (ev_tup (ds := [.str "lamp", .str "plug"]) (ea_cons (ev_c fun _ => rfl) (ea_one (ev_c fun _ => rfl))) (by decide)) (in_strs _ [(Str.ofString "lamp"), "plug"])) ?_)
    (ev_t (ev_call (as := [.d (.int p.2.2), .d (.int 0), .d (.int 9)]) (ea_cons (ev_ixT (i := 2) (ev_v rfl h1') ev_int rfl) (ea_cons ev_int (ea_one (ev_c fun _ => rfl)))) ⟨_, _, _, rfl, rfl⟩) ?_))
  · show decide _ = true
    apply decide_eq_true
    rcases hk with e | e
    · rw [e]; exact List.mem_cons_self
    · rw [e]; exact List.mem_cons_of_mem _ List.mem_cons_self
  · simp only [Bool.and_eq_true, decide_eq_true_eq]
    omega
def ltStr (a b : Str) : Bool := decide (a.cps.toList < b.cps.toList)
def R_are_points (as : List A) (r : A) : Prop := ∃ l : List (Str × Str × Int), as = [.d (dPts l)] ∧ 1 ≤ l.length ∧ l.length ≤ 5 ∧ (∀ p ∈ l, ptOk p) ∧ ((l.zip (l.drop 1)).all fun e => ltStr e.1.1 e.2.1) = true ∧ r = .d (.bl true)
theorem ok_are_points (T : Txt K mg CP CS CB) : C8.Cal P w K mg base 6 "are_points" (SpD CP R_are_points) [] := by
  have c_is_point := ok_is_point (P := P) (w := w) (base := base) T
  refine cal_d T.d_are_points sc_are_points (fun as r ⟨v, e, _⟩ => by rw [e] <;> rfl) fun f cdv A outer s H vs Q E as r hr h hR k => ?_
  obtain ⟨l, rfl, l1, l5, hp, hs, rfl⟩ := hR
  obtain ⟨v1, rfl, h1⟩ := h.one
  refine ⟨_, (pss_cons (ps_if (PW.pt (pw_or (pt_not (pt_chain op_le op_le pe_int (pe_callB (Bf.lenSK K) (by rfl) T.b_len (by decide +kernel) (pa_cons (pv 0) pa_nil)) (C8.pe_gc (by rfl) T.g_MAX_POINTS))) (pw_or1 (pt_not (pt_val (pe_callB (cr_all rfl) (by rfl) T.b_all (by decide +kernel) (pa_cons (pe_lc (own := [("point", 3)]) (g := (gName 3)) (tt := tYes) rfl sc_are_points.nd (pi_tup (pv 0)) (blkOk_by (own := [("point", 3)]) (N := ["row", "one", "other", "point"]) (sc := defScope s_are_points) (by decide +kernel)) (fun _ _ _ _ _ => (pg_name (i := 3) sc_are_points.nd rfl (Or.inl rfl) (Or.inr rfl))) (fun _ _ _ _ _ => pts_nil) (fun _ _ _ _ _ => (C8.pe_c c_is_point hr (by decide) (by rfl) (pa_cons (pv 3) pa_nil)))) pa_nil))))))) (pss_one (ps_ret pe_bl)) pss_nil)
    (pss_one (ps_ret (pe_callB (cr_all rfl) (by rfl) T.b_all (by decide +kernel) (pa_cons (pe_lc (own := [("one", 1), ("other", 2)]) (g := (gTup K 2 (gCons (gName 1) (gCons (gName 2) gNil)))) (tt := tYes) rfl sc_are_points.nd (RZ.pi_zipA (by rfl) T.b_zip (pa_cons (pv 0) (pa_cons (pe_slice (Bf.slTK K) (pv 0) (po_some pe_int) po_none) pa_nil))) (blkOk_by (own := [("one", 1), ("other", 2)]) (N := ["row", "one", "other", "point"]) (sc := defScope s_are_points) (by decide +kernel)) (fun _ _ _ _ _ => (pg_tup rfl (pgs_cons (pg_name (i := 1) sc_are_points.nd rfl (Or.inl rfl) (Or.inr rfl)) (pgs_cons (pg_name (i := 2) sc_are_points.nd rfl (Or.inl rfl) (Or.inr rfl)) pgs_nil)))) (fun _ _ _ _ _ => pts_nil) (fun _ _ _ _ _ => (pe_cmpR op_lt_str (pe_ix (Bf.ixT K) (pv 1) pe_int (fun _ _ => rfl)) (pe_ix (Bf.ixT K) (pv 2) pe_int (fun _ _ => rfl)) (nomark _)))) pa_nil))))), ?_⟩
  refine sq_ifn (et_orF (et_f (et_not (et_test (C := CP) (ev_chainI ev_int (ev_b (ea_one (ev_v rfl h1)) er_len_tup) (ev_c fun _ => rfl)))) ?_) (et_f (et_not (b := true) (et_val (C := CP) (ev_allT (it_tup (ev_v rfl h1)).s (fun _ => true) (all_true _) (by omega) fun i a x H2 hi s2 im => turn_name rfl
    (ev_call (as := [.d (dPt a)]) (ea_one (ev_v rfl im)) ⟨a, rfl, hp a (List.mem_of_getElem? hi), rfl⟩)))) rfl)) (fun e => by cases e) fun _ H' s' => ?_
  · rw [List.length_map]
    have e1 : decide ((1 : Int) ≤ (l.length : Int)) = true := decide_eq_true (by omega)
    have e2 : decide ((l.length : Int) ≤ 5) = true := decide_eq_true (by omega)
    rw [e1, e2]
    rfl
  · refine st_ret (C := CP) (a := .d (.bl true)) ?_ fun v H2 s2 hv => k v H2 (s'.trans s2) hv
    have h1' := h1.mono s'
    have it := it_zip (K := K) (C := CP) (ea_cons (ev_v (σ := L2.start ["row", "one", "other", "point"] [v1]) (i := 0) rfl h1') (ea_one (ev_slT (K := K) (lo := some ((1 : Nat) : Int)) (hi := none) (ev_v (σ := L2.start ["row", "one", "other", "point"] [v1]) (i := 0) rfl h1') (eo_some (C := CP) (te := tC (.int 1)) ev_int) eo_no)))
    rw [cutD_from, ← List.map_drop, zipD_map] at it
    refine ev_allT it.s (fun e => ltStr e.1.1 e.2.1) hs (by rw [List.length_zip]; omega) fun i a x H2 hi s2 im => turn_pair im fun v w hv hw => ⟨rfl, ?_⟩
    exact ev_ltS (ev_ixT (i := 0) (ev_v (a := .d (dPt a.1)) rfl hv) ev_int rfl) (ev_ixT (i := 0) (ev_v (a := .d (dPt a.2)) rfl hw) ev_int rfl)
/-! ### Plan -/
theorem pts_ok {Pn : Pl} (h : GoodP Pn) : 1 ≤ Pn.pts.length ∧ Pn.pts.length ≤ 3 ∧ (∀ p ∈ Pn.pts, ptOk p) ∧ ((Pn.pts.zip (Pn.pts.drop 1)).all fun e => ltStr e.1.1 e.2.1) = true := by
  obtain ⟨m, m1, m3, hm⟩ := h.nm
  have hl : Pn.pts.length = min m 3 := by
    have e := congrArg List.length hm
    unfold Pl.names at e
    rw [List.length_map, List.length_take] at e
    exact e
  refine ⟨by omega, by omega, fun p hp => ?_, ?_⟩
  · have hn : p.1 ∈ N3 := List.mem_of_mem_take (hm ▸ List.mem_map_of_mem hp : p.1 ∈ N3.take m)
    refine ⟨?_, h.kd p hp, h.rm p hp⟩
    rcases List.mem_cons.mp hn with e | hn
    · rw [e]; decide +kernel
    rcases List.mem_cons.mp hn with e | hn
    · rw [e]; decide +kernel
    rw [List.mem_singleton.mp hn]; decide +kernel
  · have e1 : (Pn.names.zip (Pn.names.drop 1)) = (Pn.pts.zip (Pn.pts.drop 1)).map (Prod.map (·.1) (·.1)) := by
      unfold Pl.names
      rw [← List.map_drop, List.zip_map]
    have e2 : ((Pn.names.zip (Pn.names.drop 1)).all fun e => ltStr e.1 e.2) = true := by
      rw [hm]
      have : m = 1 ∨ m = 2 ∨ m = 3 := by omega
      rcases this with e | e | e <;> (rw [e]; decide +kernel)
    rw [e1, List.all_map] at e2
    exact e2
def sp_Plan_init (CP : Addr) : Sp := fun vs H Q _ => ∃ (p dx : Addr) (Pn : Pl) (rest : List V), vs = .ref p :: rest ∧ H p = some (.ins CP dx []) ∧ H dx = some (.own p) ∧ dx ≠ p ∧ RpL CP H [.d (dI Pn.rates), .d (dW Pn.above), .d (dPts Pn.pts), .d (.str Pn.rule)] rest ∧ GoodP Pn ∧
  ∀ H', (∀ b o, b ≠ p → b ≠ dx → H b = some o → H' b = some o) → PlanAt CP H' p Pn → Q .non H'
theorem ok_Plan (T : Txt K mg CP CS CB) : C8.Mak P w K mg base 8 "Plan" CP (sp_Plan_init CP) [] := by
  have c_are_rates := ok_are_rates (P := P) (w := w) (base := base) T
  have c_are_above := ok_are_above (P := P) (w := w) (base := base) T
  have c_are_points := ok_are_points (P := P) (w := w) (base := base) T
  refine makd_s T.i_P T.mgP sc_Plan_init (fun vs H Q E h => ?_) fun f cdv A outer s H vs Q E hr h => ?_
  · obtain ⟨p, dx, Pn, rest, rfl, _, _, _, h, _⟩ := h
    rw [List.length_cons, h.len]
    rfl
  obtain ⟨p, dx, Pn, rest, rfl, hp, hdx, hne, h, hG, k⟩ := h
  obtain ⟨v1, v2, v3, v4, rfl, h1, h2, h3, h4⟩ := h.four
  obtain ⟨q1, q2, q3, q4⟩ := pts_ok hG
  refine ⟨_, (pss_cons (ps_if (pt_not (pt_val (C8.pe_c c_are_rates hr (by decide) (by rfl) (pa_cons (pv 1) pa_nil)))) (pss_one ps_never) pss_nil)
    (pss_cons (ps_if (pt_not (pt_val (C8.pe_c c_are_above hr (by decide) (by rfl) (pa_cons (pv 2) (pa_cons (pe_callB (Bf.lenSK K) (by rfl) T.b_len (by decide +kernel) (pa_cons (pv 1) pa_nil)) pa_nil))))) (pss_one ps_never) pss_nil)
    (pss_cons (ps_if (pt_not (pt_val (C8.pe_c c_are_points hr (by decide) (by rfl) (pa_cons (pv 3) pa_nil)))) (pss_one ps_never) pss_nil)
    (pss_cons (ps_if (pt_cmpR (Bf.notInSK K) (pv 4) (pe_tup (pa_cons (C8.pe_gc (by rfl) T.g_FREE) (pa_cons (C8.pe_gc (by rfl) T.g_ROOMS) pa_nil))) (by rfl)) (pss_one ps_never) pss_nil)
    (pss_one (SlX.ps_sl (pv 0) (pe_tup (pa_cons (pv 1) (pa_cons (pv 2) (pa_cons (pv 3) (pa_cons (pv 4) pa_nil))))))))))), ?_⟩
  refine sq_ifn (et_f (et_not (b := true) (et_val (C := CP) (ev_call (as := [.d (dI Pn.rates)]) (ea_one (ev_v rfl h1)) ⟨_, rfl, hG.r1, hG.r5, hG.rates, rfl⟩))) rfl) (fun e => by cases e) fun _ H1 s1 => ?_
  have hl : (Pn.rates.map D.int).length = Pn.above.length := by rw [List.length_map, hG.al] <;> rfl
  have el := ev_b (C := CP) (ea_one (ev_v (σ := L2.start ["self", "rates", "above", "points", "rule"] [.ref p, v1, v2, v3, v4]) (i := 1) rfl (h1.mono s1))) (er_len_tup (K := K))
  rw [hl] at el
  refine sq_ifn (et_f (et_not (b := true) (et_val (C := CP) (ev_call (as := [.d (dW Pn.above), .d (.int (Pn.above.length : Nat))]) (ea_cons (ev_v rfl (h2.mono s1)) (ea_one el)) ⟨_, rfl, hG.ab, by have := hG.al; have := hG.r5; omega, rfl⟩))) rfl) (fun e => by cases e) fun _ H2 s2 => ?_
  have s12 := s1.trans s2
  refine sq_ifn (et_f (et_not (b := true) (et_val (C := CP) (ev_call (as := [.d (dPts Pn.pts)]) (ea_one (ev_v rfl (h3.mono s12))) ⟨_, rfl, q1, by omega, q3, q4, rfl⟩))) rfl) (fun e => by cases e) fun _ H3 s3 => ?_
  have s13 := s12.trans s3
  refine sq_ifn (et_f (et_test (C := CP) (ev_inT (b := decide (Pn.rule ∈ [(Str.ofString "free"), "rooms"])) (ev_v rfl (h4.mono s13)) (ev_tup (ds := [.str "free", .str "rooms"]) (ea_cons (ev_c fun _ => rfl) (ea_one (ev_c fun _ => rfl))) (by decide)) (in_strs _ [(Str.ofString "free"), "rooms"]))) ?_) (fun e => by cases e) fun _ H4 s4 => ?_
  · show (!decide _) = false
    have e : decide (Pn.rule ∈ [(Str.ofString "free"), "rooms"]) = true := decide_eq_true (by
      rcases hG.ru with e | e
      · rw [e]; exact List.mem_cons_self
      · rw [e]; exact List.mem_cons_of_mem _ List.mem_cons_self)
    rw [e]
    rfl
  have s14 := s13.trans s4
  have et := ev_tup (C := CP) (H := H4) (σ := L2.start ["self", "rates", "above", "points", "rule"] [.ref p, v1, v2, v3, v4]) (ds := [dI Pn.rates, dW Pn.above, dPts Pn.pts, .str Pn.rule]) (ea_cons (ev_v (i := 1) rfl (h1.mono s14)) (ea_cons (ev_v (i := 2) rfl (h2.mono s14)) (ea_cons (ev_v (i := 3) rfl (h3.mono s14)) (ea_one (ev_v (i := 4) rfl (h4.mono s14)))))) (by show 4 ≤ 1000; decide)
  refine ev_go et fun v H5 s5 hv => ?_
  have s15 := s14.trans s5
  obtain ⟨sp, hs⟩ := T.slP.ex
  obtain ⟨t, xs, et', e2, e3⟩ := rp_tup hv
  subst et'
  have hp5 := s15 _ _ hp
  have hd5 := s15 _ _ hdx
  refine ⟨.ref p, rfl, p, CP, dx, sp, [], 0, rfl, .inl ⟨hp5, rfl⟩, T.clP, hs, ?_⟩
  have tp : t ≠ p := ne_of e2 hp5 fun z => nomatch z
  have td : t ≠ dx := ne_of e2 hd5 fun z => nomatch z
  refine k _ (fun b o n1 n2 e => ?_) ⟨dx, t, ⟨?_, ?_⟩, ?_⟩
  · rw [SlX.slH_ne n1 n2]
    exact s15 _ _ e
  · unfold SlX.slH
    rw [upd_same] <;> rfl
  · unfold SlX.slH
    rw [upd_ne hne, upd_same]
  · have tx : Tx H5 (SlX.slH H5 p CP dx (SlX.putS 0 (.ref t) [])) := fun a xs q => by
      have n1 : a ≠ p := ne_of q hp5 fun z => nomatch z
      have n2 : a ≠ dx := ne_of q hd5 fun z => nomatch z
      rw [SlX.slH_ne n1 n2]
      exact q
    exact (show Im H5 Pn.d (.ref t) from ⟨t, xs, rfl, e2, e3⟩).tx tx
def R_Plan_rates (as : List A) (r : A) : Prop := ∃ Pn : Pl, as = [.pl Pn] ∧ r = .d (dI Pn.rates)
theorem ok_Plan_rates (T : Txt K mg CP CS CB) : PropS P w K mg base 2 CP "rates" (SpD CP R_Plan_rates) := by
  refine pro_d T.p_rates sc_Plan_rates (fun as r ⟨v, e, _⟩ => by rw [e] <;> rfl) fun f cdv A outer s H vs Q E as r hr h hR k => ?_
  obtain ⟨Pn, rfl, rfl⟩ := hR
  obtain ⟨v1, rfl, h1⟩ := h.one
  refine ⟨_, (pss_one (ps_ret (pe_ix (Bf.ixT K) (Bf.pe_slK K (pv 0)) pe_int (fun _ _ => rfl)))), ?_⟩
  exact st_ret (C := CP) (ev_ixT (i := 0) (ev_parts (ev_v rfl h1) T.clP T.slP) ev_int rfl) k
def R_Plan_above (as : List A) (r : A) : Prop := ∃ Pn : Pl, as = [.pl Pn] ∧ r = .d (dW Pn.above)
theorem ok_Plan_above (T : Txt K mg CP CS CB) : PropS P w K mg base 2 CP "above" (SpD CP R_Plan_above) := by
  refine pro_d T.p_above sc_Plan_above (fun as r ⟨v, e, _⟩ => by rw [e] <;> rfl) fun f cdv A outer s H vs Q E as r hr h hR k => ?_
  obtain ⟨Pn, rfl, rfl⟩ := hR
  obtain ⟨v1, rfl, h1⟩ := h.one
  refine ⟨_, (pss_one (ps_ret (pe_ix (Bf.ixT K) (Bf.pe_slK K (pv 0)) pe_int (fun _ _ => rfl)))), ?_⟩
  exact st_ret (C := CP) (ev_ixT (i := 1) (ev_parts (ev_v rfl h1) T.clP T.slP) ev_int rfl) k
def R_Plan_points (as : List A) (r : A) : Prop := ∃ Pn : Pl, as = [.pl Pn] ∧ r = .d (dPts Pn.pts)
theorem ok_Plan_points (T : Txt K mg CP CS CB) : PropS P w K mg base 2 CP "points" (SpD CP R_Plan_points) := by
  refine pro_d T.p_points sc_Plan_points (fun as r ⟨v, e, _⟩ => by rw [e] <;> rfl) fun f cdv A outer s H vs Q E as r hr h hR k => ?_
  obtain ⟨Pn, rfl, rfl⟩ := hR
  obtain ⟨v1, rfl, h1⟩ := h.one
  refine ⟨_, (pss_one (ps_ret (pe_ix (Bf.ixT K) (Bf.pe_slK K (pv 0)) pe_int (fun _ _ => rfl)))), ?_⟩
  exact st_ret (C := CP) (ev_ixT (i := 2) (ev_parts (ev_v rfl h1) T.clP T.slP) ev_int rfl) k
def R_Plan_rule (as : List A) (r : A) : Prop := ∃ Pn : Pl, as = [.pl Pn] ∧ r = .d (.str Pn.rule)
theorem ok_Plan_rule (T : Txt K mg CP CS CB) : PropS P w K mg base 2 CP "rule" (SpD CP R_Plan_rule) := by
  refine pro_d T.p_rule sc_Plan_rule (fun as r ⟨v, e, _⟩ => by rw [e] <;> rfl) fun f cdv A outer s H vs Q E as r hr h hR k => ?_
  obtain ⟨Pn, rfl, rfl⟩ := hR
  obtain ⟨v1, rfl, h1⟩ := h.one
  refine ⟨_, (pss_one (ps_ret (pe_ix (Bf.ixT K) (Bf.pe_slK K (pv 0)) pe_int (fun _ _ => rfl)))), ?_⟩
  exact st_ret (C := CP) (ev_ixT (i := 3) (ev_parts (ev_v rfl h1) T.clP T.slP) ev_int rfl) k
theorem names_d (Pn : Pl) : dS Pn.names = .tup (Pn.pts.map fun p => .str p.1) := by
  unfold Pl.names
  show D.tup _ = _
  rw [List.map_map]
  rfl
def R_Plan_names (as : List A) (r : A) : Prop := ∃ Pn : Pl, as = [.pl Pn] ∧ Pn.pts.length ≤ 1000 ∧ r = .d (dS Pn.names)
theorem ok_Plan_names (T : Txt K mg CP CS CB) : PropS P w K mg base 2 CP "names" (SpD CP R_Plan_names) := by
  refine pro_d T.p_names sc_Plan_names (fun as r ⟨v, e, _⟩ => by rw [e] <;> rfl) fun f cdv A outer s H vs Q E as r hr h hR k => ?_
  obtain ⟨Pn, rfl, hl, rfl⟩ := hR
  obtain ⟨v1, rfl, h1⟩ := h.one
  rw [names_d] at k
  refine ⟨_, (pss_one (ps_ret (pe_callTy call_tuple_of (by rfl) T.b_tuple (by decide +kernel) (pa_cons (pe_lc (own := [("point", 1)]) (g := (gName 1)) (tt := tYes) rfl sc_Plan_names.nd (pi_tup (pe_ix (Bf.ixT K) (Bf.pe_slK K (pv 0)) pe_int (fun _ _ => rfl))) (blkOk_by (own := [("point", 1)]) (N := ["self", "point"]) (sc := defScope s_Plan_names) (by decide +kernel)) (fun _ _ _ _ _ => (pg_name (i := 1) sc_Plan_names.nd rfl (Or.inl rfl) (Or.inr rfl))) (fun _ _ _ _ _ => pts_nil) (fun _ _ _ _ _ => (pe_ix (Bf.ixT K) (pv 1) pe_int (fun _ _ => rfl)))) pa_nil)))), ?_⟩
  refine st_ret (C := CP) (ev_tupc (ev_lcma (it_tup (ev_ixT (i := 2) (ev_parts (ev_v rfl h1) T.clP T.slP) ev_int rfl)).s (fun p => .str p.1) hl fun i a x H2 hi s2 im => turn_name rfl ?_)) k
  exact ev_ixT (i := 0) (ev_v (a := .d (dPt a)) rfl im) ev_int rfl
def R_Plan_len (as : List A) (r : A) : Prop := ∃ Pn : Pl, as = [.pl Pn] ∧ r = .d (.int (Pn.n : Nat))
theorem ok_Plan_len (T : Txt K mg CP CS CB) : LenS P w K mg base 2 CP (SpD CP R_Plan_len) := by
  refine len_d' T.l_P sc_Plan_len (fun as r ⟨v, e, _⟩ => by rw [e] <;> rfl) fun f cdv A outer s H vs Q E as r hr h hR k => ?_
  obtain ⟨Pn, rfl, rfl⟩ := hR
  obtain ⟨v1, rfl, h1⟩ := h.one
  refine ⟨_, (pss_one (ps_ret (pe_callB (Bf.lenSK K) (by rfl) T.b_len (by decide +kernel) (pa_cons (pe_ix (Bf.ixT K) (Bf.pe_slK K (pv 0)) pe_int (fun _ _ => rfl)) pa_nil)))), ?_⟩
  have e := ev_b (C := CP) (ea_one (ev_ixT (K := K) (i := 0) (x := dI Pn.rates) (ev_parts (K := K) (ev_v (σ := L2.start ["self"] [v1]) (i := 0) rfl h1) T.clP T.slP) (ev_int (i := 0)) rfl)) (er_len_tup (K := K))
  rw [List.length_map] at e
  exact st_ret (C := CP) e k
end
end Bf

/-! D2: wirings, states, lines. -/
namespace Bf
open PySem PySem.Spec PyProof.Rows L2 Bx
section
variable {P : Program} {w : World} {K : PySem.W.Frag} {mg : Str → Option Value} {base : Heap} {CP CS CB : Addr}
def R_all_on (as : List A) (r : A) : Prop := ∃ Pn : Pl, as = [.pl Pn] ∧ Pn.n ≤ 1000 ∧ r = .d (dB (allOn Pn))
theorem allOn_d (Pn : Pl) : dB (allOn Pn) = .tup (Pn.rates.map fun _ => .bl true) := by
  unfold allOn
  show D.tup _ = _
  rw [List.map_map]
  rfl
theorem ok_all_on (T : Txt K mg CP CS CB) : C8.Cal P w K mg base 4 "all_on" (SpD CP R_all_on) [] := by
  have c_Plan_rates := ok_Plan_rates (P := P) (w := w) (base := base) T
  refine cal_d T.d_all_on sc_all_on (fun as r ⟨v, e, _⟩ => by rw [e] <;> rfl) fun f cdv A outer s H vs Q E as r hr h hR k => ?_
  obtain ⟨Pn, rfl, hn, rfl⟩ := hR
  obtain ⟨v1, rfl, h1⟩ := h.one
  rw [allOn_d] at k
  refine ⟨_, (pss_one (ps_ret (pe_callTy call_tuple_of (by rfl) T.b_tuple (by decide +kernel) (pa_cons (pe_lc (own := [("rate", 1)]) (g := (gName 1)) (tt := tYes) rfl sc_all_on.nd (pi_tup (Bf.pe_pSl c_Plan_rates T.clP hr (by decide) (pv 0))) (blkOk_by (own := [("rate", 1)]) (N := ["plan", "rate"]) (sc := defScope s_all_on) (by decide +kernel)) (fun _ _ _ _ _ => (pg_name (i := 1) sc_all_on.nd rfl (Or.inl rfl) (Or.inr rfl))) (fun _ _ _ _ _ => pts_nil) (fun _ _ _ _ _ => pe_bl)) pa_nil)))), ?_⟩
  exact st_ret (C := CP) (ev_tupc (ev_lcma (it_tup (ev_prop (ev_v rfl h1) ⟨Pn, rfl, rfl⟩)).s (fun _ => .bl true) hn fun i a x H2 hi s2 im => turn_name rfl ev_bl)) k
def R_line_up (as : List A) (r : A) : Prop := ∃ (Pn : Pl) (b : Nat), as = [.pl Pn, .d (.int (b : Nat))] ∧ GoodP Pn ∧ b < Pn.n ∧ r = .d (dN (line Pn b))
theorem up_get {Pn : Pl} (h : GoodP Pn) {b : Nat} (hb : b < Pn.n) : (Pn.above.map dO)[b]? = some (dO (Pn.up b)) := by
  rw [List.getElem?_map]
  have e : Pn.above[b]? = some (Pn.up b) := by
    unfold Pl.up
    rw [List.getD_eq_getElem?_getD]
    have hl : b < Pn.above.length := by rw [h.al]; exact hb
    rw [List.getElem?_eq_getElem hl]
    rfl
  rw [e]
  rfl
theorem ok_line_up (T : Txt K mg CP CS CB) : C8.Cal P w K mg base 4 "line_up" (SpD CP R_line_up) [] := by
  have c_Plan_above := ok_Plan_above (P := P) (w := w) (base := base) T
  refine cal_d T.d_line_up sc_line_up (fun as r ⟨v, b, e, _⟩ => by rw [e] <;> rfl) fun f cdv A outer s H vs Q E as r hr h hR k => ?_
  obtain ⟨Pn, b, rfl, hG, hb, rfl⟩ := hR
  obtain ⟨v1, v2, rfl, h1, h2⟩ := h.two
  refine ⟨_, (pss_cons (ps_set (i := 2) sc_line_up.nd rfl (Or.inl rfl) (pe_lst (pa_cons (pv 1) pa_nil)))
    (pss_cons (ps_while PassesOwn.never (pt_cmpR op_notN (pe_ix (Bf.ixT K) (Bf.pe_pSl c_Plan_above T.clP hr (by decide) (pv 0)) (pe_ix (Bf.ixL K) (pv 2) pe_int (fun _ _ => rfl)) (fun _ _ => rfl)) pe_non (nomark _)) (pss_one (ps_set (i := 2) sc_line_up.nd rfl (Or.inl rfl) (pe_lst (pa_cons (pe_ix (Bf.ixT K) (Bf.pe_pSl c_Plan_above T.clP hr (by decide) (pv 0)) (pe_ix (Bf.ixL K) (pv 2) pe_int (fun _ _ => rfl)) (fun _ _ => rfl)) (Bf.pa_starK K (pv 2) pa_nil))))))
    (pss_one (ps_ret (pe_callTy call_tuple_of (by rfl) T.b_tuple (by decide +kernel) (pa_cons (pv 2) pa_nil)))))), ?_⟩
  refine sq_set (C := CP) (ev_lst (ds := [.int (b : Nat)]) (ea_one (ev_v rfl h2)) (by show 1 ≤ 1000; decide)) fun vf H1 s1 hf => ?_
  refine ⟨fun m σ H' => ∃ (v : V) (t : List Nat), σ = [some v1, some v2, some v] ∧ Same H H' ∧ m < Pn.n ∧ Rp CP H' (.lst ((m :: t).map fun i => .int (i : Nat))) v ∧ line Pn m ++ t = line Pn b, ⟨b, vf, [], rfl, s1, hb, hf, List.append_nil _⟩, ?_⟩
  rintro m σ H' ⟨v, t, rfl, s', hm, hv, hl⟩
  have hup : Ev CP (tOp (rIxT K) (SlX.tPropSl CP (SpD CP R_Plan_above) E0 (tVar 0)) (tOp (rIxL K) (tVar 2) (tC (.int 0)))) [some v1, some v2, some v] H' (.d (dO (Pn.up m))) :=
    ev_ixT (ev_prop (ev_v rfl (h1.mono s')) ⟨Pn, rfl, rfl⟩) (ev_ixL (i := 0) (ev_v rfl hv) ev_int rfl) (up_get hG hm)
  refine et_go (et_test (C := CP) (ev_notN hup ev_non (isN_O _))) fun H2 s2 => ?_
  have s'' := s'.trans s2
  cases e : Pn.up m with
  | none =>
    refine st_ret (C := CP) (ev_tupc (l := (line Pn b).map fun i => .int (i : Nat)) (ev_v rfl ?_)) fun v H3 s3 hv => k v H3 (s''.trans s3) hv
    rw [← hl, line_eq hG.ab, e]
    exact hv.mono s2
  | some j =>
    have hj := hG.up e
    refine ⟨fun σ H' => ∃ (v : V) (t : List Nat), σ = [some v1, some v2, some v] ∧ Same H H' ∧ j < Pn.n ∧ Rp CP H' (.lst ((j :: t).map fun i => .int (i : Nat))) v ∧ line Pn j ++ t = line Pn b, fun σ' H' z => ⟨j, hj, z⟩, ?_⟩
    rw [e] at hup
    have hlen : t.length ≤ 5 := by
      have hll := line_len hG b
      rw [← hl, List.length_append] at hll
      have := hG.r5
      omega
    refine st_set (C := CP) (ev_lst (ds := .int (j : Nat) :: (m :: t).map fun i => .int (i : Nat)) (ea_cons (EvP.mono hup s2) (ea_starL1 (ev_v rfl (hv.mono s2)))) (by rw [List.length_cons, List.length_map, List.length_cons]; omega)) fun u H3 s3 hu => ?_
    refine ⟨u, m :: t, rfl, s''.trans s3, by omega, hu, ?_⟩
    rw [← hl, line_eq hG.ab m, e]
    show line Pn j ++ m :: t = (line Pn j ++ [m]) ++ t
    rw [List.append_assoc]
    rfl
def R_has_power (as : List A) (r : A) : Prop := ∃ (Pn : Pl) (st : List Bool) (b : Option Nat), as = [.pl Pn, .d (dB st), .d (dO b)] ∧ GoodP Pn ∧ st.length = Pn.n ∧ (∀ j, b = some j → j < Pn.n) ∧ r = .d (.bl (hp Pn st b))
theorem st_at {st : List Bool} {i n : Nat} (h : st.length = n) (hi : i < n) : (st.map D.bl)[i]? = some (.bl (st.getD i false)) := by
  rw [List.getElem?_map, List.getD_eq_getElem?_getD, List.getElem?_eq_getElem (by omega)]
  rfl
theorem ok_has_power (T : Txt K mg CP CS CB) : C8.Cal P w K mg base 6 "has_power" (SpD CP R_has_power) [] := by
  have c_line_up := ok_line_up (P := P) (w := w) (base := base) T
  refine cal_d T.d_has_power sc_has_power (fun as r ⟨v, b, c, e, _⟩ => by rw [e] <;> rfl) fun f cdv A outer s H vs Q E as r hr h hR k => ?_
  obtain ⟨Pn, st, b, rfl, hG, hst, hb, rfl⟩ := hR
  obtain ⟨v1, v2, v3, rfl, h1, h2, h3⟩ := h.three
  refine ⟨_, (pss_one (ps_ret (pe_and (pe_cmpR op_notN (pv 2) pe_non (nomark _)) (pe_one (pe_callB (cr_all rfl) (by rfl) T.b_all (by decide +kernel) (pa_cons (pe_lc (own := [("one", 3)]) (g := (gName 3)) (tt := tYes) rfl sc_has_power.nd (pi_tup (C8.pe_c c_line_up hr (by decide) (by rfl) (pa_cons (pv 0) (pa_cons (pv 2) pa_nil)))) (blkOk_by (own := [("one", 3)]) (N := ["plan", "state", "breaker", "one"]) (sc := defScope s_has_power) (by decide +kernel)) (fun _ _ _ _ _ => (pg_name (i := 3) sc_has_power.nd rfl (Or.inl rfl) (Or.inr rfl))) (fun _ _ _ _ _ => pts_nil) (fun _ _ _ _ _ => (pe_ix (Bf.ixT K) (pv 1) (pv 3) (fun _ _ => rfl)))) pa_nil)))))), ?_⟩
  cases b with
  | none => exact st_ret (C := CP) (ev_and (b := false) (c := true) (ev_notN (b := true) (ev_v (a := .d .non) rfl h3) ev_non (isN_O none)) fun z => by cases z) k
  | some b =>
    have hbn := hb b rfl
    have hll := line_len hG b
    have h5 := hG.r5
    refine st_ret (C := CP) (ev_and (b := true) (c := hp Pn st (some b)) (ev_notN (b := false) (ev_v (a := .d (.int (b : Nat))) rfl h3) ev_non (isN_O (some b))) fun _ => ?_) k
    refine ev_allc (φ := fun i : Nat => .int (i : Nat)) (it_tup (ev_call (as := [.pl Pn, .d (.int (b : Nat))]) (ea_cons (ev_v rfl h1) (ea_one (ev_v rfl h3))) ⟨Pn, b, rfl, hG, hbn, rfl⟩)).s (fun i => st.getD i false) (by omega) fun i a x H2 hi s2 im => turn_name rfl ?_
    have ha := line_le hG b a (List.mem_of_getElem? hi)
    exact ev_ixT (ev_v rfl (h2.mono s2)) (ev_v rfl im) (st_at hst (by omega))
structure OkA (Pn : Pl) (wr : List (Option Nat)) (st : List Bool) : Prop where
  g : GoodP Pn
  w : GoodW Pn wr
  s : st.length = Pn.n
theorem OkA.wl {Pn : Pl} {wr : List (Option Nat)} {st : List Bool} (h : OkA Pn wr st) : wr.length = Pn.names.length := by
  unfold Pl.names
  rw [List.length_map, h.w.len]
theorem names_len {Pn : Pl} : (Pn.names.map D.str).length = Pn.pts.length := by
  unfold Pl.names
  rw [List.length_map, List.length_map]
theorem wr_rng {Pn : Pl} {wr : List (Option Nat)} (h : GoodW Pn wr) {o : Option Nat} (ho : o ∈ wr) : ∀ j, o = some j → j < Pn.n := fun j e => h.rng j (e ▸ ho)
def R_live_in (as : List A) (r : A) : Prop := ∃ (Pn : Pl) (wr : List (Option Nat)) (st : List Bool), as = [.pl Pn, .d (dW wr), .d (dB st)] ∧ OkA Pn wr st ∧ r = .d (dS (liveIn Pn wr st))
theorem liveIn_d (Pn : Pl) (wr : List (Option Nat)) (st : List Bool) : dS (liveIn Pn wr st) = .tup ((Pn.names.zip wr).filterMap fun e => if hp Pn st e.2 then some (.str e.1) else none) := by
  unfold liveIn
  show D.tup _ = _
  rw [List.map_filterMap]
  congr 2
  funext e
  cases hp Pn st e.2 <;> rfl
theorem ok_live_in (T : Txt K mg CP CS CB) : C8.Cal P w K mg base 8 "live_in" (SpD CP R_live_in) [] := by
  have c_Plan_names := ok_Plan_names (P := P) (w := w) (base := base) T
  have c_has_power := ok_has_power (P := P) (w := w) (base := base) T
  refine cal_d T.d_live_in sc_live_in (fun as r ⟨v, b, c, e, _⟩ => by rw [e] <;> rfl) fun f cdv A outer s H vs Q E as r hr h hR k => ?_
  obtain ⟨Pn, wr, st, rfl, hO, rfl⟩ := hR
  obtain ⟨v1, v2, v3, rfl, h1, h2, h3⟩ := h.three
  rw [liveIn_d] at k
  have hpl := hO.g.pl
  refine ⟨_, (pss_cons (ps_set (i := 3) sc_live_in.nd rfl (Or.inl rfl) (Rx.pe_listZip (by rfl) T.b_list (by rfl) T.b_zip (pa_cons (Bf.pe_pSl c_Plan_names T.clP hr (by decide) (pv 0)) (pa_cons (pv 1) pa_nil))))
    (pss_one (ps_ret (pe_callTy call_tuple_of (by rfl) T.b_tuple (by decide +kernel) (pa_cons (pe_lc (own := [("name", 4), ("breaker", 5)]) (g := (gTup K 2 (gCons (gName 4) (gCons (gName 5) gNil)))) rfl sc_live_in.nd (pi_list (pv 3)) (blkOk_by (own := [("name", 4), ("breaker", 5)]) (N := ["plan", "wiring", "state", "rows", "name", "breaker"]) (sc := defScope s_live_in) (by decide +kernel)) (fun _ _ _ _ _ => (pg_tup rfl (pgs_cons (pg_name (i := 4) sc_live_in.nd rfl (Or.inl rfl) (Or.inr rfl)) (pgs_cons (pg_name (i := 5) sc_live_in.nd rfl (Or.inl rfl) (Or.inr rfl)) pgs_nil)))) (fun _ _ _ _ _ => (pts_one (pt_val (C8.pe_c c_has_power hr (by decide) (by rfl) (pa_cons (pv 0) (pa_cons (pv 2) (pa_cons (pv 5) pa_nil))))))) (fun _ _ _ _ _ => (pv 4))) pa_nil))))), ?_⟩
  refine sq_set (C := CP) (ev_listZip (ea_cons (ev_prop (ev_v rfl h1) ⟨Pn, rfl, by omega, rfl⟩) (ea_one (ev_v rfl h2))) (by rw [names_len, List.length_map, hO.w.len]) (by rw [names_len]; omega)) fun vr H1 s1 hr' => ?_
  rw [zipD_map] at hr'
  refine st_ret (C := CP) (ev_tupc (ev_lca (it_list (ev_v rfl hr')) (fun e => if hp Pn st e.2 then some (.str e.1) else none) (by rw [List.length_zip, hO.wl, Nat.min_self]; have := hO.g.nl; omega) fun i a x H2 hi s2 im => turnO_pair im fun v u hv hu => ⟨rfl, ?_, fun d hd => ?_⟩)) fun v H2 s2 hv => k v H2 (s1.trans s2) hv
  · have e := et_val (C := CP) (ev_call (E := E0) (t := tCons (tVar 0) (tCons (tVar 2) (tCons (tVar 5) tNil))) (σ := ((wipe ((L2.start ["plan", "wiring", "state", "rows", "name", "breaker"] [v1, v2, v3]).set 3 (some vr)) [4, 5]).set 4 (some v)).set 5 (some u)) (H := H2) (R := R_has_power) (as := [.pl Pn, .d (dB st), .d (dO a.2)]) (ea_cons (ev_v rfl ((h1.mono s1).mono s2)) (ea_cons (ev_v rfl ((h3.mono s1).mono s2)) (ea_one (ev_v rfl hu)))) ⟨Pn, st, a.2, rfl, hO.g, hO.s, wr_rng hO.w (List.of_mem_zip (List.mem_of_getElem? hi)).2, rfl⟩)
    cases hb : hp Pn st a.2 <;> (rw [hb] at e; exact e)
  · cases hb : hp Pn st a.2 with
    | false => rw [hb] at hd; cases hd
    | true =>
      rw [hb] at hd
      cases hd
      exact ev_v rfl hv
def R_is_state (as : List A) (r : A) : Prop := ∃ (Pn : Pl) (st : List Bool), as = [.pl Pn, .d (dB st)] ∧ st.length = Pn.n ∧ Pn.n < 1000 ∧ r = .d (.bl true)
theorem ok_is_state (T : Txt K mg CP CS CB) : C8.Cal P w K mg base 4 "is_state" (SpD CP R_is_state) [] := by
  have c_Plan_len := ok_Plan_len (P := P) (w := w) (base := base) T
  refine cal_d T.d_is_state sc_is_state (fun as r ⟨v, b, e, _⟩ => by rw [e] <;> rfl) fun f cdv A outer s H vs Q E as r hr h hR k => ?_
  obtain ⟨Pn, st, rfl, hst, hn, rfl⟩ := hR
  obtain ⟨v1, v2, rfl, h1, h2⟩ := h.two
  refine ⟨_, (pss_cons (ps_if (PW.pt (pw_or (pt_not (pt_val (pe_callB (Bf.isiK K) (by rfl) T.b_isinstance (by decide +kernel) (pa_cons (pv 1) (pa_cons (pe_bltn (v := .ty "tuple") (by rfl) T.b_tuple (by decide +kernel) rfl) pa_nil))))) (pw_or1 (pt_cmpR op_ne (pe_callB (Bf.lenSK K) (by rfl) T.b_len (by decide +kernel) (pa_cons (pv 1) pa_nil)) (Bf.pe_lenP c_Plan_len T.clP hr (by decide) (by rfl) T.b_len (pa_cons (pv 0) pa_nil)) (nomark _))))) (pss_one (ps_ret pe_bl)) pss_nil)
    (pss_one (ps_ret (pe_callB (cr_all rfl) (by rfl) T.b_all (by decide +kernel) (pa_cons (pe_lc (own := [("one", 2)]) (g := (gName 2)) (tt := tYes) rfl sc_is_state.nd (pi_tup (pv 1)) (blkOk_by (own := [("one", 2)]) (N := ["plan", "value", "one"]) (sc := defScope s_is_state) (by decide +kernel)) (fun _ _ _ _ _ => (pg_name (i := 2) sc_is_state.nd rfl (Or.inl rfl) (Or.inr rfl))) (fun _ _ _ _ _ => pts_nil) (fun _ _ _ _ _ => (pe_callB (Bf.isiK K) (by rfl) T.b_isinstance (by decide +kernel) (pa_cons (pv 2) (pa_cons (pe_bltn (v := .ty "bool") (by rfl) T.b_bool (by decide +kernel) rfl) pa_nil))))) pa_nil))))), ?_⟩
  refine sq_ifn (et_orF (et_f (et_not (b := true) (et_val (C := CP) (er_isi (tx_tup _) (by decide +kernel) (ev_v rfl h2)))) rfl) (et_f (et_test (C := CP) (ev_neZ (ev_b (ea_one (ev_v rfl h2)) er_len_tup) (ev_lenP (ea_one (ev_v rfl h1)) ⟨Pn, rfl, rfl⟩ hn))) ?_)) (fun e => by cases e) fun _ H' s' => ?_
  · rw [List.length_map, hst]
    simp
  · refine st_ret (C := CP) (a := .d (.bl true)) ?_ fun v H2 s2 hv => k v H2 (s'.trans s2) hv
    refine ev_allT (φ := D.bl) (it_tup (ev_v rfl (h2.mono s'))).s (fun _ => true) (all_true _) (by omega) fun i a x H2 hi s2 im => turn_name rfl ?_
    exact er_isi (tx_bl a) (by decide +kernel) (ev_v rfl im)
def R_check_state (as : List A) (r : A) : Prop := ∃ (Pn : Pl) (st : List Bool), as = [.pl Pn, .d (dB st)] ∧ st.length = Pn.n ∧ Pn.n < 1000 ∧ r = .d .non
theorem ok_check_state (T : Txt K mg CP CS CB) : C8.Cal P w K mg base 6 "check_state" (SpD CP R_check_state) [] := by
  have c_is_state := ok_is_state (P := P) (w := w) (base := base) T
  refine cal_d T.d_check_state sc_check_state (fun as r ⟨v, b, e, _⟩ => by rw [e] <;> rfl) fun f cdv A outer s H vs Q E as r hr h hR k => ?_
  obtain ⟨Pn, st, rfl, hst, hn, rfl⟩ := hR
  obtain ⟨v1, v2, rfl, h1, h2⟩ := h.two
  refine ⟨_, (pss_one (ps_if (pt_not (pt_val (C8.pe_c c_is_state hr (by decide) (by rfl) (pa_cons (pv 0) (pa_cons (pv 1) pa_nil))))) (pss_one ps_never) pss_nil)), ?_⟩
  exact st_ifn (et_f (et_not (b := true) (et_val (C := CP) (ev_call (as := [.pl Pn, .d (dB st)]) (ea_cons (ev_v rfl h1) (ea_one (ev_v rfl h2))) ⟨Pn, st, rfl, hst, hn, rfl⟩))) rfl) (fun e => by cases e) fun _ H' s' => k _ _ s' rfl
abbrev vO : Option Nat → V
  | none => .non
  | some j => .int (j : Nat)
theorem im_O {H : Hp} {o : Option Nat} {v : V} (h : Im H (dO o) v) : v = vO o := by
  cases o with
  | none => exact im_non h
  | some j => exact im_int h
theorem scal_O (a b : Option Nat) : scal (vO a) (vO b) = true := by cases a <;> cases b <;> rfl
theorem map_at {α β : Type} {f : α → β} {l : List α} {i : Nat} {y : β} (h : (l.map f)[i]? = some y) : ∃ a, l[i]? = some a ∧ y = f a := by
  rw [List.getElem?_map] at h
  cases e : l[i]? with
  | none => rw [e] at h; cases h
  | some a =>
    rw [e] at h
    exact ⟨a, rfl, (Option.some.inj h).symm⟩
theorem zip_at {α β : Type} {l : List α} {m : List β} {i : Nat} {e : α × β} (h : (l.zip m)[i]? = some e) : l[i]? = some e.1 ∧ m[i]? = some e.2 := List.getElem?_zip_eq_some.mp h
def R_does_follow (as : List A) (r : A) : Prop := ∃ (Pn : Pl) (wr : List (Option Nat)), as = [.pl Pn, .d (dW wr)] ∧ GoodP Pn ∧ GoodW Pn wr ∧ r = .d (.bl true)
theorem ok_does_follow (T : Txt K mg CP CS CB) : C8.Cal P w K mg base 4 "does_follow" (SpD CP R_does_follow) [] := by
  have c_Plan_rule := ok_Plan_rule (P := P) (w := w) (base := base) T
  have c_Plan_points := ok_Plan_points (P := P) (w := w) (base := base) T
  refine cal_d T.d_does_follow sc_does_follow (fun as r ⟨v, b, e, _⟩ => by rw [e] <;> rfl) fun f cdv A outer s H vs Q E as r hr h hR k => ?_
  obtain ⟨Pn, wr, rfl, hG, hW, rfl⟩ := hR
  obtain ⟨v1, v2, rfl, h1, h2⟩ := h.two
  refine ⟨_, (pss_cons (ps_if (pt_cmpR op_eq (Bf.pe_pSl c_Plan_rule T.clP hr (by decide) (pv 0)) (C8.pe_gc (by rfl) T.g_FREE) (nomark _)) (pss_one (ps_ret pe_bl)) pss_nil)
    (pss_cons (ps_set (i := 2) sc_does_follow.nd rfl (Or.inl rfl) pe_dnewK)
    (pss_cons (ps_for PassesOwn.never rfl (RZ.pi_zipA (by rfl) T.b_zip (pa_cons (Bf.pe_pSl c_Plan_points T.clP hr (by decide) (pv 0)) (pa_cons (pv 1) pa_nil))) (pg_tup rfl (pgs_cons (pg_name (i := 3) sc_does_follow.nd rfl (Or.inl rfl)) (pgs_cons (pg_name (i := 4) sc_does_follow.nd rfl (Or.inl rfl)) pgs_nil))) (pss_one (ps_if (PW.pt (pw_and (pt_cmpR op_eq (pe_ix (Bf.ixT K) (pv 3) pe_int (fun _ _ => rfl)) (C8.pe_gc (by rfl) T.g_LAMP) (nomark _)) (pw_and1 (pt_cmpR op_ne (pe_dsetd (pv 2) (pe_ix (Bf.ixT K) (pv 3) pe_int (fun _ _ => rfl)) (pv 4) ⟨rfl, rfl, rfl, rfl⟩) (pv 4) (nomark _))))) (pss_one (ps_ret pe_bl)) pss_nil)))
    (pss_one (ps_ret pe_bl))))), ?_⟩
  refine sq_ifn (et_test (C := CP) (ev_eqS (ev_prop (ev_v rfl h1) ⟨Pn, rfl, rfl⟩) (ev_c (a := .d (.str "free")) fun _ => rfl))) (fun e H' s' => st_ret (C := CP) ev_bl fun v H2 s2 hv => k v H2 (s'.trans s2) hv) fun e Hb sb => ?_
  have hne : Pn.rule ≠ "free" := of_decide_eq_false e
  have fol := hW.fol.resolve_left hne
  refine sq_dnew fun d hd => ?_
  have it := it_zip (K := K) (C := CP) (σ := (L2.start ["plan", "wiring", "found", "point", "breaker"] [v1, v2]).set 2 (some (.ref d))) (H := upd Hb d (.dK [])) (ea_cons (ev_prop (E := E0) (R := R_Plan_points) (ev_v (i := 0) rfl ((h1.mono sb).mono (same_new hd _))) ⟨Pn, rfl, rfl⟩) (ea_one (ev_v (i := 1) rfl ((h2.mono sb).mono (same_new hd _)))))
  rw [zipD_map] at it
  refine sq_forT it (fun i σ' H' => ∃ (o3 o4 : Option V) (kv : List (Key × V)), σ' = [some v1, some v2, some (.ref d), o3, o4] ∧ Same Hb H' ∧ H' d = some (.dK kv) ∧ kv.length ≤ i ∧
    ∀ (y : Key) v, valV kv y = some v → ∃ (j : Nat) (p : Str × Str × Int) (b : Option Nat), Pn.pts[j]? = some p ∧ wr[j]? = some b ∧ p.2.1 = "lamp" ∧ y = Sum.inl p.2.2 ∧ v = vO b)
    (fun H2 s2 => ⟨none, none, [], rfl, (same_new hd _).trans s2, s2 _ _ upd_same, Nat.le_refl _, fun y v z => by cases z⟩) ?_ ?_
  · rintro i dd x σ' H0 H' Dn' hi ⟨o3, o4, kv, rfl, s0, hk, hl, hv⟩ s' im hnx hct hrt
    obtain ⟨⟨p, b⟩, ha, rfl⟩ := map_at hi
    obtain ⟨hp, hb⟩ := zip_at ha
    obtain ⟨u, y, hu, hy, g⟩ := g_pair (K := K) (n := 3) (m := 4) im
    refine g _ _ ?_
    have sb' := s0.trans s'
    have hpt : ∀ H2, Same H' H2 → Rp CP H2 (.d (dPt p)) u := fun H2 s2 => Im.mono hu s2
    refine et_go (et_test (C := CP) (ev_eqS (ev_ixT (i := 1) (ev_v rfl (hpt H' (Same.refl _))) ev_int rfl) (ev_c (a := .d (.str "lamp")) fun _ => rfl))) fun H1 s1 => ?_
    cases hc : decide (p.2.1 = ("lamp" : Str)) with
    | false => exact hnx _ _ ⟨_, _, kv, rfl, sb'.trans s1, s1 _ _ (s' _ _ hk), Nat.le_succ_of_le hl, hv⟩ (Same.tx s1)
    | true =>
      have hlamp : p.2.1 = ("lamp" : Str) := of_decide_eq_true hc
      refine ⟨_, rfl, d, rfl, .inl ⟨kv, .inl (s1 _ _ (s' _ _ hk))⟩, ?_⟩
      refine ev_go (P := fun v H' => Rp CP H' (.d (.int p.2.2)) v) (ev_ixT (i := 2) (x := .int p.2.2) (ev_v rfl (hpt H1 s1)) ev_int rfl) fun vr H2 s2 hvr => ?_
      have hk2 := s2 _ _ (s1 _ _ (s' _ _ hk))
      have ey := im_O hy
      have hz : kv.length < sizeLine := by
        have := (List.getElem?_eq_some_iff.mp hp).1
        have := hG.pl
        rw [sizeLine_eq]
        omega
      refine ⟨_, rfl, kv, Sum.inl p.2.2, hk2, rp_int hvr, hz, fun v hvv => ?_, fun hnone => ?_⟩
      · obtain ⟨j, p2, b2, e1, e2, e3, e4, e5⟩ := hv _ _ hvv
        have e6 : b2 = b := fol j i p2 p b2 b e1 hp e2 hb e3 hlamp (by injection e4 with e4; exact e4.symm)
        refine ⟨_, rfl, by rw [e5, ey]; exact scal_O _ _, false, ?_, ?_⟩
        · rw [e5, ey, e6, decide_eq_true rfl] <;> rfl
        · exact hnx _ _ ⟨_, _, kv, rfl, sb'.trans (s1.trans s2), hk2, Nat.le_succ_of_le hl, hv⟩ (Same.tx (s1.trans s2))
      · refine ⟨_, rfl, by rw [ey]; exact scal_O _ _, false, ?_, ?_⟩
        · rw [decide_eq_true rfl] <;> rfl
        · have hd2 : Hb d = none := hd
          refine hnx _ _ ⟨_, _, _, rfl, same_mut (sb'.trans (s1.trans s2)) hd2, upd_same, ?_, fun y0 v0 hv0 => ?_⟩ ((Same.tx (s1.trans s2)).trans (tx_upd hk2 fun _ z => nomatch z))
          · rw [putK_new _ hnone, List.length_append, List.length_singleton]
            omega
          · rw [valV_put] at hv0
            by_cases q : y0 = Sum.inl p.2.2
            · rw [if_pos q] at hv0
              exact ⟨i, p, b, hp, hb, hlamp, q, by rw [← Option.some.inj hv0]; exact ey⟩
            · rw [if_neg q] at hv0
              exact hv _ _ hv0
  · rintro σ' H' ⟨o3, o4, kv, rfl, s0, _⟩
    exact st_ret (C := CP) ev_bl fun v H2 s2 hv => k v H2 (sb.trans (s0.trans s2)) hv
end
end Bf

/-! D3: checks. -/
namespace Bf
open PySem PySem.Spec PyProof.Rows L2 Bx
section
variable {P : Program} {w : World} {K : PySem.W.Frag} {mg : Str → Option Value} {base : Heap} {CP CS CB : Addr}
def R_is_wiring (as : List A) (r : A) : Prop := ∃ (Pn : Pl) (wr : List (Option Nat)), as = [.pl Pn, .d (dW wr)] ∧ GoodP Pn ∧ GoodW Pn wr ∧ r = .d (.bl true)
theorem ok_is_wiring (T : Txt K mg CP CS CB) : C8.Cal P w K mg base 6 "is_wiring" (SpD CP R_is_wiring) [] := by
  have c_Plan_points := ok_Plan_points (P := P) (w := w) (base := base) T
  have c_is_number := ok_is_number (P := P) (w := w) (base := base) T
  have c_Plan_len := ok_Plan_len (P := P) (w := w) (base := base) T
  have c_does_follow := ok_does_follow (P := P) (w := w) (base := base) T
  refine cal_d T.d_is_wiring sc_is_wiring (fun as r ⟨v, b, e, _⟩ => by rw [e] <;> rfl) fun f cdv A outer s H vs Q E as r hr h hR k => ?_
  obtain ⟨Pn, wr, rfl, hG, hW, rfl⟩ := hR
  obtain ⟨v1, v2, rfl, h1, h2⟩ := h.two
  have hpl := hG.pl
  have h5 := hG.r5
  refine ⟨_, (pss_cons (ps_if (PW.pt (pw_or (pt_not (pt_val (pe_callB (Bf.isiK K) (by rfl) T.b_isinstance (by decide +kernel) (pa_cons (pv 1) (pa_cons (pe_bltn (v := .ty "tuple") (by rfl) T.b_tuple (by decide +kernel) rfl) pa_nil))))) (pw_or1 (pt_cmpR op_ne (pe_callB (Bf.lenSK K) (by rfl) T.b_len (by decide +kernel) (pa_cons (pv 1) pa_nil)) (pe_callB (Bf.lenSK K) (by rfl) T.b_len (by decide +kernel) (pa_cons (Bf.pe_pSl c_Plan_points T.clP hr (by decide) (pv 0)) pa_nil)) (nomark _))))) (pss_one (ps_ret pe_bl)) pss_nil)
    (pss_cons (ps_if (pt_not (pt_val (pe_callB (cr_all rfl) (by rfl) T.b_all (by decide +kernel) (pa_cons (pe_lc (own := [("breaker", 2)]) (g := (gName 2)) (tt := tYes) rfl sc_is_wiring.nd (pi_tup (pv 1)) (blkOk_by (own := [("breaker", 2)]) (N := ["plan", "value", "breaker"]) (sc := defScope s_is_wiring) (by decide +kernel)) (fun _ _ _ _ _ => (pg_name (i := 2) sc_is_wiring.nd rfl (Or.inl rfl) (Or.inr rfl))) (fun _ _ _ _ _ => pts_nil) (fun _ _ _ _ _ => (pe_or (pe_cmpR op_isN (pv 2) pe_non (nomark _)) (pe_one (C8.pe_c c_is_number hr (by decide) (by rfl) (pa_cons (pv 2) (pa_cons pe_int (pa_cons (pe_op op_sub (Bf.pe_lenP c_Plan_len T.clP hr (by decide) (by rfl) T.b_len (pa_cons (pv 0) pa_nil)) pe_int) pa_nil)))))))) pa_nil)))) (pss_one (ps_ret pe_bl)) pss_nil)
    (pss_one (ps_ret (C8.pe_c c_does_follow hr (by decide) (by rfl) (pa_cons (pv 0) (pa_cons (pv 1) pa_nil))))))), ?_⟩
  refine sq_ifn (et_orF (et_f (et_not (b := true) (et_val (C := CP) (er_isi (tx_tup _) (by decide +kernel) (ev_v rfl h2)))) rfl) (et_f (et_test (C := CP) (ev_neZ (ev_b (ea_one (ev_v rfl h2)) er_len_tup) (ev_b (ea_one (ev_prop (ev_v rfl h1) ⟨Pn, rfl, rfl⟩)) er_len_tup))) ?_)) (fun e => by cases e) fun _ H1 s1 => ?_
  · rw [List.length_map, List.length_map, hW.len]
    simp
  refine sq_ifn (et_f (et_not (b := true) (et_val (C := CP) (ev_allT (φ := dO) (it_tup (ev_v rfl (h2.mono s1))).s (fun _ => true) (all_true _) (by rw [hW.len]; omega) fun i a x H2 hi s2 im => turn_name rfl ?_))) rfl) (fun e => by cases e) fun _ H2 s2 => ?_
  · cases a with
    | none => exact ev_orL (ev_t (ev_isN (ev_v (a := .d .non) rfl im) ev_non (isN_O none)) rfl)
    | some j =>
      have hj := wr_rng hW (List.mem_of_getElem? hi) j rfl
      refine ev_orR (ev_isN (b := false) (ev_v (a := .d (.int (j : Nat))) rfl im) ev_non (isN_O (some j))) (ev_t (ev_call (as := [.d (.int (j : Nat)), .d (.int 0), .d (.int ((Pn.n : Int) - 1))]) (ea_cons (ev_v rfl im) (ea_cons ev_int (ea_one (ev_I0 (g := fun i j => V.int (i - j)) (a := .d (.int ((Pn.n : Int) - 1))) (ev_lenP (ea_one (ev_v rfl ((h1.mono s1).mono s2))) ⟨Pn, rfl, rfl⟩ (by omega)) ev_int fun _ => rfl)))) ⟨_, _, _, rfl, rfl⟩) ?_)
      simp only [Bool.and_eq_true, decide_eq_true_eq]
      omega
  · have s12 := s1.trans s2
    exact st_ret (C := CP) (ev_call (as := [.pl Pn, .d (dW wr)]) (ea_cons (ev_v rfl (h1.mono s12)) (ea_one (ev_v rfl (h2.mono s12)))) ⟨Pn, wr, rfl, hG, hW, rfl⟩) fun v H3 s3 hv => k v H3 (s12.trans s3) hv
def R_check_wiring (as : List A) (r : A) : Prop := ∃ (Pn : Pl) (wr : List (Option Nat)), as = [.pl Pn, .d (dW wr)] ∧ GoodP Pn ∧ GoodW Pn wr ∧ r = .d .non
theorem ok_check_wiring (T : Txt K mg CP CS CB) : C8.Cal P w K mg base 8 "check_wiring" (SpD CP R_check_wiring) [] := by
  have c_is_wiring := ok_is_wiring (P := P) (w := w) (base := base) T
  refine cal_d T.d_check_wiring sc_check_wiring (fun as r ⟨v, b, e, _⟩ => by rw [e] <;> rfl) fun f cdv A outer s H vs Q E as r hr h hR k => ?_
  obtain ⟨Pn, wr, rfl, hG, hW, rfl⟩ := hR
  obtain ⟨v1, v2, rfl, h1, h2⟩ := h.two
  refine ⟨_, (pss_one (ps_if (pt_not (pt_val (C8.pe_c c_is_wiring hr (by decide) (by rfl) (pa_cons (pv 0) (pa_cons (pv 1) pa_nil))))) (pss_one ps_never) pss_nil)), ?_⟩
  exact st_ifn (et_f (et_not (b := true) (et_val (C := CP) (ev_call (as := [.pl Pn, .d (dW wr)]) (ea_cons (ev_v rfl h1) (ea_one (ev_v rfl h2))) ⟨Pn, wr, rfl, hG, hW, rfl⟩))) rfl) (fun e => by cases e) fun _ H' s' => k _ _ s' rfl
def R_check_name (as : List A) (r : A) : Prop := ∃ (Pn : Pl) (z : Str), as = [.pl Pn, .d (.str z)] ∧ GoodP Pn ∧ z ∈ Pn.names ∧ r = .d .non
theorem ok_check_name (T : Txt K mg CP CS CB) : C8.Cal P w K mg base 4 "check_name" (SpD CP R_check_name) [] := by
  have c_Plan_names := ok_Plan_names (P := P) (w := w) (base := base) T
  refine cal_d T.d_check_name sc_check_name (fun as r ⟨v, b, e, _⟩ => by rw [e] <;> rfl) fun f cdv A outer s H vs Q E as r hr h hR k => ?_
  obtain ⟨Pn, z, rfl, hG, hz, rfl⟩ := hR
  obtain ⟨v1, v2, rfl, h1, h2⟩ := h.two
  have hpl := hG.pl
  refine ⟨_, (pss_one (ps_if (PW.pt (pw_or (pt_not (pt_val (pe_callB (Bf.isiK K) (by rfl) T.b_isinstance (by decide +kernel) (pa_cons (pv 1) (pa_cons (pe_bltn (v := .ty "str") (by rfl) T.b_str (by decide +kernel) rfl) pa_nil))))) (pw_or1 (pt_cmpR (Bf.notInSK K) (pv 1) (Bf.pe_pSl c_Plan_names T.clP hr (by decide) (pv 0)) (by rfl))))) (pss_one ps_never) pss_nil)), ?_⟩
  refine st_ifn (et_orF (et_f (et_not (b := true) (et_val (C := CP) (er_isi (tx_str _) (by decide +kernel) (ev_v rfl h2)))) rfl) (et_f (et_test (C := CP) (ev_inT (b := decide (z ∈ Pn.names)) (ev_v rfl h2) (ev_prop (ev_v rfl h1) ⟨Pn, rfl, by omega, rfl⟩) (in_strs z Pn.names))) ?_)) (fun e => by cases e) fun _ H' s' => k _ _ s' rfl
  show (!decide _) = false
  rw [decide_eq_true hz]
  rfl
def R_live (as : List A) (r : A) : Prop := ∃ (Pn : Pl) (wr : List (Option Nat)) (st : List Bool), as = [.pl Pn, .d (dW wr), .d (dB st)] ∧ OkA Pn wr st ∧ r = .d (dS (liveIn Pn wr st))
theorem ok_live (T : Txt K mg CP CS CB) : C8.Cal P w K mg base 10 "live" (SpD CP R_live) [] := by
  have c_check_wiring := ok_check_wiring (P := P) (w := w) (base := base) T
  have c_check_state := ok_check_state (P := P) (w := w) (base := base) T
  have c_live_in := ok_live_in (P := P) (w := w) (base := base) T
  refine cal_d T.d_live sc_live (fun as r ⟨v, b, c, e, _⟩ => by rw [e] <;> rfl) fun f cdv A outer s H vs Q E as r hr h hR k => ?_
  obtain ⟨Pn, wr, st, rfl, hO, rfl⟩ := hR
  obtain ⟨v1, v2, v3, rfl, h1, h2, h3⟩ := h.three
  have h5 := hO.g.r5
  refine ⟨_, (pss_cons (ps_expr (C8.pe_c c_check_wiring hr (by decide) (by rfl) (pa_cons (pv 0) (pa_cons (pv 1) pa_nil))))
    (pss_cons (ps_expr (C8.pe_c c_check_state hr (by decide) (by rfl) (pa_cons (pv 0) (pa_cons (pv 2) pa_nil))))
    (pss_one (ps_ret (C8.pe_c c_live_in hr (by decide) (by rfl) (pa_cons (pv 0) (pa_cons (pv 1) (pa_cons (pv 2) pa_nil)))))))), ?_⟩
  refine sq_expr (C := CP) (ev_call (as := [.pl Pn, .d (dW wr)]) (ea_cons (ev_v rfl h1) (ea_one (ev_v rfl h2))) ⟨Pn, wr, rfl, hO.g, hO.w, rfl⟩) fun H1 s1 => ?_
  refine sq_expr (C := CP) (ev_call (as := [.pl Pn, .d (dB st)]) (ea_cons (ev_v rfl (h1.mono s1)) (ea_one (ev_v rfl (h3.mono s1)))) ⟨Pn, st, rfl, hO.s, by omega, rfl⟩) fun H2 s2 => ?_
  have s12 := s1.trans s2
  exact st_ret (C := CP) (ev_call (as := [.pl Pn, .d (dW wr), .d (dB st)]) (ea_cons (ev_v rfl (h1.mono s12)) (ea_cons (ev_v rfl (h2.mono s12)) (ea_one (ev_v rfl (h3.mono s12))))) ⟨Pn, wr, st, rfl, hO, rfl⟩) fun v H3 s3 hv => k v H3 (s12.trans s3) hv
def R_wrong_load (as : List A) (r : A) : Prop := ∃ (Pn : Pl) (L : List (Str × Int)), as = [.pl Pn, .dic L] ∧ GoodP Pn ∧ GoodL Pn L ∧ r = .d .non
theorem ok_wrong_load (T : Txt K mg CP CS CB) : C8.Cal P w K mg base 4 "wrong_load" (SpD CP R_wrong_load) [] := by
  have c_Plan_names := ok_Plan_names (P := P) (w := w) (base := base) T
  have c_is_number := ok_is_number (P := P) (w := w) (base := base) T
  refine cal_d T.d_wrong_load sc_wrong_load (fun as r ⟨v, b, e, _⟩ => by rw [e] <;> rfl) fun f cdv A outer s H vs Q E as r hr h hR k => ?_
  obtain ⟨Pn, L, rfl, hG, hL, rfl⟩ := hR
  obtain ⟨v1, v2, rfl, h1, h2⟩ := h.two
  have hpl := hG.pl
  refine ⟨_, (pss_cons (ps_for PassesOwn.never rfl (pi_list (pe_callB (call_sortedD rfl) (by rfl) T.b_sorted (by decide +kernel) (pa_cons (pv 1) pa_nil))) (pg_name (i := 2) sc_wrong_load.nd rfl (Or.inl rfl)) (pss_one (ps_if (PW.pt (pw_or (pt_cmpR (Bf.notInSK K) (pv 2) (Bf.pe_pSl c_Plan_names T.clP hr (by decide) (pv 0)) (by rfl)) (pw_or1 (pt_not (pt_val (C8.pe_c c_is_number hr (by decide) (by rfl) (pa_cons (pe_dget (hu_of hr) (pv 1) (pv 2) (fun _ _ => rfl)) (pa_cons pe_int (pa_cons (C8.pe_gc (by rfl) T.g_MAX_LOAD) pa_nil))))))))) (pss_one (ps_ret (pv 2))) pss_nil)))
    (pss_one (ps_ret pe_non))), ?_⟩
  refine sq_forS (it_list (C := CP) (ev_b (ea_one (ev_v rfl h2)) (er_sortedD (GoodL.sub hG hL)))) (fun i σ' => ∃ o, σ' = [some v1, some v2, o]) ⟨none, rfl⟩ ?_ ?_
  · rintro i d x σ' H' Dn' hi ⟨o, rfl⟩ s' im hnx hct hrt
    obtain ⟨z, hz, rfl⟩ := map_at hi
    obtain ⟨e, he, rfl⟩ := map_at hz
    have hm := List.mem_of_getElem? he
    have hv := hL.vals e hm
    refine st_ifn (et_orF (et_f (et_test (C := CP) (ev_inT (b := decide (e.1 ∈ Pn.names)) (ev_v (a := .d (.str e.1)) rfl im) (ev_prop (ev_v rfl (h1.mono s')) ⟨Pn, rfl, by omega, rfl⟩) (in_strs e.1 Pn.names))) ?_) (et_f (et_not (et_val (C := CP) (ev_call (as := [.d (.int e.2), .d (.int 1), .d (.int 99)]) (ea_cons (ev_dget (ev_v rfl (h2.mono s')) (ev_v rfl im) (lookup_mem (GoodL.nd hG hL) hm)) (ea_cons ev_int (ea_one (ev_c fun _ => rfl)))) ⟨_, _, _, rfl, rfl⟩))) ?_)) (fun e => by cases e) fun _ H2 s2 => hnx _ _ ⟨_, rfl⟩ s2
    · show (!decide _) = false
      rw [decide_eq_true (hL.keys.subset (List.mem_map_of_mem hm))]
      rfl
    · rw [decide_eq_true hv.1, decide_eq_true hv.2]
      rfl
  · rintro σ' H' ⟨o, rfl⟩ s'
    exact st_ret (C := CP) ev_non fun v H2 s2 hv => k v H2 (s'.trans s2) hv
def R_check_loads (as : List A) (r : A) : Prop := ∃ (Pn : Pl) (L : List (Str × Int)), as = [.pl Pn, .dic L] ∧ GoodP Pn ∧ GoodL Pn L ∧ r = .d .non
theorem ok_check_loads (T : Txt K mg CP CS CB) : C8.Cal P w K mg base 6 "check_loads" (SpD CP R_check_loads) [] := by
  have c_wrong_load := ok_wrong_load (P := P) (w := w) (base := base) T
  refine cal_d T.d_check_loads sc_check_loads (fun as r ⟨v, b, e, _⟩ => by rw [e] <;> rfl) fun f cdv A outer s H vs Q E as r hr h hR k => ?_
  obtain ⟨Pn, L, rfl, hG, hL, rfl⟩ := hR
  obtain ⟨v1, v2, rfl, h1, h2⟩ := h.two
  refine ⟨_, (pss_cons (ps_set (i := 2) sc_check_loads.nd rfl (Or.inl rfl) (C8.pe_c c_wrong_load hr (by decide) (by rfl) (pa_cons (pv 0) (pa_cons (pv 1) pa_nil))))
    (pss_one (ps_if (pt_cmpR op_notN (pv 2) pe_non (nomark _)) (pss_one ps_never) pss_nil))), ?_⟩
  refine sq_set (C := CP) (ev_call (as := [.pl Pn, .dic L]) (ea_cons (ev_v rfl h1) (ea_one (ev_v rfl h2))) ⟨Pn, L, rfl, hG, hL, rfl⟩) fun v H1 s1 hv => ?_
  exact st_ifn (et_f (et_test (C := CP) (ev_notN (b := true) (ev_v (a := .d .non) rfl hv) ev_non (isN_O none))) rfl) (fun e => by cases e) fun _ H' s' => k _ _ (s1.trans s') rfl
end
end Bf

/-! D4: currents, trips. -/
namespace Bf
open PySem PySem.Spec PyProof.Rows L2 Bx
theorem addTo_len (v : Int) (f : List Int) (i : Nat) : (addTo v f i).length = f.length := List.length_set
theorem fold_len {α : Type} (g : List Int → α → List Int) (h : ∀ f a, (g f a).length = f.length) : ∀ (l : List α) (f : List Int), (l.foldl g f).length = f.length
  | [], _ => rfl
  | a :: l, f => by
    show (l.foldl g (g f a)).length = _
    rw [fold_len g h l, h]
theorem curStep_len (Pn : Pl) (st : List Bool) (g : Str → Int) (f : List Int) (e : Str × Option Nat) : (curStep Pn st g f e).length = f.length := by
  unfold curStep
  cases e.2 with
  | none => rfl
  | some b =>
    show (if hp Pn st (some b) then _ else f).length = f.length
    split
    · exact fold_len _ (addTo_len _) _ _
    · rfl
theorem cur_len (Pn : Pl) (wr : List (Option Nat)) (st : List Bool) (g : Str → Int) : (cur Pn wr st g).length = Pn.n := by
  unfold cur
  rw [fold_len _ (curStep_len Pn st g), List.length_map]
  rfl
theorem fold_take {α β : Type} (g : β → α → β) (b : β) {l : List α} {i : Nat} {a : α} (h : l[i]? = some a) : (l.take (i + 1)).foldl g b = g ((l.take i).foldl g b) a := by
  rw [List.take_add_one, h, List.foldl_append]
  rfl
theorem set_cut {α : Type} (l : List α) (i : Nat) (x : α) (h : i < l.length) : l.take i ++ [x] ++ l.drop (i + 1) = l.set i x := by
  rw [List.set_eq_take_append_cons_drop, if_pos h, List.append_assoc]
  rfl
section
variable {C : Addr} {σ : L2.St} {H : Hp}
theorem er_minP {ps : List (Int × Int)} (hne : ps ≠ []) : EvR C Rx.rMinP [.lst (ps.map dP)] (.d (dP (pick ps))) := fun vs H Q hv q => by
  obtain ⟨v, e, hv⟩ := hv.one
  obtain ⟨p, xs, e1, e2, e3⟩ := rp_lst hv
  obtain ⟨as, ea, hl, ha⟩ := pairs_at e3
  subst e1
  subst ea
  refine ⟨p, ps, as, e, e2, hl, hne, ha, fun b pr hm hle hb => q _ H (Same.refl H) ?_⟩
  rw [← pick_uniq hm hle]
  exact im_new (iml_cons rfl (iml_cons rfl iml_nil)) hb
end
theorem sq_setP {te : TE} {u : TS} {σ : L2.St} {H : Hp} {Pq : V → Hp → Prop} {Dn : Ends} {i : Nat} (e : EvP te σ H Pq) (k : ∀ v H', Same H H' → Pq v H' → u Dn (σ.set i (some v)) H') : tSeq (tAsg te (gName i)) u Dn σ H := e H (Same.refl H) _ k
section
variable {P : Program} {w : World} {K : PySem.W.Frag} {mg : Str → Option Value} {base : Heap} {CP CS CB : Addr}
def R_currents_in (as : List A) (r : A) : Prop := ∃ (Pn : Pl) (wr : List (Option Nat)) (st : List Bool) (L : List (Str × Int)), as = [.pl Pn, .d (dW wr), .d (dB st), .dic L] ∧ OkA Pn wr st ∧ r = .d (dI (cur Pn wr st (get L)))
theorem ok_currents_in (T : Txt K mg CP CS CB) : C8.Cal P w K mg base 8 "currents_in" (SpD CP R_currents_in) [] := by
  have c_Plan_rates := ok_Plan_rates (P := P) (w := w) (base := base) T
  have c_Plan_names := ok_Plan_names (P := P) (w := w) (base := base) T
  have c_has_power := ok_has_power (P := P) (w := w) (base := base) T
  have c_line_up := ok_line_up (P := P) (w := w) (base := base) T
  refine cal_d T.d_currents_in sc_currents_in (fun as r ⟨v, b, c, d, e, _⟩ => by rw [e] <;> rfl) fun f cdv A outer s H vs Q E as r hr h hR k => ?_
  obtain ⟨Pn, wr, st, L, rfl, hO, rfl⟩ := hR
  obtain ⟨v1, v2, v3, v4, rfl, h1, h2, h3, h4⟩ := h.four
  have hpl := hO.g.pl
  have h5 := hO.g.r5
  refine ⟨_, (pss_cons (ps_setLc (i := 4) (own := [("rate", 8)]) (g := (gName 8)) (tt := tYes) rfl sc_currents_in.nd rfl rfl (sw_true rfl rfl rfl (by decide +kernel)) (pi_tup (Bf.pe_pSl c_Plan_rates T.clP hr (by decide) (pv 0))) (blkOk_by (own := [("rate", 8)]) (N := ["plan", "wiring", "state", "loads", "found", "name", "breaker", "one", "rate"]) (sc := defScope s_currents_in) (by decide +kernel)) (fun _ _ _ _ _ => (pg_name (i := 8) sc_currents_in.nd rfl (Or.inl rfl) (Or.inr rfl))) (fun _ _ _ _ _ => pts_nil) (fun _ _ _ _ _ => pe_int))
    (pss_cons (ps_for PassesOwn.never rfl (RZ.pi_zipA (by rfl) T.b_zip (pa_cons (Bf.pe_pSl c_Plan_names T.clP hr (by decide) (pv 0)) (pa_cons (pv 1) pa_nil))) (pg_tup rfl (pgs_cons (pg_name (i := 5) sc_currents_in.nd rfl (Or.inl rfl)) (pgs_cons (pg_name (i := 6) sc_currents_in.nd rfl (Or.inl rfl)) pgs_nil))) (pss_one (ps_if (pt_val (C8.pe_c c_has_power hr (by decide) (by rfl) (pa_cons (pv 0) (pa_cons (pv 2) (pa_cons (pv 6) pa_nil))))) (pss_one (ps_for PassesOwn.never rfl (pi_tup (C8.pe_c c_line_up hr (by decide) (by rfl) (pa_cons (pv 0) (pa_cons (pv 6) pa_nil)))) (pg_name (i := 7) sc_currents_in.nd rfl (Or.inl rfl)) (pss_one (ps_augS (pv 4) (pv 7) Rx.pget_list (pe_dget2 (hu_of hr) (pv 3) (pv 5) pe_int ⟨rfl, rfl, rfl, rfl⟩) ip_add set_list)))) pss_nil)))
    (pss_one (ps_ret (pe_callTy call_tuple_of (by rfl) T.b_tuple (by decide +kernel) (pa_cons (pv 4) pa_nil)))))), ?_⟩
  refine sq_setP (lcF (C := CP) (xs := Pn.rates) (φ := D.int) (it_tup (ev_prop (ev_v rfl h1) ⟨Pn, rfl, rfl⟩)).s (fun _ => .int 0) (by show Pn.n ≤ 1000; omega) (fun i a x H2 hi s2 im => turn_name rfl ev_int)) fun vf H1 s1 hf => ?_
  obtain ⟨q, us, rfl, hq0, hq, hus⟩ := hf
  have eus : us = (Pn.rates.map fun _ => (0 : Int)).map V.int := by
    rw [List.map_map]
    exact iml_flat (f := fun _ : Int => D.int 0) (g := V.int ∘ fun _ => 0) (fun a v h => im_int h) hus
  subst eus
  have it := it_zip (K := K) (C := CP) (H := H1) (σ := (L2.start ["plan", "wiring", "state", "loads", "found", "name", "breaker", "one", "rate"] [v1, v2, v3, v4]).set 4 (some (.ref q))) (ea_cons (ev_prop (E := E0) (R := R_Plan_names) (ev_v (i := 0) rfl (h1.mono s1)) ⟨Pn, rfl, by omega, rfl⟩) (ea_one (ev_v (i := 1) rfl (h2.mono s1))))
  rw [zipD_map] at it
  refine sq_forT it (fun i σ' H' => ∃ o5 o6 o7 : Option V, σ' = [some v1, some v2, some v3, some v4, some (.ref q), o5, o6, o7, none] ∧ Same H H' ∧ H' q = some (.lst ((((Pn.names.zip wr).take i).foldl (curStep Pn st (get L)) (Pn.rates.map fun _ => 0)).map V.int)))
    (fun H2 s2 => ⟨none, none, none, rfl, s1.trans s2, s2 _ _ hq⟩) ?_ ?_
  · rintro i d x σ' H0 H' Dn' hi ⟨o5, o6, o7, rfl, s0, hq2⟩ s' im hnx hct hrt
    obtain ⟨⟨z, b⟩, ha, rfl⟩ := map_at hi
    obtain ⟨hz, hb⟩ := zip_at ha
    obtain ⟨u, y, hu, hy, g⟩ := g_pair (K := K) (n := 5) (m := 6) im
    refine g _ _ ?_
    have sH := s0.trans s'
    have hbr := wr_rng hO.w (List.mem_of_getElem? hb)
    have ft := fold_take (curStep Pn st (get L)) (Pn.rates.map fun _ => (0 : Int)) ha
    have hlen : (((Pn.names.zip wr).take i).foldl (curStep Pn st (get L)) (Pn.rates.map fun _ => (0 : Int))).length = Pn.n := by
      rw [fold_len _ (curStep_len Pn st (get L)), List.length_map]
      rfl
    generalize hfi : ((Pn.names.zip wr).take i).foldl (curStep Pn st (get L)) (Pn.rates.map fun _ => (0 : Int)) = fi at hq2 ft hlen
    refine st_ifn (et_val (C := CP) (ev_call (as := [.pl Pn, .d (dB st), .d (dO b)]) (ea_cons (ev_v rfl (h1.mono sH)) (ea_cons (ev_v rfl (h3.mono sH)) (ea_one (ev_v rfl hy)))) ⟨Pn, st, b, rfl, hO.g, hO.s, hbr, rfl⟩)) (fun e H2 s2 => ?_) (fun e H2 s2 => ?_)
    · cases b with
      | none => cases e
      | some b =>
        have sH2 := sH.trans s2
        have hbn := hbr b rfl
        refine st_forT (it_tup (ev_call (C := CP) (as := [.pl Pn, .d (.int (b : Nat))]) (ea_cons (ev_v rfl (h1.mono sH2)) (ea_one (ev_v rfl (Im.mono hy s2)))) ⟨Pn, b, rfl, hO.g, hbn, rfl⟩)) (fun j σ' H'' => ∃ o7 : Option V, σ' = [some v1, some v2, some v3, some v4, some (.ref q), some u, some y, o7, none] ∧ Same H H'' ∧ H'' q = some (.lst ((((line Pn b).take j).foldl (addTo (get L z)) fi).map V.int)) ∧ Tx H' H'')
          (fun H3 s3 => ⟨_, rfl, sH2.trans s3, s3 _ _ (s2 _ _ (s' _ _ hq2)), Same.tx (s2.trans s3)⟩) ?_ ?_
        · rintro j d x σ' H3 H4 Dn2 hj ⟨o7, rfl, s3, hq3, tx3⟩ s4 im4 hnx2 hct2 hrt2
          obtain ⟨a, ha2, rfl⟩ := map_at hj
          have ex := im_int im4
          subst ex
          have han : a < Pn.n := Nat.lt_of_le_of_lt (line_le hO.g b a (List.mem_of_getElem? ha2)) hbn
          have ft2 := fold_take (addTo (get L z)) fi ha2
          have hlen2 : (((line Pn b).take j).foldl (addTo (get L z)) fi).length = Pn.n := by rw [fold_len _ (addTo_len _), hlen]
          generalize hgj : ((line Pn b).take j).foldl (addTo (get L z)) fi = gj at hq3 ft2 hlen2
          have e1 : gj[a]? = some (gj.getD a 0) := by
            rw [List.getD_eq_getElem?_getD, List.getElem?_eq_getElem (by omega)]
            rfl
          refine ⟨_, rfl, _, rfl, q, gj.map V.int, a, .int (gj.getD a 0), rfl, rfl, SqL.of (s4 _ _ hq3), by rw [List.getElem?_map, e1] <;> rfl, ?_⟩
          refine ev_go (P := fun v H' => Rp CP H' (.d (.int ((L.lookup z).getD 0))) v) (ev_dget2 (ev_v rfl (h4.mono (s3.trans s4))) (ev_v (a := .d (.str z)) rfl (Im.tx hu (tx3.trans (Same.tx s4)))) ev_int) fun v H5 s5 hv => ?_
          have hq5 := s5 _ _ (s4 _ _ hq3)
          refine ⟨_, _, rfl, rp_int hv, q, _, (a : Nat), a, rfl, rfl, hq5, ?_, ?_⟩
          · unfold ixN
            rw [List.length_map, hlen2, if_pos (by omega), if_pos (by omega), Int.toNat_natCast]
          · refine hnx2 _ _ ⟨_, rfl, same_mut ((s3.trans s4).trans s5) hq0, ?_, tx3.trans ((Same.tx (s4.trans s5)).trans (tx_upd hq5 fun _ z => nomatch z))⟩ ((Same.tx s5).trans (tx_upd hq5 fun _ z => nomatch z))
            rw [upd_same, ft2]
            unfold addTo
            rw [List.map_set]
            rfl
        · rintro σ' H'' ⟨o7, rfl, s3, hq3, tx3⟩
          refine hnx _ _ ⟨_, _, _, rfl, s3, ?_⟩ tx3
          rw [ft, hq3]
          have e2 : curStep Pn st (get L) fi (z, some b) = (line Pn b).foldl (addTo (get L z)) fi := if_pos e
          rw [e2, List.length_map, List.take_length]
    · refine hnx _ _ ⟨_, _, _, rfl, sH.trans s2, ?_⟩ (Same.tx s2)
      rw [ft]
      have e2 : curStep Pn st (get L) fi (z, b) = fi := by
        cases b with
        | none => rfl
        | some b => exact if_neg (by rw [e]; exact Bool.false_ne_true)
      rw [e2]
      exact s2 _ _ (s' _ _ hq2)
  · rintro σ' H' ⟨o5, o6, o7, rfl, s0, hq2⟩
    have e : (Pn.names.zip wr).length = ((Pn.names.zip wr).map fun e => D.tup [.str e.1, dO e.2]).length := (List.length_map _).symm
    rw [← e, List.take_length] at hq2
    refine st_ret (C := CP) (ev_tupc (l := (cur Pn wr st (get L)).map D.int) (ev_v rfl ⟨q, _, rfl, hq2, iml_map fun _ _ => rfl⟩)) fun v H2 s2 hv => k v H2 (s0.trans s2) hv
def R_trips_in (as : List A) (r : A) : Prop := ∃ (Pn : Pl) (wr : List (Option Nat)) (st : List Bool) (L : List (Str × Int)), as = [.pl Pn, .d (dW wr), .d (dB st), .dic L] ∧ OkA Pn wr st ∧ r = .d (.tup [dB (trips Pn wr st L).1, dN (trips Pn wr st L).2])
theorem over_d (Pn : Pl) (wr : List (Option Nat)) (st : List Bool) (g : Str → Int) : (over Pn wr st g).map dP = (List.range Pn.n).filterMap fun i => if (cur Pn wr st g).getD i 0 > Pn.rates.getD i 0 then some (dP (Pn.rates.getD i 0, 0 - (i : Int))) else none := by
  unfold over
  rw [List.map_filterMap]
  congr 1
  funext i
  split <;> rfl
theorem ints_at {l : List Int} {i : Nat} (h : i < l.length) : (l.map D.int)[i]? = some (.int (l.getD i 0)) := by
  rw [List.getElem?_map, List.getD_eq_getElem?_getD, List.getElem?_eq_getElem h]
  rfl
theorem shaped_ps (ps : List (Int × Int)) : SeqAt.shaped (.list (pyL (ps.map dP))) = true := shaped_list (lay_ps ps) (Nat.le_trans (dep_ps ps) (by decide))
theorem ok_trips_in (T : Txt K mg CP CS CB) : C8.Cal P w K mg base 10 "trips_in" (SpD CP R_trips_in) [] := by
  have c_currents_in := ok_currents_in (P := P) (w := w) (base := base) T
  have c_Plan_len := ok_Plan_len (P := P) (w := w) (base := base) T
  have c_Plan_rates := ok_Plan_rates (P := P) (w := w) (base := base) T
  refine cal_d T.d_trips_in sc_trips_in (fun as r ⟨v, b, c, d, e, _⟩ => by rw [e] <;> rfl) fun f cdv A outer s H vs Q E as r hr h hR k => ?_
  obtain ⟨Pn, wr, st, L, rfl, hO, rfl⟩ := hR
  obtain ⟨v1, v2, v3, v4, rfl, h1, h2, h3, h4⟩ := h.four
  have hpl := hO.g.pl
  have h5 := hO.g.r5
  refine ⟨_, (pss_cons (ps_set (i := 4) sc_trips_in.nd rfl (Or.inl rfl) (pe_lst pa_nil))
    (pss_cons (ps_set (i := 5) sc_trips_in.nd rfl (Or.inl rfl) (pe_lst (pa_cons pe_int pa_nil)))
    (pss_cons (ps_while PassesOwn.never (pt_cmpR (Bf.neDK K hr.units) (pv 5) (pe_lst pa_nil) (nomark _)) (pss_cons (ps_set (i := 6) sc_trips_in.nd rfl (Or.inr rfl) (C8.pe_c c_currents_in hr (by decide) (by rfl) (pa_cons (pv 0) (pa_cons (pv 1) (pa_cons (pv 2) (pa_cons (pv 3) pa_nil))))))
    (pss_cons (ps_setLc (i := 5) (own := [("one", 8)]) (g := (gName 8)) rfl sc_trips_in.nd rfl rfl (sw_true rfl rfl rfl (by decide +kernel)) (pi_range1 (by rfl) T.b_range (pa_cons (Bf.pe_lenP c_Plan_len T.clP hr (by decide) (by rfl) T.b_len (pa_cons (pv 0) pa_nil)) pa_nil)) (blkOk_by (own := [("one", 8)]) (N := ["plan", "wiring", "state", "loads", "numbers", "over", "row", "first", "one"]) (sc := defScope s_trips_in) (by decide +kernel)) (fun _ _ _ _ _ => (pg_name (i := 8) sc_trips_in.nd rfl (Or.inl rfl) (Or.inr rfl))) (fun _ _ _ _ _ => (pts_one (pt_cmpR op_gt (pe_ix (Bf.ixT K) (pv 6) (pv 8) (fun _ _ => rfl)) (pe_ix (Bf.ixT K) (Bf.pe_pSl c_Plan_rates T.clP hr (by decide) (pv 0)) (pv 8) (fun _ _ => rfl)) (nomark _)))) (fun _ _ _ _ _ => (pe_tup (pa_cons (pe_ix (Bf.ixT K) (Bf.pe_pSl c_Plan_rates T.clP hr (by decide) (pv 0)) (pv 8) (fun _ _ => rfl)) (pa_cons (pe_op op_sub pe_int (pv 8)) pa_nil)))))
    (pss_one (ps_if (pt_cmpR (Bf.neDK K hr.units) (pv 5) (pe_lst pa_nil) (nomark _)) (pss_cons (ps_set (i := 7) sc_trips_in.nd rfl (Or.inl rfl) (pe_op op_sub pe_int (pe_ix (Bf.ixT K) (pe_callB (Rx.cr_minP rfl hr) (by rfl) T.b_min (by decide +kernel) (pa_cons (pv 5) pa_nil)) pe_int (fun _ _ => rfl))))
    (pss_cons (ps_expr (pe_bm PySem.F.plainAttrs_list PySem.F.slot_list_append PySem.F.type_list_append mt_append (pv 4) (pa_cons (pv 7) pa_nil)))
    (pss_one (ps_set (i := 2) sc_trips_in.nd rfl (Or.inl rfl) (pe_op (Bf.catTK K) (pe_op (Bf.catTK K) (pe_slice (Bf.slTK K) (pv 2) po_none (po_some (pv 7))) (pe_tup (pa_cons pe_bl pa_nil))) (pe_slice (Bf.slTK K) (pv 2) (po_some (pe_op op_add (pv 7) pe_int)) po_none)))))) pss_nil)))))
    (pss_one (ps_ret (pe_tup (pa_cons (pv 2) (pa_cons (pe_callTy call_tuple_of (by rfl) T.b_tuple (by decide +kernel) (pa_cons (pv 4) pa_nil)) pa_nil)))))))), ?_⟩
  refine ⟨by show 0 ≤ sizeLine; exact Nat.zero_le _, fun q hq0 => ?_⟩
  have s0 := same_new hq0 (.lst [])
  refine sq_set (C := CP) (ev_lst (ds := [.int 0]) (ea_one ev_int) (by decide)) fun vo H1 s1 ho => ?_
  refine ⟨fun m σ H' => ∃ (st' : List Bool) (acc : List Nat) (ov : List D) (vst vov : V) (o6 o7 o8 : Option V) (fu : Nat), σ = [some v1, some v2, some vst, some v4, some (.ref q), some vov, o6, o7, o8] ∧ Same H H' ∧ Rp CP H' (.d (dB st')) vst ∧ H' q = some (.lst (acc.map fun i => V.int (i : Nat))) ∧ Rp CP H' (.lst ov) vov ∧
      SeqAt.shaped (.list (pyL ov)) = true ∧ OkA Pn wr st' ∧ cnt st' < fu ∧ trips Pn wr st L = ((tripsF Pn wr (get L) fu st').1, acc ++ (tripsF Pn wr (get L) fu st').2) ∧ acc.length + cnt st' ≤ 5 ∧ ((ov.isEmpty = false ∧ m = cnt st' + 1) ∨ (ov = [] ∧ m = 0 ∧ over Pn wr st' (get L) = [])),
    ⟨cnt st + 1, st, [], [.int 0], v3, vo, none, none, none, Pn.n + 1, rfl, s0.trans s1, h3.mono (s0.trans s1), s1 _ _ upd_same, ho, by decide +kernel, hO, ?_, rfl, ?_, .inl ⟨rfl, rfl⟩⟩, ?_⟩
  · have := cnt_le st
    have := hO.s
    omega
  · have := cnt_le st
    have := hO.s
    show 0 + cnt st ≤ 5
    omega
  rintro m σ H' ⟨st', acc, ov, vst, vov, o6, o7, o8, fu, rfl, s', hst, hq, hov, sh, hO', hfu, htr, hac, hcase⟩
  refine et_go (et_test (C := CP) (ev_neL (l := ov) (m := []) (ev_v rfl hov) (ev_lst (ds := []) ea_nil (by decide)) sh (by decide +kernel) (eqv_nil ov))) fun H2 s2 => ?_
  have sH2 := s'.trans s2
  rcases hcase with ⟨hne, rfl⟩ | ⟨rfl, rfl, hnil⟩
  · rw [hne]
    refine ⟨fun σ H'' => ∃ m', m' < cnt st' + 1 ∧ ∃ (st' : List Bool) (acc : List Nat) (ov : List D) (vst vov : V) (o6 o7 o8 : Option V) (fu : Nat), σ = [some v1, some v2, some vst, some v4, some (.ref q), some vov, o6, o7, o8] ∧ Same H H'' ∧ Rp CP H'' (.d (dB st')) vst ∧ H'' q = some (.lst (acc.map fun i => V.int (i : Nat))) ∧ Rp CP H'' (.lst ov) vov ∧
      SeqAt.shaped (.list (pyL ov)) = true ∧ OkA Pn wr st' ∧ cnt st' < fu ∧ trips Pn wr st L = ((tripsF Pn wr (get L) fu st').1, acc ++ (tripsF Pn wr (get L) fu st').2) ∧ acc.length + cnt st' ≤ 5 ∧ ((ov.isEmpty = false ∧ m' = cnt st' + 1) ∨ (ov = [] ∧ m' = 0 ∧ over Pn wr st' (get L) = [])), fun σ' H'' z => z, ?_⟩
    refine sq_set (C := CP) (ev_call (as := [.pl Pn, .d (dW wr), .d (dB st'), .dic L]) (ea_cons (ev_v rfl (h1.mono sH2)) (ea_cons (ev_v rfl (h2.mono sH2)) (ea_cons (ev_v rfl (hst.mono s2)) (ea_one (ev_v rfl (h4.mono sH2)))))) ⟨Pn, wr, st', L, rfl, hO', rfl⟩) fun vr H3 s3 hrow => ?_
    have sH3 := sH2.trans s3
    have hcl := cur_len Pn wr st' (get L)
    refine sq_set (C := CP) (ev_lca (xs := List.range Pn.n) (it_range (n := Pn.n) (ea_one (ev_lenP (ea_one (ev_v rfl (h1.mono sH3))) ⟨Pn, rfl, rfl⟩ (by omega))) (by omega)).s (fun i => if (cur Pn wr st' (get L)).getD i 0 > Pn.rates.getD i 0 then some (dP (Pn.rates.getD i 0, 0 - (i : Int))) else none) (by rw [List.length_range]; omega) fun i a x H4 hi s4 im => ?_) fun vo2 H4 s4 ho2 => ?_
    · have ha : a < Pn.n := List.mem_range.mp (List.mem_of_getElem? hi)
      have er : Ev CP (tOp (rIxT K) (SlX.tPropSl CP (SpD CP R_Plan_rates) E0 (tVar 0)) (tVar 8)) ((wipe [some v1, some v2, some vst, some v4, some (.ref q), some vov, some vr, o7, o8] [8]).set 8 (some x)) H4 (.d (.int (Pn.rates.getD a 0))) :=
        ev_ixT (ev_prop (ev_v rfl (h1.mono (sH3.trans s4))) ⟨Pn, rfl, rfl⟩) (ev_v rfl im) (ints_at ha)
      refine turnO_name rfl ?_ fun d hd => ?_
      · have e := et_test (C := CP) (ev_I0 (g := fun i j => V.bl (decide (j < i))) (a := .d (.bl (decide (Pn.rates.getD a 0 < (cur Pn wr st' (get L)).getD a 0)))) (ev_ixT (K := K) (ta := tVar 6) (tb := tVar 8) (ev_v rfl (hrow.mono s4)) (ev_v rfl im) (ints_at (by rw [hcl]; exact ha))) er fun _ => rfl)
        by_cases c : Pn.rates.getD a 0 < (cur Pn wr st' (get L)).getD a 0
        · rw [decide_eq_true c] at e
          rw [if_pos c]
          exact e
        · rw [decide_eq_false c] at e
          rw [if_neg c]
          exact e
      · by_cases c : Pn.rates.getD a 0 < (cur Pn wr st' (get L)).getD a 0
        · rw [if_pos c] at hd
          cases hd
          exact ev_tup (ds := [.int _, .int _]) (ea_cons er (ea_one (ev_I0 (g := fun i j => V.int (i - j)) (a := .d (.int (0 - (a : Int)))) ev_int (ev_v rfl im) fun _ => rfl))) (by show 2 ≤ 1000; decide)
        · rw [if_neg c] at hd
          cases hd
    · rw [← over_d] at ho2
      have sH4 := sH3.trans s4
      have hst4 := hst.mono (s2.trans (s3.trans s4))
      have hq4 := s4 _ _ (s3 _ _ (s2 _ _ hq))
      refine st_ifn (et_test (C := CP) (ev_neL (l := (over Pn wr st' (get L)).map dP) (m := []) (ev_v rfl ho2) (ev_lst (ds := []) ea_nil (by decide)) (shaped_ps _) (by decide +kernel) (eqv_nil _))) (fun e H5 s5 => ?_) (fun e H5 s5 => ?_)
      · have hne2 : over Pn wr st' (get L) ≠ [] := fun z => by
          rw [z] at e
          cases e
        obtain ⟨p1, p2, p3⟩ := pick_spec hO'.g hne2
        have sH5 := sH4.trans s5
        have hq5 := s5 _ _ hq4
        have ec := cnt_off p3
        obtain ⟨fu, rfl⟩ : ∃ n, fu = n + 1 := ⟨fu - 1, by omega⟩
        refine sq_set (C := CP) (a := .d (.int ((pickI Pn wr st' (get L) : Nat) : Int))) (ev_I0 (i := 0) (j := (pick (over Pn wr st' (get L))).2) (g := fun i j => V.int (i - j)) ev_int (ev_ixT (i := 1) (ev_b (ea_one (ev_v rfl (ho2.mono s5))) (er_minP hne2)) ev_int rfl) fun _ => by show V.int (0 - _) = V.int _; rw [p2]) fun vi H6 s6 hi => ?_
        have evi := rp_int hi
        subst evi
        have hq6 := s6 _ _ hq5
        refine ⟨_, rfl, .inl ⟨rfl, _, SqL.of hq6⟩, _, rfl, q, _, _, rfl, rfl, hq6, by rw [List.length_map, sizeLine_eq]; omega, ?_⟩
        have sH6 := sH5.trans s6
        have tx7 : Tx H6 (upd H6 q (.lst (acc.map (fun i => V.int (i : Nat)) ++ [V.int ((pickI Pn wr st' (get L) : Nat) : Int)]))) := tx_upd hq6 fun _ z => nomatch z
        have hst7 : Rp CP (upd H6 q (.lst (acc.map (fun i => V.int (i : Nat)) ++ [V.int ((pickI Pn wr st' (get L) : Nat) : Int)]))) (.d (dB st')) vst := Im.tx (Im.mono hst4 (s5.trans s6)) tx7
        have hlen : (st'.map D.bl).length = Pn.n := by rw [List.length_map, hO'.s]
        have eI : ((pickI Pn wr st' (get L) : Nat) : Int) + 1 = ((pickI Pn wr st' (get L) + 1 : Nat) : Int) := by omega
        refine st_set (C := CP) (ev_catT (ev_catT (ev_slT (lo := none) (hi := some ((pickI Pn wr st' (get L) : Nat) : Int)) (ev_v rfl hst7) eo_no (eo_some (C := CP) (ev_v rfl rfl))) (ev_tup (ds := [.bl false]) (ea_one ev_bl) (by decide)) ?_) (ev_slT (lo := some ((pickI Pn wr st' (get L) + 1 : Nat) : Int)) (hi := none) (ev_v rfl hst7) (eo_some (C := CP) (ev_I0 (g := fun i j => V.int (i + j)) (i := ((pickI Pn wr st' (get L) : Nat) : Int)) (j := 1) (ev_v rfl rfl) ev_int fun _ => by show V.int _ = V.int _; rw [eI])) eo_no) ?_) fun vst2 H8 s8 hst8 => ?_
        · rw [cutD_to, List.length_take]
          show _ + 1 ≤ 1000
          omega
        · rw [cutD_to, cutD_from, List.length_append, List.length_take, List.length_drop]
          show _ + 1 + _ ≤ 1000
          omega
        · rw [cutD_to, cutD_from, set_cut _ _ _ (by rw [hlen]; exact p1)] at hst8
          have hq7 : upd H6 q (.lst (acc.map (fun i => V.int (i : Nat)) ++ [V.int ((pickI Pn wr st' (get L) : Nat) : Int)])) q = _ := upd_same
          have hov8 : Rp CP H8 (.lst ((over Pn wr st' (get L)).map dP)) vo2 := by
            obtain ⟨r, xs, er, e1, e2⟩ := rp_lst (ho2.mono (s5.trans s6))
            subst er
            have nrq : r ≠ q := fun z => by
              rw [z, hq6] at e1
              have ex : acc.map (fun i => V.int (i : Nat)) = xs := by
                have e := Option.some.inj e1
                injection e
              rw [← ex] at e2
              cases ho : over Pn wr st' (get L) with
              | nil => exact hne2 ho
              | cons p ps =>
                rw [ho] at e2
                obtain ⟨v, r2, ev, hv, _⟩ := iml_cons_inv e2
                obtain ⟨b, _, eb, _⟩ := im_tup hv
                rw [eb] at ev
                cases acc with
                | nil => cases ev
                | cons a acc => cases ev
            exact ⟨r, xs, rfl, s8 _ _ (by rw [upd_ne nrq]; exact e1), (e2.tx tx7).mono s8⟩
          have hO8 : OkA Pn wr (st'.set (pickI Pn wr st' (get L)) false) := ⟨hO'.g, hO'.w, by rw [List.length_set]; exact hO'.s⟩
          refine ⟨cnt (st'.set (pickI Pn wr st' (get L)) false) + 1, by omega, _, acc ++ [pickI Pn wr st' (get L)], _, vst2, vo2, _, _, _, fu, rfl, (same_mut sH6 hq0).trans s8, ?_, ?_, hov8, shaped_ps _, hO8, by omega, ?_, ?_, .inl ⟨?_, rfl⟩⟩
          · have em : (st'.set (pickI Pn wr st' (get L)) false).map D.bl = (st'.map D.bl).set (pickI Pn wr st' (get L)) (.bl false) := List.map_set ..
            show Rp CP H8 (.d (.tup ((st'.set (pickI Pn wr st' (get L)) false).map D.bl))) vst2
            rw [em]
            exact hst8
          · rw [List.map_append]
            exact s8 _ _ hq7
          · rw [htr, tripsF_cons _ hne2]
            show (_, _) = (_, _)
            rw [List.append_assoc]
            rfl
          · rw [List.length_append, List.length_singleton]
            omega
          · exact eq_false_of_ne_true fun z => hne2 (by
              have := List.isEmpty_iff.mp z
              exact List.map_eq_nil_iff.mp this)
      · have hz : over Pn wr st' (get L) = [] := by
          have e2 : ((over Pn wr st' (get L)).map dP).isEmpty = true := by
            cases q : ((over Pn wr st' (get L)).map dP).isEmpty with
            | true => rfl
            | false => rw [q] at e; cases e
          exact List.map_eq_nil_iff.mp (List.isEmpty_iff.mp e2)
        refine ⟨0, by omega, st', acc, [], vst, vo2, _, _, _, fu, rfl, sH4.trans s5, hst4.mono s5, s5 _ _ hq4, ?_, by decide +kernel, hO', hfu, htr, hac, .inr ⟨rfl, rfl, hz⟩⟩
        rw [hz] at ho2
        exact ho2.mono s5
  · rw [tripsF_nil _ hnil, List.append_nil] at htr
    rw [htr] at k
    refine st_ret (C := CP) (ev_tup (ds := [dB st', dN acc]) (ea_cons (ev_v rfl (hst.mono s2)) (ea_one (ev_tupc (l := acc.map fun i => .int (i : Nat)) (ev_v rfl ⟨q, _, rfl, s2 _ _ hq, iml_map fun _ _ => rfl⟩)))) (by show 2 ≤ 1000; decide)) fun v H3 s3 hv => k v H3 (sH2.trans s3) hv
end
end Bf

/-! D5: trips, choices, orders, plugging. -/
namespace Bf
open PySem PySem.Spec PyProof.Rows L2 Bx
section
variable {P : Program} {w : World} {K : PySem.W.Frag} {mg : Str → Option Value} {base : Heap} {CP CS CB : Addr}
def R_check_all (as : List A) (r : A) : Prop := ∃ (Pn : Pl) (wr : List (Option Nat)) (st : List Bool) (L : List (Str × Int)), as = [.pl Pn, .d (dW wr), .d (dB st), .dic L] ∧ OkA Pn wr st ∧ GoodL Pn L ∧ r = .d .non
theorem ok_check_all (T : Txt K mg CP CS CB) : C8.Cal P w K mg base 10 "check_all" (SpD CP R_check_all) [] := by
  have c_check_wiring := ok_check_wiring (P := P) (w := w) (base := base) T
  have c_check_state := ok_check_state (P := P) (w := w) (base := base) T
  have c_check_loads := ok_check_loads (P := P) (w := w) (base := base) T
  refine cal_d T.d_check_all sc_check_all (fun as r ⟨v, b, c, d, e, _⟩ => by rw [e] <;> rfl) fun f cdv A outer s H vs Q E as r hr h hR k => ?_
  obtain ⟨Pn, wr, st, L, rfl, hO, hL, rfl⟩ := hR
  obtain ⟨v1, v2, v3, v4, rfl, h1, h2, h3, h4⟩ := h.four
  have h5 := hO.g.r5
  refine ⟨_, (pss_cons (ps_expr (C8.pe_c c_check_wiring hr (by decide) (by rfl) (pa_cons (pv 0) (pa_cons (pv 1) pa_nil))))
    (pss_cons (ps_expr (C8.pe_c c_check_state hr (by decide) (by rfl) (pa_cons (pv 0) (pa_cons (pv 2) pa_nil))))
    (pss_one (ps_expr (C8.pe_c c_check_loads hr (by decide) (by rfl) (pa_cons (pv 0) (pa_cons (pv 3) pa_nil))))))), ?_⟩
  refine sq_expr (C := CP) (ev_call (as := [.pl Pn, .d (dW wr)]) (ea_cons (ev_v rfl h1) (ea_one (ev_v rfl h2))) ⟨Pn, wr, rfl, hO.g, hO.w, rfl⟩) fun H1 s1 => ?_
  refine sq_expr (C := CP) (ev_call (as := [.pl Pn, .d (dB st)]) (ea_cons (ev_v rfl (h1.mono s1)) (ea_one (ev_v rfl (h3.mono s1)))) ⟨Pn, st, rfl, hO.s, by omega, rfl⟩) fun H2 s2 => ?_
  have s12 := s1.trans s2
  exact st_expr (C := CP) (ev_call (as := [.pl Pn, .dic L]) (ea_cons (ev_v rfl (h1.mono s12)) (ea_one (ev_v rfl (h4.mono s12)))) ⟨Pn, L, rfl, hO.g, hL, rfl⟩) fun H3 s3 => k _ _ (s12.trans s3) rfl
def R_trips (as : List A) (r : A) : Prop := ∃ (Pn : Pl) (wr : List (Option Nat)) (st : List Bool) (L : List (Str × Int)), as = [.pl Pn, .d (dW wr), .d (dB st), .dic L] ∧ OkA Pn wr st ∧ GoodL Pn L ∧ r = .d (.tup [dB (trips Pn wr st L).1, dN (trips Pn wr st L).2])
theorem ok_trips (T : Txt K mg CP CS CB) : C8.Cal P w K mg base 12 "trips" (SpD CP R_trips) [] := by
  have c_check_all := ok_check_all (P := P) (w := w) (base := base) T
  have c_trips_in := ok_trips_in (P := P) (w := w) (base := base) T
  refine cal_d T.d_trips sc_trips (fun as r ⟨v, b, c, d, e, _⟩ => by rw [e] <;> rfl) fun f cdv A outer s H vs Q E as r hr h hR k => ?_
  obtain ⟨Pn, wr, st, L, rfl, hO, hL, rfl⟩ := hR
  obtain ⟨v1, v2, v3, v4, rfl, h1, h2, h3, h4⟩ := h.four
  refine ⟨_, (pss_cons (ps_expr (C8.pe_c c_check_all hr (by decide) (by rfl) (pa_cons (pv 0) (pa_cons (pv 1) (pa_cons (pv 2) (pa_cons (pv 3) pa_nil))))))
    (pss_one (ps_ret (C8.pe_c c_trips_in hr (by decide) (by rfl) (pa_cons (pv 0) (pa_cons (pv 1) (pa_cons (pv 2) (pa_cons (pv 3) pa_nil)))))))), ?_⟩
  refine sq_expr (C := CP) (ev_call (as := [.pl Pn, .d (dW wr), .d (dB st), .dic L]) (ea_cons (ev_v rfl h1) (ea_cons (ev_v rfl h2) (ea_cons (ev_v rfl h3) (ea_one (ev_v rfl h4))))) ⟨Pn, wr, st, L, rfl, hO, hL, rfl⟩) fun H1 s1 => ?_
  exact st_ret (C := CP) (ev_call (as := [.pl Pn, .d (dW wr), .d (dB st), .dic L]) (ea_cons (ev_v rfl (h1.mono s1)) (ea_cons (ev_v rfl (h2.mono s1)) (ea_cons (ev_v rfl (h3.mono s1)) (ea_one (ev_v rfl (h4.mono s1)))))) ⟨Pn, wr, st, L, rfl, hO, rfl⟩) fun v H2 s2 hv => k v H2 (s1.trans s2) hv
theorem allOn_len (Pn : Pl) : (allOn Pn).length = Pn.n := List.length_map _
theorem okA_on {Pn : Pl} {wr : List (Option Nat)} (g : GoodP Pn) (h : GoodW Pn wr) : OkA Pn wr (allOn Pn) := ⟨g, h, allOn_len Pn⟩
theorem eqv_tnil (l : List D) : PyData.eqv (.tuple (pyL l)) (.tuple (pyL [])) = l.isEmpty := by
  cases l with
  | nil =>
    show PyData.eqv (.tuple []) (.tuple []) = true
    unfold PyData.eqv
    unfold PyData.eqvAll
    rfl
  | cons d l =>
    show PyData.eqv (.tuple (d.py :: pyL l)) (.tuple []) = false
    unfold PyData.eqv
    unfold PyData.eqvAll
    rfl
theorem shaped_N (l : List Nat) : SeqAt.shaped (dN l).py = true := shaped_of (d := dN l) (lay_map _ (fun _ => rfl) l) (by show depL _ + 1 ≤ 63; have := dep_map (n := 0) (fun i : Nat => D.int (i : Nat)) (fun _ => Nat.le_refl _) l; omega)
def R_does_run (as : List A) (r : A) : Prop := ∃ (Pn : Pl) (wr : List (Option Nat)) (L : List (Str × Int)), as = [.pl Pn, .d (dW wr), .dic L] ∧ GoodP Pn ∧ GoodW Pn wr ∧ r = .d (.bl (doesRun Pn wr L))
theorem ok_does_run (T : Txt K mg CP CS CB) : C8.Cal P w K mg base 12 "does_run" (SpD CP R_does_run) [] := by
  have c_trips_in := ok_trips_in (P := P) (w := w) (base := base) T
  have c_all_on := ok_all_on (P := P) (w := w) (base := base) T
  refine cal_d T.d_does_run sc_does_run (fun as r ⟨v, b, c, e, _⟩ => by rw [e] <;> rfl) fun f cdv A outer s H vs Q E as r hr h hR k => ?_
  obtain ⟨Pn, wr, L, rfl, hG, hW, rfl⟩ := hR
  obtain ⟨v1, v2, v3, rfl, h1, h2, h3⟩ := h.three
  have h5 := hG.r5
  refine ⟨_, (pss_one (ps_ret (pe_cmpR (Bf.eqDK K hr.units) (pe_ix (Bf.ixT K) (C8.pe_c c_trips_in hr (by decide) (by rfl) (pa_cons (pv 0) (pa_cons (pv 1) (pa_cons (C8.pe_c c_all_on hr (by decide) (by rfl) (pa_cons (pv 0) pa_nil)) (pa_cons (pv 2) pa_nil))))) pe_int (fun _ _ => rfl)) (pe_tup pa_nil) (nomark _)))), ?_⟩
  refine st_ret (C := CP) (ev_eqD (x := dN (trips Pn wr (allOn Pn) L).2) (y := .tup []) (ev_ixT (i := 1) (ev_call (as := [.pl Pn, .d (dW wr), .d (dB (allOn Pn)), .dic L]) (ea_cons (ev_v rfl h1) (ea_cons (ev_v rfl h2) (ea_cons (ev_call (as := [.pl Pn]) (ea_one (ev_v rfl h1)) ⟨Pn, rfl, by omega, rfl⟩) (ea_one (ev_v rfl h3))))) ⟨Pn, wr, _, L, rfl, okA_on hG hW, rfl⟩) ev_int rfl) (ev_tup (ds := []) ea_nil (by decide)) (shaped_N _) (by decide +kernel) ?_) k
  show PyData.eqv (.tuple (pyL _)) (.tuple (pyL [])) = _
  rw [eqv_tnil]
  unfold doesRun
  cases (trips Pn wr (allOn Pn) L).2 <;> rfl
def R_switched (as : List A) (r : A) : Prop := ∃ (st : List Bool) (i : Nat), as = [.d (dB st), .d (.int (i : Nat))] ∧ i < st.length ∧ st.length ≤ 100 ∧ r = .d (dB (st.set i (!st.getD i false)))
theorem ok_switched (T : Txt K mg CP CS CB) : C8.Cal P w K mg base 2 "switched" (SpD CP R_switched) [] := by
  refine cal_d T.d_switched sc_switched (fun as r ⟨v, b, e, _⟩ => by rw [e] <;> rfl) fun f cdv A outer s H vs Q E as r hr h hR k => ?_
  obtain ⟨st, i, rfl, hi, hl, rfl⟩ := hR
  obtain ⟨v1, v2, rfl, h1, h2⟩ := h.two
  have hlen : (st.map D.bl).length = st.length := List.length_map _
  have eI : (i : Int) + 1 = ((i + 1 : Nat) : Int) := by omega
  have em : (st.set i (!st.getD i false)).map D.bl = (st.map D.bl).set i (.bl (!st.getD i false)) := List.map_set ..
  refine ⟨_, (pss_one (ps_ret (pe_op (Bf.catTK K) (pe_op (Bf.catTK K) (pe_slice (Bf.slTK K) (pv 0) po_none (po_some (pv 1))) (pe_tup (pa_cons (pe_not (pe_ix (Bf.ixT K) (pv 0) (pv 1) (fun _ _ => rfl))) pa_nil))) (pe_slice (Bf.slTK K) (pv 0) (po_some (pe_op op_add (pv 1) pe_int)) po_none)))), ?_⟩
  refine st_ret (C := CP) (a := .d (.tup (cutD (st.map D.bl) none (some (i : Int)) ++ [.bl (!st.getD i false)] ++ cutD (st.map D.bl) (some ((i + 1 : Nat) : Int)) none))) (ev_catT (ev_catT (ev_slT (ev_v rfl h1) eo_no (eo_some (C := CP) (ev_v rfl h2))) (ev_tup (ds := [.bl _]) (ea_one (ev_not (ev_ixT (ev_v rfl h1) (ev_v rfl h2) (st_at rfl hi)))) (by show 1 ≤ 1000; decide)) ?_) (ev_slT (ev_v rfl h1) (eo_some (C := CP) (ev_I0 (g := fun i j => V.int (i + j)) (i := (i : Int)) (j := 1) (ev_v rfl h2) ev_int fun _ => by show V.int _ = V.int _; rw [eI])) eo_no) ?_) ?_
  · rw [cutD_to, List.length_take]
    show _ + 1 ≤ 1000
    omega
  · rw [cutD_to, cutD_from, List.length_append, List.length_take, List.length_drop]
    show _ + 1 + _ ≤ 1000
    omega
  · rw [cutD_to, cutD_from, set_cut _ _ _ (by rw [hlen]; exact hi), ← em]
    exact k
end
end Bf

/-! D6: choices, orders_of. -/
namespace Bf
open PySem PySem.Spec PyProof.Rows L2 Bx
theorem chs_len {α : Type} : ∀ (n : Nat) (l : List α), l.length ≤ 3 → (chs n l).length ≤ 4 ^ n
  | 0, _, _ => by show 1 ≤ 1; exact Nat.le_refl _
  | n + 1, l, h => by
    show ((l.zipIdx).flatMap fun e => (chs n (l.drop (e.2 + 1))).map (e.1 :: ·)).length ≤ _
    have key : ∀ (m : List (α × Nat)), (m.flatMap fun e => (chs n (l.drop (e.2 + 1))).map (e.1 :: ·)).length ≤ m.length * 4 ^ n := by
      intro m
      induction m with
      | nil => show 0 ≤ _; exact Nat.zero_le _
      | cons e m ih =>
        rw [List.flatMap_cons, List.length_append, List.length_map, List.length_cons, Nat.succ_mul]
        have := chs_len n (l.drop (e.2 + 1)) (by rw [List.length_drop]; omega)
        omega
    have k := key l.zipIdx
    rw [List.length_zipIdx] at k
    have e : l.length * 4 ^ n ≤ 4 * 4 ^ n := Nat.mul_le_mul_right _ (by omega)
    rw [Nat.pow_succ]
    omega
theorem ordsF_len {α : Type} : ∀ (n : Nat) (l : List α), l.length ≤ 3 → (ordsF n l).length ≤ 4 ^ n
  | 0, _, _ => by show 1 ≤ 1; exact Nat.le_refl _
  | n + 1, l, h => by
    show (if l.isEmpty then [[]] else (l.zipIdx).flatMap fun e => (ordsF n (l.eraseIdx e.2)).map (e.1 :: ·)).length ≤ _
    split
    · exact Nat.one_le_pow _ _ (by decide)
    have key : ∀ (m : List (α × Nat)), (m.flatMap fun e => (ordsF n (l.eraseIdx e.2)).map (e.1 :: ·)).length ≤ m.length * 4 ^ n := by
      intro m
      induction m with
      | nil => show 0 ≤ _; exact Nat.zero_le _
      | cons e m ih =>
        rw [List.flatMap_cons, List.length_append, List.length_map, List.length_cons, Nat.succ_mul]
        have := ordsF_len n (l.eraseIdx e.2) (Nat.le_trans (List.length_eraseIdx_le ..) h)
        omega
    have k := key l.zipIdx
    rw [List.length_zipIdx] at k
    have e : l.length * 4 ^ n ≤ 4 * 4 ^ n := Nat.mul_le_mul_right _ (by omega)
    rw [Nat.pow_succ]
    omega
theorem chs_el {α : Type} : ∀ (n : Nat) (l o : List α), o ∈ chs n l → o.length = n
  | 0, _, o, h => by
    rw [List.mem_singleton.mp h]
    rfl
  | n + 1, l, o, h => by
    obtain ⟨e, _, he⟩ := List.mem_flatMap.mp h
    obtain ⟨o2, h2, rfl⟩ := List.mem_map.mp he
    rw [List.length_cons, chs_el n _ o2 h2]
theorem ordsF_el {α : Type} : ∀ (n : Nat) (l o : List α), o ∈ ordsF n l → o.length ≤ n
  | 0, _, o, h => by
    rw [List.mem_singleton.mp h]
    exact Nat.le_refl _
  | n + 1, l, o, h => by
    have h : o ∈ (if l.isEmpty then [[]] else (l.zipIdx).flatMap fun e => (ordsF n (l.eraseIdx e.2)).map (e.1 :: ·)) := h
    split at h
    · rw [List.mem_singleton.mp h]
      exact Nat.zero_le _
    · obtain ⟨e, _, he⟩ := List.mem_flatMap.mp h
      obtain ⟨o2, h2, rfl⟩ := List.mem_map.mp he
      have := ordsF_el n _ o2 h2
      rw [List.length_cons]
      omega
theorem flat_take {α β : Type} (g : α → List β) {l : List α} {i : Nat} {a : α} (h : l[i]? = some a) : (l.take (i + 1)).flatMap g = (l.take i).flatMap g ++ g a := by
  rw [List.take_add_one, h, List.flatMap_append]
  show _ ++ List.flatMap g [a] = _
  rw [List.flatMap_singleton]
theorem flat_len {α β : Type} (g : α → List β) {B : Nat} (l : List α) (h : ∀ a ∈ l, (g a).length ≤ B) : (l.flatMap g).length ≤ l.length * B := by
  induction l with
  | nil => exact Nat.zero_le _
  | cons a l ih =>
    rw [List.flatMap_cons, List.length_append, List.length_cons, Nat.succ_mul]
    have := h a List.mem_cons_self
    have := ih fun b hb => h b (List.mem_cons_of_mem _ hb)
    omega
section
variable {P : Program} {w : World} {K : PySem.W.Frag} {mg : Str → Option Value} {base : Heap} {CP CS CB : Addr}
theorem cal_none {x : Str} {st : Stmt} {ps : List Str} (D : DefX K mg x st ps) (k : Nat) {R : List A → A → Prop} (no : ∀ as r, ¬ R as r) : C8.Cal P w K mg base k x (SpD CP R) [] := by
  obtain ⟨f, fd, F, m, b⟩ := D.ex
  exact ⟨f, fd, ps, [], ⟨fun vs H Q E ⟨_, _, _, h, _⟩ => (no _ _ h).elim, fun A outer s H args us vs Q E _ _ _ _ ⟨_, _, _, h, _⟩ => (no _ _ h).elim⟩, m, F.kp, b, .nil⟩
/-- a for over enumerate(xs), xs a name -/
theorem st_forEn {g : TG} {tb : TS} {σ : L2.St} {H : Hp} {Dn : Ends} {v : Nat} {p : Addr} {us : List V} {l : List D} (hv : σ[v]? = some (some (.ref p))) (hp : H p = some (.lst us)) (im : ImL H l us) (Pv : Nat → L2.St → Hp → Prop) (h0 : Pv 0 σ H)
    (hP : ∀ i σ' H', Pv i σ' H' → H' p = some (.lst us) ∧ Tx H H')
    (hs : ∀ (i : Nat) (d : D) (x : V) (σ' : L2.St) (H0 H' : Hp) (Dn' : Ends), (enumD l)[i]? = some d → Pv i σ' H0 → Same H0 H' → Im H' d x → (∀ σ3 H3, Pv (i + 1) σ3 H3 → Dn'.nx σ3 H3) → (∀ σ3 H3, Pv (i + 1) σ3 H3 → Dn'.ct σ3 H3) → Dn'.rt = Dn.rt → g x σ' H' (tb Dn'))
    (hd : ∀ σ' H', Pv (enumD l).length σ' H' → Dn.nx σ' H') : tFor (iEnum K (tCons (tVar v) tNil)) g tb Dn σ H := by
  refine ⟨_, hv, p, us, rfl, SqL.of hp, ?_⟩
  have w := walk_enum (K := K) (a := p) (xs := us)
  rw [im.len] at w
  rw [show l.length = (enumD l).length by rw [List.length_mapIdx]] at w
  have wd : WkD (Ite K p) (fun H' => H' p = some (.lst us) ∧ Tx H H') (enumD l) := w.mono (fun H' h => SqL.of h.1) fun i H' x H'' hi h y => by
    obtain ⟨T, x1, x2, g1, g2, g3, g4, g5⟩ := y
    obtain ⟨d2, h2, i2⟩ := (im.tx h.2).at g5
    have ex : x1 = V.int (i : Nat) := (Option.some.inj g4).symm
    obtain ⟨sm, im2⟩ := pair_im (d := .int (i : Nat)) g2 ex i2 g3
    subst g1
    exact ⟨sm, _, by rw [List.getElem?_mapIdx, h2] <;> rfl, im2⟩
  exact for_d wd Pv h0 hP (fun i d x σ' H0 H' hi p s im => hs i d x σ' H0 H' _ hi p s im (fun _ _ z => z) (fun _ _ z => z) rfl) hd
theorem sq_forEn {g : TG} {tb u : TS} {σ : L2.St} {H : Hp} {Dn : Ends} {v : Nat} {p : Addr} {us : List V} {l : List D} (hv : σ[v]? = some (some (.ref p))) (hp : H p = some (.lst us)) (im : ImL H l us) (Pv : Nat → L2.St → Hp → Prop) (h0 : Pv 0 σ H)
    (hP : ∀ i σ' H', Pv i σ' H' → H' p = some (.lst us) ∧ Tx H H')
    (hs : ∀ (i : Nat) (d : D) (x : V) (σ' : L2.St) (H0 H' : Hp) (Dn' : Ends), (enumD l)[i]? = some d → Pv i σ' H0 → Same H0 H' → Im H' d x → (∀ σ3 H3, Pv (i + 1) σ3 H3 → Dn'.nx σ3 H3) → (∀ σ3 H3, Pv (i + 1) σ3 H3 → Dn'.ct σ3 H3) → Dn'.rt = Dn.rt → g x σ' H' (tb Dn'))
    (hd : ∀ σ' H', Pv (enumD l).length σ' H' → u Dn σ' H') : tSeq (tFor (iEnum K (tCons (tVar v) tNil)) g tb) u Dn σ H := st_forEn (Dn := { Dn with nx := u Dn }) hv hp im Pv h0 hP hs hd
/-- choices, m its size -/
def R_choices (n : Nat) (as : List A) (r : A) : Prop := ∃ (l : List Str) (m : Nat), as = [.lst (l.map .str), .d (.int (m : Nat))] ∧ m < n ∧ m ≤ 3 ∧ l.length ≤ 3 ∧ r = .lst ((chs m l).map dS)
theorem choices_step {n : Nat} (T : Txt K mg CP CS CB) (c_choices : C8.Cal P w K mg base n "choices" (SpD CP (R_choices n)) []) : C8.Cal P w K mg base (n + 1) "choices" (SpD CP (R_choices (n + 1))) [] := by
  refine cal_d T.d_choices sc_choices (fun as r ⟨v, b, e, _⟩ => by rw [e] <;> rfl) fun f cdv A outer s H vs Q E as r hr h hR k => ?_
  have hk : n ≤ n := Nat.le_refl n
  obtain ⟨l, m, rfl, hm, hm3, hl, rfl⟩ := hR
  obtain ⟨v1, v2, rfl, h1, h2⟩ := h.two
  refine ⟨_, (pss_cons (ps_if (pt_cmpR op_eq (pv 1) pe_int (nomark _)) (pss_one (ps_ret (pe_lst (pa_cons (pe_tup pa_nil) pa_nil)))) pss_nil)
    (pss_cons (ps_set (i := 2) sc_choices.nd rfl (Or.inl rfl) (pe_lst pa_nil))
    (pss_cons (ps_for PassesOwn.never rfl (pi_enum (by rfl) T.b_enumerate (pa_cons (pv 0) pa_nil)) (pg_tup rfl (pgs_cons (pg_name (i := 3) sc_choices.nd rfl (Or.inl rfl)) (pgs_cons (pg_name (i := 4) sc_choices.nd rfl (Or.inr rfl)) pgs_nil))) (pss_one (ps_expr (pe_bm PySem.F.plainAttrs_list PySem.F.slot_list_extend PySem.F.type_list_extend mt_extend (pv 2) (pa_cons (pe_lc (own := [("rest", 5)]) (g := (gName 5)) (tt := tYes) rfl sc_choices.nd (pi_list (C8.pe_c c_choices hr hk (by rfl) (pa_cons (pe_slice (Bf.slLK K) (pv 0) (po_some (pe_op op_add (pv 3) pe_int)) po_none) (pa_cons (pe_op op_sub (pv 1) pe_int) pa_nil)))) (blkOk_by (own := [("rest", 5)]) (N := ["things", "size", "found", "place", "thing", "rest"]) (sc := defScope s_choices) (by decide +kernel)) (fun _ _ _ _ _ => (pg_name (i := 5) sc_choices.nd rfl (Or.inl rfl) (Or.inr rfl))) (fun _ _ _ _ _ => pts_nil) (fun _ _ _ _ _ => (pe_tup (pa_cons (pv 4) (Bf.pa_starK K (pv 5) pa_nil))))) pa_nil)))))
    (pss_one (ps_ret (pv 2)))))), ?_⟩
  refine sq_ifn (et_test (C := CP) (ev_eqZ (ev_v rfl h2) ev_int)) (fun e H1 s1 => ?_) (fun e H1 s1 => ?_)
  · have em : m = 0 := by
      have := of_decide_eq_true e
      omega
    subst em
    exact st_ret (C := CP) (ev_lst (ds := [.tup []]) (ea_one (ev_tup (ds := []) ea_nil (by decide))) (by show 1 ≤ 1000; decide)) fun v H2 s2 hv => k v H2 (s1.trans s2) hv
  · obtain ⟨m, rfl⟩ : ∃ j, m = j + 1 := by
      have := of_decide_eq_false e
      exact ⟨m - 1, by omega⟩
    refine ⟨by show 0 ≤ sizeLine; exact Nat.zero_le _, fun q hq0 => ?_⟩
    have s1q := same_new hq0 (.lst [])
    have hHq : H q = none := s1.free hq0
    obtain ⟨p, us, rfl, hp, hus⟩ := rp_lst ((h1.mono s1).mono s1q)
    have npq : p ≠ q := by
      obtain ⟨p', us', e', hp', _⟩ := rp_lst (h1.mono s1)
      cases e'
      exact ne_of_none hp' hq0
    let G : Str × Nat → List (List Str) := fun e => (chs m (l.drop (e.2 + 1))).map (e.1 :: ·)
    have gl : ∀ e, (G e).length ≤ 4 ^ m := fun e => by
      show ((chs m (l.drop (e.2 + 1))).map (e.1 :: ·)).length ≤ _
      rw [List.length_map]
      exact chs_len m _ (by rw [List.length_drop]; omega)
    have h64 : 4 ^ m ≤ 64 := Nat.le_trans (Nat.pow_le_pow_right (by decide) (by omega : m ≤ 3)) (by decide)
    refine sq_forEn rfl hp hus (fun i σ' H' => ∃ (o3 o4 : Option V) (zs : List V), σ' = [some (.ref p), some v2, some (.ref q), o3, o4, none] ∧ Same H1 H' ∧ H' p = some (.lst us) ∧ Tx (upd H1 q (.lst [])) H' ∧ H' q = some (.lst zs) ∧ ImL H' (((l.zipIdx.take i).flatMap G).map dS) zs)
      ⟨none, none, [], rfl, s1q, hp, Tx.refl _, upd_same, rfl⟩ (fun i σ' H' ⟨_, _, _, _, _, a, b, _⟩ => ⟨a, b⟩) ?_ ?_
    · rintro i d x σ' H0 H' Dn' hi ⟨o3, o4, zs, rfl, s0, hp0, tx0, hq1, hz⟩ s' im hnx hct hrt
      rw [enumD_map] at hi
      obtain ⟨⟨z, j⟩, ha, rfl⟩ := map_at hi
      have hij : i = j := by
        rw [List.getElem?_zipIdx] at ha
        cases e : l[i]? with
        | none => rw [e] at ha; cases ha
        | some o =>
          rw [e] at ha
          have e2 : (o, 0 + i) = (z, j) := Option.some.inj ha
          injection e2 with e3 e4
          omega
      have hil : i < l.length := by
        have := (List.getElem?_eq_some_iff.mp ha).1
        rw [List.length_zipIdx] at this
        exact this
      subst hij
      obtain ⟨vp, vt, hvp, hvt, g⟩ := g_pair (K := K) (n := 3) (m := 4) im
      refine g _ _ ?_
      have sH := s0.trans s'
      have e1 : ((m + 1 : Nat) : Int) - 1 = ((m : Nat) : Int) := by omega
      have hq' := s' _ _ hq1
      refine ⟨_, rfl, .inl ⟨rfl, _, SqL.of hq'⟩, ?_⟩
      refine ea_go (C := CP) (as := [.lst ((chs m (l.drop (i + 1))).map fun o => dS (z :: o))]) ?_ fun ws H2 s2 hws => ?_
      · refine ea_one (ev_lcma (xs := chs m (l.drop (i + 1))) (φ := dS) (it_list (ev_call (R := R_choices n) (as := [.lst ((l.drop (i + 1)).map .str), .d (.int (m : Nat))]) (ea_cons ?_ (ea_one (ev_I0 (g := fun i j => V.int (i - j)) (i := ((m + 1 : Nat) : Int)) (j := 1) (ev_v rfl (h2.mono (s1.trans sH))) ev_int fun _ => by show V.int _ = V.int _; rw [e1]))) ⟨_, m, rfl, by omega, by omega, by rw [List.length_drop]; omega, rfl⟩)) (fun o => dS (z :: o)) (by have := chs_len m (l.drop (i + 1)) (by rw [List.length_drop]; omega); omega) fun j o x H2 hj s2 im2 => turn_name rfl ?_)
        · have e : (Bf.A.lst ((l.drop (i + 1)).map D.str)) = .lst (cutD (l.map .str) (some ((i + 1 : Nat) : Int)) none) := by rw [cutD_from, ← List.map_drop]
          rw [e]
          exact ev_slL (ev_v rfl ⟨p, us, rfl, s' _ _ hp0, hus.tx (tx0.trans (Same.tx s'))⟩) (eo_some (C := CP) (ev_I0 (g := fun i j => V.int (i + j)) (i := (i : Int)) (j := 1) (ev_v rfl hvp) ev_int fun _ => by show V.int _ = V.int _; congr 1)) eo_no
        · have := chs_el m _ o (List.mem_of_getElem? hj)
          exact ev_tup (ds := (z :: o).map .str) (ea_cons (ev_v rfl (Im.mono hvt s2)) (ea_starT1 (ev_v (a := .d (dS o)) rfl im2))) (by rw [List.length_map, List.length_cons]; omega)
      · obtain ⟨b, rfl, hb⟩ := hws.one
        obtain ⟨b, ys, rfl, hb1, hb2⟩ := rp_lst hb
        have hq2 := s2 _ _ hq'
        have hz2 := hz.mono (s'.trans s2)
        have ht := flat_take G ha
        have hlz := hz.len
        have hly := hb2.len
        rw [List.length_map] at hlz hly
        have hfl := flat_len G (B := 4 ^ m) (l.zipIdx.take i) (fun a _ => gl a)
        have hcl := chs_len m (l.drop (i + 1)) (by rw [List.length_drop]; omega)
        have h3 : (l.zipIdx.take i).length ≤ 3 := by
          rw [List.length_take]
          omega
        have hmul : (l.zipIdx.take i).length * 4 ^ m ≤ 3 * 64 := Nat.mul_le_mul h3 h64
        have tx2 : Tx H2 (upd H2 q (.lst (zs ++ ys))) := tx_upd hq2 fun _ z => nomatch z
        refine ⟨q, b, zs, ys, rfl, rfl, hq2, hb1, by rw [sizeLine_eq]; omega, ?_⟩
        refine hnx _ _ ⟨_, _, zs ++ ys, rfl, same_mut (sH.trans s2) hq0, ?_, (tx0.trans (Same.tx (s'.trans s2))).trans tx2, upd_same, ?_⟩
        · rw [upd_ne npq]
          exact s2 _ _ (s' _ _ hp0)
        · rw [ht, List.map_append]
          refine (hz2.app ?_).tx tx2
          show ImL H2 (((chs m (l.drop (i + 1))).map (z :: ·)).map dS) ys
          rw [List.map_map]
          exact hb2
    · rintro σ' H' ⟨o3, o4, zs, rfl, s0, hp0, tx0, hq1, hz⟩
      have e : (enumD (l.map D.str)).length = l.zipIdx.length := by rw [List.length_mapIdx, List.length_map, List.length_zipIdx]
      rw [e, List.take_length] at hz
      exact st_ret (C := CP) (a := .lst (((l.zipIdx).flatMap G).map dS)) (ev_v rfl ⟨q, zs, rfl, hq1, hz⟩) fun v H2 s2 hv => k v H2 (s1.trans (s0.trans s2)) hv
theorem choices_all (T : Txt K mg CP CS CB) : ∀ n, C8.Cal P w K mg base n "choices" (SpD CP (R_choices n)) []
  | 0 => cal_none T.d_choices 0 fun as r ⟨_, m, _, h, _⟩ => absurd h (Nat.not_lt_zero m)
  | n + 1 => choices_step T (choices_all T n)
theorem ok_choices (T : Txt K mg CP CS CB) : C8.Cal P w K mg base 12 "choices" (SpD CP (R_choices 12)) [] := choices_all T _
theorem lay_n3 {z : Str} (h : z ∈ N3) : (D.str z).lay = true := by
  rcases n3_cases h with e | e | e <;> (rw [e]; decide +kernel)
theorem lay_strs {l : List Str} (h : ∀ z ∈ l, z ∈ N3) : layL (l.map .str) = true := by
  induction l with
  | nil => rfl
  | cons z l ih =>
    show ((D.str z).lay && layL (l.map .str)) = true
    rw [lay_n3 (h z List.mem_cons_self), ih fun y hy => h y (List.mem_cons_of_mem _ hy)]
    rfl
theorem dep_strs (l : List Str) : depL (l.map .str) = 0 := Nat.le_zero.mp (dep_map D.str (fun _ => Nat.le_refl 0) l)
def R_orders_of (n : Nat) (as : List A) (r : A) : Prop := ∃ (l : List Str), as = [.lst (l.map .str)] ∧ l.length < n ∧ l.length ≤ 3 ∧ (∀ z ∈ l, z ∈ N3) ∧ r = .lst ((ords l).map dS)
theorem orders_step {n : Nat} (T : Txt K mg CP CS CB) (c_orders_of : C8.Cal P w K mg base n "orders_of" (SpD CP (R_orders_of n)) []) : C8.Cal P w K mg base (n + 1) "orders_of" (SpD CP (R_orders_of (n + 1))) [] := by
  refine cal_d T.d_orders_of sc_orders_of (fun as r ⟨v, e, _⟩ => by rw [e] <;> rfl) fun f cdv A outer s H vs Q E as r hr h hR k => ?_
  have hk : n ≤ n := Nat.le_refl n
  obtain ⟨l, rfl, hm, hl, hin, rfl⟩ := hR
  obtain ⟨v1, rfl, h1⟩ := h.one
  refine ⟨_, (pss_cons (ps_if (pt_cmpR (Bf.eqDK K hr.units) (pv 0) (pe_lst pa_nil) (nomark _)) (pss_one (ps_ret (pe_lst (pa_cons (pe_tup pa_nil) pa_nil)))) pss_nil)
    (pss_cons (ps_set (i := 1) sc_orders_of.nd rfl (Or.inl rfl) (pe_lst pa_nil))
    (pss_cons (ps_for PassesOwn.never rfl (pi_enum (by rfl) T.b_enumerate (pa_cons (pv 0) pa_nil)) (pg_tup rfl (pgs_cons (pg_name (i := 2) sc_orders_of.nd rfl (Or.inl rfl)) (pgs_cons (pg_name (i := 3) sc_orders_of.nd rfl (Or.inr rfl)) pgs_nil))) (pss_one (ps_expr (pe_bm PySem.F.plainAttrs_list PySem.F.slot_list_extend PySem.F.type_list_extend mt_extend (pv 1) (pa_cons (pe_lc (own := [("rest", 4)]) (g := (gName 4)) (tt := tYes) rfl sc_orders_of.nd (pi_list (C8.pe_c c_orders_of hr hk (by rfl) (pa_cons (pe_op op_cat (pe_slice (Bf.slLK K) (pv 0) po_none (po_some (pv 2))) (pe_slice (Bf.slLK K) (pv 0) (po_some (pe_op op_add (pv 2) pe_int)) po_none)) pa_nil))) (blkOk_by (own := [("rest", 4)]) (N := ["values", "found", "place", "value", "rest"]) (sc := defScope s_orders_of) (by decide +kernel)) (fun _ _ _ _ _ => (pg_name (i := 4) sc_orders_of.nd rfl (Or.inl rfl) (Or.inr rfl))) (fun _ _ _ _ _ => pts_nil) (fun _ _ _ _ _ => (pe_tup (pa_cons (pv 3) (Bf.pa_starK K (pv 4) pa_nil))))) pa_nil)))))
    (pss_one (ps_ret (pv 1)))))), ?_⟩
  refine sq_ifn (et_test (C := CP) (ev_eqL (l := l.map .str) (m := []) (ev_v rfl h1) (ev_lst (ds := []) ea_nil (by decide)) (shaped_list (lay_strs hin) (by rw [dep_strs]; decide)) (by decide +kernel) (eqv_nil _))) (fun e H1 s1 => ?_) (fun e H1 s1 => ?_)
  · have el : l = [] := by
      cases l with
      | nil => rfl
      | cons z l => cases e
    subst el
    exact st_ret (C := CP) (ev_lst (ds := [.tup []]) (ea_one (ev_tup (ds := []) ea_nil (by decide))) (by show 1 ≤ 1000; decide)) fun v H2 s2 hv => k v H2 (s1.trans s2) hv
  · obtain ⟨m, hlm⟩ : ∃ j, l.length = j + 1 := by
      cases l with
      | nil => cases e
      | cons z l => exact ⟨l.length, rfl⟩
    refine ⟨by show 0 ≤ sizeLine; exact Nat.zero_le _, fun q hq0 => ?_⟩
    have s1q := same_new hq0 (.lst [])
    obtain ⟨p, us, rfl, hp, hus⟩ := rp_lst ((h1.mono s1).mono s1q)
    have npq : p ≠ q := by
      obtain ⟨p', us', e', hp', _⟩ := rp_lst (h1.mono s1)
      cases e'
      exact ne_of_none hp' hq0
    let G : Str × Nat → List (List Str) := fun e => (ordsF m (l.eraseIdx e.2)).map (e.1 :: ·)
    have gl : ∀ e, (G e).length ≤ 4 ^ m := fun e => by
      show ((ordsF m (l.eraseIdx e.2)).map (e.1 :: ·)).length ≤ _
      rw [List.length_map]
      exact ordsF_len m _ (Nat.le_trans (List.length_eraseIdx_le ..) hl)
    have h64 : 4 ^ m ≤ 64 := Nat.le_trans (Nat.pow_le_pow_right (by decide) (by omega : m ≤ 3)) (by decide)
    refine sq_forEn rfl hp hus (fun i σ' H' => ∃ (o3 o4 : Option V) (zs : List V), σ' = [some (.ref p), some (.ref q), o3, o4, none] ∧ Same H1 H' ∧ H' p = some (.lst us) ∧ Tx (upd H1 q (.lst [])) H' ∧ H' q = some (.lst zs) ∧ ImL H' (((l.zipIdx.take i).flatMap G).map dS) zs)
      ⟨none, none, [], rfl, s1q, hp, Tx.refl _, upd_same, rfl⟩ (fun i σ' H' ⟨_, _, _, _, _, a, b, _⟩ => ⟨a, b⟩) ?_ ?_
    · rintro i d x σ' H0 H' Dn' hi ⟨o3, o4, zs, rfl, s0, hp0, tx0, hq1, hz⟩ s' im hnx hct hrt
      rw [enumD_map] at hi
      obtain ⟨⟨z, j⟩, ha, rfl⟩ := map_at hi
      have hij : i = j := by
        rw [List.getElem?_zipIdx] at ha
        cases e : l[i]? with
        | none => rw [e] at ha; cases ha
        | some o =>
          rw [e] at ha
          have e2 : (o, 0 + i) = (z, j) := Option.some.inj ha
          injection e2 with e3 e4
          omega
      have hil : i < l.length := by
        have := (List.getElem?_eq_some_iff.mp ha).1
        rw [List.length_zipIdx] at this
        exact this
      subst hij
      obtain ⟨vp, vt, hvp, hvt, g⟩ := g_pair (K := K) (n := 2) (m := 3) im
      refine g _ _ ?_
      have sH := s0.trans s'
      have hq' := s' _ _ hq1
      have hel : (l.eraseIdx i).length = m := by
        rw [List.length_eraseIdx_of_lt hil]
        omega
      have eo : ords (l.eraseIdx i) = ordsF m (l.eraseIdx i) := by
        unfold ords
        rw [hel]
      refine ⟨_, rfl, .inl ⟨rfl, _, SqL.of hq'⟩, ?_⟩
      refine ea_go (C := CP) (as := [.lst ((ordsF m (l.eraseIdx i)).map fun o => dS (z :: o))]) ?_ fun ws H2 s2 hws => ?_
      · have hvs : Rp CP H' (.lst (l.map .str)) (.ref p) := ⟨p, us, rfl, s' _ _ hp0, hus.tx (tx0.trans (Same.tx s'))⟩
        refine ea_one (ev_lcma (xs := ordsF m (l.eraseIdx i)) (φ := dS) (it_list (ev_call (R := R_orders_of n) (as := [.lst ((l.eraseIdx i).map .str)]) (ea_one ?_) ⟨_, rfl, by omega, by omega, fun y hy => hin y (List.mem_of_mem_eraseIdx hy), by rw [eo]⟩)) (fun o => dS (z :: o)) (by have := ordsF_len m (l.eraseIdx i) (by omega); omega) fun j o x H2 hj s2 im2 => turn_name rfl ?_)
        · have e : (Bf.A.lst ((l.eraseIdx i).map D.str)) = .lst (cutD (l.map .str) none (some (i : Int)) ++ cutD (l.map .str) (some ((i + 1 : Nat) : Int)) none) := by
            rw [cutD_to, cutD_from, List.eraseIdx_eq_take_drop_succ, List.map_append, List.map_take, List.map_drop]
          rw [e]
          exact ev_catL (ev_slL (ev_v rfl hvs) eo_no (eo_some (C := CP) (ev_v (a := .d (.int (i : Nat))) rfl hvp))) (ev_slL (ev_v rfl hvs) (eo_some (C := CP) (ev_I0 (g := fun i j => V.int (i + j)) (i := (i : Int)) (j := 1) (ev_v rfl hvp) ev_int fun _ => by show V.int _ = V.int _; congr 1)) eo_no) (by rw [cutD_to, cutD_from, List.length_take, List.length_drop, List.length_map]; omega)
        · have := ordsF_el m _ o (List.mem_of_getElem? hj)
          exact ev_tup (ds := (z :: o).map .str) (ea_cons (ev_v rfl (Im.mono hvt s2)) (ea_starT1 (ev_v (a := .d (dS o)) rfl im2))) (by rw [List.length_map, List.length_cons]; omega)
      · obtain ⟨b, rfl, hb⟩ := hws.one
        obtain ⟨b, ys, rfl, hb1, hb2⟩ := rp_lst hb
        have hq2 := s2 _ _ hq'
        have hz2 := hz.mono (s'.trans s2)
        have ht := flat_take G ha
        have hlz := hz.len
        have hly := hb2.len
        rw [List.length_map] at hlz hly
        have hfl := flat_len G (B := 4 ^ m) (l.zipIdx.take i) (fun a _ => gl a)
        have hcl := ordsF_len m (l.eraseIdx i) (by omega)
        have h3 : (l.zipIdx.take i).length ≤ 3 := by
          rw [List.length_take]
          omega
        have hmul : (l.zipIdx.take i).length * 4 ^ m ≤ 3 * 64 := Nat.mul_le_mul h3 h64
        have tx2 : Tx H2 (upd H2 q (.lst (zs ++ ys))) := tx_upd hq2 fun _ z => nomatch z
        refine ⟨q, b, zs, ys, rfl, rfl, hq2, hb1, by rw [sizeLine_eq]; omega, ?_⟩
        refine hnx _ _ ⟨_, _, zs ++ ys, rfl, same_mut (sH.trans s2) hq0, ?_, (tx0.trans (Same.tx (s'.trans s2))).trans tx2, upd_same, ?_⟩
        · rw [upd_ne npq]
          exact s2 _ _ (s' _ _ hp0)
        · rw [ht, List.map_append]
          refine (hz2.app ?_).tx tx2
          show ImL H2 (((ordsF m (l.eraseIdx i)).map (z :: ·)).map dS) ys
          rw [List.map_map]
          exact hb2
    · rintro σ' H' ⟨o3, o4, zs, rfl, s0, hp0, tx0, hq1, hz⟩
      have e : (enumD (l.map D.str)).length = l.zipIdx.length := by rw [List.length_mapIdx, List.length_map, List.length_zipIdx]
      rw [e, List.take_length] at hz
      have ew : ords l = l.zipIdx.flatMap G := by
        unfold ords
        rw [hlm]
        show (if l.isEmpty then [[]] else _) = _
        rw [if_neg]
        cases l with
        | nil => cases hlm
        | cons z l => exact Bool.false_ne_true
      rw [ew] at k
      exact st_ret (C := CP) (a := .lst (((l.zipIdx).flatMap G).map dS)) (ev_v rfl ⟨q, zs, rfl, hq1, hz⟩) fun v H2 s2 hv => k v H2 (s1.trans (s0.trans s2)) hv
theorem orders_all (T : Txt K mg CP CS CB) : ∀ n, C8.Cal P w K mg base n "orders_of" (SpD CP (R_orders_of n)) []
  | 0 => cal_none T.d_orders_of 0 fun as r ⟨_, _, h, _⟩ => absurd h (Nat.not_lt_zero _)
  | n + 1 => orders_step T (orders_all T n)
theorem ok_orders_of (T : Txt K mg CP CS CB) : C8.Cal P w K mg base 12 "orders_of" (SpD CP (R_orders_of 12)) [] := orders_all T _
end
end Bf

/-! D7: plugging, the best, the most. -/
namespace Bf
open PySem PySem.Spec PyProof.Rows L2 Bx
theorem sq_par3d {C : Addr} {t1 t2 : TE} {u : TS} {σ : L2.St} {H : Hp} {a b : A} {Dn : Ends} {i j l : Nat} (e1 : Ev C t1 σ H a) (e2 : Ev C t2 σ H b)
    (k : ∀ v w d H', Same H H' → H' d = none → Rp C H' a v → Rp C H' b w → u Dn (((σ.set i (some v)).set j (some w)).set l (some (.ref d))) (upd H' d (.dK []))) : tSeq (tPar3 i j l (tCons t1 (tCons t2 (tCons tDNewK tNil)))) u Dn σ H :=
  e1 H (Same.refl H) _ fun v H1 s1 h1 => e2 H1 s1 _ fun w H2 s2 h2 => fun d hd => ⟨v, w, .ref d, rfl, k v w d H2 (s1.trans s2) hd (h1.mono s2) h2⟩
section
variable {P : Program} {w : World} {K : PySem.W.Frag} {mg : Str → Option Value} {base : Heap} {CP CS CB : Addr}
/-- an order of (some of) the loads -/
structure OkO (L : List (Str × Int)) (order : List Str) : Prop where
  nd : order.Nodup
  sub : ∀ z ∈ order, z ∈ L.map (·.1)
  len : order.length ≤ 3
theorem get_some {L : List (Str × Int)} {z : Str} (h : z ∈ L.map (·.1)) : L.lookup z = some (get L z) := by
  have e := lookup_some.mpr h
  unfold get
  cases q : L.lookup z with
  | none => rw [q] at e; cases e
  | some n => rfl
def R_plugged_in (as : List A) (r : A) : Prop := ∃ (Pn : Pl) (wr : List (Option Nat)) (L : List (Str × Int)) (o : List Str), as = [.pl Pn, .d (dW wr), .dic L, .d (dS o)] ∧ GoodP Pn ∧ GoodW Pn wr ∧ OkO L o ∧ r = .d (.tup [dB (plugged Pn wr L o).1, dN (plugged Pn wr L o).2])
theorem ok_plugged_in (T : Txt K mg CP CS CB) : C8.Cal P w K mg base 12 "plugged_in" (SpD CP R_plugged_in) [] := by
  have c_all_on := ok_all_on (P := P) (w := w) (base := base) T
  have c_trips_in := ok_trips_in (P := P) (w := w) (base := base) T
  refine cal_d T.d_plugged_in sc_plugged_in (fun as r ⟨v, b, c, d, e, _⟩ => by rw [e] <;> rfl) fun f cdv A outer s H vs Q E as r hr h hR k => ?_
  obtain ⟨Pn, wr, L, o, rfl, hG, hW, hO, rfl⟩ := hR
  obtain ⟨v1, v2, v3, v4, rfl, h1, h2, h3, h4⟩ := h.four
  have h5 := hG.r5
  refine ⟨_, (pss_cons (ps_par3 (i := 4) (j := 5) (l := 6) rfl sc_plugged_in.nd rfl rfl rfl (by decide) (by decide) (by decide) rfl rfl rfl (pa_cons (C8.pe_c c_all_on hr (by decide) (by rfl) (pa_cons (pv 0) pa_nil)) (pa_cons (pe_tup pa_nil) (pa_cons pe_dnewK pa_nil))) (by rfl))
    (pss_cons (ps_for PassesOwn.never rfl (pi_tup (pv 3)) (pg_name (i := 7) sc_plugged_in.nd rfl (Or.inl rfl)) (pss_cons (ps_dput (hu_of hr) (pv 6) (pv 7) (pe_dget (hu_of hr) (pv 2) (pv 7) (fun _ _ => rfl)) rfl)
    (pss_cons (ps_asg (C8.pe_c c_trips_in hr (by decide) (by rfl) (pa_cons (pv 0) (pa_cons (pv 1) (pa_cons (pv 4) (pa_cons (pv 6) pa_nil))))) (pg_tup rfl (pgs_cons (pg_name (i := 4) sc_plugged_in.nd rfl (Or.inl rfl)) (pgs_cons (pg_name (i := 8) sc_plugged_in.nd rfl (Or.inl rfl)) pgs_nil))))
    (pss_one (ps_set (i := 5) sc_plugged_in.nd rfl (Or.inl rfl) (pe_op (Bf.catTK K) (pv 5) (pv 8)))))))
    (pss_one (ps_ret (pe_tup (pa_cons (pv 4) (pa_cons (pv 5) pa_nil))))))), ?_⟩
  refine sq_par3d (C := CP) (ev_call (as := [.pl Pn]) (ea_one (ev_v rfl h1)) ⟨Pn, rfl, by omega, rfl⟩) (ev_tup (ds := []) ea_nil (by decide)) fun va vb d H1 s1 hd hva hvb => ?_
  have hd0 : H d = none := s1.free hd
  have s1d := same_new hd (.dK [])
  refine sq_forT (it_tup (C := CP) (l := o.map .str) (ev_v rfl ((h4.mono s1).mono s1d))) (fun i σ' H' => ∃ (vs vn : V) (o7 o8 : Option V), σ' = [some v1, some v2, some v3, some v4, some vs, some vn, some (.ref d), o7, o8] ∧ Same H H' ∧ H' d = some (.dK (kvs (plugF Pn wr L (o.take i)).2.2)) ∧ Rp CP H' (.d (dB (plugF Pn wr L (o.take i)).1)) vs ∧ Rp CP H' (.d (dN (plugF Pn wr L (o.take i)).2.1)) vn)
    (fun H2 s2 => ⟨va, vb, none, none, rfl, s1.trans (s1d.trans s2), s2 _ _ upd_same, hva.mono (s1d.trans s2), hvb.mono (s1d.trans s2)⟩) ?_ ?_
  · rintro i dd x σ' H0 H' Dn' hi ⟨vs, vn, o7, o8, rfl, s0, hk, hvs, hvn⟩ s' im hnx hct hrt
    obtain ⟨z, hz, rfl⟩ := map_at hi
    have ex := im_str im
    subst ex
    have hzm := List.mem_of_getElem? hz
    have hzL := hO.sub z hzm
    have sH := s0.trans s'
    have ft : plugF Pn wr L (o.take (i + 1)) = plugStep Pn wr L (plugF Pn wr L (o.take i)) z := fold_take _ _ hz
    have pk := plug_ok (w := wr) (L := L) hG (o.take i)
    have hil := (List.getElem?_eq_some_iff.mp hz).1
    have hni : z ∉ (plugF Pn wr L (o.take i)).2.2.map (·.1) := by
      rw [pk.here, restr_keys]
      intro hm
      obtain ⟨j, hj, ej⟩ := List.mem_take_iff_getElem.mp hm
      have hjl : j < i ∧ j < o.length := by omega
      have e1 : o[j] = o[i] := by
        rw [ej]
        have := (List.getElem?_eq_some_iff.mp hz).2
        exact this.symm
      exact absurd e1 (List.pairwise_iff_getElem.mp hO.nd j i hjl.2 hil hjl.1)
    refine ev_go (P := fun v H' => Rp CP H' (.d (.int (get L z))) v) (ev_dget (ev_v rfl (h3.mono sH)) (ev_v (a := .d (.str z)) rfl rfl) (get_some hzL)) fun v H2 s2 hv => ?_
    have ev := rp_int hv
    subst ev
    have hk2 := s2 _ _ (s' _ _ hk)
    refine ⟨_, rfl, _, rfl, d, _, rfl, .inl ⟨_, Sum.inr z, hk2, rfl, ?_, rfl⟩, ?_⟩
    · rw [List.length_map, pk.here]
      unfold restr
      rw [List.length_map, List.length_take, sizeLine_eq]
      have := hO.len
      omega
    rw [kvs_put _ hni]
    have tx2 : Tx H2 (upd H2 d (.dK (kvs ((plugF Pn wr L (o.take i)).2.2 ++ [(z, get L z)])))) := tx_upd hk2 fun _ z => nomatch z
    have s3 : Same H (upd H2 d (.dK (kvs ((plugF Pn wr L (o.take i)).2.2 ++ [(z, get L z)])))) := same_mut (sH.trans s2) hd0
    have tx3 : Tx H' (upd H2 d (.dK (kvs ((plugF Pn wr L (o.take i)).2.2 ++ [(z, get L z)])))) := (Same.tx s2).trans tx2
    have tx03 := (Same.tx s').trans tx3
    refine ev_go (P := fun v H' => Rp CP H' (.d (.tup [dB (trips Pn wr (plugF Pn wr L (o.take i)).1 ((plugF Pn wr L (o.take i)).2.2 ++ [(z, get L z)])).1, dN (trips Pn wr (plugF Pn wr L (o.take i)).1 ((plugF Pn wr L (o.take i)).2.2 ++ [(z, get L z)])).2])) v)
      (ev_call (as := [.pl Pn, .d (dW wr), .d (dB (plugF Pn wr L (o.take i)).1), .dic ((plugF Pn wr L (o.take i)).2.2 ++ [(z, get L z)])]) (ea_cons (ev_v rfl (h1.mono s3)) (ea_cons (ev_v rfl (h2.mono s3)) (ea_cons (ev_v rfl (Im.tx hvs tx03)) (ea_one (ev_v rfl ⟨d, rfl, upd_same⟩))))) ⟨Pn, wr, _, _, rfl, ⟨hG, hW, pk.len⟩, rfl⟩) fun vt H4 s4 ht => ?_
    obtain ⟨ws, wm, hws, hwm, g⟩ := g_pair (K := K) (n := 4) (m := 8) ht
    refine g _ _ ?_
    show tAsg (tOp (rCatA K) (tVar 5) (tVar 8)) (gName 5) Dn' _ _
    refine st_set (C := CP) (a := .d (dN ((plugF Pn wr L (o.take i)).2.1 ++ (trips Pn wr (plugF Pn wr L (o.take i)).1 ((plugF Pn wr L (o.take i)).2.2 ++ [(z, get L z)])).2))) ?_ fun vn2 H5 s5 hn2 => ?_
    · have hc1 := pk.cnt
      have hc2 := trips_cnt (w := wr) (st := (plugF Pn wr L (o.take i)).1) (L := (plugF Pn wr L (o.take i)).2.2 ++ [(z, get L z)]) hG
      have e : (Bf.A.d (dN ((plugF Pn wr L (o.take i)).2.1 ++ (trips Pn wr (plugF Pn wr L (o.take i)).1 ((plugF Pn wr L (o.take i)).2.2 ++ [(z, get L z)])).2))) = .d (.tup ((plugF Pn wr L (o.take i)).2.1.map (fun i => D.int (i : Nat)) ++ (trips Pn wr (plugF Pn wr L (o.take i)).1 ((plugF Pn wr L (o.take i)).2.2 ++ [(z, get L z)])).2.map fun i => D.int (i : Nat))) := by
        rw [← List.map_append]
      rw [e]
      exact ev_catT (ev_v rfl (Im.tx hvn (tx03.trans (Same.tx s4)))) (ev_v rfl hwm) (by rw [List.length_map, List.length_map]; omega)
    · refine hnx _ _ ⟨ws, vn2, _, _, rfl, s3.trans (s4.trans s5), ?_, ?_, ?_⟩ (tx3.trans (Same.tx (s4.trans s5)))
      · rw [ft]
        exact s5 _ _ (s4 _ _ upd_same)
      · rw [ft]
        exact Im.mono hws s5
      · rw [ft]
        exact hn2
  · rintro σ' H' ⟨vs, vn, o7, o8, rfl, s0, hk, hvs, hvn⟩
    rw [List.length_map, List.take_length] at hvs hvn
    exact st_ret (C := CP) (ev_tup (ds := [dB _, dN _]) (ea_cons (ev_v rfl hvs) (ea_one (ev_v rfl hvn))) (by show 2 ≤ 1000; decide)) fun v H2 s2 hv => k v H2 (s0.trans s2) hv
theorem okO_perm {Pn : Pl} {L : List (Str × Int)} {o : List Str} (hG : GoodP Pn) (hL : GoodL Pn L) (p : o.Perm (L.map (·.1))) : OkO L o :=
  ⟨p.nodup_iff.mpr (GoodL.nd hG hL), fun z hz => p.mem_iff.mp hz, by
    rw [p.length_eq, List.length_map]
    exact GoodL.len hG hL⟩
theorem eqvL_same (l : List D) : PyData.eqv (.list (pyL l)) (.list (pyL l)) = true := by
  unfold PyData.eqv
  exact eqvL_self l
def R_plugged (as : List A) (r : A) : Prop := ∃ (Pn : Pl) (wr : List (Option Nat)) (L : List (Str × Int)) (o : List Str), as = [.pl Pn, .d (dW wr), .dic L, .d (dS o)] ∧ GoodP Pn ∧ GoodW Pn wr ∧ GoodL Pn L ∧ o.Perm (L.map (·.1)) ∧ r = .d (.tup [dB (plugged Pn wr L o).1, dN (plugged Pn wr L o).2])
theorem ok_plugged (T : Txt K mg CP CS CB) : C8.Cal P w K mg base 14 "plugged" (SpD CP R_plugged) [] := by
  have c_check_wiring := ok_check_wiring (P := P) (w := w) (base := base) T
  have c_check_loads := ok_check_loads (P := P) (w := w) (base := base) T
  have c_plugged_in := ok_plugged_in (P := P) (w := w) (base := base) T
  refine cal_d T.d_plugged sc_plugged (fun as r ⟨v, b, c, d, e, _⟩ => by rw [e] <;> rfl) fun f cdv A outer s H vs Q E as r hr h hR k => ?_
  obtain ⟨Pn, wr, L, o, rfl, hG, hW, hL, pm, rfl⟩ := hR
  obtain ⟨v1, v2, v3, v4, rfl, h1, h2, h3, h4⟩ := h.four
  have hsub := GoodL.sub hG hL
  have hsh : SeqAt.shaped (.list (pyL ((L.map (·.1)).map D.str))) = true := shaped_list (lay_strs fun z hz => hsub.subset hz) (by rw [dep_strs]; decide)
  refine ⟨_, (pss_cons (ps_expr (C8.pe_c c_check_wiring hr (by decide) (by rfl) (pa_cons (pv 0) (pa_cons (pv 1) pa_nil))))
    (pss_cons (ps_expr (C8.pe_c c_check_loads hr (by decide) (by rfl) (pa_cons (pv 0) (pa_cons (pv 2) pa_nil))))
    (pss_cons (ps_if (PW.pt (pw_or (pt_not (pt_val (pe_callB (Bf.isiK K) (by rfl) T.b_isinstance (by decide +kernel) (pa_cons (pv 3) (pa_cons (pe_bltn (v := .ty "tuple") (by rfl) T.b_tuple (by decide +kernel) rfl) pa_nil))))) (pw_or1 (pt_cmpR (Bf.neDK K hr.units) (pe_callB Rx.cr_sortedST (by rfl) T.b_sorted (by decide +kernel) (pa_cons (pv 3) pa_nil)) (pe_callB (call_sortedD rfl) (by rfl) T.b_sorted (by decide +kernel) (pa_cons (pv 2) pa_nil)) (nomark _))))) (pss_one ps_never) pss_nil)
    (pss_one (ps_ret (C8.pe_c c_plugged_in hr (by decide) (by rfl) (pa_cons (pv 0) (pa_cons (pv 1) (pa_cons (pv 2) (pa_cons (pv 3) pa_nil)))))))))), ?_⟩
  refine sq_expr (C := CP) (ev_call (as := [.pl Pn, .d (dW wr)]) (ea_cons (ev_v rfl h1) (ea_one (ev_v rfl h2))) ⟨Pn, wr, rfl, hG, hW, rfl⟩) fun H1 s1 => ?_
  refine sq_expr (C := CP) (ev_call (as := [.pl Pn, .dic L]) (ea_cons (ev_v rfl (h1.mono s1)) (ea_one (ev_v rfl (h3.mono s1)))) ⟨Pn, L, rfl, hG, hL, rfl⟩) fun H2 s2 => ?_
  have s12 := s1.trans s2
  refine sq_ifn (et_orF (et_f (et_not (b := true) (et_val (C := CP) (er_isi (tx_tup _) (by decide +kernel) (ev_v rfl (h4.mono s12))))) rfl) (et_f (et_test (C := CP) (ev_neL (b := true) (l := (L.map (·.1)).map .str) (m := (L.map (·.1)).map .str) (ev_b (ea_one (ev_v (a := .d (dS o)) rfl (h4.mono s12))) (er_sortedT hsub pm)) (ev_b (ea_one (ev_v (a := .dic L) rfl (h3.mono s12))) (er_sortedD hsub)) hsh hsh (eqvL_same _))) rfl)) (fun e => by cases e) fun _ H3 s3 => ?_
  have s13 := s12.trans s3
  exact st_ret (C := CP) (ev_call (as := [.pl Pn, .d (dW wr), .dic L, .d (dS o)]) (ea_cons (ev_v rfl (h1.mono s13)) (ea_cons (ev_v rfl (h2.mono s13)) (ea_cons (ev_v rfl (h3.mono s13)) (ea_one (ev_v rfl (h4.mono s13)))))) ⟨Pn, wr, L, o, rfl, hG, hW, okO_perm hG hL pm, rfl⟩) fun v H2 s2 hv => k v H2 (s13.trans s2) hv
end
end Bf

/-! D8: the best, the most. -/
namespace Bf
open PySem PySem.Spec PyProof.Rows L2 Bx
/-- a for that writes nothing elder, its word with the heap -/
theorem st_forSH {wi : TI} {g : TG} {tb : TS} {σ : L2.St} {H : Hp} {Dn : Ends} {items : List D} (it : EvIs wi σ H items) (Pv : Nat → L2.St → Hp → Prop) (h0 : ∀ H2, Same H H2 → Pv 0 σ H2)
    (hs : ∀ (i : Nat) (d : D) (x : V) (σ' : L2.St) (H0 H' : Hp) (Dn' : Ends), items[i]? = some d → Pv i σ' H0 → Same H0 H' → Same H H' → Im H' d x → (∀ σ3 H3, Pv (i + 1) σ3 H3 → Same H' H3 → Dn'.nx σ3 H3) → (∀ σ3 H3, Pv (i + 1) σ3 H3 → Same H' H3 → Dn'.ct σ3 H3) → Dn'.rt = Dn.rt → g x σ' H' (tb Dn'))
    (hd : ∀ σ' H', Pv items.length σ' H' → Same H H' → Dn.nx σ' H') : tFor wi g tb Dn σ H := it H (Same.refl H) _ fun J H2 s2 w =>
  for_d w (fun i σ' H' => Pv i σ' H' ∧ Same H2 H') ⟨h0 H2 s2, Same.refl _⟩ (fun i σ' H' p => p.2) (fun i d x σ' H3 H4 hi p s4 im => hs i d x σ' H3 H4 _ hi p.1 s4 (s2.trans (p.2.trans s4)) im (fun σ3 H5 p3 s5 => ⟨p3, p.2.trans (s4.trans s5)⟩) (fun σ3 H5 p3 s5 => ⟨p3, p.2.trans (s4.trans s5)⟩) rfl) (fun σ' H' p => hd σ' H' p.1 (s2.trans p.2))
theorem sq_forSH {wi : TI} {g : TG} {tb u : TS} {σ : L2.St} {H : Hp} {Dn : Ends} {items : List D} (it : EvIs wi σ H items) (Pv : Nat → L2.St → Hp → Prop) (h0 : ∀ H2, Same H H2 → Pv 0 σ H2)
    (hs : ∀ (i : Nat) (d : D) (x : V) (σ' : L2.St) (H0 H' : Hp) (Dn' : Ends), items[i]? = some d → Pv i σ' H0 → Same H0 H' → Same H H' → Im H' d x → (∀ σ3 H3, Pv (i + 1) σ3 H3 → Same H' H3 → Dn'.nx σ3 H3) → (∀ σ3 H3, Pv (i + 1) σ3 H3 → Same H' H3 → Dn'.ct σ3 H3) → Dn'.rt = Dn.rt → g x σ' H' (tb Dn'))
    (hd : ∀ σ' H', Pv items.length σ' H' → Same H H' → u Dn σ' H') : tSeq (tFor wi g tb) u Dn σ H := st_forSH (Dn := { Dn with nx := u Dn }) it Pv h0 hs hd
abbrev dOS : Option (List Str) → D
  | none => .non
  | some o => dS o
theorem isN_OS (o : Option (List Str)) (H : Hp) (v : V) (h : Im H (dOS o) v) : decide (v = .non) = o.isNone := by
  cases o with
  | none => rw [im_non h] <;> rfl
  | some j => exact isN_tup _ H v h
theorem filt_strs (p : Str → Bool) (l : List Str) : (l.filterMap fun z => if p z = true then some (D.str z) else none) = (l.filter p).map D.str := by
  induction l with
  | nil => rfl
  | cons z l ih =>
    rw [List.filterMap_cons, List.filter_cons]
    cases h : p z with
    | true =>
      simp only [if_true]
      rw [ih]
      rfl
    | false =>
      simp only [Bool.false_eq_true, if_false]
      exact ih
theorem chs_sub {α : Type} : ∀ (n : Nat) (l o : List α), o ∈ chs n l → o.Sublist l
  | 0, l, o, h => by
    rw [List.mem_singleton.mp h]
    exact List.nil_sublist _
  | n + 1, l, o, h => by
    obtain ⟨e, he1, he⟩ := List.mem_flatMap.mp h
    obtain ⟨o2, h2, rfl⟩ := List.mem_map.mp he
    obtain ⟨a, i⟩ := e
    have hi := List.mk_mem_zipIdx_iff_getElem?.mp he1
    have hil := (List.getElem?_eq_some_iff.mp hi).1
    have s := chs_sub n _ o2 h2
    have e2 : l.drop i = a :: l.drop (i + 1) := by
      rw [List.drop_eq_getElem_cons hil]
      rw [List.getElem?_eq_getElem hil] at hi
      rw [Option.some.inj hi]
    refine List.Sublist.trans ?_ (List.drop_sublist i l)
    rw [e2]
    exact s.cons₂ a
section
variable {P : Program} {w : World} {K : PySem.W.Frag} {mg : Str → Option Value} {base : Heap} {CP CS CB : Addr}
def R_best_plugging (as : List A) (r : A) : Prop := ∃ (Pn : Pl) (wr : List (Option Nat)) (L : List (Str × Int)), as = [.pl Pn, .d (dW wr), .dic L] ∧ GoodP Pn ∧ GoodW Pn wr ∧ GoodL Pn L ∧ r = .d (.tup [dS (best Pn wr L).1, dOS (best Pn wr L).2])
theorem liveIn_sub (Pn : Pl) (wr : List (Option Nat)) (st : List Bool) : (liveIn Pn wr st).length ≤ Pn.names.length := by
  unfold liveIn
  exact Nat.le_trans (List.length_filterMap_le ..) (by rw [List.length_zip]; omega)
theorem ok_best_plugging (T : Txt K mg CP CS CB) : C8.Cal P w K mg base 14 "best_plugging" (SpD CP R_best_plugging) [] := by
  have c_check_wiring := ok_check_wiring (P := P) (w := w) (base := base) T
  have c_check_loads := ok_check_loads (P := P) (w := w) (base := base) T
  have c_orders_of := ok_orders_of (P := P) (w := w) (base := base) T
  have c_plugged_in := ok_plugged_in (P := P) (w := w) (base := base) T
  have c_live_in := ok_live_in (P := P) (w := w) (base := base) T
  refine cal_d T.d_best_plugging sc_best_plugging (fun as r ⟨v, b, c, e, _⟩ => by rw [e] <;> rfl) fun f cdv A outer s H vs Q E as r hr h hR k => ?_
  obtain ⟨Pn, wr, L, rfl, hG, hW, hL, rfl⟩ := hR
  obtain ⟨v1, v2, v3, rfl, h1, h2, h3⟩ := h.three
  have hsub := GoodL.sub hG hL
  have hnl := hG.nl
  have hLl := GoodL.len hG hL
  refine ⟨_, (pss_cons (ps_expr (C8.pe_c c_check_wiring hr (by decide) (by rfl) (pa_cons (pv 0) (pa_cons (pv 1) pa_nil))))
    (pss_cons (ps_expr (C8.pe_c c_check_loads hr (by decide) (by rfl) (pa_cons (pv 0) (pa_cons (pv 2) pa_nil))))
    (pss_cons (ps_set (i := 3) sc_best_plugging.nd rfl (Or.inl rfl) (pe_tup (pa_cons (pe_tup pa_nil) (pa_cons pe_non pa_nil))))
    (pss_cons (ps_for PassesOwn.never rfl (pi_list (C8.pe_c c_orders_of hr (by decide) (by rfl) (pa_cons (pe_callB (call_sortedD rfl) (by rfl) T.b_sorted (by decide +kernel) (pa_cons (pv 2) pa_nil)) pa_nil))) (pg_name (i := 4) sc_best_plugging.nd rfl (Or.inl rfl)) (pss_cons (ps_set (i := 5) sc_best_plugging.nd rfl (Or.inl rfl) (pe_ix (Bf.ixT K) (C8.pe_c c_plugged_in hr (by decide) (by rfl) (pa_cons (pv 0) (pa_cons (pv 1) (pa_cons (pv 2) (pa_cons (pv 4) pa_nil))))) pe_int (fun _ _ => rfl)))
    (pss_cons (ps_set (i := 6) sc_best_plugging.nd rfl (Or.inl rfl) (pe_callTy call_tuple_of (by rfl) T.b_tuple (by decide +kernel) (pa_cons (pe_lc (own := [("name", 7)]) (g := (gName 7)) rfl sc_best_plugging.nd (pi_tup (C8.pe_c c_live_in hr (by decide) (by rfl) (pa_cons (pv 0) (pa_cons (pv 1) (pa_cons (pv 5) pa_nil))))) (blkOk_by (own := [("name", 7)]) (N := ["plan", "wiring", "loads", "found", "order", "state", "names", "name"]) (sc := defScope s_best_plugging) (by decide +kernel)) (fun _ _ _ _ _ => (pg_name (i := 7) sc_best_plugging.nd rfl (Or.inl rfl) (Or.inr rfl))) (fun _ _ _ _ _ => (pts_one (pt_cmp (pc_din (hu_of hr) (pv 7) (pv 2))))) (fun _ _ _ _ _ => (pv 7))) pa_nil)))
    (pss_one (ps_if (PW.pt (pw_or (pt_cmpR op_isN (pe_ix (Bf.ixT K) (pv 3) pe_int (fun _ _ => rfl)) pe_non (nomark _)) (pw_or1 (pt_cmpR op_gt (pe_callB (Bf.lenSK K) (by rfl) T.b_len (by decide +kernel) (pa_cons (pv 6) pa_nil)) (pe_callB (Bf.lenSK K) (by rfl) T.b_len (by decide +kernel) (pa_cons (pe_ix (Bf.ixT K) (pv 3) pe_int (fun _ _ => rfl)) pa_nil)) (nomark _))))) (pss_one (ps_set (i := 3) sc_best_plugging.nd rfl (Or.inl rfl) (pe_tup (pa_cons (pv 6) (pa_cons (pv 4) pa_nil))))) pss_nil)))))
    (pss_one (ps_ret (pv 3))))))), ?_⟩
  refine sq_expr (C := CP) (ev_call (as := [.pl Pn, .d (dW wr)]) (ea_cons (ev_v rfl h1) (ea_one (ev_v rfl h2))) ⟨Pn, wr, rfl, hG, hW, rfl⟩) fun H1 s1 => ?_
  refine sq_expr (C := CP) (ev_call (as := [.pl Pn, .dic L]) (ea_cons (ev_v rfl (h1.mono s1)) (ea_one (ev_v rfl (h3.mono s1)))) ⟨Pn, L, rfl, hG, hL, rfl⟩) fun H2 s2 => ?_
  refine sq_set (C := CP) (ev_tup (ds := [.tup [], .non]) (ea_cons (ev_tup (ds := []) ea_nil (by decide)) (ea_one ev_non)) (by decide)) fun vf H3 s3 hf => ?_
  have s13 := s1.trans (s2.trans s3)
  refine sq_forSH (items := (ords (L.map (·.1))).map dS) (it_list (C := CP) (ev_call (as := [.lst ((L.map (·.1)).map .str)]) (ea_one (ev_b (ea_one (ev_v (a := .dic L) rfl (h3.mono s13))) (er_sortedD hsub))) ⟨_, rfl, by rw [List.length_map]; omega, by rw [List.length_map]; exact hLl, fun z hz => hsub.subset hz, rfl⟩))
    (fun i σ' H' => ∃ (vf : V) (o4 o5 o6 : Option V), σ' = [some v1, some v2, some v3, some vf, o4, o5, o6, none] ∧ Rp CP H' (.d (.tup [dS (((ords (L.map (·.1))).take i).foldl (bestStep Pn wr L) ([], none)).1, dOS (((ords (L.map (·.1))).take i).foldl (bestStep Pn wr L) ([], none)).2])) vf)
    (fun H4 s4 => ⟨vf, none, none, none, rfl, hf.mono s4⟩) ?_ ?_
  · rintro i d x0 σ' H0 H' Dn' hi ⟨vf, o4, o5, o6, rfl, hvf⟩ s0 sH im hnx hct hrt
    obtain ⟨o, ho, rfl⟩ := map_at hi
    have hom := List.mem_of_getElem? ho
    have hpm := ords_perm hom
    have ft := fold_take (bestStep Pn wr L) (([], none) : List Str × Option (List Str)) ho
    have s14 := s13.trans sH
    generalize hcur : ((ords (L.map (·.1))).take i).foldl (bestStep Pn wr L) ([], none) = cu at hvf ft
    have pk := plug_ok (w := wr) (L := L) hG o
    refine sq_set (C := CP) (ev_ixT (i := 0) (x := dB (plugged Pn wr L o).1) (ev_call (as := [.pl Pn, .d (dW wr), .dic L, .d (dS o)]) (ea_cons (ev_v rfl (h1.mono s14)) (ea_cons (ev_v rfl (h2.mono s14)) (ea_cons (ev_v rfl (h3.mono s14)) (ea_one (ev_v rfl im))))) ⟨Pn, wr, L, o, rfl, hG, hW, okO_perm hG hL hpm, rfl⟩) ev_int rfl) fun vs H5 s5 hvs => ?_
    refine sq_set (C := CP) (a := .d (dS (lit Pn wr (plugged Pn wr L o).1 L))) ?_ fun vn H6 s6 hvn => ?_
    · have e : dS (lit Pn wr (plugged Pn wr L o).1 L) = .tup ((liveIn Pn wr (plugged Pn wr L o).1).filterMap fun z => if (L.lookup z).isSome = true then some (D.str z) else none) := by
        rw [filt_strs]
        rfl
      rw [e]
      refine ev_tupc (ev_lca (φ := D.str) (it_tup (ev_call (as := [.pl Pn, .d (dW wr), .d (dB (plugged Pn wr L o).1)]) (ea_cons (ev_v rfl (h1.mono (s14.trans s5))) (ea_cons (ev_v rfl (h2.mono (s14.trans s5))) (ea_one (ev_v rfl hvs)))) ⟨Pn, wr, _, rfl, ⟨hG, hW, pk.len⟩, rfl⟩)).s (fun z => if (L.lookup z).isSome = true then some (D.str z) else none) (by have := liveIn_sub Pn wr (plugged Pn wr L o).1; omega) fun i a x H2 hi s2 im2 => turnO_name rfl ?_ fun d hd => ?_)
      · have e := et_val (C := CP) (ev_din (ta := tVar 7) (tb := tVar 2) (σ := ((wipe [some v1, some v2, some v3, some vf, some x0, some vs, o6, none] [7]).set 7 (some x))) (ev_v (a := .d (.str a)) rfl im2) (ev_v rfl (h3.mono ((s14.trans s5).trans s2))))
        by_cases c : (L.lookup a).isSome = true
        · rw [if_pos c]
          rw [c] at e
          exact e
        · rw [if_neg c]
          rw [eq_false_of_ne_true c] at e
          exact e
      · by_cases c : (L.lookup a).isSome = true
        · rw [if_pos c] at hd
          cases hd
          exact ev_v rfl im2
        · rw [if_neg c] at hd
          cases hd
    · have s16 := s5.trans s6
      have hvf6 := Rp.mono (hvf.mono s0) s16
      have hln : (lit Pn wr (plugged Pn wr L o).1 L).length ≤ 3 := by
        have := liveIn_sub Pn wr (plugged Pn wr L o).1
        have := List.length_filter_le (fun z => (L.lookup z).isSome) (liveIn Pn wr (plugged Pn wr L o).1)
        unfold lit
        omega
      refine st_ifn (et_or (et_test (C := CP) (ev_isN (ev_ixT (i := 1) (x := dOS cu.2) (ev_v rfl hvf6) ev_int rfl) ev_non (isN_OS _))) fun _ => et_test (C := CP) (ev_I0 (g := fun i j => V.bl (decide (j < i))) (a := .d (.bl (decide ((lit Pn wr (plugged Pn wr L o).1 L).length > cu.1.length)))) (ev_b (ea_one (ev_v (a := .d (dS (lit Pn wr (plugged Pn wr L o).1 L))) rfl hvn)) er_len_tup) (ev_b (ea_one (ev_ixT (i := 0) (x := dS cu.1) (ev_v rfl hvf6) ev_int rfl)) er_len_tup) fun _ => ?_)) (fun e H7 s7 => ?_) (fun e H7 s7 => ?_)
      · show V.bl _ = V.bl _
        rw [List.length_map, List.length_map]
        congr 1
        exact decide_eq_decide.mpr (by omega)
      · refine st_set (C := CP) (ev_tup (ds := [dS (lit Pn wr (plugged Pn wr L o).1 L), dS o]) (ea_cons (ev_v rfl (hvn.mono s7)) (ea_one (ev_v rfl (Im.mono im (s16.trans s7))))) (by show 2 ≤ 1000; decide)) fun vf2 H8 s8 hvf2 => ?_
        refine hnx _ _ ⟨vf2, _, _, _, rfl, ?_⟩ (s16.trans (s7.trans s8))
        rw [ft]
        have e2 : bestStep Pn wr L cu o = (lit Pn wr (plugged Pn wr L o).1 L, some o) := if_pos e
        rw [e2]
        exact hvf2
      · refine hnx _ _ ⟨vf, _, _, _, rfl, ?_⟩ (s16.trans s7)
        rw [ft]
        have e2 : bestStep Pn wr L cu o = cu := if_neg (by rw [e]; exact Bool.false_ne_true)
        rw [e2]
        exact hvf6.mono s7
  · rintro σ' H' ⟨vf, o4, o5, o6, rfl, hvf⟩ sH
    rw [List.length_map, List.take_length] at hvf
    exact st_ret (C := CP) (ev_v rfl hvf) fun v H2 s2 hv => k v H2 (s13.trans (sH.trans s2)) hv
def R_most_at_once (as : List A) (r : A) : Prop := ∃ (Pn : Pl) (wr : List (Option Nat)) (L : List (Str × Int)), as = [.pl Pn, .d (dW wr), .dic L] ∧ GoodP Pn ∧ GoodW Pn wr ∧ GoodL Pn L ∧ r = .d (dS (most Pn wr L))
theorem names_nd {Pn : Pl} (h : GoodP Pn) : Pn.names.Nodup := n3_nodup.sublist h.sub
theorem restr_eq (L : List (Str × Int)) (zs : List Str) : zs.filterMap (fun z => some (z, get L z)) = restr L zs := by
  rw [List.filterMap_eq_map']
  rfl
theorem ok_most_at_once (T : Txt K mg CP CS CB) : C8.Cal P w K mg base 14 "most_at_once" (SpD CP R_most_at_once) [] := by
  have c_check_wiring := ok_check_wiring (P := P) (w := w) (base := base) T
  have c_check_loads := ok_check_loads (P := P) (w := w) (base := base) T
  have c_Plan_names := ok_Plan_names (P := P) (w := w) (base := base) T
  have c_choices := ok_choices (P := P) (w := w) (base := base) T
  have c_does_run := ok_does_run (P := P) (w := w) (base := base) T
  refine cal_d T.d_most_at_once sc_most_at_once (fun as r ⟨v, b, c, e, _⟩ => by rw [e] <;> rfl) fun f cdv A outer s H vs Q E as r hr h hR k => ?_
  obtain ⟨Pn, wr, L, rfl, hG, hW, hL, rfl⟩ := hR
  obtain ⟨v1, v2, v3, rfl, h1, h2, h3⟩ := h.three
  have hnl := hG.nl
  have hpl := hG.pl
  refine ⟨_, (pss_cons (ps_expr (C8.pe_c c_check_wiring hr (by decide) (by rfl) (pa_cons (pv 0) (pa_cons (pv 1) pa_nil))))
    (pss_cons (ps_expr (C8.pe_c c_check_loads hr (by decide) (by rfl) (pa_cons (pv 0) (pa_cons (pv 2) pa_nil))))
    (pss_cons (ps_setLc (i := 3) (own := [("name", 6)]) (g := (gName 6)) rfl sc_most_at_once.nd rfl rfl (sw_true rfl rfl rfl (by decide +kernel)) (pi_tup (Bf.pe_pSl c_Plan_names T.clP hr (by decide) (pv 0))) (blkOk_by (own := [("name", 6)]) (N := ["plan", "wiring", "loads", "names", "size", "some", "name"]) (sc := defScope s_most_at_once) (by decide +kernel)) (fun _ _ _ _ _ => (pg_name (i := 6) sc_most_at_once.nd rfl (Or.inl rfl) (Or.inr rfl))) (fun _ _ _ _ _ => (pts_one (pt_cmp (pc_din (hu_of hr) (pv 6) (pv 2))))) (fun _ _ _ _ _ => (pv 6)))
    (pss_cons (ps_for PassesOwn.never rfl (pi_range3 (by rfl) T.b_range (pa_cons (pe_callB (Bf.lenSK K) (by rfl) T.b_len (by decide +kernel) (pa_cons (pv 3) pa_nil)) (pa_cons pe_int (pa_cons (pe_un un_neg pe_int) pa_nil)))) (pg_name (i := 4) sc_most_at_once.nd rfl (Or.inl rfl)) (pss_one (ps_for PassesOwn.never rfl (pi_list (C8.pe_c c_choices hr (by decide) (by rfl) (pa_cons (pv 3) (pa_cons (pv 4) pa_nil)))) (pg_name (i := 5) sc_most_at_once.nd rfl (Or.inl rfl)) (pss_one (ps_if (pt_val (C8.pe_c c_does_run hr (by decide) (by rfl) (pa_cons (pv 0) (pa_cons (pv 1) (pa_cons (pe_dc (own := [("name", 6)]) (g := (gName 6)) (tt := tYes) rfl sc_most_at_once.nd (pi_tup (pv 5)) (blkOk_by (own := [("name", 6)]) (N := ["plan", "wiring", "loads", "names", "size", "some", "name"]) (sc := defScope s_most_at_once) (by decide +kernel)) (fun _ _ _ _ _ => (pg_name (i := 6) sc_most_at_once.nd rfl (Or.inl rfl) (Or.inr rfl))) (fun _ _ _ _ _ => pts_nil) (fun _ _ _ _ _ => (pv 6)) (fun _ _ _ _ _ => (pe_dget (hu_of hr) (pv 2) (pv 6) (fun _ _ => rfl)))) pa_nil))))) (pss_one (ps_ret (pv 5))) pss_nil)))))
    (pss_one (ps_ret (pe_tup pa_nil))))))), ?_⟩
  refine sq_expr (C := CP) (ev_call (as := [.pl Pn, .d (dW wr)]) (ea_cons (ev_v rfl h1) (ea_one (ev_v rfl h2))) ⟨Pn, wr, rfl, hG, hW, rfl⟩) fun H1 s1 => ?_
  refine sq_expr (C := CP) (ev_call (as := [.pl Pn, .dic L]) (ea_cons (ev_v rfl (h1.mono s1)) (ea_one (ev_v rfl (h3.mono s1)))) ⟨Pn, L, rfl, hG, hL, rfl⟩) fun H2 s2 => ?_
  have s12 := s1.trans s2
  have hmost : most Pn wr L = mostF Pn wr L (Pn.names.filter fun z => (L.lookup z).isSome) (Pn.names.filter fun z => (L.lookup z).isSome).length := rfl
  have hnm := List.length_filter_le (fun z => (L.lookup z).isSome) Pn.names
  have hin : ∀ z ∈ (Pn.names.filter fun z => (L.lookup z).isSome), z ∈ L.map (·.1) := fun z hz => lookup_some.mp (List.mem_filter.mp hz).2
  have hsubn : (Pn.names.filter fun z => (L.lookup z).isSome).Sublist Pn.names := List.filter_sublist
  refine sq_set (C := CP) (a := .lst ((Pn.names.filter fun z => (L.lookup z).isSome).map .str)) ?_ fun vn H3 s3 hvn => ?_
  · rw [← filt_strs]
    refine ev_lca (φ := D.str) (it_tup (ev_prop (ev_v rfl (h1.mono s12)) ⟨Pn, rfl, by omega, rfl⟩)).s (fun z => if (L.lookup z).isSome = true then some (D.str z) else none) (by omega) fun i a x H3 hi s3 im2 => turnO_name rfl ?_ fun d hd => ?_
    · have e := et_val (C := CP) (ev_din (ta := tVar 6) (tb := tVar 2) (σ := ((wipe [some v1, some v2, some v3, none, none, none, none] [6]).set 6 (some x))) (ev_v (a := .d (.str a)) rfl im2) (ev_v rfl (h3.mono (s12.trans s3))))
      by_cases c : (L.lookup a).isSome = true
      · rw [if_pos c]
        rw [c] at e
        exact e
      · rw [if_neg c]
        rw [eq_false_of_ne_true c] at e
        exact e
    · by_cases c : (L.lookup a).isSome = true
      · rw [if_pos c] at hd
        cases hd
        exact ev_v rfl im2
      · rw [if_neg c] at hd
        cases hd
  generalize hns : (Pn.names.filter fun z => (L.lookup z).isSome) = ns at hvn hmost hnm hin hsubn
  have s13 := s12.trans s3
  have el := ev_b (C := CP) (ea_one (ev_v (σ := [some v1, some v2, some v3, some vn, none, none, none]) (i := 3) rfl hvn)) (er_len_lst (K := K))
  rw [List.length_map] at el
  refine sq_forSH (items := (List.range ((ns.length : Int) - 0).toNat).map fun i => .int ((ns.length : Int) - (i : Nat))) (it_down (C := CP) (a := (ns.length : Int)) (b := 0) (ea_cons el (ea_cons ev_int (ea_one (ev_neg (i := 1) ev_int)))) (by omega) (by omega)).s
    (fun i σ' H' => ∃ (o4 o5 : Option V), σ' = [some v1, some v2, some v3, some vn, o4, o5, none] ∧ most Pn wr L = mostF Pn wr L ns (ns.length - i)) (fun H4 s4 => ⟨none, none, rfl, hmost⟩) ?_ ?_
  · rintro i d x σ' H0 H' Dn' hi ⟨o4, o5, rfl, hm⟩ s0 sH im hnx hct hrt
    obtain ⟨i', hi', rfl⟩ := map_at hi
    have hlt := (List.getElem?_eq_some_iff.mp hi').1
    rw [List.length_range] at hlt
    rw [List.getElem?_range hlt] at hi'
    have hii : i = i' := Option.some.inj hi'
    subst hii
    have ex := im_int im
    subst ex
    obtain ⟨m, hmn⟩ : ∃ m, ns.length - i = m + 1 := ⟨ns.length - i - 1, by omega⟩
    have esz : (ns.length : Int) - (i : Nat) = ((m + 1 : Nat) : Int) := by omega
    rw [esz]
    rw [hmn] at hm
    have s14 := s13.trans sH
    refine st_forSH (items := (chs (m + 1) ns).map dS) (it_list (C := CP) (ev_call (as := [.lst (ns.map .str), .d (.int ((m + 1 : Nat) : Int))]) (ea_cons (ev_v rfl (hvn.mono sH)) (ea_one (ev_v rfl rfl))) ⟨ns, m + 1, rfl, by omega, by omega, by omega, rfl⟩))
      (fun j σ' H' => ∃ (o5 : Option V), σ' = [some v1, some v2, some v3, some vn, some (.int ((m + 1 : Nat) : Int)), o5, none] ∧ ((chs (m + 1) ns).take j).find? (fun zs => doesRun Pn wr (restr L zs)) = none) (fun H4 s4 => ⟨_, rfl, rfl⟩) ?_ ?_
    · rintro j d x σ' H4 H5 Dn2 hj ⟨o5, rfl, hf⟩ s4 sH4 im4 hnx2 hct2 hrt2
      obtain ⟨zs, hz, rfl⟩ := map_at hj
      have hzm := List.mem_of_getElem? hz
      have hzsub := chs_sub _ _ _ hzm
      have hzl := hzsub.length_le
      have s15 := s14.trans sH4
      refine st_ifn (et_val (C := CP) (ev_call (as := [.pl Pn, .d (dW wr), .dic (restr L zs)]) (ea_cons (ev_v rfl (h1.mono s15)) (ea_cons (ev_v rfl (h2.mono s15)) (ea_one ?_))) ⟨Pn, wr, _, rfl, hG, hW, rfl⟩)) (fun e H6 s6 => ?_) (fun e H6 s6 => ?_)
      · rw [← restr_eq]
        refine ev_dc (φ := D.str) (it_tup (C := CP) (ev_v (a := .d (dS zs)) rfl im4)).s (fun z => some (z, get L z)) (by omega) ?_ fun i a x H6 hi s6 im6 => turnD_name rfl evt_yes fun d hd => ?_
        · rw [restr_eq, restr_keys]
          exact (names_nd hG).sublist (hzsub.trans hsubn)
        · cases hd
          exact ⟨ev_v rfl im6, ev_dget (ev_v rfl (h3.mono (s15.trans s6))) (ev_v (a := .d (.str a)) rfl im6) (get_some (hin a (hzsub.subset (List.mem_of_getElem? hi))))⟩
      · have e2 : mostF Pn wr L ns (m + 1) = zs := by
          show (match (chs (m + 1) ns).find? fun zs => doesRun Pn wr (restr L zs) with | some zs => zs | none => mostF Pn wr L ns m) = zs
          have hfind : (chs (m + 1) ns).find? (fun zs => doesRun Pn wr (restr L zs)) = some zs := by
            have hd : chs (m + 1) ns = (chs (m + 1) ns).take j ++ zs :: (chs (m + 1) ns).drop (j + 1) := by
              have hjl := (List.getElem?_eq_some_iff.mp hz).1
              have e3 := List.drop_eq_getElem_cons hjl
              have e4 : (chs (m + 1) ns)[j] = zs := (List.getElem?_eq_some_iff.mp hz).2
              rw [e4] at e3
              rw [← e3, List.take_append_drop]
            rw [hd, List.find?_append, hf, List.find?_cons, e]
            rfl
          rw [hfind]
        rw [hm, e2] at k
        refine st_ret (C := CP) (a := .d (dS zs)) (ev_v rfl (Im.mono im4 s6)) fun v H7 s7 hv => ?_
        have er : Dn2.rt = Q := hrt2.trans hrt
        rw [er]
        exact k v H7 (s15.trans (s6.trans s7)) hv
      · refine hnx2 _ _ ⟨_, rfl, ?_⟩ s6
        rw [List.take_add_one, hz, List.find?_append, hf]
        rw [Option.none_or]
        show List.find? (fun zs => doesRun Pn wr (restr L zs)) [zs] = none
        rw [List.find?_cons, e]
        rfl
    · rintro σ' H4 ⟨o5, rfl, hf⟩ sH4
      rw [List.length_map, List.take_length] at hf
      refine hnx _ _ ⟨_, _, rfl, ?_⟩ sH4
      rw [hm, show ns.length - (i + 1) = m by omega]
      show (match (chs (m + 1) ns).find? fun zs => doesRun Pn wr (restr L zs) with | some zs => zs | none => mostF Pn wr L ns m) = _
      rw [hf]
  · rintro σ' H' ⟨o4, o5, rfl, hm⟩ sH
    rw [List.length_map, List.length_range, show ns.length - ((ns.length : Int) - 0).toNat = 0 by omega] at hm
    rw [hm] at k
    exact st_ret (C := CP) (a := .d (dS [])) (ev_tup (ds := []) ea_nil (by decide)) fun v H2 s2 hv => k v H2 (s13.trans (sH.trans s2)) hv
end
end Bf

/-! D9: State, Box. -/
namespace Bf
open PySem PySem.Spec PyProof.Rows L2 Bx
structure BoxR (CP CS CB : Addr) (H : Hp) (b dxb p s dxs t sh pt ud dL : Addr) (vs vw : V) (xs : List V) (Pn : Pl) (wr : List (Option Nat)) (st : List Bool) (L : List (Str × Int)) (c m : Nat) : Prop where
  ins : H b = some (.ins CB dxb [("plan", .ref p), ("held", .ref s)])
  sl : H s = some (SlX.SlO s CS dxs [some (.ref t), some (.ref pt), some (.ref sh), some (.ref ud)])
  xd : H dxs = some (.xd [])
  pl : PlanAt CP H p Pn
  tp : H t = some (.tup [vs, .ref dL, vw, .int (c : Nat)])
  is_ : Im H (dB st) vs
  iw : Im H (dW wr) vw
  dl : H dL = some (.dK (kvs L))
  pa : H pt = some (.tup xs)
  ln : xs.length ≤ m
theorem BoxR.mono {CP CS CB : Addr} {H H' : Hp} {b dxb p s dxs t sh pt ud dL : Addr} {vs vw : V} {xs : List V} {Pn : Pl} {wr : List (Option Nat)} {st : List Bool} {L : List (Str × Int)} {c m : Nat} (h : BoxR CP CS CB H b dxb p s dxs t sh pt ud dL vs vw xs Pn wr st L c m) (e : Same H H') :
    BoxR CP CS CB H' b dxb p s dxs t sh pt ud dL vs vw xs Pn wr st L c m :=
  ⟨e _ _ h.ins, e _ _ h.sl, e _ _ h.xd, h.pl.mono e, e _ _ h.tp, h.is_.mono e, h.iw.mono e, e _ _ h.dl, e _ _ h.pa, h.ln⟩
/-- a box at b, made since H0 -/
def BoxAt (CP CS CB : Addr) (H0 H : Hp) (b : Addr) (Pn : Pl) (wr : List (Option Nat)) (st : List Bool) (L : List (Str × Int)) (c m : Nat) : Prop :=
  Same H0 H ∧ H0 b = none ∧ ∃ dxb p s dxs t sh pt ud dL vs vw xs, H0 s = none ∧ H0 dxs = none ∧ dxs ≠ s ∧ PlanAt CP H0 p Pn ∧ BoxR CP CS CB H b dxb p s dxs t sh pt ud dL vs vw xs Pn wr st L c m
theorem BoxAt.mono {CP CS CB : Addr} {H0 H H' : Hp} {b : Addr} {Pn : Pl} {wr : List (Option Nat)} {st : List Bool} {L : List (Str × Int)} {c m : Nat} (h : BoxAt CP CS CB H0 H b Pn wr st L c m) (e : Same H H') : BoxAt CP CS CB H0 H' b Pn wr st L c m := by
  obtain ⟨s0, hb, dxb, p, s, dxs, t, sh, pt, ud, dL, vs, vw, xs, h1, h2, h3, hp0, h4⟩ := h
  exact ⟨s0.trans e, hb, dxb, p, s, dxs, t, sh, pt, ud, dL, vs, vw, xs, h1, h2, h3, hp0, h4.mono e⟩
section
variable {P : Program} {w : World} {K : PySem.W.Frag} {mg : Str → Option Value} {base : Heap} {CP CS CB : Addr} {σ : L2.St} {H : Hp} {ta te : TE}
/-- evidence of one value -/
abbrev EvV (te : TE) (σ : L2.St) (H : Hp) (v : V) : Prop := EvP te σ H fun u _ => u = v
theorem vv_v {i : Nat} {v : V} (h : σ[i]? = some (some v)) : EvV (tVar i) σ H v := fun H1 s Q q => ⟨v, h, q v H1 (Same.refl H1) rfl⟩
theorem vv_ev {C : Addr} {a : A} {v : V} (e : EvV te σ H v) (h : ∀ H', Same H H' → Rp C H' a v) : Ev C te σ H a := fun H1 s Q q => e H1 s _ fun u H2 s2 eu => by
  subst eu
  exact q _ H2 s2 (h H2 (s.trans s2))
theorem vv_fld {f : Str} {a C dx : Addr} {fs : List (Str × V)} {v : V} (e : EvV te σ H (.ref a)) (h : H a = some (.ins C dx fs)) (c : Cls K C) (n : NoAttr K C f) (l : fs.lookup f = some v) : EvV (tFld K te f) σ H v := fun H1 s Q q =>
  e H1 s _ fun u H2 s2 eu => ⟨a, C, dx, fs, v, eu, (s.trans s2) _ _ h, c, n, l, q v H2 s2 rfl⟩
theorem vv_sl {f : Str} {a C dx : Addr} {us : List (Option V)} {i : Nat} {v : V} (e : EvV te σ H (.ref a)) (h : H a = some (SlX.SlO a C dx us)) (hx : H dx = some (.xd [])) (c : SlX.SCls K C) (n : Slots1 K C f i) (l : us[i]? = some (some v)) : EvV (SlX.tSl K te f) σ H v := fun H1 s Q q =>
  e H1 s _ fun u H2 s2 eu => by
    obtain ⟨p, hp⟩ := n.ex
    exact ⟨a, C, dx, p, us, i, v, eu, .inr ⟨(s.trans s2) _ _ h, (s.trans s2) _ _ hx⟩, c, hp, l, q v H2 s2 rfl⟩
theorem vv_ix {a : Addr} {xs : List V} {i : Nat} {v : V} (e : EvV te σ H (.ref a)) (h : H a = some (.tup xs)) (ei : EvV ta σ H (.int (i : Nat))) (l : xs[i]? = some v) : EvV (tOp (rIxT K) te ta) σ H v := fun H1 s Q q =>
  e H1 s _ fun u H2 s2 eu => ei H2 (s.trans s2) _ fun w H3 s3 ew => ⟨a, xs, _, v, eu, ew, SqT.of ((s.trans (s2.trans s3)) _ _ h), atI_nat l, q v H3 (s2.trans s3) rfl⟩
theorem vv_int {i : Int} : EvV (tC (.int i)) σ H (.int i) := fun H1 s Q q => q _ H1 (Same.refl H1) rfl
section
variable {b dxb p s dxs t sh pt ud dL : Addr} {vs vw : V} {xs : List V} {Pn : Pl} {wr : List (Option Nat)} {st : List Bool} {L : List (Str × Int)} {c m : Nat}
theorem vv_held (T : Txt K mg CP CS CB) (h : BoxR CP CS CB H b dxb p s dxs t sh pt ud dL vs vw xs Pn wr st L c m) (e : EvV te σ H (.ref b)) : EvV (tFld K te "held") σ H (.ref s) := vv_fld e h.ins T.clB T.naH rfl
theorem vv_plan (T : Txt K mg CP CS CB) (h : BoxR CP CS CB H b dxb p s dxs t sh pt ud dL vs vw xs Pn wr st L c m) (e : EvV te σ H (.ref b)) : EvV (tFld K te "plan") σ H (.ref p) := vv_fld e h.ins T.clB T.naP rfl
theorem vv_facts (T : Txt K mg CP CS CB) (h : BoxR CP CS CB H b dxb p s dxs t sh pt ud dL vs vw xs Pn wr st L c m) (e : EvV te σ H (.ref b)) : EvV (SlX.tSl K (tFld K te "held") "facts") σ H (.ref t) := vv_sl (vv_held T h e) h.sl h.xd T.clS T.slF rfl
theorem ev_planB (T : Txt K mg CP CS CB) (h : BoxR CP CS CB H b dxb p s dxs t sh pt ud dL vs vw xs Pn wr st L c m) (e : EvV te σ H (.ref b)) : Ev CP (tFld K te "plan") σ H (.pl Pn) := vv_ev (vv_plan T h e) fun H' s => ⟨p, rfl, h.pl.mono s⟩
end
def sp_state_now (CP CS CB : Addr) : Sp := fun vs H Q _ => ∃ (H0 : Hp) (b : Addr) (Pn : Pl) (wr : List (Option Nat)) (st : List Bool) (L : List (Str × Int)) (c m : Nat), vs = [.ref b] ∧ BoxAt CP CS CB H0 H b Pn wr st L c m ∧ ∀ v H', Same H H' → Im H' (dB st) v → Q v H'
theorem ok_Box_state_now (T : Txt K mg CP CS CB) : PropP P w K mg base 2 CB "state_now" (sp_state_now CP CS CB) := by
  refine pro_s T.p_state_now sc_Box_state_now (fun vs H Q E h => ?_) fun f cdv A outer s H vs Q E hr h => ?_
  · obtain ⟨_, b, _, _, _, _, _, _, rfl, _⟩ := h
    rfl
  obtain ⟨H0, b, Pn, wr, st, L, c, m, rfl, ⟨s0, hb, dxb, p, so, dxs, t, sh, pt, ud, dL, vs, vw, xs, h1, h2, h3, hp0, hB⟩, k⟩ := h
  refine ⟨_, (pss_one (ps_ret (pe_ix (Bf.ixT K) (Bf.pe_slK K (Bf.pe_fldK K (pv 0))) pe_int (fun _ _ => rfl)))), ?_⟩
  exact st_ret (C := CP) (vv_ev (a := .d (dB st)) (vv_ix (i := 0) (vv_facts T hB (vv_v rfl)) hB.tp vv_int rfl) fun H' s => hB.is_.mono s) k
def sp_trip_count (CP CS CB : Addr) : Sp := fun vs H Q _ => ∃ (H0 : Hp) (b : Addr) (Pn : Pl) (wr : List (Option Nat)) (st : List Bool) (L : List (Str × Int)) (c m : Nat), vs = [.ref b] ∧ BoxAt CP CS CB H0 H b Pn wr st L c m ∧ ∀ H', Same H H' → Q (.int (c : Nat)) H'
theorem ok_Box_trip_count (T : Txt K mg CP CS CB) : PropP P w K mg base 2 CB "trip_count" (sp_trip_count CP CS CB) := by
  refine pro_s T.p_trip_count sc_Box_trip_count (fun vs H Q E h => ?_) fun f cdv A outer s H vs Q E hr h => ?_
  · obtain ⟨_, b, _, _, _, _, _, _, rfl, _⟩ := h
    rfl
  obtain ⟨H0, b, Pn, wr, st, L, c, m, rfl, ⟨s0, hb, dxb, p, so, dxs, t, sh, pt, ud, dL, vs, vw, xs, h1, h2, h3, hp0, hB⟩, k⟩ := h
  refine ⟨_, (pss_one (ps_ret (pe_ix (Bf.ixT K) (Bf.pe_slK K (Bf.pe_fldK K (pv 0))) pe_int (fun _ _ => rfl)))), ?_⟩
  exact st_ret (C := CP) (vv_ev (a := .d (.int (c : Nat))) (vv_ix (i := 3) (vv_facts T hB (vv_v rfl)) hB.tp vv_int rfl) fun H' s => rfl) fun v H' s' hv => by
    rw [rp_int hv]
    exact k H' s'
def nowL (Pn : Pl) (L : List (Str × Int)) : List (Str × Int) := Pn.names.filterMap fun z => if (L.lookup z).isSome = true then some (z, get L z) else none
def sp_loads_now (CP CS CB : Addr) : Sp := fun vs H Q _ => ∃ (H0 : Hp) (b : Addr) (Pn : Pl) (wr : List (Option Nat)) (st : List Bool) (L : List (Str × Int)) (c m : Nat), vs = [.ref b] ∧ BoxAt CP CS CB H0 H b Pn wr st L c m ∧ GoodP Pn ∧ ∀ v H', Same H H' → Rp CP H' (.dic (nowL Pn L)) v → Q v H'
theorem nowL_nd {Pn : Pl} (h : GoodP Pn) (L : List (Str × Int)) : ((nowL Pn L).map (·.1)).Nodup := by
  have key : ∀ l : List Str, ((l.filterMap fun z => if (L.lookup z).isSome = true then some (z, get L z) else none).map (·.1)) = l.filter fun z => (L.lookup z).isSome := by
    intro l
    induction l with
    | nil => rfl
    | cons z l ih =>
      rw [List.filterMap_cons, List.filter_cons]
      cases h : (L.lookup z).isSome with
      | true =>
        simp only [if_true, List.map_cons]
        rw [ih]
      | false =>
        simp only [Bool.false_eq_true, if_false]
        exact ih
  unfold nowL
  rw [key]
  exact (names_nd h).sublist List.filter_sublist
theorem ok_Box_loads_now (T : Txt K mg CP CS CB) : PropP P w K mg base 4 CB "loads_now" (sp_loads_now CP CS CB) := by
  have c_Plan_names := ok_Plan_names (P := P) (w := w) (base := base) T
  refine pro_s T.p_loads_now sc_Box_loads_now (fun vs H Q E h => ?_) fun f cdv A outer s H vs Q E hr h => ?_
  · obtain ⟨_, b, _, _, _, _, _, _, rfl, _⟩ := h
    rfl
  obtain ⟨H0, b, Pn, wr, st, L, c, m, rfl, ⟨s0, hb, dxb, p, so, dxs, t, sh, pt, ud, dL, vs, vw, xs, h1, h2, h3, hp0, hB⟩, hG, k⟩ := h
  have hnl := hG.nl
  have hpl := hG.pl
  refine ⟨_, (pss_one (ps_ret (pe_dc (own := [("name", 1)]) (g := (gName 1)) rfl sc_Box_loads_now.nd (pi_tup (Bf.pe_pSl c_Plan_names T.clP hr (by decide) (Bf.pe_fldK K (pv 0)))) (blkOk_by (own := [("name", 1)]) (N := ["self", "name"]) (sc := defScope s_Box_loads_now) (by decide +kernel)) (fun _ _ _ _ _ => (pg_name (i := 1) sc_Box_loads_now.nd rfl (Or.inl rfl) (Or.inr rfl))) (fun _ _ _ _ _ => (pts_one (pt_cmp (pc_din (hu_of hr) (pv 1) (pe_ix (Bf.ixT K) (Bf.pe_slK K (Bf.pe_fldK K (pv 0))) pe_int (fun _ _ => rfl)))))) (fun _ _ _ _ _ => (pv 1)) (fun _ _ _ _ _ => (pe_dget (hu_of hr) (pe_ix (Bf.ixT K) (Bf.pe_slK K (Bf.pe_fldK K (pv 0))) pe_int (fun _ _ => rfl)) (pv 1) (fun _ _ => rfl)))))), ?_⟩
  refine st_ret (C := CP) (ev_dc (φ := D.str) (it_tup (ev_prop (ev_planB T hB (vv_v rfl)) ⟨Pn, rfl, by omega, rfl⟩)).s (fun z => if (L.lookup z).isSome = true then some (z, get L z) else none) (by omega) (nowL_nd hG L) fun i a x H2 hi s2 im => turnD_name rfl ?_ fun d hd => ?_) k
  · have hB2 := hB.mono s2
    have e := et_val (C := CP) (ev_din (l := L) (ta := tVar 1) (tb := tOp (rIxT K) (SlX.tSl K (tFld K (tVar 0) "held") "facts") (tC (.int 1))) (σ := ((wipe [some (.ref b), none] [1]).set 1 (some x))) (ev_v (a := .d (.str a)) rfl im) (vv_ev (vv_ix (i := 1) (vv_facts T hB2 (vv_v rfl)) hB2.tp vv_int rfl) fun H' s => ⟨dL, rfl, s _ _ hB2.dl⟩))
    by_cases c : (L.lookup a).isSome = true
    · rw [if_pos c]
      rw [c] at e
      exact e
    · rw [if_neg c]
      rw [eq_false_of_ne_true c] at e
      exact e
  · by_cases c : (L.lookup a).isSome = true
    · rw [if_pos c] at hd
      cases hd
      have hB2 := hB.mono s2
      exact ⟨ev_v rfl im, ev_dget (l := L) (vv_ev (vv_ix (i := 1) (vv_facts T hB2 (vv_v rfl)) hB2.tp vv_int rfl) fun H' s => ⟨dL, rfl, s _ _ hB2.dl⟩) (ev_v (a := .d (.str a)) rfl im) (get_some (lookup_some.mp c))⟩
    · rw [if_neg c] at hd
      cases hd
def sp_State_init (CS : Addr) : Sp := fun vs H Q _ => ∃ (s dx : Addr) (f sh pt ud : V), vs = [.ref s, f, sh, pt, ud] ∧ H s = some (.ins CS dx []) ∧ H dx = some (.own s) ∧ dx ≠ s ∧
  ∀ H', (∀ b o, b ≠ s → b ≠ dx → H b = some o → H' b = some o) → H' s = some (SlX.SlO s CS dx [some f, some pt, some sh, some ud]) → H' dx = some (.xd []) → Q .non H'
theorem ok_State (T : Txt K mg CP CS CB) : C8.Mak P w K mg base 2 "State" CS (sp_State_init CS) [] := by
  refine mak_s T.i_S T.mgS sc_State_init (fun vs H Q E h => ?_) fun f cdv A outer s H vs Q E hr h => ?_
  · obtain ⟨_, _, _, _, _, _, rfl, _⟩ := h
    rfl
  obtain ⟨so, dx, f1, f2, f3, f4, rfl, hs, hd, hne, k⟩ := h
  refine ⟨_, (pss_cons (SlX.ps_sl (pv 0) (pv 1))
    (pss_cons (SlX.ps_sl (pv 0) (pv 2))
    (pss_cons (SlX.ps_sl (pv 0) (pv 3))
    (pss_one (SlX.ps_sl (pv 0) (pv 4)))))), ?_⟩
  obtain ⟨p0, t0⟩ := T.slF.ex
  obtain ⟨p1, t1⟩ := T.slH.ex
  obtain ⟨p2, t2⟩ := T.slQ.ex
  obtain ⟨p3, t3⟩ := T.slU.ex
  refine ⟨_, rfl, _, rfl, so, CS, dx, p0, [], 0, rfl, .inl ⟨hs, rfl⟩, T.clS, t0, ?_⟩
  refine ⟨_, rfl, _, rfl, so, CS, dx, p1, _, 2, rfl, SlX.slH_slt hne, T.clS, t1, ?_⟩
  refine ⟨_, rfl, _, rfl, so, CS, dx, p2, _, 1, rfl, SlX.slH_slt hne, T.clS, t2, ?_⟩
  refine ⟨_, rfl, _, rfl, so, CS, dx, p3, _, 3, rfl, SlX.slH_slt hne, T.clS, t3, ?_⟩
  rw [SlX.slH_twice hne, SlX.slH_twice hne, SlX.slH_twice hne]
  refine k _ (fun b o n1 n2 e => ?_) ?_ ?_
  · rw [SlX.slH_ne n1 n2]
    exact e
  · unfold SlX.slH
    rw [upd_same] <;> rfl
  · unfold SlX.slH
    rw [upd_ne hne, upd_same]
end
end Bf

/-! D10: go_on, Box made, settled. -/
namespace Bf
open PySem PySem.Spec PyProof.Rows L2 Bx
section
variable {P : Program} {w : World} {K : PySem.W.Frag} {mg : Str → Option Value} {base : Heap} {CP CS CB : Addr} {σ : L2.St} {H : Hp} {ta te : TE}
theorem slh_tx {H : Hp} {s CS dx : Addr} {us us' : List (Option V)} (hs : H s = some (SlX.SlO s CS dx us)) (hd : H dx = some (.xd [])) : Tx H (SlX.slH H s CS dx us') := fun a xs q => by
  have n1 : a ≠ s := ne_of q hs fun z => by unfold SlX.SlO at z; cases z
  have n2 : a ≠ dx := ne_of q hd fun z => nomatch z
  rw [SlX.slH_ne n1 n2]
  exact q
theorem slh_at {H : Hp} {s CS dx : Addr} {us : List (Option V)} : SlX.slH H s CS dx us s = some (SlX.SlO s CS dx us) := by
  unfold SlX.slH
  exact upd_same
theorem slh_dx {H : Hp} {s CS dx : Addr} {us : List (Option V)} (h : dx ≠ s) : SlX.slH H s CS dx us dx = some (.xd []) := by
  unfold SlX.slH
  rw [upd_ne h, upd_same]
/-- evidence of so many values -/
abbrev EvL (ta : TA) (σ : L2.St) (H : Hp) (n : Nat) : Prop := ∀ H1, Same H H1 → ∀ Q : List V → Hp → Prop, (∀ vs H2, Same H1 H2 → vs.length = n → Q vs H2) → ta σ H1 Q
theorem el_nil : EvL tNil σ H 0 := fun H1 _ Q q => q [] H1 (Same.refl H1) rfl
theorem el_cons {tr : TA} {n : Nat} {Pq : V → Hp → Prop} (e : EvP te σ H Pq) (r : EvL tr σ H n) : EvL (tCons te tr) σ H (n + 1) := fun H1 s Q q =>
  e H1 s _ fun v H2 s2 _ => r H2 (s.trans s2) _ fun vs H3 s3 h => q _ H3 (s2.trans s3) (by rw [List.length_cons, h])
theorem el_star {tr : TA} {n : Nat} {p : Addr} {xs : List V} (e : EvV te σ H (.ref p)) (h : H p = some (.tup xs)) (r : EvL tr σ H n) : EvL (StX.tStar K te tr) σ H (xs.length + n) := fun H1 s Q q =>
  e H1 s _ fun v H2 s2 ev => ⟨p, xs, ev, .inl (SqT.of ((s.trans s2) _ _ h)), r H2 (s.trans s2) _ fun ys H3 s3 hy => q _ H3 (s2.trans s3) (by rw [List.length_append, hy])⟩
theorem ev_tupN {t : TA} {n : Nat} (e : EvL t σ H n) (hn : n ≤ 1000) : EvP (tTup t) σ H fun v H' => ∃ p us, v = .ref p ∧ H' p = some (.tup us) ∧ us.length = n := fun H1 s Q q =>
  e H1 s _ fun vs H2 s2 h => ⟨by rw [h, sizeLine_eq]; omega, fun p hp => q _ _ (s2.trans (same_new hp _)) ⟨p, vs, rfl, upd_same, h⟩⟩
theorem st_sl {f : Str} {a C dx p : Addr} {us : List (Option V)} {i : Nat} {tv : TE} {Pq : V → Hp → Prop} {Dn : Ends} (e : EvP tv σ H Pq) (eo : EvV ta σ H (.ref a)) (h : H a = some (SlX.SlO a C dx us)) (hx : H dx = some (.xd [])) (c : SlX.SCls K C) (t : SlX.Slot1 K C f p i)
    (k : ∀ v H1 H', Same H H1 → Same H1 H' → Pq v H1 → Dn.nx σ (SlX.slH H' a C dx (SlX.putS i v us))) : SlX.sSl K ta tv f Dn σ H :=
  e H (Same.refl H) _ fun v H1 s1 hv => eo H1 s1 _ fun u H2 s2 eu => ⟨a, C, dx, p, us, i, eu, .inr ⟨(s1.trans s2) _ _ h, (s1.trans s2) _ _ hx⟩, c, t, k v H1 H2 s1 s2 hv⟩
theorem sq_sl {f : Str} {a C dx p : Addr} {us : List (Option V)} {i : Nat} {tv : TE} {u : TS} {Pq : V → Hp → Prop} {Dn : Ends} (e : EvP tv σ H Pq) (eo : EvV ta σ H (.ref a)) (h : H a = some (SlX.SlO a C dx us)) (hx : H dx = some (.xd [])) (c : SlX.SCls K C) (t : SlX.Slot1 K C f p i)
    (k : ∀ v H1 H', Same H H1 → Same H1 H' → Pq v H1 → u Dn σ (SlX.slH H' a C dx (SlX.putS i v us))) : tSeq (SlX.sSl K ta tv f) u Dn σ H := st_sl (Dn := { Dn with nx := u Dn }) e eo h hx c t k
def sp_go_on (CS : Addr) : Sp := fun vs H Q _ => ∃ (s dx : Addr) (op f' sh' f sh ud : V) (pt : Addr) (xs : List V), vs = [.ref s, op, f', sh'] ∧ H s = some (SlX.SlO s CS dx [some f, some (.ref pt), some sh, some ud]) ∧ H dx = some (.xd []) ∧ dx ≠ s ∧ H pt = some (.tup xs) ∧ xs.length ≤ 500 ∧
  ∀ (H' : Hp) (pt' ud' : Addr) (xs' : List V), (∀ b o, b ≠ s → b ≠ dx → H b = some o → H' b = some o) → H' s = some (SlX.SlO s CS dx [some f', some (.ref pt'), some sh', some (.ref ud')]) → H' dx = some (.xd []) → H' pt' = some (.tup xs') → xs'.length = xs.length + 1 → Q .non H'
theorem ok_State_go_on (T : Txt K mg CP CS CB) : MetS P w K mg base 2 CS "go_on" (sp_go_on CS) := by
  refine mets_s T.m_go_on sc_State_go_on (fun vs H Q E h => ?_) fun f cdv A outer s H vs Q E hr h => ?_
  · obtain ⟨_, _, _, _, _, _, _, _, _, _, rfl, _⟩ := h
    rfl
  obtain ⟨so, dx, op, f', sh', f0, sh, ud, pt, xs, rfl, hs, hd, hne, hpt, hl, k⟩ := h
  obtain ⟨p0, t0⟩ := T.slF.ex
  obtain ⟨p1, t1⟩ := T.slH.ex
  obtain ⟨p2, t2⟩ := T.slQ.ex
  obtain ⟨p3, t3⟩ := T.slU.ex
  refine ⟨_, (pss_cons (SlX.ps_sl (pv 0) (pe_tup (Bf.pa_starK K (Bf.pe_slK K (pv 0)) (pa_cons (pe_tup (pa_cons (pv 1) (pa_cons (Bf.pe_slK K (pv 0)) (pa_cons (Bf.pe_slK K (pv 0)) pa_nil)))) pa_nil))))
    (pss_cons (SlX.ps_sl (pv 0) (pe_tup pa_nil))
    (pss_cons (SlX.ps_sl (pv 0) (pv 2))
    (pss_one (SlX.ps_sl (pv 0) (pv 3)))))), ?_⟩
  have epast : EvV (SlX.tSl K (tVar 0) "past") (L2.start ["self", "operation", "facts", "shelf"] [.ref so, op, f', sh']) H (.ref pt) := vv_sl (vv_v rfl) hs hd T.clS T.slQ rfl
  refine sq_sl (ev_tupN (el_star epast hpt (el_cons (ev_tupN (el_cons (vv_v rfl) (el_cons (vv_sl (vv_v rfl) hs hd T.clS T.slF rfl) (el_cons (vv_sl (vv_v rfl) hs hd T.clS T.slH rfl) el_nil))) (by decide)) el_nil)) (by omega)) (vv_v rfl) hs hd T.clS t2 fun v H00 H1 s00 s01 ⟨pt', xs', ev, hpt', hl'⟩ => ?_
  subst ev
  have s1 := s00.trans s01
  replace hpt' := s01 _ _ hpt'
  have hs1 := s1 _ _ hs
  have hd1 := s1 _ _ hd
  have tx1 := slh_tx (us' := [some f0, some (.ref pt'), some sh, some ud]) hs1 hd1
  refine sq_sl (ev_tupN el_nil (by decide)) (vv_v rfl) slh_at (slh_dx hne) T.clS t3 fun v H20 H2 s20 s21 ⟨ud', us', ev, _, _⟩ => ?_
  subst ev
  have s2 := s20.trans s21
  refine sq_sl (vv_v rfl) (vv_v rfl) slh_at (slh_dx hne) T.clS t0 fun f' H30 H3 s30 s31 ev => ?_
  subst ev
  have s3 := s30.trans s31
  refine st_sl (vv_v rfl) (vv_v rfl) slh_at (slh_dx hne) T.clS t1 fun sh' H40 H4 s40 s41 ev => ?_
  subst ev
  have s4 := s40.trans s41
  have step : ∀ {A B : Hp} {us : List (Option V)}, Same (SlX.slH A so CS dx us) B → ∀ b o, b ≠ so → b ≠ dx → A b = some o → B b = some o := fun sm b o n1 n2 e => sm b o (by rw [SlX.slH_ne n1 n2]; exact e)
  have all : ∀ b o, b ≠ so → b ≠ dx → H1 b = some o → SlX.slH H4 so CS dx (SlX.putS 2 sh' (SlX.putS 0 f' (SlX.putS 3 (.ref ud') (SlX.putS 1 (.ref pt') [some f0, some (.ref pt), some sh, some ud])))) b = some o := fun b o n1 n2 e => by
    rw [SlX.slH_ne n1 n2]
    exact step s4 b o n1 n2 (step s3 b o n1 n2 (step s2 b o n1 n2 e))
  refine k _ pt' ud' xs' (fun b o n1 n2 e => all b o n1 n2 (s1 _ _ e)) ?_ (slh_dx hne) (all pt' _ ?_ ?_ hpt') (by rw [hl'])
  · rw [slh_at] <;> rfl
  · exact ne_of hpt' hs1 fun z => by unfold SlX.SlO at z; cases z
  · exact ne_of hpt' hd1 fun z => nomatch z
theorem pf1 (v : V) : putF "plan" v [] = [(Str.ofString "plan", v)] := rfl
theorem pf2 (u v : V) : putF "held" v [(Str.ofString "plan", u)] = [(Str.ofString "plan", u), (Str.ofString "held", v)] := by
  show (if (Str.ofString "plan") = Str.ofString "held" then [(Str.ofString "plan", v)] else (Str.ofString "plan", u) :: putF "held" v []) = _
  rw [if_neg (by decide +kernel)]
  rfl
def sp_Box_init (CP CS CB : Addr) : Sp := fun vs H Q _ => ∃ (H0 : Hp) (b dxb : Addr) (Pn : Pl) (wr : List (Option Nat)) (vp vw : V), vs = [.ref b, vp, vw] ∧ H b = some (.ins CB dxb []) ∧ Same H0 H ∧ H0 b = none ∧ Rp CP H0 (.pl Pn) vp ∧ Rp CP H0 (.d (dW wr)) vw ∧ GoodP Pn ∧ GoodW Pn wr ∧
  ∀ H', BoxAt CP CS CB H0 H' b Pn wr (allOn Pn) [] 0 0 → Q .non H'
theorem ok_Box (T : Txt K mg CP CS CB) : C8.Mak P w K mg base 10 "Box" CB (sp_Box_init CP CS CB) [] := by
  have c_check_wiring := ok_check_wiring (P := P) (w := w) (base := base) T
  have c_State := ok_State (P := P) (w := w) (base := base) T
  have c_all_on := ok_all_on (P := P) (w := w) (base := base) T
  refine mak_s T.i_B T.mgB sc_Box_init (fun vs H Q E h => ?_) fun f cdv A outer s H vs Q E hr h => ?_
  · obtain ⟨_, _, _, _, _, _, _, rfl, _⟩ := h
    rfl
  obtain ⟨H0, b, dxb, Pn, wr, vp, vw, rfl, hb, s0, hb0, hp0, hw0, hG, hW, k⟩ := h
  have hp := hp0.mono s0
  have hw := hw0.mono s0
  have h5 := hG.r5
  refine ⟨_, (pss_cons (ps_expr (C8.pe_c c_check_wiring hr (by decide) (by rfl) (pa_cons (pv 1) (pa_cons (pv 2) pa_nil))))
    (pss_cons (ps_fld (pv 0) (pv 1) rfl)
    (pss_one (ps_fld (pv 0) (C8.pe_mk c_State hr (by decide) (by rfl) (pa_cons (pe_tup (pa_cons (C8.pe_c c_all_on hr (by decide) (by rfl) (pa_cons (pv 1) pa_nil)) (pa_cons pe_dnewK (pa_cons (pv 2) (pa_cons pe_int pa_nil))))) (pa_cons pe_dnewK (pa_cons (pe_tup pa_nil) (pa_cons (pe_tup pa_nil) pa_nil))))) rfl)))), ?_⟩
  refine sq_expr (C := CP) (ev_call (as := [.pl Pn, .d (dW wr)]) (ea_cons (ev_v rfl hp) (ea_one (ev_v rfl hw))) ⟨Pn, wr, rfl, hG, hW, rfl⟩) fun H1 s1 => ?_
  have hb1 := s1 _ _ hb
  refine ⟨_, rfl, _, rfl, b, CB, dxb, [], rfl, hb1, T.clB, T.naP, by decide, ?_⟩
  rw [pf1]
  obtain ⟨p, rfl, hpl⟩ := hp.mono s1
  have hpl0 : PlanAt CP H0 p Pn := by
    obtain ⟨p', e', h'⟩ := hp0
    cases e'
    exact h'
  have s01 := s0.trans s1
  have s02 : Same H0 (upd H1 b (.ins CB dxb [("plan", .ref p)])) := same_mut s01 hb0
  have tx2 : Tx H1 (upd H1 b (.ins CB dxb [("plan", .ref p)])) := tx_upd hb1 fun _ z => nomatch z
  have hpl2 : PlanAt CP (upd H1 b (.ins CB dxb [("plan", .ref p)])) p Pn := by
    obtain ⟨dx, t, ⟨g1, g2⟩, g3⟩ := hpl
    refine ⟨dx, t, ⟨?_, ?_⟩, g3.tx tx2⟩
    · rw [upd_ne (ne_of g1 hb1 fun z => by unfold SlX.SlO at z; cases z)]
      exact g1
    · rw [upd_ne (ne_of g2 hb1 fun z => nomatch z)]
      exact g2
  have hw2 : Im (upd H1 b (.ins CB dxb [("plan", .ref p)])) (dW wr) vw := Im.tx (Im.mono hw s1) tx2
  have hb2 : upd H1 b (.ins CB dxb [("plan", .ref p)]) b = some (.ins CB dxb [("plan", .ref p)]) := upd_same
  generalize upd H1 b (.ins CB dxb [("plan", .ref p)]) = H2 at s02 hpl2 hw2 hb2
  refine ev_go (P := fun v H' => Rp CP H' (.d (dB (allOn Pn))) v) (ev_call (as := [.pl Pn]) (ea_one (ev_v rfl ⟨p, rfl, hpl2⟩)) ⟨Pn, rfl, by omega, rfl⟩) fun va H3 s3 hva => fun dL hdL => ⟨_, rfl, by show 4 ≤ sizeLine; decide, fun t ht => fun sh hsh => ⟨Nat.zero_le _, fun pt hpt => ⟨Nat.zero_le _, fun ud hud => ?_⟩⟩⟩
  have n1 := same_new hdL (.dK [])
  have n2 := same_new ht (.tup [va, .ref dL, vw, .int 0])
  have n3 := same_new hsh (.dK [])
  have n4 := same_new hpt (.tup [])
  have n5 := same_new hud (.tup [])
  have e1 := n2.trans (n3.trans (n4.trans n5))
  have hdL4 := e1 _ _ (upd_same : upd H3 dL (.dK []) dL = some (.dK []))
  have ht4 := (n3.trans (n4.trans n5)) _ _ (upd_same : upd (upd H3 dL (.dK [])) t (.tup [va, .ref dL, vw, .int 0]) t = some (.tup [va, .ref dL, vw, .int 0]))
  have hpt4 := n5 _ _ (upd_same : upd (upd (upd (upd H3 dL (.dK [])) t (.tup [va, .ref dL, vw, .int 0])) sh (.dK [])) pt (.tup []) pt = some (.tup []))
  have s34 := n1.trans e1
  generalize upd (upd (upd (upd (upd H3 dL (.dK [])) t (.tup [va, .ref dL, vw, .int 0])) sh (.dK [])) pt (.tup [])) ud (.tup []) = H4 at s34 hdL4 ht4 hpt4
  intro x dx hx hdx hne
  have s24 := s3.trans s34
  have m1 : ∀ c o, H4 c = some o → upd (upd H4 dx (.own x)) x (.ins CS dx []) c = some o := fun c o e => by rw [upd_ne (ne_of_none e hx), upd_ne (ne_of_none e hdx)]; exact e
  refine ⟨x, dx, .ref t, .ref sh, .ref pt, .ref ud, rfl, upd_same, by rw [upd_ne hne]; exact upd_same, hne, fun H5 q1 q2 q3 => ⟨rfl, ?_⟩⟩
  have s45 : Same H4 H5 := fun c o e => q1 c o (ne_of_none e hx) (ne_of_none e hdx) (m1 c o e)
  have s25 := s24.trans s45
  have hb5 := s25 _ _ hb2
  refine ⟨_, rfl, b, CB, dxb, _, rfl, hb5, T.clB, T.naH, (by show 1 < 1000; decide), ?_⟩
  rw [pf2]
  have tx5 : Tx H5 (upd H5 b (.ins CB dxb [("plan", .ref p), ("held", .ref x)])) := tx_upd hb5 fun _ z => nomatch z
  have s05 := s02.trans s25
  have nb : ∀ c o, H5 c = some o → (∀ fs, o ≠ .ins CB dxb fs) → upd H5 b (.ins CB dxb [("plan", .ref p), ("held", .ref x)]) c = some o := fun c o e n => by
    rw [upd_ne (ne_of e hb5 (n _))]
    exact e
  have hxf : H0 x = none := (s02.trans s24).free hx
  have hdxf : H0 dx = none := (s02.trans s24).free hdx
  refine k _ ⟨same_mut s05 hb0, hb0, dxb, p, x, dx, t, sh, pt, ud, dL, va, vw, [], hxf, hdxf, hne, hpl0, ⟨upd_same, ?_, ?_, ?_, ?_, ?_, ?_, ?_, ?_, Nat.le_refl _⟩⟩
  · exact nb _ _ q2 fun fs z => by unfold SlX.SlO at z; cases z
  · exact nb _ _ q3 fun fs z => nomatch z
  · obtain ⟨dx', t', ⟨g1, g2⟩, g3⟩ := hpl2.mono s25
    exact ⟨dx', t', ⟨nb _ _ g1 (fun fs z => by unfold SlX.SlO at z; cases z), nb _ _ g2 (fun fs z => nomatch z)⟩, g3.tx tx5⟩
  · exact tx5 _ _ (s45 _ _ ht4)
  · exact Im.tx (Im.mono hva (s34.trans s45)) tx5
  · exact Im.tx (Im.mono hw2 s25) tx5
  · exact nb _ _ (s45 _ _ hdL4) fun fs z => nomatch z
  · exact tx5 _ _ (s45 _ _ hpt4)
end
end Bf

/-! D11: settle, plug, reset. -/
namespace Bf
open PySem PySem.Spec PyProof.Rows L2 Bx
section
variable {P : Program} {w : World} {K : PySem.W.Frag} {mg : Str → Option Value} {base : Heap} {CP CS CB : Addr} {σ : L2.St} {H : Hp} {ta te : TE}
theorem slO_ne {a C dx : Addr} {us : List (Option V)} {xs : List V} : HO.tup xs ≠ SlX.SlO a C dx us := fun z => by unfold SlX.SlO at z; cases z
/-- the box behind a go_on -/
theorem box_next {H0 H Hc H' : Hp} {b dxb p s dxs t sh pt ud dL : Addr} {vs vw : V} {xs : List V} {Pn : Pl} {wr : List (Option Nat)} {st : List Bool} {L : List (Str × Int)} {c m : Nat} (s0 : Same H0 H) (hb0 : H0 b = none) (hs0 : H0 s = none) (hd0 : H0 dxs = none) (hne : dxs ≠ s) (hp0 : PlanAt CP H0 p Pn)
    (hB : BoxR CP CS CB H b dxb p s dxs t sh pt ud dL vs vw xs Pn wr st L c m) (sc : Same H Hc) {t' sh' pt' ud' dL' : Addr} {vs' : V} {xs' : List V} {st' : List Bool} {L' : List (Str × Int)} {c' : Nat}
    (ht : Hc t' = some (.tup [vs', .ref dL', vw, .int (c' : Nat)])) (his : Im Hc (dB st') vs') (hdL : Hc dL' = some (.dK (kvs L')))
    (q1 : ∀ b o, b ≠ s → b ≠ dxs → Hc b = some o → H' b = some o) (q2 : H' s = some (SlX.SlO s CS dxs [some (.ref t'), some (.ref pt'), some (.ref sh'), some (.ref ud')])) (q3 : H' dxs = some (.xd [])) (q4 : H' pt' = some (.tup xs')) (q5 : xs'.length = xs.length + 1) :
    BoxAt CP CS CB H0 H' b Pn wr st' L' c' (m + 1) ∧ Tx Hc H' ∧ Same H0 H' := by
  have hBc := hB.mono sc
  have kp : ∀ a o, Hc a = some o → (∀ us, o ≠ SlX.SlO s CS dxs us) → o ≠ .xd [] → H' a = some o := fun a o e n1 n2 => q1 a o (ne_of e hBc.sl (n1 _)) (ne_of e hBc.xd n2) e
  have tx : Tx Hc H' := fun a us e => kp a _ e (fun us => slO_ne) (fun z => nomatch z)
  have same : Same H0 H' := fun a o e => q1 a o (fun z => by rw [z, hs0] at e; cases e) (fun z => by rw [z, hd0] at e; cases e) ((s0.trans sc) _ _ e)
  refine ⟨⟨same, hb0, dxb, p, s, dxs, t', sh', pt', ud', dL', vs', vw, xs', hs0, hd0, hne, hp0, ⟨?_, q2, q3, ?_, tx _ _ ht, his.tx tx, hBc.iw.tx tx, ?_, q4, ?_⟩⟩, tx, same⟩
  · exact kp _ _ hBc.ins (fun us z => by unfold SlX.SlO at z; cases z) fun z => nomatch z
  · exact hp0.mono same
  · exact kp _ _ hdL (fun us z => by unfold SlX.SlO at z; cases z) fun z => nomatch z
  · have := hB.ln
    omega
theorem sq_mSl {a C dx : Addr} {us : List (Option V)} {sp : Sp} {t : TA} {u : TS} {E : XK} {Dn : Ends} (eo : EvV ta σ H (.ref a)) (h : H a = some (SlX.SlO a C dx us)) (hx : H dx = some (.xd []))
    (k : ∀ H1, Same H H1 → t σ H1 fun ws H2 => sp (.ref a :: ws) H2 (fun _ H3 => u Dn σ H3) E) : tSeq (tDrop (SlX.tMethSl C sp E ta t)) u Dn σ H := eo H (Same.refl H) _ fun v H1 s1 ev => by
  subst ev
  exact ⟨a, dx, us, rfl, .inr ⟨s1 _ _ h, s1 _ _ hx⟩, k H1 s1⟩
theorem tc_go {tr : TA} {Pq : V → Hp → Prop} {Q : List V → Hp → Prop} (e : EvP te σ H Pq) (k : ∀ v H', Same H H' → Pq v H' → tr σ H' fun xs H2 => Q (v :: xs) H2) : tCons te tr σ H Q := e H (Same.refl H) _ k
theorem ev_lenM {α : Type} {C : Addr} {f : α → D} {l : List α} (e : Ev C te σ H (.d (.tup (l.map f)))) : Ev C (fun σ H Q => (tCons te tNil) σ H fun xs H1 => rLenK K xs H1 Q) σ H (.d (.int (l.length : Nat))) := by
  have h := ev_b (ea_one e) (er_len_tup (K := K))
  rw [List.length_map] at h
  exact h
def sp_settle (CP CS CB : Addr) : Sp := fun vs H Q _ => ∃ (H0 : Hp) (b : Addr) (Pn : Pl) (wr : List (Option Nat)) (st : List Bool) (L : List (Str × Int)) (c m : Nat) (op vst : V) (dL' : Addr) (st' : List Bool) (L' : List (Str × Int)),
  vs = [.ref b, op, vst, .ref dL'] ∧ BoxAt CP CS CB H0 H b Pn wr st L c m ∧ m ≤ 400 ∧ Im H (dB st') vst ∧ H dL' = some (.dK (kvs L')) ∧ OkA Pn wr st' ∧
  ∀ v H', Same H0 H' → Tx H H' → BoxAt CP CS CB H0 H' b Pn wr (trips Pn wr st' L').1 L' (c + (trips Pn wr st' L').2.length) (m + 1) → Im H' (dN (trips Pn wr st' L').2) v → Q v H'
theorem ok_Box_settle (T : Txt K mg CP CS CB) : C8.Met P w K mg base 12 CB "settle" (sp_settle CP CS CB) [] := by
  have c_trips_in := ok_trips_in (P := P) (w := w) (base := base) T
  have c_State_go_on := ok_State_go_on (P := P) (w := w) (base := base) T
  refine met_s T.clB T.m_settle sc_Box_settle (fun vs H Q E h => ?_) fun f cdv A outer s H vs Q E hr h => ?_
  · obtain ⟨_, _, _, _, _, _, _, _, _, _, _, _, _, rfl, _⟩ := h
    rfl
  obtain ⟨H0, b, Pn, wr, st, L, c, m, op, vst, dL', st', L', rfl, ⟨s0, hb, dxb, p, so, dxs, t, sh, pt, ud, dL, vs, vw, xs, h1, h2, h3, hp0, hB⟩, hm, hst, hdL, hO, k⟩ := h
  have h5 := hO.g.r5
  refine ⟨_, (pss_cons (ps_asg (Bf.pe_slK K (Bf.pe_fldK K (pv 0))) (pg_tup rfl (pgs_cons (pg_name (i := 4) sc_Box_settle.nd rfl (Or.inl rfl)) (pgs_cons (pg_name (i := 5) sc_Box_settle.nd rfl (Or.inl rfl)) (pgs_cons (pg_name (i := 6) sc_Box_settle.nd rfl (Or.inl rfl)) (pgs_cons (pg_name (i := 7) sc_Box_settle.nd rfl (Or.inl rfl)) pgs_nil))))))
    (pss_cons (ps_asg (C8.pe_c c_trips_in hr (by decide) (by rfl) (pa_cons (Bf.pe_fldK K (pv 0)) (pa_cons (pv 6) (pa_cons (pv 2) (pa_cons (pv 3) pa_nil))))) (pg_tup rfl (pgs_cons (pg_name (i := 8) sc_Box_settle.nd rfl (Or.inl rfl)) (pgs_cons (pg_name (i := 9) sc_Box_settle.nd rfl (Or.inl rfl)) pgs_nil))))
    (pss_cons (ps_expr (Bf.pe_mSl c_State_go_on T.clS hr (by decide) (Bf.pe_fldK K (pv 0)) (pa_cons (pv 1) (pa_cons (pe_tup (pa_cons (pv 8) (pa_cons (pv 3) (pa_cons (pv 6) (pa_cons (pe_op op_add (pv 7) (pe_callB (Bf.lenSK K) (by rfl) T.b_len (by decide +kernel) (pa_cons (pv 9) pa_nil))) pa_nil))))) (pa_cons (Bf.pe_slK K (Bf.pe_fldK K (pv 0))) pa_nil)))))
    (pss_one (ps_ret (pv 9)))))), ?_⟩
  refine ev_go (P := fun u _ => u = .ref t) ?_ fun u H1 s1 eu => ?_
  · exact vv_facts T hB (vv_v rfl)
  subst eu
  refine ⟨t, _, rfl, SqT.of (s1 _ _ hB.tp), rfl, _, _, rfl, _, _, rfl, _, _, rfl, _, _, rfl, rfl, ?_⟩
  have hB1 := hB.mono s1
  refine ev_go (P := fun v H' => Rp CP H' (.d (.tup [dB (trips Pn wr st' L').1, dN (trips Pn wr st' L').2])) v) (ev_call (as := [.pl Pn, .d (dW wr), .d (dB st'), .dic L']) (ea_cons (ev_planB T hB1 (vv_v rfl)) (ea_cons (ev_v (a := .d (dW wr)) rfl hB1.iw) (ea_cons (ev_v (a := .d (dB st')) rfl (hst.mono s1)) (ea_one (ev_v (a := .dic L') rfl ⟨dL', rfl, s1 _ _ hdL⟩))))) ⟨Pn, wr, st', L', rfl, hO, rfl⟩) fun vt H2 s2 hvt => ?_
  obtain ⟨vl, vn, hvl, hvn, g⟩ := g_pair (K := K) (n := 8) (m := 9) hvt
  refine g _ _ ?_
  have hB2 := hB1.mono s2
  have s12 := s1.trans s2
  refine sq_mSl (vv_held T hB2 (vv_v rfl)) hB2.sl hB2.xd fun H3 s3 => ?_
  have s13 := s12.trans s3
  have hB3 := hB2.mono s3
  refine ⟨_, rfl, _, rfl, _, rfl, _, rfl, _, rfl, ?_⟩
  refine ev_go (P := fun v H' => Rp CP H' (.d (.int ((trips Pn wr st' L').2.length : Nat))) v) ?_ fun vi H4 s4 hvi => ?_
  · exact ev_lenM (f := fun i : Nat => D.int (i : Nat)) (ev_v rfl (hvn.mono s3))
  have ei := rp_int hvi
  subst ei
  refine ⟨_, _, rfl, rfl, by show 4 ≤ sizeLine; decide, fun t' ht' => ?_⟩
  have s5 := s4.trans (same_new ht' (.tup [vl, .ref dL', vw, .int ((c : Nat) + ((trips Pn wr st' L').2.length : Nat))]))
  have hB5 := hB3.mono s5
  refine tc_go (Pq := fun u _ => u = .ref sh) ?_ fun u H6 s6 eu => ?_
  · exact vv_sl (vv_held T hB5 (vv_v rfl)) hB5.sl hB5.xd T.clS T.slH rfl
  subst eu
  have hB6 := hB5.mono s6
  have sB : Same H H6 := s13.trans (s5.trans s6)
  refine ⟨so, dxs, op, .ref t', .ref sh, .ref t, .ref sh, .ref ud, pt, xs, rfl, hB6.sl, hB6.xd, h3, hB6.pa, by have := hB.ln; omega, fun H7 pt' ud' xs' q1 q2 q3 q4 q5 => ?_⟩
  obtain ⟨hbx, tx, sm⟩ := box_next (CP := CP) (CB := CB) s0 hb h1 h2 h3 hp0 hB sB (t' := t') (c' := c + (trips Pn wr st' L').2.length) (L' := L') (s6 _ _ upd_same) (Im.mono hvl (s3.trans (s5.trans s6))) (sB _ _ hdL) q1 q2 q3 q4 q5
  exact ⟨_, rfl, k _ _ sm ((Same.tx sB).trans tx) hbx (Im.tx (Im.mono hvn (s3.trans (s5.trans s6))) tx)⟩
end
end Bf

/-! D12: plug, reset. -/
namespace Bf
open PySem PySem.Spec PyProof.Rows L2 Bx
section
variable {P : Program} {w : World} {K : PySem.W.Frag} {mg : Str → Option Value} {base : Heap} {CP CS CB : Addr} {σ : L2.St} {H : Hp} {ta te : TE}
def others (L : List (Str × Int)) (z : Str) : List (Str × Int) := L.filter fun e => !decide (e.1 = z)
def plugL (L : List (Str × Int)) (z : Str) (n : Int) : List (Str × Int) := others L z ++ (if 0 < n then [(z, n)] else [])
theorem others_not (L : List (Str × Int)) (z : Str) : z ∉ (others L z).map (·.1) := fun h => by
  obtain ⟨e, he, q⟩ := List.mem_map.mp h
  have := (List.mem_filter.mp he).2
  rw [q, decide_eq_true rfl] at this
  cases this
theorem lock_dc {i j l : Nat} {dL : Addr} {L : List (Str × Int)} {z : Str} {Q : VK} (hnd : (L.map (·.1)).Nodup) (hlen : L.length ≤ 1000) (hL : H dL = some (.dK (kvs L))) (hv : (wipe σ [l])[i]? = some (some (.ref dL))) (hv0 : σ[i]? = some (some (.ref dL))) (hz : (wipe σ [l])[j]? = some (some (.str z))) (hil : i ≠ l) (hjl : j ≠ l) (hl : l < σ.length)
    (k : ∀ D H', Same H H' → H D = none → H' D = some (.dK (kvs (others L z))) → Q (.ref D) H') :
    tLockE (tDc (iKeys (tVar i)) (gName l) (tTest (tOp rNe (tVar l) (tVar j))) (tVar l) (tDGet (tVar i) (tVar l)) [l]) σ H Q := by
  refine ⟨dL, .dK (kvs L), hL, True.intro, fun od => ?_⟩
  refine ⟨_, hv0, dL, od, rfl, .inl ⟨kvs L, upd_same, fun D hD => ?_⟩⟩
  have hDn : D ≠ dL := fun z => by
    rw [z, upd_same] at hD
    cases hD
  have hD0 : H D = none := by
    rw [upd_ne hDn] at hD
    exact hD
  have hw : wipe ((wipe σ [l]).set l none) [] = wipe σ [l] := by
    show ((σ.set l none).set l none) = σ.set l none
    rw [List.set_set]
  refine dc_it (Qd := fun H' => H' dL = some (.frz od (.dK (kvs L))) ∧ Q (.ref D) (upd H' dL (.dK (kvs L)))) (walk_keys (d := dL) (o := od) (kvs := kvs L)) (fun i H' => Same (upd H dL (.frz od (.dK (kvs L)))) H' ∧ H' D = some (.dK (kvs (others (L.take i) z)))) ⟨same_new hD _, upd_same⟩ (fun i H' _ p => p.1 _ _ upd_same) ?_ (fun H' p => ?_)
  · rintro n x H3 H4 hi ⟨s3, hx⟩ ⟨rfl, ky, v, hk, rfl⟩
    obtain ⟨e, he, hke⟩ := map_at hk
    injection hke with hk1 hk2
    subst hk1
    subst hk2
    have hdl := s3 _ _ (upd_same : upd H dL (.frz od (.dK (kvs L))) dL = _)
    have sl : ((wipe σ [l]).set l (some (V.str e.1)))[l]? = some (some (V.str e.1)) := List.getElem?_set_self (by show l < (σ.set l none).length; rw [List.length_set]; exact hl)
    have sj : ((wipe σ [l]).set l (some (V.str e.1)))[j]? = some (some (.str z)) := by rw [List.getElem?_set_ne (Ne.symm hjl)]; exact hz
    have si : ((wipe σ [l]).set l (some (V.str e.1)))[i]? = some (some (.ref dL)) := by rw [List.getElem?_set_ne (Ne.symm hil)]; exact hv
    have ft : others (L.take (n + 1)) z = others (L.take n) z ++ (if e.1 = z then [] else [e]) := by
      unfold others
      rw [List.take_add_one, he, List.filter_append]
      show _ ++ List.filter _ [e] = _
      by_cases q : e.1 = z
      · rw [if_pos q]
        simp [q]
      · rw [if_neg q]
        simp [q]
    refine ⟨?_, _, sl, _, sj, rfl, _, rfl, ?_⟩
    · show ((σ.set l none).set l (some (V.str e.1))).set l none = σ.set l none
      rw [List.set_set, List.set_set]
    · rw [dec_str]
      by_cases q : e.1 = z
      · rw [decide_eq_true q]
        show Same _ _ ∧ _
        rw [ft, if_pos q, List.append_nil]
        exact ⟨s3, hx⟩
      · rw [decide_eq_false q]
        have hlk := lookup_mem hnd (List.mem_of_getElem? he)
        have hlo : (others (L.take n) z).length ≤ 1000 := Nat.le_trans (List.length_filter_le ..) (by rw [List.length_take]; omega)
        refine ⟨_, sl, _, si, _, sl, dL, .int e.2, rfl, .inl ⟨kvs L, Sum.inr e.1, .inr ⟨od, hdl⟩, rfl, ?_⟩, _, Sum.inr e.1, rfl, hx, by rw [List.length_map, sizeLine_eq]; omega, same_mut s3 hD, ?_⟩
        · rw [kvs_get, hlk]
          rfl
        · rw [upd_same, ft, if_neg q]
          have hni : e.1 ∉ (others (L.take n) z).map (·.1) := fun hm => by
            obtain ⟨e2, he2, q2⟩ := List.mem_map.mp hm
            have h3 := (List.mem_filter.mp he2).1
            have nd2 := hnd.sublist ((List.take_sublist (n + 1) L).map (·.1))
            rw [List.take_add_one, he, List.map_append] at nd2
            exact (List.nodup_append.mp nd2).2.2 _ (List.mem_map_of_mem h3) _ List.mem_cons_self q2
          rw [kvs_put _ hni]
  · obtain ⟨s3, hx⟩ := p
    rw [List.length_map, List.take_length] at hx
    refine ⟨s3 _ _ upd_same, k D _ (fun a o e => ?_) hD0 ?_⟩
    · by_cases q : a = dL
      · rw [q, upd_same, ← hL, ← q]
        exact e
      · rw [upd_ne q]
        exact s3 _ _ (by rw [upd_ne q]; exact e)
    · rw [upd_ne hDn]
      exact hx
theorem sq_asg {g : TG} {u : TS} {Pq : V → Hp → Prop} {Dn : Ends} (e : EvP te σ H Pq) (k : ∀ v H', Same H H' → Pq v H' → g v σ H' (u Dn)) : tSeq (tAsg te g) u Dn σ H := e H (Same.refl H) _ k
theorem sq_lock {i j l o : Nat} {dL : Addr} {L : List (Str × Int)} {z : Str} {u : TS} {Dn : Ends} (hnd : (L.map (·.1)).Nodup) (hlen : L.length ≤ 1000) (hL : H dL = some (.dK (kvs L))) (hv : (wipe σ [l])[i]? = some (some (.ref dL))) (hv0 : σ[i]? = some (some (.ref dL))) (hz : (wipe σ [l])[j]? = some (some (.str z))) (hil : i ≠ l) (hjl : j ≠ l) (hl : l < σ.length)
    (k : ∀ D H', Same H H' → H D = none → H' D = some (.dK (kvs (others L z))) → u Dn (σ.set o (some (.ref D))) H') :
    tSeq (tLock (tAsg (tDc (iKeys (tVar i)) (gName l) (tTest (tOp rNe (tVar l) (tVar j))) (tVar l) (tDGet (tVar i) (tVar l)) [l]) (gName o))) u Dn σ H := lock_dc (Q := fun x H1 => gName o x σ H1 (u Dn)) hnd hlen hL hv hv0 hz hil hjl hl k
theorem merge_nil (A : List (Str × Int)) : mergeK (kvs A) [] = kvs A := rfl
theorem ev_orP {C : Addr} {i j l : Nat} {D : Addr} {A : List (Str × Int)} {z : Str} {n : Int} (hA : A.length ≤ 1000) (hi : σ[i]? = some (some (.ref D))) (hD : H D = some (.dK (kvs A))) (hz : z ∉ A.map (·.1)) (hj : σ[j]? = some (some (.str z))) (hl : σ[l]? = some (some (.int n))) :
    Ev C (tOp Rx.rOrD (tVar i) (tIf (tTest (tOp (rI0 fun i j => .bl (decide (j < i))) (tVar l) (tC (.int 0)))) (tDisp [(tVar j, tVar l)]) tDNewK)) σ H (.dic (A ++ if 0 < n then [(z, n)] else [])) := fun H1 s Q q => by
  refine ⟨_, hi, ?_⟩
  refine et_go (et_test (C := C) (ev_I0 (g := fun i j => V.bl (decide (j < i))) (a := .d (.bl (decide (0 < n)))) (ev_v (a := .d (.int n)) hl rfl) ev_int fun _ => rfl)) fun H2 s2 => ?_
  have hD2 := s2 _ _ (s _ _ hD)
  by_cases c : 0 < n
  · rw [decide_eq_true c]
    rw [if_pos c] at q
    refine fun p hp => ⟨_, hj, _, hl, upd_same, [(Sum.inr z, .int n)], rfl, (by show 1 ≤ 15; decide), ?_⟩
    have npD : D ≠ p := ne_of_none hD2 hp
    have em : mergeK [] [((Sum.inr z : Key), V.int n)] = kvs [(z, n)] := rfl
    rw [em]
    have hp2 : ∀ o, Same H2 (upd (upd H2 p (.dK [])) p o) := fun o => (same_mut (same_new hp _) hp)
    refine ⟨D, p, kvs A, kvs [(z, n)], rfl, rfl, by rw [upd_ne npD, upd_ne npD]; exact hD2, upd_same, by rw [List.length_map, sizeLine_eq]; show A.length + 1 ≤ _; omega, fun r hr => ?_⟩
    refine q _ _ (s2.trans ((hp2 _).trans (same_new hr _))) ⟨r, rfl, ?_⟩
    rw [upd_same]
    have e : mergeK (kvs A) (kvs [(z, n)]) = putK (kvs A) (Sum.inr z) (.int n) := rfl
    rw [e, kvs_put n hz]
  · rw [decide_eq_false c]
    rw [if_neg c, List.append_nil] at q
    refine fun p hp => ?_
    have npD : D ≠ p := ne_of_none hD2 hp
    refine ⟨D, p, kvs A, [], rfl, rfl, by rw [upd_ne npD]; exact hD2, upd_same, by rw [List.length_map, sizeLine_eq]; show A.length + 0 ≤ _; omega, fun r hr => ?_⟩
    refine q _ _ (s2.trans ((same_new hp _).trans (same_new hr _))) ⟨r, rfl, ?_⟩
    rw [upd_same, merge_nil]
def sp_plug (CP CS CB : Addr) : Sp := fun vs H Q _ => ∃ (H0 : Hp) (b : Addr) (Pn : Pl) (wr : List (Option Nat)) (st : List Bool) (L : List (Str × Int)) (c m : Nat) (z : Str) (n : Int),
  vs = [.ref b, .str z, .int n] ∧ BoxAt CP CS CB H0 H b Pn wr st L c m ∧ m ≤ 400 ∧ z ∈ Pn.names ∧ 0 ≤ n ∧ n ≤ 99 ∧ OkA Pn wr st ∧ (L.map (·.1)).Nodup ∧ L.length ≤ 100 ∧
  ∀ v H', Same H0 H' → Tx H H' → BoxAt CP CS CB H0 H' b Pn wr (trips Pn wr st (plugL L z n)).1 (plugL L z n) (c + (trips Pn wr st (plugL L z n)).2.length) (m + 1) → Im H' (dN (trips Pn wr st (plugL L z n)).2) v → Q v H'
theorem ok_Box_plug (T : Txt K mg CP CS CB) : C8.Met P w K mg base 14 CB "plug" (sp_plug CP CS CB) [] := by
  have c_check_name := ok_check_name (P := P) (w := w) (base := base) T
  have c_is_number := ok_is_number (P := P) (w := w) (base := base) T
  have c_Box_settle := ok_Box_settle (P := P) (w := w) (base := base) T
  refine met_s T.clB T.m_plug sc_Box_plug (fun vs H Q E h => ?_) fun f cdv A outer s H vs Q E hr h => ?_
  · obtain ⟨_, _, _, _, _, _, _, _, _, _, rfl, _⟩ := h
    rfl
  obtain ⟨H0, b, Pn, wr, st, L, c, m, z, n, rfl, hBox, hm, hz, n0, n99, hO, hnd, hL, k⟩ := h
  obtain ⟨s0, hb, dxb, p, so, dxs, t, sh, pt, ud, dL, vs, vw, xs, h1, h2, h3, hp0, hB⟩ := id hBox
  refine ⟨_, (pss_cons (ps_expr (C8.pe_c c_check_name hr (by decide) (by rfl) (pa_cons (Bf.pe_fldK K (pv 0)) (pa_cons (pv 1) pa_nil))))
    (pss_cons (ps_if (pt_not (pt_val (C8.pe_c c_is_number hr (by decide) (by rfl) (pa_cons (pv 2) (pa_cons pe_int (pa_cons (C8.pe_gc (by rfl) T.g_MAX_LOAD) pa_nil)))))) (pss_one ps_never) pss_nil)
    (pss_cons (ps_asg (Bf.pe_slK K (Bf.pe_fldK K (pv 0))) (pg_tup rfl (pgs_cons (pg_name (i := 3) sc_Box_plug.nd rfl (Or.inl rfl)) (pgs_cons (pg_name (i := 4) sc_Box_plug.nd rfl (Or.inr rfl)) (pgs_cons (pg_name (i := 5) sc_Box_plug.nd rfl (Or.inl rfl)) (pgs_cons (pg_name (i := 6) sc_Box_plug.nd rfl (Or.inl rfl)) pgs_nil))))))
    (pss_cons (ps_lock (Rx.ps_setDc (i := 7) (own := [("other", 8)]) (g := (gName 8)) rfl sc_Box_plug.nd rfl rfl (Rx.sw_trueD rfl rfl rfl (by decide +kernel)) (pi_keys (pv 4)) (blkOk_by (own := [("other", 8)]) (N := ["self", "name", "load", "state", "loads", "wiring", "count", "others", "other"]) (sc := defScope s_Box_plug) (by decide +kernel)) (fun _ _ _ _ _ => (pg_name (i := 8) sc_Box_plug.nd rfl (Or.inl rfl) (Or.inr rfl))) (fun _ _ _ _ _ => (pts_one (pt_cmpR op_ne (pv 8) (pv 1) (nomark _)))) (fun _ _ _ _ _ => (pv 8)) (fun _ _ _ _ _ => (pe_dget (hu_of hr) (pv 4) (pv 8) (fun _ _ => rfl)))))
    (pss_one (ps_ret (C8.pe_mt c_Box_settle hr (by decide) (pv 0) (pa_cons (pe_tup (pa_cons pe_str (pa_cons (pv 1) (pa_cons (pv 2) pa_nil)))) (pa_cons (pv 3) (pa_cons (pe_op Rx.op_orD (pv 7) (pe_ifExp (pt_cmpR op_gt (pv 2) pe_int (nomark _)) (pe_disp (pps_cons (pv 1) (pv 2) pps_nil) (by rfl) (by rfl) (fun z => by cases z) (by decide)) pe_dnewK)) pa_nil)))))))))), ?_⟩
  refine sq_expr (C := CP) (ev_call (as := [.pl Pn, .d (.str z)]) (ea_cons (ev_planB T hB (vv_v rfl)) (ea_one (ev_v rfl rfl))) ⟨Pn, z, rfl, hO.g, hz, rfl⟩) fun H1 s1 => ?_
  refine sq_ifn (et_f (et_not (b := true) (et_val (C := CP) (ev_t (ev_call (as := [.d (.int n), .d (.int 0), .d (.int 99)]) (ea_cons (ev_v rfl rfl) (ea_cons ev_int (ea_one (ev_c fun _ => rfl)))) ⟨n, 0, 99, rfl, rfl⟩) ?_))) rfl) (fun e => by cases e) fun _ H2 s2 => ?_
  · rw [decide_eq_true n0, decide_eq_true n99]
    rfl
  have s12 := s1.trans s2
  have hB2 := hB.mono s12
  refine sq_asg (vv_facts T hB2 (vv_v rfl)) fun u H3 s3 eu => ?_
  subst eu
  refine ⟨t, _, rfl, SqT.of (s3 _ _ hB2.tp), rfl, _, _, rfl, _, _, rfl, _, _, rfl, _, _, rfl, rfl, ?_⟩
  have s13 := s12.trans s3
  have hB3 := hB.mono s13
  refine sq_lock hnd (by omega) hB3.dl rfl rfl rfl (by decide) (by decide) (by show 8 < 9; decide) fun D H4 s4 hD hD4 => ?_
  have s14 := s13.trans s4
  have hB4 := hB.mono s14
  refine ⟨_, rfl, b, dxb, _, rfl, hB4.ins, rfl, ?_⟩
  refine tc_go (ev_tupN (el_cons (Pq := fun _ _ => True) (fun H1 s Q q => q _ H1 (Same.refl _) trivial) (el_cons (vv_v rfl) (el_cons (vv_v rfl) el_nil))) (by decide)) fun vop H5 s5 _ => ?_
  refine ⟨_, rfl, ?_⟩
  have hoL : (others L z).length ≤ 1000 := Nat.le_trans (List.length_filter_le ..) (by omega)
  refine tc_go (Pq := fun v H' => Rp CP H' (.dic (plugL L z n)) v) (ev_orP (D := D) hoL rfl (s5 _ _ hD4) (others_not L z) rfl rfl) fun vL H6 s6 hvL => ?_
  obtain ⟨dL', rfl, hdL'⟩ := hvL
  have s16 := s14.trans (s5.trans s6)
  have hB6 := hB.mono s16
  refine ⟨H0, b, Pn, wr, st, L, c, m, vop, _, dL', st, plugL L z n, rfl, hBox.mono s16, hm, hB6.is_, hdL', hO, fun v H7 q1 q2 q3 q4 => ?_⟩
  exact k v H7 q1 ((Same.tx s16).trans q2) q3 q4
def sp_reset (CP CS CB : Addr) : Sp := fun vs H Q _ => ∃ (H0 : Hp) (b : Addr) (Pn : Pl) (wr : List (Option Nat)) (st : List Bool) (c m : Nat),
  vs = [.ref b] ∧ BoxAt CP CS CB H0 H b Pn wr st [] c m ∧ m ≤ 400 ∧ OkA Pn wr st ∧
  ∀ H', Same H0 H' → Tx H H' → BoxAt CP CS CB H0 H' b Pn wr (allOn Pn) [] c (m + 1) → Q (.int (Pn.n : Nat)) H'
theorem ok_Box_reset (T : Txt K mg CP CS CB) : C8.Met P w K mg base 12 CB "reset" (sp_reset CP CS CB) [] := by
  have c_Plan_len := ok_Plan_len (P := P) (w := w) (base := base) T
  have c_trips_in := ok_trips_in (P := P) (w := w) (base := base) T
  have c_switched := ok_switched (P := P) (w := w) (base := base) T
  have c_State_go_on := ok_State_go_on (P := P) (w := w) (base := base) T
  refine met_s T.clB T.m_reset sc_Box_reset (fun vs H Q E h => ?_) fun f cdv A outer s H vs Q E hr h => ?_
  · obtain ⟨_, _, _, _, _, _, _, rfl, _⟩ := h
    rfl
  obtain ⟨H0, b, Pn, wr, st, c, m, rfl, hBox, hm, hO, k⟩ := h
  obtain ⟨s0, hb, dxb, p, so, dxs, t, sh, pt, ud, dL, vs, vw, xs, h1, h2, h3, hp0, hB⟩ := id hBox
  have h5 := hO.g.r5
  refine ⟨_, (pss_cons (ps_asg (Bf.pe_slK K (Bf.pe_fldK K (pv 0))) (pg_tup rfl (pgs_cons (pg_name (i := 1) sc_Box_reset.nd rfl (Or.inl rfl)) (pgs_cons (pg_name (i := 2) sc_Box_reset.nd rfl (Or.inl rfl)) (pgs_cons (pg_name (i := 3) sc_Box_reset.nd rfl (Or.inl rfl)) (pgs_cons (pg_name (i := 4) sc_Box_reset.nd rfl (Or.inl rfl)) pgs_nil))))))
    (pss_cons (ps_for PassesOwn.never rfl (pi_range3 (by rfl) T.b_range (pa_cons (pe_op op_sub (Bf.pe_lenP c_Plan_len T.clP hr (by decide) (by rfl) T.b_len (pa_cons (Bf.pe_fldK K (pv 0)) pa_nil)) pe_int) (pa_cons (pe_un un_neg pe_int) (pa_cons (pe_un un_neg pe_int) pa_nil)))) (pg_name (i := 5) sc_Box_reset.nd rfl (Or.inl rfl)) (pss_one (ps_if (pt_not (pt_val (pe_ix (Bf.ixT K) (pv 1) (pv 5) (fun _ _ => rfl)))) (pss_cons (ps_asg (C8.pe_c c_trips_in hr (by decide) (by rfl) (pa_cons (Bf.pe_fldK K (pv 0)) (pa_cons (pv 3) (pa_cons (C8.pe_c c_switched hr (by decide) (by rfl) (pa_cons (pv 1) (pa_cons (pv 5) pa_nil))) (pa_cons (pv 2) pa_nil))))) (pg_tup rfl (pgs_cons (pg_name (i := 1) sc_Box_reset.nd rfl (Or.inl rfl)) (pgs_cons (pg_name (i := 6) sc_Box_reset.nd rfl (Or.inl rfl)) pgs_nil))))
    (pss_one (ps_aug (i := 4) sc_Box_reset.nd rfl (Or.inl rfl) (pe_callB (Bf.lenSK K) (by rfl) T.b_len (by decide +kernel) (pa_cons (pv 6) pa_nil)) ip_add))) pss_nil)))
    (pss_cons (ps_expr (Bf.pe_mSl c_State_go_on T.clS hr (by decide) (Bf.pe_fldK K (pv 0)) (pa_cons (pe_tup (pa_cons pe_str pa_nil)) (pa_cons (pe_tup (pa_cons (pv 1) (pa_cons (pv 2) (pa_cons (pv 3) (pa_cons (pv 4) pa_nil))))) (pa_cons (Bf.pe_slK K (Bf.pe_fldK K (pv 0))) pa_nil)))))
    (pss_one (ps_ret (pe_callB (Bf.lenSK K) (by rfl) T.b_len (by decide +kernel) (pa_cons (pe_lc (own := [("one", 7)]) (g := (gName 7)) rfl sc_Box_reset.nd (pi_tup (pv 1)) (blkOk_by (own := [("one", 7)]) (N := ["self", "state", "loads", "wiring", "count", "breaker", "numbers", "one"]) (sc := defScope s_Box_reset) (by decide +kernel)) (fun _ _ _ _ _ => (pg_name (i := 7) sc_Box_reset.nd rfl (Or.inl rfl) (Or.inr rfl))) (fun _ _ _ _ _ => (pts_one (pt_val (pv 7)))) (fun _ _ _ _ _ => (pv 7))) pa_nil))))))), ?_⟩
  refine sq_asg (vv_facts T hB (vv_v rfl)) fun u H1 s1 eu => ?_
  subst eu
  refine ⟨t, _, rfl, SqT.of (s1 _ _ hB.tp), rfl, _, _, rfl, _, _, rfl, _, _, rfl, _, _, rfl, rfl, ?_⟩
  have hB1 := hB.mono s1
  refine sq_forSH (items := (List.range (((Pn.n : Int) - 1) - (-1)).toNat).map fun i => .int (((Pn.n : Int) - 1) - (i : Nat))) (it_down (C := CP) (a := (Pn.n : Int) - 1) (b := -1) (ea_cons (ev_I0 (g := fun i j => V.int (i - j)) (i := (Pn.n : Int)) (j := 1) (ev_lenP (ea_one (ev_planB T hB1 (vv_v rfl))) ⟨Pn, rfl, rfl⟩ (by omega)) ev_int fun _ => rfl) (ea_cons (ev_neg (i := 1) ev_int) (ea_one (ev_neg (i := 1) ev_int)))) (by omega) (by omega)).s
    (fun i σ' H' => ∃ (vst : V) (st' : List Bool) (o5 o6 : Option V), σ' = [some (.ref b), some vst, some (.ref dL), some vw, some (.int (c : Nat)), o5, o6, none] ∧ Rp CP H' (.d (dB st')) vst ∧ st'.length = Pn.n ∧ ∀ k, Pn.n - i ≤ k → k < Pn.n → st'.getD k false = true)
    (fun H2 s2 => ⟨vs, st, none, none, rfl, (hB1.mono s2).is_, hO.s, fun k h1 h2 => by omega⟩) ?_ ?_
  · rintro i d x σ' H2 H3 Dn' hi ⟨vst, st', o5, o6, rfl, hst, hl, hon⟩ s2 sH im hnx hct hrt
    obtain ⟨i', hi', rfl⟩ := map_at hi
    have hlt := (List.getElem?_eq_some_iff.mp hi').1
    rw [List.length_range] at hlt
    rw [List.getElem?_range hlt] at hi'
    have hii : i = i' := Option.some.inj hi'
    subst hii
    have ex := im_int im
    subst ex
    have hin : i < Pn.n := by omega
    have ei : ((Pn.n : Int) - 1) - (i : Nat) = ((Pn.n - 1 - i : Nat) : Int) := by omega
    rw [ei]
    have s13 := s1.trans sH
    have hB3 := hB.mono s13
    have hst3 := hst.mono s2
    refine st_ifn (et_not (et_val (C := CP) (ev_ixT (ev_v rfl hst3) (ev_v (a := .d (.int ((Pn.n - 1 - i : Nat) : Int))) rfl rfl) (st_at hl (by omega))))) (fun e H4 s4 => ?_) (fun e H4 s4 => ?_)
    · have hoff : st'.getD (Pn.n - 1 - i) false = false := by
        cases q : st'.getD (Pn.n - 1 - i) false with
        | true => rw [q] at e; cases e
        | false => rfl
      have hB4 := hB3.mono s4
      have hl2 : (st'.set (Pn.n - 1 - i) (!st'.getD (Pn.n - 1 - i) false)).length = Pn.n := by rw [List.length_set, hl]
      refine sq_asg (Pq := fun v H' => Rp CP H' (.d (.tup [dB (trips Pn wr (st'.set (Pn.n - 1 - i) (!st'.getD (Pn.n - 1 - i) false)) []).1, dN (trips Pn wr (st'.set (Pn.n - 1 - i) (!st'.getD (Pn.n - 1 - i) false)) []).2])) v)
        (ev_call (as := [.pl Pn, .d (dW wr), .d (dB (st'.set (Pn.n - 1 - i) (!st'.getD (Pn.n - 1 - i) false))), .dic []]) (ea_cons (ev_planB T hB4 (vv_v rfl)) (ea_cons (ev_v (a := .d (dW wr)) rfl hB4.iw) (ea_cons (ev_call (as := [.d (dB st'), .d (.int ((Pn.n - 1 - i : Nat) : Int))]) (ea_cons (ev_v rfl (hst3.mono s4)) (ea_one (ev_v rfl rfl))) ⟨st', Pn.n - 1 - i, rfl, by omega, by omega, rfl⟩) (ea_one (ev_v (a := .dic []) rfl ⟨dL, rfl, hB4.dl⟩))))) ⟨Pn, wr, _, [], rfl, ⟨hO.g, hO.w, hl2⟩, rfl⟩) fun vt H5 s5 hvt => ?_
      rw [trips_zero hO.g] at hvt
      obtain ⟨vl, vn, hvl, hvn, g⟩ := g_pair (K := K) (n := 1) (m := 6) hvt
      refine g _ _ ?_
      refine ⟨_, rfl, ?_⟩
      refine ev_go (P := fun v H' => Rp CP H' (.d (.int (([] : List Nat).length : Nat))) v) (ev_lenM (f := fun i : Nat => D.int (i : Nat)) (ev_v (a := .d (dN [])) rfl hvn)) fun vi H6 s6 hvi => ?_
      have ei2 := rp_int hvi
      subst ei2
      refine ⟨_, _, rfl, rfl, ?_⟩
      have ec : V.int ((c : Int) + ((([] : List Nat).length : Nat) : Int)) = V.int (c : Nat) := by
        show V.int ((c : Int) + ((0 : Nat) : Int)) = V.int (c : Int)
        rw [show (c : Int) + ((0 : Nat) : Int) = (c : Int) by omega]
      refine hnx _ _ ⟨vl, st'.set (Pn.n - 1 - i) (!st'.getD (Pn.n - 1 - i) false), some (.int ((Pn.n - 1 - i : Nat) : Int)), some vn, congrArg (fun z => [some (V.ref b), some vl, some (V.ref dL), some vw, some z, some (V.int ((Pn.n - 1 - i : Nat) : Int)), some vn, none]) ec, Im.mono hvl s6, hl2, fun k h1 h2 => ?_⟩ (s4.trans (s5.trans s6))
      · rw [hoff, List.getD_eq_getElem?_getD, List.getElem?_set]
        by_cases q : Pn.n - 1 - i = k
        · rw [if_pos q, if_pos (by omega)]
          rfl
        · rw [if_neg q, ← List.getD_eq_getElem?_getD]
          exact hon k (by omega) h2
    · have hon2 : st'.getD (Pn.n - 1 - i) false = true := by
        cases q : st'.getD (Pn.n - 1 - i) false with
        | true => rfl
        | false => rw [q] at e; cases e
      refine hnx _ _ ⟨vst, st', _, _, rfl, hst3.mono s4, hl, fun k h1 h2 => ?_⟩ s4
      by_cases q : Pn.n - 1 - i = k
      · rw [← q]
        exact hon2
      · exact hon k (by omega) h2
  · rintro σ' H3 ⟨vst, st', o5, o6, rfl, hst, hl, hon⟩ sH
    rw [List.length_map, List.length_range] at hon
    have eon := all_on_eq hl fun i hi => hon i (by omega) hi
    subst eon
    have s13 := s1.trans sH
    have hB3 := hB.mono s13
    refine sq_mSl (vv_held T hB3 (vv_v rfl)) hB3.sl hB3.xd fun H4 s4 => ?_
    have s14 := s13.trans s4
    have hB4 := hB.mono s14
    refine tc_go (ev_tupN (el_cons (Pq := fun _ _ => True) (fun H1 s Q q => q _ H1 (Same.refl _) trivial) el_nil) (by decide)) fun vop H5 s5 _ => ?_
    refine ⟨_, rfl, _, rfl, _, rfl, _, rfl, by show 4 ≤ sizeLine; decide, fun t' ht' => ?_⟩
    have s6 := s5.trans (same_new ht' (.tup [vst, .ref dL, vw, .int (c : Nat)]))
    have hB6 := hB4.mono s6
    refine tc_go (Pq := fun u _ => u = .ref sh) (vv_sl (vv_held T hB6 (vv_v rfl)) hB6.sl hB6.xd T.clS T.slH rfl) fun u H7 s7 eu => ?_
    subst eu
    have hB7 := hB6.mono s7
    have sB : Same H H7 := s14.trans (s6.trans s7)
    refine ⟨so, dxs, vop, .ref t', .ref sh, .ref t, .ref sh, .ref ud, pt, xs, rfl, hB7.sl, hB7.xd, h3, hB7.pa, by have := hB.ln; omega, fun H8 pt' ud' xs' q1 q2 q3 q4 q5 => ?_⟩
    obtain ⟨hbx, tx, sm⟩ := box_next (CP := CP) (CB := CB) s0 hb h1 h2 h3 hp0 hB sB (t' := t') (c' := c) (L' := []) (st' := allOn Pn) (s7 _ _ upd_same) (Im.mono hst (s4.trans (s6.trans s7))) (sB _ _ hB.dl) q1 q2 q3 q4 q5
    have txH : Tx H H8 := (Same.tx sB).trans tx
    have hst8 : Rp CP H8 (.d (dB (allOn Pn))) vst := Im.tx (Im.mono hst (s4.trans (s6.trans s7))) tx
    refine st_ret (C := CP) (a := .d (.int (Pn.n : Nat))) ?_ fun v H9 s9 hv => ?_
    · have e : ((allOn Pn).filterMap fun b => if b = true then some (D.bl b) else none).length = Pn.n := by
        have this : ((allOn Pn).filterMap fun b => if b = true then some (D.bl b) else none) = (allOn Pn).map D.bl := by
          unfold allOn
          induction Pn.rates with
          | nil => rfl
          | cons r l ih =>
            rw [List.map_cons, List.filterMap_cons, List.map_cons, ← ih]
            rfl
        rw [this, List.length_map, allOn_len]
      rw [← e]
      refine ev_b (ea_one (ev_lca (φ := D.bl) (it_tup (ev_v (a := .d (dB (allOn Pn))) rfl hst8)).s (fun b => if b = true then some (D.bl b) else none) (by rw [allOn_len]; omega) fun i a x H2 hi s2 im => turnO_name rfl ?_ fun d hd => ?_)) er_len_lst
      · have e := et_val (C := CP) (H := H2) (ev_v (i := 7) (a := .d (.bl a)) (σ := ((wipe [some (.ref b), some vst, some (.ref dL), some vw, some (.int (c : Nat)), o5, o6, none] [7]).set 7 (some x))) rfl im)
        cases a <;> exact e
      · cases a with
        | false => cases hd
        | true =>
          cases hd
          exact ev_v rfl im
    · rw [rp_int hv]
      exact k H9 (sm.trans s9) (txH.trans (Same.tx s9)) (hbx.mono s9)
end
end Bf

/-! D13: the law's drawing. -/
namespace Bf
open PySem PySem.Spec PyProof.Rows L2 Bx
/-- the row: the script, where one stands, the stir, what is left of a big cell -/
def RowAt (K : PySem.W.Frag) (a : Addr) (ns : List Int) (H : Hp) (r : Addr) : Prop := ∃ (i j k : Int), H r = some (.lst [.ref a, .int i, .int j, .int k]) ∧ SqL K H a (ns.map V.int) ∧ 0 ≤ i ∧ ns.length ≤ 1000
/-- all but r stays -/
def SB (r : Addr) (H H' : Hp) : Prop := ∀ b o, b ≠ r → H b = some o → H' b = some o
theorem SB.refl (r : Addr) (H : Hp) : SB r H H := fun _ _ _ e => e
theorem SB.trans {r : Addr} {H H1 H2 : Hp} (a : SB r H H1) (b : SB r H1 H2) : SB r H H2 := fun c o n e => b c o n (a c o n e)
theorem Same.sb {r : Addr} {H H' : Hp} (s : Same H H') : SB r H H' := fun b o _ e => s b o e
theorem sb_upd (r : Addr) (H : Hp) (o : HO) : SB r H (upd H r o) := fun b u n e => by rw [upd_ne n]; exact e
theorem SB.tx {r : Addr} {H H' : Hp} (s : SB r H H') {us : List V} (h : H r = some (.lst us)) : Tx H H' := fun a xs e => s a _ (ne_of e h fun z => nomatch z) e
theorem RowAt.tx {K : PySem.W.Frag} {a : Addr} {ns : List Int} {r : Addr} {H H' : Hp} (h : RowAt K a ns H r) (s : SB r H H') : Tx H H' := by
  obtain ⟨i, j, k, e, _⟩ := h
  exact s.tx e
theorem RowAt.mono {K : PySem.W.Frag} {a : Addr} {ns : List Int} {r : Addr} {H H' : Hp} (h : RowAt K a ns H r) (s : Same H H') : RowAt K a ns H' r := by
  obtain ⟨i, j, k, e, q, i0, hl⟩ := h
  exact ⟨i, j, k, s _ _ e, Same.seq s q, i0, hl⟩
theorem seq_upd {K : PySem.W.Frag} {H : Hp} {r a : Addr} {ns : List Int} {v : V} {us us' : List V} {b : Addr} (e : H r = some (.lst (.ref b :: us))) (q : SqL K H a (ns.map V.int)) : SqL K (upd H r (.lst us')) a (ns.map V.int) := by
  rcases q with (q | ⟨o, q⟩) | q
  · refine .inl (.inl ?_)
    have n : a ≠ r := ne_of q e fun z => by
      injection z with z
      cases ns with
      | nil => cases z
      | cons n ns => cases z
    rw [upd_ne n]
    exact q
  · refine .inl (.inr ⟨o, ?_⟩)
    rw [upd_ne (ne_of q e fun z => nomatch z)]
    exact q
  · exact .inr q
section
variable {P : Program} {w : World} {K : PySem.W.Frag} {mg : Str → Option Value} {base : Heap} {CP CS CB : Addr} {σ : L2.St} {H : Hp} {ta te : TE} {C : Addr}
theorem vv_ixL {a : Addr} {xs : List V} {i : Nat} {v : V} (e : EvV te σ H (.ref a)) (h : H a = some (.lst xs)) (ei : EvV ta σ H (.int (i : Nat))) (l : xs[i]? = some v) : EvV (tOp (rIxL K) te ta) σ H v := fun H1 s Q q =>
  e H1 s _ fun u H2 s2 eu => ei H2 (s.trans s2) _ fun w H3 s3 ew => ⟨a, xs, _, v, eu, ew, SqL.of ((s.trans (s2.trans s3)) _ _ h), atI_nat l, q v H3 (s2.trans s3) rfl⟩
theorem vv_ixS {a : Addr} {xs : List V} {i : Nat} {v : V} (e : EvV te σ H (.ref a)) (h : SqL K H a xs) (ei : EvV ta σ H (.int (i : Nat))) (l : xs[i]? = some v) : EvV (tOp (rIxL K) te ta) σ H v := fun H1 s Q q =>
  e H1 s _ fun u H2 s2 eu => ei H2 (s.trans s2) _ fun w H3 s3 ew => ⟨a, xs, _, v, eu, ew, Same.seq (s.trans (s2.trans s3)) h, atI_nat l, q v H3 (s2.trans s3) rfl⟩
theorem vv_d {d : D} {v : V} (e : Ev C te σ H (.d d)) (h : ∀ H', Im H' d v → True) (hv : ∀ H' u, Im H' d u → u = v) : EvV te σ H v := fun H1 s Q q => e H1 s _ fun u H2 s2 hu => q u H2 s2 (hv H2 u (rp_d hu))
theorem ev_zi {i : Int} (e : EvV te σ H (.int i)) : Ev C te σ H (.d (.int i)) := vv_ev e fun _ _ => rfl
theorem vv_zi {i : Int} (e : Ev C te σ H (.d (.int i))) : EvV te σ H (.int i) := fun H1 s Q q => e H1 s _ fun u H2 s2 hu => q u H2 s2 (rp_int hu)
abbrev rInt1 : List V → Hp → VK → Prop := fun xs H Q => (∃ i, xs = [.int i] ∧ Q (.int i) H) ∨ ∃ k, xs = [.bl k] ∧ Q (.int (if k then 1 else 0)) H
theorem er_int1 {i : Int} : EvR C rInt1 [.d (.int i)] (.d (.int i)) := fun vs H Q h q => by
  obtain ⟨v, e, hv⟩ := h.one
  exact .inl ⟨i, by rw [e, rp_int hv], q _ H (Same.refl H) rfl⟩
/-- row[j] = e -/
theorem sq_put {r : Addr} {xs : List V} {j : Nat} {v : V} {i : Nat} {u : TS} {Dn : Ends} (e : EvV te σ H v) (hi : σ[i]? = some (some (.ref r))) (h : H r = some (.lst xs)) (hj : j < xs.length)
    (k : ∀ H', Same H H' → u Dn σ (upd H' r (.lst (xs.set j v)))) : tSeq (tAsg te (gSub (tVar i) (tC (.int (j : Nat))) rSetL)) u Dn σ H := e H (Same.refl H) _ fun v' H1 s1 ev => by
  subst ev
  refine ⟨_, hi, r, xs, _, j, rfl, rfl, s1 _ _ h, ?_, k H1 s1⟩
  unfold ixN
  rw [if_pos (by omega), if_pos (by omega), Int.toNat_natCast]
theorem st_put {r : Addr} {xs : List V} {j : Nat} {v : V} {i : Nat} {Dn : Ends} (e : EvV te σ H v) (hi : σ[i]? = some (some (.ref r))) (h : H r = some (.lst xs)) (hj : j < xs.length)
    (k : ∀ H', Same H H' → Dn.nx σ (upd H' r (.lst (xs.set j v)))) : tAsg te (gSub (tVar i) (tC (.int (j : Nat))) rSetL) Dn σ H := sq_put (u := fun D σ H => Dn.nx σ H) (Dn := Dn) e hi h hj k
def sp_taken (K : PySem.W.Frag) : Sp := fun vs H Q _ => ∃ (r : Addr) (m : Nat) (a : Addr) (ns : List Int), vs = [.ref r, .int (m : Nat)] ∧ RowAt K a ns H r ∧ 1 ≤ m ∧ m ≤ 1000 ∧ ∀ (v : Nat) H', v < m → SB r H H' → RowAt K a ns H' r → Q (.int (v : Nat)) H'
theorem mod_nat (a : Int) {m : Nat} (h : 1 ≤ m) : ∃ v : Nat, v < m ∧ a % (m : Int) = (v : Int) := by
  have h1 := Int.emod_nonneg a (show (m : Int) ≠ 0 by omega)
  have h2 := Int.emod_lt_of_pos a (show (0 : Int) < m by omega)
  exact ⟨(a % (m : Int)).toNat, by omega, by omega⟩
theorem ok__law_taken (T : Txt K mg CP CS CB) : C8.Cal P w K mg base 2 "_law_taken" (sp_taken K) [] := by
  refine cal_s T.d__law_taken sc__law_taken (fun vs H Q E h => ?_) fun f cdv A outer s H vs Q E hr h => ?_
  · obtain ⟨_, _, _, _, rfl, _⟩ := h
    rfl
  obtain ⟨r, m, a, ns, rfl, ⟨i, j, k0, hrow, hs, i0, hns⟩, m1, m2, k⟩ := h
  refine ⟨_, (pss_cons (ps_if (pt_cmpR op_gt (pe_ix (Bf.ixL K) (pv 0) pe_int (fun _ _ => rfl)) pe_int (nomark _)) (pss_cons (ps_set (i := 2) sc__law_taken.nd rfl (Or.inl rfl) (pe_op op_mod (pe_callTy call_int1 (by rfl) T.b_int (by decide +kernel) (pa_cons (pe_ix (Bf.ixL K) (pv 0) pe_int (fun _ _ => rfl)) pa_nil)) (pv 1)))
    (pss_cons (ps_asg (pe_op op_fdiv (pe_ix (Bf.ixL K) (pv 0) pe_int (fun _ _ => rfl)) (pv 1)) (pg_sub (pv 0) pe_int set_list))
    (pss_one (ps_ret (pv 2))))) pss_nil)
    (pss_cons (ps_asg (pe_op op_add (pe_ix (Bf.ixL K) (pv 0) pe_int (fun _ _ => rfl)) pe_int) (pg_sub (pv 0) pe_int set_list))
    (pss_cons (ps_if (pt_cmpR op_gt (pe_ix (Bf.ixL K) (pv 0) pe_int (fun _ _ => rfl)) (pe_callB (Bf.lenSK K) (by rfl) T.b_len (by decide +kernel) (pa_cons (pe_ix (Bf.ixL K) (pv 0) pe_int (fun _ _ => rfl)) pa_nil)) (nomark _)) (pss_cons (ps_asg (pe_op op_mod (pe_callTy call_int1 (by rfl) T.b_int (by decide +kernel) (pa_cons (pe_op op_add (pe_op op_mul (pe_ix (Bf.ixL K) (pv 0) pe_int (fun _ _ => rfl)) pe_int) pe_int) pa_nil)) pe_int) (pg_sub (pv 0) pe_int set_list))
    (pss_one (ps_ret (pe_op op_mod (pe_callTy call_int1 (by rfl) T.b_int (by decide +kernel) (pa_cons (pe_op op_fdiv (pe_ix (Bf.ixL K) (pv 0) pe_int (fun _ _ => rfl)) pe_int) pa_nil)) (pv 1))))) pss_nil)
    (pss_cons (ps_set (i := 3) sc__law_taken.nd rfl (Or.inl rfl) (pe_ix (Bf.ixL K) (pe_ix (Bf.ixL K) (pv 0) pe_int (fun _ _ => rfl)) (pe_op op_sub (pe_ix (Bf.ixL K) (pv 0) pe_int (fun _ _ => rfl)) pe_int) (fun _ _ => rfl)))
    (pss_cons (ps_asg (pe_op op_mod (pe_callTy call_int1 (by rfl) T.b_int (by decide +kernel) (pa_cons (pe_op op_add (pe_op op_add (pe_op op_mul (pe_ix (Bf.ixL K) (pv 0) pe_int (fun _ _ => rfl)) pe_int) (pv 3)) pe_int) pa_nil)) pe_int) (pg_sub (pv 0) pe_int set_list))
    (pss_cons (ps_if (pt_cmpR op_ge (pv 3) (pe_op op_pow pe_int pe_int) (nomark _)) (pss_one (ps_asg (pe_op op_fdiv (pv 3) (pv 1)) (pg_sub (pv 0) pe_int set_list))) pss_nil)
    (pss_one (ps_ret (pe_op op_mod (pe_callTy call_int1 (by rfl) T.b_int (by decide +kernel) (pa_cons (pv 3) pa_nil)) (pv 1)))))))))), ?_⟩
  have hm : (0 : Int) < (m : Int) := by omega
  have hm2 : (m : Int) < 1073741824 := by omega
  refine sq_ifn (et_test (C := CP) (ev_I0 (g := fun i j => V.bl (decide (j < i))) (a := .d (.bl (decide (0 < k0)))) (ev_zi (vv_ixL (i := 3) (vv_v rfl) hrow vv_int rfl)) ev_int fun _ => rfl)) (fun e H1 s1 => ?_) (fun e H1 s1 => ?_)
  · have hrow1 := s1 _ _ hrow
    obtain ⟨v, hv, ev⟩ := mod_nat k0 m1
    refine sq_set (C := CP) (ev_I (g := fun i j => V.int (i % j)) (a := .d (.int (v : Nat))) (i := k0) (j := (m : Int)) (ev_b (ea_one (ev_zi (vv_ixL (i := 3) (vv_v rfl) hrow1 vv_int rfl))) er_int1) (ev_v rfl rfl) hm fun _ => by show V.int _ = V.int _; rw [ev]) fun u H2 s2 hu => ?_
    have hrow2 := s2 _ _ hrow1
    refine sq_put (j := 3) (v := .int (k0 / (m : Int))) (vv_zi (C := CP) (ev_I (g := fun i j => V.int (i / j)) (i := k0) (j := (m : Int)) (ev_zi (vv_ixL (i := 3) (vv_v rfl) hrow2 vv_int rfl)) (ev_v rfl rfl) ⟨hm, hm2⟩ fun _ => rfl)) rfl hrow2 (by show 3 < 4; decide) fun H3 s3 => ?_
    have s13 := s1.trans (s2.trans s3)
    refine st_ret (C := CP) (a := .d (.int (v : Nat))) (ev_v rfl (by rw [rp_int hu]; exact rfl)) fun u H4 s4 hu4 => ?_
    rw [rp_int hu4]
    refine k v H4 hv ((Same.sb s13).trans ((sb_upd r H3 _).trans (Same.sb s4))) ?_
    exact RowAt.mono ⟨i, j, _, upd_same, seq_upd (v := .non) (s3 _ _ hrow2) (Same.seq s13 hs), i0, hns⟩ s4
  · have hrow1 := s1 _ _ hrow
    refine sq_put (j := 1) (v := .int (i + 1)) (vv_zi (C := CP) (ev_I0 (g := fun i j => V.int (i + j)) (i := i) (j := 1) (ev_zi (vv_ixL (i := 1) (vv_v rfl) hrow1 vv_int rfl)) ev_int fun _ => rfl)) rfl hrow1 (by show 1 < 4; decide) fun H2 s2 => ?_
    have s12 := s1.trans s2
    have hrow2 : upd H2 r (.lst [.ref a, .int (i + 1), .int j, .int k0]) r = some (.lst [.ref a, .int (i + 1), .int j, .int k0]) := upd_same
    have hs2 : SqL K (upd H2 r (.lst [.ref a, .int (i + 1), .int j, .int k0])) a (ns.map V.int) := seq_upd (v := .non) (s2 _ _ hrow1) (Same.seq s12 hs)
    have sb2 : SB r H (upd H2 r (.lst [.ref a, .int (i + 1), .int j, .int k0])) := (Same.sb s12).trans (sb_upd r H2 _)
    show tSeq _ _ _ _ (upd H2 r (.lst [.ref a, .int (i + 1), .int j, .int k0]))
    generalize upd H2 r (.lst [.ref a, .int (i + 1), .int j, .int k0]) = H3 at hrow2 hs2 sb2
    have elen : Ev CP (fun σ H Q => (tCons (tOp (rIxL K) (tVar 0) (tC (.int 0))) tNil) σ H fun xs H1 => rLenK K xs H1 Q) [some (.ref r), some (.int (m : Nat)), none, none] H3 (.d (.int (ns.length : Nat))) := fun H1 s Q q =>
      (vv_ixL (K := K) (i := 0) (te := tVar 0) (ta := tC (.int 0)) (vv_v rfl) hrow2 vv_int rfl) H1 s _ fun u H4 s4 eu => ⟨a, _, by rw [eu], .inl (Same.seq (s.trans s4) hs2), by
        rw [List.length_map]
        exact q _ H4 s4 rfl⟩
    refine sq_ifn (et_test (C := CP) (ev_I0 (g := fun i j => V.bl (decide (j < i))) (a := .d (.bl (decide ((ns.length : Int) < i + 1)))) (ev_zi (vv_ixL (i := 1) (vv_v rfl) hrow2 vv_int rfl)) elen fun _ => rfl)) (fun e2 H4 s4 => ?_) (fun e2 H4 s4 => ?_)
    · have hrow4 := s4 _ _ hrow2
      refine sq_put (j := 2) (v := .int ((j * 48271 + 11) % 2147483647)) (vv_zi (C := CP) (ev_I (g := fun i j => V.int (i % j)) (i := j * 48271 + 11) (j := 2147483647) (ev_b (ea_one (ev_I0 (g := fun i j => V.int (i + j)) (a := .d (.int (j * 48271 + 11))) (ev_I (g := fun i j => V.int (i * j)) (a := .d (.int (j * 48271))) (ev_zi (vv_ixL (i := 2) (vv_v rfl) hrow4 vv_int rfl)) ev_int (.inr ⟨by decide, by decide⟩) fun _ => rfl) ev_int fun _ => rfl)) er_int1) ev_int (by decide) fun _ => rfl)) rfl hrow4 (by show 2 < 4; decide) fun H5 s5 => ?_
      have hrow5 : upd H5 r (.lst [.ref a, .int (i + 1), .int ((j * 48271 + 11) % 2147483647), .int k0]) r = some (.lst [.ref a, .int (i + 1), .int ((j * 48271 + 11) % 2147483647), .int k0]) := upd_same
      have hs5 : SqL K (upd H5 r (.lst [.ref a, .int (i + 1), .int ((j * 48271 + 11) % 2147483647), .int k0])) a (ns.map V.int) := seq_upd (v := .non) (s5 _ _ hrow4) (Same.seq (s4.trans s5) hs2)
      have sb5 : SB r H (upd H5 r (.lst [.ref a, .int (i + 1), .int ((j * 48271 + 11) % 2147483647), .int k0])) := sb2.trans ((Same.sb (s4.trans s5)).trans (sb_upd r H5 _))
      show tRet _ _ _ (upd H5 r (.lst [.ref a, .int (i + 1), .int ((j * 48271 + 11) % 2147483647), .int k0]))
      generalize upd H5 r (.lst [.ref a, .int (i + 1), .int ((j * 48271 + 11) % 2147483647), .int k0]) = H6 at hrow5 hs5 sb5
      obtain ⟨v, hv, ev⟩ := mod_nat (((j * 48271 + 11) % 2147483647) / 7) m1
      refine st_ret (C := CP) (a := .d (.int (v : Nat))) (ev_I (g := fun i j => V.int (i % j)) (i := ((j * 48271 + 11) % 2147483647) / 7) (j := (m : Int)) (ev_b (ea_one (ev_I (g := fun i j => V.int (i / j)) (a := .d (.int (((j * 48271 + 11) % 2147483647) / 7))) (ev_zi (vv_ixL (i := 2) (vv_v rfl) hrow5 vv_int rfl)) ev_int ⟨by decide, by decide⟩ fun _ => rfl)) er_int1) (ev_v rfl rfl) hm fun _ => by show V.int _ = V.int _; rw [ev]) fun u H7 s7 hu => ?_
      rw [rp_int hu]
      exact k v H7 hv (sb5.trans (Same.sb s7)) (RowAt.mono ⟨_, _, _, hrow5, hs5, by omega, hns⟩ s7)
    · have hrow4 := s4 _ _ hrow2
      have hs4 := Same.seq s4 hs2
      have hle : i + 1 ≤ (ns.length : Int) := by
        have := of_decide_eq_false e2
        omega
      obtain ⟨n, hn⟩ : ∃ n : Nat, i = (n : Int) := ⟨i.toNat, by omega⟩
      subst hn
      have hnl : n < ns.length := by omega
      have hcell : (ns.map V.int)[n]? = some (.int ns[n]) := by rw [List.getElem?_map, List.getElem?_eq_getElem hnl] <;> rfl
      generalize ns[n] = cell at hcell
      refine sq_set (C := CP) (a := .d (.int cell)) (ev_zi (vv_ixS (i := n) (vv_ixL (i := 0) (vv_v rfl) hrow4 vv_int rfl) hs4 (vv_zi (C := CP) (ev_I0 (g := fun i j => V.int (i - j)) (i := (n : Int) + 1) (j := 1) (ev_zi (vv_ixL (i := 1) (vv_v rfl) hrow4 vv_int rfl)) ev_int fun _ => by show V.int _ = V.int _; congr 1; omega)) hcell)) fun vc H5 s5 hvc => ?_
      have evc := rp_int hvc
      subst evc
      have hrow5 := s5 _ _ hrow4
      have hs5 := Same.seq s5 hs4
      refine sq_put (j := 2) (v := .int ((j * 48271 + cell + 11) % 2147483647)) (vv_zi (C := CP) (ev_I (g := fun i j => V.int (i % j)) (i := j * 48271 + cell + 11) (j := 2147483647) (ev_b (ea_one (ev_I0 (g := fun i j => V.int (i + j)) (a := .d (.int (j * 48271 + cell + 11))) (ev_I0 (g := fun i j => V.int (i + j)) (a := .d (.int (j * 48271 + cell))) (ev_I (g := fun i j => V.int (i * j)) (a := .d (.int (j * 48271))) (ev_zi (vv_ixL (i := 2) (vv_v rfl) hrow5 vv_int rfl)) ev_int (.inr ⟨by decide, by decide⟩) fun _ => rfl) (ev_v (a := .d (.int cell)) rfl rfl) fun _ => rfl) ev_int fun _ => rfl)) er_int1) ev_int (by decide) fun _ => rfl)) rfl hrow5 (by show 2 < 4; decide) fun H6 s6 => ?_
      have hrow6 : upd H6 r (.lst [.ref a, .int ((n : Int) + 1), .int ((j * 48271 + cell + 11) % 2147483647), .int k0]) r = some (.lst [.ref a, .int ((n : Int) + 1), .int ((j * 48271 + cell + 11) % 2147483647), .int k0]) := upd_same
      have hs6 : SqL K (upd H6 r (.lst [.ref a, .int ((n : Int) + 1), .int ((j * 48271 + cell + 11) % 2147483647), .int k0])) a (ns.map V.int) := seq_upd (v := .non) (s6 _ _ hrow5) (Same.seq s6 hs5)
      have sb6 : SB r H (upd H6 r (.lst [.ref a, .int ((n : Int) + 1), .int ((j * 48271 + cell + 11) % 2147483647), .int k0])) := sb2.trans ((Same.sb (s4.trans (s5.trans s6))).trans (sb_upd r H6 _))
      show tSeq _ _ _ _ (upd H6 r (.lst [.ref a, .int ((n : Int) + 1), .int ((j * 48271 + cell + 11) % 2147483647), .int k0]))
      generalize upd H6 r (.lst [.ref a, .int ((n : Int) + 1), .int ((j * 48271 + cell + 11) % 2147483647), .int k0]) = H7 at hrow6 hs6 sb6
      obtain ⟨v, hv, ev⟩ := mod_nat cell m1
      have fin : ∀ H8, SB r H H8 → RowAt K a ns H8 r → tRet (tOp (rI (fun _ j => 0 < j) fun i j => .int (i % j)) (tCB rInt1 (tCons (tVar 3) tNil)) (tVar 1)) { nx := fun _ H' => Q .non H', rt := Q } [some (.ref r), some (.int (m : Nat)), none, some (.int cell)] H8 := fun H8 sb8 hr8 => by
        refine st_ret (C := CP) (a := .d (.int (v : Nat))) (ev_I (g := fun i j => V.int (i % j)) (i := cell) (j := (m : Int)) (ev_b (ea_one (ev_v (a := .d (.int cell)) rfl rfl)) er_int1) (ev_v rfl rfl) hm fun _ => by show V.int _ = V.int _; rw [ev]) fun u H9 s9 hu => ?_
        rw [rp_int hu]
        exact k v H9 hv (sb8.trans (Same.sb s9)) (hr8.mono s9)
      refine sq_ifn (et_test (C := CP) (ev_I0 (g := fun i j => V.bl (decide (j ≤ i))) (a := .d (.bl (decide ((10 : Int) ^ 18 ≤ cell)))) (ev_v (a := .d (.int cell)) rfl rfl) (ev_I (g := fun i j => V.int (i ^ j.toNat)) (a := .d (.int ((10 : Int) ^ 18))) (i := 10) (j := 18) ev_int ev_int ⟨by decide, by decide, by decide⟩ fun _ => rfl) fun _ => rfl)) (fun e3 H8 s8 => ?_) (fun e3 H8 s8 => ?_)
      · have hrow8 := s8 _ _ hrow6
        refine st_put (j := 3) (v := .int (cell / (m : Int))) (vv_zi (C := CP) (ev_I (g := fun i j => V.int (i / j)) (i := cell) (j := (m : Int)) (ev_v rfl rfl) (ev_v rfl rfl) ⟨hm, hm2⟩ fun _ => rfl)) rfl hrow8 (by show 3 < 4; decide) fun H9 s9 => ?_
        exact fin _ (sb6.trans ((Same.sb (s8.trans s9)).trans (sb_upd r H9 _))) ⟨_, _, _, upd_same, seq_upd (v := .non) (s9 _ _ hrow8) (Same.seq (s8.trans s9) hs6), by omega, hns⟩
      · exact fin _ (sb6.trans (Same.sb s8)) (RowAt.mono ⟨_, _, _, hrow6, hs6, by omega, hns⟩ s8)
theorem RowAt.row {a r : Addr} {ns : List Int} {H : Hp} (h : RowAt K a ns H r) : ∃ us, H r = some (.lst us) := by
  obtain ⟨i, j, k, e, _⟩ := h
  exact ⟨_, e⟩
/-- what is new may be written -/
theorem RowAt.upd_new {a r D : Addr} {ns : List Int} {Hb H : Hp} {o : HO} (h : RowAt K a ns H r) (hb : RowAt K a ns Hb r) (hD : Hb D = none) : RowAt K a ns (upd H D o) r := by
  obtain ⟨i, j, k, e, q, i0, hl⟩ := h
  obtain ⟨_, _, _, e', q', _, _⟩ := hb
  refine ⟨i, j, k, by rw [upd_ne (ne_of_none e' hD)]; exact e, ?_, i0, hl⟩
  rcases q' with (q' | ⟨o', q'⟩) | q'
  · have n := ne_of_none q' hD
    rcases q with (q | ⟨o2, q⟩) | q
    · exact .inl (.inl (by rw [upd_ne n]; exact q))
    · exact .inl (.inr ⟨o2, by rw [upd_ne n]; exact q⟩)
    · exact .inr q
  · have n := ne_of_none q' hD
    rcases q with (q | ⟨o2, q⟩) | q
    · exact .inl (.inl (by rw [upd_ne n]; exact q))
    · exact .inl (.inr ⟨o2, by rw [upd_ne n]; exact q⟩)
    · exact .inr q
  · exact .inr q'
theorem sb_new {r D : Addr} {H H' : Hp} {o : HO} (s : SB r H H') (hD : H D = none) : SB r H (upd H' D o) := fun b u n e => by
  rw [upd_ne (ne_of_none e hD)]
  exact s b u n e
theorem PlanAt.sb {r p : Addr} {H H' : Hp} {Pn : Pl} {us : List V} (h : PlanAt C H p Pn) (s : SB r H H') (hr : H r = some (.lst us)) : PlanAt C H' p Pn := by
  obtain ⟨dx, t, ⟨h1, h2⟩, h3⟩ := h
  exact ⟨dx, t, ⟨s _ _ (ne_of h1 hr fun z => by unfold SlX.SlO at z; cases z) h1, s _ _ (ne_of h2 hr fun z => nomatch z) h2⟩, h3.tx (s.tx hr)⟩
/-- one draw -/
theorem dr_taken {i m : Nat} {r a : Addr} {ns : List Int} {E : XK} {Q : VK} (hv : σ[i]? = some (some (.ref r))) (hr : RowAt K a ns H r) (m1 : 1 ≤ m) (m2 : m ≤ 1000) (k : ∀ (v : Nat) H', v < m → SB r H H' → RowAt K a ns H' r → Q (.int (v : Nat)) H') :
    tCall (sp_taken K) [] E (tCons (tVar i) (tCons (tC (.int (m : Nat))) tNil)) σ H Q := ⟨_, hv, r, m, a, ns, rfl, hr, m1, m2, k⟩
/-- a comprehension that draws -/
theorem lcDr {n l : Nat} {wi : TI} {vs : List Nat} {r a : Addr} {ns : List Int} {Q : VK} (hr : RowAt K a ns H r) (it : EvIt wi σ H (rangeD n)) (hn : n ≤ 1000) (hw : ∀ v, wipe ((wipe σ vs).set l (some v)) vs = wipe σ vs) (Ok : Nat → D → Prop)
    (hs : ∀ (i : Nat) (H' : Hp), i < n → SB r H H' → RowAt K a ns H' r → ∀ Q' : VK, (∀ d v H2, Ok i d → SB r H' H2 → RowAt K a ns H2 r → Im H2 d v → Q' v H2) → te ((wipe σ vs).set l (some (.int (i : Nat)))) H' Q')
    (k : ∀ ds D us H2, ds.length = n → (∀ i d, ds[i]? = some d → Ok i d) → SB r H H2 → RowAt K a ns H2 r → H D = none → H2 D = some (.lst us) → ImL H2 ds us → Q (.ref D) H2) :
    tLc wi (gName l) tYes te vs σ H Q := it H (Same.refl H) _ fun J H2 s2 w D hD => by
  have hr2 := hr.mono s2
  obtain ⟨rus, hrr⟩ := hr2.row
  refine lc_it (Qd := fun H' => Q (.ref D) H') w (fun i H' => SB r H2 H' ∧ RowAt K a ns H' r ∧ ∃ ds us, H' D = some (.lst us) ∧ ds.length = i ∧ ImL H' ds us ∧ ∀ j d, ds[j]? = some d → Ok j d)
    ⟨sb_new (SB.refl _ _) hD, hr2.upd_new hr2 hD, [], [], upd_same, rfl, rfl, fun j d h => by simp at h⟩ (fun i H' _ p => p.1.tx hrr) ?_ (fun H' p => ?_)
  · rintro i x H3 H4 hi ⟨sb3, hr3, ds, us, hx, hl, im, hok⟩ ⟨s4, d, hd, imx⟩
    obtain ⟨i', hi', rfl⟩ := map_at hd
    rw [List.length_map, List.length_range] at hi
    rw [List.getElem?_range hi] at hi'
    have hii : i = i' := Option.some.inj hi'
    subst hii
    have ex := im_int imx
    subst ex
    refine ⟨hw _, ?_⟩
    show te _ H4 _
    have hr4 := hr3.mono s4
    refine hs i H4 hi ((Same.sb s2).trans (sb3.trans (Same.sb s4))) hr4 _ fun d v H5 hok5 sb5 hr5 imv => ?_
    have tx45 := hr4.tx sb5
    have hx4 := s4 _ _ hx
    have nD : D ≠ r := by
      obtain ⟨us2, e2⟩ := hr2.row
      exact fun z => by rw [z, e2] at hD; cases hD
    have hx5 := sb5 _ _ nD hx4
    have tx5 : Tx H5 (upd H5 D (.lst (us ++ [v]))) := tx_upd hx5 fun _ z => nomatch z
    have hlen : us.length = i := by rw [im.len, hl]
    refine ⟨us, hx5, by rw [hlen, sizeLine_eq]; omega, sb_new (sb3.trans ((Same.sb s4).trans sb5)) hD, hr5.upd_new hr2 hD, ds ++ [d], us ++ [v], upd_same, by rw [List.length_append, hl] <;> rfl, (((im.mono s4).tx tx45).tx tx5).app (iml_cons (imv.tx tx5) iml_nil), fun j e hj => ?_⟩
    rcases Nat.lt_trichotomy j ds.length with q | q | q
    · rw [List.getElem?_append_left q] at hj
      exact hok j e hj
    · subst q
      rw [List.getElem?_append_right (Nat.le_refl _), Nat.sub_self] at hj
      cases hj
      rw [hl]
      exact hok5
    · rw [List.getElem?_eq_none (by rw [List.length_append]; show ds.length + 1 ≤ j; omega)] at hj
      cases hj
  · obtain ⟨sb, hr', ds, us, hx, hl, im, hok⟩ := p
    rw [List.length_map, List.length_range] at hl
    exact k ds D us H' hl hok ((Same.sb s2).trans sb) hr' (s2.free hD) hx im
def sp_loads (K : PySem.W.Frag) (CP : Addr) : Sp := fun vs H Q _ => ∃ (r a : Addr) (ns : List Int) (p : Addr) (Pn : Pl), vs = [.ref r, .ref p] ∧ RowAt K a ns H r ∧ PlanAt CP H p Pn ∧ GoodP Pn ∧
  ∀ d L H', SB r H H' → RowAt K a ns H' r → H d = none → H' d = some (.dK (kvs L)) → GoodL Pn L → Q (.ref d) H'
theorem ok__law_loads (T : Txt K mg CP CS CB) : C8.Cal P w K mg base 4 "_law_loads" (sp_loads K CP) [] := by
  have c_Plan_names := ok_Plan_names (P := P) (w := w) (base := base) T
  have c__law_taken := ok__law_taken (P := P) (w := w) (base := base) T
  refine cal_s T.d__law_loads sc__law_loads (fun vs H Q E h => ?_) fun f cdv A outer s H vs Q E hr h => ?_
  · obtain ⟨_, _, _, _, _, rfl, _⟩ := h
    rfl
  obtain ⟨r, a, ns, p, Pn, rfl, hrow, hpl, hG, k⟩ := h
  have hpl3 := hG.pl
  refine ⟨_, (pss_cons (ps_set (i := 2) sc__law_loads.nd rfl (Or.inl rfl) pe_dnewK)
    (pss_cons (ps_for PassesOwn.never rfl (pi_tup (Bf.pe_pSl c_Plan_names T.clP hr (by decide) (pv 1))) (pg_name (i := 3) sc__law_loads.nd rfl (Or.inl rfl)) (pss_one (ps_if (pt_cmpR op_gt (C8.pe_c c__law_taken hr (by decide) (by rfl) (pa_cons (pv 0) (pa_cons pe_int pa_nil))) pe_int (nomark _)) (pss_one (ps_dput (hu_of hr) (pv 2) (pv 3) (pe_op op_add pe_int (C8.pe_c c__law_taken hr (by decide) (by rfl) (pa_cons (pv 0) (pa_cons pe_int pa_nil)))) rfl)) pss_nil)))
    (pss_one (ps_ret (pv 2))))), ?_⟩
  refine sq_dnew fun d hd => ?_
  have s1 := same_new hd (.dK [])
  obtain ⟨rus, hrr⟩ := hrow.row
  refine sq_forT (it_tup (C := CP) (l := Pn.names.map .str) (ev_prop (ev_v rfl ⟨p, rfl, hpl.mono s1⟩) ⟨Pn, rfl, by omega, rfl⟩)) (fun i σ' H' => ∃ (o3 : Option V) (L : List (Str × Int)), σ' = [some (.ref r), some (.ref p), some (.ref d), o3] ∧ SB r H H' ∧ RowAt K a ns H' r ∧ H' d = some (.dK (kvs L)) ∧ (L.map (·.1)).Sublist (Pn.names.take i) ∧ ∀ e ∈ L, 1 ≤ e.2 ∧ e.2 ≤ 99)
    (fun H2 s2 => ⟨none, [], rfl, Same.sb (s1.trans s2), (hrow.mono s1).mono s2, s2 _ _ upd_same, List.nil_sublist _, fun e he => nomatch he⟩) ?_ ?_
  · rintro i dd x σ' H0 H' Dn' hi ⟨o3, L, rfl, sb0, hr0, hd0, hsub, hval⟩ s' im hnx hct hrt
    obtain ⟨z, hz, rfl⟩ := map_at hi
    have ex := im_str im
    subst ex
    have hr' := hr0.mono s'
    have ht : Pn.names.take (i + 1) = Pn.names.take i ++ [z] := by rw [List.take_add_one, hz] <;> rfl
    refine dr_taken (m := 4) rfl hr' (by decide) (by decide) fun v H2 hv sb2 hr2 => ?_
    have sbH := sb0.trans ((Same.sb s').trans sb2)
    have nd : d ≠ r := fun z => by rw [z, hrr] at hd; cases hd
    have hd2 := sb2 _ _ nd (s' _ _ hd0)
    have tx2 := hr'.tx sb2
    refine ⟨_, _, rfl, rfl, decide (0 < (v : Int)), rfl, ?_⟩
    by_cases c : 0 < (v : Int)
    · rw [decide_eq_true c]
      refine dr_taken (m := 7) rfl hr2 (by decide) (by decide) fun u H3 hu sb3 hr3 => ⟨_, _, rfl, rfl, ?_⟩
      have hd3 := sb3 _ _ nd hd2
      have hni : z ∉ L.map (·.1) := fun hm => by
        have hnd := (names_nd hG).sublist (List.take_sublist (i + 1) Pn.names)
        rw [ht] at hnd
        exact (List.nodup_append.mp hnd).2.2 z (hsub.subset hm) z List.mem_cons_self rfl
      have hLl : L.length ≤ 3 := by
        have e := hsub.length_le
        rw [List.length_map, List.length_take] at e
        have := hG.nl
        omega
      refine ⟨_, rfl, _, rfl, d, _, rfl, .inl ⟨_, Sum.inr z, hd3, rfl, by rw [List.length_map, sizeLine_eq]; omega, rfl⟩, ?_⟩
      rw [kvs_put _ hni]
      have e1 : (1 : Int) + (u : Int) = 1 + (u : Int) := rfl
      refine hnx _ _ ⟨_, L ++ [(z, 1 + (u : Int))], rfl, sb_new (sbH.trans sb3) hd, hr3.upd_new hrow hd, upd_same, ?_, fun e he => ?_⟩ (tx2.trans ((hr2.tx sb3).trans (tx_upd hd3 fun _ z => nomatch z)))
      · rw [List.map_append, ht]
        exact hsub.append (List.Sublist.refl _)
      · rcases List.mem_append.mp he with q | q
        · exact hval e q
        · rw [List.mem_singleton.mp q]
          show 1 ≤ 1 + (u : Int) ∧ 1 + (u : Int) ≤ 99
          omega
    · rw [decide_eq_false c]
      refine hnx _ _ ⟨_, L, rfl, sbH, hr2, hd2, ?_, hval⟩ tx2
      rw [ht]
      exact hsub.trans (List.sublist_append_left _ _)
  · rintro σ' H' ⟨o3, L, rfl, sb0, hr0, hd0, hsub, hval⟩
    rw [List.length_map, List.take_length] at hsub
    exact ⟨_, rfl, k d L H' sb0 hr0 hd hd0 ⟨hsub, hval⟩⟩
end
end Bf

/-! D14: the law's plan. -/
namespace Bf
open PySem PySem.Spec PyProof.Rows L2 Bx
section
variable {P : Program} {w : World} {K : PySem.W.Frag} {mg : Str → Option Value} {base : Heap} {CP CS CB : Addr} {σ : L2.St} {H : Hp} {ta te : TE} {C : Addr}
theorem dr_pick {i m : Nat} {t : TA} {ds : List D} {r a : Addr} {ns : List Int} {E : XK} {Q : VK} (e : EvA C t σ H (ds.map .d)) (hv : σ[i]? = some (some (.ref r))) (hr : RowAt K a ns H r) (hl : ds.length = m) (m1 : 1 ≤ m) (m2 : m ≤ 1000)
    (k : ∀ (j : Nat) d v H', ds[j]? = some d → SB r H H' → RowAt K a ns H' r → Im H' d v → Q v H') : tOp (rIxL K) (tLst t) (tCall (sp_taken K) [] E (tCons (tVar i) (tCons (tC (.int (m : Nat))) tNil))) σ H Q :=
  e H (Same.refl H) _ fun vs H1 s1 h => ⟨by rw [h.len, List.length_map, hl, sizeLine_eq]; omega, fun q hq => by
    have s2 := same_new hq (.lst vs)
    have hr1 := hr.mono s1
    refine dr_taken hv (hr1.mono s2) m1 m2 fun v H2 hv sb2 hr2 => ?_
    have him := RpL.ds h
    have hvl : v < ds.length := by omega
    obtain ⟨u, hu, imu⟩ := him.get (List.getElem?_eq_getElem hvl)
    have nq : q ≠ r := by
      obtain ⟨us2, e2⟩ := hr1.row
      exact fun z => by rw [z, e2] at hq; cases hq
    have tx := (hr1.mono s2).tx sb2
    exact ⟨q, vs, _, u, rfl, rfl, SqL.of (sb2 _ _ nq upd_same), atI_nat hu, k v _ u H2 (List.getElem?_eq_getElem hvl) ((Same.sb (s1.trans s2)).trans sb2) hr2 ((imu.mono s2).tx tx)⟩⟩
theorem wk_tup {p : Addr} {xs : List V} {l : List D} (e2 : H p = some (.tup xs)) (e3 : ImL H l xs) : WkD (Itt K p) (Tx H) l := by
  have w := walk_tup (K := K) (a := p) (xs := xs)
  rw [e3.len] at w
  exact w.mono (fun H' tx => SqT.of (tx _ _ e2)) fun i H' x H'' hi tx y => by
    obtain ⟨y1, y2⟩ := y
    rw [y1]
    obtain ⟨d, h1, h2⟩ := (e3.tx tx).at y2
    exact ⟨Same.refl _, d, h1, h2⟩
theorem ex_map {α : Type} (f : α → D) (Pr : Nat → α → Prop) : ∀ (ds : List D), (∀ i d, ds[i]? = some d → ∃ x, d = f x ∧ Pr i x) → ∃ l : List α, ds = l.map f ∧ ∀ (i : Nat) x, l[i]? = some x → Pr i x := by
  intro ds
  induction ds generalizing Pr with
  | nil => exact fun _ => ⟨[], rfl, fun i x h => by simp at h⟩
  | cons d ds ih =>
    intro h
    obtain ⟨x, hx, px⟩ := h 0 d rfl
    obtain ⟨l, hl, pl⟩ := ih (fun i x => Pr (i + 1) x) fun i d hd => h (i + 1) d hd
    refine ⟨x :: l, by rw [List.map_cons, hx, hl], fun i y hy => ?_⟩
    cases i with
    | zero =>
      cases hy
      exact px
    | succ i => exact pl i y hy
theorem sq_par {i j : Nat} {ta : TA} {u : TS} {Dn : Ends} (h : ta σ H fun vs H1 => ∃ v w, vs = [v, w] ∧ u Dn ((σ.set i (some v)).set j (some w)) H1) : tSeq (tPar i j ta) u Dn σ H := h
theorem sq_lcDr {n l o : Nat} {wi : TI} {vs : List Nat} {r a : Addr} {ns : List Int} {u : TS} {Dn : Ends} (hr : RowAt K a ns H r) (it : EvIt wi σ H (rangeD n)) (hn : n ≤ 1000) (hw : ∀ v, wipe ((wipe σ vs).set l (some v)) vs = wipe σ vs) (Ok : Nat → D → Prop)
    (hs : ∀ (i : Nat) (H' : Hp), i < n → SB r H H' → RowAt K a ns H' r → ∀ Q' : VK, (∀ d v H2, Ok i d → SB r H' H2 → RowAt K a ns H2 r → Im H2 d v → Q' v H2) → te ((wipe σ vs).set l (some (.int (i : Nat)))) H' Q')
    (k : ∀ ds D us H2, ds.length = n → (∀ i d, ds[i]? = some d → Ok i d) → SB r H H2 → RowAt K a ns H2 r → H D = none → H2 D = some (.lst us) → ImL H2 ds us → u Dn (σ.set o (some (.ref D))) H2) :
    tSeq (tAsg (tLc wi (gName l) tYes te vs) (gName o)) u Dn σ H := lcDr (Q := fun x H1 => u Dn (σ.set o (some x)) H1) hr it hn hw Ok hs k
theorem sq_tcDr {n l o : Nat} {wi : TI} {vs : List Nat} {r a : Addr} {ns : List Int} {u : TS} {Dn : Ends} (hr : RowAt K a ns H r) (it : EvIt wi σ H (rangeD n)) (hn : n ≤ 1000) (hw : ∀ v, wipe ((wipe σ vs).set l (some v)) vs = wipe σ vs) (Ok : Nat → D → Prop)
    (hs : ∀ (i : Nat) (H' : Hp), i < n → SB r H H' → RowAt K a ns H' r → ∀ Q' : VK, (∀ d v H2, Ok i d → SB r H' H2 → RowAt K a ns H2 r → Im H2 d v → Q' v H2) → te ((wipe σ vs).set l (some (.int (i : Nat)))) H' Q')
    (k : ∀ ds t H2, ds.length = n → (∀ i d, ds[i]? = some d → Ok i d) → SB r H H2 → RowAt K a ns H2 r → Im H2 (.tup ds) (.ref t) → u Dn (σ.set o (some (.ref t))) H2) :
    tSeq (tAsg (fun σ H Q => (tCons (tLc wi (gName l) tYes te vs) tNil) σ H fun xs H1 => (fun xs H Q => ∃ p ys, xs = [.ref p] ∧ ((SqL K H p ys ∧ ∀ l, H l = none → Q (.ref l) (upd H l (.tup ys))) ∨ (SqT K H p ys ∧ Q (.ref p) H))) xs H1 Q) (gName o)) u Dn σ H :=
  lcDr (Q := fun x H1 => (∃ p ys, [x] = [.ref p] ∧ ((SqL K H1 p ys ∧ ∀ l, H1 l = none → u Dn (σ.set o (some (.ref l))) (upd H1 l (.tup ys))) ∨ (SqT K H1 p ys ∧ u Dn (σ.set o (some (.ref p))) H1)))) hr it hn hw Ok hs fun ds D us H2 h1 h2 h3 h4 h5 h6 h7 =>
    ⟨D, us, rfl, .inl ⟨SqL.of h6, fun t ht => k ds t _ h1 h2 (h3.trans (Same.sb (same_new ht _))) (h4.mono (same_new ht _)) (im_new (h7.mono (same_new ht _)) upd_same)⟩⟩
theorem sl_go {r : V → Option Int → Option Int → Hp → VK → Prop} {tl th : TO} {Q : VK} (h : te σ H fun x H1 => tl σ H1 fun l H2 => th σ H2 fun u H3 => r x l u H3 Q) : L2.tSl r te tl th σ H Q := h
def LoopT (l : List D) (g : TG) (tb u : TS) (Dn : Ends) (σ : L2.St) (H1 : Hp) : Prop := ∃ Pv : Nat → L2.St → Hp → Prop, Pv 0 σ H1 ∧ (∀ i σ' H', Pv i σ' H' → Tx H1 H') ∧
  (∀ (i : Nat) (d : D) (x : V) (σ' : L2.St) (H0 H' : Hp) (Dn' : Ends), l[i]? = some d → Pv i σ' H0 → Same H0 H' → Im H' d x → (∀ σ3 H3, Pv (i + 1) σ3 H3 → Dn'.nx σ3 H3) → Dn'.rt = Dn.rt → g x σ' H' (tb Dn')) ∧ ∀ σ' H', Pv l.length σ' H' → u Dn σ' H'
theorem sq_forTup {tl : TE} {g : TG} {tb u : TS} {Dn : Ends} {Z : V → Hp → Prop} (e : ∀ Q : VK, (∀ x H1, Z x H1 → Q x H1) → tl σ H Q)
    (k : ∀ x H1, Z x H1 → ∃ p xs l, x = .ref p ∧ H1 p = some (.tup xs) ∧ ImL H1 l xs ∧ LoopT l g tb u Dn σ H1) : tSeq (tFor (iTup K tl) g tb) u Dn σ H := e _ fun x H1 z => by
  obtain ⟨p, xs, l, rfl, h1, h2, Pv, p0, pt, ps, pe⟩ := k x H1 z
  exact ⟨p, rfl, ⟨xs, SqT.of h1⟩, for_d (Dn := { Dn with nx := u Dn }) (wk_tup h1 h2) Pv p0 pt (fun i d x σ' H0 H' hi hp s im => ps i d x σ' H0 H' _ hi hp s im (fun _ _ z => z) rfl) pe⟩
def sp_plan (K : PySem.W.Frag) (CP : Addr) : Sp := fun vs H Q _ => ∃ (r a : Addr) (ns : List Int), vs = [.ref r] ∧ RowAt K a ns H r ∧
  ∀ p Pn H', SB r H H' → RowAt K a ns H' r → PlanAt CP H' p Pn → GoodP Pn → Q (.ref p) H'
theorem ok__law_plan (T : Txt K mg CP CS CB) : C8.Cal P w K mg base 10 "_law_plan" (sp_plan K CP) [] := by
  have c__law_taken := ok__law_taken (P := P) (w := w) (base := base) T
  have c_Plan := ok_Plan (P := P) (w := w) (base := base) T
  refine cal_s T.d__law_plan sc__law_plan (fun vs H Q E h => ?_) fun f cdv A outer s H vs Q E hr h => ?_
  · obtain ⟨_, _, _, rfl, _⟩ := h
    rfl
  obtain ⟨r, a, ns, rfl, hrow, k⟩ := h
  refine ⟨_, (pss_cons (ps_par (i := 1) (j := 2) rfl sc__law_plan.nd rfl rfl (by decide) rfl rfl (pa_cons (pe_op op_add pe_int (C8.pe_c c__law_taken hr (by decide) (by rfl) (pa_cons (pv 0) (pa_cons pe_int pa_nil)))) (pa_cons (pe_lst pa_nil) pa_nil)) (by rfl))
    (pss_cons (ps_set (i := 3) sc__law_plan.nd rfl (Or.inl rfl) (pe_callTy call_tuple_of (by rfl) T.b_tuple (by decide +kernel) (pa_cons (pe_lc (own := [("_law_k", 6)]) (g := (gName 6)) (tt := tYes) rfl sc__law_plan.nd (pi_range1 (by rfl) T.b_range (pa_cons (pv 1) pa_nil)) (blkOk_by (own := [("_law_k", 6)]) (N := ["_law_row", "_law_many", "_law_points", "_law_rates", "_law_fed", "_law_name", "_law_k"]) (sc := defScope s__law_plan) (by decide +kernel)) (fun _ _ _ _ _ => (pg_name (i := 6) sc__law_plan.nd rfl (Or.inl rfl) (Or.inr rfl))) (fun _ _ _ _ _ => pts_nil) (fun _ _ _ _ _ => (pe_op op_add pe_int (C8.pe_c c__law_taken hr (by decide) (by rfl) (pa_cons (pv 0) (pa_cons pe_int pa_nil)))))) pa_nil)))
    (pss_cons (ps_setLc (i := 4) (own := [("_law_k", 6)]) (g := (gName 6)) (tt := tYes) rfl sc__law_plan.nd rfl rfl (sw_true rfl rfl rfl (by decide +kernel)) (pi_range1 (by rfl) T.b_range (pa_cons (pv 1) pa_nil)) (blkOk_by (own := [("_law_k", 6)]) (N := ["_law_row", "_law_many", "_law_points", "_law_rates", "_law_fed", "_law_name", "_law_k"]) (sc := defScope s__law_plan) (by decide +kernel)) (fun _ _ _ _ _ => (pg_name (i := 6) sc__law_plan.nd rfl (Or.inl rfl) (Or.inr rfl))) (fun _ _ _ _ _ => pts_nil) (fun _ _ _ _ _ => (pe_ifExp (pt_cmpR op_gt (pv 6) pe_int (nomark _)) (pe_ix (Bf.ixL K) (pe_lst (pa_cons pe_non (pa_cons pe_int (pa_cons (pe_op op_sub (pv 6) pe_int) pa_nil)))) (C8.pe_c c__law_taken hr (by decide) (by rfl) (pa_cons (pv 0) (pa_cons pe_int pa_nil))) (fun _ _ => rfl)) pe_non)))
    (pss_cons (ps_for PassesOwn.never rfl (pi_tup (pe_slice (Bf.slTK K) (pe_tup (pa_cons pe_str (pa_cons pe_str (pa_cons pe_str pa_nil)))) po_none (po_some (pe_op op_add pe_int (C8.pe_c c__law_taken hr (by decide) (by rfl) (pa_cons (pv 0) (pa_cons pe_int pa_nil))))))) (pg_name (i := 5) sc__law_plan.nd rfl (Or.inl rfl)) (pss_one (ps_expr (pe_bm PySem.F.plainAttrs_list PySem.F.slot_list_append PySem.F.type_list_append mt_append (pv 2) (pa_cons (pe_tup (pa_cons (pv 5) (pa_cons (pe_ix (Bf.ixL K) (pe_lst (pa_cons pe_str (pa_cons pe_str (pa_cons pe_str pa_nil)))) (C8.pe_c c__law_taken hr (by decide) (by rfl) (pa_cons (pv 0) (pa_cons pe_int pa_nil))) (fun _ _ => rfl)) (pa_cons (C8.pe_c c__law_taken hr (by decide) (by rfl) (pa_cons (pv 0) (pa_cons pe_int pa_nil))) pa_nil)))) pa_nil)))))
    (pss_one (ps_ret (C8.pe_mk c_Plan hr (by decide) (by rfl) (pa_cons (pv 3) (pa_cons (pe_callTy call_tuple_of (by rfl) T.b_tuple (by decide +kernel) (pa_cons (pv 4) pa_nil)) (pa_cons (pe_callTy call_tuple_of (by rfl) T.b_tuple (by decide +kernel) (pa_cons (pv 2) pa_nil)) (pa_cons (pe_ix (Bf.ixL K) (pe_lst (pa_cons pe_str (pa_cons pe_str (pa_cons pe_str pa_nil)))) (C8.pe_c c__law_taken hr (by decide) (by rfl) (pa_cons (pv 0) (pa_cons pe_int pa_nil))) (fun _ _ => rfl)) pa_nil))))))))))), ?_⟩
  refine sq_par ?_
  refine dr_taken (m := 3) rfl hrow (by decide) (by decide) fun v H1 hv sb1 hr1 => ⟨1, v, rfl, rfl, ?_⟩
  have en : (1 : Int) + (v : Int) = ((1 + v : Nat) : Int) := by omega
  refine ⟨Nat.zero_le _, fun pL hpL => ⟨.int ((1 + v : Nat) : Int), .ref pL, congrArg (fun z => [V.int z, V.ref pL]) en, ?_⟩⟩
  have s2 := same_new hpL (.lst [])
  have hr2 := hr1.mono s2
  have hp2 : upd H1 pL (.lst []) pL = some (.lst []) := upd_same
  have sb2 := sb1.trans (Same.sb s2)
  have npL : pL ≠ r := by
    obtain ⟨us2, e2⟩ := hr1.row
    exact fun z => by rw [z, e2] at hpL; cases hpL
  have hpL0 : H pL = none := by
    cases e : H pL with
    | none => rfl
    | some o =>
      have := sb1 _ _ npL e
      rw [this] at hpL
      cases hpL
  generalize upd H1 pL (.lst []) = H2 at s2 hr2 hp2 sb2
  -- the rates
  refine sq_tcDr (n := 1 + v) (l := 6) hr2 (it_range (C := CP) (ea_one (ev_v rfl rfl)) (by omega)) (by omega) (fun _ => rfl) (fun _ d => ∃ x : Int, d = .int x ∧ 1 ≤ x ∧ x ≤ 99) (fun i H' hi sb' hr' Q' k' => dr_taken (m := 9) rfl hr' (by decide) (by decide) fun u H3 hu sb3 hr3 => ⟨1, u, rfl, rfl, k' (.int (1 + (u : Int))) _ H3 ⟨_, rfl, by omega, by omega⟩ sb3 hr3 rfl⟩) fun ds tR H4 hds hok sb24 hr4 hR4 => ?_
  obtain ⟨rates, rfl, hrates⟩ := ex_map D.int (fun _ x => 1 ≤ x ∧ x ≤ 99) ds hok
  rw [List.length_map] at hds
  have hp4 := sb24 _ _ npL hp2
  have tx24 := hr2.tx sb24
  -- the fed
  refine sq_lcDr (n := 1 + v) (l := 6) hr4 (it_range (C := CP) (ea_one (ev_v rfl rfl)) (by omega)) (by omega) (fun _ => rfl) (fun i d => ∃ o : Option Nat, d = dO o ∧ ∀ j, o = some j → j < i) (fun i H' hi sb' hr' Q' k' => ?_) fun ds2 fD us2 H5 hds2 hok2 sb5 hr5 hfD hx5 him5 => ?_
  · refine et_go (et_test (C := CP) (ev_I0 (g := fun i j => V.bl (decide (j < i))) (a := .d (.bl (decide ((0 : Int) < (i : Nat))))) (ev_v (a := .d (.int (i : Nat))) rfl rfl) ev_int fun _ => rfl)) fun H6 s6 => ?_
    have hr6 := hr'.mono s6
    by_cases c : (0 : Int) < (i : Nat)
    · rw [decide_eq_true c]
      refine dr_pick (C := CP) (ds := [.non, .int 0, .int ((i : Int) - 1)]) (ea_cons ev_non (ea_cons ev_int (ea_one (ev_I0 (g := fun i j => V.int (i - j)) (i := (i : Int)) (j := 1) (ev_v rfl rfl) ev_int fun _ => rfl)))) rfl hr6 rfl (by decide) (by decide) fun j d u H7 hj sb7 hr7 imu => ?_
      refine k' d u H7 ?_ ((Same.sb s6).trans sb7) hr7 imu
      match j, hj with
      | 0, hj =>
        cases hj
        exact ⟨none, rfl, fun j h => by cases h⟩
      | 1, hj =>
        cases hj
        exact ⟨some 0, rfl, fun j h => by cases h; omega⟩
      | 2, hj =>
        cases hj
        refine ⟨some (i - 1), ?_, fun j h => by cases h; omega⟩
        show D.int _ = D.int _
        congr 1
        omega
    · rw [decide_eq_false c]
      exact k' .non .non H6 ⟨none, rfl, fun j h => by cases h⟩ (Same.sb s6) hr6 rfl
  obtain ⟨above, rfl, habove⟩ := ex_map dO (fun i o => ∀ j, o = some j → j < i) ds2 hok2
  rw [List.length_map] at hds2
  have hR5 : Im H5 (dI rates) (.ref tR) := Im.tx hR4 (hr4.tx sb5)
  have hp5 := sb5 _ _ npL hp4
  have sbH5 := sb2.trans (sb24.trans sb5)
  -- the points
  refine sq_forTup (Z := fun x H' => ∃ m, 1 ≤ m ∧ m ≤ 3 ∧ SB r H5 H' ∧ RowAt K a ns H' r ∧ Im H' (.tup ((N3.take m).map .str)) x) (fun Q' q => ?_) fun x H8 hz8 => ?_
  · refine sl_go ?_
    refine ev_go (P := fun v H' => Rp CP H' (.d (dS N3)) v) (ev_tup (ds := [.str "bed", .str "desk", .str "oven"]) (ea_cons ev_str (ea_cons ev_str (ea_one ev_str))) (by decide)) fun vN H6 s6 hvN => ?_
    have hr6 := hr5.mono s6
    refine dr_taken (m := 3) rfl hr6 (by decide) (by decide) fun u H7 hu sb7 hr7 => ⟨1, u, rfl, rfl, _, rfl, ?_⟩
    obtain ⟨pN, xs, rfl, e2, e3⟩ := rp_tup (C := CP) (Im.tx hvN (hr6.tx sb7))
    have en2 : (1 : Int) + (u : Int) = ((1 + u : Nat) : Int) := by omega
    have hlen : xs.length = 3 := e3.len
    have ecut : ImL H7 ((N3.take (1 + u)).map .str) (cutV xs none (some ((1 : Int) + (u : Int)))) := by
      have e4 : ImL H7 (cutD (N3.map .str) none (some ((1 : Int) + (u : Int)))) (cutV xs none (some ((1 : Int) + (u : Int)))) := by
        unfold cutD cutV
        rw [hlen]
        exact (e3.drop _).take _
      rw [en2, cutD_to, ← List.map_take] at e4
      rw [en2]
      exact e4
    have sbb := (Same.sb s6).trans sb7
    refine ⟨pN, xs, rfl, SqT.of e2, fun hw => q _ H7 ⟨1 + u, by omega, by omega, sbb, hr7, ?_⟩, fun _ t ht => q _ _ ⟨1 + u, by omega, by omega, sbb.trans (Same.sb (same_new ht _)), hr7.mono (same_new ht _), im_new (ecut.mono (same_new ht _)) upd_same⟩⟩
    have ew : cutV xs none (some ((1 : Int) + (u : Int))) = xs := by
      unfold cutV
      exact sl_all xs hw
    rw [ew] at ecut
    exact ⟨pN, xs, rfl, e2, ecut⟩
  obtain ⟨m, m1, m3, sb8, hr8, imx⟩ := hz8
  obtain ⟨pN, xs, rfl, e2, e3⟩ := im_tup imx
  have tx58 := hr5.tx sb8
  have hR8 : Im H8 (dI rates) (.ref tR) := hR5.tx tx58
  have hp8 := sb8 _ _ npL hp5
  have nfD : fD ≠ r := by
    obtain ⟨us3, e3⟩ := hr4.row
    exact fun z => by rw [z, e3] at hfD; cases hfD
  have npf : pL ≠ fD := ne_of_none hp4 hfD
  have hf8 := sb8 _ _ nfD hx5
  have sbH8 := sbH5.trans sb8
  refine ⟨pN, xs, _, rfl, e2, e3, fun i σ' H' => ∃ (o5 : Option V) (pts : List (Str × Str × Int)) (us : List V), σ' = [some (.ref r), some (.int ((1 + v : Nat) : Int)), some (.ref pL), some (.ref tR), some (.ref fD), o5, none] ∧ SB r H H' ∧ RowAt K a ns H' r ∧ Tx H8 H' ∧ H' fD = some (.lst us2) ∧ H' pL = some (.lst us) ∧ ImL H' (pts.map dPt) us ∧ pts.map (·.1) = (N3.take m).take i ∧ pts.length ≤ 3 ∧ ∀ p ∈ pts, (p.2.1 = "lamp" ∨ p.2.1 = "plug") ∧ 0 ≤ p.2.2 ∧ p.2.2 ≤ 9,
    ⟨none, [], [], rfl, sbH8, hr8, Tx.refl _, hf8, hp8, rfl, rfl, by decide, fun p hp => nomatch hp⟩, fun i σ' H' ⟨_, _, _, _, _, _, t, _⟩ => t, ?_, ?_⟩
  · rintro i d x σ' H9 H10 Dn' hi ⟨o5, pts, us, rfl, sb9, hr9, tx9, hf9, hp9, im9, hnm, hpl, hok9⟩ s10 imx hnx hrt
    obtain ⟨z, hz, rfl⟩ := map_at hi
    have hr10 := hr9.mono s10
    have hp10 := s10 _ _ hp9
    have hil : i < 3 := by
      have e := (List.getElem?_eq_some_iff.mp hz).1
      rw [List.length_take] at e
      have : N3.length = 3 := rfl
      omega
    refine ⟨_, rfl, .inl ⟨rfl, _, SqL.of hp10⟩, ?_⟩
    refine ⟨_, rfl, ?_⟩
    refine dr_pick (C := CP) (ds := [.str "lamp", .str "lamp", .str "plug"]) (ea_cons ev_str (ea_cons ev_str (ea_one ev_str))) rfl hr10 rfl (by decide) (by decide) fun j d vk H11 hj sb11 hr11 imk => ?_
    refine dr_taken (m := 2) rfl hr11 (by decide) (by decide) fun vr H12 hvr sb12 hr12 => ?_
    refine ⟨by show 3 ≤ sizeLine; decide, fun t ht => ?_⟩
    have sb1012 := sb11.trans sb12
    have tx12 := hr10.tx sb1012
    have s13 := same_new ht (.tup [x, vk, V.int (vr : Nat)])
    have hr13 := hr12.mono s13
    have tx13 := tx12.trans (Same.tx s13)
    obtain ⟨kd, hkd, ekd⟩ : ∃ kd : Str, (kd = "lamp" ∨ kd = "plug") ∧ d = .str kd := by
      match j, hj with
      | 0, hj => cases hj; exact ⟨_, .inl rfl, rfl⟩
      | 1, hj => cases hj; exact ⟨_, .inl rfl, rfl⟩
      | 2, hj => cases hj; exact ⟨_, .inr rfl, rfl⟩
    subst ekd
    have hp13 := s13 _ _ (sb1012 _ _ npL hp10)
    have imT : Im (upd H12 t (.tup [x, vk, V.int (vr : Nat)])) (dPt (z, kd, (vr : Int))) (.ref t) := im_new (iml_cons (imx.tx tx13) (iml_cons ((imk.tx (hr11.tx sb12)).mono s13) (iml_cons rfl iml_nil))) upd_same
    have im13 := (im9.mono s10).tx tx13
    have hf13 := s13 _ _ (sb1012 _ _ nfD (s10 _ _ hf9))
    have sbH13 := sb9.trans ((Same.sb s10).trans (sb1012.trans (Same.sb s13)))
    generalize upd H12 t (.tup [x, vk, V.int (vr : Nat)]) = H13 at s13 hr13 tx13 hp13 imT im13 hf13 sbH13
    have hlen : us.length = pts.length := by rw [im9.len, List.length_map]
    refine ⟨pL, us, .ref t, rfl, rfl, hp13, by rw [sizeLine_eq]; omega, ?_⟩
    have tx14 : Tx H13 (upd H13 pL (.lst (us ++ [.ref t]))) := tx_upd hp13 fun _ z => nomatch z
    have hpl2 : pts.length = i := by
      have e := congrArg List.length hnm
      rw [List.length_map, List.length_take, List.length_take] at e
      have h1 := (List.getElem?_eq_some_iff.mp hz).1
      rw [List.length_take] at h1
      omega
    refine hnx _ _ ⟨_, pts ++ [(z, kd, (vr : Int))], us ++ [.ref t], rfl, sb_new sbH13 hpL0, hr13.upd_new hr1 hpL, (tx9.trans ((Same.tx s10).trans tx13)).trans tx14, by rw [upd_ne (Ne.symm npf)]; exact hf13, upd_same, ?_, ?_, ?_, fun p hp => ?_⟩
    · rw [List.map_append]
      exact (im13.tx tx14).app (iml_cons (imT.tx tx14) iml_nil)
    · rw [List.map_append, hnm, List.take_add_one, hz]
      rfl
    · rw [List.length_append, List.length_singleton]
      omega
    · rcases List.mem_append.mp hp with q | q
      · exact hok9 p q
      · rw [List.mem_singleton.mp q]
        exact ⟨hkd, by show (0 : Int) ≤ (vr : Int); omega, by show (vr : Int) ≤ 9; omega⟩
  · rintro σ' H9 ⟨o5, pts, us, rfl, sb9, hr9, tx9, hf9, hp9, im9, hnm, hpl, hok9⟩
    rw [List.length_map, List.take_take, List.length_take, Nat.min_eq_left (by show min m 3 ≤ m; omega)] at hnm
    have hN : N3.length = 3 := rfl
    have hmin : min m N3.length = m := by omega
    rw [hmin] at hnm
    have hR9 : Im H9 (dI rates) (.ref tR) := hR8.tx tx9
    have hu9 : ImL H9 (above.map dO) us2 := (him5.tx tx58).tx tx9
    refine ⟨_, rfl, ?_⟩
    refine ⟨_, rfl, fD, us2, rfl, .inl ⟨SqL.of hf9, fun tF htF => ?_⟩⟩
    have s10 := same_new htF (.tup us2)
    have hF10 : Im (upd H9 tF (.tup us2)) (dW above) (.ref tF) := im_new (hu9.mono s10) upd_same
    have hr10 := hr9.mono s10
    have hp10 := s10 _ _ hp9
    have im10 := im9.mono s10
    have hR10 := hR9.mono s10
    have sb10 := sb9.trans (Same.sb s10)
    generalize upd H9 tF (.tup us2) = H10 at s10 hF10 hr10 hp10 im10 hR10 sb10
    refine ⟨_, rfl, pL, us, rfl, .inl ⟨SqL.of hp10, fun tP htP => ?_⟩⟩
    have s11 := same_new htP (.tup us)
    have hP11 : Im (upd H10 tP (.tup us)) (dPts pts) (.ref tP) := im_new (im10.mono s11) upd_same
    have hr11 := hr10.mono s11
    have hR11 := hR10.mono s11
    have hF11 := hF10.mono s11
    have sb11 := sb10.trans (Same.sb s11)
    generalize upd H10 tP (.tup us) = H11 at s11 hP11 hr11 hR11 hF11 sb11
    refine dr_pick (C := CP) (ds := [.str "free", .str "free", .str "rooms"]) (ea_cons ev_str (ea_cons ev_str (ea_one ev_str))) rfl hr11 rfl (by decide) (by decide) fun j d vk H12 hj sb12 hr12 imk => ?_
    obtain ⟨ru, hru, eru⟩ : ∃ kd : Str, (kd = "free" ∨ kd = "rooms") ∧ d = .str kd := by
      match j, hj with
      | 0, hj => cases hj; exact ⟨_, .inl rfl, rfl⟩
      | 1, hj => cases hj; exact ⟨_, .inl rfl, rfl⟩
      | 2, hj => cases hj; exact ⟨_, .inr rfl, rfl⟩
    subst eru
    have tx12 := hr11.tx sb12
    intro x dx hx hdx hne
    have m1' : ∀ c o, H12 c = some o → upd (upd H12 dx (.own x)) x (.ins CP dx []) c = some o := fun c o e => by rw [upd_ne (ne_of_none e hx), upd_ne (ne_of_none e hdx)]; exact e
    have sm : Same H12 (upd (upd H12 dx (.own x)) x (.ins CP dx [])) := m1'
    have hGP : GoodP ⟨rates, above, pts, ru⟩ := ⟨by show 1 ≤ rates.length; omega, by show rates.length ≤ 5; omega, fun r hr => by
      obtain ⟨i, hi⟩ := List.mem_iff_getElem?.mp hr
      exact hrates i r hi, by show above.length = rates.length; omega, fun b j h => habove b (some j) h j rfl, ⟨m, m1, m3, hnm⟩, fun p hp => (hok9 p hp).1, fun p hp => (hok9 p hp).2, hru⟩
    refine ⟨x, dx, ⟨rates, above, pts, ru⟩, [.ref tR, .ref tF, .ref tP, vk], rfl, upd_same, by rw [upd_ne hne]; exact upd_same, hne, rpl_cons (Im.mono (hR11.tx tx12) sm) (rpl_cons (Im.mono (hF11.tx tx12) sm) (rpl_cons (Im.mono (hP11.tx tx12) sm) (rpl_cons (Im.mono imk sm) rpl_nil))), hGP, fun H13 q1 q2 => ⟨rfl, ?_⟩⟩
    have s1213 : Same H12 H13 := fun c o e => q1 c o (ne_of_none e hx) (ne_of_none e hdx) (m1' c o e)
    exact k x _ H13 (sb11.trans (sb12.trans (Same.sb s1213))) (hr12.mono s1213) q2 hGP
end
end Bf

/-! D15: the law's wirings. -/
namespace Bf
open PySem PySem.Spec PyProof.Rows L2 Bx
def optW (n : Nat) : List (Option Nat) := none :: (List.range n).map some
def rowsW (n : Nat) : Nat → List (List (Option Nat))
  | 0 => [[]]
  | i + 1 => (rowsW n i).flatMap fun o => (optW n).map fun b => o ++ [b]
theorem optW_len (n : Nat) : (optW n).length = n + 1 := by
  unfold optW
  rw [List.length_cons, List.length_map, List.length_range]
theorem optW_d (n : Nat) : (optW n).map dO = [.non] ++ rangeD n := by
  unfold optW
  rw [List.map_cons, List.map_map]
  rfl
theorem flat_le {α β : Type} (f : α → List β) (b : Nat) : ∀ l : List α, (∀ x ∈ l, (f x).length ≤ b) → (l.flatMap f).length ≤ l.length * b
  | [], _ => Nat.zero_le _
  | x :: l, h => by
    rw [List.flatMap_cons, List.length_append, List.length_cons, Nat.succ_mul]
    have h1 := h x List.mem_cons_self
    have h2 := flat_le f b l fun y hy => h y (List.mem_cons_of_mem _ hy)
    omega
theorem rowsW_len (n : Nat) : ∀ i, (rowsW n i).length ≤ (n + 1) ^ i
  | 0 => Nat.le_refl 1
  | i + 1 => by
    rw [Nat.pow_succ]
    refine Nat.le_trans (flat_le _ (n + 1) _ fun o _ => by rw [List.length_map, optW_len]; exact Nat.le_refl _) ?_
    exact Nat.mul_le_mul_right _ (rowsW_len n i)
theorem rowsW_el (n : Nat) : ∀ i o, o ∈ rowsW n i → o.length = i ∧ ∀ b, some b ∈ o → b < n
  | 0, o, h => by
    rw [List.mem_singleton.mp h]
    exact ⟨rfl, fun b hb => nomatch hb⟩
  | i + 1, o, h => by
    obtain ⟨o2, h2, ho⟩ := List.mem_flatMap.mp h
    obtain ⟨b, hb, rfl⟩ := List.mem_map.mp ho
    obtain ⟨e1, e2⟩ := rowsW_el n i o2 h2
    refine ⟨by rw [List.length_append, e1] <;> rfl, fun c hc => ?_⟩
    rcases List.mem_append.mp hc with q | q
    · exact e2 c q
    · have q2 := List.mem_singleton.mp q
      subst q2
      unfold optW at hb
      rcases List.mem_cons.mp hb with q3 | q3
      · cases q3
      · obtain ⟨j, hj, e⟩ := List.mem_map.mp q3
        cases e
        exact List.mem_range.mp hj
theorem rowsW_zero {n : Nat} (hn : 1 ≤ n) : ∀ i, ∃ o ∈ rowsW n i, ∀ x ∈ o, x = some 0
  | 0 => ⟨[], List.mem_singleton.mpr rfl, fun x h => nomatch h⟩
  | i + 1 => by
    obtain ⟨o, h1, h2⟩ := rowsW_zero hn i
    refine ⟨o ++ [some 0], List.mem_flatMap.mpr ⟨o, h1, List.mem_map.mpr ⟨some 0, List.mem_cons_of_mem _ (List.mem_map.mpr ⟨0, List.mem_range.mpr hn, rfl⟩), rfl⟩⟩, fun x hx => ?_⟩
    rcases List.mem_append.mp hx with q | q
    · exact h2 x q
    · exact List.mem_singleton.mp q
abbrev PtB := (Str × Str × Int) × Option Nat
def grpZ (zs : List PtB) (r : Int) : List (Option Nat) := zs.filterMap fun e => if e.1.2.1 = ("lamp" : Str) ∧ e.1.2.2 = r then some e.2 else none
def uni (l : List (Option Nat)) : Prop := ∀ x ∈ l, ∀ y ∈ l, x = y
theorem rep_one {α : Type} (x : α) : ∀ n, (List.replicate n [x]).flatten = List.replicate n x
  | 0 => rfl
  | n + 1 => by
    rw [List.replicate_succ, List.flatten_cons, rep_one x n]
    rfl
theorem uni_rep (l : List (Option Nat)) : l = (List.replicate l.length (l.take 1)).flatten ↔ uni l := by
  cases l with
  | nil => exact ⟨fun _ x h => (nomatch h), fun _ => rfl⟩
  | cons x t =>
    show x :: t = (List.replicate (t.length + 1) [x]).flatten ↔ _
    rw [rep_one]
    refine ⟨fun e y hy z hz => ?_, fun u => ?_⟩
    · rw [e] at hy hz
      rw [List.eq_of_mem_replicate hy, List.eq_of_mem_replicate hz]
    · exact List.eq_replicate_iff.mpr ⟨rfl, fun b hb => u b hb x List.mem_cons_self⟩
def fol (P : Pl) (o : List (Option Nat)) : Prop := P.rule = "free" ∨ ∀ r, uni (grpZ (P.pts.zip o) r)
theorem grp_mem {zs : List PtB} {p : Str × Str × Int} {b : Option Nat} (h : (p, b) ∈ zs) (hl : p.2.1 = "lamp") : b ∈ grpZ zs p.2.2 := List.mem_filterMap.mpr ⟨(p, b), h, if_pos ⟨hl, rfl⟩⟩
theorem grp_in {zs : List PtB} {r : Int} {b : Option Nat} (h : b ∈ grpZ zs r) : ∃ p, (p, b) ∈ zs := by
  obtain ⟨e, he, q⟩ := List.mem_filterMap.mp h
  by_cases c : e.1.2.1 = ("lamp" : Str) ∧ e.1.2.2 = r
  · rw [if_pos c] at q
    cases q
    exact ⟨e.1, he⟩
  · rw [if_neg c] at q
    cases q
theorem fol_follows {P : Pl} {o : List (Option Nat)} (h : fol P o) : follows P o := by
  refine h.imp id fun u i j p q b c h1 h2 h3 h4 l1 l2 hr => ?_
  have m1 : (p, b) ∈ P.pts.zip o := List.mem_of_getElem? (List.getElem?_zip_eq_some.mpr ⟨h1, h3⟩)
  have m2 : (q, c) ∈ P.pts.zip o := List.mem_of_getElem? (List.getElem?_zip_eq_some.mpr ⟨h2, h4⟩)
  have g2 := grp_mem m2 l2
  rw [← hr] at g2
  exact u _ _ (grp_mem m1 l1) _ g2
theorem fol_const {P : Pl} {o : List (Option Nat)} {a : Option Nat} (h : ∀ x ∈ o, x = a) : fol P o := .inr fun r x hx y hy => by
  obtain ⟨p, hp⟩ := grp_in hx
  obtain ⟨q, hq⟩ := grp_in hy
  rw [h x (List.of_mem_zip hp).2, h y (List.of_mem_zip hq).2]
structure OkWs (P : Pl) (ws : List (List (Option Nat))) : Prop where
  good : ∀ w ∈ ws, GoodW P w
  len : ws.length ≤ 216
  full : ∃ w ∈ ws, none ∉ w
def WtR (P : Pl) (rows ws : List (List (Option Nat))) : Prop := (∀ w ∈ ws, w ∈ rows ∧ fol P w) ∧ (∀ w ∈ rows, fol P w → w ∈ ws) ∧ ws.length ≤ rows.length
theorem rows216 {P : Pl} (h : GoodP P) (i : Nat) (hi : i ≤ P.pts.length) : (rowsW P.n i).length ≤ 216 := by
  refine Nat.le_trans (rowsW_len _ _) ?_
  have h5 := h.r5
  have h3 := h.pl
  exact Nat.le_trans (Nat.pow_le_pow_left (by omega : P.n + 1 ≤ 6) i) (Nat.le_trans (Nat.pow_le_pow_right (by decide) (by omega : i ≤ 3)) (by decide))
theorem okWs_of {P : Pl} (h : GoodP P) {ws : List (List (Option Nat))} (q : WtR P (rowsW P.n P.pts.length) ws) : OkWs P ws := by
  obtain ⟨q1, q2, q3⟩ := q
  refine ⟨fun w hw => ?_, Nat.le_trans q3 (rows216 h _ (Nat.le_refl _)), ?_⟩
  · obtain ⟨m, f⟩ := q1 w hw
    obtain ⟨e1, e2⟩ := rowsW_el _ _ _ m
    exact ⟨e1, e2, fol_follows f⟩
  · obtain ⟨o, m, c⟩ := rowsW_zero h.r1 P.pts.length
    exact ⟨o, q2 o m (fol_const c), fun hn => by cases c _ hn⟩
theorem eqvL_dec {l m : List D} (h1 : nobL l = true) (h2 : nobL m = true) : PyData.eqv (.list (pyL l)) (.list (pyL m)) = true ↔ l = m := by
  have e : PyData.eqv (.list (pyL l)) (.list (pyL m)) = PyData.eqvAll (pyL l) (pyL m) := by
    conv => lhs; unfold PyData.eqv
  rw [e]
  exact ⟨eqvL_eq l m h1 h2, fun z => by rw [z]; exact eqvL_self m⟩
theorem nob_O (o : Option Nat) : (dO o).nob = true := by cases o <;> rfl
theorem lay_O (o : Option Nat) : (dO o).lay = true := by cases o <;> rfl
theorem dep_O (o : Option Nat) : (dO o).dep ≤ 0 := by cases o <;> exact Nat.le_refl _
theorem shapedL_O (l : List (Option Nat)) : SeqAt.shaped (.list (pyL (l.map dO))) = true := shaped_list (lay_map _ lay_O l) (Nat.le_trans (dep_map dO dep_O l) (by decide))
theorem dO_inj {a b : Option Nat} (h : dO a = dO b) : a = b := by
  cases a with
  | none =>
    cases b with
    | none => rfl
    | some j => cases h
  | some i =>
    cases b with
    | none => cases h
    | some j =>
      injection h with h
      congr 1
      omega
theorem mapO_inj : ∀ {l m : List (Option Nat)}, l.map dO = m.map dO → l = m
  | [], [], _ => rfl
  | [], b :: m, h => by cases h
  | a :: l, [], h => by cases h
  | a :: l, b :: m, h => by
    rw [List.map_cons, List.map_cons] at h
    injection h with h1 h2
    rw [dO_inj h1, mapO_inj h2]
section
variable {P : Program} {w : World} {K : PySem.W.Frag} {mg : Str → Option Value} {base : Heap} {CP CS CB : Addr} {σ : L2.St} {H : Hp} {ta te tb tc : TE} {C : Addr}
theorem ev_listRg {n : Nat} (e : Ev C te σ H (.d (.int (n : Nat)))) (hn : n ≤ 1000) : Ev C (tLstRg (tRg1 te)) σ H (.lst (rangeD n)) := fun H1 s Q q => e H1 s _ fun v H2 s2 h => ⟨(n : Nat), rp_int h, RgOk.of_le (by omega) (by omega) (by omega) (by omega), fun p hp => q _ _ (s2.trans (same_new hp _)) ⟨p, _, rfl, upd_same, by
    have e : rgV 0 (n : Nat) = (List.range n).map fun i => V.int (i : Nat) := by
      unfold rgV
      rw [show ((n : Nat) : Int) - 0 = (n : Nat) by omega, Int.toNat_natCast]
      congr 1
      funext i
      rw [Int.zero_add]
    rw [e]
    exact iml_map fun _ _ => rfl⟩⟩
theorem iml_rep {l : List D} {vs : List V} (h : ImL H l vs) : ∀ n, ImL H (List.replicate n l).flatten (List.replicate n vs).flatten
  | 0 => iml_nil
  | n + 1 => by
    rw [List.replicate_succ, List.replicate_succ, List.flatten_cons, List.flatten_cons]
    exact h.app (iml_rep h n)
theorem ev_rep {l : List D} {n : Nat} (ea : Ev C ta σ H (.lst l)) (eb : Ev C tb σ H (.d (.int (n : Nat)))) (hn : n ≤ 1000) (hl : l.length ≤ 1) : Ev C (tOp rRep ta tb) σ H (.lst (List.replicate n l).flatten) := fun H1 s Q q =>
  ea H1 s _ fun v H2 s2 h1 => eb H2 (s.trans s2) _ fun w H3 s3 h2 => by
    obtain ⟨p, xs, e1, e2, e3⟩ := rp_lst (h1.mono s3)
    have hx := e3.len
    refine ⟨p, (n : Nat), xs, e1, rp_int h2, e2, by omega, by omega, ?_, fun r hr => q _ _ ((s2.trans s3).trans (same_new hr _)) ⟨r, _, rfl, upd_same, ?_⟩⟩
    · rw [Int.toNat_natCast, sizeLine_eq]
      have : xs.length * n ≤ 1 * 1000 := Nat.mul_le_mul (by omega) hn
      omega
    · rw [Int.toNat_natCast]
      exact (iml_rep e3 n).mono (same_new hr _)
theorem ev_dgetA {i j : Nat} {d : Addr} {kv : List (Key × V)} {r : Int} {v : V} {a : A} (hi : σ[i]? = some (some (.ref d))) (hj : σ[j]? = some (some (.int r))) (hd : Rd H d (.dK kv)) (hv : valV kv (Sum.inl r) = some v) (hr : Rp C H a v) : Ev C (tDGet (tVar i) (tVar j)) σ H a := fun H1 s Q q =>
  ⟨_, hi, _, hj, d, v, rfl, .inl ⟨kv, Sum.inl r, hd.imp (s _ _) fun ⟨o, e⟩ => ⟨o, s _ _ e⟩, rfl, hv.symm⟩, q v H1 (Same.refl H1) (hr.mono s)⟩
theorem ev_dget2A {i : Nat} {d : Addr} {kv : List (Key × V)} {r : Int} {l : List D} (hi : σ[i]? = some (some (.ref d))) (hd : H d = some (.dK kv)) (eb : Ev C tb σ H (.d (.int r))) (ec : Ev C tc σ H (.lst [])) (hv : ∀ v, valV kv (Sum.inl r) = some v → Rp C H (.lst l) v) (hn : valV kv (Sum.inl r) = none → l = []) : Ev C (tDGet2 (tVar i) tb tc) σ H (.lst l) := fun H1 s Q q =>
  ⟨_, hi, d, rfl, .inl ⟨kv, .inl (s _ _ hd)⟩, eb H1 s _ fun w H2 s2 hw => ec H2 (s.trans s2) _ fun u H3 s3 hu => ⟨valV kv (Sum.inl r), .inl ⟨kv, Sum.inl r, .inl ((s.trans (s2.trans s3)) _ _ hd), rp_int hw, rfl⟩, by
    cases e : valV kv (Sum.inl r) with
    | none =>
      rw [hn e] at q
      exact q _ H3 (s2.trans s3) hu
    | some v => exact q _ H3 (s2.trans s3) ((hv v e).mono (s.trans (s2.trans s3)))⟩⟩
theorem it_keys {i : Nat} {d : Addr} {kv : List (Key × V)} {od : Obj} {ks : List Int} (hi : σ[i]? = some (some (.ref d))) (hd : H d = some (.frz od (.dK kv))) (hk : kv.map (·.1) = ks.map Sum.inl) : EvIs (iKeys (tVar i)) σ H (ks.map .int) := fun H1 s R q =>
  ⟨_, hi, d, od, rfl, .inl ⟨kv, s _ _ hd, q _ H1 (Same.refl H1) (by
    have hl : kv.length = (ks.map D.int).length := by
      have e := congrArg List.length hk
      rw [List.length_map, List.length_map] at e
      rw [List.length_map, e]
    have w := walk_keys (d := d) (o := od) (kvs := kv)
    rw [hl] at w
    refine w.mono (fun H' sm => sm _ _ (s _ _ hd)) fun j H' x H'' hj tx y => ?_
    obtain ⟨y1, k, v, y2, y3⟩ := y
    subst y1
    subst y3
    have e : (kv.map (·.1))[j]? = some k := by rw [List.getElem?_map, y2] <;> rfl
    rw [hk] at e
    obtain ⟨r, e1, rfl⟩ := map_at e
    exact ⟨Same.refl _, .int r, by rw [List.getElem?_map, e1] <;> rfl, rfl⟩)⟩⟩
theorem sq_lockC {d : Addr} {kv : List (Key × V)} {wi : TI} {g : TG} {tt : TT} {vs : List Nat} {o : Nat} {u : TS} {Dn : Ends} {ds : List D} (hd : H d = some (.dK kv)) (e : ∀ od, Ev C (tLc wi g tt te vs) σ (upd H d (.frz od (.dK kv))) (.lst ds))
    (k : ∀ v H', Same H H' → Rp C H' (.lst ds) v → u Dn (σ.set o (some v)) H') : tSeq (tLock (tAsg (tLc wi g tt te vs) (gName o))) u Dn σ H :=
  ⟨d, .dK kv, hd, True.intro, fun od => e od _ (Same.refl _) _ fun v H' s hv => by
    have hf := s _ _ (upd_same : upd H d (.frz od (.dK kv)) d = _)
    refine ⟨hf, k v _ (fun a x hx => ?_) ?_⟩
    · by_cases q : a = d
      · rw [q, upd_same, ← hd, ← q]
        exact hx
      · rw [upd_ne q]
        exact s _ _ (by rw [upd_ne q]; exact hx)
    · obtain ⟨p, us, e1, e2, e3⟩ := rp_lst hv
      refine ⟨p, us, e1, by rw [upd_ne (ne_of e2 hf fun z => nomatch z)]; exact e2, e3.tx (tx_upd hf fun _ z => nomatch z)⟩⟩
theorem sq_forLs {g : TG} {tb u : TS} {Dn : Ends} {v : Nat} {p : Addr} {us : List V} {l : List D} (hv : σ[v]? = some (some (.ref p))) (hp : H p = some (.lst us)) (im : ImL H l us) (Pv : Nat → L2.St → Hp → Prop) (h0 : Pv 0 σ H)
    (hP : ∀ i σ' H', Pv i σ' H' → H' p = some (.lst us) ∧ Tx H H')
    (hs : ∀ (i : Nat) (d : D) (x : V) (σ' : L2.St) (H0 H' : Hp) (Dn' : Ends), l[i]? = some d → Pv i σ' H0 → Same H0 H' → Im H' d x → (∀ σ3 H3, Pv (i + 1) σ3 H3 → Dn'.nx σ3 H3) → Dn'.rt = Dn.rt → g x σ' H' (tb Dn'))
    (hd : ∀ σ' H', Pv l.length σ' H' → u Dn σ' H') : tSeq (tFor (iList K (tVar v)) g tb) u Dn σ H := by
  refine ⟨_, hv, p, rfl, ⟨us, SqL.of hp⟩, ?_⟩
  have w := walk_list (K := K) (a := p) (xs := us)
  rw [im.len] at w
  have wd : WkD (Itl K p) (fun H' => H' p = some (.lst us) ∧ Tx H H') l := w.mono (fun H' h => SqL.of h.1) fun i H' x H'' hi h y => by
    obtain ⟨y1, y2⟩ := y
    rw [y1]
    obtain ⟨d2, h2, i2⟩ := (im.tx h.2).at y2
    exact ⟨Same.refl _, d2, h2, i2⟩
  exact for_d (Dn := { Dn with nx := u Dn }) wd Pv h0 hP (fun i d x σ' H0 H' hi p s im => hs i d x σ' H0 H' _ hi p s im (fun _ _ z => z) rfl) hd
end
end Bf

/-! D16: the law's wirings, the walk. -/
namespace Bf
open PySem PySem.Spec PyProof.Rows L2 Bx
section
variable {P : Program} {w : World} {K : PySem.W.Frag} {mg : Str → Option Value} {base : Heap} {CP CS CB : Addr} {σ : L2.St} {H : Hp} {ta te tb tc : TE} {C : Addr}
theorem grp_take {zs : List PtB} {i : Nat} {e : PtB} (h : zs[i]? = some e) (r : Int) : grpZ (zs.take (i + 1)) r = grpZ (zs.take i) r ++ (if e.1.2.1 = ("lamp" : Str) ∧ e.1.2.2 = r then [e.2] else []) := by
  unfold grpZ
  rw [filt_take _ h]
  by_cases c : e.1.2.1 = ("lamp" : Str) ∧ e.1.2.2 = r
  · rw [if_pos c, if_pos c] <;> rfl
  · rw [if_neg c, if_neg c] <;> rfl
theorem flat_take1 {α β : Type} (G : α → List β) {l : List α} {i : Nat} {a : α} (h : l[i]? = some a) : (l.take (i + 1)).flatMap G = (l.take i).flatMap G ++ G a := by
  rw [List.take_add_one, h, List.flatMap_append]
  show _ ++ List.flatMap G [a] = _
  rw [List.flatMap_cons, List.flatMap_nil, List.append_nil]
def sp_wirings (CP : Addr) : Sp := fun vs H Q _ => ∃ p Pn, vs = [.ref p] ∧ PlanAt CP H p Pn ∧ GoodP Pn ∧ ∀ v H' ws, Same H H' → Rp CP H' (.lst (ws.map dW)) v → OkWs Pn ws → Q v H'
/-- the rooms' dict after some of the points -/
structure KI (CP : Addr) (kv : List (Key × V)) (H : Hp) (zs : List PtB) : Prop where
  of : ∀ y v, valV kv y = some v → ∃ r, y = Sum.inl r ∧ grpZ zs r ≠ [] ∧ Rp CP H (.lst ((grpZ zs r).map dO)) v
  no : ∀ r, valV kv (Sum.inl r) = none → grpZ zs r = []
theorem KI.mono {CP : Addr} {kv : List (Key × V)} {H H' : Hp} {zs : List PtB} (k : KI CP kv H zs) (s : ∀ r v, valV kv (Sum.inl r) = some v → Rp CP H (.lst ((grpZ zs r).map dO)) v → Rp CP H' (.lst ((grpZ zs r).map dO)) v) : KI CP kv H' zs :=
  ⟨fun y v h => by
    obtain ⟨r, e, n, q⟩ := k.of y v h
    subst e
    exact ⟨r, rfl, n, s r v h q⟩, k.no⟩
theorem KI.ints {CP : Addr} {kv : List (Key × V)} {H : Hp} {zs : List PtB} (k : KI CP kv H zs) : ∃ ks : List Int, kv.map (·.1) = ks.map Sum.inl ∧ ∀ r, r ∈ ks ↔ ∃ v, valV kv (Sum.inl r) = some v := by
  have key : ∀ l : List Key, (∀ y ∈ l, ∃ v, valV kv y = some v) → ∃ ks : List Int, l = ks.map Sum.inl := by
    intro l
    induction l with
    | nil => exact fun _ => ⟨[], rfl⟩
    | cons y l ih =>
      intro h
      obtain ⟨v, hv⟩ := h y List.mem_cons_self
      obtain ⟨r, e, _⟩ := k.of y v hv
      obtain ⟨ks, e2⟩ := ih fun z hz => h z (List.mem_cons_of_mem _ hz)
      exact ⟨r :: ks, by rw [e, e2] <;> rfl⟩
  have hin : ∀ y, y ∈ kv.map (·.1) ↔ ∃ v, valV kv y = some v := fun y => by
    have e := valV_any y kv
    constructor
    · intro h
      obtain ⟨p, hp, q⟩ := List.mem_map.mp h
      have : (kv.any fun kv => decide (kv.1 = y)) = true := List.any_eq_true.mpr ⟨p, hp, decide_eq_true q⟩
      rw [this] at e
      exact Option.isSome_iff_exists.mp e.symm
    · rintro ⟨v, hv⟩
      rw [hv] at e
      obtain ⟨p, hp, q⟩ := List.any_eq_true.mp e
      exact List.mem_map.mpr ⟨p, hp, of_decide_eq_true q⟩
  obtain ⟨ks, e⟩ := key _ fun y hy => (hin y).mp hy
  refine ⟨ks, e, fun r => ?_⟩
  rw [← hin, e]
  exact ⟨fun h => List.mem_map_of_mem h, fun h => by
    obtain ⟨r2, h2, e2⟩ := List.mem_map.mp h
    injection e2 with e2
    rw [← e2]
    exact h2⟩
theorem ok__law_wirings (T : Txt K mg CP CS CB) : C8.Cal P w K mg base 4 "_law_wirings" (sp_wirings CP) [] := by
  have c_Plan_points := ok_Plan_points (P := P) (w := w) (base := base) T
  have c_Plan_len := ok_Plan_len (P := P) (w := w) (base := base) T
  have c_Plan_rule := ok_Plan_rule (P := P) (w := w) (base := base) T
  refine cal_s T.d__law_wirings sc__law_wirings (fun vs H Q E h => ?_) fun f cdv A outer s H vs Q E hr h => ?_
  · obtain ⟨_, _, rfl, _⟩ := h
    rfl
  obtain ⟨p, Pn, rfl, hP, hG, k⟩ := h
  have hpl := hG.pl
  have h5 := hG.r5
  have hPr : Rp CP H (.pl Pn) (.ref p) := ⟨p, rfl, hP⟩
  refine ⟨_, (pss_cons (ps_set (i := 1) sc__law_wirings.nd rfl (Or.inl rfl) (pe_lst (pa_cons (pe_tup pa_nil) pa_nil)))
    (pss_cons (ps_for PassesOwn.never rfl (pi_tup (Bf.pe_pSl c_Plan_points T.clP hr (by decide) (pv 0))) (pg_name (i := 2) sc__law_wirings.nd rfl (Or.inl rfl)) (pss_cons (ps_set (i := 3) sc__law_wirings.nd rfl (Or.inl rfl) (pe_lst pa_nil))
    (pss_cons (ps_for PassesOwn.never rfl (pi_list (pv 1)) (pg_name (i := 4) sc__law_wirings.nd rfl (Or.inr rfl)) (pss_one (ps_set (i := 3) sc__law_wirings.nd rfl (Or.inl rfl) (pe_op op_cat (pv 3) (pe_lc (own := [("_law_breaker", 5)]) (g := (gName 5)) (tt := tYes) rfl sc__law_wirings.nd (pi_list (pe_op op_cat (pe_lst (pa_cons pe_non pa_nil)) (pe_listRg rfl (by rfl) T.b_list (prg_1 (by rfl) T.b_range (Bf.pe_lenP c_Plan_len T.clP hr (by decide) (by rfl) T.b_len (pa_cons (pv 0) pa_nil)))))) (blkOk_by (own := [("_law_breaker", 5)]) (N := ["_law_plan_here", "_law_rows", "_law_point", "_law_more", "_law_one", "_law_breaker", "_law_found", "_law_rooms", "_law_unlike", "_law_room"]) (sc := defScope s__law_wirings) (by decide +kernel)) (fun _ _ _ _ _ => (pg_name (i := 5) sc__law_wirings.nd rfl (Or.inl rfl) (Or.inr rfl))) (fun _ _ _ _ _ => pts_nil) (fun _ _ _ _ _ => (pe_op (Bf.catTK K) (pv 4) (pe_tup (pa_cons (pv 5) pa_nil)))))))))
    (pss_one (ps_set (i := 1) sc__law_wirings.nd rfl (Or.inl rfl) (pv 3))))))
    (pss_cons (ps_set (i := 6) sc__law_wirings.nd rfl (Or.inl rfl) (pe_lst pa_nil))
    (pss_cons (ps_for PassesOwn.never rfl (pi_list (pv 1)) (pg_name (i := 4) sc__law_wirings.nd rfl (Or.inr rfl)) (pss_cons (ps_set (i := 7) sc__law_wirings.nd rfl (Or.inr rfl) pe_dnewK)
    (pss_cons (ps_for PassesOwn.never rfl (RZ.pi_zipA (by rfl) T.b_zip (pa_cons (Bf.pe_pSl c_Plan_points T.clP hr (by decide) (pv 0)) (pa_cons (pv 4) pa_nil))) (pg_tup rfl (pgs_cons (pg_name (i := 2) sc__law_wirings.nd rfl (Or.inl rfl)) (pgs_cons (pg_name (i := 5) sc__law_wirings.nd rfl (Or.inl rfl)) pgs_nil))) (pss_one (ps_if (pt_cmpR op_eq (pe_ix (Bf.ixT K) (pv 2) pe_int (fun _ _ => rfl)) pe_str (nomark _)) (pss_one (ps_dput (hu_of hr) (pv 7) (pe_ix (Bf.ixT K) (pv 2) pe_int (fun _ _ => rfl)) (pe_op op_cat (pe_dget2 (hu_of hr) (pv 7) (pe_ix (Bf.ixT K) (pv 2) pe_int (fun _ _ => rfl)) (pe_lst pa_nil) ⟨rfl, rfl, rfl, rfl⟩) (pe_lst (pa_cons (pv 5) pa_nil))) rfl)) pss_nil)))
    (pss_cons (ps_lock (ps_setLc (i := 8) (own := [("_law_room", 9)]) (g := (gName 9)) rfl sc__law_wirings.nd rfl rfl (sw_true rfl rfl rfl (by decide +kernel)) (pi_keys (pv 7)) (blkOk_by (own := [("_law_room", 9)]) (N := ["_law_plan_here", "_law_rows", "_law_point", "_law_more", "_law_one", "_law_breaker", "_law_found", "_law_rooms", "_law_unlike", "_law_room"]) (sc := defScope s__law_wirings) (by decide +kernel)) (fun _ _ _ _ _ => (pg_name (i := 9) sc__law_wirings.nd rfl (Or.inl rfl) (Or.inr rfl))) (fun _ _ _ _ _ => (pts_one (pt_cmpR (Bf.neDK K hr.units) (pe_dget (hu_of hr) (pv 7) (pv 9) (fun _ _ => rfl)) (pe_op op_rep (pe_slice (Bf.slLK K) (pe_dget (hu_of hr) (pv 7) (pv 9) (fun _ _ => rfl)) po_none (po_some pe_int)) (pe_callB (Bf.lenSK K) (by rfl) T.b_len (by decide +kernel) (pa_cons (pe_dget (hu_of hr) (pv 7) (pv 9) (fun _ _ => rfl)) pa_nil))) (nomark _)))) (fun _ _ _ _ _ => (pv 9))))
    (pss_one (ps_if (PW.pt (pw_or (pt_cmpR op_eq (Bf.pe_pSl c_Plan_rule T.clP hr (by decide) (pv 0)) pe_str (nomark _)) (pw_or1 (pt_cmpR (Bf.eqDK K hr.units) (pv 8) (pe_lst pa_nil) (nomark _))))) (pss_one (ps_expr (pe_bm PySem.F.plainAttrs_list PySem.F.slot_list_append PySem.F.type_list_append mt_append (pv 6) (pa_cons (pv 4) pa_nil)))) pss_nil))))))
    (pss_one (ps_ret (pv 6))))))), ?_⟩
  refine sq_set (C := CP) (ev_lst (ds := [.tup []]) (ea_one (ev_tup (ds := []) ea_nil (by decide))) (by show 1 ≤ 1000; decide)) fun vr H1 s1 hvr => ?_
  refine sq_forSH (items := Pn.pts.map dPt) (it_tup (ev_prop (ev_v (i := 0) rfl (hPr.mono s1)) ⟨Pn, rfl, rfl⟩)).s (fun i σ' H' => ∃ (v1 : V) (o2 o3 o4 : Option V), σ' = [some (.ref p), some v1, o2, o3, o4, none, none, none, none, none] ∧ Rp CP H' (.lst ((rowsW Pn.n i).map dW)) v1) (fun H2 s2 => ⟨vr, none, none, none, rfl, hvr.mono s2⟩) ?_ ?_
  · rintro i d x σ' H2 H3 Dn' hi ⟨v1, o2, o3, o4, rfl, hv1⟩ s2 s3 im hnx hct hrt
    have hil := (List.getElem?_eq_some_iff.mp hi).1
    rw [List.length_map] at hil
    have s13 := s1.trans s3
    refine sq_set (C := CP) (ev_lst (ds := []) ea_nil (by decide)) fun vm H4 s4 hvm => ?_
    have h216 := rows216 hG i (by omega)
    have h216' := rows216 hG (i + 1) (by omega)
    let G : List (Option Nat) → List (List (Option Nat)) := fun o => (optW Pn.n).map fun b => o ++ [b]
    refine sq_forSH (items := (rowsW Pn.n i).map dW) (it_list (C := CP) (ev_v (i := 1) rfl (hv1.mono (s2.trans s4)))) (fun j σ' H' => ∃ (v3 : V) (o4 : Option V), σ' = [some (.ref p), some v1, some x, some v3, o4, none, none, none, none, none] ∧ Rp CP H' (.lst ((((rowsW Pn.n i).take j).flatMap G).map dW)) v3) (fun H5 s5 => ⟨vm, o4, rfl, hvm.mono s5⟩) ?_ ?_
    · rintro j d2 x2 σ' H5 H6 Dn2 hj ⟨v3, o5, rfl, hv3⟩ s5 s6 im2 hnx2 hct2 hrt2
      obtain ⟨o, ho, rfl⟩ := map_at hj
      have hol := (rowsW_el _ _ _ (List.mem_of_getElem? ho)).1
      have ft := flat_take1 G ho
      have hfl : (((rowsW Pn.n i).take j).flatMap G).length ≤ 216 := by
        refine Nat.le_trans ?_ h216'
        show _ ≤ ((rowsW Pn.n i).flatMap G).length
        conv => rhs; rw [← List.take_append_drop j (rowsW Pn.n i), List.flatMap_append, List.length_append]
        exact Nat.le_add_right _ _
      refine st_set (C := CP) (a := .lst ((((rowsW Pn.n i).take (j + 1)).flatMap G).map dW)) ?_ fun v4 H7 s7 hv4 => hnx2 _ _ ⟨v4, _, rfl, hv4⟩ s7
      rw [ft, List.map_append]
      have eG : (G o).map dW = (optW Pn.n).map fun b => dW (o ++ [b]) := by
        show ((optW Pn.n).map fun b => o ++ [b]).map dW = _
        rw [List.map_map]
        rfl
      rw [eG]
      refine ev_catL (ev_v rfl (hv3.mono s5)) (ev_lcma (xs := optW Pn.n) (φ := dO) ?_ (fun b => dW (o ++ [b])) (by rw [optW_len]; omega) fun i2 b x3 H7 hi2 s7 im3 => turn_name rfl ?_) (by rw [List.length_map, List.length_map, optW_len]; omega)
      · rw [optW_d]
        exact it_list (ev_catL (ev_lst (ds := [.non]) (ea_one ev_non) (by decide)) (ev_listRg (ev_lenP (ea_one (ev_v (i := 0) rfl (hPr.mono (s13.trans (s4.trans s6))))) ⟨Pn, rfl, rfl⟩ (by omega)) (by omega)) (by rw [List.length_map, List.length_range]; show 1 + _ ≤ _; omega))
      · have e : D.tup ((o ++ [b]).map dO) = .tup (o.map dO ++ [dO b]) := by rw [List.map_append] <;> rfl
        show Ev CP _ _ _ (.d (.tup ((o ++ [b]).map dO)))
        rw [e]
        exact ev_catT (ev_v (i := 4) rfl (Im.mono im2 s7)) (ev_tup (ds := [dO b]) (ea_one (ev_v (i := 5) rfl im3)) (by show 1 ≤ 1000; decide)) (by rw [List.length_map, hol]; show _ + 1 ≤ 1000; omega)
    · rintro σ' H5 ⟨v3, o5, rfl, hv3⟩ s5
      rw [List.length_map, List.take_length] at hv3
      refine st_set (C := CP) (ev_v (i := 3) rfl hv3) fun v4 H7 s7 hv4 => hnx _ _ ⟨v4, _, _, _, rfl, hv4⟩ (s4.trans (s5.trans s7))
  · rintro σ' H2 ⟨v1, o2, o3, o4, rfl, hv1⟩ s2
    rw [List.length_map] at hv1
    have s12 := s1.trans s2
    have h216 := rows216 hG _ (Nat.le_refl _)
    have hel := rowsW_el Pn.n Pn.pts.length
    have hok : ∀ ws, WtR Pn (rowsW Pn.n Pn.pts.length) ws → OkWs Pn ws := fun ws q => okWs_of hG q
    generalize rowsW Pn.n Pn.pts.length = rows at hv1 h216 hel hok
    refine ⟨by show 0 ≤ sizeLine; exact Nat.zero_le _, fun fD hfD => ?_⟩
    obtain ⟨pR, us, rfl, hpR, hus⟩ := rp_lst hv1
    have npf : pR ≠ fD := ne_of_none hpR hfD
    have txf : ∀ H', Same H2 H' → Tx (upd H2 fD (.lst [])) H' := fun H' s a xs e => s a _ (by
      have n : a ≠ fD := fun z => by rw [z, upd_same] at e; cases e
      rw [upd_ne n] at e
      exact e)
    refine sq_forLs (l := rows.map dW) (v := 1) rfl (by rw [upd_ne npf]; exact hpR) (hus.mono (same_new hfD _)) (fun i σ' H' => ∃ (o2 o3 o4 o5 o7 o8 : Option V) (us' : List V) (ws : List (List (Option Nat))), σ' = [some (.ref p), some (.ref pR), o2, o3, o4, o5, some (.ref fD), o7, o8, none] ∧ Same H2 H' ∧ H' fD = some (.lst us') ∧ ImL H' (ws.map dW) us' ∧ WtR Pn (rows.take i) ws)
      ⟨o2, o3, o4, none, none, none, [], [], rfl, same_new hfD _, upd_same, rfl, fun w hw => (nomatch hw), fun w hw => (nomatch hw), Nat.le_refl _⟩ (fun i σ' H' ⟨_, _, _, _, _, _, _, _, _, s, _⟩ => ⟨s _ _ hpR, txf H' s⟩) ?_ ?_
    · rintro i d x σ' H3 H4 Dn' hi ⟨o2, o3, o4, o5, o7, o8, us', ws, rfl, s3, hf3, hws, hwt⟩ s4 im hnx hrt
      obtain ⟨o, ho, rfl⟩ := map_at hi
      obtain ⟨hol, hor⟩ := hel o (List.mem_of_getElem? ho)
      have hf4 := s4 _ _ hf3
      have s24 := s3.trans s4
      refine sq_dnew fun dR hdR => ?_
      have sd := same_new hdR (.dK [])
      have nfd : fD ≠ dR := ne_of_none hf4 hdR
      have hP5 : Rp CP (upd H4 dR (.dK [])) (.pl Pn) (.ref p) := hPr.mono (s12.trans (s24.trans sd))
      have im5 : Im (upd H4 dR (.dK [])) (dW o) x := im.mono sd
      have hzl : (Pn.pts.zip o).length = Pn.pts.length := by rw [List.length_zip, hol, Nat.min_self]
      have it := it_zip (K := K) (C := CP) (σ := [some (.ref p), some (.ref pR), o2, o3, some x, o5, some (.ref fD), some (.ref dR), o8, none]) (H := upd H4 dR (.dK [])) (l := Pn.pts.map dPt) (m := o.map dO) (t := tCons (SlX.tPropSl CP (SpD CP R_Plan_points) E0 (tVar 0)) (tCons (tVar 4) tNil)) (ea_cons (ev_prop (ev_v (i := 0) rfl hP5) ⟨Pn, rfl, rfl⟩) (ea_one (ev_v (i := 4) rfl im5)))
      rw [zipD_map] at it
      refine sq_forT it (fun j σ' H' => ∃ (o2 o5 : Option V) (kv : List (Key × V)), σ' = [some (.ref p), some (.ref pR), o2, o3, some x, o5, some (.ref fD), some (.ref dR), o8, none] ∧ Same H4 H' ∧ H' dR = some (.dK kv) ∧ kv.length ≤ j ∧ KI CP kv H' ((Pn.pts.zip o).take j))
        (fun H5 s5 => ⟨o2, o5, [], rfl, sd.trans s5, s5 _ _ upd_same, Nat.le_refl _, fun y v z => (nomatch z), fun r z => rfl⟩) ?_ ?_
      · rintro j d2 x2 σ' H5 H6 Dn2 hj ⟨o2, o5, kv, rfl, s5, hk5, hkl, hki⟩ s6 im2 hnx2 hct2 hrt2
        obtain ⟨⟨pt, b⟩, ha, rfl⟩ := map_at hj
        have gt := grp_take ha
        have hjl := (List.getElem?_eq_some_iff.mp ha).1
        obtain ⟨u, y, hu, hy, g⟩ := g_pair (K := K) (n := 2) (m := 5) im2
        refine g _ _ ?_
        have hk6 := s6 _ _ hk5
        have hki6 := hki.mono (H' := H6) fun r v _ q => q.mono s6
        refine st_ifn (et_test (C := CP) (ev_eqS (ev_ixT (l := [.str pt.1, .str pt.2.1, .int pt.2.2]) (i := 1) (ev_v (i := 2) rfl hu) ev_int rfl) ev_str)) (fun e H7 s7 => ?_) (fun e H7 s7 => ?_)
        · have hlamp : pt.2.1 = ("lamp" : Str) := of_decide_eq_true e
          have hk7 := s7 _ _ hk6
          have hki7 := hki6.mono (H' := H7) fun r v _ q => q.mono s7
          have hu7 : Im H7 (dPt pt) u := Im.mono hu s7
          have hy7 : Im H7 (dO b) y := Im.mono hy s7
          have hg3 : (grpZ ((Pn.pts.zip o).take j) pt.2.2).length ≤ 3 := Nat.le_trans (List.length_filterMap_le ..) (by rw [List.length_take]; omega)
          refine ev_go (P := fun v H' => Rp CP H' (.lst ((grpZ ((Pn.pts.zip o).take j) pt.2.2).map dO ++ [dO b])) v) (ev_catL (ev_dget2A (i := 7) (kv := kv) (r := pt.2.2) rfl hk7 (ev_ixT (l := [.str pt.1, .str pt.2.1, .int pt.2.2]) (i := 2) (ev_v (i := 2) rfl hu7) ev_int rfl) (ev_lst (ds := []) ea_nil (by decide)) (fun v hv => ?_) (fun hv => ?_)) (ev_lst (ds := [dO b]) (ea_one (ev_v (i := 5) rfl hy7)) (by show 1 ≤ 1000; decide)) (by rw [List.length_map]; show _ + 1 ≤ 1000; omega)) fun vl H8 s8 hvl => ?_
          · obtain ⟨r, e1, _, q⟩ := hki7.of _ _ hv
            injection e1 with e1
            rw [e1]
            exact q
          · rw [hki7.no _ hv]
            rfl
          · refine ⟨_, rfl, ?_⟩
            refine ev_go (P := fun v H' => Rp CP H' (.d (.int pt.2.2)) v) (ev_ixT (l := [.str pt.1, .str pt.2.1, .int pt.2.2]) (i := 2) (ev_v (i := 2) rfl (Im.mono hu7 s8)) ev_int rfl) fun vr H9 s9 hvr => ?_
            have hk9 := s9 _ _ (s8 _ _ hk7)
            have hki9 := hki7.mono (H' := H9) fun r v _ q => q.mono (s8.trans s9)
            have hvl9 := hvl.mono s9
            refine ⟨dR, _, rfl, .inl ⟨kv, Sum.inl pt.2.2, hk9, rp_int hvr, by rw [sizeLine_eq]; omega, rfl⟩, ?_⟩
            have txd : ∀ ds, Rp CP H9 (.lst ds) vl → Rp CP (upd H9 dR (.dK (putK kv (Sum.inl pt.2.2) vl))) (.lst ds) vl := fun ds q => by
              obtain ⟨q1, q2, q3, q4, q5⟩ := rp_lst q
              exact ⟨q1, q2, q3, by rw [upd_ne (ne_of q4 hk9 fun z => nomatch z)]; exact q4, q5.tx (tx_upd hk9 fun _ z => nomatch z)⟩
            have txd2 : ∀ ds v, Rp CP H9 (.lst ds) v → Rp CP (upd H9 dR (.dK (putK kv (Sum.inl pt.2.2) vl))) (.lst ds) v := fun ds v q => by
              obtain ⟨q1, q2, q3, q4, q5⟩ := rp_lst q
              exact ⟨q1, q2, q3, by rw [upd_ne (ne_of q4 hk9 fun z => nomatch z)]; exact q4, q5.tx (tx_upd hk9 fun _ z => nomatch z)⟩
            refine hnx2 _ _ ⟨_, _, _, rfl, same_mut (s5.trans (s6.trans (s7.trans (s8.trans s9)))) hdR, upd_same, by have := length_putK kv (Sum.inl pt.2.2) vl; omega, ⟨fun y0 v0 hv0 => ?_, fun r hr => ?_⟩⟩ ((Same.tx (s7.trans (s8.trans s9))).trans (tx_upd hk9 fun _ z => nomatch z))
            · rw [valV_put] at hv0
              by_cases q : y0 = Sum.inl pt.2.2
              · rw [if_pos q] at hv0
                cases hv0
                refine ⟨pt.2.2, q, ?_, ?_⟩
                · rw [gt, if_pos ⟨hlamp, rfl⟩]
                  exact List.append_ne_nil_of_right_ne_nil _ (List.cons_ne_nil _ _)
                · rw [gt, if_pos ⟨hlamp, rfl⟩, List.map_append]
                  exact txd _ hvl9
              · rw [if_neg q] at hv0
                obtain ⟨r, e1, e2, e3⟩ := hki9.of _ _ hv0
                have nr : ¬ pt.2.2 = r := fun z => q (by rw [e1, z])
                refine ⟨r, e1, ?_, ?_⟩
                · rw [gt, if_neg (fun z => nr z.2), List.append_nil]
                  exact e2
                · rw [gt, if_neg (fun z => nr z.2), List.append_nil]
                  exact txd2 _ _ e3
            · rw [valV_put] at hr
              by_cases q : (Sum.inl r : Key) = Sum.inl pt.2.2
              · rw [if_pos q] at hr
                cases hr
              · rw [if_neg q] at hr
                have nr : ¬ pt.2.2 = r := fun z => q (by rw [z])
                rw [gt, if_neg (fun z => nr z.2), List.append_nil]
                exact hki9.no r hr
        · have hlamp : ¬ pt.2.1 = ("lamp" : Str) := of_decide_eq_false e
          refine hnx2 _ _ ⟨_, _, kv, rfl, s5.trans (s6.trans s7), s7 _ _ hk6, Nat.le_succ_of_le hkl, ⟨fun y0 v0 hv0 => ?_, fun r hr => ?_⟩⟩ (Same.tx s7)
          · obtain ⟨r, e1, e2, e3⟩ := hki6.of _ _ hv0
            refine ⟨r, e1, ?_, ?_⟩
            · rw [gt, if_neg (fun z => hlamp z.1), List.append_nil]
              exact e2
            · rw [gt, if_neg (fun z => hlamp z.1), List.append_nil]
              exact e3.mono s7
          · rw [gt, if_neg (fun z => hlamp z.1), List.append_nil]
            exact hki6.no r hr
      · rintro σ' H5 ⟨o2, o5, kv, rfl, s5, hk5, hkl, hki⟩
        rw [List.length_map] at hki hkl
        rw [List.take_length] at hki
        obtain ⟨ks, hks, hkm⟩ := hki.ints
        have hksl : ks.length ≤ 3 := by
          have e := congrArg List.length hks
          rw [List.length_map, List.length_map] at e
          omega
        have dec : ∀ r : Int, Decidable (uni (grpZ (Pn.pts.zip o) r)) := fun r => Classical.propDecidable _
        refine sq_lockC (C := CP) (d := dR) (kv := kv) (ds := (ks.filter fun r => !decide (uni (grpZ (Pn.pts.zip o) r))).map .int) hk5 (fun od => ?_) fun vu H6 s6 hvu => ?_
        · have eL : (ks.filter fun r => !decide (uni (grpZ (Pn.pts.zip o) r))).map D.int = ks.filterMap fun r => if uni (grpZ (Pn.pts.zip o) r) then none else some (D.int r) := by
            clear hks hkm hksl hvr
            induction ks with
            | nil => rfl
            | cons r ks ih =>
              rw [List.filter_cons, List.filterMap_cons]
              by_cases c : uni (grpZ (Pn.pts.zip o) r)
              · rw [if_pos c, decide_eq_true c]
                exact ih
              · rw [if_neg c, decide_eq_false c]
                show D.int r :: _ = D.int r :: _
                rw [ih]
          rw [eL]
          refine ev_lca (xs := ks) (φ := D.int) (it_keys (i := 7) rfl upd_same hks) (fun r => if uni (grpZ (Pn.pts.zip o) r) then none else some (D.int r)) (by omega) fun i2 r x3 H7 hi2 s7 im3 => turnO_name rfl ?_ fun d hd => ?_
          · have er := im_int im3
            subst er
            obtain ⟨v, hv⟩ := (hkm r).mp (List.mem_of_getElem? hi2)
            obtain ⟨r2, e1, e2, e3⟩ := hki.of _ _ hv
            injection e1 with e1
            subst e1
            have hd7 : Rd H7 dR (.dK kv) := .inr ⟨od, s7 _ _ upd_same⟩
            have hR7 : ∀ H8, Same H7 H8 → Rp CP H8 (.lst ((grpZ (Pn.pts.zip o) r).map dO)) v := fun H8 s8 => by
              obtain ⟨q1, q2, q3, q4, q5⟩ := rp_lst e3
              exact ⟨q1, q2, q3, s8 _ _ (s7 _ _ (by rw [upd_ne (ne_of q4 hk5 fun z => nomatch z)]; exact q4)), q5.tx ((tx_upd hk5 fun _ z => nomatch z).trans (Same.tx (s7.trans s8)))⟩
            have eg : Ev CP (tDGet (tVar 7) (tVar 9)) ((wipe [some (.ref p), some (.ref pR), o2, o3, some x, o5, some (.ref fD), some (.ref dR), o8, none] [9]).set 9 (some (.int r))) H7 (.lst ((grpZ (Pn.pts.zip o) r).map dO)) := ev_dgetA (i := 7) (j := 9) (r := r) rfl rfl hd7 hv (hR7 H7 (Same.refl _))
            have hgl : (grpZ (Pn.pts.zip o) r).length ≤ 3 := Nat.le_trans (List.length_filterMap_le ..) (by omega)
            have el := ev_b (C := CP) (ea_one eg) (er_len_lst (K := K))
            rw [List.length_map] at el
            have esl : Ev CP (L2.tSl (rSlL K) (tDGet (tVar 7) (tVar 9)) tNoPart (tPart (tC (.int 1)))) ((wipe [some (.ref p), some (.ref pR), o2, o3, some x, o5, some (.ref fD), some (.ref dR), o8, none] [9]).set 9 (some (.int r))) H7 (.lst (((grpZ (Pn.pts.zip o) r).take 1).map dO)) := by
              have e := ev_slL (K := K) eg eo_no (eo_some (C := CP) (i := ((1 : Nat) : Int)) ev_int)
              rw [cutD_to, ← List.map_take] at e
              exact e
            have erp := ev_rep esl el (by omega) (by rw [List.length_map, List.length_take]; omega)
            have efl : (List.replicate (grpZ (Pn.pts.zip o) r).length (((grpZ (Pn.pts.zip o) r).take 1).map dO)).flatten = ((List.replicate (grpZ (Pn.pts.zip o) r).length ((grpZ (Pn.pts.zip o) r).take 1)).flatten).map dO := by
              rw [List.map_flatten, List.map_replicate]
            rw [efl] at erp
            have ene := ev_neL (K := K) eg erp (shapedL_O _) (shapedL_O _) (b := decide (uni (grpZ (Pn.pts.zip o) r))) (by
              have q := eqvL_dec (nob_map dO nob_O (grpZ (Pn.pts.zip o) r)) (nob_map dO nob_O ((List.replicate (grpZ (Pn.pts.zip o) r).length ((grpZ (Pn.pts.zip o) r).take 1)).flatten))
              by_cases c : uni (grpZ (Pn.pts.zip o) r)
              · rw [decide_eq_true c]
                refine q.mpr ?_
                rw [← (uni_rep _).mpr c]
              · rw [decide_eq_false c]
                refine eq_false_of_ne_true fun z => c ((uni_rep _).mp (mapO_inj (q.mp z))))
            have et := et_test (C := CP) ene
            by_cases c : uni (grpZ (Pn.pts.zip o) r)
            · rw [if_pos c]
              rw [decide_eq_true c] at et
              exact et
            · rw [if_neg c]
              rw [decide_eq_false c] at et
              exact et
          · by_cases c : uni (grpZ (Pn.pts.zip o) r)
            · rw [if_pos c] at hd
              cases hd
            · rw [if_neg c] at hd
              cases hd
              exact ev_v rfl im3
        · have hP6 : Rp CP H6 (.pl Pn) (.ref p) := hPr.mono (s12.trans (s24.trans (s5.trans s6)))
          have s26 := s24.trans (s5.trans s6)
          have hf6 := s6 _ _ (s5 _ _ hf4)
          have hws6 := hws.mono (s4.trans (s5.trans s6))
          have hwl := hwt.2.2
          have htl : (rows.take i).length ≤ 216 := by
            rw [List.length_take]
            omega
          have hul := hws6.len
          rw [List.length_map] at hul
          have rt : rows.take (i + 1) = rows.take i ++ [o] := by
            rw [List.take_add_one, ho]
            rfl
          refine st_ifn (et_or (et_test (C := CP) (ev_eqS (ev_prop (ev_v (i := 0) rfl hP6) ⟨Pn, rfl, rfl⟩) ev_str)) fun _ => et_test (C := CP) (ev_eqL (m := []) (ev_v (i := 8) rfl hvu) (ev_lst (ds := []) ea_nil (by decide)) (shaped_list (lay_map _ (fun _ => rfl) _) (Nat.le_trans (dep_map D.int (n := 0) (fun _ => Nat.le_refl _) _) (by decide))) (by decide +kernel) (eqv_nil _))) (fun e H7 s7 => ?_) (fun e H7 s7 => ?_)
          · have hfol : fol Pn o := by
              rcases Bool.or_eq_true _ _ ▸ e with q | q
              · exact .inl (of_decide_eq_true q)
              · refine .inr fun r x hx y hy => ?_
                have hm : r ∈ ks := (hkm r).mpr (by
                  cases ev : valV kv (Sum.inl r) with
                  | none =>
                    rw [hki.no r ev] at hx
                    cases hx
                  | some v => exact ⟨v, rfl⟩)
                have q2 := List.isEmpty_iff.mp q
                have q3 := List.map_eq_nil_iff.mp q2
                have q4 := List.filter_eq_nil_iff.mp q3 r hm
                have q5 : uni (grpZ (Pn.pts.zip o) r) := by
                  by_cases c : uni (grpZ (Pn.pts.zip o) r)
                  · exact c
                  · rw [decide_eq_false c] at q4
                    exact absurd rfl q4
                exact q5 x hx y hy
            have hf7 := s7 _ _ hf6
            refine ⟨_, rfl, .inl ⟨rfl, _, SqL.of hf7⟩, ?_⟩
            refine ⟨_, rfl, fD, us', x, rfl, rfl, hf7, by rw [sizeLine_eq]; omega, ?_⟩
            have tx7 : Tx H7 (upd H7 fD (.lst (us' ++ [x]))) := tx_upd hf7 fun _ z => nomatch z
            refine hnx _ _ ⟨_, _, _, _, _, _, us' ++ [x], ws ++ [o], rfl, same_mut (s26.trans s7) hfD, upd_same, ?_, ?_⟩
            · rw [List.map_append]
              exact (hws6.tx ((Same.tx s7).trans tx7)).app (iml_cons (im.tx ((Same.tx (s5.trans (s6.trans s7))).trans tx7)) iml_nil)
            · rw [rt]
              refine ⟨fun w hw => ?_, fun w hw hfw => ?_, by rw [List.length_append, List.length_append]; exact Nat.add_le_add_right hwl _⟩
              · rcases List.mem_append.mp hw with q | q
                · obtain ⟨q1, q2⟩ := hwt.1 w q
                  exact ⟨List.mem_append_left _ q1, q2⟩
                · rw [List.mem_singleton.mp q]
                  exact ⟨List.mem_append_right _ List.mem_cons_self, hfol⟩
              · rcases List.mem_append.mp hw with q | q
                · exact List.mem_append_left _ (hwt.2.1 w q hfw)
                · exact List.mem_append_right _ q
          · have hnf : ¬ fol Pn o := fun hfo => by
              have e1 : decide (Pn.rule = ("free" : Str)) = false := by
                cases q : decide (Pn.rule = ("free" : Str)) with
                | false => rfl
                | true =>
                  rw [q] at e
                  cases e
              rcases hfo with q | q
              · exact of_decide_eq_false e1 q
              · have e2 : (ks.filter fun r => !decide (uni (grpZ (Pn.pts.zip o) r))) = [] := List.filter_eq_nil_iff.mpr fun r _ z => by
                  rw [decide_eq_true (q r)] at z
                  cases z
                rw [e2, e1] at e
                cases e
            refine hnx _ _ ⟨_, _, _, _, _, _, us', ws, rfl, s26.trans s7, s7 _ _ hf6, hws6.mono s7, ?_⟩
            rw [rt]
            refine ⟨fun w hw => ?_, fun w hw hfw => ?_, by rw [List.length_append]; exact Nat.le_trans hwl (Nat.le_add_right _ _)⟩
            · obtain ⟨q1, q2⟩ := hwt.1 w hw
              exact ⟨List.mem_append_left _ q1, q2⟩
            · rcases List.mem_append.mp hw with q | q
              · exact hwt.2.1 w q hfw
              · rw [List.mem_singleton.mp q] at hfw
                exact absurd hfw hnf
    · rintro σ' H3 ⟨o2, o3, o4, o5, o7, o8, us', ws, rfl, s3, hf3, hws, hwt⟩
      rw [List.length_map, List.take_length] at hwt
      exact st_ret (C := CP) (a := .lst (ws.map dW)) (ev_v (i := 6) rfl ⟨fD, us', rfl, hf3, hws⟩) fun v H4 s4 hv => k v H4 ws (s12.trans (s3.trans s4)) hv (hok ws hwt)
end
end Bf

/-! D17: the law's wiring. -/
namespace Bf
open PySem PySem.Spec PyProof.Rows L2 Bx
section
variable {P : Program} {w : World} {K : PySem.W.Frag} {mg : Str → Option Value} {base : Heap} {CP CS CB : Addr} {σ : L2.St} {H : Hp} {ta te tb tc : TE} {C : Addr}
theorem ev_k {v : V} {a : A} (h : Rp C H a v) : Ev C (tC v) σ H a := fun H1 s Q q => q v H1 (Same.refl H1) (h.mono s)
theorem lc_call {g : TG} {tt : TT} {vs : List Nat} {Q : VK} (h : te σ H fun v H1 => tLc (iList K (tC v)) g tt tb vs σ H1 Q) : tLc (iList K te) g tt tb vs σ H Q := h
theorem asg_call {te : TE} {o : Nat} {u : TS} {Dn : Ends} (h : te σ H fun v H1 => u Dn (σ.set o (some v)) H1) : tSeq (tAsg te (gName o)) u Dn σ H := h
theorem rp_ne_row {ws : List (List (Option Nat))} {p r a : Addr} {ns : List Int} {us : List V} (h : H p = some (.lst us)) (him : ImL H (ws.map dW) us) (hr : RowAt K a ns H r) : p ≠ r := fun z => by
  obtain ⟨i, j, k, e, _⟩ := hr
  rw [z, e] at h
  cases h
  match ws, him with
  | [], him => cases him
  | [_], him =>
    obtain ⟨v, t, e1, _, h2⟩ := iml_cons_inv him
    cases e1
    cases h2
  | _ :: _ :: _, him =>
    obtain ⟨v, t, e1, _, h2⟩ := iml_cons_inv him
    cases e1
    obtain ⟨v, t, e1, h3, _⟩ := iml_cons_inv h2
    cases e1
    obtain ⟨_, _, e4, _⟩ := im_tup h3
    cases e4
theorem sb_lst {ws : List (List (Option Nat))} {v : V} {r a : Addr} {ns : List Int} {H' : Hp} (h : Rp C H (.lst (ws.map dW)) v) (hr : RowAt K a ns H r) (s : SB r H H') : Rp C H' (.lst (ws.map dW)) v := by
  obtain ⟨p, us, e, h1, h2⟩ := rp_lst h
  exact ⟨p, us, e, s _ _ (rp_ne_row h1 h2 hr) h1, h2.tx (hr.tx s)⟩
theorem rt_pick {i j : Nat} {E : XK} {Dn : Ends} {ws : List (List (Option Nat))} {v3 : V} {r a : Addr} {ns : List Int} (h3 : σ[i]? = some (some v3)) (hr0 : σ[j]? = some (some (.ref r))) (hv : Rp C H (.lst (ws.map dW)) v3) (hr : RowAt K a ns H r) (hne : ws ≠ []) (hl : ws.length ≤ 216)
    (k : ∀ w v H', w ∈ ws → SB r H H' → RowAt K a ns H' r → Im H' (dW w) v → Dn.rt v H') :
    tRet (tOp (rIxL K) (tVar i) (tCall (sp_taken K) [] E (tCons (tVar j) (tCons (fun σ H Q => tCons (tVar i) tNil σ H fun xs H1 => (fun xs H Q => ∃ p ys, xs = [.ref p] ∧ (SqL K H p ys ∨ SqT K H p ys) ∧ Q (.int ys.length) H) xs H1 Q) tNil)))) Dn σ H := by
  obtain ⟨p, us, rfl, h1, h2⟩ := rp_lst hv
  have hul := h2.len
  rw [List.length_map] at hul
  have hpos : 1 ≤ ws.length := by
    cases ws with
    | nil => exact absurd rfl hne
    | cons _ _ => exact Nat.succ_le_succ (Nat.zero_le _)
  refine ⟨_, h3, _, hr0, _, h3, p, us, rfl, .inl (SqL.of h1), r, us.length, a, ns, rfl, hr, by omega, by omega, fun v H' hv sb hr' => ?_⟩
  have hvl : v < ws.length := by omega
  have hsome : (ws.map dW)[v]? = some (dW ws[v]) := by rw [List.getElem?_map, List.getElem?_eq_getElem hvl] <;> rfl
  have im' := h2.tx (hr.tx sb)
  obtain ⟨u, hu, imu⟩ := im'.get hsome
  exact ⟨p, us, _, u, rfl, rfl, SqL.of (sb _ _ (rp_ne_row h1 h2 hr) h1), atI_nat hu, k _ u H' (List.getElem_mem hvl) sb hr' imu⟩
theorem inV_O : ∀ l : List (Option Nat), inV .non (l.map vO) = decide (none ∈ l)
  | [] => rfl
  | a :: l => by
    rw [List.map_cons, inV_cons, inV_O l]
    cases a with
    | none =>
      show (true || _) = _
      rw [Bool.true_or]
      exact (decide_eq_true List.mem_cons_self).symm
    | some j =>
      show (false || _) = _
      rw [Bool.false_or]
      exact decide_eq_decide.mpr ⟨fun q => List.mem_cons_of_mem _ q, fun q => by
        rcases List.mem_cons.mp q with q | q
        · cases q
        · exact q⟩
theorem flat_O (l : List (Option Nat)) : (l.map vO).all flatV = true := by
  rw [List.all_map]
  exact List.all_eq_true.mpr fun o _ => by cases o <;> rfl
theorem in_O (l : List (Option Nat)) : ∀ (H : Hp) v vs, Im H .non v → ImL H (l.map dO) vs → flatV v = true ∧ vs.all flatV = true ∧ inV v vs = decide (none ∈ l) := fun H v vs h1 h2 => by
  have e1 := im_non h1
  have e2 : vs = l.map vO := iml_flat (fun a v h => im_O h) h2
  subst e1
  subst e2
  exact ⟨rfl, flat_O l, inV_O l⟩
def sp_wiring (K : PySem.W.Frag) (CP : Addr) : Sp := fun vs H Q _ => ∃ (r a : Addr) (ns : List Int) (p : Addr) (Pn : Pl), vs = [.ref r, .ref p] ∧ RowAt K a ns H r ∧ PlanAt CP H p Pn ∧ GoodP Pn ∧
  ∀ v wr H', SB r H H' → RowAt K a ns H' r → Im H' (dW wr) v → GoodW Pn wr → Q v H'
theorem ok__law_wiring (T : Txt K mg CP CS CB) : C8.Cal P w K mg base 6 "_law_wiring" (sp_wiring K CP) [] := by
  have c__law_wirings := ok__law_wirings (P := P) (w := w) (base := base) T
  have c__law_taken := ok__law_taken (P := P) (w := w) (base := base) T
  refine cal_s T.d__law_wiring sc__law_wiring (fun vs H Q E h => ?_) fun f cdv A outer s H vs Q E hr h => ?_
  · obtain ⟨_, _, _, _, _, rfl, _⟩ := h
    rfl
  obtain ⟨r, a, ns, p, Pn, rfl, hrow, hpl, hG, k⟩ := h
  refine ⟨_, (pss_cons (ps_setLc (i := 2) (own := [("_law_one", 4)]) (g := (gName 4)) rfl sc__law_wiring.nd rfl rfl (sw_true rfl rfl rfl (by decide +kernel)) (pi_list (C8.pe_c c__law_wirings hr (by decide) (by rfl) (pa_cons (pv 1) pa_nil))) (blkOk_by (own := [("_law_one", 4)]) (N := ["_law_row", "_law_plan_here", "_law_some", "_law_every", "_law_one"]) (sc := defScope s__law_wiring) (by decide +kernel)) (fun _ _ _ _ _ => (pg_name (i := 4) sc__law_wiring.nd rfl (Or.inl rfl) (Or.inr rfl))) (fun _ _ _ _ _ => (pts_one (pt_cmpR (Bf.notInSK K) pe_non (pv 4) (by rfl)))) (fun _ _ _ _ _ => (pv 4)))
    (pss_cons (ps_set (i := 3) sc__law_wiring.nd rfl (Or.inl rfl) (pe_ifExp (pt_cmpR op_eq (C8.pe_c c__law_taken hr (by decide) (by rfl) (pa_cons (pv 0) (pa_cons pe_int pa_nil))) pe_int (nomark _)) (C8.pe_c c__law_wirings hr (by decide) (by rfl) (pa_cons (pv 1) pa_nil)) (pv 2)))
    (pss_one (ps_ret (pe_ix (Bf.ixL K) (pv 3) (C8.pe_c c__law_taken hr (by decide) (by rfl) (pa_cons (pv 0) (pa_cons (pe_callB (Bf.lenSK K) (by rfl) T.b_len (by decide +kernel) (pa_cons (pv 3) pa_nil)) pa_nil))) (fun _ _ => rfl)))))), ?_⟩
  refine asg_call (lc_call ⟨_, rfl, p, Pn, rfl, hpl, hG, fun v1 H1 ws s1 hv1 hok => ?_⟩)
  have ef : (ws.filterMap fun w => if none ∈ w then none else some (dW w)) = (ws.filter fun w => !decide (none ∈ w)).map dW := by
    clear hok hv1
    induction ws with
    | nil => rfl
    | cons w ws ih =>
      rw [List.filter_cons, List.filterMap_cons]
      by_cases c : none ∈ w
      · rw [if_pos c, decide_eq_true c]
        exact ih
      · rw [if_neg c, decide_eq_false c]
        show dW w :: _ = dW w :: _
        rw [ih]
  have hlen := hok.len
  show tLc (iList K (tC v1)) _ _ _ _ _ _ _
  refine ev_go (P := fun v H' => Rp CP H' (.lst ((ws.filter fun w => !decide (none ∈ w)).map dW)) v) ?_ fun v2 H2 s2 hv2 => ?_
  · rw [← ef]
    refine ev_lca (C := CP) (xs := ws) (φ := dW) (it_list (ev_k hv1)) (fun w => if none ∈ w then none else some (dW w)) (by omega) fun i wr x H2 hi s2 im => turnO_name rfl ?_ fun d hd => ?_
    · have e := et_test (C := CP) (ev_inT (K := K) (neg := true) (ta := tC .non) (tb := tVar 4) (σ := ((wipe [some (.ref r), some (.ref p), none, none, none] [4]).set 4 (some x))) (x := .non) (l := wr.map dO) (b := decide (none ∈ wr)) ev_non (ev_v (i := 4) rfl im) (in_O wr))
      by_cases c : none ∈ wr
      · rw [if_pos c]
        rw [decide_eq_true c] at e
        exact e
      · rw [if_neg c]
        rw [decide_eq_false c] at e
        exact e
    · by_cases c : none ∈ wr
      · rw [if_pos c] at hd
        cases hd
      · rw [if_neg c] at hd
        cases hd
        exact ev_v (i := 4) rfl im
  · have s12 := s1.trans s2
    have hr2 := hrow.mono s12
    have hne : (ws.filter fun w => !decide (none ∈ w)) ≠ [] := fun z => by
      obtain ⟨w, hw, hn⟩ := hok.full
      have := List.filter_eq_nil_iff.mp z w hw
      rw [decide_eq_false hn] at this
      exact this rfl
    have hl2 : (ws.filter fun w => !decide (none ∈ w)).length ≤ 216 := Nat.le_trans (List.length_filter_le ..) hlen
    have hg2 : ∀ w ∈ (ws.filter fun w => !decide (none ∈ w)), GoodW Pn w := fun w hw => hok.good w (List.mem_filter.mp hw).1
    refine asg_call (dr_taken (m := 4) rfl hr2 (by decide) (by decide) fun v H3 hv sb3 hr3 => ⟨rfl, _, rfl, ?_⟩)
    rw [dec_int]
    have sbH := (Same.sb s12).trans sb3
    have hv23 := sb_lst hv2 hr2 sb3
    by_cases c : (v : Int) = 0
    · rw [decide_eq_true c]
      obtain ⟨rus, hrr⟩ := hrow.row
      refine ⟨_, rfl, p, Pn, rfl, hpl.sb sbH hrr, hG, fun v4 H4 ws4 s4 hv4 hok4 => ?_⟩
      have hr4 := hr3.mono s4
      exact rt_pick (C := CP) (i := 3) (j := 0) rfl rfl hv4 hr4 (fun z => by obtain ⟨w, hw, _⟩ := hok4.full; rw [z] at hw; cases hw) hok4.len fun wr u H5 hwr sb5 hr5 imu => k u wr H5 (sbH.trans ((Same.sb s4).trans sb5)) hr5 imu (hok4.good wr hwr)
    · rw [decide_eq_false c]
      show tVar 2 _ _ _
      exact ⟨_, rfl, rt_pick (C := CP) (i := 3) (j := 0) rfl rfl hv23 hr3 hne hl2 fun wr u H5 hwr sb5 hr5 imu => k u wr H5 (sbH.trans sb5) hr5 imu (hg2 wr hwr)⟩
end
end Bf

/-! D18: boxes in use; what fits. -/
namespace Bf
open PySem PySem.Spec PyProof.Rows L2 Bx
section
variable {P : Program} {w : World} {K : PySem.W.Frag} {mg : Str → Option Value} {base : Heap} {CP CS CB : Addr} {σ : L2.St} {H : Hp} {ta te tb tc : TE} {C : Addr} {E : XK} {t : TA} {Q : VK}
theorem mk_box {Pn : Pl} {wr : List (Option Nat)} (e : EvA CP t σ H [.pl Pn, .d (dW wr)]) (hG : GoodP Pn) (hW : GoodW Pn wr) (k : ∀ b H0 H', Same H H0 → BoxAt CP CS CB H0 H' b Pn wr (allOn Pn) [] 0 0 → Q (.ref b) H') : tMake CB (sp_Box_init CP CS CB) [] E t σ H Q :=
  e H (Same.refl H) _ fun vs H1 s1 h x dx hx hdx hne => by
    obtain ⟨vp, vw, rfl, h1, h2⟩ := h.two
    exact ⟨H1, x, dx, Pn, wr, vp, vw, rfl, upd_same, fun c o e => by rw [upd_ne (ne_of_none e hx), upd_ne (ne_of_none e hdx)]; exact e, hx, h1, h2, hG, hW, fun H' hB => ⟨rfl, k x H1 H' s1 hB⟩⟩
theorem plug_call {i : Nat} {H0 : Hp} {b : Addr} {Pn : Pl} {wr : List (Option Nat)} {st : List Bool} {L : List (Str × Int)} {c m : Nat} {z : Str} {n : Int} (hb : σ[i]? = some (some (.ref b))) (hB : BoxAt CP CS CB H0 H b Pn wr st L c m) (e : EvA CP t σ H [.d (.str z), .d (.int n)]) (hm : m ≤ 400) (hz : z ∈ Pn.names) (n0 : 0 ≤ n) (n9 : n ≤ 99) (ok : OkA Pn wr st) (nd : (L.map (·.1)).Nodup) (hl : L.length ≤ 100)
    (k : ∀ v H', Same H0 H' → Tx H H' → BoxAt CP CS CB H0 H' b Pn wr (trips Pn wr st (plugL L z n)).1 (plugL L z n) (c + (trips Pn wr st (plugL L z n)).2.length) (m + 1) → Im H' (dN (trips Pn wr st (plugL L z n)).2) v → Q v H') : tMeth CB "plug" (sp_plug CP CS CB) [] E (tVar i) t σ H Q := by
  obtain ⟨s0, hb0, dxb, p, so, dxs, t1, sh, pt, ud, dL, vs, vw, xs, h1, h2, h3, hp0, hR⟩ := id hB
  refine ⟨_, hb, b, dxb, _, rfl, hR.ins, rfl, e H (Same.refl H) _ fun us H1 s1 h => ?_⟩
  obtain ⟨v1, v2, rfl, g1, g2⟩ := h.two
  have e1 := rp_str g1
  have e2 := rp_int g2
  subst e1
  subst e2
  exact ⟨H0, b, Pn, wr, st, L, c, m, z, n, rfl, hB.mono s1, hm, hz, n0, n9, ok, nd, hl, fun v H' s tx hB' im => k v H' s ((Same.tx s1).trans tx) hB' im⟩
theorem reset_call {i : Nat} {H0 : Hp} {b : Addr} {Pn : Pl} {wr : List (Option Nat)} {st : List Bool} {c m : Nat} (hb : σ[i]? = some (some (.ref b))) (hB : BoxAt CP CS CB H0 H b Pn wr st [] c m) (hm : m ≤ 400) (ok : OkA Pn wr st)
    (k : ∀ H', Same H0 H' → Tx H H' → BoxAt CP CS CB H0 H' b Pn wr (allOn Pn) [] c (m + 1) → Q (.int (Pn.n : Nat)) H') : tMeth CB "reset" (sp_reset CP CS CB) [] E (tVar i) tNil σ H Q := by
  obtain ⟨s0, hb0, dxb, p, so, dxs, t1, sh, pt, ud, dL, vs, vw, xs, h1, h2, h3, hp0, hR⟩ := id hB
  exact ⟨_, hb, b, dxb, _, rfl, hR.ins, rfl, H0, b, Pn, wr, st, c, m, rfl, hB, hm, ok, k⟩
theorem ev_state_now {i : Nat} {H0 : Hp} {b : Addr} {Pn : Pl} {wr : List (Option Nat)} {st : List Bool} {L : List (Str × Int)} {c m : Nat} (hb : σ[i]? = some (some (.ref b))) (hB : BoxAt CP CS CB H0 H b Pn wr st L c m) : Ev CP (tProp CB (sp_state_now CP CS CB) [] E (tVar i)) σ H (.d (dB st)) := fun H1 s Q q => by
  have hB1 := hB.mono s
  obtain ⟨s0, hb0, dxb, p, so, dxs, t1, sh, pt, ud, dL, vs, vw, xs, h1, h2, h3, hp0, hR⟩ := id hB1
  exact ⟨_, hb, b, dxb, _, rfl, hR.ins, H0, b, Pn, wr, st, L, c, m, rfl, hB1, fun v H' s' im => q v H' s' im⟩
theorem ev_trip_count {i : Nat} {H0 : Hp} {b : Addr} {Pn : Pl} {wr : List (Option Nat)} {st : List Bool} {L : List (Str × Int)} {c m : Nat} (hb : σ[i]? = some (some (.ref b))) (hB : BoxAt CP CS CB H0 H b Pn wr st L c m) : Ev CP (tProp CB (sp_trip_count CP CS CB) [] E (tVar i)) σ H (.d (.int (c : Nat))) := fun H1 s Q q => by
  have hB1 := hB.mono s
  obtain ⟨s0, hb0, dxb, p, so, dxs, t1, sh, pt, ud, dL, vs, vw, xs, h1, h2, h3, hp0, hR⟩ := id hB1
  exact ⟨_, hb, b, dxb, _, rfl, hR.ins, H0, b, Pn, wr, st, L, c, m, rfl, hB1, fun H' s' => q _ H' s' rfl⟩
theorem ev_loads_now {i : Nat} {H0 : Hp} {b : Addr} {Pn : Pl} {wr : List (Option Nat)} {st : List Bool} {L : List (Str × Int)} {c m : Nat} (hG : GoodP Pn) (hb : σ[i]? = some (some (.ref b))) (hB : BoxAt CP CS CB H0 H b Pn wr st L c m) : Ev CP (tProp CB (sp_loads_now CP CS CB) [] E (tVar i)) σ H (.dic (nowL Pn L)) := fun H1 s Q q => by
  have hB1 := hB.mono s
  obtain ⟨s0, hb0, dxb, p, so, dxs, t1, sh, pt, ud, dL, vs, vw, xs, h1, h2, h3, hp0, hR⟩ := id hB1
  exact ⟨_, hb, b, dxb, _, rfl, hR.ins, H0, b, Pn, wr, st, L, c, m, rfl, hB1, hG, fun v H' s' im => q v H' s' im⟩
theorem ev_neDict {L : List (Str × Int)} (nd : (L.map (·.1)).Nodup) (ea : Ev C ta σ H (.dic L)) (eb : Ev C tb σ H (.dic L)) : Ev C (tOp rNeDA ta tb) σ H (.d (.bl false)) := fun H1 s Q q =>
  ea H1 s _ fun v H2 s2 h1 => eb H2 (s.trans s2) _ fun w H3 s3 h2 => by
    obtain ⟨p, e1, e2⟩ := h1.mono s3
    obtain ⟨r, f1, f2⟩ := h2
    refine ⟨p, r, kvs L, kvs L, e1, f1, e2, f2, rfl, fun e he => ?_, q _ H3 (s2.trans s3) rfl⟩
    obtain ⟨a, ha, rfl⟩ := List.mem_map.mp he
    refine ⟨?_, rfl⟩
    rw [kvs_get, lookup_mem nd ha]
    rfl
theorem ev_dnew : Ev C tDNewK σ H (.dic []) := fun H1 s Q q p hp => q _ _ (same_new hp _) ⟨p, rfl, upd_same⟩
theorem ev_neSame {x : D} (ea : Ev C ta σ H (.d x)) (eb : Ev C tb σ H (.d x)) (hl : x.lay = true) (hd : x.dep ≤ 63) : Ev C (tOp (rNeD K) ta tb) σ H (.d (.bl false)) := ev_neD (b := true) ea eb (shaped_of hl hd) (shaped_of hl hd) (eqv_self x)
theorem ev_onT {n : Nat} (e : Ev C te σ H (.d (.int (n : Nat)))) (h1 : 1 ≤ n) (h2 : n ≤ 1000) : Ev C (tOp (Rx.rRepT1 K) (tTup (tCons (tC (.bl true)) tNil)) te) σ H (.d (.tup (List.replicate n (.bl true)))) := fun H1 s Q q =>
  (ev_tup (C := C) (ds := [.bl true]) (ea_one ev_bl) (by decide)) H1 s _ fun v H2 s2 hv => e H2 (s.trans s2) _ fun u H3 s3 hu => by
    obtain ⟨p, xs, e1, e2, e3⟩ := rp_tup (hv.mono s3)
    obtain ⟨y, r, rfl, f1, f2⟩ := iml_cons_inv e3
    have f3 := iml_nil_inv f2
    subst f3
    have f4 := im_bl f1
    subst f4
    refine ⟨p, n, [.bl true], e1, rp_int hu, e2, List.cons_ne_nil _ _, h1, h2, by show 1 ≤ 1000; decide, fun r H' s' hr => q _ H' (s2.trans (s3.trans s')) ⟨r, _, rfl, hr, ?_⟩⟩
    rw [rep_one]
    clear hr q hu h1 h2 e
    induction n with
    | zero => exact iml_nil
    | succ n ih => exact iml_cons rfl ih
theorem on_rep (Pn : Pl) : D.tup (List.replicate Pn.n (.bl true)) = dB (allOn Pn) := by
  show _ = D.tup ((Pn.rates.map fun _ => true).map D.bl)
  rw [List.map_map]
  unfold Pl.n
  congr 1
  induction Pn.rates with
  | nil => rfl
  | cons r l ih =>
    rw [List.length_cons, List.replicate_succ, ih]
    rfl
theorem ev_litL {n j : Nat} {zs : List Str} {L : List (Str × Int)} {dL : Addr} (hn : n < σ.length) (hnj : n ≠ j) (e : Ev C te σ H (.d (dS zs))) (hd : σ[j]? = some (some (.ref dL))) (hL : H dL = some (.dK (kvs L))) (hl : zs.length ≤ 3) :
    Ev C (tLc (iTup K te) (gName n) (tB (tDIn (tVar n) (tVar j))) (tVar n) [n]) σ H (.lst ((zs.filter fun z => (L.lookup z).isSome).map .str)) := by
  rw [← filt_strs]
  refine ev_lca (φ := D.str) (it_tup e).s (fun z => if (L.lookup z).isSome = true then some (D.str z) else none) (by omega) fun i a x H3 hi s3 im2 => turnO_name ?_ ?_ fun d hd => ?_
  · show ((σ.set n none).set n (some x)).set n none = σ.set n none
    rw [List.set_set, List.set_set]
  · have sn : ((wipe σ [n]).set n (some x))[n]? = some (some x) := List.getElem?_set_self (by show n < (σ.set n none).length; rw [List.length_set]; exact hn)
    have sj : ((wipe σ [n]).set n (some x))[j]? = some (some (.ref dL)) := by
      show ((σ.set n none).set n (some x))[j]? = _
      rw [List.getElem?_set_ne hnj, List.getElem?_set_ne hnj]
      exact hd
    have e := et_val (C := C) (ev_din (ta := tVar n) (tb := tVar j) (l := L) (z := a) (σ := (wipe σ [n]).set n (some x)) (H := H3) (ev_v sn im2) (ev_v sj ⟨dL, rfl, s3 _ _ hL⟩))
    by_cases c : (L.lookup a).isSome = true
    · rw [if_pos c]
      rw [c] at e
      exact e
    · rw [if_neg c]
      rw [eq_false_of_ne_true c] at e
      exact e
  · by_cases c : (L.lookup a).isSome = true
    · rw [if_pos c] at hd
      cases hd
      exact ev_v (List.getElem?_set_self (by show n < (σ.set n none).length; rw [List.length_set]; exact hn)) im2
    · rw [if_neg c] at hd
      cases hd
theorem sq_ifk {tt : TT} {t u : TS} {b : Bool} {Dn : Ends} (e : EvT tt σ H b) (h1 : b = true → ∀ (H' : Hp) (N : Ends), Same H H' → (∀ H2, Same H H2 → N.nx σ H2) → t N σ H') (rest : ∀ H', Same H H' → u Dn σ H') : tSeq (tIfS tt t tNext) u Dn σ H :=
  sq_ifn e (fun q H' s => h1 q H' _ s fun H2 s2 => rest H2 s2) fun _ H' s => rest H' s
theorem sq_iff {tt : TT} {t u : TS} {Dn : Ends} (e : EvT tt σ H false) (rest : ∀ H', Same H H' → u Dn σ H') : tSeq (tIfS tt t tNext) u Dn σ H := sq_ifn e (fun q => by cases q) fun _ H' s => rest H' s
theorem st_iff {tt : TT} {t : TS} {Dn : Ends} (e : EvT tt σ H false) (rest : ∀ H', Same H H' → Dn.nx σ H') : tIfS tt t tNext Dn σ H := st_ifn e (fun q => by cases q) fun _ H' s => rest H' s
theorem lay_dS {l : List Str} (h : ∀ z ∈ l, z ∈ N3) : (dS l).lay = true := lay_strs h
theorem dep_dS (l : List Str) : (dS l).dep ≤ 1 := by
  show depL _ + 1 ≤ 1
  rw [dep_strs]
  exact Nat.le_refl _
theorem lay_dB (l : List Bool) : (dB l).lay = true := lay_map _ (fun _ => rfl) l
theorem dep_dB (l : List Bool) : (dB l).dep ≤ 1 := Nat.succ_le_succ (dep_map D.bl (n := 0) (fun _ => Nat.le_refl _) l)
theorem lay_dN (l : List Nat) : (dN l).lay = true := lay_map _ (fun _ => rfl) l
theorem dep_dN (l : List Nat) : (dN l).dep ≤ 1 := Nat.succ_le_succ (dep_map (fun i : Nat => D.int i) (n := 0) (fun _ => Nat.le_refl _) l)
theorem dS_nob (l : List Str) : (dS l).nob = true := nob_map _ (fun _ => rfl) l
theorem mapS_inj : ∀ {l m : List Str}, l.map D.str = m.map D.str → l = m
  | [], [], _ => rfl
  | [], b :: m, h => by cases h
  | a :: l, [], h => by cases h
  | a :: l, b :: m, h => by
    rw [List.map_cons, List.map_cons] at h
    injection h with h1 h2
    injection h1 with h1
    rw [h1, mapS_inj h2]
theorem dS_inj {l m : List Str} (h : PyData.eqv (dS l).py (dS m).py = true) : l = m := by
  have e := eqv_eq (dS l) (dS m) (dS_nob l) (dS_nob m) h
  injection e with e
  exact mapS_inj e
theorem plugL_new {L : List (Str × Int)} {z : Str} {n : Int} (h : z ∉ L.map (·.1)) (hn : 0 < n) : plugL L z n = L ++ [(z, n)] := by
  unfold plugL
  rw [if_pos hn]
  congr 1
  unfold others
  refine List.filter_eq_self.mpr fun e he => ?_
  have ne : ¬ e.1 = z := fun q => h (q ▸ List.mem_map_of_mem (f := (·.1)) he)
  rw [decide_eq_false ne]
  rfl
theorem plugL_off (L : List (Str × Int)) (z : Str) : plugL L z 0 = others L z := by
  unfold plugL
  rw [if_neg (by decide), List.append_nil]
/-- one more in the box, as plugging has it -/
theorem run_step {Pn : Pl} {wr : List (Option Nat)} {L : List (Str × Int)} (hG : GoodP Pn) (hL : GoodL Pn L) {o : List Str} (pm : o.Perm (L.map (·.1))) {i : Nat} {z : Str} (hz : o[i]? = some z) :
    plugL (plugF Pn wr L (o.take i)).2.2 z (get L z) = (plugF Pn wr L (o.take i)).2.2 ++ [(z, get L z)] := by
  have hm : z ∈ L.map (·.1) := pm.mem_iff.mp (List.mem_of_getElem? hz)
  refine plugL_new ?_ (by have := (get_pos hL hm).1; omega)
  rw [(plug_ok2 (w := wr) (L := L) hG (o.take i)).here, restr_keys]
  intro h
  have nd : o.Nodup := pm.nodup_iff.mpr (GoodL.nd hG hL)
  have nd2 := nd.sublist (List.take_sublist (i + 1) o)
  rw [List.take_add_one, hz] at nd2
  exact (List.nodup_append.mp nd2).2.2 z h z List.mem_cons_self rfl
end
end Bf

/-! D19: what fits, the walk. -/
namespace Bf
open PySem PySem.Spec PyProof.Rows L2 Bx
section
variable {P : Program} {w : World} {K : PySem.W.Frag} {mg : Str → Option Value} {base : Heap} {CP CS CB : Addr} {σ : L2.St} {H : Hp} {ta te tb tc : TE} {C : Addr} {E : XK} {t : TA} {Q : VK}
theorem mostF_in {Pn : Pl} {wr : List (Option Nat)} (L : List (Str × Int)) (names : List Str) : ∀ n, ∀ z ∈ mostF Pn wr L names n, z ∈ names
  | 0, z, h => nomatch h
  | n + 1, z, h => by
    have h : z ∈ (match (chs (n + 1) names).find? fun zs => doesRun Pn wr (restr L zs) with | some zs => zs | none => mostF Pn wr L names n) := h
    cases e : (chs (n + 1) names).find? fun zs => doesRun Pn wr (restr L zs) with
    | some zs =>
      rw [e] at h
      exact (chs_sub _ _ _ (List.mem_of_find?_eq_some e)).subset h
    | none =>
      rw [e] at h
      exact mostF_in L names n z h
theorem most_in {Pn : Pl} {wr : List (Option Nat)} (hG : GoodP Pn) (L : List (Str × Int)) : ∀ z ∈ most Pn wr L, z ∈ N3 := fun z h => hG.sub.subset (List.mem_filter.mp (mostF_in L _ _ z h)).1
def sp_are_fit (CP : Addr) : Sp := fun vs H Q _ => ∃ (p dL t pS : Addr) (vw vn : V) (Pn : Pl) (wr : List (Option Nat)) (L : List (Str × Int)) (ord : List Str),
  vs = [.ref p, vw, .ref dL, .ref t] ∧ PlanAt CP H p Pn ∧ Im H (dW wr) vw ∧ H dL = some (.dK (kvs L)) ∧ H t = some (.tup [vn, .ref pS]) ∧ Im H (dS (best Pn wr L).1) vn ∧ H pS = some (.lst (ord.map .str)) ∧ ord.Perm (L.map (·.1)) ∧ GoodP Pn ∧ GoodW Pn wr ∧ GoodL Pn L ∧
  ∀ H', Same H H' → Q (.bl true) H'
theorem ok__law_are_fit (T : Txt K mg CP CS CB) : C8.Cal P w K mg base 16 "_law_are_fit" (sp_are_fit CP) [] := by
  have c_Plan_len := ok_Plan_len (P := P) (w := w) (base := base) T
  have c_most_at_once := ok_most_at_once (P := P) (w := w) (base := base) T
  have c_plugged := ok_plugged (P := P) (w := w) (base := base) T
  have c_live := ok_live (P := P) (w := w) (base := base) T
  have c_Box := ok_Box (P := P) (w := w) (base := base) T
  have c_Box_plug := ok_Box_plug (P := P) (w := w) (base := base) T
  have c_Box_loads_now := ok_Box_loads_now (P := P) (w := w) (base := base) T
  have c_Box_reset := ok_Box_reset (P := P) (w := w) (base := base) T
  have c_Box_state_now := ok_Box_state_now (P := P) (w := w) (base := base) T
  refine cal_s T.d__law_are_fit sc__law_are_fit (fun vs H Q E h => ?_) fun f cdv A outer s H vs Q E hr h => ?_
  · obtain ⟨_, _, _, _, _, _, _, _, _, _, rfl, _⟩ := h
    rfl
  obtain ⟨p, dL, t, pS, vw, vn, Pn, wr, L, ord, rfl, hP, hw, hL, ht, hn, hS, pm, hG, hW, hGL, k⟩ := h
  have h5 := hG.r5
  have h1n := hG.r1
  have hsub := GoodL.sub hG hGL
  have hk3 : ∀ z ∈ L.map (·.1), z ∈ N3 := fun z hz => hsub.subset hz
  have hPr : Rp CP H (.pl Pn) (.ref p) := ⟨p, rfl, hP⟩
  have hLr : Rp CP H (.dic L) (.ref dL) := ⟨dL, rfl, hL⟩
  have hlen3 := GoodL.len hG hGL
  have hol : ord.length ≤ 3 := by rw [pm.length_eq, List.length_map]; exact hlen3
  have hpn : ∀ z ∈ ord, z ∈ Pn.names := fun z hz => hGL.keys.subset (pm.mem_iff.mp hz)
  have hond : ord.Nodup := pm.nodup_iff.mpr (GoodL.nd hG hGL)
  refine ⟨_, (pss_cons (ps_asg (pv 3) (pg_tup rfl (pgs_cons (pg_name (i := 4) sc__law_are_fit.nd rfl (Or.inl rfl)) (pgs_cons (pg_name (i := 5) sc__law_are_fit.nd rfl (Or.inl rfl)) pgs_nil))))
    (pss_cons (ps_set (i := 6) sc__law_are_fit.nd rfl (Or.inl rfl) (pe_op Rx.op_repT1 (pe_tup (pa_cons pe_bl pa_nil)) (Bf.pe_lenP c_Plan_len T.clP hr (by decide) (by rfl) T.b_len (pa_cons (pv 0) pa_nil))))
    (pss_cons (ps_set (i := 7) sc__law_are_fit.nd rfl (Or.inl rfl) (C8.pe_c c_most_at_once hr (by decide) (by rfl) (pa_cons (pv 0) (pa_cons (pv 1) (pa_cons (pv 2) pa_nil)))))
    (pss_cons (ps_if (pt_cmpR (Bf.eqDK K hr.units) (pv 7) (pe_callTy call_tuple_of (by rfl) T.b_tuple (by decide +kernel) (pa_cons (pe_callB (call_sortedD rfl) (by rfl) T.b_sorted (by decide +kernel) (pa_cons (pv 2) pa_nil)) pa_nil)) (nomark _)) (pss_cons (ps_if (pt_cmpR (Bf.neDK K hr.units) (C8.pe_c c_plugged hr (by decide) (by rfl) (pa_cons (pv 0) (pa_cons (pv 1) (pa_cons (pv 2) (pa_cons (pe_callTy call_tuple_of (by rfl) T.b_tuple (by decide +kernel) (pa_cons (pv 5) pa_nil)) pa_nil))))) (pe_tup (pa_cons (pv 6) (pa_cons (pe_tup pa_nil) pa_nil))) (nomark _)) (pss_one (ps_ret pe_bl)) pss_nil)
    (pss_one (ps_if (pt_cmpR (Bf.neDK K hr.units) (pv 4) (pe_callTy call_tuple_of (by rfl) T.b_tuple (by decide +kernel) (pa_cons (pe_lc (own := [("_law_name", 8)]) (g := (gName 8)) rfl sc__law_are_fit.nd (pi_tup (C8.pe_c c_live hr (by decide) (by rfl) (pa_cons (pv 0) (pa_cons (pv 1) (pa_cons (pv 6) pa_nil))))) (blkOk_by (own := [("_law_name", 8)]) (N := ["_law_plan_here", "_law_wiring_here", "_law_loads_here", "_law_two", "_law_names", "_law_some", "_law_on", "_law_fit", "_law_name", "_law_box"]) (sc := defScope s__law_are_fit) (by decide +kernel)) (fun _ _ _ _ _ => (pg_name (i := 8) sc__law_are_fit.nd rfl (Or.inl rfl) (Or.inr rfl))) (fun _ _ _ _ _ => (pts_one (pt_cmp (pc_din (hu_of hr) (pv 8) (pv 2))))) (fun _ _ _ _ _ => (pv 8))) pa_nil)) (nomark _)) (pss_one (ps_ret pe_bl)) pss_nil))) pss_nil)
    (pss_cons (ps_set (i := 9) sc__law_are_fit.nd rfl (Or.inl rfl) (C8.pe_mk c_Box hr (by decide) (by rfl) (pa_cons (pv 0) (pa_cons (pv 1) pa_nil))))
    (pss_cons (ps_for PassesOwn.never rfl (pi_list (pv 5)) (pg_name (i := 8) sc__law_are_fit.nd rfl (Or.inl rfl)) (pss_one (ps_expr (C8.pe_mt c_Box_plug hr (by decide) (pv 9) (pa_cons (pv 8) (pa_cons (pe_dget (hu_of hr) (pv 2) (pv 8) (fun _ _ => rfl)) pa_nil))))))
    (pss_cons (ps_for PassesOwn.never rfl (pi_list (pv 5)) (pg_name (i := 8) sc__law_are_fit.nd rfl (Or.inl rfl)) (pss_one (ps_expr (C8.pe_mt c_Box_plug hr (by decide) (pv 9) (pa_cons (pv 8) (pa_cons pe_int pa_nil))))))
    (pss_cons (ps_if (PW.pt (pw_or (pt_cmpR (op_ne_dictA hr.units0) (Bf.pe_pPl c_Box_loads_now T.clB hr (by decide) (pv 9)) pe_dnewK (nomark _)) (pw_or (pt_cmpR op_ne (C8.pe_mt0 c_Box_reset hr (by decide) (pv 9)) (Bf.pe_lenP c_Plan_len T.clP hr (by decide) (by rfl) T.b_len (pa_cons (pv 0) pa_nil)) (nomark _)) (pw_or1 (pt_cmpR (Bf.neDK K hr.units) (Bf.pe_pPl c_Box_state_now T.clB hr (by decide) (pv 9)) (pv 6) (nomark _)))))) (pss_one (ps_ret pe_bl)) pss_nil)
    (pss_one (ps_ret pe_bl)))))))))), ?_⟩
  refine ⟨_, rfl, t, _, rfl, SqT.of ht, rfl, _, _, rfl, _, _, rfl, rfl, ?_⟩
  refine sq_set (C := CP) (ev_onT (n := Pn.n) (ev_lenP (ea_one (ev_v (i := 0) rfl hPr)) ⟨Pn, rfl, rfl⟩ (by omega)) h1n (by omega)) fun vo H1 s1 hvo => ?_
  rw [on_rep] at hvo
  have hOn : (allOn Pn).length = Pn.n := List.length_map _
  refine sq_set (C := CP) (ev_call (as := [.pl Pn, .d (dW wr), .dic L]) (ea_cons (ev_v (i := 0) rfl (hPr.mono s1)) (ea_cons (ev_v (i := 1) rfl (Im.mono hw s1)) (ea_one (ev_v (i := 2) rfl (hLr.mono s1))))) ⟨Pn, wr, L, rfl, hG, hW, hGL, rfl⟩) fun vf H2 s2 hvf => ?_
  have s12 := s1.trans s2
  have hmostin : ∀ z ∈ most Pn wr L, z ∈ N3 := most_in hG L
  refine sq_ifk (et_test (C := CP) (ev_eqD (K := K) (ev_v (a := .d (dS (most Pn wr L))) (i := 7) rfl hvf) (ev_b (ea_one (ev_b (ea_one (ev_v (i := 2) rfl (hLr.mono s12))) (er_sortedD hsub))) er_tuple) (shaped_of (lay_dS hmostin) (Nat.le_trans (dep_dS _) (by decide))) (shaped_of (d := dS (L.map (·.1))) (lay_dS hk3) (Nat.le_trans (dep_dS _) (by decide))) rfl)) (fun e H3 N s3 hN => ?_) (fun H3 s3 => ?_)
  · have hmost : most Pn wr L = L.map (·.1) := dS_inj e
    have s13 := s12.trans s3
    have hfa := fit_all hG hGL hmost pm
    have hfb := fit_best hG hGL hmost
    refine sq_iff (et_test (C := CP) (ev_neSame (K := K) (x := .tup [dB (allOn Pn), dN []]) ?_ (ev_tup (ds := [dB (allOn Pn), .tup []]) (ea_cons (ev_v (i := 6) rfl (Rp.mono hvo (s2.trans s3))) (ea_one (ev_tup (ds := []) ea_nil (by decide)))) (by show 2 ≤ 1000; decide)) ?_ ?_)) fun H4 s4 => ?_
    · have ep := ev_call (C := CP) (R := R_plugged) (E := E0) (σ := [some (.ref p), some vw, some (.ref dL), some (.ref t), some vn, some (.ref pS), some vo, some vf, none, none]) (H := H3) (r := .d (.tup [dB (plugged Pn wr L ord).1, dN (plugged Pn wr L ord).2])) (ea_cons (a := .pl Pn) (ev_v (i := 0) rfl (hPr.mono s13)) (ea_cons (a := .d (dW wr)) (ev_v (i := 1) rfl (Im.mono hw s13)) (ea_cons (a := .dic L) (ev_v (i := 2) rfl (hLr.mono s13)) (ea_one (ev_b (ea_one (ev_v (a := .lst (ord.map .str)) (i := 5) rfl ⟨pS, _, rfl, s13 _ _ hS, iml_map fun _ _ => rfl⟩)) (er_tuple (K := K))))))) ⟨Pn, wr, L, ord, rfl, hG, hW, hGL, pm, rfl⟩
      rw [hfa] at ep
      exact ep
    · show ((dB (allOn Pn)).lay && ((dN []).lay && true)) = true
      rw [lay_dB]
      rfl
    · show max (dB (allOn Pn)).dep (max (dN []).dep 0) + 1 ≤ 63
      have h1 := dep_dB (allOn Pn)
      have h2 := dep_dN []
      omega
    · refine st_iff (et_test (C := CP) (ev_neSame (K := K) (x := dS (lit Pn wr (allOn Pn) L)) (ev_v (i := 4) rfl ?_) (ev_b (ea_one (ev_litL (K := K) (zs := liveIn Pn wr (allOn Pn)) (n := 8) (j := 2) (by show 8 < 10; decide) (by decide) (ev_call (as := [.pl Pn, .d (dW wr), .d (dB (allOn Pn))]) (ea_cons (ev_v (i := 0) rfl (hPr.mono (s13.trans s4))) (ea_cons (ev_v (i := 1) rfl (Im.mono hw (s13.trans s4))) (ea_one (ev_v (i := 6) rfl (Rp.mono hvo (s2.trans (s3.trans s4))))))) ⟨Pn, wr, allOn Pn, rfl, ⟨hG, hW, hOn⟩, rfl⟩) rfl ((s13.trans s4) _ _ hL) (Nat.le_trans (liveIn_sub _ _ _) hG.nl))) er_tuple) ?_ ?_)) fun H5 s5 => hN H5 (s3.trans (s4.trans s5))
      · have e := Im.mono hn (s13.trans s4)
        rw [hfb] at e
        exact e
      · exact lay_dS fun z hz => hk3 z (lookup_some.mp (List.mem_filter.mp hz).2)
      · exact Nat.le_trans (dep_dS _) (by decide)
  · have s13 := s12.trans s3
    refine asg_call (mk_box (Pn := Pn) (wr := wr) (ea_cons (ev_v (i := 0) rfl (hPr.mono s13)) (ea_one (ev_v (i := 1) rfl (Im.mono hw s13)))) hG hW fun b H0 H4 s30 hB => ?_)
    have s0 := s13.trans s30
    have s04 := hB.1
    have hvo0 : Rp CP H0 (.d (dB (allOn Pn))) vo := Rp.mono hvo (s2.trans (s3.trans s30))
    have hS0 := s0 _ _ hS
    have imS : ∀ H', ImL H' (ord.map D.str) (ord.map V.str) := fun H' => iml_map fun _ _ => rfl
    -- all plugged
    refine sq_forLs (v := 5) (p := pS) (us := ord.map .str) (l := ord.map D.str) rfl (s04 _ _ hS0) (imS _) (fun i σ' H' => ∃ o8 : Option V, σ' = [some (.ref p), some vw, some (.ref dL), some (.ref t), some vn, some (.ref pS), some vo, some vf, o8, some (.ref b)] ∧ Tx H4 H' ∧ BoxAt CP CS CB H0 H' b Pn wr (plugF Pn wr L (ord.take i)).1 (plugF Pn wr L (ord.take i)).2.2 (plugF Pn wr L (ord.take i)).2.1.length i)
      ⟨none, rfl, Tx.refl _, hB⟩ (fun i σ' H' ⟨_, _, tx, hB'⟩ => ⟨hB'.1 _ _ hS0, tx⟩) ?_ ?_
    · rintro i d x σ' H5 H6 Dn' hi ⟨o8, rfl, tx5, hB5⟩ s6 im hnx hrt
      obtain ⟨z, hz, rfl⟩ := map_at hi
      have hil := (List.getElem?_eq_some_iff.mp hz).1
      have ex := im_str im
      subst ex
      have hB6 := hB5.mono s6
      have hzk : z ∈ L.map (·.1) := pm.mem_iff.mp (List.mem_of_getElem? hz)
      have pk := plug_ok2 (w := wr) (L := L) hG (ord.take i)
      have hgp := get_pos hGL hzk
      have ek : ((plugF Pn wr L (ord.take i)).2.2).map (·.1) = ord.take i := by rw [pk.here, restr_keys]
      refine plug_call (i := 9) (z := z) (n := get L z) rfl hB6 (ea_cons (ev_v rfl rfl) (ea_one (ev_dget (l := L) (ev_v (i := 2) rfl ⟨dL, rfl, hB6.1 _ _ (s0 _ _ hL)⟩) (ev_v (a := .d (.str z)) rfl rfl) (get_some hzk)))) (by omega) (hpn z (List.mem_of_getElem? hz)) (by omega) (by omega) ⟨hG, hW, pk.len⟩ (by rw [ek]; exact hond.sublist (List.take_sublist _ _)) (by rw [← List.length_map (f := (·.1)), ek, List.length_take]; omega) fun v H7 s7 tx7 hB7 _ => ?_
      have es := run_step (wr := wr) hG hGL pm hz
      rw [es] at hB7
      refine hnx _ _ ⟨_, rfl, tx5.trans ((Same.tx s6).trans tx7), ?_⟩
      rw [plugF_take hz]
      show BoxAt CP CS CB H0 H7 b Pn wr (trips Pn wr (plugF Pn wr L (ord.take i)).1 ((plugF Pn wr L (ord.take i)).2.2 ++ [(z, get L z)])).1 _ ((plugF Pn wr L (ord.take i)).2.1 ++ (trips Pn wr (plugF Pn wr L (ord.take i)).1 ((plugF Pn wr L (ord.take i)).2.2 ++ [(z, get L z)])).2).length (i + 1)
      rw [List.length_append]
      exact hB7
    · rintro σ' H5 ⟨o8, rfl, tx5, hB5⟩
      rw [List.length_map, List.take_length] at hB5
      have pk := plug_ok2 (w := wr) (L := L) hG ord
      have ek : ((plugF Pn wr L ord).2.2).map (·.1) = ord := by rw [pk.here, restr_keys]
      -- all unplugged
      refine sq_forLs (v := 5) (p := pS) (us := ord.map .str) (l := ord.map D.str) rfl (hB5.1 _ _ hS0) (imS _) (fun i σ' H' => ∃ (o8 : Option V) (st : List Bool) (M : List (Str × Int)) (c : Nat), σ' = [some (.ref p), some vw, some (.ref dL), some (.ref t), some vn, some (.ref pS), some vo, some vf, o8, some (.ref b)] ∧ Tx H5 H' ∧ BoxAt CP CS CB H0 H' b Pn wr st M c (ord.length + i) ∧ st.length = Pn.n ∧ (M.map (·.1)).Sublist ord ∧ ∀ e ∈ M, e.1 ∉ ord.take i)
        ⟨o8, _, _, _, rfl, Tx.refl _, hB5, pk.len, by rw [ek]; exact List.Sublist.refl _, fun e _ h => nomatch h⟩ (fun i σ' H' ⟨_, _, _, _, _, tx, hB', _⟩ => ⟨hB'.1 _ _ hS0, tx⟩) ?_ ?_
      · rintro i d x σ' H6 H7 Dn' hi ⟨o8, st, M, c, rfl, tx6, hB6, hst, hM1, hM2⟩ s7 im hnx hrt
        obtain ⟨z, hz, rfl⟩ := map_at hi
        have hil := (List.getElem?_eq_some_iff.mp hz).1
        have ex := im_str im
        subst ex
        have hB7 := hB6.mono s7
        have hMl := hM1.length_le
        rw [List.length_map] at hMl
        refine plug_call (i := 9) (z := z) (n := 0) rfl hB7 (ea_cons (ev_v rfl rfl) (ea_one ev_int)) (by omega) (hpn z (List.mem_of_getElem? hz)) (by decide) (by decide) ⟨hG, hW, hst⟩ (hond.sublist hM1) (by omega) fun v H8 s8 tx8 hB8 _ => ?_
        rw [plugL_off] at hB8
        refine hnx _ _ ⟨_, _, _, _, rfl, tx6.trans ((Same.tx s7).trans tx8), hB8, trips_len.trans hst, (List.Sublist.map _ List.filter_sublist).trans hM1, fun e he => ?_⟩
        obtain ⟨h1, h2⟩ := List.mem_filter.mp he
        rw [List.take_add_one, hz]
        intro hm
        rcases List.mem_append.mp hm with q | q
        · exact hM2 e h1 q
        · have q2 : e.1 = z := List.mem_singleton.mp q
          rw [decide_eq_true q2] at h2
          cases h2
      · rintro σ' H6 ⟨o8, st, M, c, rfl, tx6, hB6, hst, hM1, hM2⟩
        rw [List.length_map, List.take_length] at hM2
        rw [List.length_map] at hB6
        have eM : M = [] := by
          cases M with
          | nil => rfl
          | cons e M => exact absurd (hM1.subset (show e.1 ∈ (e :: M).map (·.1) from List.mem_cons_self)) (hM2 e List.mem_cons_self)
        subst eM
        have en : nowL Pn [] = [] := by
          unfold nowL
          rw [List.filterMap_eq_nil_iff]
          intro z _
          rfl
        have eln := ev_loads_now (CP := CP) (CS := CS) (CB := CB) (E := E0) (i := 9) (σ := [some (.ref p), some vw, some (.ref dL), some (.ref t), some vn, some (.ref pS), some vo, some vf, o8, some (.ref b)]) hG rfl hB6
        rw [en] at eln
        have fin : ∀ H', Same H0 H' → tRet (tC (.bl true)) { nx := fun _ H' => Q .non H', rt := Q } [some (.ref p), some vw, some (.ref dL), some (.ref t), some vn, some (.ref pS), some vo, some vf, o8, some (.ref b)] H' := fun H' s' => k H' (s0.trans s')
        refine et_go (et_test (C := CP) (ev_neDict (L := []) .nil eln ev_dnew)) fun H7 s7 => ?_
        refine reset_call (CP := CP) (CS := CS) (CB := CB) (i := 9) rfl (hB6.mono s7) (by omega) ⟨hG, hW, hst⟩ fun H8 s8 tx8 hB8 => ?_
        have el := ev_lenP (E := E0) (R := R_Plan_len) (C := CP) (σ := [some (.ref p), some vw, some (.ref dL), some (.ref t), some vn, some (.ref pS), some vo, some vf, o8, some (.ref b)]) (H := H8) (i := Pn.n) (Pn := Pn) (t := tCons (tVar 0) tNil) (ea_one (ev_v (i := 0) rfl (hPr.mono (s0.trans s8)))) ⟨Pn, rfl, rfl⟩ (by omega)
        refine el H8 (Same.refl _) _ fun v9 H9 s9 hv9 => ?_
        rw [rp_int hv9]
        refine ⟨rfl, _, rfl, ?_⟩
        rw [decide_eq_true rfl]
        refine et_go (et_test (C := CP) (ev_neSame (K := K) (x := dB (allOn Pn)) (ev_state_now (E := E0) (i := 9) rfl (hB8.mono s9)) (ev_v (i := 6) rfl (Rp.mono hvo0 (s8.trans s9))) (lay_dB _) (Nat.le_trans (dep_dB _) (by decide)))) fun H10 s10 => ?_
        exact fin H10 (s8.trans (s9.trans s10))
end
end Bf

/-! D20: for the law: sorting, popping, lone. -/
namespace Bf
open PySem PySem.Spec PyProof.Rows L2 Bx
def spLaw (K : PySem.W.Frag) : Sp := fun vs H Q _ => ∃ (a : Addr) (ns : List Int), vs = [.ref a] ∧ SqL K H a (ns.map V.int) ∧ ns.length ≤ 63 ∧ ∀ H', Q (.bl true) H'
section
variable {P : Program} {w : World} {K : PySem.W.Frag} {mg : Str → Option Value} {base : Heap} {CP CS CB : Addr} {σ : L2.St} {H : Hp} {ta te tb tc : TE} {C : Addr} {E : XK} {t : TA} {Q : VK}
theorem sq_forLe {g : TG} {tb u : TS} {Dn : Ends} {l : List D} (e : Ev C te σ H (.lst l)) (Pv : Addr → List V → Hp → Nat → L2.St → Hp → Prop) (h0 : ∀ p us H1, Same H H1 → H1 p = some (.lst us) → Pv p us H1 0 σ H1)
    (hP : ∀ p us H1 i σ' H', Pv p us H1 i σ' H' → H' p = some (.lst us) ∧ Tx H1 H')
    (hs : ∀ p us H1 (i : Nat) (d : D) (x : V) (σ' : L2.St) (H0 H' : Hp) (Dn' : Ends), l[i]? = some d → Pv p us H1 i σ' H0 → Same H0 H' → Im H' d x → (∀ σ3 H3, Pv p us H1 (i + 1) σ3 H3 → Dn'.nx σ3 H3) → Dn'.rt = Dn.rt → g x σ' H' (tb Dn'))
    (hd : ∀ p us H1 σ' H', Pv p us H1 l.length σ' H' → u Dn σ' H') : tSeq (tFor (iList K te) g tb) u Dn σ H := e H (Same.refl H) _ fun v H1 s1 h => by
  obtain ⟨p, us, rfl, hp, im⟩ := rp_lst h
  refine ⟨p, rfl, ⟨us, SqL.of hp⟩, ?_⟩
  have w := walk_list (K := K) (a := p) (xs := us)
  rw [im.len] at w
  have wd : WkD (Itl K p) (fun H' => H' p = some (.lst us) ∧ Tx H1 H') l := w.mono (fun H' h => SqL.of h.1) fun i H' x H'' hi h y => by
    obtain ⟨y1, y2⟩ := y
    rw [y1]
    obtain ⟨d2, h2, i2⟩ := (im.tx h.2).at y2
    exact ⟨Same.refl _, d2, h2, i2⟩
  exact for_d (Dn := { Dn with nx := u Dn }) wd (Pv p us H1) (h0 p us H1 s1 hp) (hP p us H1) (fun i d x σ' H0 H' hi q s im => hs p us H1 i d x σ' H0 H' _ hi q s im (fun _ _ z => z) rfl) (hd p us H1)
theorem er_tupleD {L : List (Str × Int)} : EvR C (fun xs H Q => ∃ (p : Addr) (kvs : List (Key × V)), xs = [.ref p] ∧ H p = some (.dK kvs) ∧ ∀ q, H q = none → Q (.ref q) (upd H q (.tup (kvs.map fun kv => kV kv.1)))) [.dic L] (.d (dS (L.map (·.1)))) := fun vs H Q h q => by
  obtain ⟨v, e, p, e1, hp⟩ := h.one
  subst e1
  refine ⟨p, kvs L, e, hp, fun r hr => q _ _ (same_new hr _) ⟨r, _, rfl, upd_same, ?_⟩⟩
  have e2 : ((kvs L).map fun kv => kV kv.1) = (L.map (·.1)).map V.str := by
    rw [List.map_map, List.map_map]
    rfl
  rw [e2]
  exact iml_map fun _ _ => rfl
theorem ev_lenSet {l : List Nat} (e : Ev C ta σ H (.d (dN l))) (nd : l.Nodup) (hl : l.length ≤ 1000) : Ev C (Rx.tLenSetT K ta) σ H (.d (.int (l.length : Nat))) := fun H1 s Q q => e H1 s _ fun v H2 s2 h => by
  obtain ⟨p, xs, e1, e2, e3⟩ := rp_tup h
  have ex : xs = (l.map fun i : Nat => (i : Int)).map V.int := by
    rw [List.map_map]
    exact iml_flat (fun a v h => im_int h) e3
  refine ⟨p, l.map fun i : Nat => (i : Int), e1, by rw [← ex]; exact SqT.of e2, ?_, by rw [List.length_map]; exact hl, ?_⟩
  · exact List.Pairwise.map (fun i : Nat => (i : Int)) (fun a b h z => h (by omega)) nd
  · rw [List.length_map]
    exact q _ H2 s2 rfl
theorem pop_at {us : List V} {v : Nat} (h : v < us.length) : seqIndex? ((v : Nat) : Int) us.length = some v := by
  unfold seqIndex?
  have e : ¬ ((v : Nat) : Int) < 0 := by omega
  simp only [e, if_false]
  rw [if_pos (by
    rw [Bool.and_eq_true]
    exact ⟨decide_eq_true (by omega), decide_eq_true (by omega)⟩), Int.toNat_natCast]
/-- the rest is drawn from, what is drawn is told -/
structure Drawn (K : PySem.W.Frag) (r a pL pS : Addr) (ns : List Int) (keys : List Str) (Hb H : Hp) (lf sm : List Str) : Prop where
  sb : SB r Hb H
  row : RowAt K a ns H r
  pl : H pL = some (.lst (lf.map .str))
  ps : H pS = some (.lst (sm.map .str))
  pm : (sm ++ lf).Perm keys
theorem Drawn.mono {r a pL pS : Addr} {ns : List Int} {keys : List Str} {Hb H H' : Hp} {lf sm : List Str} (h : Drawn K r a pL pS ns keys Hb H lf sm) (s : Same H H') : Drawn K r a pL pS ns keys Hb H' lf sm :=
  ⟨h.sb.trans (Same.sb s), h.row.mono s, s _ _ h.pl, s _ _ h.ps, h.pm⟩
theorem drawn_step {r a pL pS : Addr} {ns : List Int} {keys : List Str} {Hb : Hp} {lf sm : List Str} {i j k : Nat} {Dn : Ends} (h : Drawn K r a pL pS ns keys Hb H lf sm) (hb : RowAt K a ns Hb r) (nL : Hb pL = none) (nS : Hb pS = none) (ne : pL ≠ pS) (hk : keys.length ≤ 3) (h0 : lf ≠ [])
    (hi : σ[i]? = some (some (.ref pS))) (hj : σ[j]? = some (some (.ref pL))) (hr : σ[k]? = some (some (.ref r))) (nx : ∀ H' lf' sm', lf'.length < lf.length → Tx H H' → Drawn K r a pL pS ns keys Hb H' lf' sm' → Dn.nx σ H') :
    tDrop (tBM K "list" rAppend (tVar i) (tCons (tBM K "list" rPopAt (tVar j) (tCons (tCall (sp_taken K) [] E (tCons (tVar k) (tCons (fun σ H Q => tCons (tVar j) tNil σ H fun xs H1 => (fun xs H Q => ∃ p ys, xs = [.ref p] ∧ (SqL K H p ys ∨ SqT K H p ys) ∧ Q (.int ys.length) H) xs H1 Q) tNil))) tNil)) tNil)) Dn σ H := by
  have hlf : 1 ≤ lf.length := by
    cases lf with
    | nil => exact absurd rfl h0
    | cons _ _ => exact Nat.succ_le_succ (Nat.zero_le _)
  have hpl := h.pm.length_eq
  rw [List.length_append] at hpl
  have npL : pL ≠ r := by
    obtain ⟨us2, e2⟩ := hb.row
    exact fun z => by rw [z, e2] at nL; cases nL
  have npS : pS ≠ r := by
    obtain ⟨us2, e2⟩ := hb.row
    exact fun z => by rw [z, e2] at nS; cases nS
  have hml : (lf.map V.str).length = lf.length := List.length_map _
  refine ⟨_, hi, .inl ⟨rfl, _, SqL.of h.ps⟩, _, hj, .inl ⟨rfl, _, SqL.of h.pl⟩, _, hr, _, hj, pL, lf.map .str, rfl, .inl (SqL.of h.pl), r, (lf.map V.str).length, a, ns, rfl, h.row, by omega, by omega, fun v H2 hv sb hr2 => ?_⟩
  rw [hml] at hv
  have hl2 := sb _ _ npL h.pl
  have hs2 := sb _ _ npS h.ps
  have hz : lf[v]? = some lf[v] := List.getElem?_eq_getElem hv
  generalize lf[v] = z at hz
  refine ⟨pL, lf.map .str, _, v, .str z, rfl, rfl, hl2, by omega, by omega, pop_at (by omega), by rw [List.getElem?_map, hz] <;> rfl, pS, sm.map .str, _, rfl, rfl, by rw [upd_ne (Ne.symm ne)]; exact hs2, by rw [List.length_map, sizeLine_eq]; omega, ?_⟩
  have tx2 := h.row.tx sb
  have hs3 : upd H2 pL (.lst ((lf.map V.str).eraseIdx v)) pS = some (.lst (sm.map .str)) := by
    rw [upd_ne (Ne.symm ne)]
    exact hs2
  refine nx _ (lf.eraseIdx v) (sm ++ [z]) (by rw [List.length_eraseIdx_of_lt hv]; omega) (tx2.trans ((tx_upd hl2 fun _ z => nomatch z).trans (tx_upd hs3 fun _ z => nomatch z))) ⟨sb_new (sb_new (h.sb.trans sb) nL) nS, (hr2.upd_new hb nL).upd_new hb nS, ?_, ?_, ?_⟩
  · rw [upd_ne ne, upd_same, List.eraseIdx_eq_take_drop_succ, List.eraseIdx_eq_take_drop_succ, List.map_append, List.map_take, List.map_drop]
  · rw [upd_same, List.map_append]
    rfl
  · rw [List.append_assoc]
    exact (List.Perm.append_left sm (cons_erase_perm lf v z hz)).trans h.pm
theorem ev_fit {p dL pS : Addr} {vw vn : V} {Pn : Pl} {wr : List (Option Nat)} {L : List (Str × Int)} {ord : List Str} {i j k l m : Nat} (hP : PlanAt CP H p Pn) (hw : Im H (dW wr) vw) (hL : H dL = some (.dK (kvs L))) (hn : Im H (dS (best Pn wr L).1) vn) (hS : H pS = some (.lst (ord.map .str))) (pm : ord.Perm (L.map (·.1))) (hG : GoodP Pn) (hW : GoodW Pn wr) (hGL : GoodL Pn L)
    (h1 : σ[i]? = some (some (.ref p))) (h2 : σ[j]? = some (some vw)) (h3 : σ[k]? = some (some (.ref dL))) (h4 : σ[l]? = some (some vn)) (h5 : σ[m]? = some (some (.ref pS))) :
    Ev CP (tCall (sp_are_fit CP) [] E (tCons (tVar i) (tCons (tVar j) (tCons (tVar k) (tCons (tTup (tCons (tVar l) (tCons (tVar m) tNil))) tNil))))) σ H (.d (.bl true)) := fun H1 s Q q =>
  ⟨_, h1, _, h2, _, h3, _, h4, _, h5, by show 2 ≤ sizeLine; decide, fun tt htt => ⟨p, dL, tt, pS, vw, vn, Pn, wr, L, ord, rfl, (hP.mono s).mono (same_new htt _), (hw.mono s).mono (same_new htt _), (same_new htt _) _ _ (s _ _ hL), upd_same, (hn.mono s).mono (same_new htt _), (same_new htt _) _ _ (s _ _ hS), pm, hG, hW, hGL, fun H' s' => q _ H' ((same_new htt _).trans s') rfl⟩⟩
theorem cat_go {vt v : V} {l m : List D} (h1 : Im H (.tup l) vt) (h2 : Im H (.tup m) v) (hl : l.length + m.length ≤ 1000) (k : ∀ u H', Same H H' → Im H' (.tup (l ++ m)) u → Q u H') : rCatA K vt v H Q :=
  (ev_catT (C := 0) (K := K) (σ := []) (ta := tC vt) (tb := tC v) (ev_k h1) (ev_k h2) hl) H (Same.refl H) Q fun u H' s hu => k u H' s hu
theorem lay2 (s : List Bool) (n : List Nat) : (D.tup [dB s, dN n]).lay = true := by
  show ((dB s).lay && ((dN n).lay && true)) = true
  rw [lay_dB, lay_dN]
  rfl
theorem dep2 (s : List Bool) (n : List Nat) : (D.tup [dB s, dN n]).dep ≤ 63 := by
  show max (dB s).dep (max (dN n).dep 0) + 1 ≤ 63
  have h1 := dep_dB s
  have h2 := dep_dN n
  omega
theorem lay3 (s : List Bool) (n : List Nat) (i : Int) : (D.tup [dB s, dN n, .int i]).lay = true := by
  show ((dB s).lay && ((dN n).lay && (true && true))) = true
  rw [lay_dB, lay_dN]
  rfl
theorem dep3 (s : List Bool) (n : List Nat) (i : Int) : (D.tup [dB s, dN n, .int i]).dep ≤ 63 := by
  show max (dB s).dep (max (dN n).dep (max 0 0)) + 1 ≤ 63
  have h1 := dep_dB s
  have h2 := dep_dN n
  omega
theorem now_run {Pn : Pl} {wr : List (Option Nat)} {L : List (Str × Int)} (hG : GoodP Pn) (hL : GoodL Pn L) {q : List Str} (pm : q.Perm (L.map (·.1))) : nowL Pn (plugF Pn wr L q).2.2 = L := by
  rw [(plug_ok2 (w := wr) (L := L) hG q).here]
  unfold nowL
  refine Eq.trans (filt_congr fun z _ => ?_) (now_gen Pn.names L (names_nd hG) hL.keys)
  have e : get (restr L q) z = get L z := by rw [restr_perm pm]
  rw [look_perm pm, e]
end
end Bf

/-! D21: the law, the walk. -/
namespace Bf
open PySem PySem.Spec PyProof.Rows L2 Bx
section
variable {P : Program} {w : World} {K : PySem.W.Frag} {mg : Str → Option Value} {base : Heap} {CP CS CB : Addr} {σ : L2.St} {H : Hp} {ta te tb tc : TE} {C : Addr} {E : XK} {t : TA} {Q : VK}
theorem fn_law (T : Txt K mg CP CS CB) {f : Addr} {fd : FuncData} (F : Fun K "law" "law" s_law f fd) : FnOk P w K mg base CX0 18 f fd ["_law_script"] (spLaw K) := by
  have c__law_plan := ok__law_plan (P := P) (w := w) (base := base) T
  have c__law_wiring := ok__law_wiring (P := P) (w := w) (base := base) T
  have c__law_loads := ok__law_loads (P := P) (w := w) (base := base) T
  have c_best_plugging := ok_best_plugging (P := P) (w := w) (base := base) T
  have c_Plan_len := ok_Plan_len (P := P) (w := w) (base := base) T
  have c__law_taken := ok__law_taken (P := P) (w := w) (base := base) T
  have c_plugged := ok_plugged (P := P) (w := w) (base := base) T
  have c_Box := ok_Box (P := P) (w := w) (base := base) T
  have c_Box_plug := ok_Box_plug (P := P) (w := w) (base := base) T
  have c_Box_state_now := ok_Box_state_now (P := P) (w := w) (base := base) T
  have c_Box_trip_count := ok_Box_trip_count (P := P) (w := w) (base := base) T
  have c_Box_loads_now := ok_Box_loads_now (P := P) (w := w) (base := base) T
  have c_live := ok_live (P := P) (w := w) (base := base) T
  have c_trips := ok_trips (P := P) (w := w) (base := base) T
  have c__law_are_fit := ok__law_are_fit (P := P) (w := w) (base := base) T
  refine fn_s F sc_law (fun vs H Q E h => ?_) fun f cdv A outer s H vs Q E hr h => ?_
  · obtain ⟨_, _, rfl, _⟩ := h
    rfl
  obtain ⟨a, ns, rfl, hS, hns, k⟩ := h
  refine ⟨_, (pss_cons (ps_set (i := 1) sc_law.nd rfl (Or.inl rfl) (pe_lst (pa_cons (pv 0) (pa_cons pe_int (pa_cons pe_int (pa_cons pe_int pa_nil))))))
    (pss_cons (ps_for PassesOwn.never rfl (pi_range1 (by rfl) T.b_range (pa_cons pe_int pa_nil)) (pg_name (i := 2) sc_law.nd rfl (Or.inl rfl)) (pss_cons (ps_set (i := 3) sc_law.nd rfl (Or.inl rfl) (C8.pe_c c__law_plan hr (by decide) (by rfl) (pa_cons (pv 1) pa_nil)))
    (pss_cons (ps_asg (pe_tup (pa_cons (C8.pe_c c__law_wiring hr (by decide) (by rfl) (pa_cons (pv 1) (pa_cons (pv 3) pa_nil))) (pa_cons (C8.pe_c c__law_loads hr (by decide) (by rfl) (pa_cons (pv 1) (pa_cons (pv 3) pa_nil))) pa_nil))) (pg_tup rfl (pgs_cons (pg_name (i := 4) sc_law.nd rfl (Or.inl rfl)) (pgs_cons (pg_name (i := 5) sc_law.nd rfl (Or.inr rfl)) pgs_nil))))
    (pss_cons (ps_asg (C8.pe_c c_best_plugging hr (by decide) (by rfl) (pa_cons (pv 3) (pa_cons (pv 4) (pa_cons (pv 5) pa_nil)))) (pg_tup rfl (pgs_cons (pg_name (i := 6) sc_law.nd rfl (Or.inl rfl)) (pgs_cons (pg_name (i := 7) sc_law.nd rfl (Or.inl rfl)) pgs_nil))))
    (pss_cons (ps_par3 (i := 8) (j := 9) (l := 10) rfl sc_law.nd rfl rfl rfl (by decide) (by decide) (by decide) rfl rfl rfl (pa_cons (pe_callB (call_sortedD rfl) (by rfl) T.b_sorted (by decide +kernel) (pa_cons (pv 5) pa_nil)) (pa_cons (pe_lst pa_nil) (pa_cons (pe_op Rx.op_repT1 (pe_tup (pa_cons pe_bl pa_nil)) (Bf.pe_lenP c_Plan_len T.clP hr (by decide) (by rfl) T.b_len (pa_cons (pv 3) pa_nil))) pa_nil))) (by rfl))
    (pss_cons (ps_while PassesOwn.never (pt_cmpR (Bf.neDK K hr.units) (pv 8) (pe_lst pa_nil) (nomark _)) (pss_one (ps_expr (pe_bm PySem.F.plainAttrs_list PySem.F.slot_list_append PySem.F.type_list_append mt_append (pv 9) (pa_cons (pe_bm PySem.F.plainAttrs_list PySem.F.slot_list_pop PySem.F.type_list_pop mt_popAt (pv 8) (pa_cons (C8.pe_c c__law_taken hr (by decide) (by rfl) (pa_cons (pv 1) (pa_cons (pe_callB (Bf.lenSK K) (by rfl) T.b_len (by decide +kernel) (pa_cons (pv 8) pa_nil)) pa_nil))) pa_nil)) pa_nil)))))
    (pss_cons (ps_for PassesOwn.never rfl (pi_tup (pe_tup (pa_cons (pv 7) (pa_cons (pe_callTy call_tuple_of (by rfl) T.b_tuple (by decide +kernel) (pa_cons (pv 9) pa_nil)) pa_nil)))) (pg_name (i := 11) sc_law.nd rfl (Or.inl rfl)) (pss_cons (ps_asg (C8.pe_c c_plugged hr (by decide) (by rfl) (pa_cons (pv 3) (pa_cons (pv 4) (pa_cons (pv 5) (pa_cons (pv 11) pa_nil))))) (pg_tup rfl (pgs_cons (pg_name (i := 12) sc_law.nd rfl (Or.inr rfl)) (pgs_cons (pg_name (i := 13) sc_law.nd rfl (Or.inl rfl)) pgs_nil))))
    (pss_cons (ps_par (i := 14) (j := 15) rfl sc_law.nd rfl rfl (by decide) rfl rfl (pa_cons (C8.pe_mk c_Box hr (by decide) (by rfl) (pa_cons (pv 3) (pa_cons (pv 4) pa_nil))) (pa_cons (pe_tup pa_nil) pa_nil)) (by rfl))
    (pss_cons (ps_for PassesOwn.never rfl (pi_tup (pv 11)) (pg_name (i := 16) sc_law.nd rfl (Or.inl rfl)) (pss_one (ps_set (i := 15) sc_law.nd rfl (Or.inl rfl) (pe_op (Bf.catTK K) (pv 15) (C8.pe_mt c_Box_plug hr (by decide) (pv 14) (pa_cons (pv 16) (pa_cons (pe_dget (hu_of hr) (pv 5) (pv 16) (fun _ _ => rfl)) pa_nil)))))))
    (pss_cons (ps_if (PW.pt (pw_or (pt_cmpR (Bf.neDK K hr.units) (pe_tup (pa_cons (Bf.pe_pPl c_Box_state_now T.clB hr (by decide) (pv 14)) (pa_cons (pv 15) (pa_cons (Bf.pe_pPl c_Box_trip_count T.clB hr (by decide) (pv 14)) pa_nil)))) (pe_tup (pa_cons (pv 12) (pa_cons (pv 13) (pa_cons (pe_callB (Bf.lenSK K) (by rfl) T.b_len (by decide +kernel) (pa_cons (pv 13) pa_nil)) pa_nil)))) (nomark _)) (pw_or1 (pt_cmpR (op_ne_dictA hr.units0) (Bf.pe_pPl c_Box_loads_now T.clB hr (by decide) (pv 14)) (pv 5) (nomark _))))) (pss_one (ps_ret pe_bl)) pss_nil)
    (pss_cons (ps_setLc (i := 17) (own := [("_law_name", 16)]) (g := (gName 16)) rfl sc_law.nd rfl rfl (sw_true rfl rfl rfl (by decide +kernel)) (pi_tup (C8.pe_c c_live hr (by decide) (by rfl) (pa_cons (pv 3) (pa_cons (pv 4) (pa_cons (pv 12) pa_nil))))) (blkOk_by (own := [("_law_name", 16)]) (N := ["_law_script", "_law_row", "_law_turn", "_law_plan_here", "_law_wiring_here", "_law_loads_here", "_law_names", "_law_order", "_law_left", "_law_some", "_law_on", "_law_here", "_law_state", "_law_numbers", "_law_box", "_law_told", "_law_name", "_law_lit", "_law_lone", "_law_k"]) (sc := defScope s_law) (by decide +kernel)) (fun _ _ _ _ _ => (pg_name (i := 16) sc_law.nd rfl (Or.inl rfl) (Or.inr rfl))) (fun _ _ _ _ _ => (pts_one (pt_cmp (pc_din (hu_of hr) (pv 16) (pv 5))))) (fun _ _ _ _ _ => (pv 16)))
    (pss_cons (ps_if (PW.pt (pw_or (pt_cmpR op_gt (pe_callB (Bf.lenSK K) (by rfl) T.b_len (by decide +kernel) (pa_cons (pv 17) pa_nil)) (pe_callB (Bf.lenSK K) (by rfl) T.b_len (by decide +kernel) (pa_cons (pv 6) pa_nil)) (nomark _)) (pw_or1 (PW.pt (pw_and (pt_cmpR (Bf.eqDK K hr.units) (pv 11) (pv 7) (nomark _)) (pw_and1 (pt_cmpR (Bf.neDK K hr.units) (pe_callTy call_tuple_of (by rfl) T.b_tuple (by decide +kernel) (pa_cons (pv 17) pa_nil)) (pv 6) (nomark _)))))))) (pss_one (ps_ret pe_bl)) pss_nil)
    (pss_cons (ps_if (PW.pt (pw_or (pt_cmpR op_ne (Rx.pe_lenSetT (by rfl) T.b_len (by rfl) T.b_set (pv 13)) (pe_callB (Bf.lenSK K) (by rfl) T.b_len (by decide +kernel) (pa_cons (pv 13) pa_nil)) (nomark _)) (pw_or1 (pt_cmpR (Bf.neDK K hr.units) (pe_lc (own := [("_law_k", 19)]) (g := (gName 19)) rfl sc_law.nd (pi_tup (pv 13)) (blkOk_by (own := [("_law_k", 19)]) (N := ["_law_script", "_law_row", "_law_turn", "_law_plan_here", "_law_wiring_here", "_law_loads_here", "_law_names", "_law_order", "_law_left", "_law_some", "_law_on", "_law_here", "_law_state", "_law_numbers", "_law_box", "_law_told", "_law_name", "_law_lit", "_law_lone", "_law_k"]) (sc := defScope s_law) (by decide +kernel)) (fun _ _ _ _ _ => (pg_name (i := 19) sc_law.nd rfl (Or.inl rfl) (Or.inr rfl))) (fun _ _ _ _ _ => (pts_one (pt_val (pe_ix (Bf.ixT K) (pv 12) (pv 19) (fun _ _ => rfl))))) (fun _ _ _ _ _ => (pv 19))) (pe_lst pa_nil) (nomark _))))) (pss_one (ps_ret pe_bl)) pss_nil)
    (pss_one (ps_if (pt_cmpR (Bf.neDK K hr.units) (C8.pe_c c_trips hr (by decide) (by rfl) (pa_cons (pv 3) (pa_cons (pv 4) (pa_cons (pv 12) (pa_cons (pv 5) pa_nil))))) (pe_tup (pa_cons (pv 12) (pa_cons (pe_tup pa_nil) pa_nil))) (nomark _)) (pss_one (ps_ret pe_bl)) pss_nil))))))))))
    (pss_cons (ps_set (i := 18) sc_law.nd rfl (Or.inl rfl) pe_dnewK)
    (pss_cons (ps_for PassesOwn.never rfl (pi_list (pe_slice (Bf.slLK K) (pe_callB (call_sortedD rfl) (by rfl) T.b_sorted (by decide +kernel) (pa_cons (pv 5) pa_nil)) po_none (po_some pe_int))) (pg_name (i := 16) sc_law.nd rfl (Or.inl rfl)) (pss_one (ps_dput (hu_of hr) (pv 18) (pv 16) (pe_dget (hu_of hr) (pv 5) (pv 16) (fun _ _ => rfl)) rfl)))
    (pss_cons (ps_if (pt_cmpR (Bf.neDK K hr.units) (C8.pe_c c_plugged hr (by decide) (by rfl) (pa_cons (pv 3) (pa_cons (pv 4) (pa_cons (pv 18) (pa_cons (pe_callTy (Rx.call_tupleD rfl) (by rfl) T.b_tuple (by decide +kernel) (pa_cons (pv 18) pa_nil)) pa_nil))))) (C8.pe_c c_trips hr (by decide) (by rfl) (pa_cons (pv 3) (pa_cons (pv 4) (pa_cons (pv 10) (pa_cons (pv 18) pa_nil))))) (nomark _)) (pss_one (ps_ret pe_bl)) pss_nil)
    (pss_cons (ps_if (PW.pt (pw_or (pt_cmpR (Bf.neDK K hr.units) (C8.pe_c c_plugged hr (by decide) (by rfl) (pa_cons (pv 3) (pa_cons (pv 4) (pa_cons pe_dnewK (pa_cons (pe_tup pa_nil) pa_nil))))) (pe_tup (pa_cons (pv 10) (pa_cons (pe_tup pa_nil) pa_nil))) (nomark _)) (pw_or1 (pt_cmpR (Bf.neDK K hr.units) (C8.pe_c c_best_plugging hr (by decide) (by rfl) (pa_cons (pv 3) (pa_cons (pv 4) (pa_cons pe_dnewK pa_nil)))) (pe_tup (pa_cons (pe_tup pa_nil) (pa_cons (pe_tup pa_nil) pa_nil))) (nomark _))))) (pss_one (ps_ret pe_bl)) pss_nil)
    (pss_one (ps_if (pt_not (pt_val (C8.pe_c c__law_are_fit hr (by decide) (by rfl) (pa_cons (pv 3) (pa_cons (pv 4) (pa_cons (pv 5) (pa_cons (pe_tup (pa_cons (pv 6) (pa_cons (pv 9) pa_nil))) pa_nil))))))) (pss_one (ps_ret pe_bl)) pss_nil)))))))))))))
    (pss_one (ps_ret pe_bl)))), ?_⟩
  refine ⟨_, rfl, by show 4 ≤ sizeLine; decide, fun r hr0 => ?_⟩
  have hrow0 : RowAt K a ns (upd H r (.lst [.ref a, .int 0, .int 0, .int 0])) r := ⟨0, 0, 0, upd_same, Same.seq (same_new hr0 _) hS, Int.le_refl 0, by omega⟩
  refine sq_forT (it_range (C := CP) (n := 5) (ea_one ev_int) (by decide)) (fun i σ' H' => ∃ o2 o3 o4 o5 o6 o7 o8 o9 o10 o11 o12 o13 o14 o15 o16 o17 o18 o19 : Option V, σ' = [some (.ref a), some (.ref r), o2, o3, o4, o5, o6, o7, o8, o9, o10, o11, o12, o13, o14, o15, o16, o17, o18, o19] ∧ RowAt K a ns H' r)
    (fun H2 s2 => ⟨none, none, none, none, none, none, none, none, none, none, none, none, none, none, none, none, none, none, rfl, hrow0.mono s2⟩) ?_ (fun σ' H' _ => k H')
  rintro i d x σ' H0 H1 Dn' hi ⟨o2, o3, o4, o5, o6, o7, o8, o9, o10, o11, o12, o13, o14, o15, o16, o17, o18, o19, rfl, hrw0⟩ s01 imx hnx hct hrt
  have hrw1 := hrw0.mono s01
  -- the plan
  refine asg_call ⟨_, rfl, r, a, ns, rfl, hrw1, fun p Pn H2 sb2 hrw2 hP2 hG => ?_⟩
  have h5 := hG.r5
  have h1n := hG.r1
  -- the wiring, the loads
  refine ⟨_, rfl, _, rfl, r, a, ns, p, Pn, rfl, hrw2, hP2, hG, fun vw wr H3 sb3 hrw3 hw3 hW => ?_⟩
  obtain ⟨rus2, hrr2⟩ := hrw2.row
  have hP3 := hP2.sb sb3 hrr2
  refine ⟨_, rfl, _, rfl, r, a, ns, p, Pn, rfl, hrw3, hP3, hG, fun dL L H4 sb4 hrw4 hdn hdL4 hGL => ?_⟩
  obtain ⟨rus3, hrr3⟩ := hrw3.row
  have hP4 := hP3.sb sb4 hrr3
  have hw4 := hw3.tx (hrw3.tx sb4)
  refine ⟨by show 2 ≤ sizeLine; decide, fun tq htq => ⟨tq, _, rfl, SqT.of upd_same, rfl, _, _, rfl, _, _, rfl, rfl, ?_⟩⟩
  have sq4 := same_new htq (.tup [vw, .ref dL])
  have hP5 := hP4.mono sq4
  have hw5 := hw4.mono sq4
  have hdL5 := sq4 _ _ hdL4
  have hrw5 := hrw4.mono sq4
  have sb5 := sb2.trans (sb3.trans (sb4.trans (Same.sb sq4)))
  show tSeq _ _ _ _ (upd H4 tq (.tup [vw, .ref dL]))
  generalize upd H4 tq (.tup [vw, .ref dL]) = H5 at sq4 hP5 hw5 hdL5 hrw5 sb5
  have hsub := GoodL.sub hG hGL
  have hk3 : ∀ z ∈ L.map (·.1), z ∈ N3 := fun z hz => hsub.subset hz
  have hlen3 := GoodL.len hG hGL
  have hlk : (L.map (·.1)).length ≤ 3 := by rw [List.length_map]; exact hlen3
  -- the best
  refine sq_asg (ev_call (C := CP) (as := [.pl Pn, .d (dW wr), .dic L]) (ea_cons (ev_v (i := 3) rfl ⟨p, rfl, hP5⟩) (ea_cons (ev_v (i := 4) rfl hw5) (ea_one (ev_v (i := 5) rfl ⟨dL, rfl, hdL5⟩)))) ⟨Pn, wr, L, rfl, hG, hW, hGL, rfl⟩) fun vb H6 s6 hvb => ?_
  obtain ⟨vn, vo, hvn, hvo, g⟩ := g_pair (K := K) (n := 6) (m := 7) hvb
  refine g _ _ ?_
  obtain ⟨ob, hob, hbest, hmax⟩ := best_spec (P := Pn) (w := wr) L
  rw [hbest] at hvo
  have hvo : Im H6 (dS ob) vo := hvo
  have hP6 := hP5.mono s6
  have hw6 := hw5.mono s6
  have hdL6 := s6 _ _ hdL5
  have hrw6 := hrw5.mono s6
  have sb6 := sb5.trans (Same.sb s6)
  obtain ⟨rus6, hrr6⟩ := hrw6.row
  -- what is left, what is drawn
  refine ⟨_, rfl, dL, kvs L, L.map (·.1), rfl, .inl hdL6, by rw [List.map_map, List.map_map] <;> rfl, by omega, fun ys pL pm0 sr hpL => ?_⟩
  have ey := srt_uniq hsub pm0 sr
  subst ey
  refine ⟨by show 0 ≤ sizeLine; exact Nat.zero_le _, fun pS hpS => ?_⟩
  have nLS : pL ≠ pS := fun z => by rw [z] at hpS; rw [upd_same] at hpS; cases hpS
  have hpS6 : H6 pS = none := by
    rw [upd_ne (Ne.symm nLS)] at hpS
    exact hpS
  have s7 := same_new hpL (.lst ((L.map (·.1)).map V.str))
  have s8 := same_new hpS (.lst [])
  have s68 := s7.trans s8
  have hpL8 := s8 _ _ (upd_same : upd H6 pL (.lst ((L.map (·.1)).map V.str)) pL = _)
  have hpS8 : upd (upd H6 pL (.lst ((L.map (·.1)).map V.str))) pS (.lst []) pS = some (.lst []) := upd_same
  generalize upd (upd H6 pL (.lst ((L.map (·.1)).map V.str))) pS (.lst []) = H8 at s8 s68 hpL8 hpS8
  refine ev_go (P := fun v H' => Rp CP H' (.d (.tup (List.replicate Pn.n (.bl true)))) v) (ev_onT (ev_lenP (ea_one (ev_v (i := 3) rfl ⟨p, rfl, hP6.mono s68⟩)) ⟨Pn, rfl, rfl⟩ (by omega)) h1n (by omega)) fun von H9 s9 hon => ⟨_, _, _, rfl, ?_⟩
  rw [on_rep] at hon
  have D0 : Drawn K r a pL pS ns (L.map (·.1)) H6 H9 (L.map (·.1)) [] := ⟨Same.sb (s68.trans s9), hrw6.mono (s68.trans s9), s9 _ _ hpL8, s9 _ _ hpS8, List.Perm.refl _⟩
  refine ⟨fun m σ' H' => ∃ lf sm, m = lf.length ∧ σ' = [some (.ref a), some (.ref r), some x, some (.ref p), some vw, some (.ref dL), some vn, some vo, some (.ref pL), some (.ref pS), some von, o11, o12, o13, o14, o15, o16, o17, o18, o19] ∧ Tx H9 H' ∧ Drawn K r a pL pS ns (L.map (·.1)) H6 H' lf sm, ⟨_, _, [], rfl, rfl, Tx.refl _, D0⟩, ?_⟩
  rintro m σ' H' ⟨lf, sm, rfl, rfl, tx9, DW⟩
  refine et_go (et_test (C := CP) (ev_neL (K := K) (l := lf.map .str) (m := []) (ev_v (i := 8) rfl ⟨pL, _, rfl, DW.pl, iml_map fun _ _ => rfl⟩) (ev_lst (ds := []) ea_nil (by decide)) (shaped_list (lay_strs fun z hz => hk3 z (DW.pm.mem_iff.mp (List.mem_append_right _ hz))) (by rw [dep_strs]; decide)) (by decide +kernel) (eqv_nil _))) fun HA s10 => ?_
  cases lf with
  | cons z lf =>
    show ∃ N, _
    refine ⟨fun σ' H' => ∃ lf' sm', lf'.length < (z :: lf).length ∧ σ' = [some (.ref a), some (.ref r), some x, some (.ref p), some vw, some (.ref dL), some vn, some vo, some (.ref pL), some (.ref pS), some von, o11, o12, o13, o14, o15, o16, o17, o18, o19] ∧ Tx H9 H' ∧ Drawn K r a pL pS ns (L.map (·.1)) H6 H' lf' sm', fun σ' H' ⟨lf', sm', h1, h2, h3, h4⟩ => ⟨lf'.length, h1, lf', sm', rfl, h2, h3, h4⟩, ?_⟩
    exact drawn_step (DW.mono s10) hrw6 hpL hpS6 nLS hlk (List.cons_ne_nil _ _) (i := 9) (j := 8) (k := 1) rfl rfl rfl fun H' lf' sm' h1 h2 h3 => ⟨lf', sm', h1, rfl, tx9.trans ((Same.tx s10).trans h2), h3⟩
  | nil =>
    have DA := DW.mono s10
    have pms : sm.Perm (L.map (·.1)) := by
      have := DA.pm
      rw [List.append_nil] at this
      exact this
    have tx6A := hrw6.tx DA.sb
    have hPA := hP6.sb DA.sb hrr6
    have hwA := hw6.tx tx6A
    have hdLA := DA.sb _ _ (ne_of hdL6 hrr6 fun z => nomatch z) hdL6
    have hvnA := Im.tx hvn tx6A
    have hvoA := Im.tx hvo tx6A
    have honA := (rp_d hon).tx (tx9.trans (Same.tx s10))
    have hSA := DA.ps
    have sbA := sb6.trans DA.sb
    rw [if_neg (show ¬ ((!(List.map Bx.D.str ([] : List Str)).isEmpty) = true) from Bool.false_ne_true)]
    refine sq_forSH (items := List.map (fun q => dS q) [ob, sm]) (it_tup (C := CP) (ev_tup (ds := [dS ob, dS sm]) (ea_cons (ev_v (i := 7) rfl hvoA) (ea_one (ev_b (ea_one (ev_v (a := .lst (sm.map .str)) (i := 9) rfl ⟨pS, _, rfl, hSA, iml_map fun _ _ => rfl⟩)) er_tuple))) (by show 2 ≤ 1000; decide))).s (fun i σ' H' => ∃ (o11 o12 o13 o14 o15 o16 o17 : Option V), σ' = [some (.ref a), some (.ref r), some x, some (.ref p), some vw, some (.ref dL), some vn, some vo, some (.ref pL), some (.ref pS), some von, o11, o12, o13, o14, o15, o16, o17, o18, o19])
      (fun H2 s2 => ⟨_, _, _, _, _, _, _, rfl⟩) ?_ ?_
    · rintro j d y σ' HP HB Dn2 hj ⟨o11, o12, o13, o14, o15, o16, o17, rfl⟩ sPB sAB imq hnx2 hct2 hrt2
      obtain ⟨q, hq, rfl⟩ := map_at hj
      have pmq : q.Perm (L.map (·.1)) := by
        rcases List.mem_cons.mp (List.mem_of_getElem? hq) with e | e
        · rw [e]
          exact hob
        · rw [List.mem_singleton.mp e]
          exact pms
      have hql : q.length ≤ 3 := by
        rw [pmq.length_eq]
        exact hlk
      have hqnd : q.Nodup := pmq.nodup_iff.mpr (GoodL.nd hG hGL)
      -- all at once
      refine sq_asg (ev_call (C := CP) (as := [.pl Pn, .d (dW wr), .dic L, .d (dS q)]) (ea_cons (ev_v (i := 3) rfl ⟨p, rfl, hPA.mono sAB⟩) (ea_cons (ev_v (i := 4) rfl (hwA.mono sAB)) (ea_cons (ev_v (i := 5) rfl ⟨dL, rfl, sAB _ _ hdLA⟩) (ea_one (ev_v (i := 11) rfl imq))))) ⟨Pn, wr, L, q, rfl, hG, hW, hGL, pmq, rfl⟩) fun v1 HC sBC hv1 => ?_
      obtain ⟨vst, vnu, hst, hnu, g⟩ := g_pair (K := K) (n := 12) (m := 13) hv1
      refine g _ _ ?_
      have hst : Im HC (dB (plugF Pn wr L q).1) vst := hst
      have hnu : Im HC (dN (plugF Pn wr L q).2.1) vnu := hnu
      have sAC := sAB.trans sBC
      have pk := plug_ok2 (w := wr) (L := L) hG q
      have pkc := (plug_ok (w := wr) (L := L) hG q).cnt
      -- the box
      refine sq_par (mk_box (Pn := Pn) (wr := wr) (ea_cons (ev_v (i := 3) rfl ⟨p, rfl, hPA.mono sAC⟩) (ea_one (ev_v (i := 4) rfl (hwA.mono sAC)))) hG hW fun b HX HD sCX hB => ⟨by show 0 ≤ sizeLine; exact Nat.zero_le _, fun tt htt => ⟨_, _, rfl, ?_⟩⟩)
      have sDt := same_new htt (.tup [])
      have hB0 := hB.mono sDt
      have him0 : Im (upd HD tt (.tup [])) (dN []) (.ref tt) := im_new (ds := []) iml_nil upd_same
      generalize upd HD tt (.tup []) = HE at sDt hB0 him0
      have sAX := sAC.trans sCX
      refine sq_forT (it_tup (C := CP) (l := q.map .str) (ev_v (i := 11) rfl (imq.mono (sBC.trans (sCX.trans hB0.1))))) (fun j σ' H' => ∃ (vt : V) (o16 : Option V), σ' = [some (.ref a), some (.ref r), some x, some (.ref p), some vw, some (.ref dL), some vn, some vo, some (.ref pL), some (.ref pS), some von, some y, some vst, some vnu, some (.ref b), some vt, o16, o17, o18, o19] ∧ BoxAt CP CS CB HX H' b Pn wr (plugF Pn wr L (q.take j)).1 (plugF Pn wr L (q.take j)).2.2 (plugF Pn wr L (q.take j)).2.1.length j ∧ Im H' (dN (plugF Pn wr L (q.take j)).2.1) vt)
        (fun H2 s2 => ⟨_, _, rfl, hB0.mono s2, him0.mono s2⟩) ?_ ?_
      · rintro j2 d2 x2 σ' H2 H3 Dn3 hj2 ⟨vt, o16, rfl, hB2, hvt⟩ s23 im2 hnx3 hct3 hrt3
        obtain ⟨z, hz, rfl⟩ := map_at hj2
        have ex := im_str im2
        subst ex
        have hjl := (List.getElem?_eq_some_iff.mp hz).1
        have hB3 := hB2.mono s23
        have hzk : z ∈ L.map (·.1) := pmq.mem_iff.mp (List.mem_of_getElem? hz)
        have hgp := get_pos hGL hzk
        have pkj := plug_ok2 (w := wr) (L := L) hG (q.take j2)
        have pkjc := (plug_ok (w := wr) (L := L) hG (q.take j2)).cnt
        have ekj : ((plugF Pn wr L (q.take j2)).2.2).map (·.1) = q.take j2 := by rw [pkj.here, restr_keys]
        have es := run_step (wr := wr) hG hGL pmq hz
        have tc := trips_cnt (w := wr) (st := (plugF Pn wr L (q.take j2)).1) (L := (plugF Pn wr L (q.take j2)).2.2 ++ [(z, get L z)]) hG
        have pl1 := pkj.len
        have cl := cnt_le (plugF Pn wr L (q.take j2)).1
        refine ⟨_, rfl, plug_call (CP := CP) (CS := CS) (CB := CB) (i := 14) (z := z) (n := get L z) rfl hB3 (ea_cons (ev_v (i := 16) rfl rfl) (ea_one (ev_dget (l := L) (ev_v (i := 5) rfl ⟨dL, rfl, (sAX.trans hB3.1) _ _ hdLA⟩) (ev_v (a := .d (.str z)) (i := 16) rfl rfl) (get_some hzk)))) (by omega) (hGL.keys.subset hzk) (by omega) (by omega) ⟨hG, hW, pkj.len⟩ (by rw [ekj]; exact hqnd.sublist (List.take_sublist _ _)) (by rw [← List.length_map (f := (·.1)), ekj, List.length_take]; omega) fun v H4 s4 tx4 hB4 imv => ?_⟩
        rw [es] at hB4 imv
        refine cat_go (K := K) ((hvt.mono s23).tx tx4) imv (by rw [List.length_map, List.length_map]; omega) fun v5 H5 s5 hv5 => ?_
        rw [← List.map_append] at hv5
        refine hnx3 _ _ ⟨v5, _, rfl, ?_, ?_⟩ (tx4.trans (Same.tx s5))
        · rw [plugF_take hz]
          show BoxAt CP CS CB HX H5 b Pn wr (trips Pn wr (plugF Pn wr L (q.take j2)).1 ((plugF Pn wr L (q.take j2)).2.2 ++ [(z, get L z)])).1 _ ((plugF Pn wr L (q.take j2)).2.1 ++ (trips Pn wr (plugF Pn wr L (q.take j2)).1 ((plugF Pn wr L (q.take j2)).2.2 ++ [(z, get L z)])).2).length (j2 + 1)
          rw [List.length_append]
          exact hB4.mono s5
        · rw [plugF_take hz]
          exact hv5
      · rintro σ' HF ⟨vt, o16, rfl, hBF, hvtF⟩
        rw [List.length_map, List.take_length] at hBF hvtF
        have sCF := sCX.trans hBF.1
        have sAF := sAC.trans sCF
        have hnow := now_run (wr := wr) hG hGL pmq
        have eln := ev_loads_now (CP := CP) (CS := CS) (CB := CB) (E := E0) (i := 14) (σ := [some (.ref a), some (.ref r), some x, some (.ref p), some vw, some (.ref dL), some vn, some vo, some (.ref pL), some (.ref pS), some von, some y, some vst, some vnu, some (.ref b), some vt, o16, o17, o18, o19]) hG rfl hBF
        rw [hnow] at eln
        have enum : ∀ (σ : L2.St) H', σ[13]? = some (some vnu) → Same HC H' → Ev CP (fun σ H Q => (tCons (tVar 13) tNil) σ H fun xs H1 => rLenK K xs H1 Q) σ H' (.d (.int (((plugF Pn wr L q).2.1).length : Nat))) := fun σ H' hσ s' => by
          have e := ev_b (C := CP) (ea_one (ev_v (a := .d (dN (plugF Pn wr L q).2.1)) hσ (hnu.mono s'))) (er_len_tup (K := K))
          rw [List.length_map] at e
          exact e
        refine sq_iff (et_orF (et_test (C := CP) (ev_neSame (K := K) (x := .tup [dB (plugF Pn wr L q).1, dN (plugF Pn wr L q).2.1, .int (((plugF Pn wr L q).2.1).length : Nat)]) (ev_tup (ds := [dB (plugF Pn wr L q).1, dN (plugF Pn wr L q).2.1, .int (((plugF Pn wr L q).2.1).length : Nat)]) (ea_cons (ev_state_now (i := 14) rfl hBF) (ea_cons (ev_v (i := 15) rfl hvtF) (ea_one (ev_trip_count (i := 14) rfl hBF)))) (by show 3 ≤ 1000; decide)) (ev_tup (ds := [dB (plugF Pn wr L q).1, dN (plugF Pn wr L q).2.1, .int (((plugF Pn wr L q).2.1).length : Nat)]) (ea_cons (ev_v (i := 12) rfl (hst.mono sCF)) (ea_cons (ev_v (i := 13) rfl (hnu.mono sCF)) (ea_one (enum _ _ rfl sCF)))) (by show 3 ≤ 1000; decide)) (lay3 _ _ _) (dep3 _ _ _))) (et_test (ev_neDict (GoodL.nd hG hGL) eln (ev_v (i := 5) rfl ⟨dL, rfl, sAF _ _ hdLA⟩)))) fun HG sFG => ?_
        have sAG := sAF.trans sFG
        have sCG := sCF.trans sFG
        have hbl : ∀ o, (litO Pn wr L o) = lit Pn wr (plugF Pn wr L o).1 L := fun o => rfl
        have hb1 : (best Pn wr L).1 = lit Pn wr (plugF Pn wr L ob).1 L := by
          rw [hbest]
          rfl
        have hvnG : Im HG (dS (best Pn wr L).1) vn := hvnA.mono sAG
        have hlitin : ∀ (o : List Str), ∀ z ∈ lit Pn wr (plugF Pn wr L o).1 L, z ∈ N3 := fun o z hz => hk3 z (lookup_some.mp (List.mem_filter.mp hz).2)
        -- who lives
        refine sq_set (C := CP) (a := .lst ((lit Pn wr (plugF Pn wr L q).1 L).map .str)) (ev_litL (K := K) (zs := liveIn Pn wr (plugF Pn wr L q).1) (n := 16) (j := 5) (by show 16 < 20; decide) (by decide) (ev_call (as := [.pl Pn, .d (dW wr), .d (dB (plugF Pn wr L q).1)]) (ea_cons (ev_v (i := 3) rfl ⟨p, rfl, hPA.mono sAG⟩) (ea_cons (ev_v (i := 4) rfl (hwA.mono sAG)) (ea_one (ev_v (i := 12) rfl (hst.mono sCG))))) ⟨Pn, wr, _, rfl, ⟨hG, hW, pk.len⟩, rfl⟩) rfl (sAG _ _ hdLA) (Nat.le_trans (liveIn_sub _ _ _) hG.nl)) fun vl HI sGI hvl => ?_
        have hvnI := hvnG.mono sGI
        have sAI := sAG.trans sGI
        have sCI := sCG.trans sGI
        have hmq := hmax q pmq
        rw [hbl] at hmq
        have e17 := ev_b (C := CP) (ea_one (ev_v (i := 17) (σ := [some (.ref a), some (.ref r), some x, some (.ref p), some vw, some (.ref dL), some vn, some vo, some (.ref pL), some (.ref pS), some von, some y, some vst, some vnu, some (.ref b), some vt, o16, some vl, o18, o19]) rfl hvl)) (er_len_lst (K := K))
        rw [List.length_map] at e17
        have e6 := ev_b (C := CP) (ea_one (ev_v (a := .d (dS (best Pn wr L).1)) (i := 6) (σ := [some (.ref a), some (.ref r), some x, some (.ref p), some vw, some (.ref dL), some vn, some vo, some (.ref pL), some (.ref pS), some von, some y, some vst, some vnu, some (.ref b), some vt, o16, some vl, o18, o19]) rfl hvnI)) (er_len_tup (K := K))
        rw [List.length_map] at e6
        have imqI : Im HI (dS q) y := imq.mono (sBC.trans sCI)
        have eand := et_and (c := false) (et_test (C := CP) (ev_eqD (K := K) (x := dS q) (y := dS ob) (ev_v (i := 11) (σ := [some (.ref a), some (.ref r), some x, some (.ref p), some vw, some (.ref dL), some vn, some vo, some (.ref pL), some (.ref pS), some von, some y, some vst, some vnu, some (.ref b), some vt, o16, some vl, o18, o19]) rfl imqI) (ev_v (i := 7) rfl (hvoA.mono sAI)) (shaped_of (lay_dS fun z hz => hk3 z (pmq.mem_iff.mp hz)) (Nat.le_trans (dep_dS _) (by decide))) (shaped_of (lay_dS fun z hz => hk3 z (hob.mem_iff.mp hz)) (Nat.le_trans (dep_dS _) (by decide))) rfl)) fun heq => et_test (C := CP) (ev_neSame (K := K) (x := dS (best Pn wr L).1) (by
          have eqo : q = ob := dS_inj heq
          rw [hb1, ← eqo]
          exact ev_b (ea_one (ev_v (i := 17) rfl hvl)) (er_tuple (K := K))) (ev_v (i := 6) rfl hvnI) (by rw [hb1]; exact lay_dS (hlitin ob)) (Nat.le_trans (dep_dS _) (by decide)))
        rw [Bool.and_false] at eand
        refine sq_iff (et_orF (et_test (C := CP) (ev_I0 (g := fun i j => V.bl (decide (j < i))) (a := .d (.bl false)) e17 e6 fun _ => by
          have e : decide (((best Pn wr L).1.length : Int) < ((lit Pn wr (plugF Pn wr L q).1 L).length : Int)) = false := decide_eq_false (by omega)
          rw [e]
          rfl)) eand) fun HJ sIJ => ?_
        have sCJ := sCI.trans sIJ
        have sAJ := sAI.trans sIJ
        -- no number twice, none of them on
        refine sq_iff (et_orF (et_f (et_test (C := CP) (ev_neZ (ev_lenSet (K := K) (ev_v (i := 13) rfl (hnu.mono sCJ)) pk.nd (by omega)) (enum _ _ rfl sCJ))) (by rw [decide_eq_true rfl] <;> rfl)) (et_f (et_test (C := CP) (ev_neL (K := K) (l := ((plugF Pn wr L q).2.1).filterMap fun _ => none) (m := []) (ev_lca (xs := (plugF Pn wr L q).2.1) (φ := fun i : Nat => .int (i : Nat)) (it_tup (C := CP) (ev_v (i := 13) rfl (hnu.mono sCJ))).s (fun _ => none) (by omega) fun i2 k2 x2 HK hk2 sJK imk => turnO_name rfl ?_ fun d hd => by cases hd) (ev_lst (ds := []) ea_nil (by decide)) ?_ (by decide +kernel) (eqv_nil _))) ?_)) fun HK sJK => ?_
        · have hkm := pk.off k2 (List.mem_of_getElem? hk2)
          have e := et_val (C := CP) (ev_ixT (K := K) (i := k2) (ev_v (a := .d (dB (plugF Pn wr L q).1)) (i := 12) (σ := (wipe [some (.ref a), some (.ref r), some x, some (.ref p), some vw, some (.ref dL), some vn, some vo, some (.ref pL), some (.ref pS), some von, some y, some vst, some vnu, some (.ref b), some vt, o16, some vl, o18, o19] [19]).set 19 (some x2)) rfl (hst.mono (sCJ.trans sJK))) (ev_v (i := 19) rfl imk) (st_at pk.len hkm.1))
          rw [hkm.2] at e
          exact e
        · have e : ((plugF Pn wr L q).2.1).filterMap (fun _ => (none : Option D)) = [] := List.filterMap_eq_nil_iff.mpr fun _ _ => rfl
          rw [e]
          decide +kernel
        · have e : ((plugF Pn wr L q).2.1).filterMap (fun _ => (none : Option D)) = [] := List.filterMap_eq_nil_iff.mpr fun _ _ => rfl
          rw [e]
          rfl
        · have sCK := sCJ.trans sJK
          have sAK := sAJ.trans sJK
          have et := ev_call (C := CP) (R := R_trips) (E := E0) (σ := [some (.ref a), some (.ref r), some x, some (.ref p), some vw, some (.ref dL), some vn, some vo, some (.ref pL), some (.ref pS), some von, some y, some vst, some vnu, some (.ref b), some vt, o16, some vl, o18, o19]) (H := HK) (r := .d (.tup [dB (trips Pn wr (plugged Pn wr L q).1 L).1, dN (trips Pn wr (plugged Pn wr L q).1 L).2])) (ea_cons (a := .pl Pn) (ev_v (i := 3) rfl ⟨p, rfl, hPA.mono sAK⟩) (ea_cons (a := .d (dW wr)) (ev_v (i := 4) rfl (hwA.mono sAK)) (ea_cons (a := .d (dB (plugF Pn wr L q).1)) (ev_v (i := 12) rfl (hst.mono sCK)) (ea_one (a := .dic L) (ev_v (i := 5) rfl ⟨dL, rfl, sAK _ _ hdLA⟩))))) ⟨Pn, wr, _, L, rfl, ⟨hG, hW, pk.len⟩, hGL, rfl⟩
          rw [plugged_stable hG pmq] at et
          exact st_iff (et_test (C := CP) (ev_neSame (K := K) (x := .tup [dB (plugged Pn wr L q).1, dN []]) et (ev_tup (ds := [dB (plugged Pn wr L q).1, .tup []]) (ea_cons (ev_v (i := 12) rfl (hst.mono sCK)) (ea_one (ev_tup (ds := []) ea_nil (by decide)))) (by show 2 ≤ 1000; decide)) (lay2 _ _) (dep2 _ _))) fun HL sKL => hnx2 _ _ ⟨_, _, _, _, _, _, _, rfl⟩ (sBC.trans (sCK.trans sKL))
    · rintro σ' HC ⟨o11, o12, o13, o14, o15, o16, o17, rfl⟩ sAC
      refine sq_dnew fun dl hdl => ?_
      have sCD := same_new hdl (.dK [])
      have hdlD : upd HC dl (.dK []) dl = some (.dK []) := upd_same
      generalize upd HC dl (.dK []) = HD at sCD hdlD
      have sAD := sAC.trans sCD
      have esl : Ev CP (L2.tSl (rSlL K) (fun σ H Q => (tCons (tVar 5) tNil) σ H fun xs H1 => (fun xs H Q => ∃ (a : Addr) (kvs : List (Key × V)) (ks : List Str), xs = [.ref a] ∧ Rd H a (.dK kvs) ∧ kvs.map (·.1) = ks.map Sum.inr ∧ ks.length < 64 ∧ ∀ ys p, ys.Perm ks → sortedS ys = true → H p = none → Q (.ref p) (upd H p (.lst (ys.map V.str)))) xs H1 Q) tNoPart (tPart (tC (.int 1)))) [some (.ref a), some (.ref r), some x, some (.ref p), some vw, some (.ref dL), some vn, some vo, some (.ref pL), some (.ref pS), some von, o11, o12, o13, o14, o15, o16, o17, some (.ref dl), o19] HD (.lst (((L.map (·.1)).take 1).map .str)) := by
        have e := ev_slL (K := K) (C := CP) (ev_b (ea_one (ev_v (a := .dic L) (i := 5) (σ := [some (.ref a), some (.ref r), some x, some (.ref p), some vw, some (.ref dL), some vn, some vo, some (.ref pL), some (.ref pS), some von, o11, o12, o13, o14, o15, o16, o17, some (.ref dl), o19]) rfl ⟨dL, rfl, sAD _ _ hdLA⟩)) (er_sortedD hsub)) eo_no (eo_some (C := CP) (i := ((1 : Nat) : Int)) ev_int)
        rw [cutD_to, ← List.map_take] at e
        exact e
      refine sq_forLe (C := CP) esl (fun p' us H1 i σ' H' => ∃ o16, σ' = [some (.ref a), some (.ref r), some x, some (.ref p), some vw, some (.ref dL), some vn, some vo, some (.ref pL), some (.ref pS), some von, o11, o12, o13, o14, o15, o16, o17, some (.ref dl), o19] ∧ H' p' = some (.lst us) ∧ Tx H1 H' ∧ Same HC H' ∧ H' dl = some (.dK (kvs (L.take i)))) (fun p' us H2 s2 hp2 => ⟨_, rfl, hp2, Tx.refl _, sCD.trans s2, s2 _ _ hdlD⟩) (fun p' us H2 i σ' H' ⟨_, _, h1, h2, _⟩ => ⟨h1, h2⟩) ?_ ?_
      · rintro p' us H2 j d y σ' H3 H4 Dn2 hj ⟨o16, rfl, hp3, tx3, sC3, hdl3⟩ s34 imy hnx2 hrt2
        obtain ⟨z, hz, rfl⟩ := map_at hj
        have ex := im_str imy
        subst ex
        have hjl := (List.getElem?_eq_some_iff.mp hz).1
        rw [List.length_take] at hjl
        have hj0 : j = 0 := by omega
        subst hj0
        have hzk : z ∈ L.map (·.1) := List.mem_of_mem_take (List.mem_of_getElem? hz)
        have hL1 : [(z, get L z)] = L.take 1 := by
          cases L with
          | nil => cases hzk
          | cons e L =>
            have e1 : e.1 = z := Option.some.inj hz
            have e2 : get (e :: L) z = e.2 := by
              unfold get
              rw [← e1, List.lookup_cons, beq_self_eq_true]
              rfl
            rw [e2, ← e1]
            rfl
        have sC4 := sC3.trans s34
        refine ev_go (P := fun v H' => Rp CP H' (.d (.int (get L z))) v) (ev_dget (l := L) (ev_v (i := 5) rfl ⟨dL, rfl, sC4 _ _ (sAC _ _ hdLA)⟩) (ev_v (a := .d (.str z)) (i := 16) rfl rfl) (get_some hzk)) fun vv H5 s45 hvv => ?_
        have hdl5 : H5 dl = some (.dK (kvs [])) := s45 _ _ (s34 _ _ hdl3)
        have hp5 := s45 _ _ (s34 _ _ hp3)
        refine ⟨_, rfl, _, rfl, dl, _, rfl, .inl ⟨kvs [], Sum.inr z, hdl5, rfl, by show 0 < sizeLine; rw [sizeLine_eq]; decide, rfl⟩, ?_⟩
        rw [rp_int hvv, kvs_put _ (by exact fun h => nomatch h), List.nil_append, hL1]
        refine hnx2 _ _ ⟨_, rfl, ?_, tx3.trans ((Same.tx (s34.trans s45)).trans (tx_upd hdl5 fun _ z => nomatch z)), same_mut (sC4.trans s45) hdl, upd_same⟩
        rw [upd_ne (ne_of hp5 hdl5 fun z => nomatch z)]
        exact hp5
      · rintro p' us H2 σ' HE ⟨o16, rfl, hpE, txE, sCE, hdlE⟩
        have eL1 : L.take ((((L.map (·.1)).take 1).map D.str).length) = L.take 1 := by
          cases L <;> rfl
        rw [eL1] at hdlE
        have sAE := sAC.trans sCE
        have hGL1 : GoodL Pn (L.take 1) := ⟨((List.take_sublist 1 L).map _).trans hGL.keys, fun e he => hGL.vals e (List.mem_of_mem_take he)⟩
        have hOn : (allOn Pn).length = Pn.n := List.length_map _
        -- one load
        have e1 := fun σ (h3 : σ[3]? = some (some (.ref p))) (h4 : σ[4]? = some (some vw)) (h18 : σ[18]? = some (some (.ref dl))) => ev_call (C := CP) (R := R_plugged) (E := E0) (σ := σ) (H := HE) (r := .d (.tup [dB (plugged Pn wr (L.take 1) ((L.take 1).map (·.1))).1, dN (plugged Pn wr (L.take 1) ((L.take 1).map (·.1))).2])) (ea_cons (a := .pl Pn) (ev_v (i := 3) h3 ⟨p, rfl, hPA.mono sAE⟩) (ea_cons (a := .d (dW wr)) (ev_v (i := 4) h4 (hwA.mono sAE)) (ea_cons (a := .dic (L.take 1)) (ev_v (i := 18) h18 ⟨dl, rfl, hdlE⟩) (ea_one (a := .d (dS ((L.take 1).map (·.1)))) (ev_b (ea_one (ev_v (a := .dic (L.take 1)) (i := 18) h18 ⟨dl, rfl, hdlE⟩)) er_tupleD))))) ⟨Pn, wr, L.take 1, _, rfl, hG, hW, hGL1, List.Perm.refl _, rfl⟩
        rw [plugged_one hG] at e1
        refine sq_iff (et_test (C := CP) (ev_neSame (K := K) (x := .tup [dB (trips Pn wr (allOn Pn) (L.take 1)).1, dN (trips Pn wr (allOn Pn) (L.take 1)).2]) (e1 _ rfl rfl rfl) (ev_call (as := [.pl Pn, .d (dW wr), .d (dB (allOn Pn)), .dic (L.take 1)]) (ea_cons (ev_v (i := 3) rfl ⟨p, rfl, hPA.mono sAE⟩) (ea_cons (ev_v (i := 4) rfl (hwA.mono sAE)) (ea_cons (ev_v (i := 10) rfl (honA.mono sAE)) (ea_one (ev_v (i := 18) rfl ⟨dl, rfl, hdlE⟩))))) ⟨Pn, wr, _, _, rfl, ⟨hG, hW, hOn⟩, hGL1, rfl⟩) (lay2 _ _) (dep2 _ _))) fun HF sEF => ?_
        have sAF := sAE.trans sEF
        -- no load
        have hGL0 : GoodL Pn [] := ⟨List.nil_sublist _, fun e he => nomatch he⟩
        refine sq_iff (et_orF (et_test (C := CP) (ev_neSame (K := K) (x := .tup [dB (allOn Pn), dN []]) (ev_call (as := [.pl Pn, .d (dW wr), .dic [], .d (dS [])]) (ea_cons (ev_v (i := 3) rfl ⟨p, rfl, hPA.mono sAF⟩) (ea_cons (ev_v (i := 4) rfl (hwA.mono sAF)) (ea_cons ev_dnew (ea_one (ev_tup (ds := []) ea_nil (by decide)))))) ⟨Pn, wr, [], [], rfl, hG, hW, hGL0, List.Perm.refl _, rfl⟩) (ev_tup (ds := [dB (allOn Pn), .tup []]) (ea_cons (ev_v (i := 10) rfl (honA.mono sAF)) (ea_one (ev_tup (ds := []) ea_nil (by decide)))) (by show 2 ≤ 1000; decide)) (lay2 _ _) (dep2 _ _))) (et_test (C := CP) (ev_neSame (K := K) (x := .tup [.tup [], .tup []]) ?_ (ev_tup (ds := [.tup [], .tup []]) (ea_cons (ev_tup (ds := []) ea_nil (by decide)) (ea_one (ev_tup (ds := []) ea_nil (by decide)))) (by decide)) (by decide +kernel) (by decide +kernel)))) fun HG sFG => ?_
        · have e := ev_call (C := CP) (R := R_best_plugging) (E := E0) (σ := [some (.ref a), some (.ref r), some x, some (.ref p), some vw, some (.ref dL), some vn, some vo, some (.ref pL), some (.ref pS), some von, o11, o12, o13, o14, o15, o16, o17, some (.ref dl), o19]) (H := HF) (r := .d (.tup [dS (best Pn wr []).1, dOS (best Pn wr []).2])) (ea_cons (a := .pl Pn) (ev_v (i := 3) rfl ⟨p, rfl, hPA.mono sAF⟩) (ea_cons (a := .d (dW wr)) (ev_v (i := 4) rfl (hwA.mono sAF)) (ea_one (a := .dic []) ev_dnew))) ⟨Pn, wr, [], rfl, hG, hW, hGL0, rfl⟩
          rw [best_nil] at e
          exact e
        · have sAG := sAF.trans sFG
          refine st_iff (et_f (et_not (b := true) (et_val (C := CP) (ev_fit (i := 3) (j := 4) (k := 5) (l := 6) (m := 9) (hPA.mono sAG) (hwA.mono sAG) (sAG _ _ hdLA) (hvnA.mono sAG) (sAG _ _ hSA) pms hG hW hGL rfl rfl rfl rfl rfl))) rfl) fun HH sGH => ?_
          have sbH := sbA.trans (Same.sb (sAG.trans sGH))
          exact hnx _ _ ⟨_, _, _, _, _, _, _, _, _, _, _, _, _, _, _, _, _, _, rfl, DA.row.mono (sAG.trans sGH)⟩ (hrw1.tx sbH)
end
end Bf

/-! H2: what the top has written. -/
namespace Bf
open PySem PySem.Spec PyProof.Rows L2 Bx
/-- how a def takes its arguments -/
def BindOk (x qual : Str) (st : Stmt) (ps : List Str) : Prop := ∀ (kV doc pm : Value) (an : Option Addr) (cdv ct : Value) (us : List Value), us.length = ps.length → bindArgs (PySem.W.fnOf x qual (defArgs st) (defBody st) (defScope st) .none kV doc pm an cdv ct) ⟨us, []⟩ = pure (ps.zip us)
theorem bi_i_S : BindOk "__init__" "State.__init__" s_State_init ["self", "facts", "shelf", "past", "undone"] := fun _ _ _ _ _ _ us hl => match us, hl with | [_, _, _, _, _], _ => rfl
theorem bi_i_B : BindOk "__init__" "Box.__init__" s_Box_init ["self", "plan", "wiring"] := fun _ _ _ _ _ _ us hl => match us, hl with | [_, _, _], _ => rfl
theorem bi_p_rates : BindOk "rates" "Plan.rates" s_Plan_rates ["self"] := fun _ _ _ _ _ _ us hl => match us, hl with | [_], _ => rfl
theorem bi_p_above : BindOk "above" "Plan.above" s_Plan_above ["self"] := fun _ _ _ _ _ _ us hl => match us, hl with | [_], _ => rfl
theorem bi_p_points : BindOk "points" "Plan.points" s_Plan_points ["self"] := fun _ _ _ _ _ _ us hl => match us, hl with | [_], _ => rfl
theorem bi_p_rule : BindOk "rule" "Plan.rule" s_Plan_rule ["self"] := fun _ _ _ _ _ _ us hl => match us, hl with | [_], _ => rfl
theorem bi_p_names : BindOk "names" "Plan.names" s_Plan_names ["self"] := fun _ _ _ _ _ _ us hl => match us, hl with | [_], _ => rfl
theorem bi_l_P : BindOk "__len__" "Plan.__len__" s_Plan_len ["self"] := fun _ _ _ _ _ _ us hl => match us, hl with | [_], _ => rfl
theorem bi_m_go_on : BindOk "go_on" "State.go_on" s_State_go_on ["self", "operation", "facts", "shelf"] := fun _ _ _ _ _ _ us hl => match us, hl with | [_, _, _, _], _ => rfl
theorem bi_p_state_now : BindOk "state_now" "Box.state_now" s_Box_state_now ["self"] := fun _ _ _ _ _ _ us hl => match us, hl with | [_], _ => rfl
theorem bi_p_loads_now : BindOk "loads_now" "Box.loads_now" s_Box_loads_now ["self"] := fun _ _ _ _ _ _ us hl => match us, hl with | [_], _ => rfl
theorem bi_p_trip_count : BindOk "trip_count" "Box.trip_count" s_Box_trip_count ["self"] := fun _ _ _ _ _ _ us hl => match us, hl with | [_], _ => rfl
theorem bi_m_settle : BindOk "settle" "Box.settle" s_Box_settle ["self", "operation", "state", "loads"] := fun _ _ _ _ _ _ us hl => match us, hl with | [_, _, _, _], _ => rfl
theorem bi_m_plug : BindOk "plug" "Box.plug" s_Box_plug ["self", "name", "load"] := fun _ _ _ _ _ _ us hl => match us, hl with | [_, _, _], _ => rfl
theorem bi_m_reset : BindOk "reset" "Box.reset" s_Box_reset ["self"] := fun _ _ _ _ _ _ us hl => match us, hl with | [_], _ => rfl
theorem bi_d_is_number : BindOk "is_number" "is_number" s_is_number ["value", "smallest", "largest"] := fun _ _ _ _ _ _ us hl => match us, hl with | [_, _, _], _ => rfl
theorem bi_d_is_word : BindOk "is_word" "is_word" s_is_word ["value"] := fun _ _ _ _ _ _ us hl => match us, hl with | [_], _ => rfl
theorem bi_d_are_rates : BindOk "are_rates" "are_rates" s_are_rates ["row"] := fun _ _ _ _ _ _ us hl => match us, hl with | [_], _ => rfl
theorem bi_d_are_above : BindOk "are_above" "are_above" s_are_above ["row", "count"] := fun _ _ _ _ _ _ us hl => match us, hl with | [_, _], _ => rfl
theorem bi_d_is_point : BindOk "is_point" "is_point" s_is_point ["value"] := fun _ _ _ _ _ _ us hl => match us, hl with | [_], _ => rfl
theorem bi_d_are_points : BindOk "are_points" "are_points" s_are_points ["row"] := fun _ _ _ _ _ _ us hl => match us, hl with | [_], _ => rfl
theorem bi_d_does_follow : BindOk "does_follow" "does_follow" s_does_follow ["plan", "wiring"] := fun _ _ _ _ _ _ us hl => match us, hl with | [_, _], _ => rfl
theorem bi_d_is_wiring : BindOk "is_wiring" "is_wiring" s_is_wiring ["plan", "value"] := fun _ _ _ _ _ _ us hl => match us, hl with | [_, _], _ => rfl
theorem bi_d_check_wiring : BindOk "check_wiring" "check_wiring" s_check_wiring ["plan", "wiring"] := fun _ _ _ _ _ _ us hl => match us, hl with | [_, _], _ => rfl
theorem bi_d_is_state : BindOk "is_state" "is_state" s_is_state ["plan", "value"] := fun _ _ _ _ _ _ us hl => match us, hl with | [_, _], _ => rfl
theorem bi_d_check_state : BindOk "check_state" "check_state" s_check_state ["plan", "state"] := fun _ _ _ _ _ _ us hl => match us, hl with | [_, _], _ => rfl
theorem bi_d_check_name : BindOk "check_name" "check_name" s_check_name ["plan", "name"] := fun _ _ _ _ _ _ us hl => match us, hl with | [_, _], _ => rfl
theorem bi_d_all_on : BindOk "all_on" "all_on" s_all_on ["plan"] := fun _ _ _ _ _ _ us hl => match us, hl with | [_], _ => rfl
theorem bi_d_line_up : BindOk "line_up" "line_up" s_line_up ["plan", "breaker"] := fun _ _ _ _ _ _ us hl => match us, hl with | [_, _], _ => rfl
theorem bi_d_has_power : BindOk "has_power" "has_power" s_has_power ["plan", "state", "breaker"] := fun _ _ _ _ _ _ us hl => match us, hl with | [_, _, _], _ => rfl
theorem bi_d_live_in : BindOk "live_in" "live_in" s_live_in ["plan", "wiring", "state"] := fun _ _ _ _ _ _ us hl => match us, hl with | [_, _, _], _ => rfl
theorem bi_d_live : BindOk "live" "live" s_live ["plan", "wiring", "state"] := fun _ _ _ _ _ _ us hl => match us, hl with | [_, _, _], _ => rfl
theorem bi_d_wrong_load : BindOk "wrong_load" "wrong_load" s_wrong_load ["plan", "loads"] := fun _ _ _ _ _ _ us hl => match us, hl with | [_, _], _ => rfl
theorem bi_d_check_loads : BindOk "check_loads" "check_loads" s_check_loads ["plan", "loads"] := fun _ _ _ _ _ _ us hl => match us, hl with | [_, _], _ => rfl
theorem bi_d_currents_in : BindOk "currents_in" "currents_in" s_currents_in ["plan", "wiring", "state", "loads"] := fun _ _ _ _ _ _ us hl => match us, hl with | [_, _, _, _], _ => rfl
theorem bi_d_trips_in : BindOk "trips_in" "trips_in" s_trips_in ["plan", "wiring", "state", "loads"] := fun _ _ _ _ _ _ us hl => match us, hl with | [_, _, _, _], _ => rfl
theorem bi_d_check_all : BindOk "check_all" "check_all" s_check_all ["plan", "wiring", "state", "loads"] := fun _ _ _ _ _ _ us hl => match us, hl with | [_, _, _, _], _ => rfl
theorem bi_d_trips : BindOk "trips" "trips" s_trips ["plan", "wiring", "state", "loads"] := fun _ _ _ _ _ _ us hl => match us, hl with | [_, _, _, _], _ => rfl
theorem bi_d_choices : BindOk "choices" "choices" s_choices ["things", "size"] := fun _ _ _ _ _ _ us hl => match us, hl with | [_, _], _ => rfl
theorem bi_d_orders_of : BindOk "orders_of" "orders_of" s_orders_of ["values"] := fun _ _ _ _ _ _ us hl => match us, hl with | [_], _ => rfl
theorem bi_d_plugged_in : BindOk "plugged_in" "plugged_in" s_plugged_in ["plan", "wiring", "loads", "order"] := fun _ _ _ _ _ _ us hl => match us, hl with | [_, _, _, _], _ => rfl
theorem bi_d_plugged : BindOk "plugged" "plugged" s_plugged ["plan", "wiring", "loads", "order"] := fun _ _ _ _ _ _ us hl => match us, hl with | [_, _, _, _], _ => rfl
theorem bi_d_best_plugging : BindOk "best_plugging" "best_plugging" s_best_plugging ["plan", "wiring", "loads"] := fun _ _ _ _ _ _ us hl => match us, hl with | [_, _, _], _ => rfl
theorem bi_d_switched : BindOk "switched" "switched" s_switched ["state", "breaker"] := fun _ _ _ _ _ _ us hl => match us, hl with | [_, _], _ => rfl
theorem bi_d_does_run : BindOk "does_run" "does_run" s_does_run ["plan", "wiring", "loads"] := fun _ _ _ _ _ _ us hl => match us, hl with | [_, _, _], _ => rfl
theorem bi_d_most_at_once : BindOk "most_at_once" "most_at_once" s_most_at_once ["plan", "wiring", "loads"] := fun _ _ _ _ _ _ us hl => match us, hl with | [_, _, _], _ => rfl
theorem bi_d__law_taken : BindOk "_law_taken" "_law_taken" s__law_taken ["_law_row", "_law_many"] := fun _ _ _ _ _ _ us hl => match us, hl with | [_, _], _ => rfl
theorem bi_d__law_plan : BindOk "_law_plan" "_law_plan" s__law_plan ["_law_row"] := fun _ _ _ _ _ _ us hl => match us, hl with | [_], _ => rfl
theorem bi_d__law_wirings : BindOk "_law_wirings" "_law_wirings" s__law_wirings ["_law_plan_here"] := fun _ _ _ _ _ _ us hl => match us, hl with | [_], _ => rfl
theorem bi_d__law_wiring : BindOk "_law_wiring" "_law_wiring" s__law_wiring ["_law_row", "_law_plan_here"] := fun _ _ _ _ _ _ us hl => match us, hl with | [_, _], _ => rfl
theorem bi_d__law_loads : BindOk "_law_loads" "_law_loads" s__law_loads ["_law_row", "_law_plan_here"] := fun _ _ _ _ _ _ us hl => match us, hl with | [_, _], _ => rfl
theorem bi_d__law_are_fit : BindOk "_law_are_fit" "_law_are_fit" s__law_are_fit ["_law_plan_here", "_law_wiring_here", "_law_loads_here", "_law_two"] := fun _ _ _ _ _ _ us hl => match us, hl with | [_, _, _, _], _ => rfl
theorem bi_d_law : BindOk "law" "law" s_law ["_law_script"] := fun _ _ _ _ _ _ us hl => match us, hl with | [_], _ => rfl
theorem all_mk {l : PySem.W.OpenLaw} {w : World} {K : PySem.W.Frag} {h : Heap} {mg : Str → Option Value} {fa CP CS CB : Addr} (X : K.In h) (G : h.Ns mainGlobals mg) (hfa : mg "law" = some (.ref fa))
    {t_LETTERS : Tok}
    {t_MAX_LETTERS : Tok}
    {t_MAX_BREAKERS : Tok}
    {t_MAX_RATE : Tok}
    {t_MAX_POINTS : Tok}
    {t_MAX_ROOM : Tok}
    {t_LAMP : Tok}
    {t_PLUG : Tok}
    {t_FREE : Tok}
    {t_ROOMS : Tok}
    {t_MAX_LOAD : Tok}
    {p_slP : Addr}
    {p_slF : Addr}
    {p_slH : Addr}
    {p_slQ : Addr}
    {p_slU : Addr}
    {f_i_P : Addr}
    {T_d : Addr}
    {oc_d : Value} {od_d : Option Addr} {tk_d : Tok} {n_d : Nat} {sl_d : Array (Option Value)}
    {oc_i_P : Value}
    {kV_i_P : Value}
    {dc_i_P : Value}
    {pm_i_P : Value}
    {cd_i_P : Value}
    {ct_i_P : Value}
    {od_i_P an_i_P : Option Addr}
    {sl_i_P : Array (Option Value)}
    {f_i_S : Addr}
    {oc_i_S : Value}
    {kV_i_S : Value}
    {dc_i_S : Value}
    {pm_i_S : Value}
    {cd_i_S : Value}
    {ct_i_S : Value}
    {od_i_S an_i_S : Option Addr}
    {sl_i_S : Array (Option Value)}
    {f_i_B : Addr}
    {oc_i_B : Value}
    {kV_i_B : Value}
    {dc_i_B : Value}
    {pm_i_B : Value}
    {cd_i_B : Value}
    {ct_i_B : Value}
    {od_i_B an_i_B : Option Addr}
    {sl_i_B : Array (Option Value)}
    {f_p_rates g_p_rates : Addr} {r_p_rates : List Value}
    {oc_p_rates : Value}
    {kV_p_rates : Value}
    {dc_p_rates : Value}
    {pm_p_rates : Value}
    {cd_p_rates : Value}
    {ct_p_rates : Value}
    {od_p_rates an_p_rates : Option Addr}
    {sl_p_rates : Array (Option Value)}
    {f_p_above g_p_above : Addr} {r_p_above : List Value}
    {oc_p_above : Value}
    {kV_p_above : Value}
    {dc_p_above : Value}
    {pm_p_above : Value}
    {cd_p_above : Value}
    {ct_p_above : Value}
    {od_p_above an_p_above : Option Addr}
    {sl_p_above : Array (Option Value)}
    {f_p_points g_p_points : Addr} {r_p_points : List Value}
    {oc_p_points : Value}
    {kV_p_points : Value}
    {dc_p_points : Value}
    {pm_p_points : Value}
    {cd_p_points : Value}
    {ct_p_points : Value}
    {od_p_points an_p_points : Option Addr}
    {sl_p_points : Array (Option Value)}
    {f_p_rule g_p_rule : Addr} {r_p_rule : List Value}
    {oc_p_rule : Value}
    {kV_p_rule : Value}
    {dc_p_rule : Value}
    {pm_p_rule : Value}
    {cd_p_rule : Value}
    {ct_p_rule : Value}
    {od_p_rule an_p_rule : Option Addr}
    {sl_p_rule : Array (Option Value)}
    {f_p_names g_p_names : Addr} {r_p_names : List Value}
    {oc_p_names : Value}
    {kV_p_names : Value}
    {dc_p_names : Value}
    {pm_p_names : Value}
    {cd_p_names : Value}
    {ct_p_names : Value}
    {od_p_names an_p_names : Option Addr}
    {sl_p_names : Array (Option Value)}
    {f_l_P : Addr}
    {oc_l_P : Value}
    {kV_l_P : Value}
    {dc_l_P : Value}
    {pm_l_P : Value}
    {cd_l_P : Value}
    {ct_l_P : Value}
    {od_l_P an_l_P : Option Addr}
    {sl_l_P : Array (Option Value)}
    {f_m_go_on : Addr}
    {oc_m_go_on : Value}
    {kV_m_go_on : Value}
    {dc_m_go_on : Value}
    {pm_m_go_on : Value}
    {cd_m_go_on : Value}
    {ct_m_go_on : Value}
    {od_m_go_on an_m_go_on : Option Addr}
    {sl_m_go_on : Array (Option Value)}
    {f_p_state_now g_p_state_now : Addr} {r_p_state_now : List Value}
    {oc_p_state_now : Value}
    {kV_p_state_now : Value}
    {dc_p_state_now : Value}
    {pm_p_state_now : Value}
    {cd_p_state_now : Value}
    {ct_p_state_now : Value}
    {od_p_state_now an_p_state_now : Option Addr}
    {sl_p_state_now : Array (Option Value)}
    {f_p_loads_now g_p_loads_now : Addr} {r_p_loads_now : List Value}
    {oc_p_loads_now : Value}
    {kV_p_loads_now : Value}
    {dc_p_loads_now : Value}
    {pm_p_loads_now : Value}
    {cd_p_loads_now : Value}
    {ct_p_loads_now : Value}
    {od_p_loads_now an_p_loads_now : Option Addr}
    {sl_p_loads_now : Array (Option Value)}
    {f_p_trip_count g_p_trip_count : Addr} {r_p_trip_count : List Value}
    {oc_p_trip_count : Value}
    {kV_p_trip_count : Value}
    {dc_p_trip_count : Value}
    {pm_p_trip_count : Value}
    {cd_p_trip_count : Value}
    {ct_p_trip_count : Value}
    {od_p_trip_count an_p_trip_count : Option Addr}
    {sl_p_trip_count : Array (Option Value)}
    {f_m_settle : Addr}
    {oc_m_settle : Value}
    {kV_m_settle : Value}
    {dc_m_settle : Value}
    {pm_m_settle : Value}
    {cd_m_settle : Value}
    {ct_m_settle : Value}
    {od_m_settle an_m_settle : Option Addr}
    {sl_m_settle : Array (Option Value)}
    {f_m_plug : Addr}
    {oc_m_plug : Value}
    {kV_m_plug : Value}
    {dc_m_plug : Value}
    {pm_m_plug : Value}
    {cd_m_plug : Value}
    {ct_m_plug : Value}
    {od_m_plug an_m_plug : Option Addr}
    {sl_m_plug : Array (Option Value)}
    {f_m_reset : Addr}
    {oc_m_reset : Value}
    {kV_m_reset : Value}
    {dc_m_reset : Value}
    {pm_m_reset : Value}
    {cd_m_reset : Value}
    {ct_m_reset : Value}
    {od_m_reset an_m_reset : Option Addr}
    {sl_m_reset : Array (Option Value)}
    {f_d_is_number : Addr}
    {oc_d_is_number : Value}
    {kV_d_is_number : Value}
    {dc_d_is_number : Value}
    {pm_d_is_number : Value}
    {cd_d_is_number : Value}
    {ct_d_is_number : Value}
    {od_d_is_number an_d_is_number : Option Addr}
    {sl_d_is_number : Array (Option Value)}
    {f_d_is_word : Addr}
    {oc_d_is_word : Value}
    {kV_d_is_word : Value}
    {dc_d_is_word : Value}
    {pm_d_is_word : Value}
    {cd_d_is_word : Value}
    {ct_d_is_word : Value}
    {od_d_is_word an_d_is_word : Option Addr}
    {sl_d_is_word : Array (Option Value)}
    {f_d_are_rates : Addr}
    {oc_d_are_rates : Value}
    {kV_d_are_rates : Value}
    {dc_d_are_rates : Value}
    {pm_d_are_rates : Value}
    {cd_d_are_rates : Value}
    {ct_d_are_rates : Value}
    {od_d_are_rates an_d_are_rates : Option Addr}
    {sl_d_are_rates : Array (Option Value)}
    {f_d_are_above : Addr}
    {oc_d_are_above : Value}
    {kV_d_are_above : Value}
    {dc_d_are_above : Value}
    {pm_d_are_above : Value}
    {cd_d_are_above : Value}
    {ct_d_are_above : Value}
    {od_d_are_above an_d_are_above : Option Addr}
    {sl_d_are_above : Array (Option Value)}
    {f_d_is_point : Addr}
    {oc_d_is_point : Value}
    {kV_d_is_point : Value}
    {dc_d_is_point : Value}
    {pm_d_is_point : Value}
    {cd_d_is_point : Value}
    {ct_d_is_point : Value}
    {od_d_is_point an_d_is_point : Option Addr}
    {sl_d_is_point : Array (Option Value)}
    {f_d_are_points : Addr}
    {oc_d_are_points : Value}
    {kV_d_are_points : Value}
    {dc_d_are_points : Value}
    {pm_d_are_points : Value}
    {cd_d_are_points : Value}
    {ct_d_are_points : Value}
    {od_d_are_points an_d_are_points : Option Addr}
    {sl_d_are_points : Array (Option Value)}
    {f_d_does_follow : Addr}
    {oc_d_does_follow : Value}
    {kV_d_does_follow : Value}
    {dc_d_does_follow : Value}
    {pm_d_does_follow : Value}
    {cd_d_does_follow : Value}
    {ct_d_does_follow : Value}
    {od_d_does_follow an_d_does_follow : Option Addr}
    {sl_d_does_follow : Array (Option Value)}
    {f_d_is_wiring : Addr}
    {oc_d_is_wiring : Value}
    {kV_d_is_wiring : Value}
    {dc_d_is_wiring : Value}
    {pm_d_is_wiring : Value}
    {cd_d_is_wiring : Value}
    {ct_d_is_wiring : Value}
    {od_d_is_wiring an_d_is_wiring : Option Addr}
    {sl_d_is_wiring : Array (Option Value)}
    {f_d_check_wiring : Addr}
    {oc_d_check_wiring : Value}
    {kV_d_check_wiring : Value}
    {dc_d_check_wiring : Value}
    {pm_d_check_wiring : Value}
    {cd_d_check_wiring : Value}
    {ct_d_check_wiring : Value}
    {od_d_check_wiring an_d_check_wiring : Option Addr}
    {sl_d_check_wiring : Array (Option Value)}
    {f_d_is_state : Addr}
    {oc_d_is_state : Value}
    {kV_d_is_state : Value}
    {dc_d_is_state : Value}
    {pm_d_is_state : Value}
    {cd_d_is_state : Value}
    {ct_d_is_state : Value}
    {od_d_is_state an_d_is_state : Option Addr}
    {sl_d_is_state : Array (Option Value)}
    {f_d_check_state : Addr}
    {oc_d_check_state : Value}
    {kV_d_check_state : Value}
    {dc_d_check_state : Value}
    {pm_d_check_state : Value}
    {cd_d_check_state : Value}
    {ct_d_check_state : Value}
    {od_d_check_state an_d_check_state : Option Addr}
    {sl_d_check_state : Array (Option Value)}
    {f_d_check_name : Addr}
    {oc_d_check_name : Value}
    {kV_d_check_name : Value}
    {dc_d_check_name : Value}
    {pm_d_check_name : Value}
    {cd_d_check_name : Value}
    {ct_d_check_name : Value}
    {od_d_check_name an_d_check_name : Option Addr}
    {sl_d_check_name : Array (Option Value)}
    {f_d_all_on : Addr}
    {oc_d_all_on : Value}
    {kV_d_all_on : Value}
    {dc_d_all_on : Value}
    {pm_d_all_on : Value}
    {cd_d_all_on : Value}
    {ct_d_all_on : Value}
    {od_d_all_on an_d_all_on : Option Addr}
    {sl_d_all_on : Array (Option Value)}
    {f_d_line_up : Addr}
    {oc_d_line_up : Value}
    {kV_d_line_up : Value}
    {dc_d_line_up : Value}
    {pm_d_line_up : Value}
    {cd_d_line_up : Value}
    {ct_d_line_up : Value}
    {od_d_line_up an_d_line_up : Option Addr}
    {sl_d_line_up : Array (Option Value)}
    {f_d_has_power : Addr}
    {oc_d_has_power : Value}
    {kV_d_has_power : Value}
    {dc_d_has_power : Value}
    {pm_d_has_power : Value}
    {cd_d_has_power : Value}
    {ct_d_has_power : Value}
    {od_d_has_power an_d_has_power : Option Addr}
    {sl_d_has_power : Array (Option Value)}
    {f_d_live_in : Addr}
    {oc_d_live_in : Value}
    {kV_d_live_in : Value}
    {dc_d_live_in : Value}
    {pm_d_live_in : Value}
    {cd_d_live_in : Value}
    {ct_d_live_in : Value}
    {od_d_live_in an_d_live_in : Option Addr}
    {sl_d_live_in : Array (Option Value)}
    {f_d_live : Addr}
    {oc_d_live : Value}
    {kV_d_live : Value}
    {dc_d_live : Value}
    {pm_d_live : Value}
    {cd_d_live : Value}
    {ct_d_live : Value}
    {od_d_live an_d_live : Option Addr}
    {sl_d_live : Array (Option Value)}
    {f_d_wrong_load : Addr}
    {oc_d_wrong_load : Value}
    {kV_d_wrong_load : Value}
    {dc_d_wrong_load : Value}
    {pm_d_wrong_load : Value}
    {cd_d_wrong_load : Value}
    {ct_d_wrong_load : Value}
    {od_d_wrong_load an_d_wrong_load : Option Addr}
    {sl_d_wrong_load : Array (Option Value)}
    {f_d_check_loads : Addr}
    {oc_d_check_loads : Value}
    {kV_d_check_loads : Value}
    {dc_d_check_loads : Value}
    {pm_d_check_loads : Value}
    {cd_d_check_loads : Value}
    {ct_d_check_loads : Value}
    {od_d_check_loads an_d_check_loads : Option Addr}
    {sl_d_check_loads : Array (Option Value)}
    {f_d_currents_in : Addr}
    {oc_d_currents_in : Value}
    {kV_d_currents_in : Value}
    {dc_d_currents_in : Value}
    {pm_d_currents_in : Value}
    {cd_d_currents_in : Value}
    {ct_d_currents_in : Value}
    {od_d_currents_in an_d_currents_in : Option Addr}
    {sl_d_currents_in : Array (Option Value)}
    {f_d_trips_in : Addr}
    {oc_d_trips_in : Value}
    {kV_d_trips_in : Value}
    {dc_d_trips_in : Value}
    {pm_d_trips_in : Value}
    {cd_d_trips_in : Value}
    {ct_d_trips_in : Value}
    {od_d_trips_in an_d_trips_in : Option Addr}
    {sl_d_trips_in : Array (Option Value)}
    {f_d_check_all : Addr}
    {oc_d_check_all : Value}
    {kV_d_check_all : Value}
    {dc_d_check_all : Value}
    {pm_d_check_all : Value}
    {cd_d_check_all : Value}
    {ct_d_check_all : Value}
    {od_d_check_all an_d_check_all : Option Addr}
    {sl_d_check_all : Array (Option Value)}
    {f_d_trips : Addr}
    {oc_d_trips : Value}
    {kV_d_trips : Value}
    {dc_d_trips : Value}
    {pm_d_trips : Value}
    {cd_d_trips : Value}
    {ct_d_trips : Value}
    {od_d_trips an_d_trips : Option Addr}
    {sl_d_trips : Array (Option Value)}
    {f_d_choices : Addr}
    {oc_d_choices : Value}
    {kV_d_choices : Value}
    {dc_d_choices : Value}
    {pm_d_choices : Value}
    {cd_d_choices : Value}
    {ct_d_choices : Value}
    {od_d_choices an_d_choices : Option Addr}
    {sl_d_choices : Array (Option Value)}
    {f_d_orders_of : Addr}
    {oc_d_orders_of : Value}
    {kV_d_orders_of : Value}
    {dc_d_orders_of : Value}
    {pm_d_orders_of : Value}
    {cd_d_orders_of : Value}
    {ct_d_orders_of : Value}
    {od_d_orders_of an_d_orders_of : Option Addr}
    {sl_d_orders_of : Array (Option Value)}
    {f_d_plugged_in : Addr}
    {oc_d_plugged_in : Value}
    {kV_d_plugged_in : Value}
    {dc_d_plugged_in : Value}
    {pm_d_plugged_in : Value}
    {cd_d_plugged_in : Value}
    {ct_d_plugged_in : Value}
    {od_d_plugged_in an_d_plugged_in : Option Addr}
    {sl_d_plugged_in : Array (Option Value)}
    {f_d_plugged : Addr}
    {oc_d_plugged : Value}
    {kV_d_plugged : Value}
    {dc_d_plugged : Value}
    {pm_d_plugged : Value}
    {cd_d_plugged : Value}
    {ct_d_plugged : Value}
    {od_d_plugged an_d_plugged : Option Addr}
    {sl_d_plugged : Array (Option Value)}
    {f_d_best_plugging : Addr}
    {oc_d_best_plugging : Value}
    {kV_d_best_plugging : Value}
    {dc_d_best_plugging : Value}
    {pm_d_best_plugging : Value}
    {cd_d_best_plugging : Value}
    {ct_d_best_plugging : Value}
    {od_d_best_plugging an_d_best_plugging : Option Addr}
    {sl_d_best_plugging : Array (Option Value)}
    {f_d_switched : Addr}
    {oc_d_switched : Value}
    {kV_d_switched : Value}
    {dc_d_switched : Value}
    {pm_d_switched : Value}
    {cd_d_switched : Value}
    {ct_d_switched : Value}
    {od_d_switched an_d_switched : Option Addr}
    {sl_d_switched : Array (Option Value)}
    {f_d_does_run : Addr}
    {oc_d_does_run : Value}
    {kV_d_does_run : Value}
    {dc_d_does_run : Value}
    {pm_d_does_run : Value}
    {cd_d_does_run : Value}
    {ct_d_does_run : Value}
    {od_d_does_run an_d_does_run : Option Addr}
    {sl_d_does_run : Array (Option Value)}
    {f_d_most_at_once : Addr}
    {oc_d_most_at_once : Value}
    {kV_d_most_at_once : Value}
    {dc_d_most_at_once : Value}
    {pm_d_most_at_once : Value}
    {cd_d_most_at_once : Value}
    {ct_d_most_at_once : Value}
    {od_d_most_at_once an_d_most_at_once : Option Addr}
    {sl_d_most_at_once : Array (Option Value)}
    {f_d__law_taken : Addr}
    {oc_d__law_taken : Value}
    {kV_d__law_taken : Value}
    {dc_d__law_taken : Value}
    {pm_d__law_taken : Value}
    {cd_d__law_taken : Value}
    {ct_d__law_taken : Value}
    {od_d__law_taken an_d__law_taken : Option Addr}
    {sl_d__law_taken : Array (Option Value)}
    {f_d__law_plan : Addr}
    {oc_d__law_plan : Value}
    {kV_d__law_plan : Value}
    {dc_d__law_plan : Value}
    {pm_d__law_plan : Value}
    {cd_d__law_plan : Value}
    {ct_d__law_plan : Value}
    {od_d__law_plan an_d__law_plan : Option Addr}
    {sl_d__law_plan : Array (Option Value)}
    {f_d__law_wirings : Addr}
    {oc_d__law_wirings : Value}
    {kV_d__law_wirings : Value}
    {dc_d__law_wirings : Value}
    {pm_d__law_wirings : Value}
    {cd_d__law_wirings : Value}
    {ct_d__law_wirings : Value}
    {od_d__law_wirings an_d__law_wirings : Option Addr}
    {sl_d__law_wirings : Array (Option Value)}
    {f_d__law_wiring : Addr}
    {oc_d__law_wiring : Value}
    {kV_d__law_wiring : Value}
    {dc_d__law_wiring : Value}
    {pm_d__law_wiring : Value}
    {cd_d__law_wiring : Value}
    {ct_d__law_wiring : Value}
    {od_d__law_wiring an_d__law_wiring : Option Addr}
    {sl_d__law_wiring : Array (Option Value)}
    {f_d__law_loads : Addr}
    {oc_d__law_loads : Value}
    {kV_d__law_loads : Value}
    {dc_d__law_loads : Value}
    {pm_d__law_loads : Value}
    {cd_d__law_loads : Value}
    {ct_d__law_loads : Value}
    {od_d__law_loads an_d__law_loads : Option Addr}
    {sl_d__law_loads : Array (Option Value)}
    {f_d__law_are_fit : Addr}
    {oc_d__law_are_fit : Value}
    {kV_d__law_are_fit : Value}
    {dc_d__law_are_fit : Value}
    {pm_d__law_are_fit : Value}
    {cd_d__law_are_fit : Value}
    {ct_d__law_are_fit : Value}
    {od_d__law_are_fit an_d__law_are_fit : Option Addr}
    {sl_d__law_are_fit : Array (Option Value)}
    {f_d_law : Addr}
    {oc_d_law : Value}
    {kV_d_law : Value}
    {dc_d_law : Value}
    {pm_d_law : Value}
    {cd_d_law : Value}
    {ct_d_law : Value}
    {od_d_law an_d_law : Option Addr}
    {sl_d_law : Array (Option Value)}
    (aCP : PySem.W.nsIn K mainGlobals "Plan" = some (some (.ref CP)))
    (aCS : PySem.W.nsIn K mainGlobals "State" = some (some (.ref CS)))
    (aCB : PySem.W.nsIn K mainGlobals "Box" = some (some (.ref CB)))
    (z_isinstance : PySem.W.nsIn K mainGlobals "isinstance" = some none)
    (z_int : PySem.W.nsIn K mainGlobals "int" = some none)
    (z_bool : PySem.W.nsIn K mainGlobals "bool" = some none)
    (z_str : PySem.W.nsIn K mainGlobals "str" = some none)
    (z_tuple : PySem.W.nsIn K mainGlobals "tuple" = some none)
    (z_len : PySem.W.nsIn K mainGlobals "len" = some none)
    (z_all : PySem.W.nsIn K mainGlobals "all" = some none)
    (z_enumerate : PySem.W.nsIn K mainGlobals "enumerate" = some none)
    (z_zip : PySem.W.nsIn K mainGlobals "zip" = some none)
    (z_list : PySem.W.nsIn K mainGlobals "list" = some none)
    (z_sorted : PySem.W.nsIn K mainGlobals "sorted" = some none)
    (z_min : PySem.W.nsIn K mainGlobals "min" = some none)
    (z_range : PySem.W.nsIn K mainGlobals "range" = some none)
    (z_set : PySem.W.nsIn K mainGlobals "set" = some none)
    (y_LETTERS : PySem.W.nsIn K mainGlobals "LETTERS" = some (some (.str "abcdefghijklmnopqrstuvwxyz" t_LETTERS)))
    (y_MAX_LETTERS : PySem.W.nsIn K mainGlobals "MAX_LETTERS" = some (some (.int 8 t_MAX_LETTERS)))
    (y_MAX_BREAKERS : PySem.W.nsIn K mainGlobals "MAX_BREAKERS" = some (some (.int 5 t_MAX_BREAKERS)))
    (y_MAX_RATE : PySem.W.nsIn K mainGlobals "MAX_RATE" = some (some (.int 99 t_MAX_RATE)))
    (y_MAX_POINTS : PySem.W.nsIn K mainGlobals "MAX_POINTS" = some (some (.int 5 t_MAX_POINTS)))
    (y_MAX_ROOM : PySem.W.nsIn K mainGlobals "MAX_ROOM" = some (some (.int 9 t_MAX_ROOM)))
    (y_LAMP : PySem.W.nsIn K mainGlobals "LAMP" = some (some (.str "lamp" t_LAMP)))
    (y_PLUG : PySem.W.nsIn K mainGlobals "PLUG" = some (some (.str "plug" t_PLUG)))
    (y_FREE : PySem.W.nsIn K mainGlobals "FREE" = some (some (.str "free" t_FREE)))
    (y_ROOMS : PySem.W.nsIn K mainGlobals "ROOMS" = some (some (.str "rooms" t_ROOMS)))
    (y_MAX_LOAD : PySem.W.nsIn K mainGlobals "MAX_LOAD" = some (some (.int 99 t_MAX_LOAD)))
    (clP1 : PySem.W.plainGet K CP Str.empty = true)
    (clP2 : PySem.W.isClsIn K CP = true)
    (clP3 : PySem.W.plainOver K CP = true)
    (clP4 : PySem.W.findIn K (.ref CP) "__setattr__" = some (some (.builtin "object.__setattr__")))
    (clS1 : PySem.W.plainGet K CS Str.empty = true)
    (clS2 : PySem.W.isClsIn K CS = true)
    (clS3 : PySem.W.plainOver K CS = true)
    (clS4 : PySem.W.findIn K (.ref CS) "__setattr__" = some (some (.builtin "object.__setattr__")))
    (clB1 : PySem.W.plainGet K CB Str.empty = true)
    (clB2 : PySem.W.hasDictIn K CB = true)
    (clB3 : PySem.W.plainOver K CB = true)
    (clB4 : PySem.W.findIn K (.ref CB) "__setattr__" = some (some (.builtin "object.__setattr__")))
    (slP1 : PySem.W.findIn K (.ref CP) "parts" = some (some (.ref p_slP)))
    (slP2 : PySem.W.specialIn K (.ref p_slP) "__get__" = some (some (.builtin "member_descriptor.__get__")))
    (slP3 : PySem.W.takesIn K (.ref p_slP) = some true)
    (slP4 : PySem.W.typeIn K (.ref p_slP) = some (.type "member_descriptor"))
    (slP5 : PySem.W.slotIn K p_slP CP = some 0)
    (slF1 : PySem.W.findIn K (.ref CS) "facts" = some (some (.ref p_slF)))
    (slF2 : PySem.W.specialIn K (.ref p_slF) "__get__" = some (some (.builtin "member_descriptor.__get__")))
    (slF3 : PySem.W.takesIn K (.ref p_slF) = some true)
    (slF4 : PySem.W.typeIn K (.ref p_slF) = some (.type "member_descriptor"))
    (slF5 : PySem.W.slotIn K p_slF CS = some 0)
    (slH1 : PySem.W.findIn K (.ref CS) "shelf" = some (some (.ref p_slH)))
    (slH2 : PySem.W.specialIn K (.ref p_slH) "__get__" = some (some (.builtin "member_descriptor.__get__")))
    (slH3 : PySem.W.takesIn K (.ref p_slH) = some true)
    (slH4 : PySem.W.typeIn K (.ref p_slH) = some (.type "member_descriptor"))
    (slH5 : PySem.W.slotIn K p_slH CS = some 2)
    (slQ1 : PySem.W.findIn K (.ref CS) "past" = some (some (.ref p_slQ)))
    (slQ2 : PySem.W.specialIn K (.ref p_slQ) "__get__" = some (some (.builtin "member_descriptor.__get__")))
    (slQ3 : PySem.W.takesIn K (.ref p_slQ) = some true)
    (slQ4 : PySem.W.typeIn K (.ref p_slQ) = some (.type "member_descriptor"))
    (slQ5 : PySem.W.slotIn K p_slQ CS = some 1)
    (slU1 : PySem.W.findIn K (.ref CS) "undone" = some (some (.ref p_slU)))
    (slU2 : PySem.W.specialIn K (.ref p_slU) "__get__" = some (some (.builtin "member_descriptor.__get__")))
    (slU3 : PySem.W.takesIn K (.ref p_slU) = some true)
    (slU4 : PySem.W.typeIn K (.ref p_slU) = some (.type "member_descriptor"))
    (slU5 : PySem.W.slotIn K p_slU CS = some 3)
    (naP : PySem.W.findIn K (.ref CB) "plan" = some none)
    (naH : PySem.W.findIn K (.ref CB) "held" = some none)
    (m_i_P : PySem.W.findIn K (.ref CP) "__init__" = some (some (.ref f_i_P)))
    (i1_i_P : PySem.W.isFn K (.ref f_i_P) = true)
    (i2_i_P : PySem.W.makesIn K CP = true)
    (i3_i_P : PySem.W.keepIn K (.ref CP) = true)
    (l_i_P : K.lookup f_i_P = some ⟨oc_i_P, od_i_P, .func (PySem.W.fnOf "__init__" "Plan.__init__" (defArgs s_Plan_init) (defBody s_Plan_init) (defScope s_Plan_init) (.ref T_d) kV_i_P dc_i_P pm_i_P an_i_P cd_i_P ct_i_P), sl_i_P⟩)
    (c_i_P : PySem.W.codeIn K cd_i_P "Plan.__init__" = true)
    (k_i_P : PySem.W.keepIn K (.ref f_i_P) = true)
    (q_d : K.lookup T_d = some ⟨oc_d, od_d, .seq #[.str "free" tk_d] n_d, sl_d⟩)
    (m_i_S : PySem.W.findIn K (.ref CS) "__init__" = some (some (.ref f_i_S)))
    (i1_i_S : PySem.W.isFn K (.ref f_i_S) = true)
    (i2_i_S : PySem.W.makesIn K CS = true)
    (i3_i_S : PySem.W.keepIn K (.ref CS) = true)
    (l_i_S : K.lookup f_i_S = some ⟨oc_i_S, od_i_S, .func (PySem.W.fnOf "__init__" "State.__init__" (defArgs s_State_init) (defBody s_State_init) (defScope s_State_init) .none kV_i_S dc_i_S pm_i_S an_i_S cd_i_S ct_i_S), sl_i_S⟩)
    (c_i_S : PySem.W.codeIn K cd_i_S "State.__init__" = true)
    (k_i_S : PySem.W.keepIn K (.ref f_i_S) = true)
    (m_i_B : PySem.W.findIn K (.ref CB) "__init__" = some (some (.ref f_i_B)))
    (i1_i_B : PySem.W.isFn K (.ref f_i_B) = true)
    (i2_i_B : PySem.W.makesIn K CB = true)
    (i3_i_B : PySem.W.keepIn K (.ref CB) = true)
    (l_i_B : K.lookup f_i_B = some ⟨oc_i_B, od_i_B, .func (PySem.W.fnOf "__init__" "Box.__init__" (defArgs s_Box_init) (defBody s_Box_init) (defScope s_Box_init) .none kV_i_B dc_i_B pm_i_B an_i_B cd_i_B ct_i_B), sl_i_B⟩)
    (c_i_B : PySem.W.codeIn K cd_i_B "Box.__init__" = true)
    (k_i_B : PySem.W.keepIn K (.ref f_i_B) = true)
    (p1_p_rates : PySem.W.findIn K (.ref CP) "rates" = some (some (.ref g_p_rates)))
    (p2_p_rates : PySem.W.specialIn K (.ref g_p_rates) "__get__" = some (some (.builtin "property.__get__")))
    (p3_p_rates : PySem.W.takesIn K (.ref g_p_rates) = some true)
    (p4_p_rates : PySem.W.recIn K g_p_rates "property" = some (.ref f_p_rates :: r_p_rates))
    (l_p_rates : K.lookup f_p_rates = some ⟨oc_p_rates, od_p_rates, .func (PySem.W.fnOf "rates" "Plan.rates" (defArgs s_Plan_rates) (defBody s_Plan_rates) (defScope s_Plan_rates) .none kV_p_rates dc_p_rates pm_p_rates an_p_rates cd_p_rates ct_p_rates), sl_p_rates⟩)
    (c_p_rates : PySem.W.codeIn K cd_p_rates "Plan.rates" = true)
    (k_p_rates : PySem.W.keepIn K (.ref f_p_rates) = true)
    (p1_p_above : PySem.W.findIn K (.ref CP) "above" = some (some (.ref g_p_above)))
    (p2_p_above : PySem.W.specialIn K (.ref g_p_above) "__get__" = some (some (.builtin "property.__get__")))
    (p3_p_above : PySem.W.takesIn K (.ref g_p_above) = some true)
    (p4_p_above : PySem.W.recIn K g_p_above "property" = some (.ref f_p_above :: r_p_above))
    (l_p_above : K.lookup f_p_above = some ⟨oc_p_above, od_p_above, .func (PySem.W.fnOf "above" "Plan.above" (defArgs s_Plan_above) (defBody s_Plan_above) (defScope s_Plan_above) .none kV_p_above dc_p_above pm_p_above an_p_above cd_p_above ct_p_above), sl_p_above⟩)
    (c_p_above : PySem.W.codeIn K cd_p_above "Plan.above" = true)
    (k_p_above : PySem.W.keepIn K (.ref f_p_above) = true)
    (p1_p_points : PySem.W.findIn K (.ref CP) "points" = some (some (.ref g_p_points)))
    (p2_p_points : PySem.W.specialIn K (.ref g_p_points) "__get__" = some (some (.builtin "property.__get__")))
    (p3_p_points : PySem.W.takesIn K (.ref g_p_points) = some true)
    (p4_p_points : PySem.W.recIn K g_p_points "property" = some (.ref f_p_points :: r_p_points))
    (l_p_points : K.lookup f_p_points = some ⟨oc_p_points, od_p_points, .func (PySem.W.fnOf "points" "Plan.points" (defArgs s_Plan_points) (defBody s_Plan_points) (defScope s_Plan_points) .none kV_p_points dc_p_points pm_p_points an_p_points cd_p_points ct_p_points), sl_p_points⟩)
    (c_p_points : PySem.W.codeIn K cd_p_points "Plan.points" = true)
    (k_p_points : PySem.W.keepIn K (.ref f_p_points) = true)
    (p1_p_rule : PySem.W.findIn K (.ref CP) "rule" = some (some (.ref g_p_rule)))
    (p2_p_rule : PySem.W.specialIn K (.ref g_p_rule) "__get__" = some (some (.builtin "property.__get__")))
    (p3_p_rule : PySem.W.takesIn K (.ref g_p_rule) = some true)
    (p4_p_rule : PySem.W.recIn K g_p_rule "property" = some (.ref f_p_rule :: r_p_rule))
    (l_p_rule : K.lookup f_p_rule = some ⟨oc_p_rule, od_p_rule, .func (PySem.W.fnOf "rule" "Plan.rule" (defArgs s_Plan_rule) (defBody s_Plan_rule) (defScope s_Plan_rule) .none kV_p_rule dc_p_rule pm_p_rule an_p_rule cd_p_rule ct_p_rule), sl_p_rule⟩)
    (c_p_rule : PySem.W.codeIn K cd_p_rule "Plan.rule" = true)
    (k_p_rule : PySem.W.keepIn K (.ref f_p_rule) = true)
    (p1_p_names : PySem.W.findIn K (.ref CP) "names" = some (some (.ref g_p_names)))
    (p2_p_names : PySem.W.specialIn K (.ref g_p_names) "__get__" = some (some (.builtin "property.__get__")))
    (p3_p_names : PySem.W.takesIn K (.ref g_p_names) = some true)
    (p4_p_names : PySem.W.recIn K g_p_names "property" = some (.ref f_p_names :: r_p_names))
    (l_p_names : K.lookup f_p_names = some ⟨oc_p_names, od_p_names, .func (PySem.W.fnOf "names" "Plan.names" (defArgs s_Plan_names) (defBody s_Plan_names) (defScope s_Plan_names) .none kV_p_names dc_p_names pm_p_names an_p_names cd_p_names ct_p_names), sl_p_names⟩)
    (c_p_names : PySem.W.codeIn K cd_p_names "Plan.names" = true)
    (k_p_names : PySem.W.keepIn K (.ref f_p_names) = true)
    (m1_l_P : PySem.W.findIn K (.ref CP) "__len__" = some (some (.ref f_l_P)))
    (m2_l_P : PySem.W.isFn K (.ref f_l_P) = true)
    (l_l_P : K.lookup f_l_P = some ⟨oc_l_P, od_l_P, .func (PySem.W.fnOf "__len__" "Plan.__len__" (defArgs s_Plan_len) (defBody s_Plan_len) (defScope s_Plan_len) .none kV_l_P dc_l_P pm_l_P an_l_P cd_l_P ct_l_P), sl_l_P⟩)
    (c_l_P : PySem.W.codeIn K cd_l_P "Plan.__len__" = true)
    (k_l_P : PySem.W.keepIn K (.ref f_l_P) = true)
    (m1_m_go_on : PySem.W.findIn K (.ref CS) "go_on" = some (some (.ref f_m_go_on)))
    (m2_m_go_on : PySem.W.isFn K (.ref f_m_go_on) = true)
    (l_m_go_on : K.lookup f_m_go_on = some ⟨oc_m_go_on, od_m_go_on, .func (PySem.W.fnOf "go_on" "State.go_on" (defArgs s_State_go_on) (defBody s_State_go_on) (defScope s_State_go_on) .none kV_m_go_on dc_m_go_on pm_m_go_on an_m_go_on cd_m_go_on ct_m_go_on), sl_m_go_on⟩)
    (c_m_go_on : PySem.W.codeIn K cd_m_go_on "State.go_on" = true)
    (k_m_go_on : PySem.W.keepIn K (.ref f_m_go_on) = true)
    (p1_p_state_now : PySem.W.findIn K (.ref CB) "state_now" = some (some (.ref g_p_state_now)))
    (p2_p_state_now : PySem.W.specialIn K (.ref g_p_state_now) "__get__" = some (some (.builtin "property.__get__")))
    (p3_p_state_now : PySem.W.takesIn K (.ref g_p_state_now) = some true)
    (p4_p_state_now : PySem.W.recIn K g_p_state_now "property" = some (.ref f_p_state_now :: r_p_state_now))
    (l_p_state_now : K.lookup f_p_state_now = some ⟨oc_p_state_now, od_p_state_now, .func (PySem.W.fnOf "state_now" "Box.state_now" (defArgs s_Box_state_now) (defBody s_Box_state_now) (defScope s_Box_state_now) .none kV_p_state_now dc_p_state_now pm_p_state_now an_p_state_now cd_p_state_now ct_p_state_now), sl_p_state_now⟩)
    (c_p_state_now : PySem.W.codeIn K cd_p_state_now "Box.state_now" = true)
    (k_p_state_now : PySem.W.keepIn K (.ref f_p_state_now) = true)
    (p1_p_loads_now : PySem.W.findIn K (.ref CB) "loads_now" = some (some (.ref g_p_loads_now)))
    (p2_p_loads_now : PySem.W.specialIn K (.ref g_p_loads_now) "__get__" = some (some (.builtin "property.__get__")))
    (p3_p_loads_now : PySem.W.takesIn K (.ref g_p_loads_now) = some true)
    (p4_p_loads_now : PySem.W.recIn K g_p_loads_now "property" = some (.ref f_p_loads_now :: r_p_loads_now))
    (l_p_loads_now : K.lookup f_p_loads_now = some ⟨oc_p_loads_now, od_p_loads_now, .func (PySem.W.fnOf "loads_now" "Box.loads_now" (defArgs s_Box_loads_now) (defBody s_Box_loads_now) (defScope s_Box_loads_now) .none kV_p_loads_now dc_p_loads_now pm_p_loads_now an_p_loads_now cd_p_loads_now ct_p_loads_now), sl_p_loads_now⟩)
    (c_p_loads_now : PySem.W.codeIn K cd_p_loads_now "Box.loads_now" = true)
    (k_p_loads_now : PySem.W.keepIn K (.ref f_p_loads_now) = true)
    (p1_p_trip_count : PySem.W.findIn K (.ref CB) "trip_count" = some (some (.ref g_p_trip_count)))
    (p2_p_trip_count : PySem.W.specialIn K (.ref g_p_trip_count) "__get__" = some (some (.builtin "property.__get__")))
    (p3_p_trip_count : PySem.W.takesIn K (.ref g_p_trip_count) = some true)
    (p4_p_trip_count : PySem.W.recIn K g_p_trip_count "property" = some (.ref f_p_trip_count :: r_p_trip_count))
    (l_p_trip_count : K.lookup f_p_trip_count = some ⟨oc_p_trip_count, od_p_trip_count, .func (PySem.W.fnOf "trip_count" "Box.trip_count" (defArgs s_Box_trip_count) (defBody s_Box_trip_count) (defScope s_Box_trip_count) .none kV_p_trip_count dc_p_trip_count pm_p_trip_count an_p_trip_count cd_p_trip_count ct_p_trip_count), sl_p_trip_count⟩)
    (c_p_trip_count : PySem.W.codeIn K cd_p_trip_count "Box.trip_count" = true)
    (k_p_trip_count : PySem.W.keepIn K (.ref f_p_trip_count) = true)
    (m1_m_settle : PySem.W.findIn K (.ref CB) "settle" = some (some (.ref f_m_settle)))
    (m2_m_settle : PySem.W.isFn K (.ref f_m_settle) = true)
    (l_m_settle : K.lookup f_m_settle = some ⟨oc_m_settle, od_m_settle, .func (PySem.W.fnOf "settle" "Box.settle" (defArgs s_Box_settle) (defBody s_Box_settle) (defScope s_Box_settle) .none kV_m_settle dc_m_settle pm_m_settle an_m_settle cd_m_settle ct_m_settle), sl_m_settle⟩)
    (c_m_settle : PySem.W.codeIn K cd_m_settle "Box.settle" = true)
    (k_m_settle : PySem.W.keepIn K (.ref f_m_settle) = true)
    (m1_m_plug : PySem.W.findIn K (.ref CB) "plug" = some (some (.ref f_m_plug)))
    (m2_m_plug : PySem.W.isFn K (.ref f_m_plug) = true)
    (l_m_plug : K.lookup f_m_plug = some ⟨oc_m_plug, od_m_plug, .func (PySem.W.fnOf "plug" "Box.plug" (defArgs s_Box_plug) (defBody s_Box_plug) (defScope s_Box_plug) .none kV_m_plug dc_m_plug pm_m_plug an_m_plug cd_m_plug ct_m_plug), sl_m_plug⟩)
    (c_m_plug : PySem.W.codeIn K cd_m_plug "Box.plug" = true)
    (k_m_plug : PySem.W.keepIn K (.ref f_m_plug) = true)
    (m1_m_reset : PySem.W.findIn K (.ref CB) "reset" = some (some (.ref f_m_reset)))
    (m2_m_reset : PySem.W.isFn K (.ref f_m_reset) = true)
    (l_m_reset : K.lookup f_m_reset = some ⟨oc_m_reset, od_m_reset, .func (PySem.W.fnOf "reset" "Box.reset" (defArgs s_Box_reset) (defBody s_Box_reset) (defScope s_Box_reset) .none kV_m_reset dc_m_reset pm_m_reset an_m_reset cd_m_reset ct_m_reset), sl_m_reset⟩)
    (c_m_reset : PySem.W.codeIn K cd_m_reset "Box.reset" = true)
    (k_m_reset : PySem.W.keepIn K (.ref f_m_reset) = true)
    (a_d_is_number : PySem.W.nsIn K mainGlobals "is_number" = some (some (.ref f_d_is_number)))
    (l_d_is_number : K.lookup f_d_is_number = some ⟨oc_d_is_number, od_d_is_number, .func (PySem.W.fnOf "is_number" "is_number" (defArgs s_is_number) (defBody s_is_number) (defScope s_is_number) .none kV_d_is_number dc_d_is_number pm_d_is_number an_d_is_number cd_d_is_number ct_d_is_number), sl_d_is_number⟩)
    (c_d_is_number : PySem.W.codeIn K cd_d_is_number "is_number" = true)
    (k_d_is_number : PySem.W.keepIn K (.ref f_d_is_number) = true)
    (a_d_is_word : PySem.W.nsIn K mainGlobals "is_word" = some (some (.ref f_d_is_word)))
    (l_d_is_word : K.lookup f_d_is_word = some ⟨oc_d_is_word, od_d_is_word, .func (PySem.W.fnOf "is_word" "is_word" (defArgs s_is_word) (defBody s_is_word) (defScope s_is_word) .none kV_d_is_word dc_d_is_word pm_d_is_word an_d_is_word cd_d_is_word ct_d_is_word), sl_d_is_word⟩)
    (c_d_is_word : PySem.W.codeIn K cd_d_is_word "is_word" = true)
    (k_d_is_word : PySem.W.keepIn K (.ref f_d_is_word) = true)
    (a_d_are_rates : PySem.W.nsIn K mainGlobals "are_rates" = some (some (.ref f_d_are_rates)))
    (l_d_are_rates : K.lookup f_d_are_rates = some ⟨oc_d_are_rates, od_d_are_rates, .func (PySem.W.fnOf "are_rates" "are_rates" (defArgs s_are_rates) (defBody s_are_rates) (defScope s_are_rates) .none kV_d_are_rates dc_d_are_rates pm_d_are_rates an_d_are_rates cd_d_are_rates ct_d_are_rates), sl_d_are_rates⟩)
    (c_d_are_rates : PySem.W.codeIn K cd_d_are_rates "are_rates" = true)
    (k_d_are_rates : PySem.W.keepIn K (.ref f_d_are_rates) = true)
    (a_d_are_above : PySem.W.nsIn K mainGlobals "are_above" = some (some (.ref f_d_are_above)))
    (l_d_are_above : K.lookup f_d_are_above = some ⟨oc_d_are_above, od_d_are_above, .func (PySem.W.fnOf "are_above" "are_above" (defArgs s_are_above) (defBody s_are_above) (defScope s_are_above) .none kV_d_are_above dc_d_are_above pm_d_are_above an_d_are_above cd_d_are_above ct_d_are_above), sl_d_are_above⟩)
    (c_d_are_above : PySem.W.codeIn K cd_d_are_above "are_above" = true)
    (k_d_are_above : PySem.W.keepIn K (.ref f_d_are_above) = true)
    (a_d_is_point : PySem.W.nsIn K mainGlobals "is_point" = some (some (.ref f_d_is_point)))
    (l_d_is_point : K.lookup f_d_is_point = some ⟨oc_d_is_point, od_d_is_point, .func (PySem.W.fnOf "is_point" "is_point" (defArgs s_is_point) (defBody s_is_point) (defScope s_is_point) .none kV_d_is_point dc_d_is_point pm_d_is_point an_d_is_point cd_d_is_point ct_d_is_point), sl_d_is_point⟩)
    (c_d_is_point : PySem.W.codeIn K cd_d_is_point "is_point" = true)
    (k_d_is_point : PySem.W.keepIn K (.ref f_d_is_point) = true)
    (a_d_are_points : PySem.W.nsIn K mainGlobals "are_points" = some (some (.ref f_d_are_points)))
    (l_d_are_points : K.lookup f_d_are_points = some ⟨oc_d_are_points, od_d_are_points, .func (PySem.W.fnOf "are_points" "are_points" (defArgs s_are_points) (defBody s_are_points) (defScope s_are_points) .none kV_d_are_points dc_d_are_points pm_d_are_points an_d_are_points cd_d_are_points ct_d_are_points), sl_d_are_points⟩)
    (c_d_are_points : PySem.W.codeIn K cd_d_are_points "are_points" = true)
    (k_d_are_points : PySem.W.keepIn K (.ref f_d_are_points) = true)
    (a_d_does_follow : PySem.W.nsIn K mainGlobals "does_follow" = some (some (.ref f_d_does_follow)))
    (l_d_does_follow : K.lookup f_d_does_follow = some ⟨oc_d_does_follow, od_d_does_follow, .func (PySem.W.fnOf "does_follow" "does_follow" (defArgs s_does_follow) (defBody s_does_follow) (defScope s_does_follow) .none kV_d_does_follow dc_d_does_follow pm_d_does_follow an_d_does_follow cd_d_does_follow ct_d_does_follow), sl_d_does_follow⟩)
    (c_d_does_follow : PySem.W.codeIn K cd_d_does_follow "does_follow" = true)
    (k_d_does_follow : PySem.W.keepIn K (.ref f_d_does_follow) = true)
    (a_d_is_wiring : PySem.W.nsIn K mainGlobals "is_wiring" = some (some (.ref f_d_is_wiring)))
    (l_d_is_wiring : K.lookup f_d_is_wiring = some ⟨oc_d_is_wiring, od_d_is_wiring, .func (PySem.W.fnOf "is_wiring" "is_wiring" (defArgs s_is_wiring) (defBody s_is_wiring) (defScope s_is_wiring) .none kV_d_is_wiring dc_d_is_wiring pm_d_is_wiring an_d_is_wiring cd_d_is_wiring ct_d_is_wiring), sl_d_is_wiring⟩)
    (c_d_is_wiring : PySem.W.codeIn K cd_d_is_wiring "is_wiring" = true)
    (k_d_is_wiring : PySem.W.keepIn K (.ref f_d_is_wiring) = true)
    (a_d_check_wiring : PySem.W.nsIn K mainGlobals "check_wiring" = some (some (.ref f_d_check_wiring)))
    (l_d_check_wiring : K.lookup f_d_check_wiring = some ⟨oc_d_check_wiring, od_d_check_wiring, .func (PySem.W.fnOf "check_wiring" "check_wiring" (defArgs s_check_wiring) (defBody s_check_wiring) (defScope s_check_wiring) .none kV_d_check_wiring dc_d_check_wiring pm_d_check_wiring an_d_check_wiring cd_d_check_wiring ct_d_check_wiring), sl_d_check_wiring⟩)
    (c_d_check_wiring : PySem.W.codeIn K cd_d_check_wiring "check_wiring" = true)
    (k_d_check_wiring : PySem.W.keepIn K (.ref f_d_check_wiring) = true)
    (a_d_is_state : PySem.W.nsIn K mainGlobals "is_state" = some (some (.ref f_d_is_state)))
    (l_d_is_state : K.lookup f_d_is_state = some ⟨oc_d_is_state, od_d_is_state, .func (PySem.W.fnOf "is_state" "is_state" (defArgs s_is_state) (defBody s_is_state) (defScope s_is_state) .none kV_d_is_state dc_d_is_state pm_d_is_state an_d_is_state cd_d_is_state ct_d_is_state), sl_d_is_state⟩)
    (c_d_is_state : PySem.W.codeIn K cd_d_is_state "is_state" = true)
    (k_d_is_state : PySem.W.keepIn K (.ref f_d_is_state) = true)
    (a_d_check_state : PySem.W.nsIn K mainGlobals "check_state" = some (some (.ref f_d_check_state)))
    (l_d_check_state : K.lookup f_d_check_state = some ⟨oc_d_check_state, od_d_check_state, .func (PySem.W.fnOf "check_state" "check_state" (defArgs s_check_state) (defBody s_check_state) (defScope s_check_state) .none kV_d_check_state dc_d_check_state pm_d_check_state an_d_check_state cd_d_check_state ct_d_check_state), sl_d_check_state⟩)
    (c_d_check_state : PySem.W.codeIn K cd_d_check_state "check_state" = true)
    (k_d_check_state : PySem.W.keepIn K (.ref f_d_check_state) = true)
    (a_d_check_name : PySem.W.nsIn K mainGlobals "check_name" = some (some (.ref f_d_check_name)))
    (l_d_check_name : K.lookup f_d_check_name = some ⟨oc_d_check_name, od_d_check_name, .func (PySem.W.fnOf "check_name" "check_name" (defArgs s_check_name) (defBody s_check_name) (defScope s_check_name) .none kV_d_check_name dc_d_check_name pm_d_check_name an_d_check_name cd_d_check_name ct_d_check_name), sl_d_check_name⟩)
    (c_d_check_name : PySem.W.codeIn K cd_d_check_name "check_name" = true)
    (k_d_check_name : PySem.W.keepIn K (.ref f_d_check_name) = true)
    (a_d_all_on : PySem.W.nsIn K mainGlobals "all_on" = some (some (.ref f_d_all_on)))
    (l_d_all_on : K.lookup f_d_all_on = some ⟨oc_d_all_on, od_d_all_on, .func (PySem.W.fnOf "all_on" "all_on" (defArgs s_all_on) (defBody s_all_on) (defScope s_all_on) .none kV_d_all_on dc_d_all_on pm_d_all_on an_d_all_on cd_d_all_on ct_d_all_on), sl_d_all_on⟩)
    (c_d_all_on : PySem.W.codeIn K cd_d_all_on "all_on" = true)
    (k_d_all_on : PySem.W.keepIn K (.ref f_d_all_on) = true)
    (a_d_line_up : PySem.W.nsIn K mainGlobals "line_up" = some (some (.ref f_d_line_up)))
    (l_d_line_up : K.lookup f_d_line_up = some ⟨oc_d_line_up, od_d_line_up, .func (PySem.W.fnOf "line_up" "line_up" (defArgs s_line_up) (defBody s_line_up) (defScope s_line_up) .none kV_d_line_up dc_d_line_up pm_d_line_up an_d_line_up cd_d_line_up ct_d_line_up), sl_d_line_up⟩)
    (c_d_line_up : PySem.W.codeIn K cd_d_line_up "line_up" = true)
    (k_d_line_up : PySem.W.keepIn K (.ref f_d_line_up) = true)
    (a_d_has_power : PySem.W.nsIn K mainGlobals "has_power" = some (some (.ref f_d_has_power)))
    (l_d_has_power : K.lookup f_d_has_power = some ⟨oc_d_has_power, od_d_has_power, .func (PySem.W.fnOf "has_power" "has_power" (defArgs s_has_power) (defBody s_has_power) (defScope s_has_power) .none kV_d_has_power dc_d_has_power pm_d_has_power an_d_has_power cd_d_has_power ct_d_has_power), sl_d_has_power⟩)
    (c_d_has_power : PySem.W.codeIn K cd_d_has_power "has_power" = true)
    (k_d_has_power : PySem.W.keepIn K (.ref f_d_has_power) = true)
    (a_d_live_in : PySem.W.nsIn K mainGlobals "live_in" = some (some (.ref f_d_live_in)))
    (l_d_live_in : K.lookup f_d_live_in = some ⟨oc_d_live_in, od_d_live_in, .func (PySem.W.fnOf "live_in" "live_in" (defArgs s_live_in) (defBody s_live_in) (defScope s_live_in) .none kV_d_live_in dc_d_live_in pm_d_live_in an_d_live_in cd_d_live_in ct_d_live_in), sl_d_live_in⟩)
    (c_d_live_in : PySem.W.codeIn K cd_d_live_in "live_in" = true)
    (k_d_live_in : PySem.W.keepIn K (.ref f_d_live_in) = true)
    (a_d_live : PySem.W.nsIn K mainGlobals "live" = some (some (.ref f_d_live)))
    (l_d_live : K.lookup f_d_live = some ⟨oc_d_live, od_d_live, .func (PySem.W.fnOf "live" "live" (defArgs s_live) (defBody s_live) (defScope s_live) .none kV_d_live dc_d_live pm_d_live an_d_live cd_d_live ct_d_live), sl_d_live⟩)
    (c_d_live : PySem.W.codeIn K cd_d_live "live" = true)
    (k_d_live : PySem.W.keepIn K (.ref f_d_live) = true)
    (a_d_wrong_load : PySem.W.nsIn K mainGlobals "wrong_load" = some (some (.ref f_d_wrong_load)))
    (l_d_wrong_load : K.lookup f_d_wrong_load = some ⟨oc_d_wrong_load, od_d_wrong_load, .func (PySem.W.fnOf "wrong_load" "wrong_load" (defArgs s_wrong_load) (defBody s_wrong_load) (defScope s_wrong_load) .none kV_d_wrong_load dc_d_wrong_load pm_d_wrong_load an_d_wrong_load cd_d_wrong_load ct_d_wrong_load), sl_d_wrong_load⟩)
    (c_d_wrong_load : PySem.W.codeIn K cd_d_wrong_load "wrong_load" = true)
    (k_d_wrong_load : PySem.W.keepIn K (.ref f_d_wrong_load) = true)
    (a_d_check_loads : PySem.W.nsIn K mainGlobals "check_loads" = some (some (.ref f_d_check_loads)))
    (l_d_check_loads : K.lookup f_d_check_loads = some ⟨oc_d_check_loads, od_d_check_loads, .func (PySem.W.fnOf "check_loads" "check_loads" (defArgs s_check_loads) (defBody s_check_loads) (defScope s_check_loads) .none kV_d_check_loads dc_d_check_loads pm_d_check_loads an_d_check_loads cd_d_check_loads ct_d_check_loads), sl_d_check_loads⟩)
    (c_d_check_loads : PySem.W.codeIn K cd_d_check_loads "check_loads" = true)
    (k_d_check_loads : PySem.W.keepIn K (.ref f_d_check_loads) = true)
    (a_d_currents_in : PySem.W.nsIn K mainGlobals "currents_in" = some (some (.ref f_d_currents_in)))
    (l_d_currents_in : K.lookup f_d_currents_in = some ⟨oc_d_currents_in, od_d_currents_in, .func (PySem.W.fnOf "currents_in" "currents_in" (defArgs s_currents_in) (defBody s_currents_in) (defScope s_currents_in) .none kV_d_currents_in dc_d_currents_in pm_d_currents_in an_d_currents_in cd_d_currents_in ct_d_currents_in), sl_d_currents_in⟩)
    (c_d_currents_in : PySem.W.codeIn K cd_d_currents_in "currents_in" = true)
    (k_d_currents_in : PySem.W.keepIn K (.ref f_d_currents_in) = true)
    (a_d_trips_in : PySem.W.nsIn K mainGlobals "trips_in" = some (some (.ref f_d_trips_in)))
    (l_d_trips_in : K.lookup f_d_trips_in = some ⟨oc_d_trips_in, od_d_trips_in, .func (PySem.W.fnOf "trips_in" "trips_in" (defArgs s_trips_in) (defBody s_trips_in) (defScope s_trips_in) .none kV_d_trips_in dc_d_trips_in pm_d_trips_in an_d_trips_in cd_d_trips_in ct_d_trips_in), sl_d_trips_in⟩)
    (c_d_trips_in : PySem.W.codeIn K cd_d_trips_in "trips_in" = true)
    (k_d_trips_in : PySem.W.keepIn K (.ref f_d_trips_in) = true)
    (a_d_check_all : PySem.W.nsIn K mainGlobals "check_all" = some (some (.ref f_d_check_all)))
    (l_d_check_all : K.lookup f_d_check_all = some ⟨oc_d_check_all, od_d_check_all, .func (PySem.W.fnOf "check_all" "check_all" (defArgs s_check_all) (defBody s_check_all) (defScope s_check_all) .none kV_d_check_all dc_d_check_all pm_d_check_all an_d_check_all cd_d_check_all ct_d_check_all), sl_d_check_all⟩)
    (c_d_check_all : PySem.W.codeIn K cd_d_check_all "check_all" = true)
    (k_d_check_all : PySem.W.keepIn K (.ref f_d_check_all) = true)
    (a_d_trips : PySem.W.nsIn K mainGlobals "trips" = some (some (.ref f_d_trips)))
    (l_d_trips : K.lookup f_d_trips = some ⟨oc_d_trips, od_d_trips, .func (PySem.W.fnOf "trips" "trips" (defArgs s_trips) (defBody s_trips) (defScope s_trips) .none kV_d_trips dc_d_trips pm_d_trips an_d_trips cd_d_trips ct_d_trips), sl_d_trips⟩)
    (c_d_trips : PySem.W.codeIn K cd_d_trips "trips" = true)
    (k_d_trips : PySem.W.keepIn K (.ref f_d_trips) = true)
    (a_d_choices : PySem.W.nsIn K mainGlobals "choices" = some (some (.ref f_d_choices)))
    (l_d_choices : K.lookup f_d_choices = some ⟨oc_d_choices, od_d_choices, .func (PySem.W.fnOf "choices" "choices" (defArgs s_choices) (defBody s_choices) (defScope s_choices) .none kV_d_choices dc_d_choices pm_d_choices an_d_choices cd_d_choices ct_d_choices), sl_d_choices⟩)
    (c_d_choices : PySem.W.codeIn K cd_d_choices "choices" = true)
    (k_d_choices : PySem.W.keepIn K (.ref f_d_choices) = true)
    (a_d_orders_of : PySem.W.nsIn K mainGlobals "orders_of" = some (some (.ref f_d_orders_of)))
    (l_d_orders_of : K.lookup f_d_orders_of = some ⟨oc_d_orders_of, od_d_orders_of, .func (PySem.W.fnOf "orders_of" "orders_of" (defArgs s_orders_of) (defBody s_orders_of) (defScope s_orders_of) .none kV_d_orders_of dc_d_orders_of pm_d_orders_of an_d_orders_of cd_d_orders_of ct_d_orders_of), sl_d_orders_of⟩)
    (c_d_orders_of : PySem.W.codeIn K cd_d_orders_of "orders_of" = true)
    (k_d_orders_of : PySem.W.keepIn K (.ref f_d_orders_of) = true)
    (a_d_plugged_in : PySem.W.nsIn K mainGlobals "plugged_in" = some (some (.ref f_d_plugged_in)))
    (l_d_plugged_in : K.lookup f_d_plugged_in = some ⟨oc_d_plugged_in, od_d_plugged_in, .func (PySem.W.fnOf "plugged_in" "plugged_in" (defArgs s_plugged_in) (defBody s_plugged_in) (defScope s_plugged_in) .none kV_d_plugged_in dc_d_plugged_in pm_d_plugged_in an_d_plugged_in cd_d_plugged_in ct_d_plugged_in), sl_d_plugged_in⟩)
    (c_d_plugged_in : PySem.W.codeIn K cd_d_plugged_in "plugged_in" = true)
    (k_d_plugged_in : PySem.W.keepIn K (.ref f_d_plugged_in) = true)
    (a_d_plugged : PySem.W.nsIn K mainGlobals "plugged" = some (some (.ref f_d_plugged)))
    (l_d_plugged : K.lookup f_d_plugged = some ⟨oc_d_plugged, od_d_plugged, .func (PySem.W.fnOf "plugged" "plugged" (defArgs s_plugged) (defBody s_plugged) (defScope s_plugged) .none kV_d_plugged dc_d_plugged pm_d_plugged an_d_plugged cd_d_plugged ct_d_plugged), sl_d_plugged⟩)
    (c_d_plugged : PySem.W.codeIn K cd_d_plugged "plugged" = true)
    (k_d_plugged : PySem.W.keepIn K (.ref f_d_plugged) = true)
    (a_d_best_plugging : PySem.W.nsIn K mainGlobals "best_plugging" = some (some (.ref f_d_best_plugging)))
    (l_d_best_plugging : K.lookup f_d_best_plugging = some ⟨oc_d_best_plugging, od_d_best_plugging, .func (PySem.W.fnOf "best_plugging" "best_plugging" (defArgs s_best_plugging) (defBody s_best_plugging) (defScope s_best_plugging) .none kV_d_best_plugging dc_d_best_plugging pm_d_best_plugging an_d_best_plugging cd_d_best_plugging ct_d_best_plugging), sl_d_best_plugging⟩)
    (c_d_best_plugging : PySem.W.codeIn K cd_d_best_plugging "best_plugging" = true)
    (k_d_best_plugging : PySem.W.keepIn K (.ref f_d_best_plugging) = true)
    (a_d_switched : PySem.W.nsIn K mainGlobals "switched" = some (some (.ref f_d_switched)))
    (l_d_switched : K.lookup f_d_switched = some ⟨oc_d_switched, od_d_switched, .func (PySem.W.fnOf "switched" "switched" (defArgs s_switched) (defBody s_switched) (defScope s_switched) .none kV_d_switched dc_d_switched pm_d_switched an_d_switched cd_d_switched ct_d_switched), sl_d_switched⟩)
    (c_d_switched : PySem.W.codeIn K cd_d_switched "switched" = true)
    (k_d_switched : PySem.W.keepIn K (.ref f_d_switched) = true)
    (a_d_does_run : PySem.W.nsIn K mainGlobals "does_run" = some (some (.ref f_d_does_run)))
    (l_d_does_run : K.lookup f_d_does_run = some ⟨oc_d_does_run, od_d_does_run, .func (PySem.W.fnOf "does_run" "does_run" (defArgs s_does_run) (defBody s_does_run) (defScope s_does_run) .none kV_d_does_run dc_d_does_run pm_d_does_run an_d_does_run cd_d_does_run ct_d_does_run), sl_d_does_run⟩)
    (c_d_does_run : PySem.W.codeIn K cd_d_does_run "does_run" = true)
    (k_d_does_run : PySem.W.keepIn K (.ref f_d_does_run) = true)
    (a_d_most_at_once : PySem.W.nsIn K mainGlobals "most_at_once" = some (some (.ref f_d_most_at_once)))
    (l_d_most_at_once : K.lookup f_d_most_at_once = some ⟨oc_d_most_at_once, od_d_most_at_once, .func (PySem.W.fnOf "most_at_once" "most_at_once" (defArgs s_most_at_once) (defBody s_most_at_once) (defScope s_most_at_once) .none kV_d_most_at_once dc_d_most_at_once pm_d_most_at_once an_d_most_at_once cd_d_most_at_once ct_d_most_at_once), sl_d_most_at_once⟩)
    (c_d_most_at_once : PySem.W.codeIn K cd_d_most_at_once "most_at_once" = true)
    (k_d_most_at_once : PySem.W.keepIn K (.ref f_d_most_at_once) = true)
    (a_d__law_taken : PySem.W.nsIn K mainGlobals "_law_taken" = some (some (.ref f_d__law_taken)))
    (l_d__law_taken : K.lookup f_d__law_taken = some ⟨oc_d__law_taken, od_d__law_taken, .func (PySem.W.fnOf "_law_taken" "_law_taken" (defArgs s__law_taken) (defBody s__law_taken) (defScope s__law_taken) .none kV_d__law_taken dc_d__law_taken pm_d__law_taken an_d__law_taken cd_d__law_taken ct_d__law_taken), sl_d__law_taken⟩)
    (c_d__law_taken : PySem.W.codeIn K cd_d__law_taken "_law_taken" = true)
    (k_d__law_taken : PySem.W.keepIn K (.ref f_d__law_taken) = true)
    (a_d__law_plan : PySem.W.nsIn K mainGlobals "_law_plan" = some (some (.ref f_d__law_plan)))
    (l_d__law_plan : K.lookup f_d__law_plan = some ⟨oc_d__law_plan, od_d__law_plan, .func (PySem.W.fnOf "_law_plan" "_law_plan" (defArgs s__law_plan) (defBody s__law_plan) (defScope s__law_plan) .none kV_d__law_plan dc_d__law_plan pm_d__law_plan an_d__law_plan cd_d__law_plan ct_d__law_plan), sl_d__law_plan⟩)
    (c_d__law_plan : PySem.W.codeIn K cd_d__law_plan "_law_plan" = true)
    (k_d__law_plan : PySem.W.keepIn K (.ref f_d__law_plan) = true)
    (a_d__law_wirings : PySem.W.nsIn K mainGlobals "_law_wirings" = some (some (.ref f_d__law_wirings)))
    (l_d__law_wirings : K.lookup f_d__law_wirings = some ⟨oc_d__law_wirings, od_d__law_wirings, .func (PySem.W.fnOf "_law_wirings" "_law_wirings" (defArgs s__law_wirings) (defBody s__law_wirings) (defScope s__law_wirings) .none kV_d__law_wirings dc_d__law_wirings pm_d__law_wirings an_d__law_wirings cd_d__law_wirings ct_d__law_wirings), sl_d__law_wirings⟩)
    (c_d__law_wirings : PySem.W.codeIn K cd_d__law_wirings "_law_wirings" = true)
    (k_d__law_wirings : PySem.W.keepIn K (.ref f_d__law_wirings) = true)
    (a_d__law_wiring : PySem.W.nsIn K mainGlobals "_law_wiring" = some (some (.ref f_d__law_wiring)))
    (l_d__law_wiring : K.lookup f_d__law_wiring = some ⟨oc_d__law_wiring, od_d__law_wiring, .func (PySem.W.fnOf "_law_wiring" "_law_wiring" (defArgs s__law_wiring) (defBody s__law_wiring) (defScope s__law_wiring) .none kV_d__law_wiring dc_d__law_wiring pm_d__law_wiring an_d__law_wiring cd_d__law_wiring ct_d__law_wiring), sl_d__law_wiring⟩)
    (c_d__law_wiring : PySem.W.codeIn K cd_d__law_wiring "_law_wiring" = true)
    (k_d__law_wiring : PySem.W.keepIn K (.ref f_d__law_wiring) = true)
    (a_d__law_loads : PySem.W.nsIn K mainGlobals "_law_loads" = some (some (.ref f_d__law_loads)))
    (l_d__law_loads : K.lookup f_d__law_loads = some ⟨oc_d__law_loads, od_d__law_loads, .func (PySem.W.fnOf "_law_loads" "_law_loads" (defArgs s__law_loads) (defBody s__law_loads) (defScope s__law_loads) .none kV_d__law_loads dc_d__law_loads pm_d__law_loads an_d__law_loads cd_d__law_loads ct_d__law_loads), sl_d__law_loads⟩)
    (c_d__law_loads : PySem.W.codeIn K cd_d__law_loads "_law_loads" = true)
    (k_d__law_loads : PySem.W.keepIn K (.ref f_d__law_loads) = true)
    (a_d__law_are_fit : PySem.W.nsIn K mainGlobals "_law_are_fit" = some (some (.ref f_d__law_are_fit)))
    (l_d__law_are_fit : K.lookup f_d__law_are_fit = some ⟨oc_d__law_are_fit, od_d__law_are_fit, .func (PySem.W.fnOf "_law_are_fit" "_law_are_fit" (defArgs s__law_are_fit) (defBody s__law_are_fit) (defScope s__law_are_fit) .none kV_d__law_are_fit dc_d__law_are_fit pm_d__law_are_fit an_d__law_are_fit cd_d__law_are_fit ct_d__law_are_fit), sl_d__law_are_fit⟩)
    (c_d__law_are_fit : PySem.W.codeIn K cd_d__law_are_fit "_law_are_fit" = true)
    (k_d__law_are_fit : PySem.W.keepIn K (.ref f_d__law_are_fit) = true)
    (a_d_law : PySem.W.nsIn K mainGlobals "law" = some (some (.ref f_d_law)))
    (l_d_law : K.lookup f_d_law = some ⟨oc_d_law, od_d_law, .func (PySem.W.fnOf "law" "law" (defArgs s_law) (defBody s_law) (defScope s_law) .none kV_d_law dc_d_law pm_d_law an_d_law cd_d_law ct_d_law), sl_d_law⟩)
    (c_d_law : PySem.W.codeIn K cd_d_law "law" = true)
    (k_d_law : PySem.W.keepIn K (.ref f_d_law) = true) :
    ∃ fd : FuncData, (∀ (s : Shared) (v : Value), BindsTo s fd ⟨[v], []⟩ [("_law_script", v)]) ∧ ∀ base : Heap, K.In base → base.Ns mainGlobals mg → FnOk l.prog w K mg base CX0 18 fa fd ["_law_script"] (spLaw K) := by
  have e := hfa.symm.trans (PySem.W.mg_of X G a_d_law)
  cases e
  have FD : FunD K "__init__" "Plan.__init__" (defArgs s_Plan_init) (defBody s_Plan_init) (defScope s_Plan_init) [.str "free"] [] f_i_P _ := ⟨⟨_, _, _, _, _, _, _, _, _, _, rfl, l_i_P, c_i_P, .inr ⟨List.cons_ne_nil _ _, T_d, _, [.str "free" tk_d], _, rfl, q_d, rfl, .cons ⟨_, rfl⟩ .nil⟩, .inl rfl⟩, k_i_P⟩
  have BD := FD.binds1 (ps := ["self", "rates", "above", "points", "rule"]) 5 1 (List.cons_ne_nil _ _) rfl fun T kV doc pm an cdv ct us its hl hi => match us, its, hl, hi with | [_, _, _, _, _], [_], _, _ => ⟨_, rfl, rfl⟩
  obtain ⟨ds, dv, BD⟩ := BD
  cases dv
  have T : Txt K mg CP CS CB := {
    b_isinstance := PySem.W.mg_none_of X G z_isinstance
    b_int := PySem.W.mg_none_of X G z_int
    b_bool := PySem.W.mg_none_of X G z_bool
    b_str := PySem.W.mg_none_of X G z_str
    b_tuple := PySem.W.mg_none_of X G z_tuple
    b_len := PySem.W.mg_none_of X G z_len
    b_all := PySem.W.mg_none_of X G z_all
    b_enumerate := PySem.W.mg_none_of X G z_enumerate
    b_zip := PySem.W.mg_none_of X G z_zip
    b_list := PySem.W.mg_none_of X G z_list
    b_sorted := PySem.W.mg_none_of X G z_sorted
    b_min := PySem.W.mg_none_of X G z_min
    b_range := PySem.W.mg_none_of X G z_range
    b_set := PySem.W.mg_none_of X G z_set
    g_LETTERS := ⟨_, PySem.W.mg_of X G y_LETTERS, ⟨_, rfl⟩⟩
    g_MAX_LETTERS := ⟨_, PySem.W.mg_of X G y_MAX_LETTERS, ⟨_, rfl⟩⟩
    g_MAX_BREAKERS := ⟨_, PySem.W.mg_of X G y_MAX_BREAKERS, ⟨_, rfl⟩⟩
    g_MAX_RATE := ⟨_, PySem.W.mg_of X G y_MAX_RATE, ⟨_, rfl⟩⟩
    g_MAX_POINTS := ⟨_, PySem.W.mg_of X G y_MAX_POINTS, ⟨_, rfl⟩⟩
    g_MAX_ROOM := ⟨_, PySem.W.mg_of X G y_MAX_ROOM, ⟨_, rfl⟩⟩
    g_LAMP := ⟨_, PySem.W.mg_of X G y_LAMP, ⟨_, rfl⟩⟩
    g_PLUG := ⟨_, PySem.W.mg_of X G y_PLUG, ⟨_, rfl⟩⟩
    g_FREE := ⟨_, PySem.W.mg_of X G y_FREE, ⟨_, rfl⟩⟩
    g_ROOMS := ⟨_, PySem.W.mg_of X G y_ROOMS, ⟨_, rfl⟩⟩
    g_MAX_LOAD := ⟨_, PySem.W.mg_of X G y_MAX_LOAD, ⟨_, rfl⟩⟩
    clP := ⟨clP1, clP2, clP3, clP4⟩
    clS := ⟨clS1, clS2, clS3, clS4⟩
    clB := ⟨clB1, clB2, clB3, clB4⟩
    slP := ⟨p_slP, slP1, slP2, slP3, slP4, slP5, by decide⟩
    slF := ⟨p_slF, slF1, slF2, slF3, slF4, slF5, by decide⟩
    slH := ⟨p_slH, slH1, slH2, slH3, slH4, slH5, by decide⟩
    slQ := ⟨p_slQ, slQ1, slQ2, slQ3, slQ4, slQ5, by decide⟩
    slU := ⟨p_slU, slU1, slU2, slU3, slU4, slU5, by decide⟩
    naP := naP
    naH := naH
    mgP := PySem.W.mg_of X G aCP
    mgS := PySem.W.mg_of X G aCS
    mgB := PySem.W.mg_of X G aCB
    i_P := ⟨f_i_P, _, ⟨i2_i_P, m_i_P, i1_i_P, i3_i_P⟩, FD, BD⟩
    i_S := ⟨f_i_S, _, ⟨i2_i_S, m_i_S, i1_i_S, i3_i_S⟩, (fun_mk l_i_S c_i_S k_i_S), (fun_mk l_i_S c_i_S k_i_S).binds bi_i_S⟩
    i_B := ⟨f_i_B, _, ⟨i2_i_B, m_i_B, i1_i_B, i3_i_B⟩, (fun_mk l_i_B c_i_B k_i_B), (fun_mk l_i_B c_i_B k_i_B).binds bi_i_B⟩
    p_rates := ⟨g_p_rates, f_p_rates, _, ⟨p1_p_rates, p2_p_rates, p3_p_rates, _, p4_p_rates⟩, (fun_mk l_p_rates c_p_rates k_p_rates), (fun_mk l_p_rates c_p_rates k_p_rates).binds bi_p_rates⟩
    p_above := ⟨g_p_above, f_p_above, _, ⟨p1_p_above, p2_p_above, p3_p_above, _, p4_p_above⟩, (fun_mk l_p_above c_p_above k_p_above), (fun_mk l_p_above c_p_above k_p_above).binds bi_p_above⟩
    p_points := ⟨g_p_points, f_p_points, _, ⟨p1_p_points, p2_p_points, p3_p_points, _, p4_p_points⟩, (fun_mk l_p_points c_p_points k_p_points), (fun_mk l_p_points c_p_points k_p_points).binds bi_p_points⟩
    p_rule := ⟨g_p_rule, f_p_rule, _, ⟨p1_p_rule, p2_p_rule, p3_p_rule, _, p4_p_rule⟩, (fun_mk l_p_rule c_p_rule k_p_rule), (fun_mk l_p_rule c_p_rule k_p_rule).binds bi_p_rule⟩
    p_names := ⟨g_p_names, f_p_names, _, ⟨p1_p_names, p2_p_names, p3_p_names, _, p4_p_names⟩, (fun_mk l_p_names c_p_names k_p_names), (fun_mk l_p_names c_p_names k_p_names).binds bi_p_names⟩
    l_P := ⟨f_l_P, _, m1_l_P, m2_l_P, (fun_mk l_l_P c_l_P k_l_P), (fun_mk l_l_P c_l_P k_l_P).binds bi_l_P⟩
    m_go_on := ⟨f_m_go_on, _, ⟨m1_m_go_on, m2_m_go_on, k_m_go_on⟩, (fun_mk l_m_go_on c_m_go_on k_m_go_on), (fun_mk l_m_go_on c_m_go_on k_m_go_on).binds bi_m_go_on⟩
    p_state_now := ⟨g_p_state_now, f_p_state_now, _, ⟨p1_p_state_now, p2_p_state_now, p3_p_state_now, _, p4_p_state_now⟩, (fun_mk l_p_state_now c_p_state_now k_p_state_now), (fun_mk l_p_state_now c_p_state_now k_p_state_now).binds bi_p_state_now⟩
    p_loads_now := ⟨g_p_loads_now, f_p_loads_now, _, ⟨p1_p_loads_now, p2_p_loads_now, p3_p_loads_now, _, p4_p_loads_now⟩, (fun_mk l_p_loads_now c_p_loads_now k_p_loads_now), (fun_mk l_p_loads_now c_p_loads_now k_p_loads_now).binds bi_p_loads_now⟩
    p_trip_count := ⟨g_p_trip_count, f_p_trip_count, _, ⟨p1_p_trip_count, p2_p_trip_count, p3_p_trip_count, _, p4_p_trip_count⟩, (fun_mk l_p_trip_count c_p_trip_count k_p_trip_count), (fun_mk l_p_trip_count c_p_trip_count k_p_trip_count).binds bi_p_trip_count⟩
    m_settle := ⟨f_m_settle, _, ⟨m1_m_settle, m2_m_settle, k_m_settle⟩, (fun_mk l_m_settle c_m_settle k_m_settle), (fun_mk l_m_settle c_m_settle k_m_settle).binds bi_m_settle⟩
    m_plug := ⟨f_m_plug, _, ⟨m1_m_plug, m2_m_plug, k_m_plug⟩, (fun_mk l_m_plug c_m_plug k_m_plug), (fun_mk l_m_plug c_m_plug k_m_plug).binds bi_m_plug⟩
    m_reset := ⟨f_m_reset, _, ⟨m1_m_reset, m2_m_reset, k_m_reset⟩, (fun_mk l_m_reset c_m_reset k_m_reset), (fun_mk l_m_reset c_m_reset k_m_reset).binds bi_m_reset⟩
    d_is_number := ⟨_, _, (fun_mk l_d_is_number c_d_is_number k_d_is_number), PySem.W.mg_of X G a_d_is_number, (fun_mk l_d_is_number c_d_is_number k_d_is_number).binds bi_d_is_number⟩
    d_is_word := ⟨_, _, (fun_mk l_d_is_word c_d_is_word k_d_is_word), PySem.W.mg_of X G a_d_is_word, (fun_mk l_d_is_word c_d_is_word k_d_is_word).binds bi_d_is_word⟩
    d_are_rates := ⟨_, _, (fun_mk l_d_are_rates c_d_are_rates k_d_are_rates), PySem.W.mg_of X G a_d_are_rates, (fun_mk l_d_are_rates c_d_are_rates k_d_are_rates).binds bi_d_are_rates⟩
    d_are_above := ⟨_, _, (fun_mk l_d_are_above c_d_are_above k_d_are_above), PySem.W.mg_of X G a_d_are_above, (fun_mk l_d_are_above c_d_are_above k_d_are_above).binds bi_d_are_above⟩
    d_is_point := ⟨_, _, (fun_mk l_d_is_point c_d_is_point k_d_is_point), PySem.W.mg_of X G a_d_is_point, (fun_mk l_d_is_point c_d_is_point k_d_is_point).binds bi_d_is_point⟩
    d_are_points := ⟨_, _, (fun_mk l_d_are_points c_d_are_points k_d_are_points), PySem.W.mg_of X G a_d_are_points, (fun_mk l_d_are_points c_d_are_points k_d_are_points).binds bi_d_are_points⟩
    d_does_follow := ⟨_, _, (fun_mk l_d_does_follow c_d_does_follow k_d_does_follow), PySem.W.mg_of X G a_d_does_follow, (fun_mk l_d_does_follow c_d_does_follow k_d_does_follow).binds bi_d_does_follow⟩
    d_is_wiring := ⟨_, _, (fun_mk l_d_is_wiring c_d_is_wiring k_d_is_wiring), PySem.W.mg_of X G a_d_is_wiring, (fun_mk l_d_is_wiring c_d_is_wiring k_d_is_wiring).binds bi_d_is_wiring⟩
    d_check_wiring := ⟨_, _, (fun_mk l_d_check_wiring c_d_check_wiring k_d_check_wiring), PySem.W.mg_of X G a_d_check_wiring, (fun_mk l_d_check_wiring c_d_check_wiring k_d_check_wiring).binds bi_d_check_wiring⟩
    d_is_state := ⟨_, _, (fun_mk l_d_is_state c_d_is_state k_d_is_state), PySem.W.mg_of X G a_d_is_state, (fun_mk l_d_is_state c_d_is_state k_d_is_state).binds bi_d_is_state⟩
    d_check_state := ⟨_, _, (fun_mk l_d_check_state c_d_check_state k_d_check_state), PySem.W.mg_of X G a_d_check_state, (fun_mk l_d_check_state c_d_check_state k_d_check_state).binds bi_d_check_state⟩
    d_check_name := ⟨_, _, (fun_mk l_d_check_name c_d_check_name k_d_check_name), PySem.W.mg_of X G a_d_check_name, (fun_mk l_d_check_name c_d_check_name k_d_check_name).binds bi_d_check_name⟩
    d_all_on := ⟨_, _, (fun_mk l_d_all_on c_d_all_on k_d_all_on), PySem.W.mg_of X G a_d_all_on, (fun_mk l_d_all_on c_d_all_on k_d_all_on).binds bi_d_all_on⟩
    d_line_up := ⟨_, _, (fun_mk l_d_line_up c_d_line_up k_d_line_up), PySem.W.mg_of X G a_d_line_up, (fun_mk l_d_line_up c_d_line_up k_d_line_up).binds bi_d_line_up⟩
    d_has_power := ⟨_, _, (fun_mk l_d_has_power c_d_has_power k_d_has_power), PySem.W.mg_of X G a_d_has_power, (fun_mk l_d_has_power c_d_has_power k_d_has_power).binds bi_d_has_power⟩
    d_live_in := ⟨_, _, (fun_mk l_d_live_in c_d_live_in k_d_live_in), PySem.W.mg_of X G a_d_live_in, (fun_mk l_d_live_in c_d_live_in k_d_live_in).binds bi_d_live_in⟩
    d_live := ⟨_, _, (fun_mk l_d_live c_d_live k_d_live), PySem.W.mg_of X G a_d_live, (fun_mk l_d_live c_d_live k_d_live).binds bi_d_live⟩
    d_wrong_load := ⟨_, _, (fun_mk l_d_wrong_load c_d_wrong_load k_d_wrong_load), PySem.W.mg_of X G a_d_wrong_load, (fun_mk l_d_wrong_load c_d_wrong_load k_d_wrong_load).binds bi_d_wrong_load⟩
    d_check_loads := ⟨_, _, (fun_mk l_d_check_loads c_d_check_loads k_d_check_loads), PySem.W.mg_of X G a_d_check_loads, (fun_mk l_d_check_loads c_d_check_loads k_d_check_loads).binds bi_d_check_loads⟩
    d_currents_in := ⟨_, _, (fun_mk l_d_currents_in c_d_currents_in k_d_currents_in), PySem.W.mg_of X G a_d_currents_in, (fun_mk l_d_currents_in c_d_currents_in k_d_currents_in).binds bi_d_currents_in⟩
    d_trips_in := ⟨_, _, (fun_mk l_d_trips_in c_d_trips_in k_d_trips_in), PySem.W.mg_of X G a_d_trips_in, (fun_mk l_d_trips_in c_d_trips_in k_d_trips_in).binds bi_d_trips_in⟩
    d_check_all := ⟨_, _, (fun_mk l_d_check_all c_d_check_all k_d_check_all), PySem.W.mg_of X G a_d_check_all, (fun_mk l_d_check_all c_d_check_all k_d_check_all).binds bi_d_check_all⟩
    d_trips := ⟨_, _, (fun_mk l_d_trips c_d_trips k_d_trips), PySem.W.mg_of X G a_d_trips, (fun_mk l_d_trips c_d_trips k_d_trips).binds bi_d_trips⟩
    d_choices := ⟨_, _, (fun_mk l_d_choices c_d_choices k_d_choices), PySem.W.mg_of X G a_d_choices, (fun_mk l_d_choices c_d_choices k_d_choices).binds bi_d_choices⟩
    d_orders_of := ⟨_, _, (fun_mk l_d_orders_of c_d_orders_of k_d_orders_of), PySem.W.mg_of X G a_d_orders_of, (fun_mk l_d_orders_of c_d_orders_of k_d_orders_of).binds bi_d_orders_of⟩
    d_plugged_in := ⟨_, _, (fun_mk l_d_plugged_in c_d_plugged_in k_d_plugged_in), PySem.W.mg_of X G a_d_plugged_in, (fun_mk l_d_plugged_in c_d_plugged_in k_d_plugged_in).binds bi_d_plugged_in⟩
    d_plugged := ⟨_, _, (fun_mk l_d_plugged c_d_plugged k_d_plugged), PySem.W.mg_of X G a_d_plugged, (fun_mk l_d_plugged c_d_plugged k_d_plugged).binds bi_d_plugged⟩
    d_best_plugging := ⟨_, _, (fun_mk l_d_best_plugging c_d_best_plugging k_d_best_plugging), PySem.W.mg_of X G a_d_best_plugging, (fun_mk l_d_best_plugging c_d_best_plugging k_d_best_plugging).binds bi_d_best_plugging⟩
    d_switched := ⟨_, _, (fun_mk l_d_switched c_d_switched k_d_switched), PySem.W.mg_of X G a_d_switched, (fun_mk l_d_switched c_d_switched k_d_switched).binds bi_d_switched⟩
    d_does_run := ⟨_, _, (fun_mk l_d_does_run c_d_does_run k_d_does_run), PySem.W.mg_of X G a_d_does_run, (fun_mk l_d_does_run c_d_does_run k_d_does_run).binds bi_d_does_run⟩
    d_most_at_once := ⟨_, _, (fun_mk l_d_most_at_once c_d_most_at_once k_d_most_at_once), PySem.W.mg_of X G a_d_most_at_once, (fun_mk l_d_most_at_once c_d_most_at_once k_d_most_at_once).binds bi_d_most_at_once⟩
    d__law_taken := ⟨_, _, (fun_mk l_d__law_taken c_d__law_taken k_d__law_taken), PySem.W.mg_of X G a_d__law_taken, (fun_mk l_d__law_taken c_d__law_taken k_d__law_taken).binds bi_d__law_taken⟩
    d__law_plan := ⟨_, _, (fun_mk l_d__law_plan c_d__law_plan k_d__law_plan), PySem.W.mg_of X G a_d__law_plan, (fun_mk l_d__law_plan c_d__law_plan k_d__law_plan).binds bi_d__law_plan⟩
    d__law_wirings := ⟨_, _, (fun_mk l_d__law_wirings c_d__law_wirings k_d__law_wirings), PySem.W.mg_of X G a_d__law_wirings, (fun_mk l_d__law_wirings c_d__law_wirings k_d__law_wirings).binds bi_d__law_wirings⟩
    d__law_wiring := ⟨_, _, (fun_mk l_d__law_wiring c_d__law_wiring k_d__law_wiring), PySem.W.mg_of X G a_d__law_wiring, (fun_mk l_d__law_wiring c_d__law_wiring k_d__law_wiring).binds bi_d__law_wiring⟩
    d__law_loads := ⟨_, _, (fun_mk l_d__law_loads c_d__law_loads k_d__law_loads), PySem.W.mg_of X G a_d__law_loads, (fun_mk l_d__law_loads c_d__law_loads k_d__law_loads).binds bi_d__law_loads⟩
    d__law_are_fit := ⟨_, _, (fun_mk l_d__law_are_fit c_d__law_are_fit k_d__law_are_fit), PySem.W.mg_of X G a_d__law_are_fit, (fun_mk l_d__law_are_fit c_d__law_are_fit k_d__law_are_fit).binds bi_d__law_are_fit⟩
    d_law := ⟨_, _, (fun_mk l_d_law c_d_law k_d_law), PySem.W.mg_of X G a_d_law, (fun_mk l_d_law c_d_law k_d_law).binds bi_d_law⟩
  }
  exact ⟨_, fun s v => .of_eq rfl, fun base _ _ => fn_law T (fun_mk l_d_law c_d_law k_d_law)⟩
end Bf

namespace Bf
open PySem PySem.Spec PyProof.Rows L2 Bx
theorem walk {l : PySem.W.OpenLaw} {q : Program} {loose : List Str} {XP : (Str → Option Value) → Heap → Prop} {YP : World → Heap → Prop} {d : DefRec} {K : Params → PySem.W.Frag} (hn : l.most = some 63) (hdf : d.params.defaults = [])
    (hY : ∀ (w : World) (h : Heap), YP w h → (K w.params).In h)
    (F : ∀ (w : World) (mg : Str → Option Value) (fa : Addr) (h : Heap), (K w.params).In h → h.Ns mainGlobals mg → mg d.name = some (.ref fa) →
      ∃ fd : FuncData, (∀ (s : Shared) (u : Value), BindsTo s fd ⟨[u], []⟩ [("_law_script", u)]) ∧ ∀ base : Heap, (K w.params).In base → base.Ns mainGlobals mg → FnOk l.prog w (K w.params) mg base CX0 18 fa fd ["_law_script"] (spLaw (K w.params))) :
    PySem.W.WalkO q loose XP YP l.row.toRowW d [] (fun f vs => PySem.call f vs) :=
  L2.walk_of (n := 63) (k := 18) (x := "_law_script") (CX := fun _ => CX0) (sp := fun w => spLaw (K w.params)) hn (by decide) hdf ⟨rfl, by decide, by decide⟩ hY F (fun _ _ a ns hl _ hS => ⟨a, ns, rfl, hS, hl, fun _ => rfl⟩) fun _ _ _ _ _ z => z
end Bf
open PySem PySem.W PyProof.Rows in
set_option maxRecDepth 100000 in
set_option maxHeartbeats 0 in
theorem PySem.Challenge.cw_blindfuses_k58_whole_loads_and_boxes_holds : PySem.Challenge.rw_blindfuses_k58_whole_loads_and_boxes.Holds := by
  w_on; o_law; k_head; (case hw => w_witness2)
  k_fill
  refine Bf.walk (l := PySem.Challenge.rw_blindfuses_k58_whole_loads_and_boxes) rfl rfl (fun w h Y => PySem.W.kIn_of Y) ?F
  case F =>
    intro w mg fa h KX G hmg
    refine' Bf.all_mk KX G hmg ?aCP ?aCS ?aCB ?z_isinstance ?z_int ?z_bool ?z_str ?z_tuple ?z_len ?z_all ?z_enumerate ?z_zip ?z_list ?z_sorted ?z_min ?z_range ?z_set ?y_LETTERS ?y_MAX_LETTERS ?y_MAX_BREAKERS ?y_MAX_RATE ?y_MAX_POINTS ?y_MAX_ROOM ?y_LAMP ?y_PLUG ?y_FREE ?y_ROOMS ?y_MAX_LOAD ?clP1 ?clP2 ?clP3 ?clP4 ?clS1 ?clS2 ?clS3 ?clS4 ?clB1 ?clB2 ?clB3 ?clB4 ?slP1 ?slP2 ?slP3 ?slP4 ?slP5 ?slF1 ?slF2 ?slF3 ?slF4 ?slF5 ?slH1 ?slH2 ?slH3 ?slH4 ?slH5 ?slQ1 ?slQ2 ?slQ3 ?slQ4 ?slQ5 ?slU1 ?slU2 ?slU3 ?slU4 ?slU5 ?naP ?naH ?m_i_P ?i1_i_P ?i2_i_P ?i3_i_P ?l_i_P ?c_i_P ?k_i_P ?q_d ?m_i_S ?i1_i_S ?i2_i_S ?i3_i_S ?l_i_S ?c_i_S ?k_i_S ?m_i_B ?i1_i_B ?i2_i_B ?i3_i_B ?l_i_B ?c_i_B ?k_i_B ?p1_p_rates ?p2_p_rates ?p3_p_rates ?p4_p_rates ?l_p_rates ?c_p_rates ?k_p_rates ?p1_p_above ?p2_p_above ?p3_p_above ?p4_p_above ?l_p_above ?c_p_above ?k_p_above ?p1_p_points ?p2_p_points ?p3_p_points ?p4_p_points ?l_p_points ?c_p_points ?k_p_points ?p1_p_rule ?p2_p_rule ?p3_p_rule ?p4_p_rule ?l_p_rule ?c_p_rule ?k_p_rule ?p1_p_names ?p2_p_names ?p3_p_names ?p4_p_names ?l_p_names ?c_p_names ?k_p_names ?m1_l_P ?m2_l_P ?l_l_P ?c_l_P ?k_l_P ?m1_m_go_on ?m2_m_go_on ?l_m_go_on ?c_m_go_on ?k_m_go_on ?p1_p_state_now ?p2_p_state_now ?p3_p_state_now ?p4_p_state_now ?l_p_state_now ?c_p_state_now ?k_p_state_now ?p1_p_loads_now ?p2_p_loads_now ?p3_p_loads_now ?p4_p_loads_now ?l_p_loads_now ?c_p_loads_now ?k_p_loads_now ?p1_p_trip_count ?p2_p_trip_count ?p3_p_trip_count ?p4_p_trip_count ?l_p_trip_count ?c_p_trip_count ?k_p_trip_count ?m1_m_settle ?m2_m_settle ?l_m_settle ?c_m_settle ?k_m_settle ?m1_m_plug ?m2_m_plug ?l_m_plug ?c_m_plug ?k_m_plug ?m1_m_reset ?m2_m_reset ?l_m_reset ?c_m_reset ?k_m_reset ?a_d_is_number ?l_d_is_number ?c_d_is_number ?k_d_is_number ?a_d_is_word ?l_d_is_word ?c_d_is_word ?k_d_is_word ?a_d_are_rates ?l_d_are_rates ?c_d_are_rates ?k_d_are_rates ?a_d_are_above ?l_d_are_above ?c_d_are_above ?k_d_are_above ?a_d_is_point ?l_d_is_point ?c_d_is_point ?k_d_is_point ?a_d_are_points ?l_d_are_points ?c_d_are_points ?k_d_are_points ?a_d_does_follow ?l_d_does_follow ?c_d_does_follow ?k_d_does_follow ?a_d_is_wiring ?l_d_is_wiring ?c_d_is_wiring ?k_d_is_wiring ?a_d_check_wiring ?l_d_check_wiring ?c_d_check_wiring ?k_d_check_wiring ?a_d_is_state ?l_d_is_state ?c_d_is_state ?k_d_is_state ?a_d_check_state ?l_d_check_state ?c_d_check_state ?k_d_check_state ?a_d_check_name ?l_d_check_name ?c_d_check_name ?k_d_check_name ?a_d_all_on ?l_d_all_on ?c_d_all_on ?k_d_all_on ?a_d_line_up ?l_d_line_up ?c_d_line_up ?k_d_line_up ?a_d_has_power ?l_d_has_power ?c_d_has_power ?k_d_has_power ?a_d_live_in ?l_d_live_in ?c_d_live_in ?k_d_live_in ?a_d_live ?l_d_live ?c_d_live ?k_d_live ?a_d_wrong_load ?l_d_wrong_load ?c_d_wrong_load ?k_d_wrong_load ?a_d_check_loads ?l_d_check_loads ?c_d_check_loads ?k_d_check_loads ?a_d_currents_in ?l_d_currents_in ?c_d_currents_in ?k_d_currents_in ?a_d_trips_in ?l_d_trips_in ?c_d_trips_in ?k_d_trips_in ?a_d_check_all ?l_d_check_all ?c_d_check_all ?k_d_check_all ?a_d_trips ?l_d_trips ?c_d_trips ?k_d_trips ?a_d_choices ?l_d_choices ?c_d_choices ?k_d_choices ?a_d_orders_of ?l_d_orders_of ?c_d_orders_of ?k_d_orders_of ?a_d_plugged_in ?l_d_plugged_in ?c_d_plugged_in ?k_d_plugged_in ?a_d_plugged ?l_d_plugged ?c_d_plugged ?k_d_plugged ?a_d_best_plugging ?l_d_best_plugging ?c_d_best_plugging ?k_d_best_plugging ?a_d_switched ?l_d_switched ?c_d_switched ?k_d_switched ?a_d_does_run ?l_d_does_run ?c_d_does_run ?k_d_does_run ?a_d_most_at_once ?l_d_most_at_once ?c_d_most_at_once ?k_d_most_at_once ?a_d__law_taken ?l_d__law_taken ?c_d__law_taken ?k_d__law_taken ?a_d__law_plan ?l_d__law_plan ?c_d__law_plan ?k_d__law_plan ?a_d__law_wirings ?l_d__law_wirings ?c_d__law_wirings ?k_d__law_wirings ?a_d__law_wiring ?l_d__law_wiring ?c_d__law_wiring ?k_d__law_wiring ?a_d__law_loads ?l_d__law_loads ?c_d__law_loads ?k_d__law_loads ?a_d__law_are_fit ?l_d__law_are_fit ?c_d__law_are_fit ?k_d__law_are_fit ?a_d_law ?l_d_law ?c_d_law ?k_d_law
    (case aCP => k_is)
    (case aCS => k_is)
    (case aCB => k_is)
    (case z_isinstance => k_is)
    (case z_int => k_is)
    (case z_bool => k_is)
    (case z_str => k_is)
    (case z_tuple => k_is)
    (case z_len => k_is)
    (case z_all => k_is)
    (case z_enumerate => k_is)
    (case z_zip => k_is)
    (case z_list => k_is)
    (case z_sorted => k_is)
    (case z_min => k_is)
    (case z_range => k_is)
    (case z_set => k_is)
    (case y_LETTERS => k_is)
    (case y_MAX_LETTERS => k_is)
    (case y_MAX_BREAKERS => k_is)
    (case y_MAX_RATE => k_is)
    (case y_MAX_POINTS => k_is)
    (case y_MAX_ROOM => k_is)
    (case y_LAMP => k_is)
    (case y_PLUG => k_is)
    (case y_FREE => k_is)
    (case y_ROOMS => k_is)
    (case y_MAX_LOAD => k_is)
    (case clP1 => k_is)
    (case clP2 => k_is)
    (case clP3 => k_is)
    (case clP4 => k_is)
    (case clS1 => k_is)
    (case clS2 => k_is)
    (case clS3 => k_is)
    (case clS4 => k_is)
    (case clB1 => k_is)
    (case clB2 => k_is)
    (case clB3 => k_is)
    (case clB4 => k_is)
    (case slP1 => k_is)
    (case slP2 => k_is)
    (case slP3 => k_is)
    (case slP4 => k_is)
    (case slP5 => k_is)
    (case slF1 => k_is)
    (case slF2 => k_is)
    (case slF3 => k_is)
    (case slF4 => k_is)
    (case slF5 => k_is)
    (case slH1 => k_is)
    (case slH2 => k_is)
    (case slH3 => k_is)
    (case slH4 => k_is)
    (case slH5 => k_is)
    (case slQ1 => k_is)
    (case slQ2 => k_is)
    (case slQ3 => k_is)
    (case slQ4 => k_is)
    (case slQ5 => k_is)
    (case slU1 => k_is)
    (case slU2 => k_is)
    (case slU3 => k_is)
    (case slU4 => k_is)
    (case slU5 => k_is)
    (case naP => k_is)
    (case naH => k_is)
    (case m_i_P => k_is)
    (case i1_i_P => k_is)
    (case i2_i_P => k_is)
    (case i3_i_P => k_is)
    (case l_i_P => k_is)
    (case c_i_P => k_is)
    (case k_i_P => k_is)
    (case q_d => k_is)
    (case m_i_S => k_is)
    (case i1_i_S => k_is)
    (case i2_i_S => k_is)
    (case i3_i_S => k_is)
    (case l_i_S => k_is)
    (case c_i_S => k_is)
    (case k_i_S => k_is)
    (case m_i_B => k_is)
    (case i1_i_B => k_is)
    (case i2_i_B => k_is)
    (case i3_i_B => k_is)
    (case l_i_B => k_is)
    (case c_i_B => k_is)
    (case k_i_B => k_is)
    (case p1_p_rates => k_is)
    (case p2_p_rates => k_is)
    (case p3_p_rates => k_is)
    (case p4_p_rates => k_is)
    (case l_p_rates => k_is)
    (case c_p_rates => k_is)
    (case k_p_rates => k_is)
    (case p1_p_above => k_is)
    (case p2_p_above => k_is)
    (case p3_p_above => k_is)
    (case p4_p_above => k_is)
    (case l_p_above => k_is)
    (case c_p_above => k_is)
    (case k_p_above => k_is)
    (case p1_p_points => k_is)
    (case p2_p_points => k_is)
    (case p3_p_points => k_is)
    (case p4_p_points => k_is)
    (case l_p_points => k_is)
    (case c_p_points => k_is)
    (case k_p_points => k_is)
    (case p1_p_rule => k_is)
    (case p2_p_rule => k_is)
    (case p3_p_rule => k_is)
    (case p4_p_rule => k_is)
    (case l_p_rule => k_is)
    (case c_p_rule => k_is)
    (case k_p_rule => k_is)
    (case p1_p_names => k_is)
    (case p2_p_names => k_is)
    (case p3_p_names => k_is)
    (case p4_p_names => k_is)
    (case l_p_names => k_is)
    (case c_p_names => k_is)
    (case k_p_names => k_is)
    (case m1_l_P => k_is)
    (case m2_l_P => k_is)
    (case l_l_P => k_is)
    (case c_l_P => k_is)
    (case k_l_P => k_is)
    (case m1_m_go_on => k_is)
    (case m2_m_go_on => k_is)
    (case l_m_go_on => k_is)
    (case c_m_go_on => k_is)
    (case k_m_go_on => k_is)
    (case p1_p_state_now => k_is)
    (case p2_p_state_now => k_is)
    (case p3_p_state_now => k_is)
    (case p4_p_state_now => k_is)
    (case l_p_state_now => k_is)
    (case c_p_state_now => k_is)
    (case k_p_state_now => k_is)
    (case p1_p_loads_now => k_is)
    (case p2_p_loads_now => k_is)
    (case p3_p_loads_now => k_is)
    (case p4_p_loads_now => k_is)
    (case l_p_loads_now => k_is)
    (case c_p_loads_now => k_is)
    (case k_p_loads_now => k_is)
    (case p1_p_trip_count => k_is)
    (case p2_p_trip_count => k_is)
    (case p3_p_trip_count => k_is)
    (case p4_p_trip_count => k_is)
    (case l_p_trip_count => k_is)
    (case c_p_trip_count => k_is)
    (case k_p_trip_count => k_is)
    (case m1_m_settle => k_is)
    (case m2_m_settle => k_is)
    (case l_m_settle => k_is)
    (case c_m_settle => k_is)
    (case k_m_settle => k_is)
    (case m1_m_plug => k_is)
    (case m2_m_plug => k_is)
    (case l_m_plug => k_is)
    (case c_m_plug => k_is)
    (case k_m_plug => k_is)
    (case m1_m_reset => k_is)
    (case m2_m_reset => k_is)
    (case l_m_reset => k_is)
    (case c_m_reset => k_is)
    (case k_m_reset => k_is)
    (case a_d_is_number => k_is)
    (case l_d_is_number => k_is)
    (case c_d_is_number => k_is)
    (case k_d_is_number => k_is)
    (case a_d_is_word => k_is)
    (case l_d_is_word => k_is)
    (case c_d_is_word => k_is)
    (case k_d_is_word => k_is)
    (case a_d_are_rates => k_is)
    (case l_d_are_rates => k_is)
    (case c_d_are_rates => k_is)
    (case k_d_are_rates => k_is)
    (case a_d_are_above => k_is)
    (case l_d_are_above => k_is)
    (case c_d_are_above => k_is)
    (case k_d_are_above => k_is)
    (case a_d_is_point => k_is)
    (case l_d_is_point => k_is)
    (case c_d_is_point => k_is)
    (case k_d_is_point => k_is)
    (case a_d_are_points => k_is)
    (case l_d_are_points => k_is)
    (case c_d_are_points => k_is)
    (case k_d_are_points => k_is)
    (case a_d_does_follow => k_is)
    (case l_d_does_follow => k_is)
    (case c_d_does_follow => k_is)
    (case k_d_does_follow => k_is)
    (case a_d_is_wiring => k_is)
    (case l_d_is_wiring => k_is)
    (case c_d_is_wiring => k_is)
    (case k_d_is_wiring => k_is)
    (case a_d_check_wiring => k_is)
    (case l_d_check_wiring => k_is)
    (case c_d_check_wiring => k_is)
    (case k_d_check_wiring => k_is)
    (case a_d_is_state => k_is)
    (case l_d_is_state => k_is)
    (case c_d_is_state => k_is)
    (case k_d_is_state => k_is)
    (case a_d_check_state => k_is)
    (case l_d_check_state => k_is)
    (case c_d_check_state => k_is)
    (case k_d_check_state => k_is)
    (case a_d_check_name => k_is)
    (case l_d_check_name => k_is)
    (case c_d_check_name => k_is)
    (case k_d_check_name => k_is)
    (case a_d_all_on => k_is)
    (case l_d_all_on => k_is)
    (case c_d_all_on => k_is)
    (case k_d_all_on => k_is)
    (case a_d_line_up => k_is)
    (case l_d_line_up => k_is)
    (case c_d_line_up => k_is)
    (case k_d_line_up => k_is)
    (case a_d_has_power => k_is)
    (case l_d_has_power => k_is)
    (case c_d_has_power => k_is)
    (case k_d_has_power => k_is)
    (case a_d_live_in => k_is)
    (case l_d_live_in => k_is)
    (case c_d_live_in => k_is)
    (case k_d_live_in => k_is)
    (case a_d_live => k_is)
    (case l_d_live => k_is)
    (case c_d_live => k_is)
    (case k_d_live => k_is)
    (case a_d_wrong_load => k_is)
    (case l_d_wrong_load => k_is)
    (case c_d_wrong_load => k_is)
    (case k_d_wrong_load => k_is)
    (case a_d_check_loads => k_is)
    (case l_d_check_loads => k_is)
    (case c_d_check_loads => k_is)
    (case k_d_check_loads => k_is)
    (case a_d_currents_in => k_is)
    (case l_d_currents_in => k_is)
    (case c_d_currents_in => k_is)
    (case k_d_currents_in => k_is)
    (case a_d_trips_in => k_is)
    (case l_d_trips_in => k_is)
    (case c_d_trips_in => k_is)
    (case k_d_trips_in => k_is)
    (case a_d_check_all => k_is)
    (case l_d_check_all => k_is)
    (case c_d_check_all => k_is)
    (case k_d_check_all => k_is)
    (case a_d_trips => k_is)
    (case l_d_trips => k_is)
    (case c_d_trips => k_is)
    (case k_d_trips => k_is)
    (case a_d_choices => k_is)
    (case l_d_choices => k_is)
    (case c_d_choices => k_is)
    (case k_d_choices => k_is)
    (case a_d_orders_of => k_is)
    (case l_d_orders_of => k_is)
    (case c_d_orders_of => k_is)
    (case k_d_orders_of => k_is)
    (case a_d_plugged_in => k_is)
    (case l_d_plugged_in => k_is)
    (case c_d_plugged_in => k_is)
    (case k_d_plugged_in => k_is)
    (case a_d_plugged => k_is)
    (case l_d_plugged => k_is)
    (case c_d_plugged => k_is)
    (case k_d_plugged => k_is)
    (case a_d_best_plugging => k_is)
    (case l_d_best_plugging => k_is)
    (case c_d_best_plugging => k_is)
    (case k_d_best_plugging => k_is)
    (case a_d_switched => k_is)
    (case l_d_switched => k_is)
    (case c_d_switched => k_is)
    (case k_d_switched => k_is)
    (case a_d_does_run => k_is)
    (case l_d_does_run => k_is)
    (case c_d_does_run => k_is)
    (case k_d_does_run => k_is)
    (case a_d_most_at_once => k_is)
    (case l_d_most_at_once => k_is)
    (case c_d_most_at_once => k_is)
    (case k_d_most_at_once => k_is)
    (case a_d__law_taken => k_is)
    (case l_d__law_taken => k_is)
    (case c_d__law_taken => k_is)
    (case k_d__law_taken => k_is)
    (case a_d__law_plan => k_is)
    (case l_d__law_plan => k_is)
    (case c_d__law_plan => k_is)
    (case k_d__law_plan => k_is)
    (case a_d__law_wirings => k_is)
    (case l_d__law_wirings => k_is)
    (case c_d__law_wirings => k_is)
    (case k_d__law_wirings => k_is)
    (case a_d__law_wiring => k_is)
    (case l_d__law_wiring => k_is)
    (case c_d__law_wiring => k_is)
    (case k_d__law_wiring => k_is)
    (case a_d__law_loads => k_is)
    (case l_d__law_loads => k_is)
    (case c_d__law_loads => k_is)
    (case k_d__law_loads => k_is)
    (case a_d__law_are_fit => k_is)
    (case l_d__law_are_fit => k_is)
    (case c_d__law_are_fit => k_is)
    (case k_d__law_are_fit => k_is)
    (case a_d_law => k_is)
    (case l_d_law => k_is)
    (case c_d_law => k_is)
    (case k_d_law => k_is)
