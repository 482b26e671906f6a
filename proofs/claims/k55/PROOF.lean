import PyProof.Rows.All
import Wide.All
import OpenK.AllK
import Wide.FinOn
import HandS.ForMost
import HandS.ForExc
import HandS.CallSlots
import HandS.TupAny
import KE.DataFind
import HandS.Wide
import HandS.TupMul
import HandS.RaiseMore
import HandS.Style
import HandS.Conv
import KE.GoesNew
import HandS.Zip
import HandS.Rev
import HandS.DictComp
import HandS.Ends
import KE.BitLaws
import PyProof.ReprLen
import PyProof.Rows.StrJoinMade
import PySem.Challenge.RW_fewbitsread_k55_whole_cells
set_option Elab.async false
set_option linter.all false
set_option maxRecDepth 100000
set_option maxHeartbeats 4000000
/-! VL0: the value layer: data, states, relations. -/
namespace VL
open PySem PySem.Spec PyProof.Rows L2

abbrev D := PyData

/-- the drawing bag: a list of a list of ints and of two ints -/
structure Bag where
  cs : List Int
  x : Int
  m : Int

/-- what a slot holds: nothing known, data that never change, an own list (dict), the bag -/
inductive Sl where
  | no | dat (d : D) | own (ds : List D) | dic (kvs : List (Key × D)) | bag | scr (ns : List Int)

/-- an expression's value: data that never change, a new list, a list that a slot owns, dicts likewise, the bag -/
inductive Rv where
  | fz (d : D) | tm (ds : List D) | bo (ds : List D) | td (kvs : List (Key × D)) | bd (kvs : List (Key × D)) | bg

structure Err where
  cls : String
  args : List D

inductive R (α : Type) where
  | ok (a : α) (β : Bag) | er (e : Err) (β : Bag) | no

abbrev Env := List Sl
abbrev E := Env → Bag → R Rv
inductive Out where
  | nx (ρ : Env) (β : Bag) | rt (r : Rv) (β : Bag) | bk (ρ : Env) (β : Bag) | ct (ρ : Env) (β : Bag) | er (e : Err) (ρ : Env) (β : Bag) | no
abbrev T := Env → Bag → Out

def Own : Sl → Bool
  | .own _ => true
  | .dic _ => true
  | _ => false

abbrev BG := Option (Addr × Addr)
def inB : BG → Addr → Prop
  | none, _ => False
  | some (b, c), a => a = b ∨ a = c
def BagAt : BG → Hp → Bag → Prop
  | none, _, _ => True
  | some (b, c), H, β => b ≠ c ∧ H b = some (.lst [.ref c, .int β.x, .int β.m]) ∧ H c = some (.lst (β.cs.map V.int))
def Ex (H H' : Hp) : Prop := ∀ a o, H a = some o → H' a = some o
theorem Ex.refl (H : Hp) : Ex H H := fun _ _ h => h
theorem Ex.trans {H H1 H2 : Hp} (a : Ex H H1) (b : Ex H1 H2) : Ex H H2 := fun x o h => b x o (a x o h)
theorem Ex.new {H : Hp} {p : Addr} {o : HO} (h : H p = none) : Ex H (upd H p o) := fun a u e => by
  rw [upd_ne (ne_of_none e h)]
  exact e
theorem ex_rd {H H' : Hp} {a : Addr} {u : HO} (e : Ex H H') (h : Rd H a u) : Rd H' a u := by
  rcases h with h | ⟨o, h⟩
  · exact Or.inl (e a _ h)
  · exact Or.inr ⟨o, e a _ h⟩
theorem ex_l {K : PySem.W.Frag} {H H' : Hp} {a : Addr} {xs : List V} (e : Ex H H') (h : SqL K H a xs) : SqL K H' a xs := by
  rcases h with h | h
  · exact Or.inl (ex_rd e h)
  · exact Or.inr h
theorem ex_t {K : PySem.W.Frag} {H H' : Hp} {a : Addr} {xs : List V} (e : Ex H H') (h : SqT K H a xs) : SqT K H' a xs := by
  rcases h with h | h
  · exact Or.inl (ex_rd e h)
  · exact Or.inr h
mutual
/-- data in a heap; a list is one that is tracked by itself -/
inductive Dr (K : PySem.W.Frag) (H : Hp) : V → PyData → Prop
  | non : Dr K H .non .none
  | bl (b : Bool) : Dr K H (.bl b) (.bool b)
  | int (i : Int) : Dr K H (.int i) (.int i)
  | str (x : Str) : Dr K H (.str x) (.str x)
  | lst {a : Addr} {xs : List V} {ds : List PyData} : H a = some (.lst xs) → DrAll K H xs ds → Dr K H (.ref a) (.list ds)
  | tup {a : Addr} {xs : List V} {ds : List PyData} : SqT K H a xs → DrAll K H xs ds → Dr K H (.ref a) (.tuple ds)
inductive DrAll (K : PySem.W.Frag) (H : Hp) : List V → List PyData → Prop
  | nil : DrAll K H [] []
  | cons {v : V} {vs : List V} {d : PyData} {ds : List PyData} : Dr K H v d → DrAll K H vs ds → DrAll K H (v :: vs) (d :: ds)
end
mutual
theorem Dr.dp {K : PySem.W.Frag} {H : Hp} : ∀ {v : V} {d : PyData}, Dr K H v d → Dp K H v d
  | _, _, .non => .non
  | _, _, .bl b => .bl b
  | _, _, .int i => .int i
  | _, _, .str x => .str x
  | _, _, .lst h a => .lst (SqL.of h) (DrAll.dp a)
  | _, _, .tup h a => .tup h (DrAll.dp a)
theorem DrAll.dp {K : PySem.W.Frag} {H : Hp} : ∀ {vs : List V} {ds : List PyData}, DrAll K H vs ds → DpAll K H vs ds
  | _, _, .nil => .nil
  | _, _, .cons h a => .cons (Dr.dp h) (DrAll.dp a)
end
mutual
theorem dp_mono {K : PySem.W.Frag} {G G' : Hp} (e : Ex G G') : ∀ {v : V} {d : D}, Dr K G v d → Dr K G' v d
  | _, _, .non => .non
  | _, _, .bl b => .bl b
  | _, _, .int i => .int i
  | _, _, .str x => .str x
  | _, _, .lst h a => .lst (e _ _ h) (dpAll_mono e a)
  | _, _, .tup h a => .tup (ex_t e h) (dpAll_mono e a)
theorem dpAll_mono {K : PySem.W.Frag} {G G' : Hp} (e : Ex G G') : ∀ {vs : List V} {ds : List D}, DrAll K G vs ds → DrAll K G' vs ds
  | _, _, .nil => .nil
  | _, _, .cons h a => .cons (dp_mono e h) (dpAll_mono e a)
end
theorem DrAll.length {K : PySem.W.Frag} {G : Hp} : ∀ {vs : List V} {ds : List D}, DrAll K G vs ds → vs.length = ds.length
  | _, _, .nil => rfl
  | _, _, .cons _ a => by
    simp only [List.length_cons, DrAll.length a]
theorem DrAll.get {K : PySem.W.Frag} {G : Hp} : ∀ {vs : List V} {ds : List D} {i : Nat} {d : D}, DrAll K G vs ds → ds[i]? = some d → ∃ v, vs[i]? = some v ∧ Dr K G v d
  | _, _, i, _, .nil, h => by simp at h
  | _, _, 0, _, .cons h _, e => by
    simp at e
    subst e
    exact ⟨_, rfl, h⟩
  | _, _, i + 1, d, .cons _ a, e => by
    obtain ⟨v, h1, h2⟩ := DrAll.get (i := i) (d := d) a (by simpa using e)
    exact ⟨v, by simpa using h1, h2⟩
theorem DrAll.append {K : PySem.W.Frag} {G : Hp} : ∀ {vs ws : List V} {ds es : List D}, DrAll K G vs ds → DrAll K G ws es → DrAll K G (vs ++ ws) (ds ++ es)
  | _, _, _, _, .nil, h => h
  | _, _, _, _, .cons h a, b => .cons h (DrAll.append a b)
theorem DrAll.take {K : PySem.W.Frag} {G : Hp} : ∀ {vs : List V} {ds : List D} (n : Nat), DrAll K G vs ds → DrAll K G (vs.take n) (ds.take n)
  | _, _, 0, _ => by
    rw [List.take_zero, List.take_zero]
    exact .nil
  | _, _, _ + 1, .nil => .nil
  | _, _, n + 1, .cons h a => .cons h (DrAll.take n a)
theorem DrAll.drop {K : PySem.W.Frag} {G : Hp} : ∀ {vs : List V} {ds : List D} (n : Nat), DrAll K G vs ds → DrAll K G (vs.drop n) (ds.drop n)
  | _, _, 0, h => h
  | _, _, _ + 1, .nil => .nil
  | _, _, n + 1, .cons _ a => DrAll.drop n a
theorem DrAll.set {K : PySem.W.Frag} {G : Hp} {v : V} {d : D} (h : Dr K G v d) : ∀ {vs : List V} {ds : List D} (n : Nat), DrAll K G vs ds → DrAll K G (vs.set n v) (ds.set n d)
  | _, _, _, .nil => .nil
  | _, _, 0, .cons _ a => .cons h a
  | _, _, n + 1, .cons g a => .cons g (DrAll.set h n a)
theorem DrAll.reverse {K : PySem.W.Frag} {G : Hp} : ∀ {vs : List V} {ds : List D}, DrAll K G vs ds → DrAll K G vs.reverse ds.reverse
  | _, _, .nil => .nil
  | _, _, .cons h a => by
    rw [List.reverse_cons, List.reverse_cons]
    exact DrAll.append (DrAll.reverse a) (.cons h .nil)
theorem DrAll.rep {K : PySem.W.Frag} {G : Hp} {vs : List V} {ds : List D} (h : DrAll K G vs ds) : ∀ k : Nat, DrAll K G (List.replicate k vs).flatten (List.replicate k ds).flatten
  | 0 => .nil
  | k + 1 => by
    rw [List.replicate_succ, List.replicate_succ, List.flatten_cons, List.flatten_cons]
    exact DrAll.append h (DrAll.rep h k)
theorem dpAll_ints {K : PySem.W.Frag} {G : Hp} : ∀ {vs : List V} {ns : List Int}, DrAll K G vs (ns.map PyData.int) → vs = ns.map V.int
  | _, [], .nil => rfl
  | _, n :: ns, .cons h a => by
    cases h
    rw [dpAll_ints a]
    rfl
theorem dpAll_of_ints {K : PySem.W.Frag} {G : Hp} : ∀ (ns : List Int), DrAll K G (ns.map V.int) (ns.map PyData.int)
  | [] => .nil
  | n :: ns => .cons (.int n) (dpAll_of_ints ns)
theorem dpAll_bools {K : PySem.W.Frag} {G : Hp} : ∀ {vs : List V} {ns : List Bool}, DrAll K G vs (ns.map PyData.bool) → vs = ns.map V.bl
  | _, [], .nil => rfl
  | _, n :: ns, .cons h a => by
    cases h
    rw [dpAll_bools a]
    rfl

abbrev KvAll (K : PySem.W.Frag) (G : Hp) (ws : List (Key × V)) (kvs : List (Key × D)) : Prop := Paired (fun p q => p.1 = q.1 ∧ Dr K G p.2 q.2) ws kvs
theorem kv_mono {K : PySem.W.Frag} {G G' : Hp} (e : Ex G G') {ws : List (Key × V)} {kvs : List (Key × D)} (h : KvAll K G ws kvs) : KvAll K G' ws kvs := L2.Paired.mapP h fun _ _ z => ⟨z.1, dp_mono e z.2⟩

def SlOk (K : PySem.W.Frag) (bg : BG) (G H : Hp) : Sl → Option V → Prop
  | .no, _ => True
  | .dat d, o => ∃ v, o = some v ∧ Dr K G v d
  | .own ds, o => ∃ l vs, o = some (.ref l) ∧ H l = some (.lst vs) ∧ DrAll K G vs ds
  | .dic kvs, o => ∃ l ws, o = some (.ref l) ∧ H l = some (.dK ws) ∧ KvAll K G ws kvs
  | .bag, o => ∃ b c, bg = some (b, c) ∧ o = some (.ref b)
  | .scr ns, o => ∃ a, o = some (.ref a) ∧ SqL K G a (ns.map V.int)

/-- the state of a body: H0, G0 the heap at its start and the part of it that never changes; H, G now -/
structure Ag (K : PySem.W.Frag) (H0 G0 : Hp) (bg : BG) (G H : Hp) (σ : L2.St) (ρ : Env) (β : Bag) : Prop where
  gh : Ex G H
  kp : ∀ a o, H0 a = some o → ¬ inB bg a → H a = some o
  dm : ∀ a, H0 a ≠ none → H a ≠ none
  fr : ∀ a, H0 a ≠ none → G a = G0 a
  bagOk : BagAt bg H β
  bagG : ∀ a, inB bg a → G a = none
  slots : ∀ (i : Nat) (s : Sl), ρ[i]? = some s → ∃ o, σ[i]? = some o ∧ SlOk K bg G H s o
  owns : ∀ (i : Nat) (s : Sl) (l : Addr), ρ[i]? = some s → Own s = true → σ[i]? = some (some (.ref l)) → H0 l = none ∧ G l = none ∧ ¬ inB bg l
  dist : ∀ (i j : Nat) (s t : Sl) (l : Addr), ρ[i]? = some s → Own s = true → σ[i]? = some (some (.ref l)) → ρ[j]? = some t → Own t = true → σ[j]? = some (some (.ref l)) → i = j

/-- from (G, H) to (G', H'): what stood stands but the bag, new things alone are new in G' -/
structure Stp (bg : BG) (G H G' H' : Hp) (β' : Bag) : Prop where
  kp : ∀ a o, H a = some o → ¬ inB bg a → H' a = some o
  dm : ∀ a, H a ≠ none → H' a ≠ none
  fr : ∀ a, H a ≠ none → G' a = G a
  gh : Ex G' H'
  bagOk : BagAt bg H' β'

theorem ex_ne {G H : Hp} (e : Ex G H) {a : Addr} {o : HO} (h : G a = some o) : H a ≠ none := by
  rw [e a o h]
  exact fun z => by cases z
theorem Stp.gg {bg : BG} {G H G' H' : Hp} {β' : Bag} (s : Stp bg G H G' H' β') (e : Ex G H) : Ex G G' := fun a o h => by
  rw [s.fr a (ex_ne e h)]
  exact h
theorem Stp.refl {bg : BG} {G H : Hp} {β : Bag} (e : Ex G H) (b : BagAt bg H β) : Stp bg G H G H β := ⟨fun _ _ h _ => h, fun _ h => h, fun _ _ => rfl, e, b⟩
theorem Stp.trans {bg : BG} {G H G1 H1 G2 H2 : Hp} {β1 β2 : Bag} (s : Stp bg G H G1 H1 β1) (t : Stp bg G1 H1 G2 H2 β2) : Stp bg G H G2 H2 β2 :=
  ⟨fun a o h n => t.kp a o (s.kp a o h n) n, fun a h => t.dm a (s.dm a h), fun a h => (t.fr a (s.dm a h)).trans (s.fr a h), t.gh, t.bagOk⟩
theorem bag_dom {bg : BG} {H : Hp} {β : Bag} (b : BagAt bg H β) {a : Addr} (h : inB bg a) : H a ≠ none := by
  cases bg with
  | none => exact h.elim
  | some p =>
    obtain ⟨x, y⟩ := p
    obtain ⟨_, h1, h2⟩ := b
    rcases h with rfl | rfl
    · rw [h1]; exact fun z => by cases z
    · rw [h2]; exact fun z => by cases z
theorem dom_of {H : Hp} {a : Addr} {o : HO} (h : H a = some o) : H a ≠ none := by
  rw [h]
  exact fun z => by cases z
theorem fresh_notB {bg : BG} {H : Hp} {β : Bag} (b : BagAt bg H β) {a : Addr} (h : H a = none) : ¬ inB bg a := fun z => bag_dom b z h

section
variable {K : PySem.W.Frag} {H0 G0 : Hp} {bg : BG} {G H G' H' : Hp} {σ : L2.St} {ρ : Env} {β β' : Bag}
theorem SlOk.step (s : Stp bg G H G' H' β') (e : Ex G H) {sl : Sl} {o : Option V} (hn : ∀ l, Own sl = true → o = some (.ref l) → ¬ inB bg l) (h : SlOk K bg G H sl o) : SlOk K bg G' H' sl o := by
  cases sl with
  | no => trivial
  | dat d =>
    obtain ⟨v, rfl, h⟩ := h
    exact ⟨v, rfl, dp_mono (s.gg e) h⟩
  | own ds =>
    obtain ⟨l, vs, rfl, h1, h2⟩ := h
    exact ⟨l, vs, rfl, s.kp l _ h1 (hn l rfl rfl), dpAll_mono (s.gg e) h2⟩
  | dic kvs =>
    obtain ⟨l, vs, rfl, h1, h2⟩ := h
    exact ⟨l, vs, rfl, s.kp l _ h1 (hn l rfl rfl), kv_mono (s.gg e) h2⟩
  | bag => exact h
  | scr ns =>
    obtain ⟨a, rfl, h⟩ := h
    exact ⟨a, rfl, ex_l (s.gg e) h⟩
theorem SlOk.dom {sl : Sl} {l : Addr} (h : SlOk K bg G H sl (some (.ref l))) (ho : Own sl = true) : H l ≠ none := by
  cases sl with
  | no => cases ho
  | dat d => cases ho
  | bag => cases ho
  | scr ns => cases ho
  | own ds =>
    obtain ⟨l', vs, e, h1, h2⟩ := h
    cases e
    exact dom_of h1
  | dic kvs =>
    obtain ⟨l', vs, e, h1, h2⟩ := h
    cases e
    exact dom_of h1
theorem Ag.step (a : Ag K H0 G0 bg G H σ ρ β) (s : Stp bg G H G' H' β') : Ag K H0 G0 bg G' H' σ ρ β' where
  gh := s.gh
  kp := fun x o h n => s.kp x o (a.kp x o h n) n
  dm := fun x h => s.dm x (a.dm x h)
  fr := fun x h => (s.fr x (a.dm x h)).trans (a.fr x h)
  bagOk := s.bagOk
  bagG := fun x h => (s.fr x (bag_dom a.bagOk h)).trans (a.bagG x h)
  slots := fun i sl h => by
    obtain ⟨o, h1, h2⟩ := a.slots i sl h
    refine ⟨o, h1, SlOk.step s a.gh (fun l ho e => (a.owns i sl l h ho (by rw [h1, e])).2.2) h2⟩
  owns := fun i sl l h ho e => by
    obtain ⟨h1, h2, h3⟩ := a.owns i sl l h ho e
    obtain ⟨o, g1, g2⟩ := a.slots i sl h
    rw [e] at g1
    cases g1
    exact ⟨h1, (s.fr l (g2.dom ho)).trans h2, h3⟩
  dist := a.dist
theorem Ag.stp (a : Ag K H0 G0 bg G H σ ρ β) : Stp bg G0 H0 G H β := ⟨a.kp, a.dm, a.fr, a.gh, a.bagOk⟩
end

/-- a value beside what it tells; Hs: the heap where its reckoning began -/
def VOk (K : PySem.W.Frag) (H0 : Hp) (bg : BG) (Hs G H : Hp) (v : V) : Rv → Prop
  | .fz d => Dr K G v d
  | .tm ds => ∃ l vs, v = .ref l ∧ Hs l = none ∧ H l = some (.lst vs) ∧ G l = none ∧ ¬ inB bg l ∧ DrAll K G vs ds
  | .bo ds => ∃ l vs, v = .ref l ∧ H0 l = none ∧ H l = some (.lst vs) ∧ G l = none ∧ ¬ inB bg l ∧ DrAll K G vs ds
  | .td kvs => ∃ l ws, v = .ref l ∧ Hs l = none ∧ H l = some (.dK ws) ∧ G l = none ∧ ¬ inB bg l ∧ KvAll K G ws kvs
  | .bd kvs => ∃ l ws, v = .ref l ∧ H0 l = none ∧ H l = some (.dK ws) ∧ G l = none ∧ ¬ inB bg l ∧ KvAll K G ws kvs
  | .bg => ∃ b c, bg = some (b, c) ∧ v = .ref b
section
variable {K : PySem.W.Frag} {H0 : Hp} {bg : BG} {Hs Hs' G H G' H' : Hp} {v : V} {r : Rv} {β' : Bag}
theorem VOk.step (s : Stp bg G H G' H' β') (e : Ex G H) (h : VOk K H0 bg Hs G H v r) : VOk K H0 bg Hs G' H' v r := by
  cases r with
  | fz d => exact dp_mono (s.gg e) h
  | tm ds =>
    obtain ⟨l, vs, h1, h2, h3, h4, h5, h6⟩ := h
    exact ⟨l, vs, h1, h2, s.kp l _ h3 h5, (s.fr l (dom_of h3)).trans h4, h5, dpAll_mono (s.gg e) h6⟩
  | bo ds =>
    obtain ⟨l, vs, h1, h2, h3, h4, h5, h6⟩ := h
    exact ⟨l, vs, h1, h2, s.kp l _ h3 h5, (s.fr l (dom_of h3)).trans h4, h5, dpAll_mono (s.gg e) h6⟩
  | td kvs =>
    obtain ⟨l, vs, h1, h2, h3, h4, h5, h6⟩ := h
    exact ⟨l, vs, h1, h2, s.kp l _ h3 h5, (s.fr l (dom_of h3)).trans h4, h5, kv_mono (s.gg e) h6⟩
  | bd kvs =>
    obtain ⟨l, vs, h1, h2, h3, h4, h5, h6⟩ := h
    exact ⟨l, vs, h1, h2, s.kp l _ h3 h5, (s.fr l (dom_of h3)).trans h4, h5, kv_mono (s.gg e) h6⟩
  | bg => exact h
theorem none_back (d : ∀ a, Hs a ≠ none → Hs' a ≠ none) {l : Addr} (h : Hs' l = none) : Hs l = none := by
  cases q : Hs l with
  | none => rfl
  | some o => exact absurd h (d l (by rw [q]; exact fun z => by cases z))
theorem VOk.back (d : ∀ a, Hs a ≠ none → Hs' a ≠ none) (h : VOk K H0 bg Hs' G H v r) : VOk K H0 bg Hs G H v r := by
  cases r with
  | fz d => exact h
  | bo ds => exact h
  | bd ds => exact h
  | bg => exact h
  | tm ds =>
    obtain ⟨l, vs, h1, h2, h3⟩ := h
    exact ⟨l, vs, h1, none_back d h2, h3⟩
  | td kvs =>
    obtain ⟨l, vs, h1, h2, h3⟩ := h
    exact ⟨l, vs, h1, none_back d h2, h3⟩
end

/-- how an error stands in the heap -/
abbrev EC := Err → Value → Option Addr → Hp → Prop

/-- an expression's reading -/
def rE (K : PySem.W.Frag) (ec : EC) (W : WX) (f : E) : TE := fun σ H Q => ∃ H0 G0 bg G ρ β, Ag K H0 G0 bg G H σ ρ β ∧
  match f ρ β with
  | .ok r β' => ∀ v G' H', Stp bg G H G' H' β' → VOk K H0 bg H G' H' v r → Q v H'
  | .er e β' => ∀ cl dd G' H', Stp bg G H G' H' β' → ec e cl dd H' → W cl dd σ H'
  | .no => False
abbrev SE (X : Cx) (ec : EC) (W : WX) (e : Expr) (f : E) : Prop := PE X e (rE X.K ec W f)

theorem PE.imp {X : Cx} {e : Expr} {t t' : TE} (h : PE X e t) (hi : ∀ σ H Q, t' σ H Q → t σ H Q) : PE X e t' := ⟨fun pins s σ H Q I hw => h.run pins s σ H Q I (hi σ H Q hw)⟩
theorem PT.imp {X : Cx} {e : Expr} {t t' : TT} (h : PT X e t) (hi : ∀ σ H Q, t' σ H Q → t σ H Q) : PT X e t' := ⟨fun pins s σ H Q I hw => h.run pins s σ H Q I (hi σ H Q hw)⟩
theorem PW.imp {X : Cx} {e : Expr} {t t' : TT} (h : PW X e t) (hi : ∀ σ H Q, t' σ H Q → t σ H Q) : PW X e t' := ⟨fun wh pins s σ H Q I hw => h.run wh pins s σ H Q I (hi σ H Q hw)⟩
theorem PS.imp {X : Cx} {e : Stmt} {t t' : TS} (h : PS X e t) (hi : ∀ D σ H, t' D σ H → t D σ H) : PS X e t' := ⟨fun pins s σ H D I hw => h.run pins s σ H D I (hi D σ H hw)⟩
theorem PSs.imp {X : Cx} {e : List Stmt} {t t' : TS} (h : PSs X e t) (hi : ∀ D σ H, t' D σ H → t D σ H) : PSs X e t' := ⟨fun pins s σ H D I hw => h.run pins s σ H D I (hi D σ H hw)⟩
theorem PA.imp {X : Cx} {e : List Expr} {t t' : TA} (h : PA X e t) (hi : ∀ σ H Q, t' σ H Q → t σ H Q) : PA X e t' := ⟨fun pos pins s σ H Q I hw => h.run pos pins s σ H Q I (hi σ H Q hw)⟩
theorem PI.imp {X : Cx} {tg e : Expr} {t t' : TI} (h : PI X tg e t) (hi : ∀ σ H Q, t' σ H Q → t σ H Q) : PI X tg e t' := ⟨fun pins s σ H Q I hw => h.run pins s σ H Q I (hi σ H Q hw)⟩

/-- reading an expression inside a body: from the state on -/
theorem rE_go {K : PySem.W.Frag} {ec : EC} {W : WX} {f : E} {H0 G0 : Hp} {bg : BG} {G H : Hp} {σ : L2.St} {ρ : Env} {β : Bag} {Q : VK} (a : Ag K H0 G0 bg G H σ ρ β)
    (h : match f ρ β with
      | .ok r β' => ∀ v G' H', Stp bg G H G' H' β' → VOk K H0 bg H G' H' v r → Q v H'
      | .er e β' => ∀ cl dd G' H', Stp bg G H G' H' β' → ec e cl dd H' → W cl dd σ H'
      | .no => False) : rE K ec W f σ H Q := ⟨H0, G0, bg, G, ρ, β, a, h⟩
end VL

/-! VL1: readings of expressions, tests, arguments. -/
namespace VL
open PySem PySem.Spec PyProof.Rows L2

def R.bind {α γ : Type} (r : R α) (k : α → Bag → R γ) : R γ := match r with
  | .ok a β => k a β
  | .er e β => .er e β
  | .no => .no
def R.of {α : Type} (o : Option α) (β : Bag) : R α := match o with
  | some a => .ok a β
  | none => .no
theorem R.bind_ok {α γ : Type} {a : α} {β : Bag} {k : α → Bag → R γ} : R.bind (.ok a β) k = k a β := rfl
theorem R.bind_er {α γ : Type} {e : Err} {β : Bag} {k : α → Bag → R γ} : R.bind (.er e β) k = .er e β := rfl
theorem R.bind_no {α γ : Type} {k : α → Bag → R γ} : R.bind .no k = .no := rfl
theorem R.of_some {α : Type} {a : α} {β : Bag} : R.of (some a) β = .ok a β := rfl
theorem R.of_none {α : Type} {β : Bag} : R.of (none : Option α) β = .no := rfl

/-! ### new things -/
theorem none_ex {G H : Hp} (e : Ex G H) {p : Addr} (h : H p = none) : G p = none := by
  cases q : G p with
  | none => rfl
  | some o =>
    rw [e p o q] at h
    cases h
theorem bag_new {bg : BG} {H : Hp} {β : Bag} {p : Addr} {o : HO} (b : BagAt bg H β) (h : H p = none) : BagAt bg (upd H p o) β := by
  cases bg with
  | none => trivial
  | some q =>
    obtain ⟨x, y⟩ := q
    obtain ⟨h0, h1, h2⟩ := b
    refine ⟨h0, ?_, ?_⟩
    · rw [upd_ne (ne_of_none h1 h)]; exact h1
    · rw [upd_ne (ne_of_none h2 h)]; exact h2
theorem upd_dom {H : Hp} {p : Addr} {o : HO} {a : Addr} (h : H a ≠ none) : upd H p o a ≠ none := by
  unfold upd
  split
  · exact fun z => by cases z
  · exact h
theorem upd_none {H : Hp} {p : Addr} {o : HO} {a : Addr} (hp : H p = none) (h : H a ≠ none) : upd H p o a = H a := by
  refine upd_ne fun e => h ?_
  rw [e]
  exact hp
theorem ex_upd {G H : Hp} (e : Ex G H) {p : Addr} {o : HO} : Ex (upd G p o) (upd H p o) := fun a u h => by
  by_cases ha : a = p
  · subst ha
    rw [upd_same] at h ⊢
    exact h
  · rw [upd_ne ha] at h ⊢
    exact e a u h

/-- a value's operation stands here: Gs, Hs where the expression began, G, H now -/
structure Ct (H0 : Hp) (bg : BG) (Gs Hs G H : Hp) (β : Bag) : Prop where
  st : Stp bg Gs Hs G H β
  gs : Ex Gs Hs
section
variable {K : PySem.W.Frag} {H0 : Hp} {bg : BG} {Gs Hs G H : Hp} {β : Bag}
theorem Ct.gh (c : Ct H0 bg Gs Hs G H β) : Ex G H := c.st.gh
theorem Ct.bag (c : Ct H0 bg Gs Hs G H β) : BagAt bg H β := c.st.bagOk
theorem Ct.new (c : Ct H0 bg Gs Hs G H β) {p : Addr} {o : HO} (hp : H p = none) : Stp bg Gs Hs G (upd H p o) β :=
  ⟨fun a u h n => (upd_none hp (dom_of (c.st.kp a u h n))).trans (c.st.kp a u h n), fun a h => upd_dom (c.st.dm a h), c.st.fr, c.gh.trans (Ex.new hp), bag_new c.bag hp⟩
theorem Ct.newG (c : Ct H0 bg Gs Hs G H β) {p : Addr} {o : HO} (hp : H p = none) : Stp bg Gs Hs (upd G p o) (upd H p o) β :=
  ⟨fun a u h n => (upd_none hp (dom_of (c.st.kp a u h n))).trans (c.st.kp a u h n), fun a h => upd_dom (c.st.dm a h), fun a h => by
    rw [upd_ne (fun e => c.st.dm a h (by rw [e]; exact hp))]
    exact c.st.fr a h, ex_upd c.gh, bag_new c.bag hp⟩
theorem Ct.fresh (c : Ct H0 bg Gs Hs G H β) {p : Addr} (hp : H p = none) : Hs p = none := none_back c.st.dm hp

/-- r gives z -/
def Yld (K : PySem.W.Frag) (H0 : Hp) (bg : BG) (Gs Hs H : Hp) (β : Bag) (r : Hp → VK → Prop) (z : Rv) : Prop :=
  ∀ Q : VK, (∀ v G' H', Stp bg Gs Hs G' H' β → VOk K H0 bg Hs G' H' v z → Q v H') → r H Q
theorem Yld.val {r : Hp → VK → Prop} (c : Ct H0 bg Gs Hs G H β) {v : V} {d : D} (hd : Dr K G v d) (h : ∀ Q : VK, Q v H → r H Q) : Yld K H0 bg Gs Hs H β r (.fz d) :=
  fun Q q => h Q (q v G H c.st hd)
theorem Yld.rv {r : Hp → VK → Prop} (c : Ct H0 bg Gs Hs G H β) {v : V} {z : Rv} (hd : VOk K H0 bg Hs G H v z) (h : ∀ Q : VK, Q v H → r H Q) : Yld K H0 bg Gs Hs H β r z :=
  fun Q q => h Q (q v G H c.st hd)
theorem Yld.tup {r : Hp → VK → Prop} (c : Ct H0 bg Gs Hs G H β) {vs : List V} {ds : List D} (hd : DrAll K G vs ds) (h : ∀ Q : VK, (∀ p, H p = none → Q (.ref p) (upd H p (.tup vs))) → r H Q) : Yld K H0 bg Gs Hs H β r (.fz (.tuple ds)) :=
  fun Q q => h Q fun p hp => q (.ref p) _ _ (c.newG hp) (Dr.tup (SqT.of upd_same) (dpAll_mono (Ex.new (none_ex c.gh hp)) hd))
theorem Yld.lst {r : Hp → VK → Prop} (c : Ct H0 bg Gs Hs G H β) {vs : List V} {ds : List D} (hd : DrAll K G vs ds) (h : ∀ Q : VK, (∀ p, H p = none → Q (.ref p) (upd H p (.lst vs))) → r H Q) : Yld K H0 bg Gs Hs H β r (.tm ds) :=
  fun Q q => h Q fun p hp => q (.ref p) _ _ (c.new hp) ⟨p, vs, rfl, c.fresh hp, upd_same, none_ex c.gh hp, fresh_notB c.bag hp, hd⟩
end

/-! ### what is read of a value -/
/-- the items of what is a list -/
def Rv.lst? : Rv → Option (List D)
  | .fz (.list ds) => some ds
  | .tm ds => some ds
  | .bo ds => some ds
  | _ => none
/-- the items of what is a list or a tuple -/
def Rv.seq? : Rv → Option (List D)
  | .fz (.list ds) => some ds
  | .fz (.tuple ds) => some ds
  | .tm ds => some ds
  | .bo ds => some ds
  | _ => none
/-- as data, for what only reads it -/
def Rv.data? : Rv → Option D
  | .fz d => some d
  | .tm ds => some (.list ds)
  | .bo ds => some (.list ds)
  | _ => none
/-- as data, for what keeps it -/
def Rv.keep? : Rv → Option D
  | .fz d => some d
  | .tm ds => some (.list ds)
  | _ => none
section
variable {K : PySem.W.Frag} {H0 : Hp} {bg : BG} {Hs G H : Hp} {v : V} {r : Rv} {ds : List D} {d : D}
theorem VOk.lst (e : Ex G H) (h : VOk K H0 bg Hs G H v r) (q : r.lst? = some ds) : ∃ l vs, v = .ref l ∧ H l = some (.lst vs) ∧ DrAll K G vs ds := by
  cases r with
  | fz d =>
    cases d <;> simp [Rv.lst?] at q
    subst q
    cases h with
    | lst h a => exact ⟨_, _, rfl, e _ _ h, a⟩
  | tm es =>
    simp [Rv.lst?] at q
    subst q
    obtain ⟨l, vs, h1, _, h3, _, _, h6⟩ := h
    exact ⟨l, vs, h1, h3, h6⟩
  | bo es =>
    simp [Rv.lst?] at q
    subst q
    obtain ⟨l, vs, h1, _, h3, _, _, h6⟩ := h
    exact ⟨l, vs, h1, h3, h6⟩
  | td es => simp [Rv.lst?] at q
  | bd es => simp [Rv.lst?] at q
  | bg => simp [Rv.lst?] at q
theorem VOk.seq (e : Ex G H) (h : VOk K H0 bg Hs G H v r) (q : r.seq? = some ds) : ∃ l vs, v = .ref l ∧ (H l = some (.lst vs) ∨ SqT K H l vs) ∧ DrAll K G vs ds := by
  cases r with
  | fz d =>
    cases d <;> simp [Rv.seq?] at q
    · subst q
      cases h with
      | lst h a => exact ⟨_, _, rfl, .inl (e _ _ h), a⟩
    · subst q
      cases h with
      | tup h a => exact ⟨_, _, rfl, .inr (ex_t e h), a⟩
  | tm es =>
    simp [Rv.seq?] at q
    subst q
    obtain ⟨l, vs, h1, _, h3, _, _, h6⟩ := h
    exact ⟨l, vs, h1, .inl h3, h6⟩
  | bo es =>
    simp [Rv.seq?] at q
    subst q
    obtain ⟨l, vs, h1, _, h3, _, _, h6⟩ := h
    exact ⟨l, vs, h1, .inl h3, h6⟩
  | td es => simp [Rv.seq?] at q
  | bd es => simp [Rv.seq?] at q
  | bg => simp [Rv.seq?] at q
theorem VOk.data (e : Ex G H) (h : VOk K H0 bg Hs G H v r) (q : r.data? = some d) : Dr K H v d := by
  cases r with
  | fz d' =>
    simp [Rv.data?] at q
    subst q
    exact dp_mono e h
  | tm es =>
    simp [Rv.data?] at q
    subst q
    obtain ⟨l, vs, rfl, _, h3, _, _, h6⟩ := h
    exact .lst h3 (dpAll_mono e h6)
  | bo es =>
    simp [Rv.data?] at q
    subst q
    obtain ⟨l, vs, rfl, _, h3, _, _, h6⟩ := h
    exact .lst h3 (dpAll_mono e h6)
  | td es => simp [Rv.data?] at q
  | bd es => simp [Rv.data?] at q
  | bg => simp [Rv.data?] at q
end
def Rv.bool? : Rv → Option Bool
  | .fz (.bool b) => some b
  | _ => none
theorem VOk.bool {K : PySem.W.Frag} {H0 : Hp} {bg : BG} {Hs G H : Hp} {v : V} {r : Rv} {b : Bool} (h : VOk K H0 bg Hs G H v r) (q : r.bool? = some b) : v = .bl b := by
  cases r with
  | fz d =>
    cases d <;> simp [Rv.bool?] at q
    subst q
    have h' : Dr K G v (.bool _) := h
    cases h'
    rfl
  | tm es => simp [Rv.bool?] at q
  | bo es => simp [Rv.bool?] at q
  | td es => simp [Rv.bool?] at q
  | bd es => simp [Rv.bool?] at q
  | bg => simp [Rv.bool?] at q
/-! ### a new list that is kept never changes again -/
/-- as VOk of what may be kept, where some may be frozen already -/
def KOk (K : PySem.W.Frag) (Hs G H : Hp) (v : V) (d : D) : Prop :=
  Dr K G v d ∨ ∃ l vs ds, v = .ref l ∧ d = .list ds ∧ Hs l = none ∧ H l = some (.lst vs) ∧ DrAll K G vs ds
section
variable {K : PySem.W.Frag} {H0 : Hp} {bg : BG} {Gs Hs G H : Hp} {β : Bag} {v : V} {d : D}
theorem VOk.keep {r : Rv} (h : VOk K H0 bg Hs G H v r) (q : r.keep? = some d) : KOk K Hs G H v d := by
  cases r with
  | fz d' =>
    simp [Rv.keep?] at q
    subst q
    exact .inl h
  | tm es =>
    simp [Rv.keep?] at q
    subst q
    obtain ⟨l, vs, rfl, h2, h3, _, _, h6⟩ := h
    exact .inr ⟨l, vs, es, rfl, rfl, h2, h3, h6⟩
  | bo es => simp [Rv.keep?] at q
  | td es => simp [Rv.keep?] at q
  | bd es => simp [Rv.keep?] at q
  | bg => simp [Rv.keep?] at q
theorem KOk.mono {G' : Hp} (e : Ex G G') (h : KOk K Hs G H v d) : KOk K Hs G' H v d := by
  rcases h with h | ⟨l, vs, ds, h1, h2, h3, h4, h5⟩
  · exact .inl (dp_mono e h)
  · exact .inr ⟨l, vs, ds, h1, h2, h3, h4, dpAll_mono e h5⟩
theorem Ct.freeze (c : Ct H0 bg Gs Hs G H β) (h : KOk K Hs G H v d) : ∃ G', Ct H0 bg Gs Hs G' H β ∧ Ex G G' ∧ Dr K G' v d := by
  rcases h with h | ⟨l, vs, ds, rfl, rfl, h3, h4, h5⟩
  · exact ⟨G, c, Ex.refl G, h⟩
  · by_cases hg : G l = none
    · have e : Ex G (upd G l (.lst vs)) := Ex.new hg
      refine ⟨upd G l (.lst vs), ⟨⟨c.st.kp, c.st.dm, fun a h => ?_, fun a o h => ?_, c.st.bagOk⟩, c.gs⟩, e, .lst upd_same (dpAll_mono e h5)⟩
      · rw [upd_ne (fun e => h (by rw [e]; exact h3))]
        exact c.st.fr a h
      · unfold upd at h
        split at h
        · rename_i ea
          subst ea
          cases h
          exact h4
        · exact c.gh a o h
    · obtain ⟨o, ho⟩ : ∃ o, G l = some o := by
        cases q : G l with
        | none => exact absurd q hg
        | some o => exact ⟨o, rfl⟩
      have e := c.gh l o ho
      rw [h4] at e
      cases e
      exact ⟨G, c, Ex.refl G, .lst ho h5⟩
theorem Ct.freezeAll : ∀ {vs : List V} {ds : List D} {G : Hp}, Ct H0 bg Gs Hs G H β → Paired (KOk K Hs G H) vs ds → ∃ G', Ct H0 bg Gs Hs G' H β ∧ Ex G G' ∧ DrAll K G' vs ds
  | _, _, G, c, .nil => ⟨G, c, Ex.refl G, .nil⟩
  | _, _, G, c, .cons h t => by
    obtain ⟨G1, c1, e1, h1⟩ := c.freeze h
    obtain ⟨G2, c2, e2, h2⟩ := Ct.freezeAll c1 (L2.Paired.mapP t fun _ _ z => z.mono e1)
    exact ⟨G2, c2, e1.trans e2, .cons (dp_mono e2 h1) h2⟩
end

/-! ### expressions -/
abbrev VsOk (K : PySem.W.Frag) (H0 : Hp) (bg : BG) (Hs G H : Hp) : List V → List Rv → Prop := Paired (VOk K H0 bg Hs G H)
abbrev EA := Env → Bag → R (List Rv)
abbrev ET := Env → Bag → R Bool
def rA (K : PySem.W.Frag) (ec : EC) (W : WX) (f : EA) : TA := fun σ H Q => ∃ H0 G0 bg G ρ β, Ag K H0 G0 bg G H σ ρ β ∧
  match f ρ β with
  | .ok r β' => ∀ v G' H', Stp bg G H G' H' β' → VsOk K H0 bg H G' H' v r → Q v H'
  | .er e β' => ∀ cl dd G' H', Stp bg G H G' H' β' → ec e cl dd H' → W cl dd σ H'
  | .no => False
def rT (K : PySem.W.Frag) (ec : EC) (W : WX) (f : ET) : TT := fun σ H Q => ∃ H0 G0 bg G ρ β, Ag K H0 G0 bg G H σ ρ β ∧
  match f ρ β with
  | .ok r β' => ∀ G' H', Stp bg G H G' H' β' → Q r H'
  | .er e β' => ∀ cl dd G' H', Stp bg G H G' H' β' → ec e cl dd H' → W cl dd σ H'
  | .no => False
abbrev SA (X : Cx) (ec : EC) (W : WX) (es : List Expr) (f : EA) : Prop := PA X es (rA X.K ec W f)
abbrev ST (X : Cx) (ec : EC) (W : WX) (e : Expr) (f : ET) : Prop := PT X e (rT X.K ec W f)
abbrev SW (X : Cx) (ec : EC) (W : WX) (e : Expr) (f : ET) : Prop := PW X e (rT X.K ec W f)

def eBin (F : Rv → Rv → Option Rv) (f g : E) : E := fun ρ β => (f ρ β).bind fun x β => (g ρ β).bind fun y β => R.of (F x y) β
def eUn (F : Rv → Option Rv) (f : E) : E := fun ρ β => (f ρ β).bind fun x β => R.of (F x) β
def eNil : EA := fun _ β => .ok [] β
def eCons (f : E) (g : EA) : EA := fun ρ β => (f ρ β).bind fun x β => (g ρ β).bind fun xs β => .ok (x :: xs) β
def eCall (F : List Rv → Option Rv) (f : EA) : E := fun ρ β => (f ρ β).bind fun xs β => R.of (F xs) β
/-- a call of a def of the text -/
def eFn (F : List Rv → Bag → R Rv) (f : EA) : E := fun ρ β => (f ρ β).bind F
def eVar (i : Nat) : E := fun ρ β => match ρ[i]? with
  | some (.dat d) => .ok (.fz d) β
  | some (.own ds) => .ok (.bo ds) β
  | some (.dic kvs) => .ok (.bd kvs) β
  | some .bag => .ok .bg β
  | _ => .no
def eC (d : D) : E := fun _ β => .ok (.fz d) β
def eTest (f : E) : ET := fun ρ β => (f ρ β).bind fun x β => R.of x.bool? β
def eAnd (f g : ET) : ET := fun ρ β => (f ρ β).bind fun b β => if b = true then g ρ β else .ok false β
def eOr (f g : ET) : ET := fun ρ β => (f ρ β).bind fun b β => if b = true then .ok true β else g ρ β
def eNot (f : ET) : ET := fun ρ β => (f ρ β).bind fun b β => .ok (!b) β
def eIf (t : ET) (f g : E) : E := fun ρ β => (t ρ β).bind fun b β => if b = true then f ρ β else g ρ β
def eAndV (f g : E) : E := fun ρ β => (f ρ β).bind fun x β => (R.of x.bool? β).bind fun b β => if b = true then g ρ β else .ok (.fz (.bool false)) β
def eOrV (f g : E) : E := fun ρ β => (f ρ β).bind fun x β => (R.of x.bool? β).bind fun b β => if b = true then .ok (.fz (.bool true)) β else g ρ β
def eNotV (f : E) : E := fun ρ β => (f ρ β).bind fun x β => (R.of x.bool? β).bind fun b β => .ok (.fz (.bool (!b))) β

def OpV (K : PySem.W.Frag) (r : R2) (F : Rv → Rv → Option Rv) : Prop := ∀ {H0 : Hp} {bg : BG} {Gs Hs G H : Hp} {β : Bag} {x y : V} {rx ry z : Rv}, Ct H0 bg Gs Hs G H β → VOk K H0 bg Hs G H x rx → VOk K H0 bg Hs G H y ry → F rx ry = some z → Yld K H0 bg Gs Hs H β (r x y) z
def UnV (K : PySem.W.Frag) (r : V → Hp → VK → Prop) (F : Rv → Option Rv) : Prop := ∀ {H0 : Hp} {bg : BG} {Gs Hs G H : Hp} {β : Bag} {x : V} {rx z : Rv}, Ct H0 bg Gs Hs G H β → VOk K H0 bg Hs G H x rx → F rx = some z → Yld K H0 bg Gs Hs H β (r x) z
def CaV (K : PySem.W.Frag) (r : List V → Hp → VK → Prop) (F : List Rv → Option Rv) : Prop := ∀ {H0 : Hp} {bg : BG} {Gs Hs G H : Hp} {β : Bag} {xs : List V} {rs : List Rv} {z : Rv}, Ct H0 bg Gs Hs G H β → VsOk K H0 bg Hs G H xs rs → F rs = some z → Yld K H0 bg Gs Hs H β (r xs) z

section
variable {K : PySem.W.Frag} {ec : EC} {W : WX} {σ : L2.St} {H : Hp} {Q : VK} {f g : E} {fs : EA} {t u : ET}
theorem read2 {r : R2} {F : Rv → Rv → Option Rv} (hv : OpV K r F) (h : rE K ec W (eBin F f g) σ H Q) : rE K ec W f σ H fun x H1 => rE K ec W g σ H1 fun y H2 => r x y H2 Q := by
  obtain ⟨H0, G0, bg, G, ρ, β, a, h⟩ := h
  refine rE_go a ?_
  simp only [eBin] at h
  cases hf : f ρ β with
  | no => rw [hf] at h; exact h
  | er e b => rw [hf] at h; exact h
  | ok x β1 =>
    rw [hf] at h
    intro v G1 H1 s1 v1
    refine rE_go (a.step s1) ?_
    simp only [R.bind] at h
    cases hg : g ρ β1 with
    | no => rw [hg] at h; exact h
    | er e b =>
      rw [hg] at h
      exact fun cl dd G' H' s2 he => h cl dd G' H' (s1.trans s2) he
    | ok y β2 =>
      rw [hg] at h
      intro v2 G2 H2 s2 v2'
      simp only at h
      cases hz : F x y with
      | none => rw [hz] at h; exact h.elim
      | some z =>
        rw [hz] at h
        exact hv ⟨s1.trans s2, a.gh⟩ (v1.step s2 s1.gh) (v2'.back s1.dm) hz Q h
theorem read1 {r : V → Hp → VK → Prop} {F : Rv → Option Rv} (hv : UnV K r F) (h : rE K ec W (eUn F f) σ H Q) : rE K ec W f σ H fun x H1 => r x H1 Q := by
  obtain ⟨H0, G0, bg, G, ρ, β, a, h⟩ := h
  refine rE_go a ?_
  simp only [eUn] at h
  cases hf : f ρ β with
  | no => rw [hf] at h; exact h
  | er e b => rw [hf] at h; exact h
  | ok x β1 =>
    rw [hf] at h
    intro v G1 H1 s1 v1
    simp only [R.bind] at h
    cases hz : F x with
    | none => rw [hz] at h; exact h.elim
    | some z =>
      rw [hz] at h
      exact hv ⟨s1, a.gh⟩ v1 hz Q h
theorem readC {r : List V → Hp → VK → Prop} {F : List Rv → Option Rv} (hv : CaV K r F) (h : rE K ec W (eCall F fs) σ H Q) : rA K ec W fs σ H fun x H1 => r x H1 Q := by
  obtain ⟨H0, G0, bg, G, ρ, β, a, h⟩ := h
  refine ⟨H0, G0, bg, G, ρ, β, a, ?_⟩
  simp only [eCall] at h
  cases hf : fs ρ β with
  | no => rw [hf] at h; exact h
  | er e b => rw [hf] at h; exact h
  | ok x β1 =>
    rw [hf] at h
    intro v G1 H1 s1 v1
    simp only [R.bind] at h
    cases hz : F x with
    | none => rw [hz] at h; exact h.elim
    | some z =>
      rw [hz] at h
      exact hv ⟨s1, a.gh⟩ v1 hz Q h
theorem readCons {Q : List V → Hp → Prop} (h : rA K ec W (eCons f fs) σ H Q) : rE K ec W f σ H fun x H1 => rA K ec W fs σ H1 fun xs H2 => Q (x :: xs) H2 := by
  obtain ⟨H0, G0, bg, G, ρ, β, a, h⟩ := h
  refine rE_go a ?_
  simp only [eCons] at h
  cases hf : f ρ β with
  | no => rw [hf] at h; exact h
  | er e b => rw [hf] at h; exact h
  | ok x β1 =>
    rw [hf] at h
    intro v G1 H1 s1 v1
    refine ⟨H0, G0, bg, G1, ρ, β1, a.step s1, ?_⟩
    simp only [R.bind] at h
    cases hg : fs ρ β1 with
    | no => rw [hg] at h; exact h
    | er e b =>
      rw [hg] at h
      exact fun cl dd G' H' s2 he => h cl dd G' H' (s1.trans s2) he
    | ok y β2 =>
      rw [hg] at h
      exact fun v2 G2 H2 s2 v2' => h _ G2 H2 (s1.trans s2) (.cons (v1.step s2 s1.gh) (L2.Paired.mapP v2' fun _ _ z => z.back s1.dm))
theorem readTest {Q : Bool → Hp → Prop} (h : rT K ec W (eTest f) σ H Q) : rE K ec W f σ H fun x H1 => ∃ k, x = .bl k ∧ Q k H1 := by
  obtain ⟨H0, G0, bg, G, ρ, β, a, h⟩ := h
  refine rE_go a ?_
  simp only [eTest] at h
  cases hf : f ρ β with
  | no => rw [hf] at h; exact h
  | er e b => rw [hf] at h; exact h
  | ok x β1 =>
    rw [hf] at h
    intro v G1 H1 s1 v1
    simp only [R.bind] at h
    cases hb : x.bool? with
    | none => rw [hb] at h; exact h.elim
    | some b =>
      rw [hb] at h
      exact ⟨b, v1.bool hb, h G1 H1 s1⟩
theorem readAnd {Q : Bool → Hp → Prop} (h : rT K ec W (eAnd t u) σ H Q) : tAnd (rT K ec W t) (rT K ec W u) σ H Q := by
  obtain ⟨H0, G0, bg, G, ρ, β, a, h⟩ := h
  refine ⟨H0, G0, bg, G, ρ, β, a, ?_⟩
  simp only [eAnd] at h
  cases hf : t ρ β with
  | no => rw [hf] at h; exact h
  | er e b => rw [hf] at h; exact h
  | ok x β1 =>
    rw [hf] at h
    intro G1 H1 s1
    simp only [R.bind] at h
    cases x with
    | false => exact h G1 H1 s1
    | true =>
      refine ⟨H0, G0, bg, G1, ρ, β1, a.step s1, ?_⟩
      simp only [R.of, if_true] at h
      cases hg : u ρ β1 with
      | no => rw [hg] at h; exact h
      | er e b =>
        rw [hg] at h
        exact fun cl dd G' H' s2 he => h cl dd G' H' (s1.trans s2) he
      | ok y β2 =>
        rw [hg] at h
        exact fun G2 H2 s2 => h G2 H2 (s1.trans s2)
theorem readOr {Q : Bool → Hp → Prop} (h : rT K ec W (eOr t u) σ H Q) : tOr (rT K ec W t) (rT K ec W u) σ H Q := by
  obtain ⟨H0, G0, bg, G, ρ, β, a, h⟩ := h
  refine ⟨H0, G0, bg, G, ρ, β, a, ?_⟩
  simp only [eOr] at h
  cases hf : t ρ β with
  | no => rw [hf] at h; exact h
  | er e b => rw [hf] at h; exact h
  | ok x β1 =>
    rw [hf] at h
    intro G1 H1 s1
    simp only [R.bind] at h
    cases x with
    | true => exact h G1 H1 s1
    | false =>
      refine ⟨H0, G0, bg, G1, ρ, β1, a.step s1, ?_⟩
      simp only [R.of, Bool.false_eq_true, if_false] at h
      cases hg : u ρ β1 with
      | no => rw [hg] at h; exact h
      | er e b =>
        rw [hg] at h
        exact fun cl dd G' H' s2 he => h cl dd G' H' (s1.trans s2) he
      | ok y β2 =>
        rw [hg] at h
        exact fun G2 H2 s2 => h G2 H2 (s1.trans s2)
theorem readNot {Q : Bool → Hp → Prop} (h : rT K ec W (eNot t) σ H Q) : tNot (rT K ec W t) σ H Q := by
  obtain ⟨H0, G0, bg, G, ρ, β, a, h⟩ := h
  refine ⟨H0, G0, bg, G, ρ, β, a, ?_⟩
  simp only [eNot] at h
  cases hf : t ρ β with
  | no => rw [hf] at h; exact h
  | er e b => rw [hf] at h; exact h
  | ok x β1 =>
    rw [hf] at h
    exact h
theorem readIf (h : rE K ec W (eIf t f g) σ H Q) : tIf (rT K ec W t) (rE K ec W f) (rE K ec W g) σ H Q := by
  obtain ⟨H0, G0, bg, G, ρ, β, a, h⟩ := h
  refine ⟨H0, G0, bg, G, ρ, β, a, ?_⟩
  simp only [eIf] at h
  cases hf : t ρ β with
  | no => rw [hf] at h; exact h
  | er e b => rw [hf] at h; exact h
  | ok x β1 =>
    rw [hf] at h
    intro G1 H1 s1
    simp only [R.bind] at h
    cases x with
    | true =>
      refine rE_go (a.step s1) ?_
      simp only [R.of, if_true] at h
      cases hg : f ρ β1 with
      | no => rw [hg] at h; exact h
      | er e b =>
        rw [hg] at h
        exact fun cl dd G' H' s2 he => h cl dd G' H' (s1.trans s2) he
      | ok y β2 =>
        rw [hg] at h
        exact fun v G2 H2 s2 hv => h v G2 H2 (s1.trans s2) (hv.back s1.dm)
    | false =>
      refine rE_go (a.step s1) ?_
      simp only [R.of, Bool.false_eq_true, if_false] at h
      cases hg : g ρ β1 with
      | no => rw [hg] at h; exact h
      | er e b =>
        rw [hg] at h
        exact fun cl dd G' H' s2 he => h cl dd G' H' (s1.trans s2) he
      | ok y β2 =>
        rw [hg] at h
        exact fun v G2 H2 s2 hv => h v G2 H2 (s1.trans s2) (hv.back s1.dm)
theorem readAndV (h : rE K ec W (eAndV f g) σ H Q) : tAndV (rE K ec W f) (rE K ec W g) σ H Q := by
  obtain ⟨H0, G0, bg, G, ρ, β, a, h⟩ := h
  refine ⟨H0, G0, bg, G, ρ, β, a, ?_⟩
  simp only [eAndV] at h
  cases hf : f ρ β with
  | no => rw [hf] at h; exact h
  | er e b => rw [hf] at h; exact h
  | ok x β1 =>
    rw [hf] at h
    intro v G1 H1 s1 v1
    simp only [R.bind] at h
    cases hb : x.bool? with
    | none => rw [hb] at h; exact h.elim
    | some b =>
      rw [hb] at h
      refine ⟨b, v1.bool hb, ?_⟩
      cases b with
      | false => exact h _ G1 H1 s1 (Dr.bl false)
      | true =>
        refine rE_go (a.step s1) ?_
        simp only [R.of, if_true] at h
        cases hg : g ρ β1 with
        | no => rw [hg] at h; exact h
        | er e b =>
          rw [hg] at h
          exact fun cl dd G' H' s2 he => h cl dd G' H' (s1.trans s2) he
        | ok y β2 =>
          rw [hg] at h
          exact fun v G2 H2 s2 hv => h v G2 H2 (s1.trans s2) (hv.back s1.dm)
theorem readOrV (h : rE K ec W (eOrV f g) σ H Q) : tOrV (rE K ec W f) (rE K ec W g) σ H Q := by
  obtain ⟨H0, G0, bg, G, ρ, β, a, h⟩ := h
  refine ⟨H0, G0, bg, G, ρ, β, a, ?_⟩
  simp only [eOrV] at h
  cases hf : f ρ β with
  | no => rw [hf] at h; exact h
  | er e b => rw [hf] at h; exact h
  | ok x β1 =>
    rw [hf] at h
    intro v G1 H1 s1 v1
    simp only [R.bind] at h
    cases hb : x.bool? with
    | none => rw [hb] at h; exact h.elim
    | some b =>
      rw [hb] at h
      refine ⟨b, v1.bool hb, ?_⟩
      cases b with
      | true => exact h _ G1 H1 s1 (Dr.bl true)
      | false =>
        refine rE_go (a.step s1) ?_
        simp only [R.of, Bool.false_eq_true, if_false] at h
        cases hg : g ρ β1 with
        | no => rw [hg] at h; exact h
        | er e b =>
          rw [hg] at h
          exact fun cl dd G' H' s2 he => h cl dd G' H' (s1.trans s2) he
        | ok y β2 =>
          rw [hg] at h
          exact fun v G2 H2 s2 hv => h v G2 H2 (s1.trans s2) (hv.back s1.dm)
theorem readNotV (h : rE K ec W (eNotV f) σ H Q) : tNotV (rE K ec W f) σ H Q := by
  obtain ⟨H0, G0, bg, G, ρ, β, a, h⟩ := h
  refine ⟨H0, G0, bg, G, ρ, β, a, ?_⟩
  simp only [eNotV] at h
  cases hf : f ρ β with
  | no => rw [hf] at h; exact h
  | er e b => rw [hf] at h; exact h
  | ok x β1 =>
    rw [hf] at h
    intro v G1 H1 s1 v1
    simp only [R.bind] at h
    cases hb : x.bool? with
    | none => rw [hb] at h; exact h.elim
    | some b =>
      rw [hb] at h
      exact ⟨b, v1.bool hb, h _ G1 H1 s1 (Dr.bl _)⟩
theorem readVar {i : Nat} (h : rE K ec W (eVar i) σ H Q) : tVar i σ H Q := by
  obtain ⟨H0, G0, bg, G, ρ, β, a, h⟩ := h
  have s0 : Stp bg G H G H β := Stp.refl a.gh a.bagOk
  unfold eVar at h
  cases hi : ρ[i]? with
  | none => rw [hi] at h; exact h.elim
  | some sl =>
    rw [hi] at h
    obtain ⟨o, h1, h2⟩ := a.slots i _ hi
    cases sl with
    | no => exact h.elim
    | dat d =>
      obtain ⟨v, rfl, hd⟩ := h2
      exact ⟨v, h1, h v G H s0 hd⟩
    | own ds =>
      obtain ⟨l, vs, rfl, h3, h4⟩ := h2
      obtain ⟨g1, g2, g3⟩ := a.owns i _ l hi rfl h1
      exact ⟨.ref l, h1, h _ G H s0 ⟨l, vs, rfl, g1, h3, g2, g3, h4⟩⟩
    | dic ds =>
      obtain ⟨l, vs, rfl, h3, h4⟩ := h2
      obtain ⟨g1, g2, g3⟩ := a.owns i _ l hi rfl h1
      exact ⟨.ref l, h1, h _ G H s0 ⟨l, vs, rfl, g1, h3, g2, g3, h4⟩⟩
    | scr _ => exact h.elim
    | bag =>
      obtain ⟨b, c, rfl, rfl⟩ := h2
      exact ⟨.ref b, h1, h _ G H s0 ⟨b, c, rfl, rfl⟩⟩
theorem readConst {v : V} {d : D} (hd : ∀ G, Dr K G v d) (h : rE K ec W (eC d) σ H Q) : tC v σ H Q := by
  obtain ⟨H0, G0, bg, G, ρ, β, a, h⟩ := h
  exact h v G H (Stp.refl a.gh a.bagOk) (hd G)
end

/-! ### the rules -/
section
variable {X : Cx} {ec : EC} {W : WX} {a b c : Expr} {es : List Expr} {f g : E} {fs : EA} {t u : ET} {pos : Pos}
theorem se_bin {op : Operator} {r : R2} {F : Rv → Rv → Option Rv} (ho : OpR X (binaryOp op) r) (hv : OpV X.K r F) (ha : SE X ec W a f) (hb : SE X ec W b g) : SE X ec W (.BinOp a op b pos) (eBin F f g) :=
  PE.imp (pe_op ho ha hb) fun σ H Q h => read2 hv h
theorem se_un {op : UnaryOp} {r : V → Hp → VK → Prop} {F : Rv → Option Rv} (ho : UnR X (unaryOp op) r) (hv : UnV X.K r F) (ha : SE X ec W a f) : SE X ec W (.UnaryOp op a pos) (eUn F f) :=
  PE.imp (pe_un ho ha) fun σ H Q h => read1 hv h
theorem se_cmp {op : CmpOp} {r : R2} {F : Rv → Rv → Option Rv} (ho : OpR X (compareOp op) r) (hv : OpV X.K r F) (ha : SE X ec W a f) (hb : SE X ec W b g) (hm : behindInMarks op b = false := by first | exact nomark _ | rfl) : SE X ec W (.Compare a [op] [b] pos) (eBin F f g) :=
  PE.imp (pe_cmpR ho ha hb hm) fun σ H Q h => read2 hv h
theorem st_cmp {op : CmpOp} {r : R2} {F : Rv → Rv → Option Rv} (ho : OpR X (compareOp op) r) (hv : OpV X.K r F) (ha : SE X ec W a f) (hb : SE X ec W b g) (hm : behindInMarks op b = false := by first | exact nomark _ | rfl) : ST X ec W (.Compare a [op] [b] pos) (eTest (eBin F f g)) :=
  PT.imp (pt_cmpR ho ha hb hm) fun σ H Q h => by
    obtain ⟨H0, G0, bg, G, ρ, β, a, h⟩ := readTest h
    exact read2 hv ⟨H0, G0, bg, G, ρ, β, a, h⟩
theorem st_val (ha : SE X ec W a f) (he : ∀ whole, isTrue a X.env whole = (do let v ← whole; standAt a.pos; holding [v] (truthy v)) := by intro _; rfl) : ST X ec W a (eTest f) :=
  PT.imp (pt_val ha he) fun σ H Q h => readTest h
theorem sw_and1 (ha : ST X ec W a t) : SW X ec W (.BoolOp .And [a] pos) t := pw_and1 ha
theorem sw_or1 (ha : ST X ec W a t) : SW X ec W (.BoolOp .Or [a] pos) t := pw_or1 ha
theorem sw_and (ha : ST X ec W a t) (hb : SW X ec W (.BoolOp .And (b :: es) pos) u) : SW X ec W (.BoolOp .And (a :: b :: es) pos) (eAnd t u) :=
  PW.imp (pw_and ha hb) fun σ H Q h => readAnd h
theorem sw_or (ha : ST X ec W a t) (hb : SW X ec W (.BoolOp .Or (b :: es) pos) u) : SW X ec W (.BoolOp .Or (a :: b :: es) pos) (eOr t u) :=
  PW.imp (pw_or ha hb) fun σ H Q h => readOr h
theorem st_bop (h : SW X ec W a t) : ST X ec W a t := h.pt
theorem st_not (ha : ST X ec W a t) : ST X ec W (.UnaryOp .Not a pos) (eNot t) := PT.imp (pt_not ha) fun σ H Q h => readNot h
theorem se_ifx (hc : ST X ec W c t) (ha : SE X ec W a f) (hb : SE X ec W b g) : SE X ec W (.IfExp c a b pos) (eIf t f g) := PE.imp (pe_ifExp hc ha hb) fun σ H Q h => readIf h
theorem se_one {op} (ha : SE X ec W a f) : SE X ec W (.BoolOp op [a] pos) f := pe_one ha
theorem se_and (ha : SE X ec W a f) (hb : SE X ec W (.BoolOp .And (b :: es) pos) g) : SE X ec W (.BoolOp .And (a :: b :: es) pos) (eAndV f g) := PE.imp (pe_and ha hb) fun σ H Q h => readAndV h
theorem se_or (ha : SE X ec W a f) (hb : SE X ec W (.BoolOp .Or (b :: es) pos) g) : SE X ec W (.BoolOp .Or (a :: b :: es) pos) (eOrV f g) := PE.imp (pe_or ha hb) fun σ H Q h => readOrV h
theorem se_not (ha : SE X ec W a f) : SE X ec W (.UnaryOp .Not a pos) (eNotV f) := PE.imp (pe_not ha) fun σ H Q h => readNotV h
theorem sv (i : Nat) {x : Str} (hN : X.N[i]? = some x := by rfl) (hv : Vis X.env.scope x := by first | exact Or.inl rfl | exact Or.inr (Or.inl rfl) | exact Or.inr (Or.inr rfl)) (hd : (x == ("__debug__" : Str)) = false := by decide)
    (hcd : (x == ("__classdict__" : Str)) = false := by decide) : SE X ec W (.Name x pos) (eVar i) := PE.imp (pe_var hN hv hd hcd) fun σ H Q h => readVar h
theorem se_int {i : Int} {j} : SE X ec W (.Constant (.int i) j pos) (eC (.int i)) := PE.imp pe_int fun σ H Q h => readConst (fun _ => Dr.int i) h
theorem se_bl {i : Bool} {j} : SE X ec W (.Constant (.bool i) j pos) (eC (.bool i)) := PE.imp pe_bl fun σ H Q h => readConst (fun _ => Dr.bl i) h
theorem se_non {j} : SE X ec W (.Constant .none j pos) (eC .none) := PE.imp pe_non fun σ H Q h => readConst (fun _ => Dr.non) h
theorem se_str {x : Str} {j} : SE X ec W (.Constant (.str x) j pos) (eC (.str x)) := PE.imp pe_str fun σ H Q h => readConst (fun _ => Dr.str x) h
theorem sa_nil : SA X ec W [] eNil := PA.imp pa_nil fun σ H Q h => by
  obtain ⟨H0, G0, bg, G, ρ, β, a, h⟩ := h
  exact h [] G H (Stp.refl a.gh a.bagOk) .nil
theorem sa_cons (ha : SE X ec W a f) (hr : SA X ec W es fs) (hs : starEach (a :: es) X.env = (false, eval a X.env) :: starEach es X.env := by rfl) : SA X ec W (a :: es) (eCons f fs) :=
  PA.imp (pa_cons ha hr hs) fun σ H Q h => readCons h
theorem se_callB {id : String} {x : Str} {p : Pos} {r : List V → Hp → VK → Prop} {F : List Rv → Option Rv} (hc : CallR X (.builtin id) r) (hv : CaV X.K r F) (hg : Gl X x) (hm : X.mg x = none) (hb : bootBuiltins x = some (.builtin id)) (ha : SA X ec W (a :: es) fs)
    (hn : x ≠ "__name__" := by decide) (hdb : (x == ("__debug__" : Str)) = false := by decide) (he : starEach (a :: es) X.env = (false, eval a X.env) :: starEach es X.env := by rfl) (hpl : (backTo pos (starEach es X.env)).any (·.1) = false := by rfl) :
    SE X ec W (.Call (.Name x p) (a :: es) [] pos) (eCall F fs) := PE.imp (pe_callB hc hg hm hb ha hn hdb he hpl) fun σ H Q h => readC hv h
theorem se_callTy {T : String} {x : Str} {p : Pos} {r : List V → Hp → VK → Prop} {F : List Rv → Option Rv} (hc : CallR X (.type T) r) (hv : CaV X.K r F) (hg : Gl X x) (hm : X.mg x = none) (hb : bootBuiltins x = some (.type T)) (ha : SA X ec W (a :: es) fs)
    (hn : x ≠ "__name__" := by decide) (hdb : (x == ("__debug__" : Str)) = false := by decide) (he : starEach (a :: es) X.env = (false, eval a X.env) :: starEach es X.env := by rfl) (hpl : (backTo pos (starEach es X.env)).any (·.1) = false := by rfl) :
    SE X ec W (.Call (.Name x p) (a :: es) [] pos) (eCall F fs) := PE.imp (pe_callTy hc hg hm hb ha hn hdb he hpl) fun σ H Q h => readC hv h
end
end VL

/-! VL2: statements. -/
namespace VL
open PySem PySem.Spec PyProof.Rows L2

def PostS (K : PySem.W.Frag) (ec : EC) (W : WX) (H0 G0 : Hp) (bg : BG) (D : Ends) (G : Hp) : Out → Prop
  | .nx ρ β => ∀ σ' G' H', Ag K H0 G0 bg G' H' σ' ρ β → Ex G G' → D.nx σ' H'
  | .bk ρ β => ∀ σ' G' H', Ag K H0 G0 bg G' H' σ' ρ β → Ex G G' → D.bk σ' H'
  | .ct ρ β => ∀ σ' G' H', Ag K H0 G0 bg G' H' σ' ρ β → Ex G G' → D.ct σ' H'
  | .rt r β => ∀ v G' H', Stp bg G0 H0 G' H' β → VOk K H0 bg H0 G' H' v r → D.rt v H'
  | .er e ρ β => ∀ cl dd σ' G' H', Ag K H0 G0 bg G' H' σ' ρ β → Ex G G' → ec e cl dd H' → W cl dd σ' H'
  | .no => False
def rS (K : PySem.W.Frag) (ec : EC) (W : WX) (f : T) : TS := fun D σ H => ∃ H0 G0 bg G ρ β, Ag K H0 G0 bg G H σ ρ β ∧ PostS K ec W H0 G0 bg D G (f ρ β)
abbrev SS (X : Cx) (ec : EC) (W : WX) (st : Stmt) (f : T) : Prop := PS X st (rS X.K ec W f)
abbrev SSs (X : Cx) (ec : EC) (W : WX) (sts : List Stmt) (f : T) : Prop := PSs X sts (rS X.K ec W f)

theorem PostS.mono {K : PySem.W.Frag} {ec : EC} {W : WX} {H0 G0 : Hp} {bg : BG} {D : Ends} {G G1 : Hp} (e : Ex G G1) : ∀ {o : Out}, PostS K ec W H0 G0 bg D G o → PostS K ec W H0 G0 bg D G1 o
  | .nx _ _, h => fun σ' G' H' a x => h σ' G' H' a (e.trans x)
  | .bk _ _, h => fun σ' G' H' a x => h σ' G' H' a (e.trans x)
  | .ct _ _, h => fun σ' G' H' a x => h σ' G' H' a (e.trans x)
  | .rt _ _, h => h
  | .er _ _ _, h => fun cl dd σ' G' H' a x => h cl dd σ' G' H' a (e.trans x)
  | .no, h => h

/-! ### slots set -/
section
variable {K : PySem.W.Frag} {H0 G0 : Hp} {bg : BG} {G H : Hp} {σ : L2.St} {ρ : Env} {β : Bag}
theorem lt_of_some {α : Type} {l : List α} {i : Nat} {x : α} (h : l[i]? = some x) : i < l.length := (List.getElem?_eq_some_iff.mp h).1
theorem Ag.hlen (a : Ag K H0 G0 bg G H σ ρ β) {i : Nat} (h : i < ρ.length) : i < σ.length := by
  obtain ⟨o, h1, _⟩ := a.slots i ρ[i] (List.getElem?_eq_getElem h)
  exact lt_of_some h1
/-- a slot forgotten -/
theorem Ag.wipe1 (a : Ag K H0 G0 bg G H σ ρ β) (i : Nat) : Ag K H0 G0 bg G H σ (ρ.set i .no) β where
  gh := a.gh
  kp := a.kp
  dm := a.dm
  fr := a.fr
  bagOk := a.bagOk
  bagG := a.bagG
  slots := fun j s h => by
    by_cases hj : i = j
    · subst hj
      have hl : i < ρ.length := by
        have := lt_of_some h
        rw [List.length_set] at this
        exact this
      rw [List.getElem?_set_self hl] at h
      cases h
      obtain ⟨o, h1, _⟩ := a.slots i ρ[i] (List.getElem?_eq_getElem hl)
      exact ⟨o, h1, trivial⟩
    · rw [List.getElem?_set_ne hj] at h
      exact a.slots j s h
  owns := fun j s l h ho e => by
    by_cases hj : i = j
    · subst hj
      have hl : i < ρ.length := by
        have := lt_of_some h
        rw [List.length_set] at this
        exact this
      rw [List.getElem?_set_self hl] at h
      cases h
      cases ho
    · rw [List.getElem?_set_ne hj] at h
      exact a.owns j s l h ho e
  dist := fun j k s t l h ho e h' ho' e' => by
    by_cases hj : i = j
    · subst hj
      have hl : i < ρ.length := by
        have := lt_of_some h
        rw [List.length_set] at this
        exact this
      rw [List.getElem?_set_self hl] at h
      cases h
      cases ho
    · by_cases hk : i = k
      · subst hk
        have hl : i < ρ.length := by
          have := lt_of_some h'
          rw [List.length_set] at this
          exact this
        rw [List.getElem?_set_self hl] at h'
        cases h'
        cases ho'
      · rw [List.getElem?_set_ne hj] at h
        rw [List.getElem?_set_ne hk] at h'
        exact a.dist j k s t l h ho e h' ho' e'
/-- a slot that nothing is known of may be anything -/
theorem Ag.setNo (a : Ag K H0 G0 bg G H σ ρ β) {i : Nat} (hi : ρ[i]? = some .no) (o : Option V) : Ag K H0 G0 bg G H (σ.set i o) ρ β where
  gh := a.gh
  kp := a.kp
  dm := a.dm
  fr := a.fr
  bagOk := a.bagOk
  bagG := a.bagG
  slots := fun j s h => by
    by_cases hj : i = j
    · subst hj
      rw [hi] at h
      cases h
      exact ⟨o, List.getElem?_set_self (a.hlen (lt_of_some hi)), trivial⟩
    · rw [List.getElem?_set_ne hj]
      exact a.slots j s h
  owns := fun j s l h ho e => by
    by_cases hj : i = j
    · subst hj
      rw [hi] at h
      cases h
      cases ho
    · rw [List.getElem?_set_ne hj] at e
      exact a.owns j s l h ho e
  dist := fun j k s t l h ho e h' ho' e' => by
    by_cases hj : i = j
    · subst hj
      rw [hi] at h
      cases h
      cases ho
    · by_cases hk : i = k
      · subst hk
        rw [hi] at h'
        cases h'
        cases ho'
      · rw [List.getElem?_set_ne hj] at e
        rw [List.getElem?_set_ne hk] at e'
        exact a.dist j k s t l h ho e h' ho' e'
/-- a slot gets what stands at it -/
theorem Ag.put (a : Ag K H0 G0 bg G H σ ρ β) {i : Nat} {s : Sl} {o : Option V} (hi : ρ[i]? = some .no) (hσ : σ[i]? = some o) (hs : SlOk K bg G H s o)
    (hn : ∀ l, Own s = true → o = some (V.ref l) → (H0 l = none ∧ G l = none ∧ ¬ inB bg l) ∧ ∀ (j : Nat) (t : Sl), ρ[j]? = some t → Own t = true → σ[j]? ≠ some (some (V.ref l))) : Ag K H0 G0 bg G H σ (ρ.set i s) β where
  gh := a.gh
  kp := a.kp
  dm := a.dm
  fr := a.fr
  bagOk := a.bagOk
  bagG := a.bagG
  slots := fun j t h => by
    by_cases hj : i = j
    · subst hj
      rw [List.getElem?_set_self (lt_of_some hi)] at h
      cases h
      exact ⟨o, hσ, hs⟩
    · rw [List.getElem?_set_ne hj] at h
      exact a.slots j t h
  owns := fun j t l h ho e => by
    by_cases hj : i = j
    · subst hj
      rw [List.getElem?_set_self (lt_of_some hi)] at h
      cases h
      rw [hσ] at e
      cases e
      exact (hn l ho rfl).1
    · rw [List.getElem?_set_ne hj] at h
      exact a.owns j t l h ho e
  dist := fun j k t u l h ho e h' ho' e' => by
    by_cases hj : i = j
    · subst hj
      rw [List.getElem?_set_self (lt_of_some hi)] at h
      cases h
      rw [hσ] at e
      cases e
      by_cases hk : i = k
      · exact hk
      · rw [List.getElem?_set_ne hk] at h'
        exact absurd e' ((hn l ho rfl).2 k u h' ho')
    · rw [List.getElem?_set_ne hj] at h
      by_cases hk : i = k
      · subst hk
        rw [List.getElem?_set_self (lt_of_some hi)] at h'
        cases h'
        rw [hσ] at e'
        cases e'
        exact absurd e ((hn l ho' rfl).2 j t h ho)
      · rw [List.getElem?_set_ne hk] at h'
        exact a.dist j k t u l h ho e h' ho' e'
theorem Ag.set (a : Ag K H0 G0 bg G H σ ρ β) {i : Nat} {s : Sl} {v : V} (hi : i < ρ.length) (hs : SlOk K bg G H s (some v))
    (hn : ∀ l, Own s = true → v = V.ref l → (H0 l = none ∧ G l = none ∧ ¬ inB bg l) ∧ ∀ (j : Nat) (t : Sl), ρ[j]? = some t → Own t = true → σ[j]? ≠ some (some (V.ref l))) : Ag K H0 G0 bg G H (σ.set i (some v)) (ρ.set i s) β := by
  have h1 : (ρ.set i .no)[i]? = some .no := List.getElem?_set_self hi
  have a1 := (a.wipe1 i).setNo h1 (some v)
  have e : (ρ.set i .no).set i s = ρ.set i s := List.set_set _
  rw [← e]
  refine a1.put h1 (List.getElem?_set_self (a.hlen hi)) hs fun l ho el => ?_
  cases el
  obtain ⟨g1, g2⟩ := hn l ho rfl
  refine ⟨g1, fun j t h ho' q => ?_⟩
  by_cases hj : i = j
  · subst hj
    rw [h1] at h
    cases h
    cases ho'
  · rw [List.getElem?_set_ne hj] at h q
    exact g2 j t h ho' q
/-- the slots forgotten -/
theorem Ag.wipes (a : Ag K H0 G0 bg G H σ ρ β) : ∀ (is : List Nat), Ag K H0 G0 bg G H σ (is.foldl (fun ρ i => ρ.set i .no) ρ) β := fun is => by
  induction is generalizing ρ with
  | nil => exact a
  | cons i is ih => exact ih (a.wipe1 i)
end

/-- what a value is in a slot; frz: a new list that nobody will change -/
def Rv.slot (frz : Bool) : Rv → Option Sl
  | .fz d => some (.dat d)
  | .tm ds => some (if frz then .dat (.list ds) else .own ds)
  | .td kvs => some (.dic kvs)
  | _ => none
def Rv.out : Rv → Rv
  | .bo ds => .tm ds
  | .bd kvs => .td kvs
  | r => r
section
variable {K : PySem.W.Frag} {H0 G0 : Hp} {bg : BG} {G H G1 H1 : Hp} {σ : L2.St} {ρ : Env} {β β1 : Bag}
/-- a value goes into a slot -/
theorem Ag.store (a : Ag K H0 G0 bg G H σ ρ β) (st : Stp bg G H G1 H1 β1) {i : Nat} {r : Rv} {s : Sl} {v : V} {frz : Bool} (hi : i < ρ.length) (hv : VOk K H0 bg H G1 H1 v r) (hs : r.slot frz = some s) :
    ∃ G2, Ag K H0 G0 bg G2 H1 (σ.set i (some v)) (ρ.set i s) β1 ∧ Ex G1 G2 := by
  have a1 := a.step st
  have fre : ∀ l, H l = none → ∀ (j : Nat) (t : Sl), ρ[j]? = some t → Own t = true → σ[j]? ≠ some (some (.ref l)) := fun l hl j t h ho e => by
    obtain ⟨o, h1, h2⟩ := a.slots j t h
    rw [e] at h1
    cases h1
    exact h2.dom ho hl
  cases r with
  | fz d =>
    simp only [Rv.slot, Option.some.injEq] at hs
    subst hs
    exact ⟨G1, a1.set hi ⟨v, rfl, hv⟩ (fun l ho => by cases ho), Ex.refl _⟩
  | tm ds =>
    simp only [Rv.slot, Option.some.injEq] at hs
    cases frz with
    | true =>
      simp only [if_true] at hs
      subst hs
      obtain ⟨G2, c2, e2, h2⟩ := Ct.freeze (H0 := H0) ⟨st, a.gh⟩ (VOk.keep (d := .list ds) hv rfl)
      exact ⟨G2, (a.step c2.st).set hi ⟨v, rfl, h2⟩ (fun l ho => by cases ho), e2⟩
    | false =>
      simp only [Bool.false_eq_true, if_false] at hs
      subst hs
      obtain ⟨l, vs, rfl, h2, h3, h4, h5, h6⟩ := hv
      refine ⟨G1, a1.set hi ⟨l, vs, rfl, h3, h6⟩ (fun l' _ e => ?_), Ex.refl _⟩
      cases e
      exact ⟨⟨none_back a.dm h2, h4, h5⟩, fre l h2⟩
  | td kvs =>
    simp only [Rv.slot, Option.some.injEq] at hs
    subst hs
    obtain ⟨l, vs, rfl, h2, h3, h4, h5, h6⟩ := hv
    refine ⟨G1, a1.set hi ⟨l, vs, rfl, h3, h6⟩ (fun l' _ e => ?_), Ex.refl _⟩
    cases e
    exact ⟨⟨none_back a.dm h2, h4, h5⟩, fre l h2⟩
  | bo ds => simp [Rv.slot] at hs
  | bd ds => simp [Rv.slot] at hs
  | bg => simp [Rv.slot] at hs
theorem VOk.out {v : V} {r : Rv} (d : ∀ a, H0 a ≠ none → H a ≠ none) (h : VOk K H0 bg H G1 H1 v r) : VOk K H0 bg H0 G1 H1 v r.out := by
  cases r with
  | fz d => exact h
  | tm ds => exact h.back d
  | td ds => exact h.back d
  | bg => exact h
  | bo ds =>
    obtain ⟨l, vs, h1, h2, h3, h4, h5, h6⟩ := h
    exact ⟨l, vs, h1, h2, h3, h4, h5, h6⟩
  | bd ds =>
    obtain ⟨l, vs, h1, h2, h3, h4, h5, h6⟩ := h
    exact ⟨l, vs, h1, h2, h3, h4, h5, h6⟩
end

/-! ### what statements do -/
def R.out (r : R Rv) (ρ : Env) (k : Rv → Bag → Out) : Out := match r with
  | .ok a β => k a β
  | .er e β => .er e ρ β
  | .no => .no
theorem R.out_ok {a : Rv} {β : Bag} {ρ : Env} {k : Rv → Bag → Out} : R.out (.ok a β) ρ k = k a β := rfl
theorem R.out_er {e : Err} {β : Bag} {ρ : Env} {k : Rv → Bag → Out} : R.out (.er e β) ρ k = .er e ρ β := rfl
theorem R.out_no {ρ : Env} {k : Rv → Bag → Out} : R.out .no ρ k = .no := rfl
def sNil : T := fun ρ β => .nx ρ β
def Out.seq (o : Out) (k : T) : Out := match o with
  | .nx ρ β => k ρ β
  | o => o
def sSeq (s t : T) : T := fun ρ β => (s ρ β).seq t
def sAsg (i : Nat) (frz : Bool) (f : E) : T := fun ρ β => (f ρ β).out ρ fun r β => match r.slot frz with
  | some s => if i < ρ.length then .nx (ρ.set i s) β else .no
  | none => .no
def sDrop (f : E) : T := fun ρ β => (f ρ β).out ρ fun _ β => .nx ρ β
def sRet (f : E) : T := fun ρ β => (f ρ β).out ρ fun r β => .rt r.out β
def sRetN : T := fun _ β => .rt (.fz .none) β
def sIf (t : ET) (s u : T) : T := fun ρ β => match t ρ β with
  | .ok true β => s ρ β
  | .ok false β => u ρ β
  | .er e β => .er e ρ β
  | .no => .no
/-- an own list will not change any more -/
def sFrz (i : Nat) : T := fun ρ β => match ρ[i]? with
  | some (.own ds) => .nx (ρ.set i (.dat (.list ds))) β
  | some (.dat _) => .nx ρ β
  | _ => .no
/-- slots forgotten -/
def sFor (is : List Nat) : T := fun ρ β => .nx (is.foldl (fun ρ i => ρ.set i .no) ρ) β

section
variable {K : PySem.W.Frag} {ec : EC} {W : WX} {σ : L2.St} {H : Hp} {D : Ends} {f g : E} {s t : T} {c : ET}
theorem read_er {H0 G0 : Hp} {bg : BG} {G : Hp} {ρ : Env} {β b : Bag} {e : Err} (a : Ag K H0 G0 bg G H σ ρ β) (h : PostS K ec W H0 G0 bg D G (.er e ρ b)) :
    ∀ cl dd G' H', Stp bg G H G' H' b → ec e cl dd H' → W cl dd σ H' := fun cl dd G' H' st he => h cl dd σ G' H' (a.step st) (st.gg a.gh) he
theorem readSeq (h : rS K ec W (sSeq s t) D σ H) : tSeq (rS K ec W s) (rS K ec W t) D σ H := by
  obtain ⟨H0, G0, bg, G, ρ, β, a, h⟩ := h
  refine ⟨H0, G0, bg, G, ρ, β, a, ?_⟩
  simp only [sSeq] at h
  cases hs : s ρ β with
  | nx ρ1 β1 =>
    rw [hs] at h
    exact fun σ' G' H' a' e => ⟨H0, G0, bg, G', ρ1, β1, a', PostS.mono e h⟩
  | rt r b => rw [hs] at h; exact h
  | bk r b => rw [hs] at h; exact h
  | ct r b => rw [hs] at h; exact h
  | er e r b => rw [hs] at h; exact h
  | no => rw [hs] at h; exact h
theorem readAsg {i : Nat} {frz : Bool} (h : rS K ec W (sAsg i frz f) D σ H) : tAsg (rE K ec W f) (gName i) D σ H := by
  obtain ⟨H0, G0, bg, G, ρ, β, a, h⟩ := h
  refine rE_go a ?_
  simp only [sAsg] at h
  cases hf : f ρ β with
  | no => rw [hf] at h; exact h
  | er e b => rw [hf] at h; exact read_er a h
  | ok x β1 =>
    rw [hf] at h
    intro v G1 H1 st hv
    simp only [R.out] at h
    cases hs : x.slot frz with
    | none => rw [hs] at h; exact h.elim
    | some sl =>
      rw [hs] at h
      simp only at h
      split at h
      · rename_i hi
        obtain ⟨G2, a2, e2⟩ := a.store st hi hv hs
        exact h _ G2 H1 a2 ((st.gg a.gh).trans e2)
      · exact h.elim
theorem readDrop (h : rS K ec W (sDrop f) D σ H) : tDrop (rE K ec W f) D σ H := by
  obtain ⟨H0, G0, bg, G, ρ, β, a, h⟩ := h
  refine rE_go a ?_
  simp only [sDrop] at h
  cases hf : f ρ β with
  | no => rw [hf] at h; exact h
  | er e b => rw [hf] at h; exact read_er a h
  | ok x β1 =>
    rw [hf] at h
    exact fun v G1 H1 st hv => h σ G1 H1 (a.step st) (st.gg a.gh)
theorem readRet (h : rS K ec W (sRet f) D σ H) : tRet (rE K ec W f) D σ H := by
  obtain ⟨H0, G0, bg, G, ρ, β, a, h⟩ := h
  refine rE_go a ?_
  simp only [sRet] at h
  cases hf : f ρ β with
  | no => rw [hf] at h; exact h
  | er e b => rw [hf] at h; exact read_er a h
  | ok x β1 =>
    rw [hf] at h
    exact fun v G1 H1 st hv => h v G1 H1 (a.step st).stp (hv.out a.dm)
theorem readIfS (h : rS K ec W (sIf c s t) D σ H) : tIfS (rT K ec W c) (rS K ec W s) (rS K ec W t) D σ H := by
  obtain ⟨H0, G0, bg, G, ρ, β, a, h⟩ := h
  refine ⟨H0, G0, bg, G, ρ, β, a, ?_⟩
  simp only [sIf] at h
  cases hf : c ρ β with
  | no => rw [hf] at h; exact h
  | er e b => rw [hf] at h; exact read_er a h
  | ok x β1 =>
    rw [hf] at h
    intro G1 H1 st
    cases x with
    | true => exact ⟨H0, G0, bg, G1, ρ, β1, a.step st, PostS.mono (st.gg a.gh) h⟩
    | false => exact ⟨H0, G0, bg, G1, ρ, β1, a.step st, PostS.mono (st.gg a.gh) h⟩
/-- the view of a state frozen at a slot -/
theorem Ag.frz {H0 G0 : Hp} {bg : BG} {G : Hp} {ρ : Env} {β : Bag} {i : Nat} {ds : List PyData} (a : Ag K H0 G0 bg G H σ ρ β) (hi : ρ[i]? = some (.own ds)) : ∃ G1, Ag K H0 G0 bg G1 H σ (ρ.set i (.dat (.list ds))) β ∧ Ex G G1 := by
  obtain ⟨o, h1, l, vs, rfl, h3, h4⟩ := a.slots i _ hi
  obtain ⟨g1, g2, g3⟩ := a.owns i _ l hi rfl h1
  have e : Ex G (upd G l (.lst vs)) := Ex.new g2
  have hne : ∀ (j : Nat) (t : Sl) (m : Addr), ρ[j]? = some t → Own t = true → σ[j]? = some (some (.ref m)) → i ≠ j → m ≠ l := fun j t m ht ho hm hij z => by
    subst z
    exact hij (a.dist i j _ t _ hi rfl h1 ht ho hm)
  refine ⟨upd G l (.lst vs), ⟨fun b o h => ?_, a.kp, a.dm, fun b h => ?_, a.bagOk, fun b h => ?_, fun j s h => ?_, fun j s m h ho em => ?_, fun j k s t m h ho em h' ho' em' => ?_⟩, e⟩
  · by_cases hb : b = l
    · subst hb
      rw [upd_same] at h
      cases h
      exact h3
    · rw [upd_ne hb] at h
      exact a.gh b o h
  · rw [upd_ne (fun z => h (by rw [z]; exact g1))]
    exact a.fr b h
  · rw [upd_ne (fun z => g3 (by rw [← z]; exact h))]
    exact a.bagG b h
  · by_cases hj : i = j
    · subst hj
      rw [List.getElem?_set_self (lt_of_some hi)] at h
      cases h
      exact ⟨_, h1, .ref l, rfl, .lst upd_same (dpAll_mono e h4)⟩
    · rw [List.getElem?_set_ne hj] at h
      obtain ⟨o, q1, q2⟩ := a.slots j s h
      refine ⟨o, q1, ?_⟩
      cases s with
      | no => trivial
      | dat d =>
        obtain ⟨v, rfl, hd⟩ := q2
        exact ⟨v, rfl, dp_mono e hd⟩
      | own es =>
        obtain ⟨m, ws, rfl, r1, r2⟩ := q2
        exact ⟨m, ws, rfl, r1, dpAll_mono e r2⟩
      | dic es =>
        obtain ⟨m, ws, rfl, r1, r2⟩ := q2
        exact ⟨m, ws, rfl, r1, kv_mono e r2⟩
      | bag => exact q2
      | scr ns =>
        obtain ⟨a, rfl, q⟩ := q2
        exact ⟨a, rfl, ex_l e q⟩
  · by_cases hj : i = j
    · subst hj
      rw [List.getElem?_set_self (lt_of_some hi)] at h
      cases h
      cases ho
    · rw [List.getElem?_set_ne hj] at h
      obtain ⟨q1, q2, q3⟩ := a.owns j s m h ho em
      refine ⟨q1, ?_, q3⟩
      rw [upd_ne (hne j s m h ho em hj)]
      exact q2
  · by_cases hj : i = j
    · subst hj
      rw [List.getElem?_set_self (lt_of_some hi)] at h
      cases h
      cases ho
    · by_cases hk : i = k
      · subst hk
        rw [List.getElem?_set_self (lt_of_some hi)] at h'
        cases h'
        cases ho'
      · rw [List.getElem?_set_ne hj] at h
        rw [List.getElem?_set_ne hk] at h'
        exact a.dist j k s t m h ho em h' ho' em'
theorem readFrz {i : Nat} (h : rS K ec W (sSeq (sFrz i) t) D σ H) : rS K ec W t D σ H := by
  obtain ⟨H0, G0, bg, G, ρ, β, a, h⟩ := h
  simp only [sSeq, sFrz] at h
  cases hi : ρ[i]? with
  | none => rw [hi] at h; exact h.elim
  | some sl =>
    rw [hi] at h
    cases sl with
    | own ds =>
      obtain ⟨G1, a1, e1⟩ := a.frz hi
      exact ⟨H0, G0, bg, G1, _, β, a1, PostS.mono e1 h⟩
    | dat d => exact ⟨H0, G0, bg, G, _, β, a, h⟩
    | no => exact h.elim
    | dic _ => exact h.elim
    | bag => exact h.elim
    | scr _ => exact h.elim
theorem readForget {is : List Nat} (h : rS K ec W (sSeq (sFor is) t) D σ H) : rS K ec W t D σ H := by
  obtain ⟨H0, G0, bg, G, ρ, β, a, h⟩ := h
  exact ⟨H0, G0, bg, G, _, β, a.wipes is, h⟩
end

section
variable {X : Cx} {ec : EC} {W : WX} {a b c : Expr} {st : Stmt} {sts sts' : List Stmt} {f g : E} {fs : EA} {t u : ET} {s s' : T} {pos : Pos}
theorem ss_nil : SSs X ec W [] sNil := PSs.imp pss_nil fun D σ H h => by
  obtain ⟨H0, G0, bg, G, ρ, β, a, h⟩ := h
  exact h σ G H a (Ex.refl G)
theorem ss_cons (h1 : SS X ec W st s) (h2 : SSs X ec W sts s') : SSs X ec W (st :: sts) (sSeq s s') := PSs.imp (pss_cons h1 h2) fun D σ H h => readSeq h
theorem ss_one (h1 : SS X ec W st s) : SSs X ec W [st] s := pss_one h1
theorem ss_frz (i : Nat) (h : SSs X ec W sts s) : SSs X ec W sts (sSeq (sFrz i) s) := PSs.imp h fun D σ H h => readFrz h
theorem ss_forget (is : List Nat) (h : SSs X ec W sts s) : SSs X ec W sts (sSeq (sFor is) s) := PSs.imp h fun D σ H h => readForget h
theorem ss_asg (i : Nat) (frz : Bool) {x : Str} {e : Expr} {pos' : Pos} (he : SE X ec W e f) (hN : X.N.Nodup) (hi : X.N[i]? = some x := by rfl) (hx : Loc X.env.scope x := by first | exact Or.inl rfl | exact Or.inr rfl)
    (hs : swapsWith e (some (.Name x pos')) pos.line X.env = pure false := by rfl) (hf : X.fn x = true ∨ X.env.scope.names.lookup x = some .local := by first | exact .inl rfl | exact .inr rfl | assumption) :
    SS X ec W (.Assign [.Name x pos'] e pos) (sAsg i frz f) := PS.imp (ps_set hN hi hx he hs hf) fun D σ H h => readAsg h
theorem ss_drop (he : SE X ec W a f) (hs : swapsWith a none pos.line X.env = pure false := by rfl) : SS X ec W (.Expr a pos) (sDrop f) := PS.imp (ps_expr he hs) fun D σ H h => readDrop h
theorem ss_ret (he : SE X ec W a f) : SS X ec W (.Return (some a) pos) (sRet f) := PS.imp (ps_ret he) fun D σ H h => readRet h
theorem ss_retN : SS X ec W (.Return none pos) sRetN := PS.imp ps_retN fun D σ H h => by
  obtain ⟨H0, G0, bg, G, ρ, β, a, h⟩ := h
  exact h .non G H a.stp Dr.non
theorem ss_if (hc : ST X ec W c t) (ha : SSs X ec W sts s) (hb : SSs X ec W sts' s') : SS X ec W (.If c sts sts' pos) (sIf t s s') := PS.imp (ps_if hc ha hb) fun D σ H h => readIfS h
theorem ss_pass : SS X ec W (.Pass pos) sNil := PS.imp ps_pass fun D σ H h => by
  obtain ⟨H0, G0, bg, G, ρ, β, a, h⟩ := h
  exact h σ G H a (Ex.refl G)
theorem ss_break : SS X ec W (.Break pos) (fun ρ β => .bk ρ β) := PS.imp ps_break fun D σ H h => by
  obtain ⟨H0, G0, bg, G, ρ, β, a, h⟩ := h
  exact h σ G H a (Ex.refl G)
theorem ss_cont : SS X ec W (.Continue pos) (fun ρ β => .ct ρ β) := PS.imp ps_continue fun D σ H h => by
  obtain ⟨H0, G0, bg, G, ρ, β, a, h⟩ := h
  exact h σ G H a (Ex.refl G)
end
end VL

/-! VL3: defs and their calls. -/
namespace VL
open PySem PySem.Spec PyProof.Rows L2

def ArgOk (K : PySem.W.Frag) (bg : BG) (G : Hp) (v : V) : Rv → Prop
  | .fz d => Dr K G v d
  | .bg => ∃ b c, bg = some (b, c) ∧ v = .ref b
  | _ => False
/-- what a def promises: F tells what it hands back -/
def spF (K : PySem.W.Frag) (ec : EC) (n : Nat) (F : List Rv → Bag → R Rv) : Sp := fun vs H Q Xc => ∃ bg G rs β, Ex G H ∧ BagAt bg H β ∧ (∀ a, inB bg a → G a = none) ∧ Paired (ArgOk K bg G) vs rs ∧ vs.length = n ∧
  match F rs β with
  | .ok r β' => ∀ v G' H', Stp bg G H G' H' β' → VOk K H bg H G' H' v r → Q v H'
  | .er e β' => ∀ cl dd G' H', Stp bg G H G' H' β' → ec e cl dd H' → Xc cl dd H'
  | .no => False
def Rv.sl : Rv → Sl
  | .fz d => .dat d
  | .bg => .bag
  | _ => .no
def Out.res : Out → R Rv
  | .rt r β => .ok r β
  | .nx _ β => .ok (.fz .none) β
  | .er e _ β => .er e β
  | _ => .no
/-- a body run: nN names, np parameters -/
def runF (nN np : Nat) (body : T) : List Rv → Bag → R Rv := fun rs β => if rs.length = np then (body (rs.map Rv.sl ++ List.replicate (nN - np) .no) β).res else .no

theorem pair_len {α β : Type} {P : α → β → Prop} : ∀ {xs : List α} {ys : List β}, Paired P xs ys → xs.length = ys.length
  | _, _, .nil => rfl
  | _, _, .cons _ t => by
    rw [List.length_cons, List.length_cons, pair_len t]
theorem pair_app {α β : Type} {P : α → β → Prop} : ∀ {xs zs : List α} {ys ws : List β}, Paired P xs ys → Paired P zs ws → Paired P (xs ++ zs) (ys ++ ws)
  | _, _, _, _, .nil, h => h
  | _, _, _, _, .cons h t, u => .cons h (pair_app t u)
theorem paired_get? {α β : Type} {P : α → β → Prop} : ∀ {xs : List α} {ys : List β} {i : Nat} {y : β}, Paired P xs ys → ys[i]? = some y → ∃ x, xs[i]? = some x ∧ P x y
  | _, _, i, _, .nil, h => by simp at h
  | _, _, 0, _, .cons h _, e => by
    simp at e
    subst e
    exact ⟨_, rfl, h⟩
  | _, _, i + 1, y, .cons _ t, e => by
    obtain ⟨x, h1, h2⟩ := paired_get? (i := i) (y := y) t (by simpa using e)
    exact ⟨x, by simpa using h1, h2⟩

theorem own_sl (r : Rv) : Own r.sl = false := by cases r <;> rfl
theorem start_ag {K : PySem.W.Frag} {bg : BG} {G H : Hp} {β : Bag} {N : List Str} {vs : List V} {rs : List Rv} (e : Ex G H) (b : BagAt bg H β) (bG : ∀ a, inB bg a → G a = none) (h : Paired (ArgOk K bg G) vs rs) :
    Ag K H G bg G H (start N vs) (rs.map Rv.sl ++ List.replicate (N.length - rs.length) .no) β := by
  have hl : vs.length = rs.length := pair_len h
  have noown : ∀ (i : Nat) (s : Sl), (rs.map Rv.sl ++ List.replicate (N.length - rs.length) Sl.no)[i]? = some s → Own s = false := fun i s hs => by
    have hm := List.mem_of_getElem? hs
    rcases List.mem_append.mp hm with q | q
    · obtain ⟨r, _, rfl⟩ := List.mem_map.mp q
      exact own_sl r
    · rw [(List.mem_replicate.mp q).2]
      rfl
  refine ⟨e, fun a o h _ => h, fun a h => h, fun a _ => rfl, b, bG, fun i s hs => ?_, fun i s l hs ho => ?_, fun i j s t l hs ho => ?_⟩
  · by_cases hi : i < rs.length
    · rw [List.getElem?_append_left (by rw [List.length_map]; exact hi), List.getElem?_map] at hs
      cases hr : rs[i]? with
      | none => rw [hr] at hs; cases hs
      | some r =>
        rw [hr] at hs
        simp only [Option.map_some, Option.some.injEq] at hs
        subst hs
        obtain ⟨v, h1, h2⟩ := paired_get? h hr
        refine ⟨some v, ?_, ?_⟩
        · unfold L2.start
          rw [List.getElem?_append_left (by rw [List.length_map, hl]; exact hi), List.getElem?_map, h1]
          rfl
        · cases r with
          | fz d => exact ⟨v, rfl, h2⟩
          | bg =>
            obtain ⟨b, c, h3, rfl⟩ := h2
            exact ⟨b, c, h3, rfl⟩
          | tm _ => exact h2.elim
          | bo _ => exact h2.elim
          | td _ => exact h2.elim
          | bd _ => exact h2.elim
    · have hm := noown i s hs
      have hi' : i < rs.length + (N.length - rs.length) := by
        have := lt_of_some hs
        rw [List.length_append, List.length_map, List.length_replicate] at this
        exact this
      rw [List.getElem?_append_right (by rw [List.length_map]; omega), List.length_map, List.getElem?_replicate, if_pos (by omega)] at hs
      cases hs
      refine ⟨none, ?_, trivial⟩
      unfold L2.start
      rw [List.getElem?_append_right (by rw [List.length_map]; omega), List.length_map, List.getElem?_replicate, if_pos (by omega)]
  · rw [noown i s hs] at ho
    cases ho
  · rw [noown i s hs] at ho
    cases ho

/-- a def keeps its promise, called where no text is being shown (repr asks that) -/
structure FnG (P : Program) (w : World) (K : PySem.W.Frag) (mg : Str → Option Value) (base : Heap) (k : Nat) (f : Addr) (fd : FuncData) (ps : List Str) (sp : Sp) : Prop where
  many : ∀ {vs H Q Xc}, sp vs H Q Xc → vs.length = ps.length
  keeps : ∀ {A : Around} {outer : List PySem.Env} {s : Shared} {H : Hp} {args : Args} {us : List Value} {vs : List V} {Q : VK} {Xc : XK}, A.guards = some [] → Room k A → Env0 P w K mg base A outer s H → BindsTo s fd args (ps.zip us) → Vals vs us →
    sp vs H Q Xc → codeAny (model P w) A (.call (.ref f) args) (CR (L2.CX P w) outer P w H s Q Xc) s
section
variable {P : Program} {w : World} {K : PySem.W.Frag} {mg : Str → Option Value} {base : Heap} {ec : EC}
theorem FnG.mono {f : Addr} {fd : FuncData} {ps : List Str} {j k : Nat} {sp : Sp} (F : FnG P w K mg base j f fd ps sp) (h : j ≤ k) : FnG P w K mg base k f fd ps sp := ⟨F.many, fun g r => F.keeps g (r.mono h)⟩
theorem FnG.as {f : Addr} {fd : FuncData} {ps : List Str} {k n : Nat} {F F' : List Rv → Bag → R Rv} (h : FnG P w K mg base k f fd ps (spF K ec n F)) (e : F = F') : FnG P w K mg base k f fd ps (spF K ec n F') := e ▸ h
/-- THE RULE of a def -/
theorem fn_ok {x qual : Str} {st : Stmt} {f : Addr} {fd : FuncData} {N ps : List Str} {k : Nat} {body : T} (F : Fun K x qual st f fd) (S : FnScope N ps (defScope st))
    (hb : ∀ (cdv : Value) (A : Around) (outer : List PySem.Env) (s : Shared) (H : Hp) (Xc : XK), A.guards = some [] → Room k (A.deeper (envOfC qual (defScope st) s.heap.objs.size f cdv)) →
      Takes (cxOf (L2.CX P w) P w K mg base N qual (defScope st) f cdv A outer s H Xc) (fun cls d _ H => Xc cls d H) →
      PassesOwn (model P w) (A.deeper (envOfC qual (defScope st) s.heap.objs.size f cdv)) (envOfC qual (defScope st) s.heap.objs.size f cdv) (cxOf (L2.CX P w) P w K mg base N qual (defScope st) f cdv A outer s H Xc).xe →
      SSs (cxOf (L2.CX P w) P w K mg base N qual (defScope st) f cdv A outer s H Xc) ec (fun cls d _ H => Xc cls d H) (defBody st) body) :
    FnG P w K mg base (k + 1) f fd ps (spF K ec ps.length (runF N.length ps.length body)) := by
  have many : ∀ {vs H Q Xc}, spF K ec ps.length (runF N.length ps.length body) vs H Q Xc → vs.length = ps.length := fun {vs H Q Xc} h => by
    obtain ⟨bg, G, rs, β, _, _, _, _, hl, _⟩ := h
    exact hl
  obtain ⟨oc, od, kV, doc, pm, an, cdv, ct, osl, rfl, inK, code⟩ := F.ex
  refine ⟨many, ?_⟩
  intro A outer s H args us vs Q Xc hg hr env0 binds rel promise
  have nvs := many promise
  have kIn : K.In s.heap := env0.mod.kin.keeps fun b o e => (env0.bs b o e).1
  refine codeAny_call_function hr.depth (kIn _ _ inK) rfl S.co S.gen rfl (PySem.W.codeRec_of kIn code) (binds _ _ _ _ ?_)
  refine wpAny_newFunctionEnv_cells S.kind ?_ ?_
  · rintro ⟨nm, v⟩ hy
    rcases S.par nm (List.of_mem_zip hy).1 with q | q
    · exact Or.inl q
    · exact Or.inr ⟨q, PySem.W.cellsFrom_some _ _ _ (Or.inl q)⟩
  intro env he s1 x
  subst he
  have lim : s.heap.NoLimit := env0.mod.nolimit.keeps fun b o e => (env0.bs b o e).1
  refine ⟨lim.keeps x.toInCall.keep, codeAny_func ?_⟩
  have I : Inv (cxOf (L2.CX P w) P w K mg base N qual (defScope st) f cdv A outer s H Xc) [] (L2.start N vs) H s1 := inv_start S hr.hd env0 nvs rel x
  have D := hb cdv A outer s H Xc hg (hr.deeper _) (takes_of rfl rfl rfl rfl) (passes_of rfl)
  obtain ⟨bg, G, rs, β, e, b, bG, ha, hl, h⟩ := promise
  have hl2 : rs.length = ps.length := by rw [← pair_len ha]; exact hl
  unfold runF at h
  rw [if_pos hl2, ← hl2] at h
  have red : rS K ec (fun cls d _ H => Xc cls d H) body { nx := fun _ H' => Q .non H', rt := Q } (L2.start N vs) H := by
    refine ⟨H, G, bg, G, _, β, start_ag e b bG ha, ?_⟩
    generalize hbo : body (List.map Rv.sl rs ++ List.replicate (N.length - rs.length) Sl.no) β = o at h ⊢
    cases o with
    | nx ρ β' => exact fun σ' G' H' a x => h .non G' H' a.stp Dr.non
    | rt r β' => exact h
    | er e ρ β' => exact fun cl dd σ' G' H' a x he => h cl dd G' H' a.stp he
    | bk _ _ => exact h.elim
    | ct _ _ => exact h.elim
    | no => exact h.elim
  refine wpAny_mono (D.run [] s1 (L2.start N vs) H _ I red) (fun fl s' ends => ?_) (fun _ _ q => q)
  cases fl with
  | ret u =>
    obtain ⟨v, σ', H', J, rv, q⟩ := ends
    exact ⟨v, H', J.os, J.bare, J.base, J.hok, rv, q⟩
  | next =>
    obtain ⟨σ', H', J, q⟩ := ends
    exact ⟨V.non, H', J.os, J.bare, J.base, J.hok, rfl, q⟩
  | brk => exact ends.elim fun _ z => z.elim fun _ y => y.2.elim
  | cont => exact ends.elim fun _ z => z.elim fun _ y => y.2.elim
end

/-! ### calls -/
/-- an argument as it is handed over: what is new is kept -/
def Rv.arg : Rv → Option Rv
  | .fz d => some (.fz d)
  | .tm ds => some (.fz (.list ds))
  | .bg => some .bg
  | _ => none
def args? : List Rv → Option (List Rv)
  | [] => some []
  | r :: rs => match r.arg with
    | some a => match args? rs with
      | some as => some (a :: as)
      | none => none
    | none => none
/-- a def called -/
def eFnA (F : List Rv → Bag → R Rv) (f : EA) : E := fun ρ β => (f ρ β).bind fun rs β => (R.of (args? rs) β).bind F
section
variable {K : PySem.W.Frag} {H0 : Hp} {bg : BG} {Gs Hs G H : Hp} {β : Bag}
/-- values half frozen: what may be handed over -/
def HOv (K : PySem.W.Frag) (bg : BG) (Hs G H : Hp) (v : V) : Rv → Prop
  | .fz d => KOk K Hs G H v d
  | .bg => ∃ b c, bg = some (b, c) ∧ v = .ref b
  | _ => False
theorem VOk.arg {v : V} {r a : Rv} (h : VOk K H0 bg Hs G H v r) (q : r.arg = some a) : HOv K bg Hs G H v a := by
  cases r with
  | fz d =>
    simp only [Rv.arg, Option.some.injEq] at q
    subst q
    exact VOk.keep h rfl
  | tm ds =>
    simp only [Rv.arg, Option.some.injEq] at q
    subst q
    exact VOk.keep (r := .tm ds) h rfl
  | bg =>
    simp only [Rv.arg, Option.some.injEq] at q
    subst q
    exact h
  | bo _ => simp [Rv.arg] at q
  | td _ => simp [Rv.arg] at q
  | bd _ => simp [Rv.arg] at q
theorem VsOk.args : ∀ {vs : List V} {rs as : List Rv}, VsOk K H0 bg Hs G H vs rs → args? rs = some as → Paired (HOv K bg Hs G H) vs as
  | _, _, _, .nil, q => by
    simp only [args?, Option.some.injEq] at q
    subst q
    exact .nil
  | _, r :: rs, as, .cons h t, q => by
    simp only [args?] at q
    cases ha : r.arg with
    | none => rw [ha] at q; cases q
    | some a =>
      rw [ha] at q
      cases hs : args? rs with
      | none => rw [hs] at q; cases q
      | some as' =>
        rw [hs] at q
        simp only [Option.some.injEq] at q
        subst q
        exact .cons (h.arg ha) (VsOk.args t hs)
theorem HOv.mono {G' : Hp} {v : V} {r : Rv} (e : Ex G G') (h : HOv K bg Hs G H v r) : HOv K bg Hs G' H v r := by
  cases r with
  | fz d => exact KOk.mono e h
  | bg => exact h
  | tm _ => exact h.elim
  | bo _ => exact h.elim
  | td _ => exact h.elim
  | bd _ => exact h.elim
theorem Ct.hand : ∀ {vs : List V} {as : List Rv} {G : Hp}, Ct H0 bg Gs Hs G H β → Paired (HOv K bg Hs G H) vs as → ∃ G', Ct H0 bg Gs Hs G' H β ∧ Ex G G' ∧ Paired (ArgOk K bg G') vs as
  | _, _, G, c, .nil => ⟨G, c, Ex.refl G, .nil⟩
  | v :: _, r :: _, G, c, .cons h t => by
    have : ∃ G1, Ct H0 bg Gs Hs G1 H β ∧ Ex G G1 ∧ ArgOk K bg G1 v r := by
      cases r with
      | fz d => exact c.freeze h
      | bg => exact ⟨G, c, Ex.refl G, h⟩
      | tm _ => exact h.elim
      | bo _ => exact h.elim
      | td _ => exact h.elim
      | bd _ => exact h.elim
    obtain ⟨G1, c1, e1, h1⟩ := this
    obtain ⟨G2, c2, e2, h2⟩ := Ct.hand c1 (L2.Paired.mapP t fun _ _ z => z.mono e1)
    refine ⟨G2, c2, e1.trans e2, .cons ?_ h2⟩
    cases r with
    | fz d => exact dp_mono e2 h1
    | bg => exact h1
    | tm _ => exact h1.elim
    | bo _ => exact h1.elim
    | td _ => exact h1.elim
    | bd _ => exact h1.elim
end
theorem VOk.host {K : PySem.W.Frag} {H0 H1 : Hp} {bg : BG} {Hs G H : Hp} {v : V} {r : Rv} (d : ∀ a, H1 a ≠ none → H0 a ≠ none) (h : VOk K H0 bg Hs G H v r) : VOk K H1 bg Hs G H v r := by
  cases r with
  | fz d => exact h
  | tm ds => exact h
  | td ds => exact h
  | bg => exact h
  | bo ds =>
    obtain ⟨l, vs, h1, h2, h3⟩ := h
    exact ⟨l, vs, h1, none_back d h2, h3⟩
  | bd ds =>
    obtain ⟨l, vs, h1, h2, h3⟩ := h
    exact ⟨l, vs, h1, none_back d h2, h3⟩
section
variable {K : PySem.W.Frag} {ec : EC} {W : WX} {σ : L2.St} {H : Hp} {Q : VK} {fs : EA} {F : List Rv → Bag → R Rv} {n : Nat}
/-- a def's promise, read at the caller -/
theorem sp_call {H0 G0 : Hp} {bg : BG} {G1 H1 G : Hp} {ρ : Env} {β β1 : Bag} {vs : List V} {as : List Rv} (a : Ag K H0 G0 bg G H σ ρ β) (st : Stp bg G H G1 H1 β1) (ha : Paired (HOv K bg H G1 H1) vs as) (hn : vs.length = n)
    (h : match F as β1 with
      | .ok r β' => ∀ v G' H', Stp bg G H G' H' β' → VOk K H0 bg H G' H' v r → Q v H'
      | .er e β' => ∀ cl dd G' H', Stp bg G H G' H' β' → ec e cl dd H' → W cl dd σ H'
      | .no => False) : spF K ec n F vs H1 Q (WE W σ) := by
  obtain ⟨G2, c2, e2, h2⟩ := Ct.hand (H0 := H0) ⟨st, a.gh⟩ ha
  refine ⟨bg, G2, as, β1, c2.gh, c2.bag, (a.step c2.st).bagG, h2, hn, ?_⟩
  cases hF : F as β1 with
  | no => rw [hF] at h; exact h
  | er e b =>
    rw [hF] at h
    exact fun cl dd G' H' s2 he => h cl dd G' H' (c2.st.trans s2) he
  | ok r b =>
    rw [hF] at h
    exact fun v G' H' s2 hv => h v G' H' (c2.st.trans s2) ((hv.host fun b hb => c2.st.dm b (a.dm b hb)).back c2.st.dm)
theorem readFn (h : rE K ec W (eFnA F fs) σ H Q) (hn : ∀ rs as, args? rs = some as → as.length ≠ n → ∀ β, F as β = .no) : rA K ec W fs σ H fun vs H1 => spF K ec n F vs H1 Q (WE W σ) := by
  obtain ⟨H0, G0, bg, G, ρ, β, a, h⟩ := h
  refine ⟨H0, G0, bg, G, ρ, β, a, ?_⟩
  simp only [eFnA] at h
  cases hf : fs ρ β with
  | no => rw [hf] at h; exact h
  | er e b => rw [hf] at h; exact h
  | ok rs β1 =>
    rw [hf] at h
    intro vs G1 H1 s1 v1
    simp only [R.bind] at h
    cases hz : args? rs with
    | none => rw [hz] at h; exact h.elim
    | some as =>
      rw [hz] at h
      simp only [R.of] at h
      have ha := VsOk.args v1 hz
      by_cases hl : as.length = n
      · exact sp_call a s1 ha ((pair_len ha).trans hl) h
      · rw [hn rs as hz hl] at h
        exact h.elim
end
theorem runF_len {nN np : Nat} {body : T} : ∀ rs as, args? rs = some as → as.length ≠ np → ∀ β, runF nN np body as β = .no := fun rs as _ h β => if_neg h

section
variable {X : Cx} {ec : EC} {W : WX} {a : Expr} {es : List Expr} {fs : EA} {pos : Pos} {k : Nat} {f : Addr} {fd : FuncData} {ps : List Str} {n : Nat} {F : List Rv → Bag → R Rv} {x : Str} {p : Pos}
/-- the callee runs and comes back -/
theorem run_g {pins : List (Addr × Obj)} {σ : L2.St} {H : Hp} {s : Shared} {Q : VK} {args : Args} {us : List Value} {vs : List V} {sp : Sp} (tk : Takes X W) (gd : X.A.guards = some []) (G : FnG X.prog X.w X.K X.mg X.base k f fd ps sp) (hr : Room k X.A)
    (I : Inv X pins σ H s) (hb : BindsTo s fd args (ps.zip us)) (r : Vals vs us) (h : sp vs H Q (WE W σ)) : codeAny (model X.prog X.w) X.A (.call (.ref f) args) (fun r s' => match r with
      | .ok (.ret u) => EP X pins σ Q u s'
      | .ok _ => False
      | .error e => X.xe e s') s := by
  refine codeAny_mono (G.keeps gd hr I.env0 hb r h) fun fin s' came => ?_
  cases fin with
  | error e => exact passAt tk σ pins H s e s' I came
  | ok fl =>
    cases fl with
    | ret u => exact I.after came
    | next => exact came
    | brk => exact came
    | cont => exact came
theorem call_g {pins : List (Addr × Obj)} {σ : L2.St} {H : Hp} {s : Shared} {Q : VK} {pa : List Value} {kw : List (Str × Value)} {us : List Value} {vs : List V} {sp : Sp} (tk : Takes X W) (gd : X.A.guards = some []) (G : FnG X.prog X.w X.K X.mg X.base k f fd ps sp) (hr : Room k X.A)
    (I : Inv X pins σ H s) (hb : BindsTo s fd ⟨pa, kw⟩ (ps.zip us)) (r : Vals vs us) (h : sp vs H Q (WE W σ)) : wpAny (model X.prog X.w) X.A (call (.ref f) pa kw) (EP X pins σ Q) X.xe s :=
  wpAny_call (codeAny_mono (run_g tk gd G hr I hb r h) fun fin s' came => by
    cases fin with
    | error e => exact came
    | ok fl =>
      cases fl with
      | ret u => exact came
      | next => exact came.elim
      | brk => exact came.elim
      | cont => exact came.elim)
/-- f(e, ..) -/
theorem se_fn (tk : Takes X W) (gd : X.A.guards = some []) (G : FnG X.prog X.w X.K X.mg X.base k f fd ps (spF X.K ec n F)) (hn : ∀ rs as, args? rs = some as → as.length ≠ n → ∀ β, F as β = .no) (hr : Room k X.A) (hg : Gl X x) (hm : X.mg x = some (.ref f)) (hk : PySem.W.keepIn X.K (.ref f) = true) (hb : Binds X.K fd ps [])
    (ha : SA X ec W (a :: es) fs) (hdb : (x == ("__debug__" : Str)) = false := by decide) (he : starEach (a :: es) X.env = (false, eval a X.env) :: starEach es X.env := by rfl) (hpl : (backTo pos (starEach es X.env)).any (·.1) = false := by rfl) :
    SE X ec W (.Call (.Name x p) (a :: es) [] pos) (eFnA F fs) := by
  refine ⟨fun pins s σ H Q I h => ?_⟩
  refine wpAny_Call_Name_kw (ld_glob I hg hm ?_ hdb)
  refine PySem.W.callWith_K (h₀ := X.base) I.ok.mod.kin hk (thn (ha.run pos pins s σ H _ I (readFn h hn)) fun us s1 ⟨vs, H1, I1, r, q⟩ => ⟨I1.kIn, ?_⟩) he hpl
  have hl : (us ++ []).length = ps.length := by
    rw [List.append_nil, ← r.length]
    exact G.many q
  have b := hb s1 us I1.kIn hl
  rw [List.append_nil] at b
  exact call_g tk gd G hr I1 b r q
end

/-! ### calls with keywords -/
/-- the parameters picked out of the positional arguments and the keywords' -/
def pick {α : Type} (perm : List Nat) (xs : List α) : List α := perm.filterMap fun i => xs[i]?
theorem pick_rel {α β : Type} {P : α → β → Prop} {xs : List α} {ys : List β} (h : Paired P xs ys) : ∀ perm : List Nat, Paired P (pick perm xs) (pick perm ys)
  | [] => .nil
  | i :: perm => by
    unfold pick
    rw [List.filterMap_cons, List.filterMap_cons]
    cases hy : ys[i]? with
    | none =>
      have hl := pair_len h
      have hx : xs[i]? = none := List.getElem?_eq_none_iff.mpr (by rw [hl]; exact List.getElem?_eq_none_iff.mp hy)
      rw [hx]
      exact pick_rel h perm
    | some y =>
      obtain ⟨x, h1, h2⟩ := paired_get? h hy
      rw [h1]
      exact .cons h2 (pick_rel h perm)
/-- how a call with keywords binds -/
def KwBind (fd : FuncData) (ps ks : List Str) (np : Nat) (perm : List Nat) : Prop := ∀ us ws : List Value, us.length = np → ws.length = ks.length → bindArgs fd ⟨us, ks.zip ws⟩ = pure (ps.zip (pick perm (us ++ ws)))
section
variable {K : PySem.W.Frag}
theorem fun_kw {x qual : Str} {st : Stmt} {f : Addr} {fd : FuncData} {ps ks : List Str} {np : Nat} {perm : List Nat} (F : Fun K x qual st f fd)
    (h : ∀ (kV doc pm : Value) (an : Option Addr) (cdv ct : Value) (us ws : List Value), us.length = np → ws.length = ks.length → bindArgs (PySem.W.fnOf x qual (defArgs st) (defBody st) (defScope st) .none kV doc pm an cdv ct) ⟨us, ks.zip ws⟩ = pure (ps.zip (pick perm (us ++ ws)))) : KwBind fd ps ks np perm := by
  obtain ⟨oc, od, kV, doc, pm, an, cdv, ct, osl, rfl, lk, hcd⟩ := F.ex
  exact fun us ws h1 h2 => h kV doc pm an cdv ct us ws h1 h2
end
section
variable {X : Cx} {ec : EC} {W : WX} {a : Expr} {es : List Expr} {kws : List Keyword} {fs gs : EA} {pos : Pos} {k : Nat} {f : Addr} {fd : FuncData} {ps ks : List Str} {n np : Nat} {perm : List Nat} {F : List Rv → Bag → R Rv} {x : Str} {p : Pos}
/-- keywords' values, from the left -/
abbrev SK (X : Cx) (ec : EC) (W : WX) (kws : List Keyword) (f : EA) : Prop := PK X kws (rA X.K ec W f)
theorem PK.imp {t t' : TA} (h : PK X kws t) (hi : ∀ σ H Q, t' σ H Q → t σ H Q) : PK X kws t' := ⟨fun pos pins s σ H Q I hw => h.run pos pins s σ H Q I (hi σ H Q hw)⟩
theorem sk_nil : SK X ec W [] eNil := PK.imp pk_nil fun σ H Q h => by
  obtain ⟨H0, G0, bg, G, ρ, β, a, h⟩ := h
  exact h [] G H (Stp.refl a.gh a.bagOk) .nil
theorem sk_cons {nm : Option Str} {kpos : Pos} {g : E} (ha : SE X ec W a g) (hr : SK X ec W kws fs) : SK X ec W (⟨nm, a, kpos⟩ :: kws) (eCons g fs) :=
  PK.imp (pk_cons ha hr) fun σ H Q h => readCons h
/-- a def called with keywords -/
def eFnK (np nk : Nat) (perm : List Nat) (F : List Rv → Bag → R Rv) (f g : EA) : E := fun ρ β => (f ρ β).bind fun rs β => (g ρ β).bind fun zs β => if rs.length = np ∧ zs.length = nk then (R.of (args? (pick perm (rs ++ zs))) β).bind F else .no
theorem readFnK {K : PySem.W.Frag} {σ : L2.St} {H : Hp} {Q : VK} (h : rE K ec W (eFnK np ks.length perm F fs gs) σ H Q) (hn : ∀ rs as, args? rs = some as → as.length ≠ n → ∀ β, F as β = .no) :
    rA K ec W fs σ H fun vs H1 => rA K ec W gs σ H1 fun zs H2 => vs.length = np ∧ zs.length = ks.length ∧ spF K ec n F (pick perm (vs ++ zs)) H2 Q (WE W σ) := by
  obtain ⟨H0, G0, bg, G, ρ, β, a, h⟩ := h
  refine ⟨H0, G0, bg, G, ρ, β, a, ?_⟩
  simp only [eFnK] at h
  cases hf : fs ρ β with
  | no => rw [hf] at h; exact h
  | er e b => rw [hf] at h; exact h
  | ok rs β1 =>
    rw [hf] at h
    intro vs G1 H1 s1 v1
    refine ⟨H0, G0, bg, G1, ρ, β1, a.step s1, ?_⟩
    simp only [R.bind] at h
    cases hg : gs ρ β1 with
    | no => rw [hg] at h; exact h
    | er e b =>
      rw [hg] at h
      exact fun cl dd G' H' s2 he => h cl dd G' H' (s1.trans s2) he
    | ok zs β2 =>
      rw [hg] at h
      intro ws G2 H2 s2 v2
      simp only at h
      split at h
      · rename_i heq
        split at heq
        · rename_i hl
          refine ⟨(pair_len v1).trans hl.1, (pair_len v2).trans hl.2, ?_⟩
          have hall : VsOk K H0 bg H G2 H2 (pick perm (vs ++ ws)) (pick perm (rs ++ zs)) := pick_rel (pair_app (L2.Paired.mapP v1 fun _ _ z => z.step s2 s1.gh) (L2.Paired.mapP v2 fun _ _ z => z.back s1.dm)) perm
          cases hz : args? (pick perm (rs ++ zs)) with
          | none => rw [hz] at heq; cases heq
          | some as =>
            rw [hz] at heq
            simp only [R.of] at heq
            have ha := VsOk.args hall hz
            by_cases hl : as.length = n
            · refine sp_call a (s1.trans s2) ha ((pair_len ha).trans hl) ?_
              rw [heq]
              exact h
            · rw [hn _ as hz hl] at heq
              cases heq
        · cases heq
      · rename_i heq
        split at heq
        · rename_i hl
          refine ⟨(pair_len v1).trans hl.1, (pair_len v2).trans hl.2, ?_⟩
          have hall : VsOk K H0 bg H G2 H2 (pick perm (vs ++ ws)) (pick perm (rs ++ zs)) := pick_rel (pair_app (L2.Paired.mapP v1 fun _ _ z => z.step s2 s1.gh) (L2.Paired.mapP v2 fun _ _ z => z.back s1.dm)) perm
          cases hz : args? (pick perm (rs ++ zs)) with
          | none => rw [hz] at heq; cases heq
          | some as =>
            rw [hz] at heq
            simp only [R.of] at heq
            have ha := VsOk.args hall hz
            by_cases hl : as.length = n
            · refine sp_call a (s1.trans s2) ha ((pair_len ha).trans hl) ?_
              rw [heq]
              exact h
            · rw [hn _ as hz hl] at heq
              cases heq
        · cases heq
      · exact h.elim
/-- f(k = e, ..), keywords alone -/
theorem se_fnK (tk : Takes X W) (gd : X.A.guards = some []) (G : FnG X.prog X.w X.K X.mg X.base k f fd ps (spF X.K ec n F)) (hn : ∀ rs as, args? rs = some as → as.length ≠ n → ∀ β, F as β = .no) (hr : Room k X.A) (hg : Gl X x) (hm : X.mg x = some (.ref f)) (hk : PySem.W.keepIn X.K (.ref f) = true) (hb : KwBind fd ps ks 0 perm)
    (hkw : SK X ec W kws gs) (hall : (backToKw pos (keywordEach kws X.env)).all (·.1.isSome) = true := by rfl) (hks : (backToKw pos (keywordEach kws X.env)).filterMap (·.1) = ks := by rfl)
    (hdb : (x == ("__debug__" : Str)) = false := by decide) (hpl : (backToKw pos (keywordEach kws X.env)).any (·.1.isNone) = false := by rfl) :
    SE X ec W (.Call (.Name x p) [] kws pos) (eFnK 0 ks.length perm F eNil gs) := by
  refine ⟨fun pins s σ H Q I h => ?_⟩
  refine wpAny_Call_Name_kw (ld_glob I hg hm ?_ hdb)
  have h := readFnK h hn
  obtain ⟨H0, G0, bg, G1, ρ, β, a, h⟩ := h
  have h := h [] G1 H (Stp.refl a.gh a.bagOk) .nil
  refine PySem.W.callWith_KW0 (h₀ := X.base) I.ok.mod.kin hk hall (thn (hkw.run pos pins s σ H _ I h) fun ws s2 ⟨zs, H2, I2, rz, q2⟩ => ⟨I2.kIn, ?_⟩) hpl
  rw [hks]
  obtain ⟨q0, q1, q2⟩ := q2
  exact call_g tk gd G hr I2 (.of_eq (hb [] ws rfl (by rw [← rz.length]; exact q1))) (pick_rel (rz) perm) q2
/-- f(e, .., k = v, ..) -/
theorem se_fnPK (tk : Takes X W) (gd : X.A.guards = some []) (G : FnG X.prog X.w X.K X.mg X.base k f fd ps (spF X.K ec n F)) (hn : ∀ rs as, args? rs = some as → as.length ≠ n → ∀ β, F as β = .no) (hr : Room k X.A) (hg : Gl X x) (hm : X.mg x = some (.ref f)) (hk : PySem.W.keepIn X.K (.ref f) = true) (hb : KwBind fd ps ks np perm)
    (ha : SA X ec W (a :: es) fs) (hkw : SK X ec W kws gs) (hall : (backToKw pos (keywordEach kws X.env)).all (·.1.isSome) = true := by rfl) (hks : (backToKw pos (keywordEach kws X.env)).filterMap (·.1) = ks := by rfl)
    (hdb : (x == ("__debug__" : Str)) = false := by decide) (he : starEach (a :: es) X.env = (false, eval a X.env) :: starEach es X.env := by rfl)
    (hpl : ((backTo pos (starEach (a :: es) X.env)).any (·.1) || (backToKw pos (keywordEach kws X.env)).any (·.1.isNone)) = false := by rfl) :
    SE X ec W (.Call (.Name x p) (a :: es) kws pos) (eFnK np ks.length perm F fs gs) := by
  refine ⟨fun pins s σ H Q I h => ?_⟩
  refine wpAny_Call_Name_kw (ld_glob I hg hm ?_ hdb)
  refine PySem.W.callWith_KW (h₀ := X.base) I.ok.mod.kin hk hall (thn (ha.run pos pins s σ H _ I (readFnK h hn)) fun us s1 ⟨vs, H1, I1, r, q⟩ => ?_) hpl he
  refine thn (hkw.run pos pins s1 σ H1 _ I1 q) fun ws s2 ⟨zs, H2, I2, rz, q2⟩ => ⟨I2.kIn, ?_⟩
  rw [hks]
  obtain ⟨q0, q1, q2⟩ := q2
  exact call_g tk gd G hr I2 (.of_eq (hb us ws (by rw [← r.length]; exact q0) (by rw [← rz.length]; exact q1))) (pick_rel (r.append rz) perm) q2
end
end VL

/-! VL4: what is walked, loops, comprehensions. -/
namespace VL
open PySem PySem.Spec PyProof.Rows L2

/-- J gives the data ds while Src holds; fr: Src stands whatever own lists become; Hb: the heap where it began -/
structure ItOk (K : PySem.W.Frag) (fr : Bool) (bg : BG) (Hb : Hp) (J : It) (ds : List PyData) (Src : Hp → Hp → Prop) : Prop where
  keep : ∀ G H G' H', Src G H → Ex G G' → Ex G' H' → (fr = false → ∀ a o, Hb a = some o → ¬ inB bg a → H' a = some o) → Src G' H'
  go : ∀ G H i, Src G H → Ex G H → i < ds.length → J.go i H
  stop : ∀ G H, Src G H → Ex G H → J.stop ds.length H
  yld : ∀ G H i x H', Src G H → Ex G H → i < ds.length → J.yld i H x H' → ∃ G' d, ds[i]? = some d ∧ Ex H H' ∧ Ex G' H' ∧ (∀ a, H a ≠ none → G' a = G a) ∧ Dr K G' x d
abbrev EI := Env → Bag → R (List PyData)
def rIt (K : PySem.W.Frag) (ec : EC) (W : WX) (fr : Bool) (f : EI) : TI := fun σ H Q => ∃ H0 G0 bg G ρ β, Ag K H0 G0 bg G H σ ρ β ∧
  match f ρ β with
  | .ok ds β' => ∀ J Src G' H', Stp bg G H G' H' β' → ItOk K fr bg H' J ds Src → Src G' H' → Q J H'
  | .er e β' => ∀ cl dd G' H', Stp bg G H G' H' β' → ec e cl dd H' → W cl dd σ H'
  | .no => False
abbrev SI (X : Cx) (ec : EC) (W : WX) (fr : Bool) (tg e : Expr) (f : EI) : Prop := PI X tg e (rIt X.K ec W fr f)

/-! ### targets -/
abbrev TgF := PyData → Env → Option Env
def rG (K : PySem.W.Frag) (is : List Nat) (t : TgF) : TG := fun v σ H Q => ∃ H0 G0 bg G ρ β d ρ', Ag K H0 G0 bg G H σ ρ β ∧ Dr K G v d ∧ t d ρ = some ρ' ∧
  ∀ σ', σ'.length = σ.length → (∀ j, j ∉ is → σ'[j]? = σ[j]?) → Ag K H0 G0 bg G H σ' ρ' β → Q σ' H
abbrev SG (X : Cx) (tg : Expr) (is : List Nat) (t : TgF) : Prop := PG X tg (rG X.K is t)
def tgN (i : Nat) : TgF := fun d ρ => if i < ρ.length then some (ρ.set i (.dat d)) else none
/-- the items of a tuple, to targets in order -/
def tgs : List TgF → List PyData → Env → Option Env
  | [], [], ρ => some ρ
  | t :: ts, d :: ds, ρ => (t d ρ).bind (tgs ts ds)
  | _, _, _ => none
def tgT (n : Nat) (ts : List TgF) : TgF := fun d ρ => match d with
  | .tuple ds => if ds.length = n then tgs ts ds ρ else none
  | _ => none
theorem PG.imp {X : Cx} {tg : Expr} {t t' : TG} (h : PG X tg t) (hi : ∀ v σ H Q, t' v σ H Q → t v σ H Q) : PG X tg t' := ⟨fun pins s σ H v u Q I r hw => h.run pins s σ H v u Q I r (hi v σ H Q hw)⟩
theorem PGs.imp {X : Cx} {tg : List Expr} {t t' : TGs} (h : PGs X tg t) (hi : ∀ v σ H Q, t' v σ H Q → t v σ H Q) : PGs X tg t' := ⟨fun pins s σ H v u Q I r hw => h.run pins s σ H v u Q I r (hi v σ H Q hw)⟩
def rGs (K : PySem.W.Frag) (is : List Nat) (ts : List TgF) : TGs := fun vs σ H Q => ∃ H0 G0 bg G ρ β ds ρ', Ag K H0 G0 bg G H σ ρ β ∧ DrAll K G vs ds ∧ tgs ts ds ρ = some ρ' ∧
  ∀ σ', σ'.length = σ.length → (∀ j, j ∉ is → σ'[j]? = σ[j]?) → Ag K H0 G0 bg G H σ' ρ' β → Q σ' H
section
variable {X : Cx} {tg e : Expr} {es : List Expr} {is js : List Nat} {t : TgF} {ts : List TgF} {pos : Pos}
theorem sg_name (i : Nat) {x : Str} (hN : X.N.Nodup) (hi : X.N[i]? = some x := by rfl) (hx : Loc X.env.scope x := by first | exact Or.inl rfl | exact Or.inr rfl)
    (hf : X.fn x = true ∨ X.env.scope.names.lookup x = some .local := by first | exact .inl rfl | exact .inr rfl | assumption) : SG X (.Name x pos) [i] (tgN i) :=
  PG.imp (pg_name hN hi hx hf) fun v σ H Q h => by
    obtain ⟨H0, G0, bg, G, ρ, β, d, ρ', a, hd, ht, q⟩ := h
    unfold tgN at ht
    split at ht
    · rename_i hl
      cases ht
      refine q _ (by rw [List.length_set]) (fun j hj => ?_) (a.set hl ⟨v, rfl, hd⟩ fun l ho => by cases ho)
      rw [List.getElem?_set_ne]
      intro z
      exact hj (by rw [z]; exact List.mem_singleton.mpr rfl)
    · cases ht
theorem sgs_nil : PGs X [] (rGs X.K [] []) := PGs.imp pgs_nil fun v σ H Q h => by
  obtain ⟨H0, G0, bg, G, ρ, β, ds, ρ', a, hd, ht, q⟩ := h
  cases hd with
  | nil =>
    simp only [tgs, Option.some.injEq] at ht
    subst ht
    exact ⟨rfl, q σ rfl (fun _ _ => rfl) a⟩
  | cons _ _ => simp only [tgs] at ht; cases ht
theorem sgs_cons (h1 : SG X e is t) (h2 : PGs X es (rGs X.K js ts)) (hs : (assignEach (e :: es) X.env).map (·.2) = assign e X.env :: (assignEach es X.env).map (·.2) := by rfl) : PGs X (e :: es) (rGs X.K (is ++ js) (t :: ts)) :=
  PGs.imp (pgs_cons h1 h2 hs) fun v σ H Q h => by
    obtain ⟨H0, G0, bg, G, ρ, β, ds, ρ', a, hd, ht, q⟩ := h
    cases hd with
    | nil => simp only [tgs] at ht; cases ht
    | cons hv ha =>
      simp only [tgs] at ht
      rename_i d ds
      cases h1 : t d ρ with
      | none => rw [h1] at ht; cases ht
      | some ρ1 =>
        rw [h1] at ht
        refine ⟨_, _, rfl, H0, G0, bg, G, ρ, β, d, ρ1, a, hv, h1, fun σ1 l1 k1 a1 => ⟨H0, G0, bg, G, ρ1, β, ds, ρ', a1, ha, ht, fun σ2 l2 k2 a2 => q σ2 (l2.trans l1) (fun j hj => ?_) a2⟩⟩
        rw [k2 j (fun z => hj (List.mem_append_right _ z)), k1 j (fun z => hj (List.mem_append_left _ z))]
theorem sg_tup {k n : Nat} (hc : X.calm = true) (h : PGs X es (rGs X.K is ts)) (hn : (assignEach es X.env).length = n := by rfl) (hst : (assignEach es X.env).findIdx? (·.1) = none := by rfl) : SG X (.Tuple es k pos) is (tgT n ts) :=
  PG.imp (pg_tup hc h hn hst) fun v σ H Q h => by
    obtain ⟨H0, G0, bg, G, ρ, β, d, ρ', a, hd, ht, q⟩ := h
    cases hd with
    | tup hs ha =>
      unfold tgT at ht
      simp only at ht
      split at ht
      · rename_i hl
        exact ⟨_, _, rfl, ex_t a.gh hs, (DrAll.length ha).trans hl, H0, G0, bg, G, ρ, β, _, ρ', a, ha, ht, q⟩
      · cases ht
    | non => simp only [tgT] at ht; cases ht
    | bl _ => simp only [tgT] at ht; cases ht
    | int _ => simp only [tgT] at ht; cases ht
    | str _ => simp only [tgT] at ht; cases ht
    | lst _ _ => simp only [tgT] at ht; cases ht
end

/-! ### for -/
def forget (is : List Nat) (ρ : Env) : Env := is.foldl (fun ρ i => ρ.set i .no) ρ
def loopD (tg : TgF) (body : T) (junk : List Nat) : List PyData → T
  | [], ρ, β => .nx ρ β
  | d :: ds, ρ, β => match tg d ρ with
    | none => .no
    | some ρ1 => match body ρ1 β with
      | .nx ρ2 β2 => loopD tg body junk ds (forget junk ρ2) β2
      | .ct ρ2 β2 => loopD tg body junk ds (forget junk ρ2) β2
      | .bk ρ2 β2 => .nx ρ2 β2
      | o => o
def sLoop (tg : TgF) (junk : List Nat) (f : EI) (body : T) : T := fun ρ β => match f ρ β with
  | .ok ds β => loopD tg body junk ds ρ β
  | .er e β => .er e ρ β
  | .no => .no

theorem bag_ex {bg : BG} {H H' : Hp} {β : Bag} (e : Ex H H') (b : BagAt bg H β) : BagAt bg H' β := by
  cases bg with
  | none => trivial
  | some p =>
    obtain ⟨x, y⟩ := p
    exact ⟨b.1, e _ _ b.2.1, e _ _ b.2.2⟩
theorem ex_dom {H H' : Hp} (e : Ex H H') {a : Addr} (h : H a ≠ none) : H' a ≠ none := by
  cases q : H a with
  | none => exact absurd q h
  | some o =>
    rw [e a o q]
    exact fun z => by cases z
theorem stp_ex {bg : BG} {G H G' H' : Hp} {β : Bag} (e : Ex H H') (g : Ex G' H') (f : ∀ a, H a ≠ none → G' a = G a) (b : BagAt bg H β) : Stp bg G H G' H' β :=
  ⟨fun a o h _ => e a o h, fun a h => ex_dom e h, f, g, bag_ex e b⟩
section
variable {K : PySem.W.Frag} {ec : EC} {W : WX} {σ : L2.St} {H : Hp} {D : Ends} {tg : TgF} {is junk : List Nat} {f : EI} {body : T}
theorem readLoop (h : rS K ec W (sLoop tg junk f body) D σ H) : tFor (rIt K ec W true f) (rG K is tg) (rS K ec W body) D σ H := by
  obtain ⟨H0, G0, bg, G, ρ, β, a, h⟩ := h
  refine ⟨H0, G0, bg, G, ρ, β, a, ?_⟩
  simp only [sLoop] at h
  cases hf : f ρ β with
  | no => rw [hf] at h; exact h
  | er e b => rw [hf] at h; exact read_er a h
  | ok ds β1 =>
    rw [hf] at h
    intro J Src G1 H1 st it src
    refine ⟨fun i m σ H => m = ds.length - i ∧ i ≤ ds.length ∧ ∃ G ρ β, Ag K H0 G0 bg G H σ ρ β ∧ Src G H ∧ PostS K ec W H0 G0 bg D G (loopD tg body junk (ds.drop i) ρ β), ⟨ds.length, by omega, Nat.zero_le _, G1, ρ, β1, a.step st, src, PostS.mono (st.gg a.gh) h⟩, ?_⟩
    rintro i m σ2 H2 ⟨rfl, hi, G2, ρ2, β2, a2, src2, p2⟩
    by_cases hlt : i < ds.length
    · rw [List.drop_eq_getElem_cons hlt] at p2
      refine .inr ⟨it.go G2 H2 i src2 a2.gh hlt, fun σ' H' => ∃ G ρ β, Ag K H0 G0 bg G H' σ' ρ β ∧ Src G H' ∧ PostS K ec W H0 G0 bg D G (loopD tg body junk (ds.drop (i + 1)) ρ β), fun σ' H' n => ⟨ds.length - (i + 1), by omega, rfl, hlt, n⟩, fun x H3 y => ?_⟩
      obtain ⟨G3, d, hd, e1, e2, e3, e4⟩ := it.yld G2 H2 i x H3 src2 a2.gh hlt y
      have hd' : d = ds[i] := by
        rw [List.getElem?_eq_getElem hlt] at hd
        exact (Option.some.inj hd).symm
      subst hd'
      have s3 : Stp bg G2 H2 G3 H3 β2 := stp_ex e1 e2 e3 a2.bagOk
      have a3 := a2.step s3
      have g23 := s3.gg a2.gh
      have src3 := it.keep _ _ _ _ src2 g23 e2 (fun z => by cases z)
      unfold loopD at p2
      cases ht : tg ds[i] ρ2 with
      | none => rw [ht] at p2; exact p2.elim
      | some ρ3 =>
        rw [ht] at p2
        refine ⟨H0, G0, bg, G3, ρ2, β2, _, ρ3, a3, e4, ht, fun σ4 l4 k4 a4 => ⟨H0, G0, bg, G3, ρ3, β2, a4, ?_⟩⟩
        simp only at p2
        cases hb : body ρ3 β2 with
        | no => rw [hb] at p2; exact p2
        | er e r b =>
          rw [hb] at p2
          exact PostS.mono g23 p2
        | rt r b => rw [hb] at p2; exact p2
        | bk r b =>
          rw [hb] at p2
          exact fun σ' G' H' a' e' => p2 σ' G' H' a' (g23.trans e')
        | nx r b =>
          rw [hb] at p2
          exact fun σ' G' H' a' e' => ⟨G', forget junk r, b, a'.wipes junk, it.keep _ _ _ _ src3 e' a'.gh (fun z => by cases z), PostS.mono (g23.trans e') p2⟩
        | ct r b =>
          rw [hb] at p2
          exact fun σ' G' H' a' e' => ⟨G', forget junk r, b, a'.wipes junk, it.keep _ _ _ _ src3 e' a'.gh (fun z => by cases z), PostS.mono (g23.trans e') p2⟩
    · have e : i = ds.length := by omega
      subst e
      rw [List.drop_length] at p2
      exact .inl ⟨it.stop G2 H2 src2 a2.gh, p2 σ2 G2 H2 a2 (Ex.refl _)⟩
end
section
variable {X : Cx} {ec : EC} {W : WX} {tg e : Expr} {sts : List Stmt} {is : List Nat} {t : TgF} {f : EI} {body : T} {pos : Pos}
theorem ss_for (junk : List Nat) (hp : PassesOwn (model X.prog X.w) X.A X.env X.xe) (hc : X.calm = true) (hi : SI X ec W true tg e f) (hg : SG X tg is t) (hb : SSs X ec W sts body)
    (hs : ∀ x, foldedSetIterable e X.env x = pure x := by intro _; rfl) : SS X ec W (.For tg e sts [] pos) (sLoop t junk f body) := PS.imp (ps_for hp hc hi hg hb hs) fun D σ H h => readLoop h
end

/-! ### while: at most n turns -/
def whileD (t : ET) (body : T) (junk : List Nat) : Nat → T
  | 0, _, _ => .no
  | n + 1, ρ, β => match t ρ β with
    | .ok false β => .nx ρ β
    | .ok true β => match body ρ β with
      | .nx ρ2 β2 => whileD t body junk n (forget junk ρ2) β2
      | .ct ρ2 β2 => whileD t body junk n (forget junk ρ2) β2
      | .bk ρ2 β2 => .nx ρ2 β2
      | o => o
    | .er e β => .er e ρ β
    | .no => .no
/-- fuel: how many turns there may be, by the state where it begins -/
def sWhile (t : ET) (body : T) (junk : List Nat) (fuel : Env → Bag → Nat) : T := fun ρ β => whileD t body junk (fuel ρ β) ρ β
theorem readWhile {K : PySem.W.Frag} {ec : EC} {W : WX} {σ : L2.St} {H : Hp} {D : Ends} {junk : List Nat} {t : ET} {body : T} {fuel : Env → Bag → Nat}
    (h : rS K ec W (sWhile t body junk fuel) D σ H) : tWhile (rT K ec W t) (rS K ec W body) D σ H := by
  obtain ⟨H0, G0, bg, G, ρ, β, a, h⟩ := h
  refine ⟨fun m σ H => ∃ G ρ β, Ag K H0 G0 bg G H σ ρ β ∧ PostS K ec W H0 G0 bg D G (whileD t body junk m ρ β), ⟨fuel ρ β, G, ρ, β, a, h⟩, ?_⟩
  rintro m σ2 H2 ⟨G2, ρ2, β2, a2, p2⟩
  refine ⟨H0, G0, bg, G2, ρ2, β2, a2, ?_⟩
  cases m with
  | zero => exact p2.elim
  | succ m =>
    unfold whileD at p2
    cases ht : t ρ2 β2 with
    | no => rw [ht] at p2; exact p2
    | er e b => rw [ht] at p2; exact read_er a2 p2
    | ok x b =>
      rw [ht] at p2
      intro G3 H3 s3
      have a3 := a2.step s3
      have g23 := s3.gg a2.gh
      cases x with
      | false => exact p2 σ2 G3 H3 a3 g23
      | true =>
        refine ⟨fun σ' H' => ∃ G ρ β, Ag K H0 G0 bg G H' σ' ρ β ∧ PostS K ec W H0 G0 bg D G (whileD t body junk m ρ β), fun σ' H' n => ⟨m, Nat.lt_succ_self m, n⟩, H0, G0, bg, G3, ρ2, b, a3, ?_⟩
        simp only at p2
        cases hb : body ρ2 b with
        | no => rw [hb] at p2; exact p2
        | er e r b => rw [hb] at p2; exact PostS.mono g23 p2
        | rt r b => rw [hb] at p2; exact p2
        | bk r b =>
          rw [hb] at p2
          exact fun σ' G' H' a' e' => p2 σ' G' H' a' (g23.trans e')
        | nx r b =>
          rw [hb] at p2
          exact fun σ' G' H' a' e' => ⟨G', forget junk r, b, a'.wipes junk, PostS.mono (g23.trans e') p2⟩
        | ct r b =>
          rw [hb] at p2
          exact fun σ' G' H' a' e' => ⟨G', forget junk r, b, a'.wipes junk, PostS.mono (g23.trans e') p2⟩
theorem ss_while {X : Cx} {ec : EC} {W : WX} {c : Expr} {sts : List Stmt} {t : ET} {body : T} {pos : Pos} (junk : List Nat) (fuel : Env → Bag → Nat) (hp : PassesOwn (model X.prog X.w) X.A X.env X.xe) (hc : ST X ec W c t) (hb : SSs X ec W sts body) :
    SS X ec W (.While c sts [] pos) (sWhile t body junk fuel) := PS.imp (ps_while hp hc hb) fun D σ H h => readWhile h

/-! ### what is walked: lists, tuples, ranges -/
def iSq (K : PySem.W.Frag) (tl : TE) : TI := fun σ H R => tl σ H fun x H1 => ∃ a, x = .ref a ∧ ((∃ xs, H1 a = some (.lst xs) ∧ R (Itl K a) H1) ∨ (∃ xs, SqT K H1 a xs ∧ R (Itt K a) H1))
theorem pi_sq {X : Cx} {tg l : Expr} {tl : TE} (hl : PE X l tl) : PI X tg l (iSq X.K tl) := by
  refine ⟨fun pins s σ H R I h => ?_⟩
  refine thn (hl.run pins s σ H _ I h) fun v s1 ⟨x, H1, I1, r1, q1⟩ => ?_
  obtain ⟨a, e, q⟩ := q1
  subst e
  cases r1
  rcases q with ⟨xs, hq, q⟩ | ⟨xs, hq, q⟩
  · obtain ⟨its, rv, p, hz⟩ := I1.list (SqL.of hq)
    refine wpAny_pyIter_list p.isList ?_
    refine ⟨s1.heap.objs.size, [s1.heap.objs.size], _, _, H1, rfl, I1.kept (t' := s1.toks) fun b o e => Heap.get?_push_of_some _ e, turn_list a _, ⟨_, Heap.get?_push_size _ rfl, rfl, rfl⟩, fun b hb => ?_, q⟩
    have e : b = s1.heap.objs.size := by simpa using hb
    subst e
    exact I1.fpOk (Nat.le_refl _) (I1.hok.fresh (Nat.le_refl _))
  · obtain ⟨its, rv, p, hz⟩ := I1.tuple hq
    refine wpAny_pyIter_tuple (show s1.heap.IsTuple a its.toArray from p) ?_
    refine ⟨s1.heap.objs.size, [s1.heap.objs.size], _, _, H1, rfl, I1.kept (t' := s1.toks) fun b o e => Heap.get?_push_of_some _ e, turn_tuple a _, ⟨_, Heap.get?_push_size _ rfl, rfl, rfl⟩, fun b hb => ?_, q⟩
    have e : b = s1.heap.objs.size := by simpa using hb
    subst e
    exact I1.fpOk (Nat.le_refl _) (I1.hok.fresh (Nat.le_refl _))
/-- the items that are walked; fr: what an own list holds may not be walked by a statement -/
def Rv.iter? (fr : Bool) : Rv → Option (List PyData)
  | .fz (.list ds) => some ds
  | .fz (.tuple ds) => some ds
  | .tm ds => some ds
  | .bo ds => if fr then none else some ds
  | _ => none
/-- a list or a tuple stands to be read -/
def Src1 (K : PySem.W.Frag) (a : Addr) (ds : List PyData) (G H : Hp) : Prop := ∃ vs, DrAll K G vs ds ∧ (G a = some (.lst vs) ∨ SqT K G a vs)
def SrcB (K : PySem.W.Frag) (a : Addr) (ds : List PyData) (G H : Hp) : Prop := ∃ vs, DrAll K G vs ds ∧ H a = some (.lst vs)
/-- either -/
def SrcA (K : PySem.W.Frag) (a : Addr) (ds : List PyData) (G H : Hp) : Prop := ∃ vs, DrAll K G vs ds ∧ ((G a = some (.lst vs) ∨ SqT K G a vs) ∨ H a = some (.lst vs))
section
variable {K : PySem.W.Frag} {H0 : Hp} {bg : BG} {Gs Hs G H : Hp} {β : Bag} {v : V} {r : Rv} {fr : Bool} {ds : List PyData}
/-- what is walked, as a source: at a; it is kept; what it is now -/
theorem VOk.src (c : Ct H0 bg Gs Hs G H β) (h : VOk K H0 bg Hs G H v r) (q : r.iter? fr = some ds) :
    ∃ a G', v = .ref a ∧ Ct H0 bg Gs Hs G' H β ∧ Ex G G' ∧ ∃ Src : Hp → Hp → Prop, Src G' H ∧
      (∀ G H' G1 H1, Src G H' → Ex G G1 → Ex G1 H1 → (fr = false → ∀ b o, H b = some o → ¬ inB bg b → H1 b = some o) → Src G1 H1) ∧
      ((∀ G H, Src G H → Ex G H → ∃ vs, DrAll K G vs ds ∧ H a = some (.lst vs)) ∨ (∀ G H, Src G H → Ex G H → ∃ vs, DrAll K G vs ds ∧ SqT K H a vs)) := by
  cases r with
  | fz d =>
    cases d <;> simp only [Rv.iter?, Option.some.injEq] at q <;> try cases q
    · cases h with
      | lst h a =>
        refine ⟨_, G, rfl, c, Ex.refl _, fun G H => ∃ vs, DrAll K G vs ds ∧ G _ = some (.lst vs), ⟨_, a, h⟩, fun G H' G1 H1 s e _ _ => ?_, .inl fun G H s e => ?_⟩
        · obtain ⟨vs, s1, s2⟩ := s
          exact ⟨vs, dpAll_mono e s1, e _ _ s2⟩
        · obtain ⟨vs, s1, s2⟩ := s
          exact ⟨vs, s1, e _ _ s2⟩
    · cases h with
      | tup h a =>
        refine ⟨_, G, rfl, c, Ex.refl _, fun G H => ∃ vs, DrAll K G vs ds ∧ SqT K G _ vs, ⟨_, a, h⟩, fun G H' G1 H1 s e _ _ => ?_, .inr fun G H s e => ?_⟩
        · obtain ⟨vs, s1, s2⟩ := s
          exact ⟨vs, dpAll_mono e s1, ex_t e s2⟩
        · obtain ⟨vs, s1, s2⟩ := s
          exact ⟨vs, s1, ex_t e s2⟩
  | tm es =>
    simp only [Rv.iter?, Option.some.injEq] at q
    subst q
    obtain ⟨l, vs, rfl, _⟩ := id h
    obtain ⟨G2, c2, e2, h2⟩ := c.freeze (VOk.keep (d := .list es) h rfl)
    cases h2 with
    | lst h a =>
      refine ⟨l, G2, rfl, c2, e2, fun G H => ∃ vs, DrAll K G vs es ∧ G l = some (.lst vs), ⟨_, a, h⟩, fun G H' G1 H1 s e _ _ => ?_, .inl fun G H s e => ?_⟩
      · obtain ⟨vs, s1, s2⟩ := s
        exact ⟨vs, dpAll_mono e s1, e _ _ s2⟩
      · obtain ⟨vs, s1, s2⟩ := s
        exact ⟨vs, s1, e _ _ s2⟩
  | bo es =>
    cases fr with
    | true => simp [Rv.iter?] at q
    | false =>
      simp only [Rv.iter?, Bool.false_eq_true, if_false, Option.some.injEq] at q
      subst q
      obtain ⟨l, vs, rfl, h2, h3, h4, h5, h6⟩ := h
      refine ⟨l, G, rfl, c, Ex.refl _, fun G H' => DrAll K G vs es ∧ H' l = some (.lst vs), ⟨h6, h3⟩, fun G H' G1 H1 s e _ k => ⟨dpAll_mono e s.1, k rfl l _ h3 h5⟩, .inl fun G H s e => ⟨vs, s.1, s.2⟩⟩
  | td _ => simp [Rv.iter?] at q
  | bd _ => simp [Rv.iter?] at q
  | bg => simp [Rv.iter?] at q
end
def iSeq (fr : Bool) (f : E) : EI := fun ρ β => (f ρ β).bind fun r β => R.of (r.iter? fr) β
theorem readSeqI {K : PySem.W.Frag} {ec : EC} {W : WX} {fr : Bool} {f : E} {σ : L2.St} {H : Hp} {Z : It → Hp → Prop} (h : rIt K ec W fr (iSeq fr f) σ H Z) : iSq K (rE K ec W f) σ H Z := by
  obtain ⟨H0, G0, bg, G, ρ, β, a, h⟩ := h
  refine rE_go a ?_
  simp only [iSeq] at h
  cases hf : f ρ β with
  | no => rw [hf] at h; exact h
  | er e b => rw [hf] at h; exact h
  | ok r β1 =>
    rw [hf] at h
    intro v G1 H1 s1 v1
    simp only [R.bind] at h
    cases hz : r.iter? fr with
    | none => rw [hz] at h; exact h.elim
    | some ds =>
      rw [hz] at h
      obtain ⟨l, G2, rfl, c2, e2, Src, hsrc, hkeep, hread⟩ := v1.src ⟨s1, a.gh⟩ hz
      refine ⟨l, rfl, ?_⟩
      rcases hread with hr | hr
      · obtain ⟨vs, _, hl⟩ := hr G2 H1 hsrc c2.gh
        refine .inl ⟨vs, hl, h _ Src G2 H1 c2.st ⟨hkeep, fun G H i s e hi => ?_, fun G H s e => ?_, fun G H i x H' s e hi y => ?_⟩ hsrc⟩
        · obtain ⟨vs, d1, d2⟩ := hr G H s e
          have hl := DrAll.length d1
          exact ⟨vs, vs[i]'(by omega), SqL.of d2, List.getElem?_eq_getElem _⟩
        · obtain ⟨vs, d1, d2⟩ := hr G H s e
          exact ⟨vs, SqL.of d2, Nat.le_of_eq (DrAll.length d1)⟩
        · obtain ⟨vs, d1, d2⟩ := hr G H s e
          obtain ⟨rfl, y⟩ := y
          obtain ⟨w, g1, g2⟩ := DrAll.get d1 (List.getElem?_eq_getElem hi)
          have e1 := y vs (SqL.of d2)
          rw [g1] at e1
          cases e1
          exact ⟨G, _, List.getElem?_eq_getElem hi, Ex.refl _, e, fun _ _ => rfl, g2⟩
      · obtain ⟨vs, _, hl⟩ := hr G2 H1 hsrc c2.gh
        refine .inr ⟨vs, hl, h _ Src G2 H1 c2.st ⟨hkeep, fun G H i s e hi => ?_, fun G H s e => ?_, fun G H i x H' s e hi y => ?_⟩ hsrc⟩
        · obtain ⟨vs, d1, d2⟩ := hr G H s e
          have hl := DrAll.length d1
          exact ⟨vs, vs[i]'(by omega), d2, List.getElem?_eq_getElem _⟩
        · obtain ⟨vs, d1, d2⟩ := hr G H s e
          exact ⟨vs, d2, Nat.le_of_eq (DrAll.length d1)⟩
        · obtain ⟨vs, d1, d2⟩ := hr G H s e
          obtain ⟨rfl, y⟩ := y
          obtain ⟨w, g1, g2⟩ := DrAll.get d1 (List.getElem?_eq_getElem hi)
          have e1 := y vs d2
          rw [g1] at e1
          cases e1
          exact ⟨G, _, List.getElem?_eq_getElem hi, Ex.refl _, e, fun _ _ => rfl, g2⟩
theorem si_seq {X : Cx} {ec : EC} {W : WX} {fr : Bool} {tg e : Expr} {f : E} (h : SE X ec W e f) : SI X ec W fr tg e (iSeq fr f) := PI.imp (pi_sq h) fun σ H R h => readSeqI h
/-- lo, lo + 1, .. -/
def upTo (lo : Int) (n : Nat) : List PyData := (List.range n).map fun (i : Nat) => PyData.int (lo + (i : Int))
def rng1? : List Rv → Option (List PyData)
  | [.fz (.int j)] => if -(2 ^ 62) ≤ j ∧ j < 2 ^ 62 then some (upTo 0 j.toNat) else none
  | _ => none
def rng2? : List Rv → Option (List PyData)
  | [.fz (.int i), .fz (.int j)] => if -(2 ^ 62) ≤ i ∧ i < 2 ^ 62 ∧ -(2 ^ 62) ≤ j ∧ j < 2 ^ 62 then some (upTo i (j - i).toNat) else none
  | _ => none
def iRng1 (f : EA) : EI := fun ρ β => (f ρ β).bind fun rs β => R.of (rng1? rs) β
def iRng2 (f : EA) : EI := fun ρ β => (f ρ β).bind fun rs β => R.of (rng2? rs) β
theorem itOk_range {K : PySem.W.Frag} {fr : Bool} {bg : BG} {Hb : Hp} {lo : Int} {n : Nat} : ItOk K fr bg Hb (Itr lo n) (upTo lo n) (fun _ _ => True) where
  keep := fun _ _ _ _ _ _ _ _ => trivial
  go := fun G H i _ _ hi => by
    unfold upTo at hi
    rw [List.length_map, List.length_range] at hi
    exact hi
  stop := fun G H _ _ => by
    show n ≤ (upTo lo n).length
    unfold upTo
    rw [List.length_map, List.length_range]
    exact Nat.le_refl n
  yld := fun G H i x H' _ e hi y => by
    have hi' := hi
    unfold upTo at hi
    rw [List.length_map, List.length_range] at hi
    obtain ⟨rfl, rfl⟩ := y
    refine ⟨G, .int (lo + i), ?_, Ex.refl _, e, fun _ _ => rfl, Dr.int _⟩
    unfold upTo
    rw [List.getElem?_map, List.getElem?_range hi]
    rfl
theorem si_range1 {X : Cx} {ec : EC} {W : WX} {fr : Bool} {tg a : Expr} {f : EA} {p pos : Pos} (hg : Gl X "range") (hm : X.mg "range" = none) (ha : SA X ec W [a] f) (hs : starEach [a] X.env = [(false, eval a X.env)] := by rfl) :
    SI X ec W fr tg (.Call (.Name "range" p) [a] [] pos) (iRng1 f) := PI.imp (pi_range1 hg hm ha hs) fun σ H Z h => by
  obtain ⟨H0, G0, bg, G, ρ, β, a, h⟩ := h
  refine ⟨H0, G0, bg, G, ρ, β, a, ?_⟩
  simp only [iRng1] at h
  cases hf : f ρ β with
  | no => rw [hf] at h; exact h
  | er e b => rw [hf] at h; exact h
  | ok rs β1 =>
    rw [hf] at h
    intro vs G1 H1 s1 v1
    simp only [R.bind] at h
    cases hz : rng1? rs with
    | none => rw [hz] at h; exact h.elim
    | some ds =>
      rw [hz] at h
      unfold rng1? at hz
      split at hz
      · split at hz
        · cases hz
          rename_i hb
          cases v1 with
          | cons hv ht =>
            cases ht
            have hv' : Dr X.K G1 _ (PyData.int _) := hv
            cases hv'
            exact ⟨_, rfl, hb.1, hb.2, h _ _ G1 H1 s1 itOk_range trivial⟩
        · cases hz
      · cases hz
theorem si_range2 {X : Cx} {ec : EC} {W : WX} {fr : Bool} {tg a b : Expr} {f : EA} {p pos : Pos} (hg : Gl X "range") (hm : X.mg "range" = none) (ha : SA X ec W [a, b] f) (hs : starEach [a, b] X.env = [(false, eval a X.env), (false, eval b X.env)] := by rfl) (hs2 : starEach [b] X.env = [(false, eval b X.env)] := by rfl) :
    SI X ec W fr tg (.Call (.Name "range" p) [a, b] [] pos) (iRng2 f) := PI.imp (pi_range2 hg hm ha hs hs2) fun σ H Z h => by
  obtain ⟨H0, G0, bg, G, ρ, β, a, h⟩ := h
  refine ⟨H0, G0, bg, G, ρ, β, a, ?_⟩
  simp only [iRng2] at h
  cases hf : f ρ β with
  | no => rw [hf] at h; exact h
  | er e b => rw [hf] at h; exact h
  | ok rs β1 =>
    rw [hf] at h
    intro vs G1 H1 s1 v1
    simp only [R.bind] at h
    cases hz : rng2? rs with
    | none => rw [hz] at h; exact h.elim
    | some ds =>
      rw [hz] at h
      unfold rng2? at hz
      split at hz
      · split at hz
        · cases hz
          rename_i hb
          cases v1 with
          | cons hv ht =>
            cases ht with
            | cons hv2 ht =>
              cases ht
              have hv' : Dr X.K G1 _ (PyData.int _) := hv
              have hv2' : Dr X.K G1 _ (PyData.int _) := hv2
              cases hv'
              cases hv2'
              exact ⟨_, _, rfl, hb, h _ _ G1 H1 s1 itOk_range trivial⟩
        · cases hz
      · cases hz
end VL

/-! VL5: comprehensions. -/
namespace VL
open PySem PySem.Spec PyProof.Rows L2

abbrev W0 : WX := fun _ _ _ _ => False

/-- one item of a comprehension -/
def compOne (tg : TgF) (t : ET) (e : E) (ρ : Env) (d : PyData) (β : Bag) : R (Option PyData) := match tg d ρ with
  | none => .no
  | some ρ1 => match t ρ1 β with
    | .ok false β1 => .ok none β1
    | .ok true β1 => match e ρ1 β1 with
      | .ok r β2 => match r.keep? with
        | some y => .ok (some y) β2
        | none => .no
      | _ => .no
    | _ => .no
def compD (tg : TgF) (t : ET) (e : E) (ρ : Env) : List PyData → Bag → R (List PyData)
  | [], β => .ok [] β
  | d :: ds, β => (compOne tg t e ρ d β).bind fun o β => (compD tg t e ρ ds β).bind fun ys β => .ok (o.toList ++ ys) β
def big : Nat := 1000000
def eComp (vs : List Nat) (tg : TgF) (t : ET) (e : E) (f : EI) : E := fun ρ β => (f ρ β).bind fun ds β => if ds.length ≤ big then (compD tg t e (forget vs ρ) ds β).bind fun ys β => .ok (.tm ys) β else .no
def eYes : ET := fun _ β => .ok true β

theorem wipe_get {σ : L2.St} : ∀ {vs : List Nat} {j : Nat}, j < σ.length → (wipe σ vs)[j]? = if j ∈ vs then some none else σ[j]?
  | [], j, h => by
    rw [if_neg (by simp)]
    rfl
  | v :: vs, j, h => by
    unfold wipe
    by_cases hv : v = j
    · subst hv
      rw [List.getElem?_set_self (by rw [wipe_length]; exact h), if_pos (List.mem_cons_self ..)]
    · rw [List.getElem?_set_ne hv, wipe_get h]
      by_cases hm : j ∈ vs
      · rw [if_pos hm, if_pos (List.mem_cons_of_mem _ hm)]
      · rw [if_neg hm, if_neg (by simp only [List.mem_cons, not_or]; exact ⟨fun e => hv e.symm, hm⟩)]
theorem wipe_eq {σ σ' : L2.St} {vs is : List Nat} (hl : σ'.length = σ.length) (hs : ∀ i ∈ is, i ∈ vs) (h : ∀ j, j ∉ is → σ'[j]? = (wipe σ vs)[j]?) (hw : (wipe σ vs).length = σ.length) : wipe σ' vs = wipe σ vs := by
  refine List.ext_getElem? fun j => ?_
  by_cases hj : j < σ.length
  · rw [wipe_get (by rw [hl]; exact hj), wipe_get hj]
    by_cases hm : j ∈ vs
    · rw [if_pos hm, if_pos hm]
    · rw [if_neg hm, if_neg hm, h j (fun z => hm (hs j z)), wipe_get hj, if_neg hm]
  · rw [List.getElem?_eq_none (by rw [wipe_length, hl]; omega), List.getElem?_eq_none (by rw [wipe_length]; omega)]
section
variable {K : PySem.W.Frag} {H0 G0 : Hp} {bg : BG} {G H : Hp} {σ : L2.St} {ρ : Env} {β : Bag}
/-- slots of which nothing is known may be wiped -/
theorem Ag.wipeσ (a : Ag K H0 G0 bg G H σ ρ β) : ∀ (vs : List Nat), Ag K H0 G0 bg G H (wipe σ vs) (forget vs ρ) β := fun vs => by
  have base : ∀ (vs : List Nat) (ρ : Env) (σ : L2.St), Ag K H0 G0 bg G H σ ρ β → (∀ i ∈ vs, ∀ s, ρ[i]? = some s → s = .no) → Ag K H0 G0 bg G H (wipe σ vs) ρ β := by
    intro vs
    induction vs with
    | nil => exact fun ρ σ a _ => a
    | cons v vs ih =>
      intro ρ σ a h
      have a1 := ih ρ σ a fun i hi => h i (List.mem_cons_of_mem _ hi)
      show Ag K H0 G0 bg G H ((wipe σ vs).set v none) ρ β
      cases hv : ρ[v]? with
      | none =>
        have hl : ρ.length ≤ v := List.getElem?_eq_none_iff.mp hv
        refine ⟨a1.gh, a1.kp, a1.dm, a1.fr, a1.bagOk, a1.bagG, fun i s hi => ?_, fun i s l hi ho e => ?_, fun i j s t l hi ho e hj ho' e' => ?_⟩
        · have := lt_of_some hi
          rw [List.getElem?_set_ne (by omega)]
          exact a1.slots i s hi
        · have := lt_of_some hi
          rw [List.getElem?_set_ne (by omega)] at e
          exact a1.owns i s l hi ho e
        · have := lt_of_some hi
          have := lt_of_some hj
          rw [List.getElem?_set_ne (by omega)] at e e'
          exact a1.dist i j s t l hi ho e hj ho' e'
      | some s =>
        have := h v (List.mem_cons_self ..) s hv
        subst this
        exact a1.setNo hv none
  refine base vs _ _ (a.wipes vs) fun i hi s hs => ?_
  have gen : ∀ (vs : List Nat) (ρ : Env) (s : Sl), (i ∈ vs ∨ ∀ t, ρ[i]? = some t → t = .no) → (forget vs ρ)[i]? = some s → s = .no := by
    intro vs
    induction vs with
    | nil =>
      intro ρ s h hs
      rcases h with h | h
      · cases h
      · exact h s hs
    | cons v vs ih =>
      intro ρ s h hs
      refine ih (ρ.set v .no) s ?_ hs
      by_cases hv : v = i
      · subst hv
        refine .inr fun t ht => ?_
        have hl := lt_of_some ht
        rw [List.length_set] at hl
        rw [List.getElem?_set_self hl] at ht
        cases ht
        rfl
      · rcases h with h | h
        · rcases List.mem_cons.mp h with h | h
          · exact absurd h.symm hv
          · exact .inl h
        · refine .inr fun t ht => ?_
          rw [List.getElem?_set_ne hv] at ht
          exact h t ht
  exact gen vs ρ s (.inl hi) hs
end
theorem big_line : big ≤ sizeLine := by
  rw [sizeLine_eq]
  decide
section
variable {K : PySem.W.Frag} {ec : EC} {W : WX} {σ : L2.St} {H : Hp} {Q : VK} {tg : TgF} {is vs : List Nat} {f : EI} {t : ET} {e : E}
theorem readComp (hsub : ∀ i ∈ is, i ∈ vs) (h : rE K ec W (eComp vs tg t e f) σ H Q) : tLc (rIt K ec W false f) (rG K is tg) (rT K ec W0 t) (rE K ec W0 e) vs σ H Q := by
  obtain ⟨H0, G0, bg, Gs, ρ, β, a, h⟩ := h
  refine ⟨H0, G0, bg, Gs, ρ, β, a, ?_⟩
  simp only [eComp] at h
  cases hf : f ρ β with
  | no => rw [hf] at h; exact h
  | er e b => rw [hf] at h; exact h
  | ok ds β1 =>
    rw [hf] at h
    simp only [R.bind] at h
    split at h
    · rename_i r b heq
      split at heq
      · rename_i hsz
        intro J Src G1 H1 st it src Dl hD
        have hHs : H Dl = none := none_back st.dm hD
        refine ⟨fun i m H' => m = ds.length - i ∧ i ≤ ds.length ∧ ∃ G β' acc ys, Stp bg Gs H G H' β' ∧ Src G H' ∧ Ex G1 G ∧ (∀ a o, H1 a = some o → ¬ inB bg a → H' a = some o) ∧ H' Dl = some (.lst acc) ∧ G Dl = none ∧ DrAll K G acc ys ∧ ys.length ≤ i ∧
          (∃ zs, compD tg t e (forget vs ρ) (ds.drop i) β' = .ok zs b ∧ r = .tm (ys ++ zs)), ⟨ds.length, by omega, Nat.zero_le _, ?_⟩, ?_⟩
        · have c1 : Ct H0 bg Gs H G1 H1 β1 := ⟨st, a.gh⟩
          have e1 := Ct.new c1 (o := .lst []) hD
          refine ⟨G1, β1, [], [], e1, it.keep _ _ _ _ src (Ex.refl _) e1.gh (fun _ a o ha _ => ?_), Ex.refl _, fun a o ha _ => ?_, upd_same, none_ex st.gh hD, .nil, Nat.zero_le _, ?_⟩
          · rw [upd_none hD (dom_of ha)]; exact ha
          · rw [upd_none hD (dom_of ha)]; exact ha
          · rw [List.drop_zero]
            split at heq
            · rename_i zs b' hz
              cases heq
              exact ⟨zs, hz, rfl⟩
            · cases heq
            · cases heq
        · rintro i m H2 ⟨rfl, hi, G2, β2, acc, ys, s2, src2, e12, kp2, hl2, hg2, d2, hys, zs, hz, hr⟩
          by_cases hlt : i < ds.length
          · rw [List.drop_eq_getElem_cons hlt] at hz
            simp only [compD] at hz
            cases ho : compOne tg t e (forget vs ρ) ds[i] β2 with
            | no => rw [ho] at hz; cases hz
            | er _ _ => rw [ho] at hz; cases hz
            | ok o β3 =>
              rw [ho] at hz
              simp only [R.bind] at hz
              split at hz
              · rename_i ws b3 hw
                cases hz
                refine .inr ⟨it.go G2 H2 i src2 s2.gh hlt, fun H' => ∃ G acc ys, Stp bg Gs H G H' β3 ∧ Src G H' ∧ Ex G1 G ∧ (∀ a o, H1 a = some o → ¬ inB bg a → H' a = some o) ∧ H' Dl = some (.lst acc) ∧ G Dl = none ∧ DrAll K G acc ys ∧ ys.length ≤ i + 1 ∧ r = .tm (ys ++ ws), fun H' hn => ?_, fun x H3 y => ?_⟩
                · obtain ⟨G, acc, ys, q1, q2, q3, q4, q5, q6, q7, q8, q9⟩ := hn
                  exact ⟨ds.length - (i + 1), by omega, rfl, hlt, G, β3, acc, ys, q1, q2, q3, q4, q5, q6, q7, q8, ws, hw, q9⟩
                · obtain ⟨G3, d, hd, x1, x2, x3, x4⟩ := it.yld G2 H2 i x H3 src2 s2.gh hlt y
                  have hd' : d = ds[i] := by
                    rw [List.getElem?_eq_getElem hlt] at hd
                    exact (Option.some.inj hd).symm
                  subst hd'
                  have s3' : Stp bg G2 H2 G3 H3 β2 := stp_ex x1 x2 x3 s2.bagOk
                  have s3 := s2.trans s3'
                  have a3 := (a.step s3).wipeσ vs
                  have g23 := s3'.gg s2.gh
                  have kp3 : ∀ a o, H1 a = some o → ¬ inB bg a → H3 a = some o := fun a o h n => x1 a o (kp2 a o h n)
                  have src3 := it.keep _ _ _ _ src2 g23 x2 (fun _ => kp3)
                  have hl3 := x1 Dl _ hl2
                  have hg3 : G3 Dl = none := (x3 Dl (dom_of hl2)).trans hg2
                  unfold compOne at ho
                  cases ht : tg ds[i] (forget vs ρ) with
                  | none => rw [ht] at ho; cases ho
                  | some ρ3 =>
                    rw [ht] at ho
                    refine ⟨H0, G0, bg, G3, _, β2, _, ρ3, a3, x4, ht, fun σ4 l4 k4 a4 => ⟨?_, ?_⟩⟩
                    · exact wipe_eq (by rw [l4, wipe_length]) hsub k4 (wipe_length σ vs)
                    · refine ⟨H0, G0, bg, G3, ρ3, β2, a4, ?_⟩
                      simp only at ho
                      cases hb : t ρ3 β2 with
                      | no => rw [hb] at ho; cases ho
                      | er _ _ => rw [hb] at ho; cases ho
                      | ok bb β4 =>
                        rw [hb] at ho
                        intro G4 H4 s4
                        have kp4 : ∀ a o, H1 a = some o → ¬ inB bg a → H4 a = some o := fun a o h n => s4.kp a o (kp3 a o h n) n
                        have g34 := s4.gg s3.gh
                        have nB : ¬ inB bg Dl := fresh_notB st.bagOk hD
                        cases bb with
                        | false =>
                          cases ho
                          show ∃ G acc ys, _
                          exact ⟨G4, acc, ys, s3.trans s4, it.keep _ _ _ _ src3 g34 s4.gh (fun _ => kp4), e12.trans (g23.trans g34), kp4, s4.kp Dl _ hl3 nB, (s4.fr Dl (dom_of hl3)).trans hg3, dpAll_mono (g23.trans g34) d2, Nat.le_succ_of_le hys, by simpa using hr⟩
                        | true =>
                          show rE K ec W0 e σ4 H4 _
                          refine ⟨H0, G0, bg, G4, ρ3, β4, a4.step s4, ?_⟩
                          simp only at ho
                          cases he : e ρ3 β4 with
                          | no => rw [he] at ho; cases ho
                          | er _ _ => rw [he] at ho; cases ho
                          | ok rv β5 =>
                            rw [he] at ho
                            simp only at ho
                            cases hk : rv.keep? with
                            | none => rw [hk] at ho; cases ho
                            | some yv =>
                              rw [hk] at ho
                              cases ho
                              intro v G5 H5 s5 hv
                              have s45 := s4.trans s5
                              have kp5 : ∀ a o, H1 a = some o → ¬ inB bg a → H5 a = some o := fun a o h n => s5.kp a o (kp4 a o h n) n
                              have hl5 := s45.kp Dl _ hl3 nB
                              have hv' : KOk K H G5 H5 v yv := (hv.back fun a h => s4.dm a (s3.dm a h)).keep hk
                              have c5 : Ct H0 bg Gs H G5 H5 β3 := ⟨s3.trans s45, a.gh⟩
                              have c5' : Ct H0 bg G4 H4 G5 H5 β3 := ⟨s5, s4.gh⟩
                              obtain ⟨G6, c6, e6, h6⟩ := c5'.freeze (hv.keep hk)
                              have s6 : Stp bg Gs H G6 H5 β3 := (s3.trans s4).trans c6.st
                              have hg6 : G6 Dl = none := ((s4.trans c6.st).fr Dl (dom_of hl3)).trans hg3
                              have g46 := c6.st.gg s4.gh
                              refine ⟨acc, hl5, ?_, ?_⟩
                              · have := DrAll.length d2
                                have := big_line
                                omega
                              · have hsrc5 : Src G6 H5 := it.keep _ _ _ _ src3 (g34.trans g46) c6.st.gh (fun _ => kp5)
                                have ee : Ex G6 (upd H5 Dl (.lst (acc ++ [v]))) := fun a o h => by
                                  rw [upd_ne (fun z => by rw [z, hg6] at h; cases h)]
                                  exact c6.st.gh a o h
                                have kpU : ∀ a o, H1 a = some o → ¬ inB bg a → upd H5 Dl (.lst (acc ++ [v])) a = some o := fun a o h n => by
                                  rw [upd_ne (fun z => by rw [z, hD] at h; cases h)]
                                  exact kp5 a o h n
                                refine ⟨G6, acc ++ [v], ys ++ [yv], ⟨fun a o h n => ?_, fun a h => upd_dom (s6.dm a h), s6.fr, ee, ?_⟩, it.keep _ _ _ _ hsrc5 (Ex.refl _) ee (fun _ => kpU), e12.trans (g23.trans (g34.trans g46)), kpU, upd_same, hg6, DrAll.append (dpAll_mono (g23.trans (g34.trans g46)) d2) (.cons h6 .nil), by rw [List.length_append, List.length_singleton]; omega, ?_⟩
                                · rw [upd_ne (fun z => by rw [z, hHs] at h; cases h)]
                                  exact s6.kp a o h n
                                · have hb5 := s6.bagOk
                                  revert hb5 nB
                                  cases bg with
                                  | none => exact fun _ _ => trivial
                                  | some p =>
                                    obtain ⟨pb, pc⟩ := p
                                    intro nB hb5
                                    refine ⟨hb5.1, ?_, ?_⟩
                                    · rw [upd_ne (fun z => nB (.inl z.symm))]; exact hb5.2.1
                                    · rw [upd_ne (fun z => nB (.inr z.symm))]; exact hb5.2.2
                                · rw [hr]
                                  simp
              · cases hz
              · cases hz
          · have e : i = ds.length := by omega
            subst e
            rw [List.drop_length] at hz
            simp only [compD] at hz
            cases hz
            refine .inl ⟨it.stop G2 H2 src2 s2.gh, ?_⟩
            subst hr
            rw [List.append_nil] at h
            exact h (.ref Dl) G2 H2 s2 ⟨Dl, acc, rfl, hHs, hl2, hg2, fresh_notB st.bagOk hD, d2⟩
      · cases heq
    · rename_i b heq
      split at heq
      · split at heq
        · cases heq
        · rename_i hz
          cases heq
          exfalso
          have noer : ∀ (ds : List PyData) (β : Bag) er b, compD tg t e (forget vs ρ) ds β ≠ .er er b := by
            intro ds
            induction ds with
            | nil => intro β er b h; cases h
            | cons d ds ih =>
              intro β er b h
              simp only [compD] at h
              cases ho : compOne tg t e (forget vs ρ) d β with
              | no => rw [ho] at h; cases h
              | er _ _ =>
                unfold compOne at ho
                cases ht : tg d (forget vs ρ) with
                | none => rw [ht] at ho; cases ho
                | some ρ3 =>
                  rw [ht] at ho
                  simp only at ho
                  cases hb : t ρ3 β with
                  | no => rw [hb] at ho; cases ho
                  | er _ _ => rw [hb] at ho; cases ho
                  | ok bb β4 =>
                    rw [hb] at ho
                    cases bb with
                    | false => cases ho
                    | true =>
                      simp only at ho
                      cases he : e ρ3 β4 with
                      | no => rw [he] at ho; cases ho
                      | er _ _ => rw [he] at ho; cases ho
                      | ok rv β5 =>
                        rw [he] at ho
                        simp only at ho
                        cases hk : rv.keep? <;> rw [hk] at ho <;> cases ho
              | ok o β3 =>
                rw [ho] at h
                simp only [R.bind] at h
                cases hc : compD tg t e (forget vs ρ) ds β3 with
                | no => rw [hc] at h; cases h
                | ok _ _ => rw [hc] at h; cases h
                | er er2 b2 => exact ih β3 er2 b2 hc
          exact noer _ _ _ _ hz
        · cases heq
      · cases heq
    · exact h.elim
end
section
variable {X : Cx} {ec : EC} {W : WX} {elt tg iter : Expr} {ifs : List Expr} {scope : Scope} {own : List (Str × Nat)} {pos : Pos} {is : List Nat} {t : TgF} {c : ET} {e : E} {f : EI}
abbrev STs (X : Cx) (ec : EC) (W : WX) (ifs : List Expr) (t : ET) : Prop := PTs X ifs (rT X.K ec W t)
theorem PTs.imp {X : Cx} {ifs : List Expr} {t t' : TT} (h : PTs X ifs t) (hi : ∀ σ H Q, t' σ H Q → t σ H Q) : PTs X ifs t' := ⟨fun pins s σ H Q I hw => h.run pins s σ H Q I (hi σ H Q hw)⟩
theorem sts_nil : STs X ec W [] eYes := PTs.imp pts_nil fun σ H Q h => by
  obtain ⟨H0, G0, bg, G, ρ, β, a, h⟩ := h
  exact h G H (Stp.refl a.gh a.bagOk)
theorem sts_one {x : Expr} (h : ST X ec W x c) : STs X ec W [x] c := pts_one h
theorem se_comp (hc : X.calm = true) (hN : X.N.Nodup) (hi : SI X ec W false tg iter f) (ok : BlkOk X.N X.env.scope scope own)
    (hg : ∀ (s : Shared) (H : Hp) (C : Addr) (cl : List (Str × Addr)) (fp : List Addr), SG (X.blk s H scope (compEnvC scope cl C X.env) fp) tg is t) (ht : ∀ (s : Shared) (H : Hp) (C : Addr) (cl : List (Str × Addr)) (fp : List Addr), STs (X.blk s H scope (compEnvC scope cl C X.env) fp) ec W0 ifs c)
    (he : ∀ (s : Shared) (H : Hp) (C : Addr) (cl : List (Str × Addr)) (fp : List Addr), SE (X.blk s H scope (compEnvC scope cl C X.env) fp) ec W0 elt e) (hsub : ∀ i ∈ is, i ∈ own.map (·.2) := by decide) (hs : ∀ x, foldedSetIterable iter X.env x = pure x := by intro _; rfl) :
    SE X ec W (.ListComp elt [⟨tg, iter, ifs, 0⟩] scope pos) (eComp (own.map (·.2)) t c e f) :=
  PE.imp (pe_lc hc hN hi ok hg ht he hs) fun σ H Q h => readComp hsub h
theorem ss_asgComp (i : Nat) (frz : Bool) {y : Str} {py spos : Pos} (hc : X.calm = true) (hN : X.N.Nodup) (hy : X.N[i]? = some y) (hyl : X.env.scope.names.lookup y = some .local)
    (hsw : swapsWith (.ListComp elt [⟨tg, iter, ifs, 0⟩] scope pos) (some (.Name y py)) spos.line X.env = pure true) (hi : SI X ec W false tg iter f) (ok : BlkOk X.N X.env.scope scope own)
    (hg : ∀ (s : Shared) (H : Hp) (C : Addr) (cl : List (Str × Addr)) (fp : List Addr), SG (X.blk s H scope (compEnvC scope cl C X.env) fp) tg is t) (ht : ∀ (s : Shared) (H : Hp) (C : Addr) (cl : List (Str × Addr)) (fp : List Addr), STs (X.blk s H scope (compEnvC scope cl C X.env) fp) ec W0 ifs c)
    (he : ∀ (s : Shared) (H : Hp) (C : Addr) (cl : List (Str × Addr)) (fp : List Addr), SE (X.blk s H scope (compEnvC scope cl C X.env) fp) ec W0 elt e) (hsub : ∀ i ∈ is, i ∈ own.map (·.2) := by decide) (hs : ∀ x, foldedSetIterable iter X.env x = pure x := by intro _; rfl) :
    SS X ec W (.Assign [.Name y py] (.ListComp elt [⟨tg, iter, ifs, 0⟩] scope pos) spos) (sAsg i frz (eComp (own.map (·.2)) t c e f)) :=
  PS.imp (ps_setLc hc hN hy hyl hsw hi ok hg ht he hs) fun D σ H h => readComp hsub (readAsg h)
end
end VL

/-! VL6: operators, built-in functions, by values. -/
namespace VL
open PySem PySem.Spec PyProof.Rows L2

/-! ### rules over the layer that it lacks -/
section
variable {X : Cx}
/-- data that == walks: no dict, not deep -/
def okD (d : PyData) : Bool := d.plain && decide (d.depth ≤ 50)
theorem okD_plain {d : PyData} (h : okD d = true) : d.plain = true := (Bool.and_eq_true_iff.mp h).1
theorem okD_depth {d : PyData} (h : okD d = true) : d.depth ≤ 50 := of_decide_eq_true (Bool.and_eq_true_iff.mp h).2
def rEqP (K : PySem.W.Frag) : R2 := fun x y H Q => ∃ d e, Dp K H x d ∧ Dp K H y e ∧ okD d = true ∧ okD e = true ∧ Q (.bl (PyData.eqv d e)) H
def rNeP (K : PySem.W.Frag) : R2 := fun x y H Q => ∃ d e, Dp K H x d ∧ Dp K H y e ∧ okD d = true ∧ okD e = true ∧ Q (.bl (!PyData.eqv d e)) H
theorem op_eqP (hu : X.A.units + 64 < cLine) : OpR X (compareOp .Eq) (rEqP X.K) := by
  intro pins s σ H x y v u Q I rx ry h
  obtain ⟨d, e, hd, he, kd, ke, q⟩ := h
  obtain ⟨as, r1⟩ := Dp.reads I d x v hd rx
  obtain ⟨bs, r2⟩ := Dp.reads I e y u he ry
  have := okD_depth kd
  exact SeqAt.eq_plain r1 r2 (okD_plain kd) (okD_plain ke) (by omega) ⟨.bl _, H, I, rfl, q⟩
theorem op_neP (hu : X.A.units + 64 < cLine) : OpR X (compareOp .NotEq) (rNeP X.K) := by
  intro pins s σ H x y v u Q I rx ry h
  obtain ⟨d, e, hd, he, kd, ke, q⟩ := h
  obtain ⟨as, r1⟩ := Dp.reads I d x v hd rx
  obtain ⟨bs, r2⟩ := Dp.reads I e y u he ry
  have := okD_depth kd
  exact SeqAt.ne_plain r1 r2 (okD_plain kd) (okD_plain ke) (by omega) ⟨.bl _, H, I, rfl, q⟩
def rInP (K : PySem.W.Frag) (neg : Bool) : R2 := fun x y H Q => ∃ d es, Dp K H x d ∧ (Dp K H y (.list es) ∨ Dp K H y (.tuple es)) ∧ okD d = true ∧ PyData.plainAll es = true ∧ Q (.bl (if neg then !es.any (fun y => PyData.eqv y d) else es.any fun y => PyData.eqv y d)) H
theorem op_inP (hu : X.A.units + 64 < cLine) : OpR X (compareOp .In) (rInP X.K false) := by
  intro pins s σ H x y v u Q I rx ry h
  obtain ⟨d, es, hd, he, kd, ke, q⟩ := h
  obtain ⟨as, r1⟩ := Dp.reads I d x v hd rx
  have := okD_depth kd
  rcases he with he | he
  · obtain ⟨bs, r2⟩ := Dp.reads I _ y u he ry
    exact SeqAt.in_list_data r2 r1 ke (okD_plain kd) (by omega) ⟨.bl _, H, I, rfl, q⟩
  · obtain ⟨bs, r2⟩ := Dp.reads I _ y u he ry
    exact SeqAt.in_tuple_data r2 r1 ke (okD_plain kd) (by omega) ⟨.bl _, H, I, rfl, q⟩
theorem op_notInP (hu : X.A.units + 64 < cLine) : OpR X (compareOp .NotIn) (rInP X.K true) := by
  intro pins s σ H x y v u Q I rx ry h
  obtain ⟨d, es, hd, he, kd, ke, q⟩ := h
  obtain ⟨as, r1⟩ := Dp.reads I d x v hd rx
  have := okD_depth kd
  rcases he with he | he
  · obtain ⟨bs, r2⟩ := Dp.reads I _ y u he ry
    exact SeqAt.notIn_list_data r2 r1 ke (okD_plain kd) (by omega) ⟨.bl _, H, I, rfl, q⟩
  · obtain ⟨bs, r2⟩ := Dp.reads I _ y u he ry
    exact SeqAt.notIn_tuple_data r2 r1 ke (okD_plain kd) (by omega) ⟨.bl _, H, I, rfl, q⟩
/-- repr of data -/
def okR (d : PyData) : Bool := d.showable && !d.hasDict && decide (d.depth ≤ 50) && decide (d.shown.length ≤ sizeLine)
def rRepr (K : PySem.W.Frag) : List V → Hp → VK → Prop := fun xs H Q => ∃ v d, xs = [v] ∧ Dp K H v d ∧ okR d = true ∧ Q (.str d.shown) H
theorem call_reprD (gd : X.A.guards = some []) (hu : X.A.units + 64 < cLine) : CallR X (.builtin "repr") (rRepr X.K) := by
  intro pins s σ H xs us Q I r h
  obtain ⟨v, d, rfl, hd, ok, q⟩ := h
  obtain ⟨u, rfl, ru⟩ := vals1 r
  unfold okR at ok
  simp only [Bool.and_eq_true, decide_eq_true_eq, Bool.not_eq_true'] at ok
  obtain ⟨⟨⟨o1, o2⟩, o3⟩, o4⟩ := ok
  cases hd with
  | non =>
    cases ru
    exact PySem.P.repr_of_none ⟨.str _, H, I.tok _, ⟨_, rfl⟩, q⟩
  | bl b =>
    cases ru
    exact PySem.P.repr_of_bool ⟨.str _, H, I.tok _, ⟨_, rfl⟩, q⟩
  | int i =>
    obtain ⟨t, rfl⟩ := ru
    exact PySem.P.repr_of_int (of_decide_eq_true o1) ⟨.str _, H, I.tok _, ⟨_, rfl⟩, q⟩
  | str x =>
    obtain ⟨t, rfl⟩ := ru
    exact PySem.P.repr_of_str ⟨.str _, H, I.tok _, ⟨_, rfl⟩, q⟩ (by simpa only [PyData.shown] using o4)
  | lst hs ha =>
    cases ru
    obtain ⟨as, r1⟩ := Dp.reads I _ _ _ (Dp.lst hs ha) rfl
    exact repr_of_reads' r1 o1 (PyData.noDict_hsm o2) gd (by omega) (fun _ _ e => e) (fun h' u tk hk => ⟨.str _, H, I.kept hk, ⟨_, rfl⟩, q⟩) o4
  | tup hs ha =>
    cases ru
    obtain ⟨as, r1⟩ := Dp.reads I _ _ _ (Dp.tup hs ha) rfl
    exact repr_of_reads' r1 o1 (PyData.noDict_hsm o2) gd (by omega) (fun _ _ e => e) (fun h' u tk hk => ⟨.str _, H, I.kept hk, ⟨_, rfl⟩, q⟩) o4
/-- xs.count(x) -/
def rCountL (K : PySem.W.Frag) : V → List V → Hp → VK → Prop := fun x xs H Q => ∃ (p : Addr) (vs : List V) (ds : List PyData) (y : V) (d : PyData), x = .ref p ∧ xs = [y] ∧ SqL K H p vs ∧ DpAll K H vs ds ∧ Dp K H y d ∧ PyData.plainAll ds = true ∧ okD d = true ∧ Q (.int ((ds.countP fun y => PyData.eqv y d : Nat) : Int)) H
theorem mt_countP (hu : X.A.units + 64 < cLine) : MtR X "list.count" (rCountL X.K) := by
  intro pins s σ H x xs v us Q I rx rxs h
  obtain ⟨p, vs, ds, y, d, rfl, rfl, hs, ha, hd, k1, k2, q⟩ := h
  cases rx
  obtain ⟨u, rfl, ru⟩ := rxs.one
  obtain ⟨its, rv, pl, hz⟩ := I.list hs
  obtain ⟨as, r1⟩ := Dp.readsAll I ds _ its ha rv
  obtain ⟨bs, r2⟩ := Dp.reads I d y u hd ru
  have := okD_depth k2
  exact SeqAt.count_list_data pl.isList (by simpa using r1) r2 k1 (okD_plain k2) (by omega) ⟨.int _, H, I.tok _, ⟨_, rfl⟩, q⟩
end
/-! ### a tuple times an int, any count -/
section
theorem mul_same (l : Addr) (items : Array Value) (n : Nat) (dd : Option Addr) (sl : Array (Option Value)) (x : Int) (u : Tok) (c0 : (decide (x < -(2 ^ 63)) || decide (x ≥ 2 ^ 63)) = false) (c1 : (items.isEmpty || x == 1) = true) :
    Meets (Builtin.«tuple.__mul__» ⟨[.ref l, .int x u], []⟩) (fun _ Z s => s.heap.get? l = some { cls := .type "tuple", dict := dd, data := .seq items n, slots := sl } ∧ Z (.ok (.ret (Value.ref l))) s) :=
  .of_wp fun prog w A Z s h => by
    obtain ⟨hp, g, d, tk, os⟩ := s
    obtain ⟨hl, h⟩ := h
    have f1 := AutoSeq1.idx_int
    have hx : Shared.TypeIs ⟨hp, g, d, tk, os⟩ (.ref l) "tuple" := ⟨_, hl, rfl⟩
    wp_walk using wpAny_loadPart' hl
    repeat (first
      | (refine wpAny_ite_false (decide_eq_false (by rw [c0]; exact Bool.false_ne_true)) ?_; wp_walk using wpAny_loadPart' hl)
      | (refine wpAny_ite_true (decide_eq_true c1) ?_; wp_walk using wpAny_loadPart' hl)
      | (simp only [c1, if_true]; wp_walk using wpAny_loadPart' hl)
      | (refine wpAny_bind (wpAny_typeOf hx ?_); wp_walk using wpAny_loadPart' hl))
    all_goals first | exact ⟨_, rfl, h⟩ | skip
theorem mul_none (l : Addr) (items : Array Value) (n : Nat) (dd : Option Addr) (sl : Array (Option Value)) (x : Int) (u : Tok) (c0 : (decide (x < -(2 ^ 63)) || decide (x ≥ 2 ^ 63)) = false) (c1 : (items.isEmpty || x == 1) = false) (c2 : (decide (x ≤ 0) || items.isEmpty) = true) :
    Meets (Builtin.«tuple.__mul__» ⟨[.ref l, .int x u], []⟩) (fun _ Z s => s.heap.get? l = some { cls := .type "tuple", dict := dd, data := .seq items n, slots := sl } ∧
      Z (.ok (.ret (Value.ref s.heap.objs.size))) { s with heap := s.heap.push { cls := Value.type "tuple", data := Data.seq #[] }, toks := s.toks }) :=
  .of_wp fun prog w A Z s h => by
    obtain ⟨hp, g, d, tk, os⟩ := s
    obtain ⟨hl, h⟩ := h
    have f1 := AutoSeq1.idx_int
    wp_walk using wpAny_loadPart' hl
    repeat (first
      | (refine wpAny_ite_false (decide_eq_false (by rw [c0]; exact Bool.false_ne_true)) ?_; wp_walk using wpAny_loadPart' hl)
      | (refine wpAny_ite_false (decide_eq_false (by rw [c1]; exact Bool.false_ne_true)) ?_; wp_walk using wpAny_loadPart' hl)
      | (refine wpAny_ite_true (decide_eq_true c2) ?_; wp_walk using wpAny_loadPart' hl))
    exact ⟨_, rfl, h⟩
def rRepTA (K : PySem.W.Frag) : R2 := fun x y H Q => ∃ l k xs, x = .ref l ∧ y = .int k ∧ SqT K H l xs ∧ -(2 ^ 62) ≤ k ∧ k ≤ 1000000 ∧ xs.length * k.toNat ≤ big ∧
  ((xs = [] ∨ k = 1) → Q (.ref l) H) ∧ (xs ≠ [] → k ≠ 1 → ∀ p, H p = none → Q (.ref p) (upd H p (.tup (List.replicate k.toNat xs).flatten)))
theorem op_repTA {X : Cx} : OpR X (binaryOp .Mult) (rRepTA X.K) := by
  intro pins s σ H x y v u Q I rx ry h
  obtain ⟨l, k, xs, rfl, rfl, hT, h1, h2, hz, q1, q2⟩ := h
  cases rx
  obtain ⟨t, rfl⟩ := ry
  obtain ⟨its, r, ⟨⟨cls, dd, data, sl⟩, ho, hc, n, hd⟩, hs⟩ := I.tuple hT
  simp only at hc hd
  subst hc hd
  have hle : its.length = xs.length := r.length.symm
  have c0 : (decide (k < -(2 ^ 63)) || decide (k ≥ 2 ^ 63)) = false := by
    rw [decide_eq_false (by omega), decide_eq_false (by omega)] <;> rfl
  refine wpAny_binaryOp_repeat_ref (T := "tuple") (U := "int") (by decide) ⟨_, ho, rfl⟩ (fun s' => typeIs_int s' k t) noFill_tuple_mul F.fills_int_mul F.slot_int_rmul repeat_tuple F.slot_int_index.lookup
    (call_meets F.slot_int_rmul (typeIs_int s k t) F.entry_int_rmul (F.args_int_rmul_2 _ _) (int_rmul_tuple k t l its.toArray n dd sl) ⟨ho, rfl, ⟨_, ho, rfl⟩, ?_⟩)
  by_cases h0 : xs = [] ∨ k = 1
  · have c1 : (its.toArray.isEmpty || k == 1) = true := by
      rcases h0 with h0 | h0
      · rw [h0] at hle
        rw [List.eq_nil_of_length_eq_zero hle]
        rfl
      · rw [h0, Bool.or_eq_true]
        exact .inr rfl
    exact call_meets F.slot_tuple_mul ⟨_, ho, rfl⟩ F.entry_tuple_mul (F.args_tuple_mul_2 _ _) (mul_same l its.toArray n dd sl k t c0 c1) ⟨ho, ⟨.ref l, H, I, rfl, q1 h0⟩⟩
  · have hx : xs ≠ [] := fun e => h0 (.inl e)
    have hk : k ≠ 1 := fun e => h0 (.inr e)
    have hi : its.toArray.isEmpty = false := by
      cases its with
      | nil => exact absurd (List.eq_nil_of_length_eq_zero hle.symm) hx
      | cons a b => rfl
    have c1 : (its.toArray.isEmpty || k == 1) = false := by
      rw [hi, Bool.false_or]
      exact beq_eq_false_iff_ne.mpr hk
    by_cases hneg : k ≤ 0
    · have c2 : (decide (k ≤ 0) || its.toArray.isEmpty) = true := by
        rw [decide_eq_true hneg]
        rfl
      refine call_meets F.slot_tuple_mul ⟨_, ho, rfl⟩ F.entry_tuple_mul (F.args_tuple_mul_2 _ _) (mul_none l its.toArray n dd sl k t c0 c1 c2) ⟨ho, ?_⟩
      have e0 : k.toNat = 0 := by omega
      refine ⟨.ref s.heap.objs.size, _, I.laid (t' := s.toks) (o := .tup (List.replicate k.toNat xs).flatten) (fun b ob q => Heap.get?_push_of_some _ q) (Nat.le_refl _) ?_, rfl, q2 hx hk _ (I.hok.fresh (Nat.le_refl _))⟩
      rw [e0]
      exact ⟨Nat.zero_le _, [], .nil, IsTup.new _ _⟩
    · have c2 : (decide (k ≤ 0) || its.toArray.isEmpty) = false := by
        rw [hi, Bool.or_false]
        exact decide_eq_false hneg
      have hzz : xs.length * k.toNat ≤ 1000000 := hz
      have hm : ((its.toArray.size : Nat) : Int) * k ≤ 1000000 := by
        rw [List.size_toArray, hle]
        have e1 : k = (k.toNat : Int) := by omega
        have e2 : ((xs.length * k.toNat : Nat) : Int) ≤ 1000000 := Int.ofNat_le.mpr hzz
        rw [Int.natCast_mul, ← e1] at e2
        exact e2
      have flen : (List.replicate k.toNat its).flatten.length ≤ sizeLine := by
        rw [PyProof.Rows.lm_len_rep_flat, hle, Nat.mul_comm, sizeLine_eq]
        omega
      have c4 : Builtin.Tuple.tupleTooMany (((its.toArray.size : Nat) : Int) * k) = false := by
        unfold Builtin.Tuple.tupleTooMany
        rw [sizeLine_eq]
        exact decide_eq_false (by omega)
      refine call_meets F.slot_tuple_mul ⟨_, ho, rfl⟩ F.entry_tuple_mul (F.args_tuple_mul_2 _ _) (tuple_mulW l its.toArray n dd sl k t c0 c1 c2 (by omega) c4 (by rw [size_rep, List.size_toArray]; exact flen)) ⟨ho, ?_⟩
      rw [size_rep]
      refine ⟨.ref s.heap.objs.size, _, I.laid (t' := s.toks) (o := .tup (List.replicate k.toNat xs).flatten) (fun b ob q => Heap.get?_push_of_some _ q) (Nat.le_refl _) ?_, rfl, q2 hx hk _ (I.hok.fresh (Nat.le_refl _))⟩
      exact ⟨by rw [PyProof.Rows.lm_len_rep_flat, Nat.mul_comm, sizeLine_eq]; omega, _, r.rep k.toNat, IsTup.new _ _⟩
end
end VL

/-! VL7: operators and built-ins on values. -/
namespace VL
open PySem PySem.Spec PyProof.Rows L2

/-! ### two values -/
def oI (g : Int → Int → PyData) : Rv → Rv → Option Rv
  | .fz (.int i), .fz (.int j) => some (.fz (g i j))
  | _, _ => none
def oIc (C : Int → Int → Prop) [∀ i j, Decidable (C i j)] (g : Int → Int → PyData) : Rv → Rv → Option Rv
  | .fz (.int i), .fz (.int j) => if C i j then some (.fz (g i j)) else none
  | _, _ => none
def oAdd : Rv → Rv → Option Rv
  | .fz (.int i), .fz (.int j) => some (.fz (.int (i + j)))
  | .fz (.str x), .fz (.str y) => if x.length + y.length ≤ big then some (.fz (.str (x ++ y))) else none
  | .fz (.tuple a), .fz (.tuple b) => if a.length + b.length ≤ big then some (.fz (.tuple (a ++ b))) else none
  | x, y => match x.lst?, y.lst? with
    | some a, some b => if a.length + b.length ≤ big then some (.tm (a ++ b)) else none
    | _, _ => none
abbrev oSub := oI fun i j => .int (i - j)
def CM (i j : Int) : Prop := (-(2 ^ 64) < i ∧ i < 2 ^ 64) ∨ (-(2 ^ 64) < j ∧ j < 2 ^ 64) ∨ i.natAbs.log2 + j.natAbs.log2 < 1000000
instance (i j : Int) : Decidable (CM i j) := by unfold CM; exact inferInstance
def oMul : Rv → Rv → Option Rv
  | .fz (.int i), .fz (.int j) => if CM i j then some (.fz (.int (i * j))) else none
  | .fz (.tuple a), .fz (.int k) => if -(2 ^ 62) ≤ k ∧ k ≤ 1000000 ∧ a.length * k.toNat ≤ big then some (.fz (.tuple (List.replicate k.toNat a).flatten)) else none
  | x, .fz (.int k) => match x.lst? with
    | some a => if -(2 ^ 62) ≤ k ∧ k ≤ 1000000 ∧ a.length * k.toNat ≤ big then some (.tm (List.replicate k.toNat a).flatten) else none
    | none => none
  | _, _ => none
def CD (_ j : Int) : Prop := 0 < j ∧ (j < 1073741824 ∨ j.natAbs.log2 < 9000)
instance (i j : Int) : Decidable (CD i j) := by unfold CD; exact inferInstance
def CP (_ j : Int) : Prop := 0 < j
instance (i j : Int) : Decidable (CP i j) := by unfold CP; exact inferInstance
def CN (_ j : Int) : Prop := 0 ≤ j
instance (i j : Int) : Decidable (CN i j) := by unfold CN; exact inferInstance
def CX2 (i j : Int) : Prop := 0 ≤ j ∧ j ≤ 1000000 ∧ i.natAbs < 2 ^ 64
instance (i j : Int) : Decidable (CX2 i j) := by unfold CX2; exact inferInstance
abbrev oFdiv := oIc CD fun i j => .int (i / j)
abbrev oMod := oIc CP fun i j => .int (i % j)
abbrev oPow := oIc CX2 fun i j => .int (i ^ j.toNat)
abbrev oShl := oIc CX2 fun i j => .int (i * 2 ^ j.toNat)
abbrev oShr := oIc CN fun i j => .int (i / 2 ^ j.toNat)
abbrev oAnd := oI fun i j => .int (Builtin.bitAnd i j)
abbrev oOr := oI fun i j => .int (Builtin.bitOr i j)
abbrev oXor := oI fun i j => .int (Builtin.bitXor i j)
abbrev cLt := oI fun i j => .bool (decide (i < j))
abbrev cLe := oI fun i j => .bool (decide (i ≤ j))
abbrev cGt := oI fun i j => .bool (decide (j < i))
abbrev cGe := oI fun i j => .bool (decide (j ≤ i))
def cEq (x y : Rv) : Option Rv := match x.data?, y.data? with
  | some d, some e => if okD d = true ∧ okD e = true then some (.fz (.bool (PyData.eqv d e))) else none
  | _, _ => none
def cNe (x y : Rv) : Option Rv := match x.data?, y.data? with
  | some d, some e => if okD d = true ∧ okD e = true then some (.fz (.bool (!PyData.eqv d e))) else none
  | _, _ => none
def cIn (neg : Bool) (x y : Rv) : Option Rv := match x.data?, y.seq? with
  | some d, some es => if okD d = true ∧ PyData.plainAll es = true then some (.fz (.bool (if neg then !es.any (fun y => PyData.eqv y d) else es.any fun y => PyData.eqv y d))) else none
  | _, _ => none
def Rv.isN : Rv → Bool
  | .fz .none => true
  | _ => false
def cIsN (x y : Rv) : Option Rv := match y with
  | .fz .none => some (.fz (.bool x.isN))
  | _ => none
def cNotN (x y : Rv) : Option Rv := match y with
  | .fz .none => some (.fz (.bool (!x.isN)))
  | _ => none
/-- an item -/
def Rv.int? : Rv → Option Int
  | .fz (.int i) => some i
  | _ => none
def Rv.str? : Rv → Option Str
  | .fz (.str z) => some z
  | _ => none
def oIdx (x y : Rv) : Option Rv := y.int?.bind fun i => match x.seq? with
  | some ds => (atI ds i).map Rv.fz
  | none => x.str?.bind fun z => if z.length ≤ big then (atI z.cps.toList i).map fun c => .fz (.str ⟨#[c]⟩) else none

theorem dr_int {K : PySem.W.Frag} {G : Hp} {v : V} {i : Int} (h : Dr K G v (.int i)) : v = .int i := by
  cases h
  rfl
theorem dr_str {K : PySem.W.Frag} {G : Hp} {v : V} {i : Str} (h : Dr K G v (.str i)) : v = .str i := by
  cases h
  rfl
theorem dr_bool {K : PySem.W.Frag} {G : Hp} {v : V} {i : Bool} (h : Dr K G v (.bool i)) : v = .bl i := by
  cases h
  rfl
theorem dr_tup {K : PySem.W.Frag} {G : Hp} {v : V} {ds : List PyData} (h : Dr K G v (.tuple ds)) : ∃ a vs, v = .ref a ∧ SqT K G a vs ∧ DrAll K G vs ds := by
  cases h with
  | tup h a => exact ⟨_, _, rfl, h, a⟩
section
variable {X : Cx} {K : PySem.W.Frag}
theorem v_I {g : Int → Int → V} {d : Int → Int → PyData} (hg : ∀ (i j : Int) (G : Hp), Dr K G (g i j) (d i j)) : OpV K (rI0 g) (oI d) := by
  intro H0 bg Gs Hs G H β x y rx ry z c hx hy hz
  unfold oI at hz
  split at hz
  · cases hz
    rename_i i j
    exact Yld.val c (hg i j G) fun Q q => ⟨i, j, dr_int hx, dr_int hy, q⟩
  · cases hz
theorem v_Ic {C C' : Int → Int → Prop} [∀ i j, Decidable (C i j)] {g : Int → Int → V} {d : Int → Int → PyData} (hg : ∀ (i j : Int) (G : Hp), Dr K G (g i j) (d i j)) (hC : ∀ i j, C i j → C' i j) : OpV K (rI C' g) (oIc C d) := by
  intro H0 bg Gs Hs G H β x y rx ry z c hx hy hz
  unfold oIc at hz
  split at hz
  · split at hz
    · cases hz
      rename_i i j hc
      exact Yld.val c (hg i j G) fun Q q => ⟨i, j, dr_int hx, dr_int hy, hC i j hc, q⟩
    · cases hz
  · cases hz
abbrev rAddA (K : PySem.W.Frag) : R2 := fun x y H Q => rI0 (fun i j => .int (i + j)) x y H Q ∨ (∃ i j, x = .str i ∧ y = .str j ∧ i.length + j.length ≤ sizeLine ∧ Q (.str (i ++ j)) H) ∨ rCatA K x y H Q ∨ rCat x y H Q
theorem op_addA : OpR X (binaryOp .Add) (rAddA X.K) := op_add.or (op_add_str.or (op_catA.or op_cat))
theorem v_add : OpV K (rAddA K) oAdd := by
  intro H0 bg Gs Hs G H β x y rx ry z c hx hy hz
  unfold oAdd at hz
  split at hz
  · cases hz
    exact Yld.val c (Dr.int _) fun Q q => .inl ⟨_, _, dr_int hx, dr_int hy, q⟩
  · split at hz
    · cases hz
      rename_i hl
      exact Yld.val c (Dr.str _) fun Q q => .inr (.inl ⟨_, _, dr_str hx, dr_str hy, Nat.le_trans hl big_line, q⟩)
    · cases hz
  · split at hz
    · cases hz
      rename_i hl
      obtain ⟨a, vs, rfl, t1, d1⟩ := dr_tup hx
      obtain ⟨b, ws, rfl, t2, d2⟩ := dr_tup hy
      have hl2 : vs.length + ws.length ≤ sizeLine := by
        rw [DrAll.length d1, DrAll.length d2]
        exact Nat.le_trans hl big_line
      have dd := DrAll.append d1 d2
      intro Q q
      refine .inr (.inr (.inl ⟨a, b, vs, ws, rfl, rfl, ex_t c.gh t1, ex_t c.gh t2, hl2, fun e => ?_, fun _ e => ?_, fun _ _ p hp => ?_⟩))
      · subst e
        cases d1
        exact q _ G H c.st hy
      · subst e
        cases d2
        rw [List.append_nil] at q
        exact q _ G H c.st hx
      · exact q (.ref p) _ _ (c.newG hp) (Dr.tup (SqT.of upd_same) (dpAll_mono (Ex.new (none_ex c.gh hp)) dd))
    · cases hz
  · split at hz
    · split at hz
      · cases hz
        rename_i h1 h2 hl
        obtain ⟨a, vs, rfl, t1, d1⟩ := hx.lst c.gh h1
        obtain ⟨b, ws, rfl, t2, d2⟩ := hy.lst c.gh h2
        have hl2 : vs.length + ws.length ≤ sizeLine := by
          rw [DrAll.length d1, DrAll.length d2]
          exact Nat.le_trans hl big_line
        exact Yld.lst c (DrAll.append d1 d2) fun Q q => .inr (.inr (.inr ⟨a, b, vs, ws, rfl, rfl, t1, t2, hl2, q⟩))
      · cases hz
    · cases hz
theorem v_sub : OpV K (rI0 fun i j => .int (i - j)) oSub := v_I fun _ _ _ => Dr.int _
abbrev rMulA (K : PySem.W.Frag) : R2 := fun x y H Q => rI CMul (fun i j => .int (i * j)) x y H Q ∨ rI CMulW (fun i j => .int (i * j)) x y H Q ∨ rRepTA K x y H Q ∨ rRep x y H Q
theorem op_mulA : OpR X (binaryOp .Mult) (rMulA X.K) := op_mul.or (op_mulW.or (op_repTA.or op_rep))
theorem v_mul : OpV K (rMulA K) oMul := by
  intro H0 bg Gs Hs G H β x y rx ry z c hx hy hz
  unfold oMul at hz
  split at hz
  · split at hz
    · cases hz
      rename_i i j hc
      refine Yld.val c (Dr.int _) fun Q q => ?_
      rcases hc with hc | hc | hc
      · exact .inl ⟨_, _, dr_int hx, dr_int hy, .inl hc, q⟩
      · exact .inl ⟨_, _, dr_int hx, dr_int hy, .inr hc, q⟩
      · exact .inr (.inl ⟨_, _, dr_int hx, dr_int hy, hc, q⟩)
    · cases hz
  · split at hz
    · cases hz
      rename_i a k hc
      obtain ⟨l, vs, rfl, t1, d1⟩ := dr_tup hx
      have hl := DrAll.length d1
      have dd := DrAll.rep d1 k.toNat
      intro Q q
      refine .inr (.inr (.inl ⟨l, k, vs, rfl, dr_int hy, ex_t c.gh t1, hc.1, hc.2.1, by rw [hl]; exact hc.2.2, fun e => ?_, fun _ _ p hp => ?_⟩))
      · refine q _ G H c.st ?_
        rcases e with e | e
        · subst e
          cases d1
          have e0 : (List.replicate k.toNat ([] : List PyData)).flatten = [] := by simp
          rw [e0]
          exact hx
        · subst e
          have e0 : (List.replicate (1 : Int).toNat a).flatten = a := by simp
          rw [e0]
          exact hx
      · exact q (.ref p) _ _ (c.newG hp) (Dr.tup (SqT.of upd_same) (dpAll_mono (Ex.new (none_ex c.gh hp)) dd))
    · cases hz
  · split at hz
    · split at hz
      · cases hz
        rename_i h1 hc
        obtain ⟨l, vs, rfl, t1, d1⟩ := hx.lst c.gh h1
        have hl := DrAll.length d1
        exact Yld.lst c (DrAll.rep d1 _) fun Q q => .inr (.inr (.inr ⟨l, _, vs, rfl, dr_int hy, t1, by omega, by omega, by rw [hl]; exact Nat.le_trans hc.2.2 big_line, q⟩))
      · cases hz
    · cases hz
  · cases hz
abbrev rDivA : R2 := fun x y H Q => rI CDiv (fun i j => .int (i / j)) x y H Q ∨ rI CDivW (fun i j => .int (i / j)) x y H Q
theorem op_fdivA : OpR X (binaryOp .FloorDiv) rDivA := op_fdiv.or op_fdivW
theorem v_fdiv : OpV K rDivA oFdiv := by
  intro H0 bg Gs Hs G H β x y rx ry z c hx hy hz
  unfold oFdiv oIc at hz
  split at hz
  · split at hz
    · cases hz
      rename_i i j hc
      refine Yld.val c (Dr.int _) fun Q q => ?_
      rcases hc.2 with h | h
      · exact .inl ⟨_, _, dr_int hx, dr_int hy, ⟨hc.1, h⟩, q⟩
      · exact .inr ⟨_, _, dr_int hx, dr_int hy, ⟨hc.1, h⟩, q⟩
    · cases hz
  · cases hz
theorem v_mod : OpV K (rI (fun _ j => 0 < j) fun i j => .int (i % j)) oMod := v_Ic (fun _ _ _ => Dr.int _) fun _ _ h => h
theorem v_pow : OpV K (rI CPow fun i j => .int (i ^ j.toNat)) oPow := v_Ic (fun _ _ _ => Dr.int _) fun _ _ h => h
theorem v_shl : OpV K (rI CPow fun i j => .int (i * 2 ^ j.toNat)) oShl := v_Ic (fun _ _ _ => Dr.int _) fun _ _ h => h
theorem v_shr : OpV K (rI (fun _ j => 0 ≤ j) fun i j => .int (i / 2 ^ j.toNat)) oShr := v_Ic (fun _ _ _ => Dr.int _) fun _ _ h => h
theorem v_and : OpV K (rI0 fun i j => .int (Builtin.bitAnd i j)) oAnd := v_I fun _ _ _ => Dr.int _
theorem v_or : OpV K (rI0 fun i j => .int (Builtin.bitOr i j)) oOr := v_I fun _ _ _ => Dr.int _
theorem v_xor : OpV K (rI0 fun i j => .int (Builtin.bitXor i j)) oXor := v_I fun _ _ _ => Dr.int _
theorem v_lt : OpV K (rI0 fun i j => .bl (decide (i < j))) cLt := v_I fun _ _ _ => Dr.bl _
theorem v_le : OpV K (rI0 fun i j => .bl (decide (i ≤ j))) cLe := v_I fun _ _ _ => Dr.bl _
theorem v_gt : OpV K (rI0 fun i j => .bl (decide (j < i))) cGt := v_I fun _ _ _ => Dr.bl _
theorem v_ge : OpV K (rI0 fun i j => .bl (decide (j ≤ i))) cGe := v_I fun _ _ _ => Dr.bl _
theorem v_eq : OpV K (rEqP K) cEq := by
  intro H0 bg Gs Hs G H β x y rx ry z c hx hy hz
  unfold cEq at hz
  split at hz
  · split at hz
    · cases hz
      rename_i h1 h2 hc
      exact Yld.val c (Dr.bl _) fun Q q => ⟨_, _, (hx.data c.gh h1).dp, (hy.data c.gh h2).dp, hc.1, hc.2, q⟩
    · cases hz
  · cases hz
theorem v_ne : OpV K (rNeP K) cNe := by
  intro H0 bg Gs Hs G H β x y rx ry z c hx hy hz
  unfold cNe at hz
  split at hz
  · split at hz
    · cases hz
      rename_i h1 h2 hc
      exact Yld.val c (Dr.bl _) fun Q q => ⟨_, _, (hx.data c.gh h1).dp, (hy.data c.gh h2).dp, hc.1, hc.2, q⟩
    · cases hz
  · cases hz
theorem v_in {neg : Bool} : OpV K (rInP K neg) (cIn neg) := by
  intro H0 bg Gs Hs G H β x y rx ry z c hx hy hz
  unfold cIn at hz
  split at hz
  · split at hz
    · cases hz
      rename_i h1 h2 hc
      obtain ⟨l, vs, rfl, h3, h4⟩ := hy.seq c.gh h2
      have dl := (dpAll_mono c.gh h4).dp
      refine Yld.val c (Dr.bl _) fun Q q => ⟨_, _, (hx.data c.gh h1).dp, ?_, hc.1, hc.2, q⟩
      rcases h3 with h3 | h3
      · exact .inl (Dp.lst (SqL.of h3) dl)
      · exact .inr (Dp.tup h3 dl)
    · cases hz
  · cases hz
theorem isN_iff {H0 : Hp} {bg : BG} {Hs G H : Hp} {v : V} {r : Rv} (h : VOk K H0 bg Hs G H v r) : decide (v = .non) = r.isN := by
  cases r with
  | fz d =>
    have h' : Dr K G v d := h
    cases h' <;> rfl
  | tm ds => obtain ⟨l, vs, rfl, _⟩ := h; rfl
  | bo ds => obtain ⟨l, vs, rfl, _⟩ := h; rfl
  | td ds => obtain ⟨l, vs, rfl, _⟩ := h; rfl
  | bd ds => obtain ⟨l, vs, rfl, _⟩ := h; rfl
  | bg => obtain ⟨b, c, _, rfl⟩ := h; rfl
theorem v_isN : OpV K (fun x y H Q => y = .non ∧ Q (.bl (decide (x = .non))) H) cIsN := by
  intro H0 bg Gs Hs G H β x y rx ry z c hx hy hz
  unfold cIsN at hz
  split at hz
  · cases hz
    have hy' : Dr K G y .none := hy
    cases hy'
    rw [← isN_iff hx]
    exact Yld.val c (Dr.bl _) fun Q q => ⟨rfl, q⟩
  · cases hz
theorem v_notN : OpV K (fun x y H Q => y = .non ∧ Q (.bl (!decide (x = .non))) H) cNotN := by
  intro H0 bg Gs Hs G H β x y rx ry z c hx hy hz
  unfold cNotN at hz
  split at hz
  · cases hz
    have hy' : Dr K G y .none := hy
    cases hy'
    rw [← isN_iff hx]
    exact Yld.val c (Dr.bl _) fun Q q => ⟨rfl, q⟩
  · cases hz
theorem atI_all {G : Hp} {vs : List V} {ds : List PyData} (h : DrAll K G vs ds) {i : Int} {d : PyData} (e : atI ds i = some d) : ∃ v, atI vs i = some v ∧ Dr K G v d := by
  unfold atI at e ⊢
  rw [DrAll.length h]
  cases hj : ixN ds.length i with
  | none => rw [hj] at e; cases e
  | some j =>
    rw [hj] at e
    exact DrAll.get h e
theorem VOk.int {H0 : Hp} {bg : BG} {Hs G H : Hp} {v : V} {r : Rv} {i : Int} (h : VOk K H0 bg Hs G H v r) (q : r.int? = some i) : v = .int i := by
  unfold Rv.int? at q
  split at q
  · cases q
    exact dr_int h
  · cases q
theorem VOk.str {H0 : Hp} {bg : BG} {Hs G H : Hp} {v : V} {r : Rv} {i : Str} (h : VOk K H0 bg Hs G H v r) (q : r.str? = some i) : v = .str i := by
  unfold Rv.str? at q
  split at q
  · cases q
    exact dr_str h
  · cases q
theorem v_idx : OpV K (rIx K) oIdx := by
  intro H0 bg Gs Hs G H β x y rx ry z c hx hy hz
  unfold oIdx at hz
  cases hi : ry.int? with
  | none => rw [hi] at hz; cases hz
  | some i =>
    rw [hi] at hz
    have hy' := hy.int hi
    simp only [Option.bind_some] at hz
    cases hs : rx.seq? with
    | some ds =>
      rw [hs] at hz
      obtain ⟨l, vs, rfl, h3, h4⟩ := hx.seq c.gh hs
      simp only at hz
      cases ha : atI ds i with
      | none => rw [ha] at hz; cases hz
      | some d =>
        rw [ha] at hz
        cases hz
        obtain ⟨v, e1, e2⟩ := atI_all h4 ha
        refine Yld.val c e2 fun Q q => ?_
        rcases h3 with h3 | h3
        · exact .inl ⟨l, vs, _, v, rfl, hy', SqL.of h3, e1, q⟩
        · exact .inr (.inl ⟨l, vs, _, v, rfl, hy', h3, e1, q⟩)
    | none =>
      rw [hs] at hz
      simp only at hz
      cases ht : rx.str? with
      | none => rw [ht] at hz; cases hz
      | some t =>
        rw [ht] at hz
        simp only [Option.bind_some] at hz
        split at hz
        · rename_i hl
          cases ha : atI t.cps.toList i with
          | none => rw [ha] at hz; cases hz
          | some d =>
            rw [ha] at hz
            cases hz
            exact Yld.val c (Dr.str _) fun Q q => .inr (.inr ⟨_, _, _, hx.str ht, hy', Nat.le_trans hl big_line, ha, q⟩)
        · cases hz
end

section
variable {X : Cx} {ec : EC} {W : WX} {a b : Expr} {f g : E} {pos : Pos}
theorem se_add (ha : SE X ec W a f) (hb : SE X ec W b g) : SE X ec W (.BinOp a .Add b pos) (eBin oAdd f g) := se_bin op_addA v_add ha hb
theorem se_sub (ha : SE X ec W a f) (hb : SE X ec W b g) : SE X ec W (.BinOp a .Sub b pos) (eBin oSub f g) := se_bin op_sub v_sub ha hb
theorem se_mul (ha : SE X ec W a f) (hb : SE X ec W b g) : SE X ec W (.BinOp a .Mult b pos) (eBin oMul f g) := se_bin op_mulA v_mul ha hb
theorem se_fdiv (ha : SE X ec W a f) (hb : SE X ec W b g) : SE X ec W (.BinOp a .FloorDiv b pos) (eBin oFdiv f g) := se_bin op_fdivA v_fdiv ha hb
theorem se_mod (ha : SE X ec W a f) (hb : SE X ec W b g) : SE X ec W (.BinOp a .Mod b pos) (eBin oMod f g) := se_bin op_mod v_mod ha hb
theorem se_pow (ha : SE X ec W a f) (hb : SE X ec W b g) : SE X ec W (.BinOp a .Pow b pos) (eBin oPow f g) := se_bin op_pow v_pow ha hb
theorem se_shl (ha : SE X ec W a f) (hb : SE X ec W b g) : SE X ec W (.BinOp a .LShift b pos) (eBin oShl f g) := se_bin op_shl v_shl ha hb
theorem se_shr (ha : SE X ec W a f) (hb : SE X ec W b g) : SE X ec W (.BinOp a .RShift b pos) (eBin oShr f g) := se_bin op_shr v_shr ha hb
theorem se_band (ha : SE X ec W a f) (hb : SE X ec W b g) : SE X ec W (.BinOp a .BitAnd b pos) (eBin oAnd f g) := se_bin op_and v_and ha hb
theorem se_bor (ha : SE X ec W a f) (hb : SE X ec W b g) : SE X ec W (.BinOp a .BitOr b pos) (eBin oOr f g) := se_bin op_or v_or ha hb
theorem se_bxor (ha : SE X ec W a f) (hb : SE X ec W b g) : SE X ec W (.BinOp a .BitXor b pos) (eBin oXor f g) := se_bin op_xor v_xor ha hb
def uNeg : Rv → Option Rv
  | .fz (.int i) => some (.fz (.int (-i)))
  | _ => none
theorem se_neg (ha : SE X ec W a f) : SE X ec W (.UnaryOp .USub a pos) (eUn uNeg f) := se_un un_neg (fun {H0 bg Gs Hs G H β x rx z} c hx hz => by
  unfold uNeg at hz
  split at hz
  · cases hz
    exact Yld.val c (Dr.int _) fun Q q => ⟨_, dr_int hx, q⟩
  · cases hz) ha
theorem st_lt (ha : SE X ec W a f) (hb : SE X ec W b g) : ST X ec W (.Compare a [.Lt] [b] pos) (eTest (eBin cLt f g)) := st_cmp op_lt v_lt ha hb
theorem st_le (ha : SE X ec W a f) (hb : SE X ec W b g) : ST X ec W (.Compare a [.LtE] [b] pos) (eTest (eBin cLe f g)) := st_cmp op_le v_le ha hb
theorem st_gt (ha : SE X ec W a f) (hb : SE X ec W b g) : ST X ec W (.Compare a [.Gt] [b] pos) (eTest (eBin cGt f g)) := st_cmp op_gt v_gt ha hb
theorem st_ge (ha : SE X ec W a f) (hb : SE X ec W b g) : ST X ec W (.Compare a [.GtE] [b] pos) (eTest (eBin cGe f g)) := st_cmp op_ge v_ge ha hb
theorem st_eq (hu : X.A.units + 64 < cLine) (ha : SE X ec W a f) (hb : SE X ec W b g) : ST X ec W (.Compare a [.Eq] [b] pos) (eTest (eBin cEq f g)) := st_cmp (op_eqP hu) v_eq ha hb
theorem st_ne (hu : X.A.units + 64 < cLine) (ha : SE X ec W a f) (hb : SE X ec W b g) : ST X ec W (.Compare a [.NotEq] [b] pos) (eTest (eBin cNe f g)) := st_cmp (op_neP hu) v_ne ha hb
theorem st_in (hu : X.A.units + 64 < cLine) (ha : SE X ec W a f) (hb : SE X ec W b g) (hm : behindInMarks .In b = false := by rfl) : ST X ec W (.Compare a [.In] [b] pos) (eTest (eBin (cIn false) f g)) := st_cmp (op_inP hu) v_in ha hb hm
theorem st_notin (hu : X.A.units + 64 < cLine) (ha : SE X ec W a f) (hb : SE X ec W b g) (hm : behindInMarks .NotIn b = false := by rfl) : ST X ec W (.Compare a [.NotIn] [b] pos) (eTest (eBin (cIn true) f g)) := st_cmp (op_notInP hu) v_in ha hb hm
theorem st_isN (ha : SE X ec W a f) (hb : SE X ec W b g) : ST X ec W (.Compare a [.Is] [b] pos) (eTest (eBin cIsN f g)) := st_cmp op_isN v_isN ha hb
theorem st_notN (ha : SE X ec W a f) (hb : SE X ec W b g) : ST X ec W (.Compare a [.IsNot] [b] pos) (eTest (eBin cNotN f g)) := st_cmp op_notN v_notN ha hb
theorem se_lt (ha : SE X ec W a f) (hb : SE X ec W b g) : SE X ec W (.Compare a [.Lt] [b] pos) (eBin cLt f g) := se_cmp op_lt v_lt ha hb
theorem se_le (ha : SE X ec W a f) (hb : SE X ec W b g) : SE X ec W (.Compare a [.LtE] [b] pos) (eBin cLe f g) := se_cmp op_le v_le ha hb
theorem se_gt (ha : SE X ec W a f) (hb : SE X ec W b g) : SE X ec W (.Compare a [.Gt] [b] pos) (eBin cGt f g) := se_cmp op_gt v_gt ha hb
theorem se_ge (ha : SE X ec W a f) (hb : SE X ec W b g) : SE X ec W (.Compare a [.GtE] [b] pos) (eBin cGe f g) := se_cmp op_ge v_ge ha hb
theorem se_eq (hu : X.A.units + 64 < cLine) (ha : SE X ec W a f) (hb : SE X ec W b g) : SE X ec W (.Compare a [.Eq] [b] pos) (eBin cEq f g) := se_cmp (op_eqP hu) v_eq ha hb
theorem se_ne (hu : X.A.units + 64 < cLine) (ha : SE X ec W a f) (hb : SE X ec W b g) : SE X ec W (.Compare a [.NotEq] [b] pos) (eBin cNe f g) := se_cmp (op_neP hu) v_ne ha hb
theorem se_in (hu : X.A.units + 64 < cLine) (ha : SE X ec W a f) (hb : SE X ec W b g) (hm : behindInMarks .In b = false := by rfl) : SE X ec W (.Compare a [.In] [b] pos) (eBin (cIn false) f g) := se_cmp (op_inP hu) v_in ha hb hm
theorem se_notin (hu : X.A.units + 64 < cLine) (ha : SE X ec W a f) (hb : SE X ec W b g) (hm : behindInMarks .NotIn b = false := by rfl) : SE X ec W (.Compare a [.NotIn] [b] pos) (eBin (cIn true) f g) := se_cmp (op_notInP hu) v_in ha hb hm
theorem se_isN (ha : SE X ec W a f) (hb : SE X ec W b g) : SE X ec W (.Compare a [.Is] [b] pos) (eBin cIsN f g) := se_cmp op_isN v_isN ha hb
theorem se_notN (ha : SE X ec W a f) (hb : SE X ec W b g) : SE X ec W (.Compare a [.IsNot] [b] pos) (eBin cNotN f g) := se_cmp op_notN v_notN ha hb
theorem se_idx (ha : SE X ec W a f) (hb : SE X ec W b g) (hs : PlainIx b := by exact fun _ _ => rfl) : SE X ec W (.Subscript a b pos) (eBin oIdx f g) := PE.imp (pe_ix ix_seq ha hb hs) fun σ H Q h => read2 v_idx h
end

/-! ### displays -/
def keepAll? : List Rv → Option (List PyData)
  | [] => some []
  | r :: rs => match r.keep?, keepAll? rs with
    | some d, some ds => some (d :: ds)
    | _, _ => none
def fTup (rs : List Rv) : Option Rv := match keepAll? rs with
  | some ds => if ds.length ≤ big then some (.fz (.tuple ds)) else none
  | none => none
def fLst (rs : List Rv) : Option Rv := match keepAll? rs with
  | some ds => if ds.length ≤ big then some (.tm ds) else none
  | none => none
theorem VsOk.keepAll {K : PySem.W.Frag} {H0 : Hp} {bg : BG} {Hs G H : Hp} : ∀ {vs : List V} {rs : List Rv} {ds : List PyData}, VsOk K H0 bg Hs G H vs rs → keepAll? rs = some ds → Paired (KOk K Hs G H) vs ds
  | _, _, _, .nil, q => by
    simp only [keepAll?, Option.some.injEq] at q
    subst q
    exact .nil
  | _, r :: rs, ds, .cons h t, q => by
    simp only [keepAll?] at q
    split at q
    · rename_i h1 h2
      cases q
      exact .cons (h.keep h1) (VsOk.keepAll t h2)
    · cases q
theorem v_tupD {K : PySem.W.Frag} : CaV K (fun xs H Q => xs.length ≤ sizeLine ∧ ∀ p, H p = none → Q (.ref p) (upd H p (.tup xs))) fTup := by
  intro H0 bg Gs Hs G H β xs rs z c hx hz
  unfold fTup at hz
  split at hz
  · split at hz
    · cases hz
      rename_i h1 hl
      obtain ⟨G1, c1, e1, h2⟩ := c.freezeAll (VsOk.keepAll hx h1)
      exact Yld.tup c1 h2 fun Q q => ⟨by rw [DrAll.length h2]; exact Nat.le_trans hl big_line, q⟩
    · cases hz
  · cases hz
theorem v_lstD {K : PySem.W.Frag} : CaV K (fun xs H Q => xs.length ≤ sizeLine ∧ ∀ p, H p = none → Q (.ref p) (upd H p (.lst xs))) fLst := by
  intro H0 bg Gs Hs G H β xs rs z c hx hz
  unfold fLst at hz
  split at hz
  · split at hz
    · cases hz
      rename_i h1 hl
      obtain ⟨G1, c1, e1, h2⟩ := c.freezeAll (VsOk.keepAll hx h1)
      exact Yld.lst c1 h2 fun Q q => ⟨by rw [DrAll.length h2]; exact Nat.le_trans hl big_line, q⟩
    · cases hz
  · cases hz
section
variable {X : Cx} {ec : EC} {W : WX} {es : List Expr} {fs : EA} {pos : Pos}
theorem se_tup {k : Nat} (h : SA X ec W es fs) : SE X ec W (.Tuple es k pos) (eCall fTup fs) := PE.imp (pe_tup h) fun σ H Q h => readC v_tupD h
theorem se_lst (h : SA X ec W es fs) : SE X ec W (.List es pos) (eCall fLst fs) := PE.imp (pe_lst h) fun σ H Q h => readC v_lstD h
end
end VL

/-! VL8: built-in functions, slices, methods. -/
namespace VL
open PySem PySem.Spec PyProof.Rows L2

def ints? : List PyData → Option (List Int)
  | [] => some []
  | .int i :: ds => (ints? ds).map (i :: ·)
  | _ => none
def bools? : List PyData → Option (List Bool)
  | [] => some []
  | .bool i :: ds => (bools? ds).map (i :: ·)
  | _ => none
theorem ints_eq : ∀ {ds : List PyData} {ns : List Int}, ints? ds = some ns → ds = ns.map PyData.int
  | [], ns, h => by
    simp only [ints?, Option.some.injEq] at h
    subst h
    rfl
  | .int i :: ds, ns, h => by
    simp only [ints?] at h
    cases hr : ints? ds with
    | none => rw [hr] at h; cases h
    | some ms =>
      rw [hr] at h
      cases h
      rw [ints_eq hr]
      rfl
  | .none :: _, _, h => by simp only [ints?] at h; cases h
  | .bool _ :: _, _, h => by simp only [ints?] at h; cases h
  | .str _ :: _, _, h => by simp only [ints?] at h; cases h
  | .list _ :: _, _, h => by simp only [ints?] at h; cases h
  | .tuple _ :: _, _, h => by simp only [ints?] at h; cases h
  | .dict _ :: _, _, h => by simp only [ints?] at h; cases h
theorem bools_eq : ∀ {ds : List PyData} {ns : List Bool}, bools? ds = some ns → ds = ns.map PyData.bool
  | [], ns, h => by
    simp only [bools?, Option.some.injEq] at h
    subst h
    rfl
  | .bool i :: ds, ns, h => by
    simp only [bools?] at h
    cases hr : bools? ds with
    | none => rw [hr] at h; cases h
    | some ms =>
      rw [hr] at h
      cases h
      rw [bools_eq hr]
      rfl
  | .none :: _, _, h => by simp only [bools?] at h; cases h
  | .int _ :: _, _, h => by simp only [bools?] at h; cases h
  | .str _ :: _, _, h => by simp only [bools?] at h; cases h
  | .list _ :: _, _, h => by simp only [bools?] at h; cases h
  | .tuple _ :: _, _, h => by simp only [bools?] at h; cases h
  | .dict _ :: _, _, h => by simp only [bools?] at h; cases h
theorem ints_map : ∀ ns : List Int, ints? (ns.map PyData.int) = some ns
  | [] => rfl
  | n :: ns => by
    simp only [List.map_cons, ints?, ints_map ns, Option.map_some]
theorem bools_map : ∀ ns : List Bool, bools? (ns.map PyData.bool) = some ns
  | [] => rfl
  | n :: ns => by
    simp only [List.map_cons, bools?, bools_map ns, Option.map_some]

/-- one argument -/
def f1 (g : Rv → Option Rv) : List Rv → Option Rv
  | [x] => g x
  | _ => none
def f2 (g : Rv → Rv → Option Rv) : List Rv → Option Rv
  | [x, y] => g x y
  | _ => none
def gLen (x : Rv) : Option Rv := match x.seq? with
  | some ds => some (.fz (.int ds.length))
  | none => x.str?.bind fun z => if z.length ≤ big then some (.fz (.int z.length)) else none
def gInt : Rv → Option Rv
  | .fz (.int i) => some (.fz (.int i))
  | .fz (.bool k) => some (.fz (.int (if k then 1 else 0)))
  | _ => none
def gAbs : Rv → Option Rv
  | .fz (.int i) => some (.fz (.int (if i < 0 then -i else i)))
  | _ => none
def gSum (x : Rv) : Option Rv := x.lst?.bind fun ds => (ints? ds).map fun ns => .fz (.int ns.sum)
def gAll (x : Rv) : Option Rv := x.lst?.bind fun ds => (bools? ds).map fun ns => .fz (.bool (ns.all id))
def gAny (x : Rv) : Option Rv := x.lst?.bind fun ds => (bools? ds).map fun ns => .fz (.bool (ns.any id))
def gTuple (x : Rv) : Option Rv := x.seq?.map fun ds => .fz (.tuple ds)
def gList (x : Rv) : Option Rv := x.seq?.map fun ds => .tm ds
def gRepr (x : Rv) : Option Rv := x.data?.bind fun d => if okR d = true then some (.fz (.str d.shown)) else none
def gMin2 (x y : Rv) : Option Rv := x.int?.bind fun i => y.int?.map fun j => .fz (.int (if j < i then j else i))
def gMax2 (x y : Rv) : Option Rv := x.int?.bind fun i => y.int?.map fun j => .fz (.int (if j > i then j else i))

section
variable {X : Cx} {K : PySem.W.Frag}
theorem ca1 {r : V → Hp → VK → Prop} {g : Rv → Option Rv} (h : UnV K r g) {r' : List V → Hp → VK → Prop} (hr : ∀ x H Q, r x H Q → r' [x] H Q) : CaV K r' (f1 g) := by
  intro H0 bg Gs Hs G H β xs rs z c hx hz
  cases hx with
  | nil => cases hz
  | cons hv t =>
    cases t with
    | nil => exact fun Q q => hr _ _ _ (h c hv hz Q q)
    | cons _ _ => cases hz
theorem ca2 {r : R2} {g : Rv → Rv → Option Rv} (h : OpV K r g) {r' : List V → Hp → VK → Prop} (hr : ∀ x y H Q, r x y H Q → r' [x, y] H Q) : CaV K r' (f2 g) := by
  intro H0 bg Gs Hs G H β xs rs z c hx hz
  cases hx with
  | nil => cases hz
  | cons hv t =>
    cases t with
    | nil => cases hz
    | cons hw t =>
      cases t with
      | nil => exact fun Q q => hr _ _ _ _ (h c hv hw hz Q q)
      | cons _ _ => cases hz
theorem c_lenA : CallR X (.builtin "len") (fun xs H Q => (∃ p ys, xs = [.ref p] ∧ (SqL X.K H p ys ∨ SqT X.K H p ys) ∧ Q (.int ys.length) H) ∨ ∃ z, xs = [.str z] ∧ z.length ≤ sizeLine ∧ Q (.int z.length) H) := call_len_seq.or call_len_str
theorem v_len : CaV K (fun xs H Q => (∃ p ys, xs = [.ref p] ∧ (SqL K H p ys ∨ SqT K H p ys) ∧ Q (.int ys.length) H) ∨ ∃ z, xs = [.str z] ∧ z.length ≤ sizeLine ∧ Q (.int z.length) H) (f1 gLen) :=
  @ca1 K (fun (x : V) (H : Hp) (Q : VK) => (∃ p ys, x = .ref p ∧ (SqL K H p ys ∨ SqT K H p ys) ∧ Q (.int ys.length) H) ∨ ∃ z, x = .str z ∧ z.length ≤ sizeLine ∧ Q (.int z.length) H) gLen (by
    intro H0 bg Gs Hs G H β x rx z c hx hz
    unfold gLen at hz
    cases hs : rx.seq? with
    | some ds =>
      rw [hs] at hz
      cases hz
      obtain ⟨l, vs, rfl, h3, h4⟩ := hx.seq c.gh hs
      refine Yld.val c (Dr.int _) fun Q q => .inl ⟨l, vs, rfl, ?_, ?_⟩
      · rcases h3 with h3 | h3
        · exact .inl (SqL.of h3)
        · exact .inr h3
      · rw [DrAll.length h4]
        exact q
    | none =>
      rw [hs] at hz
      simp only at hz
      cases ht : rx.str? with
      | none => rw [ht] at hz; cases hz
      | some t =>
        rw [ht] at hz
        simp only [Option.bind_some] at hz
        split at hz
        · rename_i hl
          cases hz
          exact Yld.val c (Dr.int _) fun Q q => .inr ⟨t, hx.str ht, Nat.le_trans hl big_line, q⟩
        · cases hz) _ (fun x H Q h => by
    rcases h with ⟨p, ys, rfl, h1, h2⟩ | ⟨z, rfl, h1, h2⟩
    · exact .inl ⟨p, ys, rfl, h1, h2⟩
    · exact .inr ⟨z, rfl, h1, h2⟩)
theorem v_int : CaV K (fun xs H Q => (∃ i, xs = [.int i] ∧ Q (.int i) H) ∨ ∃ k, xs = [.bl k] ∧ Q (.int (if k then 1 else 0)) H) (f1 gInt) :=
  @ca1 K (fun (x : V) (H : Hp) (Q : VK) => (∃ i, x = .int i ∧ Q (.int i) H) ∨ ∃ k, x = .bl k ∧ Q (.int (if k then 1 else 0)) H) gInt (by
    intro H0 bg Gs Hs G H β x rx z c hx hz
    unfold gInt at hz
    split at hz
    · cases hz
      exact Yld.val c (Dr.int _) fun Q q => .inl ⟨_, dr_int hx, q⟩
    · cases hz
      exact Yld.val c (Dr.int _) fun Q q => .inr ⟨_, dr_bool hx, q⟩
    · cases hz) _ (fun x H Q h => by
    rcases h with ⟨i, rfl, h⟩ | ⟨i, rfl, h⟩
    · exact .inl ⟨i, rfl, h⟩
    · exact .inr ⟨i, rfl, h⟩)
theorem v_abs : CaV K (fun xs H Q => ∃ i, xs = [.int i] ∧ Q (.int (if i < 0 then -i else i)) H) (f1 gAbs) :=
  @ca1 K (fun (x : V) (H : Hp) (Q : VK) => ∃ i, x = .int i ∧ Q (.int (if i < 0 then -i else i)) H) gAbs (by
    intro H0 bg Gs Hs G H β x rx z c hx hz
    unfold gAbs at hz
    split at hz
    · cases hz
      exact Yld.val c (Dr.int _) fun Q q => ⟨_, dr_int hx, q⟩
    · cases hz) _ (fun x H Q h => by
    obtain ⟨i, rfl, h⟩ := h
    exact ⟨i, rfl, h⟩)
theorem v_sum : CaV K (rSum K) (f1 gSum) :=
  @ca1 K (fun (x : V) (H : Hp) (Q : VK) => rSum K [x] H Q) gSum (by
    intro H0 bg Gs Hs G H β x rx z c hx hz
    unfold gSum at hz
    cases hs : rx.lst? with
    | none => rw [hs] at hz; cases hz
    | some ds =>
      rw [hs] at hz
      simp only [Option.bind_some] at hz
      cases hi : ints? ds with
      | none => rw [hi] at hz; cases hz
      | some ns =>
        rw [hi] at hz
        cases hz
        obtain ⟨l, vs, rfl, h3, h4⟩ := hx.lst c.gh hs
        rw [ints_eq hi] at h4
        rw [dpAll_ints h4] at h3
        exact Yld.val c (Dr.int _) fun Q q => ⟨l, ns, rfl, SqL.of h3, q⟩) _ (fun x H Q h => h)
theorem v_all : CaV K (rAll K) (f1 gAll) :=
  @ca1 K (fun (x : V) (H : Hp) (Q : VK) => rAll K [x] H Q) gAll (by
    intro H0 bg Gs Hs G H β x rx z c hx hz
    unfold gAll at hz
    cases hs : rx.lst? with
    | none => rw [hs] at hz; cases hz
    | some ds =>
      rw [hs] at hz
      simp only [Option.bind_some] at hz
      cases hi : bools? ds with
      | none => rw [hi] at hz; cases hz
      | some ns =>
        rw [hi] at hz
        cases hz
        obtain ⟨l, vs, rfl, h3, h4⟩ := hx.lst c.gh hs
        rw [bools_eq hi] at h4
        rw [dpAll_bools h4] at h3
        exact Yld.val c (Dr.bl _) fun Q q => ⟨l, ns, rfl, SqL.of h3, q⟩) _ (fun x H Q h => h)
theorem v_any : CaV K (rAny K) (f1 gAny) :=
  @ca1 K (fun (x : V) (H : Hp) (Q : VK) => rAny K [x] H Q) gAny (by
    intro H0 bg Gs Hs G H β x rx z c hx hz
    unfold gAny at hz
    cases hs : rx.lst? with
    | none => rw [hs] at hz; cases hz
    | some ds =>
      rw [hs] at hz
      simp only [Option.bind_some] at hz
      cases hi : bools? ds with
      | none => rw [hi] at hz; cases hz
      | some ns =>
        rw [hi] at hz
        cases hz
        obtain ⟨l, vs, rfl, h3, h4⟩ := hx.lst c.gh hs
        rw [bools_eq hi] at h4
        rw [dpAll_bools h4] at h3
        exact Yld.val c (Dr.bl _) fun Q q => ⟨l, ns, rfl, SqL.of h3, q⟩) _ (fun x H Q h => h)
theorem v_tuple : CaV K (fun xs H Q => ∃ p ys, xs = [.ref p] ∧ ((SqL K H p ys ∧ ∀ l, H l = none → Q (.ref l) (upd H l (.tup ys))) ∨ (SqT K H p ys ∧ Q (.ref p) H))) (f1 gTuple) :=
  @ca1 K (fun (x : V) (H : Hp) (Q : VK) => ∃ p ys, x = .ref p ∧ ((SqL K H p ys ∧ ∀ l, H l = none → Q (.ref l) (upd H l (.tup ys))) ∨ (SqT K H p ys ∧ Q (.ref p) H))) gTuple (by
    intro H0 bg Gs Hs G H β x rx z c hx hz
    unfold gTuple at hz
    cases hs : rx.seq? with
    | none => rw [hs] at hz; cases hz
    | some ds =>
      rw [hs] at hz
      cases hz
      by_cases hl : ∃ ds', rx.lst? = some ds'
      · obtain ⟨ds', hl⟩ := hl
        obtain ⟨l, vs, rfl, h3, h4⟩ := hx.lst c.gh hl
        have e : ds' = ds := by
          cases rx with
          | fz d => cases d <;> simp [Rv.lst?, Rv.seq?] at hl hs <;> rw [← hl, ← hs]
          | tm _ => simp [Rv.lst?, Rv.seq?] at hl hs; rw [← hl, ← hs]
          | bo _ => simp [Rv.lst?, Rv.seq?] at hl hs; rw [← hl, ← hs]
          | td _ => simp [Rv.lst?] at hl
          | bd _ => simp [Rv.lst?] at hl
          | bg => simp [Rv.lst?] at hl
        subst e
        exact Yld.tup c h4 fun Q q => ⟨l, vs, rfl, .inl ⟨SqL.of h3, q⟩⟩
      · cases rx with
        | fz d =>
          cases d <;> simp [Rv.seq?] at hs
          · exact absurd ⟨_, rfl⟩ hl
          · subst hs
            obtain ⟨l, vs, rfl, h3, h4⟩ := dr_tup hx
            exact Yld.val c (Dr.tup h3 h4) fun Q q => ⟨l, vs, rfl, .inr ⟨ex_t c.gh h3, q⟩⟩
        | tm _ => exact absurd ⟨_, rfl⟩ hl
        | bo _ => exact absurd ⟨_, rfl⟩ hl
        | td _ => simp [Rv.seq?] at hs
        | bd _ => simp [Rv.seq?] at hs
        | bg => simp [Rv.seq?] at hs) _ (fun x H Q h => by
    obtain ⟨p, ys, rfl, h⟩ := h
    exact ⟨p, ys, rfl, h⟩)
theorem v_list : CaV K (fun xs H Q => ∃ p ys, xs = [.ref p] ∧ (SqL K H p ys ∨ SqT K H p ys) ∧ ∀ l, H l = none → Q (.ref l) (upd H l (.lst ys))) (f1 gList) :=
  @ca1 K (fun (x : V) (H : Hp) (Q : VK) => ∃ p ys, x = .ref p ∧ (SqL K H p ys ∨ SqT K H p ys) ∧ ∀ l, H l = none → Q (.ref l) (upd H l (.lst ys))) gList (by
    intro H0 bg Gs Hs G H β x rx z c hx hz
    unfold gList at hz
    cases hs : rx.seq? with
    | none => rw [hs] at hz; cases hz
    | some ds =>
      rw [hs] at hz
      cases hz
      obtain ⟨l, vs, rfl, h3, h4⟩ := hx.seq c.gh hs
      refine Yld.lst c h4 fun Q q => ⟨l, vs, rfl, ?_, q⟩
      rcases h3 with h3 | h3
      · exact .inl (SqL.of h3)
      · exact .inr h3) _ (fun x H Q h => by
    obtain ⟨p, ys, rfl, h⟩ := h
    exact ⟨p, ys, rfl, h⟩)
theorem v_repr : CaV K (rRepr K) (f1 gRepr) :=
  @ca1 K (fun (x : V) (H : Hp) (Q : VK) => rRepr K [x] H Q) gRepr (by
    intro H0 bg Gs Hs G H β x rx z c hx hz
    unfold gRepr at hz
    cases hs : rx.data? with
    | none => rw [hs] at hz; cases hz
    | some d =>
      rw [hs] at hz
      simp only [Option.bind_some] at hz
      split at hz
      · rename_i ok
        cases hz
        exact Yld.val c (Dr.str _) fun Q q => ⟨_, d, rfl, (hx.data c.gh hs).dp, ok, q⟩
      · cases hz) _ (fun x H Q h => h)
theorem v_min2 : CaV K (fun xs H Q => ∃ i j, xs = [.int i, .int j] ∧ Q (.int (if j < i then j else i)) H) (f2 gMin2) :=
  @ca2 K (fun (x y : V) (H : Hp) (Q : VK) => ∃ i j, x = .int i ∧ y = .int j ∧ Q (.int (if j < i then j else i)) H) gMin2 (by
    intro H0 bg Gs Hs G H β x y rx ry z c hx hy hz
    unfold gMin2 at hz
    cases h1 : rx.int? with
    | none => rw [h1] at hz; cases hz
    | some i =>
      cases h2 : ry.int? with
      | none => rw [h1, h2] at hz; cases hz
      | some j =>
        rw [h1, h2] at hz
        cases hz
        exact Yld.val c (Dr.int _) fun Q q => ⟨i, j, hx.int h1, hy.int h2, q⟩) _ (fun x y H Q h => by
    obtain ⟨i, j, rfl, rfl, h⟩ := h
    exact ⟨i, j, rfl, h⟩)
theorem v_max2 : CaV K (fun xs H Q => ∃ i j, xs = [.int i, .int j] ∧ Q (.int (if j > i then j else i)) H) (f2 gMax2) :=
  @ca2 K (fun (x y : V) (H : Hp) (Q : VK) => ∃ i j, x = .int i ∧ y = .int j ∧ Q (.int (if j > i then j else i)) H) gMax2 (by
    intro H0 bg Gs Hs G H β x y rx ry z c hx hy hz
    unfold gMax2 at hz
    cases h1 : rx.int? with
    | none => rw [h1] at hz; cases hz
    | some i =>
      cases h2 : ry.int? with
      | none => rw [h1, h2] at hz; cases hz
      | some j =>
        rw [h1, h2] at hz
        cases hz
        exact Yld.val c (Dr.int _) fun Q q => ⟨i, j, hx.int h1, hy.int h2, q⟩) _ (fun x y H Q h => by
    obtain ⟨i, j, rfl, rfl, h⟩ := h
    exact ⟨i, j, rfl, h⟩)
end
section
variable {X : Cx} {ec : EC} {W : WX} {a : Expr} {es : List Expr} {fs : EA} {p pos : Pos}
theorem se_len (hg : Gl X "len") (hm : X.mg "len" = none) (ha : SA X ec W (a :: es) fs) (he : starEach (a :: es) X.env = (false, eval a X.env) :: starEach es X.env := by rfl) (hpl : (backTo pos (starEach es X.env)).any (·.1) = false := by rfl) : SE X ec W (.Call (.Name "len" p) (a :: es) [] pos) (eCall (f1 gLen) fs) :=
  se_callB c_lenA v_len hg hm PySem.boot_len ha (by decide) (by decide) he hpl
theorem se_intc (hg : Gl X "int") (hm : X.mg "int" = none) (ha : SA X ec W (a :: es) fs) (he : starEach (a :: es) X.env = (false, eval a X.env) :: starEach es X.env := by rfl) (hpl : (backTo pos (starEach es X.env)).any (·.1) = false := by rfl) : SE X ec W (.Call (.Name "int" p) (a :: es) [] pos) (eCall (f1 gInt) fs) :=
  se_callTy call_int1 v_int hg hm (by decide +kernel) ha (by decide) (by decide) he hpl
theorem se_abs (hg : Gl X "abs") (hm : X.mg "abs" = none) (ha : SA X ec W (a :: es) fs) (he : starEach (a :: es) X.env = (false, eval a X.env) :: starEach es X.env := by rfl) (hpl : (backTo pos (starEach es X.env)).any (·.1) = false := by rfl) : SE X ec W (.Call (.Name "abs" p) (a :: es) [] pos) (eCall (f1 gAbs) fs) :=
  se_callB call_abs v_abs hg hm (by decide +kernel) ha (by decide) (by decide) he hpl
theorem se_sum (hc : X.calm = true) (hg : Gl X "sum") (hm : X.mg "sum" = none) (ha : SA X ec W (a :: es) fs) (he : starEach (a :: es) X.env = (false, eval a X.env) :: starEach es X.env := by rfl) (hpl : (backTo pos (starEach es X.env)).any (·.1) = false := by rfl) : SE X ec W (.Call (.Name "sum" p) (a :: es) [] pos) (eCall (f1 gSum) fs) :=
  se_callB (cr_sum hc) v_sum hg hm (by decide +kernel) ha (by decide) (by decide) he hpl
theorem se_all (hc : X.calm = true) (hg : Gl X "all") (hm : X.mg "all" = none) (ha : SA X ec W (a :: es) fs) (he : starEach (a :: es) X.env = (false, eval a X.env) :: starEach es X.env := by rfl) (hpl : (backTo pos (starEach es X.env)).any (·.1) = false := by rfl) : SE X ec W (.Call (.Name "all" p) (a :: es) [] pos) (eCall (f1 gAll) fs) :=
  se_callB (cr_all hc) v_all hg hm (by decide +kernel) ha (by decide) (by decide) he hpl
theorem se_any (hc : X.calm = true) (hg : Gl X "any") (hm : X.mg "any" = none) (ha : SA X ec W (a :: es) fs) (he : starEach (a :: es) X.env = (false, eval a X.env) :: starEach es X.env := by rfl) (hpl : (backTo pos (starEach es X.env)).any (·.1) = false := by rfl) : SE X ec W (.Call (.Name "any" p) (a :: es) [] pos) (eCall (f1 gAny) fs) :=
  se_callB (cr_any hc) v_any hg hm (by decide +kernel) ha (by decide) (by decide) he hpl
theorem se_tuplec (hg : Gl X "tuple") (hm : X.mg "tuple" = none) (ha : SA X ec W (a :: es) fs) (he : starEach (a :: es) X.env = (false, eval a X.env) :: starEach es X.env := by rfl) (hpl : (backTo pos (starEach es X.env)).any (·.1) = false := by rfl) : SE X ec W (.Call (.Name "tuple" p) (a :: es) [] pos) (eCall (f1 gTuple) fs) :=
  se_callTy call_tuple_of v_tuple hg hm (by decide +kernel) ha (by decide) (by decide) he hpl
theorem se_listc (hg : Gl X "list") (hm : X.mg "list" = none) (ha : SA X ec W (a :: es) fs) (he : starEach (a :: es) X.env = (false, eval a X.env) :: starEach es X.env := by rfl) (hpl : (backTo pos (starEach es X.env)).any (·.1) = false := by rfl) : SE X ec W (.Call (.Name "list" p) (a :: es) [] pos) (eCall (f1 gList) fs) :=
  se_callTy call_list_of v_list hg hm (by decide +kernel) ha (by decide) (by decide) he hpl
theorem se_repr (gd : X.A.guards = some []) (hu : X.A.units + 64 < cLine) (hg : Gl X "repr") (hm : X.mg "repr" = none) (ha : SA X ec W (a :: es) fs) (he : starEach (a :: es) X.env = (false, eval a X.env) :: starEach es X.env := by rfl) (hpl : (backTo pos (starEach es X.env)).any (·.1) = false := by rfl) : SE X ec W (.Call (.Name "repr" p) (a :: es) [] pos) (eCall (f1 gRepr) fs) :=
  se_callB (call_reprD gd hu) v_repr hg hm (by decide +kernel) ha (by decide) (by decide) he hpl
theorem se_min2 (hc : X.calm = true) (hg : Gl X "min") (hm : X.mg "min" = none) (ha : SA X ec W (a :: es) fs) (he : starEach (a :: es) X.env = (false, eval a X.env) :: starEach es X.env := by rfl) (hpl : (backTo pos (starEach es X.env)).any (·.1) = false := by rfl) : SE X ec W (.Call (.Name "min" p) (a :: es) [] pos) (eCall (f2 gMin2) fs) :=
  se_callB (call_min2 hc) v_min2 hg hm (by decide +kernel) ha (by decide) (by decide) he hpl
theorem se_max2 (hc : X.calm = true) (hg : Gl X "max") (hm : X.mg "max" = none) (ha : SA X ec W (a :: es) fs) (he : starEach (a :: es) X.env = (false, eval a X.env) :: starEach es X.env := by rfl) (hpl : (backTo pos (starEach es X.env)).any (·.1) = false := by rfl) : SE X ec W (.Call (.Name "max" p) (a :: es) [] pos) (eCall (f2 gMax2) fs) :=
  se_callB (call_max2 hc) v_max2 hg hm (by decide +kernel) ha (by decide) (by decide) he hpl
end

/-! ### slices -/
abbrev EO := Env → Bag → R (Option Int)
def rO (K : PySem.W.Frag) (ec : EC) (W : WX) (f : EO) : TO := fun σ H Q => ∃ H0 G0 bg G ρ β, Ag K H0 G0 bg G H σ ρ β ∧
  match f ρ β with
  | .ok r β' => ∀ G' H', Stp bg G H G' H' β' → Q r H'
  | .er e β' => ∀ cl dd G' H', Stp bg G H G' H' β' → ec e cl dd H' → W cl dd σ H'
  | .no => False
def eNone : EO := fun _ β => .ok none β
def eSome (f : E) : EO := fun ρ β => (f ρ β).bind fun r β => (R.of r.int? β).bind fun i β => .ok (some i) β
abbrev SO (X : Cx) (ec : EC) (W : WX) (e : Option Expr) (f : EO) : Prop := PO X e (rO X.K ec W f)
theorem PO.imp {X : Cx} {e : Option Expr} {t t' : TO} (h : PO X e t) (hi : ∀ σ H Q, t' σ H Q → t σ H Q) : PO X e t' := ⟨fun pins s σ H Q I hw => h.run pins s σ H Q I (hi σ H Q hw)⟩
def cut {α : Type} (xs : List α) (lo hi : Option Int) : List α := (xs.drop (HT.sIx xs.length 0 lo)).take (HT.sIx xs.length xs.length hi - HT.sIx xs.length 0 lo)
def oSlice (x : Rv) (lo hi : Option Int) : Option Rv := match x with
  | .fz (.tuple ds) => some (.fz (.tuple (cut ds lo hi)))
  | x => x.lst?.map fun ds => .tm (cut ds lo hi)
def eSlice (f : E) (l u : EO) : E := fun ρ β => (f ρ β).bind fun x β => (l ρ β).bind fun lo β => (u ρ β).bind fun hi β => R.of (oSlice x lo hi) β
section
variable {X : Cx} {ec : EC} {W : WX} {e a : Expr} {lo hi : Option Expr} {f : E} {l u : EO} {pos p2 : Pos}
theorem so_none : SO X ec W none eNone := PO.imp po_none fun σ H Q h => by
  obtain ⟨H0, G0, bg, G, ρ, β, a, h⟩ := h
  exact h G H (Stp.refl a.gh a.bagOk)
theorem so_some (h : SE X ec W e f) : SO X ec W (some e) (eSome f) := PO.imp (po_some h) fun σ H Q h => by
  obtain ⟨H0, G0, bg, G, ρ, β, a, h⟩ := h
  refine rE_go a ?_
  simp only [eSome] at h
  cases hf : f ρ β with
  | no => rw [hf] at h; exact h
  | er e b => rw [hf] at h; exact h
  | ok r β1 =>
    rw [hf] at h
    intro v G1 H1 s1 v1
    simp only [R.bind] at h
    cases hi : r.int? with
    | none => rw [hi] at h; exact h.elim
    | some i =>
      rw [hi] at h
      exact ⟨i, v1.int hi, h G1 H1 s1⟩
theorem se_slice (he : SE X ec W e f) (hl : SO X ec W lo l) (hu : SO X ec W hi u) : SE X ec W (.Subscript e (.Slice lo hi none p2) pos) (eSlice f l u) :=
  PE.imp (pe_slice (sl_list.or sl_tupA) he hl hu) fun σ H Q h => by
    obtain ⟨H0, G0, bg, G, ρ, β, a, h⟩ := h
    refine rE_go a ?_
    simp only [eSlice] at h
    cases hf : f ρ β with
    | no => rw [hf] at h; exact h
    | er e b => rw [hf] at h; exact h
    | ok r β1 =>
      rw [hf] at h
      intro v G1 H1 s1 v1
      refine ⟨H0, G0, bg, G1, ρ, β1, a.step s1, ?_⟩
      simp only [R.bind] at h
      cases hl : l ρ β1 with
      | no => rw [hl] at h; exact h
      | er e b =>
        rw [hl] at h
        exact fun cl dd G' H' s2 he => h cl dd G' H' (s1.trans s2) he
      | ok o1 β2 =>
        rw [hl] at h
        intro G2 H2 s2
        have s12 := s1.trans s2
        refine ⟨H0, G0, bg, G2, ρ, β2, a.step s12, ?_⟩
        simp only at h
        cases hu : u ρ β2 with
        | no => rw [hu] at h; exact h
        | er e b =>
          rw [hu] at h
          exact fun cl dd G' H' s3 he => h cl dd G' H' (s12.trans s3) he
        | ok o2 β3 =>
          rw [hu] at h
          intro G3 H3 s3
          have v3 := (v1.step s2 s1.gh).step s3 s2.gh
          have c : Ct H0 bg G H G3 H3 β3 := ⟨s12.trans s3, a.gh⟩
          simp only at h
          cases hz : oSlice r o1 o2 with
          | none => rw [hz] at h; exact h.elim
          | some z =>
            rw [hz] at h
            unfold oSlice at hz
            split at hz
            · cases hz
              rename_i ds
              obtain ⟨p, vs, rfl, t1, d1⟩ := dr_tup v3
              have hl := DrAll.length d1
              have dc : DrAll X.K G3 (cutV vs o1 o2) (cut ds o1 o2) := by
                unfold cutV cut
                rw [hl]
                exact DrAll.take _ (DrAll.drop _ d1)
              refine .inr ⟨p, vs, rfl, ex_t c.gh t1, fun e => ?_, fun e p hp => ?_⟩
              · refine h _ G3 H3 c.st ?_
                have e2 : cut ds o1 o2 = ds := by
                  unfold cut
                  rw [← hl, e.1, e.2, List.drop_zero, Nat.sub_zero, hl, List.take_length]
                rw [e2]
                exact Dr.tup t1 d1
              · exact h (.ref p) _ _ (c.newG hp) (Dr.tup (SqT.of upd_same) (dpAll_mono (Ex.new (none_ex c.gh hp)) dc))
            · cases hs : r.lst? with
              | none => rw [hs] at hz; cases hz
              | some ds =>
                rw [hs] at hz
                cases hz
                obtain ⟨p, vs, rfl, t1, d1⟩ := v3.lst c.gh hs
                have hl := DrAll.length d1
                have dc : DrAll X.K G3 (cutV vs o1 o2) (cut ds o1 o2) := by
                  unfold cutV cut
                  rw [hl]
                  exact DrAll.take _ (DrAll.drop _ d1)
                exact .inl ⟨p, vs, rfl, SqL.of t1, fun p hp => h (.ref p) _ _ (c.new hp) ⟨p, _, rfl, c.fresh hp, upd_same, none_ex c.gh hp, fresh_notB c.bag hp, dc⟩⟩
end
/-- xs[::-1] of a list -/
def uRev (x : Rv) : Option Rv := x.lst?.map fun ds => .tm ds.reverse
theorem se_revL {X : Cx} {ec : EC} {W : WX} {e : Expr} {f : E} {k : Nat} {p1 p2 p3 pos : Pos} (he : SE X ec W e f) : SE X ec W (.Subscript e (.Slice none none (some (.UnaryOp .USub (.Constant (.int 1) k p1) p2)) p3) pos) (eUn uRev f) :=
  PE.imp (pe_revL he) fun σ H Q h => by
    have q := read1 (r := fun (x : V) (H : Hp) (Q : VK) => ∃ a xs, x = .ref a ∧ SqL X.K H a xs ∧ ∀ p, H p = none → Q (.ref p) (upd H p (.lst xs.reverse))) (by
      intro H0 bg Gs Hs G H β x rx z c hx hz
      unfold uRev at hz
      cases hs : rx.lst? with
      | none => rw [hs] at hz; cases hz
      | some ds =>
        rw [hs] at hz
        cases hz
        obtain ⟨l, vs, rfl, h3, h4⟩ := hx.lst c.gh hs
        exact Yld.lst c (DrAll.reverse h4) fun Q q => ⟨l, vs, rfl, SqL.of h3, q⟩) h
    exact q
/-- list(range(..)) -/
def rngL : List Rv → Option Rv
  | [.fz (.int j)] => if -(2 ^ 62) ≤ j ∧ j ≤ 1000000 then some (.tm (upTo 0 j.toNat)) else none
  | _ => none
theorem rgV_up {K : PySem.W.Frag} {G : Hp} (j : Int) : DrAll K G (rgV 0 j) (upTo 0 j.toNat) := by
  have h : ∀ ns : List Nat, DrAll K G (ns.map fun i => V.int (0 + (i : Nat))) (ns.map fun (i : Nat) => PyData.int (0 + (i : Int))) := fun ns => by
    induction ns with
    | nil => exact .nil
    | cons n ns ih => exact .cons (.int _) ih
  unfold rgV upTo
  rw [Int.sub_zero]
  exact h _
theorem se_listRg {X : Cx} {ec : EC} {W : WX} {a : Expr} {f : E} {p q pos pos2 : Pos} (hc : X.calm = true) (hg : Gl X "list") (hm : X.mg "list" = none) (hg2 : Gl X "range") (hm2 : X.mg "range" = none) (ha : SE X ec W a f)
    (na : starEach [a] X.env = (false, eval a X.env) :: starEach [] X.env := by rfl) (nb : starEach [.Call (.Name "range" q) [a] [] pos2] X.env = (false, eval (.Call (.Name "range" q) [a] [] pos2) X.env) :: starEach [] X.env := by rfl) :
    SE X ec W (.Call (.Name "list" p) [.Call (.Name "range" q) [a] [] pos2] [] pos) (eUn (fun x => rngL [x]) f) :=
  PE.imp (pe_listRg hc hg hm (prg_1 hg2 hm2 ha na) nb) fun σ H Q h => by
    have q := read1 (r := fun (x : V) (H : Hp) (Q : VK) => ∃ n, x = .int n ∧ RgOk 0 n ∧ ∀ q, H q = none → Q (.ref q) (upd H q (.lst (rgV 0 n)))) (by
      intro H0 bg Gs Hs G H β x rx z c hx hz
      simp only [rngL] at hz
      split at hz
      · rename_i heq
        cases heq
        split at hz
        · cases hz
          rename_i hb
          exact Yld.lst c (rgV_up _) fun Q q => ⟨_, dr_int hx, ⟨by omega, by omega, by omega, by omega, by omega⟩, q⟩
        · cases hz
      · cases hz) h
    exact q
end VL

/-! VL9: statements that write. -/
namespace VL
open PySem PySem.Spec PyProof.Rows L2

section
variable {K : PySem.W.Frag} {H0 G0 : Hp} {bg : BG} {G H : Hp} {σ : L2.St} {ρ : Env} {β : Bag}
/-- an own list is rewritten -/
theorem Ag.mut (a : Ag K H0 G0 bg G H σ ρ β) {i : Nat} {ds ds' : List PyData} {l : Addr} {ws : List V} (hi : ρ[i]? = some (.own ds)) (hσ : σ[i]? = some (some (.ref l))) (hw : DrAll K G ws ds') :
    Ag K H0 G0 bg G (upd H l (.lst ws)) σ (ρ.set i (.own ds')) β := by
  obtain ⟨g1, g2, g3⟩ := a.owns i _ l hi rfl hσ
  have hne : ∀ (j : Nat) (t : Sl) (m : Addr), ρ[j]? = some t → Own t = true → σ[j]? = some (some (.ref m)) → i ≠ j → m ≠ l := fun j t m ht ho hm hij z => by
    subst z
    exact hij (a.dist i j _ t _ hi rfl hσ ht ho hm)
  refine ⟨fun b o h => ?_, fun b o h n => ?_, fun b h => upd_dom (a.dm b h), a.fr, ?_, a.bagG, fun j s h => ?_, fun j s m h ho em => ?_, fun j k s t m h ho em h' ho' em' => ?_⟩
  · rw [upd_ne (fun z => by rw [z, g2] at h; cases h)]
    exact a.gh b o h
  · rw [upd_ne (fun z => by rw [z, g1] at h; cases h)]
    exact a.kp b o h n
  · have hb := a.bagOk
    revert hb g3
    cases bg with
    | none => exact fun _ _ => trivial
    | some p =>
      obtain ⟨pb, pc⟩ := p
      intro g3 hb
      refine ⟨hb.1, ?_, ?_⟩
      · rw [upd_ne (fun z => g3 (.inl z.symm))]; exact hb.2.1
      · rw [upd_ne (fun z => g3 (.inr z.symm))]; exact hb.2.2
  · by_cases hj : i = j
    · subst hj
      rw [List.getElem?_set_self (lt_of_some hi)] at h
      cases h
      exact ⟨_, hσ, l, ws, rfl, upd_same, hw⟩
    · rw [List.getElem?_set_ne hj] at h
      obtain ⟨o, q1, q2⟩ := a.slots j s h
      refine ⟨o, q1, ?_⟩
      cases s with
      | no => trivial
      | dat d => exact q2
      | own es =>
        obtain ⟨m, ws, rfl, r1, r2⟩ := q2
        refine ⟨m, ws, rfl, ?_, r2⟩
        rw [upd_ne (hne j _ m h rfl q1 hj)]
        exact r1
      | dic es =>
        obtain ⟨m, ws, rfl, r1, r2⟩ := q2
        refine ⟨m, ws, rfl, ?_, r2⟩
        rw [upd_ne (hne j _ m h rfl q1 hj)]
        exact r1
      | bag => exact q2
      | scr _ => exact q2
  · by_cases hj : i = j
    · subst hj
      rw [hσ] at em
      cases em
      exact ⟨g1, g2, g3⟩
    · rw [List.getElem?_set_ne hj] at h
      exact a.owns j s m h ho em
  · have pre : ∀ (j : Nat) (s : Sl), (ρ.set i (.own ds'))[j]? = some s → Own s = true → ∃ s', ρ[j]? = some s' ∧ Own s' = true := fun j s h ho => by
      by_cases hj : i = j
      · subst hj
        exact ⟨_, hi, rfl⟩
      · rw [List.getElem?_set_ne hj] at h
        exact ⟨s, h, ho⟩
    obtain ⟨s1, h1, o1⟩ := pre j s h ho
    obtain ⟨s2, h2, o2⟩ := pre k t h' ho'
    exact a.dist j k s1 s2 m h1 o1 em h2 o2 em'
theorem Ag.own (a : Ag K H0 G0 bg G H σ ρ β) {i : Nat} {ds : List PyData} (hi : ρ[i]? = some (.own ds)) : ∃ l vs, σ[i]? = some (some (.ref l)) ∧ H l = some (.lst vs) ∧ DrAll K G vs ds := by
  obtain ⟨o, h1, l, vs, rfl, h3, h4⟩ := a.slots i _ hi
  exact ⟨l, vs, h1, h3, h4⟩
end

/-! ### x.append(e), x.extend(e), x.pop(), x[i] = e -/
def Env.own? (ρ : Env) (i : Nat) : Option (List PyData) := match ρ[i]? with
  | some (.own ds) => some ds
  | _ => none
theorem own_eq {ρ : Env} {i : Nat} {ds : List PyData} (h : Env.own? ρ i = some ds) : ρ[i]? = some (.own ds) := by
  unfold Env.own? at h
  split at h
  · cases h
    assumption
  · cases h
def sApp (i : Nat) (f : E) : T := fun ρ β => match Env.own? ρ i with
  | some ds => (f ρ β).out ρ fun r β => match r.keep? with
    | some d => if ds.length < big then .nx (ρ.set i (.own (ds ++ [d]))) β else .no
    | none => .no
  | none => .no
def sExt (i : Nat) (f : E) : T := fun ρ β => match Env.own? ρ i with
  | some ds => (f ρ β).out ρ fun r β => match r.lst? with
    | some es => if ds.length + es.length ≤ big then .nx (ρ.set i (.own (ds ++ es))) β else .no
    | none => .no
  | none => .no
/-- x[i] = e -/
def sSet (i : Nat) (fi f : E) : T := fun ρ β => match Env.own? ρ i with
  | some ds => (f ρ β).out ρ fun r β => (fi ρ β).out ρ fun k β => match r.keep?, k.int? with
    | some d, some k => match ixN ds.length k with
      | some j => .nx (ρ.set i (.own (ds.set j d))) β
      | none => .no
    | _, _ => .no
  | none => .no
/-- y = x.pop() -/
def sPop (j : Nat) (i : Nat) : T := fun ρ β => match Env.own? ρ i with
  | some ds => match ds[ds.length - 1]? with
    | some d => if i ≠ j ∧ j < ρ.length then .nx ((ρ.set i (.own ds.dropLast)).set j (.dat d)) β else .no
    | none => .no
  | none => .no
theorem DrAll.dropLast {K : PySem.W.Frag} {G : Hp} {vs : List V} {ds : List PyData} (h : DrAll K G vs ds) : DrAll K G vs.dropLast ds.dropLast := by
  rw [List.dropLast_eq_take, List.dropLast_eq_take, DrAll.length h]
  exact DrAll.take _ h
section
variable {K : PySem.W.Frag} {ec : EC} {W : WX} {σ : L2.St} {H : Hp} {D : Ends} {f fi : E} {i j : Nat}
theorem readApp (h : rS K ec W (sApp i f) D σ H) : tDrop (tBM K "list" rAppend (tVar i) (rA K ec W (eCons f eNil))) D σ H := by
  obtain ⟨H0, G0, bg, G, ρ, β, a, h⟩ := h
  unfold sApp at h
  cases ho : Env.own? ρ i with
  | none => rw [ho] at h; exact h.elim
  | some ds =>
    rw [ho] at h
    have hi := own_eq ho
    obtain ⟨l, vs, h1, h2, h3⟩ := a.own hi
    refine ⟨.ref l, h1, .inl ⟨rfl, vs, SqL.of h2⟩, H0, G0, bg, G, ρ, β, a, ?_⟩
    simp only [eCons, eNil]
    simp only at h
    cases hf : f ρ β with
    | no => rw [hf] at h; exact h
    | er e b => rw [hf] at h; exact read_er a h
    | ok r β1 =>
      rw [hf] at h
      intro xs G1 H1 st hv
      simp only [R.out] at h
      cases hk : r.keep? with
      | none => rw [hk] at h; exact h.elim
      | some d =>
        rw [hk] at h
        simp only at h
        split at h
        · rename_i hz
          cases hv with
          | cons hv hn =>
            cases hn
            obtain ⟨G2, c2, e2, h2'⟩ := Ct.freeze (H0 := H0) ⟨st, a.gh⟩ (hv.keep hk)
            have a2 := a.step c2.st
            obtain ⟨l', vs2, q1, q2, q3⟩ := a2.own hi
            rw [h1] at q1
            cases q1
            refine ⟨l, vs2, _, rfl, rfl, q2, ?_, h σ G2 _ (a2.mut hi h1 (DrAll.append q3 (.cons h2' .nil))) ((st.gg a.gh).trans e2)⟩
            have := DrAll.length q3
            have := big_line
            omega
        · exact h.elim
theorem readExt (h : rS K ec W (sExt i f) D σ H) : tDrop (tBM K "list" rExtend (tVar i) (rA K ec W (eCons f eNil))) D σ H := by
  obtain ⟨H0, G0, bg, G, ρ, β, a, h⟩ := h
  unfold sExt at h
  cases ho : Env.own? ρ i with
  | none => rw [ho] at h; exact h.elim
  | some ds =>
    rw [ho] at h
    have hi := own_eq ho
    obtain ⟨l, vs, h1, h2, h3⟩ := a.own hi
    refine ⟨.ref l, h1, .inl ⟨rfl, vs, SqL.of h2⟩, H0, G0, bg, G, ρ, β, a, ?_⟩
    simp only [eCons, eNil]
    simp only at h
    cases hf : f ρ β with
    | no => rw [hf] at h; exact h
    | er e b => rw [hf] at h; exact read_er a h
    | ok r β1 =>
      rw [hf] at h
      intro xs G1 H1 st hv
      simp only [R.out] at h
      cases hk : r.lst? with
      | none => rw [hk] at h; exact h.elim
      | some es =>
        rw [hk] at h
        simp only at h
        split at h
        · rename_i hz
          cases hv with
          | cons hv hn =>
            cases hn
            have a2 := a.step st
            obtain ⟨b, zs, rfl, z1, z2⟩ := hv.lst a2.gh hk
            obtain ⟨l', vs2, q1, q2, q3⟩ := a2.own hi
            rw [h1] at q1
            cases q1
            refine ⟨l, b, vs2, zs, rfl, rfl, q2, z1, ?_, h σ G1 _ (a2.mut hi h1 (DrAll.append q3 z2)) (st.gg a.gh)⟩
            have := DrAll.length q3
            have := DrAll.length z2
            have := big_line
            omega
        · exact h.elim
theorem readSet (h : rS K ec W (sSet i fi f) D σ H) : tAsg (rE K ec W f) (gSub (tVar i) (rE K ec W fi) rSetL) D σ H := by
  obtain ⟨H0, G0, bg, G, ρ, β, a, h⟩ := h
  unfold sSet at h
  cases ho : Env.own? ρ i with
  | none => rw [ho] at h; exact h.elim
  | some ds =>
    rw [ho] at h
    have hi := own_eq ho
    refine rE_go a ?_
    simp only at h
    cases hf : f ρ β with
    | no => rw [hf] at h; exact h
    | er e b => rw [hf] at h; exact read_er a h
    | ok r β1 =>
      rw [hf] at h
      intro v G1 H1 s1 hv
      have a1 := a.step s1
      obtain ⟨l, vs, h1, h2, h3⟩ := a1.own hi
      refine ⟨.ref l, h1, rE_go a1 ?_⟩
      simp only [R.out] at h
      cases hg : fi ρ β1 with
      | no => rw [hg] at h; exact h
      | er e b => rw [hg] at h; exact read_er a1 (PostS.mono (s1.gg a.gh) h)
      | ok r2 β2 =>
        rw [hg] at h
        intro y G2 H2 s2 hy
        have c : Ct H0 bg G H G2 H2 β2 := ⟨s1.trans s2, a.gh⟩
        simp only at h
        cases hk : r.keep? with
        | none => rw [hk] at h; exact h.elim
        | some d =>
          cases hj : r2.int? with
          | none => rw [hk, hj] at h; exact h.elim
          | some k =>
            rw [hk, hj] at h
            simp only at h
            cases hx : ixN ds.length k with
            | none => rw [hx] at h; exact h.elim
            | some j =>
              rw [hx] at h
              obtain ⟨G3, c3, e3, h3'⟩ := c.freeze ((hv.step s2 s1.gh).keep hk)
              have a3 := a.step c3.st
              obtain ⟨l', vs2, q1, q2, q3⟩ := a3.own hi
              rw [h1] at q1
              cases q1
              refine ⟨l, vs2, k, j, rfl, hy.int hj, q2, ?_, h σ G3 _ (a3.mut hi h1 (DrAll.set h3' j q3)) (((s1.trans s2).gg a.gh).trans e3)⟩
              rw [DrAll.length q3]
              exact hx
theorem readPop (h : rS K ec W (sPop j i) D σ H) : tAsg (tBM0 K "list" rPop (tVar i)) (gName j) D σ H := by
  obtain ⟨H0, G0, bg, G, ρ, β, a, h⟩ := h
  unfold sPop at h
  cases ho : Env.own? ρ i with
  | none => rw [ho] at h; exact h.elim
  | some ds =>
    rw [ho] at h
    have hi := own_eq ho
    obtain ⟨l, vs, h1, h2, h3⟩ := a.own hi
    simp only at h
    cases hd : ds[ds.length - 1]? with
    | none => rw [hd] at h; exact h.elim
    | some d =>
      rw [hd] at h
      simp only at h
      split at h
      · rename_i hj
        obtain ⟨v, hv, hvd⟩ := DrAll.get h3 hd
        have am := a.mut hi h1 (DrAll.dropLast h3)
        refine ⟨.ref l, h1, .inl ⟨rfl, vs, SqL.of h2⟩, l, vs, v, rfl, rfl, h2, ?_, h _ G _ (am.set (by rw [List.length_set]; exact hj.2) ⟨v, rfl, hvd⟩ fun l ho => by cases ho) (Ex.refl G)⟩
        rw [DrAll.length h3]
        exact hv
      · exact h.elim
end
section
variable {X : Cx} {ec : EC} {W : WX} {e ie : Expr} {f fi : E} {x : Str}
theorem ss_app (i : Nat) {p1 ap cp pos : Pos} (he : SE X ec W e f) (hi : X.N[i]? = some x := by rfl) (hv : Vis X.env.scope x := by first | exact Or.inl rfl | exact Or.inr (Or.inl rfl) | exact Or.inr (Or.inr rfl))
    (hd : (x == ("__debug__" : Str)) = false := by decide) (hcd : (x == ("__classdict__" : Str)) = false := by decide)
    (hbase : attributeBase (.Name x p1) ("append" : Str) X.env (eval (.Name x p1) X.env) = eval (.Name x p1) X.env := by rfl)
    (hfew : ((backTo cp (starEach [e] X.env)).all (fun x => !x.1) && (backToKw cp (keywordEach [] X.env)).all (fun x => x.1.isSome)
      && decide (([e] : List Expr).length + ([] : List Keyword).length + (if ([] : List Keyword).isEmpty then 0 else 1) < 30)) = true := by rfl)
    (hline : (ap.endLine == cp.line) = true := by rfl) (hs : starEach [e] X.env = (false, eval e X.env) :: starEach [] X.env := by rfl) (hplain : (backTo cp (starEach [] X.env)).any (·.1) = false := by rfl)
    (hsw : swapsWith (.Call (.Attribute (.Name x p1) ("append" : Str) ap) [e] [] cp) none pos.line X.env = pure false := by rfl) :
    SS X ec W (.Expr (.Call (.Attribute (.Name x p1) "append" ap) [e] [] cp) pos) (sApp i f) :=
  PS.imp (ps_expr (pe_bm PySem.F.plainAttrs_list PySem.F.slot_list_append PySem.F.type_list_append mt_append (pe_var hi hv hd hcd) (sa_cons he sa_nil hs) hbase hfew hline hs hplain) hsw) fun D σ H h => readApp h
theorem ss_ext (i : Nat) {p1 ap cp pos : Pos} (he : SE X ec W e f) (hi : X.N[i]? = some x := by rfl) (hv : Vis X.env.scope x := by first | exact Or.inl rfl | exact Or.inr (Or.inl rfl) | exact Or.inr (Or.inr rfl))
    (hd : (x == ("__debug__" : Str)) = false := by decide) (hcd : (x == ("__classdict__" : Str)) = false := by decide)
    (hbase : attributeBase (.Name x p1) ("extend" : Str) X.env (eval (.Name x p1) X.env) = eval (.Name x p1) X.env := by rfl)
    (hfew : ((backTo cp (starEach [e] X.env)).all (fun x => !x.1) && (backToKw cp (keywordEach [] X.env)).all (fun x => x.1.isSome)
      && decide (([e] : List Expr).length + ([] : List Keyword).length + (if ([] : List Keyword).isEmpty then 0 else 1) < 30)) = true := by rfl)
    (hline : (ap.endLine == cp.line) = true := by rfl) (hs : starEach [e] X.env = (false, eval e X.env) :: starEach [] X.env := by rfl) (hplain : (backTo cp (starEach [] X.env)).any (·.1) = false := by rfl)
    (hsw : swapsWith (.Call (.Attribute (.Name x p1) ("extend" : Str) ap) [e] [] cp) none pos.line X.env = pure false := by rfl) :
    SS X ec W (.Expr (.Call (.Attribute (.Name x p1) "extend" ap) [e] [] cp) pos) (sExt i f) :=
  PS.imp (ps_expr (pe_bm PySem.F.plainAttrs_list PySem.F.slot_list_extend PySem.F.type_list_extend mt_extend (pe_var hi hv hd hcd) (sa_cons he sa_nil hs) hbase hfew hline hs hplain) hsw) fun D σ H h => readExt h
theorem ss_set (i : Nat) {p1 p2 pos : Pos} (he : SE X ec W e f) (hix : SE X ec W ie fi) (hi : X.N[i]? = some x := by rfl) (hv : Vis X.env.scope x := by first | exact Or.inl rfl | exact Or.inr (Or.inl rfl) | exact Or.inr (Or.inr rfl))
    (hd : (x == ("__debug__" : Str)) = false := by decide) (hcd : (x == ("__classdict__" : Str)) = false := by decide)
    (ha : ∀ v, assign (.Subscript (.Name x p1) ie p2) X.env v = (do
      let ov ← holding [v] (eval (.Name x p1) X.env)
      let iv ← holding [v, ov] (eval ie X.env)
      standAt p2
      holding [v, ov, iv] (setItem ov iv v)
      release [v, ov, iv] []) := by intro _; rfl)
    (hs : swapsWithSole [.Subscript (.Name x p1) ie p2] e pos.line X.env = pure false := by rfl) (hw : swappedStores [.Subscript (.Name x p1) ie p2] e X.env = pure none := by rfl)
    (h1 : (assignEach [.Subscript (.Name x p1) ie p2] X.env).map (·.2) = [assign (.Subscript (.Name x p1) ie p2) X.env] := by rfl) :
    SS X ec W (.Assign [.Subscript (.Name x p1) ie p2] e pos) (sSet i fi f) :=
  PS.imp (ps_asg he (pg_sub (pe_var hi hv hd hcd) hix set_list ha) hs hw h1) fun D σ H h => readSet h
theorem ss_pop (j i : Nat) {y : Str} {p1 ap cp py pos : Pos} (hN : X.N.Nodup) (hj : X.N[j]? = some y := by rfl) (hi : X.N[i]? = some x := by rfl) (hv : Vis X.env.scope x := by first | exact Or.inl rfl | exact Or.inr (Or.inl rfl) | exact Or.inr (Or.inr rfl))
    (hy : Loc X.env.scope y := by first | exact Or.inl rfl | exact Or.inr rfl)
    (hd : (x == ("__debug__" : Str)) = false := by decide) (hcd : (x == ("__classdict__" : Str)) = false := by decide)
    (hbase : attributeBase (.Name x p1) ("pop" : Str) X.env (eval (.Name x p1) X.env) = eval (.Name x p1) X.env := by rfl)
    (hline : (ap.endLine == cp.line) = true := by rfl)
    (hs : swapsWith (.Call (.Attribute (.Name x p1) ("pop" : Str) ap) [] [] cp) (some (.Name y py)) pos.line X.env = pure false := by rfl) (hf : X.fn y = true ∨ X.env.scope.names.lookup y = some .local := by first | exact .inl rfl | exact .inr rfl | assumption) :
    SS X ec W (.Assign [.Name y py] (.Call (.Attribute (.Name x p1) "pop" ap) [] [] cp) pos) (sPop j i) :=
  PS.imp (ps_set hN hj hy (pe_bm0 PySem.F.plainAttrs_list PySem.F.slot_list_pop PySem.F.type_list_pop mt_pop (pe_var hi hv hd hcd) hbase hline) hs hf) fun D σ H h => readPop h
end

/-! ### a, b = e, f -/
def Rv.isNew : Rv → Bool
  | .tm _ => true
  | .td _ => true
  | _ => false
section
variable {K : PySem.W.Frag} {H0 G0 : Hp} {bg : BG} {G H : Hp} {σ : L2.St} {ρ : Env} {β : Bag}
/-- as Ag.store, at a state; what is known of G stays but at v -/
theorem Ag.put1 (a : Ag K H0 G0 bg G H σ ρ β) {i : Nat} {v : V} {r : Rv} {s : Sl} {frz : Bool} (hi : i < ρ.length) (hv : VOk K H0 bg H0 G H v r) (hs : r.slot frz = some s)
    (hfr : r.isNew = true → ∀ l, v = .ref l → ∀ (j : Nat) (t : Sl), ρ[j]? = some t → Own t = true → σ[j]? ≠ some (some (.ref l))) :
    ∃ G2, Ag K H0 G0 bg G2 H (σ.set i (some v)) (ρ.set i s) β ∧ Ex G G2 ∧ ∀ b, (r.isNew = true → v ≠ .ref b) → G2 b = G b := by
  cases r with
  | fz d =>
    simp only [Rv.slot, Option.some.injEq] at hs
    subst hs
    exact ⟨G, a.set hi ⟨v, rfl, hv⟩ (fun l ho => by cases ho), Ex.refl _, fun _ _ => rfl⟩
  | tm ds =>
    obtain ⟨l, vs, rfl, h2, h3, h4, h5, h6⟩ := hv
    have a1 : Ag K H0 G0 bg G H (σ.set i (some (.ref l))) (ρ.set i (.own ds)) β := a.set hi ⟨l, vs, rfl, h3, h6⟩ fun l' _ e => by
      cases e
      exact ⟨⟨h2, h4, h5⟩, hfr rfl l rfl⟩
    simp only [Rv.slot, Option.some.injEq] at hs
    cases frz with
    | false =>
      simp only [Bool.false_eq_true, if_false] at hs
      subst hs
      exact ⟨G, a1, Ex.refl _, fun _ _ => rfl⟩
    | true =>
      simp only [if_true] at hs
      subst hs
      have e : Ex G (upd G l (.lst vs)) := Ex.new h4
      have fr := hfr rfl l rfl
      have a0 := (a.wipe1 i).setNo (List.getElem?_set_self hi) (some (V.ref l))
      have fr0 : ∀ (j : Nat) (t : Sl) (m : Addr), (ρ.set i Sl.no)[j]? = some t → Own t = true → (σ.set i (some (V.ref l)))[j]? = some (some (.ref m)) → m ≠ l := fun j t m ht ho hm z => by
        by_cases hj : i = j
        · subst hj
          rw [List.getElem?_set_self hi] at ht
          cases ht
          cases ho
        · rw [List.getElem?_set_ne hj] at ht hm
          exact fr j t ht ho (z ▸ hm)
      have a2 : Ag K H0 G0 bg (upd G l (.lst vs)) H (σ.set i (some (V.ref l))) (ρ.set i .no) β := by
        refine ⟨fun b o h => ?_, a0.kp, a0.dm, fun b h => ?_, a0.bagOk, fun b h => ?_, fun j s h => ?_, fun j s m h ho em => ?_, a0.dist⟩
        · by_cases hb : b = l
          · subst hb
            rw [upd_same] at h
            cases h
            exact h3
          · rw [upd_ne hb] at h
            exact a.gh b o h
        · rw [upd_ne (fun z => h (by rw [z]; exact h2))]
          exact a.fr b h
        · rw [upd_ne (fun z => h5 (by rw [← z]; exact h))]
          exact a.bagG b h
        · obtain ⟨o, q1, q2⟩ := a0.slots j s h
          refine ⟨o, q1, ?_⟩
          cases s with
          | no => trivial
          | dat d =>
            obtain ⟨v, rfl, hd⟩ := q2
            exact ⟨v, rfl, dp_mono e hd⟩
          | own es =>
            obtain ⟨m, ws, rfl, r1, r2⟩ := q2
            exact ⟨m, ws, rfl, r1, dpAll_mono e r2⟩
          | dic es =>
            obtain ⟨m, ws, rfl, r1, r2⟩ := q2
            exact ⟨m, ws, rfl, r1, kv_mono e r2⟩
          | bag => exact q2
          | scr ns =>
            obtain ⟨a, rfl, q⟩ := q2
            exact ⟨a, rfl, ex_l e q⟩
        · obtain ⟨q1, q2, q3⟩ := a0.owns j s m h ho em
          refine ⟨q1, ?_, q3⟩
          rw [upd_ne (fr0 j s m h ho em)]
          exact q2
      have hl : i < (ρ.set i Sl.no).length := by rw [List.length_set]; exact hi
      have a3 := a2.put (s := .dat (.list ds)) (o := some (V.ref l)) (List.getElem?_set_self hi) (List.getElem?_set_self (a.hlen hi)) ⟨.ref l, rfl, .lst upd_same (dpAll_mono e h6)⟩ (fun l ho => by cases ho)
      rw [List.set_set] at a3
      exact ⟨_, a3, e, fun b hb => upd_ne fun z => hb rfl (by rw [z])⟩
  | td kvs =>
    obtain ⟨l, vs, rfl, h2, h3, h4, h5, h6⟩ := hv
    simp only [Rv.slot, Option.some.injEq] at hs
    subst hs
    exact ⟨G, a.set hi ⟨l, vs, rfl, h3, h6⟩ fun l' _ e => by
      cases e
      exact ⟨⟨h2, h4, h5⟩, hfr rfl l rfl⟩, Ex.refl _, fun _ _ => rfl⟩
  | bo ds => simp [Rv.slot] at hs
  | bd ds => simp [Rv.slot] at hs
  | bg => simp [Rv.slot] at hs
theorem VOk.newAt {Hs : Hp} {v : V} {r : Rv} (h : VOk K H0 bg Hs G H v r) (hn : r.isNew = true) : ∃ l, v = .ref l ∧ Hs l = none ∧ H l ≠ none := by
  cases r with
  | tm ds =>
    obtain ⟨l, vs, h1, h2, h3, _⟩ := h
    exact ⟨l, h1, h2, dom_of h3⟩
  | td ds =>
    obtain ⟨l, vs, h1, h2, h3, _⟩ := h
    exact ⟨l, h1, h2, dom_of h3⟩
  | _ => cases hn
/-- the view grows but not at what is new -/
theorem VOk.view {G2 : Hp} {Hs : Hp} {v : V} {r : Rv} (h : VOk K H0 bg Hs G H v r) (e : Ex G G2) (hk : r.isNew = true → ∀ l, v = .ref l → G2 l = G l) (hb : ∀ ds, r ≠ .bo ds) (hb2 : ∀ ds, r ≠ .bd ds) : VOk K H0 bg Hs G2 H v r := by
  cases r with
  | fz d => exact dp_mono e h
  | tm ds =>
    obtain ⟨l, vs, rfl, h2, h3, h4, h5, h6⟩ := h
    exact ⟨l, vs, rfl, h2, h3, (hk rfl l rfl).trans h4, h5, dpAll_mono e h6⟩
  | td ds =>
    obtain ⟨l, vs, rfl, h2, h3, h4, h5, h6⟩ := h
    exact ⟨l, vs, rfl, h2, h3, (hk rfl l rfl).trans h4, h5, kv_mono e h6⟩
  | bg => exact h
  | bo ds => exact absurd rfl (hb ds)
  | bd ds => exact absurd rfl (hb2 ds)
end
def put2 (r : Rv) (i : Nat) (frz : Bool) (ρ : Env) : Option Env := (r.slot frz).bind fun s => if i < ρ.length then some (ρ.set i s) else none
/-- a value goes to a slot, at the end of the right side -/
structure Item where
  i : Nat
  frz : Bool
  f : E
/-- values go to slots, in order -/
def puts : List (Rv × Nat × Bool) → Env → Option Env
  | [], ρ => some ρ
  | (r, i, frz) :: rs, ρ => match r.slot frz with
    | some s => if i < ρ.length then puts rs (ρ.set i s) else none
    | none => none
def setAll : List (V × Nat) → L2.St → L2.St
  | [], σ => σ
  | (v, i) :: vs, σ => setAll vs (σ.set i (some v))
/-- values, each new one of its own -/
def Each (K : PySem.W.Frag) (H0 : Hp) (bg : BG) (G H : Hp) (σ : L2.St) (ρ : Env) : List (V × Rv) → Prop
  | [] => True
  | (v, r) :: rest => VOk K H0 bg H0 G H v r ∧ (r.isNew = true → ∀ l, v = .ref l → ∀ (j : Nat) (t : Sl), ρ[j]? = some t → Own t = true → σ[j]? ≠ some (some (.ref l))) ∧
      (r.isNew = true → ∀ v' r', (v', r') ∈ rest → r'.isNew = true → v' ≠ v) ∧ Each K H0 bg G H σ ρ rest
section
variable {K : PySem.W.Frag} {H0 G0 : Hp} {bg : BG} {H : Hp} {β : Bag}
theorem Each.move {G G2 : Hp} {σ σ' : L2.St} {ρ ρ' : Env} (e : Ex G G2) {v : V} {r : Rv} (hk : ∀ b, (r.isNew = true → v ≠ .ref b) → G2 b = G b)
    (hfr : ∀ l, (r.isNew = true → v ≠ .ref l) → (∀ (j : Nat) (t : Sl), ρ[j]? = some t → Own t = true → σ[j]? ≠ some (some (.ref l))) → ∀ (j : Nat) (t : Sl), ρ'[j]? = some t → Own t = true → σ'[j]? ≠ some (some (.ref l))) :
    ∀ {rest : List (V × Rv)}, (r.isNew = true → ∀ v' r', (v', r') ∈ rest → r'.isNew = true → v' ≠ v) → (∀ p ∈ rest, ∃ s, ∃ fz, p.2.slot fz = some s) → Each K H0 bg G H σ ρ rest → Each K H0 bg G2 H σ' ρ' rest
  | [], _, _, _ => trivial
  | (v', r') :: rest, hd, hsl, ⟨h1, h2, h3, h4⟩ => by
    have ne : ∀ l, r'.isNew = true → v' = .ref l → r.isNew = true → v ≠ .ref l := fun l hn' ev hn z => hd hn v' r' (List.mem_cons_self ..) hn' (ev.trans z.symm)
    obtain ⟨s, fz, hs⟩ := hsl (v', r') (List.mem_cons_self ..)
    refine ⟨h1.view e (fun hn l ev => hk l (ne l hn ev)) (fun ds z => ?_) (fun ds z => ?_), fun hn l ev => hfr l (ne l hn ev) (h2 hn l ev), h3, Each.move e hk hfr (fun hn v'' r'' hm => hd hn v'' r'' (List.mem_cons_of_mem _ hm)) (fun p hp => hsl p (List.mem_cons_of_mem _ hp)) h4⟩
    · simp only at hs
      rw [z] at hs
      simp [Rv.slot] at hs
    · simp only at hs
      rw [z] at hs
      simp [Rv.slot] at hs
theorem puts_slot : ∀ {l : List (Rv × Nat × Bool)} {ρ ρ' : Env}, puts l ρ = some ρ' → ∀ p ∈ l, ∃ s, ∃ fz, p.1.slot fz = some s
  | [], _, _, _ => fun p hp => by cases hp
  | (r, i, frz) :: rs, ρ, ρ', h => fun p hp => by
    unfold puts at h
    cases hs : r.slot frz with
    | none => rw [hs] at h; cases h
    | some s =>
      rw [hs] at h
      simp only at h
      split at h
      · rcases List.mem_cons.mp hp with rfl | hp
        · exact ⟨s, frz, hs⟩
        · exact puts_slot h p hp
      · cases h
theorem Ag.puts : ∀ {l : List ((V × Rv) × Nat × Bool)} {G : Hp} {σ : L2.St} {ρ ρ' : Env}, Ag K H0 G0 bg G H σ ρ β → VL.puts (l.map fun p => (p.1.2, p.2.1, p.2.2)) ρ = some ρ' → Each K H0 bg G H σ ρ (l.map (·.1)) →
    ∃ G2, Ag K H0 G0 bg G2 H (setAll (l.map fun p => (p.1.1, p.2.1)) σ) ρ' β ∧ Ex G G2
  | [], G, σ, ρ, ρ', a, h, _ => by
    cases h
    exact ⟨G, a, Ex.refl _⟩
  | ((v, r), i, frz) :: l, G, σ, ρ, ρ', a, h, ⟨h1, h2, h3, h4⟩ => by
    have hsl := puts_slot h
    simp only [List.map_cons] at h
    unfold VL.puts at h
    cases hs : r.slot frz with
    | none => simp only [hs] at h; cases h
    | some s =>
      simp only [hs] at h
      split at h
      · rename_i hi
        obtain ⟨G2, a2, e2, k2⟩ := a.put1 hi h1 hs h2
        have m := Each.move (σ' := σ.set i (some v)) (ρ' := ρ.set i s) (rest := l.map (·.1)) e2 k2 (fun l' hne hf j t ht ho hm => ?_) h3 (fun p hp => ?_) h4
        · obtain ⟨G3, a3, e3⟩ := Ag.puts (l := l) a2 h m
          exact ⟨G3, a3, e2.trans e3⟩
        · by_cases hj : i = j
          · subst hj
            rw [List.getElem?_set_self hi] at ht
            cases ht
            rw [List.getElem?_set_self (a.hlen hi)] at hm
            cases hm
            cases r with
            | fz d =>
              simp only [Rv.slot, Option.some.injEq] at hs
              subst hs
              cases ho
            | tm ds => exact hne rfl rfl
            | td ds => exact hne rfl rfl
            | bo ds => simp [Rv.slot] at hs
            | bd ds => simp [Rv.slot] at hs
            | bg => simp [Rv.slot] at hs
          · rw [List.getElem?_set_ne hj] at ht hm
            exact hf j t ht ho hm
        · obtain ⟨q, hq, rfl⟩ := List.mem_map.mp hp
          exact hsl (q.1.2, q.2.1, q.2.2) (List.mem_cons_of_mem _ (List.mem_map.mpr ⟨q, hq, rfl⟩))
      · cases h
end
def sPar2 (i : Nat) (fi : Bool) (j : Nat) (fj : Bool) (f g : E) : T := fun ρ β => (f ρ β).out ρ fun r β => (g ρ β).out ρ fun r2 β => match puts [(r, i, fi), (r2, j, fj)] ρ with
  | some ρ' => .nx ρ' β
  | none => .no
def sPar3 (i : Nat) (fi : Bool) (j : Nat) (fj : Bool) (k : Nat) (fk : Bool) (f g h : E) : T := fun ρ β => (f ρ β).out ρ fun r β => (g ρ β).out ρ fun r2 β => (h ρ β).out ρ fun r3 β => match puts [(r, i, fi), (r2, j, fj), (r3, k, fk)] ρ with
  | some ρ' => .nx ρ' β
  | none => .no
section
variable {K : PySem.W.Frag} {ec : EC} {W : WX} {σ : L2.St} {H : Hp} {D : Ends} {f g k : E}
theorem rE_mono {Q Q' : VK} (h : rE K ec W f σ H Q) (q : ∀ x H1, Q x H1 → Q' x H1) : rE K ec W f σ H Q' := by
  obtain ⟨H0, G0, bg, G, ρ, β, a, h⟩ := h
  refine rE_go a ?_
  cases hf : f ρ β with
  | no => rw [hf] at h; exact h
  | er e b => rw [hf] at h; exact h
  | ok x β1 =>
    rw [hf] at h
    exact fun v G1 H1 s1 hv => q _ _ (h v G1 H1 s1 hv)
theorem new_ne {H0 : Hp} {bg : BG} {Hs Hs2 G H G2 H2 : Hp} {v w : V} {r r2 : Rv} (hv : VOk K H0 bg Hs G H v r) (hw : VOk K H0 bg Hs2 G2 H2 w r2) (hle : ∀ a, H a ≠ none → Hs2 a ≠ none) (n1 : r.isNew = true) (n2 : r2.isNew = true) : w ≠ v := fun z => by
  obtain ⟨l, e1, _, e3⟩ := hv.newAt n1
  obtain ⟨m, f1, f2, _⟩ := hw.newAt n2
  rw [e1, f1] at z
  cases z
  exact hle l e3 f2
theorem new_fresh {H0 G0 : Hp} {bg : BG} {G H G2 H2 : Hp} {ρ : Env} {β : Bag} {v : V} {r : Rv} (a : Ag K H0 G0 bg G H σ ρ β) (hv : VOk K H0 bg H G2 H2 v r) :
    r.isNew = true → ∀ l, v = .ref l → ∀ (j : Nat) (t : Sl), ρ[j]? = some t → Own t = true → σ[j]? ≠ some (some (.ref l)) := fun hn l ev j t h ho em => by
  obtain ⟨m, e1, e2, _⟩ := hv.newAt hn
  rw [ev] at e1
  cases e1
  obtain ⟨o, h1, h2⟩ := a.slots j t h
  rw [em] at h1
  cases h1
  exact h2.dom ho e2
theorem readPar2 {i j : Nat} {fi fj : Bool} (h : rS K ec W (sPar2 i fi j fj f g) D σ H) : rE K ec W f σ H fun x H1 => rE K ec W g σ H1 fun y H2 => D.nx ((σ.set i (some x)).set j (some y)) H2 := by
  obtain ⟨H0, G0, bg, G, ρ, β, a, h⟩ := h
  refine rE_go a ?_
  simp only [sPar2] at h
  cases hf : f ρ β with
  | no => rw [hf] at h; exact h
  | er e b => rw [hf] at h; exact read_er a h
  | ok x β1 =>
    rw [hf] at h
    intro v G1 H1 s1 hv
    have a1 := a.step s1
    refine rE_go a1 ?_
    simp only [R.out] at h
    cases hg : g ρ β1 with
    | no => rw [hg] at h; exact h
    | er e b => rw [hg] at h; exact read_er a1 (PostS.mono (s1.gg a.gh) h)
    | ok y β2 =>
      rw [hg] at h
      intro w G2 H2 s2 hw
      have a2 := a1.step s2
      simp only at h
      cases hp : puts [(x, i, fi), (y, j, fj)] ρ with
      | none => rw [hp] at h; exact h.elim
      | some ρ' =>
        rw [hp] at h
        have v2 := hv.step s2 s1.gh
        have w2 := hw.back s1.dm
        obtain ⟨G3, a3, e3⟩ := Ag.puts (l := [((v, x), i, fi), ((w, y), j, fj)]) a2 hp ⟨v2.back a.dm, new_fresh a v2, fun n1 v' r' hm n2 => by
          rcases List.mem_singleton.mp hm with hm
          cases hm
          exact new_ne hv hw (fun _ h => h) n1 n2, w2.back a.dm, new_fresh a w2, (fun _ _ _ hm => by cases hm), trivial⟩
        exact h _ G3 H2 a3 (((s1.trans s2).gg a.gh).trans e3)
theorem readPar3 {i j l : Nat} {fi fj fl : Bool} (h : rS K ec W (sPar3 i fi j fj l fl f g k) D σ H) : rE K ec W f σ H fun x H1 => rE K ec W g σ H1 fun y H2 => rE K ec W k σ H2 fun z H3 => D.nx (((σ.set i (some x)).set j (some y)).set l (some z)) H3 := by
  obtain ⟨H0, G0, bg, G, ρ, β, a, h⟩ := h
  refine rE_go a ?_
  simp only [sPar3] at h
  cases hf : f ρ β with
  | no => rw [hf] at h; exact h
  | er e b => rw [hf] at h; exact read_er a h
  | ok x β1 =>
    rw [hf] at h
    intro v G1 H1 s1 hv
    have a1 := a.step s1
    refine rE_go a1 ?_
    simp only [R.out] at h
    cases hg : g ρ β1 with
    | no => rw [hg] at h; exact h
    | er e b => rw [hg] at h; exact read_er a1 (PostS.mono (s1.gg a.gh) h)
    | ok y β2 =>
      rw [hg] at h
      intro w G2 H2 s2 hw
      have a2 := a1.step s2
      refine rE_go a2 ?_
      simp only at h
      cases hk : k ρ β2 with
      | no => rw [hk] at h; exact h
      | er e b => rw [hk] at h; exact read_er a2 (PostS.mono ((s1.trans s2).gg a.gh) h)
      | ok z β3 =>
        rw [hk] at h
        intro u G3 H3 s3 hu
        have a3 := a2.step s3
        simp only at h
        cases hp : puts [(x, i, fi), (y, j, fj), (z, l, fl)] ρ with
        | none => rw [hp] at h; exact h.elim
        | some ρ' =>
          rw [hp] at h
          have v2 := (hv.step s2 s1.gh).step s3 s2.gh
          have w2 := (hw.back s1.dm).step s3 s2.gh
          have u2 := hu.back (s1.trans s2).dm
          obtain ⟨G4, a4, e4⟩ := Ag.puts (l := [((v, x), i, fi), ((w, y), j, fj), ((u, z), l, fl)]) a3 hp ⟨v2.back a.dm, new_fresh a v2, fun n1 v' r' hm n2 => by
            rcases List.mem_cons.mp hm with hm | hm
            · cases hm
              exact new_ne hv hw (fun _ h => h) n1 n2
            · rcases List.mem_singleton.mp hm with hm
              cases hm
              exact new_ne hv hu s2.dm n1 n2, w2.back a.dm, new_fresh a w2, fun n1 v' r' hm n2 => by
            rcases List.mem_singleton.mp hm with hm
            cases hm
            exact new_ne hw hu (fun _ h => h) n1 n2, u2.back a.dm, new_fresh a u2, (fun _ _ _ hm => by cases hm), trivial⟩
          exact h _ G4 H3 a4 ((((s1.trans s2).trans s3).gg a.gh).trans e4)
end
section
variable {X : Cx} {ec : EC} {W : WX} {a b c : Expr} {f g k : E}
theorem ss_par2 (i : Nat) (fi : Bool) (j : Nat) (fj : Bool) {x y : Str} {px py pt pos : Pos} {kt k2 pt2} (hc : X.calm = true) (hN : X.N.Nodup) (ha : SE X ec W a f) (hb : SE X ec W b g) (hi : X.N[i]? = some x := by rfl) (hj : X.N[j]? = some y := by rfl) (hij : i ≠ j := by decide)
    (hx : X.env.scope.names.lookup x = some .local := by rfl) (hy : X.env.scope.names.lookup y = some .local := by rfl)
    (hw : swappedStores [.Tuple [.Name x px, .Name y py] kt pt] (.Tuple [a, b] k2 pt2) X.env = pure (some [x, y]) := by rfl)
    (hs : swapsWithSole [.Tuple [.Name x px, .Name y py] kt pt] (.Tuple [a, b] k2 pt2) pos.line X.env = pure false := by rfl)
    (n1 : starEach [a, b] X.env = (false, eval a X.env) :: starEach [b] X.env := by rfl) (n2 : starEach [b] X.env = (false, eval b X.env) :: starEach [] X.env := by rfl) :
    SS X ec W (.Assign [.Tuple [.Name x px, .Name y py] kt pt] (.Tuple [a, b] k2 pt2) pos) (sPar2 i fi j fj f g) :=
  PS.imp (ps_par hc hN hi hj hij hx hy (pa_cons ha (pa_cons hb pa_nil n2) n1) hw hs) fun D σ H h => by
    exact rE_mono (readPar2 h) fun x H1 h1 => rE_mono h1 fun y H2 h2 => ⟨x, y, rfl, h2⟩
theorem ss_par3 (i : Nat) (fi : Bool) (j : Nat) (fj : Bool) (l : Nat) (fl : Bool) {x y z : Str} {px py pz pt pos : Pos} {kt k2 pt2} (hc : X.calm = true) (hN : X.N.Nodup) (ha : SE X ec W a f) (hb : SE X ec W b g) (hk : SE X ec W c k) (hi : X.N[i]? = some x := by rfl) (hj : X.N[j]? = some y := by rfl) (hl : X.N[l]? = some z := by rfl)
    (hij : i ≠ j := by decide) (hil : i ≠ l := by decide) (hjl : j ≠ l := by decide)
    (hx : X.env.scope.names.lookup x = some .local := by rfl) (hy : X.env.scope.names.lookup y = some .local := by rfl) (hz : X.env.scope.names.lookup z = some .local := by rfl)
    (hw : swappedStores [.Tuple [.Name x px, .Name y py, .Name z pz] kt pt] (.Tuple [a, b, c] k2 pt2) X.env = pure (some [x, y, z]) := by rfl)
    (hs : swapsWithSole [.Tuple [.Name x px, .Name y py, .Name z pz] kt pt] (.Tuple [a, b, c] k2 pt2) pos.line X.env = pure false := by rfl)
    (n1 : starEach [a, b, c] X.env = (false, eval a X.env) :: starEach [b, c] X.env := by rfl) (n2 : starEach [b, c] X.env = (false, eval b X.env) :: starEach [c] X.env := by rfl) (n3 : starEach [c] X.env = (false, eval c X.env) :: starEach [] X.env := by rfl) :
    SS X ec W (.Assign [.Tuple [.Name x px, .Name y py, .Name z pz] kt pt] (.Tuple [a, b, c] k2 pt2) pos) (sPar3 i fi j fj l fl f g k) :=
  PS.imp (ps_par3 hc hN hi hj hl hij hil hjl hx hy hz (pa_cons ha (pa_cons hb (pa_cons hk pa_nil n3) n2) n1) hw hs) fun D σ H h => by
    exact rE_mono (readPar3 h) fun x H1 h1 => rE_mono h1 fun y H2 h2 => rE_mono h2 fun z H3 h3 => ⟨x, y, z, rfl, h3⟩
end

/-! ### a, b = e -/
def sUnp (t : TgF) (f : E) : T := fun ρ β => (f ρ β).out ρ fun r β => match r with
  | .fz d => match t d ρ with
    | some ρ' => .nx ρ' β
    | none => .no
  | _ => .no
theorem readUnp {K : PySem.W.Frag} {ec : EC} {W : WX} {σ : L2.St} {H : Hp} {D : Ends} {f : E} {t : TgF} {is : List Nat} (h : rS K ec W (sUnp t f) D σ H) : tAsg (rE K ec W f) (rG K is t) D σ H := by
  obtain ⟨H0, G0, bg, G, ρ, β, a, h⟩ := h
  refine rE_go a ?_
  simp only [sUnp] at h
  cases hf : f ρ β with
  | no => rw [hf] at h; exact h
  | er e b => rw [hf] at h; exact read_er a h
  | ok x β1 =>
    rw [hf] at h
    intro v G1 H1 st hv
    simp only [R.out] at h
    cases x with
    | fz d =>
      simp only at h
      cases ht : t d ρ with
      | none => rw [ht] at h; exact h.elim
      | some ρ' =>
        rw [ht] at h
        exact ⟨H0, G0, bg, G1, ρ, β1, d, ρ', a.step st, hv, ht, fun σ' _ _ a' => h σ' G1 H1 a' (st.gg a.gh)⟩
    | _ => exact h.elim
theorem ss_unp {X : Cx} {ec : EC} {W : WX} {tg e : Expr} {f : E} {t : TgF} {is : List Nat} {pos : Pos} (he : SE X ec W e f) (hg : SG X tg is t) (hs : swapsWithSole [tg] e pos.line X.env = pure false := by rfl) (hw : swappedStores [tg] e X.env = pure none := by rfl)
    (h1 : (assignEach [tg] X.env).map (·.2) = [assign tg X.env] := by rfl) : SS X ec W (.Assign [tg] e pos) (sUnp t f) := PS.imp (ps_asg he hg hs hw h1) fun D σ H h => readUnp h
end VL

/-! VL10: enumerate, zip, reversed. -/
namespace VL
open PySem PySem.Spec PyProof.Rows L2

/-- a list (b) or a tuple is tracked -/
def SqB (K : PySem.W.Frag) (b : Bool) (H : Hp) (a : Addr) (xs : List V) : Prop := match b with
  | true => SqL K H a xs
  | false => SqT K H a xs
def IsIt (b : Bool) (h : Heap) (it a : Addr) (i : Nat) : Prop := match b with
  | true => h.IsListIter it a i
  | false => h.IsTupleIter it a i
def IsSqH (b : Bool) (h : Heap) (a : Addr) (items : Array Value) : Prop := match b with
  | true => h.IsList a items
  | false => h.IsTuple a items
def itObj (b : Bool) (a : Addr) : Obj := match b with
  | true => { cls := .type "list_iterator", data := .fields #[.ref a, .int 0 0] }
  | false => { cls := .type "tuple_iterator", data := .fields #[.ref a, .int 0 0] }
theorem begB (b : Bool) (a : Addr) (items : Array Value) : Begins (.ref a) (itObj b a) fun h => IsSqH b h a items := by
  cases b
  · exact begins_tuple a items
  · exact begins_list a items
theorem drawsB {prog : Program} {w : World} {A : Around} (b : Bool) (hh : A.handled = none) (it a : Addr) (hne : a ≠ it) (items : Array Value) :
    Draws prog w A it [it, a] items.size (fun i v => items[i]? = some v) (fun i h => IsIt b h it a i ∧ IsSqH b h a items) := by
  cases b
  · exact Draws.tuple hh it a hne items
  · exact Draws.list hh it a hne items
theorem IsIt.at {b : Bool} {h h' : Heap} {it a : Addr} {i : Nat} (x : IsIt b h it a i) (k : ∀ o, h.get? it = some o → h'.get? it = some o) : IsIt b h' it a i := by
  cases b
  · obtain ⟨o, h1, h2, h3⟩ := x
    exact ⟨o, k o h1, h2, h3⟩
  · obtain ⟨o, h1, h2, h3⟩ := x
    exact ⟨o, k o h1, h2, h3⟩
theorem IsIt.obj {b : Bool} {h : Heap} {it a : Addr} {i : Nat} (x : IsIt b h it a i) : ∃ o, h.get? it = some o ∧ ∀ v, o.data ≠ .cell v := by
  cases b
  · obtain ⟨o, h1, h2, h3⟩ := x
    exact ⟨o, h1, fun v q => by rw [h3] at q; cases q⟩
  · obtain ⟨o, h1, h2, h3⟩ := x
    exact ⟨o, h1, fun v q => by rw [h3] at q; cases q⟩
theorem IsIt.new {b : Bool} {h : Heap} {it a : Addr} (e : h.get? it = some (itObj b a)) : IsIt b h it a 0 := by
  cases b
  · exact ⟨_, e, rfl, rfl⟩
  · exact ⟨_, e, rfl, rfl⟩
theorem sqAt {X : Cx} {pins : List (Addr × Obj)} {σ : L2.St} {H : Hp} {s : Shared} {b : Bool} {a : Addr} {xs : List V} (I : Inv X pins σ H s) (h : SqB X.K b H a xs) : ∃ its : List Value, Vals xs its ∧ IsSqH b s.heap a its.toArray ∧ a < s.heap.objs.size := by
  cases b
  · obtain ⟨its, rv, p, _⟩ := I.tuple h
    have q : s.heap.IsTuple a its.toArray := p
    obtain ⟨o, ho, _⟩ := id q
    exact ⟨its, rv, q, Heap.lt_size ho⟩
  · obtain ⟨its, rv, p, _⟩ := I.list h
    exact ⟨its, rv, p.isList, p.lt⟩
theorem sqInj {X : Cx} {pins : List (Addr × Obj)} {σ : L2.St} {H : Hp} {s : Shared} {b : Bool} {a : Addr} {xs ys : List V} (I : Inv X pins σ H s) (h : SqB X.K b H a xs) (h' : SqB X.K b H a ys) : xs = ys := by
  cases b
  · exact I.tuple_inj h h'
  · exact I.list_inj h h'

/-- a Turn from GoesN -/
theorem turn_goes {P : Program} {w : World} {K : PySem.W.Frag} {tg : Expr} {J : It} {fp : List Addr} {it : Addr} {tn : Nat → Heap → Prop} (mem : it ∈ fp) (obj : ∀ i h, tn i h → ∀ b ∈ fp, ∃ o, h.get? b = some o ∧ ∀ v, o.data ≠ .cell v)
    (keep : ∀ i h h', tn i h → (∀ b ∈ fp, ∀ o, h.get? b = some o → h'.get? b = some o) → tn i h')
    (self : ∀ (A : Around) (i : Nat) (s : Shared) (Q : Value → Shared → Prop) (E : Value → Shared → Prop), tn i s.heap → Q (.ref it) s → wpAny (model P w) A (pyIter (.ref it)) Q E s)
    (go : ∀ (X : Cx), X.prog = P → X.w = w → X.K = K → X.A.handled = none → ∀ (i : Nat) (pins : List (Addr × Obj)) (s : Shared) (σ : L2.St) (H : Hp), Inv X pins σ H s → tn i s.heap → (J.go i H ∨ J.stop i H) → ∃ (fp' wr : List Addr) (n : Nat) (Y : Nat → Heap → Value → Heap → Prop) (St : Nat → Heap → Prop),
      GoesN P w X.A tg it fp' wr n Y St ∧ (∀ b ∈ wr, b ∈ fp) ∧ St i s.heap ∧ (J.stop i H → i = n) ∧ (J.go i H → i < n) ∧ ∀ v h', J.go i H → Y i s.heap v h' → St (i + 1) h' → tn (i + 1) h' ∧ ∃ (T : Addr) (xs : List V) (vals : List Value), v = .ref T ∧ s.heap.objs.size ≤ T ∧ h'.IsTuple T vals.toArray ∧ Vals xs vals ∧ xs.length ≤ sizeLine ∧ (H T = none → J.yld i H (.ref T) (upd H T (.tup xs)))) :
    Turn P w K tg J fp it tn where
  mem := mem
  obj := obj
  keep := keep
  item := by
    intro X hP hw hK hc i pins s σ H E I hf st hg
    obtain ⟨fp', wr, n, Y, St, W, hsub, hst, _, hi, hY⟩ := go X hP hw hK (I.ok.hd hc) i pins s σ H I st (.inl hg)
    subst hP hw hK
    refine W.goes i s _ E (hi hg) hst fun v h' tk y st' k _ => ?_
    obtain ⟨tn', T, xs, vals, rfl, hT, tp, rv, hz, jy⟩ := hY v h' hg y st'
    have new : ObjOk X.prog X.w (upd H T (.tup xs)) h' T (.tup xs) := ⟨hz, vals, rv, tp⟩
    refine ⟨.ref T, _, I.turnedNew (t' := tk) (ch := fp) (fun b o hb q => k b o (fun z => hb (hsub b z)) q) hf hT new, rfl, jy (I.hok.fresh hT), tn', fun b hb => ?_⟩
    obtain ⟨o, ho, _⟩ := obj i s.heap st b hb
    rw [upd_ne (Nat.ne_of_lt (Nat.lt_of_lt_of_le (Heap.lt_size ho) hT))]
    exact (hf b hb).1
  done := by
    intro X hP hw hK hc i pins s σ H E I hf st hg
    obtain ⟨fp', wr, n, Y, St, W, hsub, hst, hn, _, _⟩ := go X hP hw hK (I.ok.hd hc) i pins s σ H I st (.inr hg)
    subst hP hw hK
    have e := hn hg
    subst e
    exact W.stops s _ E hst fun h' tk k _ => I.turnedL (t' := tk) (ch := fp) (fun b o hb q => k b o (fun z => hb (hsub b z)) q) hf
  self := self

/-! ### enumerate -/
def ItE (K : PySem.W.Frag) (b : Bool) (a : Addr) : It :=
  ⟨fun i H => ∃ xs, SqB K b H a xs ∧ i < xs.length, fun i H v H' => ∃ T x, v = .ref T ∧ H T = none ∧ H' = upd H T (.tup [.int (i : Nat), x]) ∧ ∀ xs, SqB K b H a xs → xs[i]? = some x, fun i H => ∃ xs : List V, SqB K b H a xs ∧ xs.length = i⟩
theorem turn_enumB {P : Program} {w : World} {K : PySem.W.Frag} {elts : List Expr} {kk : Nat} {tpos : Pos} (b : Bool) (a e it : Addr) (n1 : e ≠ it) (n2 : e ≠ a) (n3 : it ≠ a) :
    Turn P w K (.Tuple elts kk tpos) (ItE K b a) [e, it] e (fun i h => (∃ old, IsEnum h e it (0 + ((i : Nat) : Int)) old) ∧ IsIt b h it a i) :=
  turn_goes (by simp) (fun i h st c hc => by
    obtain ⟨⟨old, he⟩, hi⟩ := st
    have e' : c = e ∨ c = it := by simpa using hc
    rcases e' with z | z
    · rw [z]; exact ⟨_, he, fun v q => nomatch q⟩
    · rw [z]; exact hi.obj) (fun i h h' st k => by
    obtain ⟨⟨old, he⟩, hi⟩ := st
    exact ⟨⟨old, k e (by simp) _ he⟩, hi.at fun o q => k it (by simp) o q⟩) (fun A i s Q E st h => by
    obtain ⟨⟨old, he⟩, hi⟩ := st
    exact wpAny_pyIter_enum he h) (fun X hP hw hK hh i pins s σ H I st hg => by
    subst hP hw hK
    obtain ⟨xs, hq, hsi⟩ : ∃ xs, SqB X.K b H a xs ∧ (i < xs.length ∨ xs.length = i) := by
      rcases hg with ⟨xs, h1, h2⟩ | ⟨xs, h1, h2⟩
      · exact ⟨xs, h1, .inl h2⟩
      · exact ⟨xs, h1, .inr h2⟩
    obtain ⟨its, rv, p, _⟩ := sqAt I hq
    have hl : xs.length = its.length := rv.length
    obtain ⟨he, hi⟩ := st
    refine ⟨_, _, _, _, _, GoesN.enumFrom 0 (drawsB (A := X.A.in1) b hh it a n3.symm its.toArray) e n1 (by simp [n1, n2]) (by simp), fun c hc => hc, ⟨he, hi, p⟩, fun hs => ?_, fun hs => ?_, fun v h' hgo y st' => ?_⟩
    · obtain ⟨ys, q1, q2⟩ := hs
      rw [sqInj I q1 hq] at q2
      rw [List.size_toArray]
      omega
    · obtain ⟨ys, q1, q2⟩ := hs
      rw [sqInj I q1 hq] at q2
      rw [List.size_toArray]
      omega
    · obtain ⟨T, t, u, rfl, hT, hu, tp⟩ := y
      obtain ⟨st1, st2, _⟩ := st'
      have hlt : i < xs.length := by
        obtain ⟨ys, q1, q2⟩ := hgo
        rw [sqInj I q1 hq] at q2
        exact q2
      have ru : RelV xs[i] u := by
        obtain ⟨u', h1, h2⟩ := rv.get (List.getElem?_eq_getElem hlt)
        have h3 : its[i]? = some u := by simpa using hu
        rw [h1] at h3
        cases h3
        exact h2
      refine ⟨⟨st1, st2⟩, T, [.int ((i : Nat) : Int), xs[i]], [.int (0 + (i : Int)) t, u], rfl, hT, tp, .cons ⟨t, by rw [Int.zero_add]⟩ (.cons ru .nil), by show 2 ≤ sizeLine; decide, fun hn => ⟨T, xs[i], rfl, hn, rfl, fun ys hy => ?_⟩⟩
      rw [sqInj I hy hq]
      exact List.getElem?_eq_getElem hlt)

set_option maxHeartbeats 4000000 in
theorem meets_enumerate_newB1 {v : Value} {o : Obj} {H : Heap → Prop} (B : Begins v o H) :
    Meets (Builtin.«enumerate.__new__» ⟨[.type "enumerate", v], []⟩) (fun _ R s => H s.heap ∧
      R (.ok (.ret (.ref (s.heap.push o).objs.size))) { s with heap := (s.heap.push o).push { cls := .type "enumerate", data := .fields #[.none, .bool false, .ref s.heap.objs.size, rawInt 0, .none, .none] } }) :=
  .of_wp fun prog w A R s h => by
    obtain ⟨hp, g, d, tk, os⟩ := s; obtain ⟨h1, h⟩ := h
    have hsub := sub_enumerate
    have q1 : ∀ {A' : Around} {E : Value → Shared → Prop} {Q : Value → Shared → Prop}, Q (.ref hp.objs.size) ⟨hp.push o, g, d, tk, os⟩ → wpAny (model prog w) A' (pyIter v) Q E ⟨hp, g, d, tk, os⟩ :=
      fun q => B.iter prog w _ _ ⟨hp, g, d, tk, os⟩ _ h1 q
    wp_walk using q1
    refine wpAny_stack_any fun st => wpAny_pure ?_
    split
    · rename_i c _ _ _ _ _
      cases (c == Value.type "enumerate")
      · wp_walk using q1
        exact ⟨_, rfl, h⟩
      · wp_walk using q1
        exact ⟨_, rfl, h⟩
    · wp_walk using q1
      exact ⟨_, rfl, h⟩
theorem enum_begins1 {prog : Program} {w : World} {A : Around} {E : Value → Shared → Prop} {s : Shared} {v : Value} {o : Obj} {H : Heap → Prop} {Q : Value → Shared → Prop} (B : Begins v o H) (h1 : H s.heap)
    (h : ∀ h', IsEnum h' (s.heap.objs.size + 1) s.heap.objs.size 0 .none → h'.get? s.heap.objs.size = some o → h'.objs.size = s.heap.objs.size + 2 →
      (∀ b o, s.heap.get? b = some o → h'.get? b = some o) → Q (.ref (s.heap.objs.size + 1)) { s with heap := h' }) :
    wpAny (model prog w) A (call (.type "enumerate") [v]) Q E s := by
  refine callType_new PySem.F.called_enumerate (by decide) (PySem.F.typeCall_enumerate_1 _) (PySem.F.newCall_enumerate_1 _) (fun obj => PySem.F.args_object_init_2 obj _) PySem.F.entry_enumerate_new
    (meets_enumerate_newB1 B) ⟨h1, ?_⟩
  have hz : (s.heap.push o).objs.size = s.heap.objs.size + 1 := Heap.size_push ..
  show _ ∧ _
  rw [hz]
  have he : IsEnum ((s.heap.push o).push { cls := .type "enumerate", data := .fields #[.none, .bool false, .ref s.heap.objs.size, rawInt 0, .none, .none] }) (s.heap.objs.size + 1) s.heap.objs.size 0 .none := by
    have := Heap.get?_push_size (s.heap.push o) (o := { cls := .type "enumerate", data := .fields #[.none, .bool false, .ref s.heap.objs.size, rawInt 0, .none, .none] }) rfl
    rw [hz] at this; exact this
  refine ⟨⟨_, he, rfl⟩, h _ he (Heap.get?_push_of_some _ (Heap.get?_push_size _ B.free)) (by rw [Heap.size_push, hz]) fun b o x => Heap.get?_push_of_some _ (Heap.get?_push_of_some _ x)⟩
def iEnumB (K : PySem.W.Frag) (te : TE) : TI := fun σ H R => te σ H fun v H1 => ∃ a b xs, v = .ref a ∧ SqB K b H1 a xs ∧ R (ItE K b a) H1
theorem pi_enumB {X : Cx} {e : Expr} {te : TE} {p pos tpos : Pos} {elts : List Expr} {kk : Nat} (hg : Gl X "enumerate") (hm : X.mg "enumerate" = none) (he : PE X e te) (hs : starEach [e] X.env = (false, eval e X.env) :: starEach [] X.env := by rfl) :
    PI X (.Tuple elts kk tpos) (.Call (.Name "enumerate" p) [e] [] pos) (iEnumB X.K te) := by
  refine ⟨fun pins s σ H R I h => ?_⟩
  refine Call_ (ld_blt I hg hm boot_enumerate (PyProof.Rows.callWith_type1 (args_cons (thn (he.run pins s σ H _ I h) fun u s1 ⟨v, H1, I1, r1, q1⟩ => args_nil ?_) hs) hs rfl))
  obtain ⟨a, b, xs, ev, hq, q⟩ := q1
  subst ev
  obtain rfl : u = Value.ref a := r1
  obtain ⟨its, rv, p', hlt⟩ := sqAt I1 hq
  refine enum_begins1 (begB b a its.toArray) p' fun h' he' hit hsz hk => wpAny_pyIter_enum he' ?_
  have I2 : Inv X pins σ H1 { s1 with heap := h' } := I1.kept (t' := s1.toks) hk
  refine ⟨s1.heap.objs.size + 1, [s1.heap.objs.size + 1, s1.heap.objs.size], _, _, H1, rfl, I2, turn_enumB b a (s1.heap.objs.size + 1) s1.heap.objs.size (Nat.succ_ne_self _) (Nat.ne_of_gt (Nat.lt_succ_of_lt hlt)) (Nat.ne_of_gt hlt), ⟨⟨.none, by simpa using he'⟩, .new hit⟩, fun c hc => ?_, q⟩
  have e' : c = s1.heap.objs.size + 1 ∨ c = s1.heap.objs.size := by simpa using hc
  have hle : s1.heap.objs.size ≤ c := by
    rcases e' with z | z
    · rw [z]; exact Nat.le_add_right _ _
    · rw [z]; exact Nat.le_refl _
  exact I1.fpOk hle (I1.hok.fresh hle)

/-! ### zip -/
def ItZ2 (K : PySem.W.Frag) (b1 b2 : Bool) (a1 a2 : Addr) : It :=
  ⟨fun i H => ∃ xs ys, SqB K b1 H a1 xs ∧ SqB K b2 H a2 ys ∧ i < min xs.length ys.length,
    fun i H v H' => ∃ T x y, v = .ref T ∧ H T = none ∧ H' = upd H T (.tup [x, y]) ∧ (∀ xs, SqB K b1 H a1 xs → xs[i]? = some x) ∧ ∀ ys, SqB K b2 H a2 ys → ys[i]? = some y,
    fun i H => ∃ xs ys : List V, SqB K b1 H a1 xs ∧ SqB K b2 H a2 ys ∧ min xs.length ys.length = i⟩
theorem valAt {xs : List V} {its : List Value} {i : Nat} {u : Value} (rv : Vals xs its) (hlt : i < xs.length) (hu : its.toArray[i]? = some u) : RelV xs[i] u := by
  obtain ⟨u', h1, h2⟩ := rv.get (List.getElem?_eq_getElem hlt)
  have h3 : its[i]? = some u := by simpa using hu
  rw [h1] at h3
  cases h3
  exact h2
theorem turn_zip2B {P : Program} {w : World} {K : PySem.W.Frag} {elts : List Expr} {kk : Nat} {tpos : Pos} (b1 b2 : Bool) (a1 a2 z TI TO i1 i2 : Addr) (D : ZipSep2 z TI TO i1 i2 [i1, a1] [i2, a2]) (n1 : a1 ≠ i1) (n2 : a2 ≠ i2) :
    Turn P w K (.Tuple elts kk tpos) (ItZ2 K b1 b2 a1 a2) [z, TI, TO, i1, i2] z (fun i h => IsZip h z TI TO .none ∧ IsTupOf2 h TI (.ref i1) (.ref i2) ∧ (∃ x y, IsTupOf2 h TO x y) ∧ IsIt b1 h i1 a1 i ∧ IsIt b2 h i2 a2 i) :=
  turn_goes (by simp) (fun i h st c hc => by
    obtain ⟨hz, hTI, ⟨x, y, hTO⟩, h1, h2⟩ := st
    have e' : c = z ∨ c = TI ∨ c = TO ∨ c = i1 ∨ c = i2 := by simpa using hc
    rcases e' with q | q | q | q | q
    · rw [q]; exact ⟨_, hz, fun v q => nomatch q⟩
    · rw [q]; exact ⟨_, hTI, fun v q => nomatch q⟩
    · rw [q]; exact ⟨_, hTO, fun v q => nomatch q⟩
    · rw [q]; exact h1.obj
    · rw [q]; exact h2.obj) (fun i h h' st k => by
    obtain ⟨hz, hTI, ⟨x, y, hTO⟩, h1, h2⟩ := st
    exact ⟨k z (by simp) _ hz, k TI (by simp) _ hTI, ⟨x, y, k TO (by simp) _ hTO⟩, h1.at fun o q => k i1 (by simp) o q, h2.at fun o q => k i2 (by simp) o q⟩) (fun A i s Q E st h => wpAny_pyIter_zip st.1 h) (fun X hP hw hK hh i pins s σ H I st hg => by
    subst hP hw hK
    obtain ⟨xs, ys, hqx, hqy, hsi⟩ : ∃ xs ys, SqB X.K b1 H a1 xs ∧ SqB X.K b2 H a2 ys ∧ (i < min xs.length ys.length ∨ min xs.length ys.length = i) := by
      rcases hg with ⟨xs, ys, h1, h2, h3⟩ | ⟨xs, ys, h1, h2, h3⟩
      · exact ⟨xs, ys, h1, h2, .inl h3⟩
      · exact ⟨xs, ys, h1, h2, .inr h3⟩
    obtain ⟨its, rv, p, _⟩ := sqAt I hqx
    obtain ⟨its2, rv2, p2, _⟩ := sqAt I hqy
    have hl : xs.length = its.length := rv.length
    have hl2 : ys.length = its2.length := rv2.length
    obtain ⟨hz, hTI, hTO, h1, h2⟩ := st
    refine ⟨_, _, _, _, _, GoesN.zip2 D (drawsB (A := X.A.in1) b1 hh i1 a1 n1 its.toArray) (drawsB (A := X.A.in1) b2 hh i2 a2 n2 its2.toArray), fun c hc => ?_, ⟨hz, hTI, hTO, ⟨h1, p⟩, h2, p2⟩, fun hs => ?_, fun hs => ?_, fun v h' hgo y st' => ?_⟩
    · have e' : c = z ∨ c = TO ∨ c = i1 ∨ c = i2 := by simpa using hc
      rcases e' with q | q | q | q <;> simp [q]
    · obtain ⟨xs', ys', q1, q2, q3⟩ := hs
      rw [sqInj I q1 hqx, sqInj I q2 hqy] at q3
      rw [List.size_toArray, List.size_toArray, ← hl, ← hl2]
      exact q3.symm
    · obtain ⟨xs', ys', q1, q2, q3⟩ := hs
      rw [sqInj I q1 hqx, sqInj I q2 hqy] at q3
      rw [List.size_toArray, List.size_toArray, ← hl, ← hl2]
      exact q3
    · obtain ⟨T, u1, u2, rfl, hT, hu1, hu2, tp⟩ := y
      obtain ⟨s1, s2, s3, ⟨s4, _⟩, s5, _⟩ := st'
      have hlt : i < min xs.length ys.length := by
        obtain ⟨xs', ys', q1, q2, q3⟩ := hgo
        rw [sqInj I q1 hqx, sqInj I q2 hqy] at q3
        exact q3
      have hx : i < xs.length := by omega
      have hy : i < ys.length := by omega
      refine ⟨⟨s1, s2, s3, s4, s5⟩, T, [xs[i], ys[i]], [u1, u2], rfl, hT, tp, .cons (valAt rv hx hu1) (.cons (valAt rv2 hy hu2) .nil), by show 2 ≤ sizeLine; decide, fun hn => ⟨T, xs[i], ys[i], rfl, hn, rfl, fun zs hz => ?_, fun zs hz => ?_⟩⟩
      · rw [sqInj I hz hqx]
        exact List.getElem?_eq_getElem hx
      · rw [sqInj I hz hqy]
        exact List.getElem?_eq_getElem hy)
def ItZ3 (K : PySem.W.Frag) (b1 b2 b3 : Bool) (a1 a2 a3 : Addr) : It :=
  ⟨fun i H => ∃ xs ys zs, SqB K b1 H a1 xs ∧ SqB K b2 H a2 ys ∧ SqB K b3 H a3 zs ∧ i < min (min xs.length ys.length) zs.length,
    fun i H v H' => ∃ T x y z, v = .ref T ∧ H T = none ∧ H' = upd H T (.tup [x, y, z]) ∧ (∀ xs, SqB K b1 H a1 xs → xs[i]? = some x) ∧ (∀ ys, SqB K b2 H a2 ys → ys[i]? = some y) ∧ ∀ zs, SqB K b3 H a3 zs → zs[i]? = some z,
    fun i H => ∃ xs ys zs : List V, SqB K b1 H a1 xs ∧ SqB K b2 H a2 ys ∧ SqB K b3 H a3 zs ∧ min (min xs.length ys.length) zs.length = i⟩
theorem turn_zip3B {P : Program} {w : World} {K : PySem.W.Frag} {elts : List Expr} {kk : Nat} {tpos : Pos} (b1 b2 b3 : Bool) (a1 a2 a3 z TI TO i1 i2 i3 : Addr) (D : ZipSep3 z TI TO i1 i2 i3 [i1, a1] [i2, a2] [i3, a3]) (n1 : a1 ≠ i1) (n2 : a2 ≠ i2) (n3 : a3 ≠ i3) :
    Turn P w K (.Tuple elts kk tpos) (ItZ3 K b1 b2 b3 a1 a2 a3) [z, TI, TO, i1, i2, i3] z (fun i h => IsZip h z TI TO .none ∧ IsTupOf3 h TI (.ref i1) (.ref i2) (.ref i3) ∧ (∃ x y z, IsTupOf3 h TO x y z) ∧ IsIt b1 h i1 a1 i ∧ IsIt b2 h i2 a2 i ∧ IsIt b3 h i3 a3 i) :=
  turn_goes (by simp) (fun i h st c hc => by
    obtain ⟨hz, hTI, ⟨x, y, v, hTO⟩, h1, h2, h3⟩ := st
    have e' : c = z ∨ c = TI ∨ c = TO ∨ c = i1 ∨ c = i2 ∨ c = i3 := by simpa using hc
    rcases e' with q | q | q | q | q | q
    · rw [q]; exact ⟨_, hz, fun v q => nomatch q⟩
    · rw [q]; exact ⟨_, hTI, fun v q => nomatch q⟩
    · rw [q]; exact ⟨_, hTO, fun v q => nomatch q⟩
    · rw [q]; exact h1.obj
    · rw [q]; exact h2.obj
    · rw [q]; exact h3.obj) (fun i h h' st k => by
    obtain ⟨hz, hTI, ⟨x, y, v, hTO⟩, h1, h2, h3⟩ := st
    exact ⟨k z (by simp) _ hz, k TI (by simp) _ hTI, ⟨x, y, v, k TO (by simp) _ hTO⟩, h1.at fun o q => k i1 (by simp) o q, h2.at fun o q => k i2 (by simp) o q, h3.at fun o q => k i3 (by simp) o q⟩) (fun A i s Q E st h => wpAny_pyIter_zip st.1 h) (fun X hP hw hK hh i pins s σ H I st hg => by
    subst hP hw hK
    obtain ⟨xs, ys, zs, hqx, hqy, hqz, hsi⟩ : ∃ xs ys zs, SqB X.K b1 H a1 xs ∧ SqB X.K b2 H a2 ys ∧ SqB X.K b3 H a3 zs ∧ True := by
      rcases hg with ⟨xs, ys, zs, h1, h2, h3, h4⟩ | ⟨xs, ys, zs, h1, h2, h3, h4⟩
      · exact ⟨xs, ys, zs, h1, h2, h3, trivial⟩
      · exact ⟨xs, ys, zs, h1, h2, h3, trivial⟩
    obtain ⟨its, rv, p, _⟩ := sqAt I hqx
    obtain ⟨its2, rv2, p2, _⟩ := sqAt I hqy
    obtain ⟨its3, rv3, p3, _⟩ := sqAt I hqz
    have hl : xs.length = its.length := rv.length
    have hl2 : ys.length = its2.length := rv2.length
    have hl3 : zs.length = its3.length := rv3.length
    obtain ⟨hz, hTI, hTO, h1, h2, h3⟩ := st
    refine ⟨_, _, _, _, _, GoesN.zip3 D (drawsB (A := X.A.in1) b1 hh i1 a1 n1 its.toArray) (drawsB (A := X.A.in1) b2 hh i2 a2 n2 its2.toArray) (drawsB (A := X.A.in1) b3 hh i3 a3 n3 its3.toArray), fun c hc => ?_, ⟨hz, hTI, hTO, ⟨h1, p⟩, ⟨h2, p2⟩, h3, p3⟩, fun hs => ?_, fun hs => ?_, fun v h' hgo y st' => ?_⟩
    · have e' : c = z ∨ c = TO ∨ c = i1 ∨ c = i2 ∨ c = i3 := by simpa using hc
      rcases e' with q | q | q | q | q <;> simp [q]
    · obtain ⟨xs', ys', zs', q1, q2, q3, q4⟩ := hs
      rw [sqInj I q1 hqx, sqInj I q2 hqy, sqInj I q3 hqz] at q4
      rw [List.size_toArray, List.size_toArray, List.size_toArray, ← hl, ← hl2, ← hl3]
      exact q4.symm
    · obtain ⟨xs', ys', zs', q1, q2, q3, q4⟩ := hs
      rw [sqInj I q1 hqx, sqInj I q2 hqy, sqInj I q3 hqz] at q4
      rw [List.size_toArray, List.size_toArray, List.size_toArray, ← hl, ← hl2, ← hl3]
      exact q4
    · obtain ⟨T, u1, u2, u3, rfl, hT, hu1, hu2, hu3, tp⟩ := y
      obtain ⟨s1, s2, s3, ⟨s4, _⟩, ⟨s5, _⟩, s6, _⟩ := st'
      have hlt : i < min (min xs.length ys.length) zs.length := by
        obtain ⟨xs', ys', zs', q1, q2, q3, q4⟩ := hgo
        rw [sqInj I q1 hqx, sqInj I q2 hqy, sqInj I q3 hqz] at q4
        exact q4
      have hx : i < xs.length := by omega
      have hy : i < ys.length := by omega
      have hw : i < zs.length := by omega
      refine ⟨⟨s1, s2, s3, s4, s5, s6⟩, T, [xs[i], ys[i], zs[i]], [u1, u2, u3], rfl, hT, tp, .cons (valAt rv hx hu1) (.cons (valAt rv2 hy hu2) (.cons (valAt rv3 hw hu3) .nil)), by show 3 ≤ sizeLine; decide, fun hn => ⟨T, xs[i], ys[i], zs[i], rfl, hn, rfl, fun zs hz => ?_, fun zs hz => ?_, fun zs hz => ?_⟩⟩
      · rw [sqInj I hz hqx]
        exact List.getElem?_eq_getElem hx
      · rw [sqInj I hz hqy]
        exact List.getElem?_eq_getElem hy
      · rw [sqInj I hz hqz]
        exact List.getElem?_eq_getElem hw)
def iZip2B (K : PySem.W.Frag) (ta : TA) : TI := fun σ H R => ta σ H fun vs H2 => ∃ a b a2 b2 xs ys, vs = [.ref a, .ref a2] ∧ SqB K b H2 a xs ∧ SqB K b2 H2 a2 ys ∧ R (ItZ2 K b b2 a a2) H2
def iZip3B (K : PySem.W.Frag) (ta : TA) : TI := fun σ H R => ta σ H fun vs H3 => ∃ a b a2 b2 a3 b3 xs ys zs, vs = [.ref a, .ref a2, .ref a3] ∧ SqB K b H3 a xs ∧ SqB K b2 H3 a2 ys ∧ SqB K b3 H3 a3 zs ∧ R (ItZ3 K b b2 b3 a a2 a3) H3
theorem two_of {a a2 : Addr} {us : List Value} (r : Vals [.ref a, .ref a2] us) : us = [.ref a, .ref a2] := by
  cases r with
  | cons r rr =>
    cases rr with
    | cons r' rr =>
      cases rr
      cases r
      cases r'
      rfl
theorem three_of {a a2 a3 : Addr} {us : List Value} (r : Vals [.ref a, .ref a2, .ref a3] us) : us = [.ref a, .ref a2, .ref a3] := by
  cases r with
  | cons r rr =>
    cases rr with
    | cons r' rr =>
      cases rr with
      | cons r'' rr =>
        cases rr
        cases r
        cases r'
        cases r''
        rfl
theorem pi_zip2B {X : Cx} {e f : Expr} {ta : TA} {p pos tpos : Pos} {elts : List Expr} {kk : Nat} (hg : Gl X "zip") (hm : X.mg "zip" = none) (ha : PA X [e, f] ta)
    (hs : starEach [e, f] X.env = (false, eval e X.env) :: starEach [f] X.env := by rfl) (hpl : (backTo pos (starEach [f] X.env)).any (·.1) = false := by rfl) :
    PI X (.Tuple elts kk tpos) (.Call (.Name "zip" p) [e, f] [] pos) (iZip2B X.K ta) := by
  refine ⟨fun pins s σ H R I h => ?_⟩
  refine Call_ (ld_blt I hg hm PyProof.Rows.boot_zip (PyProof.Rows.callWith_type1 (thn (ha.run pos pins s σ H _ I h) fun us s1 ⟨vs, H1, I1, r1, q1⟩ => ?_) hs hpl))
  obtain ⟨a, b, a2, b2, xs, ys, rfl, hqx, hqy, q⟩ := q1
  rw [two_of r1]
  obtain ⟨its, rv, p1, la⟩ := sqAt I1 hqx
  obtain ⟨its2, rv2, p2, lb⟩ := sqAt I1 hqy
  refine zip_begins2 (begB b a its.toArray) (begB b2 a2 its2.toArray) p1 p2 fun h' hz hTI hTO h1 h2 hsz hk => wpAny_pyIter_zip hz ?_
  have I2 : Inv X pins σ H1 { s1 with heap := h' } := I1.kept (t' := s1.toks) hk
  refine ⟨s1.heap.objs.size + 4, [s1.heap.objs.size + 4, s1.heap.objs.size + 2, s1.heap.objs.size + 3, s1.heap.objs.size, s1.heap.objs.size + 1], _, _, H1, rfl, I2, turn_zip2B b b2 a a2 _ _ _ _ _ (zip_sep2 (fun c hc => by rw [List.mem_singleton.mp hc]; exact la) fun c hc => by rw [List.mem_singleton.mp hc]; exact lb) (Nat.ne_of_lt la) (Nat.ne_of_lt (Nat.lt_succ_of_lt lb)), ⟨hz, hTI, ⟨_, _, hTO⟩, .new h1, .new h2⟩, fun c hcm => ?_, q⟩
  have e' : c = s1.heap.objs.size + 4 ∨ c = s1.heap.objs.size + 2 ∨ c = s1.heap.objs.size + 3 ∨ c = s1.heap.objs.size ∨ c = s1.heap.objs.size + 1 := by simpa using hcm
  have hle : s1.heap.objs.size ≤ c := by
    rcases e' with z | z | z | z | z
    · rw [z]; exact Nat.le_add_right _ _
    · rw [z]; exact Nat.le_add_right _ _
    · rw [z]; exact Nat.le_add_right _ _
    · rw [z]; exact Nat.le_refl _
    · rw [z]; exact Nat.le_add_right _ _
  exact I1.fpOk hle (I1.hok.fresh hle)
theorem pi_zip3B {X : Cx} {e f g : Expr} {ta : TA} {p pos tpos : Pos} {elts : List Expr} {kk : Nat} (hg : Gl X "zip") (hm : X.mg "zip" = none) (ha : PA X [e, f, g] ta)
    (hs : starEach [e, f, g] X.env = (false, eval e X.env) :: starEach [f, g] X.env := by rfl) (hpl : (backTo pos (starEach [f, g] X.env)).any (·.1) = false := by rfl) :
    PI X (.Tuple elts kk tpos) (.Call (.Name "zip" p) [e, f, g] [] pos) (iZip3B X.K ta) := by
  refine ⟨fun pins s σ H R I h => ?_⟩
  refine Call_ (ld_blt I hg hm PyProof.Rows.boot_zip (PyProof.Rows.callWith_type1 (thn (ha.run pos pins s σ H _ I h) fun us s1 ⟨vs, H1, I1, r1, q1⟩ => ?_) hs hpl))
  obtain ⟨a, b, a2, b2, a3, b3, xs, ys, zs, rfl, hqx, hqy, hqz, q⟩ := q1
  rw [three_of r1]
  obtain ⟨its, rv, p1, la⟩ := sqAt I1 hqx
  obtain ⟨its2, rv2, p2, lb⟩ := sqAt I1 hqy
  obtain ⟨its3, rv3, p3, lc⟩ := sqAt I1 hqz
  refine zip_begins3 (begB b a its.toArray) (begB b2 a2 its2.toArray) (begB b3 a3 its3.toArray) p1 p2 p3 fun h' hz hTI hTO h1 h2 h3 hsz hk => wpAny_pyIter_zip hz ?_
  have I2 : Inv X pins σ H1 { s1 with heap := h' } := I1.kept (t' := s1.toks) hk
  refine ⟨s1.heap.objs.size + 5, [s1.heap.objs.size + 5, s1.heap.objs.size + 3, s1.heap.objs.size + 4, s1.heap.objs.size, s1.heap.objs.size + 1, s1.heap.objs.size + 2], _, _, H1, rfl, I2, turn_zip3B b b2 b3 a a2 a3 _ _ _ _ _ _ (zip_sep3 (fun c hc => by rw [List.mem_singleton.mp hc]; exact la) (fun c hc => by rw [List.mem_singleton.mp hc]; exact lb) fun c hc => by rw [List.mem_singleton.mp hc]; exact lc) (Nat.ne_of_lt la) (Nat.ne_of_lt (Nat.lt_succ_of_lt lb)) (Nat.ne_of_lt (Nat.lt_succ_of_lt (Nat.lt_succ_of_lt lc))), ⟨hz, hTI, ⟨_, _, _, hTO⟩, .new h1, .new h2, .new h3⟩, fun c hcm => ?_, q⟩
  have e' : c = s1.heap.objs.size + 5 ∨ c = s1.heap.objs.size + 3 ∨ c = s1.heap.objs.size + 4 ∨ c = s1.heap.objs.size ∨ c = s1.heap.objs.size + 1 ∨ c = s1.heap.objs.size + 2 := by simpa using hcm
  have hle : s1.heap.objs.size ≤ c := by
    rcases e' with z | z | z | z | z | z
    · rw [z]; exact Nat.le_add_right _ _
    · rw [z]; exact Nat.le_add_right _ _
    · rw [z]; exact Nat.le_add_right _ _
    · rw [z]; exact Nat.le_refl _
    · rw [z]; exact Nat.le_add_right _ _
    · rw [z]; exact Nat.le_add_right _ _
  exact I1.fpOk hle (I1.hok.fresh hle)

/-! ### sources -/
/-- a list or a tuple that will be walked -/
def IOk (K : PySem.W.Frag) (H0 : Hp) (bg : BG) (Hs : Hp) (fr : Bool) (G H : Hp) (v : V) (ds : List PyData) : Prop :=
  KOk K Hs G H v (.list ds) ∨ Dr K G v (.tuple ds) ∨ (fr = false ∧ ∃ l vs, v = .ref l ∧ H l = some (.lst vs) ∧ ¬ inB bg l ∧ DrAll K G vs ds)
section
variable {K : PySem.W.Frag} {H0 : Hp} {bg : BG} {Gs Hs G H : Hp} {β : Bag} {v : V} {r : Rv} {fr : Bool} {ds : List PyData}
theorem VOk.iok (h : VOk K H0 bg Hs G H v r) (q : r.iter? fr = some ds) : IOk K H0 bg Hs fr G H v ds := by
  cases r with
  | fz d =>
    cases d <;> simp only [Rv.iter?, Option.some.injEq] at q <;> try cases q
    · exact .inl (.inl h)
    · exact .inr (.inl h)
  | tm es =>
    simp only [Rv.iter?, Option.some.injEq] at q
    subst q
    exact .inl (VOk.keep (d := .list es) h rfl)
  | bo es =>
    cases fr with
    | true => simp [Rv.iter?] at q
    | false =>
      simp only [Rv.iter?, Bool.false_eq_true, if_false, Option.some.injEq] at q
      subst q
      obtain ⟨l, vs, rfl, h2, h3, h4, h5, h6⟩ := h
      exact .inr (.inr ⟨rfl, l, vs, rfl, h3, h5, h6⟩)
  | td _ => simp [Rv.iter?] at q
  | bd _ => simp [Rv.iter?] at q
  | bg => simp [Rv.iter?] at q
theorem IOk.mono {G' : Hp} (e : Ex G G') (h : IOk K H0 bg Hs fr G H v ds) : IOk K H0 bg Hs fr G' H v ds := by
  rcases h with h | h | ⟨h, l, vs, h1, h2, h3, h4⟩
  · exact .inl (KOk.mono e h)
  · exact .inr (.inl (dp_mono e h))
  · exact .inr (.inr ⟨h, l, vs, h1, h2, h3, dpAll_mono e h4⟩)
/-- Src tells that ds stand at a -/
structure SrcOk (K : PySem.W.Frag) (fr : Bool) (bg : BG) (H : Hp) (b : Bool) (a : Addr) (ds : List PyData) (Src : Hp → Hp → Prop) : Prop where
  keep : ∀ G H' G1 H1, Src G H' → Ex G G1 → Ex G1 H1 → (fr = false → ∀ b o, H b = some o → ¬ inB bg b → H1 b = some o) → Src G1 H1
  at' : ∀ G H, Src G H → Ex G H → ∃ vs, DrAll K G vs ds ∧ SqB K b H a vs
theorem IOk.src (c : Ct H0 bg Gs Hs G H β) (h : IOk K H0 bg Hs fr G H v ds) : ∃ a b G', v = .ref a ∧ Ct H0 bg Gs Hs G' H β ∧ Ex G G' ∧ ∃ Src : Hp → Hp → Prop, Src G' H ∧ SrcOk K fr bg H b a ds Src := by
  rcases h with h | h | ⟨hfr, l, vs, rfl, h2, h3, h4⟩
  · obtain ⟨G2, c2, e2, h2⟩ := c.freeze h
    cases h2 with
    | @lst l xs _ hh aa =>
      refine ⟨l, true, G2, rfl, c2, e2, fun G H => ∃ vs, DrAll K G vs ds ∧ G l = some (.lst vs), ⟨xs, aa, hh⟩, fun G H' G1 H1 s e _ _ => ?_, fun G H s e => ?_⟩
      · obtain ⟨vs, s1, s2⟩ := s
        exact ⟨vs, dpAll_mono e s1, e _ _ s2⟩
      · obtain ⟨vs, s1, s2⟩ := s
        exact ⟨vs, s1, SqL.of (e _ _ s2)⟩
  · cases h with
    | @tup l xs _ hh aa =>
      refine ⟨l, false, G, rfl, c, Ex.refl _, fun G H => ∃ vs, DrAll K G vs ds ∧ SqT K G l vs, ⟨xs, aa, hh⟩, fun G H' G1 H1 s e _ _ => ?_, fun G H s e => ?_⟩
      · obtain ⟨vs, s1, s2⟩ := s
        exact ⟨vs, dpAll_mono e s1, ex_t e s2⟩
      · obtain ⟨vs, s1, s2⟩ := s
        exact ⟨vs, s1, ex_t e s2⟩
  · exact ⟨l, true, G, rfl, c, Ex.refl _, fun G H' => DrAll K G vs ds ∧ H' l = some (.lst vs), ⟨h4, h2⟩, fun G H' G1 H1 s e _ k => ⟨dpAll_mono e s.1, k hfr l _ h2 h3⟩, fun G H s e => ⟨vs, s.1, SqL.of s.2⟩⟩
end
/-- a new pair stands in both views -/
theorem pair_new {K : PySem.W.Frag} {G H : Hp} {T : Addr} {xs : List V} {ds : List PyData} (e : Ex G H) (hn : H T = none) (h : DrAll K G xs ds) :
    Ex H (upd H T (.tup xs)) ∧ Ex (upd G T (.tup xs)) (upd H T (.tup xs)) ∧ (∀ a, H a ≠ none → upd G T (.tup xs) a = G a) ∧ Dr K (upd G T (.tup xs)) (.ref T) (.tuple ds) := by
  refine ⟨Ex.new hn, ex_upd e, fun a h => ?_, .tup (SqT.of upd_same) (dpAll_mono (Ex.new (none_ex e hn)) h)⟩
  exact upd_ne fun z => h (by rw [z]; exact hn)

/-! ### enumerate by values -/
def enumL : Nat → List PyData → List PyData
  | _, [] => []
  | k, d :: ds => .tuple [.int (k : Nat), d] :: enumL (k + 1) ds
theorem enumL_length : ∀ (k : Nat) (ds : List PyData), (enumL k ds).length = ds.length
  | _, [] => rfl
  | k, d :: ds => by
    simp only [enumL, List.length_cons, enumL_length (k + 1) ds]
theorem enumL_get : ∀ (k : Nat) (ds : List PyData) (i : Nat) (d : PyData), ds[i]? = some d → (enumL k ds)[i]? = some (.tuple [.int ((k + i : Nat)), d])
  | _, [], i, d, h => by simp at h
  | k, e :: ds, 0, d, h => by
    simp at h
    subst h
    rfl
  | k, e :: ds, i + 1, d, h => by
    have := enumL_get (k + 1) ds i d (by simpa using h)
    have e : k + 1 + i = k + (i + 1) := by omega
    rw [e] at this
    simpa [enumL] using this
def iEnm (fr : Bool) (f : E) : EI := fun ρ β => (f ρ β).bind fun r β => R.of ((r.iter? fr).map (enumL 0)) β
theorem readEnm {K : PySem.W.Frag} {ec : EC} {W : WX} {fr : Bool} {f : E} {σ : L2.St} {H : Hp} {Z : It → Hp → Prop} (h : rIt K ec W fr (iEnm fr f) σ H Z) : iEnumB K (rE K ec W f) σ H Z := by
  obtain ⟨H0, G0, bg, G, ρ, β, a, h⟩ := h
  refine rE_go a ?_
  simp only [iEnm] at h
  cases hf : f ρ β with
  | no => rw [hf] at h; exact h
  | er e b => rw [hf] at h; exact h
  | ok r β1 =>
    rw [hf] at h
    intro v G1 H1 s1 v1
    simp only [R.bind] at h
    cases hq : r.iter? fr with
    | none => rw [hq] at h; exact h.elim
    | some ds =>
      rw [hq] at h
      obtain ⟨l, b, G2, rfl, c2, e2, Src, src, ok⟩ := IOk.src (Gs := G) ⟨s1, a.gh⟩ (v1.iok hq)
      obtain ⟨vs, q1, q2⟩ := ok.at' _ _ src c2.gh
      refine ⟨l, b, vs, rfl, q2, h (ItE K b l) Src G2 H1 c2.st ⟨ok.keep, fun G H i s e hi => ?_, fun G H s e => ?_, fun G H i x H' s e hi y => ?_⟩ src⟩
      · obtain ⟨ws, w1, w2⟩ := ok.at' G H s e
        rw [enumL_length] at hi
        exact ⟨ws, w2, by rw [DrAll.length w1]; exact hi⟩
      · obtain ⟨ws, w1, w2⟩ := ok.at' G H s e
        exact ⟨ws, w2, by rw [DrAll.length w1, enumL_length]⟩
      · obtain ⟨ws, w1, w2⟩ := ok.at' G H s e
        obtain ⟨T, u, rfl, hn, rfl, y⟩ := y
        rw [enumL_length] at hi
        obtain ⟨u', g1, g2⟩ := DrAll.get w1 (List.getElem?_eq_getElem hi)
        rw [y ws w2] at g1
        cases g1
        obtain ⟨p1, p2, p3, p4⟩ := pair_new (xs := [.int ((i : Nat) : Int), u]) (ds := [.int ((i : Nat) : Int), ds[i]]) e hn (.cons (.int _) (.cons g2 .nil))
        have eg := enumL_get 0 ds i _ (List.getElem?_eq_getElem hi)
        rw [Nat.zero_add] at eg
        exact ⟨_, _, eg, p1, p2, p3, p4⟩
theorem si_enum {X : Cx} {ec : EC} {W : WX} {fr : Bool} {e : Expr} {f : E} {p pos tpos : Pos} {elts : List Expr} {kk : Nat} (hg : Gl X "enumerate") (hm : X.mg "enumerate" = none) (he : SE X ec W e f) (hs : starEach [e] X.env = (false, eval e X.env) :: starEach [] X.env := by rfl) :
    SI X ec W fr (.Tuple elts kk tpos) (.Call (.Name "enumerate" p) [e] [] pos) (iEnm fr f) := PI.imp (pi_enumB hg hm he hs) fun σ H Q h => readEnm h

/-! ### zip by values -/
def zipL : List PyData → List PyData → List PyData
  | a :: as, b :: bs => .tuple [a, b] :: zipL as bs
  | _, _ => []
theorem zipL_length : ∀ (as bs : List PyData), (zipL as bs).length = min as.length bs.length
  | [], _ => by simp [zipL]
  | a :: as, [] => by simp [zipL]
  | a :: as, b :: bs => by
    simp only [zipL, List.length_cons, zipL_length as bs]
    omega
theorem zipL_get : ∀ (as bs : List PyData) (i : Nat) (a b : PyData), as[i]? = some a → bs[i]? = some b → (zipL as bs)[i]? = some (.tuple [a, b])
  | [], _, _, _, _, h, _ => by simp at h
  | _ :: _, [], _, _, _, _, h => by simp at h
  | x :: as, y :: bs, 0, a, b, h, h2 => by
    simp at h h2
    subst h h2
    rfl
  | x :: as, y :: bs, i + 1, a, b, h, h2 => by
    have := zipL_get as bs i a b (by simpa using h) (by simpa using h2)
    simpa [zipL] using this
def zip3L : List PyData → List PyData → List PyData → List PyData
  | a :: as, b :: bs, c :: cs => .tuple [a, b, c] :: zip3L as bs cs
  | _, _, _ => []
theorem zip3L_length : ∀ (as bs cs : List PyData), (zip3L as bs cs).length = min (min as.length bs.length) cs.length
  | [], _, _ => by simp [zip3L]
  | a :: as, [], _ => by simp [zip3L]
  | a :: as, b :: bs, [] => by simp [zip3L]
  | a :: as, b :: bs, c :: cs => by
    simp only [zip3L, List.length_cons, zip3L_length as bs cs]
    omega
theorem zip3L_get : ∀ (as bs cs : List PyData) (i : Nat) (a b c : PyData), as[i]? = some a → bs[i]? = some b → cs[i]? = some c → (zip3L as bs cs)[i]? = some (.tuple [a, b, c])
  | [], _, _, _, _, _, _, h, _, _ => by simp at h
  | _ :: _, [], _, _, _, _, _, _, h, _ => by simp at h
  | _ :: _, _ :: _, [], _, _, _, _, _, _, h => by simp at h
  | x :: as, y :: bs, z :: cs, 0, a, b, c, h, h2, h3 => by
    simp at h h2 h3
    subst h h2 h3
    rfl
  | x :: as, y :: bs, z :: cs, i + 1, a, b, c, h, h2, h3 => by
    have := zip3L_get as bs cs i a b c (by simpa using h) (by simpa using h2) (by simpa using h3)
    simpa [zip3L] using this
def iZp2 (fr : Bool) (f g : E) : EI := fun ρ β => (f ρ β).bind fun r β => (g ρ β).bind fun r2 β => match r.iter? fr, r2.iter? fr with
  | some as, some bs => .ok (zipL as bs) β
  | _, _ => .no
def iZp3 (fr : Bool) (f g h : E) : EI := fun ρ β => (f ρ β).bind fun r β => (g ρ β).bind fun r2 β => (h ρ β).bind fun r3 β => match r.iter? fr, r2.iter? fr, r3.iter? fr with
  | some as, some bs, some cs => .ok (zip3L as bs cs) β
  | _, _, _ => .no
theorem readZp2 {K : PySem.W.Frag} {ec : EC} {W : WX} {fr : Bool} {f g : E} {σ : L2.St} {H : Hp} {Z : It → Hp → Prop} (h : rIt K ec W fr (iZp2 fr f g) σ H Z) : iZip2B K (tCons (rE K ec W f) (tCons (rE K ec W g) tNil)) σ H Z := by
  obtain ⟨H0, G0, bg, G, ρ, β, a, h⟩ := h
  refine rE_go a ?_
  simp only [iZp2] at h
  cases hf : f ρ β with
  | no => rw [hf] at h; exact h
  | er e b => rw [hf] at h; exact h
  | ok r β1 =>
    rw [hf] at h
    intro v G1 H1 s1 v1
    refine rE_go (a.step s1) ?_
    simp only [R.bind] at h
    cases hg : g ρ β1 with
    | no => rw [hg] at h; exact h
    | er e b =>
      rw [hg] at h
      exact fun cl dd G' H' s2 he => h cl dd G' H' (s1.trans s2) he
    | ok r2 β2 =>
      rw [hg] at h
      intro w G2 H2 s2 w2
      simp only at h
      cases hq : r.iter? fr with
      | none => rw [hq] at h; exact h.elim
      | some ds =>
        cases hq2 : r2.iter? fr with
        | none => rw [hq, hq2] at h; exact h.elim
        | some es =>
          rw [hq, hq2] at h
          have c : Ct H0 bg G H G2 H2 β2 := ⟨s1.trans s2, a.gh⟩
          have i1 := (v1.step s2 s1.gh).iok hq
          have i2 := (w2.back s1.dm).iok hq2
          obtain ⟨l, b, G3, rfl, c3, e3, Src, src, ok⟩ := i1.src c
          obtain ⟨l2, b2, G4, rfl, c4, e4, Src2, src2, ok2⟩ := (i2.mono e3).src c3
          have src' := ok.keep _ _ _ _ src e4 c4.gh (fun _ _ _ h _ => h)
          obtain ⟨vs, q1, q2⟩ := ok.at' _ _ src' c4.gh
          obtain ⟨ws, z1, z2⟩ := ok2.at' _ _ src2 c4.gh
          refine ⟨l, b, l2, b2, vs, ws, rfl, q2, z2, h (ItZ2 K b b2 l l2) (fun G H => Src G H ∧ Src2 G H) G4 H2 c4.st ⟨fun G H G' H' s e e' k => ⟨ok.keep _ _ _ _ s.1 e e' k, ok2.keep _ _ _ _ s.2 e e' k⟩, fun G H i s e hi => ?_, fun G H s e => ?_, fun G H i x H' s e hi y => ?_⟩ ⟨src', src2⟩⟩
          · obtain ⟨xs, x1, x2⟩ := ok.at' G H s.1 e
            obtain ⟨ys, y1, y2⟩ := ok2.at' G H s.2 e
            rw [zipL_length] at hi
            exact ⟨xs, ys, x2, y2, by rw [DrAll.length x1, DrAll.length y1]; exact hi⟩
          · obtain ⟨xs, x1, x2⟩ := ok.at' G H s.1 e
            obtain ⟨ys, y1, y2⟩ := ok2.at' G H s.2 e
            exact ⟨xs, ys, x2, y2, by rw [DrAll.length x1, DrAll.length y1, zipL_length]⟩
          · obtain ⟨xs, x1, x2⟩ := ok.at' G H s.1 e
            obtain ⟨ys, y1, y2⟩ := ok2.at' G H s.2 e
            obtain ⟨T, u, u2, rfl, hn, rfl, yx, yy⟩ := y
            rw [zipL_length] at hi
            have hi1 : i < ds.length := by omega
            have hi2 : i < es.length := by omega
            obtain ⟨_, g1, g2⟩ := DrAll.get x1 (List.getElem?_eq_getElem hi1)
            rw [yx xs x2] at g1
            cases g1
            obtain ⟨_, k1, k2⟩ := DrAll.get y1 (List.getElem?_eq_getElem hi2)
            rw [yy ys y2] at k1
            cases k1
            obtain ⟨p1, p2, p3, p4⟩ := pair_new (xs := [u, u2]) (ds := [ds[i], es[i]]) e hn (.cons g2 (.cons k2 .nil))
            exact ⟨_, _, zipL_get ds es i _ _ (List.getElem?_eq_getElem hi1) (List.getElem?_eq_getElem hi2), p1, p2, p3, p4⟩
theorem readZp3 {K : PySem.W.Frag} {ec : EC} {W : WX} {fr : Bool} {f g k : E} {σ : L2.St} {H : Hp} {Z : It → Hp → Prop} (h : rIt K ec W fr (iZp3 fr f g k) σ H Z) : iZip3B K (tCons (rE K ec W f) (tCons (rE K ec W g) (tCons (rE K ec W k) tNil))) σ H Z := by
  obtain ⟨H0, G0, bg, G, ρ, β, a, h⟩ := h
  refine rE_go a ?_
  simp only [iZp3] at h
  cases hf : f ρ β with
  | no => rw [hf] at h; exact h
  | er e b => rw [hf] at h; exact h
  | ok r β1 =>
    rw [hf] at h
    intro v G1 H1 s1 v1
    refine rE_go (a.step s1) ?_
    simp only [R.bind] at h
    cases hg : g ρ β1 with
    | no => rw [hg] at h; exact h
    | er e b =>
      rw [hg] at h
      exact fun cl dd G' H' s2 he => h cl dd G' H' (s1.trans s2) he
    | ok r2 β2 =>
      rw [hg] at h
      intro w G2 H2 s2 w2
      have s12 := s1.trans s2
      refine rE_go (a.step s12) ?_
      simp only at h
      cases hk : k ρ β2 with
      | no => rw [hk] at h; exact h
      | er e b =>
        rw [hk] at h
        exact fun cl dd G' H' s3 he => h cl dd G' H' (s12.trans s3) he
      | ok r3 β3 =>
        rw [hk] at h
        intro u0 G3 H3 s3 u3
        simp only at h
        cases hq : r.iter? fr with
        | none => rw [hq] at h; exact h.elim
        | some ds =>
          cases hq2 : r2.iter? fr with
          | none => rw [hq, hq2] at h; exact h.elim
          | some es =>
            cases hq3 : r3.iter? fr with
            | none => rw [hq, hq2, hq3] at h; exact h.elim
            | some fs =>
              rw [hq, hq2, hq3] at h
              have c : Ct H0 bg G H G3 H3 β3 := ⟨s12.trans s3, a.gh⟩
              have i1 := ((v1.step s2 s1.gh).step s3 s2.gh).iok hq
              have i2 := ((w2.back s1.dm).step s3 s2.gh).iok hq2
              have i3 := (u3.back s12.dm).iok hq3
              obtain ⟨l, b, G4, rfl, c4, e4, Src, src, ok⟩ := i1.src c
              obtain ⟨l2, b2, G5, rfl, c5, e5, Src2, src2, ok2⟩ := (i2.mono e4).src c4
              obtain ⟨l3, b3, G6, rfl, c6, e6, Src3, src3, ok3⟩ := (i3.mono (e4.trans e5)).src c5
              have src' := ok.keep _ _ _ _ src (e5.trans e6) c6.gh (fun _ _ _ h _ => h)
              have src2' := ok2.keep _ _ _ _ src2 e6 c6.gh (fun _ _ _ h _ => h)
              obtain ⟨vs, q1, q2⟩ := ok.at' _ _ src' c6.gh
              obtain ⟨ws, z1, z2⟩ := ok2.at' _ _ src2' c6.gh
              obtain ⟨us, o1, o2⟩ := ok3.at' _ _ src3 c6.gh
              refine ⟨l, b, l2, b2, l3, b3, vs, ws, us, rfl, q2, z2, o2, h (ItZ3 K b b2 b3 l l2 l3) (fun G H => Src G H ∧ Src2 G H ∧ Src3 G H) G6 H3 c6.st ⟨fun G H G' H' s e e' k => ⟨ok.keep _ _ _ _ s.1 e e' k, ok2.keep _ _ _ _ s.2.1 e e' k, ok3.keep _ _ _ _ s.2.2 e e' k⟩, fun G H i s e hi => ?_, fun G H s e => ?_, fun G H i x H' s e hi y => ?_⟩ ⟨src', src2', src3⟩⟩
              · obtain ⟨xs, x1, x2⟩ := ok.at' G H s.1 e
                obtain ⟨ys, y1, y2⟩ := ok2.at' G H s.2.1 e
                obtain ⟨zs, t1, t2⟩ := ok3.at' G H s.2.2 e
                rw [zip3L_length] at hi
                exact ⟨xs, ys, zs, x2, y2, t2, by rw [DrAll.length x1, DrAll.length y1, DrAll.length t1]; exact hi⟩
              · obtain ⟨xs, x1, x2⟩ := ok.at' G H s.1 e
                obtain ⟨ys, y1, y2⟩ := ok2.at' G H s.2.1 e
                obtain ⟨zs, t1, t2⟩ := ok3.at' G H s.2.2 e
                exact ⟨xs, ys, zs, x2, y2, t2, by rw [DrAll.length x1, DrAll.length y1, DrAll.length t1, zip3L_length]⟩
              · obtain ⟨xs, x1, x2⟩ := ok.at' G H s.1 e
                obtain ⟨ys, y1, y2⟩ := ok2.at' G H s.2.1 e
                obtain ⟨zs, t1, t2⟩ := ok3.at' G H s.2.2 e
                obtain ⟨T, u, u2, u3, rfl, hn, rfl, yx, yy, yz⟩ := y
                rw [zip3L_length] at hi
                have hi1 : i < ds.length := by omega
                have hi2 : i < es.length := by omega
                have hi3 : i < fs.length := by omega
                obtain ⟨_, g1, g2⟩ := DrAll.get x1 (List.getElem?_eq_getElem hi1)
                rw [yx xs x2] at g1
                cases g1
                obtain ⟨_, k1, k2⟩ := DrAll.get y1 (List.getElem?_eq_getElem hi2)
                rw [yy ys y2] at k1
                cases k1
                obtain ⟨_, m1, m2⟩ := DrAll.get t1 (List.getElem?_eq_getElem hi3)
                rw [yz zs t2] at m1
                cases m1
                obtain ⟨p1, p2, p3, p4⟩ := pair_new (xs := [u, u2, u3]) (ds := [ds[i], es[i], fs[i]]) e hn (.cons g2 (.cons k2 (.cons m2 .nil)))
                exact ⟨_, _, zip3L_get ds es fs i _ _ _ (List.getElem?_eq_getElem hi1) (List.getElem?_eq_getElem hi2) (List.getElem?_eq_getElem hi3), p1, p2, p3, p4⟩
section
variable {X : Cx} {ec : EC} {W : WX} {fr : Bool} {a b c : Expr} {f g k : E} {p pos tpos : Pos} {elts : List Expr} {kk : Nat}
theorem si_zip2 (hg : Gl X "zip") (hm : X.mg "zip" = none) (ha : SE X ec W a f) (hb : SE X ec W b g)
    (n1 : starEach [a, b] X.env = (false, eval a X.env) :: starEach [b] X.env := by rfl) (n2 : starEach [b] X.env = (false, eval b X.env) :: starEach [] X.env := by rfl) (hpl : (backTo pos (starEach [b] X.env)).any (·.1) = false := by rfl) :
    SI X ec W fr (.Tuple elts kk tpos) (.Call (.Name "zip" p) [a, b] [] pos) (iZp2 fr f g) := PI.imp (pi_zip2B hg hm (pa_cons ha (pa_cons hb pa_nil n2) n1) n1 hpl) fun σ H Q h => readZp2 h
theorem si_zip3 (hg : Gl X "zip") (hm : X.mg "zip" = none) (ha : SE X ec W a f) (hb : SE X ec W b g) (hc : SE X ec W c k)
    (n1 : starEach [a, b, c] X.env = (false, eval a X.env) :: starEach [b, c] X.env := by rfl) (n2 : starEach [b, c] X.env = (false, eval b X.env) :: starEach [c] X.env := by rfl) (n3 : starEach [c] X.env = (false, eval c X.env) :: starEach [] X.env := by rfl) (hpl : (backTo pos (starEach [b, c] X.env)).any (·.1) = false := by rfl) :
    SI X ec W fr (.Tuple elts kk tpos) (.Call (.Name "zip" p) [a, b, c] [] pos) (iZp3 fr f g k) := PI.imp (pi_zip3B hg hm (pa_cons ha (pa_cons hb (pa_cons hc pa_nil n3) n2) n1) n1 hpl) fun σ H Q h => readZp3 h
end

/-! ### reversed -/
def iRev (fr : Bool) (f : E) : EI := fun ρ β => (f ρ β).bind fun r β => R.of ((r.iter? fr).map List.reverse) β
theorem rev_get {α : Type} {xs : List α} {i : Nat} (hi : i < xs.length) : xs.reverse[i]? = xs[xs.length - 1 - i]? := List.getElem?_reverse hi
theorem readRev {K : PySem.W.Frag} {ec : EC} {W : WX} {fr : Bool} {f : E} {σ : L2.St} {H : Hp} {Z : It → Hp → Prop} (h : rIt K ec W fr (iRev fr f) σ H Z) : RT.iRevA K (rE K ec W f) σ H Z := by
  obtain ⟨H0, G0, bg, G, ρ, β, a, h⟩ := h
  refine rE_go a ?_
  simp only [iRev] at h
  cases hf : f ρ β with
  | no => rw [hf] at h; exact h
  | er e b => rw [hf] at h; exact h
  | ok r β1 =>
    rw [hf] at h
    intro v G1 H1 s1 v1
    simp only [R.bind] at h
    cases hq : r.iter? fr with
    | none => rw [hq] at h; exact h.elim
    | some ds =>
      rw [hq] at h
      obtain ⟨l, b, G2, rfl, c2, e2, Src, src, ok⟩ := IOk.src (Gs := G) ⟨s1, a.gh⟩ (v1.iok hq)
      obtain ⟨vs, q1, q2⟩ := ok.at' _ _ src c2.gh
      have hl := DrAll.length q1
      cases b with
      | true =>
        refine ⟨l, vs, rfl, .inl ⟨q2, h (Itv K l vs.length) Src G2 H1 c2.st ⟨ok.keep, fun G H i s e hi => ?_, fun G H s e => ?_, fun G H i x H' s e hi y => ?_⟩ src⟩⟩
        · obtain ⟨ws, w1, w2⟩ := ok.at' G H s e
          rw [List.length_reverse, ← hl] at hi
          have hw : ws.length = vs.length := (DrAll.length w1).trans hl.symm
          have hj : vs.length - 1 - i < ws.length := by omega
          exact ⟨hi, ws, _, w2, List.getElem?_eq_getElem hj⟩
        · show vs.length ≤ _
          rw [List.length_reverse, hl]
          exact Nat.le_refl _
        · obtain ⟨ws, w1, w2⟩ := ok.at' G H s e
          obtain ⟨rfl, y⟩ := y
          rw [List.length_reverse] at hi
          have hj : ds.length - 1 - i < ds.length := by omega
          obtain ⟨_, g1, g2⟩ := DrAll.get w1 (List.getElem?_eq_getElem hj)
          have y' := y ws w2
          rw [hl, g1] at y'
          cases y'
          exact ⟨G, _, (rev_get hi).trans (List.getElem?_eq_getElem hj), Ex.refl _, e, fun _ _ => rfl, g2⟩
      | false =>
        refine ⟨l, vs, rfl, .inr ⟨q2, h (RT.ItvT K l vs.length) Src G2 H1 c2.st ⟨ok.keep, fun G H i s e hi => ?_, fun G H s e => ?_, fun G H i x H' s e hi y => ?_⟩ src⟩⟩
        · obtain ⟨ws, w1, w2⟩ := ok.at' G H s e
          rw [List.length_reverse, ← hl] at hi
          have hw : ws.length = vs.length := (DrAll.length w1).trans hl.symm
          have hj : vs.length - 1 - i < ws.length := by omega
          exact ⟨hi, ws, _, w2, List.getElem?_eq_getElem hj⟩
        · show vs.length ≤ _
          rw [List.length_reverse, hl]
          exact Nat.le_refl _
        · obtain ⟨ws, w1, w2⟩ := ok.at' G H s e
          obtain ⟨rfl, y⟩ := y
          rw [List.length_reverse] at hi
          have hj : ds.length - 1 - i < ds.length := by omega
          obtain ⟨_, g1, g2⟩ := DrAll.get w1 (List.getElem?_eq_getElem hj)
          have y' := y ws w2
          rw [hl, g1] at y'
          cases y'
          exact ⟨G, _, (rev_get hi).trans (List.getElem?_eq_getElem hj), Ex.refl _, e, fun _ _ => rfl, g2⟩
theorem si_rev {X : Cx} {ec : EC} {W : WX} {fr : Bool} {e tg : Expr} {f : E} {p pos : Pos} (hg : Gl X "reversed") (hm : X.mg "reversed" = none) (he : SE X ec W e f) (hs : starEach [e] X.env = (false, eval e X.env) :: starEach [] X.env := by rfl) :
    SI X ec W fr tg (.Call (.Name "reversed" p) [e] [] pos) (iRev fr f) := PI.imp (RT.pi_revA hg hm he hs) fun σ H Q h => readRev h
end VL

/-! VL11: list(reversed(xs)), dict comprehensions, d.get, xs.count. -/
namespace VL
open PySem PySem.Spec PyProof.Rows L2

section
variable {prog : Program} {w : World} {A : Around} {E : Value → Shared → Prop} {s : Shared}
theorem wpAny_extend_rev {R : Result → Shared → Prop} (hh : A.handled = none) {it l S : Addr} {items : Array Value} (res : Value) (c₀ : Nat) (hit : s.heap.IsRevIter it l ((items.size : Int) - 1)) (hl : s.heap.IsList l items) (hne : l ≠ it) (hSi : S ≠ it) (hSl : S ≠ l) (hn : items.size ≤ sizeLine)
    (hS : s.heap.get? S = some { cls := .type "list", data := .seq #[] c₀ })
    (hR : ∀ h' tk acc' c', (∀ b o, b ≠ S → b ≠ it → s.heap.get? b = some o → h'.get? b = some o) → h'.get? S = some { cls := .type "list", dict := none, data := .seq acc' c', slots := #[] } →
      ItemsOf (fun i v => items[items.size - 1 - i]? = some v) acc' items.size → R (.ok (.ret res)) { s with heap := h', toks := tk }) :
    wpAny (model prog w) A.in1 (Builtin.List.listExtendWith (.ref S) (.ref it) res)
      (fun fin s' => match fin with | .done f => R (.ok f) s' | .again c' => c'.quiet = true ∧ codeAny (model prog w) A c' R s') (fun e s' => R (.error e) s') s := by
  have W := (Walks.listRev (prog := prog) (w := w) (A := A.in1) hh it l hne items).toS
  have hSf : S ∉ [it, l] := by simp only [List.mem_cons, List.not_mem_nil, or_false, not_or]; exact ⟨hSi, hSl⟩
  have hT : s.TypeIs (.ref it) "list_reverseiterator" := Heap.IsRevIter.typeIs hit
  have h1 : Builtin.List.listSameRef (.ref S) (.ref it) = false := by simp [Builtin.List.listSameRef, hSi]
  unfold Builtin.List.listExtendWith
  refine wpAny_bind (wpAny_typeOf hT ?_)
  rw [if_neg (by rw [h1]; decide)]
  refine wpAny_bind (wpAny_pyIter_revIter hit ?_)
  refine wpAny_bind (wpAny_holding ?_)
  unfold Builtin.List.listLengthHint
  refine wpAny_bind (wpAny_specialOf hT RT.nolen_lri ?_)
  show wpAny _ A.in1 (specialOf (Value.ref it) (Str.ofString "__length_hint__") >>= _) _ _ _
  refine wpAny_bind (wpAny_specialOf hT RT.hint_lri ?_)
  generalize hid : ("list_reverseiterator.__length_hint__" : String) = id0
  wp_delta
  rw [show splitId id0 = some ("list_reverseiterator", "__length_hint__") from by subst hid; decide +kernel]
  subst hid
  refine wpAny_bind (wpAny_isInstance (b := true) hT (by rw [isSubtype_type]; kernel_rfl) ?_)
  refine wpAny_pure ?_
  rw [if_neg (by decide)]
  have e0 : ((items.size : Nat) : Int) - 1 - ((0 : Nat) : Int) = (items.size : Int) - 1 := by omega
  refine wpAny_pure ⟨plainId_quiet F.plain_extend_loop _, codeAny_extend_loopS W hn _ hSf _ items.size 0 _ _ _ rfl (Nat.zero_le _) ⟨Nat.zero_le _, by rw [e0]; exact hit, hl⟩ hS (ItemsOf.nil _) fun s' acc' c' hm hS' hacc => ?_⟩
  rw [Moved.eq_with hm]
  refine hR s'.heap s'.toks acc' c' (fun b o hb hb2 e => hm.heap b o (fun hmem => ?_) e) hS' hacc
  rcases List.mem_cons.mp hmem with e' | hmem
  · exact hb e'
  · exact hb2 (List.mem_singleton.mp hmem)
theorem call_list_rev {it l : Addr} {items : Array Value} {Q : Value → Shared → Prop} (hh : A.handled = none) (hit : s.heap.IsRevIter it l ((items.size : Int) - 1)) (hl : s.heap.IsList l items) (hne : l ≠ it) (hn : items.size ≤ sizeLine)
    (hQ : ∀ h' tk acc' c', (∀ b o, b ≠ it → s.heap.get? b = some o → h'.get? b = some o) →
      h'.get? s.heap.objs.size = some { cls := .type "list", dict := none, data := .seq acc' c', slots := #[] } → ItemsOf (fun i v => items[items.size - 1 - i]? = some v) acc' items.size → Q (.ref s.heap.objs.size) { s with heap := h', toks := tk }) :
    wpAny (model prog w) A (call (.type "list") [.ref it]) Q E s := by
  refine callType_codes (Q₁ := fun obj s₁ => obj = .ref s.heap.objs.size ∧ s₁ = { s with heap := s.heap.push { cls := .type "list", data := .seq #[] } }) F.called_list (F.typeCall_list_1 _) F.entry_list_init
    (code_list_new _ ⟨rfl, rfl⟩) fun obj s₁ h₁ => ?_
  obtain ⟨rfl, rfl⟩ := h₁
  have hS : (s.heap.push { cls := .type "list", data := .seq #[] }).get? s.heap.objs.size = some { cls := .type "list", data := .seq #[] } := Heap.get?_push_size _ rfl
  refine ⟨⟨_, hS, rfl⟩, F.args_list_init_2 _ _, ?_⟩
  obtain ⟨oi, hoi, _⟩ := id hit
  obtain ⟨ol, hol, _⟩ := id hl
  have hSi : s.heap.objs.size ≠ it := Nat.ne_of_gt (Heap.lt_size hoi)
  have hSl : s.heap.objs.size ≠ l := Nat.ne_of_gt (Heap.lt_size hol)
  show wpAny _ _ (do let old ← Builtin.List.listItems (.ref s.heap.objs.size); Builtin.List.listUpdate (.ref s.heap.objs.size) (fun _ => #[]); letGo old.toList.reverse; Builtin.List.listExtendWith (.ref s.heap.objs.size) (.ref it) .none) _ _ _
  refine wpAny_bind ?_
  unfold Builtin.List.listItems
  refine wpAny_bind (wpAny_seqItems hS rfl (wpAny_pure ?_))
  show wpAny _ _ (updateSeq s.heap.objs.size (fun _ => #[]) >>= fun _ => letGo (#[] : Array Value).toList.reverse >>= fun _ => Builtin.List.listExtendWith (.ref s.heap.objs.size) (.ref it) .none) _ _ _
  refine wpAny_bind (wpAny_updateSeq hS rfl ?_)
  have hS₂ := Heap.get?_update_self (Obj.mapSeq (fun _ => (#[] : Array Value))) hS rfl
  have oth : ∀ b o, b ≠ s.heap.objs.size → (s.heap.push { cls := .type "list", data := .seq #[] }).get? b = some o → ((s.heap.push { cls := .type "list", data := .seq #[] }).update s.heap.objs.size (Obj.mapSeq (fun _ => (#[] : Array Value)))).get? b = some o :=
    fun b o hb e => (Heap.get?_update_other _ _ (Ne.symm hb)).trans e
  refine wpAny_bind (wpAny_letGo ?_)
  refine wpAny_extend_rev (A := A.in1) hh .none _ (l := l) (hit.at fun o e => oth it o hSi.symm (Heap.get?_push_of_some _ e)) (hl.at fun o e => oth l o hSl.symm (Heap.get?_push_of_some _ e)) hne hSi hSl hn hS₂ fun h' tk acc' c' hk hS' hacc => ?_
  exact ⟨rfl, hQ h' tk acc' c' (fun b o hb e => hk b o (Nat.ne_of_lt (Heap.lt_size e)) hb (oth b o (Nat.ne_of_lt (Heap.lt_size e)) (Heap.get?_push_of_some _ e))) hS' hacc⟩
end
/-- list(reversed(x)), x a list: a new list -/
def tLstRev (K : PySem.W.Frag) (te : TE) : TE := fun σ H Q => te σ H fun v H1 => ∃ (a : Addr) (xs : List V), v = .ref a ∧ SqL K H1 a xs ∧ ∀ q, H1 q = none → Q (.ref q) (upd H1 q (.lst xs.reverse))
theorem pe_lstRev {X : Cx} {e : Expr} {te : TE} {p p2 pos pos2 : Pos} (hc : X.calm = true) (hg : Gl X "list") (hm : X.mg "list" = none) (hg2 : Gl X "reversed") (hm2 : X.mg "reversed" = none) (he : PE X e te)
    (hs : starEach [e] X.env = (false, eval e X.env) :: starEach [] X.env := by rfl)
    (hs2 : starEach [.Call (.Name "reversed" p2) [e] [] pos2] X.env = (false, eval (.Call (.Name "reversed" p2) [e] [] pos2) X.env) :: starEach [] X.env := by rfl) :
    PE X (.Call (.Name "list" p) [.Call (.Name "reversed" p2) [e] [] pos2] [] pos) (tLstRev X.K te) := by
  refine ⟨fun pins s σ H Q I h => ?_⟩
  refine Call_ (ld_blt I hg hm (show bootBuiltins "list" = some (.type "list") by decide +kernel) (PyProof.Rows.callWith_type1 (args_cons (Call_ (ld_blt I hg2 hm2 PyProof.Rows.boot_reversed (PyProof.Rows.callWith_type1 (args_cons (thn (he.run pins s σ H _ I h) fun u s1 ⟨v, H1, I1, r1, q1⟩ => args_nil ?_) hs) hs rfl))) hs2) hs2 rfl))
  obtain ⟨a, xs, ev, hq, q⟩ := q1
  subst ev
  obtain rfl : u = Value.ref a := r1
  obtain ⟨its, rv, p', hz⟩ := I1.list hq
  refine call_reversed_list p'.isList (args_nil ?_)
  have k0 : ∀ b o, s1.heap.get? b = some o → (s1.heap.push (revObj a ((its.toArray.size : Int) - 1))).get? b = some o := fun b o e => Heap.get?_push_of_some _ e
  have I2 : Inv X pins σ H1 { s1 with heap := s1.heap.push (revObj a ((its.toArray.size : Int) - 1)) } := I1.kept (t' := s1.toks) k0
  obtain ⟨f0, f1, f2, f3, f4, f5⟩ := I1.fpOk (H' := H1) (b := s1.heap.objs.size) (Nat.le_refl _) (I1.hok.fresh (Nat.le_refl _))
  have hl := p'.isList
  obtain ⟨ol, hol, _⟩ := id hl
  have hne : a ≠ s1.heap.objs.size := Nat.ne_of_lt (Heap.lt_size hol)
  have hn : its.toArray.size ≤ sizeLine := by rw [List.size_toArray, ← rv.length]; exact hz
  refine call_list_rev (s := { s1 with heap := s1.heap.push (revObj a ((its.toArray.size : Int) - 1)) }) (I1.ok.hd hc) ⟨_, Heap.get?_push_size _ rfl, rfl, rfl⟩ (hl.push _) hne hn fun h' tk acc c' hk hS hi => ?_
  generalize hS2 : (s1.heap.push (revObj a ((its.toArray.size : Int) - 1))).objs.size = S at hS
  have hSn : S = s1.heap.objs.size + 1 := by rw [← hS2, Heap.size_push]
  have new : ObjOk X.prog X.w (upd H1 S (.lst xs.reverse)) h' S (.lst xs.reverse) :=
    ⟨by rw [List.length_reverse]; exact hz, acc.toList, c', RT.vals_rev rv hi, by rw [Array.toArray_toList]; exact hS⟩
  have I3 : Inv X pins σ (upd H1 S (.lst xs.reverse)) { s1 with heap := h', toks := tk } :=
    I1.turnedNew (t' := tk) (ch := []) (fun b o _ e => hk b o (Nat.ne_of_lt (Heap.lt_size e)) (k0 b o e)) (fun b hb => by cases hb) (by rw [hSn]; exact Nat.le_succ _) new
  refine ⟨.ref S, _, I3, rfl, q S (I1.hok.fresh (by rw [hSn]; exact Nat.le_succ _))⟩
theorem se_lstRev {X : Cx} {ec : EC} {W : WX} {e : Expr} {f : E} {p p2 pos pos2 : Pos} (hc : X.calm = true) (hg : Gl X "list") (hm : X.mg "list" = none) (hg2 : Gl X "reversed") (hm2 : X.mg "reversed" = none) (he : SE X ec W e f)
    (hs : starEach [e] X.env = (false, eval e X.env) :: starEach [] X.env := by rfl)
    (hs2 : starEach [.Call (.Name "reversed" p2) [e] [] pos2] X.env = (false, eval (.Call (.Name "reversed" p2) [e] [] pos2) X.env) :: starEach [] X.env := by rfl) :
    SE X ec W (.Call (.Name "list" p) [.Call (.Name "reversed" p2) [e] [] pos2] [] pos) (eUn uRev f) :=
  PE.imp (pe_lstRev hc hg hm hg2 hm2 he hs hs2) fun σ H Q h => by
    have q := read1 (r := fun (x : V) (H : Hp) (Q : VK) => ∃ a xs, x = .ref a ∧ SqL X.K H a xs ∧ ∀ p, H p = none → Q (.ref p) (upd H p (.lst xs.reverse))) (by
      intro H0 bg Gs Hs G H β x rx z c hx hz
      unfold uRev at hz
      cases hs : rx.lst? with
      | none => rw [hs] at hz; cases hz
      | some ds =>
        rw [hs] at hz
        cases hz
        obtain ⟨l, vs, rfl, h3, h4⟩ := hx.lst c.gh hs
        exact Yld.lst c (DrAll.reverse h4) fun Q q => ⟨l, vs, rfl, SqL.of h3, q⟩) h
    exact q
/-- xs.count(x) -/
def gCount (x y : Rv) : Option Rv := match x.lst?, y.data? with
  | some ds, some d => if PyData.plainAll ds = true ∧ okD d = true then some (.fz (.int ((ds.countP fun y => PyData.eqv y d : Nat) : Int))) else none
  | _, _ => none
def eCnt (f g : E) : E := fun ρ β => (f ρ β).bind fun x β => match x.lst? with
  | some _ => (g ρ β).bind fun y β => R.of (gCount x y) β
  | none => .no
theorem readCount {K : PySem.W.Frag} {ec : EC} {W : WX} {f g : E} {σ : L2.St} {H : Hp} {Q : VK} (h : rE K ec W (eCnt f g) σ H Q) : tBM K "list" (rCountL K) (rE K ec W f) (tCons (rE K ec W g) tNil) σ H Q := by
  obtain ⟨H0, G0, bg, G, ρ, β, a, h⟩ := h
  refine rE_go a ?_
  simp only [eCnt] at h
  cases hf : f ρ β with
  | no => rw [hf] at h; exact h
  | er e b => rw [hf] at h; exact h
  | ok x β1 =>
    rw [hf] at h
    intro v G1 H1 s1 v1
    simp only [R.bind] at h
    cases hl : x.lst? with
    | none => rw [hl] at h; exact h.elim
    | some ds =>
      rw [hl] at h
      obtain ⟨l, vs, rfl, l1, l2⟩ := v1.lst s1.gh hl
      refine ⟨.inl ⟨rfl, vs, SqL.of l1⟩, rE_go (a.step s1) ?_⟩
      simp only at h
      cases hg : g ρ β1 with
      | no => rw [hg] at h; exact h
      | er e b =>
        rw [hg] at h
        exact fun cl dd G' H' s2 he => h cl dd G' H' (s1.trans s2) he
      | ok y β2 =>
        rw [hg] at h
        intro w G2 H2 s2 w2
        obtain ⟨l', ws, e1, m1, m2⟩ := (v1.step s2 s1.gh).lst s2.gh hl
        cases e1
        simp only [gCount, hl] at h
        cases hd : y.data? with
        | none => rw [hd] at h; exact h.elim
        | some d =>
          rw [hd] at h
          simp only at h
          by_cases hk : PyData.plainAll ds = true ∧ okD d = true
          · rw [if_pos hk] at h
            exact ⟨l, ws, ds, w, d, rfl, rfl, SqL.of m1, (dpAll_mono s2.gh m2).dp, (w2.data s2.gh hd).dp, hk.1, hk.2, h _ G2 H2 (s1.trans s2) (Dr.int _)⟩
          · rw [if_neg hk] at h
            exact h.elim
theorem se_count {X : Cx} {ec : EC} {W : WX} {o e : Expr} {f g : E} {ap cp : Pos} (hu : X.A.units + 64 < cLine) (ho : SE X ec W o f) (he : SE X ec W e g)
    (hbase : attributeBase o ("count" : Str) X.env (eval o X.env) = eval o X.env := by rfl)
    (hfew : ((backTo cp (starEach [e] X.env)).all (fun x => !x.1) && (backToKw cp (keywordEach [] X.env)).all (fun x => x.1.isSome)
      && decide (([e] : List Expr).length + ([] : List Keyword).length + (if ([] : List Keyword).isEmpty then 0 else 1) < 30)) = true := by rfl)
    (hline : (ap.endLine == cp.line) = true := by rfl) (hs : starEach [e] X.env = (false, eval e X.env) :: starEach [] X.env := by rfl) (hplain : (backTo cp (starEach [] X.env)).any (·.1) = false := by rfl) :
    SE X ec W (.Call (.Attribute o "count" ap) [e] [] cp) (eCnt f g) :=
  PE.imp (pe_bm PySem.F.plainAttrs_list PySem.F.slot_list_count PySem.F.type_list_count (mt_countP hu) ho (pa_cons he pa_nil hs) hbase hfew hline hs hplain) fun σ H Q h => readCount h

/-! ### dict comprehensions -/
def putD (kvs : List (Key × PyData)) (k : Key) (d : PyData) : List (Key × PyData) :=
  if (kvs.any fun kv => decide (kv.1 = k)) = true then kvs.map (fun kv => if kv.1 = k then (kv.1, d) else kv) else kvs ++ [(k, d)]
theorem kv_any {K : PySem.W.Frag} {G : Hp} (k : Key) : ∀ {ws : List (Key × V)} {kvs : List (Key × PyData)}, KvAll K G ws kvs → (ws.any fun kv => decide (kv.1 = k)) = (kvs.any fun kv => decide (kv.1 = k))
  | _, _, .nil => rfl
  | _, _, .cons h t => by
    rw [List.any_cons, List.any_cons, kv_any k t, h.1]
theorem kv_map {K : PySem.W.Frag} {G : Hp} {k : Key} {v : V} {d : PyData} (hd : Dr K G v d) : ∀ {ws : List (Key × V)} {kvs : List (Key × PyData)}, KvAll K G ws kvs → KvAll K G (ws.map fun kv => if kv.1 = k then (kv.1, v) else kv) (kvs.map fun kv => if kv.1 = k then (kv.1, d) else kv)
  | _, _, .nil => .nil
  | w :: _, q :: _, .cons h t => by
    rw [List.map_cons, List.map_cons]
    refine .cons ?_ (kv_map hd t)
    rw [h.1]
    by_cases e : q.1 = k
    · rw [if_pos e, if_pos e]
      exact ⟨rfl, hd⟩
    · rw [if_neg e, if_neg e]
      exact h
theorem kv_put {K : PySem.W.Frag} {G : Hp} {k : Key} {v : V} {d : PyData} (hd : Dr K G v d) {ws : List (Key × V)} {kvs : List (Key × PyData)} (h : KvAll K G ws kvs) : KvAll K G (putK ws k v) (putD kvs k d) := by
  unfold putK putD
  rw [kv_any k h]
  split
  · exact kv_map hd h
  · exact pair_app h (.cons ⟨rfl, hd⟩ .nil)
theorem kv_len {K : PySem.W.Frag} {G : Hp} {ws : List (Key × V)} {kvs : List (Key × PyData)} (h : KvAll K G ws kvs) : ws.length = kvs.length := pair_len h
theorem putD_len (kvs : List (Key × PyData)) (k : Key) (d : PyData) : (putD kvs k d).length ≤ kvs.length + 1 := by
  unfold putD
  split
  · rw [List.length_map]
    exact Nat.le_succ _
  · rw [List.length_append, List.length_singleton]
    exact Nat.le_refl _
/-- a key -/
def Rv.key? : Rv → Option Key
  | .fz (.int i) => some (.inl i)
  | .fz (.str x) => some (.inr x)
  | _ => none
theorem VOk.key {K : PySem.W.Frag} {H0 : Hp} {bg : BG} {Hs G H : Hp} {v : V} {r : Rv} {k : Key} (h : VOk K H0 bg Hs G H v r) (q : r.key? = some k) : v = kV k := by
  cases r with
  | fz d =>
    cases d <;> simp [Rv.key?] at q
    · subst q
      have h' : Dr K G v (.int _) := h
      cases h'
      rfl
    · subst q
      have h' : Dr K G v (.str _) := h
      cases h'
      rfl
  | tm es => simp [Rv.key?] at q
  | bo es => simp [Rv.key?] at q
  | td es => simp [Rv.key?] at q
  | bd es => simp [Rv.key?] at q
  | bg => simp [Rv.key?] at q
def dcOne (tg : TgF) (t : ET) (ek e : E) (ρ : Env) (d : PyData) (β : Bag) : R (Option (Key × PyData)) := match tg d ρ with
  | none => .no
  | some ρ1 => match t ρ1 β with
    | .ok false β1 => .ok none β1
    | .ok true β1 => match ek ρ1 β1 with
      | .ok rk β2 => match e ρ1 β2 with
        | .ok r β3 => match rk.key?, r.keep? with
          | some k, some y => .ok (some (k, y)) β3
          | _, _ => .no
        | _ => .no
      | _ => .no
    | _ => .no
def dcD (tg : TgF) (t : ET) (ek e : E) (ρ : Env) : List (Key × PyData) → List PyData → Bag → R (List (Key × PyData))
  | acc, [], β => .ok acc β
  | acc, d :: ds, β => match dcOne tg t ek e ρ d β with
    | .ok none β => dcD tg t ek e ρ acc ds β
    | .ok (some p) β => dcD tg t ek e ρ (putD acc p.1 p.2) ds β
    | _ => .no
def putO (ys : List (Key × PyData)) : Option (Key × PyData) → List (Key × PyData)
  | none => ys
  | some p => putD ys p.1 p.2
def eDc (vs : List Nat) (tg : TgF) (t : ET) (ek e : E) (f : EI) : E := fun ρ β => (f ρ β).bind fun ds β => if ds.length ≤ big then match dcD tg t ek e (forget vs ρ) [] ds β with
    | .ok ys β => .ok (.td ys) β
    | _ => .no
  else .no
section
variable {K : PySem.W.Frag} {ec : EC} {W : WX} {σ : L2.St} {H : Hp} {Q : VK} {tg : TgF} {is vs : List Nat} {f : EI} {t : ET} {ek e : E}
theorem readDc (hsub : ∀ i ∈ is, i ∈ vs) (h : rE K ec W (eDc vs tg t ek e f) σ H Q) : tDc (rIt K ec W false f) (rG K is tg) (rT K ec W0 t) (rE K ec W0 ek) (rE K ec W0 e) vs σ H Q := by
  obtain ⟨H0, G0, bg, Gs, ρ, β, a, h⟩ := h
  refine ⟨H0, G0, bg, Gs, ρ, β, a, ?_⟩
  simp only [eDc] at h
  cases hf : f ρ β with
  | no => rw [hf] at h; exact h
  | er e b => rw [hf] at h; exact h
  | ok ds β1 =>
    rw [hf] at h
    simp only [R.bind] at h
    by_cases hsz : ds.length ≤ big
    · rw [if_pos hsz] at h
      cases hfin : dcD tg t ek e (forget vs ρ) [] ds β1 with
      | no => rw [hfin] at h; exact h.elim
      | er _ _ => rw [hfin] at h; exact h.elim
      | ok fin b =>
        rw [hfin] at h
        simp only at h
        intro J Src G1 H1 st it src Dl hD
        have hHs : H Dl = none := none_back st.dm hD
        refine ⟨fun i m H' => m = ds.length - i ∧ i ≤ ds.length ∧ ∃ G β' acc ys, Stp bg Gs H G H' β' ∧ Src G H' ∧ Ex G1 G ∧ (∀ a o, H1 a = some o → ¬ inB bg a → H' a = some o) ∧ H' Dl = some (.dK acc) ∧ G Dl = none ∧ KvAll K G acc ys ∧ ys.length ≤ i ∧
          dcD tg t ek e (forget vs ρ) ys (ds.drop i) β' = .ok fin b, ⟨ds.length, by omega, Nat.zero_le _, ?_⟩, ?_⟩
        · have c1 : Ct H0 bg Gs H G1 H1 β1 := ⟨st, a.gh⟩
          have e1 := Ct.new c1 (o := .dK []) hD
          refine ⟨G1, β1, [], [], e1, it.keep _ _ _ _ src (Ex.refl _) e1.gh (fun _ a o ha _ => ?_), Ex.refl _, fun a o ha _ => ?_, upd_same, none_ex st.gh hD, .nil, Nat.zero_le _, ?_⟩
          · rw [upd_none hD (dom_of ha)]; exact ha
          · rw [upd_none hD (dom_of ha)]; exact ha
          · rw [List.drop_zero]
            exact hfin
        · rintro i m H2 ⟨rfl, hi, G2, β2, acc, ys, s2, src2, e12, kp2, hl2, hg2, d2, hys, hz⟩
          by_cases hlt : i < ds.length
          · rw [List.drop_eq_getElem_cons hlt] at hz
            simp only [dcD] at hz
            cases ho : dcOne tg t ek e (forget vs ρ) ds[i] β2 with
            | no => rw [ho] at hz; cases hz
            | er _ _ => rw [ho] at hz; cases hz
            | ok o β3 =>
              rw [ho] at hz
              have hz : dcD tg t ek e (forget vs ρ) (putO ys o) (ds.drop (i + 1)) β3 = .ok fin b := by
                cases o with
                | none => exact hz
                | some p => exact hz
              refine .inr ⟨it.go G2 H2 i src2 s2.gh hlt, fun H' => ∃ G acc ys', Stp bg Gs H G H' β3 ∧ Src G H' ∧ Ex G1 G ∧ (∀ a o, H1 a = some o → ¬ inB bg a → H' a = some o) ∧ H' Dl = some (.dK acc) ∧ G Dl = none ∧ KvAll K G acc ys' ∧ ys'.length ≤ i + 1 ∧ ys' = (putO ys o), fun H' hn => ?_, fun x H3 y => ?_⟩
              · obtain ⟨G, acc, ys', q1, q2, q3, q4, q5, q6, q7, q8, q9⟩ := hn
                rw [← q9] at hz
                exact ⟨ds.length - (i + 1), by omega, rfl, hlt, G, β3, acc, ys', q1, q2, q3, q4, q5, q6, q7, q8, hz⟩
              · obtain ⟨G3, d, hd, x1, x2, x3, x4⟩ := it.yld G2 H2 i x H3 src2 s2.gh hlt y
                have hd' : d = ds[i] := by
                  rw [List.getElem?_eq_getElem hlt] at hd
                  exact (Option.some.inj hd).symm
                subst hd'
                have s3' : Stp bg G2 H2 G3 H3 β2 := stp_ex x1 x2 x3 s2.bagOk
                have s3 := s2.trans s3'
                have a3 := (a.step s3).wipeσ vs
                have g23 := s3'.gg s2.gh
                have kp3 : ∀ a o, H1 a = some o → ¬ inB bg a → H3 a = some o := fun a o h n => x1 a o (kp2 a o h n)
                have src3 := it.keep _ _ _ _ src2 g23 x2 (fun _ => kp3)
                have hl3 := x1 Dl _ hl2
                have hg3 : G3 Dl = none := (x3 Dl (dom_of hl2)).trans hg2
                unfold dcOne at ho
                cases ht : tg ds[i] (forget vs ρ) with
                | none => rw [ht] at ho; cases ho
                | some ρ3 =>
                  rw [ht] at ho
                  refine ⟨H0, G0, bg, G3, _, β2, _, ρ3, a3, x4, ht, fun σ4 l4 k4 a4 => ⟨?_, ?_⟩⟩
                  · exact wipe_eq (by rw [l4, wipe_length]) hsub k4 (wipe_length σ vs)
                  · refine ⟨H0, G0, bg, G3, ρ3, β2, a4, ?_⟩
                    simp only at ho
                    cases hb : t ρ3 β2 with
                    | no => rw [hb] at ho; cases ho
                    | er _ _ => rw [hb] at ho; cases ho
                    | ok bb β4 =>
                      rw [hb] at ho
                      intro G4 H4 s4
                      have kp4 : ∀ a o, H1 a = some o → ¬ inB bg a → H4 a = some o := fun a o h n => s4.kp a o (kp3 a o h n) n
                      have g34 := s4.gg s3.gh
                      have nB : ¬ inB bg Dl := fresh_notB st.bagOk hD
                      cases bb with
                      | false =>
                        cases ho
                        show ∃ G acc ys', _
                        exact ⟨G4, acc, ys, s3.trans s4, it.keep _ _ _ _ src3 g34 s4.gh (fun _ => kp4), e12.trans (g23.trans g34), kp4, s4.kp Dl _ hl3 nB, (s4.fr Dl (dom_of hl3)).trans hg3, kv_mono (g23.trans g34) d2, Nat.le_succ_of_le hys, rfl⟩
                      | true =>
                        show rE K ec W0 ek σ4 H4 _
                        refine ⟨H0, G0, bg, G4, ρ3, β4, a4.step s4, ?_⟩
                        simp only at ho
                        cases hek : ek ρ3 β4 with
                        | no => rw [hek] at ho; cases ho
                        | er _ _ => rw [hek] at ho; cases ho
                        | ok rk βk =>
                          rw [hek] at ho
                          intro vk Gk Hk sk hvk
                          refine ⟨H0, G0, bg, Gk, ρ3, βk, (a4.step s4).step sk, ?_⟩
                          simp only at ho
                          cases he : e ρ3 βk with
                          | no => rw [he] at ho; cases ho
                          | er _ _ => rw [he] at ho; cases ho
                          | ok rv β5 =>
                            rw [he] at ho
                            simp only at ho
                            cases hkk : rk.key? with
                            | none => rw [hkk] at ho; cases ho
                            | some ky =>
                              cases hk : rv.keep? with
                              | none => rw [hkk, hk] at ho; cases ho
                              | some yv =>
                                rw [hkk, hk] at ho
                                cases ho
                                intro v G5 H5 s5 hv
                                have s4k := s4.trans sk
                                have s45 := s4k.trans s5
                                have kpk : ∀ a o, H1 a = some o → ¬ inB bg a → Hk a = some o := fun a o h n => sk.kp a o (kp4 a o h n) n
                                have kp5 : ∀ a o, H1 a = some o → ¬ inB bg a → H5 a = some o := fun a o h n => s5.kp a o (kpk a o h n) n
                                have hl5 := s45.kp Dl _ hl3 nB
                                have g3k := s4k.gg s3.gh
                                have c5' : Ct H0 bg Gk Hk G5 H5 β3 := ⟨s5, sk.gh⟩
                                obtain ⟨G6, c6, e6, h6⟩ := c5'.freeze (hv.keep hk)
                                have s6 : Stp bg Gs H G6 H5 β3 := (s3.trans s4k).trans c6.st
                                have hg6 : G6 Dl = none := ((s4k.trans c6.st).fr Dl (dom_of hl3)).trans hg3
                                have gk6 := c6.st.gg sk.gh
                                have d6 := kv_mono (g23.trans (g3k.trans gk6)) d2
                                refine ⟨acc, ky, hvk.key hkk, hl5, ?_, ?_⟩
                                · have := kv_len d2
                                  have := big_line
                                  omega
                                · have hsrc5 : Src G6 H5 := it.keep _ _ _ _ src3 (g3k.trans gk6) c6.st.gh (fun _ => kp5)
                                  have ee : Ex G6 (upd H5 Dl (.dK (putK acc ky v))) := fun a o h => by
                                    rw [upd_ne (fun z => by rw [z, hg6] at h; cases h)]
                                    exact c6.st.gh a o h
                                  have kpU : ∀ a o, H1 a = some o → ¬ inB bg a → upd H5 Dl (.dK (putK acc ky v)) a = some o := fun a o h n => by
                                    rw [upd_ne (fun z => by rw [z, hD] at h; cases h)]
                                    exact kp5 a o h n
                                  refine ⟨G6, putK acc ky v, putD ys ky yv, ⟨fun a o h n => ?_, fun a h => upd_dom (s6.dm a h), s6.fr, ee, ?_⟩, it.keep _ _ _ _ hsrc5 (Ex.refl _) ee (fun _ => kpU), e12.trans (g23.trans (g3k.trans gk6)), kpU, upd_same, hg6, kv_put h6 d6, ?_, rfl⟩
                                  · rw [upd_ne (fun z => by rw [z, hHs] at h; cases h)]
                                    exact s6.kp a o h n
                                  · have hb5 := s6.bagOk
                                    revert hb5 nB
                                    cases bg with
                                    | none => exact fun _ _ => trivial
                                    | some p =>
                                      obtain ⟨pb, pc⟩ := p
                                      intro nB hb5
                                      refine ⟨hb5.1, ?_, ?_⟩
                                      · rw [upd_ne (fun z => nB (.inl z.symm))]; exact hb5.2.1
                                      · rw [upd_ne (fun z => nB (.inr z.symm))]; exact hb5.2.2
                                  · have := putD_len ys ky yv
                                    omega
          · have e : i = ds.length := by omega
            subst e
            rw [List.drop_length] at hz
            simp only [dcD] at hz
            cases hz
            exact .inl ⟨it.stop G2 H2 src2 s2.gh, h (.ref Dl) G2 H2 s2 ⟨Dl, acc, rfl, hHs, hl2, hg2, fresh_notB st.bagOk hD, d2⟩⟩
    · rw [if_neg hsz] at h
      exact h.elim
end
section
variable {X : Cx} {ec : EC} {W : WX} {kx vx tg iter : Expr} {ifs : List Expr} {scope : Scope} {own : List (Str × Nat)} {pos : Pos} {is : List Nat} {t : TgF} {c : ET} {ek e : E} {f : EI}
theorem se_dc (hc : X.calm = true) (hN : X.N.Nodup) (hi : SI X ec W false tg iter f) (ok : BlkOk X.N X.env.scope scope own)
    (hg : ∀ (s : Shared) (H : Hp) (C : Addr) (cl : List (Str × Addr)) (fp : List Addr), SG (X.blk s H scope (compEnvC scope cl C X.env) fp) tg is t) (ht : ∀ (s : Shared) (H : Hp) (C : Addr) (cl : List (Str × Addr)) (fp : List Addr), STs (X.blk s H scope (compEnvC scope cl C X.env) fp) ec W0 ifs c)
    (hk : ∀ (s : Shared) (H : Hp) (C : Addr) (cl : List (Str × Addr)) (fp : List Addr), SE (X.blk s H scope (compEnvC scope cl C X.env) fp) ec W0 kx ek)
    (he : ∀ (s : Shared) (H : Hp) (C : Addr) (cl : List (Str × Addr)) (fp : List Addr), SE (X.blk s H scope (compEnvC scope cl C X.env) fp) ec W0 vx e) (hsub : ∀ i ∈ is, i ∈ own.map (·.2) := by decide) (hs : ∀ x, foldedSetIterable iter X.env x = pure x := by intro _; rfl) :
    SE X ec W (.DictComp kx vx [⟨tg, iter, ifs, 0⟩] scope pos) (eDc (own.map (·.2)) t c ek e f) :=
  PE.imp (pe_dc hc hN hi ok hg ht hk he hs) fun σ H Q h => readDc hsub h
end

/-! ### d.get(k, x) -/
def valD (kvs : List (Key × PyData)) (k : Key) : Option PyData := (kvs.find? fun kv => decide (kv.1 = k)).map (·.2)
theorem kv_val {K : PySem.W.Frag} {G : Hp} (k : Key) : ∀ {ws : List (Key × V)} {kvs : List (Key × PyData)}, KvAll K G ws kvs → (valV ws k = none ∧ valD kvs k = none) ∨ ∃ v d, valV ws k = some v ∧ valD kvs k = some d ∧ Dr K G v d
  | _, _, .nil => .inl ⟨rfl, rfl⟩
  | w :: ws, q :: kvs, .cons h t => by
    by_cases e : q.1 = k
    · refine .inr ⟨w.2, q.2, valV_pos (h.1.trans e), ?_, h.2⟩
      simp [valD, List.find?_cons, e]
    · have e1 : valV (w :: ws) k = valV ws k := valV_neg (fun z => e (h.1.symm.trans z))
      have e2 : valD (q :: kvs) k = valD kvs k := by simp [valD, List.find?_cons, e]
      rw [e1, e2]
      exact kv_val k t
def Rv.dic? : Rv → Option (List (Key × PyData))
  | .td kvs => some kvs
  | .bd kvs => some kvs
  | _ => none
theorem VOk.dic {K : PySem.W.Frag} {H0 : Hp} {bg : BG} {Hs G H : Hp} {v : V} {r : Rv} {kvs : List (Key × PyData)} (h : VOk K H0 bg Hs G H v r) (q : r.dic? = some kvs) : ∃ l ws, v = .ref l ∧ H l = some (.dK ws) ∧ KvAll K G ws kvs := by
  cases r with
  | fz d => simp [Rv.dic?] at q
  | tm es => simp [Rv.dic?] at q
  | bo es => simp [Rv.dic?] at q
  | td es =>
    simp [Rv.dic?] at q
    subst q
    obtain ⟨l, ws, h1, _, h3, _, _, h6⟩ := h
    exact ⟨l, ws, h1, h3, h6⟩
  | bd es =>
    simp [Rv.dic?] at q
    subst q
    obtain ⟨l, ws, h1, _, h3, _, _, h6⟩ := h
    exact ⟨l, ws, h1, h3, h6⟩
  | bg => simp [Rv.dic?] at q
def eDGet (f g k : E) : E := fun ρ β => (f ρ β).bind fun x β => match x.dic? with
  | some kvs => (g ρ β).bind fun y β => (k ρ β).bind fun z β => match y.key?, z with
    | some ky, .fz d => .ok (.fz ((valD kvs ky).getD d)) β
    | _, _ => .no
  | none => .no
theorem readDGet {K : PySem.W.Frag} {ec : EC} {W : WX} {f g k : E} {σ : L2.St} {H : Hp} {Q : VK} (h : rE K ec W (eDGet f g k) σ H Q) : tDGet2 (rE K ec W f) (rE K ec W g) (rE K ec W k) σ H Q := by
  obtain ⟨H0, G0, bg, G, ρ, β, a, h⟩ := h
  refine rE_go a ?_
  simp only [eDGet] at h
  cases hf : f ρ β with
  | no => rw [hf] at h; exact h
  | er e b => rw [hf] at h; exact h
  | ok x β1 =>
    rw [hf] at h
    intro v G1 H1 s1 v1
    simp only [R.bind] at h
    cases hl : x.dic? with
    | none => rw [hl] at h; exact h.elim
    | some kvs =>
      rw [hl] at h
      obtain ⟨l, ws, rfl, l1, l2⟩ := v1.dic hl
      refine ⟨l, rfl, .inl ⟨ws, .inl l1⟩, rE_go (a.step s1) ?_⟩
      simp only at h
      cases hg : g ρ β1 with
      | no => rw [hg] at h; exact h
      | er e b =>
        rw [hg] at h
        exact fun cl dd G' H' s2 he => h cl dd G' H' (s1.trans s2) he
      | ok y β2 =>
        rw [hg] at h
        intro w G2 H2 s2 w2
        have s12 := s1.trans s2
        refine rE_go (a.step s12) ?_
        simp only at h
        cases hk : k ρ β2 with
        | no => rw [hk] at h; exact h
        | er e b =>
          rw [hk] at h
          exact fun cl dd G' H' s3 he => h cl dd G' H' (s12.trans s3) he
        | ok z β3 =>
          rw [hk] at h
          intro u G3 H3 s3 u3
          have s123 := s12.trans s3
          simp only at h
          cases hky : y.key? with
          | none => rw [hky] at h; exact h.elim
          | some ky =>
            rw [hky] at h
            cases z with
            | fz d =>
              simp only at h
              obtain ⟨l', ws', e1, m1, m2⟩ := ((v1.step s2 s1.gh).step s3 s2.gh).dic hl
              cases e1
              refine ⟨valV ws' ky, .inl ⟨ws', ky, .inl m1, w2.key hky, rfl⟩, h _ G3 H3 s123 ?_⟩
              rcases kv_val ky m2 with ⟨q1, q2⟩ | ⟨v', d', q1, q2, q3⟩
              · rw [q1, q2]
                exact u3
              · rw [q1, q2]
                exact q3
            | _ => exact h.elim
theorem se_dget {X : Cx} {ec : EC} {W : WX} {o a b : Expr} {f g k : E} {ap cp : Pos} (hu : X.A.units + 64 < cLine) (ho : SE X ec W o f) (ha : SE X ec W a g) (hb : SE X ec W b k)
    (base : attributeBase o ("get" : Str) X.env (eval o X.env) = eval o X.env := by rfl)
    (few : ((backTo cp (starEach [a, b] X.env)).all (fun x => !x.1) && (backToKw cp (keywordEach [] X.env)).all (fun x => x.1.isSome)
      && decide (([a, b] : List Expr).length + ([] : List Keyword).length + (if ([] : List Keyword).isEmpty then 0 else 1) < 30)) = true := by rfl)
    (line : (ap.endLine == cp.line) = true := by rfl)
    (trees : backTo cp (starEach [a, b] X.env) = [(false, eval a X.env), (false, eval b X.env)] := by rfl) :
    SE X ec W (.Call (.Attribute o "get" ap) [a, b] [] cp) (eDGet f g k) :=
  PE.imp (pe_dget2 (by omega) ho ha hb ⟨base, few, line, trees⟩) fun σ H Q h => readDGet h
end VL

/-! VL12: the script and the bag. -/
namespace VL
open PySem PySem.Spec PyProof.Rows L2

/-! ### the script -/
def Env.scr? (ρ : Env) (i : Nat) : Option (List Int) := match ρ[i]? with
  | some (.scr ns) => some ns
  | _ => none
theorem scr_eq {ρ : Env} {i : Nat} {ns : List Int} (h : Env.scr? ρ i = some ns) : ρ[i]? = some (.scr ns) := by
  unfold Env.scr? at h
  split at h
  · cases h
    assumption
  · cases h
/-- script[:e] -/
def eScut (i : Nat) (f : E) : E := fun ρ β => match Env.scr? ρ i with
  | some ns => (f ρ β).bind fun r β => match r.int? with
    | some k => .ok (.tm ((cut ns none (some k)).map PyData.int)) β
    | none => .no
  | none => .no
theorem cut_map (ns : List Int) (lo hi : Option Int) : cutV (ns.map V.int) lo hi = (cut ns lo hi).map V.int := by
  unfold cutV cut
  rw [List.length_map, List.map_take, List.map_drop]
theorem readScut {K : PySem.W.Frag} {ec : EC} {W : WX} {i : Nat} {f : E} {σ : L2.St} {H : Hp} {Q : VK} (h : rE K ec W (eScut i f) σ H Q) :
    ∃ (a : Addr) (ns : List Int), σ[i]? = some (some (.ref a)) ∧ rE K ec W f σ H fun x H1 => ∃ k, x = .int k ∧ SqL K H1 a (ns.map V.int) ∧ ∀ p, H1 p = none → Q (.ref p) (upd H1 p (.lst (cutV (ns.map V.int) none (some k)))) := by
  obtain ⟨H0, G0, bg, G, ρ, β, a, h⟩ := h
  unfold eScut at h
  cases hs : Env.scr? ρ i with
  | none => rw [hs] at h; exact h.elim
  | some ns =>
    rw [hs] at h
    obtain ⟨o, h1, b, rfl, h3⟩ := a.slots i _ (scr_eq hs)
    refine ⟨b, ns, h1, rE_go a ?_⟩
    simp only at h
    cases hf : f ρ β with
    | no => rw [hf] at h; exact h
    | er e b => rw [hf] at h; exact h
    | ok r β1 =>
      rw [hf] at h
      intro v G1 H1 s1 v1
      simp only [R.bind] at h
      cases hi : r.int? with
      | none => rw [hi] at h; exact h.elim
      | some k =>
        rw [hi] at h
        refine ⟨k, v1.int hi, ex_l ((s1.gg a.gh).trans s1.gh) h3, fun p hp => ?_⟩
        have c : Ct H0 bg G H G1 H1 β1 := ⟨s1, a.gh⟩
        rw [cut_map]
        exact h (.ref p) _ _ (c.new hp) ⟨p, _, rfl, c.fresh hp, upd_same, none_ex c.gh hp, fresh_notB c.bag hp, dpAll_of_ints _⟩
theorem se_scut {X : Cx} {ec : EC} {W : WX} {e : Expr} {f : E} {p1 p2 pos : Pos} {x : Str} (i : Nat) (he : SE X ec W e f) (hi : X.N[i]? = some x := by rfl) (hv : Vis X.env.scope x := by first | exact Or.inl rfl | exact Or.inr (Or.inl rfl) | exact Or.inr (Or.inr rfl))
    (hd : (x == ("__debug__" : Str)) = false := by decide) (hcd : (x == ("__classdict__" : Str)) = false := by decide) :
    SE X ec W (.Subscript (.Name x p1) (.Slice none (some e) none p2) pos) (eScut i f) :=
  PE.imp (pe_slice sl_list (pe_var hi hv hd hcd) po_none (po_some he)) fun σ H Q h => by
    obtain ⟨a, ns, h1, h2⟩ := readScut h
    refine ⟨.ref a, h1, rE_mono h2 fun x H1 q => ?_⟩
    obtain ⟨k, rfl, q1, q2⟩ := q
    exact ⟨k, rfl, a, _, rfl, q1, q2⟩

/-! ### the bag -/
section
variable {K : PySem.W.Frag} {H0 G0 : Hp} {bg : BG} {G H : Hp} {σ : L2.St} {ρ : Env} {β β' : Bag}
/-- the bag alone is rewritten -/
theorem Ag.bagged (a : Ag K H0 G0 bg G H σ ρ β) {H' : Hp} (k : ∀ b, ¬ inB bg b → H' b = H b) (b : BagAt bg H' β') : Ag K H0 G0 bg G H' σ ρ β' where
  gh := fun x o h => by
    rw [k x (fun z => by rw [a.bagG x z] at h; cases h)]
    exact a.gh x o h
  kp := fun x o h n => by
    rw [k x n]
    exact a.kp x o h n
  dm := fun x h => by
    by_cases z : inB bg x
    · exact bag_dom b z
    · rw [k x z]
      exact a.dm x h
  fr := a.fr
  bagOk := b
  bagG := a.bagG
  slots := fun i s h => by
    obtain ⟨o, h1, h2⟩ := a.slots i s h
    refine ⟨o, h1, ?_⟩
    cases s with
    | no => trivial
    | dat d => exact h2
    | own ds =>
      obtain ⟨l, vs, rfl, r1, r2⟩ := h2
      exact ⟨l, vs, rfl, (k l (a.owns i _ l h rfl h1).2.2).trans r1, r2⟩
    | dic ds =>
      obtain ⟨l, vs, rfl, r1, r2⟩ := h2
      exact ⟨l, vs, rfl, (k l (a.owns i _ l h rfl h1).2.2).trans r1, r2⟩
    | bag => exact h2
    | scr ns => exact h2
  owns := a.owns
  dist := a.dist
end
def Env.isBag (ρ : Env) (i : Nat) : Bool := match ρ[i]? with
  | some .bag => true
  | _ => false
theorem isBag_eq {ρ : Env} {i : Nat} (h : Env.isBag ρ i = true) : ρ[i]? = some .bag := by
  unfold Env.isBag at h
  split at h
  · assumption
  · cases h
theorem Ag.bagS {K : PySem.W.Frag} {H0 G0 : Hp} {bg : BG} {G H : Hp} {σ : L2.St} {ρ : Env} {β : Bag} (a : Ag K H0 G0 bg G H σ ρ β) {i : Nat} (h : Env.isBag ρ i = true) :
    ∃ b c, bg = some (b, c) ∧ σ[i]? = some (some (.ref b)) ∧ b ≠ c ∧ H b = some (.lst [.ref c, .int β.x, .int β.m]) ∧ H c = some (.lst (β.cs.map V.int)) := by
  obtain ⟨o, h1, b, c, rfl, rfl⟩ := a.slots i _ (isBag_eq h)
  obtain ⟨b1, b2, b3⟩ := a.bagOk
  exact ⟨b, c, rfl, h1, b1, b2, b3⟩
/-- bag[1], bag[2] -/
def eBag (i : Nat) (two : Bool) : E := fun ρ β => if Env.isBag ρ i then .ok (.fz (.int (if two then β.m else β.x))) β else .no
theorem readBag {K : PySem.W.Frag} {ec : EC} {W : WX} {i : Nat} {two : Bool} {σ : L2.St} {H : Hp} {Q : VK} (h : rE K ec W (eBag i two) σ H Q) : tOp (rIxL K) (tVar i) (tC (.int (if two then 2 else 1))) σ H Q := by
  obtain ⟨H0, G0, bg, G, ρ, β, a, h⟩ := h
  unfold eBag at h
  by_cases hb : Env.isBag ρ i = true
  · rw [if_pos hb] at h
    obtain ⟨b, c, rfl, h1, h2, h3, h4⟩ := a.bagS hb
    cases two with
    | true => exact ⟨.ref b, h1, b, _, 2, .int β.m, rfl, rfl, SqL.of h3, rfl, h _ G H (Stp.refl a.gh a.bagOk) (Dr.int _)⟩
    | false => exact ⟨.ref b, h1, b, _, 1, .int β.x, rfl, rfl, SqL.of h3, rfl, h _ G H (Stp.refl a.gh a.bagOk) (Dr.int _)⟩
  · rw [if_neg hb] at h
    exact h.elim
section
variable {X : Cx} {ec : EC} {W : WX} {x y : Str} {p1 p2 p3 p4 pos : Pos} {j : Nat} {e : Expr} {f : E}
theorem se_bag1 (i : Nat) (hi : X.N[i]? = some x := by rfl) (hv : Vis X.env.scope x := by first | exact Or.inl rfl | exact Or.inr (Or.inl rfl) | exact Or.inr (Or.inr rfl))
    (hd : (x == ("__debug__" : Str)) = false := by decide) (hcd : (x == ("__classdict__" : Str)) = false := by decide) (hs : PlainIx (.Constant (.int 1) j p2) := by exact fun _ _ => rfl) :
    SE X ec W (.Subscript (.Name x p1) (.Constant (.int 1) j p2) pos) (eBag i false) := PE.imp (pe_ix ix_list (pe_var hi hv hd hcd) pe_int hs) fun σ H Q h => readBag h
theorem se_bag2 (i : Nat) (hi : X.N[i]? = some x := by rfl) (hv : Vis X.env.scope x := by first | exact Or.inl rfl | exact Or.inr (Or.inl rfl) | exact Or.inr (Or.inr rfl))
    (hd : (x == ("__debug__" : Str)) = false := by decide) (hcd : (x == ("__classdict__" : Str)) = false := by decide) (hs : PlainIx (.Constant (.int 2) j p2) := by exact fun _ _ => rfl) :
    SE X ec W (.Subscript (.Name x p1) (.Constant (.int 2) j p2) pos) (eBag i true) := PE.imp (pe_ix ix_list (pe_var hi hv hd hcd) pe_int hs) fun σ H Q h => readBag h
end
/-- bag[0] != [] -/
def eBagNE (i : Nat) : ET := fun ρ β => if Env.isBag ρ i then .ok (!β.cs.isEmpty) β else .no
theorem plain_ints : ∀ (ns : List Int), PyData.plainAll (ns.map PyData.int) = true
  | [] => rfl
  | n :: ns => by
    simp only [List.map_cons, PyData.plainAll, PyData.plain, plain_ints ns, Bool.and_self, Bool.true_and]
theorem depth_ints : ∀ (ns : List Int), PyData.depthAll (ns.map PyData.int) = 0
  | [] => rfl
  | n :: ns => by
    simp only [List.map_cons, PyData.depthAll, PyData.depth, depth_ints ns, Nat.max_self]
theorem okD_ints (ns : List Int) : okD (.list (ns.map PyData.int)) = true := by
  unfold okD
  simp only [PyData.plain, plain_ints, PyData.depth, depth_ints]
  rfl
theorem eqv_nil (ns : List Int) : PyData.eqv (.list (ns.map PyData.int)) (.list []) = ns.isEmpty := by
  cases ns with
  | nil => rfl
  | cons n ns => rfl
theorem readBagNE {K : PySem.W.Frag} {ec : EC} {W : WX} {i : Nat} {σ : L2.St} {H : Hp} {Q : Bool → Hp → Prop} (h : rT K ec W (eBagNE i) σ H Q) : tTest (tOp (rNeP K) (tOp (rIxL K) (tVar i) (tC (.int 0))) (tLst tNil)) σ H Q := by
  obtain ⟨H0, G0, bg, G, ρ, β, a, h⟩ := h
  unfold eBagNE at h
  by_cases hb : Env.isBag ρ i = true
  · rw [if_pos hb] at h
    obtain ⟨b, c, rfl, h1, h2, h3, h4⟩ := a.bagS hb
    refine ⟨.ref b, h1, b, _, 0, .ref c, rfl, rfl, SqL.of h3, rfl, Nat.zero_le _, fun p hp => ?_⟩
    have c0 : Ct H0 (some (b, c)) G H G H β := ⟨Stp.refl a.gh a.bagOk, a.gh⟩
    have h4' : upd H p (.lst []) c = some (.lst (β.cs.map V.int)) := (upd_none hp (dom_of h4)).trans h4
    refine ⟨.list (β.cs.map PyData.int), .list [], .lst (SqL.of h4') (dpAll_of_ints _).dp, .lst (SqL.of upd_same) .nil, okD_ints _, rfl, _, rfl, ?_⟩
    rw [eqv_nil]
    exact h G _ (c0.new hp)
  · rw [if_neg hb] at h
    exact h.elim
/-- bag[k] = e -/
def sBagSet (i : Nat) (two : Bool) (f : E) : T := fun ρ β => if Env.isBag ρ i then (f ρ β).out ρ fun r β => match r.int? with
    | some n => .nx ρ (if two then ⟨β.cs, β.x, n⟩ else ⟨β.cs, n, β.m⟩)
    | none => .no
  else .no
theorem readBagSet {K : PySem.W.Frag} {ec : EC} {W : WX} {i : Nat} {two : Bool} {f : E} {σ : L2.St} {H : Hp} {D : Ends} (h : rS K ec W (sBagSet i two f) D σ H) : tAsg (rE K ec W f) (gSub (tVar i) (tC (.int (if two then 2 else 1))) rSetL) D σ H := by
  obtain ⟨H0, G0, bg, G, ρ, β, a, h⟩ := h
  unfold sBagSet at h
  by_cases hb : Env.isBag ρ i = true
  · rw [if_pos hb] at h
    refine rE_go a ?_
    cases hf : f ρ β with
    | no => rw [hf] at h; exact h
    | er e b => rw [hf] at h; exact read_er a h
    | ok r β1 =>
      rw [hf] at h
      intro v G1 H1 s1 hv
      have a1 := a.step s1
      simp only [R.out] at h
      cases hi : r.int? with
      | none => rw [hi] at h; exact h.elim
      | some n =>
        rw [hi] at h
        have ev := hv.int hi
        subst ev
        obtain ⟨b, c, rfl, h1, h2, h3, h4⟩ := a1.bagS hb
        have kk : ∀ (o : HO) (d : Addr), ¬ inB (some (b, c)) d → upd H1 b o d = H1 d := fun o d nd => upd_ne fun z => nd (.inl z)
        cases two with
        | true =>
          refine ⟨.ref b, h1, b, _, 2, 2, rfl, rfl, h3, rfl, h σ G1 _ (a1.bagged (kk _) ⟨h2, upd_same, ?_⟩) (s1.gg a.gh)⟩
          rw [upd_ne (fun z => h2 z.symm)]
          exact h4
        | false =>
          refine ⟨.ref b, h1, b, _, 1, 1, rfl, rfl, h3, rfl, h σ G1 _ (a1.bagged (kk _) ⟨h2, upd_same, ?_⟩) (s1.gg a.gh)⟩
          rw [upd_ne (fun z => h2 z.symm)]
          exact h4
  · rw [if_neg hb] at h
    exact h.elim
/-- cell = bag[0].pop() -/
def sBagPop (j i : Nat) : T := fun ρ β => if Env.isBag ρ i then match β.cs[β.cs.length - 1]? with
    | some n => if i ≠ j ∧ j < ρ.length then .nx (ρ.set j (.dat (.int n))) ⟨β.cs.dropLast, β.x, β.m⟩ else .no
    | none => .no
  else .no
theorem readBagPop {K : PySem.W.Frag} {ec : EC} {W : WX} {i j : Nat} {σ : L2.St} {H : Hp} {D : Ends} (h : rS K ec W (sBagPop j i) D σ H) : tAsg (tBM0 K "list" rPop (tOp (rIxL K) (tVar i) (tC (.int 0)))) (gName j) D σ H := by
  obtain ⟨H0, G0, bg, G, ρ, β, a, h⟩ := h
  unfold sBagPop at h
  by_cases hb : Env.isBag ρ i = true
  · rw [if_pos hb] at h
    obtain ⟨b, c, rfl, h1, h2, h3, h4⟩ := a.bagS hb
    cases hn : β.cs[β.cs.length - 1]? with
    | none => rw [hn] at h; exact h.elim
    | some n =>
      rw [hn] at h
      simp only at h
      split at h
      · rename_i hj
        have kk : ∀ (o : HO) (d : Addr), ¬ inB (some (b, c)) d → upd H c o d = H d := fun o d nd => upd_ne fun z => nd (.inr z)
        have a1 : Ag K H0 G0 (some (b, c)) G (upd H c (.lst ((β.cs.map V.int).dropLast))) σ ρ ⟨β.cs.dropLast, β.x, β.m⟩ := a.bagged (kk _) ⟨h2, by rw [upd_ne h2]; exact h3, by rw [upd_same, List.map_dropLast]⟩
        refine ⟨.ref b, h1, b, _, 0, .ref c, rfl, rfl, SqL.of h3, rfl, .inl ⟨rfl, _, SqL.of h4⟩, c, _, .int n, rfl, rfl, h4, ?_, h _ G _ (a1.set hj.2 ⟨.int n, rfl, Dr.int n⟩ fun l ho => by cases ho) (Ex.refl G)⟩
        rw [List.length_map, List.getElem?_map, hn]
        rfl
      · exact h.elim
  · rw [if_neg hb] at h
    exact h.elim
section
variable {X : Cx} {ec : EC} {W : WX} {x y : Str} {p1 p2 p3 p4 pos : Pos} {k : Nat} {e : Expr} {f : E}
theorem st_bagNE (i : Nat) (hu : X.A.units + 64 < cLine) (hi : X.N[i]? = some x := by rfl) (hv : Vis X.env.scope x := by first | exact Or.inl rfl | exact Or.inr (Or.inl rfl) | exact Or.inr (Or.inr rfl))
    (hd : (x == ("__debug__" : Str)) = false := by decide) (hcd : (x == ("__classdict__" : Str)) = false := by decide) (hs : PlainIx (.Constant (.int 0) k p2) := by exact fun _ _ => rfl) (hm : behindInMarks .NotEq (.List [] p4) = false := by first | exact nomark _ | rfl) :
    ST X ec W (.Compare (.Subscript (.Name x p1) (.Constant (.int 0) k p2) p3) [.NotEq] [.List [] p4] pos) (eBagNE i) :=
  PT.imp (pt_cmpR (op_neP hu) (pe_ix ix_list (pe_var hi hv hd hcd) pe_int hs) (pe_lst pa_nil) hm) fun σ H Q h => readBagNE h
theorem ss_bagSet1 (i : Nat) (he : SE X ec W e f) (hi : X.N[i]? = some x := by rfl) (hv : Vis X.env.scope x := by first | exact Or.inl rfl | exact Or.inr (Or.inl rfl) | exact Or.inr (Or.inr rfl))
    (hd : (x == ("__debug__" : Str)) = false := by decide) (hcd : (x == ("__classdict__" : Str)) = false := by decide)
    (ha : ∀ v, assign (.Subscript (.Name x p1) (.Constant (.int 1) k p2) p3) X.env v = (do
      let ov ← holding [v] (eval (.Name x p1) X.env)
      let iv ← holding [v, ov] (eval (.Constant (.int 1) k p2) X.env)
      standAt p3
      holding [v, ov, iv] (setItem ov iv v)
      release [v, ov, iv] []) := by intro _; rfl)
    (hs : swapsWithSole [.Subscript (.Name x p1) (.Constant (.int 1) k p2) p3] e pos.line X.env = pure false := by rfl) (hw : swappedStores [.Subscript (.Name x p1) (.Constant (.int 1) k p2) p3] e X.env = pure none := by rfl)
    (h1 : (assignEach [.Subscript (.Name x p1) (.Constant (.int 1) k p2) p3] X.env).map (·.2) = [assign (.Subscript (.Name x p1) (.Constant (.int 1) k p2) p3) X.env] := by rfl) :
    SS X ec W (.Assign [.Subscript (.Name x p1) (.Constant (.int 1) k p2) p3] e pos) (sBagSet i false f) :=
  PS.imp (ps_asg he (pg_sub (pe_var hi hv hd hcd) pe_int set_list ha) hs hw h1) fun D σ H h => readBagSet h
theorem ss_bagSet2 (i : Nat) (he : SE X ec W e f) (hi : X.N[i]? = some x := by rfl) (hv : Vis X.env.scope x := by first | exact Or.inl rfl | exact Or.inr (Or.inl rfl) | exact Or.inr (Or.inr rfl))
    (hd : (x == ("__debug__" : Str)) = false := by decide) (hcd : (x == ("__classdict__" : Str)) = false := by decide)
    (ha : ∀ v, assign (.Subscript (.Name x p1) (.Constant (.int 2) k p2) p3) X.env v = (do
      let ov ← holding [v] (eval (.Name x p1) X.env)
      let iv ← holding [v, ov] (eval (.Constant (.int 2) k p2) X.env)
      standAt p3
      holding [v, ov, iv] (setItem ov iv v)
      release [v, ov, iv] []) := by intro _; rfl)
    (hs : swapsWithSole [.Subscript (.Name x p1) (.Constant (.int 2) k p2) p3] e pos.line X.env = pure false := by rfl) (hw : swappedStores [.Subscript (.Name x p1) (.Constant (.int 2) k p2) p3] e X.env = pure none := by rfl)
    (h1 : (assignEach [.Subscript (.Name x p1) (.Constant (.int 2) k p2) p3] X.env).map (·.2) = [assign (.Subscript (.Name x p1) (.Constant (.int 2) k p2) p3) X.env] := by rfl) :
    SS X ec W (.Assign [.Subscript (.Name x p1) (.Constant (.int 2) k p2) p3] e pos) (sBagSet i true f) :=
  PS.imp (ps_asg he (pg_sub (pe_var hi hv hd hcd) pe_int set_list ha) hs hw h1) fun D σ H h => readBagSet h
theorem ss_bagPop (j i : Nat) {ap cp py : Pos} (hN : X.N.Nodup) (hj : X.N[j]? = some y := by rfl) (hi : X.N[i]? = some x := by rfl) (hv : Vis X.env.scope x := by first | exact Or.inl rfl | exact Or.inr (Or.inl rfl) | exact Or.inr (Or.inr rfl))
    (hy : Loc X.env.scope y := by first | exact Or.inl rfl | exact Or.inr rfl)
    (hd : (x == ("__debug__" : Str)) = false := by decide) (hcd : (x == ("__classdict__" : Str)) = false := by decide) (hs0 : PlainIx (.Constant (.int 0) k p2) := by exact fun _ _ => rfl)
    (hbase : attributeBase (.Subscript (.Name x p1) (.Constant (.int 0) k p2) p3) ("pop" : Str) X.env (eval (.Subscript (.Name x p1) (.Constant (.int 0) k p2) p3) X.env) = eval (.Subscript (.Name x p1) (.Constant (.int 0) k p2) p3) X.env := by rfl)
    (hline : (ap.endLine == cp.line) = true := by rfl)
    (hs : swapsWith (.Call (.Attribute (.Subscript (.Name x p1) (.Constant (.int 0) k p2) p3) ("pop" : Str) ap) [] [] cp) (some (.Name y py)) pos.line X.env = pure false := by rfl) (hf : X.fn y = true ∨ X.env.scope.names.lookup y = some .local := by first | exact .inl rfl | exact .inr rfl | assumption) :
    SS X ec W (.Assign [.Name y py] (.Call (.Attribute (.Subscript (.Name x p1) (.Constant (.int 0) k p2) p3) "pop" ap) [] [] cp) pos) (sBagPop j i) :=
  PS.imp (ps_set hN hj hy (pe_bm0 PySem.F.plainAttrs_list PySem.F.slot_list_pop PySem.F.type_list_pop mt_pop (pe_ix ix_list (pe_var hi hv hd hcd) pe_int hs0) hbase hline) hs hf) fun D σ H h => readBagPop h
end
end VL

/-! VL13: the bag made, the law's def, the end. -/
namespace VL
open PySem PySem.Spec PyProof.Rows L2

section
variable {P : Program} {w : World} {K : PySem.W.Frag} {mg : Str → Option Value} {base : Heap} {ec : EC}
/-- a def by any reading of its body -/
theorem fn_gen {x qual : Str} {st : Stmt} {f : Addr} {fd : FuncData} {N ps : List Str} {k : Nat} {sp : Sp} {t : XK → TS} (F : Fun K x qual st f fd) (S : FnScope N ps (defScope st)) (many : ∀ {vs H Q Xc}, sp vs H Q Xc → vs.length = ps.length)
    (hred : ∀ (vs : List V) (H : Hp) (Q : VK) (Xc : XK), sp vs H Q Xc → t Xc { nx := fun _ H' => Q .non H', rt := Q } (L2.start N vs) H)
    (hb : ∀ (cdv : Value) (A : Around) (outer : List PySem.Env) (s : Shared) (H : Hp) (Xc : XK), A.guards = some [] → Room k (A.deeper (envOfC qual (defScope st) s.heap.objs.size f cdv)) →
      Takes (cxOf (L2.CX P w) P w K mg base N qual (defScope st) f cdv A outer s H Xc) (fun cls d _ H => Xc cls d H) →
      PassesOwn (model P w) (A.deeper (envOfC qual (defScope st) s.heap.objs.size f cdv)) (envOfC qual (defScope st) s.heap.objs.size f cdv) (cxOf (L2.CX P w) P w K mg base N qual (defScope st) f cdv A outer s H Xc).xe →
      PSs (cxOf (L2.CX P w) P w K mg base N qual (defScope st) f cdv A outer s H Xc) (defBody st) (t Xc)) :
    FnG P w K mg base (k + 1) f fd ps sp := by
  obtain ⟨oc, od, kV, doc, pm, an, cdv, ct, osl, rfl, inK, code⟩ := F.ex
  refine ⟨many, ?_⟩
  intro A outer s H args us vs Q Xc hg hr env0 binds rel promise
  have nvs := many promise
  have kIn : K.In s.heap := env0.mod.kin.keeps fun b o e => (env0.bs b o e).1
  refine codeAny_call_function hr.depth (kIn _ _ inK) rfl S.co S.gen rfl (PySem.W.codeRec_of kIn code) (binds _ _ _ _ ?_)
  refine wpAny_newFunctionEnv_cells S.kind ?_ ?_
  · rintro ⟨nm, v⟩ hy
    rcases S.par nm (List.of_mem_zip hy).1 with q | q
    · exact Or.inl q
    · exact Or.inr ⟨q, PySem.W.cellsFrom_some _ _ _ (Or.inl q)⟩
  intro env he s1 x
  subst he
  have lim : s.heap.NoLimit := env0.mod.nolimit.keeps fun b o e => (env0.bs b o e).1
  refine ⟨lim.keeps x.toInCall.keep, codeAny_func ?_⟩
  have I : Inv (cxOf (L2.CX P w) P w K mg base N qual (defScope st) f cdv A outer s H Xc) [] (L2.start N vs) H s1 := inv_start S hr.hd env0 nvs rel x
  have D := hb cdv A outer s H Xc hg (hr.deeper _) (takes_of rfl rfl rfl rfl) (passes_of rfl)
  refine wpAny_mono (D.run [] s1 (L2.start N vs) H _ I (hred vs H Q Xc promise)) (fun fl s' ends => ?_) (fun _ _ q => q)
  cases fl with
  | ret u =>
    obtain ⟨v, σ', H', J, rv, q⟩ := ends
    exact ⟨v, H', J.os, J.bare, J.base, J.hok, rv, q⟩
  | next =>
    obtain ⟨σ', H', J, q⟩ := ends
    exact ⟨V.non, H', J.os, J.bare, J.base, J.hok, rfl, q⟩
  | brk => exact ends.elim fun _ z => z.elim fun _ y => y.2.elim
  | cont => exact ends.elim fun _ z => z.elim fun _ y => y.2.elim
end

/-! ### the bag is made -/
def β0 : Bag := ⟨[], 0, 0⟩
def ownBag (nN : Nat) (body : T) (ns : List Int) : Option Bag := match body (.scr ns :: List.replicate (nN - 1) .no) β0 with
  | .rt (.tm [.list ds, .int x, .int m]) _ => (ints? ds).map fun cs => ⟨cs, x, m⟩
  | _ => none
/-- the bag stands -/
def Bagged (H H' : Hp) (β : Bag) (b c : Addr) : Prop := Ex H H' ∧ b ≠ c ∧ H' b = some (.lst [.ref c, .int β.x, .int β.m]) ∧ H' c = some (.lst (β.cs.map V.int))
def spB (K : PySem.W.Frag) (own : List Int → Option Bag) : Sp := fun vs H Q _ => ∃ (a : Addr) (ns : List Int) (β : Bag), vs = [.ref a] ∧ SqL K H a (ns.map V.int) ∧ own ns = some β ∧ ∀ b c H', Bagged H H' β b c → Q (.ref b) H'
theorem start_one {N : List Str} {v : V} (hN : 0 < N.length) : (L2.start N [v]).length = N.length ∧ (L2.start N [v])[0]? = some (some v) := by
  unfold L2.start
  refine ⟨?_, rfl⟩
  simp only [List.length_append, List.length_map, List.length_replicate, List.length_singleton]
  omega
theorem ag_bag {K : PySem.W.Frag} {H : Hp} {N : List Str} {a : Addr} {ns : List Int} (hN : 0 < N.length) (h : SqL K H a (ns.map V.int)) : Ag K H H none H H (L2.start N [.ref a]) (.scr ns :: List.replicate (N.length - 1) .no) β0 := by
  obtain ⟨l1, l2⟩ := start_one (v := .ref a) hN
  have no1 : ∀ (i : Nat) (s : Sl), (Sl.scr ns :: List.replicate (N.length - 1) Sl.no)[i]? = some s → (i = 0 ∧ s = .scr ns) ∨ s = .no := fun i s h => by
    cases i with
    | zero =>
      left
      simp at h
      exact ⟨rfl, h.symm⟩
    | succ i =>
      right
      have hm := List.mem_of_getElem? (show (List.replicate (N.length - 1) Sl.no)[i]? = some s by simpa using h)
      exact (List.mem_replicate.mp hm).2
  refine ⟨Ex.refl _, fun _ _ h _ => h, fun _ h => h, fun _ _ => rfl, trivial, fun a h => h.elim, fun i s hs => ?_, fun i s l hs ho => ?_, fun i j s t l hs ho => ?_⟩
  · have hi : i < N.length := by
      have := lt_of_some hs
      simp only [List.length_cons, List.length_replicate] at this
      omega
    rcases no1 i s hs with ⟨rfl, rfl⟩ | rfl
    · exact ⟨_, l2, a, rfl, h⟩
    · exact ⟨_, List.getElem?_eq_getElem (by rw [l1]; exact hi), trivial⟩
  · rcases no1 i s hs with ⟨rfl, rfl⟩ | rfl <;> cases ho
  · rcases no1 i s hs with ⟨rfl, rfl⟩ | rfl <;> cases ho
theorem fn_bag {P : Program} {w : World} {K : PySem.W.Frag} {mg : Str → Option Value} {base : Heap} {ec : EC} {x qual p : Str} {st : Stmt} {f : Addr} {fd : FuncData} {N : List Str} {k : Nat} {body : T} (F : Fun K x qual st f fd) (S : FnScope N [p] (defScope st)) (hN : 0 < N.length)
    (hb : ∀ (cdv : Value) (A : Around) (outer : List PySem.Env) (s : Shared) (H : Hp) (Xc : XK), A.guards = some [] → Room k (A.deeper (envOfC qual (defScope st) s.heap.objs.size f cdv)) →
      Takes (cxOf (L2.CX P w) P w K mg base N qual (defScope st) f cdv A outer s H Xc) (fun cls d _ H => Xc cls d H) →
      PassesOwn (model P w) (A.deeper (envOfC qual (defScope st) s.heap.objs.size f cdv)) (envOfC qual (defScope st) s.heap.objs.size f cdv) (cxOf (L2.CX P w) P w K mg base N qual (defScope st) f cdv A outer s H Xc).xe →
      SSs (cxOf (L2.CX P w) P w K mg base N qual (defScope st) f cdv A outer s H Xc) ec (fun cls d _ H => Xc cls d H) (defBody st) body) :
    FnG P w K mg base (k + 1) f fd [p] (spB K (ownBag N.length body)) := by
  refine fn_gen (t := fun Xc => rS K ec (fun cls d _ H => Xc cls d H) body) F S (fun {vs H Q Xc} h => ?_) (fun vs H Q Xc h => ?_) hb
  · obtain ⟨a, ns, β, rfl, _⟩ := h
    rfl
  · obtain ⟨a, ns, β, rfl, hs, ho, q⟩ := h
    refine ⟨H, H, none, H, _, β0, ag_bag hN hs, ?_⟩
    unfold ownBag at ho
    split at ho
    · rename_i ds x m β1 heq
      rw [heq]
      intro v G' H' st hv
      obtain ⟨l, vs, rfl, h1, h2, h3, h4, h5⟩ := hv
      cases hi : ints? ds with
      | none => rw [hi] at ho; cases ho
      | some cs =>
        rw [hi] at ho
        simp only [Option.map_some, Option.some.injEq] at ho
        subst ho
        have ed := ints_eq hi
        subst ed
        cases h5 with
        | cons d1 t1 =>
          cases t1 with
          | cons d2 t2 =>
            cases t2 with
            | cons d3 t3 =>
              cases t3
              cases d2
              cases d3
              cases d1 with
              | @lst c us _ e1 e2 =>
                have eu := dpAll_ints e2
                subst eu
                refine q l c H' ⟨fun a o h => st.kp a o h (fun z => z), fun z => ?_, h2, st.gh c _ e1⟩
                rw [z, e1] at h3
                cases h3
    · cases ho

/-! ### the law's def -/
/-- bag = _law_own_bag(script) -/
def tBagIn (K : PySem.W.Frag) (ib : Nat) (own : List Int → Option Bag) : TS := fun D σ H => ∃ (a : Addr) (ns : List Int) (β : Bag), σ[0]? = some (some (.ref a)) ∧ SqL K H a (ns.map V.int) ∧ own ns = some β ∧ ∀ b c H', Bagged H H' β b c → D.nx (σ.set ib (some (.ref b))) H'
def spL (K : PySem.W.Frag) (nN ib : Nat) (own : List Int → Option Bag) (body : T) : Sp := fun vs H Q _ => ∃ (a : Addr) (ns : List Int) (β β' : Bag), vs = [.ref a] ∧ SqL K H a (ns.map V.int) ∧ own ns = some β ∧ body ((List.replicate nN Sl.no).set ib .bag) β = .rt (.fz (.bool true)) β' ∧ ∀ H', Q (.bl true) H'
theorem ag_law {K : PySem.W.Frag} {H : Hp} {σ : L2.St} {n ib : Nat} {b c : Addr} {β : Bag} (hl : σ.length = n) (hn : b ≠ c) (h1 : H b = some (.lst [.ref c, .int β.x, .int β.m])) (h2 : H c = some (.lst (β.cs.map V.int))) :
    Ag K H (fun _ => none) (some (b, c)) (fun _ => none) H (σ.set ib (some (.ref b))) ((List.replicate n Sl.no).set ib .bag) β := by
  have no1 : ∀ (i : Nat) (s : Sl), ((List.replicate n Sl.no).set ib .bag)[i]? = some s → i < n ∧ ((i = ib ∧ s = .bag) ∨ s = .no) := fun i s h => by
    have hi := lt_of_some h
    rw [List.length_set, List.length_replicate] at hi
    refine ⟨hi, ?_⟩
    by_cases e : ib = i
    · subst e
      rw [List.getElem?_set_self (by rw [List.length_replicate]; exact hi)] at h
      cases h
      exact .inl ⟨rfl, rfl⟩
    · rw [List.getElem?_set_ne e] at h
      exact .inr (List.mem_replicate.mp (List.mem_of_getElem? h)).2
  refine ⟨(fun _ _ h => by cases h), fun _ _ h _ => h, fun _ h => h, fun _ _ => rfl, ⟨hn, h1, h2⟩, fun _ _ => rfl, fun i s hs => ?_, fun i s l hs ho => ?_, fun i j s t l hs ho => ?_⟩
  · obtain ⟨hi, q⟩ := no1 i s hs
    rcases q with ⟨rfl, rfl⟩ | rfl
    · exact ⟨_, List.getElem?_set_self (by rw [hl]; exact hi), b, c, rfl, rfl⟩
    · exact ⟨_, List.getElem?_eq_getElem (by rw [List.length_set, hl]; exact hi), trivial⟩
  · obtain ⟨hi, q⟩ := no1 i s hs
    rcases q with ⟨rfl, rfl⟩ | rfl <;> cases ho
  · obtain ⟨hi, q⟩ := no1 i s hs
    rcases q with ⟨rfl, rfl⟩ | rfl <;> cases ho
theorem fn_law {P : Program} {w : World} {K : PySem.W.Frag} {mg : Str → Option Value} {base : Heap} {ec : EC} {x qual p : Str} {st : Stmt} {f : Addr} {fd : FuncData} {N : List Str} {k ib : Nat} {body : T} {s1 : Stmt} {rest : List Stmt} {own : List Int → Option Bag} (F : Fun K x qual st f fd) (S : FnScope N [p] (defScope st)) (hN : 0 < N.length) (hst : defBody st = s1 :: rest)
    (hb : ∀ (cdv : Value) (A : Around) (outer : List PySem.Env) (s : Shared) (H : Hp) (Xc : XK), A.guards = some [] → Room k (A.deeper (envOfC qual (defScope st) s.heap.objs.size f cdv)) →
      Takes (cxOf (L2.CX P w) P w K mg base N qual (defScope st) f cdv A outer s H Xc) (fun cls d _ H => Xc cls d H) →
      PassesOwn (model P w) (A.deeper (envOfC qual (defScope st) s.heap.objs.size f cdv)) (envOfC qual (defScope st) s.heap.objs.size f cdv) (cxOf (L2.CX P w) P w K mg base N qual (defScope st) f cdv A outer s H Xc).xe →
      PS (cxOf (L2.CX P w) P w K mg base N qual (defScope st) f cdv A outer s H Xc) s1 (tBagIn K ib own) ∧ SSs (cxOf (L2.CX P w) P w K mg base N qual (defScope st) f cdv A outer s H Xc) ec (fun cls d _ H => Xc cls d H) rest body) :
    FnG P w K mg base (k + 1) f fd [p] (spL K N.length ib own body) := by
  refine fn_gen (t := fun Xc => tSeq (tBagIn K ib own) (rS K ec (fun cls d _ H => Xc cls d H) body)) F S (fun {vs H Q Xc} h => ?_) (fun vs H Q Xc h => ?_) fun cdv A outer s H Xc h1 h2 h3 h4 => ?_
  · obtain ⟨a, ns, β, β', rfl, _⟩ := h
    rfl
  · obtain ⟨a, ns, β, β', rfl, hs, ho, hbody, q⟩ := h
    obtain ⟨l1, l2⟩ := start_one (v := .ref a) hN
    refine ⟨a, ns, β, l2, hs, ho, fun b c H' hbg => ?_⟩
    obtain ⟨e, n, b1, b2⟩ := hbg
    refine ⟨H', fun _ => none, some (b, c), fun _ => none, _, β, ag_law l1 n b1 b2, ?_⟩
    rw [hbody]
    intro v G' H'' st hv
    have ev := dr_bool hv
    subst ev
    exact q H''
  · obtain ⟨q1, q2⟩ := hb cdv A outer s H Xc h1 h2 h3 h4
    rw [hst]
    exact pss_cons q1 q2
section
variable {X : Cx} {W : WX} {x y s : Str} {p1 p2 py pos cpos : Pos} {k : Nat} {f : Addr} {fd : FuncData} {ps : List Str} {own : List Int → Option Bag}
theorem ss_bagIn (ib : Nat) (tk : Takes X W) (gd : X.A.guards = some []) (G : FnG X.prog X.w X.K X.mg X.base k f fd ps (spB X.K own)) (hr : Room k X.A) (hg : Gl X x) (hm : X.mg x = some (.ref f)) (hk : PySem.W.keepIn X.K (.ref f) = true) (hb : Binds X.K fd ps [])
    (hN : X.N.Nodup) (h0 : X.N[0]? = some s := by rfl) (hi : X.N[ib]? = some y := by rfl) (hvs : Vis X.env.scope s := by first | exact Or.inl rfl | exact Or.inr (Or.inl rfl) | exact Or.inr (Or.inr rfl)) (hy : Loc X.env.scope y := by first | exact Or.inl rfl | exact Or.inr rfl)
    (hd : (s == ("__debug__" : Str)) = false := by decide) (hcd : (s == ("__classdict__" : Str)) = false := by decide)
    (hdb : (x == ("__debug__" : Str)) = false := by decide) (he : starEach [.Name s p2] X.env = (false, eval (.Name s p2) X.env) :: starEach [] X.env := by rfl) (hpl : (backTo cpos (starEach [] X.env)).any (·.1) = false := by rfl)
    (hs : swapsWith (.Call (.Name x p1) [.Name s p2] [] cpos) (some (.Name y py)) pos.line X.env = pure false := by rfl) (hf : X.fn y = true ∨ X.env.scope.names.lookup y = some .local := by first | exact .inl rfl | exact .inr rfl | assumption) :
    PS X (.Assign [.Name y py] (.Call (.Name x p1) [.Name s p2] [] cpos) pos) (tBagIn X.K ib own) := by
  have pe : PE X (.Call (.Name x p1) [.Name s p2] [] cpos) (fun σ H Q => tCons (tVar 0) tNil σ H fun vs H1 => spB X.K own vs H1 Q (WE W σ)) := by
    refine ⟨fun pins s' σ H Q I h => ?_⟩
    refine wpAny_Call_Name_kw (ld_glob I hg hm ?_ hdb)
    refine PySem.W.callWith_K (h₀ := X.base) I.ok.mod.kin hk (thn ((pa_cons (pe_var h0 hvs hd hcd) pa_nil he).run cpos pins s' σ H _ I h) fun us s1 ⟨vs, H1, I1, r, q⟩ => ⟨I1.kIn, ?_⟩) he hpl
    have hl : (us ++ []).length = ps.length := by
      rw [List.append_nil, ← r.length]
      exact G.many q
    have b := hb s1 us I1.kIn hl
    rw [List.append_nil] at b
    exact call_g tk gd G hr I1 b r q
  refine PS.imp (ps_set hN hi hy pe hs hf) fun D σ H h => ?_
  obtain ⟨a, ns, β, h1, h2, h3, h4⟩ := h
  exact ⟨.ref a, h1, a, ns, β, rfl, h2, h3, fun b c H' hb => h4 b c H' hb⟩
end

/-! ### the end -/
theorem law_callG {P : Program} {w : World} {K : PySem.W.Frag} {mg mb : Str → Option Value} {k : Nat} {fa a : Addr} {fd : FuncData} {x : Str} {sp : Sp} {s₁ : Shared} {vs : List Value} {ns : List Int}
    (KX : K.In s₁.heap) (hns : s₁.heap.Ns mainGlobals mg) (hb : s₁.heap.Ns builtinsNs mb) (hbb : ∀ x : Str, x ≠ "__name__" → mb x = bootBuiltins x) (hlim : s₁.heap.NoLimit) (hg : s₁.gens = #[])
    (ha : s₁.heap.get? a = some { cls := .type "list", data := .seq vs.toArray }) (hi : IntsAre vs ns) (hl : ns.length ≤ sizeLine) (hr : Room k callerA)
    (F : ∀ base : Heap, K.In base → base.Ns mainGlobals mg → FnG P w K mg base k fa fd [x] sp) (hbind : ∀ (s : Shared) (u : Value), BindsTo s fd ⟨[u], []⟩ [(x, u)])
    (hsp : ∀ H : Hp, Only H → SqL K H a (ns.map V.int) → sp [.ref a] H (fun v _ => v = .bl true) fun _ _ _ => False) :
    codeAny (model P w) callerA (.call (.ref fa) ⟨[.ref a], []⟩) (fun r s' => r = .ok (.ret (.bool true)) ∧ OldK s₁.heap s'.heap ∧ s'.os = s₁.os ∧ AllBare s'.gens) s₁ := by
  have rv := vals_ints hi
  have lenV := hi.length
  -- from an abstract heap in which nothing but the script may be tracked
  have core : ∀ H : Hp, Only H → SqL K H a (ns.map V.int) → HOk P w H s₁.heap → (∀ b, H b ≠ none → b = a) → (H a ≠ none → K.lookup a = none) →
      codeAny (model P w) callerA (.call (.ref fa) ⟨[.ref a], []⟩) (fun r s' => r = .ok (.ret (.bool true)) ∧ OldK s₁.heap s'.heap ∧ s'.os = s₁.os ∧ AllBare s'.gens) s₁ := by
    intro H hO hS hok hA hK
    have base_of : ∀ {b : Addr} {o : Obj}, s₁.heap.get? b = some o → H b = none → (hidT s₁.heap H).get? b = some o := fun e n => hidT_get e n
    have noA : ∀ {b : Addr} {o : Obj} {es : Array DictEntry} {ep : Nat}, s₁.heap.get? b = some o → o.data = .dict es ep → H b = none := fun {b o es ep} e d => by
      cases q : H b with
      | none => rfl
      | some u =>
        have e' : b = a := hA b (by rw [q]; simp)
        subst e'
        rw [ha] at e; cases e
        have d' : Data.seq vs.toArray _ = Data.dict es ep := d
        cases d'
    have nsK : ∀ {b : Addr} {m : Str → Option Value}, s₁.heap.Ns b m → (hidT s₁.heap H).Ns b m := fun {b m} ⟨o, es, ep, e, d, r⟩ => ⟨o, es, ep, base_of e (noA e d), d, r⟩
    have hKb : K.In (hidT s₁.heap H) := fun b o e => base_of (KX b o e) (by
      cases q : H b with
      | none => rfl
      | some u =>
        have e' : b = a := hA b (by rw [q]; simp)
        subst e'
        rw [hK (by rw [q]; simp)] at e; cases e)
    have hM : Mod K mg (hidT s₁.heap H) := ⟨hKb, nsK hns, ⟨mb, nsK hb, hbb⟩, let ⟨mc, h1, h2⟩ := hlim; ⟨mc, nsK h1, h2⟩⟩
    have e0 : Env0 P w K mg (hidT s₁.heap H) callerA [] s₁ H := ⟨rfl, hM, fun b o e => of_hidT e, Nat.le_of_eq (hidT_size _ _), trivial, fun b hb => absurd (show b ∈ ([] : List Addr) from hb) (by simp), hok, .of_eq hg⟩
    refine codeAny_mono ((F _ hKb (nsK hns)).keeps (A := callerA) (outer := []) (args := ⟨[.ref a], []⟩) (us := [.ref a]) (vs := [.ref a]) rfl hr e0 (hbind s₁ (.ref a)) (.cons rfl .nil) (hsp H hO hS)) fun r s' h => ?_
    cases r with
    | error e =>
      obtain ⟨_, _, _, _, _, _, _, _, _, _, _, _, z⟩ := h
      exact z.elim
    | ok fl =>
      cases fl with
      | next => exact False.elim h
      | brk => exact False.elim h
      | cont => exact False.elim h
      | ret u =>
        obtain ⟨v, H', os, bare, un, hok', r', q⟩ := h
        have q' : v = .bl true := q
        subst q'
        obtain rfl : u = Value.bool true := r'
        refine ⟨rfl, OldK.of_keep fun b o e => ?_, os, bare⟩
        cases q : H b with
        | none => exact un.keep b o e q (by intro z; exact absurd (show b ∈ ([] : List Addr) from z) (by simp)) (by simp)
        | some u =>
          rcases hO b with z | ⟨ob, xs, z⟩
          · rw [q] at z; cases z
          · have z2 := un.frzs b ob _ z
            obtain ⟨e1, _⟩ := hok b _ z
            obtain ⟨e2, _⟩ := hok' b _ z2
            rw [e] at e1; cases e1
            exact e2
  cases hk : K.lookup a with
  | some o =>
    -- the script is one of the module's own objects
    have e := KX a o hk
    rw [ha] at e
    cases e
    refine core (fun _ => none) (fun _ => .inl rfl) (.inr ⟨_, vs.toArray, _, hk, rfl, rfl, rfl, by rw [List.size_toArray, lenV]; exact hl, by simpa using rv⟩) (fun b u z => by have z' : (none : Option HO) = some u := z; cases z') (fun b z => absurd rfl z) fun z => absurd rfl z
  | none =>
    refine core (fun b => if b = a then some (.frz { cls := .type "list", data := .seq vs.toArray } (.lst (ns.map V.int))) else none) (fun b => ?_) (.inl (.inr ⟨{ cls := .type "list", data := .seq vs.toArray }, if_pos rfl⟩)) (fun b u z => ?_) (fun b z => ?_) fun _ => hk
    · by_cases hb : b = a
      · exact .inr ⟨_, _, if_pos hb⟩
      · exact .inl (if_neg hb)
    · by_cases hb : b = a
      · have z' := (if_pos hb).symm.trans z
        cases z'
        subst hb
        exact ⟨ha, by rw [List.length_map]; exact hl, vs, _, rv, ha⟩
      · have z' := (if_neg hb).symm.trans z
        cases z'
    · by_cases hb : b = a
      · exact hb
      · exact absurd (if_neg hb) z

theorem walk_G {l : PySem.W.OpenLaw} {n k : Nat} {q : Program} {loose : List Str} {XP : (Str → Option Value) → Heap → Prop} {YP : World → Heap → Prop} {d : DefRec} {K : Params → PySem.W.Frag} {sp : World → Sp} {x : Str}
    (hn : l.most = some n) (hn2 : n ≤ sizeLine) (hdf : d.params.defaults = []) (hr : Room k callerA)
    (hY : ∀ (w : World) (h : Heap), YP w h → (K w.params).In h)
    (F : ∀ (w : World) (mg : Str → Option Value) (fa : Addr) (h : Heap), (K w.params).In h → h.Ns mainGlobals mg → mg d.name = some (.ref fa) →
      ∃ fd : FuncData, (∀ (s : Shared) (u : Value), BindsTo s fd ⟨[u], []⟩ [(x, u)]) ∧
        ∀ base : Heap, (K w.params).In base → base.Ns mainGlobals mg → FnG l.prog w (K w.params) mg base k fa fd [x] (sp w))
    (hsp : ∀ (w : World) (H : Hp) (a : Addr) (ns : List Int), ns.length ≤ n → Only H → SqL (K w.params) H a (ns.map V.int) → sp w [.ref a] H (fun v _ => v = .bl true) fun _ _ _ => False) :
    PySem.W.WalkO q loose XP YP l.row.toRowW d [] (fun f vs => PySem.call f vs) := by
  refine Att.attach_call hn hdf fun w s₀ s₁ mg mb fa o pm cd doc a vs ns G Y ho hd hcd hmg hobj hints hlen hg => ?_
  have KX := hY w _ Y
  obtain ⟨fd, hb, hF⟩ := F w mg fa _ KX G.T.g hmg
  exact law_callG KX G.T.g G.T.b G.T.builtins G.T.nolimit hg hobj hints (Nat.le_trans hlen hn2) hr hF hb (fun H hO hS => hsp w H a ns hlen hO hS)

/-- the law's promise kept at every script -/
theorem law_true {K : PySem.W.Frag} {nN ib : Nat} {own : List Int → Option Bag} {body : T} {a : Addr} {ns : List Int} {H : Hp} {β β' : Bag} (h1 : own ns = some β) (h2 : body ((List.replicate nN Sl.no).set ib .bag) β = .rt (.fz (.bool true)) β') (hS : SqL K H a (ns.map V.int)) :
    spL K nN ib own body [.ref a] H (fun v _ => v = .bl true) fun _ _ _ => False := ⟨a, ns, β, β', rfl, hS, h1, h2, fun _ => rfl⟩
end VL

/-! VL14: mirrors run. -/
namespace VL
open PySem PySem.Spec PyProof.Rows L2

/-! ### lists -/
abbrev tI (ns : List Int) : PyData := .tuple (ns.map PyData.int)
abbrev tT (rows : List (List Int)) : PyData := .tuple (rows.map tI)
def Bit (x : Int) : Prop := x = 0 ∨ x = 1
def Bits (r : List Int) : Prop := ∀ x ∈ r, Bit x

/-! ### loops -/
/-- a loop by an invariant -/
theorem loop_inv {tg : TgF} {body : T} (Inv : Nat → Env → Bag → Prop) : ∀ {ds : List PyData} {ρ : Env} {β : Bag} (n : Nat), Inv n ρ β →
    (∀ (i : Nat) (d : PyData) (ρ : Env) (β : Bag), ds[i]? = some d → Inv (n + i) ρ β → ∃ ρ1 ρ2 β2, tg d ρ = some ρ1 ∧ body ρ1 β = .nx ρ2 β2 ∧ Inv (n + i + 1) ρ2 β2) →
    ∃ ρ' β', loopD tg body [] ds ρ β = .nx ρ' β' ∧ Inv (n + ds.length) ρ' β'
  | [], ρ, β, n, h, _ => ⟨ρ, β, rfl, h⟩
  | d :: ds, ρ, β, n, h, st => by
    obtain ⟨ρ1, ρ2, β2, h1, h2, h3⟩ := st 0 d ρ β rfl h
    obtain ⟨ρ', β', g1, g2⟩ := loop_inv Inv (ds := ds) (n + 1) h3 fun i e ρ β he hi => by
      have := st (i + 1) e ρ β (by simpa using he) (by rw [show n + (i + 1) = n + 1 + i by omega]; exact hi)
      rw [show n + (i + 1) = n + 1 + i by omega] at this
      exact this
    refine ⟨ρ', β', ?_, by rw [List.length_cons, show n + (ds.length + 1) = n + 1 + ds.length by omega]; exact g2⟩
    unfold loopD
    rw [h1]
    simp only [h2]
    exact g1
/-- a loop that appends what hangs on the item alone -/
theorem loop_app {α : Type} {tg : TgF} {body : T} {g : α → PyData} {f : α → List PyData} {β : Bag} (Sh : List PyData → Env → Prop) : ∀ {xs : List α} {acc0 : List PyData} {ρ : Env}, Sh acc0 ρ →
    (∀ x ∈ xs, ∀ acc ρ, Sh acc ρ → acc.length + (f x).length ≤ (acc0 ++ xs.flatMap f).length → ∃ ρ1 ρ2, tg (g x) ρ = some ρ1 ∧ body ρ1 β = .nx ρ2 β ∧ Sh (acc ++ f x) ρ2) →
    ∃ ρ', loopD tg body [] (xs.map g) ρ β = .nx ρ' β ∧ Sh (acc0 ++ xs.flatMap f) ρ'
  | [], acc0, ρ, h, _ => ⟨ρ, rfl, by simpa using h⟩
  | x :: xs, acc0, ρ, h, st => by
    obtain ⟨ρ1, ρ2, h1, h2, h3⟩ := st x (List.mem_cons_self ..) acc0 ρ h (by simp only [List.flatMap_cons, List.length_append]; omega)
    obtain ⟨ρ', g1, g2⟩ := loop_app (f := f) Sh h3 fun y hy acc ρ hs hl => st y (List.mem_cons_of_mem _ hy) acc ρ hs (by simp only [List.flatMap_cons, List.length_append] at hl ⊢; omega)
    refine ⟨ρ', ?_, by simpa [List.flatMap_cons, List.append_assoc] using g2⟩
    rw [List.map_cons]
    unfold loopD
    rw [h1]
    simp only [h2]
    exact g1

/-- a comprehension that draws nothing -/
theorem comp_pure {tg : TgF} {t : ET} {e : E} {ρ : Env} (f : PyData → Option PyData) : ∀ {ds : List PyData} {β : Bag}, (∀ d ∈ ds, compOne tg t e ρ d β = .ok (f d) β) → compD tg t e ρ ds β = .ok (ds.filterMap f) β
  | [], β, _ => rfl
  | d :: ds, β, h => by
    unfold compD
    rw [h d (List.mem_cons_self ..)]
    simp only [R.bind]
    rw [comp_pure f fun d hd => h d (List.mem_cons_of_mem _ hd)]
    simp only
    rw [List.filterMap_cons]
    cases f d <;> rfl
/-- all items, nothing drawn -/
theorem comp_map {α : Type} {tg : TgF} {e : E} {ρ : Env} (g : α → PyData) (f : α → PyData) : ∀ {xs : List α} {β : Bag}, (∀ x ∈ xs, ∃ ρ1 r, tg (g x) ρ = some ρ1 ∧ e ρ1 β = .ok r β ∧ r.keep? = some (f x)) → compD tg eYes e ρ (xs.map g) β = .ok (xs.map f) β
  | [], β, _ => rfl
  | x :: xs, β, h => by
    obtain ⟨ρ1, r, h1, h2, h3⟩ := h x (List.mem_cons_self ..)
    rw [List.map_cons]
    unfold compD compOne
    simp only [h1, eYes, h2, h3, R.bind]
    rw [comp_map g f fun y hy => h y (List.mem_cons_of_mem _ hy)]
    rfl
/-- all items, each drawn -/
theorem comp_draw {tg : TgF} {e : E} {ρ : Env} (B : Bag → Prop) (P : PyData → PyData → Prop) : ∀ {ds : List PyData} {β : Bag}, B β → (∀ d ∈ ds, ∀ β, B β → ∃ ρ1 r y β', tg d ρ = some ρ1 ∧ e ρ1 β = .ok r β' ∧ r.keep? = some y ∧ P d y ∧ B β') →
    ∃ ys β', compD tg eYes e ρ ds β = .ok ys β' ∧ B β' ∧ Paired P ds ys
  | [], β, b, _ => ⟨[], β, rfl, b, .nil⟩
  | d :: ds, β, b, h => by
    obtain ⟨ρ1, r, y, β1, h1, h2, h3, h4, h5⟩ := h d (List.mem_cons_self ..) β b
    obtain ⟨ys, β', g1, g2, g3⟩ := comp_draw B P h5 fun d hd => h d (List.mem_cons_of_mem _ hd)
    refine ⟨y :: ys, β', ?_, g2, .cons h4 g3⟩
    unfold compD compOne
    simp only [h1, eYes, h2, h3, R.bind, g1]
    rfl
theorem eComp_eq {vs : List Nat} {tg : TgF} {t : ET} {e : E} {f : EI} {ρ : Env} {β β1 β2 : Bag} {ds ys : List PyData} (h1 : f ρ β = .ok ds β1) (h2 : ds.length ≤ big) (h3 : compD tg t e (forget vs ρ) ds β1 = .ok ys β2) : eComp vs tg t e f ρ β = .ok (.tm ys) β2 := by
  unfold eComp
  rw [h1]
  simp only [R.bind]
  rw [if_pos h2, h3]
theorem upTo_eq (n : Nat) : upTo 0 n = (List.range n).map fun (i : Nat) => PyData.int i := by
  unfold upTo
  simp only [Int.zero_add]
theorem fm1 {α γ : Type} (f : α → γ) : ∀ xs : List α, (xs.flatMap fun x => [f x]) = xs.map f
  | [] => rfl
  | x :: xs => by
    rw [List.flatMap_cons, List.map_cons, fm1 f xs]
    rfl
theorem cut_pre {α : Type} (xs : List α) (c : Nat) : cut xs none (some (c : Int)) = xs.take c := by
  unfold cut
  rw [HT.sIx_none, HT.sIx_nat, List.drop_zero, Nat.sub_zero]
  rcases Nat.le_total c xs.length with h | h
  · rw [Nat.min_eq_left h]
  · rw [Nat.min_eq_right h, List.take_length, List.take_of_length_le h]
theorem cut_suf {α : Type} (xs : List α) (c : Nat) : cut xs (some (c : Int)) none = xs.drop c := by
  unfold cut
  rw [HT.sIx_none, HT.sIx_nat]
  rcases Nat.le_total c xs.length with h | h
  · rw [Nat.min_eq_left h, List.take_of_length_le (by rw [List.length_drop]; exact Nat.le_refl _)]
  · rw [Nat.min_eq_right h, List.drop_length, List.drop_of_length_le h, List.take_nil]
/-! ### steps -/
section
variable {ρ ρ1 : Env} {β β1 β2 β3 : Bag} {f g h : E} {fs gs : EA} {r x y z : Rv} {rs as : List Rv} {o : Out}
theorem eVar_dat {i : Nat} {d : PyData} (h : ρ[i]? = some (.dat d)) : eVar i ρ β = .ok (.fz d) β := by
  unfold eVar
  rw [h]
theorem eVar_own {i : Nat} {d : List PyData} (h : ρ[i]? = some (.own d)) : eVar i ρ β = .ok (.bo d) β := by
  unfold eVar
  rw [h]
theorem eBin_ok {F : Rv → Rv → Option Rv} (h1 : f ρ β = .ok x β1) (h2 : g ρ β1 = .ok y β2) (h3 : F x y = some z) : eBin F f g ρ β = .ok z β2 := by
  unfold eBin
  rw [h1]
  simp only [R.bind]
  rw [h2]
  simp only [h3, R.of]
theorem eUn_ok {F : Rv → Option Rv} (h1 : f ρ β = .ok x β1) (h3 : F x = some z) : eUn F f ρ β = .ok z β1 := by
  unfold eUn
  rw [h1]
  simp only [R.bind, h3, R.of]
theorem eCons_ok (h1 : f ρ β = .ok x β1) (h2 : fs ρ β1 = .ok rs β2) : eCons f fs ρ β = .ok (x :: rs) β2 := by
  unfold eCons
  rw [h1]
  simp only [R.bind]
  rw [h2]
theorem eCall_ok {F : List Rv → Option Rv} (h1 : fs ρ β = .ok rs β1) (h3 : F rs = some z) : eCall F fs ρ β = .ok z β1 := by
  unfold eCall
  rw [h1]
  simp only [R.bind, h3, R.of]
theorem eFnA_ok {F : List Rv → Bag → R Rv} {o : R Rv} (h1 : fs ρ β = .ok rs β1) (h2 : args? rs = some as) (h3 : F as β1 = o) : eFnA F fs ρ β = o := by
  unfold eFnA
  rw [h1]
  simp only [R.bind, R.of, h2, h3]
theorem eFnK_ok {F : List Rv → Bag → R Rv} {o : R Rv} {np nk : Nat} {perm : List Nat} {ks : List Rv} (h1 : fs ρ β = .ok rs β1) (h2 : gs ρ β1 = .ok ks β2) (hl : rs.length = np ∧ ks.length = nk) (h3 : args? (pick perm (rs ++ ks)) = some as) (h4 : F as β2 = o) : eFnK np nk perm F fs gs ρ β = o := by
  unfold eFnK
  rw [h1]
  simp only [R.bind]
  rw [h2]
  simp only [if_pos hl, R.of, h3, h4]
theorem eTest_ok {b : Bool} (h1 : f ρ β = .ok (.fz (.bool b)) β1) : eTest f ρ β = .ok b β1 := by
  unfold eTest
  rw [h1]
  rfl
theorem eIf_t {t : ET} (h1 : t ρ β = .ok true β1) (h2 : f ρ β1 = .ok z β2) : eIf t f g ρ β = .ok z β2 := by
  unfold eIf
  rw [h1]
  exact h2
theorem eIf_f {t : ET} (h1 : t ρ β = .ok false β1) (h2 : g ρ β1 = .ok z β2) : eIf t f g ρ β = .ok z β2 := by
  unfold eIf
  rw [h1]
  exact h2
theorem eSlice_ok {l u : EO} {a b : Option Int} (h1 : f ρ β = .ok x β1) (h2 : l ρ β1 = .ok a β2) (h3 : u ρ β2 = .ok b β3) (h4 : oSlice x a b = some z) : eSlice f l u ρ β = .ok z β3 := by
  unfold eSlice
  rw [h1]
  simp only [R.bind]
  rw [h2]
  simp only
  rw [h3]
  simp only [h4, R.of]
theorem eSome_ok {i : Int} (h1 : f ρ β = .ok (.fz (.int i)) β1) : eSome f ρ β = .ok (some i) β1 := by
  unfold eSome
  rw [h1]
  rfl
theorem iRng1_ok {j : Int} {n : Nat} (h1 : fs ρ β = .ok [.fz (.int j)] β1) (h2 : -(2 ^ 62) ≤ j) (h3 : j < 2 ^ 62) (h4 : j.toNat = n) : iRng1 fs ρ β = .ok (upTo 0 n) β1 := by
  unfold iRng1
  rw [h1, ← h4]
  show R.of (if -(2 ^ 62) ≤ j ∧ j < 2 ^ 62 then some (upTo 0 j.toNat) else none) β1 = _
  rw [if_pos ⟨h2, h3⟩]
  rfl
theorem iRng2_ok {i j : Int} {n : Nat} (h1 : fs ρ β = .ok [.fz (.int i), .fz (.int j)] β1) (h2 : -(2 ^ 62) ≤ i) (h3 : i < 2 ^ 62) (h4 : -(2 ^ 62) ≤ j) (h5 : j < 2 ^ 62) (h6 : (j - i).toNat = n) : iRng2 fs ρ β = .ok (upTo i n) β1 := by
  unfold iRng2
  rw [h1, ← h6]
  show R.of (if _ then some (upTo i (j - i).toNat) else none) β1 = _
  rw [if_pos ⟨h2, h3, h4, h5⟩]
  rfl
theorem oMulT_ok {a : List PyData} {k : Int} {m : Nat} (h1 : k.toNat = m) (h : -(2 ^ 62) ≤ k ∧ k ≤ 1000000 ∧ a.length * k.toNat ≤ big) : oMul (.tm a) (.fz (.int k)) = some (.tm (List.replicate m a).flatten) := by
  subst h1
  show (if -(2 ^ 62) ≤ k ∧ k ≤ 1000000 ∧ a.length * k.toNat ≤ big then some (Rv.tm (List.replicate k.toNat a).flatten) else none) = _
  exact if_pos h
theorem oMulU_ok {a : List PyData} {k : Int} {m : Nat} (h1 : k.toNat = m) (h : -(2 ^ 62) ≤ k ∧ k ≤ 1000000 ∧ a.length * k.toNat ≤ big) : oMul (.fz (.tuple a)) (.fz (.int k)) = some (.fz (.tuple (List.replicate m a).flatten)) := by
  subst h1
  show (if -(2 ^ 62) ≤ k ∧ k ≤ 1000000 ∧ a.length * k.toNat ≤ big then some (Rv.fz (.tuple (List.replicate k.toNat a).flatten)) else none) = _
  exact if_pos h
theorem cEq_ok {d e : PyData} {b : Bool} (h1 : x.data? = some d) (h2 : y.data? = some e) (k1 : okD d = true) (k2 : okD e = true) (h : PyData.eqv d e = b) : cEq x y = some (.fz (.bool b)) := by
  unfold cEq
  rw [h1, h2]
  simp only [if_pos (And.intro k1 k2), h]
theorem cNe_ok {d e : PyData} {b : Bool} (h1 : x.data? = some d) (h2 : y.data? = some e) (k1 : okD d = true) (k2 : okD e = true) (h : (!PyData.eqv d e) = b) : cNe x y = some (.fz (.bool b)) := by
  unfold cNe
  rw [h1, h2]
  simp only [if_pos (And.intro k1 k2), h]
theorem oMod_ok {a b : Int} (h : 0 < b) : oMod (.fz (.int a)) (.fz (.int b)) = some (.fz (.int (a % b))) := by
  show (if CP a b then some (Rv.fz (.int (a % b))) else none) = _
  exact if_pos h
theorem oFdiv_ok {a b : Int} (h : 0 < b) (h2 : b < 1073741824) : oFdiv (.fz (.int a)) (.fz (.int b)) = some (.fz (.int (a / b))) := by
  show (if CD a b then some (Rv.fz (.int (a / b))) else none) = _
  exact if_pos ⟨h, .inl h2⟩
theorem oMul_ok {a b : Int} (h : CM a b) : oMul (.fz (.int a)) (.fz (.int b)) = some (.fz (.int (a * b))) := by
  show (if CM a b then some (Rv.fz (.int (a * b))) else none) = _
  exact if_pos h
theorem oShr_ok {a b : Int} (h : 0 ≤ b) : oShr (.fz (.int a)) (.fz (.int b)) = some (.fz (.int (a / 2 ^ b.toNat))) := by
  show (if CN a b then some (Rv.fz (.int (a / 2 ^ b.toNat))) else none) = _
  exact if_pos h
theorem whileD_f {t : ET} {body : T} {junk : List Nat} {n : Nat} (h : t ρ β = .ok false β1) : whileD t body junk (n + 1) ρ β = .nx ρ β1 := by
  unfold whileD
  rw [h]
theorem whileD_t {t : ET} {body : T} {n : Nat} {ρ2 : Env} (h : t ρ β = .ok true β1) (h2 : body ρ β1 = .nx ρ2 β2) : whileD t body [] (n + 1) ρ β = whileD t body [] n ρ2 β2 := by
  conv => lhs; unfold whileD
  rw [h]
  simp only [h2]
  rfl
theorem eAnd_f {t u : ET} (h : t ρ β = .ok false β1) : eAnd t u ρ β = .ok false β1 := by
  unfold eAnd
  rw [h]
  rfl
theorem eAnd_t {t u : ET} {b : Bool} (h : t ρ β = .ok true β1) (h2 : u ρ β1 = .ok b β2) : eAnd t u ρ β = .ok b β2 := by
  unfold eAnd
  rw [h]
  exact h2
theorem sBagSet_ok {i : Nat} {two : Bool} {n : Int} (h0 : Env.isBag ρ i = true) (h1 : f ρ β = .ok (.fz (.int n)) β1) : sBagSet i two f ρ β = .nx ρ (if two then ⟨β1.cs, β1.x, n⟩ else ⟨β1.cs, n, β1.m⟩) := by
  unfold sBagSet
  rw [if_pos h0, h1]
  rfl
theorem sBagPop_ok {i j : Nat} {n : Int} (h0 : Env.isBag ρ i = true) (h1 : β.cs[β.cs.length - 1]? = some n) (h2 : i ≠ j ∧ j < ρ.length) : sBagPop j i ρ β = .nx (ρ.set j (.dat (.int n))) ⟨β.cs.dropLast, β.x, β.m⟩ := by
  unfold sBagPop
  rw [if_pos h0, h1]
  simp only [if_pos h2]
theorem run_rt {nN np : Nat} {body : T} (hl : rs.length = np) (h : body (rs.map Rv.sl ++ List.replicate (nN - np) .no) β = .rt r β1) : runF nN np body rs β = .ok r β1 := by
  unfold runF
  rw [if_pos hl, h]
  rfl
theorem sRet_ok (h1 : f ρ β = .ok r β1) (h2 : r.out = x) : sRet f ρ β = .rt x β1 := by
  unfold sRet
  rw [h1, ← h2]
  rfl
theorem sSeq_nx {s t : T} (h1 : s ρ β = .nx ρ1 β1) (h2 : t ρ1 β1 = o) : sSeq s t ρ β = o := by
  unfold sSeq
  rw [h1]
  exact h2
theorem sSeq_rt {s t : T} (h1 : s ρ β = .rt r β1) : sSeq s t ρ β = .rt r β1 := by
  unfold sSeq
  rw [h1]
  rfl
theorem sAsg_ok {i : Nat} {frz : Bool} {sl : Sl} (h1 : f ρ β = .ok r β1) (h2 : r.slot frz = some sl) (h3 : i < ρ.length) : sAsg i frz f ρ β = .nx (ρ.set i sl) β1 := by
  unfold sAsg
  rw [h1]
  simp only [R.out, h2, if_pos h3]
theorem sApp_ok {i : Nat} {ds : List PyData} {d : PyData} (h0 : ρ[i]? = some (.own ds)) (h1 : f ρ β = .ok r β1) (h2 : r.keep? = some d) (h3 : ds.length < big) : sApp i f ρ β = .nx (ρ.set i (.own (ds ++ [d]))) β1 := by
  unfold sApp Env.own?
  rw [h0]
  simp only
  rw [h1]
  simp only [R.out, h2, if_pos h3]
theorem sExt_ok {i : Nat} {ds es : List PyData} (h0 : ρ[i]? = some (.own ds)) (h1 : f ρ β = .ok r β1) (h2 : r.lst? = some es) (h3 : ds.length + es.length ≤ big) : sExt i f ρ β = .nx (ρ.set i (.own (ds ++ es))) β1 := by
  unfold sExt Env.own?
  rw [h0]
  simp only
  rw [h1]
  simp only [R.out, h2, if_pos h3]
theorem sLoop_ok {tg : TgF} {fi : EI} {body : T} {ds : List PyData} (h1 : fi ρ β = .ok ds β1) (h2 : loopD tg body [] ds ρ β1 = o) : sLoop tg [] fi body ρ β = o := by
  unfold sLoop
  rw [h1]
  exact h2
theorem sIf_t {t : ET} {s u : T} (h1 : t ρ β = .ok true β1) (h2 : s ρ β1 = o) : sIf t s u ρ β = o := by
  unfold sIf
  rw [h1]
  exact h2
theorem sIf_f {t : ET} {s u : T} (h1 : t ρ β = .ok false β1) (h2 : u ρ β1 = o) : sIf t s u ρ β = o := by
  unfold sIf
  rw [h1]
  exact h2
theorem sUnp_ok {t : TgF} {d : PyData} (h1 : f ρ β = .ok (.fz d) β1) (h2 : t d ρ = some ρ1) : sUnp t f ρ β = .nx ρ1 β1 := by
  unfold sUnp
  rw [h1]
  simp only [R.out, h2]
theorem sPar2_ok {i j : Nat} {fi fj : Bool} (h1 : f ρ β = .ok x β1) (h2 : g ρ β1 = .ok y β2) (h3 : puts [(x, i, fi), (y, j, fj)] ρ = some ρ1) : sPar2 i fi j fj f g ρ β = .nx ρ1 β2 := by
  unfold sPar2
  rw [h1]
  simp only [R.out]
  rw [h2]
  simp only [h3]
theorem sPar3_ok {i j l : Nat} {fi fj fl : Bool} (h1 : f ρ β = .ok x β1) (h2 : g ρ β1 = .ok y β2) (h3 : h ρ β2 = .ok z β3) (h4 : puts [(x, i, fi), (y, j, fj), (z, l, fl)] ρ = some ρ1) : sPar3 i fi j fj l fl f g h ρ β = .nx ρ1 β3 := by
  unfold sPar3
  rw [h1]
  simp only [R.out]
  rw [h2]
  simp only
  rw [h3]
  simp only [h4]
end
theorem zipL_map (a b : List Int) : zipL (a.map PyData.int) (b.map PyData.int) = (a.zip b).map fun p => PyData.tuple [.int p.1, .int p.2] := by
  induction a generalizing b with
  | nil => simp [zipL]
  | cons x a ih =>
    cases b with
    | nil => simp [zipL]
    | cons y b => simp [zipL, ih]
end VL

namespace Lw
open PySem PySem.Spec PyProof.Rows L2 VL
/-! ### the text -/
def topS (i : Nat) : Stmt := PySem.Challenge.pw_fewbitsread_k55_whole_cells.main.body.getD i (.Pass ⟨0, 0, 0, 0⟩)
def ec0 : EC := fun _ _ _ _ => False
theorem takes0 {X : Cx} : Takes X W0 := fun _ _ ⟨_, _, _, _, _, _, _, _, _, _, _, _, _, _, _, _, w⟩ => w.elim
abbrev s__law_are_alike : Stmt := topS 22
theorem sc__law_are_alike : FnScope ["found", "some", "one"] ["found"] (defScope s__law_are_alike) := ⟨rfl, rfl, rfl, by decide +kernel, rfl, by decide +kernel, by decide +kernel⟩
def b__law_are_alike : T := sRet (eCall (f1 gAll) (eCons (eComp [1] (tgN 1) (eYes) (eBin (cEq) (eComp [2] (tgN 2) (eYes) (eCall (f1 gRepr) (eCons (eVar 2) (eNil))) (iSeq false (eVar 1))) (eBin oMul (eCall fLst (eCons (eCall (f1 gRepr) (eCons (eBin oIdx (eVar 1) (eC (.int 0))) (eNil))) (eNil))) (eCall (f1 gLen) (eCons (eVar 1) (eNil))))) (iSeq false (eVar 0))) (eNil)))
def F__law_are_alike : List Rv → Bag → R Rv := runF 3 1 b__law_are_alike
abbrev s__law_own_question : Stmt := topS 21
theorem sc__law_own_question : FnScope ["cell", "tape", "h", "found", "d", "j", "row", "at", "is_side"] ["cell", "tape", "h"] (defScope s__law_own_question) := ⟨rfl, rfl, rfl, by decide +kernel, rfl, by decide +kernel, by decide +kernel⟩
def L1__law_own_question : T := sSeq (sAsg 7 true (eBin oIdx (eVar 0) (eVar 5))) (sSeq (sAsg 8 true (eBin (cEq) (eBin oAnd (eBin oShr (eVar 2) (eBin oSub (eBin oSub (eVar 4) (eC (.int 1))) (eVar 5))) (eC (.int 1))) (eC (.int 1)))) (sApp 3 (eIf (eTest (eVar 8)) (eBin oAdd (eBin oAdd (eSlice (eVar 6) (eNone) (eSome (eVar 7))) (eCall fTup (eCons (eBin oSub (eC (.int 1)) (eBin oIdx (eVar 6) (eVar 7))) (eNil)))) (eSlice (eVar 6) (eSome (eBin oAdd (eVar 7) (eC (.int 1)))) (eNone))) (eVar 6))))
def b__law_own_question : T := sSeq (sPar2 3 false 4 true (eCall fLst (eNil)) (eCall (f1 gLen) (eCons (eVar 1) (eNil)))) (sSeq (sLoop (tgT 2 [tgN 5, tgN 6]) [] (iEnm true (eVar 1)) (L1__law_own_question)) (sRet (eCall (f1 gTuple) (eCons (eVar 3) (eNil)))))
def F__law_own_question : List Rv → Bag → R Rv := runF 9 3 b__law_own_question
abbrev s_lot_row : Stmt := topS 2
theorem sc_lot_row : FnScope ["n", "lot", "known", "place"] ["n", "lot"] (defScope s_lot_row) := ⟨rfl, rfl, rfl, by decide +kernel, rfl, by decide +kernel, by decide +kernel⟩
def b_lot_row : T := sSeq (sAsg 2 true (eDc [3] (tgN 3) (eYes) (eVar 3) (eC (.int 1)) (iSeq false (eVar 1)))) (sRet (eCall (f1 gTuple) (eCons (eComp [3] (tgN 3) (eYes) (eDGet (eVar 2) (eVar 3) (eC (.int 0))) (iRng1 (eCons (eVar 0) (eNil)))) (eNil))))
def F_lot_row : List Rv → Bag → R Rv := runF 4 2 b_lot_row
abbrev s_rows_added : Stmt := topS 1
theorem sc_rows_added : FnScope ["one", "other", "a", "b"] ["one", "other"] (defScope s_rows_added) := ⟨rfl, rfl, rfl, by decide +kernel, rfl, by decide +kernel, by decide +kernel⟩
def b_rows_added : T := sRet (eCall (f1 gTuple) (eCons (eComp [2, 3] (tgT 2 [tgN 2, tgN 3]) (eYes) (eBin oMod (eBin oAdd (eVar 2) (eVar 3)) (eC (.int 2))) (iZp2 false (eVar 0) (eVar 1))) (eNil)))
def F_rows_added : List Rv → Bag → R Rv := runF 4 2 b_rows_added
abbrev s_cell_at : Stmt := topS 4
theorem sc_cell_at : FnScope ["k", "d", "place", "found", "step"] ["k", "d", "place"] (defScope s_cell_at) := ⟨rfl, rfl, rfl, by decide +kernel, rfl, by decide +kernel, by decide +kernel⟩
def L1_cell_at : T := sSeq (sApp 3 (eBin oMod (eVar 2) (eVar 0))) (sAsg 2 true (eBin oFdiv (eVar 2) (eVar 0)))
def b_cell_at : T := sSeq (sAsg 3 false (eCall fLst (eNil))) (sSeq (sLoop (tgN 4) [] (iRng1 (eCons (eVar 1) (eNil))) (L1_cell_at)) (sRet (eCall (f1 gTuple) (eCons (eUn uRev (eVar 3)) (eNil)))))
def F_cell_at : List Rv → Bag → R Rv := runF 5 3 b_cell_at
abbrev s_sides_of : Stmt := topS 6
theorem sc_sides_of : FnScope ["d", "h"] ["d", "h"] (defScope s_sides_of) := ⟨rfl, rfl, rfl, by decide +kernel, rfl, by decide +kernel, by decide +kernel⟩
def b_sides_of : T := sRet (eFnA F_cell_at (eCons (eC (.int 2)) (eCons (eVar 0) (eCons (eVar 1) (eNil)))))
def F_sides_of : List Rv → Bag → R Rv := runF 2 2 b_sides_of
abbrev s_question : Stmt := topS 7
theorem sc_question : FnScope ["k", "cell", "tape", "h", "found", "side", "item", "row"] ["k", "cell", "tape", "h"] (defScope s_question) := ⟨rfl, rfl, rfl, by decide +kernel, rfl, by decide +kernel, by decide +kernel⟩
def L1_question : T := sApp 4 (eIf (eTest (eBin (cEq) (eVar 5) (eC (.int 1)))) (eFnA F_rows_added (eCons (eVar 7) (eCons (eFnA F_lot_row (eCons (eVar 0) (eCons (eCall fTup (eCons (eVar 6) (eNil))) (eNil)))) (eNil)))) (eVar 7))
def b_question : T := sSeq (sAsg 4 false (eCall fLst (eNil))) (sSeq (sLoop (tgT 3 [tgN 5, tgN 6, tgN 7]) [] (iZp3 true (eFnA F_sides_of (eCons (eCall (f1 gLen) (eCons (eVar 1) (eNil))) (eCons (eVar 3) (eNil)))) (eVar 1) (eVar 2)) (L1_question)) (sRet (eCall (f1 gTuple) (eCons (eVar 4) (eNil)))))
def F_question : List Rv → Bag → R Rv := runF 8 4 b_question
abbrev s_all_questions : Stmt := topS 8
theorem sc_all_questions : FnScope ["k", "cell", "tape", "h"] ["k", "cell", "tape"] (defScope s_all_questions) := ⟨rfl, rfl, rfl, by decide +kernel, rfl, by decide +kernel, by decide +kernel⟩
def b_all_questions : T := sRet (eCall (f1 gTuple) (eCons (eComp [3] (tgN 3) (eYes) (eFnA F_question (eCons (eVar 0) (eCons (eVar 1) (eCons (eVar 2) (eCons (eVar 3) (eNil)))))) (iRng1 (eCons (eBin oShl (eC (.int 1)) (eCall (f1 gLen) (eCons (eVar 1) (eNil)))) (eNil)))) (eNil)))
def F_all_questions : List Rv → Bag → R Rv := runF 4 3 b_all_questions
abbrev s__law_ask_questions : Stmt := topS 28
theorem sc__law_ask_questions : FnScope ["k", "cell", "tape", "h", "due", "found", "due_all"] ["k", "cell", "tape"] (defScope s__law_ask_questions) := ⟨rfl, rfl, rfl, by decide +kernel, rfl, by decide +kernel, by decide +kernel⟩
def L1__law_ask_questions : T := sSeq (sAsg 4 true (eFnA F__law_own_question (eCons (eVar 1) (eCons (eVar 2) (eCons (eVar 3) (eNil)))))) (sSeq (sApp 6 (eVar 4)) (sSeq (sApp 5 (eCall fLst (eCons (eVar 4) (eCons (eFnA F_question (eCons (eVar 0) (eCons (eVar 1) (eCons (eVar 2) (eCons (eVar 3) (eNil)))))) (eCons (eFnK 0 4 [0, 1, 2, 3] F_question eNil (eCons (eVar 0) (eCons (eVar 1) (eCons (eVar 2) (eCons (eVar 3) (eNil)))))) (eNil)))))) (sApp 5 (eCall fLst (eCons (eVar 2) (eCons (eFnA F_question (eCons (eVar 0) (eCons (eVar 1) (eCons (eVar 4) (eCons (eVar 3) (eNil)))))) (eCons (eFnA F_question (eCons (eVar 0) (eCons (eVar 1) (eCons (eFnA F_question (eCons (eVar 0) (eCons (eVar 1) (eCons (eVar 2) (eCons (eVar 3) (eNil)))))) (eCons (eVar 3) (eNil)))))) (eNil))))))))
def b__law_ask_questions : T := sSeq (sPar2 5 false 6 false (eCall fLst (eNil)) (eCall fLst (eNil))) (sSeq (sLoop (tgN 3) [] (iRng1 (eCons (eBin oIdx (eCall fLst (eCons (eC (.int 1)) (eCons (eC (.int 2)) (eCons (eC (.int 4)) (eCons (eC (.int 8)) (eCons (eC (.int 16)) (eNil))))))) (eCall (f1 gLen) (eCons (eVar 1) (eNil)))) (eNil))) (L1__law_ask_questions)) (sSeq (sAsg 4 true (eCall (f1 gTuple) (eCons (eVar 6) (eNil)))) (sSeq (sApp 5 (eCall fLst (eCons (eVar 4) (eCons (eFnA F_all_questions (eCons (eVar 0) (eCons (eVar 1) (eCons (eVar 2) (eNil))))) (eCons (eFnK 0 3 [0, 1, 2] F_all_questions eNil (eCons (eVar 0) (eCons (eVar 1) (eCons (eVar 2) (eNil))))) (eNil)))))) (sRet (eVar 5)))))
def F__law_ask_questions : List Rv → Bag → R Rv := runF 7 3 b__law_ask_questions
abbrev s__law_draw : Stmt := topS 13
theorem sc__law_draw : FnScope ["bag", "below", "cell", "found"] ["bag", "below"] (defScope s__law_draw) := ⟨rfl, rfl, rfl, by decide +kernel, rfl, by decide +kernel, by decide +kernel⟩
def L1__law_draw : T := sSeq (sBagPop 2 0) (sBagSet 0 false (eIf (eTest (eBin (cGt) (eVar 2) (eBin oPow (eC (.int 10)) (eC (.int 9))))) (eVar 2) (eC (.int 0))))
def b__law_draw : T := sSeq (sWhile (eAnd (eTest (eBin (cEq) (eBag 0 false) (eC (.int 0)))) (eBagNE 0)) (L1__law_draw) [] (fun _ β => β.cs.length + 1)) (sSeq (sIf (eTest (eBin (cGt) (eBag 0 false) (eC (.int 0)))) (sSeq (sAsg 3 true (eBin oMod (eCall (f1 gInt) (eCons (eBag 0 false) (eNil))) (eVar 1))) (sSeq (sBagSet 0 false (eBin oFdiv (eBag 0 false) (eVar 1))) (sRet (eVar 3)))) (sNil)) (sSeq (sBagSet 0 true (eBin oMod (eCall (f1 gInt) (eCons (eBin oAdd (eBin oMul (eBag 0 true) (eC (.int 48271))) (eC (.int 11))) (eNil))) (eC (.int 2147483647)))) (sRet (eBin oMod (eCall (f1 gInt) (eCons (eBin oFdiv (eBin oMod (eCall (f1 gInt) (eCons (eBin oMul (eBag 0 true) (eBag 0 true)) (eNil))) (eC (.int 2147483629))) (eC (.int 7))) (eNil))) (eVar 1)))))
def F__law_draw : List Rv → Bag → R Rv := runF 4 2 b__law_draw
abbrev s__law_own_answer : Stmt := topS 25
theorem sc__law_own_answer : FnScope ["k", "store", "asked", "places", "row", "place", "ones", "longer", "c", "bit"] ["k", "store", "asked"] (defScope s__law_own_answer) := ⟨rfl, rfl, rfl, by decide +kernel, rfl, by decide +kernel, by decide +kernel⟩
def L1__law_own_answer : T := sExt 7 (eComp [8] (tgN 8) (eYes) (eBin oAdd (eBin oMul (eVar 5) (eVar 0)) (eVar 8)) (iSeq false (eVar 6)))
def L2__law_own_answer : T := sSeq (sPar2 6 true 7 false (eComp [8, 9] (tgT 2 [tgN 8, tgN 9]) (eTest (eBin (cEq) (eVar 9) (eC (.int 1)))) (eVar 8) (iEnm false (eVar 4))) (eCall fLst (eNil))) (sSeq (sLoop (tgN 5) [] (iSeq true (eVar 3)) (L1__law_own_answer)) (sSeq (sFrz 7) (sAsg 3 true (eVar 7))))
def b__law_own_answer : T := sSeq (sAsg 3 true (eCall fLst (eCons (eC (.int 0)) (eNil)))) (sSeq (sLoop (tgN 4) [] (iSeq true (eVar 2)) (L2__law_own_answer)) (sRet (eBin oMod (eCall (f1 gInt) (eCons (eCall (f1 gSum) (eCons (eComp [5] (tgN 5) (eYes) (eBin oIdx (eVar 1) (eVar 5)) (iSeq false (eVar 3))) (eNil))) (eNil))) (eC (.int 2)))))
def F__law_own_answer : List Rv → Bag → R Rv := runF 10 3 b__law_own_answer
abbrev s_answer_bit : Stmt := topS 9
theorem sc_answer_bit : FnScope ["k", "store", "asked", "places", "row", "some", "longer", "place", "item", "bit"] ["k", "store", "asked"] (defScope s_answer_bit) := ⟨rfl, rfl, rfl, by decide +kernel, rfl, by decide +kernel, by decide +kernel⟩
def L1_answer_bit : T := sExt 6 (eComp [8] (tgN 8) (eYes) (eBin oAdd (eBin oMul (eVar 7) (eVar 0)) (eVar 8)) (iSeq false (eVar 5)))
def L2_answer_bit : T := sSeq (sAsg 5 true (eComp [8, 9] (tgT 2 [tgN 8, tgN 9]) (eTest (eBin (cEq) (eVar 9) (eC (.int 1)))) (eVar 8) (iEnm false (eVar 4)))) (sSeq (sAsg 6 false (eCall fLst (eNil))) (sSeq (sLoop (tgN 7) [] (iSeq true (eVar 3)) (L1_answer_bit)) (sSeq (sFrz 6) (sAsg 3 true (eVar 6)))))
def b_answer_bit : T := sSeq (sAsg 3 true (eCall fLst (eCons (eC (.int 0)) (eNil)))) (sSeq (sLoop (tgN 4) [] (iSeq true (eVar 2)) (L2_answer_bit)) (sRet (eBin oMod (eCall (f1 gSum) (eCons (eComp [7] (tgN 7) (eYes) (eBin oIdx (eVar 1) (eVar 7)) (iSeq false (eVar 3))) (eNil))) (eC (.int 2)))))
def F_answer_bit : List Rv → Bag → R Rv := runF 10 3 b_answer_bit
abbrev s__law_ask_answers : Stmt := topS 29
theorem sc__law_ask_answers : FnScope ["k", "store", "some", "found", "asked", "due"] ["k", "store", "some"] (defScope s__law_ask_answers) := ⟨rfl, rfl, rfl, by decide +kernel, rfl, by decide +kernel, by decide +kernel⟩
def L1__law_ask_answers : T := sSeq (sAsg 5 true (eFnA F__law_own_answer (eCons (eVar 0) (eCons (eVar 1) (eCons (eVar 4) (eNil)))))) (sApp 3 (eCall fLst (eCons (eVar 5) (eCons (eFnA F_answer_bit (eCons (eVar 0) (eCons (eVar 1) (eCons (eVar 4) (eNil))))) (eCons (eFnK 0 3 [0, 1, 2] F_answer_bit eNil (eCons (eVar 0) (eCons (eVar 1) (eCons (eVar 4) (eNil))))) (eNil))))))
def b__law_ask_answers : T := sSeq (sAsg 3 false (eCall fLst (eNil))) (sSeq (sLoop (tgN 4) [] (iSeq true (eVar 2)) (L1__law_ask_answers)) (sRet (eVar 3)))
def F__law_ask_answers : List Rv → Bag → R Rv := runF 6 3 b__law_ask_answers
abbrev s__law_odd : Stmt := topS 30
theorem sc__law_odd : FnScope ["bits", "texts", "bit"] ["bits"] (defScope s__law_odd) := ⟨rfl, rfl, rfl, by decide +kernel, rfl, by decide +kernel, by decide +kernel⟩
def b__law_odd : T := sSeq (sAsg 1 true (eComp [2] (tgN 2) (eYes) (eCall (f1 gRepr) (eCons (eVar 2) (eNil))) (iSeq false (eVar 0)))) (sSeq (sIf (eTest (eBin (cNe) (eBin oAdd (eCnt (eVar 1) (eC (.str "0"))) (eCnt (eVar 1) (eC (.str "1")))) (eCall (f1 gLen) (eCons (eVar 1) (eNil))))) (sRet (eC .none)) (sNil)) (sRet (eBin oMod (eCall (f1 gInt) (eCons (eCnt (eVar 1) (eC (.str "1"))) (eNil))) (eC (.int 2)))))
def F__law_odd : List Rv → Bag → R Rv := runF 3 1 b__law_odd
abbrev s__law_own_cell : Stmt := topS 20
theorem sc__law_own_cell : FnScope ["k", "d", "place", "i", "found", "left"] ["k", "d", "place"] (defScope s__law_own_cell) := ⟨rfl, rfl, rfl, by decide +kernel, rfl, by decide +kernel, by decide +kernel⟩
def L1__law_own_cell : T := sSeq (sApp 4 (eBin oMod (eCall (f1 gInt) (eCons (eVar 5) (eNil))) (eVar 0))) (sAsg 5 true (eBin oFdiv (eVar 5) (eVar 0)))
def b__law_own_cell : T := sSeq (sPar2 4 false 5 true (eCall fLst (eNil)) (eVar 2)) (sSeq (sLoop (tgN 3) [] (iRng1 (eCons (eVar 1) (eNil))) (L1__law_own_cell)) (sRet (eCall (f1 gTuple) (eCons (eUn uRev (eVar 4)) (eNil)))))
def F__law_own_cell : List Rv → Bag → R Rv := runF 6 3 b__law_own_cell
abbrev s_told_item : Stmt := topS 10
theorem sc_told_item : FnScope ["k", "store", "cell", "tape", "asked"] ["k", "store", "cell", "tape"] (defScope s_told_item) := ⟨rfl, rfl, rfl, by decide +kernel, rfl, by decide +kernel, by decide +kernel⟩
def b_told_item : T := sRet (eBin oMod (eCall (f1 gSum) (eCons (eComp [4] (tgN 4) (eYes) (eFnA F_answer_bit (eCons (eVar 0) (eCons (eVar 1) (eCons (eVar 4) (eNil))))) (iSeq false (eFnA F_all_questions (eCons (eVar 0) (eCons (eVar 2) (eCons (eVar 3) (eNil))))))) (eNil))) (eC (.int 2)))
def F_told_item : List Rv → Bag → R Rv := runF 5 4 b_told_item
abbrev s__law_ask_items : Stmt := topS 31
theorem sc__law_ask_items : FnScope ["k", "d", "stores", "tapes", "places", "found", "place", "holders", "cell", "tape", "some", "due", "store", "h", "asked"] ["k", "d", "stores", "tapes", "places"] (defScope s__law_ask_items) := ⟨rfl, rfl, rfl, by decide +kernel, rfl, by decide +kernel, by decide +kernel⟩
def L1__law_ask_items : T := sSeq (sAsg 11 true (eBin oIdx (eVar 12) (eVar 6))) (sApp 5 (eCall fLst (eCons (eVar 11) (eCons (eFnA F_told_item (eCons (eVar 0) (eCons (eVar 12) (eCons (eVar 8) (eCons (eVar 9) (eNil)))))) (eNil)))))
def L2__law_ask_items : T := sSeq (sLoop (tgN 12) [] (iSeq true (eVar 2)) (L1__law_ask_items)) (sSeq (sAsg 11 true (eBin oIdx (eBin oIdx (eVar 2) (eC (.int 0))) (eVar 6))) (sApp 5 (eCall fLst (eCons (eVar 11) (eCons (eFnK 0 4 [0, 1, 2, 3] F_told_item eNil (eCons (eVar 0) (eCons (eBin oIdx (eVar 2) (eC (.int 0))) (eCons (eVar 8) (eCons (eVar 9) (eNil)))))) (eNil))))))
def L3__law_ask_items : T := sSeq (sAsg 8 true (eFnA F__law_own_cell (eCons (eVar 0) (eCons (eVar 1) (eCons (eVar 6) (eNil)))))) (sLoop (tgN 9) [] (iSeq true (eVar 3)) (L2__law_ask_items))
def b__law_ask_items : T := sSeq (sAsg 5 false (eCall fLst (eNil))) (sSeq (sLoop (tgN 6) [] (iSeq true (eVar 4)) (L3__law_ask_items)) (sSeq (sUnp (tgT 2 [tgN 8, tgN 9]) (eCall fTup (eCons (eFnA F__law_own_cell (eCons (eVar 0) (eCons (eVar 1) (eCons (eBin oIdx (eVar 4) (eC (.int 0))) (eNil))))) (eCons (eBin oIdx (eVar 3) (eC (.int 0))) (eNil))))) (sSeq (sAsg 7 true (eUn (fun x => rngL [x]) (eBin oIdx (eCall fLst (eCons (eC (.int 1)) (eCons (eC (.int 2)) (eCons (eC (.int 4)) (eCons (eC (.int 8)) (eCons (eC (.int 16)) (eNil))))))) (eVar 1)))) (sSeq (sPar2 10 true 11 true (eComp [13] (tgN 13) (eYes) (eFnA F__law_own_question (eCons (eVar 8) (eCons (eVar 9) (eCons (eVar 13) (eNil))))) (iSeq false (eVar 7))) (eBin oIdx (eBin oIdx (eVar 2) (eC (.int 0))) (eBin oIdx (eVar 4) (eC (.int 0))))) (sSeq (sApp 5 (eCall fLst (eCons (eVar 11) (eCons (eFnA F__law_odd (eCons (eComp [14] (tgN 14) (eYes) (eFnA F_answer_bit (eCons (eVar 0) (eCons (eBin oIdx (eVar 2) (eC (.int 0))) (eCons (eVar 14) (eNil))))) (iSeq false (eVar 10))) (eNil))) (eNil))))) (sRet (eVar 5)))))))
def F__law_ask_items : List Rv → Bag → R Rv := runF 15 5 b__law_ask_items
abbrev s_cell_place : Stmt := topS 5
theorem sc_cell_place : FnScope ["k", "cell", "found", "item"] ["k", "cell"] (defScope s_cell_place) := ⟨rfl, rfl, rfl, by decide +kernel, rfl, by decide +kernel, by decide +kernel⟩
def L1_cell_place : T := sAsg 2 true (eBin oAdd (eBin oMul (eVar 2) (eVar 0)) (eVar 3))
def b_cell_place : T := sSeq (sAsg 2 true (eC (.int 0))) (sSeq (sLoop (tgN 3) [] (iSeq true (eVar 1)) (L1_cell_place)) (sRet (eVar 2)))
def F_cell_place : List Rv → Bag → R Rv := runF 4 2 b_cell_place
abbrev s__law_ask_places : Stmt := topS 27
theorem sc__law_ask_places : FnScope ["k", "d", "places", "found", "place", "due"] ["k", "d", "places"] (defScope s__law_ask_places) := ⟨rfl, rfl, rfl, by decide +kernel, rfl, by decide +kernel, by decide +kernel⟩
def L1__law_ask_places : T := sSeq (sAsg 5 true (eFnA F__law_own_cell (eCons (eVar 0) (eCons (eVar 1) (eCons (eVar 4) (eNil)))))) (sSeq (sApp 3 (eCall fLst (eCons (eVar 5) (eCons (eFnA F_cell_at (eCons (eVar 0) (eCons (eVar 1) (eCons (eVar 4) (eNil))))) (eCons (eFnK 0 3 [0, 1, 2] F_cell_at eNil (eCons (eVar 0) (eCons (eVar 1) (eCons (eVar 4) (eNil))))) (eNil)))))) (sApp 3 (eCall fLst (eCons (eVar 4) (eCons (eFnA F_cell_place (eCons (eVar 0) (eCons (eVar 5) (eNil)))) (eCons (eFnK 0 2 [0, 1] F_cell_place eNil (eCons (eVar 0) (eCons (eVar 5) (eNil)))) (eNil)))))))
def b__law_ask_places : T := sSeq (sAsg 3 false (eCall fLst (eNil))) (sSeq (sLoop (tgN 4) [] (iSeq true (eVar 2)) (L1__law_ask_places)) (sRet (eVar 3)))
def F__law_ask_places : List Rv → Bag → R Rv := runF 6 3 b__law_ask_places
abbrev s__law_cells_many : Stmt := topS 15
theorem sc__law_cells_many : FnScope ["k", "d", "found", "turn"] ["k", "d"] (defScope s__law_cells_many) := ⟨rfl, rfl, rfl, by decide +kernel, rfl, by decide +kernel, by decide +kernel⟩
def L1__law_cells_many : T := sAsg 2 true (eBin oMul (eVar 2) (eVar 0))
def b__law_cells_many : T := sSeq (sAsg 2 true (eC (.int 1))) (sSeq (sLoop (tgN 3) [] (iRng1 (eCons (eVar 1) (eNil))) (L1__law_cells_many)) (sRet (eVar 2)))
def F__law_cells_many : List Rv → Bag → R Rv := runF 4 2 b__law_cells_many
abbrev s__law_unit : Stmt := topS 17
theorem sc__law_unit : FnScope ["k", "at"] ["k", "at"] (defScope s__law_unit) := ⟨rfl, rfl, rfl, by decide +kernel, rfl, by decide +kernel, by decide +kernel⟩
def b__law_unit : T := sRet (eBin oAdd (eBin oAdd (eBin oMul (eCall fTup (eCons (eC (.int 0)) (eNil))) (eVar 1)) (eCall fTup (eCons (eC (.int 1)) (eNil)))) (eBin oMul (eCall fTup (eCons (eC (.int 0)) (eNil))) (eBin oSub (eBin oSub (eVar 0) (eC (.int 1))) (eVar 1))))
def F__law_unit : List Rv → Bag → R Rv := runF 2 2 b__law_unit
abbrev s__law_own_store : Stmt := topS 23
theorem sc__law_own_store : FnScope ["bag", "many", "turn", "way", "found", "number", "i"] ["bag", "many"] (defScope s__law_own_store) := ⟨rfl, rfl, rfl, by decide +kernel, rfl, by decide +kernel, by decide +kernel⟩
def L1__law_own_store : T := sSeq (sAsg 5 true (eFnA F__law_draw (eCons (eVar 0) (eCons (eC (.int 4096)) (eNil))))) (sExt 4 (eComp [6] (tgN 6) (eYes) (eBin oAnd (eBin oShr (eVar 5) (eVar 6)) (eC (.int 1))) (iRng1 (eCons (eC (.int 12)) (eNil)))))
def b__law_own_store : T := sSeq (sPar2 3 true 4 false (eFnA F__law_draw (eCons (eVar 0) (eCons (eC (.int 9)) (eNil)))) (eCall fLst (eNil))) (sSeq (sIf (eTest (eBin (cEq) (eVar 3) (eC (.int 0)))) (sRet (eFnA F__law_unit (eCons (eVar 1) (eCons (eFnA F__law_draw (eCons (eVar 0) (eCons (eVar 1) (eNil)))) (eNil))))) (sNil)) (sSeq (sIf (eTest (eBin (cEq) (eVar 3) (eC (.int 1)))) (sRet (eBin oMul (eCall fTup (eCons (eC (.int 1)) (eNil))) (eVar 1))) (sNil)) (sSeq (sLoop (tgN 2) [] (iRng1 (eCons (eBin oAdd (eBin oFdiv (eVar 1) (eC (.int 12))) (eC (.int 1))) (eNil))) (L1__law_own_store)) (sRet (eCall (f1 gTuple) (eCons (eSlice (eVar 4) (eNone) (eSome (eVar 1))) (eNil)))))))
def F__law_own_store : List Rv → Bag → R Rv := runF 7 2 b__law_own_store
abbrev s__law_own_row : Stmt := topS 18
theorem sc__law_own_row : FnScope ["bag", "k", "way", "number", "i"] ["bag", "k"] (defScope s__law_own_row) := ⟨rfl, rfl, rfl, by decide +kernel, rfl, by decide +kernel, by decide +kernel⟩
def b__law_own_row : T := sSeq (sAsg 2 true (eFnA F__law_draw (eCons (eVar 0) (eCons (eC (.int 9)) (eNil))))) (sSeq (sIf (eTest (eBin (cEq) (eVar 2) (eC (.int 0)))) (sRet (eBin oMul (eCall fTup (eCons (eC (.int 0)) (eNil))) (eVar 1))) (sNil)) (sSeq (sIf (eTest (eBin (cEq) (eVar 2) (eC (.int 1)))) (sRet (eBin oMul (eCall fTup (eCons (eC (.int 1)) (eNil))) (eVar 1))) (sNil)) (sSeq (sIf (eTest (eBin (cEq) (eVar 2) (eC (.int 2)))) (sRet (eFnA F__law_unit (eCons (eVar 1) (eCons (eFnA F__law_draw (eCons (eVar 0) (eCons (eVar 1) (eNil)))) (eNil))))) (sNil)) (sSeq (sAsg 3 true (eFnA F__law_draw (eCons (eVar 0) (eCons (eC (.int 65536)) (eNil))))) (sRet (eCall (f1 gTuple) (eCons (eComp [4] (tgN 4) (eYes) (eBin oAnd (eBin oShr (eVar 3) (eVar 4)) (eC (.int 1))) (iRng1 (eCons (eVar 1) (eNil)))) (eNil))))))))
def F__law_own_row : List Rv → Bag → R Rv := runF 5 2 b__law_own_row
abbrev s__law_rows : Stmt := topS 19
theorem sc__law_rows : FnScope ["bag", "k", "d", "i"] ["bag", "k", "d"] (defScope s__law_rows) := ⟨rfl, rfl, rfl, by decide +kernel, rfl, by decide +kernel, by decide +kernel⟩
def b__law_rows : T := sRet (eCall (f1 gTuple) (eCons (eComp [3] (tgN 3) (eYes) (eFnA F__law_own_row (eCons (eVar 0) (eCons (eVar 1) (eNil)))) (iRng1 (eCons (eVar 2) (eNil)))) (eNil)))
def F__law_rows : List Rv → Bag → R Rv := runF 4 3 b__law_rows
abbrev s__law_some_places : Stmt := topS 26
theorem sc__law_some_places : FnScope ["bag", "k", "d", "many", "found", "turn", "power"] ["bag", "k", "d"] (defScope s__law_some_places) := ⟨rfl, rfl, rfl, by decide +kernel, rfl, by decide +kernel, by decide +kernel⟩
def L1__law_some_places : T := sSeq (sAsg 6 true (eFnA F__law_cells_many (eCons (eVar 1) (eCons (eVar 5) (eNil))))) (sExt 4 (eCall fLst (eCons (eBin oSub (eVar 6) (eC (.int 1))) (eCons (eVar 6) (eCons (eBin oSub (eBin oSub (eVar 3) (eVar 6)) (eC (.int 1))) (eCons (eBin oSub (eVar 3) (eVar 6)) (eNil)))))))
def b__law_some_places : T := sSeq (sAsg 3 true (eFnA F__law_cells_many (eCons (eVar 1) (eCons (eVar 2) (eNil))))) (sSeq (sIf (eTest (eBin (cLe) (eVar 3) (eC (.int 256)))) (sRet (eUn (fun x => rngL [x]) (eVar 3))) (sNil)) (sSeq (sAsg 4 false (eCall fLst (eCons (eC (.int 0)) (eCons (eC (.int 1)) (eCons (eBin oSub (eVar 3) (eC (.int 1))) (eCons (eBin oSub (eVar 3) (eC (.int 2))) (eNil))))))) (sSeq (sLoop (tgN 5) [] (iRng2 (eCons (eC (.int 1)) (eCons (eVar 2) (eNil)))) (L1__law_some_places)) (sRet (eBin oAdd (eVar 4) (eComp [5] (tgN 5) (eYes) (eFnA F__law_draw (eCons (eVar 0) (eCons (eVar 3) (eNil)))) (iRng1 (eCons (eC (.int 16)) (eNil)))))))))
def F__law_some_places : List Rv → Bag → R Rv := runF 7 3 b__law_some_places
abbrev s__law_turned : Stmt := topS 24
theorem sc__law_turned : FnScope ["store", "place"] ["store", "place"] (defScope s__law_turned) := ⟨rfl, rfl, rfl, by decide +kernel, rfl, by decide +kernel, by decide +kernel⟩
def b__law_turned : T := sRet (eBin oAdd (eBin oAdd (eSlice (eVar 0) (eNone) (eSome (eVar 1))) (eCall fTup (eCons (eBin oSub (eC (.int 1)) (eBin oIdx (eVar 0) (eVar 1))) (eNil)))) (eSlice (eVar 0) (eSome (eBin oAdd (eVar 1) (eC (.int 1)))) (eNone)))
def F__law_turned : List Rv → Bag → R Rv := runF 2 2 b__law_turned
abbrev s__law_one_cube : Stmt := topS 32
theorem sc__law_one_cube : FnScope ["bag", "k", "d", "many", "alone", "found", "some", "stores", "store", "place", "apart", "tape", "drawn", "cell", "turned", "ones", "last", "at", "due", "item", "h"] ["bag", "k", "d"] (defScope s__law_one_cube) := ⟨rfl, rfl, rfl, by decide +kernel, rfl, by decide +kernel, by decide +kernel⟩
def b__law_one_cube : T := sSeq (sAsg 3 true (eFnA F__law_cells_many (eCons (eVar 1) (eCons (eVar 2) (eNil))))) (sSeq (sPar3 8 true 9 true 10 true (eFnA F__law_own_store (eCons (eVar 0) (eCons (eVar 3) (eNil)))) (eFnA F__law_draw (eCons (eVar 0) (eCons (eVar 3) (eNil)))) (eFnA F__law_draw (eCons (eVar 0) (eCons (eVar 3) (eNil))))) (sSeq (sUnp (tgT 3 [tgN 11, tgN 12, tgN 13]) (eCall fTup (eCons (eFnA F__law_rows (eCons (eVar 0) (eCons (eVar 1) (eCons (eVar 2) (eNil))))) (eCons (eFnA F__law_rows (eCons (eVar 0) (eCons (eVar 1) (eCons (eVar 2) (eNil))))) (eCons (eFnA F__law_own_cell (eCons (eVar 1) (eCons (eVar 2) (eCons (eVar 9) (eNil))))) (eNil)))))) (sSeq (sPar2 14 true 15 true (eFnA F__law_turned (eCons (eVar 8) (eCons (eVar 9) (eNil)))) (eBin oMul (eCall fTup (eCons (eBin oMul (eCall fTup (eCons (eC (.int 1)) (eNil))) (eVar 1)) (eNil))) (eVar 2))) (sSeq (sAsg 4 true (eCall (f1 gTuple) (eCons (eComp [19] (tgN 19) (eYes) (eFnA F__law_unit (eCons (eVar 1) (eCons (eVar 19) (eNil)))) (iSeq false (eVar 13))) (eNil)))) (sSeq (sPar2 16 true 17 true (eBin oMul (eCall fTup (eCons (eFnA F__law_unit (eCons (eVar 1) (eCons (eBin oSub (eVar 1) (eC (.int 1))) (eNil)))) (eNil))) (eVar 2)) (eFnA F__law_draw (eCons (eVar 0) (eCons (eVar 2) (eNil))))) (sSeq (sAsg 5 false (eBin oAdd (eFnA F__law_ask_places (eCons (eVar 1) (eCons (eVar 2) (eCons (eFnA F__law_some_places (eCons (eVar 0) (eCons (eVar 1) (eCons (eVar 2) (eNil))))) (eNil))))) (eFnA F__law_ask_questions (eCons (eVar 1) (eCons (eVar 13) (eCons (eVar 11) (eNil))))))) (sSeq (sIf (eTest (eBin (cGt) (eVar 3) (eC (.int 256)))) (sSeq (sExt 5 (eFnA F__law_ask_answers (eCons (eVar 1) (eCons (eVar 8) (eCons (eCall fLst (eCons (eVar 12) (eCons (eVar 4) (eCons (eVar 16) (eCons (eVar 15) (eNil)))))) (eNil)))))) (sSeq (sExt 5 (eFnA F__law_ask_answers (eCons (eVar 1) (eCons (eVar 14) (eCons (eCall fLst (eCons (eVar 4) (eCons (eVar 16) (eNil)))) (eNil)))))) (sSeq (sExt 5 (eFnA F__law_ask_items (eCons (eVar 1) (eCons (eVar 2) (eCons (eCall fLst (eCons (eVar 8) (eCons (eVar 14) (eNil)))) (eCons (eCall fLst (eCons (eVar 11) (eNil))) (eCons (eCall fLst (eCons (eVar 9) (eNil))) (eNil)))))))) (sSeq (sAsg 18 true (eBin oIdx (eVar 8) (eBin oSub (eVar 3) (eC (.int 1))))) (sSeq (sApp 5 (eCall fLst (eCons (eVar 18) (eCons (eFnA F_told_item (eCons (eVar 1) (eCons (eVar 8) (eCons (eFnA F__law_own_cell (eCons (eVar 1) (eCons (eVar 2) (eCons (eBin oSub (eVar 3) (eC (.int 1))) (eNil))))) (eCons (eVar 12) (eNil)))))) (eNil))))) (sSeq (sFrz 5) (sRet (eCall fLst (eCons (eVar 5) (eCons (eVar 8) (eCons (eVar 13) (eCons (eVar 11) (eNil))))))))))))) (sNil)) (sSeq (sAsg 6 false (eCall fLst (eCons (eVar 12) (eCons (eVar 4) (eCons (eVar 16) (eCons (eVar 15) (eCons (eBin oAdd (eBin oAdd (eSlice (eVar 15) (eNone) (eSome (eVar 17))) (eCall fTup (eCons (eBin oMul (eCall fTup (eCons (eC (.int 0)) (eNil))) (eVar 1)) (eNil)))) (eSlice (eVar 15) (eSome (eBin oAdd (eVar 17) (eC (.int 1)))) (eNone))) (eNil)))))))) (sSeq (sApp 6 (eBin oAdd (eBin oAdd (eSlice (eVar 15) (eNone) (eSome (eVar 17))) (eCall fTup (eCons (eBin oIdx (eVar 12) (eVar 17)) (eNil)))) (eSlice (eVar 15) (eSome (eBin oAdd (eVar 17) (eC (.int 1)))) (eNone)))) (sSeq (sIf (eTest (eBin (cLe) (eVar 3) (eC (.int 81)))) (sExt 6 (eComp [20] (tgN 20) (eYes) (eFnA F__law_own_question (eCons (eVar 13) (eCons (eVar 11) (eCons (eVar 20) (eNil))))) (iRng1 (eCons (eBin oIdx (eCall fLst (eCons (eC (.int 1)) (eCons (eC (.int 2)) (eCons (eC (.int 4)) (eCons (eC (.int 8)) (eCons (eC (.int 16)) (eNil))))))) (eVar 2)) (eNil))))) (sNil)) (sSeq (sFrz 6) (sSeq (sExt 5 (eFnA F__law_ask_answers (eCons (eVar 1) (eCons (eVar 8) (eCons (eVar 6) (eNil)))))) (sSeq (sExt 5 (eFnA F__law_ask_answers (eCons (eVar 1) (eCons (eVar 14) (eCons (eCall fLst (eCons (eVar 12) (eCons (eVar 4) (eCons (eVar 16) (eCons (eVar 15) (eNil)))))) (eNil)))))) (sSeq (sAsg 7 true (eCall fLst (eCons (eVar 8) (eCons (eVar 14) (eCons (eFnA F__law_turned (eCons (eVar 8) (eCons (eVar 10) (eNil)))) (eNil)))))) (sSeq (sExt 5 (eFnA F__law_ask_items (eCons (eVar 1) (eCons (eVar 2) (eCons (eVar 7) (eCons (eCall fLst (eCons (eVar 11) (eCons (eVar 12) (eNil)))) (eCons (eCall fLst (eCons (eVar 9) (eCons (eC (.int 0)) (eCons (eBin oSub (eVar 3) (eC (.int 1))) (eNil))))) (eNil)))))))) (sSeq (sFrz 5) (sRet (eCall fLst (eCons (eVar 5) (eCons (eVar 8) (eCons (eVar 13) (eCons (eVar 11) (eNil)))))))))))))))))))))))
def F__law_one_cube : List Rv → Bag → R Rv := runF 21 3 b__law_one_cube
abbrev s__law_own_bag : Stmt := topS 12
theorem sc__law_own_bag : FnScope ["script", "cells", "mixed", "cell"] ["script"] (defScope s__law_own_bag) := ⟨rfl, rfl, rfl, by decide +kernel, rfl, by decide +kernel, by decide +kernel⟩
def L1__law_own_bag : T := sAsg 2 true (eBin oMod (eCall (f1 gInt) (eCons (eBin oAdd (eBin oAdd (eBin oMul (eVar 2) (eC (.int 48271))) (eBin oMod (eCall (f1 gInt) (eCons (eVar 3) (eNil))) (eC (.int 2147483629)))) (eC (.int 13))) (eNil))) (eC (.int 2147483647)))
def b__law_own_bag : T := sSeq (sAsg 1 true (eComp [3] (tgN 3) (eYes) (eCall (f1 gAbs) (eCons (eCall (f1 gInt) (eCons (eVar 3) (eNil))) (eNil))) (iSeq false (eScut 0 (eC (.int 63)))))) (sSeq (sAsg 2 true (eBin oAdd (eC (.int 7919)) (eBin oMul (eC (.int 31)) (eCall (f1 gLen) (eCons (eVar 1) (eNil)))))) (sSeq (sLoop (tgN 3) [] (iSeq true (eVar 1)) (L1__law_own_bag)) (sRet (eCall fLst (eCons (eUn uRev (eVar 1)) (eCons (eC (.int 0)) (eCons (eVar 2) (eNil))))))))
def own_bag : List Int → Option Bag := ownBag 4 b__law_own_bag
abbrev s__law_pick : Stmt := topS 14
theorem sc__law_pick : FnScope ["bag", "some"] ["bag", "some"] (defScope s__law_pick) := ⟨rfl, rfl, rfl, by decide +kernel, rfl, by decide +kernel, by decide +kernel⟩
def b__law_pick : T := sRet (eBin oIdx (eVar 1) (eFnA F__law_draw (eCons (eVar 0) (eCons (eCall (f1 gLen) (eCons (eVar 1) (eNil))) (eNil)))))
def F__law_pick : List Rv → Bag → R Rv := runF 2 2 b__law_pick
abbrev s__law_own_size : Stmt := topS 16
theorem sc__law_own_size : FnScope ["bag", "often", "d", "most"] ["bag", "often"] (defScope s__law_own_size) := ⟨rfl, rfl, rfl, by decide +kernel, rfl, by decide +kernel, by decide +kernel⟩
def b__law_own_size : T := sSeq (sIf (eTest (eBin (cEq) (eFnA F__law_draw (eCons (eVar 0) (eCons (eVar 1) (eNil)))) (eC (.int 0)))) (sRet (eFnA F__law_pick (eCons (eVar 0) (eCons (eCall fLst (eCons (eCall fTup (eCons (eC (.int 16)) (eCons (eC (.int 3)) (eNil)))) (eCons (eCall fTup (eCons (eC (.int 8)) (eCons (eC (.int 4)) (eNil)))) (eCons (eCall fTup (eCons (eC (.int 16)) (eCons (eC (.int 3)) (eNil)))) (eCons (eCall fTup (eCons (eC (.int 8)) (eCons (eC (.int 4)) (eNil)))) (eCons (eCall fTup (eCons (eC (.int 15)) (eCons (eC (.int 3)) (eNil)))) (eCons (eCall fTup (eCons (eC (.int 7)) (eCons (eC (.int 4)) (eNil)))) (eCons (eCall fTup (eCons (eC (.int 11)) (eCons (eC (.int 3)) (eNil)))) (eCons (eCall fTup (eCons (eC (.int 5)) (eCons (eC (.int 4)) (eNil)))) (eNil)))))))))) (eNil))))) (sNil)) (sSeq (sAsg 2 true (eBin oAdd (eC (.int 1)) (eFnA F__law_draw (eCons (eVar 0) (eCons (eC (.int 4)) (eNil)))))) (sSeq (sAsg 3 true (eBin oIdx (eCall fLst (eCons (eC (.int 16)) (eCons (eC (.int 16)) (eCons (eC (.int 6)) (eCons (eC (.int 4)) (eNil)))))) (eBin oSub (eVar 2) (eC (.int 1))))) (sRet (eCall fTup (eCons (eIf (eTest (eBin (cEq) (eFnA F__law_draw (eCons (eVar 0) (eCons (eC (.int 5)) (eNil)))) (eC (.int 0)))) (eVar 3) (eBin oAdd (eC (.int 1)) (eFnA F__law_draw (eCons (eVar 0) (eCons (eVar 3) (eNil)))))) (eCons (eVar 2) (eNil)))))))
def F__law_own_size : List Rv → Bag → R Rv := runF 4 2 b__law_own_size
abbrev s_law : Stmt := topS 33
theorem sc_law : FnScope ["script", "bag", "first", "kept", "e", "second", "again", "place", "item", "k", "d", "store", "cell", "tape"] ["script"] (defScope s_law) := ⟨rfl, rfl, rfl, by decide +kernel, rfl, by decide +kernel, by decide +kernel⟩
def L1_law : T := sAsg 7 true (eBin oAdd (eBin oMul (eVar 7) (eVar 9)) (eVar 8))
def b_law : T := sSeq (sUnp (tgT 2 [tgN 9, tgN 10]) (eFnA F__law_own_size (eCons (eVar 1) (eCons (eC (.int 6)) (eNil))))) (sSeq (sAsg 2 true (eFnA F__law_one_cube (eCons (eVar 1) (eCons (eVar 9) (eCons (eVar 10) (eNil)))))) (sSeq (sPar3 11 true 12 true 13 true (eBin oIdx (eVar 2) (eC (.int 1))) (eBin oIdx (eVar 2) (eC (.int 2))) (eBin oIdx (eVar 2) (eC (.int 3)))) (sSeq (sAsg 3 true (eCall (f1 gRepr) (eCons (eCall fLst (eCons (eVar 11) (eCons (eVar 12) (eCons (eVar 13) (eNil))))) (eNil)))) (sSeq (sIf (eNot (eTest (eFnA F__law_are_alike (eCons (eBin oIdx (eVar 2) (eC (.int 0))) (eNil))))) (sRet (eC (.bool false))) (sNil)) (sSeq (sAsg 4 true (eBin oAdd (eC (.int 1)) (eFnA F__law_draw (eCons (eVar 1) (eCons (eC (.int 4)) (eNil)))))) (sSeq (sAsg 5 true (eFnA F__law_one_cube (eCons (eVar 1) (eCons (eBin oAdd (eC (.int 1)) (eFnA F__law_draw (eCons (eVar 1) (eCons (eBin oIdx (eCall fLst (eCons (eC (.int 9)) (eCons (eC (.int 5)) (eCons (eC (.int 4)) (eCons (eC (.int 3)) (eNil)))))) (eBin oSub (eVar 4) (eC (.int 1)))) (eNil))))) (eCons (eVar 4) (eNil)))))) (sSeq (sIf (eNot (eTest (eFnA F__law_are_alike (eCons (eBin oIdx (eVar 5) (eC (.int 0))) (eNil))))) (sRet (eC (.bool false))) (sNil)) (sSeq (sAsg 6 false (eFnA F__law_ask_questions (eCons (eVar 9) (eCons (eVar 12) (eCons (eVar 13) (eNil)))))) (sSeq (sAsg 7 true (eC (.int 0))) (sSeq (sLoop (tgN 8) [] (iSeq true (eVar 12)) (L1_law)) (sSeq (sApp 6 (eCall fLst (eCons (eBin oIdx (eVar 11) (eVar 7)) (eCons (eFnA F_told_item (eCons (eVar 9) (eCons (eVar 11) (eCons (eVar 12) (eCons (eVar 13) (eNil)))))) (eCons (eFnA F_told_item (eCons (eVar 9) (eCons (eVar 11) (eCons (eVar 12) (eCons (eVar 13) (eNil)))))) (eNil)))))) (sSeq (sApp 6 (eCall fLst (eCons (eVar 7) (eCons (eFnA F_cell_place (eCons (eVar 9) (eCons (eVar 12) (eNil)))) (eCons (eFnA F_cell_place (eCons (eVar 9) (eCons (eFnA F_cell_at (eCons (eVar 9) (eCons (eVar 10) (eCons (eVar 7) (eNil))))) (eNil)))) (eNil)))))) (sSeq (sFrz 6) (sRet (eAndV (eFnA F__law_are_alike (eCons (eVar 6) (eNil))) (eBin (cEq) (eCall (f1 gRepr) (eCons (eCall fLst (eCons (eVar 11) (eCons (eVar 12) (eCons (eVar 13) (eNil))))) (eNil))) (eVar 3)))))))))))))))))
end Lw

namespace Lw
open PySem PySem.Spec PyProof.Rows L2 VL

/-! ### rows added -/
def xorR (a b : List Int) : List Int := (a.zip b).map fun p => (p.1 + p.2) % 2
theorem r_rows_added {a b : List Int} {β : Bag} (h : a.length ≤ big) : F_rows_added [.fz (tI a), .fz (tI b)] β = .ok (.fz (tI (xorR a b))) β := by
  refine run_rt rfl (sRet_ok (r := .fz (tI (xorR a b))) (eCall_ok (eCons_ok (eComp_eq (ds := zipL (a.map .int) (b.map .int)) (ys := (a.zip b).map fun p => PyData.int ((p.1 + p.2) % 2)) rfl ?_ ?_) rfl) ?_) rfl)
  · rw [zipL_length, List.length_map, List.length_map]
    omega
  · rw [zipL_map]
    exact comp_map _ (fun (p : Int × Int) => PyData.int ((p.1 + p.2) % 2)) fun p hp => ⟨_, _, rfl, rfl, rfl⟩
  · unfold tI xorR
    rw [List.map_map]
    rfl
/-- a row of one place -/
def unitR (n : Nat) (c : Int) : List Int := (List.range n).map fun (i : Nat) => if (i : Int) = c then 1 else 0
theorem r_lot_row {k c : Int} {β : Bag} (h0 : 0 ≤ k) (h : k ≤ 1000) : F_lot_row [.fz (.int k), .fz (.tuple [.int c])] β = .ok (.fz (tI (unitR k.toNat c))) β := by
  refine run_rt rfl (sSeq_nx (sAsg_ok (r := .td [(.inl c, .int 1)]) (sl := .dic [(.inl c, .int 1)]) rfl rfl (of_decide_eq_true rfl)) ?_)
  refine sRet_ok (r := .fz (tI (unitR k.toNat c))) (eCall_ok (eCons_ok (eComp_eq (β1 := β) (ds := upTo 0 k.toNat) (ys := (unitR k.toNat c).map .int) ?_ ?_ ?_) rfl) rfl) rfl
  · show R.of (if -(2 ^ 62) ≤ k ∧ k < 2 ^ 62 then some (upTo 0 k.toNat) else none) β = _
    rw [if_pos ⟨by omega, by omega⟩]
    rfl
  · rw [upTo_eq, List.length_map, List.length_range]
    unfold big
    omega
  · rw [upTo_eq]
    unfold unitR
    rw [List.map_map]
    refine comp_map (fun (i : Nat) => PyData.int i) _ fun i hi => ⟨_, .fz (.int (if (i : Int) = c then 1 else 0)), rfl, ?_, rfl⟩
    show R.ok (Rv.fz ((valD [(Sum.inl c, PyData.int 1)] (Sum.inl (i : Int))).getD (.int 0))) β = _
    unfold valD
    by_cases e : (i : Int) = c
    · rw [if_pos e]
      simp [e]
    · have e2 : ¬ ((Sum.inl c : Key) = Sum.inl (i : Int)) := fun z => e (Sum.inl.inj z).symm
      rw [if_neg e]
      simp [e2]
/-! ### cells -/
/-- the last k-digits, the lowest first -/
def digs (k : Int) : Nat → Int → List Int
  | 0, _ => []
  | d + 1, p => p % k :: digs k d (p / k)
theorem digs_length (k : Int) : ∀ (d : Nat) (p : Int), (digs k d p).length = d
  | 0, _ => rfl
  | d + 1, p => by
    unfold digs
    rw [List.length_cons, digs_length k d]
def restD (k : Int) : Nat → Int → Int
  | 0, p => p
  | d + 1, p => restD k d (p / k)
theorem digs_snoc (k : Int) : ∀ (d : Nat) (p : Int), digs k (d + 1) p = digs k d p ++ [restD k d p % k]
  | 0, p => rfl
  | d + 1, p => by
    show p % k :: digs k (d + 1) (p / k) = p % k :: digs k d (p / k) ++ [restD k d (p / k) % k]
    rw [digs_snoc k d (p / k)]
    rfl
theorem restD_snoc (k : Int) : ∀ (d : Nat) (p : Int), restD k (d + 1) p = restD k d p / k
  | 0, p => rfl
  | d + 1, p => by
    show restD k (d + 1) (p / k) = restD k d (p / k) / k
    exact restD_snoc k d (p / k)
/-- the digits, the highest first -/
def cellR (k : Int) (d : Nat) (p : Int) : List Int := (digs k d p).reverse
theorem CDk {p k : Int} (h : 0 < k) (h2 : k < 1000) : CD p k := ⟨h, .inl (by omega)⟩
theorem r_cell_at {k d p : Int} {β : Bag} (hk : 0 < k) (hk2 : k < 1000) (hd : 0 ≤ d) (hd2 : d ≤ 1000) : F_cell_at [.fz (.int k), .fz (.int d), .fz (.int p)] β = .ok (.fz (tI (cellR k d.toNat p))) β := by
  obtain ⟨ρ', β', h1, h2⟩ := loop_inv (tg := tgN 4) (body := L1_cell_at) (fun i ρ β' => β' = β ∧ ∃ x, ρ = [.dat (.int k), .dat (.int d), .dat (.int (restD k i p)), .own ((digs k i p).map .int), x]) (ds := upTo 0 d.toNat) (ρ := [.dat (.int k), .dat (.int d), .dat (.int p), .own [], .no]) (β := β) 0 ⟨rfl, _, rfl⟩ fun i e ρ β' he hI => by
    obtain ⟨rfl, x, rfl⟩ := hI
    have hi : i < d.toNat := by
      have := lt_of_some he
      rw [upTo_eq, List.length_map, List.length_range] at this
      exact this
    refine ⟨_, [.dat (.int k), .dat (.int d), .dat (.int (restD k (0 + i) p / k)), .own ((digs k (0 + i) p).map .int ++ [.int (restD k (0 + i) p % k)]), .dat e], β', rfl, ?_, rfl, .dat e, ?_⟩
    · refine sSeq_nx (sApp_ok (r := .fz (.int (restD k (0 + i) p % k))) (β1 := β') rfl ?_ rfl ?_) (sAsg_ok (r := .fz (.int (restD k (0 + i) p / k))) ?_ rfl (of_decide_eq_true rfl))
      · refine eBin_ok (x := .fz (.int (restD k (0 + i) p))) (y := .fz (.int k)) rfl rfl ?_
        exact if_pos hk
      · rw [List.length_map, digs_length]
        unfold big
        omega
      · refine eBin_ok (x := .fz (.int (restD k (0 + i) p))) (y := .fz (.int k)) rfl rfl ?_
        exact if_pos (CDk hk hk2)
    · rw [restD_snoc, digs_snoc, List.map_append]
      rfl
  obtain ⟨rfl, x, rfl⟩ := h2
  refine run_rt rfl (sSeq_nx (sAsg_ok (r := .tm []) (sl := .own []) rfl rfl (of_decide_eq_true rfl)) (sSeq_nx (sLoop_ok (ds := upTo 0 d.toNat) ?_ h1) ?_))
  · show R.of (if -(2 ^ 62) ≤ d ∧ d < 2 ^ 62 then some (upTo 0 d.toNat) else none) β' = _
    rw [if_pos ⟨by omega, by omega⟩]
    rfl
  · have e : (upTo 0 d.toNat).length = d.toNat := by rw [upTo_eq, List.length_map, List.length_range]
    rw [e, Nat.zero_add]
    refine sRet_ok (r := .fz (tI (cellR k d.toNat p))) (eCall_ok (eCons_ok (x := .tm ((digs k d.toNat p).map PyData.int).reverse) rfl rfl) ?_) rfl
    unfold tI cellR
    rw [List.map_reverse]
    rfl
theorem r_sides_of {d h : Int} {β : Bag} (hd : 0 ≤ d) (hd2 : d ≤ 1000) : F_sides_of [.fz (.int d), .fz (.int h)] β = .ok (.fz (tI (cellR 2 d.toNat h))) β :=
  run_rt rfl (sRet_ok (eFnA_ok rfl rfl (r_cell_at (by decide) (by decide) hd hd2)) rfl)
/-- the place of a cell -/
def placeR (k : Int) (c : List Int) : Int := c.foldl (fun f i => f * k + i) 0
theorem r_cell_place {k : Int} {c : List Int} {β : Bag} (hk : 0 ≤ k) (hk2 : k < 1000) : F_cell_place [.fz (.int k), .fz (tI c)] β = .ok (.fz (.int (placeR k c))) β := by
  obtain ⟨ρ', β', h1, h2⟩ := loop_inv (tg := tgN 3) (body := L1_cell_place) (fun i ρ β' => β' = β ∧ ∃ x, ρ = [.dat (.int k), .dat (tI c), .dat (.int (placeR k (c.take i))), x]) (ds := c.map .int) (ρ := [.dat (.int k), .dat (tI c), .dat (.int 0), .no]) (β := β) 0 ⟨rfl, _, rfl⟩ fun i e ρ β' he hI => by
    obtain ⟨rfl, x, rfl⟩ := hI
    rw [List.getElem?_map] at he
    cases hc : c[i]? with
    | none => rw [hc] at he; cases he
    | some v =>
      rw [hc] at he
      cases he
      refine ⟨_, [.dat (.int k), .dat (tI c), .dat (.int (placeR k (c.take (0 + i)) * k + v)), .dat (.int v)], β', rfl, ?_, rfl, .dat (.int v), ?_⟩
      · refine sAsg_ok (r := .fz (.int (placeR k (c.take (0 + i)) * k + v))) (eBin_ok (x := .fz (.int (placeR k (c.take (0 + i)) * k))) (y := .fz (.int v)) (eBin_ok (x := .fz (.int (placeR k (c.take (0 + i))))) (y := .fz (.int k)) rfl rfl ?_) rfl rfl) rfl (by show 2 < 4; decide)
        exact if_pos (.inr (.inl ⟨by omega, by omega⟩))
      · rw [Nat.zero_add, List.take_add_one, hc]
        unfold placeR
        rw [List.foldl_append]
        rfl
  obtain ⟨rfl, x, rfl⟩ := h2
  refine run_rt rfl (sSeq_nx (sAsg_ok (r := .fz (.int 0)) rfl rfl (of_decide_eq_true rfl)) (sSeq_nx (sLoop_ok (ds := c.map .int) rfl h1) ?_))
  refine sRet_ok (r := .fz (.int (placeR k c))) ?_ rfl
  rw [Nat.zero_add, List.length_map, List.take_length]
  rfl
end Lw

namespace Lw
open PySem PySem.Spec PyProof.Rows L2 VL

def RowOk (k : Nat) (r : List Int) : Prop := r.length = k ∧ Bits r
def CellOk (k : Nat) (c : List Int) : Prop := ∀ x ∈ c, 0 ≤ x ∧ x < k
def TapeOk (k d : Nat) (t : List (List Int)) : Prop := t.length = d ∧ ∀ r ∈ t, RowOk k r
def flipR (r : List Int) (c : Int) : List Int := r.mapIdx fun i x => if (i : Int) = c then 1 - x else x
theorem flip_length (r : List Int) (c : Int) : (flipR r c).length = r.length := by simp [flipR]
theorem flip_bits {k : Nat} {r : List Int} {c : Int} (h : RowOk k r) : RowOk k (flipR r c) := by
  refine ⟨(flip_length r c).trans h.1, fun x hx => ?_⟩
  obtain ⟨i, hi, rfl⟩ := List.mem_iff_getElem.mp hx
  simp only [flipR, List.getElem_mapIdx]
  have hb := h.2 (r[i]'(by simpa [flipR] using hi)) (List.getElem_mem _)
  split
  · rcases hb with e | e <;> rw [e]
    · exact .inr rfl
    · exact .inl rfl
  · exact hb
theorem flip_flip (r : List Int) (c : Int) : flipR (flipR r c) c = r := by
  refine List.ext_getElem (by simp [flipR]) fun i h1 h2 => ?_
  simp only [flipR, List.getElem_mapIdx]
  split
  · omega
  · rfl
theorem unit_length (n : Nat) (c : Int) : (unitR n c).length = n := by simp [unitR]
theorem xor_unit {k : Nat} {r : List Int} {c : Int} (h : RowOk k r) : xorR r (unitR k c) = flipR r c := by
  refine List.ext_getElem (by simp [xorR, flipR, unitR, h.1]) fun i h1 h2 => ?_
  have hi : i < r.length := by simpa [flipR] using h2
  have hb := h.2 r[i] (List.getElem_mem _)
  simp only [xorR, flipR, unitR, List.getElem_map, List.getElem_zip, List.getElem_mapIdx, List.getElem_range]
  split
  · rcases hb with e | e <;> rw [e] <;> rfl
  · rcases hb with e | e <;> rw [e] <;> rfl
theorem flip_get (r : List Int) (c : Int) (i : Nat) : (flipR r c)[i]? = r[i]?.map fun x => if (i : Int) = c then 1 - x else x := by simp [flipR]
theorem flip_cut {r : List Int} {c : Nat} (hc : c < r.length) : r.take c ++ ([1 - r[c]] ++ r.drop (c + 1)) = flipR r c := by
  refine List.ext_getElem? fun i => ?_
  have em : (r.take c).length = c := by rw [List.length_take]; omega
  rw [flip_get]
  rcases Nat.lt_trichotomy i c with h | h | h
  · rw [List.getElem?_append_left (by omega), List.getElem?_take, if_pos h, List.getElem?_eq_getElem (by omega), Option.map_some, if_neg (by omega)]
  · subst h
    rw [List.getElem?_append_right (by omega), em, Nat.sub_self, List.getElem?_eq_getElem hc, Option.map_some, if_pos rfl]
    rfl
  · rw [List.getElem?_append_right (by omega), em, List.getElem?_append_right (by simp; omega), List.getElem?_drop, List.length_singleton, show c + 1 + (i - c - 1) = i by omega]
    cases r[i]? with
    | none => rfl
    | some x => rw [Option.map_some, if_neg (by omega)]

/-! ### questions -/
def qR (ss cs : List Int) (rs : List (List Int)) : List (List Int) := (ss.zip (cs.zip rs)).map fun p => if p.1 = 1 then flipR p.2.2 p.2.1 else p.2.2
theorem zip3L_map (ss cs : List Int) (rs : List (List Int)) : zip3L (ss.map PyData.int) (cs.map PyData.int) (rs.map tI) = (ss.zip (cs.zip rs)).map fun p => PyData.tuple [.int p.1, .int p.2.1, tI p.2.2] := by
  induction ss generalizing cs rs with
  | nil => simp [zip3L]
  | cons s ss ih =>
    cases cs with
    | nil => simp [zip3L]
    | cons c cs =>
      cases rs with
      | nil => simp [zip3L]
      | cons r rs => simp [zip3L, ih]
theorem cell_length (k : Int) (d : Nat) (p : Int) : (cellR k d p).length = d := by simp [cellR, digs_length]
theorem q_length {ss cs : List Int} {rs : List (List Int)} {d : Nat} (h1 : ss.length = d) (h2 : cs.length = d) (h3 : rs.length = d) : (qR ss cs rs).length = d := by
  simp [qR, h1, h2, h3]
theorem q_ok {k d : Nat} {ss cs : List Int} {rs : List (List Int)} (h1 : ss.length = d) (h2 : cs.length = d) (h3 : TapeOk k d rs) : TapeOk k d (qR ss cs rs) := by
  refine ⟨q_length h1 h2 h3.1, fun r hr => ?_⟩
  obtain ⟨p, hp, rfl⟩ := List.mem_map.mp hr
  have hm : p.2.2 ∈ rs := (List.of_mem_zip (List.of_mem_zip hp).2).2
  have hr := h3.2 _ hm
  split
  · exact flip_bits hr
  · exact hr
theorem r_question {k d : Nat} {c : List Int} {t : List (List Int)} {h : Int} {β : Bag} (hk : k ≤ 1000) (hd : d ≤ 1000) (hc : c.length = d) (ht : TapeOk k d t) :
    F_question [.fz (.int k), .fz (tI c), .fz (tT t), .fz (.int h)] β = .ok (.fz (tT (qR (cellR 2 d h) c t))) β := by
  obtain ⟨ρ', h1, h2⟩ := loop_app (tg := tgT 3 [tgN 5, tgN 6, tgN 7]) (body := L1_question) (β := β) (g := fun (p : Int × Int × List Int) => PyData.tuple [.int p.1, .int p.2.1, tI p.2.2]) (f := fun p => [tI (if p.1 = 1 then flipR p.2.2 p.2.1 else p.2.2)])
    (fun acc ρ => ∃ x y z, ρ = [.dat (.int k), .dat (tI c), .dat (tT t), .dat (.int h), .own acc, x, y, z]) (xs := (cellR 2 d h).zip (c.zip t)) (acc0 := []) (ρ := [.dat (.int k), .dat (tI c), .dat (tT t), .dat (.int h), .own [], .no, .no, .no]) ⟨_, _, _, rfl⟩ fun p hp acc ρ hs hl => by
      obtain ⟨x, y, z, rfl⟩ := hs
      have hm : p.2.2 ∈ t := (List.of_mem_zip (List.of_mem_zip hp).2).2
      have hr := ht.2 _ hm
      refine ⟨_, [.dat (.int k), .dat (tI c), .dat (tT t), .dat (.int h), .own (acc ++ [tI (if p.1 = 1 then flipR p.2.2 p.2.1 else p.2.2)]), .dat (.int p.1), .dat (.int p.2.1), .dat (tI p.2.2)], rfl, ?_, _, _, _, rfl⟩
      refine sApp_ok (r := .fz (tI (if p.1 = 1 then flipR p.2.2 p.2.1 else p.2.2))) (β1 := β) rfl ?_ rfl ?_
      · by_cases e : p.1 = 1
        · rw [if_pos e]
          refine eIf_t (β1 := β) (eTest_ok (eBin_ok (x := .fz (.int p.1)) (y := .fz (.int 1)) (β1 := β) rfl rfl ?_)) ?_
          · show some (Rv.fz (.bool (PyData.eqv (.int p.1) (.int 1)))) = _
            rw [e]
            rfl
          · refine eFnA_ok (β1 := β) (rs := [.fz (tI p.2.2), .fz (tI (unitR k p.2.1))]) (eCons_ok (β1 := β) rfl (eCons_ok (β1 := β) (eFnA_ok (β1 := β) rfl rfl (r_lot_row (k := (k : Int)) (by omega) (by omega))) rfl)) rfl ?_
            rw [r_rows_added (by rw [hr.1]; unfold big; omega)]
            exact congrArg (fun r => R.ok (Rv.fz (tI r)) β) (xor_unit hr)
        · rw [if_neg e]
          refine eIf_f (β1 := β) (eTest_ok (eBin_ok (x := .fz (.int p.1)) (y := .fz (.int 1)) (β1 := β) rfl rfl ?_)) rfl
          show some (Rv.fz (.bool (p.1 == 1))) = _
          rw [beq_eq_false_iff_ne.mpr e]
      · simp only [List.nil_append, List.length_flatMap, List.length_singleton, List.map_const', List.sum_replicate_nat] at hl
        simp only [List.length_zip, cell_length, hc, ht.1] at hl
        unfold big
        omega
  obtain ⟨x, y, z, rfl⟩ := h2
  have el : (c.length : Int) = (d : Int) := by rw [hc]
  refine run_rt rfl (sSeq_nx (sAsg_ok (r := .tm []) (sl := .own []) rfl rfl (of_decide_eq_true rfl)) (sSeq_nx (sLoop_ok (β1 := β) (ds := zip3L ((cellR 2 d h).map .int) (c.map .int) (t.map tI)) ?_ (by rw [zip3L_map]; exact h1)) ?_))
  · have e1 : eFnA F_sides_of (eCons (eCall (f1 gLen) (eCons (eVar 1) eNil)) (eCons (eVar 3) eNil)) ([.dat (.int k), .dat (tI c), .dat (tT t), .dat (.int h), .own [], .no, .no, .no] : VL.Env) β = .ok (.fz (tI (cellR 2 d h))) β := by
      refine eFnA_ok (β1 := β) (rs := [.fz (.int (d : Int)), .fz (.int h)]) ?_ rfl ?_
      · refine eCons_ok (β1 := β) (eCall_ok (β1 := β) rfl ?_) rfl
        show some (Rv.fz (.int ((c.map PyData.int).length : Nat))) = _
        rw [List.length_map, hc]
      · have := r_sides_of (d := (d : Int)) (h := h) (β := β) (by omega) (by omega)
        rw [Int.toNat_natCast] at this
        exact this
    show iZp3 true _ _ _ _ β = _
    unfold iZp3
    show R.bind (eFnA F_sides_of _ [.dat (.int k), .dat (tI c), .dat (tT t), .dat (.int h), .own [], .no, .no, .no] β) _ = _
    rw [e1]
    rfl
  · refine sRet_ok (r := .fz (tT (qR (cellR 2 d h) c t))) ?_ rfl
    refine eCall_ok (β1 := β) rfl ?_
    show some (Rv.fz (.tuple ([] ++ ((cellR 2 d h).zip (c.zip t)).flatMap fun p => [tI (if p.1 = 1 then flipR p.2.2 p.2.1 else p.2.2)]))) = _
    rw [List.nil_append]
    unfold tT qR
    rw [List.map_map, fm1]
    rfl
end Lw

namespace Lw
open PySem PySem.Spec PyProof.Rows L2 VL

theorem restD_eq (k : Nat) (hk : 0 < k) : ∀ (i : Nat) (p : Int), restD (k : Int) i p = p / ((k ^ i : Nat) : Int)
  | 0, p => by
    show p = _
    rw [Nat.pow_zero, Int.natCast_one, Int.ediv_one]
  | i + 1, p => by
    show restD (k : Int) i (p / k) = _
    rw [restD_eq k hk i, Int.ediv_ediv_of_nonneg (by omega), Nat.pow_succ', Int.natCast_mul]
theorem digs_get (k : Nat) (hk : 0 < k) : ∀ (d : Nat) (p : Int) (i : Nat), i < d → (digs (k : Int) d p)[i]? = some (p / ((k ^ i : Nat) : Int) % k)
  | 0, _, _, h => by omega
  | d + 1, p, 0, _ => by
    show some (p % (k : Int)) = _
    rw [Nat.pow_zero, Int.natCast_one, Int.ediv_one]
  | d + 1, p, i + 1, h => by
    show (digs (k : Int) d (p / k))[i]? = _
    rw [digs_get k hk d _ i (by omega), Int.ediv_ediv_of_nonneg (by omega), Nat.pow_succ', Int.natCast_mul]
theorem cell_get (k : Nat) (hk : 0 < k) (d : Nat) (p : Int) (j : Nat) (h : j < d) : (cellR k d p)[j]? = some (p / ((k ^ (d - 1 - j) : Nat) : Int) % k) := by
  unfold cellR
  rw [List.getElem?_reverse (by rw [digs_length]; exact h), digs_length]
  exact digs_get k hk d p _ (by omega)
theorem cell_ok {k d : Nat} (hk : 0 < k) (p : Int) : CellOk k (cellR k d p) := by
  intro x hx
  obtain ⟨j, hj, e⟩ := List.mem_iff_getElem.mp hx
  rw [cell_length] at hj
  have q := cell_get k hk d p j hj
  rw [List.getElem?_eq_getElem (by rw [cell_length]; exact hj), e] at q
  cases q
  exact ⟨Int.emod_nonneg _ (by omega), Int.emod_lt_of_pos _ (by omega)⟩
theorem zip_at {α γ : Type} : ∀ {as : List α} {bs : List γ} {j : Nat} {a : α} {b : γ}, as[j]? = some a → bs[j]? = some b → (as.zip bs)[j]? = some (a, b)
  | [], _, j, _, _, h, _ => by simp at h
  | _ :: _, [], j, _, _, _, h => by simp at h
  | x :: as, y :: bs, 0, a, b, h1, h2 => by
    simp at h1 h2
    subst h1 h2
    rfl
  | x :: as, y :: bs, j + 1, a, b, h1, h2 => by
    have := zip_at (as := as) (bs := bs) (j := j) (a := a) (b := b) (by simpa using h1) (by simpa using h2)
    simpa using this
theorem q_get {ss cs : List Int} {rs : List (List Int)} {j : Nat} {s c : Int} {r : List Int} (h1 : ss[j]? = some s) (h2 : cs[j]? = some c) (h3 : rs[j]? = some r) : (qR ss cs rs)[j]? = some (if s = 1 then flipR r c else r) := by
  unfold qR
  rw [List.getElem?_map, zip_at h1 (zip_at h2 h3)]
  rfl
theorem eqv_int (a b : Int) : PyData.eqv (.int a) (.int b) = decide (a = b) := by
  show (a == b) = _
  exact Bool.beq_eq_decide_eq a b
theorem r_own_question {k d : Nat} {c : List Int} {t : List (List Int)} {h : Int} {β : Bag} (hd : d ≤ 1000) (hc : c.length = d) (hcell : CellOk k c) (ht : TapeOk k d t) (hk : k ≤ 1000) :
    F__law_own_question [.fz (tI c), .fz (tT t), .fz (.int h)] β = .ok (.fz (tT (qR (cellR 2 d h) c t))) β := by
  obtain ⟨ρ', β', h1, h2⟩ := loop_inv (tg := tgT 2 [tgN 5, tgN 6]) (body := L1__law_own_question) (fun i ρ β' => β' = β ∧ ∃ x y z w, ρ = [.dat (tI c), .dat (tT t), .dat (.int h), .own (((qR (cellR 2 d h) c t).take i).map tI), .dat (.int d), x, y, z, w]) (ds := enumL 0 (t.map tI))
    (ρ := [.dat (tI c), .dat (tT t), .dat (.int h), .own [], .dat (.int d), .no, .no, .no, .no]) (β := β) 0 ⟨rfl, _, _, _, _, rfl⟩ fun i e ρ β' he hI => by
    obtain ⟨rfl, x, y, z, w, rfl⟩ := hI
    have hi : i < d := by
      have := lt_of_some he
      rw [enumL_length, List.length_map, ht.1] at this
      exact this
    obtain ⟨r, hr⟩ : ∃ r, t[i]? = some r := ⟨_, List.getElem?_eq_getElem (by rw [ht.1]; exact hi)⟩
    have eg := enumL_get 0 (t.map tI) i (tI r) (by rw [List.getElem?_map, hr]; rfl)
    rw [he, Nat.zero_add] at eg
    cases eg
    obtain ⟨ci, hci⟩ : ∃ ci, c[i]? = some ci := ⟨_, List.getElem?_eq_getElem (by rw [hc]; exact hi)⟩
    have rok := ht.2 r (List.mem_of_getElem? hr)
    have cok := hcell ci (List.mem_of_getElem? hci)
    obtain ⟨a, rfl⟩ : ∃ a : Nat, ci = (a : Int) := ⟨ci.toNat, by omega⟩
    have ha : a < r.length := by rw [rok.1]; omega
    have hs : (cellR 2 d h)[i]? = some (h / ((2 ^ (d - 1 - i) : Nat) : Int) % 2) := cell_get 2 (by decide) d h i hi
    generalize hsd : h / ((2 ^ (d - 1 - i) : Nat) : Int) % 2 = s at hs
    have hq := q_get hs hci hr
    rw [Nat.zero_add]
    have hsh : (h / 2 ^ ((d : Int) - 1 - i).toNat) = h / ((2 ^ (d - 1 - i) : Nat) : Int) := by
      have e1 : ((d : Int) - 1 - i).toNat = d - 1 - i := by omega
      rw [e1, Int.natCast_pow]
      rfl
    refine ⟨_, [.dat (tI c), .dat (tT t), .dat (.int h), .own (((qR (cellR 2 d h) c t).take i).map tI ++ [tI (if s = 1 then flipR r a else r)]), .dat (.int d), .dat (.int i), .dat (tI r), .dat (.int a), .dat (.bool (decide (s = 1)))], β', rfl, ?_, rfl, .dat (.int i), .dat (tI r), .dat (.int a), .dat (.bool (decide (s = 1))), ?_⟩
    · refine sSeq_nx (sAsg_ok (r := .fz (.int a)) (β1 := β') (eBin_ok (β1 := β') (x := .fz (tI c)) (y := .fz (.int i)) rfl rfl ?_) rfl (of_decide_eq_true rfl)) ?_
      · show (atI (c.map PyData.int) (i : Int)).map Rv.fz = _
        rw [atI_nat (v := PyData.int a) (by rw [List.getElem?_map, hci]; rfl)]
        rfl
      refine sSeq_nx (sAsg_ok (r := .fz (.bool (decide (s = 1)))) (β1 := β') ?_ rfl (of_decide_eq_true rfl)) ?_
      · refine eBin_ok (β1 := β') (x := .fz (.int s)) (y := .fz (.int 1)) ?_ rfl ?_
        · refine eBin_ok (β1 := β') (x := .fz (.int (h / 2 ^ ((d : Int) - 1 - i).toNat))) (y := .fz (.int 1)) (eBin_ok (β1 := β') (x := .fz (.int h)) (y := .fz (.int ((d : Int) - 1 - i))) rfl rfl ?_) rfl ?_
          · exact if_pos (by show (0 : Int) ≤ _; omega)
          · show some (Rv.fz (.int (Builtin.bitAnd _ 1))) = _
            rw [bitAnd_m1, hsh, ← hsd]
        · show some (Rv.fz (.bool (PyData.eqv (.int s) (.int 1)))) = _
          rw [eqv_int]
      · refine sApp_ok (r := .fz (tI (if s = 1 then flipR r a else r))) (β1 := β') rfl ?_ rfl ?_
        · by_cases e : s = 1
          · rw [if_pos e]
            refine eIf_t (β1 := β') (eTest_ok (β1 := β') ?_) ?_
            · show R.ok (Rv.fz (.bool (decide (s = 1)))) β' = _
              rw [decide_eq_true e]
            · refine eBin_ok (β1 := β') (x := .fz (tI (r.take a ++ [1 - r[a]]))) (y := .fz (tI (r.drop (a + 1)))) (eBin_ok (β1 := β') (x := .fz (tI (r.take a))) (y := .fz (tI [1 - r[a]])) (eSlice_ok (β1 := β') (β2 := β') (x := .fz (tI r)) rfl rfl (eSome_ok (β1 := β') (i := (a : Int)) rfl) ?_) (eCall_ok (β1 := β') (rs := [.fz (.int (1 - r[a]))]) (eCons_ok (β1 := β') (eBin_ok (β1 := β') (x := .fz (.int 1)) (y := .fz (.int r[a])) rfl (eBin_ok (β1 := β') (x := .fz (tI r)) (y := .fz (.int a)) rfl rfl ?_) rfl) rfl) rfl) ?_) (eSlice_ok (β1 := β') (β2 := β') (x := .fz (tI r)) rfl (eSome_ok (β1 := β') (i := ((a + 1 : Nat) : Int)) ?_) rfl ?_) ?_
              · show some (Rv.fz (.tuple (cut (r.map PyData.int) none (some (a : Int))))) = _
                rw [cut_pre, ← List.map_take]
              · show (atI (r.map PyData.int) (a : Int)).map Rv.fz = _
                rw [atI_nat (v := PyData.int r[a]) (by rw [List.getElem?_map, List.getElem?_eq_getElem ha]; rfl)]
                rfl
              · show (if _ then _ else _) = _
                rw [if_pos (by rw [List.length_map, List.length_map, List.length_take]; unfold big; simp only [List.length_singleton]; have := rok.1; omega)]
                unfold tI
                rw [List.map_append]
              · rfl
              · show some (Rv.fz (.tuple (cut (r.map PyData.int) (some ((a + 1 : Nat) : Int)) none))) = _
                rw [cut_suf, ← List.map_drop]
              · show (if _ then _ else _) = _
                rw [if_pos (by rw [List.length_map, List.length_map, List.length_drop, List.length_append, List.length_take]; unfold big; simp only [List.length_singleton]; have := rok.1; omega), ← List.map_append, List.append_assoc, flip_cut ha]
          · rw [if_neg e]
            refine eIf_f (β1 := β') (eTest_ok (β1 := β') ?_) rfl
            show R.ok (Rv.fz (.bool (decide (s = 1)))) β' = _
            rw [decide_eq_false e]
        · rw [List.length_map, List.length_take]
          unfold big
          omega
    · rw [List.take_add_one, hq, List.map_append]
      rfl
  obtain ⟨rfl, x, y, z, w, rfl⟩ := h2
  refine run_rt rfl (sSeq_nx (sPar2_ok (β1 := β') (x := .tm []) (y := .fz (.int d)) rfl (eCall_ok (β1 := β') rfl ?_) rfl) (sSeq_nx (sLoop_ok (β1 := β') (ds := enumL 0 (t.map tI)) rfl h1) (sRet_ok (r := .fz (tT (qR (cellR 2 d h) c t))) (eCall_ok (β1 := β') rfl ?_) rfl)))
  · show some (Rv.fz (.int ((t.map tI).length : Nat))) = _
    rw [List.length_map, ht.1]
  · show some (Rv.fz (.tuple (((qR (cellR 2 d h) c t).take (0 + (enumL 0 (t.map tI)).length)).map tI))) = _
    rw [enumL_length, List.length_map, ht.1, Nat.zero_add, List.take_of_length_le (by rw [q_length (cell_length 2 d h) hc ht.1]; exact Nat.le_refl _)]
/-- all questions -/
def allQ (d : Nat) (c : List Int) (t : List (List Int)) : List (List (List Int)) := (List.range (2 ^ d)).map fun (h : Nat) => qR (cellR 2 d h) c t
theorem r_all_questions {k d : Nat} {c : List Int} {t : List (List Int)} {β : Bag} (hk : k ≤ 1000) (hd : d ≤ 15) (hc : c.length = d) (ht : TapeOk k d t) :
    F_all_questions [.fz (.int k), .fz (tI c), .fz (tT t)] β = .ok (.fz (.tuple ((allQ d c t).map tT))) β := by
  have hb : 2 ^ d ≤ 2 ^ 15 := Nat.pow_le_pow_right (by decide) hd
  have e2 : (1 : Int) * 2 ^ (d : Int).toNat = ((2 ^ d : Nat) : Int) := by
    rw [Int.one_mul, Int.toNat_natCast, Int.natCast_pow]
    rfl
  refine run_rt rfl (sRet_ok (r := .fz (.tuple ((allQ d c t).map tT))) (eCall_ok (β1 := β) (eCons_ok (β1 := β) (eComp_eq (β1 := β) (ds := upTo 0 (2 ^ d)) (ys := (allQ d c t).map tT) ?_ ?_ ?_) rfl) rfl) rfl)
  · refine iRng1_ok (j := ((2 ^ d : Nat) : Int)) (β1 := β) (eCons_ok (β1 := β) (rs := []) (eBin_ok (β1 := β) (x := .fz (.int 1)) (y := .fz (.int (d : Int))) rfl (eCall_ok (β1 := β) rfl ?_) ?_) rfl) (Int.le_trans (by decide) (Int.natCast_nonneg _)) (Int.lt_of_le_of_lt (Int.ofNat_le.mpr hb) (by decide)) (Int.toNat_natCast _)
    · show some (Rv.fz (.int ((c.map PyData.int).length : Nat))) = _
      rw [List.length_map, hc]
    · show (if CX2 1 (d : Int) then some (Rv.fz (PyData.int (1 * 2 ^ (d : Int).toNat))) else _) = _
      rw [if_pos ⟨by omega, by omega, by decide⟩, e2]
  · rw [upTo_eq, List.length_map, List.length_range]
    unfold big
    omega
  · rw [upTo_eq]
    unfold allQ
    rw [List.map_map]
    refine comp_map (fun (i : Nat) => PyData.int i) _ fun i hi => ⟨_, .fz (tT (qR (cellR 2 d i) c t)), rfl, ?_, rfl⟩
    exact eFnA_ok (β1 := β) rfl rfl (r_question hk (by omega) hc ht)
end Lw

namespace Lw
open PySem PySem.Spec PyProof.Rows L2 VL

def onesF : Nat → List Int → List Int
  | _, [] => []
  | n, x :: r => if x = 1 then (n : Int) :: onesF (n + 1) r else onesF (n + 1) r
theorem ones_le : ∀ (n : Nat) (r : List Int), (onesF n r).length ≤ r.length
  | _, [] => Nat.le_refl _
  | n, x :: r => by
    have := ones_le (n + 1) r
    unfold onesF
    split
    · simp only [List.length_cons]; omega
    · simp only [List.length_cons]; omega
theorem ones_rng : ∀ (n : Nat) (r : List Int) (x : Int), x ∈ onesF n r → (n : Int) ≤ x ∧ x < n + r.length
  | _, [], x, h => by cases h
  | n, y :: r, x, h => by
    unfold onesF at h
    have ih := ones_rng (n + 1) r x
    simp only [List.length_cons]
    split at h
    · rcases List.mem_cons.mp h with h | h
      · omega
      · have := ih h
        omega
    · have := ih h
      omega
def bitOf : PyData → Option PyData
  | .tuple [.int i, .int b] => if b = 1 then some (.int i) else none
  | _ => none
theorem mem_enum : ∀ (n : Nat) (r : List Int) (d : PyData), d ∈ enumL n (r.map PyData.int) → ∃ i b, d = .tuple [.int i, .int b]
  | _, [], d, h => by cases h
  | n, y :: r, d, h => by
    simp only [List.map_cons, enumL] at h
    rcases List.mem_cons.mp h with h | h
    · exact ⟨_, _, h⟩
    · exact mem_enum (n + 1) r d h
theorem enum_ones : ∀ (n : Nat) (r : List Int), (enumL n (r.map PyData.int)).filterMap bitOf = (onesF n r).map PyData.int
  | _, [] => rfl
  | n, y :: r => by
    simp only [List.map_cons, enumL]
    unfold onesF
    rw [List.filterMap_cons, enum_ones (n + 1) r]
    by_cases e : y = 1
    · rw [if_pos e]
      simp [bitOf, e]
    · rw [if_neg e]
      simp [bitOf, e]
def stepP (k : Nat) (r : List Int) (ps : List Int) : List Int := ps.flatMap fun p => (onesF 0 r).map fun c => p * k + c
def placesR (k : Nat) : List (List Int) → List Int → List Int
  | [], ps => ps
  | r :: rs, ps => placesR k rs (stepP k r ps)
theorem places_snoc (k : Nat) (r : List Int) : ∀ (rs : List (List Int)) (ps : List Int), placesR k (rs ++ [r]) ps = stepP k r (placesR k rs ps)
  | [], _ => rfl
  | q :: rs, ps => places_snoc k r rs (stepP k q ps)
theorem step_length (k : Nat) (r : List Int) : ∀ ps : List Int, (stepP k r ps).length = ps.length * (onesF 0 r).length
  | [] => by simp [stepP]
  | p :: ps => by
    have := step_length k r ps
    unfold stepP at this ⊢
    rw [List.flatMap_cons, List.length_append, this, List.length_map, List.length_cons, Nat.succ_mul]
    omega
def PlOk (k n : Nat) (ps : List Int) : Prop := ps.length ≤ k ^ n ∧ ∀ p ∈ ps, 0 ≤ p ∧ p < ((k ^ n : Nat) : Int)
theorem step_ok {k n : Nat} {r ps : List Int} (hr : r.length = k) (h : PlOk k n ps) : PlOk k (n + 1) (stepP k r ps) := by
  refine ⟨?_, fun p hp => ?_⟩
  · rw [step_length, Nat.pow_succ]
    exact Nat.mul_le_mul h.1 (by rw [← hr]; exact ones_le 0 r)
  · obtain ⟨q, hq, hp⟩ := List.mem_flatMap.mp hp
    obtain ⟨c, hc, rfl⟩ := List.mem_map.mp hp
    have h1 := h.2 q hq
    have h2 := ones_rng 0 r c hc
    rw [hr] at h2
    have h3 : q * k + k ≤ ((k ^ n : Nat) : Int) * k := by
      have : (q + 1) * (k : Int) ≤ ((k ^ n : Nat) : Int) * k := Int.mul_le_mul_of_nonneg_right (by omega) (by omega)
      rw [Int.add_mul, Int.one_mul] at this
      exact this
    have h4 : 0 ≤ q * (k : Int) := Int.mul_nonneg h1.1 (by omega)
    rw [Nat.pow_succ, Int.natCast_mul]
    omega
theorem places_ok {k : Nat} : ∀ {rs : List (List Int)} {n : Nat} {ps : List Int}, (∀ r ∈ rs, r.length = k) → PlOk k n ps → PlOk k (n + rs.length) (placesR k rs ps)
  | [], n, ps, _, h => h
  | r :: rs, n, ps, hr, h => by
    have := places_ok (rs := rs) (fun q hq => hr q (List.mem_cons_of_mem _ hq)) (step_ok (hr r (List.mem_cons_self ..)) h)
    rw [List.length_cons, show n + (rs.length + 1) = n + 1 + rs.length by omega]
    exact this
theorem pl0 (k : Nat) : PlOk k 0 [0] := ⟨by simp, fun p hp => by
  rcases List.mem_singleton.mp hp with rfl
  exact ⟨by omega, by simp⟩⟩
def getI (s : List Int) (p : Int) : Int := s.getD p.toNat 0
theorem get_at {s : List Int} {p : Int} (h0 : 0 ≤ p) (h1 : p < s.length) : atI (s.map PyData.int) p = some (.int (getI s p)) := by
  obtain ⟨n, rfl⟩ : ∃ n : Nat, p = n := ⟨p.toNat, by omega⟩
  have hn : n < s.length := by omega
  refine atI_nat ?_
  rw [List.getElem?_map, List.getElem?_eq_getElem hn]
  unfold getI
  rw [Int.toNat_natCast, List.getD_eq_getElem?_getD, List.getElem?_eq_getElem hn]
  rfl
def ansR (k : Nat) (s : List Int) (asked : List (List Int)) : Int := ((placesR k asked [0]).map (getI s)).sum % 2
section
variable {k d : Nat} {s : List Int} {asked : List (List Int)} {β : Bag}
theorem pow_le_of (hk : 0 < k) {n : Nat} (hn : n ≤ d) : k ^ n ≤ k ^ d := Nat.pow_le_pow_right hk hn
theorem comp_ones {r : List Int} {vs : List Nat} {t : ET} {e : E} {f : EI} {ρ : VL.Env} {i j : Nat} (hz : r.length ≤ big) (hf : f ρ β = .ok (enumL 0 (r.map PyData.int)) β)
    (ht : ∀ a b : Int, ∃ ρ1, tgT 2 [tgN i, tgN j] (.tuple [.int a, .int b]) (forget vs ρ) = some ρ1 ∧ t ρ1 β = .ok (decide (b = 1)) β ∧ e ρ1 β = .ok (.fz (.int a)) β) : eComp vs (tgT 2 [tgN i, tgN j]) t e f ρ β = .ok (.tm ((onesF 0 r).map PyData.int)) β := by
  refine eComp_eq hf (by rw [enumL_length, List.length_map]; exact hz) ?_
  rw [← enum_ones]
  refine comp_pure bitOf fun d hd => ?_
  obtain ⟨a, b, rfl⟩ := mem_enum 0 r d hd
  obtain ⟨ρ1, h1, h2, h3⟩ := ht a b
  unfold compOne
  rw [h1]
  simp only [h2]
  by_cases eb : b = 1
  · rw [decide_eq_true eb]
    simp only [h3, Rv.keep?, bitOf, if_pos eb]
  · rw [decide_eq_false eb]
    simp only [bitOf, if_neg eb]
/-- for place in places: longer.extend([place * k + c for c in ones]) -/
theorem longer_run {tg : TgF} {body : T} {ones ps : List Int} {ρ : VL.Env} (Sh : List PyData → VL.Env → Prop) (hz : ps.length * ones.length ≤ big) (h0 : Sh [] ρ)
    (st : ∀ (p : Int) acc ρ, Sh acc ρ → acc.length + ones.length ≤ big → ∃ ρ1 ρ2, tg (.int p) ρ = some ρ1 ∧ body ρ1 β = .nx ρ2 β ∧ Sh (acc ++ (ones.map fun (c : Int) => p * (k : Int) + c).map PyData.int) ρ2) :
    ∃ ρ', loopD tg body [] (ps.map PyData.int) ρ β = .nx ρ' β ∧ Sh ((ps.flatMap fun p => ones.map fun (c : Int) => p * (k : Int) + c).map PyData.int) ρ' := by
  have el : ∀ qs : List Int, (qs.flatMap fun p => (ones.map fun c => p * (k : Int) + c).map PyData.int) = (qs.flatMap fun p => ones.map fun c => p * (k : Int) + c).map PyData.int := fun qs => by
    induction qs with
    | nil => rfl
    | cons q qs ih => rw [List.flatMap_cons, List.flatMap_cons, List.map_append, ih]
  have eln : ∀ qs : List Int, ((qs.flatMap fun p => ones.map fun c => p * (k : Int) + c).map PyData.int).length = qs.length * ones.length := fun qs => by
    rw [List.length_map]
    induction qs with
    | nil => simp
    | cons q qs ih =>
      rw [List.flatMap_cons, List.length_append, ih, List.length_map, List.length_cons, Nat.succ_mul]
      omega
  obtain ⟨ρ', h1, h2⟩ := loop_app (tg := tg) (body := body) (β := β) (g := PyData.int) (f := fun p => (ones.map fun c => p * (k : Int) + c).map PyData.int) Sh (xs := ps) (acc0 := []) h0 fun p hp acc ρ hs hl => by
    refine st p acc ρ hs ?_
    rw [List.nil_append, el, eln] at hl
    simp only [List.length_map] at hl
    omega
  rw [List.nil_append, el] at h2
  exact ⟨ρ', h1, h2⟩
theorem CMk {a : Int} (hk : k ≤ 1000) : CM a (k : Int) := .inr (.inl ⟨by omega, by omega⟩)
theorem r_answer_bit (hk0 : 0 < k) (hk : k ≤ 1000) (hkd : k ^ d ≤ 5000) (hs : s.length = k ^ d) (ha : TapeOk k d asked) : F_answer_bit [.fz (.int k), .fz (tI s), .fz (tT asked)] β = .ok (.fz (.int (ansR k s asked))) β := by
  have hz : ∀ n ≤ d, k ^ n ≤ 5000 := fun n hn => Nat.le_trans (pow_le_of hk0 hn) hkd
  obtain ⟨ρ', β', h1, h2⟩ := loop_inv (tg := tgN 4) (body := L2_answer_bit) (fun n ρ β' => β' = β ∧ ∃ x4 x5 x6 x7 x8 x9, ρ = [.dat (.int k), .dat (tI s), .dat (tT asked), .dat (.list ((placesR k (asked.take n) [0]).map .int)), x4, x5, x6, x7, x8, x9]) (ds := asked.map tI)
    (ρ := [.dat (.int k), .dat (tI s), .dat (tT asked), .dat (.list [.int 0]), .no, .no, .no, .no, .no, .no]) (β := β) 0 ⟨rfl, _, _, _, _, _, _, rfl⟩ fun i e ρ β' he hI => by
    obtain ⟨rfl, x4, x5, x6, x7, x8, x9, rfl⟩ := hI
    rw [Nat.zero_add]
    rw [List.getElem?_map] at he
    cases hr : asked[i]? with
    | none => rw [hr] at he; cases he
    | some r =>
      rw [hr] at he
      cases he
      have hi : i < d := by rw [← ha.1]; exact lt_of_some hr
      have rl := (ha.2 r (List.mem_of_getElem? hr)).1
      have pok := places_ok (k := k) (rs := asked.take i) (n := 0) (ps := [0]) (fun q hq => (ha.2 q (List.mem_of_mem_take hq)).1) (pl0 k)
      rw [List.length_take, ha.1, Nat.min_eq_left (by omega), Nat.zero_add] at pok
      generalize hps : placesR k (asked.take i) [0] = ps at pok ⊢
      have sok := step_ok rl pok
      have hl1 := hz (i + 1) hi
      have hmul : ps.length * (onesF 0 r).length ≤ big := by
        rw [← step_length k r ps]
        unfold big
        have := sok.1
        omega
      obtain ⟨ρ2, g1, y7, y8, g2⟩ := longer_run (k := k) (β := β') (tg := tgN 7) (body := L1_answer_bit) (ones := onesF 0 r) (ps := ps) (fun acc ρ => ∃ y7 y8, ρ = [.dat (.int k), .dat (tI s), .dat (tT asked), .dat (.list (ps.map .int)), .dat (tI r), .dat (.list ((onesF 0 r).map .int)), .own acc, y7, y8, x9])
        (ρ := [.dat (.int k), .dat (tI s), .dat (tT asked), .dat (.list (ps.map .int)), .dat (tI r), .dat (.list ((onesF 0 r).map .int)), .own [], x7, x8, x9]) hmul ⟨_, _, rfl⟩ fun p acc ρ hs hl => by
          obtain ⟨y7, y8, rfl⟩ := hs
          refine ⟨_, [.dat (.int k), .dat (tI s), .dat (tT asked), .dat (.list (ps.map .int)), .dat (tI r), .dat (.list ((onesF 0 r).map .int)), .own (acc ++ ((onesF 0 r).map fun c => p * k + c).map .int), .dat (.int p), y8, x9], rfl, ?_, _, _, rfl⟩
          refine sExt_ok (r := .tm (((onesF 0 r).map fun c => p * k + c).map .int)) (β1 := β') rfl (eComp_eq (β1 := β') (ds := (onesF 0 r).map .int) rfl ?_ ?_) rfl ?_
          · rw [List.length_map]
            have := ones_le 0 r
            unfold big
            omega
          · rw [List.map_map]
            refine comp_map PyData.int _ fun c hc => ⟨_, .fz (.int (p * k + c)), rfl, ?_, rfl⟩
            refine eBin_ok (β1 := β') (x := .fz (.int (p * k))) (y := .fz (.int c)) (eBin_ok (β1 := β') (x := .fz (.int p)) (y := .fz (.int k)) rfl rfl ?_) rfl rfl
            exact if_pos (CMk hk)
          · rw [List.length_map, List.length_map]
            exact hl
      refine ⟨_, [.dat (.int k), .dat (tI s), .dat (tT asked), .dat (.list ((stepP k r ps).map .int)), .dat (tI r), .dat (.list ((onesF 0 r).map .int)), .dat (.list ((stepP k r ps).map .int)), y7, y8, x9], β', rfl, ?_, rfl, .dat (tI r), .dat (.list ((onesF 0 r).map .int)), .dat (.list ((stepP k r ps).map .int)), y7, y8, x9, ?_⟩
      · refine sSeq_nx (sAsg_ok (r := .tm ((onesF 0 r).map .int)) (β1 := β') (comp_ones (by rw [rl]; unfold big; omega) rfl fun a b => ⟨_, rfl, eTest_ok (eBin_ok (β1 := β') (x := .fz (.int b)) (y := .fz (.int 1)) rfl rfl ?_), rfl⟩) rfl (of_decide_eq_true rfl)) ?_
        · show some (Rv.fz (.bool (PyData.eqv (.int b) (.int 1)))) = _
          rw [eqv_int]
        refine sSeq_nx (sAsg_ok (r := .tm []) (sl := .own []) (β1 := β') rfl rfl (of_decide_eq_true rfl)) ?_
        refine sSeq_nx (sLoop_ok (β1 := β') (ds := ps.map .int) rfl g1) ?_
        rw [g2]
        rfl
      · rw [List.take_add_one, hr, Option.toList_some, places_snoc, hps]
  obtain ⟨rfl, x4, x5, x6, x7, x8, x9, rfl⟩ := h2
  have pok := places_ok (k := k) (rs := asked) (n := 0) (ps := [0]) (fun q hq => (ha.2 q hq).1) (pl0 k)
  rw [ha.1, Nat.zero_add] at pok
  refine run_rt rfl (sSeq_nx (sAsg_ok (r := .tm [.int 0]) (β1 := β') rfl rfl (of_decide_eq_true rfl)) (sSeq_nx (sLoop_ok (β1 := β') (ds := asked.map tI) rfl h1) ?_))
  rw [Nat.zero_add, List.length_map, List.take_length]
  refine sRet_ok (r := .fz (.int (ansR k s asked))) (eBin_ok (β1 := β') (x := .fz (.int ((placesR k asked [0]).map (getI s)).sum)) (y := .fz (.int 2)) (eCall_ok (β1 := β') (eCons_ok (β1 := β') (rs := []) (eComp_eq (β1 := β') (ds := (placesR k asked [0]).map .int) (ys := ((placesR k asked [0]).map (getI s)).map .int) rfl ?_ ?_) rfl) ?_) rfl rfl) rfl
  · rw [List.length_map]
    have := pok.1
    unfold big
    omega
  · rw [List.map_map]
    refine comp_map PyData.int _ fun p hp => ⟨_, .fz (.int (getI s p)), rfl, ?_, rfl⟩
    refine eBin_ok (β1 := β') (x := .fz (tI s)) (y := .fz (.int p)) rfl rfl ?_
    show (atI (s.map PyData.int) p).map Rv.fz = _
    have := pok.2 p hp
    rw [get_at this.1 (by rw [hs]; exact this.2)]
    rfl
  · show (ints? _).map _ = _
    rw [VL.ints_map]
    rfl
end
end Lw

namespace Lw
open PySem PySem.Spec PyProof.Rows L2 VL
section
variable {k d : Nat} {s : List Int} {asked : List (List Int)} {β : Bag}
theorem r_own_answer (hk0 : 0 < k) (hk : k ≤ 1000) (hkd : k ^ d ≤ 5000) (hs : s.length = k ^ d) (ha : TapeOk k d asked) : F__law_own_answer [.fz (.int k), .fz (tI s), .fz (tT asked)] β = .ok (.fz (.int (ansR k s asked))) β := by
  have hz : ∀ n ≤ d, k ^ n ≤ 5000 := fun n hn => Nat.le_trans (pow_le_of hk0 hn) hkd
  obtain ⟨ρ', β', h1, h2⟩ := loop_inv (tg := tgN 4) (body := L2__law_own_answer) (fun n ρ β' => β' = β ∧ ∃ x4 x5 x6 x7 x8 x9, ρ = [.dat (.int k), .dat (tI s), .dat (tT asked), .dat (.list ((placesR k (asked.take n) [0]).map .int)), x4, x5, x6, x7, x8, x9]) (ds := asked.map tI)
    (ρ := [.dat (.int k), .dat (tI s), .dat (tT asked), .dat (.list [.int 0]), .no, .no, .no, .no, .no, .no]) (β := β) 0 ⟨rfl, _, _, _, _, _, _, rfl⟩ fun i e ρ β' he hI => by
    obtain ⟨rfl, x4, x5, x6, x7, x8, x9, rfl⟩ := hI
    rw [Nat.zero_add]
    rw [List.getElem?_map] at he
    cases hr : asked[i]? with
    | none => rw [hr] at he; cases he
    | some r =>
      rw [hr] at he
      cases he
      have hi : i < d := by rw [← ha.1]; exact lt_of_some hr
      have rl := (ha.2 r (List.mem_of_getElem? hr)).1
      have pok := places_ok (k := k) (rs := asked.take i) (n := 0) (ps := [0]) (fun q hq => (ha.2 q (List.mem_of_mem_take hq)).1) (pl0 k)
      rw [List.length_take, ha.1, Nat.min_eq_left (by omega), Nat.zero_add] at pok
      generalize hps : placesR k (asked.take i) [0] = ps at pok ⊢
      have sok := step_ok rl pok
      have hl1 := hz (i + 1) hi
      have hmul : ps.length * (onesF 0 r).length ≤ big := by
        rw [← step_length k r ps]
        unfold big
        have := sok.1
        omega
      obtain ⟨ρ2, g1, y7, y8, g2⟩ := longer_run (k := k) (β := β') (tg := tgN 5) (body := L1__law_own_answer) (ones := onesF 0 r) (ps := ps) (fun acc ρ => ∃ y7 y8, ρ = [.dat (.int k), .dat (tI s), .dat (tT asked), .dat (.list (ps.map .int)), .dat (tI r), y7, .dat (.list ((onesF 0 r).map .int)), .own acc, y8, x9])
        (ρ := [.dat (.int k), .dat (tI s), .dat (tT asked), .dat (.list (ps.map .int)), .dat (tI r), x5, .dat (.list ((onesF 0 r).map .int)), .own [], x8, x9]) hmul ⟨_, _, rfl⟩ fun p acc ρ hs hl => by
          obtain ⟨y7, y8, rfl⟩ := hs
          refine ⟨_, [.dat (.int k), .dat (tI s), .dat (tT asked), .dat (.list (ps.map .int)), .dat (tI r), .dat (.int p), .dat (.list ((onesF 0 r).map .int)), .own (acc ++ ((onesF 0 r).map fun c => p * k + c).map .int), y8, x9], rfl, ?_, _, _, rfl⟩
          refine sExt_ok (r := .tm (((onesF 0 r).map fun c => p * k + c).map .int)) (β1 := β') rfl (eComp_eq (β1 := β') (ds := (onesF 0 r).map .int) rfl ?_ ?_) rfl ?_
          · rw [List.length_map]
            have := ones_le 0 r
            unfold big
            omega
          · rw [List.map_map]
            refine comp_map PyData.int _ fun c hc => ⟨_, .fz (.int (p * k + c)), rfl, ?_, rfl⟩
            refine eBin_ok (β1 := β') (x := .fz (.int (p * k))) (y := .fz (.int c)) (eBin_ok (β1 := β') (x := .fz (.int p)) (y := .fz (.int k)) rfl rfl ?_) rfl rfl
            exact if_pos (CMk hk)
          · rw [List.length_map, List.length_map]
            exact hl
      refine ⟨_, [.dat (.int k), .dat (tI s), .dat (tT asked), .dat (.list ((stepP k r ps).map .int)), .dat (tI r), y7, .dat (.list ((onesF 0 r).map .int)), .dat (.list ((stepP k r ps).map .int)), y8, x9], β', rfl, ?_, rfl, .dat (tI r), y7, .dat (.list ((onesF 0 r).map .int)), .dat (.list ((stepP k r ps).map .int)), y8, x9, ?_⟩
      · refine sSeq_nx (sPar2_ok (β1 := β') (β2 := β') (x := .tm ((onesF 0 r).map .int)) (y := .tm []) (comp_ones (by rw [rl]; unfold big; omega) rfl fun a b => ⟨_, rfl, eTest_ok (eBin_ok (β1 := β') (x := .fz (.int b)) (y := .fz (.int 1)) rfl rfl ?_), rfl⟩) rfl rfl) ?_
        · show some (Rv.fz (.bool (PyData.eqv (.int b) (.int 1)))) = _
          rw [eqv_int]
        refine sSeq_nx (sLoop_ok (β1 := β') (ds := ps.map .int) rfl g1) ?_
        rw [g2]
        rfl
      · rw [List.take_add_one, hr, Option.toList_some, places_snoc, hps]
  obtain ⟨rfl, x4, x5, x6, x7, x8, x9, rfl⟩ := h2
  have pok := places_ok (k := k) (rs := asked) (n := 0) (ps := [0]) (fun q hq => (ha.2 q hq).1) (pl0 k)
  rw [ha.1, Nat.zero_add] at pok
  refine run_rt rfl (sSeq_nx (sAsg_ok (r := .tm [.int 0]) (β1 := β') rfl rfl (of_decide_eq_true rfl)) (sSeq_nx (sLoop_ok (β1 := β') (ds := asked.map tI) rfl h1) ?_))
  rw [Nat.zero_add, List.length_map, List.take_length]
  refine sRet_ok (r := .fz (.int (ansR k s asked))) (eBin_ok (β1 := β') (x := .fz (.int ((placesR k asked [0]).map (getI s)).sum)) (y := .fz (.int 2)) (eCall_ok (β1 := β') (eCons_ok (β1 := β') (rs := []) (x := .fz (.int ((placesR k asked [0]).map (getI s)).sum)) (eCall_ok (β1 := β') (eCons_ok (β1 := β') (rs := []) (eComp_eq (β1 := β') (ds := (placesR k asked [0]).map .int) (ys := ((placesR k asked [0]).map (getI s)).map .int) rfl ?_ ?_) rfl) ?_) rfl) rfl) rfl rfl) rfl
  · rw [List.length_map]
    have := pok.1
    unfold big
    omega
  · rw [List.map_map]
    refine comp_map PyData.int _ fun p hp => ⟨_, .fz (.int (getI s p)), rfl, ?_, rfl⟩
    refine eBin_ok (β1 := β') (x := .fz (tI s)) (y := .fz (.int p)) rfl rfl ?_
    show (atI (s.map PyData.int) p).map Rv.fz = _
    have := pok.2 p hp
    rw [get_at this.1 (by rw [hs]; exact this.2)]
    rfl
  · show (ints? _).map _ = _
    rw [VL.ints_map]
    rfl
end
/-! ### the law of the cubes -/
def E2 (a b : Int) : Prop := (a - b) % 2 = 0
theorem E2.rfl' (a : Int) : E2 a a := by unfold E2; omega
theorem E2.trans {a b c : Int} (h : E2 a b) (g : E2 b c) : E2 a c := by unfold E2 at *; omega
theorem E2.add {a b c d : Int} (h : E2 a b) (g : E2 c d) : E2 (a + c) (b + d) := by unfold E2 at *; omega
theorem E2.mod {a b : Int} (h : E2 a b) : a % 2 = b % 2 := by unfold E2 at *; omega
theorem E2.of_mod (a : Int) : E2 (a % 2) a := by unfold E2; omega
theorem E2.sum {α : Type} {f g : α → Int} : ∀ {xs : List α}, (∀ x ∈ xs, E2 (f x) (g x)) → E2 (xs.map f).sum (xs.map g).sum
  | [], _ => E2.rfl' 0
  | x :: xs, h => by
    rw [List.map_cons, List.map_cons, List.sum_cons, List.sum_cons]
    exact (h x (List.mem_cons_self ..)).add (E2.sum fun y hy => h y (List.mem_cons_of_mem _ hy))
theorem sum_add {α : Type} (f g : α → Int) : ∀ xs : List α, (xs.map f).sum + (xs.map g).sum = (xs.map fun x => f x + g x).sum
  | [] => rfl
  | x :: xs => by
    have := sum_add f g xs
    simp only [List.map_cons, List.sum_cons] at this ⊢
    omega
def flipN : Nat → List Int → Int → List Int
  | _, [], _ => []
  | n, x :: r, c => (if (n : Int) = c then 1 - x else x) :: flipN (n + 1) r c
theorem flipN_eq : ∀ (r : List Int) (n : Nat) (c : Int), (r.mapIdx fun i x => if ((n + i : Nat) : Int) = c then 1 - x else x) = flipN n r c
  | [], _, _ => rfl
  | x :: r, n, c => by
    have ih := flipN_eq r (n + 1) c
    rw [List.mapIdx_cons]
    unfold flipN
    rw [← ih]
    refine congrArg (List.cons _) (congrArg (fun F => List.mapIdx F r) ?_)
    funext i y
    rw [show n + (i + 1) = n + 1 + i by omega]
theorem flip_zero (r : List Int) (c : Int) : flipR r c = flipN 0 r c := by
  rw [← flipN_eq r 0 c]
  unfold flipR
  congr 1
  funext i x
  rw [Nat.zero_add]
theorem ones_flip (f : Int → Int) : ∀ (r : List Int) (n : Nat) (c : Int), Bits r → E2 (((onesF n r).map f).sum + ((onesF n (flipN n r c)).map f).sum) (if (n : Int) ≤ c ∧ c < n + r.length then f c else 0)
  | [], n, c, _ => by
    rw [if_neg (by simp only [List.length_nil]; omega)]
    exact E2.rfl' 0
  | x :: r, n, c, h => by
    have ih := ones_flip f r (n + 1) c fun y hy => h y (List.mem_cons_of_mem _ hy)
    have hx := h x (List.mem_cons_self ..)
    simp only [List.length_cons]
    unfold flipN onesF
    by_cases e : (n : Int) = c
    · subst e
      rw [if_neg (by omega)] at ih
      have q1 : (n : Int) ≤ n ∧ (n : Int) < n + ((r.length + 1 : Nat) : Int) := by omega
      rw [if_pos q1, show (if (n : Int) = (n : Int) then (1 : Int) - x else x) = 1 - x from if_pos rfl]
      rcases hx with rfl | rfl
      · rw [if_neg (by decide : ¬ (0 : Int) = 1), if_pos (by decide : (1 : Int) - 0 = 1), List.map_cons, List.sum_cons]
        unfold E2 at *
        omega
      · rw [if_pos (rfl : (1 : Int) = 1), if_neg (by decide : ¬ (1 : Int) - 1 = 1), List.map_cons, List.sum_cons]
        unfold E2 at *
        omega
    · rw [if_neg e]
      have e2 : (if (n : Int) ≤ c ∧ c < n + ((r.length + 1 : Nat) : Int) then f c else 0) = (if ((n + 1 : Nat) : Int) ≤ c ∧ c < ((n + 1 : Nat) : Int) + r.length then f c else 0) := by
        by_cases g : ((n + 1 : Nat) : Int) ≤ c ∧ c < ((n + 1 : Nat) : Int) + r.length
        · rw [if_pos g, if_pos (by omega)]
        · rw [if_neg g, if_neg (by omega)]
      rw [e2]
      split
      · simp only [List.map_cons, List.sum_cons]
        unfold E2 at *
        omega
      · exact ih
theorem places_app (k : Nat) : ∀ (rs : List (List Int)) (ps qs : List Int), placesR k rs (ps ++ qs) = placesR k rs ps ++ placesR k rs qs
  | [], _, _ => rfl
  | r :: rs, ps, qs => by
    unfold placesR
    rw [← places_app k rs]
    unfold stepP
    rw [List.flatMap_append]
def aR (k : Nat) (g : Int → Int) (rs : List (List Int)) (p : Int) : Int := ((placesR k rs [p]).map g).sum
theorem places_sum (k : Nat) (g : Int → Int) (rs : List (List Int)) : ∀ ps : List Int, ((placesR k rs ps).map g).sum = (ps.map (aR k g rs)).sum
  | [] => by
    have : ∀ rs : List (List Int), placesR k rs [] = [] := fun rs => by
      induction rs with
      | nil => rfl
      | cons r rs ih => exact ih
    rw [this]
    rfl
  | p :: ps => by
    have e : p :: ps = [p] ++ ps := rfl
    rw [e, places_app, List.map_append, List.sum_append, places_sum k g rs ps, List.map_append, List.sum_append]
    simp [aR]
theorem aR_cons (k : Nat) (g : Int → Int) (r : List Int) (rs : List (List Int)) (p : Int) : aR k g (r :: rs) p = ((onesF 0 r).map fun c => aR k g rs (p * k + c)).sum := by
  show ((placesR k rs (stepP k r [p])).map g).sum = _
  rw [places_sum]
  unfold stepP
  rw [List.flatMap_cons, List.flatMap_nil, List.append_nil, List.map_map]
  rfl
theorem cellR_succ (k : Int) (d : Nat) (p : Int) : cellR k (d + 1) p = (restD k d p % k) :: cellR k d p := by
  unfold cellR
  rw [digs_snoc, List.reverse_append]
  rfl
theorem digs_high (k : Nat) (hk : 0 < k) : ∀ (d : Nat) (p x : Int), digs (k : Int) d (p + ((k ^ d : Nat) : Int) * x) = digs (k : Int) d p
  | 0, _, _ => rfl
  | d + 1, p, x => by
    have e : p + ((k ^ (d + 1) : Nat) : Int) * x = p + (k : Int) * (((k ^ d : Nat) : Int) * x) := by
      rw [Nat.pow_succ', Int.natCast_mul, Int.mul_assoc]
    unfold digs
    rw [e, Int.add_mul_emod_self_left, Int.add_mul_ediv_left _ _ (by omega), digs_high k hk d]
theorem allQ_cons {d : Nat} {c : Int} {cs : List Int} {r : List Int} {rs : List (List Int)} : allQ (d + 1) (c :: cs) (r :: rs) = (allQ d cs rs).map (r :: ·) ++ (allQ d cs rs).map (flipR r c :: ·) := by
  unfold allQ
  rw [Nat.pow_succ, Nat.mul_two, List.range_add, List.map_append, List.map_map, List.map_map, List.map_map]
  have hp : (0 : Int) < ((2 ^ d : Nat) : Int) := by
    have := Nat.pow_pos (n := d) (show 0 < 2 by decide)
    omega
  congr 1
  · refine List.map_congr_left fun h hh => ?_
    have hl : h < 2 ^ d := List.mem_range.mp hh
    have e := cellR_succ 2 d (h : Int)
    have e1 := restD_eq 2 (by decide) d (h : Int)
    rw [show restD 2 d (h : Int) = 0 from e1.trans (Int.ediv_eq_zero_of_lt (by omega) (by omega))] at e
    rw [e]
    rfl
  · refine List.map_congr_left fun h hh => ?_
    have hl : h < 2 ^ d := List.mem_range.mp hh
    show qR (cellR 2 (d + 1) ((2 ^ d + h : Nat) : Int)) (c :: cs) (r :: rs) = flipR r c :: qR (cellR 2 d h) cs rs
    have e := cellR_succ 2 d ((2 ^ d + h : Nat) : Int)
    have e1 := restD_eq 2 (by decide) d ((2 ^ d + h : Nat) : Int)
    have e2 : ((2 ^ d + h : Nat) : Int) = (h : Int) + ((2 ^ d : Nat) : Int) * 1 := by rw [Int.mul_one]; omega
    have e3 : ((2 ^ d + h : Nat) : Int) / ((2 ^ d : Nat) : Int) = 1 := by
      rw [e2, Int.add_mul_ediv_left _ _ (by omega), Int.ediv_eq_zero_of_lt (by omega) (by omega)]
      rfl
    rw [show restD 2 d ((2 ^ d + h : Nat) : Int) = 1 from e1.trans e3] at e
    have e4 : cellR 2 d ((2 ^ d + h : Nat) : Int) = cellR 2 d h := by
      unfold cellR
      rw [e2]
      exact congrArg List.reverse (digs_high 2 (by decide) d (h : Int) 1)
    rw [e, e4]
    rfl
/-- all the questions' answers, added, tell the cell -/
theorem cube_law (k : Nat) (g : Int → Int) : ∀ (d : Nat) (cs : List Int) (rs : List (List Int)) (p : Int), cs.length = d → TapeOk k d rs → CellOk k cs → E2 ((allQ d cs rs).map fun q => aR k g q p).sum (g (cs.foldl (fun f i => f * (k : Int) + i) p))
  | 0, cs, rs, p, hc, ht, _ => by
    have e1 : cs = [] := List.eq_nil_of_length_eq_zero hc
    have e2 : rs = [] := List.eq_nil_of_length_eq_zero ht.1
    subst e1 e2
    show E2 (([qR (cellR 2 0 0) [] []] : List (List (List Int))).map fun q => aR k g q p).sum (g p)
    simp only [List.map_cons, List.map_nil, List.sum_cons, List.sum_nil, qR, cellR, digs, List.reverse_nil, List.zip_nil_left, aR, placesR]
    unfold E2
    omega
  | d + 1, cs, rs, p, hc, ht, hcell => by
    cases cs with
    | nil => simp at hc
    | cons c cs =>
      cases rs with
      | nil => exact absurd ht.1 (by simp)
      | cons r rs =>
        have ht' : TapeOk k d rs := ⟨by have := ht.1; simpa using this, fun q hq => ht.2 q (List.mem_cons_of_mem _ hq)⟩
        have rok := ht.2 r (List.mem_cons_self ..)
        have ih := cube_law k g d cs rs (p * k + c) (by simpa using hc) ht' fun x hx => hcell x (List.mem_cons_of_mem _ hx)
        have hcc := hcell c (List.mem_cons_self ..)
        rw [allQ_cons, List.map_append, List.sum_append, List.map_map, List.map_map, sum_add]
        refine E2.trans (E2.sum (g := fun q => aR k g q (p * k + c)) fun q _ => ?_) ih
        simp only [Function.comp, aR_cons]
        have := ones_flip (fun x => aR k g q (p * k + x)) r 0 c rok.2
        rw [if_pos (by rw [rok.1]; omega)] at this
        rw [flip_zero]
        exact this
theorem emod_mul' (p : Int) {a b : Int} (ha : 0 ≤ a) : p % (a * b) = p % a + a * (p / a % b) := by
  rw [Int.emod_def, Int.emod_def p a, Int.emod_def (p / a) b, Int.ediv_ediv_of_nonneg ha, Int.mul_sub, ← Int.mul_assoc]
  omega
theorem place_cell (k : Nat) (hk : 0 < k) : ∀ (d : Nat) (p q : Int), (cellR (k : Int) d p).foldl (fun f i => f * (k : Int) + i) q = q * ((k ^ d : Nat) : Int) + p % ((k ^ d : Nat) : Int)
  | 0, p, q => by
    show q = _
    rw [Nat.pow_zero, Int.natCast_one, Int.emod_one]
    omega
  | d + 1, p, q => by
    rw [cellR_succ, List.foldl_cons, place_cell k hk d, restD_eq k hk]
    have hp : (0 : Int) < ((k ^ d : Nat) : Int) := by
      have := Nat.pow_pos (n := d) hk
      omega
    have e1 : ((k ^ (d + 1) : Nat) : Int) = ((k ^ d : Nat) : Int) * (k : Int) := by rw [Nat.pow_succ, Int.natCast_mul]
    have e2 : p % (((k ^ d : Nat) : Int) * (k : Int)) = p % ((k ^ d : Nat) : Int) + ((k ^ d : Nat) : Int) * (p / ((k ^ d : Nat) : Int) % (k : Int)) := emod_mul' p (by omega)
    rw [e1, e2, Int.add_mul, Int.mul_comm (p / _ % _) _, Int.mul_assoc, Int.mul_comm (k : Int)]
    omega
theorem place_back {k d : Nat} (hk : 0 < k) {p : Int} (h0 : 0 ≤ p) (h1 : p < ((k ^ d : Nat) : Int)) : placeR (k : Int) (cellR k d p) = p := by
  unfold placeR
  rw [place_cell k hk, Int.zero_mul, Int.zero_add, Int.emod_eq_of_lt h0 h1]
def toldR (k d : Nat) (s c : List Int) (t : List (List Int)) : Int := ((allQ d c t).map (ansR k s)).sum % 2
theorem told_eq {k d : Nat} {s : List Int} {t : List (List Int)} {p : Int} (hk : 0 < k) (hs : s.length = k ^ d) (hb : Bits s) (ht : TapeOk k d t) (h0 : 0 ≤ p) (h1 : p < ((k ^ d : Nat) : Int)) : toldR k d s (cellR k d p) t = getI s p := by
  have q := cube_law k (getI s) d (cellR k d p) t 0 (cell_length _ _ _) ht (cell_ok hk p)
  have e : (cellR (k : Int) d p).foldl (fun f i => f * (k : Int) + i) 0 = p := place_back hk h0 h1
  rw [e] at q
  have q2 : E2 ((allQ d (cellR k d p) t).map (ansR k s)).sum ((allQ d (cellR k d p) t).map fun q => aR k (getI s) q 0).sum := E2.sum fun q _ => E2.of_mod _
  have := (q2.trans q).mod
  unfold toldR
  rw [this]
  have hp : p.toNat < s.length := by omega
  have hg : Bit (getI s p) := by
    unfold getI
    rw [List.getD_eq_getElem?_getD, List.getElem?_eq_getElem hp]
    exact hb _ (List.getElem_mem _)
  rcases hg with h | h <;> rw [h] <;> rfl
theorem bit_mod {x : Int} : Bit (x % 2) := by
  have h1 := Int.emod_nonneg x (show (2 : Int) ≠ 0 by decide)
  have h2 := Int.emod_lt_of_pos x (show (0 : Int) < 2 by decide)
  unfold Bit
  omega
theorem r_told_item {k d : Nat} {s c : List Int} {t : List (List Int)} {β : Bag} (hk0 : 0 < k) (hk : k ≤ 1000) (hd : d ≤ 15) (hkd : k ^ d ≤ 5000) (hs : s.length = k ^ d) (hc : c.length = d) (ht : TapeOk k d t) :
    F_told_item [.fz (.int k), .fz (tI s), .fz (tI c), .fz (tT t)] β = .ok (.fz (.int (toldR k d s c t))) β := by
  have hb : 2 ^ d ≤ 2 ^ 15 := Nat.pow_le_pow_right (by decide) hd
  refine run_rt rfl (sRet_ok (r := .fz (.int (toldR k d s c t))) (eBin_ok (β1 := β) (x := .fz (.int ((allQ d c t).map (ansR k s)).sum)) (y := .fz (.int 2)) (eCall_ok (β1 := β) (eCons_ok (β1 := β) (rs := []) (eComp_eq (β1 := β) (ds := (allQ d c t).map tT) (ys := ((allQ d c t).map (ansR k s)).map .int) ?_ ?_ ?_) rfl) ?_) rfl rfl) rfl)
  · show R.bind (eFnA F_all_questions _ _ β) _ = _
    rw [eFnA_ok (β1 := β) rfl rfl (r_all_questions hk hd hc ht)]
    rfl
  · rw [List.length_map]
    unfold allQ big
    rw [List.length_map, List.length_range]
    omega
  · rw [List.map_map]
    refine comp_map tT _ fun q hq => ⟨_, .fz (.int (ansR k s q)), rfl, eFnA_ok (β1 := β) rfl rfl (r_answer_bit hk0 hk hkd hs ?_), rfl⟩
    obtain ⟨h, _, rfl⟩ := List.mem_map.mp hq
    exact q_ok (cell_length _ _ _) hc ht
  · show (ints? _).map _ = _
    rw [VL.ints_map]
    rfl
end Lw

namespace Lw
open PySem PySem.Spec PyProof.Rows L2 VL

/-! ### draws -/
def Bok (β : Bag) : Prop := (∀ c ∈ β.cs, 0 ≤ c) ∧ 0 ≤ β.x ∧ 0 ≤ β.m ∧ β.m < 2147483647
theorem draw_loop (n : Int) : ∀ (fuel : Nat) (β : Bag) (x y : Sl), β.cs.length < fuel → Bok β →
    ∃ x' β', whileD (eAnd (eTest (eBin cEq (eBag 0 false) (eC (.int 0)))) (eBagNE 0)) L1__law_draw [] fuel [.bag, .dat (.int n), x, y] β = .nx [.bag, .dat (.int n), x', y] β' ∧ Bok β'
  | 0, β, x, y, h, _ => by omega
  | fuel + 1, β, x, y, h, hB => by
    have e1 : eTest (eBin cEq (eBag 0 false) (eC (.int 0))) [.bag, .dat (.int n), x, y] β = .ok (decide (β.x = 0)) β := by
      refine eTest_ok (eBin_ok (β1 := β) (x := .fz (.int β.x)) (y := .fz (.int 0)) rfl rfl ?_)
      show some (Rv.fz (.bool (PyData.eqv (.int β.x) (.int 0)))) = _
      rw [eqv_int]
    by_cases hx : β.x = 0
    · by_cases hc : β.cs = []
      · refine ⟨x, β, whileD_f (eAnd_t (b := false) (by rw [e1, decide_eq_true hx]) ?_), hB⟩
        show R.ok (!β.cs.isEmpty) β = _
        rw [hc]
        rfl
      · obtain ⟨c, hl⟩ : ∃ c, β.cs[β.cs.length - 1]? = some c := ⟨_, List.getElem?_eq_getElem (by have := List.length_pos_iff.mpr hc; omega)⟩
        have hc0 : 0 ≤ c := hB.1 c (List.mem_of_getElem? hl)
        obtain ⟨x', β', g1, g2⟩ := draw_loop n fuel ⟨β.cs.dropLast, if 1000000000 < c then c else 0, β.m⟩ (.dat (.int c)) y (by
          have := List.length_pos_iff.mpr hc
          simp only [List.length_dropLast]
          omega) ⟨fun d hd => hB.1 d (List.dropLast_subset _ hd), by show 0 ≤ (if _ then c else 0); split <;> omega, hB.2.2⟩
        refine ⟨x', β', ?_, g2⟩
        rw [← g1]
        refine whileD_t (β1 := β) (eAnd_t (b := true) (by rw [e1, decide_eq_true hx]) ?_) ?_
        · show R.ok (!β.cs.isEmpty) β = _
          cases hcs : β.cs with
          | nil => exact absurd hcs hc
          | cons _ _ => rfl
        · refine sSeq_nx (ρ1 := [.bag, .dat (.int n), .dat (.int c), y]) (β1 := ⟨β.cs.dropLast, β.x, β.m⟩) (sBagPop_ok rfl hl ⟨by decide, of_decide_eq_true rfl⟩) ?_
          refine sBagSet_ok (two := false) (β1 := ⟨β.cs.dropLast, β.x, β.m⟩) (n := if 1000000000 < c then c else 0) rfl ?_
          by_cases hg : 1000000000 < c
          · rw [if_pos hg]
            refine eIf_t (β1 := ⟨β.cs.dropLast, β.x, β.m⟩) (eTest_ok ?_) rfl
            show R.ok (Rv.fz (.bool (decide ((10 : Int) ^ 9 < c)))) _ = _
            rw [decide_eq_true (show (10 : Int) ^ 9 < c from hg)]
          · rw [if_neg hg]
            refine eIf_f (β1 := ⟨β.cs.dropLast, β.x, β.m⟩) (eTest_ok ?_) rfl
            show R.ok (Rv.fz (.bool (decide ((10 : Int) ^ 9 < c)))) _ = _
            rw [decide_eq_false (show ¬ (10 : Int) ^ 9 < c from hg)]
    · exact ⟨x, β, whileD_f (eAnd_f (by rw [e1, decide_eq_false hx])), hB⟩
theorem r_draw {n : Int} {β : Bag} (h0 : 0 < n) (h1 : n < 1073741824) (hB : Bok β) : ∃ r β', F__law_draw [.bg, .fz (.int n)] β = .ok (.fz (.int r)) β' ∧ 0 ≤ r ∧ r < n ∧ Bok β' := by
  obtain ⟨x', β1, g1, hB1⟩ := draw_loop n (β.cs.length + 1) β .no .no (Nat.lt_succ_self _) hB
  have cd : ∀ i, CD i n := fun i => ⟨h0, .inl h1⟩
  by_cases hx : 0 < β1.x
  · refine ⟨β1.x % n, ⟨β1.cs, β1.x / n, β1.m⟩, ?_, Int.emod_nonneg _ (by omega), Int.emod_lt_of_pos _ h0, hB1.1, Int.ediv_nonneg hB1.2.1 (by omega), hB1.2.2⟩
    refine run_rt rfl (sSeq_nx (ρ1 := [.bag, .dat (.int n), x', .no]) (β1 := β1) g1 (sSeq_rt (sIf_t (β1 := β1) (eTest_ok ?_) ?_)))
    · show R.ok (Rv.fz (.bool (decide ((0 : Int) < β1.x)))) _ = _
      rw [decide_eq_true hx]
    · refine sSeq_nx (sAsg_ok (r := .fz (.int (β1.x % n))) (β1 := β1) (eBin_ok (β1 := β1) (x := .fz (.int β1.x)) (y := .fz (.int n)) rfl rfl (if_pos h0)) rfl (of_decide_eq_true rfl)) ?_
      refine sSeq_nx (ρ1 := [.bag, .dat (.int n), x', .dat (.int (β1.x % n))]) (β1 := ⟨β1.cs, β1.x / n, β1.m⟩) (sBagSet_ok (two := false) (β1 := β1) (n := β1.x / n) rfl (eBin_ok (β1 := β1) (x := .fz (.int β1.x)) (y := .fz (.int n)) rfl rfl (if_pos (cd _)))) rfl
  · have hm : CM β1.m β1.m := .inl ⟨by have := hB1.2.2; omega, by have := hB1.2.2; omega⟩
    generalize hM : (β1.m * 48271 + 11) % 2147483647 = M
    have hM0 : 0 ≤ M := by rw [← hM]; exact Int.emod_nonneg _ (by decide)
    have hM1 : M < 2147483647 := by rw [← hM]; exact Int.emod_lt_of_pos _ (by decide)
    have hMM : CM M M := .inl ⟨by omega, by omega⟩
    refine ⟨(M * M) % 2147483629 / 7 % n, ⟨β1.cs, β1.x, M⟩, ?_, Int.emod_nonneg _ (by omega), Int.emod_lt_of_pos _ h0, hB1.1, hB1.2.1, hM0, hM1⟩
    refine run_rt rfl (sSeq_nx (ρ1 := [.bag, .dat (.int n), x', .no]) (β1 := β1) g1 (sSeq_nx (ρ1 := [.bag, .dat (.int n), x', .no]) (β1 := β1) (sIf_f (β1 := β1) (eTest_ok ?_) rfl) ?_))
    · show R.ok (Rv.fz (.bool (decide ((0 : Int) < β1.x)))) _ = _
      rw [decide_eq_false hx]
    · refine sSeq_nx (ρ1 := [.bag, .dat (.int n), x', .no]) (β1 := ⟨β1.cs, β1.x, M⟩) ?_ ?_
      · refine sBagSet_ok (two := true) (β1 := β1) (n := M) rfl ?_
        refine eBin_ok (β1 := β1) (x := .fz (.int (β1.m * 48271 + 11))) (y := .fz (.int 2147483647)) (eCall_ok (β1 := β1) (eCons_ok (β1 := β1) (rs := []) (eBin_ok (β1 := β1) (x := .fz (.int (β1.m * 48271))) (y := .fz (.int 11)) (eBin_ok (β1 := β1) (x := .fz (.int β1.m)) (y := .fz (.int 48271)) rfl rfl ?_) rfl rfl) rfl) rfl) rfl ?_
        · exact if_pos (.inr (.inl ⟨by decide, by decide⟩))
        · show some (Rv.fz (.int ((β1.m * 48271 + 11) % 2147483647))) = _
          rw [hM]
      · refine sRet_ok (r := .fz (.int ((M * M) % 2147483629 / 7 % n))) ?_ rfl
        refine eBin_ok (β1 := ⟨β1.cs, β1.x, M⟩) (x := .fz (.int ((M * M) % 2147483629 / 7))) (y := .fz (.int n)) (eCall_ok (β1 := ⟨β1.cs, β1.x, M⟩) (eCons_ok (β1 := ⟨β1.cs, β1.x, M⟩) (rs := []) (eBin_ok (β1 := ⟨β1.cs, β1.x, M⟩) (x := .fz (.int ((M * M) % 2147483629))) (y := .fz (.int 7)) (eBin_ok (β1 := ⟨β1.cs, β1.x, M⟩) (x := .fz (.int (M * M))) (y := .fz (.int 2147483629)) (eCall_ok (β1 := ⟨β1.cs, β1.x, M⟩) (eCons_ok (β1 := ⟨β1.cs, β1.x, M⟩) (rs := []) (eBin_ok (β1 := ⟨β1.cs, β1.x, M⟩) (x := .fz (.int M)) (y := .fz (.int M)) rfl rfl (if_pos hMM)) rfl) rfl) rfl (oMod_ok (by decide))) rfl (oFdiv_ok (by decide) (by decide))) rfl) rfl) rfl (if_pos h0)
/-- an item drawn -/
theorem r_pick {ds : List PyData} {β : Bag} (h0 : 0 < ds.length) (h1 : ds.length < 1073741824) (hB : Bok β) : ∃ d β', F__law_pick [.bg, .fz (.list ds)] β = .ok (.fz d) β' ∧ d ∈ ds ∧ Bok β' := by
  obtain ⟨r, β', g1, g2, g3, g4⟩ := r_draw (n := (ds.length : Int)) (by omega) (by omega) hB
  obtain ⟨j, rfl⟩ : ∃ j : Nat, r = j := ⟨r.toNat, by omega⟩
  have hj : j < ds.length := by omega
  refine ⟨ds[j], β', ?_, List.getElem_mem _, g4⟩
  refine run_rt rfl (sRet_ok (r := .fz ds[j]) (eBin_ok (β1 := β) (x := .fz (.list ds)) (y := .fz (.int j)) rfl (eFnA_ok (β1 := β) (rs := [.bg, .fz (.int ds.length)]) rfl rfl g1) ?_) rfl)
  show (atI ds (j : Int)).map Rv.fz = _
  rw [atI_nat (List.getElem?_eq_getElem hj)]
  rfl
/-! ### numbers of cells, rows -/
theorem r_cells_many {k d : Nat} {β : Bag} (hk : k ≤ 1000) (hd : d ≤ 1000) : F__law_cells_many [.fz (.int k), .fz (.int d)] β = .ok (.fz (.int ((k ^ d : Nat) : Int))) β := by
  obtain ⟨ρ', β', h1, h2⟩ := loop_inv (tg := tgN 3) (body := L1__law_cells_many) (fun i ρ β' => β' = β ∧ ∃ x, ρ = [.dat (.int k), .dat (.int d), .dat (.int ((k ^ i : Nat) : Int)), x]) (ds := upTo 0 d) (ρ := [.dat (.int k), .dat (.int d), .dat (.int 1), .no]) (β := β) 0 ⟨rfl, _, rfl⟩ fun i e ρ β' he hI => by
    obtain ⟨rfl, x, rfl⟩ := hI
    have hp : ((k ^ (0 + i + 1) : Nat) : Int) = ((k ^ (0 + i) : Nat) : Int) * k := by rw [Nat.pow_succ, Int.natCast_mul]
    rw [hp]
    generalize ((k ^ (0 + i) : Nat) : Int) = q
    exact ⟨_, [.dat (.int k), .dat (.int d), .dat (.int (q * k)), .dat e], β', rfl, sAsg_ok (r := .fz (.int (q * k))) (β1 := β') (eBin_ok (β1 := β') (x := .fz (.int q)) (y := .fz (.int k)) rfl rfl (oMul_ok (CMk hk))) rfl (of_decide_eq_true rfl), rfl, .dat e, rfl⟩
  obtain ⟨rfl, x, rfl⟩ := h2
  refine run_rt rfl (sSeq_nx (sAsg_ok (r := .fz (.int 1)) (β1 := β') rfl rfl (of_decide_eq_true rfl)) (sSeq_nx (sLoop_ok (β1 := β') (ds := upTo 0 d) ?_ h1) ?_))
  · exact iRng1_ok (j := (d : Int)) (β1 := β') rfl (by omega) (by omega) (Int.toNat_natCast _)
  · refine sRet_ok (r := .fz (.int ((k ^ d : Nat) : Int))) ?_ rfl
    rw [upTo_eq, List.length_map, List.length_range, Nat.zero_add]
    rfl
theorem rep_flat (x : Int) : ∀ n : Nat, (List.replicate n [PyData.int x]).flatten = (List.replicate n x).map PyData.int
  | 0 => rfl
  | n + 1 => by
    rw [List.replicate_succ, List.flatten_cons, rep_flat x n, List.replicate_succ]
    rfl
theorem mul_rep {x : Int} {n : Int} (h0 : 0 ≤ n) (h1 : n ≤ 10000) : oMul (.fz (.tuple [.int x])) (.fz (.int n)) = some (.fz (tI (List.replicate n.toNat x))) := by
  show (if _ then some (Rv.fz (.tuple (List.replicate n.toNat [PyData.int x]).flatten)) else none) = _
  rw [if_pos ⟨by omega, by omega, by simp only [List.length_singleton]; unfold big; omega⟩, rep_flat]
theorem rep_bits {x : Int} (h : Bit x) (n : Nat) : RowOk n (List.replicate n x) := ⟨by simp, fun y hy => by rw [(List.mem_replicate.mp hy).2]; exact h⟩
def unitL (k a : Nat) : List Int := List.replicate a 0 ++ [1] ++ List.replicate (k - 1 - a) 0
theorem unitL_ok {k a : Nat} (h : a < k) : RowOk k (unitL k a) := by
  refine ⟨by simp [unitL]; omega, fun y hy => ?_⟩
  unfold unitL at hy
  simp only [List.mem_append, List.mem_replicate, List.mem_singleton] at hy
  rcases hy with (h | h) | h
  · exact .inl h.2
  · exact .inr h
  · exact .inl h.2
theorem r_unit {k a : Nat} {β : Bag} (h : a < k) (hk : k ≤ 10000) : F__law_unit [.fz (.int k), .fz (.int a)] β = .ok (.fz (tI (unitL k a))) β := by
  have e1 : ((k : Int) - 1 - a).toNat = k - 1 - a := by omega
  have m1 := mul_rep (x := 0) (n := (a : Int)) (by omega) (by omega)
  have m2 := mul_rep (x := 0) (n := (k : Int) - 1 - a) (by omega) (by omega)
  rw [Int.toNat_natCast] at m1
  rw [e1] at m2
  have a1 : oAdd (.fz (tI (List.replicate a 0))) (.fz (tI [1])) = some (.fz (tI (List.replicate a 0 ++ [1]))) := by
    show (if _ then some (Rv.fz (.tuple ((List.replicate a (0 : Int)).map PyData.int ++ [1].map PyData.int))) else none) = _
    rw [if_pos (by simp [big]; omega), ← List.map_append]
  have a2 : oAdd (.fz (tI (List.replicate a 0 ++ [1]))) (.fz (tI (List.replicate (k - 1 - a) 0))) = some (.fz (tI (unitL k a))) := by
    show (if _ then some (Rv.fz (.tuple ((List.replicate a (0 : Int) ++ [1]).map PyData.int ++ (List.replicate (k - 1 - a) 0).map PyData.int))) else none) = _
    rw [if_pos (by simp [big]; omega), ← List.map_append]
    rfl
  have f1 : eCall fTup (eCons (eC (.int 0)) eNil) [.dat (.int k), .dat (.int a)] β = .ok (.fz (.tuple [.int 0])) β := rfl
  have f2 : eCall fTup (eCons (eC (.int 1)) eNil) [.dat (.int k), .dat (.int a)] β = .ok (.fz (.tuple [.int 1])) β := rfl
  exact run_rt rfl (sRet_ok (eBin_ok (eBin_ok (eBin_ok f1 (eVar_dat rfl) m1) f2 a1) (eBin_ok f1 (eBin_ok (eBin_ok (eVar_dat rfl) rfl rfl) (eVar_dat rfl) rfl) m2) a2) rfl)
theorem eq_run {f : E} {ρ : VL.Env} {β β1 : Bag} {a : Int} (b : Int) (h : f ρ β = .ok (.fz (.int a)) β1) : eTest (eBin cEq f (eC (.int b))) ρ β = .ok (decide (a = b)) β1 := by
  refine eTest_ok (eBin_ok (β1 := β1) (x := .fz (.int a)) (y := .fz (.int b)) h rfl ?_)
  show some (Rv.fz (.bool (PyData.eqv (.int a) (.int b)))) = _
  rw [eqv_int]
/-- number >> i & 1 for i in range(n) -/
theorem comp_bits {v vi : Nat} {w : Int} {fa : EA} {ρ : VL.Env} {β : Bag} {n : Nat} (hn : n ≤ 10000) (hf : iRng1 fa ρ β = .ok (upTo 0 n) β)
    (hv : ∀ i : Nat, ∃ ρ1, tgN vi (.int i) (forget [vi] ρ) = some ρ1 ∧ eVar v ρ1 β = .ok (.fz (.int w)) β ∧ eVar vi ρ1 β = .ok (.fz (.int i)) β) :
    ∃ bits, eComp [vi] (tgN vi) eYes (eBin oAnd (eBin oShr (eVar v) (eVar vi)) (eC (.int 1))) (iRng1 fa) ρ β = .ok (.tm (bits.map PyData.int)) β ∧ RowOk n bits := by
  refine ⟨(List.range n).map fun (i : Nat) => w / 2 ^ (i : Int).toNat % 2, eComp_eq (β1 := β) hf ?_ ?_, by simp, fun x hx => ?_⟩
  · rw [upTo_eq, List.length_map, List.length_range]
    unfold big
    omega
  · rw [upTo_eq, List.map_map]
    refine comp_map (fun (i : Nat) => PyData.int i) _ fun i hi => ?_
    obtain ⟨ρ1, h1, h2, h3⟩ := hv i
    refine ⟨ρ1, .fz (.int (w / 2 ^ (i : Int).toNat % 2)), h1, ?_, rfl⟩
    refine eBin_ok (β1 := β) (x := .fz (.int (w / 2 ^ (i : Int).toNat))) (y := .fz (.int 1)) (eBin_ok (β1 := β) (x := .fz (.int w)) (y := .fz (.int i)) h2 h3 ?_) rfl ?_
    · show (if CN w (i : Int) then some (Rv.fz (.int (w / 2 ^ (i : Int).toNat))) else none) = _
      exact if_pos (show CN w (i : Int) from Int.natCast_nonneg i)
    · show some (Rv.fz (.int (Builtin.bitAnd _ 1))) = _
      rw [bitAnd_m1]
  · obtain ⟨i, _, rfl⟩ := List.mem_map.mp hx
    exact bit_mod
theorem r_own_row {k : Nat} {β : Bag} (h0 : 0 < k) (hk : k ≤ 1000) (hB : Bok β) : ∃ r β', F__law_own_row [.bg, .fz (.int k)] β = .ok (.fz (tI r)) β' ∧ RowOk k r ∧ Bok β' := by
  obtain ⟨w, β1, g1, g2, g3, g4⟩ := r_draw (n := 9) (by decide) (by decide) hB
  have hd : (sAsg 2 true (eFnA F__law_draw (eCons (eVar 0) (eCons (eC (.int 9)) eNil)))) [.bag, .dat (.int k), .no, .no, .no] β = .nx [.bag, .dat (.int k), .dat (.int w), .no, .no] β1 := sAsg_ok (r := .fz (.int w)) (eFnA_ok (β1 := β) rfl rfl g1) rfl (of_decide_eq_true rfl)
  by_cases h1 : w = 0
  · refine ⟨_, β1, run_rt rfl (sSeq_nx hd (sSeq_rt (sIf_t (β1 := β1) ((eq_run 0 rfl).trans (by rw [decide_eq_true h1])) (sRet_ok (r := .fz (tI (List.replicate k 0))) (eBin_ok (β1 := β1) (x := .fz (tI [0])) (y := .fz (.int k)) rfl rfl (mul_rep (by omega) (by omega))) rfl)))), rep_bits (.inl rfl) k, g4⟩
  · by_cases h2 : w = 1
    · refine ⟨_, β1, run_rt rfl (sSeq_nx hd (sSeq_nx (β1 := β1) (sIf_f (β1 := β1) ((eq_run 0 rfl).trans (by rw [decide_eq_false h1])) rfl) (sSeq_rt (sIf_t (β1 := β1) ((eq_run 1 rfl).trans (by rw [decide_eq_true h2])) (sRet_ok (r := .fz (tI (List.replicate k 1))) (eBin_ok (β1 := β1) (x := .fz (tI [1])) (y := .fz (.int k)) rfl rfl (mul_rep (by omega) (by omega))) rfl))))), rep_bits (.inr rfl) k, g4⟩
    · by_cases h3 : w = 2
      · obtain ⟨a, β2, q1, q2, q3, q4⟩ := r_draw (n := (k : Int)) (by omega) (by omega) g4
        obtain ⟨a, rfl⟩ : ∃ j : Nat, a = j := ⟨a.toNat, by omega⟩
        refine ⟨_, β2, run_rt rfl (sSeq_nx hd (sSeq_nx (β1 := β1) (sIf_f (β1 := β1) ((eq_run 0 rfl).trans (by rw [decide_eq_false h1])) rfl) (sSeq_nx (β1 := β1) (sIf_f (β1 := β1) ((eq_run 1 rfl).trans (by rw [decide_eq_false h2])) rfl) (sSeq_rt (sIf_t (β1 := β1) ((eq_run 2 rfl).trans (by rw [decide_eq_true h3])) (sRet_ok (r := .fz (tI (unitL k a))) (eFnA_ok (β1 := β2) (rs := [.fz (.int k), .fz (.int a)]) (eCons_ok (β1 := β1) rfl (eCons_ok (β1 := β2) (eFnA_ok (β1 := β1) rfl rfl q1) rfl)) rfl (r_unit (by omega) (by omega))) rfl)))))), unitL_ok (by omega), q4⟩
      · obtain ⟨w2, β2, q1, q2, q3, q4⟩ := r_draw (n := 65536) (by decide) (by decide) g4
        obtain ⟨bits, e1, e2⟩ := comp_bits (v := 3) (vi := 4) (w := w2) (fa := eCons (eVar 1) eNil) (ρ := [.bag, .dat (.int k), .dat (.int w), .dat (.int w2), .no]) (β := β2) (n := k) (by omega) (iRng1_ok (j := (k : Int)) (β1 := β2) rfl (by omega) (by omega) (Int.toNat_natCast _)) fun i => ⟨_, rfl, rfl, rfl⟩
        refine ⟨bits, β2, run_rt rfl (sSeq_nx hd (sSeq_nx (β1 := β1) (sIf_f (β1 := β1) ((eq_run 0 rfl).trans (by rw [decide_eq_false h1])) rfl) (sSeq_nx (β1 := β1) (sIf_f (β1 := β1) ((eq_run 1 rfl).trans (by rw [decide_eq_false h2])) rfl) (sSeq_nx (β1 := β1) (sIf_f (β1 := β1) ((eq_run 2 rfl).trans (by rw [decide_eq_false h3])) rfl) (sSeq_nx (β1 := β2) (sAsg_ok (r := .fz (.int w2)) (eFnA_ok (β1 := β1) rfl rfl q1) rfl (of_decide_eq_true rfl)) (sRet_ok (r := .fz (tI bits)) (eCall_ok (β1 := β2) (eCons_ok (β1 := β2) (rs := []) e1 rfl) rfl) rfl)))))), e2, q4⟩
theorem r_rows {k d : Nat} {β : Bag} (h0 : 0 < k) (hk : k ≤ 1000) (hd : d ≤ 1000) (hB : Bok β) : ∃ t β', F__law_rows [.bg, .fz (.int k), .fz (.int d)] β = .ok (.fz (tT t)) β' ∧ TapeOk k d t ∧ Bok β' := by
  obtain ⟨ys, β', c1, c2, c3⟩ := comp_draw (tg := tgN 3) (e := eFnA F__law_own_row (eCons (eVar 0) (eCons (eVar 1) eNil))) (ρ := [.bag, .dat (.int k), .dat (.int d), .no]) Bok (fun _ y => ∃ r, y = tI r ∧ RowOk k r) (ds := upTo 0 d) hB fun x hx β hβ => by
    obtain ⟨r, β1, q1, q2, q3⟩ := r_own_row h0 hk hβ
    exact ⟨_, .fz (tI r), tI r, β1, rfl, eFnA_ok (β1 := β) rfl rfl q1, rfl, ⟨r, rfl, q2⟩, q3⟩
  obtain ⟨t, rfl, ht⟩ : ∃ t : List (List Int), ys = t.map tI ∧ ∀ r ∈ t, RowOk k r := by
    clear c1
    generalize VL.upTo 0 d = ds at c3
    induction c3 with
    | nil => exact ⟨[], rfl, fun _ h => by cases h⟩
    | cons h _ ih =>
      obtain ⟨r, rfl, hr⟩ := h
      obtain ⟨t, rfl, ht⟩ := ih
      exact ⟨r :: t, rfl, fun q hq => by
        rcases List.mem_cons.mp hq with rfl | hq
        · exact hr
        · exact ht q hq⟩
  have hl := pair_len c3
  rw [upTo_eq, List.length_map, List.length_range, List.length_map] at hl
  refine ⟨t, β', run_rt rfl (sRet_ok (r := .fz (tT t)) (eCall_ok (β1 := β') (eCons_ok (β1 := β') (rs := []) (eComp_eq (β1 := β) (ds := upTo 0 d) (iRng1_ok (j := (d : Int)) (β1 := β) rfl (by omega) (by omega) (Int.toNat_natCast _)) ?_ c1) rfl) rfl) rfl), ⟨hl.symm, ht⟩, c2⟩
  rw [upTo_eq, List.length_map, List.length_range]
  unfold big
  omega
end Lw

namespace Lw
open PySem PySem.Spec PyProof.Rows L2 VL

/-! ### what can be shown -/
structure Sh (d : PyData) (n m : Nat) : Prop where
  sh : d.showable = true
  nd : d.hasDict = false
  dp : d.depth ≤ m
  ln : d.shown.length ≤ n
theorem Sh.mono {d : PyData} {n m n' m' : Nat} (h : Sh d n m) (h1 : n ≤ n') (h2 : m ≤ m') : Sh d n' m' := ⟨h.sh, h.nd, Nat.le_trans h.dp h2, Nat.le_trans h.ln h1⟩
theorem sh_all {ds : List PyData} {n m : Nat} (h : ∀ d ∈ ds, Sh d n m) : PyData.showableAll ds = true ∧ PyData.hasDictAll ds = false ∧ PyData.depthAll ds ≤ m ∧ ((PyData.shownAll ds).map (·.length)).sum ≤ ds.length * n ∧ (PyData.shownAll ds).length = ds.length := by
  induction ds with
  | nil => exact ⟨rfl, rfl, Nat.zero_le _, Nat.zero_le _, rfl⟩
  | cons d ds ih =>
    obtain ⟨h1, h2, h3, h4, h5⟩ := ih fun e he => h e (List.mem_cons_of_mem _ he)
    have hd := h d (List.mem_cons_self ..)
    refine ⟨?_, ?_, ?_, ?_, ?_⟩
    · simp only [PyData.showableAll, hd.sh, h1, Bool.and_self]
    · simp only [PyData.hasDictAll, hd.nd, h2, Bool.or_self]
    · simp only [PyData.depthAll]
      exact Nat.max_le.mpr ⟨hd.dp, h3⟩
    · simp only [PyData.shownAll, List.map_cons, List.sum_cons, List.length_cons, Nat.succ_mul]
      have := hd.ln
      omega
    · simp only [PyData.shownAll, List.length_cons, h5]
theorem sh_int {i : Int} (h0 : 0 ≤ i) (h : i < 10 ^ 10) : Sh (.int i) 10 0 := by
  refine ⟨?_, rfl, Nat.le_refl _, toString_length_le h0 (by decide) h⟩
  show decide (i.natAbs.log2 < 1920) = true
  refine decide_eq_true ?_
  by_cases e : i.natAbs = 0
  · rw [e]
    decide
  · have : i.natAbs < 2 ^ 40 := by omega
    have := (Nat.log2_lt e).mpr this
    omega
theorem sh_tup {ds : List PyData} {n m : Nat} (h : ∀ d ∈ ds, Sh d n m) : Sh (.tuple ds) (ds.length * (n + 2) + 4) (m + 1) := by
  obtain ⟨h1, h2, h3, h4, h5⟩ := sh_all h
  refine ⟨by simpa only [PyData.showable] using h1, by simpa only [PyData.hasDict] using h2, ?_, ?_⟩
  · simp only [PyData.depth]
    omega
  · have := tupleText_len_le (PyData.shownAll ds)
    simp only [PyData.shown]
    rw [Nat.mul_add]
    omega
theorem sh_lst {ds : List PyData} {n m : Nat} (h : ∀ d ∈ ds, Sh d n m) : Sh (.list ds) (ds.length * (n + 2) + 4) (m + 1) := by
  obtain ⟨h1, h2, h3, h4, h5⟩ := sh_all h
  refine ⟨by simpa only [PyData.showable] using h1, by simpa only [PyData.hasDict] using h2, ?_, ?_⟩
  · simp only [PyData.depth]
    omega
  · have := listText_len_le (PyData.shownAll ds)
    simp only [PyData.shown]
    rw [Nat.mul_add]
    omega
theorem Sh.ok {d : PyData} {n m : Nat} (h : Sh d n m) (h1 : n ≤ 16000000) (h2 : m ≤ 50) : okR d = true := by
  unfold okR
  have hz : d.shown.length ≤ sizeLine := by
    rw [sizeLine_eq]
    have := h.ln
    omega
  have hd : d.depth ≤ 50 := Nat.le_trans h.dp h2
  simp only [h.sh, h.nd, decide_eq_true hz, decide_eq_true hd]
  rfl
theorem sh_tI {r : List Int} {n : Nat} (h : ∀ x ∈ r, 0 ≤ x ∧ x < 10 ^ 10) (hn : r.length ≤ n) : Sh (tI r) (n * 12 + 4) 1 :=
  (sh_tup (ds := r.map PyData.int) (n := 10) (m := 0) fun d hd => by
    obtain ⟨x, hx, rfl⟩ := List.mem_map.mp hd
    exact sh_int (h x hx).1 (h x hx).2).mono (by rw [List.length_map]; omega) (Nat.le_refl _)
theorem sh_row {k : Nat} {r : List Int} (h : RowOk k r) : Sh (tI r) (k * 12 + 4) 1 := sh_tI (fun x hx => by
  rcases h.2 x hx with e | e <;> rw [e] <;> decide) (Nat.le_of_eq h.1)
theorem sh_tape {k d : Nat} {t : List (List Int)} (h : TapeOk k d t) : Sh (tT t) (d * (k * 12 + 6) + 4) 2 :=
  (sh_tup (ds := t.map tI) (n := k * 12 + 4) (m := 1) fun e he => by
    obtain ⟨r, hr, rfl⟩ := List.mem_map.mp he
    exact sh_row (h.2 r hr)).mono (by rw [List.length_map, h.1]; exact Nat.le_refl _) (Nat.le_refl _)
theorem sh_cell {k d : Nat} {c : List Int} (hk : k ≤ 1000) (h : CellOk k c) (hc : c.length = d) : Sh (tI c) (d * 12 + 4) 1 := sh_tI (fun x hx => by
  have := h x hx
  omega) (Nat.le_of_eq hc)

/-! ### alike -/
def AlikeAt (s : PyData) : Prop := ∃ (n : Nat) (d : PyData), s = .list (List.replicate (n + 1) d) ∧ okR d = true ∧ n ≤ 10
def Alike (ds : List PyData) : Prop := ∀ s ∈ ds, AlikeAt s
theorem alike_app {a b : List PyData} (h : Alike a) (g : Alike b) : Alike (a ++ b) := fun s hs => by
  rcases List.mem_append.mp hs with q | q
  · exact h s q
  · exact g s q
theorem alike2 {d : PyData} (h : okR d = true) : AlikeAt (.list [d, d]) := ⟨1, d, rfl, h, by decide⟩
theorem alike3 {d : PyData} (h : okR d = true) : AlikeAt (.list [d, d, d]) := ⟨2, d, rfl, h, by decide⟩
theorem comp_all {tg : TgF} {e : E} {ρ : VL.Env} (f : PyData → PyData) {ds : List PyData} {β : Bag} (h : ∀ d ∈ ds, ∃ ρ1 r, tg d ρ = some ρ1 ∧ e ρ1 β = .ok r β ∧ r.keep? = some (f d)) : compD tg eYes e ρ ds β = .ok (ds.map f) β := by
  have := comp_map (tg := tg) (e := e) (ρ := ρ) (β := β) (xs := ds) id f (by simpa using h)
  rwa [List.map_id] at this
theorem str_beq (x : Str) : (x == x) = true := by simp
theorem eqv_strs (x : Str) : ∀ n : Nat, PyData.eqvAll (List.replicate n (PyData.str x)) (List.replicate n (PyData.str x)) = true
  | 0 => rfl
  | n + 1 => by
    rw [List.replicate_succ]
    show (PyData.eqv (.str x) (.str x) && _) = true
    rw [eqv_strs x n]
    show ((x == x) && true) = true
    rw [str_beq]
    rfl
theorem okD_strs (x : Str) (n : Nat) : okD (.list (List.replicate n (PyData.str x))) = true := by
  have h1 : ∀ n, PyData.plainAll (List.replicate n (PyData.str x)) = true := fun n => by
    induction n with
    | zero => rfl
    | succ n ih =>
      rw [List.replicate_succ]
      simp only [PyData.plainAll, PyData.plain, ih, Bool.and_self]
  have h2 : ∀ n, PyData.depthAll (List.replicate n (PyData.str x)) = 0 := fun n => by
    induction n with
    | zero => rfl
    | succ n ih =>
      rw [List.replicate_succ]
      simp only [PyData.depthAll, PyData.depth, ih, Nat.max_self]
  unfold okD
  simp only [PyData.plain, h1, PyData.depth, h2]
  rfl
theorem r_are_alike {ds : List PyData} {β : Bag} (hz : ds.length ≤ big) (h : Alike ds) : F__law_are_alike [.fz (.list ds)] β = .ok (.fz (.bool true)) β := by
  have hall : ∀ xs : List PyData, ((xs.map fun _ => true).all id) = true := fun xs => by
    induction xs with
    | nil => rfl
    | cons x xs ih => simp
  refine run_rt rfl (sRet_ok (r := .fz (.bool true)) (eCall_ok (β1 := β) (eCons_ok (β1 := β) (rs := []) (eComp_eq (β1 := β) (ds := ds) (ys := (ds.map fun _ => true).map .bool) rfl hz ?_) rfl) ?_) rfl)
  · rw [List.map_map]
    refine comp_all _ fun s hs => ?_
    obtain ⟨n, d, rfl, ok, hn⟩ := h s hs
    refine ⟨_, .fz (.bool true), rfl, ?_, rfl⟩
    have hr : gRepr (.fz d) = some (.fz (.str d.shown)) := by
      show (if okR d = true then some (Rv.fz (.str d.shown)) else none) = _
      rw [if_pos ok]
    refine eBin_ok (β1 := β) (x := .tm (List.replicate (n + 1) (.str d.shown))) (y := .tm (List.replicate (n + 1) (.str d.shown))) (eComp_eq (β1 := β) (ds := List.replicate (n + 1) d) rfl ?_ ?_) ?_ ?_
    · rw [List.length_replicate]
      unfold big
      omega
    · have := comp_all (tg := tgN 2) (e := eCall (f1 gRepr) (eCons (eVar 2) eNil)) (ρ := [.dat (.list ds), .dat (.list (List.replicate (n + 1) d)), .no]) (fun _ => PyData.str d.shown) (ds := List.replicate (n + 1) d) (β := β) fun e he => by
        rw [(List.mem_replicate.mp he).2]
        exact ⟨_, .fz (.str d.shown), rfl, eCall_ok (β1 := β) rfl hr, rfl⟩
      rw [List.map_replicate] at this
      exact this
    · refine eBin_ok (β1 := β) (x := .tm [.str d.shown]) (y := .fz (.int ((n + 1 : Nat) : Int))) (eCall_ok (β1 := β) (rs := [.fz (.str d.shown)]) (eCons_ok (β1 := β) (rs := []) (eCall_ok (β1 := β) (rs := [.fz d]) (eCons_ok (β1 := β) (rs := []) (eBin_ok (β1 := β) (x := .fz (.list (List.replicate (n + 1) d))) (y := .fz (.int 0)) rfl rfl ?_) rfl) hr) rfl) rfl) (eCall_ok (β1 := β) (rs := [.fz (.list (List.replicate (n + 1) d))]) rfl ?_) ?_
      · show (atI (List.replicate (n + 1) d) ((0 : Nat) : Int)).map Rv.fz = _
        rw [atI_nat (v := d) (by rw [List.replicate_succ]; rfl)]
        rfl
      · show some (Rv.fz (.int ((List.replicate (n + 1) d).length : Nat))) = _
        rw [List.length_replicate]
      · have ef : (List.replicate (n + 1) [PyData.str d.shown]).flatten = List.replicate (n + 1) (PyData.str d.shown) := by
          have : ∀ m : Nat, (List.replicate m [PyData.str d.shown]).flatten = List.replicate m (PyData.str d.shown) := fun m => by
            induction m with
            | zero => rfl
            | succ m ih => rw [List.replicate_succ, List.flatten_cons, ih, List.replicate_succ]; rfl
          exact this _
        have := oMulT_ok (a := [PyData.str d.shown]) (k := ((n + 1 : Nat) : Int)) (Int.toNat_natCast _) ⟨by omega, by omega, by simp only [List.length_singleton, Int.toNat_natCast]; unfold big; omega⟩
        rw [ef] at this
        exact this
    · exact cEq_ok rfl rfl (okD_strs _ _) (okD_strs _ _) (eqv_strs _ _)
  · show (bools? _).map _ = _
    rw [VL.bools_map]
    show some (Rv.fz (.bool ((ds.map fun _ => true).all id))) = _
    rw [hall]
end Lw

namespace Lw
open PySem PySem.Spec PyProof.Rows L2 VL

theorem r_own_cell {k d : Nat} {p : Int} {β : Bag} (hk : 0 < k) (hk2 : k < 1000) (hd2 : d ≤ 1000) : F__law_own_cell [.fz (.int k), .fz (.int d), .fz (.int p)] β = .ok (.fz (tI (cellR k d p))) β := by
  have hk0 : (0 : Int) < k := by omega
  have hk1 : (k : Int) < 1073741824 := by omega
  obtain ⟨ρ', β', h1, h2⟩ := loop_inv (tg := tgN 3) (body := L1__law_own_cell) (fun i ρ β' => β' = β ∧ ∃ x, ρ = [.dat (.int k), .dat (.int d), .dat (.int p), x, .own ((digs k i p).map .int), .dat (.int (restD k i p))]) (ds := upTo 0 d) (ρ := [.dat (.int k), .dat (.int d), .dat (.int p), .no, .own [], .dat (.int p)]) (β := β) 0 ⟨rfl, _, rfl⟩ fun i e ρ β' he hI => by
    obtain ⟨rfl, x, rfl⟩ := hI
    have hi : i < d := by
      have := lt_of_some he
      rw [upTo_eq, List.length_map, List.length_range] at this
      exact this
    rw [restD_snoc, digs_snoc, List.map_append]
    have hl : ((digs (k : Int) (0 + i) p).map PyData.int).length < big := by
      rw [List.length_map, digs_length]
      unfold big
      omega
    generalize (digs (k : Int) (0 + i) p).map PyData.int = acc at hl
    generalize restD (k : Int) (0 + i) p = q
    refine ⟨_, [.dat (.int k), .dat (.int d), .dat (.int p), .dat e, .own (acc ++ [.int (q % k)]), .dat (.int (q / k))], β', rfl, ?_, rfl, .dat e, rfl⟩
    exact sSeq_nx (sApp_ok (r := .fz (.int (q % k))) (β1 := β') rfl (eBin_ok (β1 := β') (x := .fz (.int q)) (y := .fz (.int k)) rfl rfl (oMod_ok hk0)) rfl hl) (sAsg_ok (r := .fz (.int (q / k))) (β1 := β') (eBin_ok (β1 := β') (x := .fz (.int q)) (y := .fz (.int k)) rfl rfl (oFdiv_ok hk0 hk1)) rfl (of_decide_eq_true rfl))
  obtain ⟨rfl, x, rfl⟩ := h2
  refine run_rt rfl (sSeq_nx (sPar2_ok (β1 := β') (x := .tm []) (y := .fz (.int p)) rfl rfl rfl) (sSeq_nx (sLoop_ok (β1 := β') (ds := upTo 0 d) (iRng1_ok (j := (d : Int)) (β1 := β') rfl (by omega) (by omega) (Int.toNat_natCast _)) h1) ?_))
  have e : (upTo 0 d).length = d := by rw [upTo_eq, List.length_map, List.length_range]
  rw [e, Nat.zero_add]
  refine sRet_ok (r := .fz (tI (cellR k d p))) (eCall_ok (β1 := β') (eCons_ok (β1 := β') (rs := []) (x := .tm ((digs (k : Int) d p).map PyData.int).reverse) rfl rfl) ?_) rfl
  unfold tI cellR
  rw [List.map_reverse]
  rfl
/-- s[:p] + (1 - s[p],) + s[p + 1:] -/
theorem flip_run {i j : Nat} {s : List Int} {p : Nat} {ρ : VL.Env} {β : Bag} (hp : p < s.length) (hz : s.length ≤ 900000) (hs : ρ[i]? = some (.dat (tI s))) (hj : ρ[j]? = some (.dat (.int p))) :
    eBin oAdd (eBin oAdd (eSlice (eVar i) eNone (eSome (eVar j))) (eCall fTup (eCons (eBin oSub (eC (.int 1)) (eBin oIdx (eVar i) (eVar j))) eNil))) (eSlice (eVar i) (eSome (eBin oAdd (eVar j) (eC (.int 1)))) eNone) ρ β = .ok (.fz (tI (flipR s p))) β := by
  have vi := eVar_dat (β := β) hs
  have vj := eVar_dat (β := β) hj
  have c1 : oSlice (.fz (tI s)) none (some (p : Int)) = some (.fz (tI (s.take p))) := by
    show some (Rv.fz (.tuple (cut (s.map PyData.int) none (some (p : Int))))) = _
    rw [cut_pre, ← List.map_take]
  have c2 : oSlice (.fz (tI s)) (some ((p : Int) + 1)) none = some (.fz (tI (s.drop (p + 1)))) := by
    show some (Rv.fz (.tuple (cut (s.map PyData.int) (some ((p + 1 : Nat) : Int)) none))) = _
    rw [cut_suf, ← List.map_drop]
  have c3 : oIdx (.fz (tI s)) (.fz (.int p)) = some (.fz (.int s[p])) := by
    show (atI (s.map PyData.int) (p : Int)).map Rv.fz = _
    rw [atI_nat (v := PyData.int s[p]) (by rw [List.getElem?_map, List.getElem?_eq_getElem hp]; rfl)]
    rfl
  have a1 : oAdd (.fz (tI (s.take p))) (.fz (.tuple [.int (1 - s[p])])) = some (.fz (tI (s.take p ++ [1 - s[p]]))) := by
    show (if _ then some (Rv.fz (.tuple ((s.take p).map PyData.int ++ [1 - s[p]].map PyData.int))) else none) = _
    rw [if_pos (by rw [List.length_map, List.length_take]; unfold big; simp only [List.length_singleton]; omega), ← List.map_append]
  have a2 : oAdd (.fz (tI (s.take p ++ [1 - s[p]]))) (.fz (tI (s.drop (p + 1)))) = some (.fz (tI (flipR s p))) := by
    show (if _ then some (Rv.fz (.tuple ((s.take p ++ [1 - s[p]]).map PyData.int ++ (s.drop (p + 1)).map PyData.int))) else none) = _
    rw [if_pos (by rw [List.length_map, List.length_map, List.length_drop, List.length_append, List.length_take]; unfold big; simp only [List.length_singleton]; omega), ← List.map_append, List.append_assoc, flip_cut hp]
  exact eBin_ok (eBin_ok (eSlice_ok vi rfl (eSome_ok vj) c1) (eCall_ok (eCons_ok (eBin_ok rfl (eBin_ok vi vj c3) rfl) rfl) rfl) a1) (eSlice_ok vi (eSome_ok (eBin_ok vj rfl rfl)) rfl c2) a2
theorem r_turned {s : List Int} {p : Int} {β : Bag} (h0 : 0 ≤ p) (h1 : p < s.length) (hz : s.length ≤ 900000) : F__law_turned [.fz (tI s), .fz (.int p)] β = .ok (.fz (tI (flipR s p))) β := by
  obtain ⟨p, rfl⟩ : ∃ j : Nat, p = j := ⟨p.toNat, by omega⟩
  exact run_rt rfl (sRet_ok (flip_run (by omega) hz rfl rfl) rfl)
theorem r_own_store {n : Nat} {β : Bag} (h0 : 0 < n) (hn : n ≤ 5000) (hB : Bok β) : ∃ s β', F__law_own_store [.bg, .fz (.int n)] β = .ok (.fz (tI s)) β' ∧ RowOk n s ∧ Bok β' := by
  obtain ⟨w, β1, g1, g2, g3, g4⟩ := r_draw (n := 9) (by decide) (by decide) hB
  have hd : (sPar2 3 true 4 false (eFnA F__law_draw (eCons (eVar 0) (eCons (eC (.int 9)) eNil))) (eCall fLst eNil)) [.bag, .dat (.int n), .no, .no, .no, .no, .no] β = .nx [.bag, .dat (.int n), .no, .dat (.int w), .own [], .no, .no] β1 :=
    sPar2_ok (β1 := β1) (x := .fz (.int w)) (y := .tm []) (eFnA_ok (β1 := β) rfl rfl g1) rfl rfl
  by_cases h1 : w = 0
  · obtain ⟨a, β2, q1, q2, q3, q4⟩ := r_draw (n := (n : Int)) (by omega) (by omega) g4
    obtain ⟨a, rfl⟩ : ∃ j : Nat, a = j := ⟨a.toNat, by omega⟩
    exact ⟨_, β2, run_rt rfl (sSeq_nx hd (sSeq_rt (sIf_t (β1 := β1) ((eq_run 0 rfl).trans (by rw [decide_eq_true h1])) (sRet_ok (r := .fz (tI (unitL n a))) (eFnA_ok (β1 := β2) (rs := [.fz (.int n), .fz (.int a)]) (eCons_ok (β1 := β1) rfl (eCons_ok (β1 := β2) (eFnA_ok (β1 := β1) rfl rfl q1) rfl)) rfl (r_unit (by omega) (by omega))) rfl)))), unitL_ok (by omega), q4⟩
  · by_cases h2 : w = 1
    · exact ⟨_, β1, run_rt rfl (sSeq_nx hd (sSeq_nx (β1 := β1) (sIf_f (β1 := β1) ((eq_run 0 rfl).trans (by rw [decide_eq_false h1])) rfl) (sSeq_rt (sIf_t (β1 := β1) ((eq_run 1 rfl).trans (by rw [decide_eq_true h2])) (sRet_ok (r := .fz (tI (List.replicate n 1))) (eBin_ok (β1 := β1) (x := .fz (tI [1])) (y := .fz (.int n)) rfl rfl (mul_rep (by omega) (by omega))) rfl))))), rep_bits (.inr rfl) n, g4⟩
    · obtain ⟨ρ', β', c1, c2⟩ := loop_inv (tg := tgN 2) (body := L1__law_own_store) (fun i ρ β' => Bok β' ∧ ∃ (bits : List Int) (x2 x5 x6 : Sl), ρ = [.bag, .dat (.int n), x2, .dat (.int w), .own (bits.map .int), x5, x6] ∧ RowOk (12 * i) bits ∧ i ≤ n / 12 + 1) (ds := upTo 0 (n / 12 + 1)) (ρ := [.bag, .dat (.int n), .no, .dat (.int w), .own [], .no, .no]) (β := β1) 0 ⟨g4, [], _, _, _, rfl, ⟨rfl, fun _ h => by cases h⟩, Nat.zero_le _⟩ fun i e ρ β' he hI => by
        obtain ⟨b', bits, x2, x5, x6, rfl, rk, hle⟩ := hI
        have hi : i < n / 12 + 1 := by
          have := lt_of_some he
          rw [upTo_eq, List.length_map, List.length_range] at this
          exact this
        obtain ⟨w2, β2, q1, q2, q3, q4⟩ := r_draw (n := 4096) (by decide) (by decide) b'
        obtain ⟨more, e1, e2⟩ := comp_bits (v := 5) (vi := 6) (w := w2) (fa := eCons (eC (.int 12)) eNil) (ρ := [.bag, .dat (.int n), .dat e, .dat (.int w), .own (bits.map .int), .dat (.int w2), x6]) (β := β2) (n := 12) (by omega) (iRng1_ok (j := 12) (β1 := β2) rfl (by decide) (by decide) rfl) fun i => ⟨_, rfl, rfl, rfl⟩
        refine ⟨_, [.bag, .dat (.int n), .dat e, .dat (.int w), .own (bits.map .int ++ more.map .int), .dat (.int w2), x6], β2, rfl, ?_, q4, bits ++ more, _, _, _, by rw [List.map_append], ?_, by omega⟩
        · refine sSeq_nx (sAsg_ok (r := .fz (.int w2)) (β1 := β2) (eFnA_ok (β1 := β') rfl rfl q1) rfl (of_decide_eq_true rfl)) (sExt_ok (r := .tm (more.map .int)) (β1 := β2) rfl e1 rfl ?_)
          rw [List.length_map, List.length_map, rk.1, e2.1]
          unfold big
          omega
        · refine ⟨by rw [List.length_append, rk.1, e2.1]; omega, fun x hx => ?_⟩
          rcases List.mem_append.mp hx with q | q
          · exact rk.2 x q
          · exact e2.2 x q
      obtain ⟨b', bits, x2, x5, x6, rfl, rk, _⟩ := c2
      rw [upTo_eq, List.length_map, List.length_range, Nat.zero_add] at rk
      have e3 : ((n : Int) / 12 + 1).toNat = n / 12 + 1 := by omega
      refine ⟨bits.take n, β', run_rt rfl (sSeq_nx hd (sSeq_nx (β1 := β1) (sIf_f (β1 := β1) ((eq_run 0 rfl).trans (by rw [decide_eq_false h1])) rfl) (sSeq_nx (β1 := β1) (sIf_f (β1 := β1) ((eq_run 1 rfl).trans (by rw [decide_eq_false h2])) rfl) (sSeq_nx (sLoop_ok (β1 := β1) (ds := upTo 0 (n / 12 + 1)) (iRng1_ok (j := (n : Int) / 12 + 1) (β1 := β1) rfl (by omega) (by omega) e3) c1) (sRet_ok (r := .fz (tI (bits.take n))) (eCall_ok (β1 := β') (eCons_ok (β1 := β') (rs := []) (x := .tm ((bits.take n).map .int)) (eSlice_ok (β1 := β') (β2 := β') (β3 := β') (x := .bo (bits.map .int)) (a := none) (b := some (n : Int)) rfl rfl (eSome_ok (β1 := β') rfl) ?_) rfl) rfl) rfl))))), ⟨by rw [List.length_take, rk.1]; omega, fun x hx => rk.2 x (List.mem_of_mem_take hx)⟩, b'⟩
      show some (Rv.tm (cut (bits.map PyData.int) none (some (n : Int)))) = _
      rw [cut_pre, ← List.map_take]
theorem r_some_places {k d : Nat} {β : Bag} (hk0 : 0 < k) (hk : k ≤ 1000) (hd0 : 0 < d) (hd : d ≤ 15) (hkd : k ^ d ≤ 5000) (hB : Bok β) :
    ∃ (ps : List Int) (β' : Bag), F__law_some_places [.bg, .fz (.int k), .fz (.int d)] β = .ok (.tm (ps.map .int)) β' ∧ (∀ p ∈ ps, 0 ≤ p ∧ p < ((k ^ d : Nat) : Int)) ∧ ps.length ≤ 300 ∧ Bok β' := by
  have hm : (sAsg 3 true (eFnA F__law_cells_many (eCons (eVar 1) (eCons (eVar 2) eNil)))) [.bag, .dat (.int k), .dat (.int d), .no, .no, .no, .no] β = .nx [.bag, .dat (.int k), .dat (.int d), .dat (.int ((k ^ d : Nat) : Int)), .no, .no, .no] β := sAsg_ok (r := .fz (.int ((k ^ d : Nat) : Int))) (eFnA_ok (β1 := β) rfl rfl (r_cells_many hk (by omega))) rfl (of_decide_eq_true rfl)
  have hpos : 0 < k ^ d := Nat.pow_pos hk0
  have hpw : ∀ t, 0 < t → t < d → 256 < k ^ d → 1 ≤ k ^ t ∧ k ^ t < k ^ d := fun t _ ht hb => by
    refine ⟨Nat.pow_pos hk0, Nat.pow_lt_pow_right ?_ ht⟩
    by_cases e : k = 1
    · subst e
      rw [Nat.one_pow] at hb
      omega
    · omega
  generalize hM : k ^ d = M at hm hpos hpw hkd
  have hle : eTest (eBin cLe (eVar 3) (eC (.int 256))) [.bag, .dat (.int k), .dat (.int d), .dat (.int (M : Int)), .no, .no, .no] β = .ok (decide ((M : Int) ≤ 256)) β := eTest_ok rfl
  by_cases hs : (M : Int) ≤ 256
  · refine ⟨(List.range M).map fun (i : Nat) => (i : Int), β, run_rt rfl (sSeq_nx hm (sSeq_rt (sIf_t (β1 := β) (hle.trans (by rw [decide_eq_true hs])) (sRet_ok (r := .tm (((List.range M).map fun (i : Nat) => (i : Int)).map .int)) (eUn_ok (β1 := β) (x := .fz (.int (M : Int))) rfl ?_) rfl)))), fun p hp => ?_, by rw [List.length_map, List.length_range]; omega, hB⟩
    · show (if -(2 ^ 62) ≤ (M : Int) ∧ (M : Int) ≤ 1000000 then some (Rv.tm (upTo 0 (M : Int).toNat)) else none) = _
      rw [if_pos ⟨by omega, by omega⟩, Int.toNat_natCast, upTo_eq, List.map_map]
      rfl
    · obtain ⟨i, hi, rfl⟩ := List.mem_map.mp hp
      have := List.mem_range.mp hi
      omega
  · have hb : 256 < M := by omega
    obtain ⟨ρ', β', c1, c2⟩ := loop_inv (tg := tgN 5) (body := L1__law_some_places) (fun i ρ β' => β' = β ∧ ∃ (ps : List Int) (x5 x6 : Sl), ρ = [.bag, .dat (.int k), .dat (.int d), .dat (.int (M : Int)), .own (ps.map .int), x5, x6] ∧ (∀ p ∈ ps, 0 ≤ p ∧ p < (M : Int)) ∧ ps.length = 4 + 4 * i) (ds := upTo 1 (d - 1)) (ρ := [.bag, .dat (.int k), .dat (.int d), .dat (.int (M : Int)), .own ([0, 1, (M : Int) - 1, (M : Int) - 2].map .int), .no, .no]) (β := β) 0 ⟨rfl, _, _, _, rfl, fun p hp => by
        simp only [List.mem_cons, List.not_mem_nil, or_false] at hp
        omega, rfl⟩ fun i e ρ β' he hI => by
      obtain ⟨rfl, ps, x5, x6, rfl, hp, hl⟩ := hI
      have hi : i < d - 1 := by
        have := lt_of_some he
        unfold VL.upTo at this
        rw [List.length_map, List.length_range] at this
        exact this
      have ee : e = .int ((1 + i : Nat) : Int) := by
        unfold VL.upTo at he
        rw [List.getElem?_map, List.getElem?_range hi] at he
        cases he
        show PyData.int (1 + (i : Int)) = _
        congr 1
      subst ee
      obtain ⟨w1, w2⟩ := hpw (1 + i) (by omega) (by omega) hb
      have hc := r_cells_many (k := k) (d := 1 + i) (β := β') hk (by omega)
      generalize k ^ (1 + i) = q at w1 w2 hc
      refine ⟨_, [.bag, .dat (.int k), .dat (.int d), .dat (.int (M : Int)), .own (ps.map .int ++ [(q : Int) - 1, (q : Int), (M : Int) - q - 1, (M : Int) - q].map .int), .dat (.int ((1 + i : Nat) : Int)), .dat (.int (q : Int))], β', rfl, ?_, rfl, ps ++ [(q : Int) - 1, (q : Int), (M : Int) - q - 1, (M : Int) - q], _, _, by rw [List.map_append], ?_, ?_⟩
      · refine sSeq_nx (sAsg_ok (r := .fz (.int (q : Int))) (β1 := β') (eFnA_ok (β1 := β') rfl rfl hc) rfl (of_decide_eq_true rfl)) (sExt_ok (r := .tm ([(q : Int) - 1, (q : Int), (M : Int) - q - 1, (M : Int) - q].map .int)) (β1 := β') rfl rfl rfl ?_)
        rw [List.length_map, hl, List.length_map]
        unfold big
        simp only [List.length_cons, List.length_nil]
        omega
      · intro p hpp
        rcases List.mem_append.mp hpp with z | z
        · exact hp p z
        · simp only [List.mem_cons, List.not_mem_nil, or_false] at z
          omega
      · rw [List.length_append, hl]
        simp only [List.length_cons, List.length_nil]
        omega
    obtain ⟨rfl, ps, x5, x6, rfl, hp, hl⟩ := c2
    have hl2 : (VL.upTo 1 (d - 1)).length = d - 1 := by
      unfold VL.upTo
      rw [List.length_map, List.length_range]
    obtain ⟨ys, β2, e1, e2, e3⟩ := comp_draw (tg := tgN 5) (e := eFnA F__law_draw (eCons (eVar 0) (eCons (eVar 3) eNil))) (ρ := [.bag, .dat (.int k), .dat (.int d), .dat (.int (M : Int)), .own (ps.map .int), .no, x6]) Bok (fun _ y => ∃ r : Int, y = .int r ∧ 0 ≤ r ∧ r < (M : Int)) (ds := upTo 0 16) hB fun x hx β hβ => by
      obtain ⟨r, β1, q1, q2, q3, q4⟩ := r_draw (n := (M : Int)) (by omega) (by omega) hβ
      exact ⟨_, .fz (.int r), .int r, β1, rfl, eFnA_ok (β1 := β) rfl rfl q1, rfl, ⟨r, rfl, q2, q3⟩, q4⟩
    obtain ⟨qs, rfl, hq⟩ : ∃ qs : List Int, ys = qs.map .int ∧ ∀ r ∈ qs, 0 ≤ r ∧ r < (M : Int) := by
      clear e1
      generalize VL.upTo 0 16 = ds at e3
      induction e3 with
      | nil => exact ⟨[], rfl, fun _ h => by cases h⟩
      | cons h _ ih =>
        obtain ⟨r, rfl, hr⟩ := h
        obtain ⟨t, rfl, ht⟩ := ih
        exact ⟨r :: t, rfl, fun q hq => by
          rcases List.mem_cons.mp hq with rfl | hq
          · exact hr
          · exact ht q hq⟩
    have hlq := pair_len e3
    rw [upTo_eq, List.length_map, List.length_range, List.length_map] at hlq
    refine ⟨ps ++ qs, β2, run_rt rfl (sSeq_nx hm (sSeq_nx (β1 := β') (sIf_f (β1 := β') (hle.trans (by rw [decide_eq_false hs])) rfl) (sSeq_nx (sAsg_ok (r := .tm ([0, 1, (M : Int) - 1, (M : Int) - 2].map .int)) (β1 := β') rfl rfl (of_decide_eq_true rfl)) (sSeq_nx (sLoop_ok (β1 := β') (ds := upTo 1 (d - 1)) (iRng2_ok (i := 1) (j := (d : Int)) (β1 := β') rfl (by omega) (by omega) (by omega) (by omega) (by omega)) c1) (sRet_ok (r := .tm ((ps ++ qs).map .int)) (eBin_ok (β1 := β') (x := .bo (ps.map .int)) (y := .tm (qs.map .int)) rfl (eComp_eq (β1 := β') (ds := upTo 0 16) (iRng1_ok (j := 16) (β1 := β') rfl (by decide) (by decide) rfl) (of_decide_eq_true rfl) e1) ?_) rfl))))), fun p hpp => ?_, ?_, e2⟩
    · show (if _ then some (Rv.tm (ps.map PyData.int ++ qs.map PyData.int)) else none) = _
      rw [if_pos (by rw [List.length_map, List.length_map, hl, hl2, ← hlq]; unfold big; omega), List.map_append]
    · rcases List.mem_append.mp hpp with z | z
      · exact hp p z
      · exact hq p z
    · rw [List.length_append, hl, hl2, ← hlq]
      omega
end Lw

namespace Lw
open PySem PySem.Spec PyProof.Rows L2 VL

theorem r_ask_places {k d : Nat} {ps : List Int} {β : Bag} (hk0 : 0 < k) (hk : k < 1000) (hd : d ≤ 15) (hkd : k ^ d ≤ 5000) (hp : ∀ p ∈ ps, 0 ≤ p ∧ p < ((k ^ d : Nat) : Int)) (hl : ps.length ≤ 300) :
    ∃ ds, F__law_ask_places [.fz (.int k), .fz (.int d), .fz (.list (ps.map .int))] β = .ok (.tm ds) β ∧ Alike ds ∧ ds.length ≤ 600 := by
  have hlen : ∀ qs : List Int, (qs.flatMap fun p => [PyData.list [tI (cellR k d p), tI (cellR k d p), tI (cellR k d p)], .list [.int p, .int p, .int p]]).length = 2 * qs.length := fun qs => by
    induction qs with
    | nil => rfl
    | cons q qs ih =>
      rw [List.flatMap_cons, List.length_append, ih]
      simp only [List.length_cons, List.length_nil]
      omega
  obtain ⟨ρ', h1, x4, x5, h2⟩ := loop_app (tg := tgN 4) (body := L1__law_ask_places) (β := β) (g := PyData.int) (f := fun p => [PyData.list [tI (cellR k d p), tI (cellR k d p), tI (cellR k d p)], .list [.int p, .int p, .int p]])
    (fun acc ρ => ∃ x4 x5, ρ = [.dat (.int k), .dat (.int d), .dat (.list (ps.map .int)), .own acc, x4, x5]) (xs := ps) (acc0 := []) (ρ := [.dat (.int k), .dat (.int d), .dat (.list (ps.map .int)), .own [], .no, .no]) ⟨_, _, rfl⟩ fun p hpp acc ρ hs hll => by
      obtain ⟨x4, x5, rfl⟩ := hs
      have hb := hp p hpp
      have hcell : F_cell_at [.fz (.int k), .fz (.int d), .fz (.int p)] β = .ok (.fz (tI (cellR k d p))) β := by
        have := r_cell_at (k := (k : Int)) (d := (d : Int)) (p := p) (β := β) (by omega) (by omega) (by omega) (by omega)
        rwa [Int.toNat_natCast] at this
      have hplace : F_cell_place [.fz (.int k), .fz (tI (cellR k d p))] β = .ok (.fz (.int p)) β := by
        have := r_cell_place (k := (k : Int)) (c := cellR k d p) (β := β) (by omega) (by omega)
        rwa [place_back hk0 hb.1 hb.2] at this
      have hown : F__law_own_cell [.fz (.int k), .fz (.int d), .fz (.int p)] β = .ok (.fz (tI (cellR k d p))) β := r_own_cell hk0 hk (by omega)
      have ha : acc.length + 2 ≤ big := by
        rw [List.nil_append, hlen] at hll
        simp only [List.length_cons, List.length_nil] at hll
        unfold big
        omega
      generalize cellR k d p = c at hcell hplace hown
      refine ⟨_, [.dat (.int k), .dat (.int d), .dat (.list (ps.map .int)), .own (acc ++ [.list [tI c, tI c, tI c], .list [.int p, .int p, .int p]]), .dat (.int p), .dat (tI c)], rfl, ?_, _, _, rfl⟩
      refine sSeq_nx (sAsg_ok (r := .fz (tI c)) (β1 := β) (eFnA_ok (β1 := β) rfl rfl ?_) rfl (of_decide_eq_true rfl)) (sSeq_nx (sApp_ok (r := .tm [tI c, tI c, tI c]) (β1 := β) rfl (eCall_ok (β1 := β) (rs := [.fz (tI c), .fz (tI c), .fz (tI c)]) (eCons_ok (β1 := β) rfl (eCons_ok (β1 := β) (eFnA_ok (β1 := β) rfl rfl hcell) (eCons_ok (β1 := β) (eFnK_ok (β1 := β) (β2 := β) rfl rfl ⟨rfl, rfl⟩ rfl hcell) rfl))) rfl) rfl (by omega)) ?_)
      · exact hown
      · have := sApp_ok (i := 3) (f := eCall fLst (eCons (eVar 4) (eCons (eFnA F_cell_place (eCons (eVar 0) (eCons (eVar 5) (eNil)))) (eCons (eFnK 0 2 [0, 1] F_cell_place eNil (eCons (eVar 0) (eCons (eVar 5) (eNil)))) (eNil))))) (ρ := [.dat (.int k), .dat (.int d), .dat (.list (ps.map .int)), .own (acc ++ [.list [tI c, tI c, tI c]]), .dat (.int p), .dat (tI c)]) (ds := acc ++ [.list [tI c, tI c, tI c]]) (d := .list [.int p, .int p, .int p]) (r := .tm [.int p, .int p, .int p]) (β := β) (β1 := β) rfl (eCall_ok (β1 := β) (rs := [.fz (.int p), .fz (.int p), .fz (.int p)]) (eCons_ok (β1 := β) rfl (eCons_ok (β1 := β) (eFnA_ok (β1 := β) rfl rfl hplace) (eCons_ok (β1 := β) (eFnK_ok (β1 := β) (β2 := β) rfl rfl ⟨rfl, rfl⟩ rfl hplace) rfl))) rfl) rfl (by rw [List.length_append, List.length_singleton]; omega)
        rw [List.append_assoc] at this
        exact this
  subst h2
  rw [List.nil_append] at h1
  refine ⟨_, run_rt rfl (sSeq_nx (sAsg_ok (r := .tm []) (sl := .own []) (β1 := β) rfl rfl (of_decide_eq_true rfl)) (sSeq_nx (sLoop_ok (β1 := β) (ds := ps.map .int) rfl h1) (sRet_ok (r := .bo _) rfl rfl))), fun s hs => ?_, by rw [hlen]; omega⟩
  obtain ⟨p, hpp, hs⟩ := List.mem_flatMap.mp hs
  have hb := hp p hpp
  rcases List.mem_cons.mp hs with rfl | hs
  · exact alike3 ((sh_cell (k := k) (by omega) (cell_ok hk0 p) (cell_length _ _ _)).ok (by omega) (by decide))
  · rcases List.mem_singleton.mp hs with rfl
    exact alike3 ((sh_int hb.1 (by omega)).ok (by decide) (by decide))
/-- the values of [1, 2, 4, 8, 16][d] -/
theorem pow_idx {d : Nat} (hd : d ≤ 4) : oIdx (.tm [.int 1, .int 2, .int 4, .int 8, .int 16]) (.fz (.int d)) = some (.fz (.int ((2 ^ d : Nat) : Int))) := by
  rcases (show d = 0 ∨ d = 1 ∨ d = 2 ∨ d = 3 ∨ d = 4 by omega) with rfl | rfl | rfl | rfl | rfl <;> rfl
theorem pow_small {d : Nat} (hd : d ≤ 4) : 2 ^ d ≤ 16 := by
  rcases (show d = 0 ∨ d = 1 ∨ d = 2 ∨ d = 3 ∨ d = 4 by omega) with rfl | rfl | rfl | rfl | rfl <;> decide
theorem q_back {k d : Nat} {ss c : List Int} {t : List (List Int)} (h1 : ss.length = d) (h2 : c.length = d) (h3 : t.length = d) : qR ss c (qR ss c t) = t := by
  refine List.ext_getElem? fun j => ?_
  by_cases hj : j < d
  · have a1 := List.getElem?_eq_getElem (l := ss) (i := j) (by omega)
    have a2 := List.getElem?_eq_getElem (l := c) (i := j) (by omega)
    have a3 := List.getElem?_eq_getElem (l := t) (i := j) (by omega)
    rw [q_get a1 a2 (q_get a1 a2 a3), a3]
    congr 1
    split
    · exact flip_flip _ _
    · rfl
  · rw [List.getElem?_eq_none (by rw [q_length h1 h2 (q_length h1 h2 h3)]; omega), List.getElem?_eq_none (by omega)]
theorem r_ask_questions {k d : Nat} {c : List Int} {t : List (List Int)} {β : Bag} (hk : k ≤ 16) (hd : d ≤ 4) (hc : c.length = d) (hcell : CellOk k c) (ht : TapeOk k d t) :
    ∃ ds, F__law_ask_questions [.fz (.int k), .fz (tI c), .fz (tT t)] β = .ok (.tm ds) β ∧ Alike ds ∧ ds.length ≤ 40 := by
  have hp := pow_small hd
  have hlq : (allQ d c t).length = 2 ^ d := by unfold allQ; rw [List.length_map, List.length_range]
  have shq : ∀ q, TapeOk k d q → Sh (tT q) (4 * 200 + 4) 2 := fun q hq => (sh_tape hq).mono (by have := Nat.mul_le_mul hd (show k * 12 + 6 ≤ 200 by omega); omega) (Nat.le_refl _)
  obtain ⟨ρ', β', h1, h2⟩ := loop_inv (tg := tgN 3) (body := L1__law_ask_questions) (fun i ρ β' => β' = β ∧ i ≤ 2 ^ d ∧ ∃ (fs : List PyData) (x3 x4 : Sl), ρ = [.dat (.int k), .dat (tI c), .dat (tT t), x3, x4, .own fs, .own (((allQ d c t).take i).map tT)] ∧ Alike fs ∧ fs.length = 2 * i) (ds := upTo 0 (2 ^ d))
    (ρ := [.dat (.int k), .dat (tI c), .dat (tT t), .no, .no, .own [], .own []]) (β := β) 0 ⟨rfl, Nat.zero_le _, [], _, _, rfl, (fun _ h => by cases h), rfl⟩ fun i e ρ β' he hI => by
    obtain ⟨rfl, hle, fs, x3, x4, rfl, hA, hF⟩ := hI
    rw [Nat.zero_add] at hF ⊢
    have hi : i < 2 ^ d := by
      have := lt_of_some he
      rw [upTo_eq, List.length_map, List.length_range] at this
      exact this
    have ee : e = .int (i : Int) := by
      rw [upTo_eq, List.getElem?_map, List.getElem?_range hi] at he
      cases he
      rfl
    subst ee
    have hq : (allQ d c t)[i]? = some (qR (cellR 2 d i) c t) := by
      unfold allQ
      rw [List.getElem?_map, List.getElem?_range hi]
      rfl
    have qok : TapeOk k d (qR (cellR 2 d i) c t) := q_ok (cell_length _ _ _) hc ht
    have back : qR (cellR 2 d i) c (qR (cellR 2 d i) c t) = t := q_back (k := k) (cell_length _ _ _) hc ht.1
    have w1 : F__law_own_question [.fz (tI c), .fz (tT t), .fz (.int (i : Int))] β' = .ok (.fz (tT (qR (cellR 2 d i) c t))) β' := r_own_question (by omega) hc hcell ht (by omega)
    have w2 : F_question [.fz (.int k), .fz (tI c), .fz (tT t), .fz (.int (i : Int))] β' = .ok (.fz (tT (qR (cellR 2 d i) c t))) β' := r_question (by omega) (by omega) hc ht
    have w3 : F_question [.fz (.int k), .fz (tI c), .fz (tT (qR (cellR 2 d i) c t)), .fz (.int (i : Int))] β' = .ok (.fz (tT t)) β' := by
      have := r_question (k := k) (d := d) (c := c) (t := qR (cellR 2 d i) c t) (h := (i : Int)) (β := β') (by omega) (by omega) hc qok
      rwa [back] at this
    have hlt : (((allQ d c t).take i).map tT).length < big := by
      rw [List.length_map, List.length_take, hlq]
      unfold big
      omega
    have tk : ((allQ d c t).take (i + 1)).map tT = ((allQ d c t).take i).map tT ++ [tT (qR (cellR 2 d i) c t)] := by
      rw [List.take_add_one, hq, List.map_append]
      rfl
    rw [tk]
    generalize hQ : qR (cellR 2 d i) c t = q at w1 w2 w3 qok
    generalize ((allQ d c t).take i).map tT = qs at hlt
    refine ⟨_, [.dat (.int k), .dat (tI c), .dat (tT t), .dat (.int (i : Int)), .dat (tT q), .own (fs ++ [.list [tT q, tT q, tT q]] ++ [.list [tT t, tT t, tT t]]), .own (qs ++ [tT q])], β', rfl, ?_, rfl, by omega, fs ++ [.list [tT q, tT q, tT q]] ++ [.list [tT t, tT t, tT t]], _, _, rfl, ?_, ?_⟩
    · refine sSeq_nx (sAsg_ok (r := .fz (tT q)) (β1 := β') (eFnA_ok (β1 := β') rfl rfl w1) rfl (of_decide_eq_true rfl)) (sSeq_nx (sApp_ok (r := .fz (tT q)) (β1 := β') rfl rfl rfl hlt) (sSeq_nx (sApp_ok (r := .tm [tT q, tT q, tT q]) (β1 := β') rfl (eCall_ok (β1 := β') (rs := [.fz (tT q), .fz (tT q), .fz (tT q)]) (eCons_ok (β1 := β') rfl (eCons_ok (β1 := β') (eFnA_ok (β1 := β') rfl rfl w2) (eCons_ok (β1 := β') (eFnK_ok (β1 := β') (β2 := β') rfl rfl ⟨rfl, rfl⟩ rfl w2) rfl))) rfl) rfl ?_) (sApp_ok (r := .tm [tT t, tT t, tT t]) (β1 := β') rfl (eCall_ok (β1 := β') (rs := [.fz (tT t), .fz (tT t), .fz (tT t)]) (eCons_ok (β1 := β') rfl (eCons_ok (β1 := β') (eFnA_ok (β1 := β') rfl rfl w3) (eCons_ok (β1 := β') (eFnA_ok (β1 := β') (rs := [.fz (.int k), .fz (tI c), .fz (tT q), .fz (.int (i : Int))]) (eCons_ok (β1 := β') rfl (eCons_ok (β1 := β') rfl (eCons_ok (β1 := β') (eFnA_ok (β1 := β') rfl rfl w2) rfl))) rfl w3) rfl))) rfl) rfl ?_)))
      · unfold big
        omega
      · rw [List.length_append, List.length_singleton]
        unfold big
        omega
    · refine alike_app (alike_app hA fun s hs => ?_) fun s hs => ?_
      · rcases List.mem_singleton.mp hs with rfl
        exact alike3 ((shq q qok).ok (by decide) (by decide))
      · rcases List.mem_singleton.mp hs with rfl
        exact alike3 ((shq t ht).ok (by decide) (by decide))
    · rw [List.length_append, List.length_append, hF]
      simp only [List.length_singleton]
      omega
  obtain ⟨rfl, hle, fs, x3, x4, rfl, hA, hF⟩ := h2
  have hul : (upTo 0 (2 ^ d)).length = 2 ^ d := by rw [upTo_eq, List.length_map, List.length_range]
  rw [hul, Nat.zero_add] at hF
  rw [hul, Nat.zero_add, List.take_of_length_le (by rw [hlq]; exact Nat.le_refl _)] at h1
  have w : F_all_questions [.fz (.int k), .fz (tI c), .fz (tT t)] β' = .ok (.fz (.tuple ((allQ d c t).map tT))) β' := r_all_questions (by omega) (by omega) hc ht
  have sha : okR (.tuple ((allQ d c t).map tT)) = true := ((sh_tup (ds := (allQ d c t).map tT) (n := 4 * 200 + 4) (m := 2) fun e he => by
    obtain ⟨q, hq, rfl⟩ := List.mem_map.mp he
    obtain ⟨h, _, rfl⟩ := List.mem_map.mp hq
    exact shq _ (q_ok (cell_length _ _ _) hc ht)).mono (n' := 16 * 1000) (m' := 3) (by rw [List.length_map, hlq]; have := Nat.mul_le_mul hp (show 4 * 200 + 4 + 2 ≤ 900 by decide); omega) (Nat.le_refl _)).ok (by decide) (by decide)
  generalize (allQ d c t).map tT = A at w h1 sha
  refine ⟨fs ++ [.list [.tuple A, .tuple A, .tuple A]], run_rt rfl (sSeq_nx (sPar2_ok (β1 := β') (x := .tm []) (y := .tm []) rfl rfl rfl) (sSeq_nx (sLoop_ok (β1 := β') (ds := upTo 0 (2 ^ d)) (iRng1_ok (j := ((2 ^ d : Nat) : Int)) (β1 := β') (eCons_ok (β1 := β') (rs := []) (eBin_ok (β1 := β') (x := .tm [.int 1, .int 2, .int 4, .int 8, .int 16]) (y := .fz (.int (d : Int))) rfl (eCall_ok (β1 := β') rfl ?_) (pow_idx hd)) rfl) (by omega) (by omega) (Int.toNat_natCast _)) h1) (sSeq_nx (sAsg_ok (r := .fz (.tuple A)) (β1 := β') rfl rfl (of_decide_eq_true rfl)) (sSeq_nx (sApp_ok (r := .tm [.tuple A, .tuple A, .tuple A]) (β1 := β') rfl (eCall_ok (β1 := β') (rs := [.fz (.tuple A), .fz (.tuple A), .fz (.tuple A)]) (eCons_ok (β1 := β') rfl (eCons_ok (β1 := β') (eFnA_ok (β1 := β') rfl rfl w) (eCons_ok (β1 := β') (eFnK_ok (β1 := β') (β2 := β') rfl rfl ⟨rfl, rfl⟩ rfl w) rfl))) rfl) rfl ?_) (sRet_ok (r := .bo _) rfl rfl))))), ?_, ?_⟩
  · show some (Rv.fz (.int ((c.map PyData.int).length : Nat))) = _
    rw [List.length_map, hc]
  · unfold big
    omega
  · refine alike_app hA fun s hs => ?_
    rcases List.mem_singleton.mp hs with rfl
    exact alike3 sha
  · rw [List.length_append, hF, List.length_singleton]
    omega
theorem ans_bit {k : Nat} {s : List Int} {q : List (List Int)} : Bit (ansR k s q) := bit_mod
theorem bit_ok {x : Int} (h : Bit x) : okR (.int x) = true := (sh_int (by rcases h with e | e <;> rw [e] <;> decide) (by rcases h with e | e <;> rw [e] <;> decide)).ok (by decide) (by decide)
theorem r_ask_answers {k d : Nat} {s : List Int} {some : List (List (List Int))} {β : Bag} (hk0 : 0 < k) (hk : k ≤ 1000) (hkd : k ^ d ≤ 5000) (hs : s.length = k ^ d) (ht : ∀ q ∈ some, TapeOk k d q) (hl : some.length ≤ 100) :
    ∃ ds, F__law_ask_answers [.fz (.int k), .fz (tI s), .fz (.list (some.map tT))] β = .ok (.tm ds) β ∧ Alike ds ∧ ds.length ≤ 100 := by
  obtain ⟨ρ', h1, x4, x5, h2⟩ := loop_app (tg := tgN 4) (body := L1__law_ask_answers) (β := β) (g := tT) (f := fun q => [PyData.list [.int (ansR k s q), .int (ansR k s q), .int (ansR k s q)]])
    (fun acc ρ => ∃ x4 x5, ρ = [.dat (.int k), .dat (tI s), .dat (.list (some.map tT)), .own acc, x4, x5]) (xs := some) (acc0 := []) (ρ := [.dat (.int k), .dat (tI s), .dat (.list (some.map tT)), .own [], .no, .no]) ⟨_, _, rfl⟩ fun q hq acc ρ hsh hll => by
      obtain ⟨x4, x5, rfl⟩ := hsh
      have w1 : F__law_own_answer [.fz (.int k), .fz (tI s), .fz (tT q)] β = .ok (.fz (.int (ansR k s q))) β := r_own_answer hk0 hk hkd hs (ht q hq)
      have w2 : F_answer_bit [.fz (.int k), .fz (tI s), .fz (tT q)] β = .ok (.fz (.int (ansR k s q))) β := r_answer_bit hk0 hk hkd hs (ht q hq)
      generalize ansR k s q = a at w1 w2
      have ha : acc.length < big := by
        rw [List.nil_append, fm1] at hll
        simp only [List.length_map, List.length_singleton] at hll
        unfold big
        omega
      exact ⟨_, [.dat (.int k), .dat (tI s), .dat (.list (some.map tT)), .own (acc ++ [.list [.int a, .int a, .int a]]), .dat (tT q), .dat (.int a)], rfl, sSeq_nx (sAsg_ok (r := .fz (.int a)) (β1 := β) (eFnA_ok (β1 := β) rfl rfl w1) rfl (of_decide_eq_true rfl)) (sApp_ok (r := .tm [.int a, .int a, .int a]) (β1 := β) rfl (eCall_ok (β1 := β) (rs := [.fz (.int a), .fz (.int a), .fz (.int a)]) (eCons_ok (β1 := β) rfl (eCons_ok (β1 := β) (eFnA_ok (β1 := β) rfl rfl w2) (eCons_ok (β1 := β) (eFnK_ok (β1 := β) (β2 := β) rfl rfl ⟨rfl, rfl⟩ rfl w2) rfl))) rfl) rfl ha), _, _, rfl⟩
  subst h2
  rw [List.nil_append, fm1] at h1
  refine ⟨_, run_rt rfl (sSeq_nx (sAsg_ok (r := .tm []) (sl := .own []) (β1 := β) rfl rfl (of_decide_eq_true rfl)) (sSeq_nx (sLoop_ok (β1 := β) (ds := some.map tT) rfl h1) (sRet_ok (r := .bo _) rfl rfl))), fun z hz => ?_, by rw [List.length_map]; exact hl⟩
  obtain ⟨q, _, rfl⟩ := List.mem_map.mp hz
  exact alike3 (bit_ok ans_bit)
end Lw

namespace Lw
open PySem PySem.Spec PyProof.Rows L2 VL

/-! ### odd -/
def bitS (x : Int) : PyData := .str (PyData.shown (.int x))
theorem shown0 : PyData.shown (.int 0) = ("0" : Str) := by decide +kernel
theorem shown1 : PyData.shown (.int 1) = ("1" : Str) := by decide +kernel
theorem count_bits : ∀ bs : List Int, Bits bs → (((bs.map bitS).countP fun y => PyData.eqv y (.str "1") : Nat) : Int) = bs.sum ∧ ((bs.map bitS).countP fun y => PyData.eqv y (.str "0")) + ((bs.map bitS).countP fun y => PyData.eqv y (.str "1")) = bs.length
  | [], _ => ⟨rfl, rfl⟩
  | b :: bs, h => by
    obtain ⟨i1, i2⟩ := count_bits bs fun x hx => h x (List.mem_cons_of_mem _ hx)
    have e00 : PyData.eqv (bitS 0) (.str "0") = true := by unfold bitS; rw [shown0]; decide +kernel
    have e01 : PyData.eqv (bitS 0) (.str "1") = false := by unfold bitS; rw [shown0]; decide +kernel
    have e10 : PyData.eqv (bitS 1) (.str "0") = false := by unfold bitS; rw [shown1]; decide +kernel
    have e11 : PyData.eqv (bitS 1) (.str "1") = true := by unfold bitS; rw [shown1]; decide +kernel
    rw [List.map_cons, List.countP_cons, List.countP_cons, List.sum_cons, List.length_cons]
    rcases h b (List.mem_cons_self ..) with rfl | rfl
    · rw [e00, e01]
      simp only [if_true, Bool.false_eq_true, if_false]
      omega
    · rw [e10, e11]
      simp only [if_true, Bool.false_eq_true, if_false]
      omega
theorem plain_strs : ∀ bs : List Int, PyData.plainAll (bs.map bitS) = true
  | [] => rfl
  | b :: bs => by
    rw [List.map_cons]
    simp only [PyData.plainAll, plain_strs bs, bitS, PyData.plain, Bool.and_self]
theorem eCnt_ok {f g : E} {ρ : VL.Env} {β β1 β2 : Bag} {x y : Rv} {ds : List PyData} {d : PyData} (h1 : f ρ β = .ok x β1) (hl : x.lst? = some ds) (h2 : g ρ β1 = .ok y β2) (hd : y.data? = some d) (k1 : PyData.plainAll ds = true) (k2 : okD d = true) :
    eCnt f g ρ β = .ok (.fz (.int ((ds.countP fun y => PyData.eqv y d : Nat) : Int))) β2 := by
  unfold eCnt
  rw [h1]
  simp only [R.bind, hl]
  rw [h2]
  simp only [gCount, hl, hd, if_pos (And.intro k1 k2), R.of]
theorem r_odd {bs : List Int} {β : Bag} (h : Bits bs) (hl : bs.length ≤ 1000) : F__law_odd [.fz (.list (bs.map .int))] β = .ok (.fz (.int (bs.sum % 2))) β := by
  obtain ⟨c1, c2⟩ := count_bits bs h
  have hz : bs.length ≤ big := by unfold big; omega
  have ht : (sAsg 1 true (eComp [2] (tgN 2) eYes (eCall (f1 gRepr) (eCons (eVar 2) eNil)) (iSeq false (eVar 0)))) [.dat (.list (bs.map .int)), .no, .no] β = .nx [.dat (.list (bs.map .int)), .dat (.list (bs.map bitS)), .no] β := by
    refine sAsg_ok (r := .tm (bs.map bitS)) (β1 := β) (eComp_eq (β1 := β) (ds := bs.map .int) rfl (by rw [List.length_map]; exact hz) ?_) rfl (of_decide_eq_true rfl)
    refine comp_map PyData.int bitS fun b hb => ⟨_, .fz (bitS b), rfl, ?_, rfl⟩
    refine eCall_ok (β1 := β) (rs := [.fz (.int b)]) rfl ?_
    show (if okR (.int b) = true then some (Rv.fz (.str (PyData.shown (.int b)))) else none) = _
    rw [if_pos (bit_ok (h b hb))]
    rfl
  have n0 : eCnt (eVar 1) (eC (.str "0")) [.dat (.list (bs.map .int)), .dat (.list (bs.map bitS)), .no] β = .ok _ β := eCnt_ok (β1 := β) rfl rfl rfl rfl (plain_strs bs) (by decide +kernel)
  have n1 : eCnt (eVar 1) (eC (.str "1")) [.dat (.list (bs.map .int)), .dat (.list (bs.map bitS)), .no] β = .ok _ β := eCnt_ok (β1 := β) rfl rfl rfl rfl (plain_strs bs) (by decide +kernel)
  generalize ((bs.map bitS).countP fun y => PyData.eqv y (.str "0")) = m0 at n0 c2
  generalize ((bs.map bitS).countP fun y => PyData.eqv y (.str "1")) = m1 at n1 c1 c2
  refine run_rt rfl (sSeq_nx ht (sSeq_nx (ρ1 := [.dat (.list (bs.map .int)), .dat (.list (bs.map bitS)), .no]) (β1 := β) (sIf_f (β1 := β) (eTest_ok (eBin_ok (β1 := β) (x := .fz (.int ((m0 : Int) + m1))) (y := .fz (.int (bs.length : Int))) (eBin_ok (β1 := β) n0 n1 rfl) (eCall_ok (β1 := β) (rs := [.fz (.list (bs.map bitS))]) rfl ?_) (cNe_ok rfl rfl rfl rfl ?_))) rfl) (sRet_ok (r := .fz (.int (bs.sum % 2))) (eBin_ok (β1 := β) (x := .fz (.int (m1 : Int))) (y := .fz (.int 2)) (eCall_ok (β1 := β) (rs := [.fz (.int (m1 : Int))]) (eCons_ok (β1 := β) n1 rfl) rfl) rfl (by rw [oMod_ok (by decide), c1])) rfl)))
  · show some (Rv.fz (.int ((bs.map bitS).length : Nat))) = _
    rw [List.length_map]
  · rw [eqv_int, decide_eq_true (by omega)]
    rfl
/-! ### items -/
section
variable {k d : Nat} {β : Bag} {stores : List (List Int)} {tapes : List (List (List Int))} {places : List Int}
structure ItH (k d : Nat) (stores : List (List Int)) (tapes : List (List (List Int))) (places : List Int) : Prop where
  k0 : 0 < k
  k1 : k < 1000
  d1 : d ≤ 4
  kd : k ^ d ≤ 5000
  st : ∀ s ∈ stores, RowOk (k ^ d) s
  tp : ∀ t ∈ tapes, TapeOk k d t
  pl : ∀ p ∈ places, 0 ≤ p ∧ p < ((k ^ d : Nat) : Int)
theorem item_at {k d : Nat} {s : List Int} {t : List (List Int)} {p : Int} {β : Bag} (hk0 : 0 < k) (hk1 : k < 1000) (hd : d ≤ 4) (kd : k ^ d ≤ 5000) (hs : RowOk (k ^ d) s) (ht : TapeOk k d t) (hp : 0 ≤ p ∧ p < ((k ^ d : Nat) : Int)) :
    F_told_item [.fz (.int k), .fz (tI s), .fz (tI (cellR k d p)), .fz (tT t)] β = .ok (.fz (.int (getI s p))) β ∧ oIdx (.fz (tI s)) (.fz (.int p)) = some (.fz (.int (getI s p))) ∧ Bit (getI s p) := by
  have e := told_eq hk0 hs.1 hs.2 ht hp.1 hp.2
  refine ⟨?_, ?_, ?_⟩
  · have := r_told_item (k := k) (d := d) (s := s) (c := cellR k d p) (t := t) (β := β) hk0 (by omega) (by omega) kd hs.1 (cell_length _ _ _) ht
    rwa [e] at this
  · show (atI (s.map PyData.int) p).map Rv.fz = _
    rw [get_at hp.1 (by rw [hs.1]; exact hp.2)]
    rfl
  · rw [← e]
    exact bit_mod
def pairD (b : Int) : PyData := .list [.int b, .int b]
theorem r_ask_items (H : ItH k d stores tapes places) (hs0 : ∃ s ss, stores = s :: ss) (ht0 : ∃ t ts, tapes = t :: ts) (hp0 : ∃ p ps, places = p :: ps) (hl : stores.length ≤ 5 ∧ tapes.length ≤ 5 ∧ places.length ≤ 5) :
    ∃ ds, F__law_ask_items [.fz (.int k), .fz (.int d), .fz (.list (stores.map tI)), .fz (.list (tapes.map tT)), .fz (.list (places.map .int))] β = .ok (.tm ds) β ∧ Alike ds ∧ ds.length ≤ 200 := by
  obtain ⟨s0, ss, es⟩ := hs0
  obtain ⟨t0, ts, et⟩ := ht0
  obtain ⟨p0, ps, ep⟩ := hp0
  have hS0 : RowOk (k ^ d) s0 := H.st s0 (by rw [es]; exact List.mem_cons_self ..)
  have hT0 : TapeOk k d t0 := H.tp t0 (by rw [et]; exact List.mem_cons_self ..)
  have hP0 := H.pl p0 (by rw [ep]; exact List.mem_cons_self ..)
  have iS : oIdx (.fz (.list (stores.map tI))) (.fz (.int 0)) = some (.fz (tI s0)) := by
    show (atI (stores.map tI) ((0 : Nat) : Int)).map Rv.fz = _
    rw [atI_nat (v := tI s0) (by rw [es]; rfl)]
    rfl
  have iT : oIdx (.fz (.list (tapes.map tT))) (.fz (.int 0)) = some (.fz (tT t0)) := by
    show (atI (tapes.map tT) ((0 : Nat) : Int)).map Rv.fz = _
    rw [atI_nat (v := tT t0) (by rw [et]; rfl)]
    rfl
  have iP : oIdx (.fz (.list (places.map .int))) (.fz (.int 0)) = some (.fz (.int p0)) := by
    show (atI (places.map PyData.int) ((0 : Nat) : Int)).map Rv.fz = _
    rw [atI_nat (v := PyData.int p0) (by rw [ep]; rfl)]
    rfl
  generalize hvS : stores.map tI = vS at iS ⊢
  generalize hvT : tapes.map tT = vT at iT ⊢
  generalize hvP : places.map PyData.int = vP at iP ⊢
  -- the stores at a place and a tape
  have inner : ∀ (p : Int) (t : List (List Int)) (acc : List PyData) (x7 x9 x10 x11 x12 x13 x14 : Sl), (0 ≤ p ∧ p < ((k ^ d : Nat) : Int)) → TapeOk k d t → acc.length + 10 ≤ 1000 →
      ∃ (more : List PyData) (y11 y12 : Sl), L2__law_ask_items [.dat (.int k), .dat (.int d), .dat (.list vS), .dat (.list vT), .dat (.list vP), .own acc, .dat (.int p), x7, .dat (tI (cellR k d p)), .dat (tT t), x10, x11, x12, x13, x14] β =
        .nx [.dat (.int k), .dat (.int d), .dat (.list vS), .dat (.list vT), .dat (.list vP), .own (acc ++ more), .dat (.int p), x7, .dat (tI (cellR k d p)), .dat (tT t), x10, y11, y12, x13, x14] β ∧ Alike more ∧ more.length ≤ 6 := by
    intro p t acc x7 x9 x10 x11 x12 x13 x14 hp ht hacc
    obtain ⟨ρ', g1, y11, y12, g2⟩ := loop_app (tg := tgN 12) (body := L1__law_ask_items) (β := β) (g := tI) (f := fun s => [pairD (getI s p)])
      (fun acc ρ => ∃ y11 y12, ρ = [.dat (.int k), .dat (.int d), .dat (.list vS), .dat (.list vT), .dat (.list vP), .own acc, .dat (.int p), x7, .dat (tI (cellR k d p)), .dat (tT t), x10, y11, y12, x13, x14]) (xs := stores) (acc0 := acc)
      (ρ := [.dat (.int k), .dat (.int d), .dat (.list vS), .dat (.list vT), .dat (.list vP), .own acc, .dat (.int p), x7, .dat (tI (cellR k d p)), .dat (tT t), x10, x11, x12, x13, x14]) ⟨_, _, rfl⟩ fun s hs acc' ρ hsh hll => by
        obtain ⟨y11, y12, rfl⟩ := hsh
        obtain ⟨w1, w2, _⟩ := item_at (β := β) H.k0 H.k1 H.d1 H.kd (H.st s hs) ht hp
        have ha : acc'.length < big := by
          rw [fm1, List.length_append, List.length_map] at hll
          have := hl.1
          simp only [List.length_singleton] at hll
          unfold big
          omega
        generalize getI s p = b at w1 w2
        generalize cellR k d p = c at w1
        exact ⟨_, [.dat (.int k), .dat (.int d), .dat (.list vS), .dat (.list vT), .dat (.list vP), .own (acc' ++ [pairD b]), .dat (.int p), x7, .dat (tI c), .dat (tT t), x10, .dat (.int b), .dat (tI s), x13, x14], rfl, sSeq_nx (sAsg_ok (r := .fz (.int b)) (β1 := β) (eBin_ok (β1 := β) (x := .fz (tI s)) (y := .fz (.int p)) rfl rfl w2) rfl (of_decide_eq_true rfl)) (sApp_ok (r := .tm [.int b, .int b]) (β1 := β) rfl (eCall_ok (β1 := β) (rs := [.fz (.int b), .fz (.int b)]) (eCons_ok (β1 := β) rfl (eCons_ok (β1 := β) (eFnA_ok (β1 := β) rfl rfl w1) rfl)) rfl) rfl ha), _, _, rfl⟩
    subst g2
    rw [hvS] at g1
    rw [fm1] at g1
    obtain ⟨w1, w2, w3⟩ := item_at (β := β) H.k0 H.k1 H.d1 H.kd hS0 ht hp
    have hm : (acc ++ stores.map fun s => pairD (getI s p)).length < big := by
      rw [List.length_append, List.length_map]
      have := hl.1
      unfold big
      omega
    refine ⟨(stores.map fun s => pairD (getI s p)) ++ [pairD (getI s0 p)], .dat (.int (getI s0 p)), y12, ?_, alike_app (fun z hz => ?_) (fun z hz => ?_), ?_⟩
    · rw [← List.append_assoc]
      generalize (acc ++ stores.map fun s => pairD (getI s p)) = A at g1 hm
      generalize getI s0 p = b at w1 w2
      generalize cellR k d p = c at w1 g1
      exact sSeq_nx (sLoop_ok (β1 := β) (ds := vS) rfl g1) (sSeq_nx (sAsg_ok (r := .fz (.int b)) (β1 := β) (eBin_ok (β1 := β) (x := .fz (tI s0)) (y := .fz (.int p)) (eBin_ok (β1 := β) (x := .fz (.list vS)) (y := .fz (.int 0)) rfl rfl iS) rfl w2) rfl (of_decide_eq_true rfl)) (sApp_ok (r := .tm [.int b, .int b]) (β1 := β) rfl (eCall_ok (β1 := β) (rs := [.fz (.int b), .fz (.int b)]) (eCons_ok (β1 := β) rfl (eCons_ok (β1 := β) (eFnK_ok (β1 := β) (β2 := β) rfl (eCons_ok (β1 := β) rfl (eCons_ok (β1 := β) (x := .fz (tI s0)) (eBin_ok (β1 := β) (x := .fz (.list vS)) (y := .fz (.int 0)) rfl rfl iS) rfl)) ⟨rfl, rfl⟩ rfl w1) rfl)) rfl) rfl hm))
    · obtain ⟨s, hs, rfl⟩ := List.mem_map.mp hz
      exact alike2 (bit_ok (item_at (β := β) H.k0 H.k1 H.d1 H.kd (H.st s hs) ht hp).2.2)
    · rcases List.mem_singleton.mp hz with rfl
      exact alike2 (bit_ok w3)
    · rw [List.length_append, List.length_map, List.length_singleton]
      have := hl.1
      omega
  -- the tapes at a place
  have mid : ∀ (p : Int) (acc : List PyData) (x6 x7 x8 x9 x10 x11 x12 x13 x14 : Sl), (0 ≤ p ∧ p < ((k ^ d : Nat) : Int)) → acc.length + 40 ≤ 1000 →
      ∃ (more : List PyData) (y9 y11 y12 : Sl), L3__law_ask_items [.dat (.int k), .dat (.int d), .dat (.list vS), .dat (.list vT), .dat (.list vP), .own acc, .dat (.int p), x7, x8, x9, x10, x11, x12, x13, x14] β =
        .nx [.dat (.int k), .dat (.int d), .dat (.list vS), .dat (.list vT), .dat (.list vP), .own (acc ++ more), .dat (.int p), x7, .dat (tI (cellR k d p)), y9, x10, y11, y12, x13, x14] β ∧ Alike more ∧ more.length ≤ 30 := by
    intro p acc x6 x7 x8 x9 x10 x11 x12 x13 x14 hp hacc
    have hown : F__law_own_cell [.fz (.int k), .fz (.int d), .fz (.int p)] β = .ok (.fz (tI (cellR k d p))) β := r_own_cell H.k0 H.k1 (by have := H.d1; omega)
    obtain ⟨ρ', β', g1, g2⟩ := loop_inv (tg := tgN 9) (body := L2__law_ask_items) (fun i ρ β' => β' = β ∧ ∃ (more : List PyData) (y9 y11 y12 : Sl), ρ = [.dat (.int k), .dat (.int d), .dat (.list vS), .dat (.list vT), .dat (.list vP), .own (acc ++ more), .dat (.int p), x7, .dat (tI (cellR k d p)), y9, x10, y11, y12, x13, x14] ∧ Alike more ∧ more.length ≤ 6 * i ∧ i ≤ tapes.length) (ds := vT)
      (ρ := [.dat (.int k), .dat (.int d), .dat (.list vS), .dat (.list vT), .dat (.list vP), .own acc, .dat (.int p), x7, .dat (tI (cellR k d p)), x9, x10, x11, x12, x13, x14]) (β := β) 0 ⟨rfl, [], _, _, _, by rw [List.append_nil], (fun _ h => by cases h), Nat.le_refl _, Nat.zero_le _⟩ fun i e ρ β' he hI => by
        obtain ⟨rfl, more, y9, y11, y12, rfl, hA, hM, hi⟩ := hI
        rw [Nat.zero_add] at hM hi
        rw [← hvT, List.getElem?_map] at he
        cases hq : tapes[i]? with
        | none => rw [hq] at he; cases he
        | some t =>
          rw [hq] at he
          cases he
          have hit := lt_of_some hq
          have h5 := hl.2.1
          obtain ⟨m2, z11, z12, q1, q2, q3⟩ := inner p t (acc ++ more) x7 y9 x10 y11 y12 x13 x14 hp (H.tp t (List.mem_of_getElem? hq)) (by rw [List.length_append]; omega)
          refine ⟨_, _, _, rfl, q1, rfl, more ++ m2, .dat (tT t), z11, z12, by rw [List.append_assoc], alike_app hA q2, by rw [List.length_append]; omega, by omega⟩
    obtain ⟨rfl, more, y9, y11, y12, rfl, hA, hM, hi⟩ := g2
    refine ⟨more, y9, y11, y12, sSeq_nx (sAsg_ok (r := .fz (tI (cellR k d p))) (β1 := β') (eFnA_ok (β1 := β') rfl rfl hown) rfl (of_decide_eq_true rfl)) (sLoop_ok (β1 := β') (ds := vT) rfl g1), hA, ?_⟩
    have : vT.length = tapes.length := by rw [← hvT, List.length_map]
    have h5 := hl.2.1
    omega
  obtain ⟨ρ', β', g1, g2⟩ := loop_inv (tg := tgN 6) (body := L3__law_ask_items) (fun i ρ β' => β' = β ∧ ∃ (acc : List PyData) (y6 y8 y9 y11 y12 : Sl), ρ = [.dat (.int k), .dat (.int d), .dat (.list vS), .dat (.list vT), .dat (.list vP), .own acc, y6, .no, y8, y9, .no, y11, y12, .no, .no] ∧ Alike acc ∧ acc.length ≤ 30 * i ∧ i ≤ places.length) (ds := vP)
    (ρ := [.dat (.int k), .dat (.int d), .dat (.list vS), .dat (.list vT), .dat (.list vP), .own [], .no, .no, .no, .no, .no, .no, .no, .no, .no]) (β := β) 0 ⟨rfl, [], _, _, _, _, _, rfl, (fun _ h => by cases h), Nat.le_refl _, Nat.zero_le _⟩ fun i e ρ β' he hI => by
      obtain ⟨rfl, acc, y6, y8, y9, y11, y12, rfl, hA, hM, hi⟩ := hI
      rw [Nat.zero_add] at hM hi
      rw [← hvP, List.getElem?_map] at he
      cases hq : places[i]? with
      | none => rw [hq] at he; cases he
      | some p =>
        rw [hq] at he
        cases he
        have hit := lt_of_some hq
        have h5 := hl.2.2
        obtain ⟨m2, z9, z11, z12, q1, q2, q3⟩ := mid p acc y6 .no y8 y9 .no y11 y12 .no .no (H.pl p (List.mem_of_getElem? hq)) (by omega)
        exact ⟨_, _, _, rfl, q1, rfl, acc ++ m2, .dat (.int p), .dat (tI (cellR k d p)), z9, z11, z12, rfl, alike_app hA q2, by rw [List.length_append]; omega, by omega⟩
  obtain ⟨rfl, acc, y6, y8, y9, y11, y12, rfl, hA, hM, hi⟩ := g2
  have hvl : vP.length = places.length := by rw [← hvP, List.length_map]
  have h5 := hl.2.2
  have hown : F__law_own_cell [.fz (.int k), .fz (.int d), .fz (.int p0)] β' = .ok (.fz (tI (cellR k d p0))) β' := r_own_cell H.k0 H.k1 (by have := H.d1; omega)
  have hcl := cell_length (k : Int) d p0
  have hcok := cell_ok (d := d) H.k0 p0
  obtain ⟨_, w2, w3⟩ := item_at (β := β') H.k0 H.k1 H.d1 H.kd hS0 hT0 hP0
  have etold := told_eq H.k0 hS0.1 hS0.2 hT0 hP0.1 hP0.2
  have hp16 := pow_small H.d1
  have hd4 := H.d1
  have hk9 := H.k1
  have hkd := H.kd
  have hk0 := H.k0
  unfold toldR at etold
  have hlq : (allQ d (cellR k d p0) t0).length = 2 ^ d := by unfold allQ; rw [List.length_map, List.length_range]
  have hq0 : ∀ h : Nat, F__law_own_question [.fz (tI (cellR k d p0)), .fz (tT t0), .fz (.int (h : Int))] β' = .ok (.fz (tT (qR (cellR 2 d h) (cellR k d p0) t0))) β' := fun h => r_own_question (by omega) hcl hcok hT0 (by omega)
  have ha0 : ∀ q ∈ allQ d (cellR k d p0) t0, F_answer_bit [.fz (.int k), .fz (tI s0), .fz (tT q)] β' = .ok (.fz (.int (ansR k s0 q))) β' := fun q hq => by
    obtain ⟨h, _, rfl⟩ := List.mem_map.mp hq
    exact r_answer_bit hk0 (by omega) hkd hS0.1 (q_ok (cell_length _ _ _) hcl hT0)
  have hoddr : F__law_odd [.fz (.list (((allQ d (cellR k d p0) t0).map (ansR k s0)).map .int))] β' = .ok (.fz (.int (getI s0 p0))) β' := by
    have := r_odd (bs := (allQ d (cellR k d p0) t0).map (ansR k s0)) (β := β') (fun x hx => by
      obtain ⟨q, _, rfl⟩ := List.mem_map.mp hx
      exact ans_bit) (by rw [List.length_map, hlq]; omega)
    rwa [etold] at this
  have hmapQ : (allQ d (cellR k d p0) t0).map tT = (List.range (2 ^ d)).map fun (h : Nat) => tT (qR (cellR 2 d h) (cellR k d p0) t0) := by
    unfold allQ
    rw [List.map_map]
    rfl
  generalize hQs : allQ d (cellR k d p0) t0 = Q at hlq ha0 hoddr hmapQ
  generalize getI s0 p0 = b at w2 w3 hoddr
  generalize cellR k d p0 = c at hown hq0 hmapQ
  have hlist : eUn (fun x => rngL [x]) (eBin oIdx (eCall fLst (eCons (eC (.int 1)) (eCons (eC (.int 2)) (eCons (eC (.int 4)) (eCons (eC (.int 8)) (eCons (eC (.int 16)) (eNil))))))) (eVar 1)) [.dat (.int k), .dat (.int d), .dat (.list vS), .dat (.list vT), .dat (.list vP), .own acc, y6, .no, .dat (tI c), .dat (tT t0), .no, y11, y12, .no, .no] β' = .ok (.tm (upTo 0 (2 ^ d))) β' := by
    refine eUn_ok (β1 := β') (x := .fz (.int ((2 ^ d : Nat) : Int))) (eBin_ok (β1 := β') (x := .tm [.int 1, .int 2, .int 4, .int 8, .int 16]) (y := .fz (.int (d : Int))) rfl rfl (pow_idx H.d1)) ?_
    show (if -(2 ^ 62) ≤ ((2 ^ d : Nat) : Int) ∧ ((2 ^ d : Nat) : Int) ≤ 1000000 then some (Rv.tm (upTo 0 ((2 ^ d : Nat) : Int).toNat)) else none) = _
    rw [if_pos ⟨by omega, by omega⟩, Int.toNat_natCast]
  have hsome : eComp [13] (tgN 13) eYes (eFnA F__law_own_question (eCons (eVar 8) (eCons (eVar 9) (eCons (eVar 13) eNil)))) (iSeq false (eVar 7)) [.dat (.int k), .dat (.int d), .dat (.list vS), .dat (.list vT), .dat (.list vP), .own acc, y6, .dat (.list (upTo 0 (2 ^ d))), .dat (tI c), .dat (tT t0), .no, y11, y12, .no, .no] β' = .ok (.tm (Q.map tT)) β' := by
    refine eComp_eq (β1 := β') (ds := upTo 0 (2 ^ d)) rfl (by rw [upTo_eq, List.length_map, List.length_range]; unfold big; omega) ?_
    rw [hmapQ, upTo_eq]
    exact comp_map (fun (i : Nat) => PyData.int i) _ fun i hi => ⟨_, .fz _, rfl, eFnA_ok (β1 := β') rfl rfl (hq0 i), rfl⟩
  have hans : eComp [14] (tgN 14) eYes (eFnA F_answer_bit (eCons (eVar 0) (eCons (eBin oIdx (eVar 2) (eC (.int 0))) (eCons (eVar 14) eNil)))) (iSeq false (eVar 10)) [.dat (.int k), .dat (.int d), .dat (.list vS), .dat (.list vT), .dat (.list vP), .own acc, y6, .dat (.list (upTo 0 (2 ^ d))), .dat (tI c), .dat (tT t0), .dat (.list (Q.map tT)), .dat (.int b), y12, .no, .no] β' = .ok (.tm ((Q.map (ansR k s0)).map .int)) β' := by
    refine eComp_eq (β1 := β') (ds := Q.map tT) rfl (by rw [List.length_map, hlq]; unfold big; omega) ?_
    rw [List.map_map]
    exact comp_map tT _ fun q hq => ⟨_, .fz (.int (ansR k s0 q)), rfl, eFnA_ok (β1 := β') (rs := [.fz (.int k), .fz (tI s0), .fz (tT q)]) (eCons_ok (β1 := β') rfl (eCons_ok (β1 := β') (eBin_ok (β1 := β') (x := .fz (.list vS)) (y := .fz (.int 0)) rfl rfl iS) rfl)) rfl (ha0 q hq), rfl⟩
  refine ⟨acc ++ [pairD b], run_rt rfl (sSeq_nx (sAsg_ok (r := .tm []) (sl := .own []) (β1 := β') rfl rfl (of_decide_eq_true rfl)) (sSeq_nx (sLoop_ok (β1 := β') (ds := vP) rfl g1) (sSeq_nx (sUnp_ok (d := .tuple [tI c, tT t0]) (β1 := β') (ρ1 := [.dat (.int k), .dat (.int d), .dat (.list vS), .dat (.list vT), .dat (.list vP), .own acc, y6, .no, .dat (tI c), .dat (tT t0), .no, y11, y12, .no, .no]) (eCall_ok (β1 := β') (rs := [.fz (tI c), .fz (tT t0)]) (eCons_ok (β1 := β') (eFnA_ok (β1 := β') (rs := [.fz (.int k), .fz (.int d), .fz (.int p0)]) (eCons_ok (β1 := β') rfl (eCons_ok (β1 := β') rfl (eCons_ok (β1 := β') (eBin_ok (β1 := β') (x := .fz (.list vP)) (y := .fz (.int 0)) rfl rfl iP) rfl))) rfl hown) (eCons_ok (β1 := β') (eBin_ok (β1 := β') (x := .fz (.list vT)) (y := .fz (.int 0)) rfl rfl iT) rfl)) rfl) rfl)
    (sSeq_nx (sAsg_ok (r := .tm (upTo 0 (2 ^ d))) (β1 := β') hlist rfl (of_decide_eq_true rfl)) (sSeq_nx (ρ1 := [.dat (.int k), .dat (.int d), .dat (.list vS), .dat (.list vT), .dat (.list vP), .own acc, y6, .dat (.list (upTo 0 (2 ^ d))), .dat (tI c), .dat (tT t0), .dat (.list (Q.map tT)), .dat (.int b), y12, .no, .no]) (β1 := β') (sPar2_ok (β1 := β') (x := .tm (Q.map tT)) (y := .fz (.int b)) hsome (eBin_ok (β1 := β') (x := .fz (tI s0)) (y := .fz (.int p0)) (eBin_ok (β1 := β') (x := .fz (.list vS)) (y := .fz (.int 0)) rfl rfl iS) (eBin_ok (β1 := β') (x := .fz (.list vP)) (y := .fz (.int 0)) rfl rfl iP) w2) rfl)
    (sSeq_nx (sApp_ok (r := .tm [.int b, .int b]) (β1 := β') rfl (eCall_ok (β1 := β') (rs := [.fz (.int b), .fz (.int b)]) (eCons_ok (β1 := β') rfl (eCons_ok (β1 := β') (eFnA_ok (β1 := β') (eCons_ok (β1 := β') hans rfl) rfl hoddr) rfl)) rfl) rfl ?_) (sRet_ok (r := .bo _) rfl rfl))))))), alike_app hA fun z hz => ?_, ?_⟩
  · unfold big
    omega
  · rcases List.mem_singleton.mp hz with rfl
    exact alike2 (bit_ok w3)
  · rw [List.length_append, List.length_singleton]
    omega
end
end Lw

namespace Lw
open PySem PySem.Spec PyProof.Rows L2 VL

structure Dom (k d : Nat) : Prop where
  k0 : 0 < k
  k1 : k ≤ 16
  d0 : 0 < d
  d1 : d ≤ 4
  kd : k ^ d ≤ 4096
theorem dom_of {k d m : Nat} (h0 : 0 < k) (h : k ≤ m) (hm : m ≤ 16) (d0 : 0 < d) (d1 : d ≤ 4) (hp : m ^ d ≤ 4096) : Dom k d := ⟨h0, Nat.le_trans h hm, d0, d1, Nat.le_trans (Nat.pow_le_pow_left h d) hp⟩
theorem r_own_size {β : Bag} (hB : Bok β) : ∃ (k d : Nat) (β' : Bag), F__law_own_size [.bg, .fz (.int 6)] β = .ok (.fz (.tuple [.int k, .int d])) β' ∧ Dom k d ∧ Bok β' := by
  obtain ⟨w, β1, g1, g2, g3, g4⟩ := r_draw (n := 6) (by decide) (by decide) hB
  have t1 : eTest (eBin cEq (eFnA F__law_draw (eCons (eVar 0) (eCons (eVar 1) eNil))) (eC (.int 0))) [.bag, .dat (.int 6), .no, .no] β = .ok (decide (w = 0)) β1 := eq_run 0 (eFnA_ok (β1 := β) rfl rfl g1)
  by_cases hw : w = 0
  · obtain ⟨e, β2, q1, q2, q3⟩ := r_pick (ds := [.tuple [.int 16, .int 3], .tuple [.int 8, .int 4], .tuple [.int 16, .int 3], .tuple [.int 8, .int 4], .tuple [.int 15, .int 3], .tuple [.int 7, .int 4], .tuple [.int 11, .int 3], .tuple [.int 5, .int 4]]) (by decide) (by decide) g4
    have hd : ∃ k d : Nat, e = .tuple [.int (k : Int), .int (d : Int)] ∧ Dom k d := by
      simp only [List.mem_cons, List.not_mem_nil, or_false] at q2
      rcases q2 with rfl | rfl | rfl | rfl | rfl | rfl | rfl | rfl
      · exact ⟨16, 3, rfl, by decide, by decide, by decide, by decide, by decide⟩
      · exact ⟨8, 4, rfl, by decide, by decide, by decide, by decide, by decide⟩
      · exact ⟨16, 3, rfl, by decide, by decide, by decide, by decide, by decide⟩
      · exact ⟨8, 4, rfl, by decide, by decide, by decide, by decide, by decide⟩
      · exact ⟨15, 3, rfl, by decide, by decide, by decide, by decide, by decide⟩
      · exact ⟨7, 4, rfl, by decide, by decide, by decide, by decide, by decide⟩
      · exact ⟨11, 3, rfl, by decide, by decide, by decide, by decide, by decide⟩
      · exact ⟨5, 4, rfl, by decide, by decide, by decide, by decide, by decide⟩
    obtain ⟨k, d, rfl, hD⟩ := hd
    exact ⟨k, d, β2, run_rt rfl (sSeq_rt (sIf_t (β1 := β1) (t1.trans (by rw [decide_eq_true hw])) (sRet_ok (r := .fz (.tuple [.int k, .int d])) (eFnA_ok (β1 := β1) (rs := [.bg, .tm _]) (eCons_ok (β1 := β1) rfl (eCons_ok (β1 := β1) rfl rfl)) rfl q1) rfl))), hD, q3⟩
  · obtain ⟨r, β2, q1, q2, q3, q4⟩ := r_draw (n := 4) (by decide) (by decide) g4
    obtain ⟨d, hd⟩ : ∃ d : Nat, 1 + r = (d : Int) := ⟨(1 + r).toNat, by omega⟩
    obtain ⟨m, hm0, hm1, hmp, hmi⟩ : ∃ m : Nat, 0 < m ∧ m ≤ 16 ∧ m ^ d ≤ 4096 ∧ oIdx (.tm [.int 16, .int 16, .int 6, .int 4]) (.fz (.int ((d : Int) - 1))) = some (.fz (.int (m : Int))) := by
      rcases (show d = 1 ∨ d = 2 ∨ d = 3 ∨ d = 4 by omega) with rfl | rfl | rfl | rfl
      · exact ⟨16, by decide, by decide, by decide, rfl⟩
      · exact ⟨16, by decide, by decide, by decide, rfl⟩
      · exact ⟨6, by decide, by decide, by decide, rfl⟩
      · exact ⟨4, by decide, by decide, by decide, rfl⟩
    obtain ⟨w5, β3, u1, u2, u3, u4⟩ := r_draw (n := 5) (by decide) (by decide) q4
    have s1 : sAsg 2 true (eBin oAdd (eC (.int 1)) (eFnA F__law_draw (eCons (eVar 0) (eCons (eC (.int 4)) eNil)))) [.bag, .dat (.int 6), .no, .no] β1 = .nx [.bag, .dat (.int 6), .dat (.int (d : Int)), .no] β2 := by
      refine sAsg_ok (r := .fz (.int (d : Int))) (eBin_ok (β1 := β1) (x := .fz (.int 1)) (y := .fz (.int r)) rfl (eFnA_ok (β1 := β1) rfl rfl q1) ?_) rfl (of_decide_eq_true rfl)
      rw [← hd]
      rfl
    have s2 : sAsg 3 true (eBin oIdx (eCall fLst (eCons (eC (.int 16)) (eCons (eC (.int 16)) (eCons (eC (.int 6)) (eCons (eC (.int 4)) (eNil)))))) (eBin oSub (eVar 2) (eC (.int 1)))) [.bag, .dat (.int 6), .dat (.int (d : Int)), .no] β2 = .nx [.bag, .dat (.int 6), .dat (.int (d : Int)), .dat (.int (m : Int))] β2 :=
      sAsg_ok (r := .fz (.int (m : Int))) (eBin_ok (β1 := β2) (x := .tm [.int 16, .int 16, .int 6, .int 4]) (y := .fz (.int ((d : Int) - 1))) rfl rfl hmi) rfl (of_decide_eq_true rfl)
    have t2 : eTest (eBin cEq (eFnA F__law_draw (eCons (eVar 0) (eCons (eC (.int 5)) eNil))) (eC (.int 0))) [.bag, .dat (.int 6), .dat (.int (d : Int)), .dat (.int (m : Int))] β2 = .ok (decide (w5 = 0)) β3 := eq_run 0 (eFnA_ok (β1 := β2) rfl rfl u1)
    by_cases h5 : w5 = 0
    · exact ⟨m, d, β3, run_rt rfl (sSeq_nx (β1 := β1) (sIf_f (β1 := β1) (t1.trans (by rw [decide_eq_false hw])) rfl) (sSeq_nx s1 (sSeq_nx s2 (sRet_ok (r := .fz (.tuple [.int m, .int d])) (eCall_ok (β1 := β3) (rs := [.fz (.int m), .fz (.int d)]) (eCons_ok (β1 := β3) (eIf_t (β1 := β3) (t2.trans (by rw [decide_eq_true h5])) rfl) rfl) rfl) rfl)))), dom_of hm0 (Nat.le_refl _) hm1 (by omega) (by omega) hmp, u4⟩
    · obtain ⟨v, β4, v1, v2, v3, v4⟩ := r_draw (n := (m : Int)) (by omega) (by omega) u4
      obtain ⟨k, hk⟩ : ∃ k : Nat, 1 + v = (k : Int) := ⟨(1 + v).toNat, by omega⟩
      refine ⟨k, d, β4, run_rt rfl (sSeq_nx (β1 := β1) (sIf_f (β1 := β1) (t1.trans (by rw [decide_eq_false hw])) rfl) (sSeq_nx s1 (sSeq_nx s2 (sRet_ok (r := .fz (.tuple [.int k, .int d])) (eCall_ok (β1 := β4) (rs := [.fz (.int k), .fz (.int d)]) (eCons_ok (β1 := β4) (eIf_f (β1 := β3) (t2.trans (by rw [decide_eq_false h5])) (eBin_ok (β1 := β3) (x := .fz (.int 1)) (y := .fz (.int v)) rfl (eFnA_ok (β1 := β3) rfl rfl v1) ?_)) rfl) rfl) rfl)))), dom_of (by omega) (by omega) hm1 (by omega) (by omega) hmp, v4⟩
      rw [← hk]
      rfl
theorem rep_tape {k d : Nat} {r : List Int} (h : RowOk k r) : TapeOk k d (List.replicate d r) := ⟨by simp, fun q hq => by rw [(List.mem_replicate.mp hq).2]; exact h⟩
theorem mul_tape {r : List Int} {d : Nat} (hd : d ≤ 1000) : oMul (.fz (.tuple [tI r])) (.fz (.int (d : Int))) = some (.fz (tT (List.replicate d r))) := by
  have e : ∀ n : Nat, (List.replicate n [tI r]).flatten = (List.replicate n r).map tI := fun n => by
    induction n with
    | zero => rfl
    | succ n ih => rw [List.replicate_succ, List.flatten_cons, ih, List.replicate_succ]; rfl
  rw [oMulU_ok (a := [tI r]) (k := (d : Int)) (Int.toNat_natCast _) ⟨by omega, by omega, by rw [Int.toNat_natCast, List.length_singleton]; unfold big; omega⟩, e]
def setT (t : List (List Int)) (a : Nat) (r : List Int) : List (List Int) := t.take a ++ [r] ++ t.drop (a + 1)
theorem setT_ok {k d a : Nat} {t : List (List Int)} {r : List Int} (ht : TapeOk k d t) (hr : RowOk k r) (ha : a < d) : TapeOk k d (setT t a r) := by
  refine ⟨?_, fun q hq => ?_⟩
  · unfold setT
    rw [List.length_append, List.length_append, List.length_take, List.length_drop, List.length_singleton, ht.1]
    omega
  · unfold setT at hq
    rcases List.mem_append.mp hq with hq | hq
    · rcases List.mem_append.mp hq with hq | hq
      · exact ht.2 q (List.mem_of_mem_take hq)
      · rw [List.mem_singleton.mp hq]
        exact hr
    · exact ht.2 q (List.mem_of_mem_drop hq)
/-- t[:a] + (r,) + t[a + 1:] -/
theorem row_run {i j a d k : Nat} {t : List (List Int)} {r : List Int} {f : E} {ρ : VL.Env} {β : Bag} (ht : TapeOk k d t) (hd : d ≤ 1000) (ha : a < d) (hs : ρ[i]? = some (.dat (tT t))) (hj : ρ[j]? = some (.dat (.int a))) (hf : f ρ β = .ok (.fz (.tuple [tI r])) β) :
    eBin oAdd (eBin oAdd (eSlice (eVar i) eNone (eSome (eVar j))) f) (eSlice (eVar i) (eSome (eBin oAdd (eVar j) (eC (.int 1)))) eNone) ρ β = .ok (.fz (tT (setT t a r))) β := by
  have vi := eVar_dat (β := β) hs
  have vj := eVar_dat (β := β) hj
  have c1 : oSlice (.fz (tT t)) none (some (a : Int)) = some (.fz (tT (t.take a))) := by
    show some (Rv.fz (.tuple (cut (t.map tI) none (some (a : Int))))) = _
    rw [cut_pre, ← List.map_take]
  have c2 : oSlice (.fz (tT t)) (some ((a : Int) + 1)) none = some (.fz (tT (t.drop (a + 1)))) := by
    show some (Rv.fz (.tuple (cut (t.map tI) (some ((a + 1 : Nat) : Int)) none))) = _
    rw [cut_suf, ← List.map_drop]
  have a1 : oAdd (.fz (tT (t.take a))) (.fz (.tuple [tI r])) = some (.fz (tT (t.take a ++ [r]))) := by
    show (if _ then some (Rv.fz (.tuple ((t.take a).map tI ++ [r].map tI))) else none) = _
    rw [if_pos (by rw [List.length_map, List.length_take]; unfold big; simp only [List.length_singleton]; omega), ← List.map_append]
  have a2 : oAdd (.fz (tT (t.take a ++ [r]))) (.fz (tT (t.drop (a + 1)))) = some (.fz (tT (setT t a r))) := by
    show (if _ then some (Rv.fz (.tuple ((t.take a ++ [r]).map tI ++ (t.drop (a + 1)).map tI))) else none) = _
    rw [if_pos (by rw [List.length_map, List.length_map, List.length_drop, List.length_append, List.length_take]; unfold big; simp only [List.length_singleton]; have := ht.1; omega), ← List.map_append]
    rfl
  exact eBin_ok (eBin_ok (eSlice_ok vi rfl (eSome_ok vj) c1) hf a1) (eSlice_ok vi (eSome_ok (eBin_ok vj rfl rfl)) rfl c2) a2
/-- what a cube hands back -/
def CubeOk (k d : Nat) (r : Rv) : Prop := ∃ (fs : List PyData) (s : List Int) (p : Int) (t : List (List Int)), r = .tm [.list fs, tI s, tI (cellR k d p), tT t] ∧ Alike fs ∧ fs.length ≤ 3000 ∧ RowOk (k ^ d) s ∧ (0 ≤ p ∧ p < ((k ^ d : Nat) : Int)) ∧ TapeOk k d t
theorem ext_found {f : E} {ρ : VL.Env} {β : Bag} {fs ds : List PyData} (h : ρ[5]? = some (.own fs)) (hf : f ρ β = .ok (.tm ds) β) (hl : fs.length + ds.length ≤ big) : sExt 5 f ρ β = .nx (ρ.set 5 (.own (fs ++ ds))) β := sExt_ok h hf rfl hl
end Lw

namespace Lw
open PySem PySem.Spec PyProof.Rows L2 VL

def tailC : T := sSeq (sIf (eTest (eBin (cGt) (eVar 3) (eC (.int 256)))) (sSeq (sExt 5 (eFnA F__law_ask_answers (eCons (eVar 1) (eCons (eVar 8) (eCons (eCall fLst (eCons (eVar 12) (eCons (eVar 4) (eCons (eVar 16) (eCons (eVar 15) (eNil)))))) (eNil)))))) (sSeq (sExt 5 (eFnA F__law_ask_answers (eCons (eVar 1) (eCons (eVar 14) (eCons (eCall fLst (eCons (eVar 4) (eCons (eVar 16) (eNil)))) (eNil)))))) (sSeq (sExt 5 (eFnA F__law_ask_items (eCons (eVar 1) (eCons (eVar 2) (eCons (eCall fLst (eCons (eVar 8) (eCons (eVar 14) (eNil)))) (eCons (eCall fLst (eCons (eVar 11) (eNil))) (eCons (eCall fLst (eCons (eVar 9) (eNil))) (eNil)))))))) (sSeq (sAsg 18 true (eBin oIdx (eVar 8) (eBin oSub (eVar 3) (eC (.int 1))))) (sSeq (sApp 5 (eCall fLst (eCons (eVar 18) (eCons (eFnA F_told_item (eCons (eVar 1) (eCons (eVar 8) (eCons (eFnA F__law_own_cell (eCons (eVar 1) (eCons (eVar 2) (eCons (eBin oSub (eVar 3) (eC (.int 1))) (eNil))))) (eCons (eVar 12) (eNil)))))) (eNil))))) (sSeq (sFrz 5) (sRet (eCall fLst (eCons (eVar 5) (eCons (eVar 8) (eCons (eVar 13) (eCons (eVar 11) (eNil))))))))))))) (sNil)) (sSeq (sAsg 6 false (eCall fLst (eCons (eVar 12) (eCons (eVar 4) (eCons (eVar 16) (eCons (eVar 15) (eCons (eBin oAdd (eBin oAdd (eSlice (eVar 15) (eNone) (eSome (eVar 17))) (eCall fTup (eCons (eBin oMul (eCall fTup (eCons (eC (.int 0)) (eNil))) (eVar 1)) (eNil)))) (eSlice (eVar 15) (eSome (eBin oAdd (eVar 17) (eC (.int 1)))) (eNone))) (eNil)))))))) (sSeq (sApp 6 (eBin oAdd (eBin oAdd (eSlice (eVar 15) (eNone) (eSome (eVar 17))) (eCall fTup (eCons (eBin oIdx (eVar 12) (eVar 17)) (eNil)))) (eSlice (eVar 15) (eSome (eBin oAdd (eVar 17) (eC (.int 1)))) (eNone)))) (sSeq (sIf (eTest (eBin (cLe) (eVar 3) (eC (.int 81)))) (sExt 6 (eComp [20] (tgN 20) (eYes) (eFnA F__law_own_question (eCons (eVar 13) (eCons (eVar 11) (eCons (eVar 20) (eNil))))) (iRng1 (eCons (eBin oIdx (eCall fLst (eCons (eC (.int 1)) (eCons (eC (.int 2)) (eCons (eC (.int 4)) (eCons (eC (.int 8)) (eCons (eC (.int 16)) (eNil))))))) (eVar 2)) (eNil))))) (sNil)) (sSeq (sFrz 6) (sSeq (sExt 5 (eFnA F__law_ask_answers (eCons (eVar 1) (eCons (eVar 8) (eCons (eVar 6) (eNil)))))) (sSeq (sExt 5 (eFnA F__law_ask_answers (eCons (eVar 1) (eCons (eVar 14) (eCons (eCall fLst (eCons (eVar 12) (eCons (eVar 4) (eCons (eVar 16) (eCons (eVar 15) (eNil)))))) (eNil)))))) (sSeq (sAsg 7 true (eCall fLst (eCons (eVar 8) (eCons (eVar 14) (eCons (eFnA F__law_turned (eCons (eVar 8) (eCons (eVar 10) (eNil)))) (eNil)))))) (sSeq (sExt 5 (eFnA F__law_ask_items (eCons (eVar 1) (eCons (eVar 2) (eCons (eVar 7) (eCons (eCall fLst (eCons (eVar 11) (eCons (eVar 12) (eNil)))) (eCons (eCall fLst (eCons (eVar 9) (eCons (eC (.int 0)) (eCons (eBin oSub (eVar 3) (eC (.int 1))) (eNil))))) (eNil)))))))) (sSeq (sFrz 5) (sRet (eCall fLst (eCons (eVar 5) (eCons (eVar 8) (eCons (eVar 13) (eCons (eVar 11) (eNil))))))))))))))))
theorem r_one_cube {k d : Nat} {β : Bag} (D : Dom k d) (hB : Bok β) : ∃ (r : Rv) (β' : Bag), F__law_one_cube [.bg, .fz (.int k), .fz (.int d)] β = .ok r β' ∧ CubeOk k d r ∧ Bok β' := by
  have hk0 := D.k0
  have hk1 := D.k1
  have hd0 := D.d0
  have hd1 := D.d1
  have hkd := D.kd
  have hM0 : 0 < k ^ d := Nat.pow_pos hk0
  have wm : ∀ β : Bag, F__law_cells_many [.fz (.int k), .fz (.int d)] β = .ok (.fz (.int ((k ^ d : Nat) : Int))) β := fun β => r_cells_many (by omega) (by omega)
  obtain ⟨s, β1, a1, hs, b1⟩ := r_own_store (n := k ^ d) hM0 (by omega) hB
  obtain ⟨p, β2, a2, hp0, hp1, b2⟩ := r_draw (n := ((k ^ d : Nat) : Int)) (by omega) (by omega) b1
  obtain ⟨ap, β3, a3, hap0, hap1, b3⟩ := r_draw (n := ((k ^ d : Nat) : Int)) (by omega) (by omega) b2
  obtain ⟨t, β4, a4, ht, b4⟩ := r_rows (k := k) (d := d) hk0 (by omega) (by omega) b3
  obtain ⟨dr, β5, a5, hdr, b5⟩ := r_rows (k := k) (d := d) hk0 (by omega) (by omega) b4
  have hcl := cell_length (k : Int) d p
  have hcok := cell_ok (d := d) hk0 p
  have wcell : ∀ (q : Int) (β : Bag), F__law_own_cell [.fz (.int k), .fz (.int d), .fz (.int q)] β = .ok (.fz (tI (cellR k d q))) β := fun q β => r_own_cell hk0 (by omega) (by omega)
  have wtu : ∀ (q : Int) (β : Bag), 0 ≤ q → q < ((k ^ d : Nat) : Int) → F__law_turned [.fz (tI s), .fz (.int q)] β = .ok (.fz (tI (flipR s q))) β := fun q β h0 h1 => r_turned h0 (by rw [hs.1]; exact h1) (by rw [hs.1]; omega)
  have htu : RowOk (k ^ d) (flipR s p) := flip_bits hs
  obtain ⟨at', β6, a6, hat0, hat1, b6⟩ := r_draw (n := (d : Int)) (by omega) (by omega) b5
  obtain ⟨at', rfl⟩ : ∃ j : Nat, at' = j := ⟨at'.toNat, by omega⟩
  obtain ⟨ps, β7, a7, hps, hpl, b7⟩ := r_some_places (k := k) (d := d) hk0 (by omega) hd0 (by omega) (by omega) b6
  obtain ⟨f1s, a8, hA1, hL1⟩ := r_ask_places (k := k) (d := d) (ps := ps) (β := β7) hk0 (by omega) (by omega) (by omega) hps hpl
  obtain ⟨f2s, a9, hA2, hL2⟩ := r_ask_questions (k := k) (d := d) (c := cellR k d p) (t := t) (β := β7) hk1 hd1 hcl hcok ht
  -- the tapes that are asked
  have hon : TapeOk k d (List.replicate d (List.replicate k 1)) := rep_tape (rep_bits (.inr rfl) k)
  have hla : TapeOk k d (List.replicate d (unitL k (k - 1))) := rep_tape (unitL_ok (by omega))
  have hal : TapeOk k d ((cellR k d p).map fun c => unitL k c.toNat) := ⟨by rw [List.length_map, hcl], fun r hr => by
    obtain ⟨c, hc, rfl⟩ := List.mem_map.mp hr
    have := hcok c hc
    exact unitL_ok (by omega)⟩
  have walone : compD (tgN 19) eYes (eFnA F__law_unit (eCons (eVar 1) (eCons (eVar 19) eNil))) (forget [19] [.bag, .dat (.int k), .dat (.int d), .dat (.int ((k ^ d : Nat) : Int)), .no, .no, .no, .no, .dat (tI s), .dat (.int p), .dat (.int ap), .dat (tT t), .dat (tT dr), .dat (tI (cellR k d p)), .dat (tI (flipR s p)), .dat (tT (List.replicate d (List.replicate k 1))), .no, .no, .no, .no, .no]) ((cellR k d p).map .int) β5 = .ok (((cellR k d p).map fun c => unitL k c.toNat).map tI) β5 := by
    rw [List.map_map]
    refine comp_map PyData.int _ fun c hc => ⟨_, .fz (tI (unitL k c.toNat)), rfl, eFnA_ok (β1 := β5) rfl rfl ?_, rfl⟩
    have := hcok c hc
    have e : ((c.toNat : Nat) : Int) = c := by omega
    have w := r_unit (k := k) (a := c.toNat) (β := β5) (by omega) (by omega)
    rwa [e] at w
  have wlast : F__law_unit [.fz (.int k), .fz (.int ((k : Int) - 1))] β5 = .ok (.fz (tI (unitL k (k - 1)))) β5 := by
    have w := r_unit (k := k) (a := k - 1) (β := β5) (by omega) (by omega)
    rwa [show ((k - 1 : Nat) : Int) = (k : Int) - 1 by omega] at w
  have mones := mul_rep (x := 1) (n := (k : Int)) (by omega) (by omega)
  have mzero := mul_rep (x := 0) (n := (k : Int)) (by omega) (by omega)
  rw [Int.toNat_natCast] at mones mzero
  have mon := mul_tape (r := List.replicate k 1) (d := d) (by omega)
  have mla := mul_tape (r := unitL k (k - 1)) (d := d) (by omega)
  have wq : ∀ (h : Nat) (β : Bag), F__law_own_question [.fz (tI (cellR k d p)), .fz (tT t), .fz (.int (h : Int))] β = .ok (.fz (tT (qR (cellR 2 d h) (cellR k d p) t))) β := fun h β => r_own_question (by omega) hcl hcok ht (by omega)
  have hqok : ∀ h : Nat, TapeOk k d (qR (cellR 2 d h) (cellR k d p) t) := fun h => q_ok (cell_length _ _ _) hcl ht
  have hMi : ((k ^ d : Nat) : Int) ≤ 4096 := by omega
  have hM1 : (0 : Int) < ((k ^ d : Nat) : Int) := by omega
  have wans : ∀ (z : List Int) (some : List (List (List Int))) (β : Bag), RowOk (k ^ d) z → (∀ q ∈ some, TapeOk k d q) → some.length ≤ 100 → ∃ ds, F__law_ask_answers [.fz (.int k), .fz (tI z), .fz (.list (some.map tT))] β = .ok (.tm ds) β ∧ Alike ds ∧ ds.length ≤ 100 := fun z some β hz hso hl => r_ask_answers (d := d) hk0 (by omega) (by omega) hz.1 hso hl
  have wit : ∀ (stores : List (List Int)) (tapes : List (List (List Int))) (places : List Int) (β : Bag), ItH k d stores tapes places → (∃ s ss, stores = s :: ss) → (∃ t ts, tapes = t :: ts) → (∃ p ps, places = p :: ps) → (stores.length ≤ 5 ∧ tapes.length ≤ 5 ∧ places.length ≤ 5) →
      ∃ ds, F__law_ask_items [.fz (.int k), .fz (.int d), .fz (.list (stores.map tI)), .fz (.list (tapes.map tT)), .fz (.list (places.map .int))] β = .ok (.tm ds) β ∧ Alike ds ∧ ds.length ≤ 200 := fun stores tapes places β H h1 h2 h3 h4 => r_ask_items H h1 h2 h3 h4
  have mkH : ∀ (stores : List (List Int)) (tapes : List (List (List Int))) (places : List Int), (∀ s ∈ stores, RowOk (k ^ d) s) → (∀ t ∈ tapes, TapeOk k d t) → (∀ p ∈ places, 0 ≤ p ∧ p < ((k ^ d : Nat) : Int)) → ItH k d stores tapes places := fun stores tapes places h1 h2 h3 => ⟨hk0, by omega, hd1, by omega, h1, h2, h3⟩
  have wlastI := item_at (k := k) (d := d) (s := s) (t := dr) (p := ((k ^ d : Nat) : Int) - 1) (β := β7) hk0 (by omega) hd1 (by omega) hs hdr ⟨by omega, by omega⟩
  -- the first statements
  have cube : ∀ fs : List PyData, Alike fs → fs.length ≤ 3000 → CubeOk k d (.tm [.list fs, tI s, tI (cellR k d p), tT t]) := fun fs hf hl => ⟨fs, s, p, t, rfl, hf, hl, hs, ⟨hp0, hp1⟩, ht⟩
  have hflA : Alike (f1s ++ f2s) := alike_app hA1 hA2
  have hflL : (f1s ++ f2s).length ≤ 700 := by rw [List.length_append]; omega
  have hpw2 := pow_small hd1
  have wsmallQ : ∀ β : Bag, ∀ ρ : VL.Env, (∀ h : Nat, ∃ ρ1, tgN 20 (.int (h : Int)) (forget [20] ρ) = some ρ1 ∧ eCons (eVar 13) (eCons (eVar 11) (eCons (eVar 20) eNil)) ρ1 β = .ok [.fz (tI (cellR k d p)), .fz (tT t), .fz (.int (h : Int))] β) → ρ[2]? = some (.dat (.int (d : Int))) →
      eComp [20] (tgN 20) eYes (eFnA F__law_own_question (eCons (eVar 13) (eCons (eVar 11) (eCons (eVar 20) eNil)))) (iRng1 (eCons (eBin oIdx (eCall fLst (eCons (eC (.int 1)) (eCons (eC (.int 2)) (eCons (eC (.int 4)) (eCons (eC (.int 8)) (eCons (eC (.int 16)) (eNil))))))) (eVar 2)) eNil)) ρ β = .ok (.tm ((allQ d (cellR k d p) t).map tT)) β := fun β ρ hρ h2 => by
    refine eComp_eq (β1 := β) (ds := upTo 0 (2 ^ d)) (iRng1_ok (j := ((2 ^ d : Nat) : Int)) (β1 := β) (eCons_ok (β1 := β) (rs := []) (eBin_ok (β1 := β) (x := .tm [.int 1, .int 2, .int 4, .int 8, .int 16]) (y := .fz (.int (d : Int))) rfl (eVar_dat h2) (pow_idx hd1)) rfl) (Int.le_trans (by decide) (Int.natCast_nonneg _)) (Int.lt_of_le_of_lt (Int.ofNat_le.mpr hpw2) (by decide)) (Int.toNat_natCast _)) (by rw [upTo_eq, List.length_map, List.length_range]; unfold big; omega) ?_
    rw [upTo_eq]
    unfold allQ
    rw [List.map_map]
    refine comp_map (fun (i : Nat) => PyData.int i) _ fun i hi => ?_
    obtain ⟨ρ1, h1, h2⟩ := hρ i
    exact ⟨ρ1, .fz _, h1, eFnA_ok (β1 := β) h2 rfl (wq i β), rfl⟩
  have hlq : (allQ d (cellR k d p) t).length = 2 ^ d := by unfold allQ; rw [List.length_map, List.length_range]
  have hqall : ∀ q ∈ allQ d (cellR k d p) t, TapeOk k d q := fun q hq => by
    obtain ⟨h, _, rfl⟩ := List.mem_map.mp hq
    exact hqok h
  have hap : RowOk (k ^ d) (flipR s ap) := flip_bits hs
  have wtup := wtu p β5 hp0 hp1
  have wtuap := wtu ap β7 hap0 hap1
  have hdrat : ∃ r, dr[at']? = some r ∧ RowOk k r := by
    have hx : at' < dr.length := by rw [hdr.1]; omega
    exact ⟨_, List.getElem?_eq_getElem hx, hdr.2 _ (List.getElem_mem _)⟩
  obtain ⟨rat, hrat, hratok⟩ := hdrat
  have wcl1 := wcell (((k ^ d : Nat) : Int) - 1) β7
  have wcp := wcell p β5
  have hlastg : getI s (((k ^ d : Nat) : Int) - 1) = getI s (((k ^ d : Nat) : Int) - 1) := rfl
  generalize hQ : allQ d (cellR k d p) t = Q at hlq hqall wsmallQ
  generalize hAL : ((cellR k d p).map fun c => unitL k c.toNat) = AL at hal walone
  generalize hON : List.replicate d (List.replicate k (1 : Int)) = ON at hon mon walone
  generalize hLA : List.replicate d (unitL k (k - 1)) = LA at hla mla
  generalize hTU : flipR s p = TU at htu wtup walone
  generalize hTA : flipR s ap = TA at hap wtuap
  generalize hMM : ((k ^ d : Nat) : Int) = M at wm a1 a2 a3 hap1 hp1 hps walone hMi hM1 mkH wlastI wcl1 hlastg
  have pre : ∀ r : Rv, tailC [.bag, .dat (.int k), .dat (.int d), .dat (.int M), .dat (tT AL), .own (f1s ++ f2s), .no, .no, .dat (tI s), .dat (.int p), .dat (.int ap), .dat (tT t), .dat (tT dr), .dat (tI (cellR k d p)), .dat (tI TU), .dat (tT ON), .dat (tT LA), .dat (.int (at' : Int)), .no, .no, .no] β7 = .rt r β7 → F__law_one_cube [.bg, .fz (.int k), .fz (.int d)] β = .ok r β7 := fun r h => by
    refine run_rt rfl (sSeq_nx (sAsg_ok (r := .fz (.int M)) (β1 := β) (eFnA_ok (β1 := β) rfl rfl (wm β)) rfl (of_decide_eq_true rfl)) ?_)
    refine sSeq_nx (sPar3_ok (β1 := β1) (β2 := β2) (β3 := β3) (x := .fz (tI s)) (y := .fz (.int p)) (z := .fz (.int ap)) (eFnA_ok (β1 := β) rfl rfl a1) (eFnA_ok (β1 := β1) rfl rfl a2) (eFnA_ok (β1 := β2) rfl rfl a3) rfl) ?_
    refine sSeq_nx (sUnp_ok (d := .tuple [tT t, tT dr, tI (cellR k d p)]) (β1 := β5) (ρ1 := [.bag, .dat (.int k), .dat (.int d), .dat (.int M), .no, .no, .no, .no, .dat (tI s), .dat (.int p), .dat (.int ap), .dat (tT t), .dat (tT dr), .dat (tI (cellR k d p)), .no, .no, .no, .no, .no, .no, .no]) (eCall_ok (β1 := β5) (rs := [.fz (tT t), .fz (tT dr), .fz (tI (cellR k d p))]) (eCons_ok (β1 := β4) (eFnA_ok (β1 := β3) rfl rfl a4) (eCons_ok (β1 := β5) (eFnA_ok (β1 := β4) rfl rfl a5) (eCons_ok (β1 := β5) (eFnA_ok (β1 := β5) rfl rfl wcp) rfl))) rfl) rfl) ?_
    refine sSeq_nx (sPar2_ok (β1 := β5) (β2 := β5) (x := .fz (tI TU)) (y := .fz (tT ON)) (eFnA_ok (β1 := β5) rfl rfl wtup) (eBin_ok (β1 := β5) (x := .fz (.tuple [tI (List.replicate k 1)])) (y := .fz (.int (d : Int))) (eCall_ok (β1 := β5) (rs := [.fz (tI (List.replicate k 1))]) (eCons_ok (β1 := β5) (eBin_ok (β1 := β5) (x := .fz (tI [1])) (y := .fz (.int (k : Int))) rfl rfl mones) rfl) rfl) rfl mon) rfl) ?_
    refine sSeq_nx (sAsg_ok (r := .fz (tT AL)) (β1 := β5) (eCall_ok (β1 := β5) (rs := [.tm (AL.map tI)]) (eCons_ok (β1 := β5) (eComp_eq (β1 := β5) (ds := (cellR k d p).map .int) rfl (by rw [List.length_map, hcl]; unfold big; omega) walone) rfl) rfl) rfl (of_decide_eq_true rfl)) ?_
    refine sSeq_nx (sPar2_ok (β1 := β5) (β2 := β6) (x := .fz (tT LA)) (y := .fz (.int (at' : Int))) (eBin_ok (β1 := β5) (x := .fz (.tuple [tI (unitL k (k - 1))])) (y := .fz (.int (d : Int))) (eCall_ok (β1 := β5) (rs := [.fz (tI (unitL k (k - 1)))]) (eCons_ok (β1 := β5) (eFnA_ok (β1 := β5) rfl rfl wlast) rfl) rfl) rfl mla) (eFnA_ok (β1 := β5) rfl rfl a6) rfl) ?_
    refine sSeq_nx (sAsg_ok (r := .tm (f1s ++ f2s)) (β1 := β7) (eBin_ok (β1 := β7) (x := .tm f1s) (y := .tm f2s) (eFnA_ok (β1 := β7) (rs := [.fz (.int k), .fz (.int d), .tm (ps.map .int)]) (eCons_ok (β1 := β6) rfl (eCons_ok (β1 := β6) rfl (eCons_ok (β1 := β7) (eFnA_ok (β1 := β6) rfl rfl a7) rfl))) rfl a8) (eFnA_ok (β1 := β7) rfl rfl a9) ?_) rfl (of_decide_eq_true rfl)) h
    show (if f1s.length + f2s.length ≤ big then some (Rv.tm (f1s ++ f2s)) else none) = _
    exact if_pos (by unfold big; omega)
  have tcmp : eTest (eBin cGt (eVar 3) (eC (.int 256))) [.bag, .dat (.int k), .dat (.int d), .dat (.int M), .dat (tT AL), .own (f1s ++ f2s), .no, .no, .dat (tI s), .dat (.int p), .dat (.int ap), .dat (tT t), .dat (tT dr), .dat (tI (cellR k d p)), .dat (tI TU), .dat (tT ON), .dat (tT LA), .dat (.int (at' : Int)), .no, .no, .no] β7 = .ok (decide ((256 : Int) < M)) β7 := eTest_ok rfl
  generalize f1s ++ f2s = F0 at hflA hflL pre tcmp
  generalize hC : cellR k d p = C at *
  by_cases hbig : (256 : Int) < M
  · obtain ⟨d1, u1, ul1, ul1'⟩ := wans s [dr, AL, LA, ON] β7 hs (by simp only [List.mem_cons, List.not_mem_nil, or_false]; rintro q (rfl | rfl | rfl | rfl) <;> assumption) (by simp only [List.length_cons, List.length_nil]; omega)
    obtain ⟨d2, u2, ul2, ul2'⟩ := wans TU [AL, LA] β7 htu (by simp only [List.mem_cons, List.not_mem_nil, or_false]; rintro q (rfl | rfl) <;> assumption) (by simp only [List.length_cons, List.length_nil]; omega)
    obtain ⟨d3, u3, ul3, ul3'⟩ := wit [s, TU] [t] [p] β7 (mkH _ _ _ (by simp only [List.mem_cons, List.not_mem_nil, or_false]; rintro q (rfl | rfl) <;> assumption) (by simp only [List.mem_cons, List.not_mem_nil, or_false]; rintro q rfl; assumption) (by simp only [List.mem_cons, List.not_mem_nil, or_false]; rintro q rfl; exact ⟨hp0, hp1⟩)) ⟨_, _, rfl⟩ ⟨_, _, rfl⟩ ⟨_, _, rfl⟩ (by simp only [List.length_cons, List.length_nil]; omega)
    obtain ⟨v1, v2, v3⟩ := wlastI
    generalize getI s (M - 1) = g at v1 v2 v3
    refine ⟨_, β7, pre (.tm [.list (F0 ++ d1 ++ d2 ++ d3 ++ [pairD g]), tI s, tI C, tT t]) ?_, cube _ (alike_app (alike_app (alike_app (alike_app hflA ul1) ul2) ul3) fun z hz => by
      rcases List.mem_singleton.mp hz with rfl
      exact alike2 (bit_ok v3)) (by simp only [List.length_append, List.length_singleton]; omega), b7⟩
    refine sSeq_rt (sIf_t (β1 := β7) (tcmp.trans (by rw [decide_eq_true hbig])) ?_)
    refine sSeq_nx (ext_found (ds := d1) rfl (eFnA_ok (β1 := β7) rfl rfl u1) (by unfold big; omega)) ?_
    refine sSeq_nx (ext_found (fs := F0 ++ d1) (ds := d2) rfl (eFnA_ok (β1 := β7) rfl rfl u2) (by rw [List.length_append]; unfold big; omega)) ?_
    refine sSeq_nx (ext_found (fs := F0 ++ d1 ++ d2) (ds := d3) rfl (eFnA_ok (β1 := β7) rfl rfl u3) (by simp only [List.length_append]; unfold big; omega)) ?_
    refine sSeq_nx (sAsg_ok (r := .fz (.int g)) (β1 := β7) (eBin_ok (β1 := β7) (x := .fz (tI s)) (y := .fz (.int (M - 1))) rfl rfl v2) rfl (of_decide_eq_true rfl)) ?_
    refine sSeq_nx (sApp_ok (ds := F0 ++ d1 ++ d2 ++ d3) (r := .tm [.int g, .int g]) (β1 := β7) rfl (eCall_ok (β1 := β7) (rs := [.fz (.int g), .fz (.int g)]) (eCons_ok (β1 := β7) rfl (eCons_ok (β1 := β7) (eFnA_ok (β1 := β7) (rs := [.fz (.int k), .fz (tI s), .fz (tI (cellR k d (M - 1))), .fz (tT dr)]) (eCons_ok (β1 := β7) rfl (eCons_ok (β1 := β7) rfl (eCons_ok (β1 := β7) (eFnA_ok (β1 := β7) (rs := [.fz (.int k), .fz (.int d), .fz (.int (M - 1))]) rfl rfl wcl1) rfl))) rfl v1) rfl)) rfl) rfl (by simp only [List.length_append]; unfold big; omega)) ?_
    rfl
  · have hz0 : TapeOk k d (setT ON at' (List.replicate k 0)) := setT_ok hon (rep_bits (.inl rfl) k) (by omega)
    have hz1 : TapeOk k d (setT ON at' rat) := setT_ok hon hratok (by omega)
    have base : ∀ q ∈ [dr, AL, LA, ON, setT ON at' (List.replicate k 0), setT ON at' rat], TapeOk k d q := by
      simp only [List.mem_cons, List.not_mem_nil, or_false]
      rintro q (rfl | rfl | rfl | rfl | rfl | rfl) <;> assumption
    have idr : oIdx (.fz (tT dr)) (.fz (.int (at' : Int))) = some (.fz (tI rat)) := by
      show (atI (dr.map tI) (at' : Int)).map Rv.fz = _
      rw [atI_nat (v := tI rat) (by rw [List.getElem?_map, hrat]; rfl)]
      rfl
    have m1 : ∀ ρ : VL.Env, ρ[15]? = some (.dat (tT ON)) → ρ[17]? = some (.dat (.int (at' : Int))) → ρ[1]? = some (.dat (.int (k : Int))) →
        eBin oAdd (eBin oAdd (eSlice (eVar 15) eNone (eSome (eVar 17))) (eCall fTup (eCons (eBin oMul (eCall fTup (eCons (eC (.int 0)) eNil)) (eVar 1)) eNil))) (eSlice (eVar 15) (eSome (eBin oAdd (eVar 17) (eC (.int 1)))) eNone) ρ β7 = .ok (.fz (tT (setT ON at' (List.replicate k 0)))) β7 := fun ρ h1 h2 h3 =>
      row_run hon (by omega) (by omega) h1 h2 (eCall_ok (β1 := β7) (rs := [.fz (tI (List.replicate k 0))]) (eCons_ok (β1 := β7) (eBin_ok (β1 := β7) (x := .fz (tI [0])) (y := .fz (.int (k : Int))) rfl (eVar_dat h3) mzero) rfl) rfl)
    have m2 : ∀ ρ : VL.Env, ρ[15]? = some (.dat (tT ON)) → ρ[17]? = some (.dat (.int (at' : Int))) → ρ[12]? = some (.dat (tT dr)) →
        eBin oAdd (eBin oAdd (eSlice (eVar 15) eNone (eSome (eVar 17))) (eCall fTup (eCons (eBin oIdx (eVar 12) (eVar 17)) eNil))) (eSlice (eVar 15) (eSome (eBin oAdd (eVar 17) (eC (.int 1)))) eNone) ρ β7 = .ok (.fz (tT (setT ON at' rat))) β7 := fun ρ h1 h2 h3 =>
      row_run hon (by omega) (by omega) h1 h2 (eCall_ok (β1 := β7) (rs := [.fz (tI rat)]) (eCons_ok (β1 := β7) (eBin_ok (β1 := β7) (x := .fz (tT dr)) (y := .fz (.int (at' : Int))) (eVar_dat h3) (eVar_dat h2) idr) rfl) rfl)
    generalize hZ0 : setT ON at' (List.replicate k 0) = Z0 at hz0 base m1
    generalize hZ1 : setT ON at' rat = Z1 at hz1 base m2
    obtain ⟨S, hS, hSl, e3⟩ : ∃ S : List (List (List Int)), (∀ q ∈ S, TapeOk k d q) ∧ S.length ≤ 30 ∧
        sIf (eTest (eBin cLe (eVar 3) (eC (.int 81)))) (sExt 6 (eComp [20] (tgN 20) eYes (eFnA F__law_own_question (eCons (eVar 13) (eCons (eVar 11) (eCons (eVar 20) eNil)))) (iRng1 (eCons (eBin oIdx (eCall fLst (eCons (eC (.int 1)) (eCons (eC (.int 2)) (eCons (eC (.int 4)) (eCons (eC (.int 8)) (eCons (eC (.int 16)) (eNil))))))) (eVar 2)) eNil)))) sNil [.bag, .dat (.int k), .dat (.int d), .dat (.int M), .dat (tT AL), .own F0, .own ([dr, AL, LA, ON, Z0, Z1].map tT), .no, .dat (tI s), .dat (.int p), .dat (.int ap), .dat (tT t), .dat (tT dr), .dat (tI C), .dat (tI TU), .dat (tT ON), .dat (tT LA), .dat (.int (at' : Int)), .no, .no, .no] β7 =
        .nx [.bag, .dat (.int k), .dat (.int d), .dat (.int M), .dat (tT AL), .own F0, .own (S.map tT), .no, .dat (tI s), .dat (.int p), .dat (.int ap), .dat (tT t), .dat (tT dr), .dat (tI C), .dat (tI TU), .dat (tT ON), .dat (tT LA), .dat (.int (at' : Int)), .no, .no, .no] β7 := by
      by_cases h81 : M ≤ 81
      · refine ⟨[dr, AL, LA, ON, Z0, Z1] ++ Q, fun q hq => ?_, by rw [List.length_append, hlq]; simp only [List.length_cons, List.length_nil]; omega, sIf_t (β1 := β7) (eTest_ok (b := true) ?_) ?_⟩
        · rcases List.mem_append.mp hq with h | h
          · exact base q h
          · exact hqall q h
        · show R.ok (Rv.fz (.bool (decide (M ≤ 81)))) _ = _
          rw [decide_eq_true h81]
        · rw [List.map_append]
          refine sExt_ok (r := .tm (Q.map tT)) (β1 := β7) rfl (wsmallQ β7 _ (fun h => ⟨_, rfl, rfl⟩) rfl) rfl ?_
          rw [List.length_map, List.length_map, hlq]
          simp only [List.length_cons, List.length_nil]
          unfold big
          omega
      · refine ⟨[dr, AL, LA, ON, Z0, Z1], base, (by simp only [List.length_cons, List.length_nil]; omega), sIf_f (β1 := β7) (eTest_ok (b := false) ?_) rfl⟩
        show R.ok (Rv.fz (.bool (decide (M ≤ 81)))) _ = _
        rw [decide_eq_false h81]
    obtain ⟨d1, u1, ul1, ul1'⟩ := wans s S β7 hs hS (by omega)
    obtain ⟨d2, u2, ul2, ul2'⟩ := wans TU [dr, AL, LA, ON] β7 htu (by simp only [List.mem_cons, List.not_mem_nil, or_false]; rintro q (rfl | rfl | rfl | rfl) <;> assumption) (by simp only [List.length_cons, List.length_nil]; omega)
    obtain ⟨d3, u3, ul3, ul3'⟩ := wit [s, TU, TA] [t, dr] [p, 0, M - 1] β7 (mkH _ _ _ (by simp only [List.mem_cons, List.not_mem_nil, or_false]; rintro q (rfl | rfl | rfl) <;> assumption) (by simp only [List.mem_cons, List.not_mem_nil, or_false]; rintro q (rfl | rfl) <;> assumption) (by simp only [List.mem_cons, List.not_mem_nil, or_false]; rintro q (rfl | rfl | rfl) <;> omega)) ⟨_, _, rfl⟩ ⟨_, _, rfl⟩ ⟨_, _, rfl⟩ (by simp only [List.length_cons, List.length_nil]; omega)
    refine ⟨_, β7, pre (.tm [.list (F0 ++ d1 ++ d2 ++ d3), tI s, tI C, tT t]) ?_, cube _ (alike_app (alike_app (alike_app hflA ul1) ul2) ul3) (by simp only [List.length_append]; omega), b7⟩
    refine sSeq_nx (β1 := β7) (sIf_f (β1 := β7) (tcmp.trans (by rw [decide_eq_false hbig])) rfl) ?_
    refine sSeq_nx (sAsg_ok (r := .tm [tT dr, tT AL, tT LA, tT ON, tT Z0]) (β1 := β7) (eCall_ok (β1 := β7) (rs := [.fz (tT dr), .fz (tT AL), .fz (tT LA), .fz (tT ON), .fz (tT Z0)]) (eCons_ok (β1 := β7) rfl (eCons_ok (β1 := β7) rfl (eCons_ok (β1 := β7) rfl (eCons_ok (β1 := β7) rfl (eCons_ok (β1 := β7) (m1 _ rfl rfl rfl) rfl))))) rfl) rfl (of_decide_eq_true rfl)) ?_
    refine sSeq_nx (sApp_ok (ds := [tT dr, tT AL, tT LA, tT ON, tT Z0]) (r := .fz (tT Z1)) (β1 := β7) rfl (m2 _ rfl rfl rfl) rfl (of_decide_eq_true rfl)) ?_
    refine sSeq_nx e3 ?_
    refine sSeq_nx (ρ1 := [.bag, .dat (.int k), .dat (.int d), .dat (.int M), .dat (tT AL), .own F0, .dat (.list (S.map tT)), .no, .dat (tI s), .dat (.int p), .dat (.int ap), .dat (tT t), .dat (tT dr), .dat (tI C), .dat (tI TU), .dat (tT ON), .dat (tT LA), .dat (.int (at' : Int)), .no, .no, .no]) (β1 := β7) rfl ?_
    refine sSeq_nx (ext_found (ds := d1) rfl (eFnA_ok (β1 := β7) rfl rfl u1) (by unfold big; omega)) ?_
    refine sSeq_nx (ext_found (fs := F0 ++ d1) (ds := d2) rfl (eFnA_ok (β1 := β7) rfl rfl u2) (by rw [List.length_append]; unfold big; omega)) ?_
    refine sSeq_nx (sAsg_ok (r := .tm [tI s, tI TU, tI TA]) (β1 := β7) (eCall_ok (β1 := β7) (rs := [.fz (tI s), .fz (tI TU), .fz (tI TA)]) (eCons_ok (β1 := β7) rfl (eCons_ok (β1 := β7) rfl (eCons_ok (β1 := β7) (eFnA_ok (β1 := β7) rfl rfl wtuap) rfl))) rfl) rfl (of_decide_eq_true rfl)) ?_
    refine sSeq_nx (ext_found (fs := F0 ++ d1 ++ d2) (ds := d3) rfl (eFnA_ok (β1 := β7) rfl rfl u3) (by simp only [List.length_append]; unfold big; omega)) ?_
    rfl
end Lw

namespace Lw
open PySem PySem.Spec PyProof.Rows L2 VL

theorem own_bag_ok (ns : List Int) : ∃ β, own_bag ns = some β ∧ Bok β := by
  have hc : ∀ x : Int, 0 ≤ (if x < 0 then -x else x) := fun x => by split <;> omega
  have hlen : (cut ns none (some 63)).length ≤ 63 := by
    have := cut_pre ns 63
    rw [show ((63 : Nat) : Int) = 63 from rfl] at this
    rw [this, List.length_take]
    omega
  generalize hcut : cut ns none (some 63) = xs at hlen
  generalize hcs : xs.map (fun x : Int => if x < 0 then -x else x) = cs
  have hcl : cs.length ≤ 63 := by rw [← hcs, List.length_map]; exact hlen
  have h0 : ∀ c ∈ cs, 0 ≤ c := by
    intro c hcm
    rw [← hcs] at hcm
    obtain ⟨x, _, rfl⟩ := List.mem_map.mp hcm
    exact hc x
  have e1 : eComp [3] (tgN 3) eYes (eCall (f1 gAbs) (eCons (eCall (f1 gInt) (eCons (eVar 3) eNil)) eNil)) (iSeq false (eScut 0 (eC (.int 63)))) [.scr ns, .no, .no, .no] β0 = .ok (.tm (cs.map .int)) β0 := by
    refine eComp_eq (β1 := β0) (ds := xs.map .int) ?_ (by rw [List.length_map]; unfold big; omega) ?_
    · show R.ok ((cut ns none (some 63)).map PyData.int) β0 = _
      rw [hcut]
    · rw [← hcs, List.map_map]
      exact comp_map PyData.int _ fun x hx => ⟨_, .fz (.int (if x < 0 then -x else x)), rfl, rfl, rfl⟩
  obtain ⟨ρ', β', c1, c2⟩ := loop_inv (tg := tgN 3) (body := L1__law_own_bag) (fun i ρ β' => β' = β0 ∧ ∃ (m : Int) (x : Sl), ρ = [.scr ns, .dat (.list (cs.map .int)), .dat (.int m), x] ∧ 0 ≤ m ∧ m < 2147483647) (ds := cs.map .int) (ρ := [.scr ns, .dat (.list (cs.map .int)), .dat (.int (7919 + 31 * (cs.length : Int))), .no]) (β := β0) 0 ⟨rfl, _, _, rfl, by omega, by omega⟩ fun i e ρ β' he hI => by
    obtain ⟨rfl, m, x, rfl, m0, m1⟩ := hI
    rw [List.getElem?_map] at he
    cases hq : cs[i]? with
    | none => rw [hq] at he; cases he
    | some c =>
      rw [hq] at he
      cases he
      refine ⟨_, [.scr ns, .dat (.list (cs.map .int)), .dat (.int ((m * 48271 + c % 2147483629 + 13) % 2147483647)), .dat (.int c)], β0, rfl, ?_, rfl, _, _, rfl, Int.emod_nonneg _ (by decide), Int.emod_lt_of_pos _ (by decide)⟩
      refine sAsg_ok (r := .fz (.int ((m * 48271 + c % 2147483629 + 13) % 2147483647))) (β1 := β0) (eBin_ok (β1 := β0) (x := .fz (.int (m * 48271 + c % 2147483629 + 13))) (y := .fz (.int 2147483647)) (eCall_ok (β1 := β0) (rs := [.fz (.int (m * 48271 + c % 2147483629 + 13))]) (eCons_ok (β1 := β0) (eBin_ok (β1 := β0) (x := .fz (.int (m * 48271 + c % 2147483629))) (y := .fz (.int 13)) (eBin_ok (β1 := β0) (x := .fz (.int (m * 48271))) (y := .fz (.int (c % 2147483629))) (eBin_ok (β1 := β0) (x := .fz (.int m)) (y := .fz (.int 48271)) rfl rfl (oMul_ok (.inr (.inl ⟨by decide, by decide⟩)))) (eBin_ok (β1 := β0) (x := .fz (.int c)) (y := .fz (.int 2147483629)) rfl rfl (oMod_ok (by decide))) rfl) rfl rfl) rfl) rfl) rfl (oMod_ok (by decide))) rfl (of_decide_eq_true rfl)
  obtain ⟨rfl, m, x, rfl, m0, m1⟩ := c2
  have hrun : b__law_own_bag (.scr ns :: List.replicate (4 - 1) .no) β0 = .rt (.tm [.list (cs.reverse.map .int), .int 0, .int m]) β0 := by
    refine sSeq_nx (sAsg_ok (r := .tm (cs.map .int)) (β1 := β0) e1 rfl (of_decide_eq_true rfl)) ?_
    refine sSeq_nx (sAsg_ok (r := .fz (.int (7919 + 31 * (cs.length : Int)))) (β1 := β0) (eBin_ok (β1 := β0) (x := .fz (.int 7919)) (y := .fz (.int (31 * (cs.length : Int)))) rfl (eBin_ok (β1 := β0) (x := .fz (.int 31)) (y := .fz (.int (cs.length : Int))) rfl (eCall_ok (β1 := β0) (rs := [.fz (.list (cs.map .int))]) rfl ?_) (oMul_ok (.inr (.inl ⟨by omega, by omega⟩)))) rfl) rfl (of_decide_eq_true rfl)) ?_
    · show some (Rv.fz (.int ((cs.map PyData.int).length : Nat))) = _
      rw [List.length_map]
    · refine sSeq_nx (sLoop_ok (β1 := β0) (ds := cs.map .int) rfl c1) ?_
      rw [List.map_reverse]
      rfl
  refine ⟨⟨cs.reverse, 0, m⟩, ?_, fun c hcm => h0 c (List.mem_reverse.mp hcm), Int.le_refl 0, m0, m1⟩
  show ownBag 4 b__law_own_bag ns = _
  unfold ownBag
  rw [hrun]
  show (ints? (cs.reverse.map PyData.int)).map _ = _
  rw [VL.ints_map]
  rfl
theorem eAndV_ok {f g : E} {ρ : VL.Env} {β β1 β2 : Bag} {z : Rv} (h1 : f ρ β = .ok (.fz (.bool true)) β1) (h2 : g ρ β1 = .ok z β2) : eAndV f g ρ β = .ok z β2 := by
  unfold eAndV
  rw [h1]
  exact h2
theorem notAlike {f : E} {ρ : VL.Env} {β : Bag} {ds : List PyData} (hz : ds.length ≤ big) (h : Alike ds) (hf : f ρ β = .ok (.fz (.list ds)) β) : eNot (eTest (eFnA F__law_are_alike (eCons f eNil))) ρ β = .ok false β := by
  unfold eNot
  rw [eTest_ok (b := true) (β1 := β) (eFnA_ok (β1 := β) (rs := [.fz (.list ds)]) (eCons_ok (β1 := β) hf rfl) rfl (r_are_alike hz h))]
  rfl
theorem sh_store {k d : Nat} {s : List Int} (D : Dom k d) (hs : RowOk (k ^ d) s) : Sh (tI s) 50000 2 := (sh_row hs).mono (by have := D.kd; omega) (by decide)
theorem law_run {β : Bag} (hB : Bok β) : ∃ β', b_law ((List.replicate 14 Sl.no).set 1 .bag) β = .rt (.fz (.bool true)) β' := by
  obtain ⟨k, d, β1, a1, D, b1⟩ := r_own_size hB
  obtain ⟨r1, β2, a2, hc1, b2⟩ := r_one_cube D b1
  obtain ⟨fs, s, p, t, rfl, hA, hL, hs, hp, ht⟩ := hc1
  obtain ⟨e0, β3, a3, he0, he1, b3⟩ := r_draw (n := 4) (by decide) (by decide) b2
  obtain ⟨e, he⟩ : ∃ e : Nat, 1 + e0 = (e : Int) := ⟨(1 + e0).toNat, by omega⟩
  obtain ⟨m, hm0, hm1, hmp, hmi⟩ : ∃ m : Nat, 0 < m ∧ m ≤ 16 ∧ m ^ e ≤ 4096 ∧ oIdx (.tm [.int 9, .int 5, .int 4, .int 3]) (.fz (.int ((e : Int) - 1))) = some (.fz (.int (m : Int))) := by
    rcases (show e = 1 ∨ e = 2 ∨ e = 3 ∨ e = 4 by omega) with rfl | rfl | rfl | rfl
    · exact ⟨9, by decide, by decide, by decide, rfl⟩
    · exact ⟨5, by decide, by decide, by decide, rfl⟩
    · exact ⟨4, by decide, by decide, by decide, rfl⟩
    · exact ⟨3, by decide, by decide, by decide, rfl⟩
  obtain ⟨v, β4, a4, hv0, hv1, b4⟩ := r_draw (n := (m : Int)) (by omega) (by omega) b3
  obtain ⟨k2, hk2⟩ : ∃ k : Nat, 1 + v = (k : Int) := ⟨(1 + v).toNat, by omega⟩
  have D2 : Dom k2 e := dom_of (by omega) (by omega) hm1 (by omega) (by omega) hmp
  obtain ⟨r2, β5, a5, hc2, b5⟩ := r_one_cube D2 b4
  obtain ⟨fs2, s2, p2, t2, rfl, hA2, hL2, _⟩ := hc2
  have hk0 := D.k0
  have hk1 := D.k1
  have hd1 := D.d1
  have hkd := D.kd
  have hcl := cell_length (k : Int) d p
  have hcok := cell_ok (d := d) hk0 p
  obtain ⟨qs, a6, hA3, hL3⟩ := r_ask_questions (k := k) (d := d) (c := cellR k d p) (t := t) (β := β5) hk1 hd1 hcl hcok ht
  obtain ⟨w1, w2, w3⟩ := item_at (k := k) (d := d) (s := s) (t := t) (p := p) (β := β5) hk0 (by omega) hd1 (by omega) hs ht hp
  have wat : F_cell_at [.fz (.int k), .fz (.int d), .fz (.int p)] β5 = .ok (.fz (tI (cellR k d p))) β5 := by
    have := r_cell_at (k := (k : Int)) (d := (d : Int)) (p := p) (β := β5) (by omega) (by omega) (by omega) (by omega)
    rwa [Int.toNat_natCast] at this
  have wpl : F_cell_place [.fz (.int k), .fz (tI (cellR k d p))] β5 = .ok (.fz (.int p)) β5 := by
    have := r_cell_place (k := (k : Int)) (c := cellR k d p) (β := β5) (by omega) (by omega)
    rwa [place_back hk0 hp.1 hp.2] at this
  have okp : okR (.int p) = true := (sh_int hp.1 (by omega)).ok (by decide) (by decide)
  have okAll : okR (.list [tI s, tI (cellR k d p), tT t]) = true := (sh_lst (ds := [tI s, tI (cellR k d p), tT t]) (n := 50000) (m := 2) fun x hx => by
    simp only [List.mem_cons, List.not_mem_nil, or_false] at hx
    rcases hx with rfl | rfl | rfl
    · exact sh_store D hs
    · exact (sh_cell (k := k) (by omega) hcok hcl).mono (by omega) (by decide)
    · exact (sh_tape ht).mono (by have := Nat.mul_le_mul hd1 (show k * 12 + 6 ≤ 200 by omega); omega) (Nat.le_refl _)).ok (by simp only [List.length_cons, List.length_nil]; omega) (by decide)
  have hrepr : ∀ (ρ : VL.Env) (β : Bag), ρ[11]? = some (.dat (tI s)) → ρ[12]? = some (.dat (tI (cellR k d p))) → ρ[13]? = some (.dat (tT t)) →
      eCall (f1 gRepr) (eCons (eCall fLst (eCons (eVar 11) (eCons (eVar 12) (eCons (eVar 13) eNil)))) eNil) ρ β = .ok (.fz (.str (PyData.shown (.list [tI s, tI (cellR k d p), tT t])))) β := fun ρ β h1 h2 h3 => by
    refine eCall_ok (β1 := β) (rs := [.tm [tI s, tI (cellR k d p), tT t]]) (eCons_ok (β1 := β) (eCall_ok (β1 := β) (rs := [.fz (tI s), .fz (tI (cellR k d p)), .fz (tT t)]) (eCons_ok (β1 := β) (eVar_dat h1) (eCons_ok (β1 := β) (eVar_dat h2) (eCons_ok (β1 := β) (eVar_dat h3) rfl))) rfl) rfl) ?_
    show (if okR (.list [tI s, tI (cellR k d p), tT t]) = true then some (Rv.fz (.str (PyData.shown (.list [tI s, tI (cellR k d p), tT t])))) else none) = _
    rw [if_pos okAll]
  obtain ⟨ρl, βl, g1, g2⟩ : ∃ (ρl : VL.Env) (βl : Bag), loopD (tgN 8) L1_law [] ((cellR k d p).map .int) [.no, .bag, .dat (.list [.list fs, tI s, tI (cellR k d p), tT t]), .dat (.str (PyData.shown (.list [tI s, tI (cellR k d p), tT t]))), .dat (.int (e : Int)), .dat (.list [.list fs2, tI s2, tI (cellR k2 e p2), tT t2]), .own qs, .dat (.int 0), .no, .dat (.int k), .dat (.int d), .dat (tI s), .dat (tI (cellR k d p)), .dat (tT t)] β5 = .nx ρl βl ∧
      βl = β5 ∧ ∃ x, ρl = [.no, .bag, .dat (.list [.list fs, tI s, tI (cellR k d p), tT t]), .dat (.str (PyData.shown (.list [tI s, tI (cellR k d p), tT t]))), .dat (.int (e : Int)), .dat (.list [.list fs2, tI s2, tI (cellR k2 e p2), tT t2]), .own qs, .dat (.int p), x, .dat (.int k), .dat (.int d), .dat (tI s), .dat (tI (cellR k d p)), .dat (tT t)] := by
    have hpl : placeR (k : Int) (cellR k d p) = p := place_back hk0 hp.1 hp.2
    generalize cellR k d p = c at hpl ⊢
    generalize PyData.shown (.list [tI s, tI c, tT t]) = kept
    generalize PyData.list [.list fs, tI s, tI c, tT t] = first
    generalize PyData.list [.list fs2, tI s2, tI (cellR k2 e p2), tT t2] = second
    obtain ⟨ρ', β', q1, q2⟩ := loop_inv (tg := tgN 8) (body := L1_law) (fun i ρ β' => β' = β5 ∧ ∃ x, ρ = [.no, .bag, .dat first, .dat (.str kept), .dat (.int (e : Int)), .dat second, .own qs, .dat (.int (placeR k (c.take i))), x, .dat (.int k), .dat (.int d), .dat (tI s), .dat (tI c), .dat (tT t)]) (ds := c.map .int)
      (ρ := [.no, .bag, .dat first, .dat (.str kept), .dat (.int (e : Int)), .dat second, .own qs, .dat (.int 0), .no, .dat (.int k), .dat (.int d), .dat (tI s), .dat (tI c), .dat (tT t)]) (β := β5) 0 ⟨rfl, _, rfl⟩ fun i y ρ β' hy hI => by
        obtain ⟨rfl, x, rfl⟩ := hI
        rw [List.getElem?_map] at hy
        cases hq : c[i]? with
        | none => rw [hq] at hy; cases hy
        | some u =>
          rw [hq] at hy
          cases hy
          have ee : placeR (k : Int) (c.take (0 + i + 1)) = placeR k (c.take (0 + i)) * k + u := by
            rw [Nat.zero_add, List.take_add_one, hq]
            unfold placeR
            rw [List.foldl_append]
            rfl
          rw [ee]
          generalize placeR (k : Int) (c.take (0 + i)) = q
          exact ⟨_, [.no, .bag, .dat first, .dat (.str kept), .dat (.int (e : Int)), .dat second, .own qs, .dat (.int (q * k + u)), .dat (.int u), .dat (.int k), .dat (.int d), .dat (tI s), .dat (tI c), .dat (tT t)], β', rfl, sAsg_ok (r := .fz (.int (q * k + u))) (β1 := β') (eBin_ok (β1 := β') (x := .fz (.int (q * k))) (y := .fz (.int u)) (eBin_ok (β1 := β') (x := .fz (.int q)) (y := .fz (.int k)) rfl rfl (oMul_ok (CMk (by omega)))) rfl rfl) rfl (of_decide_eq_true rfl), rfl, .dat (.int u), rfl⟩
    obtain ⟨rfl, x, rfl⟩ := q2
    refine ⟨_, _, q1, rfl, x, ?_⟩
    rw [Nat.zero_add, List.length_map, List.take_length, hpl]
  obtain ⟨rfl, x, rfl⟩ := g2
  have hAg : Alike (qs ++ [PyData.list [.int (getI s p), .int (getI s p), .int (getI s p)]] ++ [PyData.list [.int p, .int p, .int p]]) := alike_app (alike_app hA3 fun z hz => by
      rcases List.mem_singleton.mp hz with rfl
      exact alike3 (bit_ok w3)) fun z hz => by
    rcases List.mem_singleton.mp hz with rfl
    exact alike3 okp
  have hLg : (qs ++ [PyData.list [.int (getI s p), .int (getI s p), .int (getI s p)]] ++ [PyData.list [.int p, .int p, .int p]]).length ≤ 60 := by
    simp only [List.length_append, List.length_singleton]
    omega
  generalize getI s p = g at w1 w2 hAg hLg
  generalize hkept : PyData.shown (.list [tI s, tI (cellR k d p), tT t]) = kept at hrepr g1
  generalize cellR k d p = c at *
  generalize hsec : cellR k2 e p2 = c2 at *
  refine ⟨βl, ?_⟩
  refine sSeq_nx (sUnp_ok (d := .tuple [.int k, .int d]) (β1 := β1) (ρ1 := [.no, .bag, .no, .no, .no, .no, .no, .no, .no, .dat (.int k), .dat (.int d), .no, .no, .no]) (eFnA_ok (β1 := β) rfl rfl a1) rfl) ?_
  refine sSeq_nx (sAsg_ok (r := .tm [.list fs, tI s, tI c, tT t]) (β1 := β2) (eFnA_ok (β1 := β1) rfl rfl a2) rfl (of_decide_eq_true rfl)) ?_
  refine sSeq_nx (sPar3_ok (β1 := β2) (β2 := β2) (β3 := β2) (x := .fz (tI s)) (y := .fz (tI c)) (z := .fz (tT t)) (ρ1 := [.no, .bag, .dat (.list [.list fs, tI s, tI c, tT t]), .no, .no, .no, .no, .no, .no, .dat (.int k), .dat (.int d), .dat (tI s), .dat (tI c), .dat (tT t)]) rfl rfl rfl rfl) ?_
  refine sSeq_nx (sAsg_ok (r := .fz (.str kept)) (β1 := β2) (hrepr _ _ rfl rfl rfl) rfl (of_decide_eq_true rfl)) ?_
  refine sSeq_nx (β1 := β2) (sIf_f (β1 := β2) (notAlike (by unfold big; omega) hA rfl) rfl) ?_
  refine sSeq_nx (sAsg_ok (r := .fz (.int (e : Int))) (β1 := β3) (eBin_ok (β1 := β2) (x := .fz (.int 1)) (y := .fz (.int e0)) rfl (eFnA_ok (β1 := β2) rfl rfl a3) (by rw [← he]; rfl)) rfl (of_decide_eq_true rfl)) ?_
  refine sSeq_nx (sAsg_ok (r := .tm [.list fs2, tI s2, tI c2, tT t2]) (β1 := βl) (eFnA_ok (β1 := β4) (rs := [.bg, .fz (.int k2), .fz (.int e)]) (eCons_ok (β1 := β3) rfl (eCons_ok (β1 := β4) (eBin_ok (β1 := β3) (x := .fz (.int 1)) (y := .fz (.int v)) rfl (eFnA_ok (β1 := β3) (rs := [.bg, .fz (.int m)]) (eCons_ok (β1 := β3) rfl (eCons_ok (β1 := β3) (eBin_ok (β1 := β3) (x := .tm [.int 9, .int 5, .int 4, .int 3]) (y := .fz (.int ((e : Int) - 1))) rfl rfl hmi) rfl)) rfl a4) (by rw [← hk2]; rfl)) rfl)) rfl a5) rfl (of_decide_eq_true rfl)) ?_
  refine sSeq_nx (β1 := βl) (sIf_f (β1 := βl) (notAlike (by unfold big; omega) hA2 rfl) rfl) ?_
  refine sSeq_nx (sAsg_ok (r := .tm qs) (sl := .own qs) (β1 := βl) (eFnA_ok (β1 := βl) rfl rfl a6) rfl (of_decide_eq_true rfl)) ?_
  refine sSeq_nx (sAsg_ok (r := .fz (.int 0)) (β1 := βl) rfl rfl (of_decide_eq_true rfl)) ?_
  refine sSeq_nx (sLoop_ok (β1 := βl) (ds := c.map .int) rfl g1) ?_
  refine sSeq_nx (sApp_ok (ds := qs) (r := .tm [.int g, .int g, .int g]) (β1 := βl) rfl (eCall_ok (β1 := βl) (rs := [.fz (.int g), .fz (.int g), .fz (.int g)]) (eCons_ok (β1 := βl) (eBin_ok (β1 := βl) (x := .fz (tI s)) (y := .fz (.int p)) rfl rfl w2) (eCons_ok (β1 := βl) (eFnA_ok (β1 := βl) rfl rfl w1) (eCons_ok (β1 := βl) (eFnA_ok (β1 := βl) rfl rfl w1) rfl))) rfl) rfl (by unfold big; omega)) ?_
  refine sSeq_nx (sApp_ok (ds := qs ++ [.list [.int g, .int g, .int g]]) (r := .tm [.int p, .int p, .int p]) (β1 := βl) rfl (eCall_ok (β1 := βl) (rs := [.fz (.int p), .fz (.int p), .fz (.int p)]) (eCons_ok (β1 := βl) rfl (eCons_ok (β1 := βl) (eFnA_ok (β1 := βl) rfl rfl wpl) (eCons_ok (β1 := βl) (eFnA_ok (β1 := βl) (rs := [.fz (.int k), .fz (tI c)]) (eCons_ok (β1 := βl) rfl (eCons_ok (β1 := βl) (eFnA_ok (β1 := βl) rfl rfl wat) rfl)) rfl wpl) rfl))) rfl) rfl (by rw [List.length_append, List.length_singleton]; unfold big; omega)) ?_
  generalize (qs ++ [PyData.list [.int g, .int g, .int g]] ++ [.list [.int p, .int p, .int p]]) = again at hAg hLg
  refine sSeq_nx (ρ1 := [.no, .bag, .dat (.list [.list fs, tI s, tI c, tT t]), .dat (.str kept), .dat (.int (e : Int)), .dat (.list [.list fs2, tI s2, tI c2, tT t2]), .dat (.list again), .dat (.int p), x, .dat (.int k), .dat (.int d), .dat (tI s), .dat (tI c), .dat (tT t)]) (β1 := βl) rfl ?_
  refine sRet_ok (r := .fz (.bool true)) (eAndV_ok (β1 := βl) (eFnA_ok (β1 := βl) rfl rfl (r_are_alike (by unfold big; omega) hAg)) (eBin_ok (β1 := βl) (x := .fz (.str kept)) (y := .fz (.str kept)) (hrepr _ _ rfl rfl rfl) rfl (cEq_ok rfl rfl rfl rfl (str_beq kept)))) rfl
theorem law_holds {K : PySem.W.Frag} {H : Hp} {a : Addr} (ns : List Int) (hl : ns.length ≤ 63) (hS : SqL K H a (ns.map V.int)) : spL K 14 1 own_bag b_law [.ref a] H (fun v _ => v = .bl true) fun _ _ _ => False := by
  obtain ⟨β, h1, h2⟩ := own_bag_ok ns
  obtain ⟨β', h3⟩ := law_run h2
  exact law_true h1 h3 hS
end Lw

namespace Lw
open PySem PySem.Spec PyProof.Rows L2 VL

/-! ### what stands behind the top -/
structure M (K : PySem.W.Frag) (mg : Str → Option Value) where
  f__law_are_alike : Addr
  fd__law_are_alike : FuncData
  u__law_are_alike : Fun K "_law_are_alike" "_law_are_alike" s__law_are_alike f__law_are_alike fd__law_are_alike
  m__law_are_alike : mg "_law_are_alike" = some (.ref f__law_are_alike)
  b__law_are_alike : Binds K fd__law_are_alike ["found"] []
  f__law_own_question : Addr
  fd__law_own_question : FuncData
  u__law_own_question : Fun K "_law_own_question" "_law_own_question" s__law_own_question f__law_own_question fd__law_own_question
  m__law_own_question : mg "_law_own_question" = some (.ref f__law_own_question)
  b__law_own_question : Binds K fd__law_own_question ["cell", "tape", "h"] []
  f_lot_row : Addr
  fd_lot_row : FuncData
  u_lot_row : Fun K "lot_row" "lot_row" s_lot_row f_lot_row fd_lot_row
  m_lot_row : mg "lot_row" = some (.ref f_lot_row)
  b_lot_row : Binds K fd_lot_row ["n", "lot"] []
  f_rows_added : Addr
  fd_rows_added : FuncData
  u_rows_added : Fun K "rows_added" "rows_added" s_rows_added f_rows_added fd_rows_added
  m_rows_added : mg "rows_added" = some (.ref f_rows_added)
  b_rows_added : Binds K fd_rows_added ["one", "other"] []
  f_cell_at : Addr
  fd_cell_at : FuncData
  u_cell_at : Fun K "cell_at" "cell_at" s_cell_at f_cell_at fd_cell_at
  m_cell_at : mg "cell_at" = some (.ref f_cell_at)
  b_cell_at : Binds K fd_cell_at ["k", "d", "place"] []
  f_sides_of : Addr
  fd_sides_of : FuncData
  u_sides_of : Fun K "sides_of" "sides_of" s_sides_of f_sides_of fd_sides_of
  m_sides_of : mg "sides_of" = some (.ref f_sides_of)
  b_sides_of : Binds K fd_sides_of ["d", "h"] []
  f_question : Addr
  fd_question : FuncData
  u_question : Fun K "question" "question" s_question f_question fd_question
  m_question : mg "question" = some (.ref f_question)
  b_question : Binds K fd_question ["k", "cell", "tape", "h"] []
  f_all_questions : Addr
  fd_all_questions : FuncData
  u_all_questions : Fun K "all_questions" "all_questions" s_all_questions f_all_questions fd_all_questions
  m_all_questions : mg "all_questions" = some (.ref f_all_questions)
  b_all_questions : Binds K fd_all_questions ["k", "cell", "tape"] []
  f__law_ask_questions : Addr
  fd__law_ask_questions : FuncData
  u__law_ask_questions : Fun K "_law_ask_questions" "_law_ask_questions" s__law_ask_questions f__law_ask_questions fd__law_ask_questions
  m__law_ask_questions : mg "_law_ask_questions" = some (.ref f__law_ask_questions)
  b__law_ask_questions : Binds K fd__law_ask_questions ["k", "cell", "tape"] []
  f__law_draw : Addr
  fd__law_draw : FuncData
  u__law_draw : Fun K "_law_draw" "_law_draw" s__law_draw f__law_draw fd__law_draw
  m__law_draw : mg "_law_draw" = some (.ref f__law_draw)
  b__law_draw : Binds K fd__law_draw ["bag", "below"] []
  f__law_own_answer : Addr
  fd__law_own_answer : FuncData
  u__law_own_answer : Fun K "_law_own_answer" "_law_own_answer" s__law_own_answer f__law_own_answer fd__law_own_answer
  m__law_own_answer : mg "_law_own_answer" = some (.ref f__law_own_answer)
  b__law_own_answer : Binds K fd__law_own_answer ["k", "store", "asked"] []
  f_answer_bit : Addr
  fd_answer_bit : FuncData
  u_answer_bit : Fun K "answer_bit" "answer_bit" s_answer_bit f_answer_bit fd_answer_bit
  m_answer_bit : mg "answer_bit" = some (.ref f_answer_bit)
  b_answer_bit : Binds K fd_answer_bit ["k", "store", "asked"] []
  f__law_ask_answers : Addr
  fd__law_ask_answers : FuncData
  u__law_ask_answers : Fun K "_law_ask_answers" "_law_ask_answers" s__law_ask_answers f__law_ask_answers fd__law_ask_answers
  m__law_ask_answers : mg "_law_ask_answers" = some (.ref f__law_ask_answers)
  b__law_ask_answers : Binds K fd__law_ask_answers ["k", "store", "some"] []
  f__law_odd : Addr
  fd__law_odd : FuncData
  u__law_odd : Fun K "_law_odd" "_law_odd" s__law_odd f__law_odd fd__law_odd
  m__law_odd : mg "_law_odd" = some (.ref f__law_odd)
  b__law_odd : Binds K fd__law_odd ["bits"] []
  f__law_own_cell : Addr
  fd__law_own_cell : FuncData
  u__law_own_cell : Fun K "_law_own_cell" "_law_own_cell" s__law_own_cell f__law_own_cell fd__law_own_cell
  m__law_own_cell : mg "_law_own_cell" = some (.ref f__law_own_cell)
  b__law_own_cell : Binds K fd__law_own_cell ["k", "d", "place"] []
  f_told_item : Addr
  fd_told_item : FuncData
  u_told_item : Fun K "told_item" "told_item" s_told_item f_told_item fd_told_item
  m_told_item : mg "told_item" = some (.ref f_told_item)
  b_told_item : Binds K fd_told_item ["k", "store", "cell", "tape"] []
  f__law_ask_items : Addr
  fd__law_ask_items : FuncData
  u__law_ask_items : Fun K "_law_ask_items" "_law_ask_items" s__law_ask_items f__law_ask_items fd__law_ask_items
  m__law_ask_items : mg "_law_ask_items" = some (.ref f__law_ask_items)
  b__law_ask_items : Binds K fd__law_ask_items ["k", "d", "stores", "tapes", "places"] []
  f_cell_place : Addr
  fd_cell_place : FuncData
  u_cell_place : Fun K "cell_place" "cell_place" s_cell_place f_cell_place fd_cell_place
  m_cell_place : mg "cell_place" = some (.ref f_cell_place)
  b_cell_place : Binds K fd_cell_place ["k", "cell"] []
  f__law_ask_places : Addr
  fd__law_ask_places : FuncData
  u__law_ask_places : Fun K "_law_ask_places" "_law_ask_places" s__law_ask_places f__law_ask_places fd__law_ask_places
  m__law_ask_places : mg "_law_ask_places" = some (.ref f__law_ask_places)
  b__law_ask_places : Binds K fd__law_ask_places ["k", "d", "places"] []
  f__law_cells_many : Addr
  fd__law_cells_many : FuncData
  u__law_cells_many : Fun K "_law_cells_many" "_law_cells_many" s__law_cells_many f__law_cells_many fd__law_cells_many
  m__law_cells_many : mg "_law_cells_many" = some (.ref f__law_cells_many)
  b__law_cells_many : Binds K fd__law_cells_many ["k", "d"] []
  f__law_unit : Addr
  fd__law_unit : FuncData
  u__law_unit : Fun K "_law_unit" "_law_unit" s__law_unit f__law_unit fd__law_unit
  m__law_unit : mg "_law_unit" = some (.ref f__law_unit)
  b__law_unit : Binds K fd__law_unit ["k", "at"] []
  f__law_own_store : Addr
  fd__law_own_store : FuncData
  u__law_own_store : Fun K "_law_own_store" "_law_own_store" s__law_own_store f__law_own_store fd__law_own_store
  m__law_own_store : mg "_law_own_store" = some (.ref f__law_own_store)
  b__law_own_store : Binds K fd__law_own_store ["bag", "many"] []
  f__law_own_row : Addr
  fd__law_own_row : FuncData
  u__law_own_row : Fun K "_law_own_row" "_law_own_row" s__law_own_row f__law_own_row fd__law_own_row
  m__law_own_row : mg "_law_own_row" = some (.ref f__law_own_row)
  b__law_own_row : Binds K fd__law_own_row ["bag", "k"] []
  f__law_rows : Addr
  fd__law_rows : FuncData
  u__law_rows : Fun K "_law_rows" "_law_rows" s__law_rows f__law_rows fd__law_rows
  m__law_rows : mg "_law_rows" = some (.ref f__law_rows)
  b__law_rows : Binds K fd__law_rows ["bag", "k", "d"] []
  f__law_some_places : Addr
  fd__law_some_places : FuncData
  u__law_some_places : Fun K "_law_some_places" "_law_some_places" s__law_some_places f__law_some_places fd__law_some_places
  m__law_some_places : mg "_law_some_places" = some (.ref f__law_some_places)
  b__law_some_places : Binds K fd__law_some_places ["bag", "k", "d"] []
  f__law_turned : Addr
  fd__law_turned : FuncData
  u__law_turned : Fun K "_law_turned" "_law_turned" s__law_turned f__law_turned fd__law_turned
  m__law_turned : mg "_law_turned" = some (.ref f__law_turned)
  b__law_turned : Binds K fd__law_turned ["store", "place"] []
  f__law_one_cube : Addr
  fd__law_one_cube : FuncData
  u__law_one_cube : Fun K "_law_one_cube" "_law_one_cube" s__law_one_cube f__law_one_cube fd__law_one_cube
  m__law_one_cube : mg "_law_one_cube" = some (.ref f__law_one_cube)
  b__law_one_cube : Binds K fd__law_one_cube ["bag", "k", "d"] []
  f__law_own_bag : Addr
  fd__law_own_bag : FuncData
  u__law_own_bag : Fun K "_law_own_bag" "_law_own_bag" s__law_own_bag f__law_own_bag fd__law_own_bag
  m__law_own_bag : mg "_law_own_bag" = some (.ref f__law_own_bag)
  b__law_own_bag : Binds K fd__law_own_bag ["script"] []
  f__law_pick : Addr
  fd__law_pick : FuncData
  u__law_pick : Fun K "_law_pick" "_law_pick" s__law_pick f__law_pick fd__law_pick
  m__law_pick : mg "_law_pick" = some (.ref f__law_pick)
  b__law_pick : Binds K fd__law_pick ["bag", "some"] []
  f__law_own_size : Addr
  fd__law_own_size : FuncData
  u__law_own_size : Fun K "_law_own_size" "_law_own_size" s__law_own_size f__law_own_size fd__law_own_size
  m__law_own_size : mg "_law_own_size" = some (.ref f__law_own_size)
  b__law_own_size : Binds K fd__law_own_size ["bag", "often"] []
  f_law : Addr
  fd_law : FuncData
  u_law : Fun K "law" "law" s_law f_law fd_law
  m_law : mg "law" = some (.ref f_law)
  b_law : Binds K fd_law ["script"] []
  k_question_0_k_cell_tape_h : KwBind fd_question ["k", "cell", "tape", "h"] ["k", "cell", "tape", "h"] 0 [0, 1, 2, 3]
  k_all_questions_0_k_cell_tape : KwBind fd_all_questions ["k", "cell", "tape"] ["k", "cell", "tape"] 0 [0, 1, 2]
  k_answer_bit_0_k_store_asked : KwBind fd_answer_bit ["k", "store", "asked"] ["k", "store", "asked"] 0 [0, 1, 2]
  k_told_item_0_k_store_cell_tape : KwBind fd_told_item ["k", "store", "cell", "tape"] ["k", "store", "cell", "tape"] 0 [0, 1, 2, 3]
  k_cell_at_0_k_d_place : KwBind fd_cell_at ["k", "d", "place"] ["k", "d", "place"] 0 [0, 1, 2]
  k_cell_place_0_k_cell : KwBind fd_cell_place ["k", "cell"] ["k", "cell"] 0 [0, 1]
  z_abs : mg "abs" = none
  z_all : mg "all" = none
  z_enumerate : mg "enumerate" = none
  z_int : mg "int" = none
  z_len : mg "len" = none
  z_list : mg "list" = none
  z_range : mg "range" = none
  z_repr : mg "repr" = none
  z_reversed : mg "reversed" = none
  z_sum : mg "sum" = none
  z_tuple : mg "tuple" = none
  z_zip : mg "zip" = none
section
variable {P : Program} {w : World} {K : PySem.W.Frag} {mg : Str → Option Value} {base : Heap}
theorem ok__law_are_alike (m : M K mg) : FnG P w K mg base 1 m.f__law_are_alike m.fd__law_are_alike ["found"] (spF K ec0 1 F__law_are_alike) := fn_ok (ec := ec0) m.u__law_are_alike sc__law_are_alike (fun cdv A outer s H Xc gd hr tk po => 
  ss_one (ss_ret (se_all rfl (by rfl) m.z_all (sa_cons (se_comp (own := [("some", 1)]) rfl sc__law_are_alike.nd (si_seq (sv 0)) (blkOk_by (by first | rfl | decide +kernel)) (fun _ _ _ _ _ => sg_name 1 sc__law_are_alike.nd) (fun _ _ _ _ _ => sts_nil) (fun _ _ _ _ _ => se_eq hr.units (se_comp (own := [("one", 2)]) rfl sc__law_are_alike.nd (si_seq (sv 1)) (blkOk_by (by first | rfl | decide +kernel)) (fun _ _ _ _ _ => sg_name 2 sc__law_are_alike.nd) (fun _ _ _ _ _ => sts_nil) (fun _ _ _ _ _ => se_repr gd hr.units (by rfl) m.z_repr (sa_cons (sv 2) (sa_nil)))) (se_mul (se_lst (sa_cons (se_repr gd hr.units (by rfl) m.z_repr (sa_cons (se_idx (sv 1) (se_int)) (sa_nil))) (sa_nil))) (se_len (by rfl) m.z_len (sa_cons (sv 1) (sa_nil)))))) (sa_nil)))))
theorem ok__law_own_question (m : M K mg) : FnG P w K mg base 1 m.f__law_own_question m.fd__law_own_question ["cell", "tape", "h"] (spF K ec0 3 F__law_own_question) := fn_ok (ec := ec0) m.u__law_own_question sc__law_own_question (fun cdv A outer s H Xc gd hr tk po => 
  ss_cons (ss_par2 3 false 4 true rfl sc__law_own_question.nd (se_lst (sa_nil)) (se_len (by rfl) m.z_len (sa_cons (sv 1) (sa_nil)))) (ss_cons (ss_for [] po rfl (si_enum (by rfl) m.z_enumerate (sv 1)) (sg_tup rfl (sgs_cons (sg_name 5 sc__law_own_question.nd) (sgs_cons (sg_name 6 sc__law_own_question.nd) (sgs_nil)))) (ss_cons (ss_asg 7 true (se_idx (sv 0) (sv 5)) sc__law_own_question.nd) (ss_cons (ss_asg 8 true (se_eq hr.units (se_band (se_shr (sv 2) (se_sub (se_sub (sv 4) (se_int)) (sv 5))) (se_int)) (se_int)) sc__law_own_question.nd) (ss_one (ss_app 3 (se_ifx (st_val (sv 8)) (se_add (se_add (se_slice (sv 6) (so_none) (so_some (sv 7))) (se_tup (sa_cons (se_sub (se_int) (se_idx (sv 6) (sv 7))) (sa_nil)))) (se_slice (sv 6) (so_some (se_add (sv 7) (se_int))) (so_none))) (sv 6))))))) (ss_one (ss_ret (se_tuplec (by rfl) m.z_tuple (sa_cons (sv 3) (sa_nil)))))))
theorem ok_lot_row (m : M K mg) : FnG P w K mg base 1 m.f_lot_row m.fd_lot_row ["n", "lot"] (spF K ec0 2 F_lot_row) := fn_ok (ec := ec0) m.u_lot_row sc_lot_row (fun cdv A outer s H Xc gd hr tk po => 
  ss_cons (ss_asg 2 true (se_dc (own := [("place", 3)]) rfl sc_lot_row.nd (si_seq (sv 1)) (blkOk_by (by first | rfl | decide +kernel)) (fun _ _ _ _ _ => sg_name 3 sc_lot_row.nd) (fun _ _ _ _ _ => sts_nil) (fun _ _ _ _ _ => sv 3) (fun _ _ _ _ _ => se_int)) sc_lot_row.nd) (ss_one (ss_ret (se_tuplec (by rfl) m.z_tuple (sa_cons (se_comp (own := [("place", 3)]) rfl sc_lot_row.nd (si_range1 (by rfl) m.z_range (sa_cons (sv 0) (sa_nil))) (blkOk_by (by first | rfl | decide +kernel)) (fun _ _ _ _ _ => sg_name 3 sc_lot_row.nd) (fun _ _ _ _ _ => sts_nil) (fun _ _ _ _ _ => se_dget hr.units (sv 2) (sv 3) (se_int))) (sa_nil))))))
theorem ok_rows_added (m : M K mg) : FnG P w K mg base 1 m.f_rows_added m.fd_rows_added ["one", "other"] (spF K ec0 2 F_rows_added) := fn_ok (ec := ec0) m.u_rows_added sc_rows_added (fun cdv A outer s H Xc gd hr tk po => 
  ss_one (ss_ret (se_tuplec (by rfl) m.z_tuple (sa_cons (se_comp (own := [("a", 2), ("b", 3)]) rfl sc_rows_added.nd (si_zip2 (by rfl) m.z_zip (sv 0) (sv 1)) (blkOk_by (by first | rfl | decide +kernel)) (fun _ _ _ _ _ => sg_tup rfl (sgs_cons (sg_name 2 sc_rows_added.nd) (sgs_cons (sg_name 3 sc_rows_added.nd) (sgs_nil)))) (fun _ _ _ _ _ => sts_nil) (fun _ _ _ _ _ => se_mod (se_add (sv 2) (sv 3)) (se_int))) (sa_nil)))))
theorem ok_cell_at (m : M K mg) : FnG P w K mg base 1 m.f_cell_at m.fd_cell_at ["k", "d", "place"] (spF K ec0 3 F_cell_at) := fn_ok (ec := ec0) m.u_cell_at sc_cell_at (fun cdv A outer s H Xc gd hr tk po => 
  ss_cons (ss_asg 3 false (se_lst (sa_nil)) sc_cell_at.nd) (ss_cons (ss_for [] po rfl (si_range1 (by rfl) m.z_range (sa_cons (sv 1) (sa_nil))) (sg_name 4 sc_cell_at.nd) (ss_cons (ss_app 3 (se_mod (sv 2) (sv 0))) (ss_one (ss_asg 2 true (se_fdiv (sv 2) (sv 0)) sc_cell_at.nd)))) (ss_one (ss_ret (se_tuplec (by rfl) m.z_tuple (sa_cons (se_revL (sv 3)) (sa_nil)))))))
theorem ok_sides_of (m : M K mg) : FnG P w K mg base 2 m.f_sides_of m.fd_sides_of ["d", "h"] (spF K ec0 2 F_sides_of) := fn_ok (ec := ec0) m.u_sides_of sc_sides_of (fun cdv A outer s H Xc gd hr tk po => 
  ss_one (ss_ret (se_fn tk gd (ok_cell_at m) runF_len (hr.mono (by decide)) (by rfl) m.m_cell_at m.u_cell_at.kp m.b_cell_at (sa_cons (se_int) (sa_cons (sv 0) (sa_cons (sv 1) (sa_nil)))))))
theorem ok_question (m : M K mg) : FnG P w K mg base 3 m.f_question m.fd_question ["k", "cell", "tape", "h"] (spF K ec0 4 F_question) := fn_ok (ec := ec0) m.u_question sc_question (fun cdv A outer s H Xc gd hr tk po => 
  ss_cons (ss_asg 4 false (se_lst (sa_nil)) sc_question.nd) (ss_cons (ss_for [] po rfl (si_zip3 (by rfl) m.z_zip (se_fn tk gd (ok_sides_of m) runF_len (hr.mono (by decide)) (by rfl) m.m_sides_of m.u_sides_of.kp m.b_sides_of (sa_cons (se_len (by rfl) m.z_len (sa_cons (sv 1) (sa_nil))) (sa_cons (sv 3) (sa_nil)))) (sv 1) (sv 2)) (sg_tup rfl (sgs_cons (sg_name 5 sc_question.nd) (sgs_cons (sg_name 6 sc_question.nd) (sgs_cons (sg_name 7 sc_question.nd) (sgs_nil))))) (ss_one (ss_app 4 (se_ifx (st_eq hr.units (sv 5) (se_int)) (se_fn tk gd (ok_rows_added m) runF_len (hr.mono (by decide)) (by rfl) m.m_rows_added m.u_rows_added.kp m.b_rows_added (sa_cons (sv 7) (sa_cons (se_fn tk gd (ok_lot_row m) runF_len (hr.mono (by decide)) (by rfl) m.m_lot_row m.u_lot_row.kp m.b_lot_row (sa_cons (sv 0) (sa_cons (se_tup (sa_cons (sv 6) (sa_nil))) (sa_nil)))) (sa_nil)))) (sv 7))))) (ss_one (ss_ret (se_tuplec (by rfl) m.z_tuple (sa_cons (sv 4) (sa_nil)))))))
theorem ok_all_questions (m : M K mg) : FnG P w K mg base 4 m.f_all_questions m.fd_all_questions ["k", "cell", "tape"] (spF K ec0 3 F_all_questions) := fn_ok (ec := ec0) m.u_all_questions sc_all_questions (fun cdv A outer s H Xc gd hr tk po => 
  ss_one (ss_ret (se_tuplec (by rfl) m.z_tuple (sa_cons (se_comp (own := [("h", 3)]) rfl sc_all_questions.nd (si_range1 (by rfl) m.z_range (sa_cons (se_shl (se_int) (se_len (by rfl) m.z_len (sa_cons (sv 1) (sa_nil)))) (sa_nil))) (blkOk_by (by first | rfl | decide +kernel)) (fun _ _ _ _ _ => sg_name 3 sc_all_questions.nd) (fun _ _ _ _ _ => sts_nil) (fun _ _ _ _ _ => se_fn takes0 gd (ok_question m) runF_len (hr.mono (by decide)) (by rfl) m.m_question m.u_question.kp m.b_question (sa_cons (sv 0) (sa_cons (sv 1) (sa_cons (sv 2) (sa_cons (sv 3) (sa_nil))))))) (sa_nil)))))
theorem ok__law_ask_questions (m : M K mg) : FnG P w K mg base 5 m.f__law_ask_questions m.fd__law_ask_questions ["k", "cell", "tape"] (spF K ec0 3 F__law_ask_questions) := fn_ok (ec := ec0) m.u__law_ask_questions sc__law_ask_questions (fun cdv A outer s H Xc gd hr tk po => 
  ss_cons (ss_par2 5 false 6 false rfl sc__law_ask_questions.nd (se_lst (sa_nil)) (se_lst (sa_nil))) (ss_cons (ss_for [] po rfl (si_range1 (by rfl) m.z_range (sa_cons (se_idx (se_lst (sa_cons (se_int) (sa_cons (se_int) (sa_cons (se_int) (sa_cons (se_int) (sa_cons (se_int) (sa_nil))))))) (se_len (by rfl) m.z_len (sa_cons (sv 1) (sa_nil)))) (sa_nil))) (sg_name 3 sc__law_ask_questions.nd) (ss_cons (ss_asg 4 true (se_fn tk gd (ok__law_own_question m) runF_len (hr.mono (by decide)) (by rfl) m.m__law_own_question m.u__law_own_question.kp m.b__law_own_question (sa_cons (sv 1) (sa_cons (sv 2) (sa_cons (sv 3) (sa_nil))))) sc__law_ask_questions.nd) (ss_cons (ss_app 6 (sv 4)) (ss_cons (ss_app 5 (se_lst (sa_cons (sv 4) (sa_cons (se_fn tk gd (ok_question m) runF_len (hr.mono (by decide)) (by rfl) m.m_question m.u_question.kp m.b_question (sa_cons (sv 0) (sa_cons (sv 1) (sa_cons (sv 2) (sa_cons (sv 3) (sa_nil)))))) (sa_cons (se_fnK tk gd (ok_question m) runF_len (hr.mono (by decide)) (by rfl) m.m_question m.u_question.kp m.k_question_0_k_cell_tape_h (sk_cons (sv 0) (sk_cons (sv 1) (sk_cons (sv 2) (sk_cons (sv 3) (sk_nil)))))) (sa_nil)))))) (ss_one (ss_app 5 (se_lst (sa_cons (sv 2) (sa_cons (se_fn tk gd (ok_question m) runF_len (hr.mono (by decide)) (by rfl) m.m_question m.u_question.kp m.b_question (sa_cons (sv 0) (sa_cons (sv 1) (sa_cons (sv 4) (sa_cons (sv 3) (sa_nil)))))) (sa_cons (se_fn tk gd (ok_question m) runF_len (hr.mono (by decide)) (by rfl) m.m_question m.u_question.kp m.b_question (sa_cons (sv 0) (sa_cons (sv 1) (sa_cons (se_fn tk gd (ok_question m) runF_len (hr.mono (by decide)) (by rfl) m.m_question m.u_question.kp m.b_question (sa_cons (sv 0) (sa_cons (sv 1) (sa_cons (sv 2) (sa_cons (sv 3) (sa_nil)))))) (sa_cons (sv 3) (sa_nil)))))) (sa_nil))))))))))) (ss_cons (ss_asg 4 true (se_tuplec (by rfl) m.z_tuple (sa_cons (sv 6) (sa_nil))) sc__law_ask_questions.nd) (ss_cons (ss_app 5 (se_lst (sa_cons (sv 4) (sa_cons (se_fn tk gd (ok_all_questions m) runF_len (hr.mono (by decide)) (by rfl) m.m_all_questions m.u_all_questions.kp m.b_all_questions (sa_cons (sv 0) (sa_cons (sv 1) (sa_cons (sv 2) (sa_nil))))) (sa_cons (se_fnK tk gd (ok_all_questions m) runF_len (hr.mono (by decide)) (by rfl) m.m_all_questions m.u_all_questions.kp m.k_all_questions_0_k_cell_tape (sk_cons (sv 0) (sk_cons (sv 1) (sk_cons (sv 2) (sk_nil))))) (sa_nil)))))) (ss_one (ss_ret (sv 5)))))))
theorem ok__law_draw (m : M K mg) : FnG P w K mg base 1 m.f__law_draw m.fd__law_draw ["bag", "below"] (spF K ec0 2 F__law_draw) := fn_ok (ec := ec0) m.u__law_draw sc__law_draw (fun cdv A outer s H Xc gd hr tk po => 
  ss_cons (ss_while [] (fun _ β => β.cs.length + 1) po (st_bop (sw_and (st_eq hr.units (se_bag1 0) (se_int)) (sw_and1 (st_bagNE 0 hr.units)))) (ss_cons (ss_bagPop 2 0 sc__law_draw.nd) (ss_one (ss_bagSet1 0 (se_ifx (st_gt (sv 2) (se_pow (se_int) (se_int))) (sv 2) (se_int)))))) (ss_cons (ss_if (st_gt (se_bag1 0) (se_int)) (ss_cons (ss_asg 3 true (se_mod (se_intc (by rfl) m.z_int (sa_cons (se_bag1 0) (sa_nil))) (sv 1)) sc__law_draw.nd) (ss_cons (ss_bagSet1 0 (se_fdiv (se_bag1 0) (sv 1))) (ss_one (ss_ret (sv 3))))) (ss_nil)) (ss_cons (ss_bagSet2 0 (se_mod (se_intc (by rfl) m.z_int (sa_cons (se_add (se_mul (se_bag2 0) (se_int)) (se_int)) (sa_nil))) (se_int))) (ss_one (ss_ret (se_mod (se_intc (by rfl) m.z_int (sa_cons (se_fdiv (se_mod (se_intc (by rfl) m.z_int (sa_cons (se_mul (se_bag2 0) (se_bag2 0)) (sa_nil))) (se_int)) (se_int)) (sa_nil))) (sv 1)))))))
theorem ok__law_own_answer (m : M K mg) : FnG P w K mg base 1 m.f__law_own_answer m.fd__law_own_answer ["k", "store", "asked"] (spF K ec0 3 F__law_own_answer) := fn_ok (ec := ec0) m.u__law_own_answer sc__law_own_answer (fun cdv A outer s H Xc gd hr tk po => 
  ss_cons (ss_asg 3 true (se_lst (sa_cons (se_int) (sa_nil))) sc__law_own_answer.nd) (ss_cons (ss_for [] po rfl (si_seq (sv 2)) (sg_name 4 sc__law_own_answer.nd) (ss_cons (ss_par2 6 true 7 false rfl sc__law_own_answer.nd (se_comp (own := [("c", 8), ("bit", 9)]) rfl sc__law_own_answer.nd (si_enum (by rfl) m.z_enumerate (sv 4)) (blkOk_by (by first | rfl | decide +kernel)) (fun _ _ _ _ _ => sg_tup rfl (sgs_cons (sg_name 8 sc__law_own_answer.nd) (sgs_cons (sg_name 9 sc__law_own_answer.nd) (sgs_nil)))) (fun _ _ _ _ _ => sts_one (st_eq hr.units (sv 9) (se_int))) (fun _ _ _ _ _ => sv 8)) (se_lst (sa_nil))) (ss_cons (ss_for [] po rfl (si_seq (sv 3)) (sg_name 5 sc__law_own_answer.nd) (ss_one (ss_ext 7 (se_comp (own := [("c", 8)]) rfl sc__law_own_answer.nd (si_seq (sv 6)) (blkOk_by (by first | rfl | decide +kernel)) (fun _ _ _ _ _ => sg_name 8 sc__law_own_answer.nd) (fun _ _ _ _ _ => sts_nil) (fun _ _ _ _ _ => se_add (se_mul (sv 5) (sv 0)) (sv 8)))))) (ss_frz 7 (ss_one (ss_asg 3 true (sv 7) sc__law_own_answer.nd)))))) (ss_one (ss_ret (se_mod (se_intc (by rfl) m.z_int (sa_cons (se_sum rfl (by rfl) m.z_sum (sa_cons (se_comp (own := [("place", 5)]) rfl sc__law_own_answer.nd (si_seq (sv 3)) (blkOk_by (by first | rfl | decide +kernel)) (fun _ _ _ _ _ => sg_name 5 sc__law_own_answer.nd) (fun _ _ _ _ _ => sts_nil) (fun _ _ _ _ _ => se_idx (sv 1) (sv 5))) (sa_nil))) (sa_nil))) (se_int))))))
theorem ok_answer_bit (m : M K mg) : FnG P w K mg base 1 m.f_answer_bit m.fd_answer_bit ["k", "store", "asked"] (spF K ec0 3 F_answer_bit) := fn_ok (ec := ec0) m.u_answer_bit sc_answer_bit (fun cdv A outer s H Xc gd hr tk po => 
  ss_cons (ss_asg 3 true (se_lst (sa_cons (se_int) (sa_nil))) sc_answer_bit.nd) (ss_cons (ss_for [] po rfl (si_seq (sv 2)) (sg_name 4 sc_answer_bit.nd) (ss_cons (ss_asgComp (own := [("item", 8), ("bit", 9)]) 5 true rfl sc_answer_bit.nd rfl rfl (sw_true rfl rfl rfl (by first | rfl | decide +kernel)) (si_enum (by rfl) m.z_enumerate (sv 4)) (blkOk_by (by first | rfl | decide +kernel)) (fun _ _ _ _ _ => sg_tup rfl (sgs_cons (sg_name 8 sc_answer_bit.nd) (sgs_cons (sg_name 9 sc_answer_bit.nd) (sgs_nil)))) (fun _ _ _ _ _ => sts_one (st_eq hr.units (sv 9) (se_int))) (fun _ _ _ _ _ => sv 8)) (ss_cons (ss_asg 6 false (se_lst (sa_nil)) sc_answer_bit.nd) (ss_cons (ss_for [] po rfl (si_seq (sv 3)) (sg_name 7 sc_answer_bit.nd) (ss_one (ss_ext 6 (se_comp (own := [("item", 8)]) rfl sc_answer_bit.nd (si_seq (sv 5)) (blkOk_by (by first | rfl | decide +kernel)) (fun _ _ _ _ _ => sg_name 8 sc_answer_bit.nd) (fun _ _ _ _ _ => sts_nil) (fun _ _ _ _ _ => se_add (se_mul (sv 7) (sv 0)) (sv 8)))))) (ss_frz 6 (ss_one (ss_asg 3 true (sv 6) sc_answer_bit.nd))))))) (ss_one (ss_ret (se_mod (se_sum rfl (by rfl) m.z_sum (sa_cons (se_comp (own := [("place", 7)]) rfl sc_answer_bit.nd (si_seq (sv 3)) (blkOk_by (by first | rfl | decide +kernel)) (fun _ _ _ _ _ => sg_name 7 sc_answer_bit.nd) (fun _ _ _ _ _ => sts_nil) (fun _ _ _ _ _ => se_idx (sv 1) (sv 7))) (sa_nil))) (se_int))))))
theorem ok__law_ask_answers (m : M K mg) : FnG P w K mg base 2 m.f__law_ask_answers m.fd__law_ask_answers ["k", "store", "some"] (spF K ec0 3 F__law_ask_answers) := fn_ok (ec := ec0) m.u__law_ask_answers sc__law_ask_answers (fun cdv A outer s H Xc gd hr tk po => 
  ss_cons (ss_asg 3 false (se_lst (sa_nil)) sc__law_ask_answers.nd) (ss_cons (ss_for [] po rfl (si_seq (sv 2)) (sg_name 4 sc__law_ask_answers.nd) (ss_cons (ss_asg 5 true (se_fn tk gd (ok__law_own_answer m) runF_len (hr.mono (by decide)) (by rfl) m.m__law_own_answer m.u__law_own_answer.kp m.b__law_own_answer (sa_cons (sv 0) (sa_cons (sv 1) (sa_cons (sv 4) (sa_nil))))) sc__law_ask_answers.nd) (ss_one (ss_app 3 (se_lst (sa_cons (sv 5) (sa_cons (se_fn tk gd (ok_answer_bit m) runF_len (hr.mono (by decide)) (by rfl) m.m_answer_bit m.u_answer_bit.kp m.b_answer_bit (sa_cons (sv 0) (sa_cons (sv 1) (sa_cons (sv 4) (sa_nil))))) (sa_cons (se_fnK tk gd (ok_answer_bit m) runF_len (hr.mono (by decide)) (by rfl) m.m_answer_bit m.u_answer_bit.kp m.k_answer_bit_0_k_store_asked (sk_cons (sv 0) (sk_cons (sv 1) (sk_cons (sv 4) (sk_nil))))) (sa_nil))))))))) (ss_one (ss_ret (sv 3)))))
theorem ok__law_odd (m : M K mg) : FnG P w K mg base 1 m.f__law_odd m.fd__law_odd ["bits"] (spF K ec0 1 F__law_odd) := fn_ok (ec := ec0) m.u__law_odd sc__law_odd (fun cdv A outer s H Xc gd hr tk po => 
  ss_cons (ss_asgComp (own := [("bit", 2)]) 1 true rfl sc__law_odd.nd rfl rfl (sw_true rfl rfl rfl (by first | rfl | decide +kernel)) (si_seq (sv 0)) (blkOk_by (by first | rfl | decide +kernel)) (fun _ _ _ _ _ => sg_name 2 sc__law_odd.nd) (fun _ _ _ _ _ => sts_nil) (fun _ _ _ _ _ => se_repr gd hr.units (by rfl) m.z_repr (sa_cons (sv 2) (sa_nil)))) (ss_cons (ss_if (st_ne hr.units (se_add (se_count hr.units (sv 1) (se_str)) (se_count hr.units (sv 1) (se_str))) (se_len (by rfl) m.z_len (sa_cons (sv 1) (sa_nil)))) (ss_one (ss_ret (se_non))) (ss_nil)) (ss_one (ss_ret (se_mod (se_intc (by rfl) m.z_int (sa_cons (se_count hr.units (sv 1) (se_str)) (sa_nil))) (se_int))))))
theorem ok__law_own_cell (m : M K mg) : FnG P w K mg base 1 m.f__law_own_cell m.fd__law_own_cell ["k", "d", "place"] (spF K ec0 3 F__law_own_cell) := fn_ok (ec := ec0) m.u__law_own_cell sc__law_own_cell (fun cdv A outer s H Xc gd hr tk po => 
  ss_cons (ss_par2 4 false 5 true rfl sc__law_own_cell.nd (se_lst (sa_nil)) (sv 2)) (ss_cons (ss_for [] po rfl (si_range1 (by rfl) m.z_range (sa_cons (sv 1) (sa_nil))) (sg_name 3 sc__law_own_cell.nd) (ss_cons (ss_app 4 (se_mod (se_intc (by rfl) m.z_int (sa_cons (sv 5) (sa_nil))) (sv 0))) (ss_one (ss_asg 5 true (se_fdiv (sv 5) (sv 0)) sc__law_own_cell.nd)))) (ss_one (ss_ret (se_tuplec (by rfl) m.z_tuple (sa_cons (se_lstRev rfl (by rfl) m.z_list (by rfl) m.z_reversed (sv 4)) (sa_nil)))))))
theorem ok_told_item (m : M K mg) : FnG P w K mg base 5 m.f_told_item m.fd_told_item ["k", "store", "cell", "tape"] (spF K ec0 4 F_told_item) := fn_ok (ec := ec0) m.u_told_item sc_told_item (fun cdv A outer s H Xc gd hr tk po => 
  ss_one (ss_ret (se_mod (se_sum rfl (by rfl) m.z_sum (sa_cons (se_comp (own := [("asked", 4)]) rfl sc_told_item.nd (si_seq (se_fn tk gd (ok_all_questions m) runF_len (hr.mono (by decide)) (by rfl) m.m_all_questions m.u_all_questions.kp m.b_all_questions (sa_cons (sv 0) (sa_cons (sv 2) (sa_cons (sv 3) (sa_nil)))))) (blkOk_by (by first | rfl | decide +kernel)) (fun _ _ _ _ _ => sg_name 4 sc_told_item.nd) (fun _ _ _ _ _ => sts_nil) (fun _ _ _ _ _ => se_fn takes0 gd (ok_answer_bit m) runF_len (hr.mono (by decide)) (by rfl) m.m_answer_bit m.u_answer_bit.kp m.b_answer_bit (sa_cons (sv 0) (sa_cons (sv 1) (sa_cons (sv 4) (sa_nil)))))) (sa_nil))) (se_int))))
theorem ok__law_ask_items (m : M K mg) : FnG P w K mg base 6 m.f__law_ask_items m.fd__law_ask_items ["k", "d", "stores", "tapes", "places"] (spF K ec0 5 F__law_ask_items) := fn_ok (ec := ec0) m.u__law_ask_items sc__law_ask_items (fun cdv A outer s H Xc gd hr tk po => 
  ss_cons (ss_asg 5 false (se_lst (sa_nil)) sc__law_ask_items.nd) (ss_cons (ss_for [] po rfl (si_seq (sv 4)) (sg_name 6 sc__law_ask_items.nd) (ss_cons (ss_asg 8 true (se_fn tk gd (ok__law_own_cell m) runF_len (hr.mono (by decide)) (by rfl) m.m__law_own_cell m.u__law_own_cell.kp m.b__law_own_cell (sa_cons (sv 0) (sa_cons (sv 1) (sa_cons (sv 6) (sa_nil))))) sc__law_ask_items.nd) (ss_one (ss_for [] po rfl (si_seq (sv 3)) (sg_name 9 sc__law_ask_items.nd) (ss_cons (ss_for [] po rfl (si_seq (sv 2)) (sg_name 12 sc__law_ask_items.nd) (ss_cons (ss_asg 11 true (se_idx (sv 12) (sv 6)) sc__law_ask_items.nd) (ss_one (ss_app 5 (se_lst (sa_cons (sv 11) (sa_cons (se_fn tk gd (ok_told_item m) runF_len (hr.mono (by decide)) (by rfl) m.m_told_item m.u_told_item.kp m.b_told_item (sa_cons (sv 0) (sa_cons (sv 12) (sa_cons (sv 8) (sa_cons (sv 9) (sa_nil)))))) (sa_nil)))))))) (ss_cons (ss_asg 11 true (se_idx (se_idx (sv 2) (se_int)) (sv 6)) sc__law_ask_items.nd) (ss_one (ss_app 5 (se_lst (sa_cons (sv 11) (sa_cons (se_fnK tk gd (ok_told_item m) runF_len (hr.mono (by decide)) (by rfl) m.m_told_item m.u_told_item.kp m.k_told_item_0_k_store_cell_tape (sk_cons (sv 0) (sk_cons (se_idx (sv 2) (se_int)) (sk_cons (sv 8) (sk_cons (sv 9) (sk_nil)))))) (sa_nil)))))))))))) (ss_cons (ss_unp (se_tup (sa_cons (se_fn tk gd (ok__law_own_cell m) runF_len (hr.mono (by decide)) (by rfl) m.m__law_own_cell m.u__law_own_cell.kp m.b__law_own_cell (sa_cons (sv 0) (sa_cons (sv 1) (sa_cons (se_idx (sv 4) (se_int)) (sa_nil))))) (sa_cons (se_idx (sv 3) (se_int)) (sa_nil)))) (sg_tup rfl (sgs_cons (sg_name 8 sc__law_ask_items.nd) (sgs_cons (sg_name 9 sc__law_ask_items.nd) (sgs_nil))))) (ss_cons (ss_asg 7 true (se_listRg rfl (by rfl) m.z_list (by rfl) m.z_range (se_idx (se_lst (sa_cons (se_int) (sa_cons (se_int) (sa_cons (se_int) (sa_cons (se_int) (sa_cons (se_int) (sa_nil))))))) (sv 1))) sc__law_ask_items.nd) (ss_cons (ss_par2 10 true 11 true rfl sc__law_ask_items.nd (se_comp (own := [("h", 13)]) rfl sc__law_ask_items.nd (si_seq (sv 7)) (blkOk_by (by first | rfl | decide +kernel)) (fun _ _ _ _ _ => sg_name 13 sc__law_ask_items.nd) (fun _ _ _ _ _ => sts_nil) (fun _ _ _ _ _ => se_fn takes0 gd (ok__law_own_question m) runF_len (hr.mono (by decide)) (by rfl) m.m__law_own_question m.u__law_own_question.kp m.b__law_own_question (sa_cons (sv 8) (sa_cons (sv 9) (sa_cons (sv 13) (sa_nil)))))) (se_idx (se_idx (sv 2) (se_int)) (se_idx (sv 4) (se_int)))) (ss_cons (ss_app 5 (se_lst (sa_cons (sv 11) (sa_cons (se_fn tk gd (ok__law_odd m) runF_len (hr.mono (by decide)) (by rfl) m.m__law_odd m.u__law_odd.kp m.b__law_odd (sa_cons (se_comp (own := [("asked", 14)]) rfl sc__law_ask_items.nd (si_seq (sv 10)) (blkOk_by (by first | rfl | decide +kernel)) (fun _ _ _ _ _ => sg_name 14 sc__law_ask_items.nd) (fun _ _ _ _ _ => sts_nil) (fun _ _ _ _ _ => se_fn takes0 gd (ok_answer_bit m) runF_len (hr.mono (by decide)) (by rfl) m.m_answer_bit m.u_answer_bit.kp m.b_answer_bit (sa_cons (sv 0) (sa_cons (se_idx (sv 2) (se_int)) (sa_cons (sv 14) (sa_nil)))))) (sa_nil))) (sa_nil))))) (ss_one (ss_ret (sv 5)))))))))
theorem ok_cell_place (m : M K mg) : FnG P w K mg base 1 m.f_cell_place m.fd_cell_place ["k", "cell"] (spF K ec0 2 F_cell_place) := fn_ok (ec := ec0) m.u_cell_place sc_cell_place (fun cdv A outer s H Xc gd hr tk po => 
  ss_cons (ss_asg 2 true (se_int) sc_cell_place.nd) (ss_cons (ss_for [] po rfl (si_seq (sv 1)) (sg_name 3 sc_cell_place.nd) (ss_one (ss_asg 2 true (se_add (se_mul (sv 2) (sv 0)) (sv 3)) sc_cell_place.nd))) (ss_one (ss_ret (sv 2)))))
theorem ok__law_ask_places (m : M K mg) : FnG P w K mg base 2 m.f__law_ask_places m.fd__law_ask_places ["k", "d", "places"] (spF K ec0 3 F__law_ask_places) := fn_ok (ec := ec0) m.u__law_ask_places sc__law_ask_places (fun cdv A outer s H Xc gd hr tk po => 
  ss_cons (ss_asg 3 false (se_lst (sa_nil)) sc__law_ask_places.nd) (ss_cons (ss_for [] po rfl (si_seq (sv 2)) (sg_name 4 sc__law_ask_places.nd) (ss_cons (ss_asg 5 true (se_fn tk gd (ok__law_own_cell m) runF_len (hr.mono (by decide)) (by rfl) m.m__law_own_cell m.u__law_own_cell.kp m.b__law_own_cell (sa_cons (sv 0) (sa_cons (sv 1) (sa_cons (sv 4) (sa_nil))))) sc__law_ask_places.nd) (ss_cons (ss_app 3 (se_lst (sa_cons (sv 5) (sa_cons (se_fn tk gd (ok_cell_at m) runF_len (hr.mono (by decide)) (by rfl) m.m_cell_at m.u_cell_at.kp m.b_cell_at (sa_cons (sv 0) (sa_cons (sv 1) (sa_cons (sv 4) (sa_nil))))) (sa_cons (se_fnK tk gd (ok_cell_at m) runF_len (hr.mono (by decide)) (by rfl) m.m_cell_at m.u_cell_at.kp m.k_cell_at_0_k_d_place (sk_cons (sv 0) (sk_cons (sv 1) (sk_cons (sv 4) (sk_nil))))) (sa_nil)))))) (ss_one (ss_app 3 (se_lst (sa_cons (sv 4) (sa_cons (se_fn tk gd (ok_cell_place m) runF_len (hr.mono (by decide)) (by rfl) m.m_cell_place m.u_cell_place.kp m.b_cell_place (sa_cons (sv 0) (sa_cons (sv 5) (sa_nil)))) (sa_cons (se_fnK tk gd (ok_cell_place m) runF_len (hr.mono (by decide)) (by rfl) m.m_cell_place m.u_cell_place.kp m.k_cell_place_0_k_cell (sk_cons (sv 0) (sk_cons (sv 5) (sk_nil)))) (sa_nil)))))))))) (ss_one (ss_ret (sv 3)))))
theorem ok__law_cells_many (m : M K mg) : FnG P w K mg base 1 m.f__law_cells_many m.fd__law_cells_many ["k", "d"] (spF K ec0 2 F__law_cells_many) := fn_ok (ec := ec0) m.u__law_cells_many sc__law_cells_many (fun cdv A outer s H Xc gd hr tk po => 
  ss_cons (ss_asg 2 true (se_int) sc__law_cells_many.nd) (ss_cons (ss_for [] po rfl (si_range1 (by rfl) m.z_range (sa_cons (sv 1) (sa_nil))) (sg_name 3 sc__law_cells_many.nd) (ss_one (ss_asg 2 true (se_mul (sv 2) (sv 0)) sc__law_cells_many.nd))) (ss_one (ss_ret (sv 2)))))
theorem ok__law_unit (m : M K mg) : FnG P w K mg base 1 m.f__law_unit m.fd__law_unit ["k", "at"] (spF K ec0 2 F__law_unit) := fn_ok (ec := ec0) m.u__law_unit sc__law_unit (fun cdv A outer s H Xc gd hr tk po => 
  ss_one (ss_ret (se_add (se_add (se_mul (se_tup (sa_cons (se_int) (sa_nil))) (sv 1)) (se_tup (sa_cons (se_int) (sa_nil)))) (se_mul (se_tup (sa_cons (se_int) (sa_nil))) (se_sub (se_sub (sv 0) (se_int)) (sv 1))))))
theorem ok__law_own_store (m : M K mg) : FnG P w K mg base 2 m.f__law_own_store m.fd__law_own_store ["bag", "many"] (spF K ec0 2 F__law_own_store) := fn_ok (ec := ec0) m.u__law_own_store sc__law_own_store (fun cdv A outer s H Xc gd hr tk po => 
  ss_cons (ss_par2 3 true 4 false rfl sc__law_own_store.nd (se_fn tk gd (ok__law_draw m) runF_len (hr.mono (by decide)) (by rfl) m.m__law_draw m.u__law_draw.kp m.b__law_draw (sa_cons (sv 0) (sa_cons (se_int) (sa_nil)))) (se_lst (sa_nil))) (ss_cons (ss_if (st_eq hr.units (sv 3) (se_int)) (ss_one (ss_ret (se_fn tk gd (ok__law_unit m) runF_len (hr.mono (by decide)) (by rfl) m.m__law_unit m.u__law_unit.kp m.b__law_unit (sa_cons (sv 1) (sa_cons (se_fn tk gd (ok__law_draw m) runF_len (hr.mono (by decide)) (by rfl) m.m__law_draw m.u__law_draw.kp m.b__law_draw (sa_cons (sv 0) (sa_cons (sv 1) (sa_nil)))) (sa_nil)))))) (ss_nil)) (ss_cons (ss_if (st_eq hr.units (sv 3) (se_int)) (ss_one (ss_ret (se_mul (se_tup (sa_cons (se_int) (sa_nil))) (sv 1)))) (ss_nil)) (ss_cons (ss_for [] po rfl (si_range1 (by rfl) m.z_range (sa_cons (se_add (se_fdiv (sv 1) (se_int)) (se_int)) (sa_nil))) (sg_name 2 sc__law_own_store.nd) (ss_cons (ss_asg 5 true (se_fn tk gd (ok__law_draw m) runF_len (hr.mono (by decide)) (by rfl) m.m__law_draw m.u__law_draw.kp m.b__law_draw (sa_cons (sv 0) (sa_cons (se_int) (sa_nil)))) sc__law_own_store.nd) (ss_one (ss_ext 4 (se_comp (own := [("i", 6)]) rfl sc__law_own_store.nd (si_range1 (by rfl) m.z_range (sa_cons (se_int) (sa_nil))) (blkOk_by (by first | rfl | decide +kernel)) (fun _ _ _ _ _ => sg_name 6 sc__law_own_store.nd) (fun _ _ _ _ _ => sts_nil) (fun _ _ _ _ _ => se_band (se_shr (sv 5) (sv 6)) (se_int))))))) (ss_one (ss_ret (se_tuplec (by rfl) m.z_tuple (sa_cons (se_slice (sv 4) (so_none) (so_some (sv 1))) (sa_nil)))))))))
theorem ok__law_own_row (m : M K mg) : FnG P w K mg base 2 m.f__law_own_row m.fd__law_own_row ["bag", "k"] (spF K ec0 2 F__law_own_row) := fn_ok (ec := ec0) m.u__law_own_row sc__law_own_row (fun cdv A outer s H Xc gd hr tk po => 
  ss_cons (ss_asg 2 true (se_fn tk gd (ok__law_draw m) runF_len (hr.mono (by decide)) (by rfl) m.m__law_draw m.u__law_draw.kp m.b__law_draw (sa_cons (sv 0) (sa_cons (se_int) (sa_nil)))) sc__law_own_row.nd) (ss_cons (ss_if (st_eq hr.units (sv 2) (se_int)) (ss_one (ss_ret (se_mul (se_tup (sa_cons (se_int) (sa_nil))) (sv 1)))) (ss_nil)) (ss_cons (ss_if (st_eq hr.units (sv 2) (se_int)) (ss_one (ss_ret (se_mul (se_tup (sa_cons (se_int) (sa_nil))) (sv 1)))) (ss_nil)) (ss_cons (ss_if (st_eq hr.units (sv 2) (se_int)) (ss_one (ss_ret (se_fn tk gd (ok__law_unit m) runF_len (hr.mono (by decide)) (by rfl) m.m__law_unit m.u__law_unit.kp m.b__law_unit (sa_cons (sv 1) (sa_cons (se_fn tk gd (ok__law_draw m) runF_len (hr.mono (by decide)) (by rfl) m.m__law_draw m.u__law_draw.kp m.b__law_draw (sa_cons (sv 0) (sa_cons (sv 1) (sa_nil)))) (sa_nil)))))) (ss_nil)) (ss_cons (ss_asg 3 true (se_fn tk gd (ok__law_draw m) runF_len (hr.mono (by decide)) (by rfl) m.m__law_draw m.u__law_draw.kp m.b__law_draw (sa_cons (sv 0) (sa_cons (se_int) (sa_nil)))) sc__law_own_row.nd) (ss_one (ss_ret (se_tuplec (by rfl) m.z_tuple (sa_cons (se_comp (own := [("i", 4)]) rfl sc__law_own_row.nd (si_range1 (by rfl) m.z_range (sa_cons (sv 1) (sa_nil))) (blkOk_by (by first | rfl | decide +kernel)) (fun _ _ _ _ _ => sg_name 4 sc__law_own_row.nd) (fun _ _ _ _ _ => sts_nil) (fun _ _ _ _ _ => se_band (se_shr (sv 3) (sv 4)) (se_int))) (sa_nil))))))))))
theorem ok__law_rows (m : M K mg) : FnG P w K mg base 3 m.f__law_rows m.fd__law_rows ["bag", "k", "d"] (spF K ec0 3 F__law_rows) := fn_ok (ec := ec0) m.u__law_rows sc__law_rows (fun cdv A outer s H Xc gd hr tk po => 
  ss_one (ss_ret (se_tuplec (by rfl) m.z_tuple (sa_cons (se_comp (own := [("i", 3)]) rfl sc__law_rows.nd (si_range1 (by rfl) m.z_range (sa_cons (sv 2) (sa_nil))) (blkOk_by (by first | rfl | decide +kernel)) (fun _ _ _ _ _ => sg_name 3 sc__law_rows.nd) (fun _ _ _ _ _ => sts_nil) (fun _ _ _ _ _ => se_fn takes0 gd (ok__law_own_row m) runF_len (hr.mono (by decide)) (by rfl) m.m__law_own_row m.u__law_own_row.kp m.b__law_own_row (sa_cons (sv 0) (sa_cons (sv 1) (sa_nil))))) (sa_nil)))))
theorem ok__law_some_places (m : M K mg) : FnG P w K mg base 2 m.f__law_some_places m.fd__law_some_places ["bag", "k", "d"] (spF K ec0 3 F__law_some_places) := fn_ok (ec := ec0) m.u__law_some_places sc__law_some_places (fun cdv A outer s H Xc gd hr tk po => 
  ss_cons (ss_asg 3 true (se_fn tk gd (ok__law_cells_many m) runF_len (hr.mono (by decide)) (by rfl) m.m__law_cells_many m.u__law_cells_many.kp m.b__law_cells_many (sa_cons (sv 1) (sa_cons (sv 2) (sa_nil)))) sc__law_some_places.nd) (ss_cons (ss_if (st_le (sv 3) (se_int)) (ss_one (ss_ret (se_listRg rfl (by rfl) m.z_list (by rfl) m.z_range (sv 3)))) (ss_nil)) (ss_cons (ss_asg 4 false (se_lst (sa_cons (se_int) (sa_cons (se_int) (sa_cons (se_sub (sv 3) (se_int)) (sa_cons (se_sub (sv 3) (se_int)) (sa_nil)))))) sc__law_some_places.nd) (ss_cons (ss_for [] po rfl (si_range2 (by rfl) m.z_range (sa_cons (se_int) (sa_cons (sv 2) (sa_nil)))) (sg_name 5 sc__law_some_places.nd) (ss_cons (ss_asg 6 true (se_fn tk gd (ok__law_cells_many m) runF_len (hr.mono (by decide)) (by rfl) m.m__law_cells_many m.u__law_cells_many.kp m.b__law_cells_many (sa_cons (sv 1) (sa_cons (sv 5) (sa_nil)))) sc__law_some_places.nd) (ss_one (ss_ext 4 (se_lst (sa_cons (se_sub (sv 6) (se_int)) (sa_cons (sv 6) (sa_cons (se_sub (se_sub (sv 3) (sv 6)) (se_int)) (sa_cons (se_sub (sv 3) (sv 6)) (sa_nil)))))))))) (ss_one (ss_ret (se_add (sv 4) (se_comp (own := [("turn", 5)]) rfl sc__law_some_places.nd (si_range1 (by rfl) m.z_range (sa_cons (se_int) (sa_nil))) (blkOk_by (by first | rfl | decide +kernel)) (fun _ _ _ _ _ => sg_name 5 sc__law_some_places.nd) (fun _ _ _ _ _ => sts_nil) (fun _ _ _ _ _ => se_fn takes0 gd (ok__law_draw m) runF_len (hr.mono (by decide)) (by rfl) m.m__law_draw m.u__law_draw.kp m.b__law_draw (sa_cons (sv 0) (sa_cons (sv 3) (sa_nil))))))))))))
theorem ok__law_turned (m : M K mg) : FnG P w K mg base 1 m.f__law_turned m.fd__law_turned ["store", "place"] (spF K ec0 2 F__law_turned) := fn_ok (ec := ec0) m.u__law_turned sc__law_turned (fun cdv A outer s H Xc gd hr tk po => 
  ss_one (ss_ret (se_add (se_add (se_slice (sv 0) (so_none) (so_some (sv 1))) (se_tup (sa_cons (se_sub (se_int) (se_idx (sv 0) (sv 1))) (sa_nil)))) (se_slice (sv 0) (so_some (se_add (sv 1) (se_int))) (so_none)))))
theorem ok__law_one_cube (m : M K mg) : FnG P w K mg base 7 m.f__law_one_cube m.fd__law_one_cube ["bag", "k", "d"] (spF K ec0 3 F__law_one_cube) := fn_ok (ec := ec0) m.u__law_one_cube sc__law_one_cube (fun cdv A outer s H Xc gd hr tk po => 
  ss_cons (ss_asg 3 true (se_fn tk gd (ok__law_cells_many m) runF_len (hr.mono (by decide)) (by rfl) m.m__law_cells_many m.u__law_cells_many.kp m.b__law_cells_many (sa_cons (sv 1) (sa_cons (sv 2) (sa_nil)))) sc__law_one_cube.nd) (ss_cons (ss_par3 8 true 9 true 10 true rfl sc__law_one_cube.nd (se_fn tk gd (ok__law_own_store m) runF_len (hr.mono (by decide)) (by rfl) m.m__law_own_store m.u__law_own_store.kp m.b__law_own_store (sa_cons (sv 0) (sa_cons (sv 3) (sa_nil)))) (se_fn tk gd (ok__law_draw m) runF_len (hr.mono (by decide)) (by rfl) m.m__law_draw m.u__law_draw.kp m.b__law_draw (sa_cons (sv 0) (sa_cons (sv 3) (sa_nil)))) (se_fn tk gd (ok__law_draw m) runF_len (hr.mono (by decide)) (by rfl) m.m__law_draw m.u__law_draw.kp m.b__law_draw (sa_cons (sv 0) (sa_cons (sv 3) (sa_nil))))) (ss_cons (ss_unp (se_tup (sa_cons (se_fn tk gd (ok__law_rows m) runF_len (hr.mono (by decide)) (by rfl) m.m__law_rows m.u__law_rows.kp m.b__law_rows (sa_cons (sv 0) (sa_cons (sv 1) (sa_cons (sv 2) (sa_nil))))) (sa_cons (se_fn tk gd (ok__law_rows m) runF_len (hr.mono (by decide)) (by rfl) m.m__law_rows m.u__law_rows.kp m.b__law_rows (sa_cons (sv 0) (sa_cons (sv 1) (sa_cons (sv 2) (sa_nil))))) (sa_cons (se_fn tk gd (ok__law_own_cell m) runF_len (hr.mono (by decide)) (by rfl) m.m__law_own_cell m.u__law_own_cell.kp m.b__law_own_cell (sa_cons (sv 1) (sa_cons (sv 2) (sa_cons (sv 9) (sa_nil))))) (sa_nil))))) (sg_tup rfl (sgs_cons (sg_name 11 sc__law_one_cube.nd) (sgs_cons (sg_name 12 sc__law_one_cube.nd) (sgs_cons (sg_name 13 sc__law_one_cube.nd) (sgs_nil)))))) (ss_cons (ss_par2 14 true 15 true rfl sc__law_one_cube.nd (se_fn tk gd (ok__law_turned m) runF_len (hr.mono (by decide)) (by rfl) m.m__law_turned m.u__law_turned.kp m.b__law_turned (sa_cons (sv 8) (sa_cons (sv 9) (sa_nil)))) (se_mul (se_tup (sa_cons (se_mul (se_tup (sa_cons (se_int) (sa_nil))) (sv 1)) (sa_nil))) (sv 2))) (ss_cons (ss_asg 4 true (se_tuplec (by rfl) m.z_tuple (sa_cons (se_comp (own := [("item", 19)]) rfl sc__law_one_cube.nd (si_seq (sv 13)) (blkOk_by (by first | rfl | decide +kernel)) (fun _ _ _ _ _ => sg_name 19 sc__law_one_cube.nd) (fun _ _ _ _ _ => sts_nil) (fun _ _ _ _ _ => se_fn takes0 gd (ok__law_unit m) runF_len (hr.mono (by decide)) (by rfl) m.m__law_unit m.u__law_unit.kp m.b__law_unit (sa_cons (sv 1) (sa_cons (sv 19) (sa_nil))))) (sa_nil))) sc__law_one_cube.nd) (ss_cons (ss_par2 16 true 17 true rfl sc__law_one_cube.nd (se_mul (se_tup (sa_cons (se_fn tk gd (ok__law_unit m) runF_len (hr.mono (by decide)) (by rfl) m.m__law_unit m.u__law_unit.kp m.b__law_unit (sa_cons (sv 1) (sa_cons (se_sub (sv 1) (se_int)) (sa_nil)))) (sa_nil))) (sv 2)) (se_fn tk gd (ok__law_draw m) runF_len (hr.mono (by decide)) (by rfl) m.m__law_draw m.u__law_draw.kp m.b__law_draw (sa_cons (sv 0) (sa_cons (sv 2) (sa_nil))))) (ss_cons (ss_asg 5 false (se_add (se_fn tk gd (ok__law_ask_places m) runF_len (hr.mono (by decide)) (by rfl) m.m__law_ask_places m.u__law_ask_places.kp m.b__law_ask_places (sa_cons (sv 1) (sa_cons (sv 2) (sa_cons (se_fn tk gd (ok__law_some_places m) runF_len (hr.mono (by decide)) (by rfl) m.m__law_some_places m.u__law_some_places.kp m.b__law_some_places (sa_cons (sv 0) (sa_cons (sv 1) (sa_cons (sv 2) (sa_nil))))) (sa_nil))))) (se_fn tk gd (ok__law_ask_questions m) runF_len (hr.mono (by decide)) (by rfl) m.m__law_ask_questions m.u__law_ask_questions.kp m.b__law_ask_questions (sa_cons (sv 1) (sa_cons (sv 13) (sa_cons (sv 11) (sa_nil)))))) sc__law_one_cube.nd) (ss_cons (ss_if (st_gt (sv 3) (se_int)) (ss_cons (ss_ext 5 (se_fn tk gd (ok__law_ask_answers m) runF_len (hr.mono (by decide)) (by rfl) m.m__law_ask_answers m.u__law_ask_answers.kp m.b__law_ask_answers (sa_cons (sv 1) (sa_cons (sv 8) (sa_cons (se_lst (sa_cons (sv 12) (sa_cons (sv 4) (sa_cons (sv 16) (sa_cons (sv 15) (sa_nil)))))) (sa_nil)))))) (ss_cons (ss_ext 5 (se_fn tk gd (ok__law_ask_answers m) runF_len (hr.mono (by decide)) (by rfl) m.m__law_ask_answers m.u__law_ask_answers.kp m.b__law_ask_answers (sa_cons (sv 1) (sa_cons (sv 14) (sa_cons (se_lst (sa_cons (sv 4) (sa_cons (sv 16) (sa_nil)))) (sa_nil)))))) (ss_cons (ss_ext 5 (se_fn tk gd (ok__law_ask_items m) runF_len (hr.mono (by decide)) (by rfl) m.m__law_ask_items m.u__law_ask_items.kp m.b__law_ask_items (sa_cons (sv 1) (sa_cons (sv 2) (sa_cons (se_lst (sa_cons (sv 8) (sa_cons (sv 14) (sa_nil)))) (sa_cons (se_lst (sa_cons (sv 11) (sa_nil))) (sa_cons (se_lst (sa_cons (sv 9) (sa_nil))) (sa_nil)))))))) (ss_cons (ss_asg 18 true (se_idx (sv 8) (se_sub (sv 3) (se_int))) sc__law_one_cube.nd) (ss_cons (ss_app 5 (se_lst (sa_cons (sv 18) (sa_cons (se_fn tk gd (ok_told_item m) runF_len (hr.mono (by decide)) (by rfl) m.m_told_item m.u_told_item.kp m.b_told_item (sa_cons (sv 1) (sa_cons (sv 8) (sa_cons (se_fn tk gd (ok__law_own_cell m) runF_len (hr.mono (by decide)) (by rfl) m.m__law_own_cell m.u__law_own_cell.kp m.b__law_own_cell (sa_cons (sv 1) (sa_cons (sv 2) (sa_cons (se_sub (sv 3) (se_int)) (sa_nil))))) (sa_cons (sv 12) (sa_nil)))))) (sa_nil))))) (ss_frz 5 (ss_one (ss_ret (se_lst (sa_cons (sv 5) (sa_cons (sv 8) (sa_cons (sv 13) (sa_cons (sv 11) (sa_nil)))))))))))))) (ss_nil)) (ss_cons (ss_asg 6 false (se_lst (sa_cons (sv 12) (sa_cons (sv 4) (sa_cons (sv 16) (sa_cons (sv 15) (sa_cons (se_add (se_add (se_slice (sv 15) (so_none) (so_some (sv 17))) (se_tup (sa_cons (se_mul (se_tup (sa_cons (se_int) (sa_nil))) (sv 1)) (sa_nil)))) (se_slice (sv 15) (so_some (se_add (sv 17) (se_int))) (so_none))) (sa_nil))))))) sc__law_one_cube.nd) (ss_cons (ss_app 6 (se_add (se_add (se_slice (sv 15) (so_none) (so_some (sv 17))) (se_tup (sa_cons (se_idx (sv 12) (sv 17)) (sa_nil)))) (se_slice (sv 15) (so_some (se_add (sv 17) (se_int))) (so_none)))) (ss_cons (ss_if (st_le (sv 3) (se_int)) (ss_one (ss_ext 6 (se_comp (own := [("h", 20)]) rfl sc__law_one_cube.nd (si_range1 (by rfl) m.z_range (sa_cons (se_idx (se_lst (sa_cons (se_int) (sa_cons (se_int) (sa_cons (se_int) (sa_cons (se_int) (sa_cons (se_int) (sa_nil))))))) (sv 2)) (sa_nil))) (blkOk_by (by first | rfl | decide +kernel)) (fun _ _ _ _ _ => sg_name 20 sc__law_one_cube.nd) (fun _ _ _ _ _ => sts_nil) (fun _ _ _ _ _ => se_fn takes0 gd (ok__law_own_question m) runF_len (hr.mono (by decide)) (by rfl) m.m__law_own_question m.u__law_own_question.kp m.b__law_own_question (sa_cons (sv 13) (sa_cons (sv 11) (sa_cons (sv 20) (sa_nil)))))))) (ss_nil)) (ss_frz 6 (ss_cons (ss_ext 5 (se_fn tk gd (ok__law_ask_answers m) runF_len (hr.mono (by decide)) (by rfl) m.m__law_ask_answers m.u__law_ask_answers.kp m.b__law_ask_answers (sa_cons (sv 1) (sa_cons (sv 8) (sa_cons (sv 6) (sa_nil)))))) (ss_cons (ss_ext 5 (se_fn tk gd (ok__law_ask_answers m) runF_len (hr.mono (by decide)) (by rfl) m.m__law_ask_answers m.u__law_ask_answers.kp m.b__law_ask_answers (sa_cons (sv 1) (sa_cons (sv 14) (sa_cons (se_lst (sa_cons (sv 12) (sa_cons (sv 4) (sa_cons (sv 16) (sa_cons (sv 15) (sa_nil)))))) (sa_nil)))))) (ss_cons (ss_asg 7 true (se_lst (sa_cons (sv 8) (sa_cons (sv 14) (sa_cons (se_fn tk gd (ok__law_turned m) runF_len (hr.mono (by decide)) (by rfl) m.m__law_turned m.u__law_turned.kp m.b__law_turned (sa_cons (sv 8) (sa_cons (sv 10) (sa_nil)))) (sa_nil))))) sc__law_one_cube.nd) (ss_cons (ss_ext 5 (se_fn tk gd (ok__law_ask_items m) runF_len (hr.mono (by decide)) (by rfl) m.m__law_ask_items m.u__law_ask_items.kp m.b__law_ask_items (sa_cons (sv 1) (sa_cons (sv 2) (sa_cons (sv 7) (sa_cons (se_lst (sa_cons (sv 11) (sa_cons (sv 12) (sa_nil)))) (sa_cons (se_lst (sa_cons (sv 9) (sa_cons (se_int) (sa_cons (se_sub (sv 3) (se_int)) (sa_nil))))) (sa_nil)))))))) (ss_frz 5 (ss_one (ss_ret (se_lst (sa_cons (sv 5) (sa_cons (sv 8) (sa_cons (sv 13) (sa_cons (sv 11) (sa_nil)))))))))))))))))))))))))
theorem ok__law_own_bag (m : M K mg) : FnG P w K mg base 1 m.f__law_own_bag m.fd__law_own_bag ["script"] (spB K own_bag) := fn_bag (ec := ec0) m.u__law_own_bag sc__law_own_bag (by decide) (fun cdv A outer s H Xc gd hr tk po => 
  ss_cons (ss_asgComp (own := [("cell", 3)]) 1 true rfl sc__law_own_bag.nd rfl rfl (sw_true rfl rfl rfl (by first | rfl | decide +kernel)) (si_seq (se_scut 0 (se_int))) (blkOk_by (by first | rfl | decide +kernel)) (fun _ _ _ _ _ => sg_name 3 sc__law_own_bag.nd) (fun _ _ _ _ _ => sts_nil) (fun _ _ _ _ _ => se_abs (by rfl) m.z_abs (sa_cons (se_intc (by rfl) m.z_int (sa_cons (sv 3) (sa_nil))) (sa_nil)))) (ss_cons (ss_asg 2 true (se_add (se_int) (se_mul (se_int) (se_len (by rfl) m.z_len (sa_cons (sv 1) (sa_nil))))) sc__law_own_bag.nd) (ss_cons (ss_for [] po rfl (si_seq (sv 1)) (sg_name 3 sc__law_own_bag.nd) (ss_one (ss_asg 2 true (se_mod (se_intc (by rfl) m.z_int (sa_cons (se_add (se_add (se_mul (sv 2) (se_int)) (se_mod (se_intc (by rfl) m.z_int (sa_cons (sv 3) (sa_nil))) (se_int))) (se_int)) (sa_nil))) (se_int)) sc__law_own_bag.nd))) (ss_one (ss_ret (se_lst (sa_cons (se_lstRev rfl (by rfl) m.z_list (by rfl) m.z_reversed (sv 1)) (sa_cons (se_int) (sa_cons (sv 2) (sa_nil))))))))))
theorem ok__law_pick (m : M K mg) : FnG P w K mg base 2 m.f__law_pick m.fd__law_pick ["bag", "some"] (spF K ec0 2 F__law_pick) := fn_ok (ec := ec0) m.u__law_pick sc__law_pick (fun cdv A outer s H Xc gd hr tk po => 
  ss_one (ss_ret (se_idx (sv 1) (se_fn tk gd (ok__law_draw m) runF_len (hr.mono (by decide)) (by rfl) m.m__law_draw m.u__law_draw.kp m.b__law_draw (sa_cons (sv 0) (sa_cons (se_len (by rfl) m.z_len (sa_cons (sv 1) (sa_nil))) (sa_nil)))))))
theorem ok__law_own_size (m : M K mg) : FnG P w K mg base 3 m.f__law_own_size m.fd__law_own_size ["bag", "often"] (spF K ec0 2 F__law_own_size) := fn_ok (ec := ec0) m.u__law_own_size sc__law_own_size (fun cdv A outer s H Xc gd hr tk po => 
  ss_cons (ss_if (st_eq hr.units (se_fn tk gd (ok__law_draw m) runF_len (hr.mono (by decide)) (by rfl) m.m__law_draw m.u__law_draw.kp m.b__law_draw (sa_cons (sv 0) (sa_cons (sv 1) (sa_nil)))) (se_int)) (ss_one (ss_ret (se_fn tk gd (ok__law_pick m) runF_len (hr.mono (by decide)) (by rfl) m.m__law_pick m.u__law_pick.kp m.b__law_pick (sa_cons (sv 0) (sa_cons (se_lst (sa_cons (se_tup (sa_cons (se_int) (sa_cons (se_int) (sa_nil)))) (sa_cons (se_tup (sa_cons (se_int) (sa_cons (se_int) (sa_nil)))) (sa_cons (se_tup (sa_cons (se_int) (sa_cons (se_int) (sa_nil)))) (sa_cons (se_tup (sa_cons (se_int) (sa_cons (se_int) (sa_nil)))) (sa_cons (se_tup (sa_cons (se_int) (sa_cons (se_int) (sa_nil)))) (sa_cons (se_tup (sa_cons (se_int) (sa_cons (se_int) (sa_nil)))) (sa_cons (se_tup (sa_cons (se_int) (sa_cons (se_int) (sa_nil)))) (sa_cons (se_tup (sa_cons (se_int) (sa_cons (se_int) (sa_nil)))) (sa_nil)))))))))) (sa_nil)))))) (ss_nil)) (ss_cons (ss_asg 2 true (se_add (se_int) (se_fn tk gd (ok__law_draw m) runF_len (hr.mono (by decide)) (by rfl) m.m__law_draw m.u__law_draw.kp m.b__law_draw (sa_cons (sv 0) (sa_cons (se_int) (sa_nil))))) sc__law_own_size.nd) (ss_cons (ss_asg 3 true (se_idx (se_lst (sa_cons (se_int) (sa_cons (se_int) (sa_cons (se_int) (sa_cons (se_int) (sa_nil)))))) (se_sub (sv 2) (se_int))) sc__law_own_size.nd) (ss_one (ss_ret (se_tup (sa_cons (se_ifx (st_eq hr.units (se_fn tk gd (ok__law_draw m) runF_len (hr.mono (by decide)) (by rfl) m.m__law_draw m.u__law_draw.kp m.b__law_draw (sa_cons (sv 0) (sa_cons (se_int) (sa_nil)))) (se_int)) (sv 3) (se_add (se_int) (se_fn tk gd (ok__law_draw m) runF_len (hr.mono (by decide)) (by rfl) m.m__law_draw m.u__law_draw.kp m.b__law_draw (sa_cons (sv 0) (sa_cons (sv 3) (sa_nil)))))) (sa_cons (sv 2) (sa_nil)))))))))
theorem ok_law (m : M K mg) : FnG P w K mg base 8 m.f_law m.fd_law ["script"] (spL K 14 1 own_bag b_law) := fn_law (ec := ec0) m.u_law sc_law (by decide) rfl (fun cdv A outer s H Xc gd hr tk po => ⟨ss_bagIn 1 tk gd (ok__law_own_bag m) (hr.mono (by decide)) (by rfl) m.m__law_own_bag m.u__law_own_bag.kp m.b__law_own_bag sc_law.nd,
  ss_cons (ss_unp (se_fn tk gd (ok__law_own_size m) runF_len (hr.mono (by decide)) (by rfl) m.m__law_own_size m.u__law_own_size.kp m.b__law_own_size (sa_cons (sv 1) (sa_cons (se_int) (sa_nil)))) (sg_tup rfl (sgs_cons (sg_name 9 sc_law.nd) (sgs_cons (sg_name 10 sc_law.nd) (sgs_nil))))) (ss_cons (ss_asg 2 true (se_fn tk gd (ok__law_one_cube m) runF_len (hr.mono (by decide)) (by rfl) m.m__law_one_cube m.u__law_one_cube.kp m.b__law_one_cube (sa_cons (sv 1) (sa_cons (sv 9) (sa_cons (sv 10) (sa_nil))))) sc_law.nd) (ss_cons (ss_par3 11 true 12 true 13 true rfl sc_law.nd (se_idx (sv 2) (se_int)) (se_idx (sv 2) (se_int)) (se_idx (sv 2) (se_int))) (ss_cons (ss_asg 3 true (se_repr gd hr.units (by rfl) m.z_repr (sa_cons (se_lst (sa_cons (sv 11) (sa_cons (sv 12) (sa_cons (sv 13) (sa_nil))))) (sa_nil))) sc_law.nd) (ss_cons (ss_if (st_not (st_val (se_fn tk gd (ok__law_are_alike m) runF_len (hr.mono (by decide)) (by rfl) m.m__law_are_alike m.u__law_are_alike.kp m.b__law_are_alike (sa_cons (se_idx (sv 2) (se_int)) (sa_nil))))) (ss_one (ss_ret (se_bl))) (ss_nil)) (ss_cons (ss_asg 4 true (se_add (se_int) (se_fn tk gd (ok__law_draw m) runF_len (hr.mono (by decide)) (by rfl) m.m__law_draw m.u__law_draw.kp m.b__law_draw (sa_cons (sv 1) (sa_cons (se_int) (sa_nil))))) sc_law.nd) (ss_cons (ss_asg 5 true (se_fn tk gd (ok__law_one_cube m) runF_len (hr.mono (by decide)) (by rfl) m.m__law_one_cube m.u__law_one_cube.kp m.b__law_one_cube (sa_cons (sv 1) (sa_cons (se_add (se_int) (se_fn tk gd (ok__law_draw m) runF_len (hr.mono (by decide)) (by rfl) m.m__law_draw m.u__law_draw.kp m.b__law_draw (sa_cons (sv 1) (sa_cons (se_idx (se_lst (sa_cons (se_int) (sa_cons (se_int) (sa_cons (se_int) (sa_cons (se_int) (sa_nil)))))) (se_sub (sv 4) (se_int))) (sa_nil))))) (sa_cons (sv 4) (sa_nil))))) sc_law.nd) (ss_cons (ss_if (st_not (st_val (se_fn tk gd (ok__law_are_alike m) runF_len (hr.mono (by decide)) (by rfl) m.m__law_are_alike m.u__law_are_alike.kp m.b__law_are_alike (sa_cons (se_idx (sv 5) (se_int)) (sa_nil))))) (ss_one (ss_ret (se_bl))) (ss_nil)) (ss_cons (ss_asg 6 false (se_fn tk gd (ok__law_ask_questions m) runF_len (hr.mono (by decide)) (by rfl) m.m__law_ask_questions m.u__law_ask_questions.kp m.b__law_ask_questions (sa_cons (sv 9) (sa_cons (sv 12) (sa_cons (sv 13) (sa_nil))))) sc_law.nd) (ss_cons (ss_asg 7 true (se_int) sc_law.nd) (ss_cons (ss_for [] po rfl (si_seq (sv 12)) (sg_name 8 sc_law.nd) (ss_one (ss_asg 7 true (se_add (se_mul (sv 7) (sv 9)) (sv 8)) sc_law.nd))) (ss_cons (ss_app 6 (se_lst (sa_cons (se_idx (sv 11) (sv 7)) (sa_cons (se_fn tk gd (ok_told_item m) runF_len (hr.mono (by decide)) (by rfl) m.m_told_item m.u_told_item.kp m.b_told_item (sa_cons (sv 9) (sa_cons (sv 11) (sa_cons (sv 12) (sa_cons (sv 13) (sa_nil)))))) (sa_cons (se_fn tk gd (ok_told_item m) runF_len (hr.mono (by decide)) (by rfl) m.m_told_item m.u_told_item.kp m.b_told_item (sa_cons (sv 9) (sa_cons (sv 11) (sa_cons (sv 12) (sa_cons (sv 13) (sa_nil)))))) (sa_nil)))))) (ss_cons (ss_app 6 (se_lst (sa_cons (sv 7) (sa_cons (se_fn tk gd (ok_cell_place m) runF_len (hr.mono (by decide)) (by rfl) m.m_cell_place m.u_cell_place.kp m.b_cell_place (sa_cons (sv 9) (sa_cons (sv 12) (sa_nil)))) (sa_cons (se_fn tk gd (ok_cell_place m) runF_len (hr.mono (by decide)) (by rfl) m.m_cell_place m.u_cell_place.kp m.b_cell_place (sa_cons (sv 9) (sa_cons (se_fn tk gd (ok_cell_at m) runF_len (hr.mono (by decide)) (by rfl) m.m_cell_at m.u_cell_at.kp m.b_cell_at (sa_cons (sv 9) (sa_cons (sv 10) (sa_cons (sv 7) (sa_nil))))) (sa_nil)))) (sa_nil)))))) (ss_frz 6 (ss_one (ss_ret (se_and (se_fn tk gd (ok__law_are_alike m) runF_len (hr.mono (by decide)) (by rfl) m.m__law_are_alike m.u__law_are_alike.kp m.b__law_are_alike (sa_cons (sv 6) (sa_nil))) (se_one (se_eq hr.units (se_repr gd hr.units (by rfl) m.z_repr (sa_cons (se_lst (sa_cons (sv 11) (sa_cons (sv 12) (sa_cons (sv 13) (sa_nil))))) (sa_nil))) (sv 3)))))))))))))))))))⟩)
end
def mk {K : PySem.W.Frag} {h : Heap} {mg : Str → Option Value} (X : K.In h) (G : h.Ns mainGlobals mg)
    {f1 : Addr} {od1 an1 : Option Addr} {sl1 : Array (Option Value)} {oc1 kV1 dc1 pm1 cd1 ct1 : Value}
    {f2 : Addr} {od2 an2 : Option Addr} {sl2 : Array (Option Value)} {oc2 kV2 dc2 pm2 cd2 ct2 : Value}
    {f3 : Addr} {od3 an3 : Option Addr} {sl3 : Array (Option Value)} {oc3 kV3 dc3 pm3 cd3 ct3 : Value}
    {f4 : Addr} {od4 an4 : Option Addr} {sl4 : Array (Option Value)} {oc4 kV4 dc4 pm4 cd4 ct4 : Value}
    {f5 : Addr} {od5 an5 : Option Addr} {sl5 : Array (Option Value)} {oc5 kV5 dc5 pm5 cd5 ct5 : Value}
    {f6 : Addr} {od6 an6 : Option Addr} {sl6 : Array (Option Value)} {oc6 kV6 dc6 pm6 cd6 ct6 : Value}
    {f7 : Addr} {od7 an7 : Option Addr} {sl7 : Array (Option Value)} {oc7 kV7 dc7 pm7 cd7 ct7 : Value}
    {f8 : Addr} {od8 an8 : Option Addr} {sl8 : Array (Option Value)} {oc8 kV8 dc8 pm8 cd8 ct8 : Value}
    {f9 : Addr} {od9 an9 : Option Addr} {sl9 : Array (Option Value)} {oc9 kV9 dc9 pm9 cd9 ct9 : Value}
    {f10 : Addr} {od10 an10 : Option Addr} {sl10 : Array (Option Value)} {oc10 kV10 dc10 pm10 cd10 ct10 : Value}
    {f11 : Addr} {od11 an11 : Option Addr} {sl11 : Array (Option Value)} {oc11 kV11 dc11 pm11 cd11 ct11 : Value}
    {f12 : Addr} {od12 an12 : Option Addr} {sl12 : Array (Option Value)} {oc12 kV12 dc12 pm12 cd12 ct12 : Value}
    {f13 : Addr} {od13 an13 : Option Addr} {sl13 : Array (Option Value)} {oc13 kV13 dc13 pm13 cd13 ct13 : Value}
    {f14 : Addr} {od14 an14 : Option Addr} {sl14 : Array (Option Value)} {oc14 kV14 dc14 pm14 cd14 ct14 : Value}
    {f15 : Addr} {od15 an15 : Option Addr} {sl15 : Array (Option Value)} {oc15 kV15 dc15 pm15 cd15 ct15 : Value}
    {f16 : Addr} {od16 an16 : Option Addr} {sl16 : Array (Option Value)} {oc16 kV16 dc16 pm16 cd16 ct16 : Value}
    {f17 : Addr} {od17 an17 : Option Addr} {sl17 : Array (Option Value)} {oc17 kV17 dc17 pm17 cd17 ct17 : Value}
    {f18 : Addr} {od18 an18 : Option Addr} {sl18 : Array (Option Value)} {oc18 kV18 dc18 pm18 cd18 ct18 : Value}
    {f19 : Addr} {od19 an19 : Option Addr} {sl19 : Array (Option Value)} {oc19 kV19 dc19 pm19 cd19 ct19 : Value}
    {f20 : Addr} {od20 an20 : Option Addr} {sl20 : Array (Option Value)} {oc20 kV20 dc20 pm20 cd20 ct20 : Value}
    {f21 : Addr} {od21 an21 : Option Addr} {sl21 : Array (Option Value)} {oc21 kV21 dc21 pm21 cd21 ct21 : Value}
    {f22 : Addr} {od22 an22 : Option Addr} {sl22 : Array (Option Value)} {oc22 kV22 dc22 pm22 cd22 ct22 : Value}
    {f23 : Addr} {od23 an23 : Option Addr} {sl23 : Array (Option Value)} {oc23 kV23 dc23 pm23 cd23 ct23 : Value}
    {f24 : Addr} {od24 an24 : Option Addr} {sl24 : Array (Option Value)} {oc24 kV24 dc24 pm24 cd24 ct24 : Value}
    {f25 : Addr} {od25 an25 : Option Addr} {sl25 : Array (Option Value)} {oc25 kV25 dc25 pm25 cd25 ct25 : Value}
    {f26 : Addr} {od26 an26 : Option Addr} {sl26 : Array (Option Value)} {oc26 kV26 dc26 pm26 cd26 ct26 : Value}
    {f27 : Addr} {od27 an27 : Option Addr} {sl27 : Array (Option Value)} {oc27 kV27 dc27 pm27 cd27 ct27 : Value}
    {f28 : Addr} {od28 an28 : Option Addr} {sl28 : Array (Option Value)} {oc28 kV28 dc28 pm28 cd28 ct28 : Value}
    {f29 : Addr} {od29 an29 : Option Addr} {sl29 : Array (Option Value)} {oc29 kV29 dc29 pm29 cd29 ct29 : Value}
    {f30 : Addr} {od30 an30 : Option Addr} {sl30 : Array (Option Value)} {oc30 kV30 dc30 pm30 cd30 ct30 : Value}
    {f31 : Addr} {od31 an31 : Option Addr} {sl31 : Array (Option Value)} {oc31 kV31 dc31 pm31 cd31 ct31 : Value}
    (a1 : PySem.W.nsIn K mainGlobals "_law_are_alike" = some (some (.ref f1))) (l1 : K.lookup f1 = some ⟨oc1, od1, .func (PySem.W.fnOf "_law_are_alike" "_law_are_alike" (defArgs s__law_are_alike) (defBody s__law_are_alike) (defScope s__law_are_alike) .none kV1 dc1 pm1 an1 cd1 ct1), sl1⟩) (c1 : PySem.W.codeIn K cd1 "_law_are_alike" = true) (k1 : PySem.W.keepIn K (.ref f1) = true)
    (a2 : PySem.W.nsIn K mainGlobals "_law_own_question" = some (some (.ref f2))) (l2 : K.lookup f2 = some ⟨oc2, od2, .func (PySem.W.fnOf "_law_own_question" "_law_own_question" (defArgs s__law_own_question) (defBody s__law_own_question) (defScope s__law_own_question) .none kV2 dc2 pm2 an2 cd2 ct2), sl2⟩) (c2 : PySem.W.codeIn K cd2 "_law_own_question" = true) (k2 : PySem.W.keepIn K (.ref f2) = true)
    (a3 : PySem.W.nsIn K mainGlobals "lot_row" = some (some (.ref f3))) (l3 : K.lookup f3 = some ⟨oc3, od3, .func (PySem.W.fnOf "lot_row" "lot_row" (defArgs s_lot_row) (defBody s_lot_row) (defScope s_lot_row) .none kV3 dc3 pm3 an3 cd3 ct3), sl3⟩) (c3 : PySem.W.codeIn K cd3 "lot_row" = true) (k3 : PySem.W.keepIn K (.ref f3) = true)
    (a4 : PySem.W.nsIn K mainGlobals "rows_added" = some (some (.ref f4))) (l4 : K.lookup f4 = some ⟨oc4, od4, .func (PySem.W.fnOf "rows_added" "rows_added" (defArgs s_rows_added) (defBody s_rows_added) (defScope s_rows_added) .none kV4 dc4 pm4 an4 cd4 ct4), sl4⟩) (c4 : PySem.W.codeIn K cd4 "rows_added" = true) (k4 : PySem.W.keepIn K (.ref f4) = true)
    (a5 : PySem.W.nsIn K mainGlobals "cell_at" = some (some (.ref f5))) (l5 : K.lookup f5 = some ⟨oc5, od5, .func (PySem.W.fnOf "cell_at" "cell_at" (defArgs s_cell_at) (defBody s_cell_at) (defScope s_cell_at) .none kV5 dc5 pm5 an5 cd5 ct5), sl5⟩) (c5 : PySem.W.codeIn K cd5 "cell_at" = true) (k5 : PySem.W.keepIn K (.ref f5) = true)
    (a6 : PySem.W.nsIn K mainGlobals "sides_of" = some (some (.ref f6))) (l6 : K.lookup f6 = some ⟨oc6, od6, .func (PySem.W.fnOf "sides_of" "sides_of" (defArgs s_sides_of) (defBody s_sides_of) (defScope s_sides_of) .none kV6 dc6 pm6 an6 cd6 ct6), sl6⟩) (c6 : PySem.W.codeIn K cd6 "sides_of" = true) (k6 : PySem.W.keepIn K (.ref f6) = true)
    (a7 : PySem.W.nsIn K mainGlobals "question" = some (some (.ref f7))) (l7 : K.lookup f7 = some ⟨oc7, od7, .func (PySem.W.fnOf "question" "question" (defArgs s_question) (defBody s_question) (defScope s_question) .none kV7 dc7 pm7 an7 cd7 ct7), sl7⟩) (c7 : PySem.W.codeIn K cd7 "question" = true) (k7 : PySem.W.keepIn K (.ref f7) = true)
    (a8 : PySem.W.nsIn K mainGlobals "all_questions" = some (some (.ref f8))) (l8 : K.lookup f8 = some ⟨oc8, od8, .func (PySem.W.fnOf "all_questions" "all_questions" (defArgs s_all_questions) (defBody s_all_questions) (defScope s_all_questions) .none kV8 dc8 pm8 an8 cd8 ct8), sl8⟩) (c8 : PySem.W.codeIn K cd8 "all_questions" = true) (k8 : PySem.W.keepIn K (.ref f8) = true)
    (a9 : PySem.W.nsIn K mainGlobals "_law_ask_questions" = some (some (.ref f9))) (l9 : K.lookup f9 = some ⟨oc9, od9, .func (PySem.W.fnOf "_law_ask_questions" "_law_ask_questions" (defArgs s__law_ask_questions) (defBody s__law_ask_questions) (defScope s__law_ask_questions) .none kV9 dc9 pm9 an9 cd9 ct9), sl9⟩) (c9 : PySem.W.codeIn K cd9 "_law_ask_questions" = true) (k9 : PySem.W.keepIn K (.ref f9) = true)
    (a10 : PySem.W.nsIn K mainGlobals "_law_draw" = some (some (.ref f10))) (l10 : K.lookup f10 = some ⟨oc10, od10, .func (PySem.W.fnOf "_law_draw" "_law_draw" (defArgs s__law_draw) (defBody s__law_draw) (defScope s__law_draw) .none kV10 dc10 pm10 an10 cd10 ct10), sl10⟩) (c10 : PySem.W.codeIn K cd10 "_law_draw" = true) (k10 : PySem.W.keepIn K (.ref f10) = true)
    (a11 : PySem.W.nsIn K mainGlobals "_law_own_answer" = some (some (.ref f11))) (l11 : K.lookup f11 = some ⟨oc11, od11, .func (PySem.W.fnOf "_law_own_answer" "_law_own_answer" (defArgs s__law_own_answer) (defBody s__law_own_answer) (defScope s__law_own_answer) .none kV11 dc11 pm11 an11 cd11 ct11), sl11⟩) (c11 : PySem.W.codeIn K cd11 "_law_own_answer" = true) (k11 : PySem.W.keepIn K (.ref f11) = true)
    (a12 : PySem.W.nsIn K mainGlobals "answer_bit" = some (some (.ref f12))) (l12 : K.lookup f12 = some ⟨oc12, od12, .func (PySem.W.fnOf "answer_bit" "answer_bit" (defArgs s_answer_bit) (defBody s_answer_bit) (defScope s_answer_bit) .none kV12 dc12 pm12 an12 cd12 ct12), sl12⟩) (c12 : PySem.W.codeIn K cd12 "answer_bit" = true) (k12 : PySem.W.keepIn K (.ref f12) = true)
    (a13 : PySem.W.nsIn K mainGlobals "_law_ask_answers" = some (some (.ref f13))) (l13 : K.lookup f13 = some ⟨oc13, od13, .func (PySem.W.fnOf "_law_ask_answers" "_law_ask_answers" (defArgs s__law_ask_answers) (defBody s__law_ask_answers) (defScope s__law_ask_answers) .none kV13 dc13 pm13 an13 cd13 ct13), sl13⟩) (c13 : PySem.W.codeIn K cd13 "_law_ask_answers" = true) (k13 : PySem.W.keepIn K (.ref f13) = true)
    (a14 : PySem.W.nsIn K mainGlobals "_law_odd" = some (some (.ref f14))) (l14 : K.lookup f14 = some ⟨oc14, od14, .func (PySem.W.fnOf "_law_odd" "_law_odd" (defArgs s__law_odd) (defBody s__law_odd) (defScope s__law_odd) .none kV14 dc14 pm14 an14 cd14 ct14), sl14⟩) (c14 : PySem.W.codeIn K cd14 "_law_odd" = true) (k14 : PySem.W.keepIn K (.ref f14) = true)
    (a15 : PySem.W.nsIn K mainGlobals "_law_own_cell" = some (some (.ref f15))) (l15 : K.lookup f15 = some ⟨oc15, od15, .func (PySem.W.fnOf "_law_own_cell" "_law_own_cell" (defArgs s__law_own_cell) (defBody s__law_own_cell) (defScope s__law_own_cell) .none kV15 dc15 pm15 an15 cd15 ct15), sl15⟩) (c15 : PySem.W.codeIn K cd15 "_law_own_cell" = true) (k15 : PySem.W.keepIn K (.ref f15) = true)
    (a16 : PySem.W.nsIn K mainGlobals "told_item" = some (some (.ref f16))) (l16 : K.lookup f16 = some ⟨oc16, od16, .func (PySem.W.fnOf "told_item" "told_item" (defArgs s_told_item) (defBody s_told_item) (defScope s_told_item) .none kV16 dc16 pm16 an16 cd16 ct16), sl16⟩) (c16 : PySem.W.codeIn K cd16 "told_item" = true) (k16 : PySem.W.keepIn K (.ref f16) = true)
    (a17 : PySem.W.nsIn K mainGlobals "_law_ask_items" = some (some (.ref f17))) (l17 : K.lookup f17 = some ⟨oc17, od17, .func (PySem.W.fnOf "_law_ask_items" "_law_ask_items" (defArgs s__law_ask_items) (defBody s__law_ask_items) (defScope s__law_ask_items) .none kV17 dc17 pm17 an17 cd17 ct17), sl17⟩) (c17 : PySem.W.codeIn K cd17 "_law_ask_items" = true) (k17 : PySem.W.keepIn K (.ref f17) = true)
    (a18 : PySem.W.nsIn K mainGlobals "cell_place" = some (some (.ref f18))) (l18 : K.lookup f18 = some ⟨oc18, od18, .func (PySem.W.fnOf "cell_place" "cell_place" (defArgs s_cell_place) (defBody s_cell_place) (defScope s_cell_place) .none kV18 dc18 pm18 an18 cd18 ct18), sl18⟩) (c18 : PySem.W.codeIn K cd18 "cell_place" = true) (k18 : PySem.W.keepIn K (.ref f18) = true)
    (a19 : PySem.W.nsIn K mainGlobals "_law_ask_places" = some (some (.ref f19))) (l19 : K.lookup f19 = some ⟨oc19, od19, .func (PySem.W.fnOf "_law_ask_places" "_law_ask_places" (defArgs s__law_ask_places) (defBody s__law_ask_places) (defScope s__law_ask_places) .none kV19 dc19 pm19 an19 cd19 ct19), sl19⟩) (c19 : PySem.W.codeIn K cd19 "_law_ask_places" = true) (k19 : PySem.W.keepIn K (.ref f19) = true)
    (a20 : PySem.W.nsIn K mainGlobals "_law_cells_many" = some (some (.ref f20))) (l20 : K.lookup f20 = some ⟨oc20, od20, .func (PySem.W.fnOf "_law_cells_many" "_law_cells_many" (defArgs s__law_cells_many) (defBody s__law_cells_many) (defScope s__law_cells_many) .none kV20 dc20 pm20 an20 cd20 ct20), sl20⟩) (c20 : PySem.W.codeIn K cd20 "_law_cells_many" = true) (k20 : PySem.W.keepIn K (.ref f20) = true)
    (a21 : PySem.W.nsIn K mainGlobals "_law_unit" = some (some (.ref f21))) (l21 : K.lookup f21 = some ⟨oc21, od21, .func (PySem.W.fnOf "_law_unit" "_law_unit" (defArgs s__law_unit) (defBody s__law_unit) (defScope s__law_unit) .none kV21 dc21 pm21 an21 cd21 ct21), sl21⟩) (c21 : PySem.W.codeIn K cd21 "_law_unit" = true) (k21 : PySem.W.keepIn K (.ref f21) = true)
    (a22 : PySem.W.nsIn K mainGlobals "_law_own_store" = some (some (.ref f22))) (l22 : K.lookup f22 = some ⟨oc22, od22, .func (PySem.W.fnOf "_law_own_store" "_law_own_store" (defArgs s__law_own_store) (defBody s__law_own_store) (defScope s__law_own_store) .none kV22 dc22 pm22 an22 cd22 ct22), sl22⟩) (c22 : PySem.W.codeIn K cd22 "_law_own_store" = true) (k22 : PySem.W.keepIn K (.ref f22) = true)
    (a23 : PySem.W.nsIn K mainGlobals "_law_own_row" = some (some (.ref f23))) (l23 : K.lookup f23 = some ⟨oc23, od23, .func (PySem.W.fnOf "_law_own_row" "_law_own_row" (defArgs s__law_own_row) (defBody s__law_own_row) (defScope s__law_own_row) .none kV23 dc23 pm23 an23 cd23 ct23), sl23⟩) (c23 : PySem.W.codeIn K cd23 "_law_own_row" = true) (k23 : PySem.W.keepIn K (.ref f23) = true)
    (a24 : PySem.W.nsIn K mainGlobals "_law_rows" = some (some (.ref f24))) (l24 : K.lookup f24 = some ⟨oc24, od24, .func (PySem.W.fnOf "_law_rows" "_law_rows" (defArgs s__law_rows) (defBody s__law_rows) (defScope s__law_rows) .none kV24 dc24 pm24 an24 cd24 ct24), sl24⟩) (c24 : PySem.W.codeIn K cd24 "_law_rows" = true) (k24 : PySem.W.keepIn K (.ref f24) = true)
    (a25 : PySem.W.nsIn K mainGlobals "_law_some_places" = some (some (.ref f25))) (l25 : K.lookup f25 = some ⟨oc25, od25, .func (PySem.W.fnOf "_law_some_places" "_law_some_places" (defArgs s__law_some_places) (defBody s__law_some_places) (defScope s__law_some_places) .none kV25 dc25 pm25 an25 cd25 ct25), sl25⟩) (c25 : PySem.W.codeIn K cd25 "_law_some_places" = true) (k25 : PySem.W.keepIn K (.ref f25) = true)
    (a26 : PySem.W.nsIn K mainGlobals "_law_turned" = some (some (.ref f26))) (l26 : K.lookup f26 = some ⟨oc26, od26, .func (PySem.W.fnOf "_law_turned" "_law_turned" (defArgs s__law_turned) (defBody s__law_turned) (defScope s__law_turned) .none kV26 dc26 pm26 an26 cd26 ct26), sl26⟩) (c26 : PySem.W.codeIn K cd26 "_law_turned" = true) (k26 : PySem.W.keepIn K (.ref f26) = true)
    (a27 : PySem.W.nsIn K mainGlobals "_law_one_cube" = some (some (.ref f27))) (l27 : K.lookup f27 = some ⟨oc27, od27, .func (PySem.W.fnOf "_law_one_cube" "_law_one_cube" (defArgs s__law_one_cube) (defBody s__law_one_cube) (defScope s__law_one_cube) .none kV27 dc27 pm27 an27 cd27 ct27), sl27⟩) (c27 : PySem.W.codeIn K cd27 "_law_one_cube" = true) (k27 : PySem.W.keepIn K (.ref f27) = true)
    (a28 : PySem.W.nsIn K mainGlobals "_law_own_bag" = some (some (.ref f28))) (l28 : K.lookup f28 = some ⟨oc28, od28, .func (PySem.W.fnOf "_law_own_bag" "_law_own_bag" (defArgs s__law_own_bag) (defBody s__law_own_bag) (defScope s__law_own_bag) .none kV28 dc28 pm28 an28 cd28 ct28), sl28⟩) (c28 : PySem.W.codeIn K cd28 "_law_own_bag" = true) (k28 : PySem.W.keepIn K (.ref f28) = true)
    (a29 : PySem.W.nsIn K mainGlobals "_law_pick" = some (some (.ref f29))) (l29 : K.lookup f29 = some ⟨oc29, od29, .func (PySem.W.fnOf "_law_pick" "_law_pick" (defArgs s__law_pick) (defBody s__law_pick) (defScope s__law_pick) .none kV29 dc29 pm29 an29 cd29 ct29), sl29⟩) (c29 : PySem.W.codeIn K cd29 "_law_pick" = true) (k29 : PySem.W.keepIn K (.ref f29) = true)
    (a30 : PySem.W.nsIn K mainGlobals "_law_own_size" = some (some (.ref f30))) (l30 : K.lookup f30 = some ⟨oc30, od30, .func (PySem.W.fnOf "_law_own_size" "_law_own_size" (defArgs s__law_own_size) (defBody s__law_own_size) (defScope s__law_own_size) .none kV30 dc30 pm30 an30 cd30 ct30), sl30⟩) (c30 : PySem.W.codeIn K cd30 "_law_own_size" = true) (k30 : PySem.W.keepIn K (.ref f30) = true)
    (a31 : PySem.W.nsIn K mainGlobals "law" = some (some (.ref f31))) (l31 : K.lookup f31 = some ⟨oc31, od31, .func (PySem.W.fnOf "law" "law" (defArgs s_law) (defBody s_law) (defScope s_law) .none kV31 dc31 pm31 an31 cd31 ct31), sl31⟩) (c31 : PySem.W.codeIn K cd31 "law" = true) (k31 : PySem.W.keepIn K (.ref f31) = true)
    (z_abs : PySem.W.nsIn K mainGlobals "abs" = some none)
    (z_all : PySem.W.nsIn K mainGlobals "all" = some none)
    (z_enumerate : PySem.W.nsIn K mainGlobals "enumerate" = some none)
    (z_int : PySem.W.nsIn K mainGlobals "int" = some none)
    (z_len : PySem.W.nsIn K mainGlobals "len" = some none)
    (z_list : PySem.W.nsIn K mainGlobals "list" = some none)
    (z_range : PySem.W.nsIn K mainGlobals "range" = some none)
    (z_repr : PySem.W.nsIn K mainGlobals "repr" = some none)
    (z_reversed : PySem.W.nsIn K mainGlobals "reversed" = some none)
    (z_sum : PySem.W.nsIn K mainGlobals "sum" = some none)
    (z_tuple : PySem.W.nsIn K mainGlobals "tuple" = some none)
    (z_zip : PySem.W.nsIn K mainGlobals "zip" = some none) : M K mg := {
    f__law_are_alike := f1, fd__law_are_alike := _, u__law_are_alike := fun_mk (st := s__law_are_alike) l1 c1 k1, m__law_are_alike := PySem.W.mg_of X G a1, b__law_are_alike := (fun_mk (st := s__law_are_alike) l1 c1 k1).binds (ps := ["found"]) fun _ _ _ _ _ _ us hl => match us, hl with | [_], _ => rfl,
    f__law_own_question := f2, fd__law_own_question := _, u__law_own_question := fun_mk (st := s__law_own_question) l2 c2 k2, m__law_own_question := PySem.W.mg_of X G a2, b__law_own_question := (fun_mk (st := s__law_own_question) l2 c2 k2).binds (ps := ["cell", "tape", "h"]) fun _ _ _ _ _ _ us hl => match us, hl with | [_, _, _], _ => rfl,
    f_lot_row := f3, fd_lot_row := _, u_lot_row := fun_mk (st := s_lot_row) l3 c3 k3, m_lot_row := PySem.W.mg_of X G a3, b_lot_row := (fun_mk (st := s_lot_row) l3 c3 k3).binds (ps := ["n", "lot"]) fun _ _ _ _ _ _ us hl => match us, hl with | [_, _], _ => rfl,
    f_rows_added := f4, fd_rows_added := _, u_rows_added := fun_mk (st := s_rows_added) l4 c4 k4, m_rows_added := PySem.W.mg_of X G a4, b_rows_added := (fun_mk (st := s_rows_added) l4 c4 k4).binds (ps := ["one", "other"]) fun _ _ _ _ _ _ us hl => match us, hl with | [_, _], _ => rfl,
    f_cell_at := f5, fd_cell_at := _, u_cell_at := fun_mk (st := s_cell_at) l5 c5 k5, m_cell_at := PySem.W.mg_of X G a5, b_cell_at := (fun_mk (st := s_cell_at) l5 c5 k5).binds (ps := ["k", "d", "place"]) fun _ _ _ _ _ _ us hl => match us, hl with | [_, _, _], _ => rfl,
    f_sides_of := f6, fd_sides_of := _, u_sides_of := fun_mk (st := s_sides_of) l6 c6 k6, m_sides_of := PySem.W.mg_of X G a6, b_sides_of := (fun_mk (st := s_sides_of) l6 c6 k6).binds (ps := ["d", "h"]) fun _ _ _ _ _ _ us hl => match us, hl with | [_, _], _ => rfl,
    f_question := f7, fd_question := _, u_question := fun_mk (st := s_question) l7 c7 k7, m_question := PySem.W.mg_of X G a7, b_question := (fun_mk (st := s_question) l7 c7 k7).binds (ps := ["k", "cell", "tape", "h"]) fun _ _ _ _ _ _ us hl => match us, hl with | [_, _, _, _], _ => rfl,
    f_all_questions := f8, fd_all_questions := _, u_all_questions := fun_mk (st := s_all_questions) l8 c8 k8, m_all_questions := PySem.W.mg_of X G a8, b_all_questions := (fun_mk (st := s_all_questions) l8 c8 k8).binds (ps := ["k", "cell", "tape"]) fun _ _ _ _ _ _ us hl => match us, hl with | [_, _, _], _ => rfl,
    f__law_ask_questions := f9, fd__law_ask_questions := _, u__law_ask_questions := fun_mk (st := s__law_ask_questions) l9 c9 k9, m__law_ask_questions := PySem.W.mg_of X G a9, b__law_ask_questions := (fun_mk (st := s__law_ask_questions) l9 c9 k9).binds (ps := ["k", "cell", "tape"]) fun _ _ _ _ _ _ us hl => match us, hl with | [_, _, _], _ => rfl,
    f__law_draw := f10, fd__law_draw := _, u__law_draw := fun_mk (st := s__law_draw) l10 c10 k10, m__law_draw := PySem.W.mg_of X G a10, b__law_draw := (fun_mk (st := s__law_draw) l10 c10 k10).binds (ps := ["bag", "below"]) fun _ _ _ _ _ _ us hl => match us, hl with | [_, _], _ => rfl,
    f__law_own_answer := f11, fd__law_own_answer := _, u__law_own_answer := fun_mk (st := s__law_own_answer) l11 c11 k11, m__law_own_answer := PySem.W.mg_of X G a11, b__law_own_answer := (fun_mk (st := s__law_own_answer) l11 c11 k11).binds (ps := ["k", "store", "asked"]) fun _ _ _ _ _ _ us hl => match us, hl with | [_, _, _], _ => rfl,
    f_answer_bit := f12, fd_answer_bit := _, u_answer_bit := fun_mk (st := s_answer_bit) l12 c12 k12, m_answer_bit := PySem.W.mg_of X G a12, b_answer_bit := (fun_mk (st := s_answer_bit) l12 c12 k12).binds (ps := ["k", "store", "asked"]) fun _ _ _ _ _ _ us hl => match us, hl with | [_, _, _], _ => rfl,
    f__law_ask_answers := f13, fd__law_ask_answers := _, u__law_ask_answers := fun_mk (st := s__law_ask_answers) l13 c13 k13, m__law_ask_answers := PySem.W.mg_of X G a13, b__law_ask_answers := (fun_mk (st := s__law_ask_answers) l13 c13 k13).binds (ps := ["k", "store", "some"]) fun _ _ _ _ _ _ us hl => match us, hl with | [_, _, _], _ => rfl,
    f__law_odd := f14, fd__law_odd := _, u__law_odd := fun_mk (st := s__law_odd) l14 c14 k14, m__law_odd := PySem.W.mg_of X G a14, b__law_odd := (fun_mk (st := s__law_odd) l14 c14 k14).binds (ps := ["bits"]) fun _ _ _ _ _ _ us hl => match us, hl with | [_], _ => rfl,
    f__law_own_cell := f15, fd__law_own_cell := _, u__law_own_cell := fun_mk (st := s__law_own_cell) l15 c15 k15, m__law_own_cell := PySem.W.mg_of X G a15, b__law_own_cell := (fun_mk (st := s__law_own_cell) l15 c15 k15).binds (ps := ["k", "d", "place"]) fun _ _ _ _ _ _ us hl => match us, hl with | [_, _, _], _ => rfl,
    f_told_item := f16, fd_told_item := _, u_told_item := fun_mk (st := s_told_item) l16 c16 k16, m_told_item := PySem.W.mg_of X G a16, b_told_item := (fun_mk (st := s_told_item) l16 c16 k16).binds (ps := ["k", "store", "cell", "tape"]) fun _ _ _ _ _ _ us hl => match us, hl with | [_, _, _, _], _ => rfl,
    f__law_ask_items := f17, fd__law_ask_items := _, u__law_ask_items := fun_mk (st := s__law_ask_items) l17 c17 k17, m__law_ask_items := PySem.W.mg_of X G a17, b__law_ask_items := (fun_mk (st := s__law_ask_items) l17 c17 k17).binds (ps := ["k", "d", "stores", "tapes", "places"]) fun _ _ _ _ _ _ us hl => match us, hl with | [_, _, _, _, _], _ => rfl,
    f_cell_place := f18, fd_cell_place := _, u_cell_place := fun_mk (st := s_cell_place) l18 c18 k18, m_cell_place := PySem.W.mg_of X G a18, b_cell_place := (fun_mk (st := s_cell_place) l18 c18 k18).binds (ps := ["k", "cell"]) fun _ _ _ _ _ _ us hl => match us, hl with | [_, _], _ => rfl,
    f__law_ask_places := f19, fd__law_ask_places := _, u__law_ask_places := fun_mk (st := s__law_ask_places) l19 c19 k19, m__law_ask_places := PySem.W.mg_of X G a19, b__law_ask_places := (fun_mk (st := s__law_ask_places) l19 c19 k19).binds (ps := ["k", "d", "places"]) fun _ _ _ _ _ _ us hl => match us, hl with | [_, _, _], _ => rfl,
    f__law_cells_many := f20, fd__law_cells_many := _, u__law_cells_many := fun_mk (st := s__law_cells_many) l20 c20 k20, m__law_cells_many := PySem.W.mg_of X G a20, b__law_cells_many := (fun_mk (st := s__law_cells_many) l20 c20 k20).binds (ps := ["k", "d"]) fun _ _ _ _ _ _ us hl => match us, hl with | [_, _], _ => rfl,
    f__law_unit := f21, fd__law_unit := _, u__law_unit := fun_mk (st := s__law_unit) l21 c21 k21, m__law_unit := PySem.W.mg_of X G a21, b__law_unit := (fun_mk (st := s__law_unit) l21 c21 k21).binds (ps := ["k", "at"]) fun _ _ _ _ _ _ us hl => match us, hl with | [_, _], _ => rfl,
    f__law_own_store := f22, fd__law_own_store := _, u__law_own_store := fun_mk (st := s__law_own_store) l22 c22 k22, m__law_own_store := PySem.W.mg_of X G a22, b__law_own_store := (fun_mk (st := s__law_own_store) l22 c22 k22).binds (ps := ["bag", "many"]) fun _ _ _ _ _ _ us hl => match us, hl with | [_, _], _ => rfl,
    f__law_own_row := f23, fd__law_own_row := _, u__law_own_row := fun_mk (st := s__law_own_row) l23 c23 k23, m__law_own_row := PySem.W.mg_of X G a23, b__law_own_row := (fun_mk (st := s__law_own_row) l23 c23 k23).binds (ps := ["bag", "k"]) fun _ _ _ _ _ _ us hl => match us, hl with | [_, _], _ => rfl,
    f__law_rows := f24, fd__law_rows := _, u__law_rows := fun_mk (st := s__law_rows) l24 c24 k24, m__law_rows := PySem.W.mg_of X G a24, b__law_rows := (fun_mk (st := s__law_rows) l24 c24 k24).binds (ps := ["bag", "k", "d"]) fun _ _ _ _ _ _ us hl => match us, hl with | [_, _, _], _ => rfl,
    f__law_some_places := f25, fd__law_some_places := _, u__law_some_places := fun_mk (st := s__law_some_places) l25 c25 k25, m__law_some_places := PySem.W.mg_of X G a25, b__law_some_places := (fun_mk (st := s__law_some_places) l25 c25 k25).binds (ps := ["bag", "k", "d"]) fun _ _ _ _ _ _ us hl => match us, hl with | [_, _, _], _ => rfl,
    f__law_turned := f26, fd__law_turned := _, u__law_turned := fun_mk (st := s__law_turned) l26 c26 k26, m__law_turned := PySem.W.mg_of X G a26, b__law_turned := (fun_mk (st := s__law_turned) l26 c26 k26).binds (ps := ["store", "place"]) fun _ _ _ _ _ _ us hl => match us, hl with | [_, _], _ => rfl,
    f__law_one_cube := f27, fd__law_one_cube := _, u__law_one_cube := fun_mk (st := s__law_one_cube) l27 c27 k27, m__law_one_cube := PySem.W.mg_of X G a27, b__law_one_cube := (fun_mk (st := s__law_one_cube) l27 c27 k27).binds (ps := ["bag", "k", "d"]) fun _ _ _ _ _ _ us hl => match us, hl with | [_, _, _], _ => rfl,
    f__law_own_bag := f28, fd__law_own_bag := _, u__law_own_bag := fun_mk (st := s__law_own_bag) l28 c28 k28, m__law_own_bag := PySem.W.mg_of X G a28, b__law_own_bag := (fun_mk (st := s__law_own_bag) l28 c28 k28).binds (ps := ["script"]) fun _ _ _ _ _ _ us hl => match us, hl with | [_], _ => rfl,
    f__law_pick := f29, fd__law_pick := _, u__law_pick := fun_mk (st := s__law_pick) l29 c29 k29, m__law_pick := PySem.W.mg_of X G a29, b__law_pick := (fun_mk (st := s__law_pick) l29 c29 k29).binds (ps := ["bag", "some"]) fun _ _ _ _ _ _ us hl => match us, hl with | [_, _], _ => rfl,
    f__law_own_size := f30, fd__law_own_size := _, u__law_own_size := fun_mk (st := s__law_own_size) l30 c30 k30, m__law_own_size := PySem.W.mg_of X G a30, b__law_own_size := (fun_mk (st := s__law_own_size) l30 c30 k30).binds (ps := ["bag", "often"]) fun _ _ _ _ _ _ us hl => match us, hl with | [_, _], _ => rfl,
    f_law := f31, fd_law := _, u_law := fun_mk (st := s_law) l31 c31 k31, m_law := PySem.W.mg_of X G a31, b_law := (fun_mk (st := s_law) l31 c31 k31).binds (ps := ["script"]) fun _ _ _ _ _ _ us hl => match us, hl with | [_], _ => rfl,
    k_question_0_k_cell_tape_h := fun_kw (fun_mk (st := s_question) l7 c7 k7) fun _ _ _ _ _ _ us ws h1 h2 => match us, ws, h1, h2 with | [], [_, _, _, _], _, _ => rfl,
    k_all_questions_0_k_cell_tape := fun_kw (fun_mk (st := s_all_questions) l8 c8 k8) fun _ _ _ _ _ _ us ws h1 h2 => match us, ws, h1, h2 with | [], [_, _, _], _, _ => rfl,
    k_answer_bit_0_k_store_asked := fun_kw (fun_mk (st := s_answer_bit) l12 c12 k12) fun _ _ _ _ _ _ us ws h1 h2 => match us, ws, h1, h2 with | [], [_, _, _], _, _ => rfl,
    k_told_item_0_k_store_cell_tape := fun_kw (fun_mk (st := s_told_item) l16 c16 k16) fun _ _ _ _ _ _ us ws h1 h2 => match us, ws, h1, h2 with | [], [_, _, _, _], _, _ => rfl,
    k_cell_at_0_k_d_place := fun_kw (fun_mk (st := s_cell_at) l5 c5 k5) fun _ _ _ _ _ _ us ws h1 h2 => match us, ws, h1, h2 with | [], [_, _, _], _, _ => rfl,
    k_cell_place_0_k_cell := fun_kw (fun_mk (st := s_cell_place) l18 c18 k18) fun _ _ _ _ _ _ us ws h1 h2 => match us, ws, h1, h2 with | [], [_, _], _, _ => rfl,
    z_abs := PySem.W.mg_none_of X G z_abs,
    z_all := PySem.W.mg_none_of X G z_all,
    z_enumerate := PySem.W.mg_none_of X G z_enumerate,
    z_int := PySem.W.mg_none_of X G z_int,
    z_len := PySem.W.mg_none_of X G z_len,
    z_list := PySem.W.mg_none_of X G z_list,
    z_range := PySem.W.mg_none_of X G z_range,
    z_repr := PySem.W.mg_none_of X G z_repr,
    z_reversed := PySem.W.mg_none_of X G z_reversed,
    z_sum := PySem.W.mg_none_of X G z_sum,
    z_tuple := PySem.W.mg_none_of X G z_tuple,
    z_zip := PySem.W.mg_none_of X G z_zip }
theorem all_mk {l : PySem.W.OpenLaw} {w : World} {K : PySem.W.Frag} {h : Heap} {mg : Str → Option Value} {fa : Addr} (X : K.In h) (G : h.Ns mainGlobals mg) (hfa : mg "law" = some (.ref fa))
    {f1 : Addr} {od1 an1 : Option Addr} {sl1 : Array (Option Value)} {oc1 kV1 dc1 pm1 cd1 ct1 : Value}
    {f2 : Addr} {od2 an2 : Option Addr} {sl2 : Array (Option Value)} {oc2 kV2 dc2 pm2 cd2 ct2 : Value}
    {f3 : Addr} {od3 an3 : Option Addr} {sl3 : Array (Option Value)} {oc3 kV3 dc3 pm3 cd3 ct3 : Value}
    {f4 : Addr} {od4 an4 : Option Addr} {sl4 : Array (Option Value)} {oc4 kV4 dc4 pm4 cd4 ct4 : Value}
    {f5 : Addr} {od5 an5 : Option Addr} {sl5 : Array (Option Value)} {oc5 kV5 dc5 pm5 cd5 ct5 : Value}
    {f6 : Addr} {od6 an6 : Option Addr} {sl6 : Array (Option Value)} {oc6 kV6 dc6 pm6 cd6 ct6 : Value}
    {f7 : Addr} {od7 an7 : Option Addr} {sl7 : Array (Option Value)} {oc7 kV7 dc7 pm7 cd7 ct7 : Value}
    {f8 : Addr} {od8 an8 : Option Addr} {sl8 : Array (Option Value)} {oc8 kV8 dc8 pm8 cd8 ct8 : Value}
    {f9 : Addr} {od9 an9 : Option Addr} {sl9 : Array (Option Value)} {oc9 kV9 dc9 pm9 cd9 ct9 : Value}
    {f10 : Addr} {od10 an10 : Option Addr} {sl10 : Array (Option Value)} {oc10 kV10 dc10 pm10 cd10 ct10 : Value}
    {f11 : Addr} {od11 an11 : Option Addr} {sl11 : Array (Option Value)} {oc11 kV11 dc11 pm11 cd11 ct11 : Value}
    {f12 : Addr} {od12 an12 : Option Addr} {sl12 : Array (Option Value)} {oc12 kV12 dc12 pm12 cd12 ct12 : Value}
    {f13 : Addr} {od13 an13 : Option Addr} {sl13 : Array (Option Value)} {oc13 kV13 dc13 pm13 cd13 ct13 : Value}
    {f14 : Addr} {od14 an14 : Option Addr} {sl14 : Array (Option Value)} {oc14 kV14 dc14 pm14 cd14 ct14 : Value}
    {f15 : Addr} {od15 an15 : Option Addr} {sl15 : Array (Option Value)} {oc15 kV15 dc15 pm15 cd15 ct15 : Value}
    {f16 : Addr} {od16 an16 : Option Addr} {sl16 : Array (Option Value)} {oc16 kV16 dc16 pm16 cd16 ct16 : Value}
    {f17 : Addr} {od17 an17 : Option Addr} {sl17 : Array (Option Value)} {oc17 kV17 dc17 pm17 cd17 ct17 : Value}
    {f18 : Addr} {od18 an18 : Option Addr} {sl18 : Array (Option Value)} {oc18 kV18 dc18 pm18 cd18 ct18 : Value}
    {f19 : Addr} {od19 an19 : Option Addr} {sl19 : Array (Option Value)} {oc19 kV19 dc19 pm19 cd19 ct19 : Value}
    {f20 : Addr} {od20 an20 : Option Addr} {sl20 : Array (Option Value)} {oc20 kV20 dc20 pm20 cd20 ct20 : Value}
    {f21 : Addr} {od21 an21 : Option Addr} {sl21 : Array (Option Value)} {oc21 kV21 dc21 pm21 cd21 ct21 : Value}
    {f22 : Addr} {od22 an22 : Option Addr} {sl22 : Array (Option Value)} {oc22 kV22 dc22 pm22 cd22 ct22 : Value}
    {f23 : Addr} {od23 an23 : Option Addr} {sl23 : Array (Option Value)} {oc23 kV23 dc23 pm23 cd23 ct23 : Value}
    {f24 : Addr} {od24 an24 : Option Addr} {sl24 : Array (Option Value)} {oc24 kV24 dc24 pm24 cd24 ct24 : Value}
    {f25 : Addr} {od25 an25 : Option Addr} {sl25 : Array (Option Value)} {oc25 kV25 dc25 pm25 cd25 ct25 : Value}
    {f26 : Addr} {od26 an26 : Option Addr} {sl26 : Array (Option Value)} {oc26 kV26 dc26 pm26 cd26 ct26 : Value}
    {f27 : Addr} {od27 an27 : Option Addr} {sl27 : Array (Option Value)} {oc27 kV27 dc27 pm27 cd27 ct27 : Value}
    {f28 : Addr} {od28 an28 : Option Addr} {sl28 : Array (Option Value)} {oc28 kV28 dc28 pm28 cd28 ct28 : Value}
    {f29 : Addr} {od29 an29 : Option Addr} {sl29 : Array (Option Value)} {oc29 kV29 dc29 pm29 cd29 ct29 : Value}
    {f30 : Addr} {od30 an30 : Option Addr} {sl30 : Array (Option Value)} {oc30 kV30 dc30 pm30 cd30 ct30 : Value}
    {f31 : Addr} {od31 an31 : Option Addr} {sl31 : Array (Option Value)} {oc31 kV31 dc31 pm31 cd31 ct31 : Value}
    (a1 : PySem.W.nsIn K mainGlobals "_law_are_alike" = some (some (.ref f1))) (l1 : K.lookup f1 = some ⟨oc1, od1, .func (PySem.W.fnOf "_law_are_alike" "_law_are_alike" (defArgs s__law_are_alike) (defBody s__law_are_alike) (defScope s__law_are_alike) .none kV1 dc1 pm1 an1 cd1 ct1), sl1⟩) (c1 : PySem.W.codeIn K cd1 "_law_are_alike" = true) (k1 : PySem.W.keepIn K (.ref f1) = true)
    (a2 : PySem.W.nsIn K mainGlobals "_law_own_question" = some (some (.ref f2))) (l2 : K.lookup f2 = some ⟨oc2, od2, .func (PySem.W.fnOf "_law_own_question" "_law_own_question" (defArgs s__law_own_question) (defBody s__law_own_question) (defScope s__law_own_question) .none kV2 dc2 pm2 an2 cd2 ct2), sl2⟩) (c2 : PySem.W.codeIn K cd2 "_law_own_question" = true) (k2 : PySem.W.keepIn K (.ref f2) = true)
    (a3 : PySem.W.nsIn K mainGlobals "lot_row" = some (some (.ref f3))) (l3 : K.lookup f3 = some ⟨oc3, od3, .func (PySem.W.fnOf "lot_row" "lot_row" (defArgs s_lot_row) (defBody s_lot_row) (defScope s_lot_row) .none kV3 dc3 pm3 an3 cd3 ct3), sl3⟩) (c3 : PySem.W.codeIn K cd3 "lot_row" = true) (k3 : PySem.W.keepIn K (.ref f3) = true)
    (a4 : PySem.W.nsIn K mainGlobals "rows_added" = some (some (.ref f4))) (l4 : K.lookup f4 = some ⟨oc4, od4, .func (PySem.W.fnOf "rows_added" "rows_added" (defArgs s_rows_added) (defBody s_rows_added) (defScope s_rows_added) .none kV4 dc4 pm4 an4 cd4 ct4), sl4⟩) (c4 : PySem.W.codeIn K cd4 "rows_added" = true) (k4 : PySem.W.keepIn K (.ref f4) = true)
    (a5 : PySem.W.nsIn K mainGlobals "cell_at" = some (some (.ref f5))) (l5 : K.lookup f5 = some ⟨oc5, od5, .func (PySem.W.fnOf "cell_at" "cell_at" (defArgs s_cell_at) (defBody s_cell_at) (defScope s_cell_at) .none kV5 dc5 pm5 an5 cd5 ct5), sl5⟩) (c5 : PySem.W.codeIn K cd5 "cell_at" = true) (k5 : PySem.W.keepIn K (.ref f5) = true)
    (a6 : PySem.W.nsIn K mainGlobals "sides_of" = some (some (.ref f6))) (l6 : K.lookup f6 = some ⟨oc6, od6, .func (PySem.W.fnOf "sides_of" "sides_of" (defArgs s_sides_of) (defBody s_sides_of) (defScope s_sides_of) .none kV6 dc6 pm6 an6 cd6 ct6), sl6⟩) (c6 : PySem.W.codeIn K cd6 "sides_of" = true) (k6 : PySem.W.keepIn K (.ref f6) = true)
    (a7 : PySem.W.nsIn K mainGlobals "question" = some (some (.ref f7))) (l7 : K.lookup f7 = some ⟨oc7, od7, .func (PySem.W.fnOf "question" "question" (defArgs s_question) (defBody s_question) (defScope s_question) .none kV7 dc7 pm7 an7 cd7 ct7), sl7⟩) (c7 : PySem.W.codeIn K cd7 "question" = true) (k7 : PySem.W.keepIn K (.ref f7) = true)
    (a8 : PySem.W.nsIn K mainGlobals "all_questions" = some (some (.ref f8))) (l8 : K.lookup f8 = some ⟨oc8, od8, .func (PySem.W.fnOf "all_questions" "all_questions" (defArgs s_all_questions) (defBody s_all_questions) (defScope s_all_questions) .none kV8 dc8 pm8 an8 cd8 ct8), sl8⟩) (c8 : PySem.W.codeIn K cd8 "all_questions" = true) (k8 : PySem.W.keepIn K (.ref f8) = true)
    (a9 : PySem.W.nsIn K mainGlobals "_law_ask_questions" = some (some (.ref f9))) (l9 : K.lookup f9 = some ⟨oc9, od9, .func (PySem.W.fnOf "_law_ask_questions" "_law_ask_questions" (defArgs s__law_ask_questions) (defBody s__law_ask_questions) (defScope s__law_ask_questions) .none kV9 dc9 pm9 an9 cd9 ct9), sl9⟩) (c9 : PySem.W.codeIn K cd9 "_law_ask_questions" = true) (k9 : PySem.W.keepIn K (.ref f9) = true)
    (a10 : PySem.W.nsIn K mainGlobals "_law_draw" = some (some (.ref f10))) (l10 : K.lookup f10 = some ⟨oc10, od10, .func (PySem.W.fnOf "_law_draw" "_law_draw" (defArgs s__law_draw) (defBody s__law_draw) (defScope s__law_draw) .none kV10 dc10 pm10 an10 cd10 ct10), sl10⟩) (c10 : PySem.W.codeIn K cd10 "_law_draw" = true) (k10 : PySem.W.keepIn K (.ref f10) = true)
    (a11 : PySem.W.nsIn K mainGlobals "_law_own_answer" = some (some (.ref f11))) (l11 : K.lookup f11 = some ⟨oc11, od11, .func (PySem.W.fnOf "_law_own_answer" "_law_own_answer" (defArgs s__law_own_answer) (defBody s__law_own_answer) (defScope s__law_own_answer) .none kV11 dc11 pm11 an11 cd11 ct11), sl11⟩) (c11 : PySem.W.codeIn K cd11 "_law_own_answer" = true) (k11 : PySem.W.keepIn K (.ref f11) = true)
    (a12 : PySem.W.nsIn K mainGlobals "answer_bit" = some (some (.ref f12))) (l12 : K.lookup f12 = some ⟨oc12, od12, .func (PySem.W.fnOf "answer_bit" "answer_bit" (defArgs s_answer_bit) (defBody s_answer_bit) (defScope s_answer_bit) .none kV12 dc12 pm12 an12 cd12 ct12), sl12⟩) (c12 : PySem.W.codeIn K cd12 "answer_bit" = true) (k12 : PySem.W.keepIn K (.ref f12) = true)
    (a13 : PySem.W.nsIn K mainGlobals "_law_ask_answers" = some (some (.ref f13))) (l13 : K.lookup f13 = some ⟨oc13, od13, .func (PySem.W.fnOf "_law_ask_answers" "_law_ask_answers" (defArgs s__law_ask_answers) (defBody s__law_ask_answers) (defScope s__law_ask_answers) .none kV13 dc13 pm13 an13 cd13 ct13), sl13⟩) (c13 : PySem.W.codeIn K cd13 "_law_ask_answers" = true) (k13 : PySem.W.keepIn K (.ref f13) = true)
    (a14 : PySem.W.nsIn K mainGlobals "_law_odd" = some (some (.ref f14))) (l14 : K.lookup f14 = some ⟨oc14, od14, .func (PySem.W.fnOf "_law_odd" "_law_odd" (defArgs s__law_odd) (defBody s__law_odd) (defScope s__law_odd) .none kV14 dc14 pm14 an14 cd14 ct14), sl14⟩) (c14 : PySem.W.codeIn K cd14 "_law_odd" = true) (k14 : PySem.W.keepIn K (.ref f14) = true)
    (a15 : PySem.W.nsIn K mainGlobals "_law_own_cell" = some (some (.ref f15))) (l15 : K.lookup f15 = some ⟨oc15, od15, .func (PySem.W.fnOf "_law_own_cell" "_law_own_cell" (defArgs s__law_own_cell) (defBody s__law_own_cell) (defScope s__law_own_cell) .none kV15 dc15 pm15 an15 cd15 ct15), sl15⟩) (c15 : PySem.W.codeIn K cd15 "_law_own_cell" = true) (k15 : PySem.W.keepIn K (.ref f15) = true)
    (a16 : PySem.W.nsIn K mainGlobals "told_item" = some (some (.ref f16))) (l16 : K.lookup f16 = some ⟨oc16, od16, .func (PySem.W.fnOf "told_item" "told_item" (defArgs s_told_item) (defBody s_told_item) (defScope s_told_item) .none kV16 dc16 pm16 an16 cd16 ct16), sl16⟩) (c16 : PySem.W.codeIn K cd16 "told_item" = true) (k16 : PySem.W.keepIn K (.ref f16) = true)
    (a17 : PySem.W.nsIn K mainGlobals "_law_ask_items" = some (some (.ref f17))) (l17 : K.lookup f17 = some ⟨oc17, od17, .func (PySem.W.fnOf "_law_ask_items" "_law_ask_items" (defArgs s__law_ask_items) (defBody s__law_ask_items) (defScope s__law_ask_items) .none kV17 dc17 pm17 an17 cd17 ct17), sl17⟩) (c17 : PySem.W.codeIn K cd17 "_law_ask_items" = true) (k17 : PySem.W.keepIn K (.ref f17) = true)
    (a18 : PySem.W.nsIn K mainGlobals "cell_place" = some (some (.ref f18))) (l18 : K.lookup f18 = some ⟨oc18, od18, .func (PySem.W.fnOf "cell_place" "cell_place" (defArgs s_cell_place) (defBody s_cell_place) (defScope s_cell_place) .none kV18 dc18 pm18 an18 cd18 ct18), sl18⟩) (c18 : PySem.W.codeIn K cd18 "cell_place" = true) (k18 : PySem.W.keepIn K (.ref f18) = true)
    (a19 : PySem.W.nsIn K mainGlobals "_law_ask_places" = some (some (.ref f19))) (l19 : K.lookup f19 = some ⟨oc19, od19, .func (PySem.W.fnOf "_law_ask_places" "_law_ask_places" (defArgs s__law_ask_places) (defBody s__law_ask_places) (defScope s__law_ask_places) .none kV19 dc19 pm19 an19 cd19 ct19), sl19⟩) (c19 : PySem.W.codeIn K cd19 "_law_ask_places" = true) (k19 : PySem.W.keepIn K (.ref f19) = true)
    (a20 : PySem.W.nsIn K mainGlobals "_law_cells_many" = some (some (.ref f20))) (l20 : K.lookup f20 = some ⟨oc20, od20, .func (PySem.W.fnOf "_law_cells_many" "_law_cells_many" (defArgs s__law_cells_many) (defBody s__law_cells_many) (defScope s__law_cells_many) .none kV20 dc20 pm20 an20 cd20 ct20), sl20⟩) (c20 : PySem.W.codeIn K cd20 "_law_cells_many" = true) (k20 : PySem.W.keepIn K (.ref f20) = true)
    (a21 : PySem.W.nsIn K mainGlobals "_law_unit" = some (some (.ref f21))) (l21 : K.lookup f21 = some ⟨oc21, od21, .func (PySem.W.fnOf "_law_unit" "_law_unit" (defArgs s__law_unit) (defBody s__law_unit) (defScope s__law_unit) .none kV21 dc21 pm21 an21 cd21 ct21), sl21⟩) (c21 : PySem.W.codeIn K cd21 "_law_unit" = true) (k21 : PySem.W.keepIn K (.ref f21) = true)
    (a22 : PySem.W.nsIn K mainGlobals "_law_own_store" = some (some (.ref f22))) (l22 : K.lookup f22 = some ⟨oc22, od22, .func (PySem.W.fnOf "_law_own_store" "_law_own_store" (defArgs s__law_own_store) (defBody s__law_own_store) (defScope s__law_own_store) .none kV22 dc22 pm22 an22 cd22 ct22), sl22⟩) (c22 : PySem.W.codeIn K cd22 "_law_own_store" = true) (k22 : PySem.W.keepIn K (.ref f22) = true)
    (a23 : PySem.W.nsIn K mainGlobals "_law_own_row" = some (some (.ref f23))) (l23 : K.lookup f23 = some ⟨oc23, od23, .func (PySem.W.fnOf "_law_own_row" "_law_own_row" (defArgs s__law_own_row) (defBody s__law_own_row) (defScope s__law_own_row) .none kV23 dc23 pm23 an23 cd23 ct23), sl23⟩) (c23 : PySem.W.codeIn K cd23 "_law_own_row" = true) (k23 : PySem.W.keepIn K (.ref f23) = true)
    (a24 : PySem.W.nsIn K mainGlobals "_law_rows" = some (some (.ref f24))) (l24 : K.lookup f24 = some ⟨oc24, od24, .func (PySem.W.fnOf "_law_rows" "_law_rows" (defArgs s__law_rows) (defBody s__law_rows) (defScope s__law_rows) .none kV24 dc24 pm24 an24 cd24 ct24), sl24⟩) (c24 : PySem.W.codeIn K cd24 "_law_rows" = true) (k24 : PySem.W.keepIn K (.ref f24) = true)
    (a25 : PySem.W.nsIn K mainGlobals "_law_some_places" = some (some (.ref f25))) (l25 : K.lookup f25 = some ⟨oc25, od25, .func (PySem.W.fnOf "_law_some_places" "_law_some_places" (defArgs s__law_some_places) (defBody s__law_some_places) (defScope s__law_some_places) .none kV25 dc25 pm25 an25 cd25 ct25), sl25⟩) (c25 : PySem.W.codeIn K cd25 "_law_some_places" = true) (k25 : PySem.W.keepIn K (.ref f25) = true)
    (a26 : PySem.W.nsIn K mainGlobals "_law_turned" = some (some (.ref f26))) (l26 : K.lookup f26 = some ⟨oc26, od26, .func (PySem.W.fnOf "_law_turned" "_law_turned" (defArgs s__law_turned) (defBody s__law_turned) (defScope s__law_turned) .none kV26 dc26 pm26 an26 cd26 ct26), sl26⟩) (c26 : PySem.W.codeIn K cd26 "_law_turned" = true) (k26 : PySem.W.keepIn K (.ref f26) = true)
    (a27 : PySem.W.nsIn K mainGlobals "_law_one_cube" = some (some (.ref f27))) (l27 : K.lookup f27 = some ⟨oc27, od27, .func (PySem.W.fnOf "_law_one_cube" "_law_one_cube" (defArgs s__law_one_cube) (defBody s__law_one_cube) (defScope s__law_one_cube) .none kV27 dc27 pm27 an27 cd27 ct27), sl27⟩) (c27 : PySem.W.codeIn K cd27 "_law_one_cube" = true) (k27 : PySem.W.keepIn K (.ref f27) = true)
    (a28 : PySem.W.nsIn K mainGlobals "_law_own_bag" = some (some (.ref f28))) (l28 : K.lookup f28 = some ⟨oc28, od28, .func (PySem.W.fnOf "_law_own_bag" "_law_own_bag" (defArgs s__law_own_bag) (defBody s__law_own_bag) (defScope s__law_own_bag) .none kV28 dc28 pm28 an28 cd28 ct28), sl28⟩) (c28 : PySem.W.codeIn K cd28 "_law_own_bag" = true) (k28 : PySem.W.keepIn K (.ref f28) = true)
    (a29 : PySem.W.nsIn K mainGlobals "_law_pick" = some (some (.ref f29))) (l29 : K.lookup f29 = some ⟨oc29, od29, .func (PySem.W.fnOf "_law_pick" "_law_pick" (defArgs s__law_pick) (defBody s__law_pick) (defScope s__law_pick) .none kV29 dc29 pm29 an29 cd29 ct29), sl29⟩) (c29 : PySem.W.codeIn K cd29 "_law_pick" = true) (k29 : PySem.W.keepIn K (.ref f29) = true)
    (a30 : PySem.W.nsIn K mainGlobals "_law_own_size" = some (some (.ref f30))) (l30 : K.lookup f30 = some ⟨oc30, od30, .func (PySem.W.fnOf "_law_own_size" "_law_own_size" (defArgs s__law_own_size) (defBody s__law_own_size) (defScope s__law_own_size) .none kV30 dc30 pm30 an30 cd30 ct30), sl30⟩) (c30 : PySem.W.codeIn K cd30 "_law_own_size" = true) (k30 : PySem.W.keepIn K (.ref f30) = true)
    (a31 : PySem.W.nsIn K mainGlobals "law" = some (some (.ref f31))) (l31 : K.lookup f31 = some ⟨oc31, od31, .func (PySem.W.fnOf "law" "law" (defArgs s_law) (defBody s_law) (defScope s_law) .none kV31 dc31 pm31 an31 cd31 ct31), sl31⟩) (c31 : PySem.W.codeIn K cd31 "law" = true) (k31 : PySem.W.keepIn K (.ref f31) = true)
    (z_abs : PySem.W.nsIn K mainGlobals "abs" = some none)
    (z_all : PySem.W.nsIn K mainGlobals "all" = some none)
    (z_enumerate : PySem.W.nsIn K mainGlobals "enumerate" = some none)
    (z_int : PySem.W.nsIn K mainGlobals "int" = some none)
    (z_len : PySem.W.nsIn K mainGlobals "len" = some none)
    (z_list : PySem.W.nsIn K mainGlobals "list" = some none)
    (z_range : PySem.W.nsIn K mainGlobals "range" = some none)
    (z_repr : PySem.W.nsIn K mainGlobals "repr" = some none)
    (z_reversed : PySem.W.nsIn K mainGlobals "reversed" = some none)
    (z_sum : PySem.W.nsIn K mainGlobals "sum" = some none)
    (z_tuple : PySem.W.nsIn K mainGlobals "tuple" = some none)
    (z_zip : PySem.W.nsIn K mainGlobals "zip" = some none) :
    ∃ fd : FuncData, (∀ (s : Shared) (u : Value), BindsTo s fd ⟨[u], []⟩ [("script", u)]) ∧ ∀ base : Heap, K.In base → base.Ns mainGlobals mg → FnG l.prog w K mg base 8 fa fd ["script"] (spL K 14 1 own_bag b_law) := by
  have e := hfa.symm.trans (PySem.W.mg_of X G a31)
  cases e
  exact ⟨_, fun s v => .of_eq rfl, fun base _ _ => ok_law (mk X G a1 l1 c1 k1 a2 l2 c2 k2 a3 l3 c3 k3 a4 l4 c4 k4 a5 l5 c5 k5 a6 l6 c6 k6 a7 l7 c7 k7 a8 l8 c8 k8 a9 l9 c9 k9 a10 l10 c10 k10 a11 l11 c11 k11 a12 l12 c12 k12 a13 l13 c13 k13 a14 l14 c14 k14 a15 l15 c15 k15 a16 l16 c16 k16 a17 l17 c17 k17 a18 l18 c18 k18 a19 l19 c19 k19 a20 l20 c20 k20 a21 l21 c21 k21 a22 l22 c22 k22 a23 l23 c23 k23 a24 l24 c24 k24 a25 l25 c25 k25 a26 l26 c26 k26 a27 l27 c27 k27 a28 l28 c28 k28 a29 l29 c29 k29 a30 l30 c30 k30 a31 l31 c31 k31 z_abs z_all z_enumerate z_int z_len z_list z_range z_repr z_reversed z_sum z_tuple z_zip)⟩
end Lw

set_option maxRecDepth 100000
open PySem PySem.W PyProof.Rows
set_option maxHeartbeats 0 in
theorem PySem.Challenge.cw_fewbitsread_k55_whole_cells_holds : PySem.Challenge.rw_fewbitsread_k55_whole_cells.Holds := by
  w_on; o_law; k_head; (case hw => w_witness2)
  k_fill
  refine VL.walk_G (l := PySem.Challenge.rw_fewbitsread_k55_whole_cells) (n := 63) (k := 8) (x := "script") (sp := fun w => VL.spL _ 14 1 Lw.own_bag Lw.b_law) rfl (by decide) rfl ⟨rfl, by decide, by decide⟩ (fun w h Y => PySem.W.kIn_of Y) ?F (fun _ _ a ns hl _ hS => Lw.law_holds ns hl hS)
  case F =>
    intro w mg fa h KX G hmg
    refine' Lw.all_mk KX G hmg ?a1 ?l1 ?c1 ?k1 ?a2 ?l2 ?c2 ?k2 ?a3 ?l3 ?c3 ?k3 ?a4 ?l4 ?c4 ?k4 ?a5 ?l5 ?c5 ?k5 ?a6 ?l6 ?c6 ?k6 ?a7 ?l7 ?c7 ?k7 ?a8 ?l8 ?c8 ?k8 ?a9 ?l9 ?c9 ?k9 ?a10 ?l10 ?c10 ?k10 ?a11 ?l11 ?c11 ?k11 ?a12 ?l12 ?c12 ?k12 ?a13 ?l13 ?c13 ?k13 ?a14 ?l14 ?c14 ?k14 ?a15 ?l15 ?c15 ?k15 ?a16 ?l16 ?c16 ?k16 ?a17 ?l17 ?c17 ?k17 ?a18 ?l18 ?c18 ?k18 ?a19 ?l19 ?c19 ?k19 ?a20 ?l20 ?c20 ?k20 ?a21 ?l21 ?c21 ?k21 ?a22 ?l22 ?c22 ?k22 ?a23 ?l23 ?c23 ?k23 ?a24 ?l24 ?c24 ?k24 ?a25 ?l25 ?c25 ?k25 ?a26 ?l26 ?c26 ?k26 ?a27 ?l27 ?c27 ?k27 ?a28 ?l28 ?c28 ?k28 ?a29 ?l29 ?c29 ?k29 ?a30 ?l30 ?c30 ?k30 ?a31 ?l31 ?c31 ?k31 ?z_abs ?z_all ?z_enumerate ?z_int ?z_len ?z_list ?z_range ?z_repr ?z_reversed ?z_sum ?z_tuple ?z_zip
    (case a1 => k_is); (case l1 => k_is); (case c1 => k_is); (case k1 => k_is); (case a2 => k_is); (case l2 => k_is); (case c2 => k_is); (case k2 => k_is); (case a3 => k_is); (case l3 => k_is); (case c3 => k_is); (case k3 => k_is); (case a4 => k_is); (case l4 => k_is); (case c4 => k_is); (case k4 => k_is); (case a5 => k_is); (case l5 => k_is); (case c5 => k_is); (case k5 => k_is); (case a6 => k_is); (case l6 => k_is); (case c6 => k_is); (case k6 => k_is); (case a7 => k_is); (case l7 => k_is); (case c7 => k_is); (case k7 => k_is); (case a8 => k_is); (case l8 => k_is); (case c8 => k_is); (case k8 => k_is); (case a9 => k_is); (case l9 => k_is); (case c9 => k_is); (case k9 => k_is); (case a10 => k_is); (case l10 => k_is); (case c10 => k_is); (case k10 => k_is); (case a11 => k_is); (case l11 => k_is); (case c11 => k_is); (case k11 => k_is); (case a12 => k_is); (case l12 => k_is); (case c12 => k_is); (case k12 => k_is); (case a13 => k_is); (case l13 => k_is); (case c13 => k_is); (case k13 => k_is); (case a14 => k_is); (case l14 => k_is); (case c14 => k_is); (case k14 => k_is); (case a15 => k_is); (case l15 => k_is); (case c15 => k_is); (case k15 => k_is); (case a16 => k_is); (case l16 => k_is); (case c16 => k_is); (case k16 => k_is); (case a17 => k_is); (case l17 => k_is); (case c17 => k_is); (case k17 => k_is); (case a18 => k_is); (case l18 => k_is); (case c18 => k_is); (case k18 => k_is); (case a19 => k_is); (case l19 => k_is); (case c19 => k_is); (case k19 => k_is); (case a20 => k_is); (case l20 => k_is); (case c20 => k_is); (case k20 => k_is); (case a21 => k_is); (case l21 => k_is); (case c21 => k_is); (case k21 => k_is); (case a22 => k_is); (case l22 => k_is); (case c22 => k_is); (case k22 => k_is); (case a23 => k_is); (case l23 => k_is); (case c23 => k_is); (case k23 => k_is); (case a24 => k_is); (case l24 => k_is); (case c24 => k_is); (case k24 => k_is); (case a25 => k_is); (case l25 => k_is); (case c25 => k_is); (case k25 => k_is); (case a26 => k_is); (case l26 => k_is); (case c26 => k_is); (case k26 => k_is); (case a27 => k_is); (case l27 => k_is); (case c27 => k_is); (case k27 => k_is); (case a28 => k_is); (case l28 => k_is); (case c28 => k_is); (case k28 => k_is); (case a29 => k_is); (case l29 => k_is); (case c29 => k_is); (case k29 => k_is); (case a30 => k_is); (case l30 => k_is); (case c30 => k_is); (case k30 => k_is); (case a31 => k_is); (case l31 => k_is); (case c31 => k_is); (case k31 => k_is); (case z_abs => k_is); (case z_all => k_is); (case z_enumerate => k_is); (case z_int => k_is); (case z_len => k_is); (case z_list => k_is); (case z_range => k_is); (case z_repr => k_is); (case z_reversed => k_is); (case z_sum => k_is); (case z_tuple => k_is); (case z_zip => k_is)
