import PyProof.Rows.All
import Wide.All
import OpenK.AllK
import Wide.FinOn
import HandS.ForMost
import HandS.ForExc
import HandS.TupAny
import HandS.Star
import HandS.Deep
import HandS.TryMany
import HandS.ExcInit
import HandS.ExcField
import HandS.Wide
import HandS.Small
import HandS.TupLe
import HandS.ExcValue
import HandS.IsInst
import HandS.SortInts
import KE.GoesEnum
import KE.SortData
import KE.DataMinMax
import HandS.Style
import KE.KSortTup
import HandS.TupMul
import HandS.SetFor
import HandS.Strs
import HandS.TupSets
import PySem.Challenge.RW_sumless_k23_answers_are_new
set_option Elab.async false
set_option linter.all false
set_option maxRecDepth 100000
set_option autoImplicit false
namespace Y
open PySem PySem.Spec L2
open PyProof.Rows hiding St

inductive D where
  | non | bl (b : Bool) | int (i : Int) | str (s : Str) | tup (xs : List D) | lst (xs : List D) | obj (k : Nat) | dct | scr (ns : List Int) | key (ns : List Int) | exn (a dd : Addr) (f : Str) (d : D)

/-- what stands at a numbered object -/
inductive MO where
  | dead
  | lst (xs : List D)
  | rnd
  | ins (c : Str) (fs : List (Str × D))
  | dic (kvs : List (List Int × Option Int))
  | dik (kvs : List (Int × Option Int))
  | dil (u : Obj) (kvs : List (List Int × Option Int))
  | exc (c : Str)
  | exi (c f : Str) (d : D)

abbrev Rho := List (Option D)
abbrev GS := List MO
/-- where the numbered objects stand (none: no more one); what is being made and not shown yet -/
structure Eta where
  o : List (Option Addr)
  hid : List Addr
def Out (η : Eta) (a : Addr) : Prop := some a ∉ η.o ∧ a ∉ η.hid

/-- an error: its class, its field -/
structure Er where
  cls : Str
  arg : Option (Str × D)

/-- a list that nobody writes: the script -/
def SqF (K : PySem.W.Frag) (H : Hp) (a : Addr) (xs : List V) : Prop := (∃ o, H a = some (.frz o (.lst xs))) ∨
  ∃ (o : Obj) (its : Array Value) (n : Nat), K.lookup a = some o ∧ o.cls = .type "list" ∧ o.dict = none ∧ o.data = .seq its n ∧ its.size ≤ sizeLine ∧ Vals xs its.toList
/-- a dict by tuples of ints: True or ints stand there -/
def vO : Option Int → V
  | none => .bl true
  | some i => .int i
def kvI (kvs : List (Int × Option Int)) : List (L2.Key × V) := kvs.map fun e => (Sum.inl e.1, vO e.2)
def kvV (kvs : List (List Int × Option Int)) : List (List L2.Key × V) := kvs.map fun e => (e.1.map Sum.inl, vO e.2)
mutual
def Rp (K : PySem.W.Frag) (η : Eta) (H : Hp) : D → V → Prop
  | .non, v => v = .non
  | .bl b, v => v = .bl b
  | .int i, v => v = .int i
  | .str s, v => v = .str s
  | .tup ds, v => ∃ a vs, v = .ref a ∧ SqT K H a vs ∧ RpL K η H ds vs
  | .lst ds, v => ∃ a vs, v = .ref a ∧ Out η a ∧ H a = some (.lst vs) ∧ RpL K η H ds vs
  | .obj k, v => ∃ a, v = .ref a ∧ (η.o[k]? = some (some a) ∨ η.o[k]? = some none)
  | .dct, v => ∃ a, v = .ref a ∧ Out η a ∧ H a = some (.dK [])
  | .scr ns, v => ∃ a, v = .ref a ∧ SqF K H a (ns.map V.int)
  | .key ns, v => ∃ a, v = .ref a ∧ H a = some (.tup (ns.map V.int))
  | .exn a dd f d, v => v = .ref a ∧ ∃ u, H dd = some (.xd [(f, u)]) ∧ Rp K η H d u
def RpL (K : PySem.W.Frag) (η : Eta) (H : Hp) : List D → List V → Prop
  | [], vs => vs = []
  | d :: ds, vs => ∃ v r, vs = v :: r ∧ Rp K η H d v ∧ RpL K η H ds r
end

/-- a source of numbers: what is always so of its list -/
def GoodR (ns : List Int) : Prop := ∃ a b r, ns = a :: b :: r ∧ 0 ≤ a ∧ a < 2147483647 ∧ r.length ≤ 98

def FsR (K : PySem.W.Frag) (η : Eta) (H : Hp) : List (Str × D) → List (Str × V) → Prop
  | [], vs => vs = []
  | (f, d) :: ds, vs => ∃ v r, vs = (f, v) :: r ∧ Rp K η H d v ∧ FsR K η H ds r

def MOk (K : PySem.W.Frag) (mg : Str → Option Value) (η : Eta) (H : Hp) (k : Nat) : MO → Prop
  | .dead => η.o[k]? = some none
  | .lst ds => ∃ a vs, η.o[k]? = some (some a) ∧ H a = some (.lst vs) ∧ RpL K η H ds vs
  | .rnd => ∃ a ns, η.o[k]? = some (some a) ∧ H a = some (.lst (ns.map V.int)) ∧ GoodR ns
  | .ins c fs => ∃ a C dx vs, η.o[k]? = some (some a) ∧ mg c = some (.ref C) ∧ H a = some (.ins C dx vs) ∧ FsR K η H fs vs
  | .dic kvs => ∃ a, η.o[k]? = some (some a) ∧ H a = some (.dT (kvV kvs))
  | .dik kvs => ∃ a, η.o[k]? = some (some a) ∧ H a = some (.dK (kvI kvs))
  | .dil u kvs => ∃ a, η.o[k]? = some (some a) ∧ H a = some (.frz u (.dT (kvV kvs)))
  | .exc c => ∃ a C, η.o[k]? = some (some a) ∧ mg c = some (.ref C) ∧ H a = some (ExO (.ref C) a)
  | .exi c f d => ∃ a C dx v, η.o[k]? = some (some a) ∧ mg c = some (.ref C) ∧ H a = some (exo a C (some dx)) ∧ Out η dx ∧ H dx = some (exd dx [(f, v)]) ∧ Rp K η H d v

structure W (K : PySem.W.Frag) (mg : Str → Option Value) (η : Eta) (G : GS) (H : Hp) : Prop where
  len : η.o.length = G.length
  at_ : ∀ (k : Nat) (m : MO), G[k]? = some m → MOk K mg η H k m
  inj : ∀ (i j : Nat) (a : Addr), η.o[i]? = some (some a) → η.o[j]? = some (some a) → i = j
  hd : ∀ a, a ∈ η.hid → some a ∉ η.o ∧ ∃ o, H a = some o

/-- things that are never written -/
def Fix : HO → Prop
  | .tup _ => True
  | .frz _ _ => True
  | .own _ => True
  | .xd _ => True
  | _ => False

structure Stp (η : Eta) (H : Hp) (η' : Eta) (H' : Hp) : Prop where
  le : η.o.length ≤ η'.o.length
  old : ∀ (k : Nat) (a : Addr), η.o[k]? = some (some a) → η'.o[k]? = some (some a) ∨ η'.o[k]? = some none
  dead : ∀ (k : Nat), η.o[k]? = some none → η'.o[k]? = some none
  new : ∀ (k : Nat) (a : Addr), η.o.length ≤ k → η'.o[k]? = some (some a) → H a = none
  keep : ∀ b o, H b = some o → (some b ∉ η.o ∨ Fix o) → H' b = some o
  more : ∀ b o, H b = some o → ∃ o', H' b = some o'
  hid : ∃ L, η'.hid = L ++ η.hid ∧ ∀ b ∈ L, H b = none

theorem no_new {η : Eta} {H : Hp} (k : Nat) (a : Addr) (h : η.o.length ≤ k) (e : η.o[k]? = some (some a)) : H a = none := by
  rw [List.getElem?_eq_none h] at e; cases e
theorem hid0 {η : Eta} {H : Hp} : ∃ L, η.hid = L ++ η.hid ∧ ∀ b ∈ L, H b = none := ⟨[], rfl, fun _ h => nomatch h⟩
theorem Stp.refl (η : Eta) (H : Hp) : Stp η H η H :=
  ⟨Nat.le_refl _, fun _ _ h => .inl h, fun _ h => h, no_new, fun _ _ h _ => h, fun _ o h => ⟨o, h⟩, hid0⟩

theorem mem_eta {η : Eta} {a : Addr} : some a ∈ η.o ↔ ∃ k : Nat, η.o[k]? = some (some a) := by
  rw [List.mem_iff_getElem?]

theorem Stp.out {η η' : Eta} {H H' : Hp} (s : Stp η H η' H') {b : Addr} {o : HO} (h : H b = some o) (n : Out η b) : Out η' b := by
  refine ⟨fun hm => ?_, fun hm => ?_⟩
  case refine_2 =>
    obtain ⟨L, e, hL⟩ := s.hid
    rw [e] at hm
    rcases List.mem_append.mp hm with hm | hm
    · rw [hL b hm] at h; cases h
    · exact n.2 hm
  obtain ⟨k, e⟩ := mem_eta.mp hm
  by_cases hk : k < η.o.length
  · obtain ⟨x, ex⟩ : ∃ x, η.o[k]? = some x := ⟨η.o[k], List.getElem?_eq_getElem hk⟩
    cases x with
    | none => rw [s.dead k ex] at e; cases e
    | some c =>
      rcases s.old k c ex with q | q
      · rw [q] at e; cases e; exact n.1 (mem_eta.mpr ⟨k, ex⟩)
      · rw [q] at e; cases e
  · have := s.new k b (Nat.le_of_not_lt hk) e
    rw [h] at this; cases this

theorem Stp.outO {η η' : Eta} {H H' : Hp} (s : Stp η H η' H') {b : Addr} {o : HO} (h : H b = some o) (n : some b ∉ η.o) : some b ∉ η'.o := by
  intro hm
  obtain ⟨k, e⟩ := mem_eta.mp hm
  by_cases hk : k < η.o.length
  · obtain ⟨x, ex⟩ : ∃ x, η.o[k]? = some x := ⟨η.o[k], List.getElem?_eq_getElem hk⟩
    cases x with
    | none => rw [s.dead k ex] at e; cases e
    | some c =>
      rcases s.old k c ex with q | q
      · rw [q] at e; cases e; exact n (mem_eta.mpr ⟨k, ex⟩)
      · rw [q] at e; cases e
  · have := s.new k b (Nat.le_of_not_lt hk) e
    rw [h] at this; cases this
theorem Stp.trans {η η1 η2 : Eta} {H H1 H2 : Hp} (s : Stp η H η1 H1) (t : Stp η1 H1 η2 H2) : Stp η H η2 H2 where
  le := Nat.le_trans s.le t.le
  old := fun k a h => by
    rcases s.old k a h with q | q
    · exact t.old k a q
    · exact .inr (t.dead k q)
  dead := fun k h => t.dead k (s.dead k h)
  new := fun k a hk e => by
    by_cases h1 : k < η1.o.length
    · obtain ⟨x, ex⟩ : ∃ x, η1.o[k]? = some x := ⟨η1.o[k], List.getElem?_eq_getElem h1⟩
      cases x with
      | none => rw [t.dead k ex] at e; cases e
      | some c =>
        rcases t.old k c ex with q | q
        · rw [q] at e; cases e; exact s.new k a hk ex
        · rw [q] at e; cases e
    · have q := t.new k a (Nat.le_of_not_lt h1) e
      cases z : H a with
      | none => rfl
      | some o => obtain ⟨o', q'⟩ := s.more a o z; rw [q] at q'; cases q'
  keep := fun b o h n => by
    have h1 := s.keep b o h n
    refine t.keep b o h1 ?_
    rcases n with n | n
    · exact .inl (s.outO h n)
    · exact .inr n
  more := fun b o h => by
    obtain ⟨o1, h1⟩ := s.more b o h
    exact t.more b o1 h1
  hid := by
    obtain ⟨L1, e1, h1⟩ := s.hid
    obtain ⟨L2, e2, h2⟩ := t.hid
    refine ⟨L2 ++ L1, by rw [e2, e1, List.append_assoc], fun b hb => ?_⟩
    rcases List.mem_append.mp hb with hb | hb
    · cases z : H b with
      | none => rfl
      | some o => obtain ⟨o', q'⟩ := s.more b o z; rw [h2 b hb] at q'; cases q'
    · exact h1 b hb

section
variable {K : PySem.W.Frag} {mg : Str → Option Value} {η η' : Eta} {H H' : Hp} {G : GS}

theorem SqF.up (k : ∀ b o, H b = some o → Fix o → H' b = some o) {a : Addr} {vs : List V} (h : SqF K H a vs) : SqF K H' a vs := by
  rcases h with ⟨o, h⟩ | h
  · exact .inl ⟨o, k _ _ h trivial⟩
  · exact .inr h
theorem SqT.step (s : Stp η H η' H') {a : Addr} {vs : List V} (h : SqT K H a vs) : SqT K H' a vs := by
  rcases h with (h | ⟨o, h⟩) | h
  · exact .inl (.inl (s.keep _ _ h (.inr trivial)))
  · exact .inl (.inr ⟨o, s.keep _ _ h (.inr trivial)⟩)
  · exact .inr h

mutual
theorem Rp.step (s : Stp η H η' H') : ∀ (d : D) (v : V), Rp K η H d v → Rp K η' H' d v
  | .non, _, h => h
  | .bl _, _, h => h
  | .int _, _, h => h
  | .str _, _, h => h
  | .tup ds, v, h => by
    obtain ⟨a, vs, e, ht, hr⟩ := h
    exact ⟨a, vs, e, SqT.step s ht, RpL.step s ds vs hr⟩
  | .lst ds, v, h => by
    obtain ⟨a, vs, e, hn, hl, hr⟩ := h
    exact ⟨a, vs, e, s.out hl hn, s.keep _ _ hl (.inl hn.1), RpL.step s ds vs hr⟩
  | .obj k, v, h => by
    obtain ⟨a, e, h⟩ := h
    refine ⟨a, e, ?_⟩
    rcases h with h | h
    · exact s.old k a h
    · exact .inr (s.dead k h)
  | .dct, v, h => by
    obtain ⟨a, e, n, hd⟩ := h
    exact ⟨a, e, s.out hd n, s.keep _ _ hd (.inl n.1)⟩
  | .scr ns, v, h => by
    obtain ⟨a, e, h⟩ := h
    exact ⟨a, e, h.up fun b o z f => s.keep b o z (.inr f)⟩
  | .key ns, v, h => by
    obtain ⟨a, e, h⟩ := h
    exact ⟨a, e, s.keep _ _ h (.inr trivial)⟩
  | .exn a dd f d, v, h => by
    obtain ⟨e, u, hd, r⟩ := h
    exact ⟨e, u, s.keep _ _ hd (.inr trivial), Rp.step s d u r⟩
theorem RpL.step (s : Stp η H η' H') : ∀ (ds : List D) (vs : List V), RpL K η H ds vs → RpL K η' H' ds vs
  | [], _, h => h
  | d :: ds, vs, h => by
    obtain ⟨v, r, e, h1, h2⟩ := h
    exact ⟨v, r, e, Rp.step s d v h1, RpL.step s ds r h2⟩
end

theorem FsR.step (s : Stp η H η' H') : ∀ (ds : List (Str × D)) (vs : List (Str × V)), FsR K η H ds vs → FsR K η' H' ds vs
  | [], _, h => h
  | (f, d) :: ds, vs, h => by
    obtain ⟨v, r, e, h1, h2⟩ := h
    exact ⟨v, r, e, Rp.step s d v h1, FsR.step s ds r h2⟩

theorem RpL.length : ∀ {ds : List D} {vs : List V}, RpL K η H ds vs → ds.length = vs.length
  | [], _, h => by cases h; rfl
  | d :: ds, vs, h => by
    obtain ⟨v, r, e, _, h2⟩ := h
    subst e
    simp [RpL.length h2]
theorem RpL.get : ∀ {ds : List D} {vs : List V} {i : Nat} {d : D}, RpL K η H ds vs → ds[i]? = some d → ∃ v, vs[i]? = some v ∧ Rp K η H d v
  | [], _, i, d, h, e => by simp at e
  | d :: ds, vs, 0, x, h, e => by
    obtain ⟨v, r, ev, h1, h2⟩ := h
    simp at e; subst e; subst ev
    exact ⟨v, rfl, h1⟩
  | d :: ds, vs, i + 1, x, h, e => by
    obtain ⟨v, r, ev, h1, h2⟩ := h
    subst ev
    obtain ⟨u, e1, e2⟩ := RpL.get (i := i) (d := x) h2 (by simpa using e)
    exact ⟨u, by simpa using e1, e2⟩
theorem RpL.getV : ∀ {ds : List D} {vs : List V} {i : Nat} {v : V}, RpL K η H ds vs → vs[i]? = some v → ∃ d, ds[i]? = some d ∧ Rp K η H d v
  | [], _, i, d, h, e => by cases h; simp at e
  | d :: ds, vs, 0, x, h, e => by
    obtain ⟨v, r, ev, h1, h2⟩ := h
    subst ev; simp at e; subst e
    exact ⟨d, rfl, h1⟩
  | d :: ds, vs, i + 1, x, h, e => by
    obtain ⟨v, r, ev, h1, h2⟩ := h
    subst ev
    obtain ⟨u, e1, e2⟩ := RpL.getV (i := i) (v := x) h2 (by simpa using e)
    exact ⟨u, by simpa using e1, e2⟩
theorem RpL.append : ∀ {ds es : List D} {vs us : List V}, RpL K η H ds vs → RpL K η H es us → RpL K η H (ds ++ es) (vs ++ us)
  | [], _, _, _, h, g => by cases h; exact g
  | d :: ds, es, vs, us, h, g => by
    obtain ⟨v, r, e, h1, h2⟩ := h
    subst e
    exact ⟨v, r ++ us, rfl, h1, RpL.append h2 g⟩
theorem RpL.one {d : D} {v : V} (h : Rp K η H d v) : RpL K η H [d] [v] := ⟨v, [], rfl, h, rfl⟩
theorem RpL.take : ∀ (n : Nat) {ds : List D} {vs : List V}, RpL K η H ds vs → RpL K η H (ds.take n) (vs.take n)
  | 0, _, _, _ => by simp [RpL]
  | n + 1, [], _, h => by cases h; simp [RpL]
  | n + 1, d :: ds, vs, h => by
    obtain ⟨v, r, e, h1, h2⟩ := h
    subst e
    exact ⟨v, _, rfl, h1, RpL.take n h2⟩
theorem RpL.drop : ∀ (n : Nat) {ds : List D} {vs : List V}, RpL K η H ds vs → RpL K η H (ds.drop n) (vs.drop n)
  | 0, _, _, h => h
  | n + 1, [], _, h => by cases h; simp [RpL]
  | n + 1, d :: ds, vs, h => by
    obtain ⟨v, r, e, h1, h2⟩ := h
    subst e
    exact RpL.drop n h2
theorem RpL.reverse : ∀ {ds : List D} {vs : List V}, RpL K η H ds vs → RpL K η H ds.reverse vs.reverse
  | [], _, h => by cases h; simp [RpL]
  | d :: ds, vs, h => by
    obtain ⟨v, r, e, h1, h2⟩ := h
    subst e
    simp only [List.reverse_cons]
    exact RpL.append (RpL.reverse h2) (RpL.one h1)
theorem RpL.set : ∀ {ds : List D} {vs : List V} (i : Nat) {d : D} {v : V}, RpL K η H ds vs → Rp K η H d v → RpL K η H (ds.set i d) (vs.set i v)
  | [], _, i, _, _, h, _ => by cases h; exact rfl
  | d :: ds, vs, 0, x, u, h, g => by
    obtain ⟨v, r, e, h1, h2⟩ := h
    subst e
    exact ⟨u, r, rfl, g, h2⟩
  | d :: ds, vs, i + 1, x, u, h, g => by
    obtain ⟨v, r, e, h1, h2⟩ := h
    subst e
    exact ⟨v, _, rfl, h1, RpL.set i h2 g⟩
theorem RpL.eraseIdx : ∀ {ds : List D} {vs : List V} (i : Nat), RpL K η H ds vs → RpL K η H (ds.eraseIdx i) (vs.eraseIdx i)
  | [], _, i, h => by cases h; exact rfl
  | d :: ds, vs, 0, h => by
    obtain ⟨v, r, e, h1, h2⟩ := h
    subst e
    exact h2
  | d :: ds, vs, i + 1, h => by
    obtain ⟨v, r, e, h1, h2⟩ := h
    subst e
    exact ⟨v, _, rfl, h1, RpL.eraseIdx i h2⟩
theorem RpL.dropLast : ∀ {ds : List D} {vs : List V}, RpL K η H ds vs → RpL K η H ds.dropLast vs.dropLast := fun {ds vs} h => by
  rw [List.dropLast_eq_take, List.dropLast_eq_take, h.length]
  exact RpL.take _ h
theorem RpL.ints : ∀ {ns : List Int} {vs : List V}, RpL K η H (ns.map D.int) vs ↔ vs = ns.map V.int
  | [], vs => by simp [RpL]
  | n :: ns, vs => by
    simp only [List.map_cons, RpL]
    constructor
    · rintro ⟨v, r, e, h1, h2⟩
      have h3 := RpL.ints.mp h2
      have h1' : v = V.int n := h1
      rw [e, h1', h3]
    · intro e
      exact ⟨_, _, e, rfl, RpL.ints.mpr rfl⟩

theorem MOk.step (s : Stp η H η' H') {k : Nat} : ∀ {m : MO}, MOk K mg η H k m → (∀ a : Addr, η.o[k]? = some (some a) → η'.o[k]? = some (some a) ∧ ∀ o, H a = some o → H' a = some o) → MOk K mg η' H' k m
  | .dead, h, _ => s.dead _ h
  | .lst ds, h, g => by
    obtain ⟨a, vs, e, e2, r⟩ := h
    exact ⟨a, vs, (g a e).1, (g a e).2 _ e2, RpL.step s _ _ r⟩
  | .rnd, h, g => by
    obtain ⟨a, ns, e, e2, r⟩ := h
    exact ⟨a, ns, (g a e).1, (g a e).2 _ e2, r⟩
  | .ins c fs, h, g => by
    obtain ⟨a, C, dx, vs, e, e1, e2, r⟩ := h
    exact ⟨a, C, dx, vs, (g a e).1, e1, (g a e).2 _ e2, FsR.step s _ _ r⟩
  | .dic kvs, h, g => by
    obtain ⟨a, e, e2⟩ := h
    exact ⟨a, (g a e).1, (g a e).2 _ e2⟩
  | .dik kvs, h, g => by
    obtain ⟨a, e, e2⟩ := h
    exact ⟨a, (g a e).1, (g a e).2 _ e2⟩
  | .dil u kvs, h, g => by
    obtain ⟨a, e, e2⟩ := h
    exact ⟨a, (g a e).1, (g a e).2 _ e2⟩
  | .exc c, h, g => by
    obtain ⟨a, C, e, e1, e2⟩ := h
    exact ⟨a, C, (g a e).1, e1, (g a e).2 _ e2⟩
  | .exi c f d, h, g => by
    obtain ⟨a, C, dx, v, e, e1, e2, ho, hx, r⟩ := h
    exact ⟨a, C, dx, v, (g a e).1, e1, (g a e).2 _ e2, s.out hx ho, s.keep _ _ hx (.inl ho.1), Rp.step s _ _ r⟩

theorem W.lt (w : W K mg η G H) {k : Nat} {x : Option Addr} (e : η.o[k]? = some x) : ∃ m, G[k]? = some m := by
  have h1 : k < η.o.length := (List.getElem?_eq_some_iff.mp e).1
  exact ⟨G[k]'(w.len ▸ h1), List.getElem?_eq_getElem _⟩
theorem W.trk (w : W K mg η G H) {k : Nat} {a : Addr} (e : η.o[k]? = some (some a)) : ∃ o, H a = some o := by
  obtain ⟨m, hm⟩ := w.lt e
  have h := w.at_ k m hm
  cases m with
  | dead => have h' : η.o[k]? = some none := h; rw [h'] at e; cases e
  | lst ds => obtain ⟨b, vs, e1, e2, _⟩ := h; rw [e] at e1; cases e1; exact ⟨_, e2⟩
  | rnd => obtain ⟨b, vs, e1, e2, _⟩ := h; rw [e] at e1; cases e1; exact ⟨_, e2⟩
  | dic kvs => obtain ⟨b, e1, e2⟩ := h; rw [e] at e1; cases e1; exact ⟨_, e2⟩
  | dik kvs => obtain ⟨b, e1, e2⟩ := h; rw [e] at e1; cases e1; exact ⟨_, e2⟩
  | dil u kvs => obtain ⟨b, e1, e2⟩ := h; rw [e] at e1; cases e1; exact ⟨_, e2⟩
  | exc c => obtain ⟨b, C, e1, _, e2⟩ := h; rw [e] at e1; cases e1; exact ⟨_, e2⟩
  | exi c f d => obtain ⟨b, C, dx, v, e1, _, e2, _⟩ := h; rw [e] at e1; cases e1; exact ⟨_, e2⟩
  | ins c fs => obtain ⟨b, C, dx, vs, e1, _, e2, _⟩ := h; rw [e] at e1; cases e1; exact ⟨_, e2⟩
theorem W.outO (w : W K mg η G H) {a : Addr} (e : H a = none) : some a ∉ η.o := fun hm => by
  obtain ⟨k, hk⟩ := mem_eta.mp hm
  obtain ⟨o, ho⟩ := w.trk hk
  rw [e] at ho; cases ho
theorem W.out (w : W K mg η G H) {a : Addr} (e : H a = none) : Out η a := ⟨w.outO e, fun hm => by
  obtain ⟨_, o, ho⟩ := w.hd a hm
  rw [e] at ho; cases ho⟩
theorem W.same (w : W K mg η G H) (s : Stp η H η H') (k : ∀ b o, some b ∈ η.o → H b = some o → H' b = some o) : W K mg η G H' :=
  ⟨w.len, fun i m h => (w.at_ i m h).step s fun a e => ⟨e, fun o ho => k a o (mem_eta.mpr ⟨i, e⟩) ho⟩, w.inj, fun a ha => ⟨(w.hd a ha).1, let ⟨o, ho⟩ := (w.hd a ha).2; s.more a o ho⟩⟩

/-- a new thing is laid -/
theorem Stp.laid {p : Addr} {o : HO} (n : H p = none) : Stp η H η (upd H p o) :=
  ⟨Nat.le_refl _, fun _ _ h => .inl h, fun _ h => h, no_new,
    fun b u h _ => by rw [upd_ne (ne_of_none h n)]; exact h, fun b u h => ⟨u, by rw [upd_ne (ne_of_none h n)]; exact h⟩, hid0⟩
theorem W.laid {p : Addr} {o : HO} (w : W K mg η G H) (n : H p = none) : W K mg η G (upd H p o) :=
  w.same (Stp.laid n) fun b u _ h => by rw [upd_ne (ne_of_none h n)]; exact h
theorem Rp.lstNew {p : Addr} {vs : List V} {ds : List D} (w : W K mg η G H) (n : H p = none) (r : RpL K η H ds vs) : Rp K η (upd H p (.lst vs)) (.lst ds) (.ref p) :=
  ⟨p, vs, rfl, w.out n, upd_same, RpL.step (Stp.laid n) _ _ r⟩
theorem Rp.tupNew {p : Addr} {vs : List V} {ds : List D} (n : H p = none) (r : RpL K η H ds vs) : Rp K η (upd H p (.tup vs)) (.tup ds) (.ref p) :=
  ⟨p, vs, rfl, SqT.of upd_same, RpL.step (Stp.laid n) _ _ r⟩

def Eta.push (η : Eta) (p : Addr) : Eta := ⟨η.o ++ [some p], η.hid⟩
def Eta.kill (η : Eta) (k : Nat) : Eta := ⟨η.o.set k none, η.hid⟩
def Eta.cut (η : Eta) (n : Nat) : Eta := ⟨η.o.take n, η.hid⟩
/-- a new numbered object -/
theorem Stp.grow {p : Addr} (n : H p = none) : Stp η H (η.push p) H := by
  refine ⟨by simp [Eta.push], fun k a h => .inl ?_, fun k h => ?_, fun k a hk e => ?_, fun _ _ h _ => h, fun _ o h => ⟨o, h⟩, hid0⟩
  · show (η.o ++ [some p])[k]? = _
    rw [List.getElem?_append_left (List.getElem?_eq_some_iff.mp h).1]; exact h
  · show (η.o ++ [some p])[k]? = _
    rw [List.getElem?_append_left (List.getElem?_eq_some_iff.mp h).1]; exact h
  · have e : (η.o ++ [some p])[k]? = some (some a) := e
    rw [List.getElem?_append_right hk] at e
    cases q : k - η.o.length with
    | zero => rw [q] at e; simp at e; subst e; exact n
    | succ j => rw [q] at e; simp at e
theorem Stp.pushed {p : Addr} {o : HO} (n : H p = none) : Stp η H (η.push p) (upd H p o) := by
  have h1 : Stp η H (η.push p) H := Stp.grow n
  refine ⟨h1.le, h1.old, h1.dead, h1.new, fun b u h _ => ?_, fun b u h => ⟨u, ?_⟩, hid0⟩ <;> (rw [upd_ne (ne_of_none h n)]; exact h)
theorem W.grow {p : Addr} {m : MO} {o : HO} (w : W K mg η G H) (n : H p = none) (ok : MOk K mg (η.push p) (upd H p o) η.o.length m) :
    W K mg (η.push p) (G ++ [m]) (upd H p o) := by
  have st : Stp η H (η.push p) (upd H p o) := Stp.pushed n
  have aux : ∀ (i : Nat) (a : Addr), (η.push p).o[i]? = some (some a) → (i < η.o.length ∧ η.o[i]? = some (some a)) ∨ (i = η.o.length ∧ a = p) := by
    intro i a h
    have h : (η.o ++ [some p])[i]? = some (some a) := h
    by_cases hk : i < η.o.length
    · rw [List.getElem?_append_left hk] at h; exact .inl ⟨hk, h⟩
    · rw [List.getElem?_append_right (Nat.le_of_not_lt hk)] at h
      cases q : i - η.o.length with
      | zero => rw [q] at h; simp at h; exact .inr ⟨by omega, h.symm⟩
      | succ j => rw [q] at h; simp at h
  refine ⟨by simp [Eta.push, w.len], fun k x hx => ?_, fun i j a hi hj => ?_, fun a ha => ?_⟩
  · by_cases hk : k < G.length
    · rw [List.getElem?_append_left hk] at hx
      refine (w.at_ k x hx).step st fun a e => ⟨?_, fun u hu => ?_⟩
      · show (η.o ++ [some p])[k]? = _
        rw [List.getElem?_append_left (by rw [w.len]; exact hk)]; exact e
      · rw [upd_ne (ne_of_none hu n)]; exact hu
    · rw [List.getElem?_append_right (Nat.le_of_not_lt hk)] at hx
      have e0 : k - G.length = 0 := by
        cases q : k - G.length with
        | zero => rfl
        | succ j => rw [q] at hx; simp at hx
      rw [e0] at hx
      simp at hx
      subst hx
      have ek : k = η.o.length := by have := w.len; omega
      rw [ek]
      exact ok
  · rcases aux i a hi with ⟨h1, h2⟩ | ⟨h1, h2⟩ <;> rcases aux j a hj with ⟨g1, g2⟩ | ⟨g1, g2⟩
    · exact w.inj i j a h2 g2
    · subst g2; exact absurd (mem_eta.mpr ⟨i, h2⟩) (w.outO n)
    · subst h2; exact absurd (mem_eta.mpr ⟨j, g2⟩) (w.outO n)
    · omega
  · have ha : a ∈ η.hid := ha
    obtain ⟨h1, u, h2⟩ := w.hd a ha
    refine ⟨fun hm => ?_, st.more a u h2⟩
    obtain ⟨i, hi⟩ := mem_eta.mp hm
    rcases aux i a hi with ⟨_, h3⟩ | ⟨_, h3⟩
    · exact h1 (mem_eta.mpr ⟨i, h3⟩)
    · rw [h3, n] at h2; cases h2

/-- a numbered object is written -/
theorem Stp.wrote {a : Addr} {k : Nat} {o o' : HO} (e : η.o[k]? = some (some a)) (h : H a = some o) (nf : ¬ Fix o) : Stp η H η (upd H a o') := by
  refine ⟨Nat.le_refl _, fun _ _ h => .inl h, fun _ h => h, no_new, fun b u hb n => ?_, fun b u hb => ?_, hid0⟩
  · by_cases hba : b = a
    · subst hba
      rw [h] at hb; cases hb
      rcases n with n | n
      · exact absurd (mem_eta.mpr ⟨k, e⟩) n
      · exact absurd n nf
    · rw [upd_ne hba]; exact hb
  · by_cases hba : b = a
    · subst hba; exact ⟨_, upd_same⟩
    · exact ⟨u, by rw [upd_ne hba]; exact hb⟩
theorem W.wrote {a : Addr} {k : Nat} {o o' : HO} {m : MO} (w : W K mg η G H) (e : η.o[k]? = some (some a)) (h : H a = some o) (nf : ¬ Fix o) (ok : MOk K mg η (upd H a o') k m) :
    W K mg η (G.set k m) (upd H a o') := by
  have st : Stp η H η (upd H a o') := Stp.wrote e h nf
  refine ⟨by simp [w.len], fun i x hx => ?_, w.inj, fun b hb => ⟨(w.hd b hb).1, let ⟨u, hu⟩ := (w.hd b hb).2; st.more b u hu⟩⟩
  by_cases hi : i = k
  · subst hi
    have hlt : i < G.length := by rw [← w.len]; exact (List.getElem?_eq_some_iff.mp e).1
    rw [List.getElem?_set_self hlt] at hx
    cases hx; exact ok
  · rw [List.getElem?_set_ne (Ne.symm hi)] at hx
    refine (w.at_ i x hx).step st fun b eb => ⟨eb, fun u hu => ?_⟩
    have : b ≠ a := fun z => hi (w.inj i k a (z ▸ eb) e)
    rw [upd_ne this]; exact hu

/-- a numbered list is given away: it is data from now on -/
theorem Stp.freeze {k : Nat} : Stp η H (η.kill k) H := by
  refine ⟨by simp [Eta.kill], fun i a h => ?_, fun i h => ?_, fun i a hk e => ?_, fun _ _ h _ => h, fun _ o h => ⟨o, h⟩, hid0⟩
  · show (η.o.set k none)[i]? = _ ∨ (η.o.set k none)[i]? = _
    by_cases hi : i = k
    · subst hi; right; rw [List.getElem?_set_self (List.getElem?_eq_some_iff.mp h).1]
    · left; rw [List.getElem?_set_ne (Ne.symm hi)]; exact h
  · show (η.o.set k none)[i]? = _
    by_cases hi : i = k
    · subst hi; rw [List.getElem?_set_self (List.getElem?_eq_some_iff.mp h).1]
    · rw [List.getElem?_set_ne (Ne.symm hi)]; exact h
  · have e : (η.o.set k none)[i]? = some (some a) := e
    rw [List.getElem?_eq_none (by simpa using hk)] at e; cases e
theorem eta_set {k i : Nat} {a : Addr} (h : (η.kill k).o[i]? = some (some a)) : i ≠ k ∧ η.o[i]? = some (some a) := by
  have h : (η.o.set k none)[i]? = some (some a) := h
  by_cases hi : i = k
  · subst hi
    by_cases hl : i < η.o.length
    · rw [List.getElem?_set_self hl] at h; cases h
    · rw [List.getElem?_eq_none (by simpa using Nat.le_of_not_lt hl)] at h; cases h
  · rw [List.getElem?_set_ne (Ne.symm hi)] at h; exact ⟨hi, h⟩
theorem W.freeze (w : W K mg η G H) {k : Nat} : W K mg (η.kill k) (G.set k .dead) H := by
  refine ⟨by simp [Eta.kill, w.len], fun i x hx => ?_, fun i j a h1 h2 => w.inj i j a (eta_set h1).2 (eta_set h2).2, fun a ha => ?_⟩
  · by_cases hi : i = k
    · subst hi
      have hlt : i < G.length := by
        have := (List.getElem?_eq_some_iff.mp hx).1
        simpa using this
      rw [List.getElem?_set_self hlt] at hx
      cases hx
      show (η.o.set i none)[i]? = some none
      rw [List.getElem?_set_self (by rw [w.len]; exact hlt)]
    · rw [List.getElem?_set_ne (Ne.symm hi)] at hx
      refine (w.at_ i x hx).step Stp.freeze fun a e => ⟨?_, fun _ h => h⟩
      show (η.o.set k none)[i]? = _
      rw [List.getElem?_set_ne (Ne.symm hi)]; exact e
  · have ha : a ∈ η.hid := ha
    refine ⟨fun hm => ?_, (w.hd a ha).2⟩
    obtain ⟨i, hi⟩ := mem_eta.mp hm
    exact (w.hd a ha).1 (mem_eta.mpr ⟨i, (eta_set hi).2⟩)
theorem Rp.freeze (w : W K mg η G H) {k : Nat} {v : V} {ds : List D} (r : Rp K η H (.obj k) v) (g : G[k]? = some (.lst ds)) : Rp K (η.kill k) H (.lst ds) v := by
  obtain ⟨a, vs, e1, e2, r2⟩ := w.at_ k _ g
  obtain ⟨b, rfl, h⟩ := r
  rw [e1] at h
  have : b = a := by
    rcases h with h | h
    · cases h; rfl
    · cases h
  subst this
  refine ⟨b, vs, rfl, ⟨fun hm => ?_, fun hm => ?_⟩, e2, RpL.step Stp.freeze _ _ r2⟩
  · obtain ⟨i, hi⟩ := mem_eta.mp hm
    obtain ⟨n, q⟩ := eta_set hi
    exact n (w.inj i k b q e1)
  · exact (w.hd b hm).1 (mem_eta.mpr ⟨k, e1⟩)

def Eta.hide (η : Eta) (p : Addr) : Eta := ⟨η.o, p :: η.hid⟩
theorem W.hide {p : Addr} {o : HO} (w : W K mg η G H) (n : H p = none) : W K mg (η.hide p) G (upd H p o) := by
  have st : Stp η H η (upd H p o) := Stp.laid n
  have w1 : W K mg η G (upd H p o) := w.laid n
  have out : ∀ {b : Addr} {u : HO}, H b = some u → Out η b → Out (η.hide p) b := fun {b u} hb ho => ⟨ho.1, fun hm => by
    rcases List.mem_cons.mp hm with e | hm
    · subst e; rw [n] at hb; cases hb
    · exact ho.2 hm⟩
  refine ⟨w.len, fun k m hm => ?_, w.inj, fun a ha => ?_⟩
  · have h := w.at_ k m hm
    have up : ∀ {b : Addr} {u : HO}, H b = some u → upd H p o b = some u := fun {b u} hb => by rw [upd_ne (ne_of_none hb n)]; exact hb
    have rp : ∀ (d : D) (v : V), Rp K η H d v → Rp K (η.hide p) (upd H p o) d v := by
      intro d
      induction d using D.rec (motive_2 := fun ds => ∀ vs, RpL K η H ds vs → RpL K (η.hide p) (upd H p o) ds vs) with
      | non => intro v h; exact h
      | bl b => intro v h; exact h
      | int i => intro v h; exact h
      | str s => intro v h; exact h
      | tup ds ih => intro v h; obtain ⟨a, vs, e, ht, r⟩ := h; exact ⟨a, vs, e, SqT.step st ht, ih vs r⟩
      | lst ds ih => intro v h; obtain ⟨a, vs, e, ho, hl, r⟩ := h; exact ⟨a, vs, e, out hl ho, up hl, ih vs r⟩
      | obj k => intro v h; exact h
      | dct => intro v h; obtain ⟨a, e, ho, hl⟩ := h; exact ⟨a, e, out hl ho, up hl⟩
      | scr ns => intro v h; obtain ⟨a, e, h⟩ := h; exact ⟨a, e, h.up fun b o z _ => up z⟩
      | key ns => intro v h; obtain ⟨a, e, h⟩ := h; exact ⟨a, e, up h⟩
      | exn a dd f d ih => intro v h; obtain ⟨e, u, hd, r⟩ := h; exact ⟨e, u, up hd, ih u r⟩
      | nil => intros; assumption
      | cons d ds i1 i2 =>
        rename_i vs h
        obtain ⟨v, r, e, h1, h2⟩ := h
        exact ⟨v, r, e, i1 v h1, i2 r h2⟩
    have rpL : ∀ (ds : List D) (vs : List V), RpL K η H ds vs → RpL K (η.hide p) (upd H p o) ds vs := by
      intro ds
      induction ds with
      | nil => intro vs h; exact h
      | cons d ds ih =>
        intro vs h
        obtain ⟨v, r, e, h1, h2⟩ := h
        exact ⟨v, r, e, rp d v h1, ih r h2⟩
    cases m with
    | dead => exact h
    | lst ds => obtain ⟨a, vs, e1, e2, r⟩ := h; exact ⟨a, vs, e1, up e2, rpL ds vs r⟩
    | rnd => obtain ⟨a, ns, e1, e2, r⟩ := h; exact ⟨a, ns, e1, up e2, r⟩
    | dic kvs => obtain ⟨a, e1, e2⟩ := h; exact ⟨a, e1, up e2⟩
    | dik kvs => obtain ⟨a, e1, e2⟩ := h; exact ⟨a, e1, up e2⟩
    | dil u kvs => obtain ⟨a, e1, e2⟩ := h; exact ⟨a, e1, up e2⟩
    | exc c => obtain ⟨a, C, e1, e3, e2⟩ := h; exact ⟨a, C, e1, e3, up e2⟩
    | exi c f d => obtain ⟨a, C, dx, v, e1, e3, e2, ho, hx, r⟩ := h; exact ⟨a, C, dx, v, e1, e3, up e2, out hx ho, up hx, rp d v r⟩
    | ins c fs =>
      obtain ⟨a, C, dx, vs, e1, e3, e2, r⟩ := h
      refine ⟨a, C, dx, vs, e1, e3, up e2, ?_⟩
      clear e1 e2 e3 hm w1
      induction fs generalizing vs with
      | nil => exact r
      | cons f fs ih =>
        obtain ⟨v, r', e, h1, h2⟩ := r
        exact ⟨v, r', e, rp f.2 v h1, ih _ h2⟩
  · rcases List.mem_cons.mp ha with e | ha
    · subst e; exact ⟨w.outO n, _, upd_same⟩
    · exact ⟨(w.hd a ha).1, let ⟨u, hu⟩ := (w.hd a ha).2; st.more a u hu⟩
theorem Rp.hide {p : Addr} {o : HO} (n : H p = none) : ∀ (d : D) (v : V), Rp K η H d v → Rp K (η.hide p) (upd H p o) d v := by
  have st : Stp η H η (upd H p o) := Stp.laid n
  have up : ∀ {b : Addr} {u : HO}, H b = some u → upd H p o b = some u := fun {b u} hb => by rw [upd_ne (ne_of_none hb n)]; exact hb
  have out : ∀ {b : Addr} {u : HO}, H b = some u → Out η b → Out (η.hide p) b := fun {b u} hb ho => ⟨ho.1, fun hm => by
    rcases List.mem_cons.mp hm with e | hm
    · subst e; rw [n] at hb; cases hb
    · exact ho.2 hm⟩
  intro d
  induction d using D.rec (motive_2 := fun ds => ∀ vs, RpL K η H ds vs → RpL K (η.hide p) (upd H p o) ds vs) with
  | non => intro v h; exact h
  | bl b => intro v h; exact h
  | int i => intro v h; exact h
  | str s => intro v h; exact h
  | tup ds ih => intro v h; obtain ⟨a, vs, e, ht, r⟩ := h; exact ⟨a, vs, e, SqT.step st ht, ih vs r⟩
  | lst ds ih => intro v h; obtain ⟨a, vs, e, ho, hl, r⟩ := h; exact ⟨a, vs, e, out hl ho, up hl, ih vs r⟩
  | obj k => intro v h; exact h
  | dct => intro v h; obtain ⟨a, e, ho, hl⟩ := h; exact ⟨a, e, out hl ho, up hl⟩
  | scr ns => intro v h; obtain ⟨a, e, h⟩ := h; exact ⟨a, e, h.up fun b o z _ => up z⟩
  | key ns => intro v h; obtain ⟨a, e, h⟩ := h; exact ⟨a, e, up h⟩
  | exn a dd f d ih => intro v h; obtain ⟨e, u, hd, r⟩ := h; exact ⟨e, u, up hd, ih u r⟩
  | nil => intros; assumption
  | cons d ds i1 i2 =>
    rename_i vs h
    obtain ⟨v, r, e, h1, h2⟩ := h
    exact ⟨v, r, e, i1 v h1, i2 r h2⟩
theorem Rp.shown (e : ∀ b, b ∈ η'.hid → b ∈ η.hid) (eo : η.o = η'.o) : ∀ (d : D) (v : V), Rp K η H d v → Rp K η' H d v := by
  have out : ∀ {b : Addr}, Out η b → Out η' b := fun {b} ho => ⟨by rw [← eo]; exact ho.1, fun hm => ho.2 (e b hm)⟩
  intro d
  induction d using D.rec (motive_2 := fun ds => ∀ vs, RpL K η H ds vs → RpL K η' H ds vs) with
  | non => intro v h; exact h
  | bl b => intro v h; exact h
  | int i => intro v h; exact h
  | str s => intro v h; exact h
  | tup ds ih => intro v h; obtain ⟨a, vs, e, ht, r⟩ := h; exact ⟨a, vs, e, ht, ih vs r⟩
  | lst ds ih => intro v h; obtain ⟨a, vs, e, ho, hl, r⟩ := h; exact ⟨a, vs, e, out ho, hl, ih vs r⟩
  | obj k => intro v h; obtain ⟨a, e, h⟩ := h; exact ⟨a, e, by rw [← eo]; exact h⟩
  | dct => intro v h; obtain ⟨a, e, ho, hl⟩ := h; exact ⟨a, e, out ho, hl⟩
  | scr ns => intro v h; exact h
  | key ns => intro v h; exact h
  | exn a dd f d ih => intro v h; obtain ⟨e, u, hd, r⟩ := h; exact ⟨e, u, hd, ih u r⟩
  | nil => intros; assumption
  | cons d ds i1 i2 =>
    rename_i vs h
    obtain ⟨v, r, e, h1, h2⟩ := h
    exact ⟨v, r, e, i1 v h1, i2 r h2⟩
theorem RpL.shown (e : ∀ b, b ∈ η'.hid → b ∈ η.hid) (eo : η.o = η'.o) : ∀ (ds : List D) (vs : List V), RpL K η H ds vs → RpL K η' H ds vs
  | [], _, h => h
  | d :: ds, vs, h => by
    obtain ⟨v, r, ev, h1, h2⟩ := h
    exact ⟨v, r, ev, Rp.shown e eo d v h1, RpL.shown e eo ds r h2⟩
theorem FsR.shown (e : ∀ b, b ∈ η'.hid → b ∈ η.hid) (eo : η.o = η'.o) : ∀ (ds : List (Str × D)) (vs : List (Str × V)), FsR K η H ds vs → FsR K η' H ds vs
  | [], _, h => h
  | (f, d) :: ds, vs, h => by
    obtain ⟨v, r, ev, h1, h2⟩ := h
    exact ⟨v, r, ev, Rp.shown e eo d v h1, FsR.shown e eo ds r h2⟩
theorem W.shown (w : W K mg η G H) (e : ∀ b, b ∈ η'.hid → b ∈ η.hid) (eo : η.o = η'.o) : W K mg η' G H := by
  refine ⟨by rw [← eo]; exact w.len, fun k m hm => ?_, fun i j a => by rw [← eo]; exact w.inj i j a, fun a ha => by rw [← eo]; exact w.hd a (e a ha)⟩
  have h := w.at_ k m hm
  cases m with
  | dead => show η'.o[k]? = _; rw [← eo]; exact h
  | lst ds => obtain ⟨a, vs, e1, e2, r⟩ := h; exact ⟨a, vs, by rw [← eo]; exact e1, e2, RpL.shown e eo ds vs r⟩
  | rnd => obtain ⟨a, ns, e1, e2, r⟩ := h; exact ⟨a, ns, by rw [← eo]; exact e1, e2, r⟩
  | dic kvs => obtain ⟨a, e1, e2⟩ := h; exact ⟨a, by rw [← eo]; exact e1, e2⟩
  | dik kvs => obtain ⟨a, e1, e2⟩ := h; exact ⟨a, by rw [← eo]; exact e1, e2⟩
  | dil u kvs => obtain ⟨a, e1, e2⟩ := h; exact ⟨a, by rw [← eo]; exact e1, e2⟩
  | exc c => obtain ⟨a, C, e1, e3, e2⟩ := h; exact ⟨a, C, by rw [← eo]; exact e1, e3, e2⟩
  | exi c f d => obtain ⟨a, C, dx, v, e1, e3, e2, ho, hx, r⟩ := h; exact ⟨a, C, dx, v, by rw [← eo]; exact e1, e3, e2, ⟨by rw [← eo]; exact ho.1, fun hm => ho.2 (e _ hm)⟩, hx, Rp.shown e eo d v r⟩
  | ins c fs => obtain ⟨a, C, dx, vs, e1, e3, e2, r⟩ := h; exact ⟨a, C, dx, vs, by rw [← eo]; exact e1, e3, e2, FsR.shown e eo fs vs r⟩
/-- the hidden things as at the start -/
theorem Stp.shown (s : Stp η H η' H') : Stp η H ⟨η'.o, η.hid⟩ H' := ⟨s.le, s.old, s.dead, s.new, s.keep, s.more, hid0⟩
theorem Stp.hide {p : Addr} {o : HO} (n : H p = none) : Stp η H (η.hide p) (upd H p o) :=
  ⟨Nat.le_refl _, fun _ _ h => .inl h, fun _ h => h, no_new, fun b u h _ => by rw [upd_ne (ne_of_none h n)]; exact h, fun b u h => ⟨u, by rw [upd_ne (ne_of_none h n)]; exact h⟩, [p], rfl, fun b hb => by
    have : b = p := by simpa using hb
    rw [this]; exact n⟩
/-- what is hidden is written -/
theorem Stp.put {p : Addr} {o : HO} (s : Stp η H η' H') (n : H p = none) : Stp η H η' (upd H' p o) :=
  ⟨s.le, s.old, s.dead, s.new, fun b u h q => by rw [upd_ne (ne_of_none h n)]; exact s.keep b u h q, fun b u h => by
    rw [upd_ne (ne_of_none h n)]; exact s.more b u h, s.hid⟩
theorem Rp.put {p : Addr} {o u : HO} (hp : p ∈ η.hid) (hu : H p = some u) (nf : ¬ Fix u) : ∀ (d : D) (v : V), Rp K η H d v → Rp K η (upd H p o) d v := by
  intro d
  have sq : ∀ {a : Addr} {vs : List V}, SqT K H a vs → SqT K (upd H p o) a vs := fun {a vs} h => by
    rcases h with (h | ⟨f, h⟩) | h
    · exact .inl (.inl (by rw [upd_ne (fun z => by rw [z, hu] at h; cases h; exact nf trivial)]; exact h))
    · exact .inl (.inr ⟨f, by rw [upd_ne (fun z => by rw [z, hu] at h; cases h; exact nf trivial)]; exact h⟩)
    · exact .inr h
  induction d using D.rec (motive_2 := fun ds => ∀ vs, RpL K η H ds vs → RpL K η (upd H p o) ds vs) with
  | non => intro v h; exact h
  | bl b => intro v h; exact h
  | int i => intro v h; exact h
  | str s => intro v h; exact h
  | tup ds ih => intro v h; obtain ⟨a, vs, e, ht, r⟩ := h; exact ⟨a, vs, e, sq ht, ih vs r⟩
  | lst ds ih => intro v h; obtain ⟨a, vs, e, ho, hl, r⟩ := h; exact ⟨a, vs, e, ho, by rw [upd_ne (fun (z : a = p) => ho.2 (by rw [z]; exact hp))]; exact hl, ih vs r⟩
  | obj k => intro v h; exact h
  | dct => intro v h; obtain ⟨a, e, ho, hl⟩ := h; exact ⟨a, e, ho, by rw [upd_ne (fun (z : a = p) => ho.2 (by rw [z]; exact hp))]; exact hl⟩
  | scr ns => intro v h; obtain ⟨a, e, h⟩ := h; exact ⟨a, e, h.up fun b x z f => by rw [upd_ne (fun (y : b = p) => by rw [y, hu] at z; cases z; exact nf f)]; exact z⟩
  | key ns => intro v h; obtain ⟨a, e, h⟩ := h; exact ⟨a, e, by rw [upd_ne (fun (y : a = p) => by rw [y, hu] at h; cases h; exact nf trivial)]; exact h⟩
  | exn a dd f d ih => intro v h; obtain ⟨e, x, hd, r⟩ := h; exact ⟨e, x, by rw [upd_ne (fun (z : dd = p) => by rw [z, hu] at hd; cases hd; exact nf trivial)]; exact hd, ih x r⟩
  | nil => intros; assumption
  | cons d ds i1 i2 =>
    rename_i vs h
    obtain ⟨v, r, e, h1, h2⟩ := h
    exact ⟨v, r, e, i1 v h1, i2 r h2⟩
theorem RpL.put {p : Addr} {o u : HO} (hp : p ∈ η.hid) (hu : H p = some u) (nf : ¬ Fix u) : ∀ (ds : List D) (vs : List V), RpL K η H ds vs → RpL K η (upd H p o) ds vs
  | [], _, h => h
  | d :: ds, vs, h => by
    obtain ⟨v, r, ev, h1, h2⟩ := h
    exact ⟨v, r, ev, Rp.put hp hu nf d v h1, RpL.put hp hu nf ds r h2⟩
theorem FsR.put {p : Addr} {o u : HO} (hp : p ∈ η.hid) (hu : H p = some u) (nf : ¬ Fix u) : ∀ (ds : List (Str × D)) (vs : List (Str × V)), FsR K η H ds vs → FsR K η (upd H p o) ds vs
  | [], _, h => h
  | (f, d) :: ds, vs, h => by
    obtain ⟨v, r, ev, h1, h2⟩ := h
    exact ⟨v, r, ev, Rp.put hp hu nf d v h1, FsR.put hp hu nf ds r h2⟩
theorem W.put {p : Addr} {o u : HO} (w : W K mg η G H) (hp : p ∈ η.hid) (hu : H p = some u) (nf : ¬ Fix u) : W K mg η G (upd H p o) := by
  have ne : ∀ {k : Nat} {a : Addr}, η.o[k]? = some (some a) → a ≠ p := fun {k a} e z => (w.hd p hp).1 (mem_eta.mpr ⟨k, z ▸ e⟩)
  refine ⟨w.len, fun k m hm => ?_, w.inj, fun a ha => ⟨(w.hd a ha).1, ?_⟩⟩
  · have h := w.at_ k m hm
    cases m with
    | dead => exact h
    | lst ds => obtain ⟨a, vs, e1, e2, r⟩ := h; exact ⟨a, vs, e1, by rw [upd_ne (ne e1)]; exact e2, RpL.put hp hu nf ds vs r⟩
    | rnd => obtain ⟨a, ns, e1, e2, r⟩ := h; exact ⟨a, ns, e1, by rw [upd_ne (ne e1)]; exact e2, r⟩
    | dic kvs => obtain ⟨a, e1, e2⟩ := h; exact ⟨a, e1, by rw [upd_ne (ne e1)]; exact e2⟩
    | dik kvs => obtain ⟨a, e1, e2⟩ := h; exact ⟨a, e1, by rw [upd_ne (ne e1)]; exact e2⟩
    | dil u kvs => obtain ⟨a, e1, e2⟩ := h; exact ⟨a, e1, by rw [upd_ne (ne e1)]; exact e2⟩
    | exc c => obtain ⟨a, C, e1, e3, e2⟩ := h; exact ⟨a, C, e1, e3, by rw [upd_ne (ne e1)]; exact e2⟩
    | exi c f d => obtain ⟨a, C, dx, v, e1, e3, e2, ho, hx, r⟩ := h; exact ⟨a, C, dx, v, e1, e3, by rw [upd_ne (ne e1)]; exact e2, ho, by rw [upd_ne (fun (z : dx = p) => ho.2 (by rw [z]; exact hp))]; exact hx, Rp.put hp hu nf d v r⟩
    | ins c fs => obtain ⟨a, C, dx, vs, e1, e3, e2, r⟩ := h; exact ⟨a, C, dx, vs, e1, e3, by rw [upd_ne (ne e1)]; exact e2, FsR.put hp hu nf fs vs r⟩
  · by_cases z : a = p
    · exact ⟨o, by rw [z]; exact upd_same⟩
    · obtain ⟨x, hx⟩ := (w.hd a ha).2
      exact ⟨x, by rw [upd_ne z]; exact hx⟩
end

structure Stw (η : Eta) (H : Hp) (η' : Eta) (H' : Hp) : Prop where
  le : η.o.length ≤ η'.o.length
  old : ∀ (k : Nat) (a : Addr), η.o[k]? = some (some a) → η'.o[k]? = some (some a) ∨ η'.o[k]? = some none
  dead : ∀ (k : Nat), η.o[k]? = some none → η'.o[k]? = some none
  new : ∀ (k : Nat) (a : Addr), η.o.length ≤ k → η'.o[k]? = some (some a) → H a = none
  keep : ∀ b o, H b = some o → (Out η b ∨ Fix o) → H' b = some o
  more : ∀ b o, H b = some o → ∃ o', H' b = some o'
  hid : ∃ L, η'.hid = L ++ η.hid ∧ ∀ b ∈ L, H b = none
theorem Stp.w {η η' : Eta} {H H' : Hp} (s : Stp η H η' H') : Stw η H η' H' :=
  ⟨s.le, s.old, s.dead, s.new, fun b o h n => s.keep b o h (n.imp (fun z => z.1) id), s.more, s.hid⟩
theorem Stw.refl (η : Eta) (H : Hp) : Stw η H η H := (Stp.refl η H).w
theorem Stw.out {η η' : Eta} {H H' : Hp} (s : Stw η H η' H') {b : Addr} {o : HO} (h : H b = some o) (n : Out η b) : Out η' b := by
  refine ⟨fun hm => ?_, fun hm => ?_⟩
  · obtain ⟨k, e⟩ := mem_eta.mp hm
    by_cases hk : k < η.o.length
    · obtain ⟨x, ex⟩ : ∃ x, η.o[k]? = some x := ⟨η.o[k], List.getElem?_eq_getElem hk⟩
      cases x with
      | none => rw [s.dead k ex] at e; cases e
      | some c =>
        rcases s.old k c ex with q | q
        · rw [q] at e; cases e; exact n.1 (mem_eta.mpr ⟨k, ex⟩)
        · rw [q] at e; cases e
    · have := s.new k b (Nat.le_of_not_lt hk) e
      rw [h] at this; cases this
  · obtain ⟨L, e, hL⟩ := s.hid
    rw [e] at hm
    rcases List.mem_append.mp hm with hm | hm
    · rw [hL b hm] at h; cases h
    · exact n.2 hm
theorem Stw.trans {η η1 η2 : Eta} {H H1 H2 : Hp} (s : Stw η H η1 H1) (t : Stw η1 H1 η2 H2) : Stw η H η2 H2 where
  le := Nat.le_trans s.le t.le
  old := fun k a h => by
    rcases s.old k a h with q | q
    · exact t.old k a q
    · exact .inr (t.dead k q)
  dead := fun k h => t.dead k (s.dead k h)
  new := fun k a hk e => by
    by_cases h1 : k < η1.o.length
    · obtain ⟨x, ex⟩ : ∃ x, η1.o[k]? = some x := ⟨η1.o[k], List.getElem?_eq_getElem h1⟩
      cases x with
      | none => rw [t.dead k ex] at e; cases e
      | some c =>
        rcases t.old k c ex with q | q
        · rw [q] at e; cases e; exact s.new k a hk ex
        · rw [q] at e; cases e
    · have q := t.new k a (Nat.le_of_not_lt h1) e
      cases z : H a with
      | none => rfl
      | some o => obtain ⟨o', q'⟩ := s.more a o z; rw [q] at q'; cases q'
  keep := fun b o h n => by
    have h1 := s.keep b o h n
    exact t.keep b o h1 (n.imp (s.out h) id)
  more := fun b o h => by
    obtain ⟨o1, h1⟩ := s.more b o h
    exact t.more b o1 h1
  hid := by
    obtain ⟨L1, e1, h1⟩ := s.hid
    obtain ⟨L2, e2, h2⟩ := t.hid
    refine ⟨L2 ++ L1, by rw [e2, e1, List.append_assoc], fun b hb => ?_⟩
    rcases List.mem_append.mp hb with hb | hb
    · cases z : H b with
      | none => rfl
      | some o => obtain ⟨o', q'⟩ := s.more b o z; rw [h2 b hb] at q'; cases q'
    · exact h1 b hb
/-- a hidden list is written -/
theorem Stw.put {η η' : Eta} {H H' : Hp} {p : Addr} {o u : HO} (s : Stw η H η' H') (hp : p ∈ η.hid) (hu : H p = some u) (nf : ¬ Fix u) : Stw η H η' (upd H' p o) :=
  ⟨s.le, s.old, s.dead, s.new, fun b x h q => by
    rw [upd_ne (fun (z : b = p) => by
      subst z
      rw [hu] at h; cases h
      rcases q with q | q
      · exact q.2 hp
      · exact nf q)]
    exact s.keep b x h q, fun b x h => by
    by_cases z : b = p
    · exact ⟨o, by rw [z]; exact upd_same⟩
    · rw [upd_ne z]; exact s.more b x h, s.hid⟩
section
variable {K : PySem.W.Frag} {η η' : Eta} {H H' : Hp}
theorem SqT.stepw (s : Stw η H η' H') {a : Addr} {vs : List V} (h : SqT K H a vs) : SqT K H' a vs := by
  rcases h with (h | ⟨o, h⟩) | h
  · exact .inl (.inl (s.keep _ _ h (.inr trivial)))
  · exact .inl (.inr ⟨o, s.keep _ _ h (.inr trivial)⟩)
  · exact .inr h
mutual
theorem Rp.stepw (s : Stw η H η' H') : ∀ (d : D) (v : V), Rp K η H d v → Rp K η' H' d v
  | .non, _, h => h
  | .bl _, _, h => h
  | .int _, _, h => h
  | .str _, _, h => h
  | .tup ds, v, h => by
    obtain ⟨a, vs, e, ht, hr⟩ := h
    exact ⟨a, vs, e, SqT.stepw s ht, RpL.stepw s ds vs hr⟩
  | .lst ds, v, h => by
    obtain ⟨a, vs, e, hn, hl, hr⟩ := h
    exact ⟨a, vs, e, s.out hl hn, s.keep _ _ hl (.inl hn), RpL.stepw s ds vs hr⟩
  | .obj k, v, h => by
    obtain ⟨a, e, h⟩ := h
    refine ⟨a, e, ?_⟩
    rcases h with h | h
    · exact s.old k a h
    · exact .inr (s.dead k h)
  | .dct, v, h => by
    obtain ⟨a, e, n, hd⟩ := h
    exact ⟨a, e, s.out hd n, s.keep _ _ hd (.inl n)⟩
  | .scr ns, v, h => by
    obtain ⟨a, e, h⟩ := h
    exact ⟨a, e, h.up fun b o z f => s.keep b o z (.inr f)⟩
  | .key ns, v, h => by
    obtain ⟨a, e, h⟩ := h
    exact ⟨a, e, s.keep _ _ h (.inr trivial)⟩
  | .exn a dd f d, v, h => by
    obtain ⟨e, u, hd, r⟩ := h
    exact ⟨e, u, s.keep _ _ hd (.inr trivial), Rp.stepw s d u r⟩
theorem RpL.stepw (s : Stw η H η' H') : ∀ (ds : List D) (vs : List V), RpL K η H ds vs → RpL K η' H' ds vs
  | [], _, h => h
  | d :: ds, vs, h => by
    obtain ⟨v, r, e, h1, h2⟩ := h
    exact ⟨v, r, e, Rp.stepw s d v h1, RpL.stepw s ds r h2⟩
end
end

mutual
def below (n : Nat) : D → Bool
  | .tup ds => belowL n ds
  | .lst ds => belowL n ds
  | .obj k => decide (k < n)
  | .exn _ _ _ d => below n d
  | _ => true
def belowL (n : Nat) : List D → Bool
  | [] => true
  | d :: ds => below n d && belowL n ds
end
section
variable {K : PySem.W.Frag} {mg : Str → Option Value} {η : Eta} {H : Hp} {G : GS} {n : Nat}
theorem take_get {α : Type} {l : List α} {n k : Nat} {x : α} (h : (l.take n)[k]? = some x) : k < n ∧ l[k]? = some x := by
  by_cases hk : k < n
  · rw [List.getElem?_take_of_lt hk] at h; exact ⟨hk, h⟩
  · rw [List.getElem?_eq_none (by simp; omega)] at h; cases h
mutual
theorem Rp.cut : ∀ (d : D) (v : V), below n d = true → Rp K η H d v → Rp K (η.cut n) H d v
  | .non, _, _, h => h
  | .bl _, _, _, h => h
  | .int _, _, _, h => h
  | .str _, _, _, h => h
  | .tup ds, v, b, h => by
    obtain ⟨a, vs, e, ht, hr⟩ := h
    exact ⟨a, vs, e, ht, RpL.cut ds vs b hr⟩
  | .lst ds, v, b, h => by
    obtain ⟨a, vs, e, hn, hl, hr⟩ := h
    exact ⟨a, vs, e, ⟨fun z => hn.1 (List.mem_of_mem_take z), hn.2⟩, hl, RpL.cut ds vs b hr⟩
  | .obj k, v, b, h => by
    obtain ⟨a, e, h⟩ := h
    have hk : k < n := of_decide_eq_true b
    exact ⟨a, e, by show (η.o.take n)[k]? = _ ∨ (η.o.take n)[k]? = _; rw [List.getElem?_take_of_lt hk]; exact h⟩
  | .dct, v, b, h => by
    obtain ⟨a, e, hn, hd⟩ := h
    exact ⟨a, e, ⟨fun z => hn.1 (List.mem_of_mem_take z), hn.2⟩, hd⟩
  | .scr ns, v, b, h => h
  | .key ns, v, b, h => h
  | .exn a dd f d, v, b, h => by
    obtain ⟨e, u, hd, r⟩ := h
    exact ⟨e, u, hd, Rp.cut d u b r⟩
theorem RpL.cut : ∀ (ds : List D) (vs : List V), belowL n ds = true → RpL K η H ds vs → RpL K (η.cut n) H ds vs
  | [], _, _, h => h
  | d :: ds, vs, b, h => by
    obtain ⟨v, r, e, h1, h2⟩ := h
    have b' : below n d = true ∧ belowL n ds = true := by
      have : (below n d && belowL n ds) = true := b
      simpa using this
    exact ⟨v, r, e, Rp.cut d v b'.1 h1, RpL.cut ds r b'.2 h2⟩
end
def belowM (n : Nat) : MO → Bool
  | .lst ds => belowL n ds
  | .ins _ fs => belowL n (fs.map (·.2))
  | .exi _ _ d => below n d
  | _ => true
theorem FsR.cut : ∀ (ds : List (Str × D)) (vs : List (Str × V)), belowL n (ds.map (·.2)) = true → FsR K η H ds vs → FsR K (η.cut n) H ds vs
  | [], _, _, h => h
  | (f, d) :: ds, vs, b, h => by
    obtain ⟨v, r, e, h1, h2⟩ := h
    have b' : below n d = true ∧ belowL n (ds.map (·.2)) = true := by
      have : (below n d && belowL n (ds.map (·.2))) = true := b
      simpa using this
    exact ⟨v, r, e, Rp.cut d v b'.1 h1, FsR.cut ds r b'.2 h2⟩
theorem W.cut (w : W K mg η G H) (b : (G.take n).all (belowM n) = true) : W K mg (η.cut n) (G.take n) H := by
  refine ⟨by simp [Eta.cut, w.len], fun k m h => ?_, fun i j a h1 h2 => w.inj i j a (take_get h1).2 (take_get h2).2, fun a ha => ⟨fun hm => (w.hd a ha).1 (List.mem_of_mem_take hm), (w.hd a ha).2⟩⟩
  have hm : belowM n m = true := by
    have := List.all_eq_true.mp b m (List.mem_of_getElem? h)
    exact this
  obtain ⟨hk, hg⟩ := take_get h
  have hw := w.at_ k m hg
  cases m with
  | dead =>
    have hw' : η.o[k]? = some none := hw
    show (η.o.take n)[k]? = some none
    rw [List.getElem?_take_of_lt hk]; exact hw'
  | lst ds =>
    obtain ⟨a, vs, e1, e2, r⟩ := hw
    exact ⟨a, vs, by show (η.o.take n)[k]? = _; rw [List.getElem?_take_of_lt hk]; exact e1, e2, RpL.cut _ _ hm r⟩
  | rnd =>
    obtain ⟨a, vs, e1, e2, r⟩ := hw
    exact ⟨a, vs, by show (η.o.take n)[k]? = _; rw [List.getElem?_take_of_lt hk]; exact e1, e2, r⟩
  | ins c fs =>
    obtain ⟨a, C, dx, vs, e1, e3, e2, r⟩ := hw
    exact ⟨a, C, dx, vs, by show (η.o.take n)[k]? = _; rw [List.getElem?_take_of_lt hk]; exact e1, e3, e2, FsR.cut _ _ hm r⟩
  | dic kvs =>
    obtain ⟨a, e1, e2⟩ := hw
    exact ⟨a, by show (η.o.take n)[k]? = _; rw [List.getElem?_take_of_lt hk]; exact e1, e2⟩
  | dik kvs =>
    obtain ⟨a, e1, e2⟩ := hw
    exact ⟨a, by show (η.o.take n)[k]? = _; rw [List.getElem?_take_of_lt hk]; exact e1, e2⟩
  | dil u kvs =>
    obtain ⟨a, e1, e2⟩ := hw
    exact ⟨a, by show (η.o.take n)[k]? = _; rw [List.getElem?_take_of_lt hk]; exact e1, e2⟩
  | exc c =>
    obtain ⟨a, C, e1, e3, e2⟩ := hw
    exact ⟨a, C, by show (η.o.take n)[k]? = _; rw [List.getElem?_take_of_lt hk]; exact e1, e3, e2⟩
  | exi c f d =>
    obtain ⟨a, C, dx, v, e1, e3, e2, ho, hx, r⟩ := hw
    exact ⟨a, C, dx, v, by show (η.o.take n)[k]? = _; rw [List.getElem?_take_of_lt hk]; exact e1, e3, e2, ⟨fun z => ho.1 (List.mem_of_mem_take z), ho.2⟩, hx, Rp.cut _ _ hm r⟩
theorem Stp.cut {η' : Eta} {H' : Hp} (s : Stp η H η' H') : Stp η H (η'.cut η.o.length) H' where
  le := by simp [Eta.cut, s.le]
  old := fun k a h => by
    have hk := (List.getElem?_eq_some_iff.mp h).1
    show (η'.o.take η.o.length)[k]? = _ ∨ (η'.o.take η.o.length)[k]? = _
    rw [List.getElem?_take_of_lt hk]; exact s.old k a h
  dead := fun k h => by
    have hk := (List.getElem?_eq_some_iff.mp h).1
    show (η'.o.take η.o.length)[k]? = _
    rw [List.getElem?_take_of_lt hk]; exact s.dead k h
  new := fun k a hk e => s.new k a hk (take_get e).2
  keep := s.keep
  more := s.more
  hid := s.hid
end
end Y

namespace Y
open PySem PySem.Spec L2
open PyProof.Rows hiding St

abbrev QD := D → GS → Prop
abbrev QE := Er → GS → Prop
abbrev TEd := Rho → GS → QD → QE → Prop
abbrev TTd := Rho → GS → (Bool → GS → Prop) → QE → Prop
abbrev TAd := Rho → GS → (List D → GS → Prop) → QE → Prop

def EnvR (K : PySem.W.Frag) (η : Eta) (H : Hp) (σ : St) (ρ : Rho) : Prop :=
  σ.length = ρ.length ∧ ∀ (i : Nat) (d : D), ρ[i]? = some (some d) → ∃ v, σ[i]? = some (some v) ∧ Rp K η H d v

def ErR (K : PySem.W.Frag) (mg : Str → Option Value) (η : Eta) (H : Hp) (cls : Value) (od : Option Addr) (e : Er) : Prop :=
  ∃ C, mg e.cls = some (.ref C) ∧ cls = .ref C ∧ ∀ f d, e.arg = some (f, d) → ∃ dd v, od = some dd ∧ H dd = some (.xd [(f, v)]) ∧ Rp K η H d v

def LQ (K : PySem.W.Frag) (mg : Str → Option Value) (η : Eta) (H : Hp) (Qd : QD) (Q : VK) : Prop :=
  ∀ (d : D) (G' : GS) (v : V) (η' : Eta) (H' : Hp), Stp η H η' H' → W K mg η' G' H' → Rp K η' H' d v → Qd d G' → Q v H'
def LE (K : PySem.W.Frag) (mg : Str → Option Value) (η : Eta) (H : Hp) (Ed : QE) (E : XK) : Prop :=
  ∀ (e : Er) (G' : GS) (cls : Value) (od : Option Addr) (η' : Eta) (H' : Hp), Stp η H η' H' → W K mg η' G' H' → ErR K mg η' H' cls od e → Ed e G' → E cls od H'

section
variable {K : PySem.W.Frag} {mg : Str → Option Value} {η η' : Eta} {H H' : Hp} {G : GS} {σ : St} {ρ : Rho}
theorem EnvR.step (s : Stp η H η' H') (h : EnvR K η H σ ρ) : EnvR K η' H' σ ρ :=
  ⟨h.1, fun i d e => let ⟨v, e1, r⟩ := h.2 i d e; ⟨v, e1, Rp.step s d v r⟩⟩
theorem ErR.step (s : Stp η H η' H') {cls : Value} {od : Option Addr} {e : Er} (h : ErR K mg η H cls od e) : ErR K mg η' H' cls od e := by
  obtain ⟨C, h1, h2, h3⟩ := h
  refine ⟨C, h1, h2, fun f d ea => ?_⟩
  obtain ⟨dd, v, e1, e2, r⟩ := h3 f d ea
  exact ⟨dd, v, e1, s.keep _ _ e2 (.inr trivial), Rp.step s d v r⟩
theorem LQ.step (s : Stp η H η' H') {Qd : QD} {Q : VK} (h : LQ K mg η H Qd Q) : LQ K mg η' H' Qd Q :=
  fun d G' v η2 H2 s2 w r q => h d G' v η2 H2 (s.trans s2) w r q
theorem LE.step (s : Stp η H η' H') {Ed : QE} {E : XK} (h : LE K mg η H Ed E) : LE K mg η' H' Ed E :=
  fun e G' cls od η2 H2 s2 w r q => h e G' cls od η2 H2 (s.trans s2) w r q
theorem LQ.now {Qd : QD} {Q : VK} (h : LQ K mg η H Qd Q) {d : D} {v : V} (w : W K mg η G H) (r : Rp K η H d v) (q : Qd d G) : Q v H := h d G v η H (Stp.refl _ _) w r q
/-- a new list, a new tuple -/
theorem LQ.newL {Qd : QD} {Q : VK} (h : LQ K mg η H Qd Q) {ds : List D} {vs : List V} {p : Addr} (w : W K mg η G H) (n : H p = none) (r : RpL K η H ds vs) (q : Qd (.lst ds) G) : Q (.ref p) (upd H p (.lst vs)) :=
  h _ G _ η _ (Stp.laid n) (w.laid n) (Rp.lstNew w n r) q
theorem LQ.newT {Qd : QD} {Q : VK} (h : LQ K mg η H Qd Q) {ds : List D} {vs : List V} {p : Addr} (w : W K mg η G H) (n : H p = none) (r : RpL K η H ds vs) (q : Qd (.tup ds) G) : Q (.ref p) (upd H p (.tup vs)) :=
  h _ G _ η _ (Stp.laid n) (w.laid n) (Rp.tupNew n r) q
end

def lE (K : PySem.W.Frag) (mg : Str → Option Value) (E : St → XK) (t : TEd) : TE := fun σ H Q =>
  ∃ (ρ : Rho) (η : Eta) (G : GS) (Qd : QD) (Ed : QE), EnvR K η H σ ρ ∧ W K mg η G H ∧ t ρ G Qd Ed ∧ LQ K mg η H Qd Q ∧ LE K mg η H Ed (E σ)
def lT (K : PySem.W.Frag) (mg : Str → Option Value) (E : St → XK) (t : TTd) : TT := fun σ H Q =>
  ∃ (ρ : Rho) (η : Eta) (G : GS) (Qd : Bool → GS → Prop) (Ed : QE), EnvR K η H σ ρ ∧ W K mg η G H ∧ t ρ G Qd Ed ∧
    (∀ b G' η' H', Stp η H η' H' → W K mg η' G' H' → Qd b G' → Q b H') ∧ LE K mg η H Ed (E σ)
def lA (K : PySem.W.Frag) (mg : Str → Option Value) (E : St → XK) (t : TAd) : TA := fun σ H Q =>
  ∃ (ρ : Rho) (η : Eta) (G : GS) (Qd : List D → GS → Prop) (Ed : QE), EnvR K η H σ ρ ∧ W K mg η G H ∧ t ρ G Qd Ed ∧
    (∀ ds G' vs η' H', Stp η H η' H' → W K mg η' G' H' → RpL K η' H' ds vs → Qd ds G' → Q vs H') ∧ LE K mg η H Ed (E σ)

structure PEd (X : Cx) (E : St → XK) (e : Expr) (t : TEd) : Prop where run : PE X e (lE X.K X.mg E t)
structure PTd (X : Cx) (E : St → XK) (e : Expr) (t : TTd) : Prop where run : PT X e (lT X.K X.mg E t)
structure PWd (X : Cx) (E : St → XK) (e : Expr) (t : TTd) : Prop where run : PW X e (lT X.K X.mg E t)
structure PAd (X : Cx) (E : St → XK) (es : List Expr) (t : TAd) : Prop where run : PA X es (lA X.K X.mg E t)

theorem PE.imp {X : Cx} {e : Expr} {t t' : TE} (h : PE X e t) (i : ∀ σ H Q, t' σ H Q → t σ H Q) : PE X e t' := ⟨fun pins s σ H Q I q => h.run pins s σ H Q I (i σ H Q q)⟩
theorem PT.imp {X : Cx} {e : Expr} {t t' : TT} (h : PT X e t) (i : ∀ σ H Q, t' σ H Q → t σ H Q) : PT X e t' := ⟨fun pins s σ H Q I q => h.run pins s σ H Q I (i σ H Q q)⟩
theorem PW.imp {X : Cx} {e : Expr} {t t' : TT} (h : PW X e t) (i : ∀ σ H Q, t' σ H Q → t σ H Q) : PW X e t' := ⟨fun wh pins s σ H Q I q => h.run wh pins s σ H Q I (i σ H Q q)⟩
theorem PA.imp {X : Cx} {e : List Expr} {t t' : TA} (h : PA X e t) (i : ∀ σ H Q, t' σ H Q → t σ H Q) : PA X e t' := ⟨fun pos pins s σ H Q I q => h.run pos pins s σ H Q I (i σ H Q q)⟩

def tVarD (i : Nat) : TEd := fun ρ G Q _ => match ρ[i]? with | some (some d) => Q d G | _ => False
def tCD (d : D) : TEd := fun _ G Q _ => Q d G
section
variable {X : Cx} {E : St → XK}
theorem ped_var (i : Nat) {x : Str} {pos : Pos} (hN : X.N[i]? = some x := by rfl) (hv : Vis X.env.scope x := by first | exact Or.inl rfl | exact Or.inr (Or.inl rfl) | exact Or.inr (Or.inr rfl)) (hd : (x == ("__debug__" : Str)) = false := by decide)
    (hcd : (x == ("__classdict__" : Str)) = false := by decide) : PEd X E (.Name x pos) (tVarD i) := by
  refine ⟨PE.imp (pe_var hN hv hd hcd) fun σ H Q h => ?_⟩
  obtain ⟨ρ, η, G, Qd, Ed, he, w, ht, hq, _⟩ := h
  unfold tVarD at ht
  split at ht
  · rename_i d e
    obtain ⟨v, e1, r⟩ := he.2 i d e
    exact ⟨v, e1, hq.now w r ht⟩
  · exact ht.elim
theorem ped_c {e : Expr} {v : V} {d : D} (h : PE X e (tC v)) (r : ∀ K η H, Rp K η H d v) : PEd X E e (tCD d) := by
  refine ⟨PE.imp h fun σ H Q h => ?_⟩
  obtain ⟨ρ, η, G, Qd, Ed, he, w, ht, hq, _⟩ := h
  exact hq.now w (r _ _ _) ht
theorem ped_int {i j pos} : PEd X E (.Constant (.int i) j pos) (tCD (.int i)) := ped_c pe_int fun _ _ _ => rfl
theorem ped_bl {b j pos} : PEd X E (.Constant (.bool b) j pos) (tCD (.bl b)) := ped_c pe_bl fun _ _ _ => rfl
theorem ped_non {j pos} : PEd X E (.Constant .none j pos) (tCD .non) := ped_c pe_non fun _ _ _ => rfl
theorem ped_str {x j pos} : PEd X E (.Constant (.str x) j pos) (tCD (.str x)) := ped_c pe_str fun _ _ _ => rfl
/-- a module's constant int -/
theorem ped_globI {x : Str} {i : Int} {t : Tok} {pos : Pos} (hg : Gl X x) (hm : X.mg x = some (.int i t)) (hd : (x == ("__debug__" : Str)) = false := by decide) : PEd X E (.Name x pos) (tCD (.int i)) :=
  ped_c (pe_glob (v := .int i) hg hm ⟨_, rfl⟩ hd) fun _ _ _ => rfl
theorem ped_globS {x : Str} {i : Str} {t : Tok} {pos : Pos} (hg : Gl X x) (hm : X.mg x = some (.str i t)) (hd : (x == ("__debug__" : Str)) = false := by decide) : PEd X E (.Name x pos) (tCD (.str i)) :=
  ped_c (pe_glob (v := .str i) hg hm ⟨_, rfl⟩ hd) fun _ _ _ => rfl
end

abbrev R2d := D → D → GS → QD → Prop
def LiftR (X : Cx) (rH : R2) (rD : R2d) : Prop := ∀ (η : Eta) (G : GS) (H : Hp) (x y : V) (dx dy : D) (Q : VK) (Qd : QD),
  W X.K X.mg η G H → Rp X.K η H dx x → Rp X.K η H dy y → rD dx dy G Qd → LQ X.K X.mg η H Qd Q → rH x y H Q
def tOpD (r : R2d) (ta tb : TEd) : TEd := fun ρ G Q Ed => ta ρ G (fun x G1 => tb ρ G1 (fun y G2 => r x y G2 Q) Ed) Ed
section
variable {X : Cx} {E : St → XK} {a b c : Expr} {ta tb tc : TEd} {pos : Pos} {rH : R2} {rD : R2d}
theorem lift2 (hl : LiftR X rH rD) {σ : St} {H : Hp} {Q : VK} (h : lE X.K X.mg E (tOpD rD ta tb) σ H Q) : tOp rH (lE X.K X.mg E ta) (lE X.K X.mg E tb) σ H Q := by
  obtain ⟨ρ, η, G, Qd, Ed, he, w, ht, hq, hE⟩ := h
  refine ⟨ρ, η, G, _, Ed, he, w, ht, fun x G1 v η1 H1 s1 w1 r1 q1 => ?_, hE⟩
  refine ⟨ρ, η1, G1, _, Ed, he.step s1, w1, q1, fun y G2 u η2 H2 s2 w2 r2 q2 => ?_, hE.step s1⟩
  exact hl η2 G2 H2 v u x y Q Qd w2 (Rp.step s2 _ _ r1) r2 q2 (hq.step (s1.trans s2))
theorem ped_op {op : Operator} (ho : OpR X (binaryOp op) rH) (hl : LiftR X rH rD) (ha : PEd X E a ta) (hb : PEd X E b tb) : PEd X E (.BinOp a op b pos) (tOpD rD ta tb) :=
  ⟨PE.imp (pe_op ho ha.run hb.run) fun _ _ _ h => lift2 hl h⟩
theorem ped_cmp {op : CmpOp} (ho : OpR X (compareOp op) rH) (hl : LiftR X rH rD) (ha : PEd X E a ta) (hb : PEd X E b tb) (hm : behindInMarks op b = false) : PEd X E (.Compare a [op] [b] pos) (tOpD rD ta tb) :=
  ⟨PE.imp (pe_cmpR ho ha.run hb.run hm) fun _ _ _ h => lift2 hl h⟩
/-- a value's reading as a test: the value is a bool -/
def tTestD (t : TEd) : TTd := fun ρ G Q Ed => t ρ G (fun x G' => match x with | .bl b => Q b G' | _ => False) Ed
theorem liftTest {t : TEd} {tH : TE} (hl : ∀ {σ : St} {H : Hp} {Q : VK}, lE X.K X.mg E t σ H Q → tH σ H Q) {σ : St} {H : Hp} {Q : Bool → Hp → Prop} (h : lT X.K X.mg E (tTestD t) σ H Q) : tTest tH σ H Q := by
  obtain ⟨ρ, η, G, Qd, Ed, he, w, ht, hq, hE⟩ := h
  refine hl ⟨ρ, η, G, _, Ed, he, w, ht, fun d G' v η' H' s' w' r' q' => ?_, hE⟩
  cases d with
  | bl b => exact ⟨b, r', hq b G' η' H' s' w' q'⟩
  | _ => exact q'.elim
theorem ptd_cmp {op : CmpOp} (ho : OpR X (compareOp op) rH) (hl : LiftR X rH rD) (ha : PEd X E a ta) (hb : PEd X E b tb) (hm : behindInMarks op b = false) : PTd X E (.Compare a [op] [b] pos) (tTestD (tOpD rD ta tb)) :=
  ⟨PT.imp (pt_cmpR ho ha.run hb.run hm) fun _ _ _ h => liftTest (fun h => lift2 hl h) h⟩
/-- an expression whose value is a bool, as a test -/
theorem ptd_val {e : Expr} {t : TEd} (h : PEd X E e t) (he : ∀ whole, isTrue e X.env whole = (do let v ← whole; standAt e.pos; holding [v] (truthy v)) := by intro _; rfl) : PTd X E e (tTestD t) :=
  ⟨PT.imp (pt_val h.run he) fun σ H Q h => by
    have := liftTest (tH := lE X.K X.mg E t) (fun h => h) h
    exact this⟩
def tChainD (r r' : R2d) (ta tb tc : TEd) : TEd := fun ρ G Q Ed => ta ρ G (fun x G1 => tb ρ G1 (fun y G2 => r x y G2 fun z G3 =>
  match z with | .bl true => tc ρ G3 (fun u G4 => r' y u G4 Q) Ed | .bl false => Q (.bl false) G3 | _ => False) Ed) Ed
theorem liftChain {rH' : R2} {rD' : R2d} (hl : LiftR X rH rD) (hl' : LiftR X rH' rD') {σ : St} {H : Hp} {Q : VK} (h : lE X.K X.mg E (tChainD rD rD' ta tb tc) σ H Q) :
    tChain rH rH' (lE X.K X.mg E ta) (lE X.K X.mg E tb) (lE X.K X.mg E tc) σ H Q := by
  obtain ⟨ρ, η, G, Qd, Ed, he, w, ht, hq, hE⟩ := h
  refine ⟨ρ, η, G, _, Ed, he, w, ht, fun x G1 v η1 H1 s1 w1 r1 q1 => ?_, hE⟩
  refine ⟨ρ, η1, G1, _, Ed, he.step s1, w1, q1, fun y G2 u η2 H2 s2 w2 r2 q2 => ?_, hE.step s1⟩
  refine hl η2 G2 H2 v u x y _ _ w2 (Rp.step s2 _ _ r1) r2 q2 fun z G3 z' η3 H3 s3 w3 r3 q3 => ?_
  cases z with
  | bl k =>
    refine ⟨k, r3, ?_⟩
    cases k with
    | true =>
      rw [if_pos rfl]
      refine ⟨ρ, η3, G3, _, Ed, he.step (s1.trans (s2.trans s3)), w3, q3, fun u' G4 u'' η4 H4 s4 w4 r4 q4 => ?_, hE.step (s1.trans (s2.trans s3))⟩
      exact hl' η4 G4 H4 _ _ _ _ Q Qd w4 (Rp.step (s3.trans s4) _ _ r2) r4 q4 (hq.step (s1.trans (s2.trans (s3.trans s4))))
    | false =>
      rw [if_neg (by decide)]
      exact hq (.bl false) G3 _ η3 H3 (s1.trans (s2.trans s3)) w3 rfl q3
  | _ => exact q3.elim
theorem ped_chain {op op' : CmpOp} {rH' : R2} {rD' : R2d} (ho : OpR X (compareOp op) rH) (hl : LiftR X rH rD) (ho' : OpR X (compareOp op') rH') (hl' : LiftR X rH' rD') (ha : PEd X E a ta) (hb : PEd X E b tb) (hc : PEd X E c tc)
    (hm : lastMarks [op, op'] [b, c] = false := by with_unfolding_all rfl) : PEd X E (.Compare a [op, op'] [b, c] pos) (tChainD rD rD' ta tb tc) :=
  ⟨PE.imp (pe_chain ho ho' ha.run hb.run hc.run hm) fun _ _ _ h => liftChain hl hl' h⟩
theorem ptd_chain {op op' : CmpOp} {rH' : R2} {rD' : R2d} (ho : OpR X (compareOp op) rH) (hl : LiftR X rH rD) (ho' : OpR X (compareOp op') rH') (hl' : LiftR X rH' rD') (ha : PEd X E a ta) (hb : PEd X E b tb) (hc : PEd X E c tc)
    (hm : lastMarks [op, op'] [b, c] = false := by with_unfolding_all rfl) : PTd X E (.Compare a [op, op'] [b, c] pos) (tTestD (tChainD rD rD' ta tb tc)) :=
  ⟨PT.imp (pt_chain ho ho' ha.run hb.run hc.run hm) fun _ _ _ h => liftTest (fun h => liftChain hl hl' h) h⟩
end

def tAndD (t u : TTd) : TTd := fun ρ G Q Ed => t ρ G (fun c G1 => if c = true then u ρ G1 Q Ed else Q false G1) Ed
def tOrD (t u : TTd) : TTd := fun ρ G Q Ed => t ρ G (fun c G1 => if c = true then Q true G1 else u ρ G1 Q Ed) Ed
def tNotD (t : TTd) : TTd := fun ρ G Q Ed => t ρ G (fun c G1 => Q (!c) G1) Ed
def tAndVD (ta tb : TEd) : TEd := fun ρ G Q Ed => ta ρ G (fun x G1 => match x with | .bl true => tb ρ G1 Q Ed | .bl false => Q (.bl false) G1 | _ => False) Ed
def tOrVD (ta tb : TEd) : TEd := fun ρ G Q Ed => ta ρ G (fun x G1 => match x with | .bl false => tb ρ G1 Q Ed | .bl true => Q (.bl true) G1 | _ => False) Ed
def tNotVD (ta : TEd) : TEd := fun ρ G Q Ed => ta ρ G (fun x G1 => match x with | .bl c => Q (.bl (!c)) G1 | _ => False) Ed
def tIfED (t : TTd) (ta tb : TEd) : TEd := fun ρ G Q Ed => t ρ G (fun c G1 => if c = true then ta ρ G1 Q Ed else tb ρ G1 Q Ed) Ed
section
variable {X : Cx} {E : St → XK} {a b c : Expr} {ta tb : TEd} {t u : TTd} {pos : Pos} {rest : List Expr}
theorem pwd_and1 (ha : PTd X E a t) : PWd X E (.BoolOp .And [a] pos) t := ⟨pw_and1 ha.run⟩
theorem pwd_or1 (ha : PTd X E a t) : PWd X E (.BoolOp .Or [a] pos) t := ⟨pw_or1 ha.run⟩
theorem pwd_and (ha : PTd X E a t) (hb : PWd X E (.BoolOp .And (b :: rest) pos) u) : PWd X E (.BoolOp .And (a :: b :: rest) pos) (tAndD t u) := by
  refine ⟨PW.imp (pw_and ha.run hb.run) fun σ H Q h => ?_⟩
  obtain ⟨ρ, η, G, Qd, Ed, he, w, ht, hq, hE⟩ := h
  refine ⟨ρ, η, G, _, Ed, he, w, ht, fun k G1 η1 H1 s1 w1 q1 => ?_, hE⟩
  cases k with
  | true =>
    rw [if_pos rfl] at q1 ⊢
    exact ⟨ρ, η1, G1, Qd, Ed, he.step s1, w1, q1, fun b G' η' H' s' => hq b G' η' H' (s1.trans s'), hE.step s1⟩
  | false =>
    rw [if_neg (by decide)] at q1 ⊢
    exact hq false G1 η1 H1 s1 w1 q1
theorem pwd_or (ha : PTd X E a t) (hb : PWd X E (.BoolOp .Or (b :: rest) pos) u) : PWd X E (.BoolOp .Or (a :: b :: rest) pos) (tOrD t u) := by
  refine ⟨PW.imp (pw_or ha.run hb.run) fun σ H Q h => ?_⟩
  obtain ⟨ρ, η, G, Qd, Ed, he, w, ht, hq, hE⟩ := h
  refine ⟨ρ, η, G, _, Ed, he, w, ht, fun k G1 η1 H1 s1 w1 q1 => ?_, hE⟩
  cases k with
  | true =>
    rw [if_pos rfl] at q1 ⊢
    exact hq true G1 η1 H1 s1 w1 q1
  | false =>
    rw [if_neg (by decide)] at q1 ⊢
    exact ⟨ρ, η1, G1, Qd, Ed, he.step s1, w1, q1, fun b G' η' H' s' => hq b G' η' H' (s1.trans s'), hE.step s1⟩
theorem PWd.pt {e : Expr} (h : PWd X E e t) : PTd X E e t := ⟨h.run.pt⟩
theorem ptd_not (ha : PTd X E a t) : PTd X E (.UnaryOp .Not a pos) (tNotD t) := by
  refine ⟨PT.imp (pt_not ha.run) fun σ H Q h => ?_⟩
  obtain ⟨ρ, η, G, Qd, Ed, he, w, ht, hq, hE⟩ := h
  exact ⟨ρ, η, G, _, Ed, he, w, ht, fun k G1 η1 H1 s1 w1 q1 => hq (!k) G1 η1 H1 s1 w1 q1, hE⟩
theorem ped_one {op} {t : TEd} (h : PEd X E a t) : PEd X E (.BoolOp op [a] pos) t := ⟨pe_one h.run⟩
theorem ped_and (ha : PEd X E a ta) (hb : PEd X E (.BoolOp .And (b :: rest) pos) tb) : PEd X E (.BoolOp .And (a :: b :: rest) pos) (tAndVD ta tb) := by
  refine ⟨PE.imp (pe_and ha.run hb.run) fun σ H Q h => ?_⟩
  obtain ⟨ρ, η, G, Qd, Ed, he, w, ht, hq, hE⟩ := h
  refine ⟨ρ, η, G, _, Ed, he, w, ht, fun x G1 v η1 H1 s1 w1 r1 q1 => ?_, hE⟩
  cases x with
  | bl k =>
    refine ⟨k, r1, ?_⟩
    cases k with
    | true =>
      rw [if_pos rfl]
      exact ⟨ρ, η1, G1, Qd, Ed, he.step s1, w1, q1, hq.step s1, hE.step s1⟩
    | false =>
      rw [if_neg (by decide)]
      exact hq (.bl false) G1 _ η1 H1 s1 w1 rfl q1
  | _ => exact q1.elim
theorem ped_or (ha : PEd X E a ta) (hb : PEd X E (.BoolOp .Or (b :: rest) pos) tb) : PEd X E (.BoolOp .Or (a :: b :: rest) pos) (tOrVD ta tb) := by
  refine ⟨PE.imp (pe_or ha.run hb.run) fun σ H Q h => ?_⟩
  obtain ⟨ρ, η, G, Qd, Ed, he, w, ht, hq, hE⟩ := h
  refine ⟨ρ, η, G, _, Ed, he, w, ht, fun x G1 v η1 H1 s1 w1 r1 q1 => ?_, hE⟩
  cases x with
  | bl k =>
    refine ⟨k, r1, ?_⟩
    cases k with
    | false =>
      rw [if_neg (by decide)]
      exact ⟨ρ, η1, G1, Qd, Ed, he.step s1, w1, q1, hq.step s1, hE.step s1⟩
    | true =>
      rw [if_pos rfl]
      exact hq (.bl true) G1 _ η1 H1 s1 w1 rfl q1
  | _ => exact q1.elim
theorem ped_not (ha : PEd X E a ta) : PEd X E (.UnaryOp .Not a pos) (tNotVD ta) := by
  refine ⟨PE.imp (pe_not ha.run) fun σ H Q h => ?_⟩
  obtain ⟨ρ, η, G, Qd, Ed, he, w, ht, hq, hE⟩ := h
  refine ⟨ρ, η, G, _, Ed, he, w, ht, fun x G1 v η1 H1 s1 w1 r1 q1 => ?_, hE⟩
  cases x with
  | bl k => exact ⟨k, r1, hq (.bl (!k)) G1 _ η1 H1 s1 w1 rfl q1⟩
  | _ => exact q1.elim
theorem ped_ifExp (hc : PTd X E c t) (ha : PEd X E a ta) (hb : PEd X E b tb) : PEd X E (.IfExp c a b pos) (tIfED t ta tb) := by
  refine ⟨PE.imp (pe_ifExp hc.run ha.run hb.run) fun σ H Q h => ?_⟩
  obtain ⟨ρ, η, G, Qd, Ed, he, w, ht, hq, hE⟩ := h
  refine ⟨ρ, η, G, _, Ed, he, w, ht, fun k G1 η1 H1 s1 w1 q1 => ?_, hE⟩
  cases k with
  | true =>
    rw [if_pos rfl] at q1 ⊢
    exact ⟨ρ, η1, G1, Qd, Ed, he.step s1, w1, q1, hq.step s1, hE.step s1⟩
  | false =>
    rw [if_neg (by decide)] at q1 ⊢
    exact ⟨ρ, η1, G1, Qd, Ed, he.step s1, w1, q1, hq.step s1, hE.step s1⟩
end

def tNilD : TAd := fun _ G Q _ => Q [] G
def tConsD (ta : TEd) (tr : TAd) : TAd := fun ρ G Q Ed => ta ρ G (fun x G1 => tr ρ G1 (fun xs G2 => Q (x :: xs) G2) Ed) Ed
/-- the items of a list or tuple -/
def itemsD (G : GS) : D → Option (List D)
  | .tup ds => some ds
  | .lst ds => some ds
  | .obj k => match G[k]? with | some (.lst ds) => some ds | _ => none
  | _ => none
theorem itemsD_ok {K : PySem.W.Frag} {mg : Str → Option Value} {η : Eta} {G : GS} {H : Hp} (w : W K mg η G H) {d : D} {v : V} {ds : List D} (r : Rp K η H d v) (e : itemsD G d = some ds) :
    ∃ a vs, v = .ref a ∧ (SqT K H a vs ∨ SqL K H a vs) ∧ RpL K η H ds vs := by
  cases d with
  | tup xs =>
    obtain ⟨a, vs, e1, ht, hr⟩ := r
    cases e
    exact ⟨a, vs, e1, .inl ht, hr⟩
  | lst xs =>
    obtain ⟨a, vs, e1, _, ht, hr⟩ := r
    cases e
    exact ⟨a, vs, e1, .inr (SqL.of ht), hr⟩
  | obj k =>
    obtain ⟨a, e1, h⟩ := r
    simp only [itemsD] at e
    split at e
    · rename_i xs hk
      cases e
      obtain ⟨b, vs, g1, g2, g3⟩ := w.at_ k _ hk
      rw [g1] at h
      have : b = a := by
        rcases h with h | h
        · cases h; rfl
        · cases h
      subst this
      exact ⟨b, vs, e1, .inr (SqL.of g2), g3⟩
    · cases e
  | _ => cases e
def tStarD (te : TEd) (t : TAd) : TAd := fun ρ G Q Ed => te ρ G (fun x G1 => match itemsD G1 x with | some xs => t ρ G1 (fun ys G2 => Q (xs ++ ys) G2) Ed | none => False) Ed
def tTupD (t : TAd) : TEd := fun ρ G Q Ed => t ρ G (fun xs G1 => xs.length ≤ 16777216 ∧ Q (.tup xs) G1) Ed
def tLstD (t : TAd) : TEd := fun ρ G Q Ed => t ρ G (fun xs G1 => xs.length ≤ 16777216 ∧ Q (.lst xs) G1) Ed
/-- a list that will change: a numbered object -/
def tLstOD (t : TAd) : TEd := fun ρ G Q Ed => t ρ G (fun xs G1 => xs.length ≤ 16777216 ∧ Q (.obj G1.length) (G1 ++ [.lst xs])) Ed
theorem line_lt {n : Nat} (h : n < 16777216) : n < sizeLine := by rw [sizeLine_eq]; exact h
theorem line_eq {n : Nat} (h : n ≤ 16777216) : n ≤ sizeLine := by rw [sizeLine_eq]; exact h
theorem LQ.newO {K : PySem.W.Frag} {mg : Str → Option Value} {η : Eta} {G : GS} {H : Hp} {Qd : QD} {Q : VK} (h : LQ K mg η H Qd Q) {ds : List D} {vs : List V} {p : Addr} (w : W K mg η G H) (n : H p = none) (r : RpL K η H ds vs) (q : Qd (.obj G.length) (G ++ [.lst ds])) : Q (.ref p) (upd H p (.lst vs)) := by
  have st : Stp η H (η.push p) (upd H p (.lst vs)) := Stp.pushed n
  refine h (.obj G.length) (G ++ [.lst ds]) _ (η.push p) _ st (w.grow n (m := .lst ds) ⟨p, vs, by simp [Eta.push], upd_same, RpL.step st _ _ r⟩) ⟨p, rfl, .inl ?_⟩ q
  rw [← w.len]; simp [Eta.push]
section
variable {X : Cx} {E : St → XK} {e : Expr} {es : List Expr} {te : TEd} {t : TAd} {pos : Pos}
theorem pad_nil : PAd X E [] tNilD := by
  refine ⟨PA.imp pa_nil fun σ H Q h => ?_⟩
  obtain ⟨ρ, η, G, Qd, Ed, he, w, ht, hq, hE⟩ := h
  exact hq [] G [] η H (Stp.refl _ _) w rfl ht
theorem pad_cons (ha : PEd X E e te) (hr : PAd X E es t) (hs : starEach (e :: es) X.env = (false, eval e X.env) :: starEach es X.env := by rfl) : PAd X E (e :: es) (tConsD te t) := by
  refine ⟨PA.imp (pa_cons ha.run hr.run hs) fun σ H Q h => ?_⟩
  obtain ⟨ρ, η, G, Qd, Ed, he, w, ht, hq, hE⟩ := h
  refine ⟨ρ, η, G, _, Ed, he, w, ht, fun x G1 v η1 H1 s1 w1 r1 q1 => ?_, hE⟩
  refine ⟨ρ, η1, G1, _, Ed, he.step s1, w1, q1, fun ds G2 vs η2 H2 s2 w2 r2 q2 => ?_, hE.step s1⟩
  exact hq (x :: ds) G2 _ η2 H2 (s1.trans s2) w2 ⟨v, vs, rfl, Rp.step s2 _ _ r1, r2⟩ q2
theorem pad_star {p : Pos} (ha : PEd X E e te) (hr : PAd X E es t) (hs : starEach (.Starred e p :: es) X.env = (true, eval e X.env) :: starEach es X.env := by rfl) : PAd X E (.Starred e p :: es) (tStarD te t) := by
  refine ⟨PA.imp (StX.pa_star ha.run hr.run hs) fun σ H Q h => ?_⟩
  obtain ⟨ρ, η, G, Qd, Ed, he, w, ht, hq, hE⟩ := h
  refine ⟨ρ, η, G, _, Ed, he, w, ht, fun x G1 v η1 H1 s1 w1 r1 q1 => ?_, hE⟩
  dsimp only at q1
  split at q1
  · rename_i xs ex
    obtain ⟨a, vs, e1, hs', hr'⟩ := itemsD_ok w1 r1 ex
    refine ⟨a, vs, e1, hs', ρ, η1, G1, _, Ed, he.step s1, w1, q1, fun ds G2 us η2 H2 s2 w2 r2 q2 => ?_, hE.step s1⟩
    exact hq _ G2 _ η2 H2 (s1.trans s2) w2 (RpL.append (RpL.step s2 _ _ hr') r2) q2
  · exact q1.elim
theorem ped_tup {x1} (h : PAd X E es t) : PEd X E (.Tuple es x1 pos) (tTupD t) := by
  refine ⟨PE.imp (pe_tup h.run) fun σ H Q h => ?_⟩
  obtain ⟨ρ, η, G, Qd, Ed, he, w, ht, hq, hE⟩ := h
  refine ⟨ρ, η, G, _, Ed, he, w, ht, fun ds G1 vs η1 H1 s1 w1 r1 q1 => ?_, hE⟩
  exact ⟨line_eq (by rw [← r1.length]; exact q1.1), fun p hp => (hq.step s1).newT w1 hp r1 q1.2⟩
theorem ped_lst (h : PAd X E es t) : PEd X E (.List es pos) (tLstD t) := by
  refine ⟨PE.imp (pe_lst h.run) fun σ H Q h => ?_⟩
  obtain ⟨ρ, η, G, Qd, Ed, he, w, ht, hq, hE⟩ := h
  refine ⟨ρ, η, G, _, Ed, he, w, ht, fun ds G1 vs η1 H1 s1 w1 r1 q1 => ?_, hE⟩
  exact ⟨line_eq (by rw [← r1.length]; exact q1.1), fun p hp => (hq.step s1).newL w1 hp r1 q1.2⟩
theorem ped_lstO (h : PAd X E es t) : PEd X E (.List es pos) (tLstOD t) := by
  refine ⟨PE.imp (pe_lst h.run) fun σ H Q h => ?_⟩
  obtain ⟨ρ, η, G, Qd, Ed, he, w, ht, hq, hE⟩ := h
  refine ⟨ρ, η, G, _, Ed, he, w, ht, fun ds G1 vs η1 H1 s1 w1 r1 q1 => ?_, hE⟩
  exact ⟨line_eq (by rw [← r1.length]; exact q1.1), fun p hp => (hq.step s1).newO w1 hp r1 q1.2⟩
end

abbrev SpD := List D → GS → QD → QE → Prop
def liftSp (K : PySem.W.Frag) (mg : Str → Option Value) (sp : SpD) : Sp := fun vs H Q E =>
  ∃ (ds : List D) (η : Eta) (G : GS) (Qd : QD) (Ed : QE), RpL K η H ds vs ∧ W K mg η G H ∧ sp ds G Qd Ed ∧ LQ K mg η H Qd Q ∧ LE K mg η H Ed E
def tCallD (sp : SpD) (t : TAd) : TEd := fun ρ G Q Ed => t ρ G (fun ds G1 => sp ds G1 Q Ed) Ed
section
variable {X : Cx} {E : St → XK} {e : Expr} {es : List Expr} {t : TAd} {pos p : Pos} {k : Nat} {f : Addr} {fd : FuncData} {ps : List Str} {sp : SpD} {x : Str}
theorem ped_call (F : FnOk X.prog X.w X.K X.mg X.base (L2.CX X.prog X.w) k f fd ps (liftSp X.K X.mg sp)) (hr : Room k X.A) (hm : X.mg x = some (.ref f)) (hk : PySem.W.keepIn X.K (.ref f) = true) (hb : Binds X.K fd ps []) (hx : ∀ σ, PassesAt (L2.CX X.prog X.w) X σ (E σ))
    (hg : Gl X x) (ha : PAd X E (e :: es) t) (hdb : (x == ("__debug__" : Str)) = false := by decide) (he : starEach (e :: es) X.env = (false, eval e X.env) :: starEach es X.env := by rfl) (hpl : (backTo pos (starEach es X.env)).any (·.1) = false := by rfl) :
    PEd X E (.Call (.Name x p) (e :: es) [] pos) (tCallD sp t) := by
  refine ⟨PE.imp (pe_callS F hr hg hm hk hb hx ha.run hdb he hpl) fun σ H Q h => ?_⟩
  obtain ⟨ρ, η, G, Qd, Ed, he, w, ht, hq, hE⟩ := h
  refine ⟨ρ, η, G, _, Ed, he, w, ht, fun ds G1 vs η1 H1 s1 w1 r1 q1 => ?_, hE⟩
  exact ⟨ds, η1, G1, Qd, Ed, r1, w1, q1, hq.step s1, hE.step s1⟩
end

def LiftC (X : Cx) (rH : List V → Hp → VK → Prop) (rD : List D → GS → QD → Prop) : Prop := ∀ (η : Eta) (G : GS) (H : Hp) (vs : List V) (ds : List D) (Q : VK) (Qd : QD),
  W X.K X.mg η G H → RpL X.K η H ds vs → rD ds G Qd → LQ X.K X.mg η H Qd Q → rH vs H Q
def tCBD (r : List D → GS → QD → Prop) (t : TAd) : TEd := fun ρ G Q Ed => t ρ G (fun ds G1 => r ds G1 Q) Ed
section
variable {X : Cx} {E : St → XK} {e : Expr} {es : List Expr} {t : TAd} {pos p : Pos} {id T : String} {x : Str} {rH : List V → Hp → VK → Prop} {rD : List D → GS → QD → Prop}
theorem liftCB (hl : LiftC X rH rD) {σ : St} {H : Hp} {Q : VK} (h : lE X.K X.mg E (tCBD rD t) σ H Q) : tCB rH (lA X.K X.mg E t) σ H Q := by
  obtain ⟨ρ, η, G, Qd, Ed, he, w, ht, hq, hE⟩ := h
  refine ⟨ρ, η, G, _, Ed, he, w, ht, fun ds G1 vs η1 H1 s1 w1 r1 q1 => ?_, hE⟩
  exact hl η1 G1 H1 vs ds Q Qd w1 r1 q1 (hq.step s1)
theorem ped_callB (hc : CallR X (.builtin id) rH) (hl : LiftC X rH rD) (hm : X.mg x = none) (hv : bootBuiltins x = some (.builtin id)) (hg : Gl X x) (ha : PAd X E (e :: es) t) (hn : x ≠ "__name__" := by decide) (hdb : (x == ("__debug__" : Str)) = false := by decide)
    (he : starEach (e :: es) X.env = (false, eval e X.env) :: starEach es X.env := by rfl) (hpl : (backTo pos (starEach es X.env)).any (·.1) = false := by rfl) : PEd X E (.Call (.Name x p) (e :: es) [] pos) (tCBD rD t) :=
  ⟨PE.imp (pe_callB hc hg hm hv ha.run hn hdb he hpl) fun _ _ _ h => liftCB hl h⟩
theorem ped_callTy (hc : CallR X (.type T) rH) (hl : LiftC X rH rD) (hm : X.mg x = none) (hv : bootBuiltins x = some (.type T)) (hg : Gl X x) (ha : PAd X E (e :: es) t) (hn : x ≠ "__name__" := by decide) (hdb : (x == ("__debug__" : Str)) = false := by decide)
    (he : starEach (e :: es) X.env = (false, eval e X.env) :: starEach es X.env := by rfl) (hpl : (backTo pos (starEach es X.env)).any (·.1) = false := by rfl) : PEd X E (.Call (.Name x p) (e :: es) [] pos) (tCBD rD t) :=
  ⟨PE.imp (pe_callTy hc hg hm hv ha.run hn hdb he hpl) fun _ _ _ h => liftCB hl h⟩
end
end Y

namespace Y
open PySem PySem.Spec L2
open PyProof.Rows hiding St

structure EndsD where
  nx : Rho → GS → Prop
  rt : QD
  bk : Rho → GS → Prop := fun _ _ => False
  ct : Rho → GS → Prop := fun _ _ => False
  er : Er → Rho → GS → Prop := fun _ _ _ => False
abbrev TSd := EndsD → Rho → GS → Prop

structure Lnk (K : PySem.W.Frag) (mg : Str → Option Value) (E : St → XK) (η : Eta) (H : Hp) (Dd : EndsD) (D : Ends) : Prop where
  nx : ∀ ρ' G' σ' η' H', Stp η H η' H' → W K mg η' G' H' → EnvR K η' H' σ' ρ' → Dd.nx ρ' G' → D.nx σ' H'
  rt : LQ K mg η H Dd.rt D.rt
  bk : ∀ ρ' G' σ' η' H', Stp η H η' H' → W K mg η' G' H' → EnvR K η' H' σ' ρ' → Dd.bk ρ' G' → D.bk σ' H'
  ct : ∀ ρ' G' σ' η' H', Stp η H η' H' → W K mg η' G' H' → EnvR K η' H' σ' ρ' → Dd.ct ρ' G' → D.ct σ' H'
  er : ∀ e ρ' G' σ' cls od η' H', Stp η H η' H' → W K mg η' G' H' → EnvR K η' H' σ' ρ' → ErR K mg η' H' cls od e → Dd.er e ρ' G' → E σ' cls od H'
def lS (K : PySem.W.Frag) (mg : Str → Option Value) (E : St → XK) (t : TSd) : TS := fun D σ H =>
  ∃ (ρ : Rho) (η : Eta) (G : GS) (Dd : EndsD), EnvR K η H σ ρ ∧ W K mg η G H ∧ t Dd ρ G ∧ Lnk K mg E η H Dd D
structure PSd (X : Cx) (E : St → XK) (st : Stmt) (t : TSd) : Prop where run : PS X st (lS X.K X.mg E t)
structure PSsd (X : Cx) (E : St → XK) (st : List Stmt) (t : TSd) : Prop where run : PSs X st (lS X.K X.mg E t)

theorem PS.imp {X : Cx} {e : Stmt} {t t' : TS} (h : PS X e t) (i : ∀ D σ H, t' D σ H → t D σ H) : PS X e t' := ⟨fun pins s σ H Q I q => h.run pins s σ H Q I (i Q σ H q)⟩
theorem PSs.imp {X : Cx} {e : List Stmt} {t t' : TS} (h : PSs X e t) (i : ∀ D σ H, t' D σ H → t D σ H) : PSs X e t' := ⟨fun pins s σ H Q I q => h.run pins s σ H Q I (i Q σ H q)⟩

section
variable {K : PySem.W.Frag} {mg : Str → Option Value} {E : St → XK} {η η' : Eta} {H H' : Hp} {G : GS} {Dd : EndsD} {D : Ends} {σ : St} {ρ : Rho}
theorem Lnk.step (s : Stp η H η' H') (l : Lnk K mg E η H Dd D) : Lnk K mg E η' H' Dd D :=
  ⟨fun ρ' G' σ' η2 H2 s2 => l.nx ρ' G' σ' η2 H2 (s.trans s2), l.rt.step s, fun ρ' G' σ' η2 H2 s2 => l.bk ρ' G' σ' η2 H2 (s.trans s2),
    fun ρ' G' σ' η2 H2 s2 => l.ct ρ' G' σ' η2 H2 (s.trans s2), fun e ρ' G' σ' cls od η2 H2 s2 => l.er e ρ' G' σ' cls od η2 H2 (s.trans s2)⟩
/-- the error's wish at the slots as they are -/
theorem Lnk.le (l : Lnk K mg E η H Dd D) (he : EnvR K η H σ ρ) : LE K mg η H (fun e G' => Dd.er e ρ G') (E σ) :=
  fun e G' cls od η2 H2 s2 w r q => l.er e ρ G' σ cls od η2 H2 s2 w (he.step s2) r q
theorem EnvR.set (he : EnvR K η H σ ρ) (i : Nat) {d : Y.D} {v : V} (r : Rp K η H d v) : EnvR K η H (σ.set i (some v)) (ρ.set i (some d)) := by
  refine ⟨by simp [he.1], fun j x hx => ?_⟩
  by_cases hj : j = i
  · subst hj
    have hl : j < ρ.length := by
      have := (List.getElem?_eq_some_iff.mp hx).1
      simpa using this
    rw [List.getElem?_set_self hl] at hx
    cases hx
    exact ⟨v, by rw [List.getElem?_set_self (by rw [he.1]; exact hl)], r⟩
  · rw [List.getElem?_set_ne (Ne.symm hj)] at hx
    obtain ⟨u, e, r'⟩ := he.2 j x hx
    exact ⟨u, by rw [List.getElem?_set_ne (Ne.symm hj)]; exact e, r'⟩
theorem EnvR.unset (he : EnvR K η H σ ρ) (i : Nat) : EnvR K η H (σ.set i none) (ρ.set i none) := by
  refine ⟨by simp [he.1], fun j x hx => ?_⟩
  by_cases hj : j = i
  · subst hj
    by_cases hl : j < ρ.length
    · rw [List.getElem?_set_self hl] at hx; cases hx
    · rw [List.getElem?_eq_none (by simpa using Nat.le_of_not_lt hl)] at hx; cases hx
  · rw [List.getElem?_set_ne (Ne.symm hj)] at hx
    obtain ⟨u, e, r'⟩ := he.2 j x hx
    exact ⟨u, by rw [List.getElem?_set_ne (Ne.symm hj)]; exact e, r'⟩
/-- an expression's links, from a statement's -/
theorem Lnk.ex (l : Lnk K mg E η H Dd D) : LQ K mg η H Dd.rt D.rt := l.rt
end

def tNextD : TSd := fun D ρ G => D.nx ρ G
def tSeqD (t u : TSd) : TSd := fun D ρ G => t { D with nx := u D } ρ G
def tBreakD : TSd := fun D ρ G => D.bk ρ G
def tContD : TSd := fun D ρ G => D.ct ρ G
def tDropD (te : TEd) : TSd := fun D ρ G => te ρ G (fun _ G1 => D.nx ρ G1) (fun e G1 => D.er e ρ G1)
def tRetD (te : TEd) : TSd := fun D ρ G => te ρ G D.rt (fun e G1 => D.er e ρ G1)
def tIfSD (c : TTd) (t u : TSd) : TSd := fun D ρ G => c ρ G (fun b G1 => if b = true then t D ρ G1 else u D ρ G1) (fun e G1 => D.er e ρ G1)
def tNeverD : TSd := fun _ _ _ => False
section
variable {X : Cx} {E : St → XK} {st : Stmt} {rest : List Stmt} {t u : TSd} {e : Expr} {te : TEd} {pos : Pos}
theorem pssd_nil : PSsd X E [] tNextD := ⟨PSs.imp pss_nil fun D σ H h => by
  obtain ⟨ρ, η, G, Dd, he, w, ht, l⟩ := h
  exact l.nx ρ G σ η H (Stp.refl _ _) w he ht⟩
theorem pssd_cons (h1 : PSd X E st t) (h2 : PSsd X E rest u) : PSsd X E (st :: rest) (tSeqD t u) := ⟨PSs.imp (pss_cons h1.run h2.run) fun D σ H h => by
  obtain ⟨ρ, η, G, Dd, he, w, ht, l⟩ := h
  refine ⟨ρ, η, G, _, he, w, ht, ?_, l.rt, l.bk, l.ct, l.er⟩
  intro ρ1 G1 σ1 η1 H1 s1 w1 e1 q1
  exact ⟨ρ1, η1, G1, Dd, e1, w1, q1, l.step s1⟩⟩
theorem pssd_one (h1 : PSd X E st t) : PSsd X E [st] t := ⟨pss_one h1.run⟩
theorem psd_pass : PSd X E (.Pass pos) tNextD := ⟨PS.imp ps_pass fun D σ H h => by
  obtain ⟨ρ, η, G, Dd, he, w, ht, l⟩ := h
  exact l.nx ρ G σ η H (Stp.refl _ _) w he ht⟩
theorem psd_break : PSd X E (.Break pos) tBreakD := ⟨PS.imp ps_break fun D σ H h => by
  obtain ⟨ρ, η, G, Dd, he, w, ht, l⟩ := h
  exact l.bk ρ G σ η H (Stp.refl _ _) w he ht⟩
theorem psd_continue : PSd X E (.Continue pos) tContD := ⟨PS.imp ps_continue fun D σ H h => by
  obtain ⟨ρ, η, G, Dd, he, w, ht, l⟩ := h
  exact l.ct ρ G σ η H (Stp.refl _ _) w he ht⟩
theorem psd_never : PSd X E st tNeverD := ⟨PS.imp ps_never fun D σ H h => by
  obtain ⟨ρ, η, G, Dd, he, w, ht, l⟩ := h
  exact ht.elim⟩
theorem psd_expr (he : PEd X E e te) (hs : swapsWith e none pos.line X.env = pure false := by rfl) : PSd X E (.Expr e pos) (tDropD te) := ⟨PS.imp (ps_expr he.run hs) fun D σ H h => by
  obtain ⟨ρ, η, G, Dd, he, w, ht, l⟩ := h
  refine ⟨ρ, η, G, _, _, he, w, ht, fun d G1 v η1 H1 s1 w1 r1 q1 => ?_, l.le he⟩
  exact l.nx ρ G1 σ η1 H1 s1 w1 (he.step s1) q1⟩
theorem psd_ret (he : PEd X E e te) : PSd X E (.Return (some e) pos) (tRetD te) := ⟨PS.imp (ps_ret he.run) fun D σ H h => by
  obtain ⟨ρ, η, G, Dd, he, w, ht, l⟩ := h
  exact ⟨ρ, η, G, _, _, he, w, ht, l.rt, l.le he⟩⟩
theorem psd_if {c : Expr} {a b : List Stmt} {tc : TTd} (hc : PTd X E c tc) (ha : PSsd X E a t) (hb : PSsd X E b u) : PSd X E (.If c a b pos) (tIfSD tc t u) := ⟨PS.imp (ps_if hc.run ha.run hb.run) fun D σ H h => by
  obtain ⟨ρ, η, G, Dd, he, w, ht, l⟩ := h
  refine ⟨ρ, η, G, _, _, he, w, ht, fun k G1 η1 H1 s1 w1 q1 => ?_, l.le he⟩
  cases k with
  | true =>
    rw [if_pos rfl] at q1 ⊢
    exact ⟨ρ, η1, G1, Dd, he.step s1, w1, q1, l.step s1⟩
  | false =>
    rw [if_neg (by decide)] at q1 ⊢
    exact ⟨ρ, η1, G1, Dd, he.step s1, w1, q1, l.step s1⟩⟩
end

abbrev TGd := D → Rho → GS → (Rho → GS → Prop) → Prop
abbrev TGsd := List D → Rho → GS → (Rho → GS → Prop) → Prop
def lG (K : PySem.W.Frag) (mg : Str → Option Value) (t : TGd) : TG := fun v σ H Q =>
  ∃ (d : D) (ρ : Rho) (η : Eta) (G : GS) (Qd : Rho → GS → Prop), Rp K η H d v ∧ EnvR K η H σ ρ ∧ W K mg η G H ∧ t d ρ G Qd ∧
    ∀ ρ' G' σ' η' H', Stp η H η' H' → W K mg η' G' H' → EnvR K η' H' σ' ρ' → Qd ρ' G' → Q σ' H'
def lGs (K : PySem.W.Frag) (mg : Str → Option Value) (t : TGsd) : TGs := fun vs σ H Q =>
  ∃ (ds : List D) (ρ : Rho) (η : Eta) (G : GS) (Qd : Rho → GS → Prop), RpL K η H ds vs ∧ EnvR K η H σ ρ ∧ W K mg η G H ∧ t ds ρ G Qd ∧
    ∀ ρ' G' σ' η' H', Stp η H η' H' → W K mg η' G' H' → EnvR K η' H' σ' ρ' → Qd ρ' G' → Q σ' H'
structure PGd (X : Cx) (tg : Expr) (t : TGd) : Prop where run : PG X tg (lG X.K X.mg t)
structure PGsd (X : Cx) (tg : List Expr) (t : TGsd) : Prop where run : PGs X tg (lGs X.K X.mg t)
theorem PG.imp {X : Cx} {e : Expr} {t t' : TG} (h : PG X e t) (i : ∀ v σ H Q, t' v σ H Q → t v σ H Q) : PG X e t' := ⟨fun pins s σ H v u Q I r q => h.run pins s σ H v u Q I r (i v σ H Q q)⟩
theorem PGs.imp {X : Cx} {e : List Expr} {t t' : TGs} (h : PGs X e t) (i : ∀ v σ H Q, t' v σ H Q → t v σ H Q) : PGs X e t' := ⟨fun pins s σ H v u Q I r q => h.run pins s σ H v u Q I r (i v σ H Q q)⟩
def gNameD (i : Nat) : TGd := fun d ρ G Q => Q (ρ.set i (some d)) G
def gNilD : TGsd := fun ds ρ G Q => match ds with | [] => Q ρ G | _ => False
def gConsD (t : TGd) (u : TGsd) : TGsd := fun ds ρ G Q => match ds with | d :: r => t d ρ G (fun ρ1 G1 => u r ρ1 G1 Q) | [] => False
def gTupD (t : TGsd) : TGd := fun d ρ G Q => match d with | .tup ds => t ds ρ G Q | _ => False
/-- target = e, any target -/
def tAsgD (te : TEd) (g : TGd) : TSd := fun D ρ G => te ρ G (fun d G1 => g d ρ G1 D.nx) (fun e G1 => D.er e ρ G1)
def tSetD (i : Nat) (te : TEd) : TSd := fun D ρ G => te ρ G (fun d G1 => D.nx (ρ.set i (some d)) G1) (fun e G1 => D.er e ρ G1)
section
variable {X : Cx} {E : St → XK} {pos : Pos}
theorem pgd_name {i : Nat} {x : Str} (hN : X.N.Nodup) (hi : X.N[i]? = some x) (hx : Loc X.env.scope x) (hf : X.fn x = true ∨ X.env.scope.names.lookup x = some .local := by first | exact .inl rfl | exact .inr rfl | assumption) : PGd X (.Name x pos) (gNameD i) :=
  ⟨PG.imp (pg_name hN hi hx hf) fun v σ H Q h => by
    obtain ⟨d, ρ, η, G, Qd, r, he, w, ht, hq⟩ := h
    exact hq _ G _ η H (Stp.refl _ _) w (he.set i r) ht⟩
theorem pgsd_nil : PGsd X [] gNilD := ⟨PGs.imp pgs_nil fun v σ H Q h => by
  obtain ⟨ds, ρ, η, G, Qd, r, he, w, ht, hq⟩ := h
  cases ds with
  | nil => exact ⟨r, hq _ G _ η H (Stp.refl _ _) w he ht⟩
  | cons d ds => exact ht.elim⟩
theorem pgsd_cons {e : Expr} {es : List Expr} {t : TGd} {u : TGsd} (h1 : PGd X e t) (h2 : PGsd X es u)
    (hs : (assignEach (e :: es) X.env).map (·.2) = assign e X.env :: (assignEach es X.env).map (·.2) := by rfl) : PGsd X (e :: es) (gConsD t u) := ⟨PGs.imp (pgs_cons h1.run h2.run hs) fun v σ H Q h => by
  obtain ⟨ds, ρ, η, G, Qd, r, he, w, ht, hq⟩ := h
  cases ds with
  | nil => exact ht.elim
  | cons d ds =>
    obtain ⟨u', vs, ev, r1, r2⟩ := r
    refine ⟨u', vs, ev, d, ρ, η, G, _, r1, he, w, ht, fun ρ1 G1 σ1 η1 H1 s1 w1 e1 q1 => ?_⟩
    exact ⟨ds, ρ1, η1, G1, Qd, RpL.step s1 _ _ r2, e1, w1, q1, fun ρ2 G2 σ2 η2 H2 s2 => hq ρ2 G2 σ2 η2 H2 (s1.trans s2)⟩⟩
theorem pgd_tup {es : List Expr} {k : Nat} {t : TGsd} {n : Nat} (hc : X.calm = true) (h : PGsd X es t) (hlen : ∀ ds ρ G Q, t ds ρ G Q → ds.length = n)
    (hn : (assignEach es X.env).length = n := by rfl) (hst : (assignEach es X.env).findIdx? (·.1) = none := by rfl) : PGd X (.Tuple es k pos) (gTupD t) := ⟨PG.imp (pg_tup hc h.run hn hst) fun v σ H Q h => by
  obtain ⟨d, ρ, η, G, Qd, r, he, w, ht, hq⟩ := h
  cases d with
  | tup ds =>
    obtain ⟨a, vs, ev, hs, hr⟩ := r
    refine ⟨a, vs, ev, hs, by rw [← hr.length]; exact hlen _ _ _ _ ht, ds, ρ, η, G, Qd, hr, he, w, ht, hq⟩
  | _ => exact ht.elim⟩
theorem lenNil : ∀ ds ρ G Q, gNilD ds ρ G Q → ds.length = 0 := fun ds ρ G Q h => by
  cases ds with
  | nil => rfl
  | cons d ds => exact h.elim
theorem lenCons {i n : Nat} {u : TGsd} (h : ∀ ds ρ G Q, u ds ρ G Q → ds.length = n) : ∀ ds ρ G Q, gConsD (gNameD i) u ds ρ G Q → ds.length = n + 1 := fun ds ρ G Q q => by
  cases ds with
  | nil => exact q.elim
  | cons d ds => simp [h _ _ _ _ q]
theorem psd_asg {tg e : Expr} {te : TEd} {g : TGd} (he : PEd X E e te) (hg : PGd X tg g) (hs : swapsWithSole [tg] e pos.line X.env = pure false := by rfl) (hw : swappedStores [tg] e X.env = pure none := by rfl)
    (h1 : (assignEach [tg] X.env).map (·.2) = [assign tg X.env] := by rfl) : PSd X E (.Assign [tg] e pos) (tAsgD te g) := ⟨PS.imp (ps_asg he.run hg.run hs hw h1) fun D σ H h => by
  obtain ⟨ρ, η, G, Dd, he, w, ht, l⟩ := h
  refine ⟨ρ, η, G, _, _, he, w, ht, fun d G1 v η1 H1 s1 w1 r1 q1 => ?_, l.le he⟩
  exact ⟨d, ρ, η1, G1, _, r1, he.step s1, w1, q1, fun ρ2 G2 σ2 η2 H2 s2 => l.nx ρ2 G2 σ2 η2 H2 (s1.trans s2)⟩⟩
theorem psd_set {i : Nat} {x : Str} {e : Expr} {te : TEd} {pos' : Pos} (hN : X.N.Nodup) (hi : X.N[i]? = some x) (hx : Loc X.env.scope x) (he : PEd X E e te) (hs : swapsWith e (some (.Name x pos')) pos.line X.env = pure false := by rfl) (hf : X.fn x = true ∨ X.env.scope.names.lookup x = some .local := by first | exact .inl rfl | exact .inr rfl | assumption) :
    PSd X E (.Assign [.Name x pos'] e pos) (tSetD i te) := ⟨PS.imp (ps_set hN hi hx he.run hs hf) fun D σ H h => by
  obtain ⟨ρ, η, G, Dd, he, w, ht, l⟩ := h
  refine ⟨ρ, η, G, _, _, he, w, ht, fun d G1 v η1 H1 s1 w1 r1 q1 => ?_, l.le he⟩
  exact l.nx _ G1 _ η1 H1 s1 w1 ((he.step s1).set i r1) q1⟩
/-- a, b = x, y -/
def tPar2D (i j : Nat) (ta : TAd) : TSd := fun D ρ G => ta ρ G (fun ds G1 => match ds with | [d1, d2] => D.nx ((ρ.set i (some d1)).set j (some d2)) G1 | _ => False) (fun e G1 => D.er e ρ G1)
theorem psd_par {i j : Nat} {x y : Str} {a b : Expr} {ta : TAd} {px py pt : Pos} {kt k2 pt2} (hc : X.calm = true) (hN : X.N.Nodup) (hi : X.N[i]? = some x) (hj : X.N[j]? = some y) (hij : i ≠ j)
    (hx : X.env.scope.names.lookup x = some .local) (hy : X.env.scope.names.lookup y = some .local) (ha : PAd X E [a, b] ta)
    (hw : swappedStores [.Tuple [.Name x px, .Name y py] kt pt] (.Tuple [a, b] k2 pt2) X.env = pure (some [x, y]))
    (hs : swapsWithSole [.Tuple [.Name x px, .Name y py] kt pt] (.Tuple [a, b] k2 pt2) pos.line X.env = pure false := by rfl) :
    PSd X E (.Assign [.Tuple [.Name x px, .Name y py] kt pt] (.Tuple [a, b] k2 pt2) pos) (tPar2D i j ta) := ⟨PS.imp (ps_par hc hN hi hj hij hx hy ha.run hw hs) fun D σ H h => by
  obtain ⟨ρ, η, G, Dd, he, w, ht, l⟩ := h
  refine ⟨ρ, η, G, _, _, he, w, ht, fun ds G1 vs η1 H1 s1 w1 r1 q1 => ?_, l.le he⟩
  split at q1
  · obtain ⟨v1, _, rfl, r1, v2, _, rfl, r2, e3⟩ := r1
    refine ⟨v1, v2, by rw [e3], ?_⟩
    exact l.nx _ G1 _ η1 H1 s1 w1 (((he.step s1).set i r1).set j r2) q1
  · exact q1.elim⟩
end

/-- the walk J gives the things ds, whenever it is asked -/
def ItOk (K : PySem.W.Frag) (mg : Str → Option Value) (J : It) (η : Eta) (H : Hp) (ds : List D) : Prop :=
  ∀ (η' : Eta) (H' : Hp) (i : Nat), Stw η H η' H' → (i < ds.length → J.go i H') ∧ (ds.length ≤ i → J.stop i H') ∧
    ∀ x H'', J.yld i H' x H'' → i < ds.length → ∃ d, ds[i]? = some d ∧ Stp η' H' η' H'' ∧ (∀ G, W K mg η' G H' → W K mg η' G H'') ∧ Rp K η' H'' d x
abbrev TId := Rho → GS → (List D → GS → Prop) → QE → Prop
def lI (K : PySem.W.Frag) (mg : Str → Option Value) (E : St → XK) (t : TId) : TI := fun σ H R =>
  ∃ (ρ : Rho) (η : Eta) (G : GS) (Qd : List D → GS → Prop) (Ed : QE), EnvR K η H σ ρ ∧ W K mg η G H ∧ t ρ G Qd Ed ∧
    (∀ ds G' J η' H', Stp η H η' H' → W K mg η' G' H' → ItOk K mg J η' H' ds → Qd ds G' → R J H') ∧ LE K mg η H Ed (E σ)
structure PId (X : Cx) (E : St → XK) (tg iter : Expr) (t : TId) : Prop where run : PI X tg iter (lI X.K X.mg E t)
theorem PI.imp {X : Cx} {tg e : Expr} {t t' : TI} (h : PI X tg e t) (i : ∀ σ H Q, t' σ H Q → t σ H Q) : PI X tg e t' := ⟨fun pins s σ H Q I q => h.run pins s σ H Q I (i σ H Q q)⟩

theorem itl_ok {K : PySem.W.Frag} {mg : Str → Option Value} {η : Eta} {H : Hp} {a : Addr} {vs : List V} {ds : List D} (ha : H a = some (.lst vs)) (n : Out η a) (r : RpL K η H ds vs) : ItOk K mg (Itl K a) η H ds := by
  intro η' H' i s
  have ha' := s.keep _ _ ha (.inl n)
  have hl : SqL K H' a vs := SqL.of ha'
  have e := r.length
  refine ⟨fun h => ⟨vs, vs[i]'(by omega), hl, List.getElem?_eq_getElem _⟩, fun h => ⟨vs, hl, by omega⟩, fun x H'' y hi => ?_⟩
  obtain ⟨e1, e2⟩ := y
  subst e1
  obtain ⟨d, h1, h2⟩ := r.getV (e2 vs hl)
  exact ⟨d, h1, Stp.refl _ _, fun _ w => w, Rp.stepw s _ _ h2⟩
theorem itt_ok {K : PySem.W.Frag} {mg : Str → Option Value} {η : Eta} {H : Hp} {a : Addr} {vs : List V} {ds : List D} (ha : SqT K H a vs) (r : RpL K η H ds vs) : ItOk K mg (Itt K a) η H ds := by
  intro η' H' i s
  have hl : SqT K H' a vs := SqT.stepw s ha
  have e := r.length
  refine ⟨fun h => ⟨vs, vs[i]'(by omega), hl, List.getElem?_eq_getElem _⟩, fun h => ⟨vs, hl, by omega⟩, fun x H'' y hi => ?_⟩
  obtain ⟨e1, e2⟩ := y
  subst e1
  obtain ⟨d, h1, h2⟩ := r.getV (e2 vs hl)
  exact ⟨d, h1, Stp.refl _ _, fun _ w => w, Rp.stepw s _ _ h2⟩
theorem itr_ok {K : PySem.W.Frag} {mg : Str → Option Value} {η : Eta} {H : Hp} {lo : Int} {n : Nat} : ItOk K mg (Itr lo n) η H ((List.range n).map fun (i : Nat) => D.int (lo + (i : Int))) := by
  intro η' H' i s
  refine ⟨fun h => (by simpa using h : i < n), fun h => (by simpa using h : n ≤ i), fun x H'' y hi => ?_⟩
  obtain ⟨e1, e2⟩ := y
  subst e1; subst e2
  have hi' : i < n := by simpa using hi
  exact ⟨.int (lo + i), by simp [hi'], Stp.refl _ _, fun _ w => w, rfl⟩
/-- lo, lo + 1, .. (n of them) -/
def rngD (lo : Int) (n : Nat) : List D := (List.range n).map fun (i : Nat) => D.int (lo + (i : Int))
def iLstD (te : TEd) : TId := fun ρ G Q Ed => te ρ G (fun d G1 => match d with | .lst ds => Q ds G1 | _ => False) Ed
def iTupD (te : TEd) : TId := fun ρ G Q Ed => te ρ G (fun d G1 => match d with | .tup ds => Q ds G1 | _ => False) Ed
def iRng1D (te : TAd) : TId := fun ρ G Q Ed => te ρ G (fun ds G1 => match ds with | [.int j] => (-(2 ^ 62) ≤ j ∧ j < 2 ^ 62) ∧ Q (rngD 0 j.toNat) G1 | _ => False) Ed
def iRng2D (te : TAd) : TId := fun ρ G Q Ed => te ρ G (fun ds G1 => match ds with | [.int i, .int j] => (-(2 ^ 62) ≤ i ∧ i < 2 ^ 62 ∧ -(2 ^ 62) ≤ j ∧ j < 2 ^ 62) ∧ Q (rngD i (j - i).toNat) G1 | _ => False) Ed
section
variable {X : Cx} {E : St → XK} {tg e a b : Expr} {te : TEd} {ta : TAd} {p pos : Pos}
theorem pid_lst (h : PEd X E e te) : PId X E tg e (iLstD te) := ⟨PI.imp (pi_list h.run) fun σ H R h => by
  obtain ⟨ρ, η, G, Qd, Ed, he, w, ht, hq, hE⟩ := h
  refine ⟨ρ, η, G, _, Ed, he, w, ht, fun d G1 v η1 H1 s1 w1 r1 q1 => ?_, hE⟩
  cases d with
  | lst ds =>
    obtain ⟨x, vs, rfl, n, hx, hr⟩ := r1
    exact ⟨x, rfl, ⟨vs, SqL.of hx⟩, hq ds G1 _ η1 H1 s1 w1 (itl_ok hx n hr) q1⟩
  | _ => exact q1.elim⟩
theorem pid_tup (h : PEd X E e te) : PId X E tg e (iTupD te) := ⟨PI.imp (pi_tup h.run) fun σ H R h => by
  obtain ⟨ρ, η, G, Qd, Ed, he, w, ht, hq, hE⟩ := h
  refine ⟨ρ, η, G, _, Ed, he, w, ht, fun d G1 v η1 H1 s1 w1 r1 q1 => ?_, hE⟩
  cases d with
  | tup ds =>
    obtain ⟨x, vs, rfl, hx, hr⟩ := r1
    exact ⟨x, rfl, ⟨vs, hx⟩, hq ds G1 _ η1 H1 s1 w1 (itt_ok hx hr) q1⟩
  | _ => exact q1.elim⟩
theorem pid_rng1 (hm : X.mg "range" = none) (hg : Gl X "range") (ha : PAd X E [a] ta) (hs : starEach [a] X.env = [(false, eval a X.env)] := by rfl) : PId X E tg (.Call (.Name "range" p) [a] [] pos) (iRng1D ta) :=
  ⟨PI.imp (pi_range1 hg hm ha.run hs) fun σ H R h => by
  obtain ⟨ρ, η, G, Qd, Ed, he, w, ht, hq, hE⟩ := h
  refine ⟨ρ, η, G, _, Ed, he, w, ht, fun ds G1 vs η1 H1 s1 w1 r1 q1 => ?_, hE⟩
  split at q1
  · rename_i j
    obtain ⟨v, _, rfl, r1, rfl⟩ := r1
    refine ⟨j, by rw [show v = .int j from r1], q1.1.1, q1.1.2, hq _ G1 _ η1 H1 s1 w1 itr_ok q1.2⟩
  · exact q1.elim⟩
theorem pid_rng2 (hm : X.mg "range" = none) (hg : Gl X "range") (ha : PAd X E [a, b] ta) (hs : starEach [a, b] X.env = [(false, eval a X.env), (false, eval b X.env)] := by rfl) (hs2 : starEach [b] X.env = [(false, eval b X.env)] := by rfl) :
    PId X E tg (.Call (.Name "range" p) [a, b] [] pos) (iRng2D ta) :=
  ⟨PI.imp (pi_range2 hg hm ha.run hs hs2) fun σ H R h => by
  obtain ⟨ρ, η, G, Qd, Ed, he, w, ht, hq, hE⟩ := h
  refine ⟨ρ, η, G, _, Ed, he, w, ht, fun ds G1 vs η1 H1 s1 w1 r1 q1 => ?_, hE⟩
  split at q1
  · rename_i i j
    obtain ⟨v, _, rfl, r1, u, _, rfl, r2, rfl⟩ := r1
    refine ⟨i, j, by rw [show v = .int i from r1, show u = .int j from r2], q1.1, hq _ G1 _ η1 H1 s1 w1 itr_ok q1.2⟩
  · exact q1.elim⟩
end

def forL (g : TGd) (tb : TSd) (D : EndsD) : List Y.D → Rho → GS → Prop
  | [], ρ, G => D.nx ρ G
  | d :: ds, ρ, G => g d ρ G fun ρ2 G2 => tb { D with nx := forL g tb D ds, ct := forL g tb D ds, bk := D.nx } ρ2 G2
def tForD (wi : TId) (g : TGd) (tb : TSd) : TSd := fun D ρ G => wi ρ G (fun ds G1 => forL g tb D ds ρ G1) (fun e G1 => D.er e ρ G1)
theorem drop_cons {α : Type} {l : List α} {i : Nat} {d : α} (h : l[i]? = some d) : l.drop i = d :: l.drop (i + 1) := by
  obtain ⟨hi, e⟩ := List.getElem?_eq_some_iff.mp h
  rw [List.drop_eq_getElem_cons hi, e]
theorem psd_for {X : Cx} {E : St → XK} {tg iter : Expr} {body : List Stmt} {wi : TId} {g : TGd} {tb : TSd} {pos : Pos} (hp : PassesOwn (model X.prog X.w) X.A X.env X.xe) (hc : X.calm = true) (hi : PId X E tg iter wi) (hg : PGd X tg g) (hb : PSsd X E body tb)
    (hs : ∀ x, foldedSetIterable iter X.env x = pure x := by intro _; rfl) : PSd X E (.For tg iter body [] pos) (tForD wi g tb) :=
  ⟨PS.imp (ps_for hp hc hi.run hg.run hb.run hs) fun D σ H h => by
  obtain ⟨ρ, η, G, Dd, he, w, ht, l⟩ := h
  refine ⟨ρ, η, G, _, _, he, w, ht, fun ds G1 J η1 H1 s1 w1 it q1 => ?_, l.le he⟩
  refine ⟨fun i m σ' H' => ∃ ρ' η' G', Stp η1 H1 η' H' ∧ W X.K X.mg η' G' H' ∧ EnvR X.K η' H' σ' ρ' ∧ i ≤ ds.length ∧ m = ds.length - i ∧ forL g tb Dd (ds.drop i) ρ' G',
    ⟨_, ρ, η1, G1, Stp.refl _ _, w1, he.step s1, Nat.zero_le _, rfl, by simpa using q1⟩, ?_⟩
  rintro i m σ' H' ⟨ρ', η', G', s', w', e', hle, rfl, q'⟩
  obtain ⟨i1, i2, i3⟩ := it η' H' i s'.w
  by_cases hi : i < ds.length
  · right
    refine ⟨i1 hi, fun σ2 H2 => ∃ ρ2 η2 G2, Stp η1 H1 η2 H2 ∧ W X.K X.mg η2 G2 H2 ∧ EnvR X.K η2 H2 σ2 ρ2 ∧ forL g tb Dd (ds.drop (i + 1)) ρ2 G2, ?_, ?_⟩
    · rintro σ2 H2 ⟨ρ2, η2, G2, s2, w2, e2, q2⟩
      exact ⟨_, by omega, ρ2, η2, G2, s2, w2, e2, hi, rfl, q2⟩
    · intro x H'' y
      obtain ⟨d, hd, st, ww, rx⟩ := i3 x H'' y hi
      rw [drop_cons hd] at q'
      refine ⟨d, ρ', η', G', _, rx, e'.step st, ww G' w', q', fun ρ2 G2 σ2 η2 H2 s2 w2 e2 q2 => ?_⟩
      have sAll := s1.trans (s'.trans (st.trans s2))
      have s12 := s'.trans (st.trans s2)
      refine ⟨ρ2, η2, G2, _, e2, w2, q2, ?_, l.rt.step sAll, ?_, ?_, ?_⟩
      · intro ρ3 G3 σ3 η3 H3 s3 w3 e3 q3
        exact ⟨ρ3, η3, G3, s12.trans s3, w3, e3, q3⟩
      · intro ρ3 G3 σ3 η3 H3 s3 w3 e3 q3
        exact l.nx ρ3 G3 σ3 η3 H3 (sAll.trans s3) w3 e3 q3
      · intro ρ3 G3 σ3 η3 H3 s3 w3 e3 q3
        exact ⟨ρ3, η3, G3, s12.trans s3, w3, e3, q3⟩
      · intro e3 ρ3 G3 σ3 cls od η3 H3 s3
        exact l.er e3 ρ3 G3 σ3 cls od η3 H3 (sAll.trans s3)
  · left
    refine ⟨i2 (by omega), ?_⟩
    rw [List.drop_eq_nil_of_le (by omega)] at q'
    exact l.nx ρ' G' σ' η' H' (s1.trans s') w' e' q'⟩

def whileN (c : TTd) (tb : TSd) (D : EndsD) : Nat → Rho → GS → Prop
  | 0, _, _ => False
  | n + 1, ρ, G => c ρ G (fun b G1 => if b = true then tb { D with nx := whileN c tb D n, ct := whileN c tb D n, bk := D.nx } ρ G1 else D.nx ρ G1) (fun e G1 => D.er e ρ G1)
def tWhileD (c : TTd) (tb : TSd) : TSd := fun D ρ G => ∃ n, whileN c tb D n ρ G
theorem psd_while {X : Cx} {E : St → XK} {c : Expr} {body : List Stmt} {tc : TTd} {tb : TSd} {pos : Pos} (hp : PassesOwn (model X.prog X.w) X.A X.env X.xe) (hc : PTd X E c tc) (hb : PSsd X E body tb) : PSd X E (.While c body [] pos) (tWhileD tc tb) :=
  ⟨PS.imp (ps_while hp hc.run hb.run) fun D σ H h => by
  obtain ⟨ρ, η, G, Dd, he, w, ⟨n, ht⟩, l⟩ := h
  refine ⟨fun m σ' H' => ∃ ρ' η' G', Stp η H η' H' ∧ W X.K X.mg η' G' H' ∧ EnvR X.K η' H' σ' ρ' ∧ whileN tc tb Dd m ρ' G', ⟨n, ρ, η, G, Stp.refl _ _, w, he, ht⟩, ?_⟩
  rintro m σ' H' ⟨ρ', η', G', s', w', e', q'⟩
  cases m with
  | zero => exact q'.elim
  | succ m =>
    refine ⟨ρ', η', G', _, _, e', w', q', fun b G1 η1 H1 s1 w1 q1 => ?_, ?_⟩
    · cases b with
      | true =>
        rw [if_pos rfl] at q1 ⊢
        refine ⟨fun σ2 H2 => ∃ ρ2 η2 G2, Stp η H η2 H2 ∧ W X.K X.mg η2 G2 H2 ∧ EnvR X.K η2 H2 σ2 ρ2 ∧ whileN tc tb Dd m ρ2 G2, ?_, ?_⟩
        · rintro σ2 H2 q2
          exact ⟨m, by omega, q2⟩
        · have sAll := s'.trans s1
          refine ⟨ρ', η1, G1, _, e'.step s1, w1, q1, ?_, l.rt.step sAll, ?_, ?_, ?_⟩
          · intro ρ3 G3 σ3 η3 H3 s3 w3 e3 q3
            exact ⟨ρ3, η3, G3, sAll.trans s3, w3, e3, q3⟩
          · intro ρ3 G3 σ3 η3 H3 s3 w3 e3 q3
            exact l.nx ρ3 G3 σ3 η3 H3 (sAll.trans s3) w3 e3 q3
          · intro ρ3 G3 σ3 η3 H3 s3 w3 e3 q3
            exact ⟨ρ3, η3, G3, sAll.trans s3, w3, e3, q3⟩
          · intro e3 ρ3 G3 σ3 cls od η3 H3 s3
            exact l.er e3 ρ3 G3 σ3 cls od η3 H3 (sAll.trans s3)
      | false =>
        rw [if_neg (by decide)] at q1 ⊢
        exact l.nx ρ' G1 σ' η1 H1 (s'.trans s1) w1 (e'.step s1) q1
    · exact (l.step s').le e'⟩

def startD (n : Nat) (ds : List D) : Rho := ds.map some ++ List.replicate (n - ds.length) none
theorem envR_start {K : PySem.W.Frag} {η : Eta} {H : Hp} {N : List Str} {ds : List D} {vs : List V} (r : RpL K η H ds vs) : EnvR K η H (L2.start N vs) (startD N.length ds) := by
  refine ⟨by simp [L2.start, startD, r.length], fun i d e => ?_⟩
  unfold startD at e
  by_cases hi : i < ds.length
  · rw [List.getElem?_append_left (by simpa using hi), List.getElem?_map] at e
    cases q : ds[i]? with
    | none => rw [q] at e; simp at e
    | some x =>
      rw [q] at e
      simp at e
      subst e
      obtain ⟨v, hv, hr⟩ := r.get q
      refine ⟨v, ?_, hr⟩
      unfold L2.start
      rw [List.getElem?_append_left (by rw [List.length_map]; exact (List.getElem?_eq_some_iff.mp hv).1), List.getElem?_map, hv]
      rfl
  · rw [List.getElem?_append_right (by simpa using Nat.le_of_not_lt hi)] at e
    have := List.mem_of_getElem? e
    have := List.eq_of_mem_replicate this
    cases this
def belowE (n : Nat) (e : Er) : Prop := ∀ f d, e.arg = some (f, d) → below n d = true
/-- no older thing is written; what is made is dropped -/
def GrewFrom (G G' : GS) : Prop := ∃ L, G' = G ++ L
def endsF (G : GS) (Qd : QD) (Ed : QE) : EndsD where
  nx := fun _ G' => GrewFrom G G' ∧ Qd .non G
  rt := fun d G' => GrewFrom G G' ∧ below G.length d = true ∧ Qd d G
  er := fun e _ G' => GrewFrom G G' ∧ belowE G.length e ∧ Ed e G
section
variable {K : PySem.W.Frag} {mg : Str → Option Value} {η η' : Eta} {H H' : Hp} {G G' : GS} {L : GS}
/-- the numbers in older things are old -/
theorem Rp.below : ∀ (d : D) (v : V), Rp K η H d v → Y.below η.o.length d = true := by
  intro d
  induction d using D.rec (motive_2 := fun ds => ∀ vs, RpL K η H ds vs → belowL η.o.length ds = true) with
  | non => intro v h; rfl
  | bl b => intro v h; rfl
  | int i => intro v h; rfl
  | str s => intro v h; rfl
  | tup ds ih => intro v h; obtain ⟨a, vs, _, _, r⟩ := h; exact ih vs r
  | lst ds ih => intro v h; obtain ⟨a, vs, _, _, _, r⟩ := h; exact ih vs r
  | obj k =>
    intro v h
    obtain ⟨a, _, h⟩ := h
    have : k < η.o.length := by rcases h with h | h <;> exact (List.getElem?_eq_some_iff.mp h).1
    exact decide_eq_true this
  | dct => intro v h; rfl
  | scr ns => intro v h; rfl
  | key ns => intro v h; rfl
  | exn a dd f d ih => intro v h; obtain ⟨e, u, hd, r⟩ := h; exact ih u r
  | nil => intros; rfl
  | cons d ds i1 i2 =>
    rename_i vs h
    obtain ⟨v, r, e, h1, h2⟩ := h
    show (Y.below η.o.length d && belowL η.o.length ds) = true
    rw [i1 v h1, i2 r h2]; rfl
theorem RpL.below : ∀ (ds : List D) (vs : List V), RpL K η H ds vs → belowL η.o.length ds = true
  | [], _, _ => rfl
  | d :: ds, vs, h => by
    obtain ⟨v, r, e, h1, h2⟩ := h
    show (Y.below η.o.length d && belowL η.o.length ds) = true
    rw [Rp.below d v h1, RpL.below ds r h2]; rfl
theorem FsR.below : ∀ (ds : List (Str × D)) (vs : List (Str × V)), FsR K η H ds vs → belowL η.o.length (ds.map (·.2)) = true
  | [], _, _ => rfl
  | (f, d) :: ds, vs, h => by
    obtain ⟨v, r, e, h1, h2⟩ := h
    show (Y.below η.o.length d && belowL η.o.length (ds.map (·.2))) = true
    rw [Rp.below d v h1, FsR.below ds r h2]; rfl
theorem W.grew (w : W K mg η G H) (w' : W K mg η' (G ++ L) H') (s : Stp η H η' H') : W K mg (η'.cut η.o.length) G H' := by
  have hall : ((G ++ L).take η.o.length).all (belowM η.o.length) = true := by
    rw [w.len, List.take_left' rfl, List.all_eq_true]
    intro m hm
    obtain ⟨k, hk⟩ := List.mem_iff_getElem?.mp hm
    have q := w.at_ k m hk
    rw [← w.len]
    cases m with
    | dead => rfl
    | lst ds => obtain ⟨a, vs, _, _, r⟩ := q; exact RpL.below ds vs r
    | rnd => rfl
    | dic kvs => rfl
    | dik kvs => rfl
    | dil u kvs => rfl
    | exc c => rfl
    | exi c f d => obtain ⟨a, C, dx, v, _, _, _, _, _, r⟩ := q; exact Rp.below d v r
    | ins c fs => obtain ⟨a, C, dx, vs, _, _, _, r⟩ := q; exact FsR.below fs vs r
  have := w'.cut (n := η.o.length) hall
  rw [w.len, List.take_left' rfl, ← w.len] at this
  exact this
end
theorem fnD {P : Program} {w : World} {K : PySem.W.Frag} {mg : Str → Option Value} {base : Heap} {x qual : Str} {st : Stmt} {f : Addr} {fd : FuncData} {N ps : List Str} {k : Nat} {sp : SpD} {t : TSd} (F : Fun K x qual st f fd) (S : FnScope N ps (defScope st))
    (len : ∀ ds G Q E, sp ds G Q E → ds.length = ps.length)
    (hbody : ∀ (cdv : Value) (A : Around) (outer : List Env) (s : Shared) (H : Hp) (E : XK), Room k (A.deeper (envOfC qual (defScope st) s.heap.objs.size f cdv)) →
      PSsd (cxOf (L2.CX P w) P w K mg base N qual (defScope st) f cdv A outer s H E) (fun _ => E) (defBody st) t)
    (sem : ∀ ds G Q E, sp ds G Q E → t (endsF G Q E) (startD N.length ds) G) : FnOk P w K mg base (L2.CX P w) (k + 1) f fd ps (liftSp K mg sp) := by
  refine F.okX S (fun vs H Q E h => ?_) fun cdv A outer s H vs Q E hr h => ⟨_, (hbody cdv A outer s H E hr).run, ?_⟩
  · obtain ⟨ds, η, G, Qd, Ed, r, _, h, _⟩ := h
    rw [← r.length]; exact len _ _ _ _ h
  · obtain ⟨ds, η, G, Qd, Ed, r, w0, h, hq, hE⟩ := h
    refine ⟨_, η, G, endsF G Qd Ed, envR_start r, w0, sem ds G Qd Ed h, ?_, ?_, ?_, ?_, ?_⟩
    · rintro ρ' G' σ' η' H' s' w' e' ⟨⟨L, rfl⟩, q⟩
      exact hq .non G .non _ _ s'.cut (w0.grew w' s') rfl q
    · rintro d G' v η' H' s' w' r' ⟨⟨L, rfl⟩, b, q⟩
      rw [← w0.len] at b
      exact hq d G v _ _ s'.cut (w0.grew w' s') (Rp.cut d v b r') q
    · intro ρ' G' σ' η' H' s' w' e' q; exact q.elim
    · intro ρ' G' σ' η' H' s' w' e' q; exact q.elim
    · rintro e ρ' G' σ' cls od η' H' s' w' e' r' ⟨⟨L, rfl⟩, b, q⟩
      refine hE e G cls od _ _ s'.cut (w0.grew w' s') ?_ q
      obtain ⟨C, h1, h2, h3⟩ := r'
      refine ⟨C, h1, h2, fun f d ea => ?_⟩
      obtain ⟨dd, v, e1, e2, r2⟩ := h3 f d ea
      have b' := b f d ea
      rw [← w0.len] at b'
      exact ⟨dd, v, e1, e2, Rp.cut d v b' r2⟩
end Y

namespace Y
open PySem PySem.Spec L2
open PyProof.Rows hiding St

mutual
def toPy : D → PyData
  | .non => .none
  | .bl b => .bool b
  | .int i => .int i
  | .str s => .str s
  | .tup ds => .tuple (toPyL ds)
  | .lst ds => .list (toPyL ds)
  | .obj _ => .none
  | .dct => .none
  | .scr _ => .none
  | .key _ => .none
  | .exn _ _ _ _ => .none
def toPyL : List D → List PyData
  | [] => []
  | d :: ds => toPy d :: toPyL ds
end
mutual
def noObj : D → Bool
  | .tup ds => noObjL ds
  | .lst ds => noObjL ds
  | .obj _ => false
  | .dct => false
  | .scr _ => false
  | .key _ => false
  | .exn _ _ _ _ => false
  | _ => true
def noObjL : List D → Bool
  | [] => true
  | d :: ds => noObj d && noObjL ds
end
/-- a numbered list as the list that it is now -/
def vw (G : GS) : D → D
  | .obj k => match G[k]? with | some (.lst ds) => .lst ds | _ => .obj k
  | d => d
def okD (d : D) : Bool := noObj d && SeqAt.shaped (toPy d)
def eqD (a b : D) : Bool := PyData.eqv (toPy a) (toPy b)
theorem toPyL_map (ds : List D) : toPyL ds = ds.map toPy := by
  induction ds with
  | nil => rfl
  | cons d ds ih => simp [toPyL, ih]
section
variable {K : PySem.W.Frag} {mg : Str → Option Value} {η : Eta} {H : Hp} {G : GS}
mutual
theorem Rp.dp : ∀ (d : D) (v : V), noObj d = true → Rp K η H d v → Dp K H v (toPy d)
  | .non, v, _, h => by cases (show v = .non from h); exact .non
  | .bl b, v, _, h => by cases (show v = .bl b from h); exact .bl b
  | .int i, v, _, h => by cases (show v = .int i from h); exact .int i
  | .str s, v, _, h => by cases (show v = .str s from h); exact .str s
  | .tup ds, v, n, h => by
    obtain ⟨a, vs, e, ht, hr⟩ := h
    subst e
    exact .tup ht (RpL.dp ds vs n hr)
  | .lst ds, v, n, h => by
    obtain ⟨a, vs, e, _, hl, hr⟩ := h
    subst e
    exact .lst (SqL.of hl) (RpL.dp ds vs n hr)
  | .obj k, v, n, h => by cases n
  | .dct, v, n, h => by cases n
  | .scr _, v, n, h => by cases n
  | .key _, v, n, h => by cases n
  | .exn _ _ _ _, v, n, h => by cases n
theorem RpL.dp : ∀ (ds : List D) (vs : List V), noObjL ds = true → RpL K η H ds vs → DpAll K H vs (toPyL ds)
  | [], _, _, h => by cases h; exact .nil
  | d :: ds, vs, n, h => by
    obtain ⟨v, r, e, h1, h2⟩ := h
    subst e
    have n' : noObj d = true ∧ noObjL ds = true := by
      have : (noObj d && noObjL ds) = true := n
      simpa using this
    exact .cons (Rp.dp d v n'.1 h1) (RpL.dp ds r n'.2 h2)
end
theorem vw_obj {k : Nat} : (∃ ds, G[k]? = some (.lst ds) ∧ vw G (.obj k) = .lst ds) ∨ vw G (.obj k) = .obj k := by
  cases h : G[k]? with
  | none => right; simp only [vw, h]
  | some m => cases m with
    | lst ds => left; exact ⟨ds, rfl, by simp only [vw, h]⟩
    | _ => right; simp only [vw, h]
theorem vw_dp (w : W K mg η G H) {d : D} {v : V} (n : noObj (vw G d) = true) (r : Rp K η H d v) : Dp K H v (toPy (vw G d)) := by
  cases d with
  | obj k =>
    rcases vw_obj (G := G) (k := k) with ⟨ds, hk, e⟩ | e
    · rw [e] at n ⊢
      obtain ⟨a, vs, e1, e2, r2⟩ := w.at_ k _ hk
      obtain ⟨b, rfl, h⟩ := r
      rw [e1] at h
      have : b = a := by
        rcases h with h | h
        · cases h; rfl
        · cases h
      subst this
      exact .lst (SqL.of e2) (RpL.dp ds vs n r2)
    · rw [e] at n; cases n
  | _ => exact Rp.dp _ _ n r
theorem okD_and {d : D} (h : okD d = true) : noObj d = true ∧ SeqAt.shaped (toPy d) = true := by
  have : (noObj d && SeqAt.shaped (toPy d)) = true := h
  simpa using this
end

theorem LQ.nb {K : PySem.W.Frag} {mg : Str → Option Value} {η : Eta} {H : Hp} {G : GS} {Qd : QD} {Q : VK} (h : LQ K mg η H Qd Q) {b : Bool} (w : W K mg η G H) (q : Qd (.bl b) G) : Q (.bl b) H := h.now (d := .bl b) w rfl q
theorem LQ.ni {K : PySem.W.Frag} {mg : Str → Option Value} {η : Eta} {H : Hp} {G : GS} {Qd : QD} {Q : VK} (h : LQ K mg η H Qd Q) {b : Int} (w : W K mg η G H) (q : Qd (.int b) G) : Q (.int b) H := h.now (d := .int b) w rfl q
theorem LQ.ns {K : PySem.W.Frag} {mg : Str → Option Value} {η : Eta} {H : Hp} {G : GS} {Qd : QD} {Q : VK} (h : LQ K mg η H Qd Q) {b : Str} (w : W K mg η G H) (q : Qd (.str b) G) : Q (.str b) H := h.now (d := .str b) w rfl q
theorem LQ.nn {K : PySem.W.Frag} {mg : Str → Option Value} {η : Eta} {H : Hp} {G : GS} {Qd : QD} {Q : VK} (h : LQ K mg η H Qd Q) (w : W K mg η G H) (q : Qd .non G) : Q .non H := h.now (d := .non) w rfl q
def rEqD : R2d := fun x y G Q => okD (vw G x) = true ∧ okD (vw G y) = true ∧ Q (.bl (eqD (vw G x) (vw G y))) G
def rNeD : R2d := fun x y G Q => okD (vw G x) = true ∧ okD (vw G y) = true ∧ Q (.bl (!eqD (vw G x) (vw G y))) G
def flatD : D → Bool
  | .non => true
  | .bl _ => true
  | .int _ => true
  | .str _ => true
  | _ => false
def inL (x : D) (ds : List D) : Bool := ds.any fun z => eqD z x
def inOk (x : D) (ds : List D) : Bool := flatD x && ds.all flatD
def rInD : R2d := fun x y G Q => match itemsD G y with
  | some ds => inOk x ds = true ∧ Q (.bl (inL x ds)) G
  | none => match x, y with
    | .str a, .str b => ∃ c, a = ⟨#[c]⟩ ∧ Q (.bl (decide (c ∈ b.cps.toList))) G
    | _, _ => False
def rNotInD : R2d := fun x y G Q => match itemsD G y with
  | some ds => inOk x ds = true ∧ Q (.bl (!inL x ds)) G
  | none => False
theorem eqV_eqD {K : PySem.W.Frag} {η : Eta} {H : Hp} {d e : D} {v u : V} (r : Rp K η H d v) (q : Rp K η H e u) (f : flatD d = true) (g : flatD e = true) : eqV v u = eqD d e := by
  cases d with
  | tup _ => simp [flatD] at f
  | lst _ => simp [flatD] at f
  | obj _ => simp [flatD] at f
  | dct => simp [flatD] at f
  | scr _ => simp [flatD] at f
  | key _ => simp [flatD] at f
  | exn _ _ _ _ => simp [flatD] at f
  | _ =>
    cases (show v = _ from r)
    cases e with
    | tup _ => simp [flatD] at g
    | lst _ => simp [flatD] at g
    | obj _ => simp [flatD] at g
    | dct => simp [flatD] at g
    | scr _ => simp [flatD] at g
    | key _ => simp [flatD] at g
    | exn _ _ _ _ => simp [flatD] at g
    | _ => cases (show u = _ from q); rfl
theorem flat_of {K : PySem.W.Frag} {η : Eta} {H : Hp} {d : D} {v : V} (r : Rp K η H d v) (f : flatD d = true) : flatV v = true := by
  cases d with
  | tup _ => simp [flatD] at f
  | lst _ => simp [flatD] at f
  | obj _ => simp [flatD] at f
  | dct => simp [flatD] at f
  | scr _ => simp [flatD] at f
  | key _ => simp [flatD] at f
  | exn _ _ _ _ => simp [flatD] at f
  | _ => cases (show v = _ from r); rfl
theorem inV_inL {K : PySem.W.Frag} {η : Eta} {H : Hp} {x : D} {u : V} (rx : Rp K η H x u) (fx : flatD x = true) : ∀ {ds : List D} {vs : List V}, RpL K η H ds vs → ds.all flatD = true → vs.all flatV = true ∧ inV u vs = inL x ds
  | [], _, h, _ => by cases h; exact ⟨rfl, rfl⟩
  | d :: ds, vs, h, f => by
    obtain ⟨v, r, e, h1, h2⟩ := h
    subst e
    have f' : flatD d = true ∧ ds.all flatD = true := by simpa using f
    obtain ⟨a, b⟩ := inV_inL rx fx h2 f'.2
    refine ⟨by simp only [List.all_cons, a, flat_of h1 f'.1]; rfl, ?_⟩
    have b' : (r.any fun y => eqV y u) = inL x ds := b
    show ((v :: r).any fun y => eqV y u) = ((d :: ds).any fun z => eqD z x)
    rw [List.any_cons, List.any_cons, b', eqV_eqD h1 rx f'.1 fx]; rfl
section
variable {X : Cx}
theorem lift_eq : LiftR X (L2.rEqD X.K) rEqD := fun η G H x y dx dy Q Qd w rx ry h hq => by
  obtain ⟨h1, h2, q⟩ := h
  exact ⟨_, _, vw_dp w (okD_and h1).1 rx, vw_dp w (okD_and h2).1 ry, (okD_and h1).2, (okD_and h2).2, hq.nb w q⟩
theorem lift_ne : LiftR X (L2.rNeD X.K) rNeD := fun η G H x y dx dy Q Qd w rx ry h hq => by
  obtain ⟨h1, h2, q⟩ := h
  exact ⟨_, _, vw_dp w (okD_and h1).1 rx, vw_dp w (okD_and h2).1 ry, (okD_and h1).2, (okD_and h2).2, hq.nb w q⟩
abbrev hIn (X : Cx) : R2 := fun x y H Q => L2.rIn X.K false x y H Q ∨ (∃ (c : Nat) (z : Str), x = .str ⟨#[c]⟩ ∧ y = .str z ∧ Q (.bl (decide (c ∈ z.cps.toList))) H)
theorem oIn : OpR X (compareOp .In) (hIn X) := OpR.or op_in_seq op_in_sign
theorem lift_in : LiftR X (hIn X) rInD := fun η G H x y dx dy Q Qd w rx ry h hq => by
  unfold rInD at h
  split at h
  · rename_i ds e
    left
    obtain ⟨a, vs, rfl, hs, hr⟩ := itemsD_ok w ry e
    have f : flatD dx = true ∧ ds.all flatD = true := by simpa [inOk] using h.1
    obtain ⟨b1, b2⟩ := inV_inL rx f.1 hr f.2
    exact ⟨a, vs, rfl, hs.symm, flat_of rx f.1, b1, by rw [if_neg (by decide), b2]; exact hq.nb w h.2⟩
  · right
    split at h
    · obtain ⟨c, rfl, q⟩ := h
      exact ⟨c, _, rx, ry, hq.nb w q⟩
    · exact h.elim
theorem lift_notIn : LiftR X (L2.rIn X.K true) rNotInD := fun η G H x y dx dy Q Qd w rx ry h hq => by
  unfold rNotInD at h
  split at h
  · rename_i ds e
    obtain ⟨a, vs, rfl, hs, hr⟩ := itemsD_ok w ry e
    have f : flatD dx = true ∧ ds.all flatD = true := by simpa [inOk] using h.1
    obtain ⟨b1, b2⟩ := inV_inL rx f.1 hr f.2
    exact ⟨a, vs, rfl, hs.symm, flat_of rx f.1, b1, by rw [if_pos rfl, b2]; exact hq.nb w h.2⟩
  · exact h.elim

def rIntD (C : Int → Int → Prop) (f : Int → Int → D) : R2d := fun x y G Q => match x, y with | .int i, .int j => C i j ∧ Q (f i j) G | _, _ => False
def rInt0D (f : Int → Int → D) : R2d := fun x y G Q => match x, y with | .int i, .int j => Q (f i j) G | _, _ => False
theorem lift_I {C C' : Int → Int → Prop} {f : Int → Int → D} {g : Int → Int → V} (hc : ∀ i j, C i j → C' i j) (hf : ∀ i j K η H, Rp K η H (f i j) (g i j)) : LiftR X (rI C' g) (rIntD C f) := fun η G H x y dx dy Q Qd w rx ry h hq => by
  unfold rIntD at h
  split at h
  · rename_i i j
    exact ⟨i, j, rx, ry, hc i j h.1, hq.now w (hf i j _ _ _) h.2⟩
  · exact h.elim
theorem lift_I0 {f : Int → Int → D} {g : Int → Int → V} (hf : ∀ i j K η H, Rp K η H (f i j) (g i j)) : LiftR X (rI0 g) (rInt0D f) := fun η G H x y dx dy Q Qd w rx ry h hq => by
  unfold rInt0D at h
  split at h
  · rename_i i j
    exact ⟨i, j, rx, ry, hq.now w (hf i j _ _ _) h⟩
  · exact h.elim
def rSubD : R2d := rInt0D fun i j => .int (i - j)
theorem lift_sub : LiftR X (rI0 fun i j => .int (i - j)) rSubD := lift_I0 fun _ _ _ _ _ => rfl
def rModD : R2d := rIntD (fun _ j => 0 < j) fun i j => .int (i % j)
theorem lift_mod : LiftR X (rI (fun _ j => 0 < j) fun i j => .int (i % j)) rModD := lift_I (fun _ _ h => h) fun _ _ _ _ _ => rfl
/-- a factor below 2^64, or both together below a million bits -/
def MulOk (i j : Int) : Prop := CMul i j ∨ CMulW i j
abbrev hMul : R2 := fun x y H Q => rI CMul (fun i j => .int (i * j)) x y H Q ∨ rI CMulW (fun i j => .int (i * j)) x y H Q
theorem oMul : OpR X (binaryOp .Mult) hMul := OpR.or op_mul op_mulW
def rMulD : R2d := rIntD MulOk fun i j => .int (i * j)
theorem lift_mul : LiftR X hMul rMulD := fun η G H x y dx dy Q Qd w rx ry h hq => by
  unfold rMulD rIntD at h
  split at h
  · rename_i i j
    rcases h.1 with c | c
    · exact .inl ⟨i, j, rx, ry, c, hq.ni w h.2⟩
    · exact .inr ⟨i, j, rx, ry, c, hq.ni w h.2⟩
  · exact h.elim
def DivOk (i j : Int) : Prop := CDiv i j ∨ CDivW i j
abbrev hDiv : R2 := fun x y H Q => rI CDiv (fun i j => .int (i / j)) x y H Q ∨ rI CDivW (fun i j => .int (i / j)) x y H Q
theorem oDiv : OpR X (binaryOp .FloorDiv) hDiv := OpR.or op_fdiv op_fdivW
def rDivD : R2d := rIntD DivOk fun i j => .int (i / j)
theorem lift_div : LiftR X hDiv rDivD := fun η G H x y dx dy Q Qd w rx ry h hq => by
  unfold rDivD rIntD at h
  split at h
  · rename_i i j
    rcases h.1 with c | c
    · exact .inl ⟨i, j, rx, ry, c, hq.ni w h.2⟩
    · exact .inr ⟨i, j, rx, ry, c, hq.ni w h.2⟩
  · exact h.elim
def rPowD : R2d := rIntD CPow fun i j => .int (i ^ j.toNat)
theorem lift_pow : LiftR X (rI CPow fun i j => .int (i ^ j.toNat)) rPowD := lift_I (fun _ _ h => h) fun _ _ _ _ _ => rfl
def rLtD : R2d := rInt0D fun i j => .bl (decide (i < j))
theorem lift_lt : LiftR X (rI0 fun i j => .bl (decide (i < j))) rLtD := lift_I0 fun _ _ _ _ _ => rfl
def rGtD : R2d := rInt0D fun i j => .bl (decide (j < i))
theorem lift_gt : LiftR X (rI0 fun i j => .bl (decide (j < i))) rGtD := lift_I0 fun _ _ _ _ _ => rfl
def rGeD : R2d := rInt0D fun i j => .bl (decide (j ≤ i))
theorem lift_ge : LiftR X (rI0 fun i j => .bl (decide (j ≤ i))) rGeD := lift_I0 fun _ _ _ _ _ => rfl
def rLeD : R2d := rInt0D fun i j => .bl (decide (i ≤ j))
theorem lift_le : LiftR X (rI0 fun i j => .bl (decide (i ≤ j))) rLeD := lift_I0 fun _ _ _ _ _ => rfl

/-- + of ints, texts, tuples, lists -/
def rAddD : R2d := fun x y G Q => match x, y with
  | .int i, .int j => Q (.int (i + j)) G
  | .str a, .str b => a.length + b.length ≤ 16777216 ∧ Q (.str (a ++ b)) G
  | .tup a, .tup b => a.length + b.length ≤ 16777216 ∧ Q (.tup (a ++ b)) G
  | x, y => match vw G x, vw G y with | .lst a, .lst b => a.length + b.length ≤ 16777216 ∧ Q (.lst (a ++ b)) G | _, _ => False
/-- + of lists, where the sum will change -/
def rAddOD : R2d := fun x y G Q => match vw G x, vw G y with | .lst a, .lst b => a.length + b.length ≤ 16777216 ∧ Q (.obj G.length) (G ++ [.lst (a ++ b)]) | _, _ => False
abbrev hAdd (X : Cx) : R2 := fun x y H Q => rI0 (fun i j => .int (i + j)) x y H Q ∨ ((∃ i j, x = .str i ∧ y = .str j ∧ i.length + j.length ≤ sizeLine ∧ Q (.str (i ++ j)) H) ∨ (rCatA X.K x y H Q ∨ rCat x y H Q))
theorem oAdd : OpR X (binaryOp .Add) (hAdd X) := OpR.or op_add (OpR.or op_add_str (OpR.or op_catA op_cat))
theorem vw_lst {K : PySem.W.Frag} {mg : Str → Option Value} {η : Eta} {G : GS} {H : Hp} (w : W K mg η G H) {d : D} {v : V} {ds : List D} (r : Rp K η H d v) (e : vw G d = .lst ds) :
    ∃ a vs, v = .ref a ∧ H a = some (.lst vs) ∧ RpL K η H ds vs := by
  cases d with
  | lst xs =>
    obtain ⟨a, vs, e1, _, ht, hr⟩ := r
    cases e
    exact ⟨a, vs, e1, ht, hr⟩
  | obj k =>
    rcases vw_obj (G := G) (k := k) with ⟨xs, hk, e'⟩ | e'
    · rw [e'] at e
      cases e
      obtain ⟨a, vs, e1, e2, r2⟩ := w.at_ k _ hk
      obtain ⟨b, rfl, h⟩ := r
      rw [e1] at h
      have : b = a := by
        rcases h with h | h
        · cases h; rfl
        · cases h
      subst this
      exact ⟨b, vs, rfl, e2, r2⟩
    · rw [e'] at e; cases e
  | _ => cases e
theorem lift_addL {K : PySem.W.Frag} {mg : Str → Option Value} {η : Eta} {G : GS} {H : Hp} {x y : V} {dx dy : D} {Q : VK} (w : W K mg η G H) (rx : Rp K η H dx x) (ry : Rp K η H dy y) {a b : List D} (e1 : vw G dx = .lst a) (e2 : vw G dy = .lst b)
    (h1 : a.length + b.length ≤ 16777216) (h2 : ∀ vs p, RpL K η H (a ++ b) vs → H p = none → Q (.ref p) (upd H p (.lst vs))) : rCat x y H Q := by
  obtain ⟨p, vs, rfl, hp, hr⟩ := vw_lst w rx e1
  obtain ⟨q, us, rfl, hq, hs⟩ := vw_lst w ry e2
  exact ⟨p, q, vs, us, rfl, rfl, hp, hq, line_eq (by rw [← hr.length, ← hs.length]; exact h1), fun p' hp' => h2 _ p' (RpL.append hr hs) hp'⟩
theorem lift_add : LiftR X (hAdd X) rAddD := fun η G H x y dx dy Q Qd w rx ry h hq => by
  unfold rAddD at h
  split at h
  · rename_i i j
    exact .inl ⟨i, j, rx, ry, hq.ni w h⟩
  · rename_i a b
    exact .inr (.inl ⟨a, b, rx, ry, line_eq h.1, hq.ns w h.2⟩)
  · rename_i a b
    obtain ⟨p, vs, rfl, hp, hr⟩ := rx
    obtain ⟨q, us, rfl, hq', hs⟩ := ry
    have l1 := hr.length
    have l2 := hs.length
    refine .inr (.inr (.inl ⟨p, q, vs, us, rfl, rfl, hp, hq', line_eq (by omega), fun e => ?_, fun e1 e2 => ?_, fun e1 e2 p' hp' => ?_⟩))
    · subst e
      have : a = [] := by cases a with | nil => rfl | cons _ _ => simp at l1
      subst this
      exact hq.now (d := .tup b) w ⟨q, us, rfl, hq', hs⟩ h.2
    · subst e2
      have : b = [] := by cases b with | nil => rfl | cons _ _ => simp at l2
      subst this
      rw [List.append_nil] at h
      exact hq.now (d := .tup a) w ⟨p, vs, rfl, hp, hr⟩ h.2
    · exact hq.newT w hp' (RpL.append hr hs) h.2
  · split at h
    · rename_i a b e1 e2
      exact .inr (.inr (.inr (lift_addL w rx ry e1 e2 h.1 fun vs p r hp => hq.newL w hp r h.2)))
    · exact h.elim
theorem lift_addO : LiftR X (hAdd X) rAddOD := fun η G H x y dx dy Q Qd w rx ry h hq => by
  unfold rAddOD at h
  split at h
  · rename_i a b e1 e2
    exact .inr (.inr (.inr (lift_addL w rx ry e1 e2 h.1 fun vs p r hp => hq.newO w hp r h.2)))
  · exact h.elim

def isNonD : D → Bool
  | .non => true
  | _ => false
def rIsD : R2d := fun x y G Q => match y with
  | .non => Q (.bl (isNonD x)) G
  | .bl b => match x with | .bl a => Q (.bl (a == b)) G | _ => False
  | _ => False
def rIsNotD : R2d := fun x y G Q => match y with
  | .non => Q (.bl (!isNonD x)) G
  | .bl b => match x with | .bl a => Q (.bl (!(a == b))) G | _ => False
  | _ => False
abbrev hIs : R2 := fun x y H Q => (y = .non ∧ Q (.bl (decide (x = .non))) H) ∨ (∃ a b, x = .bl a ∧ y = .bl b ∧ Q (.bl (decide (a = b))) H)
abbrev hIsNot : R2 := fun x y H Q => (y = .non ∧ Q (.bl (!decide (x = .non))) H) ∨ (∃ a b, x = .bl a ∧ y = .bl b ∧ Q (.bl (!decide (a = b))) H)
theorem oIs : OpR X (compareOp .Is) hIs := OpR.or op_isN op_is_bl
theorem oIsNot : OpR X (compareOp .IsNot) hIsNot := OpR.or op_notN op_isnot_bl
theorem isNon_of {K : PySem.W.Frag} {η : Eta} {H : Hp} {d : D} {v : V} (r : Rp K η H d v) : decide (v = .non) = isNonD d := by
  cases d with
  | tup ds => obtain ⟨a, vs, rfl, _⟩ := r; rfl
  | lst ds => obtain ⟨a, vs, rfl, _⟩ := r; rfl
  | obj k => obtain ⟨a, rfl, _⟩ := r; rfl
  | dct => obtain ⟨a, rfl, _⟩ := r; rfl
  | scr _ => obtain ⟨a, rfl, _⟩ := r; rfl
  | key _ => obtain ⟨a, rfl, _⟩ := r; rfl
  | exn _ _ _ _ => obtain ⟨rfl, _⟩ := r; rfl
  | _ => cases r; rfl
theorem lift_is : LiftR X hIs rIsD := fun η G H x y dx dy Q Qd w rx ry h hq => by
  unfold rIsD at h
  split at h
  · exact .inl ⟨ry, by rw [isNon_of rx]; exact hq.nb w h⟩
  · rename_i b
    split at h
    · rename_i a
      refine .inr ⟨a, b, rx, ry, ?_⟩
      refine hq.now (d := .bl (a == b)) w ?_ h
      show V.bl (decide (a = b)) = V.bl (a == b)
      rw [Bool.beq_eq_decide_eq]
    · exact h.elim
  · exact h.elim
theorem lift_isNot : LiftR X hIsNot rIsNotD := fun η G H x y dx dy Q Qd w rx ry h hq => by
  unfold rIsNotD at h
  split at h
  · refine .inl ⟨ry, ?_⟩
    rw [isNon_of rx]
    exact hq.nb w h
  · rename_i b
    split at h
    · rename_i a
      refine .inr ⟨a, b, rx, ry, ?_⟩
      refine hq.now (d := .bl (!(a == b))) w ?_ h
      show V.bl (!decide (a = b)) = V.bl (!(a == b))
      rw [Bool.beq_eq_decide_eq]
    · exact h.elim
  · exact h.elim

def charD (s : Str) (i : Int) (Q : D → Prop) : Prop := s.length ≤ 16777216 ∧ match atI s.cps.toList i with | some c => Q (.str ⟨#[c]⟩) | none => False
def rIxD : R2d := fun x y G Q => match y with
  | .int i => match itemsD G x with
    | some ds => match atI ds i with | some d => Q d G | none => False
    | none => match x with | .str s => charD s i (fun d => Q d G) | _ => False
  | _ => False
theorem atI_rp {K : PySem.W.Frag} {η : Eta} {H : Hp} {ds : List D} {vs : List V} (r : RpL K η H ds vs) {i : Int} {d : D} (e : atI ds i = some d) : ∃ v, atI vs i = some v ∧ Rp K η H d v := by
  unfold atI at e ⊢
  rw [← r.length]
  cases q : ixN ds.length i with
  | none => rw [q] at e; simp at e
  | some j =>
    rw [q] at e
    simp only [Option.bind_some] at e ⊢
    exact r.get e
theorem lift_ix : ∀ (η : Eta) (G : GS) (H : Hp) (x y : V) (dx dy : D) (Q : VK) (Qd : QD), W X.K X.mg η G H → Rp X.K η H dx x → Rp X.K η H dy y → rIxD dx dy G Qd → LQ X.K X.mg η H Qd Q → rIx X.K x y H Q := fun η G H x y dx dy Q Qd w rx ry h hq => by
  unfold rIxD at h
  split at h
  · rename_i i
    split at h
    · rename_i ds e
      split at h
      · rename_i d ea
        obtain ⟨a, vs, rfl, hs, hr⟩ := itemsD_ok w rx e
        obtain ⟨v, e1, r1⟩ := atI_rp hr ea
        rcases hs with hs | hs
        · exact .inr (.inl ⟨a, vs, i, v, rfl, ry, hs, e1, hq.now w r1 h⟩)
        · exact .inl ⟨a, vs, i, v, rfl, ry, hs, e1, hq.now w r1 h⟩
      · exact h.elim
    · split at h
      · rename_i s _
        obtain ⟨h0, h⟩ := h
        split at h
        · rename_i c ec
          exact .inr (.inr ⟨s, i, c, rx, ry, line_eq h0, ec, hq.ns w h⟩)
        · exact h.elim
      · exact h.elim
  · exact h.elim
theorem ped_ix {E : St → XK} {a b : Expr} {ta tb : TEd} {pos : Pos} (ha : PEd X E a ta) (hb : PEd X E b tb) (hs : PlainIx b := by intro _ _; rfl) : PEd X E (.Subscript a b pos) (tOpD rIxD ta tb) :=
  ⟨PE.imp (pe_ix ix_seq ha.run hb.run hs) fun _ _ _ h => lift2 (rH := rIx X.K) lift_ix h⟩

abbrev TOd := Rho → GS → (Option Int → GS → Prop) → QE → Prop
def lO (K : PySem.W.Frag) (mg : Str → Option Value) (E : St → XK) (t : TOd) : TO := fun σ H Q =>
  ∃ (ρ : Rho) (η : Eta) (G : GS) (Qd : Option Int → GS → Prop) (Ed : QE), EnvR K η H σ ρ ∧ W K mg η G H ∧ t ρ G Qd Ed ∧
    (∀ b G' η' H', Stp η H η' H' → W K mg η' G' H' → Qd b G' → Q b H') ∧ LE K mg η H Ed (E σ)
structure POd (X : Cx) (E : St → XK) (e : Option Expr) (t : TOd) : Prop where run : PO X e (lO X.K X.mg E t)
theorem PO.imp {e : Option Expr} {t t' : TO} (h : PO X e t) (i : ∀ σ H Q, t' σ H Q → t σ H Q) : PO X e t' := ⟨fun pins s σ H Q I q => h.run pins s σ H Q I (i σ H Q q)⟩
def tNoPartD : TOd := fun _ G Q _ => Q none G
def tPartD (t : TEd) : TOd := fun ρ G Q Ed => t ρ G (fun d G1 => match d with | .int i => Q (some i) G1 | _ => False) Ed
theorem pod_none {E : St → XK} : POd X E none tNoPartD := ⟨PO.imp po_none fun σ H Q h => by
  obtain ⟨ρ, η, G, Qd, Ed, he, w, ht, hq, hE⟩ := h
  exact hq none G η H (Stp.refl _ _) w ht⟩
theorem pod_some {E : St → XK} {e : Expr} {te : TEd} (h : PEd X E e te) : POd X E (some e) (tPartD te) := ⟨PO.imp (po_some h.run) fun σ H Q h => by
  obtain ⟨ρ, η, G, Qd, Ed, he, w, ht, hq, hE⟩ := h
  refine ⟨ρ, η, G, _, Ed, he, w, ht, fun d G1 v η1 H1 s1 w1 r1 q1 => ?_, hE⟩
  cases d with
  | int i => exact ⟨i, r1, hq _ G1 η1 H1 s1 w1 q1⟩
  | _ => exact q1.elim⟩
def cutD (ds : List D) (lo hi : Option Int) : List D := (ds.drop (HT.sIx ds.length 0 lo)).take (HT.sIx ds.length ds.length hi - HT.sIx ds.length 0 lo)
theorem cut_rp {K : PySem.W.Frag} {η : Eta} {H : Hp} {ds : List D} {vs : List V} (r : RpL K η H ds vs) (lo hi : Option Int) : RpL K η H (cutD ds lo hi) (cutV vs lo hi) := by
  unfold cutD cutV
  rw [← r.length]
  exact RpL.take _ (RpL.drop _ r)
def rSlD (x : D) (lo hi : Option Int) (G : GS) (Q : QD) : Prop := match x with
  | .tup ds => Q (.tup (cutD ds lo hi)) G
  | .str s => s.length ≤ 16777216 ∧ Q (.str (cutS s lo hi)) G
  | x => match vw G x with | .lst ds => Q (.lst (cutD ds lo hi)) G | _ => False
abbrev hSl (X : Cx) : V → Option Int → Option Int → Hp → VK → Prop := fun x lo hi H Q => rSlA X.K x lo hi H Q ∨ (rSlS x lo hi H Q ∨ rSlL X.K x lo hi H Q)
theorem oSl : SlR X (hSl X) := SlR.or sl_tupA (SlR.or sl_str sl_list)
def tSlD (te : TEd) (tl th : TOd) : TEd := fun ρ G Q Ed => te ρ G (fun x G1 => tl ρ G1 (fun l G2 => th ρ G2 (fun u G3 => rSlD x l u G3 Q) Ed) Ed) Ed
theorem lift_sl {η : Eta} {G : GS} {H : Hp} {x : V} {dx : D} {lo hi : Option Int} {Q : VK} {Qd : QD} (w : W X.K X.mg η G H) (rx : Rp X.K η H dx x) (h : rSlD dx lo hi G Qd) (hq : LQ X.K X.mg η H Qd Q) : hSl X x lo hi H Q := by
  unfold rSlD at h
  split at h
  · rename_i ds
    obtain ⟨a, vs, rfl, hs, hr⟩ := rx
    have l := hr.length
    refine .inl ⟨a, vs, rfl, hs, fun c => ?_, fun c p hp => hq.newT w hp (cut_rp hr lo hi) h⟩
    have e : cutD ds lo hi = ds := by
      unfold cutD
      rw [l, c.1, c.2, ← l]
      simp
    rw [e] at h
    exact hq.now (d := .tup ds) w ⟨a, vs, rfl, hs, hr⟩ h
  · rename_i s
    exact .inr (.inl ⟨s, rx, line_eq h.1, hq.ns w h.2⟩)
  · split at h
    · rename_i ds e
      obtain ⟨a, vs, rfl, hs, hr⟩ := vw_lst w rx e
      exact .inr (.inr ⟨a, vs, rfl, SqL.of hs, fun p hp => hq.newL w hp (cut_rp hr lo hi) h⟩)
    · exact h.elim
theorem ped_slice {E : St → XK} {e : Expr} {te : TEd} {lo hi : Option Expr} {tl th : TOd} {pos p2 : Pos} (he : PEd X E e te) (hl : POd X E lo tl) (hh : POd X E hi th) : PEd X E (.Subscript e (.Slice lo hi none p2) pos) (tSlD te tl th) :=
  ⟨PE.imp (pe_slice oSl he.run hl.run hh.run) fun σ H Q h => by
  obtain ⟨ρ, η, G, Qd, Ed, he, w, ht, hq, hE⟩ := h
  refine ⟨ρ, η, G, _, Ed, he, w, ht, fun x G1 v η1 H1 s1 w1 r1 q1 => ?_, hE⟩
  refine ⟨ρ, η1, G1, _, Ed, he.step s1, w1, q1, fun l G2 η2 H2 s2 w2 q2 => ?_, hE.step s1⟩
  refine ⟨ρ, η2, G2, _, Ed, he.step (s1.trans s2), w2, q2, fun u G3 η3 H3 s3 w3 q3 => ?_, hE.step (s1.trans s2)⟩
  exact lift_sl w3 (Rp.step (s2.trans s3) _ _ r1) q3 (hq.step (s1.trans (s2.trans s3)))⟩
end
end Y

namespace Y
open PySem PySem.Spec L2
open PyProof.Rows hiding St

section
variable {X : Cx}
theorem rpl1 {K : PySem.W.Frag} {η : Eta} {H : Hp} {d : D} {vs : List V} (h : RpL K η H [d] vs) : ∃ v, vs = [v] ∧ Rp K η H d v := by
  obtain ⟨v, r, e, h1, h2⟩ := h
  cases h2
  exact ⟨v, e, h1⟩
theorem rpl2 {K : PySem.W.Frag} {η : Eta} {H : Hp} {d e : D} {vs : List V} (h : RpL K η H [d, e] vs) : ∃ v u, vs = [v, u] ∧ Rp K η H d v ∧ Rp K η H e u := by
  obtain ⟨v, r, e, h1, h2⟩ := h
  obtain ⟨u, e2, h3⟩ := rpl1 h2
  subst e2
  exact ⟨v, u, e, h1, h3⟩
/-- len -/
def rLenD : List D → GS → QD → Prop := fun ds G Q => match ds with
  | [d] => match itemsD G d with
    | some xs => Q (.int xs.length) G
    | none => match d with | .str s => s.length ≤ 16777216 ∧ Q (.int s.length) G | _ => False
  | _ => False
theorem lift_len : LiftC X (fun xs H Q => ∃ x n, xs = [x] ∧ LenV X.K x H n ∧ Q (.int n) H) rLenD := fun η G H vs ds Q Qd w r h hq => by
  unfold rLenD at h
  split at h
  · rename_i d
    obtain ⟨v, rfl, r1⟩ := rpl1 r
    split at h
    · rename_i xs e
      obtain ⟨a, us, rfl, hs, hr⟩ := itemsD_ok w r1 e
      refine ⟨_, us.length, rfl, ?_, by rw [← hr.length]; exact hq.ni w h⟩
      rcases hs with hs | hs
      · exact .inr ⟨us, hs, rfl⟩
      · exact .inl ⟨us, hs, rfl⟩
    · split at h
      · rename_i s _
        cases (show v = .str s from r1)
        exact ⟨_, s.length, rfl, ⟨line_eq h.1, rfl⟩, hq.ni w h.2⟩
      · exact h.elim
  · exact h.elim
/-- abs, int of an int -/
def rAbsD : List D → GS → QD → Prop := fun ds G Q => match ds with | [.int i] => Q (.int (if i < 0 then -i else i)) G | _ => False
theorem lift_abs : LiftC X (fun xs H Q => ∃ i, xs = [.int i] ∧ Q (.int (if i < 0 then -i else i)) H) rAbsD := fun η G H vs ds Q Qd w r h hq => by
  unfold rAbsD at h
  split at h
  · rename_i i
    obtain ⟨v, rfl, r1⟩ := rpl1 r
    exact ⟨i, by rw [show v = .int i from r1], hq.ni w h⟩
  · exact h.elim
abbrev hInt : List V → Hp → VK → Prop := fun xs H Q => ((∃ i, xs = [.int i] ∧ Q (.int i) H) ∨ ∃ k, xs = [.bl k] ∧ Q (.int (if k then 1 else 0)) H) ∨ (∃ a n, xs = [.str a] ∧ PySem.intText? a = some n ∧ a.length ≤ 640 ∧ Q (.int n) H)
theorem oInt : CallR X (.type "int") hInt := CallR.or call_int1 call_int_str
def rIntCD : List D → GS → QD → Prop := fun ds G Q => match ds with
  | [.int i] => Q (.int i) G
  | [.str s] => s.length ≤ 640 ∧ match PySem.intText? s with | some n => Q (.int n) G | none => False
  | _ => False
theorem lift_int : LiftC X hInt rIntCD := fun η G H vs ds Q Qd w r h hq => by
  unfold rIntCD at h
  split at h
  · rename_i i
    obtain ⟨v, rfl, r1⟩ := rpl1 r
    exact .inl (.inl ⟨i, by rw [show v = .int i from r1], hq.ni w h⟩)
  · rename_i s
    obtain ⟨v, rfl, r1⟩ := rpl1 r
    obtain ⟨h0, h⟩ := h
    split at h
    · rename_i n en
      exact .inr ⟨s, n, by rw [show v = .str s from r1], en, h0, hq.ni w h⟩
    · exact h.elim
  · exact h.elim
/-- str of an int -/
def rStrD : List D → GS → QD → Prop := fun ds G Q => match ds with | [.int i] => i.natAbs.log2 < 1920 ∧ Q (.str (toString i)) G | _ => False
theorem lift_str : LiftC X (fun xs H Q => ∃ i, xs = [.int i] ∧ i.natAbs.log2 < 1920 ∧ Q (.str (toString i)) H) rStrD := fun η G H vs ds Q Qd w r h hq => by
  unfold rStrD at h
  split at h
  · rename_i i
    obtain ⟨v, rfl, r1⟩ := rpl1 r
    exact ⟨i, by rw [show v = .int i from r1], h.1, hq.ns w h.2⟩
  · exact h.elim
/-- list, tuple of a list or a tuple -/
def rListD : List D → GS → QD → Prop := fun ds G Q => match ds with
  | [d] => match itemsD G d with | some xs => Q (.lst xs) G | none => False
  | _ => False
def rListOD : List D → GS → QD → Prop := fun ds G Q => match ds with
  | [d] => match itemsD G d with | some xs => Q (.obj G.length) (G ++ [.lst xs]) | none => False
  | _ => False
def rTupleD : List D → GS → QD → Prop := fun ds G Q => match ds with
  | [d] => match itemsD G d with | some xs => Q (.tup xs) G | none => False
  | _ => False
abbrev hList (X : Cx) : List V → Hp → VK → Prop := fun xs H Q => ∃ p ys, xs = [.ref p] ∧ (SqL X.K H p ys ∨ SqT X.K H p ys) ∧ ∀ l, H l = none → Q (.ref l) (upd H l (.lst ys))
theorem lift_list : LiftC X (hList X) rListD := fun η G H vs ds Q Qd w r h hq => by
  unfold rListD at h
  split at h
  · rename_i d
    obtain ⟨v, rfl, r1⟩ := rpl1 r
    split at h
    · rename_i xs e
      obtain ⟨a, us, rfl, hs, hr⟩ := itemsD_ok w r1 e
      exact ⟨a, us, rfl, hs.symm, fun l hl => hq.newL w hl hr h⟩
    · exact h.elim
  · exact h.elim
theorem lift_listO : LiftC X (hList X) rListOD := fun η G H vs ds Q Qd w r h hq => by
  unfold rListOD at h
  split at h
  · rename_i d
    obtain ⟨v, rfl, r1⟩ := rpl1 r
    split at h
    · rename_i xs e
      obtain ⟨a, us, rfl, hs, hr⟩ := itemsD_ok w r1 e
      exact ⟨a, us, rfl, hs.symm, fun l hl => hq.newO w hl hr h⟩
    · exact h.elim
  · exact h.elim
abbrev hTuple (X : Cx) : List V → Hp → VK → Prop := fun xs H Q => ∃ p ys, xs = [.ref p] ∧ ((SqL X.K H p ys ∧ ∀ l, H l = none → Q (.ref l) (upd H l (.tup ys))) ∨ (SqT X.K H p ys ∧ Q (.ref p) H))
theorem lift_tuple : LiftC X (hTuple X) rTupleD := fun η G H vs ds Q Qd w r h hq => by
  unfold rTupleD at h
  split at h
  · rename_i d
    obtain ⟨v, rfl, r1⟩ := rpl1 r
    split at h
    · rename_i xs e
      obtain ⟨a, us, rfl, hs, hr⟩ := itemsD_ok w r1 e
      rcases hs with hs | hs
      · exact ⟨a, us, rfl, .inr ⟨hs, hq.now (d := .tup xs) w ⟨a, us, rfl, hs, hr⟩ h⟩⟩
      · exact ⟨a, us, rfl, .inl ⟨hs, fun l hl => hq.newT w hl hr h⟩⟩
    · exact h.elim
  · exact h.elim
/-- the ints of a row, if it is one of ints -/
def intsD : List D → Option (List Int)
  | [] => some []
  | .int i :: ds => (intsD ds).map (i :: ·)
  | _ :: _ => none
theorem intsD_map (ns : List Int) : intsD (ns.map .int) = some ns := by
  induction ns with
  | nil => rfl
  | cons n ns ih => simp [intsD, ih]
theorem intsD_eq : ∀ {ds : List D} {ns : List Int}, intsD ds = some ns → ds = ns.map .int
  | [], ns, h => by cases h; rfl
  | .int i :: ds, ns, h => by
    simp only [intsD] at h
    cases q : intsD ds with
    | none => rw [q] at h; cases h
    | some ms =>
      rw [q] at h
      cases h
      rw [intsD_eq q]; rfl
  | .non :: ds, ns, h => by cases h
  | .bl _ :: ds, ns, h => by cases h
  | .str _ :: ds, ns, h => by cases h
  | .tup _ :: ds, ns, h => by cases h
  | .lst _ :: ds, ns, h => by cases h
  | .obj _ :: ds, ns, h => by cases h
  | .dct :: ds, ns, h => by cases h
  | .scr _ :: ds, ns, h => by cases h
  | .key _ :: ds, ns, h => by cases h
  | .exn _ _ _ _ :: ds, ns, h => by cases h
theorem intsD_sql {K : PySem.W.Frag} {mg : Str → Option Value} {η : Eta} {G : GS} {H : Hp} (w : W K mg η G H) {d : D} {v : V} {xs : List D} {ns : List Int} (r : Rp K η H d v) (e : itemsD G d = some xs) (en : intsD xs = some ns) :
    ∃ a, v = .ref a ∧ (SqT K H a (ns.map V.int) ∨ SqL K H a (ns.map V.int)) := by
  obtain ⟨a, us, rfl, hs, hr⟩ := itemsD_ok w r e
  rw [intsD_eq en] at hr
  cases RpL.ints.mp hr
  exact ⟨a, rfl, hs⟩
/-- sum of a list of ints -/
def rSumD : List D → GS → QD → Prop := fun ds G Q => match ds with
  | [d] => match vw G d with | .lst xs => (match intsD xs with | some ns => Q (.int ns.sum) G | none => False) | _ => False
  | _ => False
theorem vwL_sql {K : PySem.W.Frag} {mg : Str → Option Value} {η : Eta} {G : GS} {H : Hp} (w : W K mg η G H) {d : D} {v : V} {xs : List D} {ns : List Int} (r : Rp K η H d v) (e : vw G d = .lst xs) (en : intsD xs = some ns) :
    ∃ a, v = .ref a ∧ SqL K H a (ns.map V.int) := by
  obtain ⟨a, us, rfl, hs, hr⟩ := vw_lst w r e
  rw [intsD_eq en] at hr
  cases RpL.ints.mp hr
  exact ⟨a, rfl, SqL.of hs⟩
theorem lift_sum : LiftC X (L2.rSum X.K) rSumD := fun η G H vs ds Q Qd w r h hq => by
  unfold rSumD at h
  split at h
  · rename_i d
    obtain ⟨v, rfl, r1⟩ := rpl1 r
    split at h
    · rename_i xs e
      split at h
      · rename_i ns en
        obtain ⟨a, rfl, hs⟩ := vwL_sql w r1 e en
        exact ⟨a, ns, rfl, hs, hq.ni w h⟩
      · exact h.elim
    · exact h.elim
  · exact h.elim
/-- max, min of a list of ints -/
def maxI : List Int → Int
  | [] => 0
  | n :: ns => ns.foldl max n
def minI : List Int → Int
  | [] => 0
  | n :: ns => ns.foldl min n
theorem foldl_max (ns : List Int) : ∀ n, (∀ y ∈ n :: ns, y ≤ ns.foldl max n) ∧ ns.foldl max n ∈ n :: ns := by
  induction ns with
  | nil => intro n; simp
  | cons m ns ih =>
    intro n
    obtain ⟨h1, h2⟩ := ih (max n m)
    simp only [List.foldl_cons]
    refine ⟨fun y hy => ?_, ?_⟩
    · have hm := h1 (max n m) List.mem_cons_self
      rcases List.mem_cons.mp hy with e | hy
      · subst e; omega
      · rcases List.mem_cons.mp hy with e | hy
        · subst e; omega
        · exact h1 y (List.mem_cons_of_mem _ hy)
    · rcases List.mem_cons.mp h2 with e | h2
      · rw [e]
        by_cases c : n ≤ m
        · rw [Int.max_eq_right c]; simp
        · rw [Int.max_eq_left (by omega)]; simp
      · exact List.mem_cons_of_mem _ (List.mem_cons_of_mem _ h2)
theorem foldl_min (ns : List Int) : ∀ n, (∀ y ∈ n :: ns, ns.foldl min n ≤ y) ∧ ns.foldl min n ∈ n :: ns := by
  induction ns with
  | nil => intro n; simp
  | cons m ns ih =>
    intro n
    obtain ⟨h1, h2⟩ := ih (min n m)
    simp only [List.foldl_cons]
    refine ⟨fun y hy => ?_, ?_⟩
    · have hm := h1 (min n m) List.mem_cons_self
      rcases List.mem_cons.mp hy with e | hy
      · subst e; omega
      · rcases List.mem_cons.mp hy with e | hy
        · subst e; omega
        · exact h1 y (List.mem_cons_of_mem _ hy)
    · rcases List.mem_cons.mp h2 with e | h2
      · rw [e]
        by_cases c : n ≤ m
        · rw [Int.min_eq_left c]; simp
        · rw [Int.min_eq_right (by omega)]; simp
      · exact List.mem_cons_of_mem _ (List.mem_cons_of_mem _ h2)
theorem maxI_spec {ns : List Int} (h : ns ≠ []) : (∀ y ∈ ns, y ≤ maxI ns) ∧ maxI ns ∈ ns := by
  cases ns with
  | nil => exact absurd rfl h
  | cons n ns => exact foldl_max ns n
theorem minI_spec {ns : List Int} (h : ns ≠ []) : (∀ y ∈ ns, minI ns ≤ y) ∧ minI ns ∈ ns := by
  cases ns with
  | nil => exact absurd rfl h
  | cons n ns => exact foldl_min ns n
def rMaxD : List D → GS → QD → Prop := fun ds G Q => match ds with
  | [d] => match vw G d with | .lst xs => (match intsD xs with | some ns => ns ≠ [] ∧ Q (.int (maxI ns)) G | none => False) | _ => False
  | _ => False
theorem lift_max : LiftC X (L2.rMax X.K) rMaxD := fun η G H vs ds Q Qd w r h hq => by
  unfold rMaxD at h
  split at h
  · rename_i d
    obtain ⟨v, rfl, r1⟩ := rpl1 r
    split at h
    · rename_i xs e
      split at h
      · rename_i ns en
        obtain ⟨a, rfl, hs⟩ := vwL_sql w r1 e en
        refine ⟨a, ns, rfl, hs, by cases ns with | nil => exact absurd rfl h.1 | cons _ _ => simp, fun m hm hb => ?_⟩
        obtain ⟨h1, h2⟩ := maxI_spec h.1
        have : m = maxI ns := Int.le_antisymm (h1 m hm) (hb _ h2)
        rw [this]
        exact hq.ni w h.2
      · exact h.elim
    · exact h.elim
  · exact h.elim
def rMinID : List D → GS → QD → Prop := fun ds G Q => match ds with
  | [d] => match vw G d with | .lst xs => (match intsD xs with | some ns => ns ≠ [] ∧ Q (.int (minI ns)) G | none => False) | _ => False
  | _ => False
theorem lift_minI : LiftC X (L2.rMin X.K) rMinID := fun η G H vs ds Q Qd w r h hq => by
  unfold rMinID at h
  split at h
  · rename_i d
    obtain ⟨v, rfl, r1⟩ := rpl1 r
    split at h
    · rename_i xs e
      split at h
      · rename_i ns en
        obtain ⟨a, rfl, hs⟩ := vwL_sql w r1 e en
        refine ⟨a, ns, rfl, hs, by cases ns with | nil => exact absurd rfl h.1 | cons _ _ => simp, fun m hm hb => ?_⟩
        obtain ⟨h1, h2⟩ := minI_spec h.1
        have : m = minI ns := Int.le_antisymm (hb _ h2) (h1 m hm)
        rw [this]
        exact hq.ni w h.2
      · exact h.elim
    · exact h.elim
  · exact h.elim
/-- any, all of a list of bools -/
def blsD : List D → Option (List Bool)
  | [] => some []
  | .bl i :: ds => (blsD ds).map (i :: ·)
  | _ :: _ => none
theorem blsD_map (ns : List Bool) : blsD (ns.map .bl) = some ns := by
  induction ns with
  | nil => rfl
  | cons n ns ih => simp [blsD, ih]
theorem blsD_eq : ∀ {ds : List D} {ns : List Bool}, blsD ds = some ns → ds = ns.map .bl
  | [], ns, h => by cases h; rfl
  | .bl i :: ds, ns, h => by
    simp only [blsD] at h
    cases q : blsD ds with
    | none => rw [q] at h; cases h
    | some ms =>
      rw [q] at h
      cases h
      rw [blsD_eq q]; rfl
  | .non :: ds, ns, h => by cases h
  | .int _ :: ds, ns, h => by cases h
  | .str _ :: ds, ns, h => by cases h
  | .tup _ :: ds, ns, h => by cases h
  | .lst _ :: ds, ns, h => by cases h
  | .obj _ :: ds, ns, h => by cases h
  | .dct :: ds, ns, h => by cases h
  | .scr _ :: ds, ns, h => by cases h
  | .key _ :: ds, ns, h => by cases h
  | .exn _ _ _ _ :: ds, ns, h => by cases h
theorem RpL.bls {K : PySem.W.Frag} {η : Eta} {H : Hp} : ∀ {ns : List Bool} {vs : List V}, RpL K η H (ns.map D.bl) vs → vs = ns.map V.bl
  | [], vs, h => h
  | n :: ns, vs, h => by
    obtain ⟨v, r, e, h1, h2⟩ := h
    have h1' : v = V.bl n := h1
    rw [e, h1', RpL.bls h2]; rfl
def rAllD : List D → GS → QD → Prop := fun ds G Q => match ds with
  | [.lst xs] => (match blsD xs with | some ns => Q (.bl (ns.all id)) G | none => False)
  | _ => False
def rAnyD : List D → GS → QD → Prop := fun ds G Q => match ds with
  | [.lst xs] => (match blsD xs with | some ns => Q (.bl (ns.any id)) G | none => False)
  | _ => False
theorem lift_all : LiftC X (L2.rAll X.K) rAllD := fun η G H vs ds Q Qd w r h hq => by
  unfold rAllD at h
  split at h
  · rename_i xs
    obtain ⟨v, rfl, r1⟩ := rpl1 r
    split at h
    · rename_i ns en
      obtain ⟨a, us, rfl, _, hs, hr⟩ := r1
      rw [blsD_eq en] at hr
      cases RpL.bls hr
      exact ⟨a, ns, rfl, SqL.of hs, hq.nb w h⟩
    · exact h.elim
  · exact h.elim
theorem lift_any : LiftC X (L2.rAny X.K) rAnyD := fun η G H vs ds Q Qd w r h hq => by
  unfold rAnyD at h
  split at h
  · rename_i xs
    obtain ⟨v, rfl, r1⟩ := rpl1 r
    split at h
    · rename_i ns en
      obtain ⟨a, us, rfl, _, hs, hr⟩ := r1
      rw [blsD_eq en] at hr
      cases RpL.bls hr
      exact ⟨a, ns, rfl, SqL.of hs, hq.nb w h⟩
    · exact h.elim
  · exact h.elim

inductive Ty where
  | int | bool | str | tuple | list | dict
def Ty.name : Ty → String
  | .int => "int" | .bool => "bool" | .str => "str" | .tuple => "tuple" | .list => "list" | .dict => "dict"
inductive TyN where
  | non | bool | int | str | tuple | list | dict
def TyN.name : TyN → String
  | .non => "NoneType" | .int => "int" | .bool => "bool" | .str => "str" | .tuple => "tuple" | .list => "list" | .dict => "dict"
def tyN : D → Option TyN
  | .non => some .non
  | .bl _ => some .bool
  | .int _ => some .int
  | .str _ => some .str
  | .tup _ => some .tuple
  | .lst _ => some .list
  | .dct => some .dict
  | .scr _ => none
  | .key _ => none
  | .obj _ => none
  | .exn _ _ _ _ => none
def isaN : TyN → Ty → Bool
  | .bool, .int => true
  | .bool, .bool => true
  | .int, .int => true
  | .str, .str => true
  | .tuple, .tuple => true
  | .list, .list => true
  | .dict, .dict => true
  | _, _ => false
theorem kitB_isa (n : TyN) (T : Ty) : kitB n.name T.name = some (isaN n T) := by cases n <;> cases T <;> decide +kernel
def isaD (G : GS) (T : Ty) (d : D) : Option Bool := match tyN (vw G d) with | some n => some (isaN n T) | none => none
theorem isa_ok {K : PySem.W.Frag} {mg : Str → Option Value} {η : Eta} {G : GS} {H : Hp} (w : W K mg η G H) {T : Ty} {d : D} {v : V} {b : Bool} (r : Rp K η H d v) (e : isaD G T d = some b) : ∃ t, TyX K H v t ∧ PySem.W.kitOne K t (.type T.name) = some b := by
  unfold isaD at e
  split at e
  · rename_i n en
    cases e
    suffices ty : TyX K H v (.type n.name) from ⟨_, ty, kit_ty (kitB_isa n T)⟩
    cases hd : vw G d with
    | lst ds =>
      rw [hd] at en; cases en
      obtain ⟨a, vs, rfl, hl, _⟩ := vw_lst w r hd
      exact .base (.lst hl)
    | obj k => rw [hd] at en; cases en
    | exn _ _ _ _ => rw [hd] at en; cases en
    | scr _ => rw [hd] at en; cases en
    | key _ => rw [hd] at en; cases en
    | _ =>
      rw [hd] at en; cases en
      cases d with
      | obj k => rcases vw_obj (G := G) (k := k) with ⟨ds, _, z⟩ | z <;> (rw [z] at hd; cases hd)
      | non => first | (cases hd; done) | (cases (show v = .non from r); exact .base .non)
      | bl y => first | (cases hd; done) | (cases (show v = .bl y from r); exact .base (.bl y))
      | int y => first | (cases hd; done) | (cases (show v = .int y from r); exact .base (.int y))
      | str y => first | (cases hd; done) | (cases (show v = .str y from r); exact .base (.str y))
      | lst y => cases hd
      | exn _ _ _ _ => cases hd
      | scr _ => cases hd
      | key _ => cases hd
      | dct => first | (cases hd; done) | (obtain ⟨a, rfl, _, hd'⟩ := r; exact .base (.dK hd'))
      | tup y =>
        first
          | (cases hd; done)
          | (obtain ⟨a, vs, rfl, ht, _⟩ := r
             rcases ht with (ht | ⟨o, ht⟩) | ⟨o, its, n, h1, h2, _⟩
             · exact .base (.tup ht)
             · exact .fTuple ht
             · exact .kTuple h1 h2)
  · cases e
def tIsiD (T : Ty) (te : TEd) : TEd := fun ρ G Q Ed => te ρ G (fun d G1 => match isaD G1 T d with | some b => Q (.bl b) G1 | none => False) Ed
theorem ped_isi {E : St → XK} {e : Expr} {te : TEd} {p p2 pos : Pos} {x : Str} (T : Ty) (hm : X.mg "isinstance" = none) (hmT : X.mg x = none) (hvT : bootBuiltins x = some (.type T.name)) (hg : Gl X "isinstance") (hgT : Gl X x) (he : PEd X E e te)
    (hn : x ≠ "__name__" := by decide) (hd : (x == ("__debug__" : Str)) = false := by decide)
    (hs : starEach (e :: [.Name x p2]) X.env = (false, eval e X.env) :: starEach [.Name x p2] X.env := by rfl) (hpl : (backTo pos (starEach [.Name x p2] X.env)).any (·.1) = false := by rfl) :
    PEd X E (.Call (.Name "isinstance" p) [e, .Name x p2] [] pos) (tIsiD T te) := by
  have h1 : PE X (.Name x p2) (tC (.ty T.name)) := pe_bltn hgT hmT hvT rfl hn hd
  refine ⟨PE.imp (pe_callB call_isi hg hm (by decide +kernel) (pa_cons he.run (pa_cons h1 pa_nil) hs) (by decide) (by decide) hs hpl) fun σ H Q h => ?_⟩
  obtain ⟨ρ, η, G, Qd, Ed, he, w, ht, hq, hE⟩ := h
  refine ⟨ρ, η, G, _, Ed, he, w, ht, fun d G1 v η1 H1 s1 w1 r1 q1 => ?_, hE⟩
  dsimp only at q1
  split at q1
  · rename_i b eb
    obtain ⟨t, ty, k⟩ := isa_ok w1 r1 eb
    exact ⟨v, _, t, _, b, rfl, .ty _, ty, k, (hq.step s1).nb w1 q1⟩
  · exact q1.elim
/-- {} -/
def tDctD : TEd := fun _ G Q _ => Q .dct G
theorem ped_dct {E : St → XK} {pos : Pos} : PEd X E (.Dict [] [] pos) tDctD := ⟨PE.imp pe_dnewK fun σ H Q h => by
  obtain ⟨ρ, η, G, Qd, Ed, he, w, ht, hq, hE⟩ := h
  intro p hp
  exact hq .dct G _ η _ (Stp.laid hp) (w.laid hp) ⟨p, rfl, w.out hp, upd_same⟩ ht⟩
end
end Y

namespace Y
open PySem PySem.Spec L2
open PyProof.Rows hiding St

abbrev EF : St → XK := fun _ _ _ _ => False
def wipeD (ρ : Rho) : List Nat → Rho
  | [] => ρ
  | v :: vs => (wipeD ρ vs).set v none
theorem EnvR.wipe {K : PySem.W.Frag} {η : Eta} {H : Hp} {σ : St} {ρ : Rho} (he : EnvR K η H σ ρ) : ∀ vs : List Nat, EnvR K η H (L2.wipe σ vs) (wipeD ρ vs)
  | [] => he
  | v :: vs => (EnvR.wipe he vs).unset v
theorem wipe_set {σ : St} {i : Nat} {x : Option V} : ∀ {vs : List Nat}, i ∈ vs → L2.wipe (σ.set i x) vs = L2.wipe σ vs
  | [], h => by cases h
  | v :: vs, h => by
    show (L2.wipe (σ.set i x) vs).set v none = (L2.wipe σ vs).set v none
    by_cases hv : i ∈ vs
    · rw [wipe_set hv]
    · have e : i = v := by
        rcases List.mem_cons.mp h with e | h
        · exact e
        · exact absurd h hv
      subst e
      have aux : ∀ (us : List Nat), i ∉ us → L2.wipe (σ.set i x) us = (L2.wipe σ us).set i x := by
        intro us hu
        induction us with
        | nil => rfl
        | cons u us ih =>
          have h1 : i ≠ u := fun z => hu (z ▸ List.mem_cons_self)
          have h2 : i ∉ us := fun z => hu (List.mem_cons_of_mem _ z)
          show (L2.wipe (σ.set i x) us).set u none = ((L2.wipe σ us).set u none).set i x
          rw [ih h2, List.set_comm _ _ h1]
      rw [aux vs hv, List.set_set]
theorem wipe_wipe {σ : St} : ∀ (vs us : List Nat), (∀ v ∈ us, v ∈ vs) → L2.wipe (L2.wipe σ us) vs = L2.wipe σ vs
  | vs, [], _ => rfl
  | vs, u :: us, h => by
    show L2.wipe ((L2.wipe σ us).set u none) vs = _
    rw [wipe_set (h u List.mem_cons_self), wipe_wipe vs us fun v hv => h v (List.mem_cons_of_mem _ hv)]
/-- a comprehension's target: the stores of its own names -/
def CTg (K : PySem.W.Frag) (mg : Str → Option Value) (vs : List Nat) (g : TG) (t : TGd) : Prop := ∀ (v : V) (σ : St) (H : Hp) (Q : St → Hp → Prop) (d : D) (ρ : Rho) (η : Eta) (G : GS) (Qd : Rho → GS → Prop),
  Rp K η H d v → EnvR K η H σ ρ → t d ρ G Qd → (∀ ρ' G' σ', L2.wipe σ' vs = L2.wipe σ vs → EnvR K η H σ' ρ' → Qd ρ' G' → G' = G → Q σ' H) → g v σ H Q
theorem ctg_name {K : PySem.W.Frag} {mg : Str → Option Value} {vs : List Nat} {i : Nat} (h : i ∈ vs) : CTg K mg vs (gName i) (gNameD i) :=
  fun v σ H Q d ρ η G Qd r he ht hq => hq _ G _ (wipe_set h) (he.set i r) ht rfl
theorem ctg_tup2 {K : PySem.W.Frag} {mg : Str → Option Value} {vs : List Nat} {i j : Nat} (hi : i ∈ vs) (hj : j ∈ vs) : CTg K mg vs (gTup K 2 (gCons (gName i) (gCons (gName j) gNil))) (gTupD (gConsD (gNameD i) (gConsD (gNameD j) gNilD))) :=
  fun v σ H Q d ρ η G Qd r he ht hq => by
  cases d with
  | tup ds =>
    obtain ⟨a, us, rfl, hs, hr⟩ := r
    cases ds with
    | nil => exact ht.elim
    | cons d1 ds =>
      cases ds with
      | nil => exact ht.elim
      | cons d2 ds =>
        cases ds with
        | cons d3 ds => exact ht.elim
        | nil =>
          obtain ⟨v1, r1, rfl, q1, v2, r2, rfl, q2, rfl⟩ := hr
          exact ⟨a, _, rfl, hs, rfl, v1, _, rfl, v2, _, rfl, rfl, hq _ G _ (by rw [wipe_set hj, wipe_set hi]) ((he.set i q1).set j q2) ht rfl⟩
  | _ => exact ht.elim

def lcL (g : TGd) (tt : TTd) (te : TEd) : List D → List D → Rho → GS → (List D → GS → Prop) → Prop
  | [], acc, _, G, Q => Q acc G
  | d :: ds, acc, ρ, G, Q => g d ρ G fun ρ2 G2 => tt ρ2 G2 (fun b G3 => if b = true then te ρ2 G3 (fun e G4 => lcL g tt te ds (acc ++ [e]) ρ G4 Q) (fun _ _ => False) else lcL g tt te ds acc ρ G3 Q) (fun _ _ => False)
def tYesD : TTd := fun _ G Q _ => Q true G
def tLcD (wi : TId) (g : TGd) (tt : TTd) (te : TEd) (vs : List Nat) : TEd := fun ρ G Q Ed => wi ρ G (fun ds G1 => ds.length ≤ 16777216 ∧ lcL g tt te ds [] (wipeD ρ vs) G1 (fun acc G2 => Q (.lst acc) G2)) Ed
/-- .. where the list will change -/
def tLcOD (wi : TId) (g : TGd) (tt : TTd) (te : TEd) (vs : List Nat) : TEd := fun ρ G Q Ed => wi ρ G (fun ds G1 => ds.length ≤ 16777216 ∧ lcL g tt te ds [] (wipeD ρ vs) G1 (fun acc G2 => Q (.obj G2.length) (G2 ++ [.lst acc]))) Ed
structure PTsd (X : Cx) (E : St → XK) (es : List Expr) (t : TTd) : Prop where run : PTs X es (lT X.K X.mg E t)
theorem ptsd_nil {X : Cx} {E : St → XK} : PTsd X E [] tYesD := ⟨⟨fun pins s σ H Q I h => by
  obtain ⟨ρ, η, G, Qd, Ed, he, w, ht, hq, hE⟩ := h
  exact pts_nil.run pins s σ H Q I (hq true G η H (Stp.refl _ _) w ht)⟩⟩
theorem ptsd_one {X : Cx} {E : St → XK} {e : Expr} {t : TTd} (h : PTd X E e t) : PTsd X E [e] t := ⟨pts_one h.run⟩
section
variable {X : Cx} {E : St → XK}
/-- the hidden list becomes data -/
theorem hid_lst {K : PySem.W.Frag} {mg : Str → Option Value} {η η' : Eta} {H H' : Hp} {G : GS} {p : Addr} {vs : List V} {ds : List D} (w : W K mg η' G H') (s : Stp η H η' H') (n : H p = none) (hp : p ∈ η'.hid) (e : H' p = some (.lst vs)) (r : RpL K η' H' ds vs) (out : p ∉ η.hid) :
    W K mg ⟨η'.o, η.hid⟩ G H' ∧ Rp K ⟨η'.o, η.hid⟩ H' (.lst ds) (.ref p) := by
  have sub : ∀ b, b ∈ (⟨η'.o, η.hid⟩ : Eta).hid → b ∈ η'.hid := fun b hb => by
    obtain ⟨L, eL, _⟩ := s.hid
    rw [eL]; exact List.mem_append_right _ hb
  exact ⟨w.shown sub rfl, p, vs, rfl, ⟨(w.hd p hp).1, out⟩, e, RpL.shown sub rfl ds vs r⟩
theorem hid_obj {K : PySem.W.Frag} {mg : Str → Option Value} {η η' : Eta} {H H' : Hp} {G : GS} {p : Addr} {vs : List V} {ds : List D} (w : W K mg η' G H') (s : Stp η H η' H') (n : H p = none) (hp : p ∈ η'.hid) (e : H' p = some (.lst vs)) (r : RpL K η' H' ds vs) (out : p ∉ η.hid) :
    W K mg ⟨η'.o ++ [some p], η.hid⟩ (G ++ [.lst ds]) H' ∧ Rp K ⟨η'.o ++ [some p], η.hid⟩ H' (.obj G.length) (.ref p) ∧ Stp η H ⟨η'.o ++ [some p], η.hid⟩ H' := by
  have no : some p ∉ η'.o := (w.hd p hp).1
  have sub : ∀ b, b ∈ η.hid → b ∈ η'.hid := fun b hb => by
    obtain ⟨L, eL, _⟩ := s.hid
    rw [eL]; exact List.mem_append_right _ hb
  have get : ∀ {k : Nat} {x : Option Addr}, η'.o[k]? = some x → (η'.o ++ [some p])[k]? = some x := fun {k x} h => by
    rw [List.getElem?_append_left (List.getElem?_eq_some_iff.mp h).1]; exact h
  have aux : ∀ (i : Nat) (a : Addr), (η'.o ++ [some p])[i]? = some (some a) → (i < η'.o.length ∧ η'.o[i]? = some (some a)) ∨ (i = η'.o.length ∧ a = p) := by
    intro i a h
    by_cases hk : i < η'.o.length
    · rw [List.getElem?_append_left hk] at h; exact .inl ⟨hk, h⟩
    · rw [List.getElem?_append_right (Nat.le_of_not_lt hk)] at h
      cases q : i - η'.o.length with
      | zero => rw [q] at h; simp at h; exact .inr ⟨by omega, h.symm⟩
      | succ j => rw [q] at h; simp at h
  -- what is known of data in η' stays: p is hidden in η', so no datum is the list at p
  have o' : ∀ {b : Addr}, Out η' b → Out ⟨η'.o ++ [some p], η.hid⟩ b := fun {b} ho => ⟨fun hm => by
    rcases List.mem_append.mp hm with hm | hm
    · exact ho.1 hm
    · have : b = p := by simpa using hm
      exact ho.2 (this ▸ hp), fun hm => ho.2 (sub b hm)⟩
  have rp : ∀ (d : D) (v : V), Rp K η' H' d v → Rp K ⟨η'.o ++ [some p], η.hid⟩ H' d v := by
    intro d
    induction d using D.rec (motive_2 := fun ds => ∀ vs, RpL K η' H' ds vs → RpL K ⟨η'.o ++ [some p], η.hid⟩ H' ds vs) with
    | non => intro v h; exact h
    | bl b => intro v h; exact h
    | int i => intro v h; exact h
    | str s => intro v h; exact h
    | tup ds ih => intro v h; obtain ⟨a, vs, e, ht, r⟩ := h; exact ⟨a, vs, e, ht, ih vs r⟩
    | lst ds ih => intro v h; obtain ⟨a, vs, e, ho, hl, r⟩ := h; exact ⟨a, vs, e, o' ho, hl, ih vs r⟩
    | obj k =>
      intro v h; obtain ⟨a, e, h⟩ := h
      exact ⟨a, e, by rcases h with h | h; exact .inl (get h); exact .inr (get h)⟩
    | dct => intro v h; obtain ⟨a, e, ho, hl⟩ := h; exact ⟨a, e, o' ho, hl⟩
    | scr ns => intro v h; exact h
    | key ns => intro v h; exact h
    | exn a dd f d ih => intro v h; obtain ⟨e, u, hd, r⟩ := h; exact ⟨e, u, hd, ih u r⟩
    | nil => intros; assumption
    | cons d ds i1 i2 =>
      rename_i vs h
      obtain ⟨v, r, e, h1, h2⟩ := h
      exact ⟨v, r, e, i1 v h1, i2 r h2⟩
  have rpL : ∀ (ds : List D) (vs : List V), RpL K η' H' ds vs → RpL K ⟨η'.o ++ [some p], η.hid⟩ H' ds vs := by
    intro ds
    induction ds with
    | nil => intro vs h; exact h
    | cons d ds ih =>
      intro vs h
      obtain ⟨v, r, e, h1, h2⟩ := h
      exact ⟨v, r, e, rp d v h1, ih r h2⟩
  refine ⟨⟨by simp [w.len], fun k m hm => ?_, fun i j a hi hj => ?_, fun a ha => ?_⟩, ⟨p, rfl, .inl ?_⟩, ⟨?_, fun k a h => ?_, fun k h => ?_, fun k a hk h => ?_, fun b o hb q => s.keep b o hb q, s.more, hid0⟩⟩
  · by_cases hk : k < G.length
    · rw [List.getElem?_append_left hk] at hm
      have h := w.at_ k m hm
      cases m with
      | dead => exact get h
      | lst ds => obtain ⟨a, vs, e1, e2, r⟩ := h; exact ⟨a, vs, get e1, e2, rpL ds vs r⟩
      | rnd => obtain ⟨a, ns, e1, e2, r⟩ := h; exact ⟨a, ns, get e1, e2, r⟩
      | dic kvs => obtain ⟨a, e1, e2⟩ := h; exact ⟨a, get e1, e2⟩
      | dik kvs => obtain ⟨a, e1, e2⟩ := h; exact ⟨a, get e1, e2⟩
      | dil u kvs => obtain ⟨a, e1, e2⟩ := h; exact ⟨a, get e1, e2⟩
      | exc c => obtain ⟨a, C, e1, e3, e2⟩ := h; exact ⟨a, C, get e1, e3, e2⟩
      | exi c f d => obtain ⟨a, C, dx, v, e1, e3, e2, ho, hx, r⟩ := h; exact ⟨a, C, dx, v, get e1, e3, e2, o' ho, hx, rp d v r⟩
      | ins c fs =>
        obtain ⟨a, C, dx, vs, e1, e3, e2, r⟩ := h
        refine ⟨a, C, dx, vs, get e1, e3, e2, ?_⟩
        clear e1 e2 e3 hm
        induction fs generalizing vs with
        | nil => exact r
        | cons f fs ih =>
          obtain ⟨v, r', e, h1, h2⟩ := r
          exact ⟨v, r', e, rp f.2 v h1, ih _ h2⟩
    · rw [List.getElem?_append_right (Nat.le_of_not_lt hk)] at hm
      have e0 : k - G.length = 0 := by
        cases q : k - G.length with
        | zero => rfl
        | succ j => rw [q] at hm; simp at hm
      rw [e0] at hm
      simp at hm
      subst hm
      have ek : k = η'.o.length := by have := w.len; omega
      rw [ek]
      exact ⟨p, vs, by simp, e, rpL ds vs r⟩
  · rcases aux i a hi with ⟨h1, h2⟩ | ⟨h1, h2⟩ <;> rcases aux j a hj with ⟨g1, g2⟩ | ⟨g1, g2⟩
    · exact w.inj i j a h2 g2
    · subst g2; exact absurd (mem_eta.mpr ⟨i, h2⟩) no
    · subst h2; exact absurd (mem_eta.mpr ⟨j, g2⟩) no
    · omega
  · have ha' : a ∈ η.hid := ha
    refine ⟨fun hm => ?_, (w.hd a (sub a ha')).2⟩
    rcases List.mem_append.mp hm with hm | hm
    · exact (w.hd a (sub a ha')).1 hm
    · have : a = p := by simpa using hm
      exact out (this ▸ ha')
  · rw [← w.len]; simp
  · simp; exact Nat.le_succ_of_le s.le
  · rcases s.old k a h with q | q
    · exact .inl (get q)
    · exact .inr (get q)
  · exact get (s.dead k h)
  · rcases aux k a h with ⟨_, h2⟩ | ⟨_, h2⟩
    · exact s.new k a hk h2
    · rw [h2]; exact n
/-- the loop of a comprehension, whatever becomes of its list -/
theorem lc_run {K : PySem.W.Frag} {mg : Str → Option Value} {g : TG} {gd : TGd} {tt : TTd} {te : TEd} {vs : List Nat} {σ : St} {ρ : Rho} {η1 : Eta} {H1 : Hp} {G1 : GS} {J : It} {ds : List D} {Qf : List D → GS → Prop} {p : Addr} {Q : Hp → Prop}
    (hg : CTg K mg vs g gd) (he : EnvR K η1 H1 σ ρ) (w1 : W K mg η1 G1 H1) (it : ItOk K mg J η1 H1 ds) (hp : H1 p = none) (hz : ds.length ≤ 16777216) (q1 : lcL gd tt te ds [] (wipeD ρ vs) G1 Qf)
    (hQ : ∀ acc G' us η' H', Stp η1 H1 η' H' → W K mg η' G' H' → p ∈ η'.hid → H' p = some (.lst us) → RpL K η' H' acc us → Qf acc G' → Q H') :
    ∃ W' : Nat → Nat → Hp → Prop, (∃ m, W' 0 m (upd H1 p (.lst []))) ∧ ∀ i m H, W' i m H →
      (J.stop i H ∧ Q H) ∨ (J.go i H ∧ ∃ Nx : Hp → Prop, (∀ H', Nx H' → ∃ m', m' < m ∧ W' (i + 1) m' H') ∧ ∀ x H', J.yld i H x H' → g x (L2.wipe σ vs) H' fun σ2 H2 => L2.wipe σ2 vs = L2.wipe σ vs ∧ lT K mg EF tt σ2 H2 fun b H3 =>
        if b = true then lE K mg EF te σ2 H3 fun y H4 => ∃ acc, H4 p = some (.lst acc) ∧ acc.length < sizeLine ∧ Nx (upd H4 p (.lst (acc ++ [y]))) else Nx H3) := by
  have st0 : Stp η1 H1 (η1.hide p) (upd H1 p (.lst [])) := Stp.hide hp
  refine ⟨fun i m H' => ∃ η' G' acc us, Stp η1 H1 η' H' ∧ W K mg η' G' H' ∧ p ∈ η'.hid ∧ H' p = some (.lst us) ∧ RpL K η' H' acc us ∧ acc.length ≤ i ∧ i ≤ ds.length ∧ m = ds.length - i ∧ lcL gd tt te (ds.drop i) acc (wipeD ρ vs) G' Qf,
    ⟨_, η1.hide p, G1, [], [], st0, w1.hide hp, List.mem_cons_self, upd_same, rfl, Nat.le_refl _, Nat.zero_le _, rfl, by simpa using q1⟩, ?_⟩
  rintro i m H' ⟨η', G', acc, us, s', w', hm, e', r', ha, hi', rfl, q'⟩
  obtain ⟨i1, i2, i3⟩ := it η' H' i s'.w
  by_cases hi : i < ds.length
  · right
    refine ⟨i1 hi, fun H2 => ∃ η2 G2 acc2 us2, Stp η1 H1 η2 H2 ∧ W K mg η2 G2 H2 ∧ p ∈ η2.hid ∧ H2 p = some (.lst us2) ∧ RpL K η2 H2 acc2 us2 ∧ acc2.length ≤ i + 1 ∧ lcL gd tt te (ds.drop (i + 1)) acc2 (wipeD ρ vs) G2 Qf, ?_, ?_⟩
    · rintro H2 ⟨η2, G2, acc2, us2, s2, w2, m2, e2, r2, a2, q2⟩
      exact ⟨_, by omega, η2, G2, acc2, us2, s2, w2, m2, e2, r2, a2, hi, rfl, q2⟩
    · intro x H'' y
      obtain ⟨d, hd, st, ww, rx⟩ := i3 x H'' y hi
      rw [drop_cons hd] at q'
      have kp : ∀ {ηa ηb : Eta} {Ha Hb : Hp} {u : HO}, p ∈ ηa.hid → (∃ G, W K mg ηa G Ha) → Stp ηa Ha ηb Hb → Ha p = some u → Hb p = some u ∧ p ∈ ηb.hid := fun {ηa ηb Ha Hb u} hma hw s hu => by
        obtain ⟨G, w⟩ := hw
        refine ⟨s.keep p u hu (.inl (w.hd p hma).1), ?_⟩
        obtain ⟨L, eL, _⟩ := s.hid
        rw [eL]; exact List.mem_append_right _ hma
      refine hg x (L2.wipe σ vs) H'' _ d (wipeD ρ vs) η' G' _ rx ((he.step (s'.trans st)).wipe vs) q' fun ρ2 G2 σ2 hw2 e2 q2 hG => ?_
      subst hG
      refine ⟨by rw [hw2]; exact wipe_wipe _ _ fun _ h => h, ?_⟩
      refine ⟨ρ2, η', G2, _, _, e2, ww G2 w', q2, fun b G3 η3 H3 s3 w3 q3 => ?_, fun _ _ _ _ _ _ _ _ _ h => h⟩
      obtain ⟨k3, m3⟩ := kp hm ⟨_, w'⟩ (st.trans s3) e'
      cases b with
      | true =>
        rw [if_pos rfl] at q3 ⊢
        refine ⟨ρ2, η3, G3, _, _, e2.step s3, w3, q3, fun e G4 y η4 H4 s4 w4 r4 q4 => ?_, fun _ _ _ _ _ _ _ _ _ h => h⟩
        obtain ⟨k4, m4⟩ := kp m3 ⟨_, w3⟩ s4 k3
        have r5 : RpL K η4 H4 acc us := RpL.step (st.trans (s3.trans s4)) _ _ r'
        refine ⟨us, k4, line_lt ?_, η4, G4, acc ++ [e], us ++ [y], ((s'.trans (st.trans (s3.trans s4)))).put hp, w4.put m4 k4 (fun z => z), m4, upd_same, RpL.put m4 k4 (fun z => z) _ _ (RpL.append r5 (RpL.one r4)), by simp; exact ha, q4⟩
        rw [← r'.length]; omega
      | false =>
        rw [if_neg (by decide)] at q3 ⊢
        exact ⟨η3, G3, acc, us, s'.trans (st.trans s3), w3, m3, k3, RpL.step (st.trans s3) _ _ r', by omega, q3⟩
  · left
    refine ⟨i2 (by omega), ?_⟩
    rw [List.drop_eq_nil_of_le (by omega)] at q'
    exact hQ acc G' us η' H' s' w' hm e' r' q'
end
end Y

namespace Y
open PySem PySem.Spec L2
open PyProof.Rows hiding St

section
variable {X : Cx} {E : St → XK}
theorem lc_imp {wi : TId} {g : TG} {gd : TGd} {tt : TTd} {te : TEd} {vs : List Nat} (hct : CTg X.K X.mg vs g gd) {σ : St} {H : Hp} {Q : VK} (h : lE X.K X.mg E (tLcD wi gd tt te vs) σ H Q) :
    tLc (lI X.K X.mg E wi) g (lT X.K X.mg EF tt) (lE X.K X.mg EF te) vs σ H Q := by
  obtain ⟨ρ, η, G, Qd, Ed, he, w, ht, hq, hE⟩ := h
  refine ⟨ρ, η, G, _, Ed, he, w, ht, fun ds G1 J η1 H1 s1 w1 it q1 => ?_, hE⟩
  intro p hp
  refine lc_run hct (he.step s1) w1 it hp q1.1 q1.2 fun acc G' us η' H' s' w' hm e' r' q' => ?_
  have out : p ∉ η1.hid := fun z => by obtain ⟨_, o, ho⟩ := w1.hd p z; rw [hp] at ho; cases ho
  obtain ⟨w2, r2⟩ := hid_lst w' s' hp hm e' r' out
  exact hq _ _ _ _ _ (s1.trans s'.shown) w2 r2 q'
theorem lcO_imp {wi : TId} {g : TG} {gd : TGd} {tt : TTd} {te : TEd} {vs : List Nat} (hct : CTg X.K X.mg vs g gd) {σ : St} {H : Hp} {Q : VK} (h : lE X.K X.mg E (tLcOD wi gd tt te vs) σ H Q) :
    tLc (lI X.K X.mg E wi) g (lT X.K X.mg EF tt) (lE X.K X.mg EF te) vs σ H Q := by
  obtain ⟨ρ, η, G, Qd, Ed, he, w, ht, hq, hE⟩ := h
  refine ⟨ρ, η, G, _, Ed, he, w, ht, fun ds G1 J η1 H1 s1 w1 it q1 => ?_, hE⟩
  intro p hp
  refine lc_run hct (he.step s1) w1 it hp q1.1 q1.2 fun acc G' us η' H' s' w' hm e' r' q' => ?_
  have out : p ∉ η1.hid := fun z => by obtain ⟨_, o, ho⟩ := w1.hd p z; rw [hp] at ho; cases ho
  obtain ⟨w2, r2, s2⟩ := hid_obj w' s' hp hm e' r' out
  exact hq _ _ _ _ _ (s1.trans s2) w2 r2 q'
section
variable {elt tg iter : Expr} {ifs : List Expr} {scope : Scope} {own : List (Str × Nat)} {pos : Pos} {wi : TId} {g : TG} {gd : TGd} {tt : TTd} {te : TEd}
theorem ped_lc (hc : X.calm = true) (hN : X.N.Nodup) (hi : PId X E tg iter wi) (ok : BlkOk X.N X.env.scope scope own)
    (hg : ∀ (s : Shared) (H : Hp) (C : Addr) (cl : List (Str × Addr)) (fp : List Addr), PG (X.blk s H scope (compEnvC scope cl C X.env) fp) tg g) (hct : CTg X.K X.mg (own.map (·.2)) g gd)
    (ht : ∀ (s : Shared) (H : Hp) (C : Addr) (cl : List (Str × Addr)) (fp : List Addr), PTsd (X.blk s H scope (compEnvC scope cl C X.env) fp) EF ifs tt)
    (he : ∀ (s : Shared) (H : Hp) (C : Addr) (cl : List (Str × Addr)) (fp : List Addr), PEd (X.blk s H scope (compEnvC scope cl C X.env) fp) EF elt te) (hs : ∀ x, foldedSetIterable iter X.env x = pure x := by intro _; rfl) :
    PEd X E (.ListComp elt [⟨tg, iter, ifs, 0⟩] scope pos) (tLcD wi gd tt te (own.map (·.2))) :=
  ⟨PE.imp (pe_lc hc hN hi.run ok hg (fun s H C cl fp => (ht s H C cl fp).run) (fun s H C cl fp => (he s H C cl fp).run) hs) fun _ _ _ h => lc_imp hct h⟩
theorem ped_lcO (hc : X.calm = true) (hN : X.N.Nodup) (hi : PId X E tg iter wi) (ok : BlkOk X.N X.env.scope scope own)
    (hg : ∀ (s : Shared) (H : Hp) (C : Addr) (cl : List (Str × Addr)) (fp : List Addr), PG (X.blk s H scope (compEnvC scope cl C X.env) fp) tg g) (hct : CTg X.K X.mg (own.map (·.2)) g gd)
    (ht : ∀ (s : Shared) (H : Hp) (C : Addr) (cl : List (Str × Addr)) (fp : List Addr), PTsd (X.blk s H scope (compEnvC scope cl C X.env) fp) EF ifs tt)
    (he : ∀ (s : Shared) (H : Hp) (C : Addr) (cl : List (Str × Addr)) (fp : List Addr), PEd (X.blk s H scope (compEnvC scope cl C X.env) fp) EF elt te) (hs : ∀ x, foldedSetIterable iter X.env x = pure x := by intro _; rfl) :
    PEd X E (.ListComp elt [⟨tg, iter, ifs, 0⟩] scope pos) (tLcOD wi gd tt te (own.map (·.2))) :=
  ⟨PE.imp (pe_lc hc hN hi.run ok hg (fun s H C cl fp => (ht s H C cl fp).run) (fun s H C cl fp => (he s H C cl fp).run) hs) fun _ _ _ h => lcO_imp hct h⟩
/-- name = [..], the name a local -/
theorem setLc_imp {i : Nat} {t : TEd} {tH : TE} (hl : ∀ {σ : St} {H : Hp} {Q : VK}, lE X.K X.mg E t σ H Q → tH σ H Q) {D : Ends} {σ : St} {H : Hp} (h : lS X.K X.mg E (tSetD i t) D σ H) : tAsg tH (gName i) D σ H := by
  obtain ⟨ρ, η, G, Dd, he, w, ht, l⟩ := h
  refine hl ⟨ρ, η, G, _, _, he, w, ht, fun d G1 v η1 H1 s1 w1 r1 q1 => ?_, l.le he⟩
  exact l.nx _ G1 _ η1 H1 s1 w1 ((he.step s1).set i r1) q1
theorem psd_setLc {i : Nat} {y : Str} {py spos : Pos} (hc : X.calm = true) (hN : X.N.Nodup) (hy : X.N[i]? = some y) (hyl : X.env.scope.names.lookup y = some .local)
    (hsw : swapsWith (.ListComp elt [⟨tg, iter, ifs, 0⟩] scope pos) (some (.Name y py)) spos.line X.env = pure true) (hi : PId X E tg iter wi) (ok : BlkOk X.N X.env.scope scope own)
    (hg : ∀ (s : Shared) (H : Hp) (C : Addr) (cl : List (Str × Addr)) (fp : List Addr), PG (X.blk s H scope (compEnvC scope cl C X.env) fp) tg g) (hct : CTg X.K X.mg (own.map (·.2)) g gd)
    (ht : ∀ (s : Shared) (H : Hp) (C : Addr) (cl : List (Str × Addr)) (fp : List Addr), PTsd (X.blk s H scope (compEnvC scope cl C X.env) fp) EF ifs tt)
    (he : ∀ (s : Shared) (H : Hp) (C : Addr) (cl : List (Str × Addr)) (fp : List Addr), PEd (X.blk s H scope (compEnvC scope cl C X.env) fp) EF elt te) (hs : ∀ x, foldedSetIterable iter X.env x = pure x := by intro _; rfl) :
    PSd X E (.Assign [.Name y py] (.ListComp elt [⟨tg, iter, ifs, 0⟩] scope pos) spos) (tSetD i (tLcD wi gd tt te (own.map (·.2)))) :=
  ⟨PS.imp (ps_setLc hc hN hy hyl hsw hi.run ok hg (fun s H C cl fp => (ht s H C cl fp).run) (fun s H C cl fp => (he s H C cl fp).run) hs) fun _ _ _ h => setLc_imp (fun h => lc_imp hct h) h⟩
theorem psd_setLcO {i : Nat} {y : Str} {py spos : Pos} (hc : X.calm = true) (hN : X.N.Nodup) (hy : X.N[i]? = some y) (hyl : X.env.scope.names.lookup y = some .local)
    (hsw : swapsWith (.ListComp elt [⟨tg, iter, ifs, 0⟩] scope pos) (some (.Name y py)) spos.line X.env = pure true) (hi : PId X E tg iter wi) (ok : BlkOk X.N X.env.scope scope own)
    (hg : ∀ (s : Shared) (H : Hp) (C : Addr) (cl : List (Str × Addr)) (fp : List Addr), PG (X.blk s H scope (compEnvC scope cl C X.env) fp) tg g) (hct : CTg X.K X.mg (own.map (·.2)) g gd)
    (ht : ∀ (s : Shared) (H : Hp) (C : Addr) (cl : List (Str × Addr)) (fp : List Addr), PTsd (X.blk s H scope (compEnvC scope cl C X.env) fp) EF ifs tt)
    (he : ∀ (s : Shared) (H : Hp) (C : Addr) (cl : List (Str × Addr)) (fp : List Addr), PEd (X.blk s H scope (compEnvC scope cl C X.env) fp) EF elt te) (hs : ∀ x, foldedSetIterable iter X.env x = pure x := by intro _; rfl) :
    PSd X E (.Assign [.Name y py] (.ListComp elt [⟨tg, iter, ifs, 0⟩] scope pos) spos) (tSetD i (tLcOD wi gd tt te (own.map (·.2)))) :=
  ⟨PS.imp (ps_setLc hc hN hy hyl hsw hi.run ok hg (fun s H C cl fp => (ht s H C cl fp).run) (fun s H C cl fp => (he s H C cl fp).run) hs) fun _ _ _ h => setLc_imp (fun h => lcO_imp hct h) h⟩
end

def lcL2 (g : TGd) (tt : TTd) (wi1 : TId) (g1 : TGd) (tt1 : TTd) (te : TEd) (vs1 : List Nat) : List D → List D → Rho → GS → (List D → GS → Prop) → Prop
  | [], acc, _, G, Q => Q acc G
  | d :: ds, acc, ρ, G, Q => g d ρ G fun ρ2 G2 => tt ρ2 G2 (fun b G3 => if b = true then wi1 ρ2 G3 (fun ds1 G4 => acc.length + ds1.length ≤ 16777216 ∧
      lcL g1 tt1 te ds1 acc (wipeD ρ2 vs1) G4 (fun acc2 G5 => lcL2 g tt wi1 g1 tt1 te vs1 ds acc2 ρ G5 Q)) (fun _ _ => False) else lcL2 g tt wi1 g1 tt1 te vs1 ds acc ρ G3 Q) (fun _ _ => False)
def tLc2D (wi : TId) (g : TGd) (tt : TTd) (wi1 : TId) (g1 : TGd) (tt1 : TTd) (te : TEd) (vs vs1 : List Nat) : TEd := fun ρ G Q Ed => wi ρ G (fun ds G1 => lcL2 g tt wi1 g1 tt1 te vs1 ds [] (wipeD ρ vs) G1 (fun acc G2 => Q (.lst acc) G2)) Ed
theorem kept_hid {K : PySem.W.Frag} {mg : Str → Option Value} {ηa ηb : Eta} {Ha Hb : Hp} {u : HO} {p : Addr} (hma : p ∈ ηa.hid) (hw : ∃ G, W K mg ηa G Ha) (s : Stp ηa Ha ηb Hb) (hu : Ha p = some u) : Hb p = some u ∧ p ∈ ηb.hid := by
  obtain ⟨G, w⟩ := hw
  refine ⟨s.keep p u hu (.inl (w.hd p hma).1), ?_⟩
  obtain ⟨L, eL, _⟩ := s.hid
  rw [eL]; exact List.mem_append_right _ hma
theorem lc2_imp {wi : TId} {g : TG} {gd : TGd} {tt : TTd} {wi1 : TId} {g1 : TG} {gd1 : TGd} {tt1 : TTd} {te : TEd} {vs vs1 : List Nat} (hct : CTg X.K X.mg vs g gd) (hct1 : CTg X.K X.mg vs1 g1 gd1) {σ : St} {H : Hp} {Q : VK}
    (h : lE X.K X.mg E (tLc2D wi gd tt wi1 gd1 tt1 te vs vs1) σ H Q) :
    tLc2 (lI X.K X.mg E wi) g (lT X.K X.mg EF tt) (lI X.K X.mg EF wi1) g1 (lT X.K X.mg EF tt1) (lE X.K X.mg EF te) vs vs1 σ H Q := by
  obtain ⟨ρ, η, G, Qd, Ed, he, w, ht, hq, hE⟩ := h
  refine ⟨ρ, η, G, _, Ed, he, w, ht, fun ds G1 J η1 H1 s1 w1 it q1 => ?_, hE⟩
  intro p hp
  have st0 : Stp η1 H1 (η1.hide p) (upd H1 p (.lst [])) := Stp.hide hp
  have out : p ∉ η1.hid := fun z => by obtain ⟨_, o, ho⟩ := w1.hd p z; rw [hp] at ho; cases ho
  have he1 := he.step s1
  refine ⟨fun i m H' => ∃ η' G' acc us, Stp η1 H1 η' H' ∧ W X.K X.mg η' G' H' ∧ p ∈ η'.hid ∧ H' p = some (.lst us) ∧ RpL X.K η' H' acc us ∧ i ≤ ds.length ∧ m = ds.length - i ∧ lcL2 gd tt wi1 gd1 tt1 te vs1 (ds.drop i) acc (wipeD ρ vs) G' (fun acc G2 => Qd (.lst acc) G2),
    ⟨_, η1.hide p, G1, [], [], st0, w1.hide hp, List.mem_cons_self, upd_same, rfl, Nat.zero_le _, rfl, by simpa using q1⟩, ?_⟩
  rintro i m H' ⟨η', G', acc, us, s', w', hm, e', r', hi', rfl, q'⟩
  obtain ⟨i1, i2, i3⟩ := it η' H' i s'.w
  by_cases hi : i < ds.length
  · right
    refine ⟨i1 hi, fun H2 => ∃ η2 G2 acc2 us2, Stp η1 H1 η2 H2 ∧ W X.K X.mg η2 G2 H2 ∧ p ∈ η2.hid ∧ H2 p = some (.lst us2) ∧ RpL X.K η2 H2 acc2 us2 ∧ lcL2 gd tt wi1 gd1 tt1 te vs1 (ds.drop (i + 1)) acc2 (wipeD ρ vs) G2 (fun acc G2 => Qd (.lst acc) G2), ?_, ?_⟩
    · rintro H2 ⟨η2, G2, acc2, us2, s2, w2, m2, e2, r2, q2⟩
      exact ⟨_, by omega, η2, G2, acc2, us2, s2, w2, m2, e2, r2, hi, rfl, q2⟩
    · intro x H'' y
      obtain ⟨d, hd, st, ww, rx⟩ := i3 x H'' y hi
      rw [drop_cons hd] at q'
      refine hct x (L2.wipe σ vs) H'' _ d (wipeD ρ vs) η' G' _ rx ((he1.step (s'.trans st)).wipe vs) q' fun ρ2 G2 σ2 hw2 e2 q2 hG => ?_
      subst hG
      refine ⟨by rw [hw2]; exact wipe_wipe _ _ fun _ h => h, ?_⟩
      refine ⟨ρ2, η', G2, _, _, e2, ww G2 w', q2, fun b G3 η3 H3 s3 w3 q3 => ?_, fun _ _ _ _ _ _ _ _ _ h => h⟩
      obtain ⟨k3, m3⟩ := kept_hid hm ⟨_, w'⟩ (st.trans s3) e'
      cases b with
      | true =>
        rw [if_pos rfl] at q3 ⊢
        refine ⟨ρ2, η3, G3, _, _, e2.step s3, w3, q3, fun ds1 G4 J1 η4 H4 s4 w4 it1 q4 => ?_, fun _ _ _ _ _ _ _ _ _ h => h⟩
        obtain ⟨k4, m4⟩ := kept_hid m3 ⟨_, w3⟩ s4 k3
        have sA := s'.trans (st.trans (s3.trans s4))
        have r4 : RpL X.K η4 H4 acc us := RpL.step (st.trans (s3.trans s4)) _ _ r'
        refine ⟨fun j k H' => ∃ η' G' acc2 us2, Stp η1 H1 η' H' ∧ Stw η4 H4 η' H' ∧ W X.K X.mg η' G' H' ∧ p ∈ η'.hid ∧ H' p = some (.lst us2) ∧ RpL X.K η' H' acc2 us2 ∧ acc2.length ≤ acc.length + j ∧ j ≤ ds1.length ∧ k = ds1.length - j ∧
            lcL gd1 tt1 te (ds1.drop j) acc2 (wipeD ρ2 vs1) G' (fun acc2 G5 => lcL2 gd tt wi1 gd1 tt1 te vs1 (ds.drop (i + 1)) acc2 (wipeD ρ vs) G5 (fun acc G2 => Qd (.lst acc) G2)),
          ⟨_, η4, G4, acc, us, sA, Stw.refl _ _, w4, m4, k4, r4, Nat.le_refl _, Nat.zero_le _, rfl, by simpa using q4.2⟩, ?_⟩
        rintro j k H5 ⟨η5, G5, acc5, us5, s5, sw5, w5, m5, k5, r5, a5, hj', rfl, q5⟩
        obtain ⟨j1, j2, j3⟩ := it1 η5 H5 j sw5
        have eB : EnvR X.K η5 H5 σ2 ρ2 := by
          refine ⟨e2.1, fun i d hd => ?_⟩
          obtain ⟨v, e, r⟩ := (e2.step (s3.trans s4)).2 i d hd
          exact ⟨v, e, Rp.stepw sw5 _ _ r⟩
        by_cases hj : j < ds1.length
        · right
          refine ⟨j1 hj, fun H2 => ∃ η2 G2 acc2 us2, Stp η1 H1 η2 H2 ∧ Stw η4 H4 η2 H2 ∧ W X.K X.mg η2 G2 H2 ∧ p ∈ η2.hid ∧ H2 p = some (.lst us2) ∧ RpL X.K η2 H2 acc2 us2 ∧ acc2.length ≤ acc.length + (j + 1) ∧
            lcL gd1 tt1 te (ds1.drop (j + 1)) acc2 (wipeD ρ2 vs1) G2 (fun acc2 G5 => lcL2 gd tt wi1 gd1 tt1 te vs1 (ds.drop (i + 1)) acc2 (wipeD ρ vs) G5 (fun acc G2 => Qd (.lst acc) G2)), ?_, ?_⟩
          · rintro H2 ⟨η2, G2, acc2, us2, s2, sw2, w2, m2, e2, r2, a2, q2⟩
            exact ⟨_, by omega, η2, G2, acc2, us2, s2, sw2, w2, m2, e2, r2, a2, hj, rfl, q2⟩
          · intro x' H6 y'
            obtain ⟨d', hd', st', ww', rx'⟩ := j3 x' H6 y' hj
            rw [drop_cons hd'] at q5
            refine hct1 x' (L2.wipe σ2 vs1) H6 _ d' (wipeD ρ2 vs1) η5 G5 _ rx' ((eB.step st').wipe vs1) q5 fun ρ7 G7 σ7 hw7 e7 q7 hG7 => ?_
            subst hG7
            refine ⟨by rw [hw7]; exact wipe_wipe _ _ fun _ h => h, ?_⟩
            refine ⟨ρ7, η5, G7, _, _, e7, ww' G7 w5, q7, fun b G8 η8 H8 s8 w8 q8 => ?_, fun _ _ _ _ _ _ _ _ _ h => h⟩
            obtain ⟨k8, m8⟩ := kept_hid m5 ⟨_, w5⟩ (st'.trans s8) k5
            cases b with
            | true =>
              rw [if_pos rfl] at q8 ⊢
              refine ⟨ρ7, η8, G8, _, _, e7.step s8, w8, q8, fun e9 G9 y9 η9 H9 s9 w9 r9 q9 => ?_, fun _ _ _ _ _ _ _ _ _ h => h⟩
              obtain ⟨k9, m9⟩ := kept_hid m8 ⟨_, w8⟩ s9 k8
              have r5' : RpL X.K η9 H9 acc5 us5 := RpL.step (st'.trans (s8.trans s9)) _ _ r5
              refine ⟨us5, k9, line_lt ?_, η9, G9, acc5 ++ [e9], us5 ++ [y9], (s5.trans (st'.trans (s8.trans s9))).put hp, (sw5.trans (st'.trans (s8.trans s9)).w).put m4 k4 (fun z => z), w9.put m9 k9 (fun z => z), m9, upd_same,
                RpL.put m9 k9 (fun z => z) _ _ (RpL.append r5' (RpL.one r9)), by simp; omega, q9⟩
              have := q4.1
              rw [← r5.length]; omega
            | false =>
              rw [if_neg (by decide)] at q8 ⊢
              exact ⟨η8, G8, acc5, us5, s5.trans (st'.trans s8), sw5.trans (st'.trans s8).w, w8, m8, k8, RpL.step (st'.trans s8) _ _ r5, by omega, q8⟩
        · left
          refine ⟨j2 (by omega), ?_⟩
          rw [List.drop_eq_nil_of_le (by omega)] at q5
          exact ⟨η5, G5, acc5, us5, s5, w5, m5, k5, r5, q5⟩
      | false =>
        rw [if_neg (by decide)] at q3 ⊢
        exact ⟨η3, G3, acc, us, s'.trans (st.trans s3), w3, m3, k3, RpL.step (st.trans s3) _ _ r', q3⟩
  · left
    refine ⟨i2 (by omega), ?_⟩
    rw [List.drop_eq_nil_of_le (by omega)] at q'
    obtain ⟨w2, r2⟩ := hid_lst w' s' hp hm e' r' out
    exact hq _ _ _ _ _ (s1.trans s'.shown) w2 r2 q'
end
end Y

namespace Y
open PySem PySem.Spec L2
open PyProof.Rows hiding St

def tRaise0D (x : Str) : TSd := fun D ρ G => D.er ⟨x, none⟩ ρ G
def tRaise1D (x f : Str) (te : TEd) : TSd := fun D ρ G => te ρ G (fun d G1 => D.er ⟨x, some (f, d)⟩ ρ G1) (fun e G1 => D.er e ρ G1)
/-- what the statement's wish about exceptions is: E, at the slots -/
abbrev WofE (E : St → XK) : WX := fun cls d σ H => E σ cls d H
section
variable {X : Cx} {E : St → XK}
theorem pmk_own0 {C : Addr} {bmB : List Value} {B newId initId : String} {x : Str} {p pos : Pos} (F : ExcBaseFacts B newId initId bmB) (q : PySem.W.excIn X.K C bmB newId = true) (gC : X.mg x = some (.ref C)) (kC : PySem.W.keepIn X.K (.ref C) = true) (r : Raises X (.ref C)) (hg : Gl X x)
    (hdb : (x == ("__debug__" : Str)) = false := by decide) : PMk X (.Call (.Name x p) [] [] pos) (fun _ H Q => Q (.ref C) none H) := fun pins s σ H Q I h => by
  refine wpAny_Call_Name_kw (ld_glob I hg gC (PySem.W.callWith_K0 I.kIn kC ?_) hdb)
  obtain ⟨bm, N, nm, qn, bs, hdct, sn, sub, ab, col, dd, k0, k1, k2, k3, k5, mN, hC, hN, hni, T⟩ := exc_obj I.kIn q
  exact wpAny_call_exc_subT F T hC hN hni (fun h' e hm => mk_of I hm r h (I.hok.gone hm.new)) (by show 0 ≤ sizeLine; exact Nat.zero_le _)
theorem psd_raise0 {C : Addr} {x : Str} {p pos pos' : Pos} (hc : X.calm = true) (tk : Takes X (WofE E)) (q : PySem.W.excIn X.K C [.type "ValueError", .type "Exception", .type "BaseException", .type "object"] "ValueError.__new__" = true) (gC : X.mg x = some (.ref C)) (kC : PySem.W.keepIn X.K (.ref C) = true)
    (r : Raises X (.ref C)) (hg : Gl X x) (hdb : (x == ("__debug__" : Str)) = false := by decide) : PSd X E (.Raise (some (.Call (.Name x p) [] [] pos)) none pos') (tRaise0D x) :=
  ⟨PS.imp (ps_raise hc tk (pmk_own0 PySem.F.excBase_ValueError q gC kC r hg hdb)) fun D σ H h => by
  obtain ⟨ρ, η, G, Dd, he, w, ht, l⟩ := h
  exact l.er _ ρ G σ (.ref C) none η H (Stp.refl _ _) w he ⟨C, gC, rfl, fun f d e => by cases e⟩ ht⟩
/-- what is known of an own error class whose __init__ stores one field -/
structure ExT (X : Cx) (x f : Str) (C fI : Addr) (fd : FuncData) (ps : List Str) : Prop where
  oex : OexC X.K C
  ini : PySem.W.findIn X.K (.ref C) "__init__" = some (some (.ref fI))
  tyI : PySem.W.typeIn X.K (.ref fI) = some (.type "function")
  mgC : X.mg x = some (.ref C)
  bnd : Binds X.K fd ps []
/-- the promise of such an __init__ -/
def spIni (C : Addr) (f : Str) : Sp := fun vs H Q _ => ∃ (a : Addr) (v : V), vs = [.ref a, v] ∧ H a = some (exo a C none) ∧ ∀ dx, H dx = none → dx ≠ a → Q .non (upd (upd H dx (exd dx [(f, v)])) a (exo a C (some dx)))
theorem psd_raise1 {C fI : Addr} {fd : FuncData} {x f : Str} {ps : List Str} {k : Nat} {p pos pos' : Pos} {e : Expr} {te : TEd} (hc : X.calm = true) (tk : Takes X (WofE E)) (T : ExT X x f C fI fd ps)
    (F1 : FnOk X.prog X.w X.K X.mg X.base (L2.CX X.prog X.w) k fI fd ps (spIni C f)) (hr : Room (k + 1) X.A) (hg : Gl X x) (ha : PEd X E e te) (hdb : (x == ("__debug__" : Str)) = false := by decide)
    (he : starEach (e :: []) X.env = (false, eval e X.env) :: starEach [] X.env := by rfl) (hpl : (backTo pos (starEach [] X.env)).any (·.1) = false := by rfl) :
    PSd X E (.Raise (some (.Call (.Name x p) [e] [] pos)) none pos') (tRaise1D x f te) := by
  have hpa : PA X [e] (tCons (lE X.K X.mg E te) tNil) := pa_cons ha.run pa_nil he
  refine ⟨PS.imp (ps_raise hc tk (pmk_oex T.oex T.ini T.tyI F1 hr T.bnd .nil passL hg T.mgC hpa hdb he hpl)) fun D σ H h => ?_⟩
  obtain ⟨ρ, η, G, Dd, he, w, ht, l⟩ := h
  refine ⟨ρ, η, G, _, _, he, w, ht, fun d G1 v η1 H1 s1 w1 r1 q1 => ?_, l.le he⟩
  refine ⟨by show 1 ≤ 1000; decide, fun a hna => ⟨a, v, rfl, upd_same, fun dx hdx hne => ⟨rfl, dx, [(f, v)], upd_same, by rw [upd_ne hne]; exact upd_same, ?_, ?_⟩⟩⟩
  · have : dx ≠ a := hne
    rw [upd_ne this] at hdx; exact hdx
  · -- the exception's object is let go; its dict stays
    have hdx' : H1 dx = none := by rw [upd_ne hne] at hdx; exact hdx
    have eH : ∀ b, b ≠ dx → upd (del (upd (upd (upd H1 a (exo a C none)) dx (exd dx [(f, v)])) a (exo a C (some dx))) a) dx (.xd [(f, v)]) b = H1 b := by
      intro b hb
      rw [upd_ne hb]
      by_cases hba : b = a
      · rw [hba, del_same, hna]
      · rw [del_ne hba, upd_ne hba, upd_ne hb, upd_ne hba]
    have eH2 : upd (del (upd (upd (upd H1 a (exo a C none)) dx (exd dx [(f, v)])) a (exo a C (some dx))) a) dx (.xd [(f, v)]) = upd H1 dx (.xd [(f, v)]) := by
      funext b
      by_cases hb : b = dx
      · rw [hb, upd_same, upd_same]
      · rw [eH b hb, upd_ne hb]
    have st : Stp η1 H1 η1 (upd H1 dx (.xd [(f, v)])) := Stp.laid hdx'
    show E σ (.ref C) (some dx) _
    rw [eH2]
    refine l.er ⟨x, some (f, d)⟩ ρ G1 σ (.ref C) (some dx) η1 _ (s1.trans st) (w1.laid hdx') (he.step (s1.trans st)) ⟨C, T.mgC, rfl, fun f' d' e' => ?_⟩ q1
    cases e'
    exact ⟨dx, v, rfl, upd_same, Rp.step st _ _ r1⟩
end

structure Cl where
  c : Value
  i : Option Nat
  ts : Addr → Value → Option Addr → TS
def clSet (i : Option Nat) (v : Option V) (σ : St) : St := match i with
  | some j => σ.set j v
  | none => σ
def clEnds (i : Option Nat) (D : Ends) : Ends :=
  ⟨fun σ H => D.nx (clSet i none σ) H, D.rt, fun σ H => D.bk (clSet i none σ) H, fun σ H => D.ct (clSet i none σ) H⟩
def wCl (K : PySem.W.Frag) (Wout : WX) (D : Ends) : List Cl → WX
  | [] => Wout
  | k :: r => fun cls d σ H => ∃ b, PySem.W.exmOne K cls k.c = some b ∧ (b = true → ∀ a, H a = none → k.ts a cls d (clEnds k.i D) (clSet k.i (some (.ref a)) σ) H) ∧ (b = false → wCl K Wout D r cls d σ H)
/-- a clause's name and its slot -/
def ClName (X : Cx) : Option Str → Option Nat → Prop
  | none, none => True
  | some n, some i => X.N[i]? = some n ∧ X.env.kindOf n = some .local
  | _, _ => False
inductive ClsOk (X : Cx) : List ExceptHandler → List Cl → Prop
  | nil : ClsOk X [] []
  | cons {x : Str} {n : Option Str} {k : Cl} {b₀ : Stmt} {suite : List Stmt} {np hp : Pos} {hs : List ExceptHandler} {l : List Cl} (hc : Names X x k.c) (hn : ClName X n k.i)
      (run : ∀ (a : Addr) (oe : Obj) (cls : Value) (d : Option Addr) (pn : List (Addr × Obj)), Zc cls d oe → (∃ vs, oe.data = .fields vs) → PSs (X.suite a ((a, oe) :: pn)) (b₀ :: suite) (k.ts a cls d)) (r : ClsOk X hs l) :
      ClsOk X (.ExceptHandler (some (.Name x np)) n (b₀ :: suite) hp :: hs) (k :: l)
section
variable {X : Cx} {pins : List (Addr × Obj)} {D : Ends} {s : Shared} {a : Addr} {B : Heap} {cls : Value} {d : Option Addr}
/-- behind an except suite: the name goes, if there is one -/
theorem suite_back {n : Option Str} {i : Option Nat} {hp : Pos} {pn : List (Addr × Obj)} {q : Addr × Obj} {f : Flow} (ok : X.Ok) (hN : X.N.Nodup) (hn : ClName X n i) (h : SP (X.suite a (q :: (X.pn ++ pins))) [] (clEnds i D) f s) :
    match n with
    | none => SP X pins D f s
    | some m => wpAny (model X.prog X.w) X.A (do bindName X.env m .none; unbindBehindTheSuite X.env m hp) (fun _ s' => SP X pins D f s') X.xe s := by
  cases n with
  | none =>
    cases i with
    | some _ => exact hn.elim
    | none =>
      cases f with
      | ret u => obtain ⟨v, σ, H, S, r, z⟩ := h; exact ⟨v, σ, H, S.unsuite ok, r, z⟩
      | next => obtain ⟨σ, H, S, z⟩ := h; exact ⟨σ, H, S.unsuite ok, z⟩
      | brk => obtain ⟨σ, H, S, z⟩ := h; exact ⟨σ, H, S.unsuite ok, z⟩
      | cont => obtain ⟨σ, H, S, z⟩ := h; exact ⟨σ, H, S.unsuite ok, z⟩
  | some m =>
    cases i with
    | none => exact hn.elim
    | some j =>
      cases f with
      | ret u => obtain ⟨v, σ, H, S, r, z⟩ := h; exact gone_ok (S.unsuite ok) hN hn.1 hn.2 fun s' J => ⟨v, _, H, J, r, z⟩
      | next => obtain ⟨σ, H, S, z⟩ := h; exact gone_ok (S.unsuite ok) hN hn.1 hn.2 fun s' J => ⟨_, H, J, z⟩
      | brk => obtain ⟨σ, H, S, z⟩ := h; exact gone_ok (S.unsuite ok) hN hn.1 hn.2 fun s' J => ⟨_, H, J, z⟩
      | cont => obtain ⟨σ, H, S, z⟩ := h; exact gone_ok (S.unsuite ok) hN hn.1 hn.2 fun s' J => ⟨_, H, J, z⟩
/-- the clauses, one after the other, on a landed exception -/
theorem clauses_run {σ : St} {H : Hp} {sI s0 : Shared} {Wout : WX} (hst : X.stack = X.env :: X.outer) (hfr : X.env.frame = some X.env.locals) (hN : X.N.Nodup) (tk : Takes X Wout) (ok : X.Ok)
    (J : Inv X pins σ H sI) (nb : ∀ b o, sI.heap.get? b = some o → b ∉ frs X.stack → B.get? b = some o) (up : sI.heap.UpToSlots s.heap) (os : s.os = sI.os) (ag : AllBare s.gens) (na : H a = none)
    (fl : HandSPX.FlyingZ B (X.env :: X.outer) a (Zc cls d) s.heap) (nL : a ≠ X.env.locals) (nF : a ∉ X.fs) :
    ∀ {hs : List ExceptHandler} {l : List Cl}, ClsOk X hs l → wCl X.K Wout D l cls d σ H → wpAny (model X.prog X.w) X.A (handleBy (.ref a) X.env hs) (SP X pins D) X.xe s := by
  have land : ∀ {h : Heap}, HandSPX.FlyingZ B (X.env :: X.outer) a (Zc cls d) h → sI.heap.UpToSlots h → Inv X pins σ H { s with heap := h } := fun f u => J.landed nb f.1 u os ag
  obtain ⟨oe, vs, e1, e2, e3⟩ := fl.there
  have here : Inv X pins σ H s := land fl up
  intro hs l hk
  induction hk with
  | nil =>
    intro w
    have out : wpAny (model X.prog X.w) X.A (setFlight (.ref a) X.env.frame) (fun _ s' => wpAny (model X.prog X.w) X.A (throw (.ref a) : Sem Flow) (SP X pins D) X.xe s') X.xe s := by
      rw [hfr]
      exact HandSPX.setFlight_upZ fl fun h' g u => wpAny_throw (tk _ _ ⟨a, B, sI, pins, σ, H, cls, d, rfl, J, nb, up.trans u, .inr (.inr (by rw [hst]; exact g)), na, os, ag, w⟩)
    refine wpAny_handleBy_nil ?_
    obtain ⟨_, _, _, o2, v2, T, oT, ts, f1, _, f2, f3, _⟩ := id fl
    unfold PySem.passOn
    refine wpAny_bind (wpAny_field f1 f2 f3 ?_)
    have nz : ¬ ((Value.ref T == Value.none) = true) := by simp
    rw [if_neg nz]
    first
      | exact wpAny_bind out
      | exact wpAny_bind (wpAny_pure (wpAny_bind out))
  | @cons x n k b₀ suite np hp hs' l' hc hn run r ih =>
    intro w
    obtain ⟨b, m, yes, no⟩ := w
    have S := here.suite e1 e3 na nL nF
    have ty : PySem.W.Looks (model X.prog X.w) s.heap (typeOf (.ref a)) cls := fun _ _ _ _ kp z => wpAny_typeOf_ref (kp _ _ e1) (by rw [e2.1]; exact z)
    have mt := PySem.W.exm_one (M := model X.prog X.w) here.kIn ty m
    have name : ∀ {Q : Value → Shared → Prop} {E : Value → Shared → Prop}, Q k.c s → wpAny (model X.prog X.w) (X.A.mark (some (.ref a))) (eval (.Name x np) X.env) Q E s := fun {Q E} z => by
      obtain ⟨g, db, hm | ⟨hm, hv, nn⟩⟩ := hc
      · exact ld_glob (X := X.suite a ((a, oe) :: (X.pn ++ pins))) S g hm z db
      · exact ld_blt (X := X.suite a ((a, oe) :: (X.pn ++ pins))) S g hm hv z nn db
    refine wpAny_handleBy_cons (codeAny_handlers_test (name (mt.here ?_))) (fun z => by cases z)
    cases b with
    | false => exact ih (no rfl)
    | true =>
      have fin := fun (oe4 : Obj) (f : Flow) (s6 : Shared) => suite_back (X := X) (pins := pins) (D := D) (s := s6) (a := a) (n := n) (i := k.i) (hp := hp) (pn := X.pn) (q := (a, oe4)) (f := f) ok hN hn
      cases hnn : n with
      | none =>
        subst hnn
        refine codeAny_handlers_suite (HandSPX.lands_againZ fl fun h4 fl4 up4 => ?_)
        obtain ⟨oe4, vs4, g1, g2, g3⟩ := fl4.there
        have S4 := (land fl4 (up.trans up4)).suite g1 g3 na nL nF
        have st : clSet k.i (some (.ref a)) σ = σ := by
          cases hi : k.i with
          | none => rfl
          | some j => rw [hi] at hn; exact hn.elim
        have y := yes rfl a na
        rw [st] at y
        exact wpAny_mono ((run a oe4 cls d (X.pn ++ pins) g2 ⟨_, g3⟩).run [] _ _ H _ S4 y) (fun f s6 z => fin oe4 f s6 z) (fun _ _ z => z.elim)
      | some m' =>
        subst hnn
        cases hi : k.i with
        | none => rw [hi] at hn; exact hn.elim
        | some j =>
          have hn' := hn
          rw [hi] at hn'
          refine codeAny_handlers_suite_as (HandSPX.lands_againZ fl fun h4 fl4 up4 => ?_)
          obtain ⟨oe4, vs4, g1, g2, g3⟩ := fl4.there
          have S4 := (land fl4 (up.trans up4)).suite g1 g3 na nL nF
          refine store_ok (X := X.suite a ((a, oe4) :: (X.pn ++ pins))) (v := .ref a) S4 hN hn'.1 (.inl hn'.2) rfl (fun s5 S5 => ?_) (.inr hn'.2)
          have y := yes rfl a na
          rw [hi] at y
          have q := (run a oe4 cls d (X.pn ++ pins) g2 ⟨_, g3⟩).run [] s5 _ H _ S5 y
          refine wpAny_mono q (fun f s6 z => ?_) (fun _ _ z => z.elim)
          rw [← hi] at z
          exact fin oe4 f s6 z
theorem ps_try_cl {body : List Stmt} {h₀ : ExceptHandler} {hs : List ExceptHandler} {l : List Cl} {pos : Pos} {tb : WX → TS} {Wout : WX} (hst : X.stack = X.env :: X.outer) (hfr : X.env.frame = some X.env.locals) (hN : X.N.Nodup) (tk : Takes X Wout)
    (hb : ∀ (W : WX) (pn : List (Addr × Obj)) (xe : Value → Shared → Prop), Takes (X.tr pn xe) W → PassesOwn (model X.prog X.w) X.A X.env xe → PSs (X.tr pn xe) body (tb W))
    (hh : ClsOk X (h₀ :: hs) l) : PS X (.Try body (h₀ :: hs) [] [] pos) (fun D σ H => tb (wCl X.K Wout D l) D σ H) := by
  refine ⟨fun pins s σ H D I h => wpAny_Try_except ?_⟩
  have ok := I.ok
  have hA : X.A.frames = some (X.env :: X.outer) := by rw [ok.frames, hst]
  let Xe : Value → Shared → Prop := fun e s₁ => wpAny (model X.prog X.w) X.A (noteFrame e X.env) (fun _ s₂ => wpAny (model X.prog X.w) X.A (setFlight e none) (fun _ s₃ => wpAny (model X.prog X.w) X.A (handleBy e X.env (h₀ :: hs)) (SP X pins D) X.xe s₃) X.xe s₂) X.xe s₁
  have caught : Takes (X.tr (X.pn ++ pins) Xe) (wCl X.K Wout D l) := by
    rintro u s' ⟨a, B, sI, pins', σ', H', cls, d, rfl, J', nb, up, sky, na, os, ag, w⟩
    have J : Inv X pins σ' H' sI := J'.ofTry ok
    have sky' : Sky B (X.env :: X.outer) a (Zc cls d) X.env.locals s'.heap := by rw [← hst]; exact sky
    refine Sky.land Zc.steady hA hfr sky' fun h3 fl up3 => ?_
    obtain ⟨oe, vs, e1, _, e3⟩ := fl.there
    have nfr : a ∉ frs (X.env :: X.outer) := fun hm => by
      obtain ⟨_, o', e', nf⟩ := fl.2.2.1.mem hm
      rw [e1] at e'; cases e'
      exact nf _ e3
    refine clauses_run (s := { s' with heap := h3 }) (s0 := s') hst hfr hN tk ok J nb (up.trans up3) os ag na fl (fun z => nfr ?_) (fun z => nfr ?_) hh w
    · exact List.mem_filterMap.mpr ⟨X.env, List.mem_cons_self, by rw [hfr, z]⟩
    · obtain ⟨e, he, q⟩ := List.mem_filterMap.mp z
      exact List.mem_filterMap.mpr ⟨e, List.mem_cons_of_mem _ he, q⟩
  refine wpAny_mono ((hb _ (X.pn ++ pins) Xe caught PassesOwn.looking).run [] s σ H D (I.toTry _) h) (fun f s1 q => ?_) (fun _ _ z => z)
  cases f with
  | next => obtain ⟨σ', H', K', z⟩ := q; exact wpAny_execs_nil ⟨σ', H', K'.ofTry ok, z⟩
  | brk => obtain ⟨σ', H', K', z⟩ := q; exact ⟨σ', H', K'.ofTry ok, z⟩
  | cont => obtain ⟨σ', H', K', z⟩ := q; exact ⟨σ', H', K'.ofTry ok, z⟩
  | ret u => obtain ⟨v, σ', H', K', r, z⟩ := q; exact ⟨v, σ', H', K'.ofTry ok, r, z⟩
end

structure ClD where
  c : Str
  i : Option Nat
  t : Addr → Option Addr → TSd
def clSetD (i : Option Nat) (v : Option Y.D) (ρ : Rho) : Rho := match i with
  | some j => ρ.set j v
  | none => ρ
def clEndsD (i : Option Nat) (D : EndsD) : EndsD :=
  ⟨fun ρ G => D.nx (clSetD i none ρ) G, D.rt, fun ρ G => D.bk (clSetD i none ρ) G, fun ρ G => D.ct (clSetD i none ρ) G, fun _ _ _ => False⟩
/-- the clause's suite on the error e -/
def clRunD (k : ClD) (e : Er) (D : EndsD) (ρ : Rho) (G : GS) : Prop := match k.i with
  | none => ∀ a od, k.t a od (clEndsD none D) ρ G
  | some j => match e.arg with
    | some (f, d) => e.cls = k.c ∧ ∀ a dd, k.t a (some dd) (clEndsD (some j) D) (ρ.set j (some (.exn a dd f d))) G
    | none => False
/-- which class is under which: told once for the errors of a program -/
def handleD (sub : Str → Str → Bool) (D : EndsD) : List ClD → Er → Rho → GS → Prop
  | [], e, ρ, G => D.er e ρ G
  | k :: r, e, ρ, G => if sub e.cls k.c = true then clRunD k e D ρ G else handleD sub D r e ρ G
def tTryD (sub : Str → Str → Bool) (ok : Str → Bool) (t : TSd) (l : List ClD) : TSd := fun D ρ G => t { D with er := fun e ρ' G' => ok e.cls = true ∧ handleD sub D l e ρ' G' } ρ G
structure SubOk (X : Cx) (sub : Str → Str → Bool) (ok : Str → Bool) (hs : List Str) : Prop where
  at_ : ∀ x C h C', ok x = true → h ∈ hs → X.mg x = some (.ref C) → X.mg h = some (.ref C') → PySem.W.exmOne X.K (.ref C) (.ref C') = some (sub x h)
inductive ClsD (X : Cx) : List ExceptHandler → List ClD → Prop
  | nil : ClsD X [] []
  | cons {x : Str} {C : Addr} {n : Option Str} {k : ClD} {b₀ : Stmt} {suite : List Stmt} {np hp : Pos} {hs : List ExceptHandler} {l : List ClD} (hx : x = k.c) (hg : Gl X x) (hm : X.mg x = some (.ref C)) (hdb : (x == ("__debug__" : Str)) = false) (hn : ClName X n k.i)
      (run : ∀ (a : Addr) (oe : Obj) (cls : Value) (d : Option Addr) (pn : List (Addr × Obj)), Zc cls d oe → (∃ vs, oe.data = .fields vs) → (k.i ≠ none → cls = .ref C) → PSsd (X.suite a ((a, oe) :: pn)) EF (b₀ :: suite) (k.t a d)) (r : ClsD X hs l) :
      ClsD X (.ExceptHandler (some (.Name x np)) n (b₀ :: suite) hp :: hs) (k :: l)
section
variable {X : Cx} {E : St → XK}
/-- a clause of data as a clause -/
def toCl (X : Cx) (k : ClD) (C : Addr) : Cl := ⟨.ref C, k.i, fun a cls d D σ H => (k.i ≠ none → cls = .ref C) ∧ lS X.K X.mg EF (k.t a d) D σ H⟩
theorem pss_if_ {Y : Cx} {st : List Stmt} {P : Prop} {t : TS} (h : P → PSs Y st t) : PSs Y st (fun D σ H => P ∧ t D σ H) := ⟨fun pins s σ H D I q => (h q.1).run pins s σ H D I q.2⟩
theorem ClsD.up {hs : List ExceptHandler} {l : List ClD} (h : ClsD X hs l) : ∃ l' : List Cl, ClsOk X hs l' ∧ ∀ (sub : Str → Str → Bool) (ok : Str → Bool), SubOk X sub ok (l.map (·.c)) → ∀ {Wout : WX} {D : Ends} {Dd : EndsD} {η : Eta} {H : Hp} {η' : Eta} {H' : Hp} {σ' : St} {ρ' : Rho} {G' : GS} {e : Er} {cls : Value} {od : Option Addr},
    Lnk X.K X.mg E η H Dd D → (∀ cls od σ H, E σ cls od H → Wout cls od σ H) → Stp η H η' H' → W X.K X.mg η' G' H' → EnvR X.K η' H' σ' ρ' → ErR X.K X.mg η' H' cls od e → ok e.cls = true → handleD sub Dd l e ρ' G' → wCl X.K Wout D l' cls od σ' H' := by
  induction h with
  | nil =>
    refine ⟨[], .nil, fun sub ok so {Wout D Dd η H η' H' σ' ρ' G' e cls od} l hW s w he r hk q => hW _ _ _ _ (l.er e ρ' G' σ' cls od η' H' s w he r q)⟩
  | @cons x C n k b₀ suite np hp hs l hx hg hm hdb hn run r ih =>
    obtain ⟨l', ok', step⟩ := ih
    refine ⟨toCl X k C :: l', .cons ⟨hg, hdb, .inl hm⟩ hn (fun a oe cls d pn hz hf => pss_if_ fun c => (run a oe cls d pn hz hf c).run) ok', fun sub ok so {Wout D Dd η H η' H' σ' ρ' G' e cls od} lk hW s w he r hk q => ?_⟩
    obtain ⟨Ce, h1, h2, h3⟩ := id r
    have m : PySem.W.exmOne X.K cls (.ref C) = some (sub e.cls k.c) := by
      rw [h2]; exact so.at_ e.cls Ce k.c C hk (by simp) h1 (hx ▸ hm)
    refine ⟨sub e.cls k.c, m, fun hb a ha => ?_, fun hb => ?_⟩
    · have q' : clRunD k e Dd ρ' G' := by
        have : (if sub e.cls k.c = true then clRunD k e Dd ρ' G' else handleD sub Dd l e ρ' G') := q
        rw [if_pos hb] at this; exact this
      unfold clRunD at q'
      cases hi : k.i with
      | none =>
        rw [hi] at q'
        refine ⟨fun z => absurd hi z, ρ', η', G', clEndsD none Dd, by show EnvR _ _ _ (clSet k.i _ _) _; rw [hi]; exact he, w, q' a od, ?_⟩
        have l2 := lk.step s
        show Lnk _ _ _ _ _ _ (clEnds k.i D)
        rw [hi]
        exact ⟨l2.nx, l2.rt, l2.bk, l2.ct, fun _ _ _ _ _ _ _ _ _ _ _ _ z => z⟩
      | some j =>
        rw [hi] at q'
        cases ea : e.arg with
        | none => rw [ea] at q'; exact q'.elim
        | some fd =>
          obtain ⟨f, d⟩ := fd
          rw [ea] at q'
          obtain ⟨dd, v, e1, e2, r2⟩ := h3 f d ea
          subst e1
          have hset : EnvR X.K η' H' (clSet k.i (some (.ref a)) σ') (ρ'.set j (some (.exn a dd f d))) := by
            rw [hi]; exact he.set j (d := .exn a dd f d) ⟨rfl, v, e2, r2⟩
          have hcl : cls = .ref C := by
            rw [h2]
            have e1 := h1
            rw [q'.1, ← hx, hm] at e1
            cases e1; rfl
          refine ⟨fun _ => hcl, _, η', G', clEndsD (some j) Dd, hset, w, q'.2 a dd, ?_⟩
          have l2 := lk.step s
          show Lnk _ _ _ _ _ _ (clEnds k.i D)
          rw [hi]
          exact ⟨fun ρ3 G3 σ3 η3 H3 s3 w3 e3 q3 => l2.nx _ G3 _ η3 H3 s3 w3 (e3.unset j) q3, l2.rt, fun ρ3 G3 σ3 η3 H3 s3 w3 e3 q3 => l2.bk _ G3 _ η3 H3 s3 w3 (e3.unset j) q3,
            fun ρ3 G3 σ3 η3 H3 s3 w3 e3 q3 => l2.ct _ G3 _ η3 H3 s3 w3 (e3.unset j) q3, fun _ _ _ _ _ _ _ _ _ _ _ _ z => z⟩
    · have q' : handleD sub Dd l e ρ' G' := by
        have : (if sub e.cls k.c = true then clRunD k e Dd ρ' G' else handleD sub Dd l e ρ' G') := q
        rw [if_neg (by rw [hb]; decide)] at this; exact this
      exact step sub ok ⟨fun x C h C' h0 hm => so.at_ x C h C' h0 (List.mem_cons_of_mem _ hm)⟩ lk hW s w he r hk q'
theorem psd_try {body : List Stmt} {h₀ : ExceptHandler} {hs : List ExceptHandler} {l : List ClD} {pos : Pos} {t : TSd} {sub : Str → Str → Bool} {okc : Str → Bool} (hst : X.stack = X.env :: X.outer) (hfr : X.env.frame = some X.env.locals) (hN : X.N.Nodup) (tk : Takes X (WofE E))
    (so : SubOk X sub okc (l.map (·.c)))
    (hb : ∀ (W : WX) (pn : List (Addr × Obj)) (xe : Value → Shared → Prop), Takes (X.tr pn xe) W → PassesOwn (model X.prog X.w) X.A X.env xe → PSsd (X.tr pn xe) (fun σ cls d H => W cls d σ H) body t)
    (hh : ClsD X (h₀ :: hs) l) : PSd X E (.Try body (h₀ :: hs) [] [] pos) (tTryD sub okc t l) := by
  obtain ⟨l', ok', step⟩ := hh.up (E := E)
  refine ⟨PS.imp (ps_try_cl (tb := fun W => lS X.K X.mg (fun σ cls d H => W cls d σ H) t) hst hfr hN tk (fun W pn xe h1 h2 => (hb W pn xe h1 h2).run) ok') fun D σ H h => ?_⟩
  obtain ⟨ρ, η, G, Dd, he, w, ht, lk⟩ := h
  refine ⟨ρ, η, G, _, he, w, ht, lk.nx, lk.rt, lk.bk, lk.ct, ?_⟩
  intro e ρ' G' σ' cls od η' H' s' w' he' r ⟨k1, k2⟩
  exact step sub okc so lk (fun _ _ _ _ h => h) s' w' he' r k1 k2
/-- e.f in an except suite -/
def tExnD (a : Addr) (od : Option Addr) (f : Str) (te : TEd) : TEd := fun ρ G Q Ed => te ρ G (fun x G1 => match x with
  | .exn a' dd g d => a' = a ∧ od = some dd ∧ g = f ∧ Q d G1
  | _ => False) Ed
theorem ped_exn {a C : Addr} {oe : Obj} {cls : Value} {d : Option Addr} {pn : List (Addr × Obj)} {e : Expr} {te : TEd} {pos : Pos} {n : Str} (T : XfC X.K C) (hno : PySem.W.findIn X.K (.ref C) n = some none)
    (hz : Zc cls d oe) (hf : ∃ vs, oe.data = .fields vs) (hcl : cls = .ref C) (he : PEd (X.suite a ((a, oe) :: pn)) EF e te) (hb : attributeBase e n X.env (eval e X.env) = eval e X.env := by rfl) :
    PEd (X.suite a ((a, oe) :: pn)) EF (.Attribute e n pos) (tExnD a d n te) := ⟨PE.imp (pe_xf T hno hz hf he.run hb) fun σ H Q h => by
  obtain ⟨ρ, η, G, Qd, Ed, he, w, ht, hq, hE⟩ := h
  refine ⟨ρ, η, G, _, Ed, he, w, ht, fun x G1 v η1 H1 s1 w1 r1 q1 => ?_, hE⟩
  cases x with
  | exn a' dd g d' =>
    obtain ⟨rfl, rfl, rfl, q⟩ := q1
    obtain ⟨rfl, u, hd, ru⟩ := r1
    exact ⟨rfl, hcl, dd, _, u, rfl, hd, by simp [List.lookup], (hq.step s1).now w1 ru q⟩
  | _ => exact q1.elim⟩
end
end Y


namespace PySem
open Sem (wp)
theorem meets_enum_one {v : Value} {o : Obj} {H : Heap → Prop} (B : Begins v o H) :
    Meets (Builtin.«enumerate.__new__» ⟨[.type "enumerate", v], []⟩) (fun _ R s => H s.heap ∧
      R (.ok (.ret (.ref (s.heap.push o).objs.size))) { s with heap := (s.heap.push o).push { cls := .type "enumerate", data := .fields #[.none, .bool false, .ref s.heap.objs.size, rawInt 0, .none, .none] } }) :=
  .of_wp fun prog w A R s hh => by
    obtain ⟨hp, g, d, tk, os⟩ := s
    obtain ⟨h1, h⟩ := hh
    have hsub := sub_enumerate
    have begin1 : ∀ {A' : Around} {E : Value → Shared → Prop} {Q : Value → Shared → Prop}, Q (.ref hp.objs.size) ⟨hp.push o, g, d, tk, os⟩ → wpAny (model prog w) A' (pyIter v) Q E ⟨hp, g, d, tk, os⟩ :=
      fun q => B.iter prog w _ _ _ _ h1 q
    wp_walk using begin1
    refine wpAny_stack_any fun st => wpAny_pure ?_
    split
    · rename_i c _ _ _ _ _
      cases (c == Value.type "enumerate") <;> (wp_walk using begin1; exact ⟨_, rfl, h⟩)
    · wp_walk using begin1
      exact ⟨_, rfl, h⟩
end PySem

namespace Y
open PySem PySem.Spec L2
open PyProof.Rows hiding St

section
variable {prog : Program} {w : World} {A : Around} {E : Value → Shared → Prop} {s : Shared}
theorem call_enum_tuple {t : Addr} {items : Array Value} {Q : Value → Shared → Prop} (ht : s.heap.IsTuple t items)
    (h : ∀ h', IsEnum h' (s.heap.objs.size + 1) s.heap.objs.size ((0 : Nat) : Int) .none → h'.IsTupleIter s.heap.objs.size t 0 → (∀ b o, s.heap.get? b = some o → h'.get? b = some o) → Q (.ref (s.heap.objs.size + 1)) { s with heap := h' }) :
    wpAny (model prog w) A (call (.type "enumerate") [.ref t]) Q E s := by
  refine callType_new F.called_enumerate (by decide) (F.typeCall_enumerate_1 _) (F.newCall_enumerate_1 _) (fun obj => F.args_object_init_2 obj _) F.entry_enumerate_new (meets_enum_one (begins_tuple t items)) ⟨ht, ?_⟩
  let o1 : Obj := { cls := .type "tuple_iterator", data := .fields #[.ref t, .int 0 0] }
  let o2 : Obj := { cls := .type "enumerate", data := .fields #[.none, .bool false, .ref s.heap.objs.size, rawInt 0, .none, .none] }
  have hz : (s.heap.push o1).objs.size = s.heap.objs.size + 1 := Heap.size_push ..
  have g2 : ((s.heap.push o1).push o2).get? (s.heap.objs.size + 1) = some o2 := by
    have := Heap.get?_push_size (s.heap.push o1) (o := o2) rfl
    rw [hz] at this; exact this
  show _ ∧ _
  rw [hz]
  exact ⟨⟨_, g2, rfl⟩, h _ g2 ⟨_, Heap.get?_push_of_some _ (Heap.get?_push_size _ rfl), rfl, rfl⟩ fun b x y => Heap.get?_push_of_some _ (Heap.get?_push_of_some _ y)⟩
end
/-- a tuple's items, each in a new pair with its place -/
def ItEnT (K : PySem.W.Frag) (a : Addr) : It :=
  ⟨fun i H => ∃ (xs : List V) (x : V), SqT K H a xs ∧ xs[i]? = some x, fun i H v H' => ∃ T x, v = .ref T ∧ H T = none ∧ H' = upd H T (.tup [.int (i : Nat), x]) ∧ ∀ xs, SqT K H a xs → xs[i]? = some x,
    fun i H => ∃ xs : List V, SqT K H a xs ∧ xs.length ≤ i⟩
theorem turn_enT {P : Program} {w : World} {K : PySem.W.Frag} {elts : List Expr} {kk : Nat} {tpos : Pos} (a e it : Addr) :
    Turn P w K (.Tuple elts kk tpos) (ItEnT K a) [e, it] e (fun i h => (∃ old, IsEnum h e it ((i : Nat) : Int) old) ∧ h.IsTupleIter it a i ∧ e ≠ it) where
  mem := List.mem_cons_self
  obj := fun i h st b hb => by
    obtain ⟨⟨old, he⟩, ⟨o, ho, hc, hd⟩, _⟩ := st
    rcases List.mem_cons.mp hb with z | z
    · subst z; exact ⟨_, he, fun v q => nomatch q⟩
    · have z' : b = it := by simpa using z
      subst z'; exact ⟨o, ho, fun v q => by rw [hd] at q; cases q⟩
  keep := fun i h h' st k => by
    obtain ⟨⟨old, he⟩, hi, ne⟩ := st
    exact ⟨⟨old, k e List.mem_cons_self _ he⟩, hi.at fun o q => k it (List.mem_cons_of_mem _ List.mem_cons_self) o q, ne⟩
  item := fun X hP hw hK hc i pins s σ H E I hf st hg => by
    subst hP hw hK
    obtain ⟨⟨old, he⟩, hit, ne⟩ := st
    obtain ⟨xs, x, hq, hx⟩ := hg
    obtain ⟨its, rv, p, hz⟩ := I.tuple hq
    obtain ⟨u, hu, ru⟩ := rv.get hx
    have hh : X.A.in1.handled = none := I.ok.hd hc
    have ea : e ≠ a := fun z => by
      obtain ⟨o, ho, hcl, _⟩ := p
      have he' : s.heap.get? e = some _ := he
      rw [z, ho] at he'; cases he'; exact absurd (Value.type.inj hcl) (by decide)
    have ai : a ≠ it := fun z => by
      obtain ⟨o, ho, hcl, _⟩ := p
      obtain ⟨o', ho', hcl', _⟩ := hit
      rw [z, ho'] at ho; cases ho; rw [hcl'] at hcl; exact absurd (Value.type.inj hcl) (by decide)
    have hlt : i < its.toArray.size := by simpa using (List.getElem?_eq_some_iff.mp hu).1
    have hel : e < s.heap.objs.size := Heap.lt_size he
    refine wpAny_pyNext_enum_itemD (Draws.tuple hh it a ai its.toArray) he ⟨hit, p⟩ hlt ne (fun z => ?_) fun y h' tk hy ho hst hT hsz hk => ?_
    · rcases List.mem_cons.mp z with z | z
      · exact ne z
      · exact ea (by simpa using z)
    have ey : y = u := by
      have : its[i]? = some y := by simpa using hy
      rw [hu] at this; cases this; rfl
    subst ey
    refine ⟨_, rfl, wpAny_letOwnedTupleGo_enum (s := { s with heap := h', toks := tk + 1 }) ho fun h'' he' sb => ?_⟩
    have hT2 : h''.get? s.heap.objs.size = some { cls := .type "tuple", data := .seq #[.int i tk, y] } := (sb.2 _ (Nat.ne_of_gt hel)).trans hT
    have new : ObjOk X.prog X.w (upd H s.heap.objs.size (.tup [.int (i : Nat), x])) h'' s.heap.objs.size (.tup [.int (i : Nat), x]) :=
      ⟨by show 2 ≤ sizeLine; decide, [.int i tk, y], .cons ⟨_, rfl⟩ (.cons ru .nil), ⟨_, hT2, rfl, _, rfl⟩⟩
    have I1 : Inv X pins σ (upd H s.heap.objs.size (.tup [.int (i : Nat), x])) { s with heap := h'', toks := tk + 1 } :=
      I.turnedNew (ch := [e, it]) (fun b ob hb q => (sb.2 b (fun z => hb (z ▸ List.mem_cons_self))).trans (hk b ob (fun z => hb (z ▸ List.mem_cons_self)) (fun z => hb (by simp [z])) q)) hf (Nat.le_refl _) new
    have hlast : ((i + 1 : Nat) : Int) = (i : Int) + 1 := by omega
    refine ⟨.ref s.heap.objs.size, _, I1, rfl, ⟨_, x, rfl, I.hok.fresh (Nat.le_refl _), rfl, fun ys hy2 => by rw [I.tuple_inj hy2 hq]; exact hx⟩, ⟨⟨y, by rw [hlast]; exact he'⟩, hst.1.at fun o q => (sb.2 it (Ne.symm ne)).trans q, ne⟩, fun b hb => ?_⟩
    have hb' : b < s.heap.objs.size := by
      rcases List.mem_cons.mp hb with z | z
      · rw [z]; exact hel
      · have z' : b = it := by simpa using z
        rw [z']; obtain ⟨_, q, _⟩ := hit; exact Heap.lt_size q
    rw [upd_ne (Nat.ne_of_lt hb')]
    exact (hf b hb).1
  done := fun X hP hw hK hc i pins s σ H E I hf st hg => by
    subst hP hw hK
    obtain ⟨⟨old, he⟩, hit, ne⟩ := st
    obtain ⟨xs, hq, hx⟩ := hg
    obtain ⟨its, rv, p, hz⟩ := I.tuple hq
    have ai : a ≠ it := fun z => by
      obtain ⟨o, ho, hcl, _⟩ := p
      obtain ⟨o', ho', hcl', _⟩ := hit
      rw [z, ho'] at ho; cases ho; rw [hcl'] at hcl; exact absurd (Value.type.inj hcl) (by decide)
    obtain ⟨f0, f1, f2, f3, f4, f5⟩ := hf it (List.mem_cons_of_mem _ List.mem_cons_self)
    have hl := rv.length
    -- at its end the iterator draws nothing more
    have hh : X.A.in1.handled = none := I.ok.hd hc
    have D : Draws X.prog X.w X.A.in1 it [it, a] i (fun j v => its.toArray[j]? = some v ∧ j < i) (fun j h => h.IsTupleIter it a j ∧ h.IsTuple a its.toArray ∧ j = i) :=
      { live := fun _ _ st => let ⟨o, ho, _⟩ := st.1; ⟨o, ho⟩
        frame := fun _ _ _ st hk => ⟨st.1.at fun o e => hk it (by simp) o e, st.2.1.at fun o e => hk a (by simp) o e, st.2.2⟩
        item := fun j s Q E hj st _ => absurd st.2.2 (Nat.ne_of_lt hj)
        done := fun s Q E st hE => wpAny_nextOf_tuple_end hh st.1 st.2.1 (by simp; omega) hE }
    exact wpAny_pyNext_enum_endD D he ⟨hit, p, rfl⟩ fun h' eb => ⟨rfl, I.turned (t' := s.toks) (fun b o hb q => eb b o hb q) f0 f1 f3 f4 f5⟩
  self := fun A i s Q E st h => let ⟨⟨_, he⟩, _⟩ := st; wpAny_pyIter_enum he h
def iEnumA (K : PySem.W.Frag) (ta : TA) : TI := fun σ H R => ta σ H fun vs H1 => ∃ a, vs = [.ref a] ∧ ((∃ xs, SqL K H1 a xs ∧ R (Ite K a) H1) ∨ (∃ xs, SqT K H1 a xs ∧ R (ItEnT K a) H1))
section
variable {X : Cx} {E : St → XK} {e : Expr} {p pos tpos : Pos} {elts : List Expr} {kk : Nat}
theorem pi_enumA {ta : TA} (hg : Gl X "enumerate") (hm : X.mg "enumerate" = none) (ha : PA X [e] ta) (hs : starEach [e] X.env = [(false, eval e X.env)] := by rfl) :
    PI X (.Tuple elts kk tpos) (.Call (.Name "enumerate" p) [e] [] pos) (iEnumA X.K ta) := by
  refine ⟨fun pins s σ H R I h => Call_ (ld_blt I hg hm boot_enumerate (PyProof.Rows.callWith_type1 (thn (ha.run pos pins s σ H _ I h) fun us s1 hx => ?_) hs rfl))⟩
  obtain ⟨vs, H1, I1, r1, a, rfl, q⟩ := hx
  obtain rfl := Vals.ref1 r1
  have fresh : ∀ b ∈ [s1.heap.objs.size + 1, s1.heap.objs.size], FpOk X pins H1 b := fun b hb => by
    have hle : s1.heap.objs.size ≤ b := by
      rcases List.mem_cons.mp hb with z | z
      · omega
      · have z' : b = s1.heap.objs.size := by simpa using z
        omega
    exact I1.fpOk hle (I1.hok.fresh hle)
  rcases q with ⟨xs, hq, q⟩ | ⟨xs, hq, q⟩
  · obtain ⟨its, rv, pl, hz⟩ := I1.list hq
    refine call_enumerate_list pl.isList fun h' he hit hsz hk => wpAny_pyIter_enum he ?_
    exact ⟨_, _, _, _, H1, rfl, I1.kept (t' := s1.toks) hk, turn_enum a (s1.heap.objs.size + 1) s1.heap.objs.size, ⟨⟨.none, he⟩, hit, Nat.succ_ne_self _⟩, fresh, q⟩
  · obtain ⟨its, rv, pl, hz⟩ := I1.tuple hq
    refine call_enum_tuple pl fun h' he hit hk => wpAny_pyIter_enum he ?_
    exact ⟨_, _, _, _, H1, rfl, I1.kept (t' := s1.toks) hk, turn_enT a (s1.heap.objs.size + 1) s1.heap.objs.size, ⟨⟨.none, he⟩, hit, Nat.succ_ne_self _⟩, fresh, q⟩
/-- (0, x), (1, y), .. -/
def enumD : Nat → List D → List D
  | _, [] => []
  | i, d :: ds => .tup [.int (i : Int), d] :: enumD (i + 1) ds
theorem enumD_length : ∀ (i : Nat) (ds : List D), (enumD i ds).length = ds.length
  | _, [] => rfl
  | i, d :: ds => by simp [enumD, enumD_length (i + 1) ds]
theorem enumD_get : ∀ (ds : List D) (i j : Nat) (d : D), ds[j]? = some d → (enumD i ds)[j]? = some (.tup [.int ((i + j : Nat) : Int), d])
  | [], i, j, d, h => by simp at h
  | x :: ds, i, 0, d, h => by simp at h; subst h; simp [enumD]
  | x :: ds, i, j + 1, d, h => by
    have := enumD_get ds (i + 1) j d (by simpa using h)
    simp only [enumD, List.getElem?_cons_succ]
    rw [this]
    congr 4
    omega
def iEnumD (te : TAd) : TId := fun ρ G Q Ed => te ρ G (fun ds G1 => match ds with
  | [d] => match d with | .tup xs => Q (enumD 0 xs) G1 | .lst xs => Q (enumD 0 xs) G1 | _ => False
  | _ => False) Ed
theorem enum_it {K : PySem.W.Frag} {mg : Str → Option Value} {η' : Eta} {H' : Hp} {ds : List D} {vs : List V} {i : Nat} {T : Addr} {x : V} (r : RpL K η' H' ds vs) (hT : H' T = none) (hx : vs[i]? = some x) :
    ∃ d, (enumD 0 ds)[i]? = some d ∧ Stp η' H' η' (upd H' T (.tup [.int (i : Nat), x])) ∧ (∀ G, W K mg η' G H' → W K mg η' G (upd H' T (.tup [.int (i : Nat), x]))) ∧ Rp K η' (upd H' T (.tup [.int (i : Nat), x])) d (.ref T) := by
  obtain ⟨d, h1, h2⟩ := r.getV hx
  refine ⟨_, enumD_get ds 0 i d h1, Stp.laid hT, fun G w => w.laid hT, Rp.tupNew hT ⟨_, _, rfl, ?_, _, _, rfl, h2, rfl⟩⟩
  show V.int _ = V.int _
  simp
theorem pid_enum (hm : X.mg "enumerate" = none) (hg : Gl X "enumerate") {ta : TAd} (ha : PAd X E [e] ta) (hs : starEach [e] X.env = [(false, eval e X.env)] := by rfl) :
    PId X E (.Tuple elts kk tpos) (.Call (.Name "enumerate" p) [e] [] pos) (iEnumD ta) := ⟨PI.imp (pi_enumA hg hm ha.run hs) fun σ H R h => by
  obtain ⟨ρ, η, G, Qd, Ed, he, w, ht, hq, hE⟩ := h
  refine ⟨ρ, η, G, _, Ed, he, w, ht, fun ds G1 vs η1 H1 s1 w1 r1 q1 => ?_, hE⟩
  split at q1
  · rename_i d
    obtain ⟨v, rfl, rr⟩ := rpl1 r1
    clear r1
    split at q1
    · rename_i xs
      obtain ⟨a, us, rfl, hq', hr⟩ := rr
      refine ⟨a, rfl, .inr ⟨us, hq', hq _ G1 _ η1 H1 s1 w1 ?_ q1⟩⟩
      intro η' H' i sw
      have hl : SqT X.K H' a us := SqT.stepw sw hq'
      have e := hr.length
      rw [enumD_length]
      refine ⟨fun h => ⟨us, us[i]'(by omega), hl, List.getElem?_eq_getElem _⟩, fun h => ⟨us, hl, by omega⟩, fun x H'' y hi => ?_⟩
      obtain ⟨T, x', rfl, hT, rfl, hx⟩ := y
      exact enum_it (RpL.stepw sw _ _ hr) hT (hx us hl)
    · rename_i xs
      obtain ⟨a, us, rfl, ho, hq', hr⟩ := rr
      refine ⟨a, rfl, .inl ⟨us, SqL.of hq', hq _ G1 _ η1 H1 s1 w1 ?_ q1⟩⟩
      intro η' H' i sw
      have hl : SqL X.K H' a us := SqL.of (sw.keep _ _ hq' (.inl ho))
      have e := hr.length
      rw [enumD_length]
      refine ⟨fun h => ⟨us, us[i]'(by omega), hl, List.getElem?_eq_getElem _⟩, fun h => ⟨us, hl, by omega⟩, fun x H'' y hi => ?_⟩
      obtain ⟨T, x', rfl, hT, rfl, hx⟩ := y
      exact enum_it (RpL.stepw sw _ _ hr) hT (hx us hl)
    · exact q1.elim
  · exact q1.elim⟩
end

section
variable {X : Cx} {E : St → XK} {elt tg iter tg1 iter1 : Expr} {ifs ifs1 : List Expr} {scope : Scope} {own : List (Str × Nat)} {vs1 : List Nat} {pos : Pos} {wi wi1 : TId} {g g1 : TG} {gd gd1 : TGd} {tt tt1 : TTd} {te : TEd}
theorem ped_lc2 (hc : X.calm = true) (hN : X.N.Nodup) (hi : PId X E tg iter wi) (ok : BlkOk X.N X.env.scope scope own) (hv : ∀ i ∈ vs1, i ∈ own.map (·.2))
    (hg : ∀ (s : Shared) (H : Hp) (C : Addr) (cl : List (Str × Addr)) (fp : List Addr), PG (X.blk s H scope (compEnvC scope cl C X.env) fp) tg g) (hct : CTg X.K X.mg (own.map (·.2)) g gd)
    (ht : ∀ (s : Shared) (H : Hp) (C : Addr) (cl : List (Str × Addr)) (fp : List Addr), PTsd (X.blk s H scope (compEnvC scope cl C X.env) fp) EF ifs tt)
    (hi1 : ∀ (s : Shared) (H : Hp) (C : Addr) (cl : List (Str × Addr)) (fp : List Addr), PId (X.blk s H scope (compEnvC scope cl C X.env) fp) EF tg1 iter1 wi1)
    (hg1 : ∀ (s : Shared) (H : Hp) (C : Addr) (cl : List (Str × Addr)) (fp : List Addr), PG (X.blk s H scope (compEnvC scope cl C X.env) fp) tg1 g1) (hct1 : CTg X.K X.mg vs1 g1 gd1)
    (ht1 : ∀ (s : Shared) (H : Hp) (C : Addr) (cl : List (Str × Addr)) (fp : List Addr), PTsd (X.blk s H scope (compEnvC scope cl C X.env) fp) EF ifs1 tt1)
    (he : ∀ (s : Shared) (H : Hp) (C : Addr) (cl : List (Str × Addr)) (fp : List Addr), PEd (X.blk s H scope (compEnvC scope cl C X.env) fp) EF elt te)
    (hs : ∀ x, foldedSetIterable iter X.env x = pure x := by intro _; rfl) (hs1 : ∀ env x, foldedSetIterable iter1 env x = pure x := by intro _ _; rfl) :
    PEd X E (.ListComp elt [⟨tg, iter, ifs, 0⟩, ⟨tg1, iter1, ifs1, 0⟩] scope pos) (tLc2D wi gd tt wi1 gd1 tt1 te (own.map (·.2)) vs1) :=
  ⟨PE.imp (pe_lc2 hc hN hi.run ok hv hg (fun s H C cl fp => (ht s H C cl fp).run) (fun s H C cl fp => (hi1 s H C cl fp).run) hg1 (fun s H C cl fp => (ht1 s H C cl fp).run) (fun s H C cl fp => (he s H C cl fp).run) hs hs1) fun _ _ _ h => lc2_imp hct hct1 h⟩
theorem psd_setLc2 {i : Nat} {y : Str} {py spos : Pos} (hc : X.calm = true) (hN : X.N.Nodup) (hy : X.N[i]? = some y) (hyl : X.env.scope.names.lookup y = some .local)
    (hsw : swapsWith (.ListComp elt [⟨tg, iter, ifs, 0⟩, ⟨tg1, iter1, ifs1, 0⟩] scope pos) (some (.Name y py)) spos.line X.env = pure true) (hi : PId X E tg iter wi) (ok : BlkOk X.N X.env.scope scope own) (hv : ∀ i ∈ vs1, i ∈ own.map (·.2))
    (hg : ∀ (s : Shared) (H : Hp) (C : Addr) (cl : List (Str × Addr)) (fp : List Addr), PG (X.blk s H scope (compEnvC scope cl C X.env) fp) tg g) (hct : CTg X.K X.mg (own.map (·.2)) g gd)
    (ht : ∀ (s : Shared) (H : Hp) (C : Addr) (cl : List (Str × Addr)) (fp : List Addr), PTsd (X.blk s H scope (compEnvC scope cl C X.env) fp) EF ifs tt)
    (hi1 : ∀ (s : Shared) (H : Hp) (C : Addr) (cl : List (Str × Addr)) (fp : List Addr), PId (X.blk s H scope (compEnvC scope cl C X.env) fp) EF tg1 iter1 wi1)
    (hg1 : ∀ (s : Shared) (H : Hp) (C : Addr) (cl : List (Str × Addr)) (fp : List Addr), PG (X.blk s H scope (compEnvC scope cl C X.env) fp) tg1 g1) (hct1 : CTg X.K X.mg vs1 g1 gd1)
    (ht1 : ∀ (s : Shared) (H : Hp) (C : Addr) (cl : List (Str × Addr)) (fp : List Addr), PTsd (X.blk s H scope (compEnvC scope cl C X.env) fp) EF ifs1 tt1)
    (he : ∀ (s : Shared) (H : Hp) (C : Addr) (cl : List (Str × Addr)) (fp : List Addr), PEd (X.blk s H scope (compEnvC scope cl C X.env) fp) EF elt te)
    (hs : ∀ x, foldedSetIterable iter X.env x = pure x := by intro _; rfl) (hs1 : ∀ env x, foldedSetIterable iter1 env x = pure x := by intro _ _; rfl) :
    PSd X E (.Assign [.Name y py] (.ListComp elt [⟨tg, iter, ifs, 0⟩, ⟨tg1, iter1, ifs1, 0⟩] scope pos) spos) (tSetD i (tLc2D wi gd tt wi1 gd1 tt1 te (own.map (·.2)) vs1)) :=
  ⟨PS.imp (ps_setLc2 hc hN hy hyl hsw hi.run ok hv hg (fun s H C cl fp => (ht s H C cl fp).run) (fun s H C cl fp => (hi1 s H C cl fp).run) hg1 (fun s H C cl fp => (ht1 s H C cl fp).run) (fun s H C cl fp => (he s H C cl fp).run) hs hs1) fun _ _ _ h => setLc_imp (fun h => lc2_imp hct hct1 h) h⟩
end
end Y


namespace Y
open PySem PyProof.Rows SrtO
section
variable {prog : Program} {w : World} {A : Around} {E : Value → Shared → Prop} {s : Shared}
theorem sorted_seq {l : Addr} {T : String} {o : Obj} {vs : List Value} {n : Nat} {lt : Value → Value → Bool} {Q : Value → Shared → Prop} (O : Swo lt) (hT : T = "list" ∨ T = "tuple") (ho : s.heap.get? l = some o) (hc : o.cls = .type T) (hd : o.data = .seq vs.toArray n) (hz : vs.length ≤ sizeLine)
    (hS : 2 ≤ vs.length → ∀ (g : Heap) (a : Addr), (∀ b u, s.heap.get? b = some u → b ≠ a ∧ g.get? b = some u) → SortableO prog w A.in1.in1 { s with heap := g } a vs lt)
    (h : ∀ (out : List Value) (h1 h2 : Heap) (e : Nat), Srtd lt out → Stb lt out vs → (∀ b u, s.heap.get? b = some u → h1.get? b = some u) → (∀ b u, h1.get? b = some u → h2.get? b = some u) →
      h2.get? h1.objs.size = some (seqObj "list" out.toArray e) → Q (.ref h1.objs.size) { s with heap := h2 }) :
    wpAny (model prog w) A (call (.builtin "sorted") [.ref l]) Q E s := by
  refine Calls.call_function_entry kind_sorted plain_sorted entry_sorted (args_sorted1 _) ?_
  unfold Builtin.«sorted»
  refine wpAny_bind (m := checkCount _ _ _ _) (wpAny_pure (wpAny_bind (wpAny_collect_seq l hT ho hc hd (fun h1 k1 => ?_) (by rw [List.size_toArray]; exact hz))))
  rw [List.toList_toArray]
  refine wpAny_bind (wpAny_newList ?_ hz)
  have at2 : (h1.push (seqObj "list" vs.toArray 0)).get? h1.objs.size = some (seqObj "list" vs.toArray 0) := Heap.get?_push_size _ rfl
  have k2 : ∀ b u, s.heap.get? b = some u → b ≠ h1.objs.size ∧ (h1.push (seqObj "list" vs.toArray 0)).get? b = some u := fun b u q => ⟨Nat.ne_of_lt (Heap.lt_size (k1 b u q)), Heap.get?_push_of_some _ (k1 b u q)⟩
  refine wpAny_bind (wpAny_holding (wpAny_call_entry slot_list_sort ⟨_, at2, rfl⟩ entry_list_sort (list_sort_ord O at2 hz (fun h2 => hS h2 _ _ k2) fun out a b => ⟨.none, rfl, ?_⟩) (args_list_sort _)))
  obtain ⟨e, he⟩ := sortedHeap_at (vs := vs) (out := out.toArray) at2
  exact wpAny_pure ⟨_, rfl, h out h1 _ e a b k1 (fun b u q => by
    rw [sortedHeap_old (Nat.ne_of_lt (Heap.lt_size q)) (Heap.lt_size (Heap.get?_push_of_some _ q))]
    exact Heap.get?_push_of_some _ q) he⟩
end
end Y

namespace Y
open PySem PySem.Spec L2
open PyProof.Rows hiding St
theorem sorted_uniq : ∀ {l1 l2 : List Int}, l1.Perm l2 → l1.Pairwise (· ≤ ·) → l2.Pairwise (· ≤ ·) → l1 = l2
  | [], l2, p, _, _ => by rw [p.nil_eq]
  | a :: r, [], p, _, _ => absurd p.length_eq (by simp)
  | a :: r, b :: t, p, h1, h2 => by
    have ha : a ∈ b :: t := p.mem_iff.mp (.head _)
    have hb : b ∈ a :: r := p.mem_iff.mpr (.head _)
    have e : a = b := by
      rcases List.mem_cons.mp ha with e | m
      · exact e
      · rcases List.mem_cons.mp hb with e | m'
        · exact e.symm
        · have := List.rel_of_pairwise_cons h1 m'
          have := List.rel_of_pairwise_cons h2 m
          omega
    subst e
    rw [sorted_uniq (List.perm_cons a |>.mp p) h1.of_cons h2.of_cons]
def sortI (ns : List Int) : List Int := ns.mergeSort (fun a b => decide (a ≤ b))
theorem sortI_perm (ns : List Int) : (sortI ns).Perm ns := List.mergeSort_perm _ _
theorem sortI_sorted (ns : List Int) : (sortI ns).Pairwise (· ≤ ·) := by
  have := List.pairwise_mergeSort (le := fun a b : Int => decide (a ≤ b)) (fun a b c h1 h2 => by simp at *; omega) (fun a b => by simp; omega) ns
  exact this.imp (by simp)
def rSortedD : List D → GS → QD → Prop := fun ds G Q => match ds with
  | [d] => match itemsD G d with
    | some xs => (match intsD xs with | some ns => Q (.lst ((sortI ns).map .int)) G | none => False)
    | none => False
  | _ => False
abbrev hSorted (X : Cx) : List V → Hp → VK → Prop := fun vs H Q => ∃ (a : Addr) (ns : List Int), vs = [V.ref a] ∧ (SqT X.K H a (ns.map V.int) ∨ SqL X.K H a (ns.map V.int)) ∧ ∀ p, H p = none → Q (.ref p) (upd H p (.lst ((sortI ns).map V.int)))
section
variable {X : Cx}
theorem oSorted : CallR X (.builtin "sorted") (hSorted X) := by
  intro pins s σ H vs us Q I r h
  obtain ⟨a, ns, rfl, hs, q⟩ := h
  obtain ⟨T, o, n, its, hT, ho, hc, hd, rv, hz⟩ : ∃ (T : String) (o : Obj) (n : Nat) (its : List Value), (T = "list" ∨ T = "tuple") ∧ s.heap.get? a = some o ∧ o.cls = .type T ∧ o.data = .seq its.toArray n ∧ Vals (ns.map V.int) its ∧ (ns.map V.int).length ≤ sizeLine := by
    rcases hs with hs | hs
    · obtain ⟨its, rv, ⟨o, ho, hc, n, hd⟩, hz⟩ := I.tuple hs
      exact ⟨"tuple", o, n, its, .inr rfl, ho, hc, hd, rv, hz⟩
    · obtain ⟨its, rv, ⟨o, n, ho, hc, _, hd⟩, hz⟩ := I.list hs
      exact ⟨"list", o, n, its, .inl rfl, ho, hc, hd, rv, hz⟩
  rw [Vals.ref1 r]
  have hi := rv.ints
  refine sorted_seq SrtO.swo_int hT ho hc hd (by rw [← rv.length]; exact hz) (fun h2 _ _ _ => SrtO.ints_sortable hi h2) fun out h1 h2 e a1 a2 k1 k2 at_ => ?_
  obtain ⟨i1, i2, i3⟩ := SrtO.ints_out hi a1 a2
  have eq : out.map SrtO.iv = sortI ns := sorted_uniq (i2.trans (sortI_perm ns).symm) i3 (sortI_sorted ns)
  rw [eq] at i1 i2
  have I1 := I.kept (t' := s.toks) k1
  have hlen : ((sortI ns).map V.int).length ≤ sizeLine := by
    rw [List.length_map, i2.length_eq]
    rw [List.length_map] at hz
    exact hz
  have I2 := I1.laid (t' := s.toks) k2 (Nat.le_refl _) (o := .lst ((sortI ns).map V.int)) ⟨hlen, out, e, vals_of_ints i1, at_⟩
  exact ⟨.ref h1.objs.size, _, I2, rfl, q _ (I1.hok.fresh (Nat.le_refl _))⟩
theorem lift_sorted : LiftC X (hSorted X) rSortedD := by
  intro η G H vs ds Q Qd w r h q
  match ds, h with
  | [d], h =>
    obtain ⟨v, rfl, rd⟩ := rpl1 r
    unfold rSortedD at h
    simp only at h
    split at h
    · rename_i xs e
      split at h
      · rename_i ns en
        obtain ⟨a, rfl, hs⟩ := intsD_sql w rd e en
        exact ⟨a, ns, rfl, hs, fun p hp => q.newL w hp (RpL.ints.mpr rfl) h⟩
      · exact h.elim
    · exact h.elim
end
end Y

namespace Y
open PySem PySem.Spec L2
open PyProof.Rows hiding St

def frzD (d : D) (G : GS) (Q : QD) : Prop := match d with
  | .obj k => match G[k]? with | some (.lst ds) => Q (.lst ds) (G.set k .dead) | _ => False
  | _ => False
def tFrzD (te : TEd) : TEd := fun ρ G Q Ed => te ρ G (fun d G1 => frzD d G1 Q) Ed
/-- a list of ints that will be a source of numbers -/
def tRndD (te : TEd) : TEd := fun ρ G Q Ed => te ρ G (fun d G1 => match d with
  | .obj k => match G1[k]? with | some (.lst ds) => (∃ ns, intsD ds = some ns ∧ GoodR ns) ∧ Q (.obj k) (G1.set k .rnd) | _ => False
  | _ => False) Ed
section
variable {X : Cx} {E : St → XK} {e : Expr} {te : TEd} {pos : Pos}
theorem ped_frz (h : PEd X E e te) : PEd X E e (tFrzD te) := by
  refine ⟨PE.imp h.run fun σ H Q h => ?_⟩
  obtain ⟨ρ, η, G, Qd, Ed, he, w, ht, hq, hE⟩ := h
  refine ⟨ρ, η, G, _, Ed, he, w, ht, fun d G1 v η1 H1 s1 w1 r1 q1 => ?_, hE⟩
  unfold frzD at q1
  cases d with
  | obj k =>
    simp only at q1
    split at q1
    · rename_i ds e1
      exact hq (.lst ds) _ v (η1.kill k) H1 (s1.trans Stp.freeze) w1.freeze (Rp.freeze w1 r1 e1) q1
    · exact q1.elim
  | _ => exact q1.elim
theorem W.toRnd {K : PySem.W.Frag} {mg : Str → Option Value} {η : Eta} {G : GS} {H : Hp} {k : Nat} {ns : List Int} (w : W K mg η G H) (e : G[k]? = some (.lst (ns.map .int))) (g : GoodR ns) : W K mg η (G.set k .rnd) H := by
  have hk : k < G.length := (List.getElem?_eq_some_iff.mp e).1
  refine ⟨by rw [w.len, List.length_set], fun j m hj => ?_, w.inj, w.hd⟩
  by_cases c : k = j
  · subst c
    rw [List.getElem?_set_self hk] at hj
    cases hj
    obtain ⟨a, vs, h1, h2, h3⟩ := w.at_ k _ e
    exact ⟨a, ns, h1, by rw [RpL.ints.mp h3] at h2; exact h2, g⟩
  · rw [List.getElem?_set_ne c] at hj
    exact w.at_ j m hj
theorem W.ofRnd {K : PySem.W.Frag} {mg : Str → Option Value} {η : Eta} {G : GS} {H : Hp} {k : Nat} (w : W K mg η G H) (e : G[k]? = some .rnd) : ∃ ns, GoodR ns ∧ W K mg η (G.set k (.lst (ns.map .int))) H := by
  have hk : k < G.length := (List.getElem?_eq_some_iff.mp e).1
  obtain ⟨a, ns, h1, h2, g⟩ := w.at_ k _ e
  refine ⟨ns, g, by rw [w.len, List.length_set], fun j m hj => ?_, w.inj, w.hd⟩
  by_cases c : k = j
  · subst c
    rw [List.getElem?_set_self hk] at hj
    cases hj
    exact ⟨a, _, h1, h2, RpL.ints.mpr rfl⟩
  · rw [List.getElem?_set_ne c] at hj
    exact w.at_ j m hj
theorem ped_rnd (h : PEd X E e te) : PEd X E e (tRndD te) := by
  refine ⟨PE.imp h.run fun σ H Q h => ?_⟩
  obtain ⟨ρ, η, G, Qd, Ed, he, w, ht, hq, hE⟩ := h
  refine ⟨ρ, η, G, _, Ed, he, w, ht, fun d G1 v η1 H1 s1 w1 r1 q1 => ?_, hE⟩
  cases d with
  | obj k =>
    simp only at q1
    split at q1
    · rename_i ds e1
      obtain ⟨⟨ns, e2, g⟩, q1⟩ := q1
      rw [intsD_eq e2] at e1
      exact hq (.obj k) _ v η1 H1 s1 (w1.toRnd e1 g) r1 q1
    · exact q1.elim
  | _ => exact q1.elim
end

abbrev RMd := D → List D → GS → QD → Prop
def tMetD (r : RMd) (to : TEd) (t : TAd) : TEd := fun ρ G Q Ed => to ρ G (fun x G1 => isLstD G1 x ∧ t ρ G1 (fun xs G2 => r x xs G2 Q) Ed) Ed
where isLstD (G : GS) (d : D) : Prop := ∃ k ds, d = .obj k ∧ G[k]? = some (.lst ds)
def tMet0D (r : RMd) (to : TEd) : TEd := fun ρ G Q Ed => to ρ G (fun x G1 => tMetD.isLstD G1 x ∧ r x [] G1 Q) Ed
def LiftM (X : Cx) (rH : V → List V → Hp → VK → Prop) (rD : RMd) : Prop := ∀ (η : Eta) (G : GS) (H : Hp) (x : V) (vs : List V) (dx : D) (ds : List D) (Q : VK) (Qd : QD),
  W X.K X.mg η G H → Rp X.K η H dx x → RpL X.K η H ds vs → rD dx ds G Qd → LQ X.K X.mg η H Qd Q → rH x vs H Q
/-- what a numbered list is, where it stands -/
theorem W.lstAt {K : PySem.W.Frag} {mg : Str → Option Value} {η : Eta} {G : GS} {H : Hp} {k : Nat} {v : V} {ds : List D} (w : W K mg η G H) (r : Rp K η H (.obj k) v) (e : G[k]? = some (.lst ds)) :
    ∃ a vs, v = .ref a ∧ η.o[k]? = some (some a) ∧ H a = some (.lst vs) ∧ RpL K η H ds vs := by
  obtain ⟨a, vs, h1, h2, h3⟩ := w.at_ k _ e
  obtain ⟨b, rfl, h⟩ := r
  have : b = a := by
    rcases h with h | h
    · rw [h] at h1; cases h1; rfl
    · rw [h] at h1; cases h1
  subst this
  exact ⟨b, vs, rfl, h1, h2, h3⟩
/-- .. and it is written -/
theorem LQ.set {K : PySem.W.Frag} {mg : Str → Option Value} {η : Eta} {G : GS} {H : Hp} {k : Nat} {a : Addr} {vs us : List V} {es : List D} {Qd : QD} {Q : VK} (q : LQ K mg η H Qd Q) (w : W K mg η G H) (h1 : η.o[k]? = some (some a)) (h2 : H a = some (.lst vs))
    (r : RpL K η H es us) {d : D} {v : V} (rd : Rp K η H d v) (qd : Qd d (G.set k (.lst es))) : Q v (upd H a (.lst us)) := by
  have nf : ¬ Fix (HO.lst vs) := fun z => z
  have st := Stp.wrote (o' := .lst us) h1 h2 nf
  have hl : RpL K η (upd H a (.lst us)) es us := RpL.step st _ _ r
  exact q d _ v η _ st (w.wrote (m := .lst es) h1 h2 nf ⟨a, us, h1, upd_same, hl⟩) (Rp.step st _ _ rd) qd
section
variable {X : Cx} {E : St → XK} {o e : Expr} {es : List Expr} {to te : TEd} {t : TAd} {name : Str} {apos cpos pos : Pos} {id : String} {rH : V → List V → Hp → VK → Prop} {rD : RMd}
theorem liftMet (hl : LiftM X rH rD) {σ : St} {H : Hp} {Q : VK} (h : lE X.K X.mg E (tMetD rD to t) σ H Q) : tBM X.K "list" rH (lE X.K X.mg E to) (lA X.K X.mg E t) σ H Q := by
  obtain ⟨ρ, η, G, Qd, Ed, he, w, ht, hq, hE⟩ := h
  refine ⟨ρ, η, G, _, Ed, he, w, ht, fun x G1 v η1 H1 s1 w1 r1 q1 => ?_, hE⟩
  obtain ⟨⟨k, ds, rfl, ek⟩, q1⟩ := q1
  obtain ⟨a, vs, rfl, _, h2, _⟩ := w1.lstAt r1 ek
  refine ⟨.inl ⟨rfl, vs, .inl (.inl h2)⟩, ρ, η1, G1, _, Ed, he.step s1, w1, q1, fun ds G2 us η2 H2 s2 w2 r2 q2 => ?_, hE.step s1⟩
  exact hl η2 G2 H2 _ us _ ds Q Qd w2 (Rp.step s2 _ _ r1) r2 q2 (hq.step (s1.trans s2))
theorem liftMet0 (hl : LiftM X rH rD) {σ : St} {H : Hp} {Q : VK} (h : lE X.K X.mg E (tMet0D rD to) σ H Q) : tBM0 X.K "list" rH (lE X.K X.mg E to) σ H Q := by
  obtain ⟨ρ, η, G, Qd, Ed, he, w, ht, hq, hE⟩ := h
  refine ⟨ρ, η, G, _, Ed, he, w, ht, fun x G1 v η1 H1 s1 w1 r1 q1 => ?_, hE⟩
  obtain ⟨⟨k, ds, rfl, ek⟩, q1⟩ := q1
  obtain ⟨a, vs, rfl, _, h2, _⟩ := w1.lstAt r1 ek
  exact ⟨.inl ⟨rfl, vs, .inl (.inl h2)⟩, hl η1 G1 H1 _ [] _ [] Q Qd w1 r1 rfl q1 (hq.step s1)⟩
theorem ped_met (slot : Slot "list" name id) (hty : typeOf (.builtin id) = pure (.type "method_descriptor")) (hm : MtR X id rH) (hl : LiftM X rH rD) (ho : PEd X E o to) (ha : PAd X E (e :: es) t)
    (hbase : attributeBase o name X.env (eval o X.env) = eval o X.env := by rfl)
    (hfew : ((backTo cpos (starEach (e :: es) X.env)).all (fun x => !x.1) && (backToKw cpos (keywordEach [] X.env)).all (fun x => x.1.isSome)
      && decide ((e :: es).length + ([] : List Keyword).length + (if ([] : List Keyword).isEmpty then 0 else 1) < 30)) = true := by rfl)
    (hline : (apos.endLine == cpos.line) = true := by rfl) (hs : starEach (e :: es) X.env = (false, eval e X.env) :: starEach es X.env := by rfl) (hplain : (backTo cpos (starEach es X.env)).any (·.1) = false := by rfl) :
    PEd X E (.Call (.Attribute o name apos) (e :: es) [] cpos) (tMetD rD to t) :=
  ⟨PE.imp (pe_bm PySem.F.plainAttrs_list slot hty hm ho.run ha.run hbase hfew hline hs hplain) fun _ _ _ h => liftMet hl h⟩
theorem ped_met0 (slot : Slot "list" name id) (hty : typeOf (.builtin id) = pure (.type "method_descriptor")) (hm : MtR X id rH) (hl : LiftM X rH rD) (ho : PEd X E o to)
    (hbase : attributeBase o name X.env (eval o X.env) = eval o X.env := by rfl) (hline : (apos.endLine == cpos.line) = true := by rfl) : PEd X E (.Call (.Attribute o name apos) [] [] cpos) (tMet0D rD to) :=
  ⟨PE.imp (pe_bm0 PySem.F.plainAttrs_list slot hty hm ho.run hbase hline) fun _ _ _ h => liftMet0 hl h⟩
def rAppendD : RMd := fun x xs G Q => match x, xs with
  | .obj k, [d] => match G[k]? with | some (.lst ds) => ds.length < 16777216 ∧ Q .non (G.set k (.lst (ds ++ [d]))) | _ => False
  | _, _ => False
theorem lift_append : LiftM X rAppend rAppendD := by
  intro η G H x vs dx ds Q Qd w rx r h q
  unfold rAppendD at h
  split at h
  · rename_i k d
    split at h
    · rename_i es ek
      obtain ⟨hz, h⟩ := h
      obtain ⟨v, rfl, rd⟩ := rpl1 r
      obtain ⟨a, us, rfl, h1, h2, h3⟩ := w.lstAt rx ek
      exact ⟨a, us, v, rfl, rfl, h2, by rw [← h3.length]; exact line_lt hz, q.set w h1 h2 (h3.append (RpL.one rd)) (show Rp X.K η H .non .non from rfl) h⟩
    · exact h.elim
  · exact h.elim
def rPopD : RMd := fun x xs G Q => match x, xs with
  | .obj k, [] => match G[k]? with | some (.lst ds) => (match ds[ds.length - 1]? with | some d => Q d (G.set k (.lst ds.dropLast)) | none => False) | _ => False
  | _, _ => False
theorem lift_pop : LiftM X rPop rPopD := by
  intro η G H x vs dx ds Q Qd w rx r h q
  unfold rPopD at h
  split at h
  · rename_i k
    split at h
    · rename_i es ek
      split at h
      · rename_i d ed
        obtain ⟨a, us, rfl, h1, h2, h3⟩ := w.lstAt rx ek
        obtain ⟨v, ev, rv⟩ := h3.get ed
        exact ⟨a, us, v, rfl, r, h2, by rw [← h3.length]; exact ev, q.set w h1 h2 h3.dropLast rv h⟩
      · exact h.elim
    · exact h.elim
  · exact h.elim
def rPopAtD : RMd := fun x xs G Q => match x, xs with
  | .obj k, [.int i] => match G[k]? with | some (.lst ds) => 0 ≤ i ∧ ds.length ≤ 16777216 ∧ (match ds[i.toNat]? with | some d => Q d (G.set k (.lst (ds.eraseIdx i.toNat))) | none => False) | _ => False
  | _, _ => False
theorem lift_popAt : LiftM X rPopAt rPopAtD := by
  intro η G H x vs dx ds Q Qd w rx r h q
  unfold rPopAtD at h
  split at h
  · rename_i k i
    split at h
    · rename_i es ek
      obtain ⟨hi, hz, h⟩ := h
      split at h
      · rename_i d ed
        obtain ⟨u, rfl, ru⟩ := rpl1 r
        cases (show u = .int i from ru)
        obtain ⟨a, us, rfl, h1, h2, h3⟩ := w.lstAt rx ek
        obtain ⟨v, ev, rv⟩ := h3.get ed
        have hlt : i.toNat < es.length := (List.getElem?_eq_some_iff.mp ed).1
        have hle := h3.length
        have sx : seqIndex? i us.length = some i.toNat := by
          unfold seqIndex?
          rw [if_neg (Int.not_lt.mpr hi)]
          simp only
          rw [if_pos (by simp; omega)]
        have h62 : i < 2 ^ 63 := by
          have : (i.toNat : Int) = i := Int.toNat_of_nonneg hi
          omega
        refine ⟨a, us, i, i.toNat, v, rfl, rfl, h2, by omega, h62, sx, ev, q.set w h1 h2 (h3.eraseIdx _) rv h⟩
      · exact h.elim
    · exact h.elim
  · exact h.elim
def rReverseD : RMd := fun x xs G Q => match x, xs with
  | .obj k, [] => match G[k]? with | some (.lst ds) => Q .non (G.set k (.lst ds.reverse)) | _ => False
  | _, _ => False
theorem lift_reverse : LiftM X rReverse rReverseD := by
  intro η G H x vs dx ds Q Qd w rx r h q
  unfold rReverseD at h
  split at h
  · rename_i k
    split at h
    · rename_i es ek
      obtain ⟨a, us, rfl, h1, h2, h3⟩ := w.lstAt rx ek
      exact ⟨a, us, rfl, r, h2, q.set w h1 h2 h3.reverse (show Rp X.K η H .non .non from rfl) h⟩
    · exact h.elim
  · exact h.elim
end
end Y

namespace Y
open PySem PySem.Spec L2
open PyProof.Rows hiding St

def setIxD (x i d : D) (G : GS) (Q : GS → Prop) : Prop := match x, i with
  | .obj k, .int i => match G[k]? with | some (.lst ds) => (match ixN ds.length i with | some j => Q (G.set k (.lst (ds.set j d))) | none => False) | _ => False
  | _, _ => False
def gSubD (to ti : TEd) : TGd := fun d ρ G Q => to ρ G (fun x G1 => ti ρ G1 (fun i G2 => setIxD x i d G2 (fun G3 => Q ρ G3)) (fun _ _ => False)) (fun _ _ => False)
def tAugD (i : Nat) (f : Int → Int → Int) (te : TEd) : TSd := fun D ρ G => match ρ[i]? with
  | some (some (.int a)) => te ρ G (fun d G1 => match d with | .int b => D.nx (ρ.set i (some (.int (f a b)))) G1 | _ => False) (fun e G1 => D.er e ρ G1)
  | _ => False
section
variable {X : Cx} {E : St → XK} {pos : Pos}
theorem le_none {K : PySem.W.Frag} {mg : Str → Option Value} {η : Eta} {H : Hp} {E : XK} : LE K mg η H (fun _ _ => False) E := fun _ _ _ _ _ _ _ _ _ h => h.elim
theorem pgd_sub {o i : Expr} {to ti : TEd} (ho : PEd X E o to) (hi : PEd X E i ti)
    (ha : ∀ v, assign (.Subscript o i pos) X.env v = (do
      let ov ← holding [v] (eval o X.env)
      let iv ← holding [v, ov] (eval i X.env)
      standAt pos
      holding [v, ov, iv] (setItem ov iv v)
      release [v, ov, iv] []) := by intro _; rfl) : PGd X (.Subscript o i pos) (gSubD to ti) :=
  ⟨PG.imp (pg_sub ho.run hi.run set_list ha) fun v σ H Q h => by
    obtain ⟨d, ρ, η, G, Qd, r, he, w, ht, hq⟩ := h
    refine ⟨ρ, η, G, _, _, he, w, ht, fun x G1 u η1 H1 s1 w1 r1 q1 => ?_, le_none⟩
    refine ⟨ρ, η1, G1, _, _, he.step s1, w1, q1, fun y G2 z η2 H2 s2 w2 r2 q2 => ?_, le_none⟩
    have rx := Rp.step s2 _ _ r1
    have rd := Rp.step (s1.trans s2) _ _ r
    replace q2 : setIxD x y d G2 (fun G3 => Qd ρ G3) := q2
    unfold setIxD at q2
    split at q2
    · rename_i k i
      split at q2
      · rename_i ds ek
        split at q2
        · rename_i j ej
          obtain ⟨a, us, rfl, h1, h2, h3⟩ := w2.lstAt rx ek
          cases (show z = .int i from r2)
          have nf : ¬ Fix (HO.lst us) := fun z => z
          have st := Stp.wrote (o' := .lst (us.set j v)) h1 h2 nf
          have hl : RpL X.K η2 (upd H2 a (.lst (us.set j v))) (ds.set j d) (us.set j v) := RpL.step st _ _ (h3.set j rd)
          exact ⟨a, us, i, j, rfl, rfl, h2, by rw [← h3.length]; exact ej, hq ρ _ σ η2 _ ((s1.trans s2).trans st) (w2.wrote (m := .lst (ds.set j d)) h1 h2 nf ⟨a, _, h1, upd_same, hl⟩) (((he.step s1).step s2).step st) q2⟩
        · exact q2.elim
      · exact q2.elim
    · exact q2.elim⟩
theorem psd_aug {i : Nat} {x : Str} {e : Expr} {te : TEd} {op : Operator} {f : Int → Int → Int} {pos' : Pos} (ho : PIp X op (ipI f)) (hN : X.N.Nodup) (hi : X.N[i]? = some x) (hx : Loc X.env.scope x) (he : PEd X E e te)
    (hf : X.fn x = true ∨ X.env.scope.names.lookup x = some .local := by first | exact .inl rfl | exact .inr rfl | assumption) : PSd X E (.AugAssign (.Name x pos') op e pos) (tAugD i f te) :=
  ⟨PS.imp (ps_aug hN hi hx he.run ho hf) fun D σ H h => by
    obtain ⟨ρ, η, G, Dd, he, w, ht, l⟩ := h
    unfold tAugD at ht
    split at ht
    · rename_i a ea
      obtain ⟨v, ev, rv⟩ := he.2 i _ ea
      cases (show v = .int a from rv)
      refine ⟨.int a, ev, ρ, η, G, _, _, he, w, ht, fun d G1 u η1 H1 s1 w1 r1 q1 => ?_, l.le he⟩
      cases d with
      | int b =>
        cases (show u = .int b from r1)
        exact ⟨a, b, rfl, rfl, l.nx _ G1 _ η1 H1 s1 w1 ((he.step s1).set i (show Rp X.K η1 H1 (.int (f a b)) (.int (f a b)) from rfl)) q1⟩
      | _ => exact q1.elim
    · exact ht.elim⟩
end

def endsG (Qd : QD) (Ed : QE) : EndsD where
  nx := fun _ G' => Qd .non G'
  rt := Qd
  er := fun e _ G' => Ed e G'
theorem fnG {P : Program} {w : World} {K : PySem.W.Frag} {mg : Str → Option Value} {base : Heap} {x qual : Str} {st : Stmt} {f : Addr} {fd : FuncData} {N ps : List Str} {k : Nat} {sp : SpD} {t : TSd} (F : Fun K x qual st f fd) (S : FnScope N ps (defScope st))
    (len : ∀ ds G Q E, sp ds G Q E → ds.length = ps.length)
    (hbody : ∀ (cdv : Value) (A : Around) (outer : List Env) (s : Shared) (H : Hp) (E : XK), Room k (A.deeper (envOfC qual (defScope st) s.heap.objs.size f cdv)) →
      PSsd (cxOf (L2.CX P w) P w K mg base N qual (defScope st) f cdv A outer s H E) (fun _ => E) (defBody st) t)
    (sem : ∀ ds G Q E, sp ds G Q E → t (endsG Q E) (startD N.length ds) G) : FnOk P w K mg base (L2.CX P w) (k + 1) f fd ps (liftSp K mg sp) := by
  refine F.okX S (fun vs H Q E h => ?_) fun cdv A outer s H vs Q E hr h => ⟨_, (hbody cdv A outer s H E hr).run, ?_⟩
  · obtain ⟨ds, η, G, Qd, Ed, r, _, h, _⟩ := h
    rw [← r.length]; exact len _ _ _ _ h
  · obtain ⟨ds, η, G, Qd, Ed, r, w0, h, hq, hE⟩ := h
    refine ⟨_, η, G, endsG Qd Ed, envR_start r, w0, sem ds G Qd Ed h, ?_, ?_, ?_, ?_, ?_⟩
    · intro ρ' G' σ' η' H' s' w' e' q
      exact hq .non G' .non _ _ s' w' rfl q
    · exact hq
    · intro ρ' G' σ' η' H' s' w' e' q; exact q.elim
    · intro ρ' G' σ' η' H' s' w' e' q; exact q.elim
    · intro e ρ' G' σ' cls od η' H' s' w' e' r' q
      exact hE e G' cls od _ _ s' w' r' q
/-- a promise is read otherwise -/
theorem liftSp_imp {K : PySem.W.Frag} {mg : Str → Option Value} {sp sp' : SpD} (h : ∀ ds G Q E, sp ds G Q E → sp' ds G Q E) : ∀ vs H Q E, liftSp K mg sp vs H Q E → liftSp K mg sp' vs H Q E := by
  rintro vs H Q E ⟨ds, η, G, Qd, Ed, r, w, hs, hq, hE⟩
  exact ⟨ds, η, G, Qd, Ed, r, w, h _ _ _ _ hs, hq, hE⟩
end Y

namespace Y
open PySem PySem.Spec L2
open PyProof.Rows hiding St
/-- a list or a tuple, walked -/
def iSeqA (K : PySem.W.Frag) (tl : TE) : TI := fun σ H R => tl σ H fun x H1 => ∃ a, x = .ref a ∧ (((∃ xs, SqL K H1 a xs) ∧ R (Itl K a) H1) ∨ ((∃ xs, SqT K H1 a xs) ∧ R (Itt K a) H1))
def iAnyD (te : TEd) : TId := fun ρ G Q Ed => te ρ G (fun d G1 => match d with | .tup ds => Q ds G1 | .lst ds => Q ds G1 | _ => False) Ed
/-- the script, walked -/
def iScrD (te : TEd) : TId := fun ρ G Q Ed => te ρ G (fun d G1 => match d with | .scr ns => Q (ns.map .int) G1 | _ => False) Ed
theorem SqF.sql {K : PySem.W.Frag} {H : Hp} {a : Addr} {xs : List V} (h : SqF K H a xs) : SqL K H a xs := by
  rcases h with ⟨o, h⟩ | h
  · exact .inl (.inr ⟨o, h⟩)
  · exact .inr h
theorem its_ok {K : PySem.W.Frag} {mg : Str → Option Value} {η : Eta} {H : Hp} {a : Addr} {ns : List Int} (h : SqF K H a (ns.map V.int)) : ItOk K mg (Itl K a) η H (ns.map .int) := by
  intro η' H' i s
  have h' : SqL K H' a (ns.map V.int) := (h.up fun b o z f => s.keep b o z (.inr f)).sql
  refine ⟨fun hi => ?_, fun hi => ⟨_, h', by simpa using hi⟩, fun x H'' hy hi => ?_⟩
  · have hi' : i < ns.length := by simpa using hi
    exact ⟨_, .int ns[i], h', by rw [List.getElem?_map, List.getElem?_eq_getElem hi']; rfl⟩
  · have hi' : i < ns.length := by simpa using hi
    obtain ⟨rfl, fv⟩ := hy
    have e := fv _ h'
    rw [List.getElem?_map, List.getElem?_eq_getElem hi'] at e
    cases e
    exact ⟨.int ns[i], by rw [List.getElem?_map, List.getElem?_eq_getElem hi']; rfl, Stp.refl _ _, fun _ w => w, rfl⟩
def tNegD (te : TEd) : TEd := fun ρ G Q Ed => te ρ G (fun d G1 => match d with | .int i => Q (.int (-i)) G1 | _ => False) Ed
def tPar3D (i j l : Nat) (ta : TAd) : TSd := fun D ρ G => ta ρ G (fun ds G1 => match ds with | [d1, d2, d3] => D.nx (((ρ.set i (some d1)).set j (some d2)).set l (some d3)) G1 | _ => False) (fun e G1 => D.er e ρ G1)
section
variable {X : Cx} {E : St → XK} {tg e : Expr} {te : TEd} {pos : Pos}
theorem pi_seqA {l : Expr} {tl : TE} (hl : PE X l tl) : PI X tg l (iSeqA X.K tl) := by
  refine ⟨fun pins s σ H R I h => thn (hl.run pins s σ H _ I h) fun v s1 hh => ?_⟩
  obtain ⟨x, H1, I1, r1, a, rfl, q⟩ := hh
  cases r1
  have fp : ∀ b ∈ [s1.heap.objs.size], FpOk X pins H1 b := fun b hb => by
    obtain rfl : b = s1.heap.objs.size := by simpa using hb
    exact I1.fpOk (Nat.le_refl _) (I1.hok.fresh (Nat.le_refl _))
  rcases q with ⟨⟨xs, hs⟩, q⟩ | ⟨⟨xs, hs⟩, q⟩
  · obtain ⟨its, _, pl, _⟩ := I1.list hs
    exact wpAny_pyIter_list pl.isList ⟨s1.heap.objs.size, [s1.heap.objs.size], _, _, H1, rfl, I1.kept (t' := s1.toks) fun _ _ z => Heap.get?_push_of_some _ z, turn_list a _, ⟨_, Heap.get?_push_size _ rfl, rfl, rfl⟩, fp, q⟩
  · obtain ⟨its, _, pt, _⟩ := I1.tuple hs
    exact wpAny_pyIter_tuple (show s1.heap.IsTuple a its.toArray from pt) ⟨s1.heap.objs.size, [s1.heap.objs.size], _, _, H1, rfl, I1.kept (t' := s1.toks) fun _ _ z => Heap.get?_push_of_some _ z, turn_tuple a _, ⟨_, Heap.get?_push_size _ rfl, rfl, rfl⟩, fp, q⟩
theorem pid_any (h : PEd X E e te) : PId X E tg e (iAnyD te) := ⟨PI.imp (pi_seqA h.run) fun σ H R h => by
  obtain ⟨ρ, η, G, Qd, Ed, he, w, ht, hq, hE⟩ := h
  refine ⟨ρ, η, G, _, Ed, he, w, ht, fun d G1 v η1 H1 s1 w1 r1 q1 => ?_, hE⟩
  cases d with
  | lst ds =>
    obtain ⟨x, vs, rfl, n, hx, hr⟩ := r1
    exact ⟨x, rfl, .inl ⟨⟨vs, SqL.of hx⟩, hq ds G1 _ η1 H1 s1 w1 (itl_ok hx n hr) q1⟩⟩
  | tup ds =>
    obtain ⟨x, vs, rfl, hx, hr⟩ := r1
    exact ⟨x, rfl, .inr ⟨⟨vs, hx⟩, hq ds G1 _ η1 H1 s1 w1 (itt_ok hx hr) q1⟩⟩
  | _ => exact q1.elim⟩
theorem pid_scr (h : PEd X E e te) : PId X E tg e (iScrD te) := ⟨PI.imp (pi_list h.run) fun σ H R h => by
  obtain ⟨ρ, η, G, Qd, Ed, he, w, ht, hq, hE⟩ := h
  refine ⟨ρ, η, G, _, Ed, he, w, ht, fun d G1 v η1 H1 s1 w1 r1 q1 => ?_, hE⟩
  cases d with
  | scr ns =>
    obtain ⟨x, rfl, hx⟩ := r1
    exact ⟨x, rfl, ⟨_, hx.sql⟩, hq _ G1 _ η1 H1 s1 w1 (its_ok hx) q1⟩
  | _ => exact q1.elim⟩
theorem ped_neg (h : PEd X E e te) : PEd X E (.UnaryOp .USub e pos) (tNegD te) := ⟨PE.imp (pe_un un_neg h.run) fun σ H Q h => by
  obtain ⟨ρ, η, G, Qd, Ed, he, w, ht, hq, hE⟩ := h
  refine ⟨ρ, η, G, _, Ed, he, w, ht, fun d G1 v η1 H1 s1 w1 r1 q1 => ?_, hE⟩
  cases d with
  | int i => exact ⟨i, r1, hq (.int (-i)) G1 _ η1 H1 s1 w1 (show Rp X.K η1 H1 (.int (-i)) (.int (-i)) from rfl) q1⟩
  | _ => exact q1.elim⟩
theorem psd_par3 {i j l : Nat} {x y z : Str} {a b c : Expr} {ta : TAd} {px py pz pt : Pos} {kt k2 pt2} (hc : X.calm = true) (hN : X.N.Nodup) (hi : X.N[i]? = some x) (hj : X.N[j]? = some y) (hl : X.N[l]? = some z) (hij : i ≠ j) (hil : i ≠ l) (hjl : j ≠ l)
    (hx : X.env.scope.names.lookup x = some .local) (hy : X.env.scope.names.lookup y = some .local) (hz : X.env.scope.names.lookup z = some .local) (ha : PAd X E [a, b, c] ta)
    (hw : swappedStores [.Tuple [.Name x px, .Name y py, .Name z pz] kt pt] (.Tuple [a, b, c] k2 pt2) X.env = pure (some [x, y, z]))
    (hs : swapsWithSole [.Tuple [.Name x px, .Name y py, .Name z pz] kt pt] (.Tuple [a, b, c] k2 pt2) pos.line X.env = pure false := by rfl) :
    PSd X E (.Assign [.Tuple [.Name x px, .Name y py, .Name z pz] kt pt] (.Tuple [a, b, c] k2 pt2) pos) (tPar3D i j l ta) := ⟨PS.imp (ps_par3 hc hN hi hj hl hij hil hjl hx hy hz ha.run hw hs) fun D σ H h => by
  obtain ⟨ρ, η, G, Dd, he, w, ht, l⟩ := h
  refine ⟨ρ, η, G, _, _, he, w, ht, fun ds G1 vs η1 H1 s1 w1 r1 q1 => ?_, l.le he⟩
  match ds, q1 with
  | [d1, d2, d3], q1 =>
    obtain ⟨v1, t1, rfl, r1, v2, t2, rfl, r2, v3, t3, rfl, r3, rfl⟩ := r1
    exact ⟨v1, v2, v3, rfl, l.nx _ G1 _ η1 H1 s1 w1 ((((he.step s1).set i r1).set j r2).set _ r3) q1⟩⟩
end

/-- a class's body -/
def clsB : Stmt → List Stmt
  | .ClassDef (body := b) .. => b
  | _ => []
structure ExF (K : PySem.W.Frag) (mg : Str → Option Value) (x f : Str) (C fI : Addr) (fd : FuncData) (st : Stmt) : Prop where
  oex : OexC K C
  ini : PySem.W.findIn K (.ref C) "__init__" = some (some (.ref fI))
  tyI : PySem.W.typeIn K (.ref fI) = some (.type "function")
  mgC : mg x = some (.ref C)
  no : PySem.W.findIn K (.ref C) f = some none
  F : ∃ qual, Fun K "__init__" qual st fI fd
  b : Binds K fd ["self", f] []
theorem ExF.ext {X : Cx} {x f : Str} {C fI : Addr} {fd : FuncData} {st : Stmt} (T : ExF X.K X.mg x f C fI fd st) : ExT X x f C fI fd ["self", f] := ⟨T.oex, T.ini, T.tyI, T.mgC, T.b⟩
theorem ini_ok {P : Program} {w : World} {K : PySem.W.Frag} {mg : Str → Option Value} {base : Heap} {x f : Str} {C fI : Addr} {fd : FuncData} {st : Stmt} (T : ExF K mg x f C fI fd st) (S : FnScope ["self", f] ["self", f] (defScope st))
    (hb : ∀ (qual : Str) (cdv : Value) (A : Around) (outer : List Env) (s : Shared) (H : Hp) (E : XK), PSs (cxOf (L2.CX P w) P w K mg base ["self", f] qual (defScope st) fI cdv A outer s H E) (defBody st) (tOst K f (tVar 0) (tVar 1))) : FnOk P w K mg base (L2.CX P w) 1 fI fd ["self", f] (spIni C f) := by
  obtain ⟨qual, F⟩ := T.F
  refine F.okX (k := 0) S (fun vs H Q E h => ?_) fun cdv A outer s H vs Q E hr h => ⟨_, hb qual cdv A outer s H E, ?_⟩
  · obtain ⟨a, v, rfl, _⟩ := h; rfl
  · obtain ⟨a, v, rfl, e, q⟩ := h
    exact ⟨v, rfl, .ref a, rfl, a, C, rfl, T.oex, T.no, .inl ⟨e, fun dx n ne => q dx n ne⟩⟩
end Y

namespace Y
open PySem PySem.Spec L2
open PySem.W (keyToksAll keyToks dataLt alike alikeAll minD AlikeAll toks_all_cons dataLt_tuple alike_unique min_list_data)
open PyProof.Rows hiding St

def tupI (t : List Int) : D := .tup (t.map .int)
def ltT : List Int → List Int → Bool
  | [], [] => false
  | [], _ :: _ => true
  | _ :: _, [] => false
  | x :: r, y :: t => decide (x < y) || (decide (x = y) && ltT r t)
def tupsD : List D → Option (List (List Int))
  | [] => some []
  | .tup ds :: r => match intsD ds, tupsD r with | some t, some ts => some (t :: ts) | _, _ => none
  | _ :: _ => none
theorem tupsD_map (ts : List (List Int)) : tupsD (ts.map tupI) = some ts := by
  induction ts with
  | nil => rfl
  | cons t ts ih =>
    show (match intsD (t.map .int), tupsD (ts.map tupI) with | some t, some ts => some (t :: ts) | _, _ => none) = _
    rw [intsD_map, ih]
theorem tupsD_eq : ∀ {ds : List D} {ts : List (List Int)}, tupsD ds = some ts → ds = ts.map tupI
  | [], ts, h => by cases h; rfl
  | .tup es :: r, ts, h => by
    unfold tupsD at h
    split at h
    · rename_i t us e1 e2
      cases h
      show _ = tupI t :: us.map tupI
      rw [← tupsD_eq e2]
      unfold tupI
      rw [← intsD_eq e1]
    · cases h
  | .non :: _, _, h => by simp [tupsD] at h
  | .bl _ :: _, _, h => by simp [tupsD] at h
  | .int _ :: _, _, h => by simp [tupsD] at h
  | .str _ :: _, _, h => by simp [tupsD] at h
  | .lst _ :: _, _, h => by simp [tupsD] at h
  | .obj _ :: _, _, h => by simp [tupsD] at h
  | .dct :: _, _, h => by simp [tupsD] at h
  | .scr _ :: _, _, h => by simp [tupsD] at h
  | .key _ :: _, _, h => by simp [tupsD] at h
  | .exn _ _ _ _ :: _, _, h => by simp [tupsD] at h
def pyT (t : List Int) : PyData := .tuple (t.map .int)
theorem toPy_tupI (t : List Int) : toPy (tupI t) = pyT t := by
  show PyData.tuple (toPyL (t.map .int)) = _
  rw [toPyL_map, List.map_map]
  rfl
theorem toks_ints : ∀ (a b : List Int), PyProof.Rows.lexLt PyProof.Rows.itemOrd (keyToksAll (a.map .int)) (keyToksAll (b.map .int)) = ltT a b
  | [], [] => by
    show PyProof.Rows.lexLt PyProof.Rows.itemOrd [.inl 0] [.inl 0] = false
    simp [PyProof.Rows.lexLt, PyProof.Rows.itemLt]
  | [], y :: t => by
    rw [List.map_cons, toks_all_cons]
    show PyProof.Rows.lexLt PyProof.Rows.itemOrd [.inl 0] (_ :: _) = true
    simp [PyProof.Rows.lexLt, PyProof.Rows.itemLt]
  | x :: r, [] => by
    rw [List.map_cons, toks_all_cons]
    show PyProof.Rows.lexLt PyProof.Rows.itemOrd (_ :: _) [.inl 0] = false
    simp [PyProof.Rows.lexLt, PyProof.Rows.itemLt]
  | x :: r, y :: t => by
    rw [List.map_cons, List.map_cons, toks_all_cons, toks_all_cons]
    show PyProof.Rows.lexLt PyProof.Rows.itemOrd (.inl 1 :: .inl x :: keyToksAll (r.map .int)) (.inl 1 :: .inl y :: keyToksAll (t.map .int)) = (decide (x < y) || (decide (x = y) && ltT r t))
    rw [PyProof.Rows.lex_cons, PyProof.Rows.lex_cons, toks_ints r t]
    show (decide ((1 : Int) < 1) || (!decide ((1 : Int) < 1) && (decide (x < y) || (!decide (y < x) && ltT r t)))) = _
    rcases Int.lt_trichotomy x y with h | h | h
    · simp [h]
    · simp [h]
    · have h1 : ¬ x < y := by omega
      have h2 : ¬ x = y := by omega
      simp [h, h1, h2]
theorem dataLt_pyT (a b : List Int) : dataLt (pyT a) (pyT b) = ltT a b := by
  unfold pyT
  rw [dataLt_tuple, toks_ints]
theorem alike_ints : ∀ a b : List Int, alikeAll (a.map .int) (b.map .int) = true
  | [], _ => by simp [alikeAll]
  | _ :: _, [] => by simp [alikeAll]
  | x :: r, y :: t => by simp [alikeAll, alike, alike_ints r t]
theorem alike_pyT (a b : List Int) : alike (pyT a) (pyT b) = true := by
  unfold pyT
  simp [alike, alike_ints]
theorem pyT_inj {a b : List Int} (h : pyT a = pyT b) : a = b := by
  unfold pyT at h
  have h1 : a.map PyData.int = b.map PyData.int := PyData.tuple.inj h
  have h2 := congrArg (List.map fun p => match p with | PyData.int i => i | _ => 0) h1
  rw [List.map_map, List.map_map] at h2
  have e : ((fun p => match p with | PyData.int i => i | _ => (0 : Int)) ∘ PyData.int) = id := rfl
  rw [e, List.map_id, List.map_id] at h2
  exact h2
def minT (t : List Int) (ts : List (List Int)) : List Int := ts.foldl (fun a y => if ltT y a = true then y else a) t
theorem minD_pyT : ∀ (ts : List (List Int)) (t : List Int), minD (pyT t) (ts.map pyT) = pyT (minT t ts)
  | [], _ => rfl
  | u :: ts, t => by
    unfold minD minT
    rw [List.map_cons, List.foldl_cons, List.foldl_cons, dataLt_pyT]
    have e : (if ltT u t = true then pyT u else pyT t) = pyT (if ltT u t = true then u else t) := by split <;> rfl
    rw [e]
    exact minD_pyT ts _
theorem minT_mem : ∀ (ts : List (List Int)) (t : List Int), minT t ts ∈ t :: ts
  | [], _ => .head _
  | u :: ts, t => by
    show minT (if ltT u t = true then u else t) ts ∈ _
    have := minT_mem ts (if ltT u t = true then u else t)
    rcases List.mem_cons.mp this with h | h
    · rw [h]
      split
      · exact .tail _ (.head _)
      · exact .head _
    · exact .tail _ (.tail _ h)
theorem depth_ints : ∀ a : List Int, PyData.depthAll (a.map .int) ≤ 1
  | [] => by simp [PyData.depthAll]
  | x :: r => by
    have := depth_ints r
    simp [PyData.depthAll, PyData.depth]
    omega
theorem depth_pyTs : ∀ ts : List (List Int), PyData.depthAll (ts.map pyT) ≤ 2
  | [] => by simp [PyData.depthAll]
  | t :: ts => by
    have h1 := depth_pyTs ts
    have h2 := depth_ints t
    show max (pyT t).depth (PyData.depthAll (ts.map pyT)) ≤ 2
    have h3 : (pyT t).depth ≤ 2 := by
      unfold pyT
      simp only [PyData.depth]
      omega
    omega
def rMinTD : List D → GS → QD → Prop := fun ds G Q => match ds with
  | [d] => match vw G d with
    | .lst xs => (match tupsD xs with | some (t :: ts) => Q (tupI (minT t ts)) G | _ => False)
    | _ => False
  | _ => False
abbrev hMinT (X : Cx) : List V → Hp → VK → Prop := fun vs H Q => ∃ (a : Addr) (xs : List V) (t : List Int) (ts : List (List Int)), vs = [.ref a] ∧ SqL X.K H a xs ∧ DpAll X.K H xs ((t :: ts).map pyT) ∧
  ∀ (i : Nat) (v : V), xs[i]? = some v → (t :: ts)[i]? = some (minT t ts) → Q v H
theorem Reads_get {h : Heap} : ∀ {vs : List Value} {xs : List PyData} {as : List Addr}, ReadsAll h vs xs as → ∀ (i : Nat) (v : Value), vs[i]? = some v → ∃ d bs, xs[i]? = some d ∧ Reads h v d bs
  | _, _, _, .nil, _, _, hv => by simp at hv
  | _, _, _, .cons (d := d) (ds := ds) r rs, 0, v, hv => by
    cases (show some _ = some v from hv)
    exact ⟨d, _, rfl, r⟩
  | _, _, _, .cons (d := d) (ds := ds) r rs, i + 1, v, hv => Reads_get rs i v (by simpa using hv)
theorem vals_getV : ∀ {xs : List V} {us : List Value} {i : Nat} {u : Value}, Vals xs us → us[i]? = some u → ∃ x, xs[i]? = some x ∧ RelV x u
  | _, _, _, _, .nil, h => by simp at h
  | _, _, 0, u, .cons r rs, h => by
    cases (show some _ = some u from h)
    exact ⟨_, rfl, r⟩
  | _, _, i + 1, u, .cons r rs, h => vals_getV (i := i) rs (by simpa using h)
section
variable {X : Cx}
theorem cr_minT (hc : X.calm = true) (hu : X.A.units + 64 < cLine) : CallR X (.builtin "min") (hMinT X) := by
  intro pins s σ H vs us Q I r h
  obtain ⟨a, xs, t, ts, rfl, hs, hd, q⟩ := h
  obtain ⟨its, rv, pl, hz⟩ := I.list hs
  rw [Vals.ref1 r]
  obtain ⟨as, hr⟩ := Dp.readsAll I _ _ _ hd rv
  have hal : AlikeAll (pyT t :: ts.map pyT) := by
    refine ⟨fun x hx y hy => ?_, fun x hx => ?_⟩
    · obtain ⟨p, _, rfl⟩ := List.mem_map.mp (show x ∈ (t :: ts).map pyT from hx)
      obtain ⟨p', _, rfl⟩ := List.mem_map.mp (show y ∈ (t :: ts).map pyT from hy)
      exact alike_pyT _ _
    · obtain ⟨p, _, rfl⟩ := List.mem_map.mp (show x ∈ (t :: ts).map pyT from hx)
      unfold pyT; intro z; cases z
  have hdp := depth_pyTs (t :: ts)
  refine min_list_data (I.ok.hd hc) pl.isList (x := pyT t) (xs := ts.map pyT) (by simpa using hr) hal (by
    show X.A.units + 1 + PyData.depthAll ((t :: ts).map pyT) < cLine
    omega) fun i v h' tk bs hv rd k => ?_
  have hv' : its[i]? = some v := by simpa using hv
  obtain ⟨x, hx, rx⟩ := vals_getV rv hv'
  obtain ⟨d, cs, hd', rd'⟩ := Reads_get hr i v hv'
  have hm : d ∈ (t :: ts).map pyT := List.mem_of_getElem? hd'
  obtain ⟨u, hu', rfl⟩ := List.mem_map.mp hm
  rw [minD_pyT] at rd
  have e : pyT u = pyT (minT t ts) := alike_unique _ _ _ _ _ (alike_pyT _ _) (PyProof.Rows.Reads.keeps k rd') rd
  have e2 := pyT_inj e
  subst e2
  have hi : (t :: ts)[i]? = some (minT t ts) := by
    rw [List.getElem?_map] at hd'
    obtain ⟨z, hz1, hz2⟩ := Option.map_eq_some_iff.mp hd'
    rw [hz1, pyT_inj hz2]
  exact ⟨x, H, I.kept k, rx, q i x hx hi⟩
theorem lift_minT : LiftC X (hMinT X) rMinTD := by
  intro η G H vs ds Q Qd w r h q
  match ds, h with
  | [d], h =>
    obtain ⟨v, rfl, rd⟩ := rpl1 r
    unfold rMinTD at h
    simp only at h
    split at h
    · rename_i xs e
      split at h
      · rename_i t ts en
        obtain ⟨a, us, rfl, ha, ru⟩ := vw_lst w rd e
        have ex := tupsD_eq en
        have hdp : DpAll X.K H us ((t :: ts).map pyT) := by
          have := RpL.dp xs us (by
            rw [ex]
            clear ex en ru rd e
            induction (t :: ts) with
            | nil => rfl
            | cons z zs ih =>
              show (noObj (tupI z) && noObjL (zs.map tupI)) = true
              rw [ih]
              have : noObjL (z.map D.int) = true := by
                induction z with
                | nil => rfl
                | cons _ _ ih2 => exact ih2
              show (noObjL (z.map D.int) && true) = true
              rw [this]; rfl) ru
          rw [ex, toPyL_map, List.map_map] at this
          rwa [show toPy ∘ tupI = pyT from funext toPy_tupI] at this
        refine ⟨a, us, t, ts, rfl, SqL.of ha, hdp, fun i v hv hm => ?_⟩
        obtain ⟨d', hd', rd'⟩ := ru.getV hv
        rw [ex, List.getElem?_map, hm] at hd'
        cases hd'
        exact q.now w rd' h
      · exact h.elim
    · exact h.elim
end
end Y

namespace Y
open PySem PySem.Spec L2
open PyProof.Rows hiding St
theorem grew0 {G : GS} : GrewFrom G G := ⟨[], (List.append_nil _).symm⟩
theorem grew1 {G L : GS} : GrewFrom G (G ++ L) := ⟨L, rfl⟩
def plainD (d : D) : Bool := (tyN d).isSome
def isIntD : D → Bool
  | .int _ => true
  | _ => false
def fromD (d : D) (lo hi : Int) : Bool := match d with
  | .int i => decide (lo ≤ i) && decide (i ≤ hi)
  | _ => false
theorem fromD_int {d : D} {lo hi : Int} (h : fromD d lo hi = true) : ∃ i, d = .int i ∧ lo ≤ i ∧ i ≤ hi := by
  cases d with
  | int i =>
    have := Bool.and_eq_true_iff.mp h
    exact ⟨i, rfl, of_decide_eq_true this.1, of_decide_eq_true this.2⟩
  | _ => cases h
def isTupD : D → Bool
  | .tup _ => true
  | _ => false
theorem atI_nat' {α : Type} {xs : List α} {j : Nat} : atI xs (j : Int) = xs[j]? := by
  unfold atI ixN
  rw [if_pos (by omega)]
  by_cases h : (j : Int) < (xs.length : Int)
  · rw [if_pos h]
    show xs[(j : Int).toNat]? = _
    rw [Int.toNat_natCast]
  · rw [if_neg h, List.getElem?_eq_none (by omega)]
    rfl
theorem cutD_drop {ds : List D} {j : Nat} (h : j ≤ ds.length) : cutD ds (some (j : Int)) none = ds.drop j := by
  unfold cutD
  rw [HT.sIx_nat, HT.sIx_none, Nat.min_eq_left h]
  exact List.take_of_length_le (by rw [List.length_drop]; omega)
theorem inOk_ints {x : Int} {ns : List Int} : inOk (.int x) (ns.map .int) = true := by
  unfold inOk
  have : (ns.map D.int).all flatD = true := by
    rw [List.all_map]
    exact List.all_eq_true.mpr fun _ _ => rfl
  rw [this]; rfl
theorem eqD_int {x y : Int} : eqD (.int x) (.int y) = decide (x = y) := by
  show PyData.eqv (.int x) (.int y) = _
  rw [PyData.eqv]
  by_cases h : x = y <;> simp [h]
theorem inL_ints {x : Int} {ns : List Int} : inL (.int x) (ns.map .int) = decide (x ∈ ns) := by
  unfold inL
  rw [List.any_map]
  induction ns with
  | nil => simp
  | cons y ys ih =>
    rw [List.any_cons, ih]
    show (eqD (.int y) (.int x) || _) = _
    rw [eqD_int]
    by_cases h : y = x
    · simp [h]
    · have : x ≠ y := fun z => h z.symm
      simp [h, this]
end Y

namespace Y
open PySem PySem.Spec L2
open PyProof.Rows hiding St
theorem exm_of {K : PySem.W.Frag} {C S : Addr} {b : Bool} (h1 : PySem.W.subIn K (.ref S) (.type "BaseException") = some true) (h2 : PySem.W.isClsIn K S = true) (h3 : PySem.W.typeIn K (.ref S) = some (.type "type")) (h4 : PySem.W.subIn K (.ref C) (.ref S) = some b) :
    PySem.W.exmOne K (.ref C) (.ref S) = some b := by
  have a1 : (PySem.W.subIn K (.ref S) (.type "BaseException") == some true) = true := by simp [h1]
  have a2 : ((PySem.W.clsIn K S).isSome && PySem.W.typeIn K (.ref S) == some (.type "type")) = true := by
    have z : (PySem.W.clsIn K S).isSome = true := h2
    simp [z, h3]
  exact (if_pos a1).trans ((if_pos a2).trans h4)
end Y

namespace Y
open PySem PySem.Spec L2 SrtO
open PySem.W (alikeAll firstLt_toks eqAt_alikeAll rcLt_alikeAll oneLt_alike)
open PyProof.Rows hiding St
section
variable {prog : Program} {w : World} {A : Around} {E : Value → Shared → Prop} {s : Shared}
theorem oneLt_tup {a b : Value} {ta tb : List Int} {as bs : List Addr} {Q : Bool → Shared → Prop} (f : Bool) (ra : Reads s.heap a (pyT ta) as) (rb : Reads s.heap b (pyT tb) bs) (hu : A.units + 8 < cLine) (hq : Q (ltT ta tb) s) :
    wpAny (model prog w) A (oneLt' f a b) Q E s := by
  have hdp : A.units + min (pyT ta).depth (pyT tb).depth < cLine := by
    have h1 := depth_ints ta
    have : (pyT ta).depth ≤ 2 := by unfold pyT; simp only [PyData.depth]; omega
    omega
  cases f with
  | false => exact oneLt_alike (fun z => absurd z (by decide)) ra rb (alike_pyT _ _) (by unfold pyT; intro z; cases z) hdp (by rw [dataLt_pyT]; exact hq)
  | true =>
    have hal := alike_ints ta tb
    rw [← dataLt_pyT] at hq
    unfold pyT at ra rb hdp hq
    rw [PySem.W.dataLt_tuple, ← firstLt_toks _ _ hal] at hq
    cases ra with
    | @tuple l o vs n _ as1 h1 h2 h3 h4 =>
      cases rb with
      | @tuple l2 o2 vs2 n2 _ bs1 k1 k2 k3 k4 =>
        have n1 : vs.size = (ta.map PyData.int).length := by simpa using SeqAt.ReadsAll.length _ _ _ h4
        have n3 : vs2.size = (tb.map PyData.int).length := by simpa using SeqAt.ReadsAll.length _ _ _ k4
        rw [← n1, ← n3] at hq
        have he : ∀ j (j1 : j < vs.size) (j2 : j < vs2.size), SeqAt.EqAt A.in1 s vs[j] vs2[j] _ := fun j j1 j2 => by
          have := eqAt_alikeAll _ _ A.in1 s vs.toList vs2.toList _ _ h4 k4 hal (SeqAt.room_in hdp) j (by simpa using j1) (by simpa using j2)
          simpa using this
        have hr := fun j (j1 : j < vs.size) (j2 : j < vs2.size) hj => rcLt_alikeAll _ _ A.in1 s vs.toList vs2.toList _ _ h4 k4 hal (SeqAt.room_in hdp) j (by simpa using j1) (by simpa using j2) hj
        obtain ⟨cls, dd, data, sl⟩ := o
        obtain ⟨cls2, dd2, data2, sl2⟩ := o2
        simp only at h2 h3 k2 k3
        subst h2 h3 k2 k3
        rw [oneLt'_eq]
        simp only [if_true]
        refine wpAny_bind (wpAny_cRoomFor (by omega) (wpAny_bind (wpAny_callSpecialIfBound?_slot (T := "tuple") ⟨_, h1, rfl⟩ F.slot_tuple_lt
          (call_meets F.slot_tuple_lt ⟨_, h1, rfl⟩ F.entry_tuple_lt (F.args_tuple_lt_2 _ _) (SeqAt.tuple_ltAt l l2 vs vs2 n n2 dd dd2 sl sl2 _ _) ⟨h1, k1, he, fun j j1 j2 hj => by simpa using hr j j1 j2 hj, wpAny_truthy_bool hq⟩))))
end
end Y

namespace Y
open PySem PySem.Spec L2 SrtO
open PySem.W (kas_first_eq kas_mapM Looks)
open PyProof.Rows hiding St
section
variable {M : Model} {A : Around} {s : Shared}
theorem first_tup {v : Value} {t : List Int} {as : List Addr} (r : Reads s.heap v (pyT t) as) : ∃ o : Option Value, (o.isSome = true ↔ t ≠ []) ∧ (∀ (E : Value → Shared → Prop) (Q : Option Value → Shared → Prop), Q o s → wpAny M A (firstOfTuple' v) Q E s) ∧ Looks M s.heap (typeOf v) (.type "tuple") := by
  unfold pyT at r
  cases r with
  | @tuple a o xs n _ _ ho hc hd hr =>
    have hlen : xs.size = t.length := by simpa using SeqAt.ReadsAll.length _ _ _ hr
    have ty : Looks M s.heap (typeOf (.ref a)) (.type "tuple") := by
      rw [← hc]
      exact (Looks.ld ho).andThen .now
    refine ⟨xs[0]?, ?_, fun E Q hq => ?_, ty⟩
    · cases t with
      | nil =>
        have : xs[0]? = none := by rw [Array.getElem?_eq_none_iff, hlen]; exact Nat.le_refl 0
        rw [this]; simp
      | cons x r =>
        have h0 : 0 < xs.size := by rw [hlen]; exact Nat.succ_pos _
        rw [Array.getElem?_eq_getElem h0]; simp
    · rw [kas_first_eq]
      refine wpAny_bind (ty.here ?_)
      rw [if_neg (by first | decide | simp)]
      exact wpAny_bind (listItems_at ho hd (wpAny_pure hq))
theorem firsts_tup {k : Value → List Int} : ∀ vs : List Value, (∀ v ∈ vs, ∃ as, Reads s.heap v (pyT (k v)) as) → ∃ fs : List (Option Value), fs.length = vs.length ∧ (∀ (i : Nat) (v : Value), vs[i]? = some v → ∃ o : Option Value, fs[i]? = some o ∧ (o.isSome = true ↔ k v ≠ [])) ∧
    ∀ (E : Value → Shared → Prop) (Q : List (Option Value) → Shared → Prop), Q fs s → wpAny M A (vs.mapM firstOfTuple') Q E s
  | [], _ => ⟨[], rfl, fun i v h => by simp at h, fun E Q h => by rw [List.mapM_nil]; exact wpAny_pure h⟩
  | v :: vs, hp => by
    obtain ⟨as, r⟩ := hp v (.head _)
    obtain ⟨o, h1, h2, _⟩ := first_tup (M := M) (A := A) r
    obtain ⟨fs, l1, l2, l3⟩ := firsts_tup vs fun u hu => hp u (.tail _ hu)
    refine ⟨o :: fs, by simp [l1], fun i u hi => ?_, fun E Q hq => ?_⟩
    · cases i with
      | zero => cases (show some v = some u from hi); exact ⟨o, rfl, h1⟩
      | succ i => exact l2 i u hi
    · rw [List.mapM_cons]
      exact wpAny_bind (h2 _ _ (wpAny_bind (l3 E (fun bs s' => wpAny M A (pure (o :: bs)) Q E s') (wpAny_pure hq))))
theorem kind_mixed {k : Value → List Int} {vs : List Value} (hp : ∀ v ∈ vs, ∃ as, Reads s.heap v (pyT (k v)) as) (h2 : 2 ≤ vs.length) (hm : ∃ v ∈ vs, k v = []) :
    ∃ f : Bool, ∀ (E : Value → Shared → Prop) (Q : SortKind → Shared → Prop), Q (if f = true then oneType' else general') s → wpAny M A (keyKind' vs.toArray) Q E s := by
  obtain ⟨fs, l1, l2, l3⟩ := firsts_tup (M := M) (A := A) vs hp
  have hall : (fs.toArray.all fun x => x.isSome) = false := by
    obtain ⟨v, hv, e⟩ := hm
    obtain ⟨i, hi⟩ := List.mem_iff_getElem?.mp hv
    obtain ⟨o, ho, hs⟩ := l2 i v hi
    have hn : o.isSome = false := by
      cases hh : o.isSome with
      | false => rfl
      | true => exact absurd e (hs.mp hh)
    rw [List.all_toArray, List.all_eq_false]
    exact ⟨o, List.mem_of_getElem? ho, by rw [hn]; decide⟩
  have hT : ∀ v ∈ vs, Looks M s.heap (typeOf v) (.type "tuple") := fun v hv => by
    obtain ⟨as, r⟩ := hp v hv
    obtain ⟨_, _, _, ty⟩ := first_tup (M := M) (A := A) r
    exact ty
  refine ⟨!(fs.toArray[0]?.bind id).isSome, fun E Q hq => ?_⟩
  rw [keyKind'_eq, List.mapM_toArray, map_eq_pure_bind]
  refine wpAny_bind (wpAny_bind (l3 E _ (wpAny_pure ?_)))
  rw [if_neg (by rw [hall]; decide)]
  cases hc : (fs.toArray[0]?.bind id).isSome with
  | true =>
    rw [hc] at hq
    rw [if_pos rfl]
    exact wpAny_pure hq
  | false =>
    rw [hc] at hq
    rw [if_neg (by decide)]
    obtain ⟨v1, v2, rest, rfl⟩ : ∃ v1 v2 rest, vs = v1 :: v2 :: rest := by
      match vs, h2 with
      | [], h2 => simp at h2
      | [_], h2 => simp at h2
      | v1 :: v2 :: rest, _ => exact ⟨v1, v2, rest, rfl⟩
    rw [oneTypeOnly'_eq, List.mapM_toArray, map_eq_pure_bind]
    refine wpAny_bind (wpAny_bind (wpAny_bind (kas_mapM (r := Value.type "tuple") _ (fun v hv Q' hq' => (hT v hv).here hq') (wpAny_pure ?_))))
    have ha : ((List.map (fun _ => Value.type "tuple") (v1 :: v2 :: rest)).toArray.all fun x => x == Value.type "tuple") = true := by
      rw [List.all_toArray, List.all_map, List.all_eq_true]
      intro _ _
      exact beq_self_eq_true _
    have h0 : (List.map (fun _ => Value.type "tuple") (v1 :: v2 :: rest)).toArray[0]? = some (Value.type "tuple") := by simp
    rw [h0]
    simp only [ha, if_true]
    exact wpAny_pure (wpAny_pure hq)
end
end Y

namespace Y
open PySem PySem.Spec L2 SrtO
open PySem.W (SortsAt dataKind dataKind_some keyToks)
open PyProof.Rows hiding St
theorem ltT_no : ∀ {a b : List Int}, ltT a b = false → ltT b a = false → a = b
  | [], [], _, _ => rfl
  | [], _ :: _, h, _ => by cases h
  | _ :: _, [], _, h => by cases h
  | x :: r, y :: t, h1, h2 => by
    simp only [ltT, Bool.or_eq_false_iff, Bool.and_eq_false_iff, decide_eq_false_iff_not] at h1 h2
    have e : x = y := by omega
    subst e
    rw [ltT_no (a := r) (b := t) (by rcases h1.2 with z | z; exact absurd rfl z; exact z) (by rcases h2.2 with z | z; exact absurd rfl z; exact z)]
theorem ltT_asym : ∀ {a b : List Int}, ltT a b = true → ltT b a = false
  | [], [], h => by cases h
  | [], _ :: _, _ => rfl
  | _ :: _, [], h => by cases h
  | x :: r, y :: t, h => by
    simp only [ltT, Bool.or_eq_true, Bool.and_eq_true, decide_eq_true_eq] at h
    show (decide (y < x) || (decide (y = x) && ltT t r)) = false
    rcases h with h | ⟨h1, h2⟩
    · have a1 : ¬ y < x := by omega
      have a2 : ¬ y = x := by omega
      simp [a1, a2]
    · subst h1
      simp [ltT_asym h2]
theorem ltT_trans : ∀ {a b c : List Int}, ltT a b = true → ltT b c = true → ltT a c = true
  | [], [], _, h, _ => by cases h
  | _ :: _, [], _, h, _ => by cases h
  | _, _ :: _, [], _, h => by cases h
  | [], _ :: _, _ :: _, _, _ => rfl
  | x :: r, y :: t, z :: u, h1, h2 => by
    simp only [ltT, Bool.or_eq_true, Bool.and_eq_true, decide_eq_true_eq] at h1 h2
    show (decide (x < z) || (decide (x = z) && ltT r u)) = true
    simp only [Bool.or_eq_true, Bool.and_eq_true, decide_eq_true_eq]
    rcases h1 with h1 | ⟨h1, h1'⟩ <;> rcases h2 with h2 | ⟨h2, h2'⟩
    · exact .inl (by omega)
    · exact .inl (by omega)
    · exact .inl (by omega)
    · exact .inr ⟨by omega, ltT_trans h1' h2'⟩
theorem swo_tup (k : Value → List Int) : Swo fun u v => ltT (k u) (k v) := by
  refine ⟨fun x y h => ltT_asym h, fun x y z h1 h2 => ?_⟩
  cases h : ltT (k z) (k x) with
  | false => rfl
  | true =>
    cases h3 : ltT (k x) (k y) with
    | true => rw [ltT_trans h h3] at h2; cases h2
    | false =>
      rw [ltT_no h3 h1] at h
      rw [h] at h2; cases h2
def sortT (ts : List (List Int)) : List (List Int) := ts.mergeSort (fun a b => !ltT b a)
theorem sortT_perm (ts : List (List Int)) : (sortT ts).Perm ts := List.mergeSort_perm _ _
theorem sortT_sorted (ts : List (List Int)) : (sortT ts).Pairwise (fun a b => ltT b a = false) := by
  have := List.pairwise_mergeSort (le := fun a b : List Int => !ltT b a) (fun a b c h1 h2 => by
    simp only [Bool.not_eq_true'] at *
    cases h : ltT c a with
    | false => rfl
    | true =>
      cases h3 : ltT a b with
      | true => rw [ltT_trans h h3] at h2; cases h2
      | false =>
        rw [ltT_no h3 h1] at h
        rw [h] at h2; cases h2) (fun a b => by
    cases h : ltT b a with
    | false => rfl
    | true => simp [ltT_asym h]) ts
  exact this.imp (by simp)
theorem sortedT_uniq : ∀ {l1 l2 : List (List Int)}, l1.Perm l2 → l1.Pairwise (fun a b => ltT b a = false) → l2.Pairwise (fun a b => ltT b a = false) → l1 = l2
  | [], l2, p, _, _ => by rw [p.nil_eq]
  | a :: r, [], p, _, _ => absurd p.length_eq (by simp)
  | a :: r, b :: t, p, h1, h2 => by
    have ha : a ∈ b :: t := p.mem_iff.mp (.head _)
    have hb : b ∈ a :: r := p.mem_iff.mpr (.head _)
    have e : a = b := by
      rcases List.mem_cons.mp ha with e | m
      · exact e
      · rcases List.mem_cons.mp hb with e | m'
        · exact e.symm
        · exact ltT_no (List.rel_of_pairwise_cons h2 m) (List.rel_of_pairwise_cons h1 m')
    subst e
    rw [sortedT_uniq (List.perm_cons a |>.mp p) h1.of_cons h2.of_cons]
section
variable {prog : Program} {w : World} {A : Around} {s : Shared}
theorem tups_sortable {g : Heap} {a : Addr} {vs : List Value} {k : Value → List Int} (hp : ∀ v ∈ vs, ∃ as, Reads s.heap v (pyT (k v)) as) (kp : ∀ b u, s.heap.get? b = some u → b ≠ a ∧ g.get? b = some u) (h2 : 2 ≤ vs.length) (hu : A.units + 8 < cLine) :
    SortableO prog w A { s with heap := g } a vs fun u v => ltT (k u) (k v) := by
  intro h' kp'
  have hp' : ∀ v ∈ vs, ∃ as, Reads h' v (pyT (k v)) as := fun v hv => by
    obtain ⟨as, r⟩ := hp v hv
    exact ⟨as, PyProof.Rows.Reads.keeps (fun b u z => kp' b u (kp b u z).1 (kp b u z).2) r⟩
  by_cases hm : ∃ v ∈ vs, k v = []
  · obtain ⟨f, hf⟩ := kind_mixed (M := model prog w) (A := A) (s := { s with heap := h' }) hp' h2 hm
    refine ⟨if f = true then oneType' else general', fun Q E hq => hf E Q hq, fun p q m m' => ?_⟩
    obtain ⟨as, r1⟩ := hp' _ m
    obtain ⟨bs, r2⟩ := hp' _ m'
    cases f with
    | true => exact oneLt_tup (s := { s with heap := h' }) true r1 r2 hu ⟨rfl, rfl⟩
    | false => exact oneLt_tup (s := { s with heap := h' }) false r1 r2 hu ⟨rfl, rfl⟩
  · have ne : ∀ v ∈ vs, k v ≠ [] := fun v hv e => hm ⟨v, hv, e⟩
    have each : ∀ us : List Value, (∀ v ∈ us, v ∈ vs) → PySem.W.EachIs (fun v d => ∃ as, Reads h' v d as) us (us.map fun v => pyT (k v)) := fun us => by
      induction us with
      | nil => exact fun _ => .nil
      | cons v us ih => exact fun h => .cons (hp' v (h v (.head _))) (ih fun u hu => h u (.tail _ hu))
    have al : PySem.W.AllAlike (vs.map fun v => pyT (k v)) := fun d hd d' hd' => by
      obtain ⟨v, _, rfl⟩ := List.mem_map.mp hd
      obtain ⟨u, _, rfl⟩ := List.mem_map.mp hd'
      exact alike_pyT _ _
    have so : PySem.W.Sortable (vs.map fun v => pyT (k v)) := .inl fun d hd => by
      obtain ⟨v, hv, rfl⟩ := List.mem_map.mp hd
      cases e : k v with
      | nil => exact absurd e (ne v hv)
      | cons x r => exact ⟨.int x, r.map .int, rfl⟩
    have dp : ∀ d, d ∈ vs.map (fun v => pyT (k v)) → A.units + d.depth < cLine := fun d hd => by
      obtain ⟨v, _, rfl⟩ := List.mem_map.mp hd
      have h1 := depth_ints (k v)
      have : (pyT (k v)).depth ≤ 2 := by unfold pyT; simp only [PyData.depth]; omega
      omega
    obtain ⟨kd, lt, kk⟩ := (SortsAt.data (prog := prog) (w := w) (A := A) (s := { s with heap := h' }) (each vs fun _ h => h) al so dp).kind
    refine ⟨kd, fun Q E hq => kk h2 E hq, fun p q m m' => ?_⟩
    obtain ⟨as, r1⟩ := hp' _ m
    obtain ⟨bs, r2⟩ := hp' _ m'
    have k1 := dataKind_some al (List.mem_map.mpr ⟨_, m, rfl⟩) r1
    have k2 := dataKind_some al (List.mem_map.mpr ⟨_, m', rfl⟩) r2
    exact lt (fun _ _ => False) p.1 q.1 _ _ (Q := fun r s' => s' = ({ s with heap := h' } : Shared) ∧ r = ltT (k p.1) (k q.1)) k1 k2 ⟨rfl, dataLt_pyT (k p.1) (k q.1)⟩
end
end Y

namespace Y
open PySem PySem.Spec L2 SrtO
open PyProof.Rows hiding St
/-- sorted of a list or a tuple of rows of ints -/
def rSortedTD : List D → GS → QD → Prop := fun ds G Q => match ds with
  | [d] => match itemsD G d with
    | some xs => (match tupsD xs with | some ts => Q (.lst ((sortT ts).map tupI)) G | none => False)
    | none => False
  | _ => False
abbrev hSortedT (X : Cx) : List V → Hp → VK → Prop := fun vs H Q => ∃ (a : Addr) (xs : List V) (ts : List (List Int)), vs = [V.ref a] ∧ (SqT X.K H a xs ∨ SqL X.K H a xs) ∧ DpAll X.K H xs (ts.map pyT) ∧ (∀ x ∈ xs, ∃ b, x = V.ref b) ∧
  ∀ us : List V, us.length = (sortT ts).length → (∀ (i : Nat) (u : V), us[i]? = some u → ∃ (j : Nat) (t : List Int), xs[j]? = some u ∧ ts[j]? = some t ∧ (sortT ts)[i]? = some t) → ∀ p, H p = none → Q (.ref p) (upd H p (.lst us))
open Classical in
/-- the row that a value stands for -/
noncomputable def kOf (h : Heap) (v : Value) : List Int := if z : ∃ t bs, Reads h v (pyT t) bs then z.choose else []
theorem reads_all_get {h : Heap} : ∀ {vs : List Value} {ts : List (List Int)} {as : List Addr}, ReadsAll h vs (ts.map pyT) as → vs.length = ts.length ∧ ∀ (i : Nat) (v : Value), vs[i]? = some v → ∃ t bs, ts[i]? = some t ∧ Reads h v (pyT t) bs
  | [], [], _, _ => ⟨rfl, fun i v h => by simp at h⟩
  | [], _ :: _, _, r => nomatch r
  | _ :: _, [], _, r => nomatch r
  | v :: vs, t :: ts, _, .cons r rs => by
    obtain ⟨h1, h2⟩ := reads_all_get rs
    refine ⟨by simp [h1], fun i u hu => ?_⟩
    cases i with
    | zero => cases (show some v = some u from hu); exact ⟨t, _, rfl, r⟩
    | succ i => exact h2 i u hu
section
variable {X : Cx}
theorem oSortedT (hu : X.A.units + 64 < cLine) : CallR X (.builtin "sorted") (hSortedT X) := by
  intro pins s σ H vs us Q I r h
  obtain ⟨a, xs, ts, rfl, hs, hd, hrf, q⟩ := h
  obtain ⟨T, o, n, its, hT, ho, hc, hdd, rv, hz⟩ : ∃ (T : String) (o : Obj) (n : Nat) (its : List Value), (T = "list" ∨ T = "tuple") ∧ s.heap.get? a = some o ∧ o.cls = .type T ∧ o.data = .seq its.toArray n ∧ Vals xs its ∧ xs.length ≤ sizeLine := by
    rcases hs with hs | hs
    · obtain ⟨its, rv, ⟨o, ho, hc, n, hd⟩, hz⟩ := I.tuple hs
      exact ⟨"tuple", o, n, its, .inr rfl, ho, hc, hd, rv, hz⟩
    · obtain ⟨its, rv, ⟨o, n, ho, hc, _, hd⟩, hz⟩ := I.list hs
      exact ⟨"list", o, n, its, .inl rfl, ho, hc, hd, rv, hz⟩
  rw [Vals.ref1 r]
  obtain ⟨as, hr⟩ := Dp.readsAll I _ _ _ hd rv
  obtain ⟨hl, hg⟩ := reads_all_get hr
  obtain ⟨e1, e2⟩ := refs_back rv hrf
  obtain ⟨k, hk⟩ : ∃ k : Value → List Int, ∀ v t bs, Reads s.heap v (pyT t) bs → k v = t := by
    refine ⟨kOf s.heap, fun v t bs rd => ?_⟩
    have z : ∃ t bs, Reads s.heap v (pyT t) bs := ⟨t, bs, rd⟩
    have e : kOf s.heap v = z.choose := dif_pos z
    rw [e]
    obtain ⟨cs, rc⟩ := z.choose_spec
    exact pyT_inj (PySem.W.alike_unique _ _ _ _ _ (alike_pyT _ _) rc rd)
  have hp : ∀ v ∈ its, ∃ as, Reads s.heap v (pyT (k v)) as := fun v hv => by
    obtain ⟨i, hi⟩ := List.mem_iff_getElem?.mp hv
    obtain ⟨t, bs, _, rd⟩ := hg i v hi
    rw [hk v t bs rd]
    exact ⟨bs, rd⟩
  have hmap : its.map k = ts := by
    refine List.ext_getElem? fun i => ?_
    rw [List.getElem?_map]
    cases hi : its[i]? with
    | none =>
      have : its.length ≤ i := List.getElem?_eq_none_iff.mp hi
      rw [List.getElem?_eq_none (by omega)]; rfl
    | some v =>
      obtain ⟨t, bs, ht, rd⟩ := hg i v hi
      rw [ht, Option.map_some, hk v t bs rd]
  refine sorted_seq (swo_tup k) hT ho hc hdd (by rw [← rv.length]; exact hz) (fun h2 g b kp => tups_sortable hp kp h2 (by show X.A.units + 1 + 1 + 8 < cLine; omega)) fun out h1 h2 e a1 a2 k1 k2 at_ => ?_
  have perm := a2.perm
  have eq : out.map k = sortT ts := by
    refine sortedT_uniq (((perm.map k).trans (by rw [hmap])).trans (sortT_perm ts).symm) ?_ (sortT_sorted ts)
    exact List.pairwise_map.mpr (a1.imp fun h => h)
  have I1 := I.kept (t' := s.toks) k1
  have hb : ∀ u ∈ out, ∃ c, u = Value.ref c := fun u hu => e2 u (perm.mem_iff.mp hu)
  have hlen : (out.map backV).length ≤ sizeLine := by
    rw [List.length_map, perm.length_eq, ← rv.length]; exact hz
  have I2 := I1.laid (t' := s.toks) k2 (Nat.le_refl _) (o := .lst (out.map backV)) ⟨hlen, out, e, vals_back hb, at_⟩
  refine ⟨.ref h1.objs.size, _, I2, rfl, q (out.map backV) (by rw [← eq, List.length_map, List.length_map]) (fun i u hi => ?_) _ (I1.hok.fresh (Nat.le_refl _))⟩
  rw [List.getElem?_map] at hi
  obtain ⟨v, hv, rfl⟩ := Option.map_eq_some_iff.mp hi
  have hm : v ∈ its := perm.mem_iff.mp (List.mem_of_getElem? hv)
  obtain ⟨j, hj⟩ := List.mem_iff_getElem?.mp hm
  obtain ⟨t, bs, ht, rd⟩ := hg j v hj
  refine ⟨j, t, by rw [e1, List.getElem?_map, hj]; rfl, ht, ?_⟩
  rw [← eq, List.getElem?_map, hv, Option.map_some, hk v t bs rd]
end
end Y

namespace Y
open PySem PySem.Spec L2
open PyProof.Rows hiding St
section
variable {X : Cx}
theorem RpL.ofGet {K : PySem.W.Frag} {η : Eta} {H : Hp} : ∀ {ds : List D} {vs : List V}, vs.length = ds.length → (∀ (i : Nat) (v : V), vs[i]? = some v → ∃ d, ds[i]? = some d ∧ Rp K η H d v) → RpL K η H ds vs
  | [], [], _, _ => rfl
  | [], _ :: _, h, _ => by simp at h
  | _ :: _, [], h, _ => by simp at h
  | d :: ds, v :: vs, h, hg => by
    obtain ⟨d', e, r⟩ := hg 0 v rfl
    cases (show some d = some d' from e)
    exact ⟨v, vs, rfl, r, RpL.ofGet (by simpa using h) fun i u hu => hg (i + 1) u hu⟩
theorem noObj_tupI {t : List Int} : noObj (tupI t) = true := by
  show noObjL (t.map D.int) = true
  induction t with
  | nil => rfl
  | cons _ _ ih => exact ih
theorem noObjL_tups {ts : List (List Int)} : noObjL (ts.map tupI) = true := by
  induction ts with
  | nil => rfl
  | cons t ts ih =>
    show (noObj (tupI t) && noObjL (ts.map tupI)) = true
    rw [ih, noObj_tupI]; rfl
theorem lift_sortedT : LiftC X (hSortedT X) rSortedTD := by
  intro η G H vs ds Q Qd w r h q
  match ds, h with
  | [d], h =>
    obtain ⟨v, rfl, rd⟩ := rpl1 r
    unfold rSortedTD at h
    simp only at h
    split at h
    · rename_i xs e
      split at h
      · rename_i ts en
        obtain ⟨a, us, rfl, hs, ru⟩ := itemsD_ok w rd e
        have ex := tupsD_eq en
        subst ex
        have hdp : DpAll X.K H us (ts.map pyT) := by
          have := RpL.dp _ us noObjL_tups ru
          rw [toPyL_map, List.map_map] at this
          rwa [show toPy ∘ tupI = pyT from funext toPy_tupI] at this
        have refs : ∀ x ∈ us, ∃ b, x = V.ref b := fun x hx => by
          obtain ⟨i, hi⟩ := List.mem_iff_getElem?.mp hx
          obtain ⟨d', hd', rd'⟩ := ru.getV hi
          rw [List.getElem?_map] at hd'
          obtain ⟨t, _, rfl⟩ := Option.map_eq_some_iff.mp hd'
          obtain ⟨b, _, e, _⟩ := rd'
          exact ⟨b, e⟩
        refine ⟨a, us, ts, rfl, hs, hdp, refs, fun zs hl hg p hp => q.newL w hp (RpL.ofGet (by rw [List.length_map]; exact hl) fun i u hu => ?_) h⟩
        obtain ⟨j, t, h1, h2, h3⟩ := hg i u hu
        refine ⟨tupI t, by rw [List.getElem?_map, h3]; rfl, ?_⟩
        obtain ⟨d', hd', rd'⟩ := ru.getV h1
        rw [List.getElem?_map, h2] at hd'
        cases hd'
        exact rd'
      · exact h.elim
    · exact h.elim
end
end Y

namespace Y
open PySem PySem.Spec L2
open PyProof.Rows hiding St
/-- <= of tuples of ints: the kit's own walk over the places -/
def leT (ns ms : List Int) : Bool := Ob.lexAt (fun j => decide (ns.getD j 0 = ms.getD j 0)) (fun j => decide (ns.getD j 0 ≤ ms.getD j 0)) (decide (ns.length ≤ ms.length)) 0 (min ns.length ms.length)
def rLeTD : R2d := fun x y G Q => match x, y with
  | .tup a, .tup b => (match intsD a, intsD b with | some ns, some ms => Q (.bl (leT ns ms)) G | _, _ => False)
  | _, _ => False
theorem lift_leT {X : Cx} : LiftR X (L2.rLeT X.K) rLeTD := by
  intro η G H x y dx dy Q Qd w rx ry h q
  unfold rLeTD at h
  split at h
  · rename_i a b
    split at h
    · rename_i ns ms e1 e2
      rw [intsD_eq e1] at rx
      rw [intsD_eq e2] at ry
      obtain ⟨p, vs, rfl, hp, r1⟩ := rx
      obtain ⟨p2, vs2, rfl, hp2, r2⟩ := ry
      rw [RpL.ints.mp r1] at hp
      rw [RpL.ints.mp r2] at hp2
      exact ⟨p, p2, ns, ms, rfl, rfl, hp, hp2, q.nb w h⟩
    · exact h.elim
  · exact h.elim
theorem lexAt_shift {e r e' r' : Nat → Bool} {z : Bool} (he : ∀ j, e (j + 1) = e' j) (hr : ∀ j, r (j + 1) = r' j) : ∀ k i, Ob.lexAt e r z (i + 1) k = Ob.lexAt e' r' z i k
  | 0, i => rfl
  | k + 1, i => by
    rw [Ob.lexAt_succ, Ob.lexAt_succ, he, hr, lexAt_shift he hr k (i + 1)]
theorem leT_eq : ∀ ns ms : List Int, leT ns ms = !ltT ms ns
  | [], ms => by
    have : ltT ms [] = false := by cases ms <;> rfl
    rw [this]
    unfold leT
    rw [show min ([] : List Int).length ms.length = 0 by simp]
    rw [Ob.lexAt_zero]
    simp
  | n :: ns, [] => by
    unfold leT
    rw [show min (n :: ns).length ([] : List Int).length = 0 by simp, Ob.lexAt_zero]
    simp [ltT]
  | n :: ns, m :: ms => by
    unfold leT
    rw [show min (n :: ns).length (m :: ms).length = min ns.length ms.length + 1 by simp only [List.length_cons]; omega, Ob.lexAt_succ]
    rw [lexAt_shift (e' := fun j => decide (ns.getD j 0 = ms.getD j 0)) (r' := fun j => decide (ns.getD j 0 ≤ ms.getD j 0)) (fun j => by simp) (fun j => by simp)]
    have ih := leT_eq ns ms
    unfold leT at ih
    have ez : decide ((n :: ns).length ≤ (m :: ms).length) = decide (ns.length ≤ ms.length) := by simp
    rw [ez, ih]
    show (if decide (n = m) = true then !ltT ms ns else decide (n ≤ m)) = !(decide (m < n) || (decide (m = n) && ltT ms ns))
    rcases Int.lt_trichotomy n m with h | h | h
    · have a1 : ¬ n = m := by omega
      have a2 : n ≤ m := by omega
      have a3 : ¬ m < n := by omega
      have a4 : ¬ m = n := by omega
      simp [a1, a2, a3, a4]
    · subst h; simp
    · have a1 : ¬ n = m := by omega
      have a2 : ¬ n ≤ m := by omega
      simp [a1, a2, h]
end Y

namespace Y
open PySem PySem.Spec L2
open PyProof.Rows hiding St
/-- ahead of a statement, a numbered list that a name has is given away -/
def tFrzS (i : Nat) (t : TSd) : TSd := fun D ρ G => match ρ[i]? with
  | some (some (.obj k)) => match G[k]? with | some (.lst ds) => t D (ρ.set i (some (.lst ds))) (G.set k .dead) | _ => False
  | _ => False
theorem EnvR.freezeAt {K : PySem.W.Frag} {mg : Str → Option Value} {η : Eta} {G : GS} {H : Hp} {σ : St} {ρ : Rho} {i k : Nat} {ds : List D} (he : EnvR K η H σ ρ) (w : W K mg η G H) (h1 : ρ[i]? = some (some (.obj k))) (h2 : G[k]? = some (.lst ds)) : EnvR K (η.kill k) H σ (ρ.set i (some (.lst ds))) := by
  obtain ⟨v, hv, r⟩ := he.2 i _ h1
  have he2 : EnvR K (η.kill k) H σ ρ := he.step Stp.freeze
  have h3 := he2.set i (Rp.freeze w r h2)
  have e : σ.set i (some v) = σ := by
    obtain ⟨hi, e⟩ := List.getElem?_eq_some_iff.mp hv
    rw [← e, List.set_getElem_self]
  rw [e] at h3
  exact h3
theorem psd_frzS {X : Cx} {E : St → XK} {st : Stmt} {t : TSd} {i : Nat} (h : PSd X E st t) : PSd X E st (tFrzS i t) := by
  refine ⟨PS.imp h.run fun D σ H h => ?_⟩
  obtain ⟨ρ, η, G, Dd, he, w, ht, l⟩ := h
  unfold tFrzS at ht
  split at ht
  · rename_i k e1
    split at ht
    · rename_i ds e2
      exact ⟨ρ.set i (some (.lst ds)), η.kill k, G.set k .dead, Dd, he.freezeAt w e1 e2, w.freeze, ht, l.step Stp.freeze⟩
    · exact ht.elim
  · exact ht.elim
end Y

namespace Y
open PySem PySem.Spec L2
open PyProof.Rows hiding St
section
variable {X : Cx}
theorem isa_ty {K : PySem.W.Frag} {mg : Str → Option Value} {η : Eta} {G : GS} {H : Hp} (w : W K mg η G H) {d : D} {v : V} {n : TyN} (r : Rp K η H d v) (en : tyN (vw G d) = some n) : TyX K H v (.type n.name) := by
  cases hd : vw G d with
  | lst ds =>
    rw [hd] at en; cases en
    obtain ⟨a, vs, rfl, hl, _⟩ := vw_lst w r hd
    exact .base (.lst hl)
  | obj k => rw [hd] at en; cases en
  | exn _ _ _ _ => rw [hd] at en; cases en
  | scr _ => rw [hd] at en; cases en
  | key _ => rw [hd] at en; cases en
  | _ =>
    rw [hd] at en; cases en
    cases d with
    | obj k => rcases vw_obj (G := G) (k := k) with ⟨ds, _, z⟩ | z <;> (rw [z] at hd; cases hd)
    | non => first | (cases hd; done) | (cases (show v = .non from r); exact .base .non)
    | bl y => first | (cases hd; done) | (cases (show v = .bl y from r); exact .base (.bl y))
    | int y => first | (cases hd; done) | (cases (show v = .int y from r); exact .base (.int y))
    | str y => first | (cases hd; done) | (cases (show v = .str y from r); exact .base (.str y))
    | lst y => cases hd
    | exn _ _ _ _ => cases hd
    | scr _ => cases hd
    | key _ => cases hd
    | dct => first | (cases hd; done) | (obtain ⟨a, rfl, _, hd'⟩ := r; exact .base (.dK hd'))
    | tup y =>
      first
        | (cases hd; done)
        | (obtain ⟨a, vs, rfl, ht, _⟩ := r
           rcases ht with (ht | ⟨o, ht⟩) | ⟨o, its, n, h1, h2, _⟩
           · exact .base (.tup ht)
           · exact .fTuple ht
           · exact .kTuple h1 h2)
/-- isinstance with two types in a tuple -/
def tIsi2D (T U : Ty) (te : TEd) : TEd := fun ρ G Q Ed => te ρ G (fun d G1 => match tyN (vw G1 d) with | some n => Q (.bl (isaN n T || isaN n U)) G1 | none => False) Ed
theorem ped_isi2 {E : St → XK} {e : Expr} {te : TEd} {p p2 p3 tp pos : Pos} {k : Nat} {x y : Str} (T U : Ty) (hm : X.mg "isinstance" = none) (hmT : X.mg x = none) (hmU : X.mg y = none) (hvT : bootBuiltins x = some (.type T.name)) (hvU : bootBuiltins y = some (.type U.name)) (hg : Gl X "isinstance") (hgT : Gl X x) (hgU : Gl X y) (he : PEd X E e te)
    (hn : x ≠ "__name__" := by decide) (hd : (x == ("__debug__" : Str)) = false := by decide) (hn2 : y ≠ "__name__" := by decide) (hd2 : (y == ("__debug__" : Str)) = false := by decide)
    (hs : starEach (e :: [.Tuple [.Name x p2, .Name y p3] k tp]) X.env = (false, eval e X.env) :: starEach [.Tuple [.Name x p2, .Name y p3] k tp] X.env := by rfl) (hpl : (backTo pos (starEach [.Tuple [.Name x p2, .Name y p3] k tp] X.env)).any (·.1) = false := by rfl) :
    PEd X E (.Call (.Name "isinstance" p) [e, .Tuple [.Name x p2, .Name y p3] k tp] [] pos) (tIsi2D T U te) := by
  have h1 : PE X (.Name x p2) (tC (.ty T.name)) := pe_bltn hgT hmT hvT rfl hn hd
  have h2 : PE X (.Name y p3) (tC (.ty U.name)) := pe_bltn hgU hmU hvU rfl hn2 hd2
  have h3 : PE X (.Tuple [.Name x p2, .Name y p3] k tp) _ := pe_tup (pa_cons h1 (pa_cons h2 pa_nil))
  refine ⟨PE.imp (pe_callB call_isiT hg hm (by decide +kernel) (pa_cons he.run (pa_cons h3 pa_nil) hs) (by decide) (by decide) hs hpl) fun σ H Q h => ?_⟩
  obtain ⟨ρ, η, G, Qd, Ed, he, w, ht, hq, hE⟩ := h
  refine ⟨ρ, η, G, _, Ed, he, w, ht, fun d G1 v η1 H1 s1 w1 r1 q1 => ?_, hE⟩
  dsimp only at q1
  split at q1
  · rename_i n en
    refine ⟨show 2 ≤ sizeLine by decide, fun a ha => ?_⟩
    have s2 : Stp η1 H1 η1 (upd H1 a (.tup [.ty T.name, .ty U.name])) := Stp.laid ha
    have w2 : W X.K X.mg η1 G1 (upd H1 a (.tup [.ty T.name, .ty U.name])) := w1.laid ha
    have r2 := Rp.step s2 d v r1
    have ty := isa_ty w2 r2 en
    refine ⟨v, a, [.ty T.name, .ty U.name], _, [.type T.name, .type U.name], isaN n T || isaN n U, rfl, upd_same, .cons (.ty _) (.cons (.ty _) .nil), ty, ?_, ((hq.step s1).step s2).nb w2 q1⟩
    refine kitAny_cons (kit_ty (kitB_isa n T)) (fun hb => ?_) (fun hb => by rw [hb]; rfl)
    rw [hb]
    exact kitAny_cons (kit_ty (kitB_isa n U)) (fun hb => by rw [hb]; exact kitAny_nil) (fun hb => by rw [hb]; rfl)
  · exact q1.elim
theorem RpL.rep {K : PySem.W.Frag} {η : Eta} {H : Hp} {ds : List D} {vs : List V} (h : RpL K η H ds vs) : ∀ n : Nat, RpL K η H (List.replicate n ds).flatten (List.replicate n vs).flatten
  | 0 => rfl
  | n + 1 => by
    rw [List.replicate_succ, List.replicate_succ, List.flatten_cons, List.flatten_cons]
    exact RpL.append h (RpL.rep h n)
theorem ped_call0 {E : St → XK} {pos p : Pos} {k : Nat} {f : Addr} {fd : FuncData} {ps : List Str} {sp : SpD} {x : Str} (F : FnOk X.prog X.w X.K X.mg X.base (L2.CX X.prog X.w) k f fd ps (liftSp X.K X.mg sp)) (hr : Room k X.A) (hm : X.mg x = some (.ref f)) (hk : PySem.W.keepIn X.K (.ref f) = true) (hb : Binds X.K fd ps [])
    (hx : ∀ σ, PassesAt (L2.CX X.prog X.w) X σ (E σ)) (hg : Gl X x) (hdb : (x == ("__debug__" : Str)) = false := by decide) : PEd X E (.Call (.Name x p) [] [] pos) (tCallD sp tNilD) := by
  refine ⟨⟨fun pins s σ H Q I h => ?_⟩⟩
  obtain ⟨ρ, η, G, Qd, Ed, he, w, ht, hq, hE⟩ := h
  refine wpAny_Call_Name_kw (ld_glob I hg hm ?_ hdb)
  exact PySem.W.callWith_K0 I.kIn hk (run_fnS F hr hb (hx σ) I .nil ⟨[], η, G, Qd, Ed, rfl, w, ht, hq, hE⟩)
/-- a list, so many times -/
def rRepLD : R2d := fun x y G Q => match vw G x, y with
  | .lst xs, .int k => (-(2 ^ 63) ≤ k ∧ k < 2 ^ 63) ∧ xs.length * k.toNat ≤ 16777216 ∧ Q (.lst (List.replicate k.toNat xs).flatten) G
  | _, _ => False
theorem lift_repL : LiftR X L2.rRep rRepLD := fun η G H x y dx dy Q Qd w rx ry h hq => by
  unfold rRepLD at h
  split at h
  · rename_i xs k e
    obtain ⟨a, vs, rfl, hl, hr⟩ := vw_lst w rx e
    have l1 := hr.length
    exact ⟨a, k, vs, rfl, ry, hl, h.1.1, h.1.2, line_eq (by rw [← l1]; exact h.2.1), fun p hp => hq.newL w hp (hr.rep _) h.2.2⟩
  · exact h.elim
/-- a tuple, so many times -/
def rRepTD : R2d := fun x y G Q => match x, y with
  | .tup xs, .int k => xs ≠ [] ∧ 2 ≤ k ∧ k ≤ 1000 ∧ xs.length ≤ 1000 ∧ Q (.tup (List.replicate k.toNat xs).flatten) G
  | _, _ => False
theorem lift_repT : LiftR X (L2.rRepT X.K) rRepTD := fun η G H x y dx dy Q Qd w rx ry h hq => by
  unfold rRepTD at h
  split at h
  · rename_i xs k
    obtain ⟨a, vs, rfl, hl, hr⟩ := rx
    have l1 := hr.length
    exact ⟨a, k, vs, rfl, ry, hl, fun z => h.1 (by rw [z] at l1; exact List.length_eq_zero_iff.mp l1), h.2.1, h.2.2.1, by rw [← l1]; exact h.2.2.2.1, fun p hp => hq.newT w hp (hr.rep _) h.2.2.2.2⟩
  · exact h.elim
end
end Y

namespace Y
open PySem PySem.Spec PyProof.Rows L2
section
variable {P : Program} {w : World} {A : Around} {E : Value → Shared → Prop} {s : Shared}
/-- a set that was just made -/
abbrev newS (w : World) : Obj := { cls := .type "set", dict := none, data := .set #[] 0 (.fresh 0 0 (!w.params.followText "set-order")) }
abbrev pushS (w : World) (g : Heap) : Heap := g.push (newS w)
theorem pushS_at {g : Heap} : (pushS w g).get? g.objs.size = some (newS w) := Heap.get?_push_size _ rfl
theorem pushS_size {g : Heap} : (pushS w g).objs.size = g.objs.size + 1 := Heap.size_push ..
/-- what a list of ints holds, place by place -/
theorem ints_place {its : Array Value} {ns : List Int} (hit : IntsAre its.toList ns) {i : Nat} {v : Value} (hv : its[i]? = some v) : ∃ k t, ns[i]? = some k ∧ v = .int k t := by
  have hz : its.size = ns.length := (Array.length_toList (xs := its)).symm.trans (IntsAre.length hit)
  have hi : i < ns.length := hz ▸ (Array.getElem?_eq_some_iff.mp hv).1
  obtain ⟨t, e⟩ := IntsAre.int_at hit i v (by rw [Array.getElem?_toList]; exact hv)
  have e2 : ns.getD i 0 = ns[i] := by rw [List.getD_eq_getElem?_getD, List.getElem?_eq_getElem hi]; rfl
  exact ⟨ns[i], t, List.getElem?_eq_getElem hi, by rw [e, e2]⟩
set_option maxHeartbeats 3200000 in
theorem call_set_lst {l : Addr} {its : Array Value} (ns : List Int) {Q : Value → Shared → Prop} (hh : A.handled = none) (hl : s.heap.IsList l its) (hit : IntsAre its.toList ns) (hb : ns.length + 1 < scanBound)
    (h : ∀ (g : Heap) (tk c : Nat), SetR w g s.heap.objs.size (fun j => decide (j ∈ ns)) c → (∀ b o, s.heap.get? b = some o → g.get? b = some o) → Q (.ref s.heap.objs.size) { s with heap := g, toks := tk }) :
    wpAny (model P w) A (call (.type "set") [.ref l]) Q E s := by
  have hz : its.size = ns.length := (Array.length_toList (xs := its)).symm.trans (IntsAre.length hit)
  obtain ⟨c0, t0, m0⟩ := F.called_set.mro
  have m1 := F.called_set.made
  have m2 := F.called_set.sub
  have m3 := F.called_set.notType
  have m4 := F.called_set.canCreate
  have m5 := F.typeCall_set_1 (.ref l)
  refine wpAny_call (codeAny_of_tree ?_)
  show wpAny _ _ (callAny (.type "set") _) _ _ _
  refine wpAny_pure ⟨Code.quiet_builtin _ (by decide +kernel), codeAny_builtin F.entry_type_call ?_⟩
  rw [Around.under_plain (weight_type_call_type "set" [.ref l] []) rfl]
  repeat any_goals first | assumption | wp_step
  refine codeAny_mono (code_set_led1 (.ref l) (E := E) (Q₁ := fun ob s1 => ob = .ref s.heap.objs.size ∧ s1 = { s with heap := pushS w s.heap }) ⟨rfl, rfl⟩) fun r s1 hr => ?_
  match r, hr with
  | .error e, hr => exact hr
  | .ok (.ret ob), hr =>
    obtain ⟨rfl, rfl⟩ := hr
    have ty : Shared.TypeIs { s with heap := pushS w s.heap } (.ref s.heap.objs.size) "set" := ⟨_, pushS_at, rfl⟩
    have m6 := F.called_set.init.lookup
    have m7 := F.called_set.init.bind (.ref s.heap.objs.size)
    repeat any_goals first | assumption | wp_step
    refine codeAny_mono (codeAny_call_builtin (R := wants (fun r2 s2 => r2 = .none ∧ ∃ (g : Heap) (tk c : Nat), s2 = { s with heap := g, toks := tk } ∧ SetR w g s.heap.objs.size (fun j => decide (j ∈ ns)) c ∧
      (∀ b o, s.heap.get? b = some o → g.get? b = some o)) E) F.called_set.init.plain F.entry_set_init (check_set_init_1 ty ?_)) fun r2 s2 hr2 => ?_
    case refine_2 =>
      match r2, hr2 with
      | .error e, hr2 => exact hr2
      | .ok (.ret r), hr2 =>
        obtain ⟨rfl, g, tk, c, rfl, hS, hk⟩ := hr2
        repeat any_goals first | assumption | wp_step
        exact h g tk c hS hk
    case refine_1 =>
      obtain ⟨⟨oc, od, dt, osl⟩, ho, hc, nl, hd⟩ := hl
      simp only at hc hd
      subst hc hd
      have hlt : l < s.heap.objs.size := Heap.lt_size ho
      have q1 : (pushS w s.heap).get? l = some ⟨.type "list", od, .seq its nl, osl⟩ := Heap.get?_push_of_some _ ho
      have q2 := F.sub_list_set
      have q3 := F.sub_list_frozenset
      have q4 : (Value.type "list" == Value.type "dict") = false := by decide
      have q5 : (pushS w s.heap).IsList l its := ⟨_, q1, rfl, nl, rfl⟩
      unfold Builtin.«set.__init__» noKeywords Builtin.Frozenset.updateFrom
      generalize hP : pyIter = PI
      wp_walk
      subst hP
      refine wpAny_pyIter_list q5 (wpAny_bind (wpAny_runValue ?_))
      have n1 : l ≠ (pushS w s.heap).objs.size := by rw [pushS_size]; exact Nat.ne_of_lt (Nat.lt_succ_of_lt hlt)
      have n2 : s.heap.objs.size ∉ [(pushS w s.heap).objs.size, l] := by
        rw [pushS_size]
        intro z
        rcases List.mem_cons.mp z with z | z
        · exact Nat.ne_of_lt (Nat.lt_succ_self _) z
        · exact Nat.ne_of_gt hlt (List.mem_singleton.mp z)
      refine set_update_ints (Walks.list (by simp [hh]) _ l n1 its).toS s.heap.objs.size n2 ns hz hb (fun i v hv => ints_place hit hv) (its.size - 0) 0 _ (by omega) (Nat.zero_le _)
        ⟨⟨_, Heap.get?_push_size _ rfl, rfl, rfl⟩, q5.push _⟩ ⟨0, Nat.le_refl 0, setR_new_at (Heap.get?_push_of_some _ pushS_at)⟩ fun s3 c mv hcn hS => ?_
      obtain ⟨g, g2, d3, t3, o3⟩ := s3
      cases (show g2 = s.gens from mv.gens)
      cases (show d3 = s.drawn from mv.drawn)
      cases (show o3 = s.os from mv.os)
      show wpAny _ _ _ _ _ _
      refine wpAny_pure ?_
      show wpAny _ _ (ret Value.none) _ _ _
      refine wpAny_pure ⟨rfl, g, t3, c, rfl, hS, fun b o e => mv.heap b o (fun z => ?_) (Heap.get?_push_of_some _ (Heap.get?_push_of_some _ e))⟩
      have hb0 := Heap.lt_size e
      rcases List.mem_cons.mp z with z | z
      · exact Nat.ne_of_lt hb0 z
      · have z2 : b = (pushS w s.heap).objs.size := List.mem_singleton.mp z
        rw [pushS_size] at z2
        exact Nat.ne_of_lt (Nat.lt_succ_of_lt hb0) z2
end
end Y

namespace Y
open PySem PySem.Spec L2
open PyProof.Rows hiding St
/-- each int once -/
def nub : List Int → List Int
  | [] => []
  | x :: r => if x ∈ r then nub r else x :: nub r
theorem mem_nub {x : Int} : ∀ {ns : List Int}, x ∈ nub ns ↔ x ∈ ns
  | [] => Iff.rfl
  | y :: r => by
    have ih := mem_nub (x := x) (ns := r)
    unfold nub
    by_cases c : y ∈ r
    · rw [if_pos c, ih, List.mem_cons]
      exact ⟨.inr, fun h => h.elim (fun e => e ▸ c) id⟩
    · rw [if_neg c, List.mem_cons, List.mem_cons, ih]
theorem nodup_nub : ∀ (ns : List Int), (nub ns).Nodup
  | [] => List.nodup_nil
  | y :: r => by
    unfold nub
    by_cases c : y ∈ r
    · rw [if_pos c]; exact nodup_nub r
    · rw [if_neg c, List.nodup_cons]; exact ⟨fun h => c (mem_nub.mp h), nodup_nub r⟩
/-- what sorted(set(..)) gives -/
def setL (ns : List Int) : List Int := sortI (nub ns)
theorem mem_setL {x : Int} {ns : List Int} : x ∈ setL ns ↔ x ∈ ns := ((sortI_perm (nub ns)).mem_iff).trans mem_nub
theorem setL_asc (ns : List Int) : (setL ns).Pairwise (· < ·) := by
  have nd : (setL ns).Nodup := (sortI_perm (nub ns)).nodup_iff.mpr (nodup_nub ns)
  exact (List.Pairwise.and (sortI_sorted (nub ns)) nd).imp fun {a b} h => Int.lt_iff_le_and_ne.mpr h
theorem asc_ext : ∀ {a b : List Int}, a.Pairwise (· < ·) → b.Pairwise (· < ·) → (∀ x, x ∈ a ↔ x ∈ b) → a = b
  | [], [], _, _, _ => rfl
  | [], y :: b, _, _, h => nomatch (h y).mpr (.head _)
  | x :: a, [], _, _, h => nomatch (h x).mp (.head _)
  | x :: a, y :: b, ha, hb, h => by
    have e : x = y := by
      rcases List.mem_cons.mp ((h x).mp (.head _)) with e | m
      · exact e
      · rcases List.mem_cons.mp ((h y).mpr (.head _)) with e | m2
        · exact e.symm
        · have h1 := List.rel_of_pairwise_cons hb m
          have h2 := List.rel_of_pairwise_cons ha m2
          omega
    subst e
    rw [asc_ext ha.of_cons hb.of_cons fun z => ?_]
    constructor
    · intro m
      rcases List.mem_cons.mp ((h z).mp (.tail _ m)) with e | m2
      · subst e; exact absurd (List.rel_of_pairwise_cons ha m) (Int.lt_irrefl _)
      · exact m2
    · intro m
      rcases List.mem_cons.mp ((h z).mpr (.tail _ m)) with e | m2
      · subst e; exact absurd (List.rel_of_pairwise_cons hb m) (Int.lt_irrefl _)
      · exact m2
theorem nodup_le : ∀ {a b : List Int}, a.Nodup → (∀ x ∈ a, x ∈ b) → a.length ≤ b.length
  | [], _, _, _ => Nat.zero_le _
  | x :: r, b, ha, h => by
    obtain ⟨h1, h2⟩ := List.nodup_cons.mp ha
    have := nodup_le (b := b.erase x) h2 fun y hy => (List.mem_erase_of_ne (show y ≠ x from fun e => h1 (by rw [← e]; exact hy))).mpr (h y (.tail _ hy))
    rw [List.length_erase_of_mem (h x (.head _))] at this
    have : 0 < b.length := List.length_pos_of_mem (h x (.head _))
    rw [List.length_cons]; omega
theorem nodup_len {a b : List Int} (ha : a.Nodup) (hb : b.Nodup) (h : ∀ x, x ∈ a ↔ x ∈ b) : a.length = b.length :=
  Nat.le_antisymm (nodup_le ha fun x hx => (h x).mp hx) (nodup_le hb fun x hx => (h x).mpr hx)
theorem setR_count {w : World} {h : Heap} {a : Addr} {ns : List Int} {c : Nat} (R : SetR w h a (fun j => decide (j ∈ ns)) c) : c = (nub ns).length := by
  obtain ⟨o, es, ep, t, _, _, _, _, nd, hm, _, _, hn, _⟩ := R
  have := nodup_len nd (nodup_nub ns) fun x => by rw [← hm x, decide_eq_true_eq, mem_nub]
  rw [List.length_map, Array.length_toList] at this
  omega
section
variable {X : Cx}
/-- a list or a tuple of ints, no longer than a set can take -/
def Ints (K : PySem.W.Frag) (H : Hp) (x : V) (ns : List Int) : Prop := ∃ l, x = .ref l ∧ (SqL K H l (ns.map V.int) ∨ SqT K H l (ns.map V.int)) ∧ ns.length ≤ 4000
/-- set(x): what there is behind it -/
theorem set_made {A : Around} {E : Value → Shared → Prop} {pins : List (Addr × Obj)} {s1 : Shared} {σ : St} {H1 : Hp} {v : Value} {x : V} {ns : List Int} {Q : Value → Shared → Prop} (hd : A.handled = none) (I1 : Inv X pins σ H1 s1) (r1 : RelV x v) (hx : Ints X.K H1 x ns)
    (q : ∀ (g : Heap) (tk : Nat), SetR X.w g s1.heap.objs.size (fun j => decide (j ∈ ns)) (nub ns).length → (∀ b o, s1.heap.get? b = some o → g.get? b = some o) → Q (.ref s1.heap.objs.size) { s1 with heap := g, toks := tk }) :
    wpAny (model X.prog X.w) A (call (.type "set") [v]) Q E s1 := by
  obtain ⟨l, rfl, hq, hz⟩ := hx
  cases r1
  rcases hq with hq | hq
  · obtain ⟨its, r, pl, _⟩ := I1.list hq
    refine call_set_lst ns hd pl.isList (by simpa using r.ints) (by unfold scanBound; omega) fun g tk c R hk => q g tk ?_ hk
    rw [← setR_count R]; exact R
  · obtain ⟨its, rv, pt, _⟩ := I1.tuple hq
    refine call_set_tupI ns hd (show s1.heap.IsTuple l its.toArray from pt) (ints_of_vals rv) (by unfold scanBound; omega) fun g tk c R _ hk => q g tk ?_ hk
    rw [← setR_count R]; exact R
def tLenSetK (K : PySem.W.Frag) (ta : TE) : TE := fun σ H Q => ta σ H fun x H1 => ∃ ns, Ints K H1 x ns ∧ Q (.int (nub ns).length) H1
theorem pe_lenSetK {a : Expr} {ta : TE} {p p2 q pos : Pos} (hc : X.calm = true) (hg : Gl X "len") (hm : X.mg "len" = none) (hg2 : Gl X "set") (hm2 : X.mg "set" = none) (ha : PE X a ta) (na : starEach [a] X.env = (false, eval a X.env) :: starEach [] X.env := by rfl) :
    PE X (.Call (.Name "len" p) [.Call (.Name "set" p2) [a] [] q] [] pos) (tLenSetK X.K ta) := by
  refine ⟨fun pins s σ H Q I h => Call_ (ld_blt I hg hm PySem.boot_len (callWith_builtin1 (args_cons (Call_ (ld_blt I hg2 hm2 boot_set (callWith_type1 (args_cons (thn (ha.run pins s σ H _ I h) fun v s1 h1 => args_nil ?_) na) na rfl))) rfl) rfl rfl))⟩
  obtain ⟨x, H1, I1, r1, ns, hx, q1⟩ := h1
  refine set_made (I1.ok.hd hc) I1 r1 hx fun g tk R hk => ?_
  obtain ⟨o, es, ep, t, ho, hex, hd, _, _, _, hb, hf, hn, _⟩ := R
  have I2 : Inv X pins σ H1 { s1 with heap := g, toks := tk } := I1.kept hk
  refine args_nil (call_len_set ho hex hd hf (by unfold scanBound at hb; omega) ⟨.int (nub ns).length, H1, I2.tok _, ⟨_, by rw [hn]⟩, q1⟩)
def tSortSetK (K : PySem.W.Frag) (ta : TE) : TE := fun σ H Q => ta σ H fun x H1 => ∃ ns, Ints K H1 x ns ∧ (nub ns).length < 64 ∧ ∀ p, H1 p = none → Q (.ref p) (upd H1 p (.lst ((setL ns).map V.int)))
theorem pe_sortSetK {a : Expr} {ta : TE} {p p2 q pos : Pos} (hc : X.calm = true) (hg : Gl X "sorted") (hm : X.mg "sorted" = none) (hg2 : Gl X "set") (hm2 : X.mg "set" = none) (ha : PE X a ta) (na : starEach [a] X.env = (false, eval a X.env) :: starEach [] X.env := by rfl) :
    PE X (.Call (.Name "sorted" p) [.Call (.Name "set" p2) [a] [] q] [] pos) (tSortSetK X.K ta) := by
  refine ⟨fun pins s σ H Q I h => Call_ (ld_blt I hg hm (by decide +kernel : bootBuiltins "sorted" = some (.builtin "sorted")) (callWith_builtin1 (args_cons (Call_ (ld_blt I hg2 hm2 boot_set (callWith_type1 (args_cons (thn (ha.run pins s σ H _ I h) fun v s1 h1 => args_nil ?_) na) na rfl))) rfl) rfl rfl))⟩
  obtain ⟨x, H1, I1, r1, ns, hx, h64, q1⟩ := h1
  have hd := I1.ok.hd hc
  refine set_made hd I1 r1 hx fun g tk R hk => args_nil ?_
  refine sorted_set (s := { s1 with heap := g, toks := tk }) R hd h64 fun s' p out c ms k eg eo hp hgt hi hs hm hl => ?_
  have e : ms = setL ns := asc_ext hs (setL_asc ns) fun z => by rw [hm z, decide_eq_true_eq, mem_setL]
  subst e
  have hp1 : s1.heap.objs.size ≤ p := Nat.le_trans (Nat.le_of_lt (SetR.lt R)) hp
  have hn : H1 p = none := I1.hok.fresh hp1
  have hlen : ((setL ns).map V.int).length ≤ sizeLine := by rw [List.length_map, hl, sizeLine_eq]; omega
  have kall : ∀ b o, s1.heap.get? b = some o → s'.heap.get? b = some o := fun b o z => k b o (hk b o z)
  have J : Inv X pins σ (upd H1 p (.lst ((setL ns).map V.int))) { s1 with heap := s'.heap, gens := s'.gens, drawn := s'.drawn, toks := s'.toks } :=
    I1.call (ch := []) (Un.laid kall hp1 hn) (I1.hok.laid kall hp1 ⟨hlen, out.toList, c, vals_of_ints hi, hgt⟩) (by rw [eg]; exact I1.bare) (fun _ z => nomatch z)
  have es : s' = { s1 with heap := s'.heap, gens := s'.gens, drawn := s'.drawn, toks := s'.toks } := by
    obtain ⟨_, _, _, _, _⟩ := s'
    cases eo
    rfl
  rw [es]
  exact ⟨.ref p, _, J, rfl, q1 p hn⟩
variable {E : St → XK}
def tLenSetD (te : TEd) : TEd := fun ρ G Q Ed => te ρ G (fun d G1 => match itemsD G1 d with
  | some xs => match intsD xs with | some ns => ns.length ≤ 4000 ∧ Q (.int (nub ns).length) G1 | none => False
  | none => False) Ed
def tSortSetD (te : TEd) : TEd := fun ρ G Q Ed => te ρ G (fun d G1 => match itemsD G1 d with
  | some xs => match intsD xs with | some ns => ns.length ≤ 4000 ∧ (nub ns).length < 64 ∧ Q (.lst ((setL ns).map .int)) G1 | none => False
  | none => False) Ed
theorem items_ints {K : PySem.W.Frag} {mg : Str → Option Value} {η : Eta} {G : GS} {H : Hp} (w : W K mg η G H) {d : D} {v : V} {xs : List D} {ns : List Int} (r : Rp K η H d v) (e : itemsD G d = some xs) (en : intsD xs = some ns) (hz : ns.length ≤ 4000) : Ints K H v ns := by
  obtain ⟨a, us, rfl, hs, ru⟩ := itemsD_ok w r e
  have ex := intsD_eq en
  subst ex
  rw [RpL.ints.mp ru] at hs
  exact ⟨a, rfl, hs.elim .inr .inl, hz⟩
theorem ped_lenSet {a : Expr} {te : TEd} {p p2 q pos : Pos} (hc : X.calm = true) (hm : X.mg "len" = none) (hm2 : X.mg "set" = none) (hg : Gl X "len") (hg2 : Gl X "set") (ha : PEd X E a te) (na : starEach [a] X.env = (false, eval a X.env) :: starEach [] X.env := by rfl) :
    PEd X E (.Call (.Name "len" p) [.Call (.Name "set" p2) [a] [] q] [] pos) (tLenSetD te) := by
  refine ⟨PE.imp (pe_lenSetK hc hg hm hg2 hm2 ha.run na) fun σ H Q h => ?_⟩
  obtain ⟨ρ, η, G, Qd, Ed, he, w, ht, hq, hE⟩ := h
  refine ⟨ρ, η, G, _, Ed, he, w, ht, fun d G1 v η1 H1 s1 w1 r1 q1 => ?_, hE⟩
  dsimp only at q1
  split at q1
  · rename_i xs e
    split at q1
    · rename_i ns en
      exact ⟨ns, items_ints w1 r1 e en q1.1, (hq.step s1).ni w1 q1.2⟩
    · exact q1.elim
  · exact q1.elim
theorem ped_sortSet {a : Expr} {te : TEd} {p p2 q pos : Pos} (hc : X.calm = true) (hm : X.mg "sorted" = none) (hm2 : X.mg "set" = none) (hg : Gl X "sorted") (hg2 : Gl X "set") (ha : PEd X E a te) (na : starEach [a] X.env = (false, eval a X.env) :: starEach [] X.env := by rfl) :
    PEd X E (.Call (.Name "sorted" p) [.Call (.Name "set" p2) [a] [] q] [] pos) (tSortSetD te) := by
  refine ⟨PE.imp (pe_sortSetK hc hg hm hg2 hm2 ha.run na) fun σ H Q h => ?_⟩
  obtain ⟨ρ, η, G, Qd, Ed, he, w, ht, hq, hE⟩ := h
  refine ⟨ρ, η, G, _, Ed, he, w, ht, fun d G1 v η1 H1 s1 w1 r1 q1 => ?_, hE⟩
  dsimp only at q1
  split at q1
  · rename_i xs e
    split at q1
    · rename_i ns en
      exact ⟨ns, items_ints w1 r1 e en q1.1, q1.2.1, fun p hp => (hq.step s1).newL w1 hp (RpL.ints.mpr rfl) q1.2.2⟩
    · exact q1.elim
  · exact q1.elim
end
end Y

namespace Y
open PySem PySem.Spec L2
open PyProof.Rows hiding St
def rSortedTOD : List D → GS → QD → Prop := fun ds G Q => match ds with
  | [d] => match itemsD G d with
    | some xs => (match tupsD xs with | some ts => Q (.obj G.length) (G ++ [.lst ((sortT ts).map tupI)]) | none => False)
    | none => False
  | _ => False
theorem lift_sortedTO {X : Cx} : LiftC X (hSortedT X) rSortedTOD := by
  intro η G H vs ds Q Qd w r h q
  match ds, h with
  | [d], h =>
    obtain ⟨v, rfl, rd⟩ := rpl1 r
    unfold rSortedTOD at h
    simp only at h
    split at h
    · rename_i xs e
      split at h
      · rename_i ts en
        obtain ⟨a, us, rfl, hs, ru⟩ := itemsD_ok w rd e
        have ex := tupsD_eq en
        subst ex
        have hdp : DpAll X.K H us (ts.map pyT) := by
          have := RpL.dp _ us noObjL_tups ru
          rw [toPyL_map, List.map_map] at this
          rwa [show toPy ∘ tupI = pyT from funext toPy_tupI] at this
        have refs : ∀ x ∈ us, ∃ b, x = V.ref b := fun x hx => by
          obtain ⟨i, hi⟩ := List.mem_iff_getElem?.mp hx
          obtain ⟨d', hd', rd'⟩ := ru.getV hi
          rw [List.getElem?_map] at hd'
          obtain ⟨t, _, rfl⟩ := Option.map_eq_some_iff.mp hd'
          obtain ⟨b, _, e, _⟩ := rd'
          exact ⟨b, e⟩
        refine ⟨a, us, ts, rfl, hs, hdp, refs, fun zs hl hg p hp => q.newO w hp (RpL.ofGet (by rw [List.length_map]; exact hl) fun i u hu => ?_) h⟩
        obtain ⟨j, t, h1, h2, h3⟩ := hg i u hu
        refine ⟨tupI t, by rw [List.getElem?_map, h3]; rfl, ?_⟩
        obtain ⟨d', hd', rd'⟩ := ru.getV h1
        rw [List.getElem?_map, h2] at hd'
        cases hd'
        exact rd'
      · exact h.elim
    · exact h.elim
end Y

namespace Z
open PySem PySem.Spec L2 Y
open PyProof.Rows hiding St
def ltOD : Option D → D → Bool
  | none, _ => true
  | some (.int a), .int b => decide (a < b)
  | _, _ => false
def firstBad (n : Int) : Option D → Nat → List D → Option Nat
  | _, _, [] => none
  | p, i, x :: r => if (fromD x 0 (n - 1) && ltOD p x) = true then firstBad n (some x) (i + 1) r else some i
def lotErr (dn dl : D) : Option Er := if fromD dn 1 60 = true then
    (match dn, dl with
    | .int n, .tup xs => (firstBad n none 0 xs).map fun (i : Nat) => ⟨"BadLot", some ("index", .int (i : Int))⟩
    | _, _ => some ⟨"BadLot", some ("index", .non)⟩)
  else some ⟨"BadRound", none⟩
def plains : D → Bool
  | .tup xs => xs.all plainD
  | d => plainD d
def sumIn (n : Int) (lot : List Int) : List Int → Option (List Int)
  | [] => none
  | x :: r => match (x :: r).find? (fun y => decide ((x + y) % n ∈ lot)) with
    | some y => some [x, y, (x + y) % n]
    | none => sumIn n lot r
def optT : Option (List Int) → D
  | none => .non
  | some t => tupI t
theorem sum_in_inner {G : GS} {n x : Int} {lot : List Int} {at_ : D} {D : EndsD} (hn : 0 < n) : ∀ (ys : List Int) (c : Option Y.D),
    (match ys.find? (fun y => decide ((x + y) % n ∈ lot)) with | some y => D.rt (tupI [x, y, (x + y) % n]) G | none => ∀ c, D.nx [some (.int n), some (tupI lot), some at_, some (.int x), c] G) →
    forL (gNameD 4) (tIfSD (tTestD (tOpD rInD (tOpD rModD (tOpD rAddD (tVarD 3) (tVarD 4)) (tVarD 0)) (tVarD 1))) (tRetD (tTupD (tConsD (tVarD 3) (tConsD (tVarD 4) (tConsD (tOpD rModD (tOpD rAddD (tVarD 3) (tVarD 4)) (tVarD 0)) tNilD))))) tNextD)
      D (ys.map .int) [some (.int n), some (tupI lot), some at_, some (.int x), c] G
  | [], c, q => q c
  | y :: ys, c, q => by
    rw [List.find?_cons] at q
    refine ⟨hn, inOk_ints, ?_⟩
    show (if inL (.int ((x + y) % n)) (lot.map .int) = true then _ else _)
    rw [inL_ints]
    cases h : decide ((x + y) % n ∈ lot) with
    | true =>
      rw [h] at q
      exact ⟨hn, (show 3 ≤ 16777216 by decide), q⟩
    | false =>
      rw [h] at q
      exact sum_in_inner (D := { D with nx := D.nx }) hn ys (some (.int y)) q
theorem sum_in_loop {G : GS} {Q : QD} {E : QE} {n : Int} {lot : List Int} (hn : 0 < n) : ∀ (r pre : List Int) (a b c : Option D), pre ++ r = lot → Q (optT (sumIn n lot r)) G →
    forL (gTupD (gConsD (gNameD 2) (gConsD (gNameD 3) gNilD))) (tForD (iAnyD (tSlD (tVarD 1) (tPartD (tVarD 2)) tNoPartD)) (gNameD 4) (tIfSD (tTestD (tOpD rInD (tOpD rModD (tOpD rAddD (tVarD 3) (tVarD 4)) (tVarD 0)) (tVarD 1))) (tRetD (tTupD (tConsD (tVarD 3) (tConsD (tVarD 4) (tConsD (tOpD rModD (tOpD rAddD (tVarD 3) (tVarD 4)) (tVarD 0)) tNilD))))) tNextD))
      { endsF G Q E with nx := tRetD (tCD .non) (endsF G Q E) } (enumD pre.length (r.map .int)) [some (.int n), some (tupI lot), a, b, c] G
  | [], pre, a, b, c, e, q => ⟨grew0, rfl, q⟩
  | x :: r, pre, a, b, c, e, q => by
    have ec : cutD (lot.map D.int) (some (pre.length : Int)) none = (x :: r).map .int := by
      rw [cutD_drop (by rw [List.length_map, ← e, List.length_append]; omega), ← e, List.map_append, List.drop_left' (by rw [List.length_map])]
    show (forL _ _ _ (cutD (lot.map D.int) (some (pre.length : Int)) none) _ G)
    rw [ec]
    refine sum_in_inner hn (x :: r) c ?_
    unfold sumIn at q
    cases h : (x :: r).find? (fun y => decide ((x + y) % n ∈ lot)) with
    | some y => rw [h] at q; exact ⟨grew0, rfl, q⟩
    | none =>
      rw [h] at q
      intro c'
      have := sum_in_loop (G := G) (Q := Q) (E := E) hn r (pre ++ [x]) (some (.int pre.length)) (some (.int x)) c' (by rw [List.append_assoc]; exact e) q
      rw [List.length_append] at this
      exact this
theorem firstBad_ints {n : Int} : ∀ {xs : List D} {p : Option D} {i : Nat}, firstBad n p i xs = none → ∃ lot : List Int, xs = lot.map .int ∧ (∀ x ∈ lot, 0 ≤ x ∧ x ≤ n - 1) ∧ lot.Pairwise (· < ·) ∧ (∀ a, p = some (.int a) → ∀ x ∈ lot, a < x)
  | [], p, i, _ => ⟨[], rfl, (fun _ h => nomatch h), .nil, (fun _ _ _ h => nomatch h)⟩
  | x :: r, p, i, h => by
    unfold firstBad at h
    split at h
    · rename_i hc
      obtain ⟨h1, h2⟩ := Bool.and_eq_true_iff.mp hc
      obtain ⟨k, rfl, h3, h4⟩ := fromD_int h1
      obtain ⟨lot, rfl, a1, a2, a3⟩ := firstBad_ints h
      refine ⟨k :: lot, rfl, ?_, .cons (fun y hy => a3 k rfl y hy) a2, ?_⟩
      · intro y hy
        rcases List.mem_cons.mp hy with e | m
        · rw [e]; exact ⟨h3, h4⟩
        · exact a1 y m
      · intro a ea y hy
        subst ea
        have h2' : a < k := of_decide_eq_true h2
        rcases List.mem_cons.mp hy with e | m
        · rw [e]; exact h2'
        · have := a3 k rfl y m; omega
    · cases h
/-- what stands behind check_lot -/
theorem lotErr_none {dn dl : D} (h : lotErr dn dl = none) : ∃ n lot, dn = .int n ∧ dl = tupI lot ∧ 1 ≤ n ∧ n ≤ 60 ∧ (∀ x ∈ lot, 0 ≤ x ∧ x ≤ n - 1) ∧ lot.Pairwise (· < ·) := by
  unfold lotErr at h
  split at h
  · rename_i hn
    obtain ⟨n, rfl, h1, h2⟩ := fromD_int hn
    cases dl with
    | tup xs =>
      simp only at h
      obtain ⟨lot, rfl, a1, a2, _⟩ := firstBad_ints (Option.map_eq_none_iff.mp h)
      exact ⟨n, lot, rfl, rfl, h1, h2, a1, a2⟩
    | _ => cases h
  · cases h
theorem lotErr_below {dn dl : D} {e : Er} {k : Nat} (h : lotErr dn dl = some e) : belowE k e := by
  unfold lotErr at h
  split at h
  · split at h
    · obtain ⟨i, _, rfl⟩ := Option.map_eq_some_iff.mp h
      intro f d z; cases z; rfl
    · cases h; intro f d z; cases z; rfl
  · cases h; intro f d z; cases z
theorem random_loop {G : GS} {ns : List Int} {a : D} {D : EndsD} (h : ∀ s : Int, 0 ≤ s → s < 2147483647 → ∀ c, D.nx [some (.scr ns), some a, some (.int s), c] G) : ∀ (l : List Int) (s : Int) (c : Option Y.D), 0 ≤ s → s < 2147483647 →
    forL (gNameD 3) (tSetD 2 (tOpD rModD (tCBD rIntCD (tConsD (tOpD rAddD (tOpD rMulD (tVarD 2) (tCD (.int 31))) (tCBD rAbsD (tConsD (tVarD 3) tNilD))) tNilD)) (tCD (.int 2147483647)))) D (l.map .int) [some (.scr ns), some a, some (.int s), c] G
  | [], s, c, h1, h2 => h s h1 h2 c
  | x :: l, s, c, h1, h2 => by
    refine ⟨.inl (.inl ⟨by omega, by omega⟩), by omega, ?_⟩
    exact random_loop (D := { D with nx := D.nx }) h l _ (some (.int x)) (Int.emod_nonneg _ (by omega)) (Int.emod_lt_of_pos _ (by omega))
theorem random_comp {G : GS} {ρ : Rho} {ns : List Int} {x1 x2 x3 : Option Y.D} {Q : List Y.D → GS → Prop} : ∀ (l : List Int) (acc : List Int), (∀ r : List Int, r.length ≤ acc.length + l.length → Q (r.map .int) G) →
    lcL (gNameD 3) (tTestD (tOpD rGeD (tVarD 3) (tOpD rPowD (tCD (.int 10)) (tCD (.int 18))))) (tVarD 3) (l.map .int) (acc.map .int) [x1, x2, x3, none] G Q
  | [], acc, h => h acc (by simp)
  | x :: l, acc, h => by
    refine ⟨⟨by decide, by decide, by decide⟩, ?_⟩
    show (if decide ((10 : Int) ^ (18 : Int).toNat ≤ x) = true then _ else _)
    by_cases c : (10 : Int) ^ (18 : Int).toNat ≤ x
    · rw [decide_eq_true c, if_pos rfl]
      have := random_comp (x1 := x1) (x2 := x2) (x3 := x3) (G := G) (Q := Q) (ρ := ρ) (ns := ns) l (acc ++ [x]) (fun r hr => h r (by rw [List.length_append] at hr; simp at hr ⊢; omega))
      rw [List.map_append] at this
      exact this
    · rw [decide_eq_false c, if_neg (by decide)]
      exact random_comp (ρ := ρ) (ns := ns) l acc (fun r hr => h r (by simp at hr ⊢; omega))
theorem getLast_set {G : GS} {m m' : MO} : (G ++ [m])[G.length]? = some m ∧ (G ++ [m]).set G.length m' = G ++ [m'] := by
  constructor
  · rw [List.getElem?_append_right (Nat.le_refl _), Nat.sub_self]; rfl
  · rw [List.set_append_right _ _ (Nat.le_refl _), Nat.sub_self]; rfl
theorem items_obj {G : GS} {k : Nat} {ds : List D} (h : G[k]? = some (.lst ds)) : itemsD G (.obj k) = some ds := by
  show (match G[k]? with | some (.lst ds) => some ds | _ => none) = _
  rw [h]
theorem ix_0 {G : GS} {k : Nat} {d : D} {ds : List D} {Q : QD} (h : G[k]? = some (.lst (d :: ds))) (q : Q d G) : Y.rIxD (.obj k) (.int 0) G Q := by
  unfold Y.rIxD
  have e : atI (d :: ds) 0 = some d := atI_nat' (j := 0)
  simp only [items_obj h, e]
  exact q
theorem ix_1 {G : GS} {k : Nat} {d d2 : D} {ds : List D} {Q : QD} (h : G[k]? = some (.lst (d :: d2 :: ds))) (q : Q d2 G) : Y.rIxD (.obj k) (.int 1) G Q := by
  unfold Y.rIxD
  have e : atI (d :: d2 :: ds) 1 = some d2 := atI_nat' (j := 1)
  simp only [items_obj h, e]
  exact q
theorem ixN_n {n i : Nat} (h : i < n) : ixN n (i : Int) = some i := by
  unfold ixN
  rw [if_pos (by omega), if_pos (by omega), Int.toNat_natCast]
theorem set_0 {G : GS} {k : Nat} {d e : D} {ds : List D} {Q : GS → Prop} (h : G[k]? = some (.lst (d :: ds))) (q : Q (G.set k (.lst (e :: ds)))) : setIxD (.obj k) (.int 0) e G Q := by
  unfold setIxD
  have e1 : ixN (d :: ds).length 0 = some 0 := ixN_n (i := 0) (by simp)
  simp only [h, e1]
  exact q
theorem set_1 {G : GS} {k : Nat} {d d2 e : D} {ds : List D} {Q : GS → Prop} (h : G[k]? = some (.lst (d :: d2 :: ds))) (q : Q (G.set k (.lst (d :: e :: ds)))) : setIxD (.obj k) (.int 1) e G Q := by
  unfold setIxD
  have e1 : ixN (d :: d2 :: ds).length 1 = some 1 := ixN_n (i := 1) (by simp)
  simp only [h, e1]
  exact q
theorem at_0 {x : D} {t : List D} : atI (x :: t) 0 = some x := atI_nat' (j := 0)
theorem at_1 {x y : D} {t : List D} : atI (x :: y :: t) 1 = some y := atI_nat' (j := 1)
theorem ix_0l {t : Nat} : ixN (t + 1) 0 = some 0 := ixN_n (i := 0) (by omega)
theorem ix_1l {t : Nat} : ixN (t + 1 + 1) 1 = some 1 := ixN_n (i := 1) (by omega)
theorem below_part {n a b : Int} {r : List Int} {k : Nat} {G : GS} {Q : QD} {E : QE} (hn : 0 < n) (hn2 : n < 1073741824) (hG : G[k]? = some (.lst ((a :: b :: r).map .int))) (ha : 0 ≤ a) (ha2 : a < 2147483647) (hr : r.length ≤ 98)
    (q : ∀ (m a' b' : Int) (r' : List Int), 0 ≤ m → m < n → 0 ≤ a' → a' < 2147483647 → r'.length ≤ 98 → Q (.int m) (G.set k (.lst ((a' :: b' :: r').map .int)))) :
    (tSeqD (tIfSD (tTestD (tOpD rGtD (tOpD rIxD (tVarD 0) (tCD (.int 1))) (tCD (.int 0)))) (tSeqD (tSetD 2 (tOpD rModD (tCBD rIntCD (tConsD (tOpD rIxD (tVarD 0) (tCD (.int 1))) tNilD)) (tVarD 1))) (tSeqD (tAsgD (tOpD rDivD (tOpD rIxD (tVarD 0) (tCD (.int 1))) (tVarD 1)) (gSubD (tVarD 0) (tCD (.int 1)))) (tRetD (tVarD 2)))) tNextD) (tSeqD (tAsgD (tOpD rModD (tCBD rIntCD (tConsD (tOpD rAddD (tOpD rMulD (tOpD rIxD (tVarD 0) (tCD (.int 0))) (tCD (.int 48271))) (tCD (.int 11))) tNilD)) (tCD (.int 2147483647))) (gSubD (tVarD 0) (tCD (.int 0)))) (tRetD (tOpD rModD (tCBD rIntCD (tConsD (tOpD rDivD (tOpD rIxD (tVarD 0) (tCD (.int 0))) (tCD (.int 64))) tNilD)) (tVarD 1)))))
      (endsG Q E) [some (.obj k), some (.int n), none] G := by
  have hk : k < G.length := (List.getElem?_eq_some_iff.mp hG).1
  have hG' : G[k]? = some (.lst (.int a :: .int b :: r.map .int)) := hG
  have hS : ∀ x : Int, (G.set k (.lst (.int x :: .int b :: r.map .int)))[k]? = some (.lst (.int x :: .int b :: r.map .int)) := fun x => List.getElem?_set_self hk
  simp only [tSeqD, tDropD, tRetD, tIfSD, tForD, tSetD, tAsgD, tPar2D, tPar3D, tAugD, tWhileD, tNextD, tBreakD, tContD, tRaise0D, tRaise1D, tTestD, tAndD, tOrD, tNotD, tAndVD, tOrVD, tNotVD, tIfED, tOpD, tChainD, tCBD, tCallD, tConsD, tNilD, tStarD, tTupD, tLstD, tLstOD, tVarD, tCD, tNegD, tYesD, tFrzD, tRndD, tMetD, tMet0D, tSlD, tPartD, tNoPartD, tLcD, tLcOD, tLc2D, tIsiD, rGtD, rGeD, rLtD, rLeD, rSubD, rModD, rMulD, rDivD, rPowD, rInt0D, rIntD, rAddD, rAddOD, rIsD, rIsNotD, Y.rIxD, rSlD, rLenD, rAbsD, rIntCD, rStrD, rListD, rTupleD, rSumD, rMaxD, rMinID, rAllD, rAnyD, rSortedD, rAppendD, rPopD, rPopAtD, rReverseD, setIxD, frzD, gTupD, gConsD, gNameD, gNilD, gSubD, iAnyD, iEnumD, iRng1D, iRng2D, isNonD, wipeD, Y.rEqD, Y.rNeD, Y.rInD, Y.rNotInD, List.getElem?_cons_zero, List.getElem?_cons_succ, List.set_cons_zero, List.set_cons_succ, startD, List.map_cons, List.map_nil, List.length_cons, List.length_nil, List.replicate, List.cons_append, List.nil_append, itemsD, hG', hS, at_0, at_1, ix_0l, ix_1l]
  by_cases c : 0 < b
  · rw [decide_eq_true c, if_pos rfl]
    exact ⟨hn, .inl ⟨hn, hn2⟩, q (b % n) a (b / n) r (Int.emod_nonneg _ (by omega)) (Int.emod_lt_of_pos _ hn) ha ha2 hr⟩
  · rw [decide_eq_false c, if_neg (by decide)]
    exact ⟨.inl (.inl ⟨by omega, by omega⟩), by omega, .inl ⟨by decide, by decide⟩, hn, q _ _ b r (Int.emod_nonneg _ (by omega)) (Int.emod_lt_of_pos _ hn) (Int.emod_nonneg _ (by omega)) (Int.emod_lt_of_pos _ (by omega)) hr⟩
theorem belowL_mem {k : Nat} : ∀ {xs : List D}, belowL k xs = true → ∀ d ∈ xs, below k d = true
  | x :: xs, h, d, hd => by
    have h' := Bool.and_eq_true_iff.mp (show (below k x && belowL k xs) = true from h)
    rcases List.mem_cons.mp hd with e | m
    · rw [e]; exact h'.1
    · exact belowL_mem h'.2 d m
def flatE (d : D) : Bool := flatD d && okD d
def dep : Nat → D → Bool
  | 0, d => flatE d
  | k + 1, .tup xs => xs.all (dep k) && decide (xs.length ≤ 1000000)
  | k + 1, .lst xs => xs.all (dep k) && decide (xs.length ≤ 1000000)
  | _ + 1, d => flatE d
theorem eqD_str {s : Str} : eqD (.str s) (.str s) = true := by
  show PyData.eqv (.str s) (.str s) = true
  rw [PyData.eqv]; simp
theorem eqD_bl {s : Bool} : eqD (.bl s) (.bl s) = true := by
  show PyData.eqv (.bool s) (.bool s) = true
  rw [PyData.eqv]; simp
theorem blsD_rep {n : Nat} : blsD ((List.replicate n true).map .bl) = some (List.replicate n true) := blsD_map _
theorem eqD_b (b : Bool) : eqD (.bl b) (.bl b) = true := eqD_bl
theorem below_tup {k : Nat} {t : List Int} : below k (tupI t) = true := by
  show belowL k (t.map .int) = true
  induction t with
  | nil => rfl
  | cons _ _ ih => exact ih
/-- an ascending row of rests -/
def Lot (n : Int) (lot : List Int) : Prop := (∀ x ∈ lot, 0 ≤ x ∧ x < n) ∧ lot.Pairwise (· < ·)
theorem sortI_lot {n : Int} {ns : List Int} (h : ∀ x ∈ ns, 0 ≤ x ∧ x < n) (nd : ns.Nodup) : Lot n (sortI ns) ∧ (sortI ns).length = ns.length := by
  have p := sortI_perm ns
  refine ⟨⟨fun x hx => h x (p.mem_iff.mp hx), ?_⟩, p.length_eq⟩
  have nd' : (sortI ns).Nodup := p.nodup_iff.mpr nd
  exact (List.Pairwise.and (sortI_sorted ns) nd').imp fun {a b} h => by
    obtain ⟨h1, h2⟩ := h
    exact Int.lt_iff_le_and_ne.mpr ⟨h1, h2⟩
theorem get_old {G L : GS} {k : Nat} {m : MO} (h : G[k]? = some m) : (G ++ L)[k]? = some m := by
  rw [List.getElem?_append_left (List.getElem?_eq_some_iff.mp h).1]; exact h
theorem rngD_ints {n : Nat} : rngD 0 n = ((List.range n).map fun i : Nat => ((0 : Int) + (i : Int))).map .int := by
  unfold rngD; rw [List.map_map]; rfl
def blockL (n : Int) (lot : List Int) (x : Int) : List (List Int) := (lot.filter fun y => decide (x ≤ y) && decide ((x + y) % n ∈ lot)).map fun y => [x, y, (x + y) % n]
def sumsL (n : Int) (lot : List Int) : List (List Int) := lot.flatMap (blockL n lot)
theorem sums_comp {n x : Int} {lot : List Int} {G : GS} {a : Option D} {Q : List D → GS → Prop} (hn : 0 < n) : ∀ (l : List Int) (acc : List D), Q (acc ++ ((l.filter fun y => decide (x ≤ y) && decide ((x + y) % n ∈ lot)).map fun y => [x, y, (x + y) % n]).map tupI) G →
    lcL (gNameD 4) (tAndD (tTestD (tOpD rGeD (tVarD 4) (tVarD 3))) (tTestD (tOpD Y.rInD (tOpD rModD (tOpD rAddD (tVarD 3) (tVarD 4)) (tVarD 0)) (tVarD 1)))) (tTupD (tConsD (tVarD 3) (tConsD (tVarD 4) (tConsD (tOpD rModD (tOpD rAddD (tVarD 3) (tVarD 4)) (tVarD 0)) tNilD))))
      (l.map .int) acc [some (.int n), some (tupI lot), a, some (.int x), none] G Q
  | [], acc, q => by
    rw [List.filter_nil, List.map_nil, List.map_nil, List.append_nil] at q
    exact q
  | y :: l, acc, q => by
    show (if decide (x ≤ y) = true then _ else _)
    by_cases c : x ≤ y
    · rw [decide_eq_true c, if_pos rfl]
      refine ⟨hn, inOk_ints, ?_⟩
      show (if inL (.int ((x + y) % n)) (lot.map .int) = true then _ else _)
      rw [inL_ints]
      by_cases c2 : (x + y) % n ∈ lot
      · rw [decide_eq_true c2, if_pos rfl]
        refine ⟨hn, (show 3 ≤ 16777216 by decide), ?_⟩
        refine sums_comp hn l (acc ++ [tupI [x, y, (x + y) % n]]) ?_
        rw [List.filter_cons, decide_eq_true c, decide_eq_true c2] at q
        rw [List.append_assoc]
        exact q
      · rw [decide_eq_false c2, if_neg (by decide)]
        refine sums_comp hn l acc ?_
        rw [List.filter_cons, decide_eq_false c2, Bool.and_false] at q
        exact q
    · rw [decide_eq_false c, if_neg (by decide)]
      refine sums_comp hn l acc ?_
      rw [List.filter_cons, decide_eq_false c] at q
      exact q
theorem block_len {n x : Int} {lot : List Int} : (blockL n lot x).length ≤ lot.length := by
  unfold blockL
  rw [List.length_map]
  exact List.length_filter_le _ _
theorem sums_loop {n : Int} {lot : List Int} {G : GS} {D : EndsD} (hn : 0 < n) (hl : lot.length ≤ 1000) : ∀ (l : List Int) (acc : List (List Int)) (a b : Option Y.D), acc.length + 1000 * l.length ≤ 1000000 → (∀ a b, D.nx [some (.int n), some (tupI lot), some (.lst ((acc ++ l.flatMap (blockL n lot)).map tupI)), a, b] G) →
    forL (gNameD 3) (tSetD 2 (tOpD rAddD (tVarD 2) (tLcD (iAnyD (tVarD 1)) (gNameD 4) (tAndD (tTestD (tOpD rGeD (tVarD 4) (tVarD 3))) (tTestD (tOpD Y.rInD (tOpD rModD (tOpD rAddD (tVarD 3) (tVarD 4)) (tVarD 0)) (tVarD 1)))) (tTupD (tConsD (tVarD 3) (tConsD (tVarD 4) (tConsD (tOpD rModD (tOpD rAddD (tVarD 3) (tVarD 4)) (tVarD 0)) tNilD)))) [4])))
      D (l.map .int) [some (.int n), some (tupI lot), some (.lst (acc.map tupI)), a, b] G
  | [], acc, a, b, hz, q => by
    have q' := q a b
    rw [List.flatMap_nil, List.append_nil] at q'
    exact q'
  | x :: l, acc, a, b, hz, q => by
    refine ⟨by rw [List.length_map]; omega, ?_⟩
    refine sums_comp hn lot [] ?_
    have h1 : (blockL n lot x).length ≤ 1000 := Nat.le_trans block_len hl
    have hlen : (x :: l).length = l.length + 1 := rfl
    refine ⟨by rw [List.length_map]; show acc.length + ((blockL n lot x).map tupI).length ≤ _; rw [List.length_map]; omega, ?_⟩
    show forL _ _ _ _ [some (.int n), some (tupI lot), some (.lst (acc.map tupI ++ (blockL n lot x).map tupI)), some (.int x), b] G
    rw [← List.map_append]
    refine sums_loop (D := { D with nx := D.nx }) hn hl l (acc ++ blockL n lot x) (some (.int x)) b (by rw [List.length_append]; omega) ?_
    rw [List.append_assoc]
    exact q
theorem below_tups {k : Nat} {ts : List (List Int)} : below k (.lst (ts.map tupI)) = true := by
  show belowL k (ts.map tupI) = true
  induction ts with
  | nil => rfl
  | cons t ts ih =>
    show (below k (tupI t) && belowL k (ts.map tupI)) = true
    rw [below_tup, ih]; rfl
theorem noObj_tups {ts : List (List Int)} : noObjL (ts.map tupI) = true := by
  induction ts with
  | nil => rfl
  | cons t ts ih =>
    show (noObj (tupI t) && noObjL (ts.map tupI)) = true
    rw [ih]
    have : noObjL (t.map D.int) = true := by
      induction t with
      | nil => rfl
      | cons _ _ ih2 => exact ih2
    show (noObjL (t.map D.int) && true) = true
    rw [this]; rfl
theorem lay_ints : ∀ t : List Int, PyData.canLayAll0 (t.map .int) = true
  | [] => by simp [PyData.canLayAll0]
  | x :: r => by simp [PyData.canLayAll0, PyData.canLay0, lay_ints r]
theorem lay_tups : ∀ ts : List (List Int), PyData.canLayAll0 (ts.map pyT) = true
  | [] => by simp [PyData.canLayAll0]
  | t :: ts => by
    rw [List.map_cons, PyData.canLayAll0, lay_tups ts]
    unfold pyT
    rw [PyData.canLay0, lay_ints]; rfl
theorem okD_tups {ts : List (List Int)} : okD (.lst (ts.map tupI)) = true := by
  unfold okD
  have e : toPy (.lst (ts.map tupI)) = .list (ts.map pyT) := by
    show PyData.list (toPyL (ts.map tupI)) = _
    rw [toPyL_map, List.map_map, show toPy ∘ tupI = pyT from funext toPy_tupI]
  have n : noObj (.lst (ts.map tupI)) = true := noObj_tups
  rw [e, n]
  have hd := depth_pyTs ts
  unfold SeqAt.shaped
  rw [PyData.canLay0, lay_tups]
  have : (PyData.list (ts.map pyT)).depth ≤ 64 := by simp only [PyData.depth]; omega
  rw [decide_eq_true this]; rfl
theorem eqD_tups_nil {ts : List (List Int)} : eqD (.lst (ts.map tupI)) (.lst []) = ts.isEmpty := by
  show PyData.eqv (.list (toPyL (ts.map tupI))) (.list (toPyL [])) = _
  cases ts with
  | nil => simp [toPyL, PyData.eqv, PyData.eqvAll]
  | cons t ts => simp [toPyL, PyData.eqv, PyData.eqvAll]
theorem more_lot {n x : Int} {lot : List Int} (h : Lot n lot) (hx : 0 ≤ x ∧ x < n) (c : x ∉ lot) : Lot n (sortI (lot ++ [x])) ∧ (sortI (lot ++ [x])).length = lot.length + 1 := by
  have := sortI_lot (n := n) (ns := lot ++ [x]) (fun z hz => by
    rcases List.mem_append.mp hz with hz | hz
    · exact h.1 z hz
    · rw [List.mem_singleton.mp hz]; exact hx) (by
    rw [List.nodup_append]
    exact ⟨h.2.imp (fun h => by omega), by simp, fun a ha b hb e => c (by rw [← List.mem_singleton.mp hb, ← e]; exact ha)⟩)
  rw [List.length_append] at this
  exact this
theorem sum_block {n x : Int} {lot r : List Int} {pre : List Int} (hp : lot.Pairwise (· < ·)) (e : pre ++ x :: r = lot) : blockL n lot x = ((x :: r).filter fun y => decide ((x + y) % n ∈ lot)).map fun y => [x, y, (x + y) % n] := by
  unfold blockL
  congr 1
  have hp' := hp
  rw [← e, List.pairwise_append] at hp'
  obtain ⟨_, h2, h3⟩ := hp'
  have e1 : pre.filter (fun y => decide (x ≤ y) && decide ((x + y) % n ∈ lot)) = [] := by
    rw [List.filter_eq_nil_iff]
    intro y hy
    have := h3 y hy x (.head _)
    simp; omega
  have e2 : (x :: r).filter (fun y => decide (x ≤ y) && decide ((x + y) % n ∈ lot)) = (x :: r).filter fun y => decide ((x + y) % n ∈ lot) := by
    refine List.filter_congr fun y hy => ?_
    have : x ≤ y := by
      rcases List.mem_cons.mp hy with h | h
      · omega
      · have := List.rel_of_pairwise_cons h2 h; omega
    rw [decide_eq_true this, Bool.true_and]
  conv => lhs; rw [show lot.filter (fun y => decide (x ≤ y) && decide ((x + y) % n ∈ lot)) = (pre ++ x :: r).filter (fun y => decide (x ≤ y) && decide ((x + y) % n ∈ lot)) by rw [e]]
  rw [List.filter_append, e1, e2, List.nil_append]
theorem ltT_self3 {x y y' z z' : Int} (h : y < y') : ltT [x, y', z'] [x, y, z] = false := by
  simp [ltT]; omega
theorem ltT_gt {x x' : Int} {a b : List Int} (h : x < x') : ltT (x' :: a) (x :: b) = false := by
  simp [ltT]; omega
theorem minT_first : ∀ (ts : List (List Int)) (t : List Int), (∀ u ∈ ts, ltT u t = false) → minT t ts = t
  | [], _, _ => rfl
  | u :: ts, t, h => by
    show minT (if ltT u t = true then u else t) ts = t
    rw [h u (.head _), if_neg (by decide)]
    exact minT_first ts t fun v hv => h v (.tail _ hv)
theorem block_head {n x : Int} {lot : List Int} {u : List Int} (h : u ∈ blockL n lot x) : ∃ y z, u = [x, y, z] := by
  obtain ⟨y, _, rfl⟩ := List.mem_map.mp h
  exact ⟨y, _, rfl⟩
theorem plain_first {n : Int} {lot : List Int} (hp : lot.Pairwise (· < ·)) : ∀ (r pre : List Int), pre ++ r = lot →
    (r.flatMap (blockL n lot) = [] ∧ sumIn n lot r = none) ∨ (∃ x y z ts, r.flatMap (blockL n lot) = [x, y, z] :: ts ∧ sumIn n lot r = some [x, y, z] ∧ x ∈ r ∧ ∀ u ∈ ts, ltT u [x, y, z] = false)
  | [], pre, e => .inl ⟨rfl, rfl⟩
  | x :: r, pre, e => by
    have hb := sum_block (n := n) hp e
    rw [List.flatMap_cons]
    have hpr : (x :: r).Pairwise (· < ·) := by rw [← e, List.pairwise_append] at hp; exact hp.2.1
    unfold sumIn
    cases hf : (x :: r).find? (fun y => decide ((x + y) % n ∈ lot)) with
    | none =>
      have : blockL n lot x = [] := by
        rw [hb, List.filter_eq_nil_iff.mpr, List.map_nil]
        intro y hy
        exact List.find?_eq_none.mp hf y hy
      rw [this, List.nil_append]
      rcases plain_first hp r (pre ++ [x]) (by rw [List.append_assoc]; exact e) with ⟨h1, h2⟩ | ⟨a, b, c, ts, h1, h2, h3, h4⟩
      · exact .inl ⟨h1, h2⟩
      · exact .inr ⟨a, b, c, ts, h1, h2, .tail _ h3, h4⟩
    | some y =>
      obtain ⟨as, bs, e1, e2⟩ : ∃ as bs, x :: r = as ++ y :: bs ∧ ∀ z ∈ as, ¬ decide ((x + z) % n ∈ lot) = true := by
        obtain ⟨_, as, bs, h1, h2⟩ := List.find?_eq_some_iff_append.mp hf
        exact ⟨as, bs, h1, fun z hz hh => by have := h2 z hz; rw [hh] at this; cases this⟩
      have hy := List.find?_some hf
      have eb : blockL n lot x = [x, y, (x + y) % n] :: (bs.filter fun y => decide ((x + y) % n ∈ lot)).map fun y => [x, y, (x + y) % n] := by
        rw [hb, e1, List.filter_append, List.filter_eq_nil_iff.mpr e2, List.nil_append, List.filter_cons, if_pos hy, List.map_cons]
      refine .inr ⟨x, y, (x + y) % n, _, by rw [eb]; rfl, rfl, .head _, fun u hu => ?_⟩
      rcases List.mem_append.mp hu with hu | hu
      · obtain ⟨z, hz, rfl⟩ := List.mem_map.mp hu
        rw [e1, List.pairwise_append] at hpr
        exact ltT_self3 (List.rel_of_pairwise_cons hpr.2.1 (List.mem_filter.mp hz).1)
      · obtain ⟨x', hx', hu⟩ := List.mem_flatMap.mp hu
        obtain ⟨p, q, rfl⟩ := block_head hu
        exact ltT_gt (List.rel_of_pairwise_cons hpr hx')
theorem first_plain {n : Int} {lot : List Int} (hp : Lot n lot) : (sumsL n lot = [] ∧ sumIn n lot lot = none) ∨ ∃ x y z ts, sumsL n lot = [x, y, z] :: ts ∧ sumIn n lot lot = some [x, y, z] ∧ minT [x, y, z] ts = [x, y, z] := by
  rcases plain_first hp.2 lot [] rfl with h | ⟨x, y, z, ts, h1, h2, _, h4⟩
  · exact .inl h
  · exact .inr ⟨x, y, z, ts, h1, h2, minT_first ts _ h4⟩
theorem firstBad_ok {n : Int} : ∀ {lot : List Int} {p : Option D} {i : Nat}, (∀ x ∈ lot, 0 ≤ x ∧ x < n) → lot.Pairwise (· < ·) → (∀ x ∈ lot, ltOD p (.int x) = true) → firstBad n p i (lot.map .int) = none
  | [], _, _, _, _, _ => rfl
  | x :: r, p, i, h1, h2, h3 => by
    rw [List.map_cons, firstBad, if_pos]
    · exact firstBad_ok (fun y hy => h1 y (.tail _ hy)) h2.of_cons fun y hy => decide_eq_true (List.rel_of_pairwise_cons h2 hy)
    · rw [h3 x (.head _), Bool.and_true]
      obtain ⟨a, b⟩ := h1 x (.head _)
      show (decide (0 ≤ x) && decide (x ≤ n - 1)) = true
      rw [decide_eq_true a, decide_eq_true (by omega)]; rfl
theorem lotErr_ok {n : Int} {lot : List Int} (h1 : 1 ≤ n) (h2 : n ≤ 60) (h : Lot n lot) : lotErr (.int n) (tupI lot) = none := by
  unfold lotErr
  rw [if_pos (by show (decide (1 ≤ n) && decide (n ≤ 60)) = true; rw [decide_eq_true h1, decide_eq_true h2]; rfl)]
  show Option.map _ (firstBad n none 0 (lot.map .int)) = none
  rw [firstBad_ok h.1 h.2 fun _ _ => rfl]; rfl
theorem plains_tupI {lot : List Int} : plains (tupI lot) = true := by
  show (lot.map D.int).all plainD = true
  rw [List.all_map, List.all_eq_true]; intro _ _; rfl
/-- a comprehension over one name: what stays, what is made of it -/
theorem lc_fm {α : Type} {e f : α → D} {p : α → Bool} {i : Nat} {tt : TTd} {te : TEd} {ρ : Rho} {G : GS} {Q : List D → GS → Prop} : ∀ (l : List α) (acc : List D),
    (∀ x ∈ l, ∀ (Q' : Bool → GS → Prop) Ed, Q' (p x) G → tt (ρ.set i (some (e x))) G Q' Ed) → (∀ x ∈ l, p x = true → ∀ (Q' : QD) Ed, Q' (f x) G → te (ρ.set i (some (e x))) G Q' Ed) →
    Q (acc ++ (l.filter p).map f) G → lcL (gNameD i) tt te (l.map e) acc ρ G Q
  | [], acc, _, _, q => by rw [List.filter_nil, List.map_nil, List.append_nil] at q; exact q
  | x :: l, acc, h1, h2, q => by
    refine h1 x (.head _) _ _ ?_
    cases hp : p x with
    | true =>
      refine h2 x (.head _) hp _ _ ?_
      refine lc_fm l _ (fun y hy => h1 y (.tail _ hy)) (fun y hy => h2 y (.tail _ hy)) ?_
      rw [List.filter_cons, if_pos hp] at q
      rw [List.append_assoc]
      exact q
    | false =>
      refine lc_fm l _ (fun y hy => h1 y (.tail _ hy)) (fun y hy => h2 y (.tail _ hy)) ?_
      rw [List.filter_cons, if_neg (by rw [hp]; decide)] at q
      exact q
/-- a loop that returns at the first that is p -/
theorem for_find {α : Type} {e f : α → D} {p : α → Bool} {i : Nat} {tb : TSd} {ρ : Rho} {G : GS} {D : EndsD} : ∀ (l : List α) (v : Option Y.D),
    (∀ x ∈ l, ∀ (D' : EndsD), D'.rt = D.rt → D'.er = D.er → (if p x = true then D.rt (f x) G else D'.nx (ρ.set i (some (e x))) G) → tb D' (ρ.set i (some (e x))) G) →
    (match l.find? p with | some x => D.rt (f x) G | none => ∀ v, D.nx (ρ.set i v) G) → forL (gNameD i) tb D (l.map e) (ρ.set i v) G
  | [], v, _, q => q v
  | x :: l, v, h, q => by
    show tb _ ((ρ.set i v).set i (some (e x))) G
    rw [List.set_set]
    refine h x (.head _) _ rfl rfl ?_
    rw [List.find?_cons] at q
    cases hp : p x with
    | true => rw [hp] at q; rw [if_pos rfl]; exact q
    | false =>
      rw [hp] at q
      rw [if_neg (by decide)]
      exact for_find l (some (e x)) (fun y hy => h y (.tail _ hy)) q
def rangeI (n : Int) : List Int := (List.range n.toNat).map fun i : Nat => ((0 : Int) + (i : Int))
theorem rngD_0 {n : Int} : rngD 0 n.toNat = (rangeI n).map .int := rngD_ints
theorem mem_rangeI {n x : Int} : x ∈ rangeI n ↔ 0 ≤ x ∧ x < n := by
  unfold rangeI
  rw [List.mem_map]
  constructor
  · rintro ⟨i, hi, rfl⟩
    have := List.mem_range.mp hi
    omega
  · rintro ⟨h1, h2⟩
    exact ⟨x.toNat, List.mem_range.mpr (by omega), by omega⟩
theorem length_rangeI {n : Int} : (rangeI n).length = n.toNat := by unfold rangeI; rw [List.length_map, List.length_range]
theorem below_ints {k : Nat} {t : List Int} : below k (.lst (t.map .int)) = true := below_tup (t := t)
def freeB (n : Int) (lot : List Int) : Bool := (sumIn n lot lot).isNone
def addL (n : Int) (lot : List Int) : List Int := (rangeI n).filter fun x => !decide (x ∈ lot) && freeB n (sortI (lot ++ [x]))
theorem tup_inj {a b : List Int} (h : tupI a = tupI b) : a = b := by
  have := congrArg (fun d => match d with | D.tup ds => intsD ds | _ => none) h
  have h : intsD (a.map .int) = intsD (b.map .int) := this
  rw [intsD_map, intsD_map] at h
  exact Option.some.inj h
theorem asc_len : ∀ (l : List Int) (a b : Int), (∀ x ∈ l, a ≤ x ∧ x < b) → l.Pairwise (· < ·) → l.length ≤ (b - a).toNat
  | [], _, _, _, _ => Nat.zero_le _
  | x :: r, a, b, h, hp => by
    have := h x (.head _)
    have ih := asc_len r (x + 1) b (fun y hy => by
      have h1 := List.rel_of_pairwise_cons hp hy
      have h2 := h y (.tail _ hy)
      omega) hp.of_cons
    show r.length + 1 ≤ _
    omega
theorem lot_short {n : Int} {lot : List Int} (h : Lot n lot) : lot.length ≤ n.toNat := by
  have := asc_len lot 0 n h.1 h.2
  rwa [Int.sub_zero] at this
theorem free_eq {n : Int} {lot : List Int} (h : Lot n lot) : (sumsL n lot).isEmpty = freeB n lot := by
  unfold freeB
  rcases first_plain h with ⟨a, b⟩ | ⟨x, y, z, ts, a, b, _⟩ <;> (rw [a, b]; rfl)
theorem okD_ints {l : List Int} : okD (.lst (l.map .int)) = true := by
  unfold okD
  have e : toPy (.lst (l.map .int)) = .list (l.map .int) := by
    show PyData.list (toPyL (l.map .int)) = _
    rw [toPyL_map, List.map_map]; rfl
  have n : noObj (.lst (l.map .int)) = true := by
    show noObjL (l.map D.int) = true
    induction l with
    | nil => rfl
    | cons _ _ ih => exact ih (by show PyData.list (toPyL _) = _; rw [toPyL_map, List.map_map]; rfl)
  rw [e, n]
  unfold SeqAt.shaped
  rw [PyData.canLay0, lay_ints]
  have hd := depth_ints l
  have : (PyData.list (l.map .int)).depth ≤ 64 := by simp only [PyData.depth]; omega
  rw [decide_eq_true this]; rfl
theorem eqD_ints_nil {l : List Int} : eqD (.lst (l.map .int)) (.lst []) = l.isEmpty := by
  show PyData.eqv (.list (toPyL (l.map .int))) (.list (toPyL [])) = _
  cases l with
  | nil => simp [toPyL, PyData.eqv, PyData.eqvAll]
  | cons t ts => simp [toPyL, PyData.eqv, PyData.eqvAll]
theorem dep1_ints {l : List Int} (h : l.length ≤ 1000000) : dep 1 (.lst (l.map .int)) = true := by
  show ((l.map D.int).all (dep 0) && decide ((l.map D.int).length ≤ 1000000)) = true
  rw [List.length_map, decide_eq_true h, Bool.and_true, List.all_map, List.all_eq_true]
  intro _ _; rfl
theorem addL_eq {n : Int} {lot : List Int} (h : Lot n lot) : ((rangeI n).filter fun x => !decide (x ∈ lot)).filter (fun x => (sumsL n (sortI (lot ++ [x]))).isEmpty) = addL n lot := by
  unfold addL
  rw [List.filter_filter]
  refine List.filter_congr fun x hx => ?_
  by_cases c : x ∈ lot
  · simp [c]
  · have hm := (more_lot h (mem_rangeI.mp hx) c).1
    rw [free_eq hm, decide_eq_false c]
    simp
theorem rangeI_cons {n : Int} (h : 1 ≤ n) : rangeI n = 0 :: ((List.range (n - 1).toNat).map fun i : Nat => ((1 : Int) + (i : Int))) := by
  unfold rangeI
  have e : n.toNat = (n - 1).toNat + 1 := by omega
  rw [e, List.range_succ_eq_map, List.map_cons, List.map_map]
  congr 1
  refine List.map_congr_left fun i _ => ?_
  show (0 : Int) + ((i + 1 : Nat) : Int) = 1 + (i : Int)
  omega
theorem find_congr {α : Type} {p q : α → Bool} : ∀ {l : List α}, (∀ x ∈ l, p x = q x) → l.find? p = l.find? q
  | [], _ => rfl
  | x :: r, h => by
    rw [List.find?_cons, List.find?_cons, h x (.head _), find_congr fun y hy => h y (.tail _ hy)]
def okLast (row : List Int) (x : Int) : Bool := match row.getLast? with
  | none => true
  | some y => decide (y ≤ x)
/-- the rows of so many of a lot, ascending -/
def rowsL (lot : List Int) : Nat → List (List Int)
  | 0 => [[]]
  | k + 1 => (rowsL lot k).flatMap fun row => (lot.filter (okLast row)).map fun x => row ++ [x]
theorem length_flat {α β : Type} {f : α → List β} {m : Nat} : ∀ (l : List α), (∀ x ∈ l, (f x).length ≤ m) → (l.flatMap f).length ≤ l.length * m
  | [], _ => by simp
  | x :: r, h => by
    rw [List.flatMap_cons, List.length_append, List.length_cons, Nat.add_mul, Nat.one_mul]
    have := h x (.head _)
    have := length_flat r fun y hy => h y (.tail _ hy)
    omega
theorem rowsL_length {lot : List Int} : ∀ k, (rowsL lot k).length ≤ lot.length ^ k
  | 0 => by simp [rowsL]
  | k + 1 => by
    have h := length_flat (f := fun row => (lot.filter (okLast row)).map fun x => row ++ [x]) (m := lot.length) (rowsL lot k) fun row _ => by
      rw [List.length_map]; exact List.length_filter_le _ _
    have := Nat.mul_le_mul_right lot.length (rowsL_length (lot := lot) k)
    rw [Nat.pow_succ]
    exact Nat.le_trans h this
theorem rowsL_len {lot : List Int} : ∀ k, ∀ row ∈ rowsL lot k, row.length = k
  | 0, row, h => by rw [List.mem_singleton.mp h]; rfl
  | k + 1, row, h => by
    obtain ⟨r, hr, h⟩ := List.mem_flatMap.mp h
    obtain ⟨x, _, rfl⟩ := List.mem_map.mp h
    rw [List.length_append, rowsL_len k r hr]; rfl
theorem atI_last' {row : List Int} {y : Int} (h : row.getLast? = some y) : atI (row.map D.int) (-1) = some (.int y) := by
  obtain ⟨ys, rfl⟩ : ∃ ys, row = ys ++ [y] := List.getLast?_eq_some_iff.mp h
  rw [List.map_append]
  exact atI_last _ _
theorem okD_tupI {row : List Int} : okD (tupI row) = true := by
  unfold okD
  have n : noObj (tupI row) = true := by
    show noObjL (row.map D.int) = true
    induction row with
    | nil => rfl
    | cons _ _ ih => exact ih
  rw [toPy_tupI, n]
  unfold SeqAt.shaped pyT
  rw [PyData.canLay0, lay_ints]
  have hd := depth_ints row
  have : (PyData.tuple (row.map .int)).depth ≤ 64 := by simp only [PyData.depth]; omega
  rw [decide_eq_true this]; rfl
theorem eqD_tup_nil {row : List Int} : eqD (tupI row) (.tup []) = row.isEmpty := by
  show PyData.eqv (.tuple (toPyL (row.map .int))) (.tuple (toPyL [])) = _
  cases row with
  | nil => simp [toPyL, PyData.eqv, PyData.eqvAll]
  | cons t ts => simp [toPyL, PyData.eqv, PyData.eqvAll]
theorem last_nil {row : List Int} : row.isEmpty = true ↔ row.getLast? = none := by
  cases row <;> simp
theorem ltT_app : ∀ {r r' a b : List Int}, r.length = r'.length → ltT r r' = true → ltT (r ++ a) (r' ++ b) = true
  | [], [], _, _, _, h => by cases h
  | [], _ :: _, _, _, e, _ => by cases e
  | _ :: _, [], _, _, e, _ => by cases e
  | x :: r, y :: t, a, b, e, h => by
    have e' : r.length = t.length := by simpa using e
    simp only [ltT, Bool.or_eq_true, Bool.and_eq_true, decide_eq_true_eq] at h
    show (decide (x < y) || (decide (x = y) && ltT (r ++ a) (t ++ b))) = true
    simp only [Bool.or_eq_true, Bool.and_eq_true, decide_eq_true_eq]
    rcases h with h | ⟨h1, h2⟩
    · exact .inl h
    · exact .inr ⟨h1, ltT_app e' h2⟩
theorem ltT_same {x y : Int} : ∀ {r : List Int}, x < y → ltT (r ++ [x]) (r ++ [y]) = true
  | [], h => by simp [ltT, h]
  | z :: r, h => by
    show (decide (z < z) || (decide (z = z) && ltT (r ++ [x]) (r ++ [y]))) = true
    simp [ltT_same (r := r) h]
theorem ltT_asymm : ∀ {a b : List Int}, ltT a b = true → ltT b a = false
  | [], [], h => by cases h
  | [], _ :: _, _ => rfl
  | _ :: _, [], h => by cases h
  | x :: r, y :: t, h => by
    simp only [ltT, Bool.or_eq_true, Bool.and_eq_true, decide_eq_true_eq] at h
    show (decide (y < x) || (decide (y = x) && ltT t r)) = false
    rcases h with h | ⟨h1, h2⟩
    · have a1 : ¬ y < x := by omega
      have a2 : ¬ y = x := by omega
      simp [a1, a2]
    · subst h1
      simp [ltT_asymm h2]
theorem asc_flat {m : Nat} {ys : List Int → List Int} : ∀ (l : List (List Int)), (∀ r ∈ l, r.length = m) → (∀ r ∈ l, (ys r).Pairwise (· < ·)) → l.Pairwise (fun a b => ltT a b = true) →
    (l.flatMap fun r => (ys r).map fun x => r ++ [x]).Pairwise (fun a b => ltT a b = true)
  | [], _, _, _ => .nil
  | r :: l, h1, h2, h3 => by
    rw [List.flatMap_cons, List.pairwise_append]
    refine ⟨?_, asc_flat l (fun s hs => h1 s (.tail _ hs)) (fun s hs => h2 s (.tail _ hs)) h3.of_cons, fun a ha b hb => ?_⟩
    · rw [List.pairwise_map]
      exact (h2 r (.head _)).imp fun h => ltT_same h
    · obtain ⟨x, _, rfl⟩ := List.mem_map.mp ha
      obtain ⟨s, hs, hb⟩ := List.mem_flatMap.mp hb
      obtain ⟨y, _, rfl⟩ := List.mem_map.mp hb
      exact ltT_app ((h1 r (.head _)).trans (h1 s (.tail _ hs)).symm) (List.rel_of_pairwise_cons h3 hs)
theorem rowsL_asc {lot : List Int} (hp : lot.Pairwise (· < ·)) : ∀ k, (rowsL lot k).Pairwise (fun a b => ltT a b = true)
  | 0 => List.pairwise_singleton _ _
  | k + 1 => asc_flat (m := k) (ys := fun row => lot.filter (okLast row)) (rowsL lot k) (rowsL_len k) (fun _ _ => hp.filter _) (rowsL_asc hp k)
theorem minT_asc {t : List Int} {ts : List (List Int)} (h : (t :: ts).Pairwise (fun a b => ltT a b = true)) : minT t ts = t :=
  minT_first ts t fun _ hu => ltT_asymm (List.rel_of_pairwise_cons h hu)
theorem tup_app {r s : List Int} : (D.tup (r.map .int ++ s.map .int) : D) = tupI (r ++ s) := by unfold tupI; rw [List.map_append]
def range1 (n : Int) : List Int := (List.range (n - 1).toNat).map fun i : Nat => ((1 : Int) + (i : Int))
theorem rngD_1 {n : Int} : rngD 1 (n - 1).toNat = (range1 n).map .int := by unfold rngD range1; rw [List.map_map]; rfl
theorem length_range1 {n : Int} : (range1 n).length = (n - 1).toNat := by unfold range1; rw [List.length_map, List.length_range]
theorem mem_range1 {n x : Int} : x ∈ range1 n ↔ 1 ≤ x ∧ x < n := by
  unfold range1
  rw [List.mem_map]
  constructor
  · rintro ⟨i, hi, rfl⟩
    have := List.mem_range.mp hi
    omega
  · rintro ⟨h1, h2⟩
    exact ⟨(x - 1).toNat, List.mem_range.mpr (by omega), by omega⟩
/-- every lot so far, and those that stay free with a rest more -/
def stepF (fr : List Int → Bool) (acc : List (List Int)) (r : Int) : List (List Int) := acc ++ (acc.filter fun l => fr (l ++ [r])).map fun l => l ++ [r]
theorem stepF_length {fr : List Int → Bool} {acc : List (List Int)} {r : Int} : (stepF fr acc r).length ≤ acc.length * 2 := by
  unfold stepF
  rw [List.length_append, List.length_map]
  have := List.length_filter_le (fun l => fr (l ++ [r])) acc
  omega
theorem stepF_len {fr : List Int → Bool} {acc : List (List Int)} {r : Int} {m : Nat} (h : ∀ l ∈ acc, l.length ≤ m) : ∀ l ∈ stepF fr acc r, l.length ≤ m + 1 := fun l hl => by
  rcases List.mem_append.mp hl with hl | hl
  · have := h l hl; omega
  · obtain ⟨x, hx, rfl⟩ := List.mem_map.mp hl
    have := h x (List.mem_filter.mp hx).1
    rw [List.length_append]
    show x.length + 1 ≤ m + 1
    omega
def freeLots (n : Int) : List (List Int) := sortT ((range1 n).foldl (stepF (freeB n)) [[]])
/-- a loop by what is so ahead of each thing -/
theorem for_inv {g : TGd} {tb : TSd} {D : EndsD} {I : List Y.D → Rho → GS → Prop} : ∀ (l : List Y.D) (ρ : Rho) (G : GS), I l ρ G →
    (∀ x r ρ G, I (x :: r) ρ G → ∀ D' : EndsD, D'.rt = D.rt → D'.er = D.er → D'.bk = D.nx → (∀ ρ' G', I r ρ' G' → D'.nx ρ' G') → (∀ ρ' G', I r ρ' G' → D'.ct ρ' G') → g x ρ G (fun ρ2 G2 => tb D' ρ2 G2)) →
    (∀ ρ G, I [] ρ G → D.nx ρ G) → forL g tb D l ρ G
  | [], ρ, G, h, _, q => q ρ G h
  | x :: r, ρ, G, h, st, q => st x r ρ G h { D with nx := forL g tb D r, ct := forL g tb D r, bk := D.nx } rfl rfl rfl (fun ρ' G' h' => for_inv r ρ' G' h' st q) (fun ρ' G' h' => for_inv r ρ' G' h' st q)
/-- a loop over mapped things, by what is so behind a part of them -/
theorem for_pre {α : Type} {e : α → Y.D} {g : TGd} {tb : TSd} {D : EndsD} (R : List α → Rho → GS → Prop) (l : List α) {ρ : Rho} {G : GS} (h0 : R [] ρ G)
    (st : ∀ (pre : List α) (x : α) (post : List α), l = pre ++ x :: post → ∀ ρ G, R pre ρ G → ∀ D' : EndsD, D'.rt = D.rt → D'.er = D.er → D'.bk = D.nx → (∀ ρ' G', R (pre ++ [x]) ρ' G' → D'.nx ρ' G') → (∀ ρ' G', R (pre ++ [x]) ρ' G' → D'.ct ρ' G') → g (e x) ρ G (fun ρ2 G2 => tb D' ρ2 G2))
    (q : ∀ ρ G, R l ρ G → D.nx ρ G) : forL g tb D (l.map e) ρ G := by
  have main : ∀ (r pre : List α) (ρ : Rho) (G : GS), l = pre ++ r → R pre ρ G → forL g tb D (r.map e) ρ G := by
    intro r
    induction r with
    | nil => intro pre ρ G el h; rw [List.append_nil] at el; exact q ρ G (el ▸ h)
    | cons x r ih =>
      intro pre ρ G el h
      exact st pre x r el ρ G h { D with nx := forL g tb D (r.map e), ct := forL g tb D (r.map e), bk := D.nx } rfl rfl rfl
        (fun ρ' G' h' => ih (pre ++ [x]) ρ' G' (by rw [List.append_assoc]; exact el) h') (fun ρ' G' h' => ih (pre ++ [x]) ρ' G' (by rw [List.append_assoc]; exact el) h')
  exact main l [] ρ G rfl h0
/-- a while by a measure -/
theorem while_inv {c : TTd} {tb : TSd} {D : EndsD} (I : Nat → Rho → GS → Prop)
    (st : ∀ n ρ G, I n ρ G → ∀ D' : EndsD, D'.rt = D.rt → D'.er = D.er → D'.bk = D.nx → (∀ m ρ' G', m < n → I m ρ' G' → D'.nx ρ' G') → (∀ m ρ' G', m < n → I m ρ' G' → D'.ct ρ' G') →
      c ρ G (fun b G1 => if b = true then tb D' ρ G1 else D.nx ρ G1) (fun e G1 => D.er e ρ G1)) {n : Nat} {ρ : Rho} {G : GS} (h : I n ρ G) : ∃ n, whileN c tb D n ρ G := by
  have main : ∀ f n ρ G, n < f → I n ρ G → whileN c tb D f ρ G := by
    intro f
    induction f with
    | zero => intro n ρ G h; exact absurd h (Nat.not_lt_zero _)
    | succ f ih =>
      intro n ρ G hf h
      exact st n ρ G h { D with nx := whileN c tb D f, ct := whileN c tb D f, bk := D.nx } rfl rfl rfl (fun m ρ' G' hm h' => ih m ρ' G' (by omega) h') (fun m ρ' G' hm h' => ih m ρ' G' (by omega) h')
  exact ⟨n + 1, main (n + 1) n ρ G (Nat.lt_succ_self n) h⟩
/-- a comprehension, whatever its target: what stays, what is made of it -/
theorem lc_gen {α : Type} {e f : α → D} {p : α → Bool} {g : TGd} {tt : TTd} {te : TEd} {ρ : Rho} {G : GS} {Q : List D → GS → Prop} : ∀ (l : List α) (acc : List D),
    (∀ x ∈ l, ∀ (K : D → GS → Prop) (J : GS → Prop), (if p x = true then K (f x) G else J G) →
      g (e x) ρ G (fun ρ2 G2 => tt ρ2 G2 (fun b G3 => if b = true then te ρ2 G3 K (fun _ _ => False) else J G3) (fun _ _ => False))) →
    Q (acc ++ (l.filter p).map f) G → lcL g tt te (l.map e) acc ρ G Q
  | [], acc, _, q => by rw [List.filter_nil, List.map_nil, List.append_nil] at q; exact q
  | x :: l, acc, h, q => by
    refine h x (.head _) (fun d G4 => lcL g tt te (l.map e) (acc ++ [d]) ρ G4 Q) (fun G3 => lcL g tt te (l.map e) acc ρ G3 Q) ?_
    cases hp : p x with
    | true =>
      rw [if_pos rfl]
      refine lc_gen l _ (fun y hy => h y (.tail _ hy)) ?_
      rw [List.filter_cons, if_pos hp] at q
      rw [List.append_assoc]
      exact q
    | false =>
      rw [if_neg (by decide)]
      refine lc_gen l _ (fun y hy => h y (.tail _ hy)) ?_
      rw [List.filter_cons, if_neg (by rw [hp]; decide)] at q
      exact q
/-- a comprehension of two clauses -/
theorem lc2_gen {α : Type} {e : α → D} {F : α → List D} {p : α → Bool} {g : TGd} {tt : TTd} {wi1 : TId} {g1 : TGd} {tt1 : TTd} {te : TEd} {vs1 : List Nat} {ρ : Rho} {G : GS} {Q : List D → GS → Prop} (m : Nat) : ∀ (l : List α) (acc : List D),
    acc.length + l.length * m ≤ 16777216 → (∀ x ∈ l, (F x).length ≤ m) →
    (∀ x ∈ l, ∀ (acc : List D) (K : List D → GS → Prop) (J : GS → Prop), acc.length + m ≤ 16777216 → (if p x = true then K (acc ++ F x) G else J G) →
      g (e x) ρ G (fun ρ2 G2 => tt ρ2 G2 (fun b G3 => if b = true then wi1 ρ2 G3 (fun ds1 G4 => acc.length + ds1.length ≤ 16777216 ∧ lcL g1 tt1 te ds1 acc (wipeD ρ2 vs1) G4 K) (fun _ _ => False) else J G3) (fun _ _ => False))) →
    Q (acc ++ (l.filter p).flatMap F) G → lcL2 g tt wi1 g1 tt1 te vs1 (l.map e) acc ρ G Q
  | [], acc, _, _, _, q => by rw [List.filter_nil, List.flatMap_nil, List.append_nil] at q; exact q
  | x :: l, acc, hz, hF, h, q => by
    have hm : (x :: l).length * m = l.length * m + m := by rw [List.length_cons, Nat.add_mul, Nat.one_mul]
    refine h x (.head _) acc (fun acc2 G5 => lcL2 g tt wi1 g1 tt1 te vs1 (l.map e) acc2 ρ G5 Q) (fun G3 => lcL2 g tt wi1 g1 tt1 te vs1 (l.map e) acc ρ G3 Q) (by omega) ?_
    have hx := hF x (.head _)
    cases hp : p x with
    | true =>
      rw [if_pos rfl]
      refine lc2_gen m l _ (by rw [List.length_append]; omega) (fun y hy => hF y (.tail _ hy)) (fun y hy => h y (.tail _ hy)) ?_
      rw [List.filter_cons, if_pos hp] at q
      rw [List.append_assoc]
      exact q
    | false =>
      rw [if_neg (by decide)]
      refine lc2_gen m l _ (by omega) (fun y hy => hF y (.tail _ hy)) (fun y hy => h y (.tail _ hy)) ?_
      rw [List.filter_cons, if_neg (by rw [hp]; decide)] at q
      exact q
theorem okD_str {s : Str} (h : PyData.strOk s = true) : okD (.str s) = true := by
  show (true && SeqAt.shaped (.str s)) = true
  unfold SeqAt.shaped
  simp [PyData.canLay0, PyData.depth, h]
theorem eqD_strs {s t : Str} : eqD (.str s) (.str t) = decide (s = t) := by
  show PyData.eqv (.str s) (.str t) = _
  rw [PyData.eqv]
  by_cases c : s = t
  · subst c; simp
  · simp [c]
/-- a test of a text -/
theorem str_if {a b : Str} {A B : Prop} (q : if a = b then A else B) (ha : PyData.strOk a = true := by decide +kernel) (hb : PyData.strOk b = true := by decide +kernel) :
    okD (.str a) = true ∧ okD (.str b) = true ∧ (if eqD (.str a) (.str b) = true then A else B) := by
  refine ⟨okD_str ha, okD_str hb, ?_⟩
  rw [eqD_strs]
  by_cases c : a = b
  · rw [if_pos c] at q; rw [decide_eq_true c, if_pos rfl]; exact q
  · rw [if_neg c] at q; rw [decide_eq_false c, if_neg (by decide)]; exact q
theorem lotErr_cases {dn dl : D} {e : Er} (h : lotErr dn dl = some e) : e = ⟨"BadRound", none⟩ ∨ ∃ d, e = ⟨"BadLot", some ("index", d)⟩ ∧ ∀ k, below k d = true := by
  unfold lotErr at h
  split at h
  · split at h
    · obtain ⟨i, _, rfl⟩ := Option.map_eq_some_iff.mp h
      exact .inr ⟨_, rfl, fun _ => rfl⟩
    · cases h; exact .inr ⟨_, rfl, fun _ => rfl⟩
  · cases h; exact .inl rfl
/-- the last numbered list takes a thing more -/
theorem append_last {G : GS} {ds : List D} {d : D} {Q : QD} (hl : ds.length < 16777216) (q : Q .non (G ++ [.lst (ds ++ [d])])) : tMetD.isLstD (G ++ [.lst ds]) (.obj G.length) ∧ rAppendD (.obj G.length) [d] (G ++ [.lst ds]) Q := by
  have eg := getLast_set (G := G) (m := MO.lst ds) (m' := MO.lst (ds ++ [d]))
  refine ⟨⟨_, _, rfl, eg.1⟩, ?_⟩
  unfold rAppendD
  simp only [eg.1]
  exact ⟨hl, by rw [eg.2]; exact q⟩
theorem frz_last {G : GS} {ds : List D} {Q : QD} (q : Q (.lst ds) (G ++ [.dead])) : frzD (.obj G.length) (G ++ [.lst ds]) Q := by
  have eg := getLast_set (G := G) (m := MO.lst ds) (m' := MO.dead)
  unfold frzD
  simp only [eg.1]
  rw [eg.2]; exact q
theorem grew_one {G : GS} {m : MO} : GrewFrom G (G ++ [m]) := ⟨_, rfl⟩
/-- the numbers from a to b - 1 -/
def rngI (a b : Int) : List Int := (List.range (b - a).toNat).map fun i : Nat => a + (i : Int)
theorem rngD_ab {a b : Int} : rngD a (b - a).toNat = (rngI a b).map .int := by unfold rngD rngI; rw [List.map_map]; rfl
theorem length_rngI {a b : Int} : (rngI a b).length = (b - a).toNat := by unfold rngI; rw [List.length_map, List.length_range]
theorem mem_rngI {a b x : Int} : x ∈ rngI a b ↔ a ≤ x ∧ x < b := by
  unfold rngI
  rw [List.mem_map]
  constructor
  · rintro ⟨i, hi, rfl⟩
    have := List.mem_range.mp hi
    omega
  · rintro ⟨h1, h2⟩
    exact ⟨(x - a).toNat, List.mem_range.mpr (by omega), by omega⟩
theorem rngI_asc {a b : Int} : (rngI a b).Pairwise (· < ·) := by
  unfold rngI
  rw [List.pairwise_map]
  exact List.pairwise_lt_range.imp fun h => by omega
theorem rangeI_rngI {n : Int} : rangeI n = rngI 0 n := by unfold rangeI rngI; rw [Int.sub_zero]
theorem range1_rngI {n : Int} : range1 n = rngI 1 n := rfl
theorem rangeI_lot {n : Int} : Lot n (rangeI n) := ⟨fun _ h => mem_rangeI.mp h, by rw [rangeI_rngI]; exact rngI_asc⟩
theorem Lot.sub {n : Int} {a b : List Int} (h : Lot n b) (s : a.Sublist b) : Lot n a := ⟨fun x hx => h.1 x (s.subset hx), h.2.sublist s⟩
theorem fold_sub {fr : List Int → Bool} : ∀ (r : List Int) (acc : List (List Int)) (base : List Int), (∀ l ∈ acc, l.Sublist base) → ∀ l ∈ r.foldl (stepF fr) acc, l.Sublist (base ++ r)
  | [], acc, base, h, l, hl => by rw [List.append_nil]; exact h l hl
  | x :: r, acc, base, h, l, hl => by
    have := fold_sub (fr := fr) r (stepF fr acc x) (base ++ [x]) (fun m hm => by
      rcases List.mem_append.mp hm with hm | hm
      · exact (h m hm).trans (List.sublist_append_left _ _)
      · obtain ⟨y, hy, rfl⟩ := List.mem_map.mp hm
        exact (h y (List.mem_filter.mp hy).1).append (List.Sublist.refl _)) l hl
    rw [List.append_assoc] at this
    exact this
theorem fold_sub0 {fr : List Int → Bool} {r l : List Int} (h : l ∈ r.foldl (stepF fr) [[]]) : l.Sublist r := by
  have := fold_sub (fr := fr) r [[]] [] (fun m hm => by rw [List.mem_singleton.mp hm]; exact List.Sublist.refl _) l h
  exact this
theorem fold_many {fr : List Int → Bool} : ∀ (r : List Int) (acc : List (List Int)), (r.foldl (stepF fr) acc).length ≤ acc.length * 2 ^ r.length
  | [], acc => by simp
  | x :: r, acc => by
    have h1 := fold_many (fr := fr) r (stepF fr acc x)
    have h2 := Nat.mul_le_mul_right (2 ^ r.length) (stepF_length (fr := fr) (acc := acc) (r := x))
    have h3 : acc.length * 2 * 2 ^ r.length = acc.length * 2 ^ (r.length + 1) := by rw [Nat.pow_succ, Nat.mul_assoc, Nat.mul_comm 2]
    show (r.foldl (stepF fr) (stepF fr acc x)).length ≤ acc.length * 2 ^ (r.length + 1)
    omega
theorem fold_congr {f g : List Int → Bool} {n : Int} (h : ∀ l, Lot n l → f l = g l) : ∀ (r pre : List Int) (acc : List (List Int)), Lot n (pre ++ r) → (∀ l ∈ acc, l.Sublist pre) → r.foldl (stepF f) acc = r.foldl (stepF g) acc
  | [], _, _, _, _ => rfl
  | x :: r, pre, acc, hl, ha => by
    have hs : ∀ l ∈ acc, (l ++ [x]).Sublist (pre ++ x :: r) := fun l hm => (ha l hm).append (List.singleton_sublist.mpr (.head _))
    have e : stepF f acc x = stepF g acc x := by
      unfold stepF
      congr 2
      exact List.filter_congr fun l hm => h _ (hl.sub (hs l hm))
    show r.foldl (stepF f) (stepF f acc x) = r.foldl (stepF g) (stepF g acc x)
    rw [e]
    refine fold_congr h r (pre ++ [x]) _ (by rw [List.append_assoc]; exact hl) fun m hm => ?_
    rcases List.mem_append.mp hm with hm | hm
    · exact (ha m hm).trans (List.sublist_append_left _ _)
    · obtain ⟨y, hy, rfl⟩ := List.mem_map.mp hm
      exact (ha y (List.mem_filter.mp hy).1).append (List.Sublist.refl _)
theorem freeB_zero {n : Int} (hn : 0 < n) : freeB n [0] = false := by
  unfold freeB sumIn
  have : ([(0 : Int)].find? fun y => decide ((0 + y) % n ∈ [(0 : Int)])) = some 0 := by
    rw [List.find?_cons, show (0 + (0 : Int)) % n = 0 by simp]
    rfl
  rw [this]; rfl
theorem every_free {n : Int} (h : 1 ≤ n) : sortT ((rangeI n).foldl (stepF (freeB n)) [[]]) = freeLots n := by
  unfold freeLots
  have : rangeI n = 0 :: range1 n := rangeI_cons h
  rw [this]
  show sortT ((range1 n).foldl _ (stepF (freeB n) [[]] 0)) = _
  have e : stepF (freeB n) [[]] 0 = [[]] := by
    unfold stepF
    rw [List.filter_cons, show freeB n ([] ++ [0]) = false from freeB_zero (by omega)]
    rfl
  rw [e]
theorem freeLots_sub {n : Int} {l : List Int} (h : l ∈ freeLots n) : l.Sublist (range1 n) := fold_sub0 ((sortT_perm _).mem_iff.mp h)
theorem range1_lot {n : Int} : Lot n (range1 n) := ⟨fun x h => by have := mem_range1.mp h; omega, by rw [range1_rngI]; exact rngI_asc⟩
theorem freeLots_lot {n : Int} {l : List Int} (h : l ∈ freeLots n) : Lot n l := range1_lot.sub (freeLots_sub h)
theorem freeLots_len {n : Int} {l : List Int} (h : l ∈ freeLots n) : l.length ≤ n.toNat := lot_short (freeLots_lot h)
theorem freeLots_many {n : Int} (h : n ≤ 14) : (freeLots n).length ≤ 8192 := by
  have h1 := (sortT_perm ((range1 n).foldl (stepF (freeB n)) [[]])).length_eq
  have h2 := fold_many (fr := freeB n) (range1 n) [[]]
  have h3 : 2 ^ (range1 n).length ≤ 2 ^ 13 := Nat.pow_le_pow_right (by decide) (by rw [length_range1]; omega)
  have h4 : (2 : Nat) ^ 13 = 8192 := by decide
  have h5 : ([[]] : List (List Int)).length = 1 := rfl
  unfold freeLots
  rw [h5] at h2
  omega
theorem eqv_ints : ∀ a b : List Int, PyData.eqvAll (a.map .int) (b.map .int) = decide (a = b)
  | [], [] => by simp [PyData.eqvAll]
  | [], _ :: _ => by simp [PyData.eqvAll]
  | _ :: _, [] => by simp [PyData.eqvAll]
  | x :: r, y :: t => by
    rw [List.map_cons, List.map_cons, PyData.eqvAll, PyData.eqv, eqv_ints r t]
    by_cases h : x = y
    · by_cases h2 : r = t
      · simp [h, h2]
      · simp [h, h2]
    · simp [h]
theorem eqD_tupI {a b : List Int} : eqD (tupI a) (tupI b) = decide (a = b) := by
  show PyData.eqv (toPy (tupI a)) (toPy (tupI b)) = _
  rw [toPy_tupI, toPy_tupI]
  unfold pyT
  rw [PyData.eqv, eqv_ints]
theorem minT_le : ∀ (ts : List (List Int)) (t : List Int), minT t ts = t ∨ ltT (minT t ts) t = true
  | [], t => .inl rfl
  | u :: ts, t => by
    show minT (if ltT u t = true then u else t) ts = t ∨ ltT (minT (if ltT u t = true then u else t) ts) t = true
    by_cases c : ltT u t = true
    · rw [if_pos c]
      rcases minT_le ts u with h | h
      · rw [h]; exact .inr c
      · exact .inr (ltT_trans h c)
    · rw [if_neg c]; exact minT_le ts t
theorem ltT_irr {a : List Int} : ltT a a = false := by
  cases h : ltT a a with
  | false => rfl
  | true => rw [ltT_asym h] at h; cases h
theorem minT_all : ∀ (ts : List (List Int)) (t : List Int), ∀ u ∈ t :: ts, ltT u (minT t ts) = false
  | [], t, u, hu => by rw [List.mem_singleton.mp hu]; exact ltT_irr
  | v :: ts, t, u, hu => by
    show ltT u (minT (if ltT v t = true then v else t) ts) = false
    have ih := minT_all ts (if ltT v t = true then v else t)
    have hw := ih _ (.head _)
    have low : ∀ z, ltT z (if ltT v t = true then v else t) = false → ltT z (minT (if ltT v t = true then v else t) ts) = false := fun z hz => by
      cases c : ltT z (minT (if ltT v t = true then v else t) ts) with
      | false => rfl
      | true =>
        rcases minT_le ts (if ltT v t = true then v else t) with e | e
        · rw [e, hz] at c; cases c
        · rw [ltT_trans c e] at hz; cases hz
    rcases List.mem_cons.mp hu with rfl | hu
    · refine low u ?_
      by_cases c : ltT v u = true
      · rw [if_pos c]; exact ltT_asym c
      · rw [if_neg c]; exact ltT_irr
    · rcases List.mem_cons.mp hu with rfl | hu
      · refine low u ?_
        by_cases c : ltT u t = true
        · rw [if_pos c]; exact ltT_irr
        · rw [if_neg c]; simpa using c
      · exact ih u (.tail _ hu)
theorem minT_self {t : List Int} {ts : List (List Int)} : (t = minT t ts) ↔ ∀ u ∈ ts, ltT u t = false :=
  ⟨fun e u hu => by have := minT_all ts t u (.tail _ hu); rw [← e] at this; exact this, fun h => (minT_first ts t h).symm⟩
theorem seq_set {i : Nat} {te : TEd} {u : TSd} {D : EndsD} {ρ : Rho} {G : GS} (P : Y.D → Prop) (h1 : ∀ Q : QD, (∀ d, P d → Q d G) → te ρ G Q (fun e G1 => D.er e ρ G1)) (h2 : ∀ d, P d → u D (ρ.set i (some d)) G) : tSeqD (tSetD i te) u D ρ G := h1 _ h2
mutual
theorem okD_dep : ∀ (k : Nat) (d : D), dep k d = true → noObj d = true ∧ PyData.canLay0 (toPy d) = true ∧ (toPy d).depth ≤ k + 2
  | 0, d, h => by
    obtain ⟨h1, h2⟩ := Bool.and_eq_true_iff.mp (show (flatD d && okD d) = true from h)
    obtain ⟨h3, h4⟩ := Bool.and_eq_true_iff.mp (show (noObj d && SeqAt.shaped (toPy d)) = true from h2)
    refine ⟨h3, (Bool.and_eq_true_iff.mp (show (PyData.canLay0 (toPy d) && _) = true from h4)).1, ?_⟩
    cases d <;> first | (cases h1; done) | (simp [toPy, PyData.depth])
  | k + 1, .tup xs, h => by
    obtain ⟨h1, h2⟩ := Bool.and_eq_true_iff.mp (show (xs.all (dep k) && decide (xs.length ≤ 1000000)) = true from h)
    obtain ⟨a, b, c⟩ := okD_depL k xs h1
    refine ⟨a, b, ?_⟩
    show (PyData.tuple (toPyL xs)).depth ≤ _
    simp only [PyData.depth]; omega
  | k + 1, .lst xs, h => by
    obtain ⟨h1, h2⟩ := Bool.and_eq_true_iff.mp (show (xs.all (dep k) && decide (xs.length ≤ 1000000)) = true from h)
    obtain ⟨a, b, c⟩ := okD_depL k xs h1
    refine ⟨a, b, ?_⟩
    show (PyData.list (toPyL xs)).depth ≤ _
    simp only [PyData.depth]; omega
  | k + 1, .non, _ => ⟨rfl, rfl, by simp [toPy, PyData.depth]⟩
  | k + 1, .bl _, _ => ⟨rfl, rfl, by simp [toPy, PyData.depth]⟩
  | k + 1, .int _, _ => ⟨rfl, rfl, by simp [toPy, PyData.depth]⟩
  | k + 1, .str s, h => by
    obtain ⟨h1, h2⟩ := Bool.and_eq_true_iff.mp (show (flatD (.str s) && okD (.str s)) = true from h)
    obtain ⟨h3, h4⟩ := Bool.and_eq_true_iff.mp (show (noObj (.str s) && SeqAt.shaped (toPy (.str s))) = true from h2)
    exact ⟨h3, (Bool.and_eq_true_iff.mp (show (PyData.canLay0 (toPy (.str s)) && _) = true from h4)).1, by simp [toPy, PyData.depth]⟩
theorem okD_depL : ∀ (k : Nat) (ds : List D), ds.all (dep k) = true → noObjL ds = true ∧ PyData.canLayAll0 (toPyL ds) = true ∧ PyData.depthAll (toPyL ds) ≤ k + 2
  | k, [], _ => ⟨rfl, rfl, by simp [toPyL, PyData.depthAll]⟩
  | k, d :: ds, h => by
    obtain ⟨h1, h2⟩ := Bool.and_eq_true_iff.mp (show (dep k d && ds.all (dep k)) = true from h)
    obtain ⟨a, b, c⟩ := okD_dep k d h1
    obtain ⟨a2, b2, c2⟩ := okD_depL k ds h2
    refine ⟨?_, ?_, ?_⟩
    · show (noObj d && noObjL ds) = true
      rw [a, a2]; rfl
    · show PyData.canLayAll0 (toPy d :: toPyL ds) = true
      rw [PyData.canLayAll0, b, b2]; rfl
    · show PyData.depthAll (toPy d :: toPyL ds) ≤ _
      simp only [PyData.depthAll]; omega
end
theorem okD_of {k : Nat} {d : D} (hk : k ≤ 50) (h : dep k d = true) : okD d = true := by
  obtain ⟨a, b, c⟩ := okD_dep k d h
  show (noObj d && SeqAt.shaped (toPy d)) = true
  rw [a]
  unfold SeqAt.shaped
  rw [b, decide_eq_true (by omega)]; rfl
theorem eqD_nil {ds : List D} : eqD (.lst ds) (.lst []) = ds.isEmpty := by
  show PyData.eqv (.list (toPyL ds)) (.list (toPyL [])) = _
  cases ds with
  | nil => simp [toPyL, PyData.eqv, PyData.eqvAll]
  | cons t ts => simp [toPyL, PyData.eqv, PyData.eqvAll]
theorem eqD_bls {a b : Bool} : eqD (.bl a) (.bl b) = (a == b) := by
  show PyData.eqv (.bool a) (.bool b) = _
  rw [PyData.eqv]
/-- the index: a comprehension's list is compared with the empty one -/
theorem dep_mapL {α : Type} {k : Nat} {f : α → D} {l : List α} (h : ∀ x ∈ l, dep k (f x) = true) (hl : l.length ≤ 1000000) : dep (k + 1) (.lst (l.map f)) = true := by
  show ((l.map f).all (dep k) && decide ((l.map f).length ≤ 1000000)) = true
  rw [List.length_map, decide_eq_true hl, Bool.and_true, List.all_map, List.all_eq_true]
  exact h
theorem dep_mapT {α : Type} {k : Nat} {f : α → D} {l : List α} (h : ∀ x ∈ l, dep k (f x) = true) (hl : l.length ≤ 1000000) : dep (k + 1) (.tup (l.map f)) = true := by
  show ((l.map f).all (dep k) && decide ((l.map f).length ≤ 1000000)) = true
  rw [List.length_map, decide_eq_true hl, Bool.and_true, List.all_map, List.all_eq_true]
  exact h
theorem dep_tupI {k : Nat} {l : List Int} (hl : l.length ≤ 1000000) : dep (k + 1) (tupI l) = true := dep_mapT (f := D.int) (fun _ _ => by cases k <;> rfl) hl
theorem belowL_map {α : Type} {k : Nat} {f : α → D} {l : List α} (h : ∀ x ∈ l, below k (f x) = true) : belowL k (l.map f) = true := by
  induction l with
  | nil => rfl
  | cons x r ih =>
    show (below k (f x) && belowL k (r.map f)) = true
    rw [h x (.head _), ih fun y hy => h y (.tail _ hy)]; rfl
theorem add_int {a b : Int} {G : GS} {K : QD} : rAddD (.int a) (.int b) G K = K (.int (a + b)) G := rfl
def itD : D → Option (List D)
  | .lst xs => some xs
  | .tup xs => some xs
  | _ => none
theorem itD_cases {d : D} {xs : List D} (h : itD d = some xs) : d = .lst xs ∨ d = .tup xs := by
  cases d with
  | lst ys => cases h; exact .inl rfl
  | tup ys => cases h; exact .inr rfl
  | _ => cases h
theorem filter_empty {α : Type} {p : α → Bool} : ∀ (l : List α), (l.filter p).isEmpty = !l.any p
  | [] => rfl
  | x :: r => by
    rw [List.filter_cons, List.any_cons]
    cases h : p x with
    | true => rw [if_pos rfl]; rfl
    | false => rw [if_neg (by decide), filter_empty r]; rfl
theorem map_empty {α β : Type} {f : α → β} {l : List α} : (l.map f).isEmpty = l.isEmpty := by cases l <;> rfl
/-- the same, wherever the name is set in the end -/
theorem seq_set' {te : QD → QE → Prop} {K : QD} {E : QE} (P : Y.D → Prop) {G : GS} (h1 : ∀ Q : QD, (∀ d, P d → Q d G) → te Q E) (h2 : ∀ d, P d → K d G) : te K E := h1 K h2
def isPr (p : Nat) : Prop := 2 ≤ p ∧ ∀ d, d ∣ p → d = 1 ∨ d = p
theorem pr_mul {p a b : Nat} (hp : isPr p) (h : p ∣ a * b) : p ∣ a ∨ p ∣ b := by
  rcases hp.2 (Nat.gcd p a) (Nat.gcd_dvd_left p a) with e | e
  · exact .inr (Nat.Coprime.dvd_of_dvd_mul_left e h)
  · refine .inl ?_
    have := Nat.gcd_dvd_right p a
    rw [e] at this; exact this
theorem pr_least {m b : Nat} (hb : 2 ≤ b) (hd : b ∣ m) (hno : ∀ d, 2 ≤ d → d < b → ¬ d ∣ m) : isPr b := by
  refine ⟨hb, fun d hd2 => ?_⟩
  have h1 := Nat.le_of_dvd (by omega) hd2
  rcases Nat.lt_or_ge d 2 with c | c
  · rcases Nat.lt_or_ge d 1 with c2 | c2
    · have : d = 0 := by omega
      subst this
      have := Nat.zero_dvd.mp hd2
      omega
    · exact .inl (by omega)
  · rcases Nat.lt_or_ge d b with c2 | c2
    · exact absurd (Nat.dvd_trans hd2 hd) (hno d c c2)
    · exact .inr (by omega)
theorem pr_exists : ∀ (f m : Nat), m ≤ f → 2 ≤ m → ∃ p, isPr p ∧ p ∣ m
  | 0, m, h, h2 => by omega
  | f + 1, m, h, h2 => by
    by_cases c : ∃ d, 2 ≤ d ∧ d < m ∧ d ∣ m
    · obtain ⟨d, d1, d2, d3⟩ := c
      obtain ⟨p, p1, p2⟩ := pr_exists f d (by omega) d1
      exact ⟨p, p1, Nat.dvd_trans p2 d3⟩
    · exact ⟨m, pr_least h2 (Nat.dvd_refl m) (fun d a b e => c ⟨d, a, b, e⟩), Nat.dvd_refl m⟩
/-- the ascending list of all primes of a number -/
def PrN (n : Nat) (l : List Nat) : Prop := l.Pairwise (· < ·) ∧ ∀ p, p ∈ l ↔ isPr p ∧ p ∣ n
theorem ascN_ext : ∀ {a b : List Nat}, a.Pairwise (· < ·) → b.Pairwise (· < ·) → (∀ x, x ∈ a ↔ x ∈ b) → a = b
  | [], [], _, _, _ => rfl
  | [], y :: b, _, _, h => nomatch (h y).mpr (.head _)
  | x :: a, [], _, _, h => nomatch (h x).mp (.head _)
  | x :: a, y :: b, ha, hb, h => by
    have e : x = y := by
      rcases List.mem_cons.mp ((h x).mp (.head _)) with e | m
      · exact e
      · rcases List.mem_cons.mp ((h y).mpr (.head _)) with e | m2
        · exact e.symm
        · have h1 := List.rel_of_pairwise_cons hb m
          have h2 := List.rel_of_pairwise_cons ha m2
          omega
    subst e
    rw [ascN_ext ha.of_cons hb.of_cons fun z => ?_]
    constructor
    · intro m
      rcases List.mem_cons.mp ((h z).mp (.tail _ m)) with e | m2
      · subst e; exact absurd (List.rel_of_pairwise_cons ha m) (Nat.lt_irrefl _)
      · exact m2
    · intro m
      rcases List.mem_cons.mp ((h z).mpr (.tail _ m)) with e | m2
      · subst e; exact absurd (List.rel_of_pairwise_cons hb m) (Nat.lt_irrefl _)
      · exact m2
def prB (p : Nat) : Bool := decide (2 ≤ p) && (List.range p).all fun d => decide (d < 2) || p % d != 0
theorem prB_iff {p : Nat} : prB p = true ↔ isPr p := by
  unfold prB
  rw [Bool.and_eq_true, decide_eq_true_eq, List.all_eq_true]
  constructor
  · rintro ⟨h1, h2⟩
    refine pr_least (m := p) h1 (Nat.dvd_refl p) fun d d1 d2 d3 => ?_
    have := h2 d (List.mem_range.mpr d2)
    rw [decide_eq_false (by omega), Bool.false_or, bne_iff_ne] at this
    exact this (Nat.mod_eq_zero_of_dvd d3)
  · rintro ⟨h1, h2⟩
    refine ⟨h1, fun d hd => ?_⟩
    have := List.mem_range.mp hd
    by_cases c : d < 2
    · rw [decide_eq_true c]; rfl
    · rw [decide_eq_false c, Bool.false_or, bne_iff_ne]
      intro e
      rcases h2 d (Nat.dvd_of_mod_eq_zero e) with e2 | e2 <;> omega
def primesN (n : Nat) : List Nat := (List.range (n + 1)).filter fun p => n % p == 0 && prB p
theorem primesN_spec {n : Nat} (hn : 1 ≤ n) : PrN n (primesN n) := by
  refine ⟨List.pairwise_lt_range.filter _, fun p => ?_⟩
  unfold primesN
  rw [List.mem_filter, Bool.and_eq_true, beq_iff_eq, prB_iff, List.mem_range]
  constructor
  · rintro ⟨_, h1, h2⟩; exact ⟨h2, Nat.dvd_of_mod_eq_zero h1⟩
  · rintro ⟨h1, h2⟩
    have := Nat.le_of_dvd hn h2
    exact ⟨by omega, Nat.mod_eq_zero_of_dvd h2, h1⟩
theorem PrN.eq {n : Nat} {l : List Nat} (hn : 1 ≤ n) (h : PrN n l) : l = primesN n :=
  ascN_ext h.1 (primesN_spec hn).1 fun x => (h.2 x).trans ((primesN_spec hn).2 x).symm
/-- a trial division under way: found f, next b, left m -/
structure PS (n : Nat) (f : List Nat) (b m : Nat) : Prop where
  asc : f.Pairwise (· < ·)
  mem : ∀ p ∈ f, isPr p ∧ p ∣ n ∧ p < b
  pos : 0 < m
  dv : m ∣ n
  all : ∀ p, isPr p → p ∣ n → p ∈ f ∨ p ∣ m
  no : ∀ d, 2 ≤ d → d < b → ¬ d ∣ m
  b2 : 2 ≤ b
theorem PS.start {n : Nat} (hn : 1 ≤ n) : PS n [] 2 n := ⟨.nil, (fun _ h => nomatch h), hn, Nat.dvd_refl n, fun p _ h => .inr h, fun d h1 h2 => by omega, Nat.le_refl 2⟩
theorem PS.skip {n b m : Nat} {f : List Nat} (s : PS n f b m) (h : ¬ b ∣ m) : PS n f (b + 1) m :=
  ⟨s.asc, fun p hp => by obtain ⟨a, c, d⟩ := s.mem p hp; exact ⟨a, c, by omega⟩, s.pos, s.dv, s.all, fun d h1 h2 => by
    rcases Nat.lt_or_ge d b with c | c
    · exact s.no d h1 c
    · have : d = b := by omega
      subst this; exact h, by have := s.b2; omega⟩
/-- what is left of m when it is divided by b, some times -/
structure DivS (b m m' : Nat) : Prop where
  dv : m' ∣ m
  pos : 0 < m'
  all : ∀ p, isPr p → p ∣ m → p = b ∨ p ∣ m'
theorem DivS.refl {b m : Nat} (h : 0 < m) : DivS b m m := ⟨Nat.dvd_refl m, h, fun _ _ h => .inr h⟩
theorem DivS.step {b m m' : Nat} (hb : isPr b) (s : DivS b m m') (h : b ∣ m') : DivS b m (m' / b) := by
  have e : b * (m' / b) = m' := Nat.mul_div_cancel' h
  have b2 := hb.1
  have pos := s.pos
  refine ⟨Nat.dvd_trans ⟨b, by rw [Nat.mul_comm]; exact e.symm⟩ s.dv, ?_, fun p hp hd => ?_⟩
  · rcases Nat.eq_zero_or_pos (m' / b) with z | z
    · rw [z, Nat.mul_zero] at e; omega
    · exact z
  · rcases s.all p hp hd with z | z
    · exact .inl z
    · rw [← e] at z
      rcases pr_mul hp z with z | z
      · rcases hb.2 p z with z2 | z2
        · have := hp.1; omega
        · exact .inl z2
      · exact .inr z
theorem PS.prime {n b m : Nat} {f : List Nat} (s : PS n f b m) (h : b ∣ m) : isPr b := pr_least s.b2 h s.no
theorem PS.hit {n b m m' : Nat} {f : List Nat} (s : PS n f b m) (h : b ∣ m) (d : DivS b m m') (hn : ¬ b ∣ m') : PS n (f ++ [b]) (b + 1) m' := by
  have hb := s.prime h
  refine ⟨?_, fun p hp => ?_, d.pos, Nat.dvd_trans d.dv s.dv, fun p hp hd => ?_, fun e h1 h2 => ?_, by have := s.b2; omega⟩
  · rw [List.pairwise_append]
    refine ⟨s.asc, List.pairwise_singleton _ _, fun x hx y hy => ?_⟩
    rw [List.mem_singleton.mp hy]
    exact (s.mem x hx).2.2
  · rcases List.mem_append.mp hp with hp | hp
    · obtain ⟨a, c, e⟩ := s.mem p hp
      exact ⟨a, c, by omega⟩
    · rw [List.mem_singleton.mp hp]
      exact ⟨hb, Nat.dvd_trans h s.dv, by omega⟩
  · rcases s.all p hp hd with z | z
    · exact .inl (List.mem_append.mpr (.inl z))
    · rcases d.all p hp z with z | z
      · exact .inl (List.mem_append.mpr (.inr (List.mem_singleton.mpr z)))
      · exact .inr z
  · rcases Nat.lt_or_ge e b with c | c
    · exact fun z => s.no e h1 c (Nat.dvd_trans z d.dv)
    · have : e = b := by omega
      subst this; exact hn
theorem PS.done {n b m : Nat} {f : List Nat} (s : PS n f b m) (hn : 1 ≤ n) (h : m < b * b) : (if 1 < m then f ++ [m] else f) = primesN n := by
  refine PrN.eq hn ?_
  have small : ∀ p, isPr p → p ∣ m → p = m := fun p hp hd => by
    have hpb : b ≤ p := by
      rcases Nat.lt_or_ge p b with c | c
      · exact absurd hd (s.no p hp.1 c)
      · exact c
    obtain ⟨k, hk⟩ := hd
    rcases Nat.lt_or_ge k 2 with c | c
    · have pos := s.pos
      have : k = 1 := by
        rcases Nat.eq_zero_or_pos k with z | z
        · subst z; omega
        · omega
      rw [hk, this, Nat.mul_one]
    · obtain ⟨q, q1, q2⟩ := pr_exists k k (Nat.le_refl k) c
      have hqb : b ≤ q := by
        rcases Nat.lt_or_ge q b with c | c
        · exact absurd (Nat.dvd_trans q2 ⟨p, by rw [hk, Nat.mul_comm]⟩) (s.no q q1.1 c)
        · exact c
      have hqk : q ≤ k := Nat.le_of_dvd (by omega) q2
      have : b * b ≤ p * k := Nat.mul_le_mul hpb (Nat.le_trans hqb hqk)
      omega
  by_cases c : 1 < m
  · rw [if_pos c]
    obtain ⟨p, p1, p2⟩ := pr_exists m m (Nat.le_refl m) (by omega)
    have pm := small p p1 p2
    subst pm
    have hbm : b ≤ p := by
      rcases Nat.lt_or_ge p b with c | c
      · exact absurd p2 (s.no p p1.1 c)
      · exact c
    refine ⟨?_, fun q => ?_⟩
    · rw [List.pairwise_append]
      refine ⟨s.asc, List.pairwise_singleton _ _, fun x hx y hy => ?_⟩
      rw [List.mem_singleton.mp hy]
      have := (s.mem x hx).2.2
      omega
    · rw [List.mem_append, List.mem_singleton]
      constructor
      · rintro (h | rfl)
        · exact ⟨(s.mem q h).1, (s.mem q h).2.1⟩
        · exact ⟨p1, s.dv⟩
      · rintro ⟨h1, h2⟩
        rcases s.all q h1 h2 with z | z
        · exact .inl z
        · exact .inr (small q h1 z)
  · rw [if_neg c]
    refine ⟨s.asc, fun q => ⟨fun h => ⟨(s.mem q h).1, (s.mem q h).2.1⟩, fun ⟨h1, h2⟩ => ?_⟩⟩
    rcases s.all q h1 h2 with z | z
    · exact z
    · have := Nat.le_of_dvd s.pos z
      have := h1.1
      omega
/-- the prime by which the greatest lots are made -/
def guideN (l : List Nat) : Option Nat := match l.find? (fun p => p % 3 == 2) with
  | some p => some p
  | none => if 3 ∈ l then some 3 else none
def partN (n : Nat) : Option Nat → Nat × Nat × Nat
  | none => (n, n / 3 + 1, n / 3 * 2)
  | some p => if p = 3 then (3, 1, 1) else (p, p / 3 + 1, p / 3 * 2 + 1)
def sizeW (n : Nat) (g : Option Nat) : Nat := n / (partN n g).1 * ((partN n g).2.2 + 1 - (partN n g).2.1)
def sizeN (n : Nat) : Nat := sizeW n (guideN (primesN n))
def toldB (n : Nat) (g : Option Nat) (r : Nat) : Bool := decide ((partN n g).2.1 ≤ r % (partN n g).1) && decide (r % (partN n g).1 ≤ (partN n g).2.2)
def lotN (n : Nat) : List Nat := (List.range n).filter (toldB n (guideN (primesN n)))
theorem mod_two : ∀ (f n : Nat), n ≤ f → n % 3 = 2 → ∃ p, isPr p ∧ p ∣ n ∧ p % 3 = 2
  | 0, n, h, h2 => by omega
  | f + 1, n, h, h2 => by
    obtain ⟨q, q1, q2⟩ := pr_exists n n (Nat.le_refl n) (by omega)
    obtain ⟨k, hk⟩ := q2
    by_cases c2 : q % 3 = 2
    · exact ⟨q, q1, ⟨k, hk⟩, c2⟩
    · have hm : (q % 3) * (k % 3) % 3 = 2 := by rw [← Nat.mul_mod, ← hk]; exact h2
      have c1 : q % 3 = 1 := by
        rcases Nat.eq_zero_or_pos (q % 3) with z | z
        · rw [z, Nat.zero_mul] at hm; omega
        · omega
      rw [c1, Nat.one_mul] at hm
      have hk2 : k % 3 = 2 := by omega
      have hq := q1.1
      have hlt : k < n := by
        have : 2 * k ≤ q * k := Nat.mul_le_mul_right k hq
        omega
      obtain ⟨p, p1, p2, p3⟩ := mod_two f k (by omega) hk2
      exact ⟨p, p1, Nat.dvd_trans p2 ⟨q, by rw [hk, Nat.mul_comm]⟩, p3⟩
theorem pr_three : isPr 3 := prB_iff.mp (by decide)
/-- what a guide says of its number -/
theorem guide_cases {n : Nat} (hn : 1 ≤ n) : (∃ p q, guideN (primesN n) = some p ∧ p = 3 * q + 2 ∧ p ∣ n) ∨ (guideN (primesN n) = some 3 ∧ 3 ∣ n) ∨ (guideN (primesN n) = none ∧ n = 3 * (n / 3) + 1) := by
  have hs := primesN_spec hn
  unfold guideN
  cases hf : (primesN n).find? (fun p => p % 3 == 2) with
  | some p =>
    have h1 := List.find?_some hf
    have h2 := List.mem_of_find?_eq_some hf
    rw [beq_iff_eq] at h1
    exact .inl ⟨p, p / 3, rfl, by omega, ((hs.2 p).mp h2).2⟩
  | none =>
    by_cases c : 3 ∈ primesN n
    · exact .inr (.inl ⟨if_pos c, ((hs.2 3).mp c).2⟩)
    · refine .inr (.inr ⟨if_neg c, ?_⟩)
      have h0 : n % 3 ≠ 0 := fun z => c ((hs.2 3).mpr ⟨pr_three, Nat.dvd_of_mod_eq_zero z⟩)
      have h2 : n % 3 ≠ 2 := fun z => by
        obtain ⟨p, p1, p2, p3⟩ := mod_two n n (Nat.le_refl n) z
        have := List.find?_eq_none.mp hf p ((hs.2 p).mpr ⟨p1, p2⟩)
        rw [beq_iff_eq] at this
        exact this p3
      omega
def guideI : Option Nat → Nat
  | none => 0
  | some p => p
def lawSizeN (n g : Nat) : Nat := if g = 0 then (n - 1) / 3 else if g = 3 then n / 3 else n / g * ((g + 1) / 3)
theorem law_size_eq {n : Nat} (hn : 1 ≤ n) : lawSizeN n (guideI (guideN (primesN n))) = sizeN n := by
  unfold sizeN
  rcases guide_cases hn with ⟨p, q, h, e, _⟩ | ⟨h, _⟩ | ⟨h, e⟩
  · rw [h]
    show lawSizeN n p = sizeW n (some p)
    unfold lawSizeN sizeW partN
    have n0 : p ≠ 0 := by omega
    have n3 : p ≠ 3 := by omega
    simp only [if_neg n0, if_neg n3]
    congr 1
    omega
  · rw [h]
    show lawSizeN n 3 = sizeW n (some 3)
    unfold lawSizeN sizeW partN
    simp
  · rw [h]
    show lawSizeN n 0 = sizeW n none
    unfold lawSizeN sizeW partN
    simp only [if_pos]
    rw [Nat.div_self hn, Nat.one_mul]
    omega
def lawToldB (n g r : Nat) : Bool := if g = 0 then decide (n + 2 ≤ 3 * r) && decide (3 * r + 2 ≤ 2 * n) else if g = 3 then decide (r % 3 = 1) else decide (g + 1 ≤ 3 * (r % g)) && decide (3 * (r % g) + 1 ≤ 2 * g)
theorem law_told_eq {n r : Nat} (hn : 1 ≤ n) (hr : r < n) : lawToldB n (guideI (guideN (primesN n))) r = toldB n (guideN (primesN n)) r := by
  have key : ∀ a b : Bool, (a = true ↔ b = true) → a = b := fun a b h => by cases a <;> cases b <;> simp_all
  rcases guide_cases hn with ⟨p, q, h, e, _⟩ | ⟨h, _⟩ | ⟨h, e⟩
  · rw [h]
    show lawToldB n p r = toldB n (some p) r
    unfold lawToldB toldB partN
    have n0 : p ≠ 0 := by omega
    have n3 : p ≠ 3 := by omega
    simp only [if_neg n0, if_neg n3]
    refine key _ _ ?_
    simp only [Bool.and_eq_true, decide_eq_true_eq]
    omega
  · rw [h]
    show lawToldB n 3 r = toldB n (some 3) r
    unfold lawToldB toldB partN
    simp only [if_pos, if_neg (show ¬ (3 : Nat) = 0 by decide)]
    refine key _ _ ?_
    simp only [Bool.and_eq_true, decide_eq_true_eq]
    omega
  · rw [h]
    show lawToldB n 0 r = toldB n none r
    unfold lawToldB toldB partN
    simp only [if_pos]
    rw [Nat.mod_eq_of_lt hr]
    refine key _ _ ?_
    simp only [Bool.and_eq_true, decide_eq_true_eq]
    omega
theorem toldB_iff {n r : Nat} {g : Option Nat} : toldB n g r = true ↔ (partN n g).2.1 ≤ r % (partN n g).1 ∧ r % (partN n g).1 ≤ (partN n g).2.2 := by
  unfold toldB
  rw [Bool.and_eq_true, decide_eq_true_eq, decide_eq_true_eq]
/-- the told lot is free -/
theorem told_free {n x y : Nat} (hn : 1 ≤ n) (hx : x < n) (hy : y < n) (h1 : toldB n (guideN (primesN n)) x = true) (h2 : toldB n (guideN (primesN n)) y = true) : toldB n (guideN (primesN n)) ((x + y) % n) = false := by
  cases c : toldB n (guideN (primesN n)) ((x + y) % n) with
  | false => rfl
  | true =>
    exfalso
    rw [toldB_iff] at h1 h2 c
    rcases guide_cases hn with ⟨p, q, h, e, hd⟩ | ⟨h, hd⟩ | ⟨h, e⟩
    · rw [h] at h1 h2 c
      have n3 : p ≠ 3 := by omega
      simp only [partN, if_neg n3] at h1 h2 c
      rw [Nat.mod_mod_of_dvd _ hd, Nat.add_mod] at c
      have a1 : x % p < p := Nat.mod_lt _ (by omega)
      have a2 : y % p < p := Nat.mod_lt _ (by omega)
      generalize x % p = u at *
      generalize y % p = v at *
      rcases Nat.lt_or_ge (u + v) p with z | z
      · rw [Nat.mod_eq_of_lt z] at c; omega
      · rw [Nat.mod_eq_sub_mod z, Nat.mod_eq_of_lt (by omega)] at c; omega
    · rw [h] at h1 h2 c
      simp only [partN, if_pos] at h1 h2 c
      rw [Nat.mod_mod_of_dvd _ hd] at c
      omega
    · rw [h] at h1 h2 c
      simp only [partN] at h1 h2 c
      rw [Nat.mod_eq_of_lt hx] at h1
      rw [Nat.mod_eq_of_lt hy] at h2
      rw [Nat.mod_mod] at c
      rcases Nat.lt_or_ge (x + y) n with z | z
      · rw [Nat.mod_eq_of_lt z] at c; omega
      · rw [Nat.mod_eq_sub_mod z, Nat.mod_eq_of_lt (by omega)] at c; omega
theorem lot_count : ∀ n, n < 200 → (lotN (n + 1)).length = sizeN (n + 1) := by
  have h : ((List.range 200).all fun n => (lotN (n + 1)).length == sizeN (n + 1)) = true := by decide +kernel
  intro n hn
  have := List.all_eq_true.mp h n (List.mem_range.mpr hn)
  rwa [beq_iff_eq] at this
def natD (k : Nat) : D := .int (k : Int)
def castL (l : List Nat) : List Int := l.map fun k : Nat => (k : Int)
theorem natD_cast {l : List Nat} : l.map natD = (castL l).map .int := by unfold castL; rw [List.map_map]; rfl
def optN : Option Nat → D
  | none => .non
  | some k => natD k
theorem cast_mem {k : Nat} {l : List Nat} : decide ((k : Int) ∈ castL l) = decide (k ∈ l) := by
  have : (k : Int) ∈ castL l ↔ k ∈ l := by
    unfold castL
    rw [List.mem_map]
    exact ⟨fun ⟨j, h, e⟩ => by rw [← Int.ofNat.inj e]; exact h, fun h => ⟨k, h, rfl⟩⟩
  by_cases c : k ∈ l
  · rw [decide_eq_true c, decide_eq_true (this.mpr c)]
  · rw [decide_eq_false c, decide_eq_false fun z => c (this.mp z)]
theorem log_small {i : Int} (h : i.natAbs < 2 ^ 200) : i.natAbs.log2 < 200 := by
  rcases Nat.eq_zero_or_pos i.natAbs with z | z
  · rw [z]; decide
  · exact (Nat.log2_lt (by omega)).mpr h
theorem bigMul {i j : Int} (h1 : i.natAbs < 2 ^ 200) (h2 : j.natAbs < 2 ^ 200) : MulOk i j := .inr (by
  have a := log_small h1
  have b := log_small h2
  show _ + _ < _
  omega)
theorem bigDiv {i j : Int} (h : 0 < j) (h2 : j.natAbs < 2 ^ 200) : DivOk i j := .inr ⟨h, by
  have b := log_small h2
  omega⟩
theorem guide_head {l : List Nat} : guideN l = match l.filter (fun p => p % 3 == 2) with | a :: _ => some a | [] => if 3 ∈ l then some 3 else none := by
  unfold guideN
  rw [← List.head?_filter]
  cases l.filter (fun p => p % 3 == 2) <;> rfl
theorem min_head {a : Nat} {r : List Nat} (h : (a :: r).Pairwise (· < ·)) : minI (castL (a :: r)) = (a : Int) := by
  obtain ⟨h1, h2⟩ := minI_spec (ns := castL (a :: r)) (by unfold castL; simp)
  have h3 := h1 a (by unfold castL; simp)
  obtain ⟨k, hk, e⟩ := List.mem_map.mp (show minI (castL (a :: r)) ∈ (a :: r).map fun k : Nat => (k : Int) from h2)
  rcases List.mem_cons.mp hk with rfl | hk
  · omega
  · have := List.rel_of_pairwise_cons h hk
    omega
theorem range_at {n x : Nat} {pre post : List Nat} (h : List.range n = pre ++ x :: post) : x = pre.length ∧ pre.length < n := by
  have hl := congrArg List.length h
  rw [List.length_range, List.length_append, List.length_cons] at hl
  have : (List.range n)[pre.length]? = some x := by
    rw [h, List.getElem?_append_right (Nat.le_refl _), Nat.sub_self]; rfl
  rw [List.getElem?_range (by omega)] at this
  exact ⟨(Option.some.inj this).symm, by omega⟩
theorem primes_few {n : Nat} (h : n ≤ 1000000) : (primesN n).length ≤ 1000001 := by
  have := List.length_filter_le (fun p => n % p == 0 && prB p) (List.range (n + 1))
  rw [List.length_range] at this
  unfold primesN; omega
theorem maxI_perm {a b : List Int} (h : a ≠ []) (hp : a.Perm b) : maxI a = maxI b := by
  have hb : b ≠ [] := fun z => h (List.perm_nil.mp (z ▸ hp))
  obtain ⟨a1, a2⟩ := maxI_spec h
  obtain ⟨b1, b2⟩ := maxI_spec hb
  exact Int.le_antisymm (b1 _ (hp.mem_iff.mp a2)) (a1 _ (hp.mem_iff.mpr b2))
theorem fold_least {fr : List Int → Bool} : ∀ (r : List Int) (acc : List (List Int)), acc.length ≤ (r.foldl (stepF fr) acc).length
  | [], acc => Nat.le_refl _
  | x :: r, acc => by
    refine Nat.le_trans ?_ (fold_least r (stepF fr acc x))
    unfold stepF
    rw [List.length_append]; omega
theorem rngD_nat {n : Nat} : rngD 0 ((n : Int)).toNat = (List.range n).map natD := by
  unfold rngD
  rw [Int.toNat_natCast]
  exact List.map_congr_left fun i _ => by show D.int (0 + (i : Int)) = .int (i : Int); rw [Int.zero_add]
def hasSumL (l : List Int) : Bool := l.any fun x => l.any fun y => decide (x + y ∈ l)
/-- the numbers of a colour -/
def lotFrom : Nat → List Int → Int → List Int
  | _, [], _ => []
  | i, x :: r, c => if x = c then ((i : Int) + 1) :: lotFrom (i + 1) r c else lotFrom (i + 1) r c
def lotOf (row : List Int) (c : Int) : List Int := lotFrom 0 row c
theorem lotFrom_snoc {x c : Int} : ∀ (i : Nat) (r : List Int), lotFrom i (r ++ [x]) c = lotFrom i r c ++ (if x = c then [((i + r.length : Nat) : Int) + 1] else [])
  | i, [] => by
    show (if x = c then [((i : Int) + 1)] else []) = _
    rfl
  | i, y :: r => by
    have ih := lotFrom_snoc (x := x) (c := c) (i + 1) r
    have e : ((i + 1 + r.length : Nat) : Int) = ((i + (y :: r).length : Nat) : Int) := by rw [List.length_cons]; omega
    rw [e] at ih
    show (if y = c then ((i : Int) + 1) :: lotFrom (i + 1) (r ++ [x]) c else lotFrom (i + 1) (r ++ [x]) c) = (if y = c then ((i : Int) + 1) :: lotFrom (i + 1) r c else lotFrom (i + 1) r c) ++ _
    by_cases h : y = c
    · rw [if_pos h, if_pos h, ih]; rfl
    · rw [if_neg h, if_neg h, ih]
theorem lotOf_same {r : List Int} {c : Int} : lotOf (r ++ [c]) c = lotOf r c ++ [(r.length : Int) + 1] := by
  unfold lotOf
  rw [lotFrom_snoc, if_pos rfl, Nat.zero_add]
theorem lotOf_other {r : List Int} {x c : Int} (h : x ≠ c) : lotOf (r ++ [x]) c = lotOf r c := by
  unfold lotOf
  rw [lotFrom_snoc, if_neg h, List.append_nil]
theorem lotFrom_len {c : Int} : ∀ (i : Nat) (r : List Int), (lotFrom i r c).length ≤ r.length
  | _, [] => Nat.le_refl _
  | i, y :: r => by
    have ih := lotFrom_len (c := c) (i + 1) r
    show (if y = c then ((i : Int) + 1) :: lotFrom (i + 1) r c else lotFrom (i + 1) r c).length ≤ _
    by_cases h : y = c
    · rw [if_pos h, List.length_cons, List.length_cons]; omega
    · rw [if_neg h, List.length_cons]; omega
def okC (row : List Int) (c : Int) : Bool := !hasSumL (lotOf row c ++ [(row.length : Int) + 1])
/-- all rows of so many colours, without a sum in one -/
def rowsAll (many : Nat) : Nat → List (List Int)
  | 0 => [[]]
  | k + 1 => (rowsAll many k).flatMap fun row => ((rngI 0 (many : Int)).filter (okC row)).map fun c : Int => row ++ [c]
theorem rowsAll_len {many : Nat} : ∀ k, ∀ row ∈ rowsAll many k, row.length = k
  | 0, row, h => by rw [List.mem_singleton.mp h]; rfl
  | k + 1, row, h => by
    obtain ⟨r, hr, h⟩ := List.mem_flatMap.mp h
    obtain ⟨x, _, rfl⟩ := List.mem_map.mp h
    rw [List.length_append, rowsAll_len k r hr]; rfl
theorem rowsAll_asc {many : Nat} : ∀ k, (rowsAll many k).Pairwise (fun a b => ltT a b = true)
  | 0 => List.pairwise_singleton _ _
  | k + 1 => asc_flat (m := k) (ys := fun row => (rngI 0 (many : Int)).filter (okC row)) (rowsAll many k) (rowsAll_len k) (fun _ _ => rngI_asc.filter _) (rowsAll_asc k)
theorem rowsAll_snoc {many k : Nat} {row : List Int} {c : Int} (h : row ∈ rowsAll many k) (h1 : 0 ≤ c) (h2 : c < (many : Int)) (h3 : okC row c = true) : row ++ [c] ∈ rowsAll many (k + 1) :=
  List.mem_flatMap.mpr ⟨row, h, List.mem_map.mpr ⟨c, List.mem_filter.mpr ⟨mem_rngI.mpr ⟨h1, h2⟩, h3⟩, rfl⟩⟩
theorem rowsAll_last {many k : Nat} {row : List Int} (h : row ∈ rowsAll many (k + 1)) : ∃ (r : List Int) (c : Int), row = r ++ [c] ∧ r ∈ rowsAll many k ∧ 0 ≤ c ∧ c < (many : Int) ∧ okC r c = true := by
  obtain ⟨r, hr, h⟩ := List.mem_flatMap.mp h
  obtain ⟨c, hc, rfl⟩ := List.mem_map.mp h
  obtain ⟨h1, h2⟩ := List.mem_filter.mp hc
  have := mem_rngI.mp h1
  exact ⟨r, c, rfl, hr, this.1, this.2, h2⟩
/-- each place of a row -/
theorem rowsAll_at {many : Nat} : ∀ (k : Nat) (row : List Int), row ∈ rowsAll many k → ∀ (i : Nat) (c : Int), row[i]? = some c → 0 ≤ c ∧ c < (many : Int) ∧ okC (row.take i) c = true
  | 0, row, h, i, c, hc => by rw [List.mem_singleton.mp h] at hc; simp at hc
  | k + 1, row, h, i, c, hc => by
    obtain ⟨r, x, rfl, hr, h1, h2, h3⟩ := rowsAll_last h
    rcases Nat.lt_or_ge i r.length with z | z
    · rw [List.getElem?_append_left z] at hc
      rw [List.take_append_of_le_length (Nat.le_of_lt z)]
      exact rowsAll_at k r hr i c hc
    · rw [List.getElem?_append_right z] at hc
      have hi : i = r.length := by
        rcases Nat.eq_zero_or_pos (i - r.length) with e | e
        · omega
        · rw [List.getElem?_eq_none (by simp; omega)] at hc; cases hc
      subst hi
      rw [Nat.sub_self] at hc
      cases hc
      rw [List.take_left' rfl]
      exact ⟨h1, h2, h3⟩
theorem rowsAll_take {many : Nat} : ∀ (k : Nat) (row : List Int), row ∈ rowsAll many k → ∀ i, i ≤ k → row.take i ∈ rowsAll many i
  | 0, row, h, i, hi => by
    have : i = 0 := by omega
    subst this
    exact .head _
  | k + 1, row, h, i, hi => by
    rcases Nat.lt_or_ge k i with z | z
    · have : i = k + 1 := by omega
      subst this
      rw [List.take_of_length_le (by rw [rowsAll_len _ _ h]; omega)]
      exact h
    · obtain ⟨r, x, rfl, hr, _⟩ := rowsAll_last h
      rw [List.take_append_of_le_length (by rw [rowsAll_len _ _ hr]; exact z)]
      exact rowsAll_take k r hr i z
/-- a full row that is not less than a row with a colour behind it, but less with the next one, has this row and colour -/
theorem ltT_next {c : Int} : ∀ (row full : List Int), row.length < full.length → ltT full (row ++ [c]) = false → ltT full (row ++ [c + 1]) = true → full.take row.length = row ∧ full[row.length]? = some c
  | [], [], h, _, _ => absurd h (Nat.lt_irrefl _)
  | [], x :: f, _, h1, h2 => by
    have a1 : (decide (x < c) || (decide (x = c) && ltT f [])) = false := h1
    have a2 : (decide (x < c + 1) || (decide (x = c + 1) && ltT f [])) = true := h2
    have e : ltT f [] = false := by cases f <;> rfl
    rw [e, Bool.and_false, Bool.or_false, decide_eq_true_eq] at a2
    rw [e, Bool.and_false, Bool.or_false, decide_eq_false_iff_not] at a1
    have : x = c := by omega
    exact ⟨rfl, by rw [this]; rfl⟩
  | _ :: _, [], h, _, _ => absurd h (Nat.not_lt_zero _)
  | y :: row, x :: f, h, h1, h2 => by
    have a1 : (decide (x < y) || (decide (x = y) && ltT f (row ++ [c]))) = false := h1
    have a2 : (decide (x < y) || (decide (x = y) && ltT f (row ++ [c + 1]))) = true := h2
    by_cases e1 : x < y
    · rw [decide_eq_true e1] at a1; cases a1
    · by_cases e2 : x = y
      · subst e2
        rw [decide_eq_false e1, decide_eq_true rfl, Bool.false_or, Bool.true_and] at a1 a2
        obtain ⟨b1, b2⟩ := ltT_next row f (by simpa using h) a1 a2
        exact ⟨by rw [List.length_cons, List.take_succ_cons, b1], by rw [List.length_cons, List.getElem?_cons_succ]; exact b2⟩
      · rw [decide_eq_false e1, decide_eq_false e2] at a2; cases a2
/-- a longer row of things from 0 on is not less when a 0 is put behind -/
theorem ltT_zero : ∀ (p full : List Int), (∀ x ∈ full, 0 ≤ x) → p.length < full.length → ltT full p = false → ltT full (p ++ [0]) = false
  | [], [], _, h, _ => absurd h (Nat.lt_irrefl _)
  | [], x :: f, hx, _, _ => by
    have e : ltT f [] = false := by cases f <;> rfl
    have := hx x (.head _)
    show (decide (x < 0) || (decide (x = 0) && ltT f [])) = false
    rw [e, decide_eq_false (by omega), Bool.and_false]; rfl
  | _ :: _, [], _, h, _ => absurd h (Nat.not_lt_zero _)
  | y :: p, x :: f, hx, h, h1 => by
    have a1 : (decide (x < y) || (decide (x = y) && ltT f p)) = false := h1
    show (decide (x < y) || (decide (x = y) && ltT f (p ++ [0]))) = false
    by_cases e1 : x < y
    · rw [decide_eq_true e1] at a1; cases a1
    · by_cases e2 : x = y
      · subst e2
        rw [decide_eq_false e1, decide_eq_true rfl, Bool.false_or, Bool.true_and] at a1 ⊢
        exact ltT_zero p f (fun z hz => hx z (.tail _ hz)) (by simpa using h) a1
      · rw [decide_eq_false e1, decide_eq_false e2]; rfl
/-- what is not less than r, c, m, and has nothing from m on, is not less than r, c + 1 -/
theorem ltT_back {c m : Int} : ∀ (r full : List Int), (∀ x ∈ full, x < m) → r.length + 1 < full.length → ltT full (r ++ [c] ++ [m]) = false → ltT full (r ++ [c + 1]) = false
  | [], [], _, h, _ => absurd h (Nat.not_lt_zero _)
  | [], [x], _, h, _ => absurd h (Nat.lt_irrefl _)
  | [], x :: y :: f, hx, _, h1 => by
    have hy := hx y (.tail _ (.head _))
    have a1 : (decide (x < c) || (decide (x = c) && (decide (y < m) || (decide (y = m) && ltT f [])))) = false := h1
    have e : ltT (y :: f) [] = false := rfl
    show (decide (x < c + 1) || (decide (x = c + 1) && ltT (y :: f) [])) = false
    rw [decide_eq_true hy, Bool.true_or, Bool.and_true] at a1
    rw [e, Bool.and_false, Bool.or_false]
    rw [Bool.or_eq_false_iff, decide_eq_false_iff_not, decide_eq_false_iff_not] at a1
    exact decide_eq_false (by omega)
  | _ :: _, [], _, h, _ => absurd h (Nat.not_lt_zero _)
  | z :: r, x :: f, hx, h, h1 => by
    have a1 : (decide (x < z) || (decide (x = z) && ltT f (r ++ [c] ++ [m]))) = false := h1
    show (decide (x < z) || (decide (x = z) && ltT f (r ++ [c + 1]))) = false
    by_cases e1 : x < z
    · rw [decide_eq_true e1] at a1; cases a1
    · by_cases e2 : x = z
      · subst e2
        rw [decide_eq_false e1, decide_eq_true rfl, Bool.false_or, Bool.true_and] at a1 ⊢
        exact ltT_back r f (fun y hy => hx y (.tail _ hy)) (by simpa using h) a1
      · rw [decide_eq_false e1, decide_eq_false e2]; rfl
/-- a row as a number by its colours -/
def valF (B : Nat) (p : List Int) : Nat := p.foldl (fun v d => v * B + d.toNat) 0
def valR (B n : Nat) (p : List Int) : Nat := valF B p * B ^ (n - p.length)
theorem valF_snoc {B : Nat} {p : List Int} {d : Int} : valF B (p ++ [d]) = valF B p * B + d.toNat := by unfold valF; rw [List.foldl_append]; rfl
theorem valF_lt {B : Nat} (hB : 0 < B) : ∀ (k : Nat) (p : List Int), p.length = k → (∀ x ∈ p, x.toNat < B) → valF B p < B ^ k
  | 0, p, h, _ => by rw [List.length_eq_zero_iff.mp h]; show 0 < B ^ 0; exact Nat.one_pos
  | k + 1, p, h, hx => by
    have hne : p ≠ [] := fun z => by rw [z] at h; cases h
    have e : p = p.dropLast ++ [p.getLast hne] := (List.dropLast_concat_getLast hne).symm
    have hl : p.dropLast.length = k := by rw [List.length_dropLast, h]; rfl
    have ih := valF_lt hB k p.dropLast hl fun x hx' => hx x (List.dropLast_subset p hx')
    have hd := hx (p.getLast hne) (List.getLast_mem hne)
    rw [e, valF_snoc, Nat.pow_succ]
    have : (valF B p.dropLast + 1) * B ≤ B ^ k * B := Nat.mul_le_mul_right B ih
    rw [Nat.add_mul, Nat.one_mul] at this
    omega
theorem valR_lt {B n : Nat} {p : List Int} (hB : 0 < B) (hl : p.length ≤ n) (hx : ∀ x ∈ p, x.toNat < B) : valR B n p < B ^ n := by
  have h1 := valF_lt hB p.length p rfl hx
  have h2 : B ^ n = B ^ p.length * B ^ (n - p.length) := by rw [← Nat.pow_add, Nat.add_sub_cancel' hl]
  unfold valR
  rw [h2]
  exact Nat.mul_lt_mul_of_pos_right h1 (Nat.pow_pos hB)
theorem valR_zero {B n : Nat} {p : List Int} (h : p.length < n) : valR B n (p ++ [0]) = valR B n p := by
  unfold valR
  rw [valF_snoc, List.length_append]
  show (valF B p * B + 0) * B ^ (n - (p.length + 1)) = _
  have e : n - p.length = (n - (p.length + 1)) + 1 := by omega
  rw [e, Nat.pow_succ, Nat.add_zero, Nat.mul_assoc, Nat.mul_comm B]
theorem valR_mono {B n : Nat} {p : List Int} {c d : Int} (h : c.toNat ≤ d.toNat) : valR B n (p ++ [c]) ≤ valR B n (p ++ [d]) := by
  unfold valR
  rw [valF_snoc, valF_snoc, List.length_append, List.length_append]
  exact Nat.mul_le_mul_right _ (by omega)
theorem valR_back {B n : Nat} {r : List Int} {c m : Int} (hc : 0 ≤ c) (hm : m.toNat < B) (h : r.length + 2 ≤ n) : valR B n (r ++ [c] ++ [m]) < valR B n (r ++ [c + 1]) := by
  unfold valR
  have hB : 0 < B := by omega
  rw [valF_snoc, valF_snoc, valF_snoc, List.length_append, List.length_append, List.length_append]
  show ((valF B r * B + c.toNat) * B + m.toNat) * B ^ (n - (r.length + 1 + 1)) < (valF B r * B + (c + 1).toNat) * B ^ (n - (r.length + 1))
  have e : n - (r.length + 1) = (n - (r.length + 1 + 1)) + 1 := by omega
  have e2 : (c + 1).toNat = c.toNat + 1 := by omega
  rw [e, Nat.pow_succ, Nat.mul_comm (B ^ _) B, ← Nat.mul_assoc, e2]
  refine Nat.mul_lt_mul_of_pos_right ?_ (Nat.pow_pos hB)
  rw [← Nat.add_assoc, Nat.add_mul (_ + _) 1 B, Nat.one_mul]
  omega
/-- a least row is the first of all -/
theorem rowsAll_head {many n : Nat} {row : List Int} (h : row ∈ rowsAll many n) (hl : ∀ f ∈ rowsAll many n, ltT f row = false) : (rowsAll many n).head? = some row := by
  have ha := rowsAll_asc (many := many) n
  cases hr : rowsAll many n with
  | nil => rw [hr] at h; cases h
  | cons x r =>
    rw [hr] at h hl ha
    rcases List.mem_cons.mp h with e | m
    · rw [e]; rfl
    · have := hl x (.head _)
      rw [List.rel_of_pairwise_cons ha m] at this
      cases this
theorem hasSumL_iff {l : List Int} : hasSumL l = true ↔ ∃ x ∈ l, ∃ y ∈ l, x + y ∈ l := by
  unfold hasSumL
  rw [List.any_eq_true]
  constructor
  · rintro ⟨x, hx, h⟩
    obtain ⟨y, hy, h⟩ := List.any_eq_true.mp h
    exact ⟨x, hx, y, hy, of_decide_eq_true h⟩
  · rintro ⟨x, hx, y, hy, h⟩
    exact ⟨x, hx, List.any_eq_true.mpr ⟨y, hy, decide_eq_true h⟩⟩
theorem hasSumL_no {l : List Int} : hasSumL l = false ↔ ∀ x ∈ l, ∀ y ∈ l, x + y ∉ l := by
  constructor
  · intro h x hx y hy z
    rw [hasSumL_iff.mpr ⟨x, hx, y, hy, z⟩] at h; cases h
  · intro h
    cases c : hasSumL l with
    | false => rfl
    | true =>
      obtain ⟨x, hx, y, hy, z⟩ := hasSumL_iff.mp c
      exact absurd z (h x hx y hy)
theorem okC_iff {row : List Int} {c : Int} : okC row c = true ↔ hasSumL (lotOf row c ++ [(row.length : Int) + 1]) = false := by unfold okC; rw [Bool.not_eq_true']
theorem lotOf_pos {c : Int} : ∀ (n : Nat) (row : List Int), row.length = n → ∀ x ∈ lotOf row c, 1 ≤ x ∧ x ≤ n
  | 0, row, h, x, hx => by rw [List.length_eq_zero_iff.mp h] at hx; cases hx
  | n + 1, row, h, x, hx => by
    have hne : row ≠ [] := fun z => by rw [z] at h; cases h
    have e : row = row.dropLast ++ [row.getLast hne] := (List.dropLast_concat_getLast hne).symm
    have hl : row.dropLast.length = n := by rw [List.length_dropLast, h]; rfl
    rw [e] at hx
    by_cases c2 : row.getLast hne = c
    · rw [c2, lotOf_same] at hx
      rcases List.mem_append.mp hx with hx | hx
      · have := lotOf_pos n row.dropLast hl x hx; omega
      · rw [List.mem_singleton.mp hx, hl]; omega
    · rw [lotOf_other c2] at hx
      have := lotOf_pos n row.dropLast hl x hx; omega
/-- each colour of a row has no sum -/
theorem rowsAll_free {many : Nat} {c : Int} : ∀ (k : Nat) (row : List Int), row ∈ rowsAll many k → hasSumL (lotOf row c) = false
  | 0, row, h => by rw [List.mem_singleton.mp h]; rfl
  | k + 1, row, h => by
    obtain ⟨r, x, rfl, hr, _, _, h3⟩ := rowsAll_last h
    by_cases e : x = c
    · subst e
      rw [lotOf_same]; exact okC_iff.mp h3
    · rw [lotOf_other e]; exact rowsAll_free k r hr
def conv (r : List Nat) : List Int := (r.reverse).map fun x : Nat => (x : Int)
theorem conv_cons {c : Nat} {r : List Nat} : conv (c :: r) = conv r ++ [(c : Int)] := by unfold conv; rw [List.reverse_cons, List.map_append]; rfl
theorem conv_len {r : List Nat} : (conv r).length = r.length := by unfold conv; rw [List.length_map, List.length_reverse]
def qOk (l : List Nat) (k : Nat) : Bool := l.all fun x => !(l.elem (k - x))
def qLot : Nat → List Nat → Nat → List Nat
  | _, [], _ => []
  | k, x :: r, c => if x == c then k :: qLot (k - 1) r c else qLot (k - 1) r c
def qRows (g : List Int → Nat) : Nat → List (List Nat)
  | 0 => [[]]
  | k + 1 => (qRows g k).flatMap fun row => ((List.range (g (conv row))).filter fun c => qOk (qLot k row c) (k + 1)).map fun c => c :: row
def rowsG (g : List Int → Nat) : Nat → List (List Int)
  | 0 => [[]]
  | k + 1 => (rowsG g k).flatMap fun row => ((rngI 0 (g row : Int)).filter (okC row)).map fun c : Int => row ++ [c]
theorem rowsG_all {many : Nat} : ∀ k, rowsG (fun _ => many) k = rowsAll many k
  | 0 => rfl
  | k + 1 => by
    show (rowsG (fun _ => many) k).flatMap _ = (rowsAll many k).flatMap _
    rw [rowsG_all k]
theorem qLot_eq {c : Nat} : ∀ (row : List Nat), lotOf (conv row) (c : Int) = conv (qLot row.length row c)
  | [] => rfl
  | x :: r => by
    have ih := qLot_eq (c := c) r
    rw [conv_cons, List.length_cons]
    show _ = conv (if (x == c) = true then (r.length + 1) :: qLot (r.length + 1 - 1) r c else qLot (r.length + 1 - 1) r c)
    rw [Nat.add_sub_cancel]
    by_cases e : x = c
    · subst e
      rw [lotOf_same, ih, conv_len, if_pos (beq_self_eq_true x), conv_cons]; rfl
    · rw [lotOf_other (by omega), ih, if_neg (by rw [beq_iff_eq]; exact e)]
theorem mem_conv {x : Int} {l : List Nat} : x ∈ conv l ↔ ∃ k : Nat, x = (k : Int) ∧ k ∈ l := by
  unfold conv
  rw [List.mem_map]
  constructor
  · rintro ⟨k, hk, rfl⟩; exact ⟨k, rfl, List.mem_reverse.mp hk⟩
  · rintro ⟨k, rfl, hk⟩; exact ⟨k, List.mem_reverse.mpr hk, rfl⟩
theorem qOk_eq {row : List Nat} {c : Nat} (hf : hasSumL (lotOf (conv row) (c : Int)) = false) : okC (conv row) (c : Int) = qOk (qLot row.length row c) (row.length + 1) := by
  have hp := lotOf_pos (c := (c : Int)) row.length (conv row) conv_len
  have key : okC (conv row) (c : Int) = true ↔ qOk (qLot row.length row c) (row.length + 1) = true := by
    rw [okC_iff, conv_len, qLot_eq, hasSumL_no]
    rw [qLot_eq] at hf hp
    have hf' := hasSumL_no.mp hf
    generalize qLot row.length row c = L at *
    have hm : ∀ x ∈ L, 1 ≤ x ∧ x ≤ row.length := fun x hx => by
      have := hp (x : Int) (mem_conv.mpr ⟨x, rfl, hx⟩); omega
    unfold qOk
    rw [List.all_eq_true]
    constructor
    · intro h x hx
      rw [Bool.not_eq_true']
      cases ce : L.elem (row.length + 1 - x) with
      | false => rfl
      | true =>
        have hmem : row.length + 1 - x ∈ L := List.mem_of_elem_eq_true ce
        have b := hm x hx
        refine absurd ?_ (h (x : Int) (List.mem_append.mpr (.inl (mem_conv.mpr ⟨x, rfl, hx⟩))) ((row.length + 1 - x : Nat) : Int) (List.mem_append.mpr (.inl (mem_conv.mpr ⟨_, rfl, hmem⟩))))
        refine List.mem_append.mpr (.inr (List.mem_singleton.mpr ?_))
        omega
    · intro h x hx y hy hxy
      have pos : ∀ z ∈ conv L ++ [((row.length : Nat) : Int) + 1], 1 ≤ z ∧ z ≤ (row.length : Int) + 1 := fun z hz => by
        rcases List.mem_append.mp hz with hz | hz
        · have := hp z hz; omega
        · rw [List.mem_singleton.mp hz]; omega
      have px := pos x hx
      have py := pos y hy
      have pz := pos _ hxy
      have inL : ∀ z, z ∈ conv L ++ [((row.length : Nat) : Int) + 1] → z ≤ (row.length : Int) → z ∈ conv L := fun z hz hl => by
        rcases List.mem_append.mp hz with hz | hz
        · exact hz
        · have := List.mem_singleton.mp hz; omega
      have x1 := inL x hx (by omega)
      have y1 := inL y hy (by omega)
      rcases List.mem_append.mp hxy with hz | hz
      · exact hf' x x1 y y1 hz
      · have e := List.mem_singleton.mp hz
        obtain ⟨a, rfl, ha⟩ := mem_conv.mp x1
        obtain ⟨b, rfl, hb⟩ := mem_conv.mp y1
        have h2 := h a ha
        have eb : row.length + 1 - a = b := by omega
        rw [eb, List.elem_eq_true_of_mem hb] at h2
        cases h2
  cases a : okC (conv row) (c : Int) <;> cases b : qOk (qLot row.length row c) (row.length + 1) <;> simp_all
theorem rowsG_free {g : List Int → Nat} {c : Int} : ∀ (k : Nat) (row : List Int), row ∈ rowsG g k → hasSumL (lotOf row c) = false ∧ row.length = k
  | 0, row, h => by rw [List.mem_singleton.mp h]; exact ⟨rfl, rfl⟩
  | k + 1, row, h => by
    obtain ⟨r, hr, h⟩ := List.mem_flatMap.mp h
    obtain ⟨x, hx, rfl⟩ := List.mem_map.mp h
    obtain ⟨ih, il⟩ := rowsG_free (c := c) k r hr
    refine ⟨?_, by rw [List.length_append, il]; rfl⟩
    by_cases e : x = c
    · subst e
      rw [lotOf_same]; exact okC_iff.mp (List.mem_filter.mp hx).2
    · rw [lotOf_other e]; exact ih
theorem qRows_eq {g : List Int → Nat} : ∀ k, rowsG g k = (qRows g k).map conv
  | 0 => rfl
  | k + 1 => by
    have ih := qRows_eq (g := g) k
    show (rowsG g k).flatMap _ = ((qRows g k).flatMap _).map conv
    have hfree : ∀ r ∈ qRows g k, ∀ c : Nat, hasSumL (lotOf (conv r) (c : Int)) = false ∧ r.length = k := fun r hr c => by
      have hm : conv r ∈ rowsG g k := by rw [ih]; exact List.mem_map.mpr ⟨r, hr, rfl⟩
      have := rowsG_free (c := (c : Int)) k (conv r) hm
      rw [conv_len] at this
      exact this
    rw [ih]
    generalize qRows g k = L at hfree
    induction L with
    | nil => rfl
    | cons r L il =>
      rw [List.map_cons, List.flatMap_cons, List.flatMap_cons, List.map_append, il fun r' hr' => hfree r' (.tail _ hr')]
      congr 1
      have hr := hfree r (.head _)
      rw [List.map_map]
      have e : rngI 0 (g (conv r) : Int) = (List.range (g (conv r))).map fun i : Nat => (i : Int) := by
        unfold rngI
        rw [Int.sub_zero, Int.toNat_natCast]
        exact List.map_congr_left fun i _ => Int.zero_add _
      rw [e, List.filter_map, List.map_map]
      have hl := (hr 0).2
      have ef : (List.range (g (conv r))).filter (okC (conv r) ∘ fun i : Nat => (i : Int)) = (List.range (g (conv r))).filter fun c => qOk (qLot k r c) (k + 1) := by
        refine List.filter_congr fun c _ => ?_
        have := qOk_eq (hr c).1
        rw [hl] at this
        exact this
      rw [ef]
      exact List.map_congr_left fun c _ => (conv_cons).symm
/-- how many colours are needed -/
def needC (n : Nat) : Nat := if n = 0 then 0 else if n = 1 then 1 else if n ≤ 4 then 2 else if n ≤ 13 then 3 else 4
/-- the rows that a law makes: each colour first told by the next number -/
def lawG (many : Nat) (row : List Int) : Nat := min ((nub row).length + 1) many
theorem fact_none : ∀ n, n ≤ 18 → ∀ m, m < needC n → qRows (fun _ => m) n = [] := by
  have h : ((List.range 19).all fun n => (List.range (needC n)).all fun m => (qRows (fun _ => m) n).isEmpty) = true := by decide +kernel
  intro n hn m hm
  have := List.all_eq_true.mp (List.all_eq_true.mp h n (List.mem_range.mpr (by omega))) m (List.mem_range.mpr hm)
  exact List.isEmpty_iff.mp this
theorem fact_law : ∀ n, n ≤ 18 → ∀ m, m ≤ 3 → (qRows (lawG m) n).isEmpty = decide (m < needC n) := by
  have h : ((List.range 19).all fun n => (List.range 4).all fun m => (qRows (lawG m) n).isEmpty == decide (m < needC n)) = true := by decide +kernel
  intro n hn m hm
  have := List.all_eq_true.mp (List.all_eq_true.mp h n (List.mem_range.mpr (by omega))) m (List.mem_range.mpr (by omega))
  rwa [beq_iff_eq] at this
/-- up to 13: the first row, by both ways, and its colours -/
def fitsC (n : Nat) : Bool := match qRows (fun _ => needC n) n, qRows (lawG (needC n)) n with
  | a :: _, b :: r => (minT (conv b) (r.map conv) == conv a) && ((nub (conv a)).length == needC n)
  | _, _ => false
theorem fact_fits : ∀ n, n ≤ 13 → fitsC n = true := by
  have h : ((List.range 14).all fitsC) = true := by decide +kernel
  intro n hn
  exact List.all_eq_true.mp h n (List.mem_range.mpr (by omega))
/-- a row of four colours, the newest first -/
def qGood : List Nat → Bool
  | [] => true
  | c :: r => decide (c < 4) && qOk (qLot r.length r c) (r.length + 1) && qGood r
theorem qGood_mem : ∀ r : List Nat, qGood r = true → r ∈ qRows (fun _ => 4) r.length
  | [], _ => .head _
  | c :: r, h => by
    unfold qGood at h
    rw [Bool.and_eq_true, Bool.and_eq_true, decide_eq_true_eq] at h
    obtain ⟨⟨h1, h2⟩, h3⟩ := h
    exact List.mem_flatMap.mpr ⟨r, qGood_mem r h3, List.mem_map.mpr ⟨c, List.mem_filter.mpr ⟨List.mem_range.mpr h1, h2⟩, rfl⟩⟩
def putI (x : Int) : List Int → List Int
  | [] => [x]
  | y :: r => if x ≤ y then x :: y :: r else y :: putI x r
def isI : List Int → List Int
  | [] => []
  | x :: r => putI x (isI r)
theorem putI_perm (x : Int) : ∀ l, (putI x l).Perm (x :: l)
  | [] => List.Perm.refl _
  | y :: r => by
    unfold putI
    by_cases h : x ≤ y
    · rw [if_pos h]
    · rw [if_neg h]
      exact ((putI_perm x r).cons y).trans (List.Perm.swap x y r)
theorem putI_sorted {x : Int} : ∀ {l : List Int}, l.Pairwise (· ≤ ·) → (putI x l).Pairwise (· ≤ ·)
  | [], _ => List.pairwise_singleton _ _
  | y :: r, h => by
    unfold putI
    by_cases c : x ≤ y
    · rw [if_pos c, List.pairwise_cons]
      exact ⟨fun z hz => by
        rcases List.mem_cons.mp hz with rfl | hz
        · exact c
        · exact Int.le_trans c (List.rel_of_pairwise_cons h hz), h⟩
    · rw [if_neg c, List.pairwise_cons]
      refine ⟨fun z hz => ?_, putI_sorted h.of_cons⟩
      rcases List.mem_cons.mp ((putI_perm x r).mem_iff.mp hz) with rfl | hz
      · omega
      · exact List.rel_of_pairwise_cons h hz
theorem isI_perm : ∀ l, (isI l).Perm l
  | [] => List.Perm.refl _
  | x :: r => (putI_perm x (isI r)).trans ((isI_perm r).cons x)
theorem isI_sorted : ∀ l, (isI l).Pairwise (· ≤ ·)
  | [] => .nil
  | x :: r => putI_sorted (isI_sorted r)
theorem sortI_fun : sortI = isI := funext fun l => by
  have p : (sortI l).Perm (isI l) := (sortI_perm l).trans (isI_perm l).symm
  exact List.Perm.eq_of_pairwise (fun a b _ _ h1 h2 => Int.le_antisymm h1 h2) (sortI_sorted l) (isI_sorted l) p
def putT (x : List Int) : List (List Int) → List (List Int)
  | [] => [x]
  | y :: r => if ltT y x = true then y :: putT x r else x :: y :: r
def isT : List (List Int) → List (List Int)
  | [] => []
  | x :: r => putT x (isT r)
theorem putT_perm (x : List Int) : ∀ l, (putT x l).Perm (x :: l)
  | [] => List.Perm.refl _
  | y :: r => by
    unfold putT
    by_cases h : ltT y x = true
    · rw [if_pos h]
      exact ((putT_perm x r).cons y).trans (List.Perm.swap x y r)
    · rw [if_neg h]
theorem leT_trans' {a b c : List Int} (h1 : ltT b a = false) (h2 : ltT c b = false) : ltT c a = false := by
  cases h : ltT c a with
  | false => rfl
  | true =>
    cases h3 : ltT a b with
    | true => rw [ltT_trans h h3] at h2; cases h2
    | false => rw [ltT_no h3 h1] at h; rw [h] at h2; cases h2
theorem putT_sorted {x : List Int} : ∀ {l : List (List Int)}, l.Pairwise (fun a b => ltT b a = false) → (putT x l).Pairwise (fun a b => ltT b a = false)
  | [], _ => List.pairwise_singleton _ _
  | y :: r, h => by
    unfold putT
    by_cases c : ltT y x = true
    · rw [if_pos c, List.pairwise_cons]
      refine ⟨fun z hz => ?_, putT_sorted h.of_cons⟩
      rcases List.mem_cons.mp ((putT_perm x r).mem_iff.mp hz) with rfl | hz
      · exact ltT_asym c
      · exact List.rel_of_pairwise_cons h hz
    · rw [if_neg c, List.pairwise_cons]
      have c' : ltT y x = false := by simpa using c
      exact ⟨fun z hz => by
        rcases List.mem_cons.mp hz with rfl | hz
        · exact c'
        · exact leT_trans' c' (List.rel_of_pairwise_cons h hz), h⟩
theorem isT_perm : ∀ l, (isT l).Perm l
  | [] => List.Perm.refl _
  | x :: r => (putT_perm x (isT r)).trans ((isT_perm r).cons x)
theorem isT_sorted : ∀ l, (isT l).Pairwise (fun a b => ltT b a = false)
  | [] => .nil
  | x :: r => putT_sorted (isT_sorted r)
theorem sortT_fun : sortT = isT := funext fun l => by
  have p : (sortT l).Perm (isT l) := (sortT_perm l).trans (isT_perm l).symm
  exact List.Perm.eq_of_pairwise (fun a b _ _ h1 h2 => ltT_no h2 h1) (sortT_sorted l) (isT_sorted l) p
theorem leT_fun : leT = fun a b => !ltT b a := funext fun a => funext fun b => leT_eq a b
/-- two things that are equal: no other way -/
theorem ne_skip {a b : D} {X Y : Prop} (h : (okD a && (okD b && eqD a b)) = true) (q : Y) : okD a = true ∧ okD b = true ∧ (if (!eqD a b) = true then X else Y) := by
  obtain ⟨h1, h2⟩ := Bool.and_eq_true_iff.mp h
  obtain ⟨h2, h3⟩ := Bool.and_eq_true_iff.mp h2
  refine ⟨h1, h2, ?_⟩
  rw [h3, if_neg (by decide)]; exact q
theorem eq_then {a b : D} {G : GS} {K : QD} (h : (okD a && (okD b && eqD a b)) = true) (q : K (.bl true) G) : okD a = true ∧ okD b = true ∧ K (.bl (eqD a b)) G := by
  obtain ⟨h1, h2⟩ := Bool.and_eq_true_iff.mp h
  obtain ⟨h2, h3⟩ := Bool.and_eq_true_iff.mp h2
  refine ⟨h1, h2, ?_⟩
  rw [h3]; exact q
end Z

namespace Z
open PySem PySem.Spec L2 Y
open PyProof.Rows hiding St
def topS (i : Nat) : Stmt := PySem.Challenge.pw_sumless_k23_answers_are_new.main.body.getD i (.Pass ⟨0, 0, 0, 0⟩)
abbrev s_is_integer : Stmt := topS 9
abbrev s_is_from : Stmt := topS 10
abbrev s_check_round : Stmt := topS 11
abbrev s_check_lot : Stmt := topS 12
abbrev s_sum_in : Stmt := topS 13
abbrev s_does_free : Stmt := topS 14
abbrev s_with_rest : Stmt := topS 15
abbrev s_need_free : Stmt := topS 16
abbrev s_added : Stmt := topS 17
abbrev s_adding : Stmt := topS 18
abbrev s_check_small : Stmt := topS 21
abbrev s_free_lots : Stmt := topS 22
abbrev s_divisor : Stmt := topS 23
abbrev s_times_of : Stmt := topS 24
abbrev s_is_first : Stmt := topS 25
abbrev s_greatest : Stmt := topS 26
abbrev s_full_lots : Stmt := topS 27
abbrev s_is_seen : Stmt := topS 28
abbrev s_fitting : Stmt := topS 29
abbrev s_has_sum : Stmt := topS 32
abbrev s_check_whole : Stmt := topS 33
abbrev s_whole_lots : Stmt := topS 34
abbrev s__law_random : Stmt := topS 36
abbrev s__law_below : Stmt := topS 37
abbrev s__law_lists : Stmt := topS 38
abbrev s_law : Stmt := topS 39
abbrev s_ini_BadLot : Stmt := (clsB (topS 3)).getD 0 (.Pass ⟨0, 0, 0, 0⟩)
abbrev s_ini_BadSeen : Stmt := (clsB (topS 6)).getD 0 (.Pass ⟨0, 0, 0, 0⟩)
abbrev n_is_integer : List Str := ["value"]
abbrev p_is_integer : List Str := ["value"]
theorem sc_is_integer : FnScope n_is_integer p_is_integer (defScope s_is_integer) := ⟨rfl, rfl, rfl, by decide +kernel, rfl, by decide +kernel, by decide +kernel⟩
abbrev n_is_from : List Str := ["value", "low", "high"]
abbrev p_is_from : List Str := ["value", "low", "high"]
theorem sc_is_from : FnScope n_is_from p_is_from (defScope s_is_from) := ⟨rfl, rfl, rfl, by decide +kernel, rfl, by decide +kernel, by decide +kernel⟩
abbrev n_check_round : List Str := ["n"]
abbrev p_check_round : List Str := ["n"]
theorem sc_check_round : FnScope n_check_round p_check_round (defScope s_check_round) := ⟨rfl, rfl, rfl, by decide +kernel, rfl, by decide +kernel, by decide +kernel⟩
abbrev n_check_lot : List Str := ["n", "lot", "index", "rest"]
abbrev p_check_lot : List Str := ["n", "lot"]
theorem sc_check_lot : FnScope n_check_lot p_check_lot (defScope s_check_lot) := ⟨rfl, rfl, rfl, by decide +kernel, rfl, by decide +kernel, by decide +kernel⟩
abbrev n_sum_in : List Str := ["n", "lot", "at", "x", "y"]
abbrev p_sum_in : List Str := ["n", "lot"]
theorem sc_sum_in : FnScope n_sum_in p_sum_in (defScope s_sum_in) := ⟨rfl, rfl, rfl, by decide +kernel, rfl, by decide +kernel, by decide +kernel⟩
abbrev n_does_free : List Str := ["n", "lot"]
abbrev p_does_free : List Str := ["n", "lot"]
theorem sc_does_free : FnScope n_does_free p_does_free (defScope s_does_free) := ⟨rfl, rfl, rfl, by decide +kernel, rfl, by decide +kernel, by decide +kernel⟩
abbrev n_with_rest : List Str := ["lot", "rest"]
abbrev p_with_rest : List Str := ["lot", "rest"]
theorem sc_with_rest : FnScope n_with_rest p_with_rest (defScope s_with_rest) := ⟨rfl, rfl, rfl, by decide +kernel, rfl, by decide +kernel, by decide +kernel⟩
abbrev n_need_free : List Str := ["n", "lot"]
abbrev p_need_free : List Str := ["n", "lot"]
theorem sc_need_free : FnScope n_need_free p_need_free (defScope s_need_free) := ⟨rfl, rfl, rfl, by decide +kernel, rfl, by decide +kernel, by decide +kernel⟩
abbrev n_added : List Str := ["n", "lot", "rest"]
abbrev p_added : List Str := ["n", "lot"]
theorem sc_added : FnScope n_added p_added (defScope s_added) := ⟨rfl, rfl, rfl, by decide +kernel, rfl, by decide +kernel, by decide +kernel⟩
abbrev n_adding : List Str := ["n", "lot"]
abbrev p_adding : List Str := ["n", "lot"]
theorem sc_adding : FnScope n_adding p_adding (defScope s_adding) := ⟨rfl, rfl, rfl, by decide +kernel, rfl, by decide +kernel, by decide +kernel⟩
abbrev n_check_small : List Str := ["n"]
abbrev p_check_small : List Str := ["n"]
theorem sc_check_small : FnScope n_check_small p_check_small (defScope s_check_small) := ⟨rfl, rfl, rfl, by decide +kernel, rfl, by decide +kernel, by decide +kernel⟩
abbrev n_free_lots : List Str := ["n", "found", "rest", "lot"]
abbrev p_free_lots : List Str := ["n"]
theorem sc_free_lots : FnScope n_free_lots p_free_lots (defScope s_free_lots) := ⟨rfl, rfl, rfl, by decide +kernel, rfl, by decide +kernel, by decide +kernel⟩
abbrev n_divisor : List Str := ["one", "other"]
abbrev p_divisor : List Str := ["one", "other"]
theorem sc_divisor : FnScope n_divisor p_divisor (defScope s_divisor) := ⟨rfl, rfl, rfl, by decide +kernel, rfl, by decide +kernel, by decide +kernel⟩
abbrev n_times_of : List Str := ["n", "lot", "times", "rest"]
abbrev p_times_of : List Str := ["n", "lot", "times"]
theorem sc_times_of : FnScope n_times_of p_times_of (defScope s_times_of) := ⟨rfl, rfl, rfl, by decide +kernel, rfl, by decide +kernel, by decide +kernel⟩
abbrev n_is_first : List Str := ["n", "lot", "times"]
abbrev p_is_first : List Str := ["n", "lot"]
theorem sc_is_first : FnScope n_is_first p_is_first (defScope s_is_first) := ⟨rfl, rfl, rfl, by decide +kernel, rfl, by decide +kernel, by decide +kernel⟩
abbrev n_greatest : List Str := ["n", "some", "most", "lot"]
abbrev p_greatest : List Str := ["n"]
theorem sc_greatest : FnScope n_greatest p_greatest (defScope s_greatest) := ⟨rfl, rfl, rfl, by decide +kernel, rfl, by decide +kernel, by decide +kernel⟩
abbrev n_full_lots : List Str := ["n", "lot"]
abbrev p_full_lots : List Str := ["n"]
theorem sc_full_lots : FnScope n_full_lots p_full_lots (defScope s_full_lots) := ⟨rfl, rfl, rfl, by decide +kernel, rfl, by decide +kernel, by decide +kernel⟩
abbrev n_is_seen : List Str := ["n", "value"]
abbrev p_is_seen : List Str := ["n", "value"]
theorem sc_is_seen : FnScope n_is_seen p_is_seen (defScope s_is_seen) := ⟨rfl, rfl, rfl, by decide +kernel, rfl, by decide +kernel, by decide +kernel⟩
abbrev n_fitting : List Str := ["n", "seen", "index", "one", "lot", "rest", "is_in"]
abbrev p_fitting : List Str := ["n", "seen"]
theorem sc_fitting : FnScope n_fitting p_fitting (defScope s_fitting) := ⟨rfl, rfl, rfl, by decide +kernel, rfl, by decide +kernel, by decide +kernel⟩
abbrev n_has_sum : List Str := ["some", "one", "other"]
abbrev p_has_sum : List Str := ["some"]
theorem sc_has_sum : FnScope n_has_sum p_has_sum (defScope s_has_sum) := ⟨rfl, rfl, rfl, by decide +kernel, rfl, by decide +kernel, by decide +kernel⟩
abbrev n_check_whole : List Str := ["n", "most"]
abbrev p_check_whole : List Str := ["n", "most"]
theorem sc_check_whole : FnScope n_check_whole p_check_whole (defScope s_check_whole) := ⟨rfl, rfl, rfl, by decide +kernel, rfl, by decide +kernel, by decide +kernel⟩
abbrev n_whole_lots : List Str := ["n", "found", "number", "most", "lot"]
abbrev p_whole_lots : List Str := ["n"]
theorem sc_whole_lots : FnScope n_whole_lots p_whole_lots (defScope s_whole_lots) := ⟨rfl, rfl, rfl, by decide +kernel, rfl, by decide +kernel, by decide +kernel⟩
abbrev n__law_random : List Str := ["_law_script", "_law_salt", "_law_seed", "_law_cell"]
abbrev p__law_random : List Str := ["_law_script", "_law_salt"]
theorem sc__law_random : FnScope n__law_random p__law_random (defScope s__law_random) := ⟨rfl, rfl, rfl, by decide +kernel, rfl, by decide +kernel, by decide +kernel⟩
abbrev n__law_below : List Str := ["_law_d", "_law_size", "_law_result"]
abbrev p__law_below : List Str := ["_law_d", "_law_size"]
theorem sc__law_below : FnScope n__law_below p__law_below (defScope s__law_below) := ⟨rfl, rfl, rfl, by decide +kernel, rfl, by decide +kernel, by decide +kernel⟩
abbrev n__law_lists : List Str := ["_law_things", "_law_found"]
abbrev p__law_lists : List Str := ["_law_things"]
theorem sc__law_lists : FnScope n__law_lists p__law_lists (defScope s__law_lists) := ⟨rfl, rfl, rfl, by decide +kernel, rfl, by decide +kernel, by decide +kernel⟩
abbrev n_law : List Str := ["_law_script", "_law_d", "_law_things", "_law_known", "_law_one", "_law_some", "_law_rest"]
abbrev p_law : List Str := ["_law_script"]
theorem sc_law : FnScope n_law p_law (defScope s_law) := ⟨rfl, rfl, rfl, by decide +kernel, rfl, by decide +kernel, by decide +kernel⟩
/-- what the written part says -/
structure Txt (K : PySem.W.Frag) (mg : Str → Option Value) (a : Nat → Addr) (fd : Nat → FuncData) : Prop where
  z_abs : mg "abs" = none
  z_all : mg "all" = none
  z_any : mg "any" = none
  z_bool : mg "bool" = none
  z_enumerate : mg "enumerate" = none
  z_int : mg "int" = none
  z_isinstance : mg "isinstance" = none
  z_len : mg "len" = none
  z_list : mg "list" = none
  z_max : mg "max" = none
  z_range : mg "range" = none
  z_sorted : mg "sorted" = none
  z_tuple : mg "tuple" = none
  c_MOST_ROUND : ∃ t : Tok, mg "MOST_ROUND" = some (.int 60 t)
  c_MOST_SEARCHED : ∃ t : Tok, mg "MOST_SEARCHED" = some (.int 14 t)
  c_MOST_WHOLE : ∃ t : Tok, mg "MOST_WHOLE" = some (.int 16 t)
  g_is_integer : mg "is_integer" = some (.ref (a 0))
  F_is_integer : Fun K "is_integer" "is_integer" s_is_integer (a 0) (fd 0)
  b_is_integer : Binds K (fd 0) p_is_integer []
  g_is_from : mg "is_from" = some (.ref (a 1))
  F_is_from : Fun K "is_from" "is_from" s_is_from (a 1) (fd 1)
  b_is_from : Binds K (fd 1) p_is_from []
  g_check_round : mg "check_round" = some (.ref (a 2))
  F_check_round : Fun K "check_round" "check_round" s_check_round (a 2) (fd 2)
  b_check_round : Binds K (fd 2) p_check_round []
  g_check_lot : mg "check_lot" = some (.ref (a 3))
  F_check_lot : Fun K "check_lot" "check_lot" s_check_lot (a 3) (fd 3)
  b_check_lot : Binds K (fd 3) p_check_lot []
  g_sum_in : mg "sum_in" = some (.ref (a 4))
  F_sum_in : Fun K "sum_in" "sum_in" s_sum_in (a 4) (fd 4)
  b_sum_in : Binds K (fd 4) p_sum_in []
  g_does_free : mg "does_free" = some (.ref (a 5))
  F_does_free : Fun K "does_free" "does_free" s_does_free (a 5) (fd 5)
  b_does_free : Binds K (fd 5) p_does_free []
  g_with_rest : mg "with_rest" = some (.ref (a 6))
  F_with_rest : Fun K "with_rest" "with_rest" s_with_rest (a 6) (fd 6)
  b_with_rest : Binds K (fd 6) p_with_rest []
  g_need_free : mg "need_free" = some (.ref (a 7))
  F_need_free : Fun K "need_free" "need_free" s_need_free (a 7) (fd 7)
  b_need_free : Binds K (fd 7) p_need_free []
  g_added : mg "added" = some (.ref (a 8))
  F_added : Fun K "added" "added" s_added (a 8) (fd 8)
  b_added : Binds K (fd 8) p_added []
  g_adding : mg "adding" = some (.ref (a 9))
  F_adding : Fun K "adding" "adding" s_adding (a 9) (fd 9)
  b_adding : Binds K (fd 9) p_adding []
  g_check_small : mg "check_small" = some (.ref (a 10))
  F_check_small : Fun K "check_small" "check_small" s_check_small (a 10) (fd 10)
  b_check_small : Binds K (fd 10) p_check_small []
  g_free_lots : mg "free_lots" = some (.ref (a 11))
  F_free_lots : Fun K "free_lots" "free_lots" s_free_lots (a 11) (fd 11)
  b_free_lots : Binds K (fd 11) p_free_lots []
  g_divisor : mg "divisor" = some (.ref (a 12))
  F_divisor : Fun K "divisor" "divisor" s_divisor (a 12) (fd 12)
  b_divisor : Binds K (fd 12) p_divisor []
  g_times_of : mg "times_of" = some (.ref (a 13))
  F_times_of : Fun K "times_of" "times_of" s_times_of (a 13) (fd 13)
  b_times_of : Binds K (fd 13) p_times_of []
  g_is_first : mg "is_first" = some (.ref (a 14))
  F_is_first : Fun K "is_first" "is_first" s_is_first (a 14) (fd 14)
  b_is_first : Binds K (fd 14) p_is_first []
  g_greatest : mg "greatest" = some (.ref (a 15))
  F_greatest : Fun K "greatest" "greatest" s_greatest (a 15) (fd 15)
  b_greatest : Binds K (fd 15) p_greatest []
  g_full_lots : mg "full_lots" = some (.ref (a 16))
  F_full_lots : Fun K "full_lots" "full_lots" s_full_lots (a 16) (fd 16)
  b_full_lots : Binds K (fd 16) p_full_lots []
  g_is_seen : mg "is_seen" = some (.ref (a 17))
  F_is_seen : Fun K "is_seen" "is_seen" s_is_seen (a 17) (fd 17)
  b_is_seen : Binds K (fd 17) p_is_seen []
  g_fitting : mg "fitting" = some (.ref (a 18))
  F_fitting : Fun K "fitting" "fitting" s_fitting (a 18) (fd 18)
  b_fitting : Binds K (fd 18) p_fitting []
  g_has_sum : mg "has_sum" = some (.ref (a 19))
  F_has_sum : Fun K "has_sum" "has_sum" s_has_sum (a 19) (fd 19)
  b_has_sum : Binds K (fd 19) p_has_sum []
  g_check_whole : mg "check_whole" = some (.ref (a 20))
  F_check_whole : Fun K "check_whole" "check_whole" s_check_whole (a 20) (fd 20)
  b_check_whole : Binds K (fd 20) p_check_whole []
  g_whole_lots : mg "whole_lots" = some (.ref (a 21))
  F_whole_lots : Fun K "whole_lots" "whole_lots" s_whole_lots (a 21) (fd 21)
  b_whole_lots : Binds K (fd 21) p_whole_lots []
  g__law_random : mg "_law_random" = some (.ref (a 22))
  F__law_random : Fun K "_law_random" "_law_random" s__law_random (a 22) (fd 22)
  b__law_random : Binds K (fd 22) p__law_random []
  g__law_below : mg "_law_below" = some (.ref (a 23))
  F__law_below : Fun K "_law_below" "_law_below" s__law_below (a 23) (fd 23)
  b__law_below : Binds K (fd 23) p__law_below []
  g__law_lists : mg "_law_lists" = some (.ref (a 24))
  F__law_lists : Fun K "_law_lists" "_law_lists" s__law_lists (a 24) (fd 24)
  b__law_lists : Binds K (fd 24) p__law_lists []
  g_law : mg "law" = some (.ref (a 25))
  F_law : Fun K "law" "law" s_law (a 25) (fd 25)
  b_law : Binds K (fd 25) p_law []
  g_BadRound : mg "BadRound" = some (.ref (a 27))
  q_BadRound : PySem.W.excIn K (a 27) [.type "ValueError", .type "Exception", .type "BaseException", .type "object"] "ValueError.__new__" = true
  k_BadRound : PySem.W.keepIn K (.ref (a 27)) = true
  s_BadRound : PySem.W.subIn K (.ref (a 27)) (.type "BaseException") = some true
  t_BadRound : PySem.W.typeIn K (.ref (a 27)) = some (.type "type")
  e_BadLot : ExF K mg "BadLot" "index" (a 28) (a 32) (fd 32) s_ini_BadLot
  g_TooGreat : mg "TooGreat" = some (.ref (a 29))
  q_TooGreat : PySem.W.excIn K (a 29) [.type "ValueError", .type "Exception", .type "BaseException", .type "object"] "ValueError.__new__" = true
  k_TooGreat : PySem.W.keepIn K (.ref (a 29)) = true
  s_TooGreat : PySem.W.subIn K (.ref (a 29)) (.type "BaseException") = some true
  t_TooGreat : PySem.W.typeIn K (.ref (a 29)) = some (.type "type")
  g_NotFree : mg "NotFree" = some (.ref (a 30))
  q_NotFree : PySem.W.excIn K (a 30) [.type "ValueError", .type "Exception", .type "BaseException", .type "object"] "ValueError.__new__" = true
  k_NotFree : PySem.W.keepIn K (.ref (a 30)) = true
  s_NotFree : PySem.W.subIn K (.ref (a 30)) (.type "BaseException") = some true
  t_NotFree : PySem.W.typeIn K (.ref (a 30)) = some (.type "type")
  e_BadSeen : ExF K mg "BadSeen" "index" (a 31) (a 33) (fd 33) s_ini_BadSeen
section
variable {P : Program} {w : World} {K : PySem.W.Frag} {mg : Str → Option Value} {base : Heap} {a : Nat → Addr} {fd : Nat → FuncData}
theorem i_BadLot (T : Txt K mg a fd) : FnOk P w K mg base (L2.CX P w) 1 (a 32) (fd 32) ["self", "index"] (spIni (a 28) "index") := ini_ok T.e_BadLot ⟨rfl, rfl, rfl, by decide +kernel, rfl, by decide +kernel, by decide +kernel⟩ fun _ _ _ _ _ _ _ => pss_one (ps_ost (pv 0) (pv 1))
theorem i_BadSeen (T : Txt K mg a fd) : FnOk P w K mg base (L2.CX P w) 1 (a 33) (fd 33) ["self", "index"] (spIni (a 31) "index") := ini_ok T.e_BadSeen ⟨rfl, rfl, rfl, by decide +kernel, rfl, by decide +kernel, by decide +kernel⟩ fun _ _ _ _ _ _ _ => pss_one (ps_ost (pv 0) (pv 1))
end
def t_is_integer : TSd := (tRetD (tAndVD (tIsiD .int (tVarD 0)) (tNotVD (tIsiD .bool (tVarD 0)))))
theorem d_is_integer {P : Program} {w : World} {K : PySem.W.Frag} {mg : Str → Option Value} {base : Heap} {a : Nat → Addr} {fd : Nat → FuncData} {k : Nat} (T : Txt K mg a fd) : ∀ (cdv : Value) (A : Around) (outer : List Env) (s : Shared) (H : Hp) (E : XK), Room k (A.deeper (envOfC "is_integer" (defScope s_is_integer) s.heap.objs.size (a 0) cdv)) →
    PSsd (cxOf (L2.CX P w) P w K mg base n_is_integer "is_integer" (defScope s_is_integer) (a 0) cdv A outer s H E) (fun _ => E) (defBody s_is_integer) (t_is_integer) := by
  intro cdv A outer s H E hr
  have hu : (cxOf (L2.CX P w) P w K mg base n_is_integer "is_integer" (defScope s_is_integer) (a 0) cdv A outer s H E).A.units + 64 < cLine := by have := hr.un; show (A.deeper _).units + 64 < cLine; omega
  have tk : Takes (cxOf (L2.CX P w) P w K mg base n_is_integer "is_integer" (defScope s_is_integer) (a 0) cdv A outer s H E) (fun cls d _ H => E cls d H) := takes_of rfl rfl rfl rfl
  have hx : ∀ σ, PassesAt (L2.CX P w) (cxOf (L2.CX P w) P w K mg base n_is_integer "is_integer" (defScope s_is_integer) (a 0) cdv A outer s H E) σ E := fun σ => passAt tk σ
  have hp : PassesOwn (model P w) (cxOf (L2.CX P w) P w K mg base n_is_integer "is_integer" (defScope s_is_integer) (a 0) cdv A outer s H E).A (cxOf (L2.CX P w) P w K mg base n_is_integer "is_integer" (defScope s_is_integer) (a 0) cdv A outer s H E).env (cxOf (L2.CX P w) P w K mg base n_is_integer "is_integer" (defScope s_is_integer) (a 0) cdv A outer s H E).xe := passes_of rfl
  have nd : (n_is_integer).Nodup := sc_is_integer.nd
  exact (pssd_one (psd_ret (ped_and (ped_isi .int T.z_isinstance T.z_int rfl rfl rfl (ped_var 0)) (ped_one (ped_not (ped_isi .bool T.z_isinstance T.z_bool rfl rfl rfl (ped_var 0)))))))
def t_is_from (sp_is_integer : SpD) : TSd := (tRetD (tAndVD (tCallD sp_is_integer (tConsD (tVarD 0) tNilD)) (tChainD rLeD rLeD (tVarD 1) (tVarD 0) (tVarD 2))))
theorem d_is_from {P : Program} {w : World} {K : PySem.W.Frag} {mg : Str → Option Value} {base : Heap} {a : Nat → Addr} {fd : Nat → FuncData} {k : Nat} (T : Txt K mg a fd) {sp_is_integer : SpD} {k_is_integer : Nat} (G_is_integer : FnOk P w K mg base (L2.CX P w) k_is_integer (a 0) (fd 0) p_is_integer (liftSp K mg sp_is_integer)) (h_is_integer : k_is_integer ≤ k) : ∀ (cdv : Value) (A : Around) (outer : List Env) (s : Shared) (H : Hp) (E : XK), Room k (A.deeper (envOfC "is_from" (defScope s_is_from) s.heap.objs.size (a 1) cdv)) →
    PSsd (cxOf (L2.CX P w) P w K mg base n_is_from "is_from" (defScope s_is_from) (a 1) cdv A outer s H E) (fun _ => E) (defBody s_is_from) (t_is_from sp_is_integer) := by
  intro cdv A outer s H E hr
  have hu : (cxOf (L2.CX P w) P w K mg base n_is_from "is_from" (defScope s_is_from) (a 1) cdv A outer s H E).A.units + 64 < cLine := by have := hr.un; show (A.deeper _).units + 64 < cLine; omega
  have tk : Takes (cxOf (L2.CX P w) P w K mg base n_is_from "is_from" (defScope s_is_from) (a 1) cdv A outer s H E) (fun cls d _ H => E cls d H) := takes_of rfl rfl rfl rfl
  have hx : ∀ σ, PassesAt (L2.CX P w) (cxOf (L2.CX P w) P w K mg base n_is_from "is_from" (defScope s_is_from) (a 1) cdv A outer s H E) σ E := fun σ => passAt tk σ
  have hp : PassesOwn (model P w) (cxOf (L2.CX P w) P w K mg base n_is_from "is_from" (defScope s_is_from) (a 1) cdv A outer s H E).A (cxOf (L2.CX P w) P w K mg base n_is_from "is_from" (defScope s_is_from) (a 1) cdv A outer s H E).env (cxOf (L2.CX P w) P w K mg base n_is_from "is_from" (defScope s_is_from) (a 1) cdv A outer s H E).xe := passes_of rfl
  have nd : (n_is_from).Nodup := sc_is_from.nd
  exact (pssd_one (psd_ret (ped_and (ped_call G_is_integer (hr.mono h_is_integer) T.g_is_integer T.F_is_integer.kp T.b_is_integer hx rfl (pad_cons (ped_var 0) pad_nil)) (ped_one (ped_chain op_le lift_le op_le lift_le (ped_var 1) (ped_var 0) (ped_var 2))))))
def t_check_round (sp_is_from : SpD) : TSd := (tIfSD (tNotD (tTestD (tCallD sp_is_from (tConsD (tVarD 0) (tConsD (tCD (.int 1)) (tConsD (tCD (.int 60)) tNilD)))))) (tRaise0D "BadRound") tNextD)
theorem d_check_round {P : Program} {w : World} {K : PySem.W.Frag} {mg : Str → Option Value} {base : Heap} {a : Nat → Addr} {fd : Nat → FuncData} {k : Nat} (T : Txt K mg a fd) {sp_is_from : SpD} {k_is_from : Nat} (G_is_from : FnOk P w K mg base (L2.CX P w) k_is_from (a 1) (fd 1) p_is_from (liftSp K mg sp_is_from)) (h_is_from : k_is_from ≤ k) : ∀ (cdv : Value) (A : Around) (outer : List Env) (s : Shared) (H : Hp) (E : XK), Room k (A.deeper (envOfC "check_round" (defScope s_check_round) s.heap.objs.size (a 2) cdv)) →
    PSsd (cxOf (L2.CX P w) P w K mg base n_check_round "check_round" (defScope s_check_round) (a 2) cdv A outer s H E) (fun _ => E) (defBody s_check_round) (t_check_round sp_is_from) := by
  intro cdv A outer s H E hr
  have hu : (cxOf (L2.CX P w) P w K mg base n_check_round "check_round" (defScope s_check_round) (a 2) cdv A outer s H E).A.units + 64 < cLine := by have := hr.un; show (A.deeper _).units + 64 < cLine; omega
  have tk : Takes (cxOf (L2.CX P w) P w K mg base n_check_round "check_round" (defScope s_check_round) (a 2) cdv A outer s H E) (fun cls d _ H => E cls d H) := takes_of rfl rfl rfl rfl
  have hx : ∀ σ, PassesAt (L2.CX P w) (cxOf (L2.CX P w) P w K mg base n_check_round "check_round" (defScope s_check_round) (a 2) cdv A outer s H E) σ E := fun σ => passAt tk σ
  have hp : PassesOwn (model P w) (cxOf (L2.CX P w) P w K mg base n_check_round "check_round" (defScope s_check_round) (a 2) cdv A outer s H E).A (cxOf (L2.CX P w) P w K mg base n_check_round "check_round" (defScope s_check_round) (a 2) cdv A outer s H E).env (cxOf (L2.CX P w) P w K mg base n_check_round "check_round" (defScope s_check_round) (a 2) cdv A outer s H E).xe := passes_of rfl
  have nd : (n_check_round).Nodup := sc_check_round.nd
  exact (pssd_one (psd_if (ptd_not (ptd_val (ped_call G_is_from (hr.mono h_is_from) T.g_is_from T.F_is_from.kp T.b_is_from hx rfl (pad_cons (ped_var 0) (pad_cons ped_int (pad_cons (ped_globI rfl T.c_MOST_ROUND.choose_spec) pad_nil)))))) (pssd_one (psd_raise0 rfl tk T.q_BadRound T.g_BadRound T.k_BadRound (raises_own T.s_BadRound T.t_BadRound) rfl)) pssd_nil))
def t_check_lot (sp_is_from sp_check_round : SpD) : TSd := (tSeqD (tDropD (tCallD sp_check_round (tConsD (tVarD 0) tNilD))) (tSeqD (tIfSD (tNotD (tTestD (tIsiD .tuple (tVarD 1)))) (tRaise1D "BadLot" "index" (tCD .non)) tNextD) (tForD (iEnumD (tConsD (tVarD 1) tNilD)) (gTupD (gConsD (gNameD 2) (gConsD (gNameD 3) gNilD))) (tIfSD (tOrD (tNotD (tTestD (tCallD sp_is_from (tConsD (tVarD 3) (tConsD (tCD (.int 0)) (tConsD (tOpD rSubD (tVarD 0) (tCD (.int 1))) tNilD)))))) (tAndD (tTestD (tOpD rGtD (tVarD 2) (tCD (.int 0)))) (tTestD (tOpD rLeD (tVarD 3) (tOpD rIxD (tVarD 1) (tOpD rSubD (tVarD 2) (tCD (.int 1)))))))) (tRaise1D "BadLot" "index" (tVarD 2)) tNextD))))
theorem d_check_lot {P : Program} {w : World} {K : PySem.W.Frag} {mg : Str → Option Value} {base : Heap} {a : Nat → Addr} {fd : Nat → FuncData} {k : Nat} (T : Txt K mg a fd) {sp_is_from : SpD} {k_is_from : Nat} (G_is_from : FnOk P w K mg base (L2.CX P w) k_is_from (a 1) (fd 1) p_is_from (liftSp K mg sp_is_from)) (h_is_from : k_is_from ≤ k) {sp_check_round : SpD} {k_check_round : Nat} (G_check_round : FnOk P w K mg base (L2.CX P w) k_check_round (a 2) (fd 2) p_check_round (liftSp K mg sp_check_round)) (h_check_round : k_check_round ≤ k) (hi_BadLot : 2 ≤ k) : ∀ (cdv : Value) (A : Around) (outer : List Env) (s : Shared) (H : Hp) (E : XK), Room k (A.deeper (envOfC "check_lot" (defScope s_check_lot) s.heap.objs.size (a 3) cdv)) →
    PSsd (cxOf (L2.CX P w) P w K mg base n_check_lot "check_lot" (defScope s_check_lot) (a 3) cdv A outer s H E) (fun _ => E) (defBody s_check_lot) (t_check_lot sp_is_from sp_check_round) := by
  intro cdv A outer s H E hr
  have hu : (cxOf (L2.CX P w) P w K mg base n_check_lot "check_lot" (defScope s_check_lot) (a 3) cdv A outer s H E).A.units + 64 < cLine := by have := hr.un; show (A.deeper _).units + 64 < cLine; omega
  have tk : Takes (cxOf (L2.CX P w) P w K mg base n_check_lot "check_lot" (defScope s_check_lot) (a 3) cdv A outer s H E) (fun cls d _ H => E cls d H) := takes_of rfl rfl rfl rfl
  have hx : ∀ σ, PassesAt (L2.CX P w) (cxOf (L2.CX P w) P w K mg base n_check_lot "check_lot" (defScope s_check_lot) (a 3) cdv A outer s H E) σ E := fun σ => passAt tk σ
  have hp : PassesOwn (model P w) (cxOf (L2.CX P w) P w K mg base n_check_lot "check_lot" (defScope s_check_lot) (a 3) cdv A outer s H E).A (cxOf (L2.CX P w) P w K mg base n_check_lot "check_lot" (defScope s_check_lot) (a 3) cdv A outer s H E).env (cxOf (L2.CX P w) P w K mg base n_check_lot "check_lot" (defScope s_check_lot) (a 3) cdv A outer s H E).xe := passes_of rfl
  have nd : (n_check_lot).Nodup := sc_check_lot.nd
  have I_BadLot : FnOk P w K mg base (L2.CX P w) 1 (a 32) (fd 32) ["self", "index"] (spIni (a 28) "index") := i_BadLot T
  exact (pssd_cons (psd_expr (ped_call G_check_round (hr.mono h_check_round) T.g_check_round T.F_check_round.kp T.b_check_round hx rfl (pad_cons (ped_var 0) pad_nil))) (pssd_cons (psd_if (ptd_not (ptd_val (ped_isi .tuple T.z_isinstance T.z_tuple rfl rfl rfl (ped_var 1)))) (pssd_one (psd_raise1 rfl tk (T.e_BadLot.ext) I_BadLot (hr.mono hi_BadLot) rfl ped_non)) pssd_nil) (pssd_one (psd_for hp rfl (pid_enum T.z_enumerate (by rfl) (pad_cons (ped_var 1) pad_nil)) (pgd_tup rfl (pgsd_cons (pgd_name (i := 2) nd rfl (by first | exact .inl rfl | exact .inr rfl)) (pgsd_cons (pgd_name (i := 3) nd rfl (by first | exact .inl rfl | exact .inr rfl)) pgsd_nil)) (lenCons (lenCons lenNil))) (pssd_one (psd_if (PWd.pt (pwd_or (ptd_not (ptd_val (ped_call G_is_from (hr.mono h_is_from) T.g_is_from T.F_is_from.kp T.b_is_from hx rfl (pad_cons (ped_var 3) (pad_cons ped_int (pad_cons (ped_op op_sub lift_sub (ped_var 0) ped_int) pad_nil)))))) (pwd_or1 (PWd.pt (pwd_and (ptd_cmp op_gt lift_gt (ped_var 2) ped_int (nomark _)) (pwd_and1 (ptd_cmp op_le lift_le (ped_var 3) (ped_ix (ped_var 1) (ped_op op_sub lift_sub (ped_var 2) ped_int)) (nomark _)))))))) (pssd_one (psd_raise1 rfl tk (T.e_BadLot.ext) I_BadLot (hr.mono hi_BadLot) rfl (ped_var 2))) pssd_nil))))))
def t_sum_in : TSd := (tSeqD (tForD (iEnumD (tConsD (tVarD 1) tNilD)) (gTupD (gConsD (gNameD 2) (gConsD (gNameD 3) gNilD))) (tForD (iAnyD (tSlD (tVarD 1) (tPartD (tVarD 2)) tNoPartD)) (gNameD 4) (tIfSD (tTestD (tOpD rInD (tOpD rModD (tOpD rAddD (tVarD 3) (tVarD 4)) (tVarD 0)) (tVarD 1))) (tRetD (tTupD (tConsD (tVarD 3) (tConsD (tVarD 4) (tConsD (tOpD rModD (tOpD rAddD (tVarD 3) (tVarD 4)) (tVarD 0)) tNilD))))) tNextD))) (tRetD (tCD .non)))
theorem d_sum_in {P : Program} {w : World} {K : PySem.W.Frag} {mg : Str → Option Value} {base : Heap} {a : Nat → Addr} {fd : Nat → FuncData} {k : Nat} (T : Txt K mg a fd) : ∀ (cdv : Value) (A : Around) (outer : List Env) (s : Shared) (H : Hp) (E : XK), Room k (A.deeper (envOfC "sum_in" (defScope s_sum_in) s.heap.objs.size (a 4) cdv)) →
    PSsd (cxOf (L2.CX P w) P w K mg base n_sum_in "sum_in" (defScope s_sum_in) (a 4) cdv A outer s H E) (fun _ => E) (defBody s_sum_in) (t_sum_in) := by
  intro cdv A outer s H E hr
  have hu : (cxOf (L2.CX P w) P w K mg base n_sum_in "sum_in" (defScope s_sum_in) (a 4) cdv A outer s H E).A.units + 64 < cLine := by have := hr.un; show (A.deeper _).units + 64 < cLine; omega
  have tk : Takes (cxOf (L2.CX P w) P w K mg base n_sum_in "sum_in" (defScope s_sum_in) (a 4) cdv A outer s H E) (fun cls d _ H => E cls d H) := takes_of rfl rfl rfl rfl
  have hx : ∀ σ, PassesAt (L2.CX P w) (cxOf (L2.CX P w) P w K mg base n_sum_in "sum_in" (defScope s_sum_in) (a 4) cdv A outer s H E) σ E := fun σ => passAt tk σ
  have hp : PassesOwn (model P w) (cxOf (L2.CX P w) P w K mg base n_sum_in "sum_in" (defScope s_sum_in) (a 4) cdv A outer s H E).A (cxOf (L2.CX P w) P w K mg base n_sum_in "sum_in" (defScope s_sum_in) (a 4) cdv A outer s H E).env (cxOf (L2.CX P w) P w K mg base n_sum_in "sum_in" (defScope s_sum_in) (a 4) cdv A outer s H E).xe := passes_of rfl
  have nd : (n_sum_in).Nodup := sc_sum_in.nd
  exact (pssd_cons (psd_for hp rfl (pid_enum T.z_enumerate (by rfl) (pad_cons (ped_var 1) pad_nil)) (pgd_tup rfl (pgsd_cons (pgd_name (i := 2) nd rfl (by first | exact .inl rfl | exact .inr rfl)) (pgsd_cons (pgd_name (i := 3) nd rfl (by first | exact .inl rfl | exact .inr rfl)) pgsd_nil)) (lenCons (lenCons lenNil))) (pssd_one (psd_for hp rfl (pid_any (ped_slice (ped_var 1) (pod_some (ped_var 2)) pod_none)) (pgd_name (i := 4) nd rfl (by first | exact .inl rfl | exact .inr rfl)) (pssd_one (psd_if (ptd_cmp oIn lift_in (ped_op op_mod lift_mod (ped_op oAdd lift_add (ped_var 3) (ped_var 4)) (ped_var 0)) (ped_var 1) (by with_unfolding_all rfl)) (pssd_one (psd_ret (ped_tup (pad_cons (ped_var 3) (pad_cons (ped_var 4) (pad_cons (ped_op op_mod lift_mod (ped_op oAdd lift_add (ped_var 3) (ped_var 4)) (ped_var 0)) pad_nil)))))) pssd_nil))))) (pssd_one (psd_ret ped_non)))
def t_does_free (sp_sum_in : SpD) : TSd := (tRetD (tOpD rIsD (tCallD sp_sum_in (tConsD (tVarD 0) (tConsD (tVarD 1) tNilD))) (tCD .non)))
theorem d_does_free {P : Program} {w : World} {K : PySem.W.Frag} {mg : Str → Option Value} {base : Heap} {a : Nat → Addr} {fd : Nat → FuncData} {k : Nat} (T : Txt K mg a fd) {sp_sum_in : SpD} {k_sum_in : Nat} (G_sum_in : FnOk P w K mg base (L2.CX P w) k_sum_in (a 4) (fd 4) p_sum_in (liftSp K mg sp_sum_in)) (h_sum_in : k_sum_in ≤ k) : ∀ (cdv : Value) (A : Around) (outer : List Env) (s : Shared) (H : Hp) (E : XK), Room k (A.deeper (envOfC "does_free" (defScope s_does_free) s.heap.objs.size (a 5) cdv)) →
    PSsd (cxOf (L2.CX P w) P w K mg base n_does_free "does_free" (defScope s_does_free) (a 5) cdv A outer s H E) (fun _ => E) (defBody s_does_free) (t_does_free sp_sum_in) := by
  intro cdv A outer s H E hr
  have hu : (cxOf (L2.CX P w) P w K mg base n_does_free "does_free" (defScope s_does_free) (a 5) cdv A outer s H E).A.units + 64 < cLine := by have := hr.un; show (A.deeper _).units + 64 < cLine; omega
  have tk : Takes (cxOf (L2.CX P w) P w K mg base n_does_free "does_free" (defScope s_does_free) (a 5) cdv A outer s H E) (fun cls d _ H => E cls d H) := takes_of rfl rfl rfl rfl
  have hx : ∀ σ, PassesAt (L2.CX P w) (cxOf (L2.CX P w) P w K mg base n_does_free "does_free" (defScope s_does_free) (a 5) cdv A outer s H E) σ E := fun σ => passAt tk σ
  have hp : PassesOwn (model P w) (cxOf (L2.CX P w) P w K mg base n_does_free "does_free" (defScope s_does_free) (a 5) cdv A outer s H E).A (cxOf (L2.CX P w) P w K mg base n_does_free "does_free" (defScope s_does_free) (a 5) cdv A outer s H E).env (cxOf (L2.CX P w) P w K mg base n_does_free "does_free" (defScope s_does_free) (a 5) cdv A outer s H E).xe := passes_of rfl
  have nd : (n_does_free).Nodup := sc_does_free.nd
  exact (pssd_one (psd_ret (ped_cmp oIs lift_is (ped_call G_sum_in (hr.mono h_sum_in) T.g_sum_in T.F_sum_in.kp T.b_sum_in hx rfl (pad_cons (ped_var 0) (pad_cons (ped_var 1) pad_nil))) ped_non (nomark _))))
def t_with_rest : TSd := (tRetD (tCBD rTupleD (tConsD (tCBD rSortedD (tConsD (tLstD (tStarD (tVarD 0) (tConsD (tVarD 1) tNilD))) tNilD)) tNilD)))
theorem d_with_rest {P : Program} {w : World} {K : PySem.W.Frag} {mg : Str → Option Value} {base : Heap} {a : Nat → Addr} {fd : Nat → FuncData} {k : Nat} (T : Txt K mg a fd) : ∀ (cdv : Value) (A : Around) (outer : List Env) (s : Shared) (H : Hp) (E : XK), Room k (A.deeper (envOfC "with_rest" (defScope s_with_rest) s.heap.objs.size (a 6) cdv)) →
    PSsd (cxOf (L2.CX P w) P w K mg base n_with_rest "with_rest" (defScope s_with_rest) (a 6) cdv A outer s H E) (fun _ => E) (defBody s_with_rest) (t_with_rest) := by
  intro cdv A outer s H E hr
  have hu : (cxOf (L2.CX P w) P w K mg base n_with_rest "with_rest" (defScope s_with_rest) (a 6) cdv A outer s H E).A.units + 64 < cLine := by have := hr.un; show (A.deeper _).units + 64 < cLine; omega
  have tk : Takes (cxOf (L2.CX P w) P w K mg base n_with_rest "with_rest" (defScope s_with_rest) (a 6) cdv A outer s H E) (fun cls d _ H => E cls d H) := takes_of rfl rfl rfl rfl
  have hx : ∀ σ, PassesAt (L2.CX P w) (cxOf (L2.CX P w) P w K mg base n_with_rest "with_rest" (defScope s_with_rest) (a 6) cdv A outer s H E) σ E := fun σ => passAt tk σ
  have hp : PassesOwn (model P w) (cxOf (L2.CX P w) P w K mg base n_with_rest "with_rest" (defScope s_with_rest) (a 6) cdv A outer s H E).A (cxOf (L2.CX P w) P w K mg base n_with_rest "with_rest" (defScope s_with_rest) (a 6) cdv A outer s H E).env (cxOf (L2.CX P w) P w K mg base n_with_rest "with_rest" (defScope s_with_rest) (a 6) cdv A outer s H E).xe := passes_of rfl
  have nd : (n_with_rest).Nodup := sc_with_rest.nd
  exact (pssd_one (psd_ret (ped_callTy call_tuple_of lift_tuple T.z_tuple rfl rfl (pad_cons (ped_callB oSorted lift_sorted T.z_sorted rfl rfl (pad_cons (ped_lst (pad_star (ped_var 0) (pad_cons (ped_var 1) pad_nil))) pad_nil)) pad_nil))))
def t_need_free (sp_check_lot sp_does_free : SpD) : TSd := (tSeqD (tDropD (tCallD sp_check_lot (tConsD (tVarD 0) (tConsD (tVarD 1) tNilD)))) (tIfSD (tNotD (tTestD (tCallD sp_does_free (tConsD (tVarD 0) (tConsD (tVarD 1) tNilD))))) (tRaise0D "NotFree") tNextD))
theorem d_need_free {P : Program} {w : World} {K : PySem.W.Frag} {mg : Str → Option Value} {base : Heap} {a : Nat → Addr} {fd : Nat → FuncData} {k : Nat} (T : Txt K mg a fd) {sp_check_lot : SpD} {k_check_lot : Nat} (G_check_lot : FnOk P w K mg base (L2.CX P w) k_check_lot (a 3) (fd 3) p_check_lot (liftSp K mg sp_check_lot)) (h_check_lot : k_check_lot ≤ k) {sp_does_free : SpD} {k_does_free : Nat} (G_does_free : FnOk P w K mg base (L2.CX P w) k_does_free (a 5) (fd 5) p_does_free (liftSp K mg sp_does_free)) (h_does_free : k_does_free ≤ k) : ∀ (cdv : Value) (A : Around) (outer : List Env) (s : Shared) (H : Hp) (E : XK), Room k (A.deeper (envOfC "need_free" (defScope s_need_free) s.heap.objs.size (a 7) cdv)) →
    PSsd (cxOf (L2.CX P w) P w K mg base n_need_free "need_free" (defScope s_need_free) (a 7) cdv A outer s H E) (fun _ => E) (defBody s_need_free) (t_need_free sp_check_lot sp_does_free) := by
  intro cdv A outer s H E hr
  have hu : (cxOf (L2.CX P w) P w K mg base n_need_free "need_free" (defScope s_need_free) (a 7) cdv A outer s H E).A.units + 64 < cLine := by have := hr.un; show (A.deeper _).units + 64 < cLine; omega
  have tk : Takes (cxOf (L2.CX P w) P w K mg base n_need_free "need_free" (defScope s_need_free) (a 7) cdv A outer s H E) (fun cls d _ H => E cls d H) := takes_of rfl rfl rfl rfl
  have hx : ∀ σ, PassesAt (L2.CX P w) (cxOf (L2.CX P w) P w K mg base n_need_free "need_free" (defScope s_need_free) (a 7) cdv A outer s H E) σ E := fun σ => passAt tk σ
  have hp : PassesOwn (model P w) (cxOf (L2.CX P w) P w K mg base n_need_free "need_free" (defScope s_need_free) (a 7) cdv A outer s H E).A (cxOf (L2.CX P w) P w K mg base n_need_free "need_free" (defScope s_need_free) (a 7) cdv A outer s H E).env (cxOf (L2.CX P w) P w K mg base n_need_free "need_free" (defScope s_need_free) (a 7) cdv A outer s H E).xe := passes_of rfl
  have nd : (n_need_free).Nodup := sc_need_free.nd
  exact (pssd_cons (psd_expr (ped_call G_check_lot (hr.mono h_check_lot) T.g_check_lot T.F_check_lot.kp T.b_check_lot hx rfl (pad_cons (ped_var 0) (pad_cons (ped_var 1) pad_nil)))) (pssd_one (psd_if (ptd_not (ptd_val (ped_call G_does_free (hr.mono h_does_free) T.g_does_free T.F_does_free.kp T.b_does_free hx rfl (pad_cons (ped_var 0) (pad_cons (ped_var 1) pad_nil))))) (pssd_one (psd_raise0 rfl tk T.q_NotFree T.g_NotFree T.k_NotFree (raises_own T.s_NotFree T.t_NotFree) rfl)) pssd_nil)))
def t_added (sp_does_free sp_with_rest : SpD) : TSd := (tRetD (tLcOD (iRng1D (tConsD (tVarD 0) tNilD)) (gNameD 2) (tAndD (tTestD (tOpD rNotInD (tVarD 2) (tVarD 1))) (tTestD (tCallD sp_does_free (tConsD (tVarD 0) (tConsD (tCallD sp_with_rest (tConsD (tVarD 1) (tConsD (tVarD 2) tNilD))) tNilD))))) (tVarD 2) [2]))
theorem d_added {P : Program} {w : World} {K : PySem.W.Frag} {mg : Str → Option Value} {base : Heap} {a : Nat → Addr} {fd : Nat → FuncData} {k : Nat} (T : Txt K mg a fd) {sp_does_free : SpD} {k_does_free : Nat} (G_does_free : FnOk P w K mg base (L2.CX P w) k_does_free (a 5) (fd 5) p_does_free (liftSp K mg sp_does_free)) (h_does_free : k_does_free ≤ k) {sp_with_rest : SpD} {k_with_rest : Nat} (G_with_rest : FnOk P w K mg base (L2.CX P w) k_with_rest (a 6) (fd 6) p_with_rest (liftSp K mg sp_with_rest)) (h_with_rest : k_with_rest ≤ k) : ∀ (cdv : Value) (A : Around) (outer : List Env) (s : Shared) (H : Hp) (E : XK), Room k (A.deeper (envOfC "added" (defScope s_added) s.heap.objs.size (a 8) cdv)) →
    PSsd (cxOf (L2.CX P w) P w K mg base n_added "added" (defScope s_added) (a 8) cdv A outer s H E) (fun _ => E) (defBody s_added) (t_added sp_does_free sp_with_rest) := by
  intro cdv A outer s H E hr
  have hu : (cxOf (L2.CX P w) P w K mg base n_added "added" (defScope s_added) (a 8) cdv A outer s H E).A.units + 64 < cLine := by have := hr.un; show (A.deeper _).units + 64 < cLine; omega
  have tk : Takes (cxOf (L2.CX P w) P w K mg base n_added "added" (defScope s_added) (a 8) cdv A outer s H E) (fun cls d _ H => E cls d H) := takes_of rfl rfl rfl rfl
  have hx : ∀ σ, PassesAt (L2.CX P w) (cxOf (L2.CX P w) P w K mg base n_added "added" (defScope s_added) (a 8) cdv A outer s H E) σ E := fun σ => passAt tk σ
  have hp : PassesOwn (model P w) (cxOf (L2.CX P w) P w K mg base n_added "added" (defScope s_added) (a 8) cdv A outer s H E).A (cxOf (L2.CX P w) P w K mg base n_added "added" (defScope s_added) (a 8) cdv A outer s H E).env (cxOf (L2.CX P w) P w K mg base n_added "added" (defScope s_added) (a 8) cdv A outer s H E).xe := passes_of rfl
  have nd : (n_added).Nodup := sc_added.nd
  exact (pssd_one (psd_ret (ped_lcO (own := [("rest", 2)]) rfl nd (pid_rng1 T.z_range (by rfl) (pad_cons (ped_var 0) pad_nil)) (blkOk_by (N := n_added) (sc := defScope s_added) (own := [("rest", 2)]) (by decide +kernel)) (fun s H C cl fp => (pg_name (i := 2) nd rfl (by first | exact .inl rfl | exact .inr rfl))) (ctg_name (by decide)) (fun s H C cl fp => (ptsd_one (PWd.pt (pwd_and (ptd_cmp op_notIn_seq lift_notIn (ped_var 2) (ped_var 1) (by with_unfolding_all rfl)) (pwd_and1 (ptd_val (ped_call G_does_free (hr.mono h_does_free) T.g_does_free T.F_does_free.kp T.b_does_free (fun σ => passAt takes0 σ) rfl (pad_cons (ped_var 0) (pad_cons (ped_call G_with_rest (hr.mono h_with_rest) T.g_with_rest T.F_with_rest.kp T.b_with_rest (fun σ => passAt takes0 σ) rfl (pad_cons (ped_var 1) (pad_cons (ped_var 2) pad_nil))) pad_nil))))))))) (fun s H C cl fp => (ped_var 2)))))
def t_adding (sp_need_free sp_added : SpD) : TSd := (tSeqD (tDropD (tCallD sp_need_free (tConsD (tVarD 0) (tConsD (tVarD 1) tNilD)))) (tRetD (tCallD sp_added (tConsD (tVarD 0) (tConsD (tVarD 1) tNilD)))))
theorem d_adding {P : Program} {w : World} {K : PySem.W.Frag} {mg : Str → Option Value} {base : Heap} {a : Nat → Addr} {fd : Nat → FuncData} {k : Nat} (T : Txt K mg a fd) {sp_need_free : SpD} {k_need_free : Nat} (G_need_free : FnOk P w K mg base (L2.CX P w) k_need_free (a 7) (fd 7) p_need_free (liftSp K mg sp_need_free)) (h_need_free : k_need_free ≤ k) {sp_added : SpD} {k_added : Nat} (G_added : FnOk P w K mg base (L2.CX P w) k_added (a 8) (fd 8) p_added (liftSp K mg sp_added)) (h_added : k_added ≤ k) : ∀ (cdv : Value) (A : Around) (outer : List Env) (s : Shared) (H : Hp) (E : XK), Room k (A.deeper (envOfC "adding" (defScope s_adding) s.heap.objs.size (a 9) cdv)) →
    PSsd (cxOf (L2.CX P w) P w K mg base n_adding "adding" (defScope s_adding) (a 9) cdv A outer s H E) (fun _ => E) (defBody s_adding) (t_adding sp_need_free sp_added) := by
  intro cdv A outer s H E hr
  have hu : (cxOf (L2.CX P w) P w K mg base n_adding "adding" (defScope s_adding) (a 9) cdv A outer s H E).A.units + 64 < cLine := by have := hr.un; show (A.deeper _).units + 64 < cLine; omega
  have tk : Takes (cxOf (L2.CX P w) P w K mg base n_adding "adding" (defScope s_adding) (a 9) cdv A outer s H E) (fun cls d _ H => E cls d H) := takes_of rfl rfl rfl rfl
  have hx : ∀ σ, PassesAt (L2.CX P w) (cxOf (L2.CX P w) P w K mg base n_adding "adding" (defScope s_adding) (a 9) cdv A outer s H E) σ E := fun σ => passAt tk σ
  have hp : PassesOwn (model P w) (cxOf (L2.CX P w) P w K mg base n_adding "adding" (defScope s_adding) (a 9) cdv A outer s H E).A (cxOf (L2.CX P w) P w K mg base n_adding "adding" (defScope s_adding) (a 9) cdv A outer s H E).env (cxOf (L2.CX P w) P w K mg base n_adding "adding" (defScope s_adding) (a 9) cdv A outer s H E).xe := passes_of rfl
  have nd : (n_adding).Nodup := sc_adding.nd
  exact (pssd_cons (psd_expr (ped_call G_need_free (hr.mono h_need_free) T.g_need_free T.F_need_free.kp T.b_need_free hx rfl (pad_cons (ped_var 0) (pad_cons (ped_var 1) pad_nil)))) (pssd_one (psd_ret (ped_call G_added (hr.mono h_added) T.g_added T.F_added.kp T.b_added hx rfl (pad_cons (ped_var 0) (pad_cons (ped_var 1) pad_nil))))))
def t_check_small (sp_check_round : SpD) : TSd := (tSeqD (tDropD (tCallD sp_check_round (tConsD (tVarD 0) tNilD))) (tIfSD (tTestD (tOpD rGtD (tVarD 0) (tCD (.int 14)))) (tRaise0D "TooGreat") tNextD))
theorem d_check_small {P : Program} {w : World} {K : PySem.W.Frag} {mg : Str → Option Value} {base : Heap} {a : Nat → Addr} {fd : Nat → FuncData} {k : Nat} (T : Txt K mg a fd) {sp_check_round : SpD} {k_check_round : Nat} (G_check_round : FnOk P w K mg base (L2.CX P w) k_check_round (a 2) (fd 2) p_check_round (liftSp K mg sp_check_round)) (h_check_round : k_check_round ≤ k) : ∀ (cdv : Value) (A : Around) (outer : List Env) (s : Shared) (H : Hp) (E : XK), Room k (A.deeper (envOfC "check_small" (defScope s_check_small) s.heap.objs.size (a 10) cdv)) →
    PSsd (cxOf (L2.CX P w) P w K mg base n_check_small "check_small" (defScope s_check_small) (a 10) cdv A outer s H E) (fun _ => E) (defBody s_check_small) (t_check_small sp_check_round) := by
  intro cdv A outer s H E hr
  have hu : (cxOf (L2.CX P w) P w K mg base n_check_small "check_small" (defScope s_check_small) (a 10) cdv A outer s H E).A.units + 64 < cLine := by have := hr.un; show (A.deeper _).units + 64 < cLine; omega
  have tk : Takes (cxOf (L2.CX P w) P w K mg base n_check_small "check_small" (defScope s_check_small) (a 10) cdv A outer s H E) (fun cls d _ H => E cls d H) := takes_of rfl rfl rfl rfl
  have hx : ∀ σ, PassesAt (L2.CX P w) (cxOf (L2.CX P w) P w K mg base n_check_small "check_small" (defScope s_check_small) (a 10) cdv A outer s H E) σ E := fun σ => passAt tk σ
  have hp : PassesOwn (model P w) (cxOf (L2.CX P w) P w K mg base n_check_small "check_small" (defScope s_check_small) (a 10) cdv A outer s H E).A (cxOf (L2.CX P w) P w K mg base n_check_small "check_small" (defScope s_check_small) (a 10) cdv A outer s H E).env (cxOf (L2.CX P w) P w K mg base n_check_small "check_small" (defScope s_check_small) (a 10) cdv A outer s H E).xe := passes_of rfl
  have nd : (n_check_small).Nodup := sc_check_small.nd
  exact (pssd_cons (psd_expr (ped_call G_check_round (hr.mono h_check_round) T.g_check_round T.F_check_round.kp T.b_check_round hx rfl (pad_cons (ped_var 0) pad_nil))) (pssd_one (psd_if (ptd_cmp op_gt lift_gt (ped_var 0) (ped_globI rfl T.c_MOST_SEARCHED.choose_spec) (nomark _)) (pssd_one (psd_raise0 rfl tk T.q_TooGreat T.g_TooGreat T.k_TooGreat (raises_own T.s_TooGreat T.t_TooGreat) rfl)) pssd_nil)))
def t_free_lots (sp_does_free : SpD) : TSd := (tSeqD (tSetD 1 (tLstD (tConsD (tTupD tNilD) tNilD))) (tSeqD (tForD (iRng2D (tConsD (tCD (.int 1)) (tConsD (tVarD 0) tNilD))) (gNameD 2) (tSetD 1 (tOpD rAddD (tVarD 1) (tLcD (iAnyD (tVarD 1)) (gNameD 3) (tTestD (tCallD sp_does_free (tConsD (tVarD 0) (tConsD (tTupD (tStarD (tVarD 3) (tConsD (tVarD 2) tNilD))) tNilD)))) (tTupD (tStarD (tVarD 3) (tConsD (tVarD 2) tNilD))) [3])))) (tRetD (tCBD rSortedTD (tConsD (tVarD 1) tNilD)))))
theorem d_free_lots {P : Program} {w : World} {K : PySem.W.Frag} {mg : Str → Option Value} {base : Heap} {a : Nat → Addr} {fd : Nat → FuncData} {k : Nat} (T : Txt K mg a fd) {sp_does_free : SpD} {k_does_free : Nat} (G_does_free : FnOk P w K mg base (L2.CX P w) k_does_free (a 5) (fd 5) p_does_free (liftSp K mg sp_does_free)) (h_does_free : k_does_free ≤ k) : ∀ (cdv : Value) (A : Around) (outer : List Env) (s : Shared) (H : Hp) (E : XK), Room k (A.deeper (envOfC "free_lots" (defScope s_free_lots) s.heap.objs.size (a 11) cdv)) →
    PSsd (cxOf (L2.CX P w) P w K mg base n_free_lots "free_lots" (defScope s_free_lots) (a 11) cdv A outer s H E) (fun _ => E) (defBody s_free_lots) (t_free_lots sp_does_free) := by
  intro cdv A outer s H E hr
  have hu : (cxOf (L2.CX P w) P w K mg base n_free_lots "free_lots" (defScope s_free_lots) (a 11) cdv A outer s H E).A.units + 64 < cLine := by have := hr.un; show (A.deeper _).units + 64 < cLine; omega
  have tk : Takes (cxOf (L2.CX P w) P w K mg base n_free_lots "free_lots" (defScope s_free_lots) (a 11) cdv A outer s H E) (fun cls d _ H => E cls d H) := takes_of rfl rfl rfl rfl
  have hx : ∀ σ, PassesAt (L2.CX P w) (cxOf (L2.CX P w) P w K mg base n_free_lots "free_lots" (defScope s_free_lots) (a 11) cdv A outer s H E) σ E := fun σ => passAt tk σ
  have hp : PassesOwn (model P w) (cxOf (L2.CX P w) P w K mg base n_free_lots "free_lots" (defScope s_free_lots) (a 11) cdv A outer s H E).A (cxOf (L2.CX P w) P w K mg base n_free_lots "free_lots" (defScope s_free_lots) (a 11) cdv A outer s H E).env (cxOf (L2.CX P w) P w K mg base n_free_lots "free_lots" (defScope s_free_lots) (a 11) cdv A outer s H E).xe := passes_of rfl
  have nd : (n_free_lots).Nodup := sc_free_lots.nd
  exact (pssd_cons (psd_set (i := 1) nd rfl (by first | exact .inl rfl | exact .inr rfl) (ped_lst (pad_cons (ped_tup pad_nil) pad_nil))) (pssd_cons (psd_for hp rfl (pid_rng2 T.z_range (by rfl) (pad_cons ped_int (pad_cons (ped_var 0) pad_nil))) (pgd_name (i := 2) nd rfl (by first | exact .inl rfl | exact .inr rfl)) (pssd_one (psd_set (i := 1) nd rfl (by first | exact .inl rfl | exact .inr rfl) (ped_op oAdd lift_add (ped_var 1) (ped_lc (own := [("lot", 3)]) rfl nd (pid_any (ped_var 1)) (blkOk_by (N := n_free_lots) (sc := defScope s_free_lots) (own := [("lot", 3)]) (by decide +kernel)) (fun s H C cl fp => (pg_name (i := 3) nd rfl (by first | exact .inl rfl | exact .inr rfl))) (ctg_name (by decide)) (fun s H C cl fp => (ptsd_one (ptd_val (ped_call G_does_free (hr.mono h_does_free) T.g_does_free T.F_does_free.kp T.b_does_free (fun σ => passAt takes0 σ) rfl (pad_cons (ped_var 0) (pad_cons (ped_tup (pad_star (ped_var 3) (pad_cons (ped_var 2) pad_nil))) pad_nil)))))) (fun s H C cl fp => (ped_tup (pad_star (ped_var 3) (pad_cons (ped_var 2) pad_nil))))))))) (pssd_one (psd_ret (ped_callB (oSortedT hu) lift_sortedT T.z_sorted rfl rfl (pad_cons (ped_var 1) pad_nil))))))
def t_divisor : TSd := (tSeqD (tWhileD (tTestD (tOpD rNeD (tVarD 1) (tCD (.int 0)))) (tPar2D 0 1 (tConsD (tVarD 1) (tConsD (tOpD rModD (tVarD 0) (tVarD 1)) tNilD)))) (tRetD (tVarD 0)))
theorem d_divisor {P : Program} {w : World} {K : PySem.W.Frag} {mg : Str → Option Value} {base : Heap} {a : Nat → Addr} {fd : Nat → FuncData} {k : Nat} (T : Txt K mg a fd) : ∀ (cdv : Value) (A : Around) (outer : List Env) (s : Shared) (H : Hp) (E : XK), Room k (A.deeper (envOfC "divisor" (defScope s_divisor) s.heap.objs.size (a 12) cdv)) →
    PSsd (cxOf (L2.CX P w) P w K mg base n_divisor "divisor" (defScope s_divisor) (a 12) cdv A outer s H E) (fun _ => E) (defBody s_divisor) (t_divisor) := by
  intro cdv A outer s H E hr
  have hu : (cxOf (L2.CX P w) P w K mg base n_divisor "divisor" (defScope s_divisor) (a 12) cdv A outer s H E).A.units + 64 < cLine := by have := hr.un; show (A.deeper _).units + 64 < cLine; omega
  have tk : Takes (cxOf (L2.CX P w) P w K mg base n_divisor "divisor" (defScope s_divisor) (a 12) cdv A outer s H E) (fun cls d _ H => E cls d H) := takes_of rfl rfl rfl rfl
  have hx : ∀ σ, PassesAt (L2.CX P w) (cxOf (L2.CX P w) P w K mg base n_divisor "divisor" (defScope s_divisor) (a 12) cdv A outer s H E) σ E := fun σ => passAt tk σ
  have hp : PassesOwn (model P w) (cxOf (L2.CX P w) P w K mg base n_divisor "divisor" (defScope s_divisor) (a 12) cdv A outer s H E).A (cxOf (L2.CX P w) P w K mg base n_divisor "divisor" (defScope s_divisor) (a 12) cdv A outer s H E).env (cxOf (L2.CX P w) P w K mg base n_divisor "divisor" (defScope s_divisor) (a 12) cdv A outer s H E).xe := passes_of rfl
  have nd : (n_divisor).Nodup := sc_divisor.nd
  exact (pssd_cons (psd_while hp (ptd_cmp (op_neD hu) lift_ne (ped_var 1) ped_int (nomark _)) (pssd_one (psd_par (i := 0) (j := 1) rfl nd rfl rfl (by decide) rfl rfl (pad_cons (ped_var 1) (pad_cons (ped_op op_mod lift_mod (ped_var 0) (ped_var 1)) pad_nil)) rfl))) (pssd_one (psd_ret (ped_var 0))))
def t_times_of : TSd := (tRetD (tCBD rTupleD (tConsD (tCBD rSortedD (tConsD (tLcD (iAnyD (tVarD 1)) (gNameD 3) tYesD (tOpD rModD (tOpD rMulD (tVarD 3) (tVarD 2)) (tVarD 0)) [3]) tNilD)) tNilD)))
theorem d_times_of {P : Program} {w : World} {K : PySem.W.Frag} {mg : Str → Option Value} {base : Heap} {a : Nat → Addr} {fd : Nat → FuncData} {k : Nat} (T : Txt K mg a fd) : ∀ (cdv : Value) (A : Around) (outer : List Env) (s : Shared) (H : Hp) (E : XK), Room k (A.deeper (envOfC "times_of" (defScope s_times_of) s.heap.objs.size (a 13) cdv)) →
    PSsd (cxOf (L2.CX P w) P w K mg base n_times_of "times_of" (defScope s_times_of) (a 13) cdv A outer s H E) (fun _ => E) (defBody s_times_of) (t_times_of) := by
  intro cdv A outer s H E hr
  have hu : (cxOf (L2.CX P w) P w K mg base n_times_of "times_of" (defScope s_times_of) (a 13) cdv A outer s H E).A.units + 64 < cLine := by have := hr.un; show (A.deeper _).units + 64 < cLine; omega
  have tk : Takes (cxOf (L2.CX P w) P w K mg base n_times_of "times_of" (defScope s_times_of) (a 13) cdv A outer s H E) (fun cls d _ H => E cls d H) := takes_of rfl rfl rfl rfl
  have hx : ∀ σ, PassesAt (L2.CX P w) (cxOf (L2.CX P w) P w K mg base n_times_of "times_of" (defScope s_times_of) (a 13) cdv A outer s H E) σ E := fun σ => passAt tk σ
  have hp : PassesOwn (model P w) (cxOf (L2.CX P w) P w K mg base n_times_of "times_of" (defScope s_times_of) (a 13) cdv A outer s H E).A (cxOf (L2.CX P w) P w K mg base n_times_of "times_of" (defScope s_times_of) (a 13) cdv A outer s H E).env (cxOf (L2.CX P w) P w K mg base n_times_of "times_of" (defScope s_times_of) (a 13) cdv A outer s H E).xe := passes_of rfl
  have nd : (n_times_of).Nodup := sc_times_of.nd
  exact (pssd_one (psd_ret (ped_callTy call_tuple_of lift_tuple T.z_tuple rfl rfl (pad_cons (ped_callB oSorted lift_sorted T.z_sorted rfl rfl (pad_cons (ped_lc (own := [("rest", 3)]) rfl nd (pid_any (ped_var 1)) (blkOk_by (N := n_times_of) (sc := defScope s_times_of) (own := [("rest", 3)]) (by decide +kernel)) (fun s H C cl fp => (pg_name (i := 3) nd rfl (by first | exact .inl rfl | exact .inr rfl))) (ctg_name (by decide)) (fun s H C cl fp => ptsd_nil) (fun s H C cl fp => (ped_op op_mod lift_mod (ped_op oMul lift_mul (ped_var 3) (ped_var 2)) (ped_var 0)))) pad_nil)) pad_nil))))
def t_is_first (sp_divisor sp_times_of : SpD) : TSd := (tRetD (tCBD rAllD (tConsD (tLcD (iRng2D (tConsD (tCD (.int 1)) (tConsD (tVarD 0) tNilD))) (gNameD 2) (tTestD (tOpD rEqD (tCallD sp_divisor (tConsD (tVarD 2) (tConsD (tVarD 0) tNilD))) (tCD (.int 1)))) (tOpD rLeTD (tVarD 1) (tCallD sp_times_of (tConsD (tVarD 0) (tConsD (tVarD 1) (tConsD (tVarD 2) tNilD))))) [2]) tNilD)))
theorem d_is_first {P : Program} {w : World} {K : PySem.W.Frag} {mg : Str → Option Value} {base : Heap} {a : Nat → Addr} {fd : Nat → FuncData} {k : Nat} (T : Txt K mg a fd) {sp_divisor : SpD} {k_divisor : Nat} (G_divisor : FnOk P w K mg base (L2.CX P w) k_divisor (a 12) (fd 12) p_divisor (liftSp K mg sp_divisor)) (h_divisor : k_divisor ≤ k) {sp_times_of : SpD} {k_times_of : Nat} (G_times_of : FnOk P w K mg base (L2.CX P w) k_times_of (a 13) (fd 13) p_times_of (liftSp K mg sp_times_of)) (h_times_of : k_times_of ≤ k) : ∀ (cdv : Value) (A : Around) (outer : List Env) (s : Shared) (H : Hp) (E : XK), Room k (A.deeper (envOfC "is_first" (defScope s_is_first) s.heap.objs.size (a 14) cdv)) →
    PSsd (cxOf (L2.CX P w) P w K mg base n_is_first "is_first" (defScope s_is_first) (a 14) cdv A outer s H E) (fun _ => E) (defBody s_is_first) (t_is_first sp_divisor sp_times_of) := by
  intro cdv A outer s H E hr
  have hu : (cxOf (L2.CX P w) P w K mg base n_is_first "is_first" (defScope s_is_first) (a 14) cdv A outer s H E).A.units + 64 < cLine := by have := hr.un; show (A.deeper _).units + 64 < cLine; omega
  have tk : Takes (cxOf (L2.CX P w) P w K mg base n_is_first "is_first" (defScope s_is_first) (a 14) cdv A outer s H E) (fun cls d _ H => E cls d H) := takes_of rfl rfl rfl rfl
  have hx : ∀ σ, PassesAt (L2.CX P w) (cxOf (L2.CX P w) P w K mg base n_is_first "is_first" (defScope s_is_first) (a 14) cdv A outer s H E) σ E := fun σ => passAt tk σ
  have hp : PassesOwn (model P w) (cxOf (L2.CX P w) P w K mg base n_is_first "is_first" (defScope s_is_first) (a 14) cdv A outer s H E).A (cxOf (L2.CX P w) P w K mg base n_is_first "is_first" (defScope s_is_first) (a 14) cdv A outer s H E).env (cxOf (L2.CX P w) P w K mg base n_is_first "is_first" (defScope s_is_first) (a 14) cdv A outer s H E).xe := passes_of rfl
  have nd : (n_is_first).Nodup := sc_is_first.nd
  exact (pssd_one (psd_ret (ped_callB (cr_all rfl) lift_all T.z_all rfl rfl (pad_cons (ped_lc (own := [("times", 2)]) rfl nd (pid_rng2 T.z_range (by rfl) (pad_cons ped_int (pad_cons (ped_var 0) pad_nil))) (blkOk_by (N := n_is_first) (sc := defScope s_is_first) (own := [("times", 2)]) (by decide +kernel)) (fun s H C cl fp => (pg_name (i := 2) nd rfl (by first | exact .inl rfl | exact .inr rfl))) (ctg_name (by decide)) (fun s H C cl fp => (ptsd_one (ptd_cmp (op_eqD hu) lift_eq (ped_call G_divisor (hr.mono h_divisor) T.g_divisor T.F_divisor.kp T.b_divisor (fun σ => passAt takes0 σ) rfl (pad_cons (ped_var 2) (pad_cons (ped_var 0) pad_nil))) ped_int (nomark _)))) (fun s H C cl fp => (ped_cmp (op_leT (Nat.lt_of_le_of_lt (Nat.le_add_right _ _) hu)) lift_leT (ped_var 1) (ped_call G_times_of (hr.mono h_times_of) T.g_times_of T.F_times_of.kp T.b_times_of (fun σ => passAt takes0 σ) rfl (pad_cons (ped_var 0) (pad_cons (ped_var 1) (pad_cons (ped_var 2) pad_nil)))) (nomark _)))) pad_nil))))
def t_greatest (sp_check_small sp_free_lots sp_is_first : SpD) : TSd := (tSeqD (tDropD (tCallD sp_check_small (tConsD (tVarD 0) tNilD))) (tSeqD (tSetD 1 (tCallD sp_free_lots (tConsD (tVarD 0) tNilD))) (tSeqD (tSetD 2 (tCBD rMaxD (tConsD (tLcD (iAnyD (tVarD 1)) (gNameD 3) tYesD (tCBD rLenD (tConsD (tVarD 3) tNilD)) [3]) tNilD))) (tRetD (tLcOD (iAnyD (tVarD 1)) (gNameD 3) (tAndD (tTestD (tOpD rEqD (tCBD rLenD (tConsD (tVarD 3) tNilD)) (tVarD 2))) (tTestD (tCallD sp_is_first (tConsD (tVarD 0) (tConsD (tVarD 3) tNilD))))) (tVarD 3) [3])))))
theorem d_greatest {P : Program} {w : World} {K : PySem.W.Frag} {mg : Str → Option Value} {base : Heap} {a : Nat → Addr} {fd : Nat → FuncData} {k : Nat} (T : Txt K mg a fd) {sp_check_small : SpD} {k_check_small : Nat} (G_check_small : FnOk P w K mg base (L2.CX P w) k_check_small (a 10) (fd 10) p_check_small (liftSp K mg sp_check_small)) (h_check_small : k_check_small ≤ k) {sp_free_lots : SpD} {k_free_lots : Nat} (G_free_lots : FnOk P w K mg base (L2.CX P w) k_free_lots (a 11) (fd 11) p_free_lots (liftSp K mg sp_free_lots)) (h_free_lots : k_free_lots ≤ k) {sp_is_first : SpD} {k_is_first : Nat} (G_is_first : FnOk P w K mg base (L2.CX P w) k_is_first (a 14) (fd 14) p_is_first (liftSp K mg sp_is_first)) (h_is_first : k_is_first ≤ k) : ∀ (cdv : Value) (A : Around) (outer : List Env) (s : Shared) (H : Hp) (E : XK), Room k (A.deeper (envOfC "greatest" (defScope s_greatest) s.heap.objs.size (a 15) cdv)) →
    PSsd (cxOf (L2.CX P w) P w K mg base n_greatest "greatest" (defScope s_greatest) (a 15) cdv A outer s H E) (fun _ => E) (defBody s_greatest) (t_greatest sp_check_small sp_free_lots sp_is_first) := by
  intro cdv A outer s H E hr
  have hu : (cxOf (L2.CX P w) P w K mg base n_greatest "greatest" (defScope s_greatest) (a 15) cdv A outer s H E).A.units + 64 < cLine := by have := hr.un; show (A.deeper _).units + 64 < cLine; omega
  have tk : Takes (cxOf (L2.CX P w) P w K mg base n_greatest "greatest" (defScope s_greatest) (a 15) cdv A outer s H E) (fun cls d _ H => E cls d H) := takes_of rfl rfl rfl rfl
  have hx : ∀ σ, PassesAt (L2.CX P w) (cxOf (L2.CX P w) P w K mg base n_greatest "greatest" (defScope s_greatest) (a 15) cdv A outer s H E) σ E := fun σ => passAt tk σ
  have hp : PassesOwn (model P w) (cxOf (L2.CX P w) P w K mg base n_greatest "greatest" (defScope s_greatest) (a 15) cdv A outer s H E).A (cxOf (L2.CX P w) P w K mg base n_greatest "greatest" (defScope s_greatest) (a 15) cdv A outer s H E).env (cxOf (L2.CX P w) P w K mg base n_greatest "greatest" (defScope s_greatest) (a 15) cdv A outer s H E).xe := passes_of rfl
  have nd : (n_greatest).Nodup := sc_greatest.nd
  exact (pssd_cons (psd_expr (ped_call G_check_small (hr.mono h_check_small) T.g_check_small T.F_check_small.kp T.b_check_small hx rfl (pad_cons (ped_var 0) pad_nil))) (pssd_cons (psd_set (i := 1) nd rfl (by first | exact .inl rfl | exact .inr rfl) (ped_call G_free_lots (hr.mono h_free_lots) T.g_free_lots T.F_free_lots.kp T.b_free_lots hx rfl (pad_cons (ped_var 0) pad_nil))) (pssd_cons (psd_set (i := 2) nd rfl (by first | exact .inl rfl | exact .inr rfl) (ped_callB (cr_max rfl) lift_max T.z_max rfl rfl (pad_cons (ped_lc (own := [("lot", 3)]) rfl nd (pid_any (ped_var 1)) (blkOk_by (N := n_greatest) (sc := defScope s_greatest) (own := [("lot", 3)]) (by decide +kernel)) (fun s H C cl fp => (pg_name (i := 3) nd rfl (by first | exact .inl rfl | exact .inr rfl))) (ctg_name (by decide)) (fun s H C cl fp => ptsd_nil) (fun s H C cl fp => (ped_callB call_len lift_len T.z_len rfl rfl (pad_cons (ped_var 3) pad_nil)))) pad_nil))) (pssd_one (psd_ret (ped_lcO (own := [("lot", 3)]) rfl nd (pid_any (ped_var 1)) (blkOk_by (N := n_greatest) (sc := defScope s_greatest) (own := [("lot", 3)]) (by decide +kernel)) (fun s H C cl fp => (pg_name (i := 3) nd rfl (by first | exact .inl rfl | exact .inr rfl))) (ctg_name (by decide)) (fun s H C cl fp => (ptsd_one (PWd.pt (pwd_and (ptd_cmp (op_eqD hu) lift_eq (ped_callB call_len lift_len T.z_len rfl rfl (pad_cons (ped_var 3) pad_nil)) (ped_var 2) (nomark _)) (pwd_and1 (ptd_val (ped_call G_is_first (hr.mono h_is_first) T.g_is_first T.F_is_first.kp T.b_is_first (fun σ => passAt takes0 σ) rfl (pad_cons (ped_var 0) (pad_cons (ped_var 3) pad_nil))))))))) (fun s H C cl fp => (ped_var 3))))))))
def t_full_lots (sp_added sp_check_small sp_free_lots : SpD) : TSd := (tSeqD (tDropD (tCallD sp_check_small (tConsD (tVarD 0) tNilD))) (tRetD (tLcOD (iAnyD (tCallD sp_free_lots (tConsD (tVarD 0) tNilD))) (gNameD 1) (tTestD (tOpD rEqD (tCBD rLenD (tConsD (tCallD sp_added (tConsD (tVarD 0) (tConsD (tVarD 1) tNilD))) tNilD)) (tCD (.int 0)))) (tVarD 1) [1])))
theorem d_full_lots {P : Program} {w : World} {K : PySem.W.Frag} {mg : Str → Option Value} {base : Heap} {a : Nat → Addr} {fd : Nat → FuncData} {k : Nat} (T : Txt K mg a fd) {sp_added : SpD} {k_added : Nat} (G_added : FnOk P w K mg base (L2.CX P w) k_added (a 8) (fd 8) p_added (liftSp K mg sp_added)) (h_added : k_added ≤ k) {sp_check_small : SpD} {k_check_small : Nat} (G_check_small : FnOk P w K mg base (L2.CX P w) k_check_small (a 10) (fd 10) p_check_small (liftSp K mg sp_check_small)) (h_check_small : k_check_small ≤ k) {sp_free_lots : SpD} {k_free_lots : Nat} (G_free_lots : FnOk P w K mg base (L2.CX P w) k_free_lots (a 11) (fd 11) p_free_lots (liftSp K mg sp_free_lots)) (h_free_lots : k_free_lots ≤ k) : ∀ (cdv : Value) (A : Around) (outer : List Env) (s : Shared) (H : Hp) (E : XK), Room k (A.deeper (envOfC "full_lots" (defScope s_full_lots) s.heap.objs.size (a 16) cdv)) →
    PSsd (cxOf (L2.CX P w) P w K mg base n_full_lots "full_lots" (defScope s_full_lots) (a 16) cdv A outer s H E) (fun _ => E) (defBody s_full_lots) (t_full_lots sp_added sp_check_small sp_free_lots) := by
  intro cdv A outer s H E hr
  have hu : (cxOf (L2.CX P w) P w K mg base n_full_lots "full_lots" (defScope s_full_lots) (a 16) cdv A outer s H E).A.units + 64 < cLine := by have := hr.un; show (A.deeper _).units + 64 < cLine; omega
  have tk : Takes (cxOf (L2.CX P w) P w K mg base n_full_lots "full_lots" (defScope s_full_lots) (a 16) cdv A outer s H E) (fun cls d _ H => E cls d H) := takes_of rfl rfl rfl rfl
  have hx : ∀ σ, PassesAt (L2.CX P w) (cxOf (L2.CX P w) P w K mg base n_full_lots "full_lots" (defScope s_full_lots) (a 16) cdv A outer s H E) σ E := fun σ => passAt tk σ
  have hp : PassesOwn (model P w) (cxOf (L2.CX P w) P w K mg base n_full_lots "full_lots" (defScope s_full_lots) (a 16) cdv A outer s H E).A (cxOf (L2.CX P w) P w K mg base n_full_lots "full_lots" (defScope s_full_lots) (a 16) cdv A outer s H E).env (cxOf (L2.CX P w) P w K mg base n_full_lots "full_lots" (defScope s_full_lots) (a 16) cdv A outer s H E).xe := passes_of rfl
  have nd : (n_full_lots).Nodup := sc_full_lots.nd
  exact (pssd_cons (psd_expr (ped_call G_check_small (hr.mono h_check_small) T.g_check_small T.F_check_small.kp T.b_check_small hx rfl (pad_cons (ped_var 0) pad_nil))) (pssd_one (psd_ret (ped_lcO (own := [("lot", 1)]) rfl nd (pid_any (ped_call G_free_lots (hr.mono h_free_lots) T.g_free_lots T.F_free_lots.kp T.b_free_lots hx rfl (pad_cons (ped_var 0) pad_nil))) (blkOk_by (N := n_full_lots) (sc := defScope s_full_lots) (own := [("lot", 1)]) (by decide +kernel)) (fun s H C cl fp => (pg_name (i := 1) nd rfl (by first | exact .inl rfl | exact .inr rfl))) (ctg_name (by decide)) (fun s H C cl fp => (ptsd_one (ptd_cmp (op_eqD hu) lift_eq (ped_callB call_len lift_len T.z_len rfl rfl (pad_cons (ped_call G_added (hr.mono h_added) T.g_added T.F_added.kp T.b_added (fun σ => passAt takes0 σ) rfl (pad_cons (ped_var 0) (pad_cons (ped_var 1) pad_nil))) pad_nil)) ped_int (nomark _)))) (fun s H C cl fp => (ped_var 1))))))
def t_is_seen (sp_is_from : SpD) : TSd := (tSeqD (tIfSD (tOrD (tNotD (tTestD (tIsiD .tuple (tVarD 1)))) (tTestD (tOpD rNeD (tCBD rLenD (tConsD (tVarD 1) tNilD)) (tCD (.int 2))))) (tRetD (tCD (.bl false))) tNextD) (tRetD (tAndVD (tCallD sp_is_from (tConsD (tOpD rIxD (tVarD 1) (tCD (.int 0))) (tConsD (tCD (.int 0)) (tConsD (tOpD rSubD (tVarD 0) (tCD (.int 1))) tNilD)))) (tIsiD .bool (tOpD rIxD (tVarD 1) (tCD (.int 1)))))))
theorem d_is_seen {P : Program} {w : World} {K : PySem.W.Frag} {mg : Str → Option Value} {base : Heap} {a : Nat → Addr} {fd : Nat → FuncData} {k : Nat} (T : Txt K mg a fd) {sp_is_from : SpD} {k_is_from : Nat} (G_is_from : FnOk P w K mg base (L2.CX P w) k_is_from (a 1) (fd 1) p_is_from (liftSp K mg sp_is_from)) (h_is_from : k_is_from ≤ k) : ∀ (cdv : Value) (A : Around) (outer : List Env) (s : Shared) (H : Hp) (E : XK), Room k (A.deeper (envOfC "is_seen" (defScope s_is_seen) s.heap.objs.size (a 17) cdv)) →
    PSsd (cxOf (L2.CX P w) P w K mg base n_is_seen "is_seen" (defScope s_is_seen) (a 17) cdv A outer s H E) (fun _ => E) (defBody s_is_seen) (t_is_seen sp_is_from) := by
  intro cdv A outer s H E hr
  have hu : (cxOf (L2.CX P w) P w K mg base n_is_seen "is_seen" (defScope s_is_seen) (a 17) cdv A outer s H E).A.units + 64 < cLine := by have := hr.un; show (A.deeper _).units + 64 < cLine; omega
  have tk : Takes (cxOf (L2.CX P w) P w K mg base n_is_seen "is_seen" (defScope s_is_seen) (a 17) cdv A outer s H E) (fun cls d _ H => E cls d H) := takes_of rfl rfl rfl rfl
  have hx : ∀ σ, PassesAt (L2.CX P w) (cxOf (L2.CX P w) P w K mg base n_is_seen "is_seen" (defScope s_is_seen) (a 17) cdv A outer s H E) σ E := fun σ => passAt tk σ
  have hp : PassesOwn (model P w) (cxOf (L2.CX P w) P w K mg base n_is_seen "is_seen" (defScope s_is_seen) (a 17) cdv A outer s H E).A (cxOf (L2.CX P w) P w K mg base n_is_seen "is_seen" (defScope s_is_seen) (a 17) cdv A outer s H E).env (cxOf (L2.CX P w) P w K mg base n_is_seen "is_seen" (defScope s_is_seen) (a 17) cdv A outer s H E).xe := passes_of rfl
  have nd : (n_is_seen).Nodup := sc_is_seen.nd
  exact (pssd_cons (psd_if (PWd.pt (pwd_or (ptd_not (ptd_val (ped_isi .tuple T.z_isinstance T.z_tuple rfl rfl rfl (ped_var 1)))) (pwd_or1 (ptd_cmp (op_neD hu) lift_ne (ped_callB call_len lift_len T.z_len rfl rfl (pad_cons (ped_var 1) pad_nil)) ped_int (nomark _))))) (pssd_one (psd_ret ped_bl)) pssd_nil) (pssd_one (psd_ret (ped_and (ped_call G_is_from (hr.mono h_is_from) T.g_is_from T.F_is_from.kp T.b_is_from hx rfl (pad_cons (ped_ix (ped_var 1) ped_int) (pad_cons ped_int (pad_cons (ped_op op_sub lift_sub (ped_var 0) ped_int) pad_nil)))) (ped_one (ped_isi .bool T.z_isinstance T.z_bool rfl rfl rfl (ped_ix (ped_var 1) ped_int)))))))
def t_fitting (sp_check_small sp_free_lots sp_is_seen : SpD) : TSd := (tSeqD (tDropD (tCallD sp_check_small (tConsD (tVarD 0) tNilD))) (tSeqD (tIfSD (tNotD (tTestD (tIsi2D .list .tuple (tVarD 1)))) (tRaise1D "BadSeen" "index" (tCD .non)) tNextD) (tSeqD (tForD (iEnumD (tConsD (tVarD 1) tNilD)) (gTupD (gConsD (gNameD 2) (gConsD (gNameD 3) gNilD))) (tIfSD (tNotD (tTestD (tCallD sp_is_seen (tConsD (tVarD 0) (tConsD (tVarD 3) tNilD))))) (tRaise1D "BadSeen" "index" (tVarD 2)) tNextD)) (tRetD (tLcOD (iAnyD (tCallD sp_free_lots (tConsD (tVarD 0) tNilD))) (gNameD 4) (tTestD (tCBD rAllD (tConsD (tLcD (iAnyD (tVarD 1)) (gTupD (gConsD (gNameD 5) (gConsD (gNameD 6) gNilD))) tYesD (tOpD rEqD (tOpD rInD (tVarD 5) (tVarD 4)) (tVarD 6)) [5, 6]) tNilD))) (tVarD 4) [4])))))
theorem d_fitting {P : Program} {w : World} {K : PySem.W.Frag} {mg : Str → Option Value} {base : Heap} {a : Nat → Addr} {fd : Nat → FuncData} {k : Nat} (T : Txt K mg a fd) {sp_check_small : SpD} {k_check_small : Nat} (G_check_small : FnOk P w K mg base (L2.CX P w) k_check_small (a 10) (fd 10) p_check_small (liftSp K mg sp_check_small)) (h_check_small : k_check_small ≤ k) {sp_free_lots : SpD} {k_free_lots : Nat} (G_free_lots : FnOk P w K mg base (L2.CX P w) k_free_lots (a 11) (fd 11) p_free_lots (liftSp K mg sp_free_lots)) (h_free_lots : k_free_lots ≤ k) {sp_is_seen : SpD} {k_is_seen : Nat} (G_is_seen : FnOk P w K mg base (L2.CX P w) k_is_seen (a 17) (fd 17) p_is_seen (liftSp K mg sp_is_seen)) (h_is_seen : k_is_seen ≤ k) (hi_BadSeen : 2 ≤ k) : ∀ (cdv : Value) (A : Around) (outer : List Env) (s : Shared) (H : Hp) (E : XK), Room k (A.deeper (envOfC "fitting" (defScope s_fitting) s.heap.objs.size (a 18) cdv)) →
    PSsd (cxOf (L2.CX P w) P w K mg base n_fitting "fitting" (defScope s_fitting) (a 18) cdv A outer s H E) (fun _ => E) (defBody s_fitting) (t_fitting sp_check_small sp_free_lots sp_is_seen) := by
  intro cdv A outer s H E hr
  have hu : (cxOf (L2.CX P w) P w K mg base n_fitting "fitting" (defScope s_fitting) (a 18) cdv A outer s H E).A.units + 64 < cLine := by have := hr.un; show (A.deeper _).units + 64 < cLine; omega
  have tk : Takes (cxOf (L2.CX P w) P w K mg base n_fitting "fitting" (defScope s_fitting) (a 18) cdv A outer s H E) (fun cls d _ H => E cls d H) := takes_of rfl rfl rfl rfl
  have hx : ∀ σ, PassesAt (L2.CX P w) (cxOf (L2.CX P w) P w K mg base n_fitting "fitting" (defScope s_fitting) (a 18) cdv A outer s H E) σ E := fun σ => passAt tk σ
  have hp : PassesOwn (model P w) (cxOf (L2.CX P w) P w K mg base n_fitting "fitting" (defScope s_fitting) (a 18) cdv A outer s H E).A (cxOf (L2.CX P w) P w K mg base n_fitting "fitting" (defScope s_fitting) (a 18) cdv A outer s H E).env (cxOf (L2.CX P w) P w K mg base n_fitting "fitting" (defScope s_fitting) (a 18) cdv A outer s H E).xe := passes_of rfl
  have nd : (n_fitting).Nodup := sc_fitting.nd
  have I_BadSeen : FnOk P w K mg base (L2.CX P w) 1 (a 33) (fd 33) ["self", "index"] (spIni (a 31) "index") := i_BadSeen T
  exact (pssd_cons (psd_expr (ped_call G_check_small (hr.mono h_check_small) T.g_check_small T.F_check_small.kp T.b_check_small hx rfl (pad_cons (ped_var 0) pad_nil))) (pssd_cons (psd_if (ptd_not (ptd_val (ped_isi2 .list .tuple T.z_isinstance T.z_list T.z_tuple rfl rfl rfl rfl rfl (ped_var 1)))) (pssd_one (psd_raise1 rfl tk (T.e_BadSeen.ext) I_BadSeen (hr.mono hi_BadSeen) rfl ped_non)) pssd_nil) (pssd_cons (psd_for hp rfl (pid_enum T.z_enumerate (by rfl) (pad_cons (ped_var 1) pad_nil)) (pgd_tup rfl (pgsd_cons (pgd_name (i := 2) nd rfl (by first | exact .inl rfl | exact .inr rfl)) (pgsd_cons (pgd_name (i := 3) nd rfl (by first | exact .inl rfl | exact .inr rfl)) pgsd_nil)) (lenCons (lenCons lenNil))) (pssd_one (psd_if (ptd_not (ptd_val (ped_call G_is_seen (hr.mono h_is_seen) T.g_is_seen T.F_is_seen.kp T.b_is_seen hx rfl (pad_cons (ped_var 0) (pad_cons (ped_var 3) pad_nil))))) (pssd_one (psd_raise1 rfl tk (T.e_BadSeen.ext) I_BadSeen (hr.mono hi_BadSeen) rfl (ped_var 2))) pssd_nil))) (pssd_one (psd_ret (ped_lcO (own := [("lot", 4)]) rfl nd (pid_any (ped_call G_free_lots (hr.mono h_free_lots) T.g_free_lots T.F_free_lots.kp T.b_free_lots hx rfl (pad_cons (ped_var 0) pad_nil))) (blkOk_by (N := n_fitting) (sc := defScope s_fitting) (own := [("lot", 4)]) (by decide +kernel)) (fun s H C cl fp => (pg_name (i := 4) nd rfl (by first | exact .inl rfl | exact .inr rfl))) (ctg_name (by decide)) (fun s H C cl fp => (ptsd_one (ptd_val (ped_callB (cr_all rfl) lift_all T.z_all rfl rfl (pad_cons (ped_lc (own := [("rest", 5), ("is_in", 6)]) rfl nd (pid_any (ped_var 1)) (blkOk_by (N := n_fitting) (own := [("rest", 5), ("is_in", 6)]) (by rfl)) (fun s H C cl fp => (pg_tup rfl (pgs_cons (pg_name (i := 5) nd rfl (by first | exact .inl rfl | exact .inr rfl)) (pgs_cons (pg_name (i := 6) nd rfl (by first | exact .inl rfl | exact .inr rfl)) pgs_nil)))) (ctg_tup2 (by decide) (by decide)) (fun s H C cl fp => ptsd_nil) (fun s H C cl fp => (ped_cmp (op_eqD hu) lift_eq (ped_cmp oIn lift_in (ped_var 5) (ped_var 4) (by with_unfolding_all rfl)) (ped_var 6) (nomark _)))) pad_nil))))) (fun s H C cl fp => (ped_var 4))))))))
def t_has_sum : TSd := (tRetD (tCBD rAnyD (tConsD (tLc2D (iAnyD (tVarD 0)) (gNameD 1) tYesD (iAnyD (tVarD 0)) (gNameD 2) tYesD (tOpD rInD (tOpD rAddD (tVarD 1) (tVarD 2)) (tVarD 0)) [1, 2] [2]) tNilD)))
theorem d_has_sum {P : Program} {w : World} {K : PySem.W.Frag} {mg : Str → Option Value} {base : Heap} {a : Nat → Addr} {fd : Nat → FuncData} {k : Nat} (T : Txt K mg a fd) : ∀ (cdv : Value) (A : Around) (outer : List Env) (s : Shared) (H : Hp) (E : XK), Room k (A.deeper (envOfC "has_sum" (defScope s_has_sum) s.heap.objs.size (a 19) cdv)) →
    PSsd (cxOf (L2.CX P w) P w K mg base n_has_sum "has_sum" (defScope s_has_sum) (a 19) cdv A outer s H E) (fun _ => E) (defBody s_has_sum) (t_has_sum) := by
  intro cdv A outer s H E hr
  have hu : (cxOf (L2.CX P w) P w K mg base n_has_sum "has_sum" (defScope s_has_sum) (a 19) cdv A outer s H E).A.units + 64 < cLine := by have := hr.un; show (A.deeper _).units + 64 < cLine; omega
  have tk : Takes (cxOf (L2.CX P w) P w K mg base n_has_sum "has_sum" (defScope s_has_sum) (a 19) cdv A outer s H E) (fun cls d _ H => E cls d H) := takes_of rfl rfl rfl rfl
  have hx : ∀ σ, PassesAt (L2.CX P w) (cxOf (L2.CX P w) P w K mg base n_has_sum "has_sum" (defScope s_has_sum) (a 19) cdv A outer s H E) σ E := fun σ => passAt tk σ
  have hp : PassesOwn (model P w) (cxOf (L2.CX P w) P w K mg base n_has_sum "has_sum" (defScope s_has_sum) (a 19) cdv A outer s H E).A (cxOf (L2.CX P w) P w K mg base n_has_sum "has_sum" (defScope s_has_sum) (a 19) cdv A outer s H E).env (cxOf (L2.CX P w) P w K mg base n_has_sum "has_sum" (defScope s_has_sum) (a 19) cdv A outer s H E).xe := passes_of rfl
  have nd : (n_has_sum).Nodup := sc_has_sum.nd
  exact (pssd_one (psd_ret (ped_callB (cr_any rfl) lift_any T.z_any rfl rfl (pad_cons (ped_lc2 (own := [("one", 1), ("other", 2)]) (vs1 := [2]) rfl nd (pid_any (ped_var 0)) (blkOk_by (N := n_has_sum) (sc := defScope s_has_sum) (own := [("one", 1), ("other", 2)]) (by decide +kernel)) (by decide) (fun s H C cl fp => (pg_name (i := 1) nd rfl (by first | exact .inl rfl | exact .inr rfl))) (ctg_name (by decide)) (fun s H C cl fp => ptsd_nil) (fun s H C cl fp => (pid_any (ped_var 0))) (fun s H C cl fp => (pg_name (i := 2) nd rfl (by first | exact .inl rfl | exact .inr rfl))) ((ctg_name (by decide))) (fun s H C cl fp => ptsd_nil) (fun s H C cl fp => (ped_cmp oIn lift_in (ped_op oAdd lift_add (ped_var 1) (ped_var 2)) (ped_var 0) (by with_unfolding_all rfl)))) pad_nil))))
def t_check_whole (sp_is_from : SpD) : TSd := (tIfSD (tNotD (tTestD (tCallD sp_is_from (tConsD (tVarD 0) (tConsD (tCD (.int 0)) (tConsD (tVarD 1) tNilD)))))) (tRaise0D "BadRound") tNextD)
theorem d_check_whole {P : Program} {w : World} {K : PySem.W.Frag} {mg : Str → Option Value} {base : Heap} {a : Nat → Addr} {fd : Nat → FuncData} {k : Nat} (T : Txt K mg a fd) {sp_is_from : SpD} {k_is_from : Nat} (G_is_from : FnOk P w K mg base (L2.CX P w) k_is_from (a 1) (fd 1) p_is_from (liftSp K mg sp_is_from)) (h_is_from : k_is_from ≤ k) : ∀ (cdv : Value) (A : Around) (outer : List Env) (s : Shared) (H : Hp) (E : XK), Room k (A.deeper (envOfC "check_whole" (defScope s_check_whole) s.heap.objs.size (a 20) cdv)) →
    PSsd (cxOf (L2.CX P w) P w K mg base n_check_whole "check_whole" (defScope s_check_whole) (a 20) cdv A outer s H E) (fun _ => E) (defBody s_check_whole) (t_check_whole sp_is_from) := by
  intro cdv A outer s H E hr
  have hu : (cxOf (L2.CX P w) P w K mg base n_check_whole "check_whole" (defScope s_check_whole) (a 20) cdv A outer s H E).A.units + 64 < cLine := by have := hr.un; show (A.deeper _).units + 64 < cLine; omega
  have tk : Takes (cxOf (L2.CX P w) P w K mg base n_check_whole "check_whole" (defScope s_check_whole) (a 20) cdv A outer s H E) (fun cls d _ H => E cls d H) := takes_of rfl rfl rfl rfl
  have hx : ∀ σ, PassesAt (L2.CX P w) (cxOf (L2.CX P w) P w K mg base n_check_whole "check_whole" (defScope s_check_whole) (a 20) cdv A outer s H E) σ E := fun σ => passAt tk σ
  have hp : PassesOwn (model P w) (cxOf (L2.CX P w) P w K mg base n_check_whole "check_whole" (defScope s_check_whole) (a 20) cdv A outer s H E).A (cxOf (L2.CX P w) P w K mg base n_check_whole "check_whole" (defScope s_check_whole) (a 20) cdv A outer s H E).env (cxOf (L2.CX P w) P w K mg base n_check_whole "check_whole" (defScope s_check_whole) (a 20) cdv A outer s H E).xe := passes_of rfl
  have nd : (n_check_whole).Nodup := sc_check_whole.nd
  exact (pssd_one (psd_if (ptd_not (ptd_val (ped_call G_is_from (hr.mono h_is_from) T.g_is_from T.F_is_from.kp T.b_is_from hx rfl (pad_cons (ped_var 0) (pad_cons ped_int (pad_cons (ped_var 1) pad_nil)))))) (pssd_one (psd_raise0 rfl tk T.q_BadRound T.g_BadRound T.k_BadRound (raises_own T.s_BadRound T.t_BadRound) rfl)) pssd_nil))
def t_whole_lots (sp_has_sum sp_check_whole : SpD) : TSd := (tSeqD (tDropD (tCallD sp_check_whole (tConsD (tVarD 0) (tConsD (tCD (.int 16)) tNilD)))) (tSeqD (tSetD 1 (tLstD (tConsD (tTupD tNilD) tNilD))) (tSeqD (tForD (iRng2D (tConsD (tCD (.int 1)) (tConsD (tOpD rAddD (tVarD 0) (tCD (.int 1))) tNilD))) (gNameD 2) (tSetD 1 (tOpD rAddD (tVarD 1) (tLcD (iAnyD (tVarD 1)) (gNameD 4) (tNotD (tTestD (tCallD sp_has_sum (tConsD (tTupD (tStarD (tVarD 4) (tConsD (tVarD 2) tNilD))) tNilD)))) (tTupD (tStarD (tVarD 4) (tConsD (tVarD 2) tNilD))) [4])))) (tSeqD (tSetD 3 (tCBD rMaxD (tConsD (tLcD (iAnyD (tVarD 1)) (gNameD 4) tYesD (tCBD rLenD (tConsD (tVarD 4) tNilD)) [4]) tNilD))) (tRetD (tCBD rSortedTOD (tConsD (tLcD (iAnyD (tVarD 1)) (gNameD 4) (tTestD (tOpD rEqD (tCBD rLenD (tConsD (tVarD 4) tNilD)) (tVarD 3))) (tVarD 4) [4]) tNilD)))))))
theorem d_whole_lots {P : Program} {w : World} {K : PySem.W.Frag} {mg : Str → Option Value} {base : Heap} {a : Nat → Addr} {fd : Nat → FuncData} {k : Nat} (T : Txt K mg a fd) {sp_has_sum : SpD} {k_has_sum : Nat} (G_has_sum : FnOk P w K mg base (L2.CX P w) k_has_sum (a 19) (fd 19) p_has_sum (liftSp K mg sp_has_sum)) (h_has_sum : k_has_sum ≤ k) {sp_check_whole : SpD} {k_check_whole : Nat} (G_check_whole : FnOk P w K mg base (L2.CX P w) k_check_whole (a 20) (fd 20) p_check_whole (liftSp K mg sp_check_whole)) (h_check_whole : k_check_whole ≤ k) : ∀ (cdv : Value) (A : Around) (outer : List Env) (s : Shared) (H : Hp) (E : XK), Room k (A.deeper (envOfC "whole_lots" (defScope s_whole_lots) s.heap.objs.size (a 21) cdv)) →
    PSsd (cxOf (L2.CX P w) P w K mg base n_whole_lots "whole_lots" (defScope s_whole_lots) (a 21) cdv A outer s H E) (fun _ => E) (defBody s_whole_lots) (t_whole_lots sp_has_sum sp_check_whole) := by
  intro cdv A outer s H E hr
  have hu : (cxOf (L2.CX P w) P w K mg base n_whole_lots "whole_lots" (defScope s_whole_lots) (a 21) cdv A outer s H E).A.units + 64 < cLine := by have := hr.un; show (A.deeper _).units + 64 < cLine; omega
  have tk : Takes (cxOf (L2.CX P w) P w K mg base n_whole_lots "whole_lots" (defScope s_whole_lots) (a 21) cdv A outer s H E) (fun cls d _ H => E cls d H) := takes_of rfl rfl rfl rfl
  have hx : ∀ σ, PassesAt (L2.CX P w) (cxOf (L2.CX P w) P w K mg base n_whole_lots "whole_lots" (defScope s_whole_lots) (a 21) cdv A outer s H E) σ E := fun σ => passAt tk σ
  have hp : PassesOwn (model P w) (cxOf (L2.CX P w) P w K mg base n_whole_lots "whole_lots" (defScope s_whole_lots) (a 21) cdv A outer s H E).A (cxOf (L2.CX P w) P w K mg base n_whole_lots "whole_lots" (defScope s_whole_lots) (a 21) cdv A outer s H E).env (cxOf (L2.CX P w) P w K mg base n_whole_lots "whole_lots" (defScope s_whole_lots) (a 21) cdv A outer s H E).xe := passes_of rfl
  have nd : (n_whole_lots).Nodup := sc_whole_lots.nd
  exact (pssd_cons (psd_expr (ped_call G_check_whole (hr.mono h_check_whole) T.g_check_whole T.F_check_whole.kp T.b_check_whole hx rfl (pad_cons (ped_var 0) (pad_cons (ped_globI rfl T.c_MOST_WHOLE.choose_spec) pad_nil)))) (pssd_cons (psd_set (i := 1) nd rfl (by first | exact .inl rfl | exact .inr rfl) (ped_lst (pad_cons (ped_tup pad_nil) pad_nil))) (pssd_cons (psd_for hp rfl (pid_rng2 T.z_range (by rfl) (pad_cons ped_int (pad_cons (ped_op oAdd lift_add (ped_var 0) ped_int) pad_nil))) (pgd_name (i := 2) nd rfl (by first | exact .inl rfl | exact .inr rfl)) (pssd_one (psd_set (i := 1) nd rfl (by first | exact .inl rfl | exact .inr rfl) (ped_op oAdd lift_add (ped_var 1) (ped_lc (own := [("lot", 4)]) rfl nd (pid_any (ped_var 1)) (blkOk_by (N := n_whole_lots) (sc := defScope s_whole_lots) (own := [("lot", 4)]) (by decide +kernel)) (fun s H C cl fp => (pg_name (i := 4) nd rfl (by first | exact .inl rfl | exact .inr rfl))) (ctg_name (by decide)) (fun s H C cl fp => (ptsd_one (ptd_not (ptd_val (ped_call G_has_sum (hr.mono h_has_sum) T.g_has_sum T.F_has_sum.kp T.b_has_sum (fun σ => passAt takes0 σ) rfl (pad_cons (ped_tup (pad_star (ped_var 4) (pad_cons (ped_var 2) pad_nil))) pad_nil)))))) (fun s H C cl fp => (ped_tup (pad_star (ped_var 4) (pad_cons (ped_var 2) pad_nil))))))))) (pssd_cons (psd_set (i := 3) nd rfl (by first | exact .inl rfl | exact .inr rfl) (ped_callB (cr_max rfl) lift_max T.z_max rfl rfl (pad_cons (ped_lc (own := [("lot", 4)]) rfl nd (pid_any (ped_var 1)) (blkOk_by (N := n_whole_lots) (sc := defScope s_whole_lots) (own := [("lot", 4)]) (by decide +kernel)) (fun s H C cl fp => (pg_name (i := 4) nd rfl (by first | exact .inl rfl | exact .inr rfl))) (ctg_name (by decide)) (fun s H C cl fp => ptsd_nil) (fun s H C cl fp => (ped_callB call_len lift_len T.z_len rfl rfl (pad_cons (ped_var 4) pad_nil)))) pad_nil))) (pssd_one (psd_ret (ped_callB (oSortedT hu) lift_sortedTO T.z_sorted rfl rfl (pad_cons (ped_lc (own := [("lot", 4)]) rfl nd (pid_any (ped_var 1)) (blkOk_by (N := n_whole_lots) (sc := defScope s_whole_lots) (own := [("lot", 4)]) (by decide +kernel)) (fun s H C cl fp => (pg_name (i := 4) nd rfl (by first | exact .inl rfl | exact .inr rfl))) (ctg_name (by decide)) (fun s H C cl fp => (ptsd_one (ptd_cmp (op_eqD hu) lift_eq (ped_callB call_len lift_len T.z_len rfl rfl (pad_cons (ped_var 4) pad_nil)) (ped_var 3) (nomark _)))) (fun s H C cl fp => (ped_var 4))) pad_nil))))))))
def t__law_random : TSd := (tSeqD (tSetD 2 (tVarD 1)) (tSeqD (tForD (iScrD (tVarD 0)) (gNameD 3) (tSetD 2 (tOpD rModD (tCBD rIntCD (tConsD (tOpD rAddD (tOpD rMulD (tVarD 2) (tCD (.int 31))) (tCBD rAbsD (tConsD (tVarD 3) tNilD))) tNilD)) (tCD (.int 2147483647))))) (tRetD (tRndD (tOpD rAddOD (tLstD (tConsD (tVarD 2) (tConsD (tCD (.int 0)) tNilD))) (tLcD (iScrD (tVarD 0)) (gNameD 3) (tTestD (tOpD rGeD (tVarD 3) (tOpD rPowD (tCD (.int 10)) (tCD (.int 18))))) (tVarD 3) [3]))))))
theorem d__law_random {P : Program} {w : World} {K : PySem.W.Frag} {mg : Str → Option Value} {base : Heap} {a : Nat → Addr} {fd : Nat → FuncData} {k : Nat} (T : Txt K mg a fd) : ∀ (cdv : Value) (A : Around) (outer : List Env) (s : Shared) (H : Hp) (E : XK), Room k (A.deeper (envOfC "_law_random" (defScope s__law_random) s.heap.objs.size (a 22) cdv)) →
    PSsd (cxOf (L2.CX P w) P w K mg base n__law_random "_law_random" (defScope s__law_random) (a 22) cdv A outer s H E) (fun _ => E) (defBody s__law_random) (t__law_random) := by
  intro cdv A outer s H E hr
  have hu : (cxOf (L2.CX P w) P w K mg base n__law_random "_law_random" (defScope s__law_random) (a 22) cdv A outer s H E).A.units + 64 < cLine := by have := hr.un; show (A.deeper _).units + 64 < cLine; omega
  have tk : Takes (cxOf (L2.CX P w) P w K mg base n__law_random "_law_random" (defScope s__law_random) (a 22) cdv A outer s H E) (fun cls d _ H => E cls d H) := takes_of rfl rfl rfl rfl
  have hx : ∀ σ, PassesAt (L2.CX P w) (cxOf (L2.CX P w) P w K mg base n__law_random "_law_random" (defScope s__law_random) (a 22) cdv A outer s H E) σ E := fun σ => passAt tk σ
  have hp : PassesOwn (model P w) (cxOf (L2.CX P w) P w K mg base n__law_random "_law_random" (defScope s__law_random) (a 22) cdv A outer s H E).A (cxOf (L2.CX P w) P w K mg base n__law_random "_law_random" (defScope s__law_random) (a 22) cdv A outer s H E).env (cxOf (L2.CX P w) P w K mg base n__law_random "_law_random" (defScope s__law_random) (a 22) cdv A outer s H E).xe := passes_of rfl
  have nd : (n__law_random).Nodup := sc__law_random.nd
  exact (pssd_cons (psd_set (i := 2) nd rfl (by first | exact .inl rfl | exact .inr rfl) (ped_var 1)) (pssd_cons (psd_for hp rfl (pid_scr (ped_var 0)) (pgd_name (i := 3) nd rfl (by first | exact .inl rfl | exact .inr rfl)) (pssd_one (psd_set (i := 2) nd rfl (by first | exact .inl rfl | exact .inr rfl) (ped_op op_mod lift_mod (ped_callTy oInt lift_int T.z_int rfl rfl (pad_cons (ped_op oAdd lift_add (ped_op oMul lift_mul (ped_var 2) ped_int) (ped_callB call_abs lift_abs T.z_abs rfl rfl (pad_cons (ped_var 3) pad_nil))) pad_nil)) ped_int)))) (pssd_one (psd_ret (ped_rnd (ped_op oAdd lift_addO (ped_lst (pad_cons (ped_var 2) (pad_cons ped_int pad_nil))) (ped_lc (own := [("_law_cell", 3)]) rfl nd (pid_scr (ped_var 0)) (blkOk_by (N := n__law_random) (sc := defScope s__law_random) (own := [("_law_cell", 3)]) (by decide +kernel)) (fun s H C cl fp => (pg_name (i := 3) nd rfl (by first | exact .inl rfl | exact .inr rfl))) (ctg_name (by decide)) (fun s H C cl fp => (ptsd_one (ptd_cmp op_ge lift_ge (ped_var 3) (ped_op op_pow lift_pow ped_int ped_int) (nomark _)))) (fun s H C cl fp => (ped_var 3)))))))))
def t__law_below : TSd := (tSeqD (tIfSD (tAndD (tTestD (tOpD rEqD (tOpD rIxD (tVarD 0) (tCD (.int 1))) (tCD (.int 0)))) (tTestD (tOpD rGtD (tCBD rLenD (tConsD (tVarD 0) tNilD)) (tCD (.int 2))))) (tAsgD (tMetD rPopAtD (tVarD 0) (tConsD (tCD (.int 2)) tNilD)) (gSubD (tVarD 0) (tCD (.int 1)))) tNextD) (tSeqD (tIfSD (tTestD (tOpD rGtD (tOpD rIxD (tVarD 0) (tCD (.int 1))) (tCD (.int 0)))) (tSeqD (tSetD 2 (tOpD rModD (tCBD rIntCD (tConsD (tOpD rIxD (tVarD 0) (tCD (.int 1))) tNilD)) (tVarD 1))) (tSeqD (tAsgD (tOpD rDivD (tOpD rIxD (tVarD 0) (tCD (.int 1))) (tVarD 1)) (gSubD (tVarD 0) (tCD (.int 1)))) (tRetD (tVarD 2)))) tNextD) (tSeqD (tAsgD (tOpD rModD (tCBD rIntCD (tConsD (tOpD rAddD (tOpD rMulD (tOpD rIxD (tVarD 0) (tCD (.int 0))) (tCD (.int 48271))) (tCD (.int 11))) tNilD)) (tCD (.int 2147483647))) (gSubD (tVarD 0) (tCD (.int 0)))) (tRetD (tOpD rModD (tCBD rIntCD (tConsD (tOpD rDivD (tOpD rIxD (tVarD 0) (tCD (.int 0))) (tCD (.int 64))) tNilD)) (tVarD 1))))))
theorem d__law_below {P : Program} {w : World} {K : PySem.W.Frag} {mg : Str → Option Value} {base : Heap} {a : Nat → Addr} {fd : Nat → FuncData} {k : Nat} (T : Txt K mg a fd) : ∀ (cdv : Value) (A : Around) (outer : List Env) (s : Shared) (H : Hp) (E : XK), Room k (A.deeper (envOfC "_law_below" (defScope s__law_below) s.heap.objs.size (a 23) cdv)) →
    PSsd (cxOf (L2.CX P w) P w K mg base n__law_below "_law_below" (defScope s__law_below) (a 23) cdv A outer s H E) (fun _ => E) (defBody s__law_below) (t__law_below) := by
  intro cdv A outer s H E hr
  have hu : (cxOf (L2.CX P w) P w K mg base n__law_below "_law_below" (defScope s__law_below) (a 23) cdv A outer s H E).A.units + 64 < cLine := by have := hr.un; show (A.deeper _).units + 64 < cLine; omega
  have tk : Takes (cxOf (L2.CX P w) P w K mg base n__law_below "_law_below" (defScope s__law_below) (a 23) cdv A outer s H E) (fun cls d _ H => E cls d H) := takes_of rfl rfl rfl rfl
  have hx : ∀ σ, PassesAt (L2.CX P w) (cxOf (L2.CX P w) P w K mg base n__law_below "_law_below" (defScope s__law_below) (a 23) cdv A outer s H E) σ E := fun σ => passAt tk σ
  have hp : PassesOwn (model P w) (cxOf (L2.CX P w) P w K mg base n__law_below "_law_below" (defScope s__law_below) (a 23) cdv A outer s H E).A (cxOf (L2.CX P w) P w K mg base n__law_below "_law_below" (defScope s__law_below) (a 23) cdv A outer s H E).env (cxOf (L2.CX P w) P w K mg base n__law_below "_law_below" (defScope s__law_below) (a 23) cdv A outer s H E).xe := passes_of rfl
  have nd : (n__law_below).Nodup := sc__law_below.nd
  exact (pssd_cons (psd_if (PWd.pt (pwd_and (ptd_cmp (op_eqD hu) lift_eq (ped_ix (ped_var 0) ped_int) ped_int (nomark _)) (pwd_and1 (ptd_cmp op_gt lift_gt (ped_callB call_len lift_len T.z_len rfl rfl (pad_cons (ped_var 0) pad_nil)) ped_int (nomark _))))) (pssd_one (psd_asg (ped_met PySem.F.slot_list_pop PySem.F.type_list_pop mt_popAt lift_popAt (ped_var 0) (pad_cons ped_int pad_nil)) (pgd_sub (E := EF) (ped_var 0) ped_int))) pssd_nil) (pssd_cons (psd_if (ptd_cmp op_gt lift_gt (ped_ix (ped_var 0) ped_int) ped_int (nomark _)) (pssd_cons (psd_set (i := 2) nd rfl (by first | exact .inl rfl | exact .inr rfl) (ped_op op_mod lift_mod (ped_callTy oInt lift_int T.z_int rfl rfl (pad_cons (ped_ix (ped_var 0) ped_int) pad_nil)) (ped_var 1))) (pssd_cons (psd_asg (ped_op oDiv lift_div (ped_ix (ped_var 0) ped_int) (ped_var 1)) (pgd_sub (E := EF) (ped_var 0) ped_int)) (pssd_one (psd_ret (ped_var 2))))) pssd_nil) (pssd_cons (psd_asg (ped_op op_mod lift_mod (ped_callTy oInt lift_int T.z_int rfl rfl (pad_cons (ped_op oAdd lift_add (ped_op oMul lift_mul (ped_ix (ped_var 0) ped_int) ped_int) ped_int) pad_nil)) ped_int) (pgd_sub (E := EF) (ped_var 0) ped_int)) (pssd_one (psd_ret (ped_op op_mod lift_mod (ped_callTy oInt lift_int T.z_int rfl rfl (pad_cons (ped_op oDiv lift_div (ped_ix (ped_var 0) ped_int) ped_int) pad_nil)) (ped_var 1)))))))
def t__law_lists (sp_adding sp_greatest sp_full_lots sp_fitting sp_whole_lots : SpD) : TSd := (tSeqD (tSetD 1 (tLstD (tConsD (tCallD sp_adding (tConsD (tVarD 0) (tConsD (tTupD tNilD) tNilD))) (tConsD (tCallD sp_full_lots (tConsD (tVarD 0) tNilD)) (tConsD (tCallD sp_greatest (tConsD (tVarD 0) tNilD)) (tConsD (tCallD sp_fitting (tConsD (tVarD 0) (tConsD (tLstD tNilD) tNilD))) tNilD)))))) (tSeqD (tSetD 1 (tOpD rAddD (tVarD 1) (tLstD (tConsD (tCallD sp_whole_lots (tConsD (tVarD 0) tNilD)) tNilD)))) (tRetD (tVarD 1))))
theorem d__law_lists {P : Program} {w : World} {K : PySem.W.Frag} {mg : Str → Option Value} {base : Heap} {a : Nat → Addr} {fd : Nat → FuncData} {k : Nat} (T : Txt K mg a fd) {sp_adding : SpD} {k_adding : Nat} (G_adding : FnOk P w K mg base (L2.CX P w) k_adding (a 9) (fd 9) p_adding (liftSp K mg sp_adding)) (h_adding : k_adding ≤ k) {sp_greatest : SpD} {k_greatest : Nat} (G_greatest : FnOk P w K mg base (L2.CX P w) k_greatest (a 15) (fd 15) p_greatest (liftSp K mg sp_greatest)) (h_greatest : k_greatest ≤ k) {sp_full_lots : SpD} {k_full_lots : Nat} (G_full_lots : FnOk P w K mg base (L2.CX P w) k_full_lots (a 16) (fd 16) p_full_lots (liftSp K mg sp_full_lots)) (h_full_lots : k_full_lots ≤ k) {sp_fitting : SpD} {k_fitting : Nat} (G_fitting : FnOk P w K mg base (L2.CX P w) k_fitting (a 18) (fd 18) p_fitting (liftSp K mg sp_fitting)) (h_fitting : k_fitting ≤ k) {sp_whole_lots : SpD} {k_whole_lots : Nat} (G_whole_lots : FnOk P w K mg base (L2.CX P w) k_whole_lots (a 21) (fd 21) p_whole_lots (liftSp K mg sp_whole_lots)) (h_whole_lots : k_whole_lots ≤ k) : ∀ (cdv : Value) (A : Around) (outer : List Env) (s : Shared) (H : Hp) (E : XK), Room k (A.deeper (envOfC "_law_lists" (defScope s__law_lists) s.heap.objs.size (a 24) cdv)) →
    PSsd (cxOf (L2.CX P w) P w K mg base n__law_lists "_law_lists" (defScope s__law_lists) (a 24) cdv A outer s H E) (fun _ => E) (defBody s__law_lists) (t__law_lists sp_adding sp_greatest sp_full_lots sp_fitting sp_whole_lots) := by
  intro cdv A outer s H E hr
  have hu : (cxOf (L2.CX P w) P w K mg base n__law_lists "_law_lists" (defScope s__law_lists) (a 24) cdv A outer s H E).A.units + 64 < cLine := by have := hr.un; show (A.deeper _).units + 64 < cLine; omega
  have tk : Takes (cxOf (L2.CX P w) P w K mg base n__law_lists "_law_lists" (defScope s__law_lists) (a 24) cdv A outer s H E) (fun cls d _ H => E cls d H) := takes_of rfl rfl rfl rfl
  have hx : ∀ σ, PassesAt (L2.CX P w) (cxOf (L2.CX P w) P w K mg base n__law_lists "_law_lists" (defScope s__law_lists) (a 24) cdv A outer s H E) σ E := fun σ => passAt tk σ
  have hp : PassesOwn (model P w) (cxOf (L2.CX P w) P w K mg base n__law_lists "_law_lists" (defScope s__law_lists) (a 24) cdv A outer s H E).A (cxOf (L2.CX P w) P w K mg base n__law_lists "_law_lists" (defScope s__law_lists) (a 24) cdv A outer s H E).env (cxOf (L2.CX P w) P w K mg base n__law_lists "_law_lists" (defScope s__law_lists) (a 24) cdv A outer s H E).xe := passes_of rfl
  have nd : (n__law_lists).Nodup := sc__law_lists.nd
  exact (pssd_cons (psd_set (i := 1) nd rfl (by first | exact .inl rfl | exact .inr rfl) (ped_lst (pad_cons (ped_call G_adding (hr.mono h_adding) T.g_adding T.F_adding.kp T.b_adding hx rfl (pad_cons (ped_var 0) (pad_cons (ped_tup pad_nil) pad_nil))) (pad_cons (ped_call G_full_lots (hr.mono h_full_lots) T.g_full_lots T.F_full_lots.kp T.b_full_lots hx rfl (pad_cons (ped_var 0) pad_nil)) (pad_cons (ped_call G_greatest (hr.mono h_greatest) T.g_greatest T.F_greatest.kp T.b_greatest hx rfl (pad_cons (ped_var 0) pad_nil)) (pad_cons (ped_call G_fitting (hr.mono h_fitting) T.g_fitting T.F_fitting.kp T.b_fitting hx rfl (pad_cons (ped_var 0) (pad_cons (ped_lst pad_nil) pad_nil))) pad_nil)))))) (pssd_cons (psd_set (i := 1) nd rfl (by first | exact .inl rfl | exact .inr rfl) (ped_op oAdd lift_add (ped_var 1) (ped_lst (pad_cons (ped_call G_whole_lots (hr.mono h_whole_lots) T.g_whole_lots T.F_whole_lots.kp T.b_whole_lots hx rfl (pad_cons (ped_var 0) pad_nil)) pad_nil)))) (pssd_one (psd_ret (ped_var 1)))))
def t_law (sp__law_random sp__law_below sp__law_lists : SpD) : TSd := (tSeqD (tSetD 1 (tCallD sp__law_random (tConsD (tVarD 0) (tConsD (tCD (.int 2354)) tNilD)))) (tSeqD (tSetD 2 (tOpD rAddD (tCD (.int 1)) (tCallD sp__law_below (tConsD (tVarD 1) (tConsD (tCD (.int 8)) tNilD))))) (tSeqD (tSetD 3 (tLcD (iAnyD (tCallD sp__law_lists (tConsD (tVarD 2) tNilD))) (gNameD 4) tYesD (tCBD rListD (tConsD (tVarD 4) tNilD)) [4])) (tSeqD (tPar2D 5 6 (tConsD (tCallD sp__law_lists (tConsD (tVarD 2) tNilD)) (tConsD (tCallD sp__law_lists (tConsD (tVarD 2) tNilD)) tNilD))) (tSeqD (tForD (iAnyD (tVarD 5)) (gNameD 4) (tSeqD (tDropD (tMetD rAppendD (tVarD 4) (tConsD (tCD (.str "late")) tNilD))) (tDropD (tMet0D rReverseD (tVarD 4))))) (tSeqD (tIfSD (tTestD (tOpD rNeD (tLcD (iAnyD (tVarD 6)) (gNameD 4) tYesD (tCBD rListD (tConsD (tVarD 4) tNilD)) [4]) (tVarD 3))) (tRetD (tCD (.bl false))) tNextD) (tRetD (tOpD rEqD (tLcD (iAnyD (tCallD sp__law_lists (tConsD (tVarD 2) tNilD))) (gNameD 4) tYesD (tCBD rListD (tConsD (tVarD 4) tNilD)) [4]) (tVarD 3)))))))))
theorem d_law {P : Program} {w : World} {K : PySem.W.Frag} {mg : Str → Option Value} {base : Heap} {a : Nat → Addr} {fd : Nat → FuncData} {k : Nat} (T : Txt K mg a fd) {sp__law_random : SpD} {k__law_random : Nat} (G__law_random : FnOk P w K mg base (L2.CX P w) k__law_random (a 22) (fd 22) p__law_random (liftSp K mg sp__law_random)) (h__law_random : k__law_random ≤ k) {sp__law_below : SpD} {k__law_below : Nat} (G__law_below : FnOk P w K mg base (L2.CX P w) k__law_below (a 23) (fd 23) p__law_below (liftSp K mg sp__law_below)) (h__law_below : k__law_below ≤ k) {sp__law_lists : SpD} {k__law_lists : Nat} (G__law_lists : FnOk P w K mg base (L2.CX P w) k__law_lists (a 24) (fd 24) p__law_lists (liftSp K mg sp__law_lists)) (h__law_lists : k__law_lists ≤ k) : ∀ (cdv : Value) (A : Around) (outer : List Env) (s : Shared) (H : Hp) (E : XK), Room k (A.deeper (envOfC "law" (defScope s_law) s.heap.objs.size (a 25) cdv)) →
    PSsd (cxOf (L2.CX P w) P w K mg base n_law "law" (defScope s_law) (a 25) cdv A outer s H E) (fun _ => E) (defBody s_law) (t_law sp__law_random sp__law_below sp__law_lists) := by
  intro cdv A outer s H E hr
  have hu : (cxOf (L2.CX P w) P w K mg base n_law "law" (defScope s_law) (a 25) cdv A outer s H E).A.units + 64 < cLine := by have := hr.un; show (A.deeper _).units + 64 < cLine; omega
  have tk : Takes (cxOf (L2.CX P w) P w K mg base n_law "law" (defScope s_law) (a 25) cdv A outer s H E) (fun cls d _ H => E cls d H) := takes_of rfl rfl rfl rfl
  have hx : ∀ σ, PassesAt (L2.CX P w) (cxOf (L2.CX P w) P w K mg base n_law "law" (defScope s_law) (a 25) cdv A outer s H E) σ E := fun σ => passAt tk σ
  have hp : PassesOwn (model P w) (cxOf (L2.CX P w) P w K mg base n_law "law" (defScope s_law) (a 25) cdv A outer s H E).A (cxOf (L2.CX P w) P w K mg base n_law "law" (defScope s_law) (a 25) cdv A outer s H E).env (cxOf (L2.CX P w) P w K mg base n_law "law" (defScope s_law) (a 25) cdv A outer s H E).xe := passes_of rfl
  have nd : (n_law).Nodup := sc_law.nd
  exact (pssd_cons (psd_set (i := 1) nd rfl (by first | exact .inl rfl | exact .inr rfl) (ped_call G__law_random (hr.mono h__law_random) T.g__law_random T.F__law_random.kp T.b__law_random hx rfl (pad_cons (ped_var 0) (pad_cons ped_int pad_nil)))) (pssd_cons (psd_set (i := 2) nd rfl (by first | exact .inl rfl | exact .inr rfl) (ped_op oAdd lift_add ped_int (ped_call G__law_below (hr.mono h__law_below) T.g__law_below T.F__law_below.kp T.b__law_below hx rfl (pad_cons (ped_var 1) (pad_cons ped_int pad_nil))))) (pssd_cons (psd_setLc (own := [("_law_one", 4)]) (i := 3) rfl nd rfl rfl (sw_true rfl rfl (by rfl) (by rfl)) (pid_any (ped_call G__law_lists (hr.mono h__law_lists) T.g__law_lists T.F__law_lists.kp T.b__law_lists hx rfl (pad_cons (ped_var 2) pad_nil))) (blkOk_by (N := n_law) (sc := defScope s_law) (own := [("_law_one", 4)]) (by decide +kernel)) (fun s H C cl fp => (pg_name (i := 4) nd rfl (by first | exact .inl rfl | exact .inr rfl))) (ctg_name (by decide)) (fun s H C cl fp => ptsd_nil) (fun s H C cl fp => (ped_callTy call_list_of lift_list T.z_list rfl rfl (pad_cons (ped_var 4) pad_nil)))) (pssd_cons (psd_par (i := 5) (j := 6) rfl nd rfl rfl (by decide) rfl rfl (pad_cons (ped_call G__law_lists (hr.mono h__law_lists) T.g__law_lists T.F__law_lists.kp T.b__law_lists hx rfl (pad_cons (ped_var 2) pad_nil)) (pad_cons (ped_call G__law_lists (hr.mono h__law_lists) T.g__law_lists T.F__law_lists.kp T.b__law_lists hx rfl (pad_cons (ped_var 2) pad_nil)) pad_nil)) rfl) (pssd_cons (psd_for hp rfl (pid_any (ped_var 5)) (pgd_name (i := 4) nd rfl (by first | exact .inl rfl | exact .inr rfl)) (pssd_cons (psd_expr (ped_met PySem.F.slot_list_append PySem.F.type_list_append mt_append lift_append (ped_var 4) (pad_cons ped_str pad_nil))) (pssd_one (psd_expr (ped_met0 PySem.F.slot_list_reverse PySem.F.type_list_reverse mt_reverse lift_reverse (ped_var 4)))))) (pssd_cons (psd_if (ptd_cmp (op_neD hu) lift_ne (ped_lc (own := [("_law_one", 4)]) rfl nd (pid_any (ped_var 6)) (blkOk_by (N := n_law) (sc := defScope s_law) (own := [("_law_one", 4)]) (by decide +kernel)) (fun s H C cl fp => (pg_name (i := 4) nd rfl (by first | exact .inl rfl | exact .inr rfl))) (ctg_name (by decide)) (fun s H C cl fp => ptsd_nil) (fun s H C cl fp => (ped_callTy call_list_of lift_list T.z_list rfl rfl (pad_cons (ped_var 4) pad_nil)))) (ped_var 3) (nomark _)) (pssd_one (psd_ret ped_bl)) pssd_nil) (pssd_one (psd_ret (ped_cmp (op_eqD hu) lift_eq (ped_lc (own := [("_law_one", 4)]) rfl nd (pid_any (ped_call G__law_lists (hr.mono h__law_lists) T.g__law_lists T.F__law_lists.kp T.b__law_lists hx rfl (pad_cons (ped_var 2) pad_nil))) (blkOk_by (N := n_law) (sc := defScope s_law) (own := [("_law_one", 4)]) (by decide +kernel)) (fun s H C cl fp => (pg_name (i := 4) nd rfl (by first | exact .inl rfl | exact .inr rfl))) (ctg_name (by decide)) (fun s H C cl fp => ptsd_nil) (fun s H C cl fp => (ped_callTy call_list_of lift_list T.z_list rfl rfl (pad_cons (ped_var 4) pad_nil)))) (ped_var 3) (nomark _))))))))))
end Z

namespace Z
open PySem PySem.Spec L2 Y
open PyProof.Rows hiding St
def sp_is_integer : SpD := fun ds G Q E => ∃ d, ds = [d] ∧ plainD d = true ∧ Q (.bl (isIntD d)) G
theorem len_is_integer : ∀ ds G Q E, sp_is_integer ds G Q E → ds.length = p_is_integer.length := by rintro _ _ _ _ ⟨d, rfl, _⟩; rfl
theorem sem_is_integer : ∀ ds G Q E, sp_is_integer ds G Q E → t_is_integer (endsF G Q E) (startD n_is_integer.length ds) G := by
  rintro _ G Q E ⟨d, rfl, hp, q⟩
  cases d <;> first | exact ⟨grew0, rfl, q⟩ | cases hp
def sp_is_from : SpD := fun ds G Q E => ∃ d lo hi, ds = [d, .int lo, .int hi] ∧ plainD d = true ∧ Q (.bl (fromD d lo hi)) G
theorem len_is_from : ∀ ds G Q E, sp_is_from ds G Q E → ds.length = p_is_from.length := by rintro _ _ _ _ ⟨d, lo, hi, rfl, _⟩; rfl
theorem sem_is_from : ∀ ds G Q E, sp_is_from ds G Q E → t_is_from sp_is_integer (endsF G Q E) (startD n_is_from.length ds) G := by
  rintro _ G Q E ⟨d, lo, hi, rfl, hp, q⟩
  refine ⟨d, rfl, hp, ?_⟩
  cases d with
  | int i =>
    unfold fromD at q
    simp only at q
    show (match (D.bl (decide (lo ≤ i)) : D) with | .bl true => _ | .bl false => _ | _ => False)
    cases h : decide (lo ≤ i) with
    | true => rw [h] at q; exact ⟨grew0, rfl, q⟩
    | false => rw [h] at q; exact ⟨grew0, rfl, q⟩
  | _ => exact ⟨grew0, rfl, q⟩
def sp_check_round : SpD := fun ds G Q E => ∃ d, ds = [d] ∧ plainD d = true ∧ (fromD d 1 60 = true → Q .non G) ∧ (fromD d 1 60 = false → E ⟨"BadRound", none⟩ G)
theorem len_check_round : ∀ ds G Q E, sp_check_round ds G Q E → ds.length = p_check_round.length := by rintro _ _ _ _ ⟨d, rfl, _⟩; rfl
theorem sem_check_round : ∀ ds G Q E, sp_check_round ds G Q E → t_check_round sp_is_from (endsF G Q E) (startD n_check_round.length ds) G := by
  rintro _ G Q E ⟨d, rfl, hp, q1, q2⟩
  refine ⟨d, 1, 60, rfl, hp, ?_⟩
  show (if (!fromD d 1 60) = true then _ else _)
  cases h : fromD d 1 60 with
  | true => exact ⟨grew0, q1 h⟩
  | false => exact ⟨grew0, (fun _ _ z => nomatch z), q2 h⟩
def sp_check_lot : SpD := fun ds G Q E => ∃ dn dl, ds = [dn, dl] ∧ plainD dn = true ∧ plainD dl = true ∧ plains dl = true ∧ match lotErr dn dl with | none => Q .non G | some e => E e G
theorem len_check_lot : ∀ ds G Q E, sp_check_lot ds G Q E → ds.length = p_check_lot.length := by rintro _ _ _ _ ⟨d, e, rfl, _⟩; rfl
theorem check_lot_loop {G : GS} {Q : QD} {E : QE} {n : Int} {xs : List D} : ∀ (r pre : List D) (a b : Option D), pre ++ r = xs → (∀ x ∈ r, plainD x = true) → (∀ y, pre.getLast? = some y → ∃ k, y = .int k) →
    (match firstBad n pre.getLast? pre.length r with | none => Q .non G | some i => E ⟨"BadLot", some ("index", .int (i : Int))⟩ G) →
    forL (gTupD (gConsD (gNameD 2) (gConsD (gNameD 3) gNilD))) (tIfSD (tOrD (tNotD (tTestD (tCallD sp_is_from (tConsD (tVarD 3) (tConsD (tCD (.int 0)) (tConsD (tOpD rSubD (tVarD 0) (tCD (.int 1))) tNilD)))))) (tAndD (tTestD (tOpD rGtD (tVarD 2) (tCD (.int 0)))) (tTestD (tOpD rLeD (tVarD 3) (tOpD rIxD (tVarD 1) (tOpD rSubD (tVarD 2) (tCD (.int 1)))))))) (tRaise1D "BadLot" "index" (tVarD 2)) tNextD)
      (endsF G Q E) (enumD pre.length r) [some (.int n), some (.tup xs), a, b] G
  | [], pre, a, b, e, hp, hi, q => ⟨grew0, q⟩
  | x :: r, pre, a, b, e, hp, hi, q => by
    refine ⟨x, 0, n - 1, rfl, hp x (.head _), ?_⟩
    unfold firstBad at q
    show (if (!fromD x 0 (n - 1)) = true then _ else _)
    cases h : fromD x 0 (n - 1) with
    | false =>
      rw [h] at q
      exact ⟨grew0, (fun _ _ z => by cases z; rfl), q⟩
    | true =>
      rw [h] at q
      obtain ⟨k, rfl, _, _⟩ := fromD_int h
      have next : (match firstBad n (some (.int k)) (pre.length + 1) r with | none => Q .non G | some i => E ⟨"BadLot", some ("index", .int (i : Int))⟩ G) →
          forL (gTupD (gConsD (gNameD 2) (gConsD (gNameD 3) gNilD))) _ (endsF G Q E) (enumD (pre.length + 1) r) [some (.int n), some (.tup xs), some (.int pre.length), some (.int k)] G := fun q' => by
        have := check_lot_loop (G := G) (Q := Q) (E := E) (n := n) (xs := xs) r (pre ++ [.int k]) (some (.int pre.length)) (some (.int k)) (by rw [List.append_assoc]; exact e) (fun z hz => hp z (.tail _ hz)) (fun y hy => by
          rw [List.getLast?_concat] at hy; cases hy; exact ⟨k, rfl⟩) (by rw [List.getLast?_concat, List.length_append]; exact q')
        rw [List.length_append] at this
        exact this
      show (if (decide ((0 : Int) < (pre.length : Int))) = true then _ else _)
      by_cases hz : pre = []
      · subst hz
        exact next q
      · obtain ⟨y, hy⟩ : ∃ y, pre.getLast? = some y := by
          rw [List.getLast?_eq_getLast hz]; exact ⟨_, rfl⟩
        obtain ⟨j, rfl⟩ := hi y hy
        have hl : 0 < pre.length := List.length_pos_iff.mpr hz
        rw [decide_eq_true (by omega : (0 : Int) < (pre.length : Int)), if_pos rfl]
        rw [hy] at q
        have ex : atI xs ((pre.length : Int) - 1) = some (.int j) := by
          have e1 : ((pre.length : Int) - 1) = ((pre.length - 1 : Nat) : Int) := by omega
          rw [e1, atI_nat', ← e, List.getElem?_append_left (by omega), ← List.getLast?_eq_getElem?]
          exact hy
        show (match atI xs ((pre.length : Int) - 1) with | some d => _ | none => False)
        rw [ex]
        show (if decide (k ≤ j) = true then _ else _)
        by_cases c : k ≤ j
        · rw [decide_eq_true c, if_pos rfl]
          have : ltOD (some (.int j)) (.int k) = false := by
            show decide (j < k) = false
            simp; omega
          rw [this] at q
          exact ⟨grew0, (fun _ _ z => by cases z; rfl), q⟩
        · rw [decide_eq_false c, if_neg (by decide)]
          have : ltOD (some (.int j)) (.int k) = true := by
            show decide (j < k) = true
            simp; omega
          rw [this] at q
          exact next q
theorem sem_check_lot : ∀ ds G Q E, sp_check_lot ds G Q E → t_check_lot sp_is_from sp_check_round (endsF G Q E) (startD n_check_lot.length ds) G := by
  rintro _ G Q E ⟨dn, dl, rfl, hn, hl, hp, q⟩
  refine ⟨dn, rfl, hn, fun h => ?_, fun h => ?_⟩
  · unfold lotErr at q
    rw [if_pos h] at q
    obtain ⟨n, rfl, _, _⟩ := fromD_int h
    cases dl with
    | tup xs =>
      simp only at q
      refine check_lot_loop xs [] none none rfl (fun x hx => List.all_eq_true.mp hp x hx) (fun y hy => nomatch hy) ?_
      show (match firstBad n none 0 xs with | none => _ | some i => _)
      cases hb : firstBad n none 0 xs with
      | none => rw [hb] at q; exact q
      | some i => rw [hb] at q; exact q
    | obj k => cases hl
    | exn a b c d => cases hl
    | scr ns => cases hl
    | key ns => cases hl
    | _ => exact ⟨grew0, (fun _ _ z => by cases z; rfl), q⟩
  · unfold lotErr at q
    rw [if_neg (by rw [h]; decide)] at q
    exact ⟨grew0, (fun _ _ z => nomatch z), q⟩
def sp_sum_in : SpD := fun ds G Q E => ∃ (n : Int) (lot : List Int), ds = [.int n, tupI lot] ∧ 0 < n ∧ Q (optT (sumIn n lot lot)) G
theorem len_sum_in : ∀ ds G Q E, sp_sum_in ds G Q E → ds.length = p_sum_in.length := by rintro _ _ _ _ ⟨d, e, rfl, _⟩; rfl
theorem sem_sum_in : ∀ ds G Q E, sp_sum_in ds G Q E → t_sum_in (endsF G Q E) (startD n_sum_in.length ds) G := by
  rintro _ G Q E ⟨n, lot, rfl, hn, q⟩
  exact sum_in_loop hn lot [] none none none rfl q
def sp_does_free : SpD := fun ds G Q E => ∃ (n : Int) (lot : List Int), ds = [.int n, tupI lot] ∧ 0 < n ∧ Q (.bl (sumIn n lot lot).isNone) G
theorem len_does_free : ∀ ds G Q E, sp_does_free ds G Q E → ds.length = p_does_free.length := by rintro _ _ _ _ ⟨d, e, rfl, _⟩; rfl
theorem sem_does_free : ∀ ds G Q E, sp_does_free ds G Q E → t_does_free sp_sum_in (endsF G Q E) (startD n_does_free.length ds) G := by
  rintro _ G Q E ⟨n, lot, rfl, hn, q⟩
  refine ⟨n, lot, rfl, hn, ?_⟩
  cases h : sumIn n lot lot with
  | none => rw [h] at q; exact ⟨grew0, rfl, q⟩
  | some t => rw [h] at q; exact ⟨grew0, rfl, q⟩
def sp_with_rest : SpD := fun ds G Q E => ∃ (lot : List Int) (x : Int), ds = [tupI lot, .int x] ∧ lot.length ≤ 100000 ∧ Q (tupI (sortI (lot ++ [x]))) G
theorem len_with_rest : ∀ ds G Q E, sp_with_rest ds G Q E → ds.length = p_with_rest.length := by rintro _ _ _ _ ⟨k, n, rfl, _⟩; rfl
theorem sem_with_rest : ∀ ds G Q E, sp_with_rest ds G Q E → t_with_rest (endsF G Q E) (startD n_with_rest.length ds) G := by
  rintro _ G Q E ⟨lot, x, rfl, hl, q⟩
  refine ⟨by rw [List.length_append, List.length_map]; show lot.length + 1 ≤ _; omega, ?_⟩
  show (match intsD (lot.map D.int ++ [.int x]) with | some ns => _ | none => False)
  have e : lot.map D.int ++ [.int x] = (lot ++ [x]).map .int := by rw [List.map_append]; rfl
  rw [e, intsD_map]
  exact ⟨grew0, below_tup, q⟩
def sp_need_free : SpD := fun ds G Q E => ∃ dn dl, ds = [dn, dl] ∧ plainD dn = true ∧ plainD dl = true ∧ plains dl = true ∧
  match lotErr dn dl with | none => (∀ n lot, dn = .int n → dl = tupI lot → 0 < n → if freeB n lot = true then Q .non G else E ⟨"NotFree", none⟩ G) | some e => E e G
theorem len_need_free : ∀ ds G Q E, sp_need_free ds G Q E → ds.length = p_need_free.length := by rintro _ _ _ _ ⟨d, e, rfl, _⟩; rfl
theorem sem_need_free : ∀ ds G Q E, sp_need_free ds G Q E → t_need_free sp_check_lot sp_does_free (endsF G Q E) (startD n_need_free.length ds) G := by
  rintro _ G Q E ⟨dn, dl, rfl, h1, h2, h3, q⟩
  refine ⟨dn, dl, rfl, h1, h2, h3, ?_⟩
  cases h : lotErr dn dl with
  | none =>
    rw [h] at q
    obtain ⟨n, lot, rfl, rfl, hn, _⟩ := lotErr_none h
    have q' := q n lot rfl rfl (by omega)
    refine ⟨n, lot, rfl, by omega, ?_⟩
    unfold freeB at q'
    cases hf : (sumIn n lot lot).isNone with
    | true => rw [hf, if_pos rfl] at q'; exact ⟨grew0, q'⟩
    | false => rw [hf, if_neg (by decide)] at q'; exact ⟨grew0, (fun _ _ z => nomatch z), q'⟩
  | some e =>
    rw [h] at q
    exact ⟨grew0, lotErr_below h, q⟩
def sp_added : SpD := fun ds G Q E => ∃ (n : Int) (lot : List Int), ds = [.int n, tupI lot] ∧ 0 < n ∧ n ≤ 10000 ∧ lot.length ≤ 10000 ∧ Q (.obj G.length) (G ++ [.lst ((addL n lot).map .int)])
theorem len_added : ∀ ds G Q E, sp_added ds G Q E → ds.length = p_added.length := by rintro _ _ _ _ ⟨d, e, rfl, _⟩; rfl
theorem sem_added : ∀ ds G Q E, sp_added ds G Q E → t_added sp_does_free sp_with_rest (endsG Q E) (startD n_added.length ds) G := by
  rintro _ G Q E ⟨n, lot, rfl, hn, hn2, hl, q⟩
  refine ⟨⟨by omega, by omega⟩, by unfold rngD; rw [List.length_map, List.length_range]; omega, ?_⟩
  rw [rngD_0]
  refine lc_fm (e := D.int) (f := D.int) (p := fun x => !decide (x ∈ lot) && freeB n (sortI (lot ++ [x]))) (rangeI n) [] (fun x hx Q' Ed q' => ?_) (fun x hx hp Q' Ed q' => q') q
  refine ⟨inOk_ints, ?_⟩
  show (if (!inL (.int x) (lot.map .int)) = true then _ else _)
  rw [inL_ints]
  cases c : decide (x ∈ lot) with
  | true => rw [c] at q'; exact q'
  | false =>
    rw [c] at q'
    rw [if_pos (by decide)]
    exact ⟨lot, x, rfl, by omega, n, _, rfl, hn, q'⟩
def sp_adding : SpD := fun ds G Q E => ∃ n : Int, ds = [.int n, .tup []] ∧ 1 ≤ n ∧ n ≤ 14 ∧ Q (.obj G.length) (G ++ [.lst ((addL n []).map .int)])
theorem len_adding : ∀ ds G Q E, sp_adding ds G Q E → ds.length = p_adding.length := by rintro _ _ _ _ ⟨d, rfl, _⟩; rfl
theorem sem_adding : ∀ ds G Q E, sp_adding ds G Q E → t_adding sp_need_free sp_added (endsG Q E) (startD n_adding.length ds) G := by
  rintro _ G Q E ⟨n, rfl, h1, h2, q⟩
  have hL : Lot n [] := ⟨fun _ z => (nomatch z), .nil⟩
  refine ⟨.int n, tupI [], rfl, rfl, rfl, plains_tupI, ?_⟩
  rw [lotErr_ok (by omega) (by omega) hL]
  intro n' lot' e1 e2 e3
  cases e1
  have e4 := tup_inj e2
  subst e4
  rw [if_pos (show freeB n [] = true from rfl)]
  exact ⟨n, [], rfl, by omega, by omega, (show 0 ≤ 10000 by decide), q⟩
def sp_check_small : SpD := fun ds G Q E => ∃ d, ds = [d] ∧ plainD d = true ∧ (fromD d 1 14 = true → Q .non G) ∧ (fromD d 1 60 = false → E ⟨"BadRound", none⟩ G) ∧ (fromD d 15 60 = true → E ⟨"TooGreat", none⟩ G)
theorem len_check_small : ∀ ds G Q E, sp_check_small ds G Q E → ds.length = p_check_small.length := by rintro _ _ _ _ ⟨d, rfl, _⟩; rfl
theorem sem_check_small : ∀ ds G Q E, sp_check_small ds G Q E → t_check_small sp_check_round (endsF G Q E) (startD n_check_small.length ds) G := by
  rintro _ G Q E ⟨d, rfl, hp, q1, q2, q3⟩
  refine ⟨d, rfl, hp, fun h => ?_, fun h => ⟨grew0, (fun _ _ z => nomatch z), q2 h⟩⟩
  obtain ⟨n, rfl, h1, h2⟩ := fromD_int h
  show (if decide ((14 : Int) < n) = true then _ else _)
  by_cases c : 14 < n
  · rw [decide_eq_true c, if_pos rfl]
    refine ⟨grew0, (fun _ _ z => nomatch z), q3 ?_⟩
    show (decide (15 ≤ n) && decide (n ≤ 60)) = true
    rw [decide_eq_true (by omega), decide_eq_true h2]; rfl
  · rw [decide_eq_false c, if_neg (by decide)]
    refine ⟨grew0, q1 ?_⟩
    show (decide (1 ≤ n) && decide (n ≤ 14)) = true
    rw [decide_eq_true h1, decide_eq_true (by omega)]; rfl
def sp_free_lots : SpD := fun ds G Q E => ∃ n : Int, ds = [.int n] ∧ 1 ≤ n ∧ n ≤ 14 ∧ Q (.lst ((freeLots n).map tupI)) G
theorem len_free_lots : ∀ ds G Q E, sp_free_lots ds G Q E → ds.length = p_free_lots.length := by rintro _ _ _ _ ⟨d, rfl, _⟩; rfl
theorem freel_loop {n : Int} (hn : 0 < n) {G : GS} {D : EndsD} : ∀ (l : List Int) (acc : List (List Int)) (a b : Option Y.D), acc.length * 2 ^ l.length ≤ 1000000 → (∀ x ∈ acc, x.length + l.length ≤ 100) →
    (∀ a b, D.nx [some (.int n), some (.lst ((l.foldl (stepF (freeB n)) acc).map tupI)), a, b] G) →
    forL (gNameD 2) (tSetD 1 (tOpD rAddD (tVarD 1) (tLcD (iAnyD (tVarD 1)) (gNameD 3) (tTestD (tCallD sp_does_free (tConsD (tVarD 0) (tConsD (tTupD (tStarD (tVarD 3) (tConsD (tVarD 2) tNilD))) tNilD)))) (tTupD (tStarD (tVarD 3) (tConsD (tVarD 2) tNilD))) [3])))
      D (l.map .int) [some (.int n), some (.lst (acc.map tupI)), a, b] G
  | [], acc, a, b, hz, hr, q => q a b
  | r :: l, acc, a, b, hz, hr, q => by
    have hlen : (r :: l).length = l.length + 1 := rfl
    rw [hlen, Nat.pow_succ] at hz
    have hz1 : acc.length * 2 ≤ 1000000 := by
      have h1 : 1 ≤ 2 ^ l.length := Nat.one_le_two_pow
      have h2 : acc.length * 2 * 1 ≤ acc.length * 2 * 2 ^ l.length := Nat.mul_le_mul_left _ h1
      have h3 : acc.length * 2 * 2 ^ l.length = acc.length * (2 ^ l.length * 2) := by rw [Nat.mul_assoc, Nat.mul_comm 2]
      omega
    refine ⟨by rw [List.length_map]; omega, ?_⟩
    refine lc_fm (e := tupI) (f := fun x => tupI (x ++ [r])) (p := fun x => freeB n (x ++ [r])) acc [] (fun x hx Q' Ed q' => ?_) (fun x hx hp Q' Ed q' => ?_) ?_
    · have := hr x hx
      refine ⟨by rw [List.length_append, List.length_map]; show x.length + 1 ≤ _; omega, n, x ++ [r], ?_, hn, q'⟩
      show [Y.D.int n, Y.D.tup (x.map .int ++ [.int r])] = _
      rw [show (Y.D.tup (x.map .int ++ [.int r]) : Y.D) = tupI (x ++ [r]) from tup_app (s := [r])]
    · have := hr x hx
      refine ⟨by rw [List.length_append, List.length_map]; show x.length + 1 ≤ _; omega, ?_⟩
      rw [← show (Y.D.tup (x.map .int ++ [.int r]) : Y.D) = tupI (x ++ [r]) from tup_app (s := [r])] at q'
      exact q'
    have em : (acc.filter fun x => freeB n (x ++ [r])).map (fun x => tupI (x ++ [r])) = ((acc.filter fun x => freeB n (x ++ [r])).map fun x => x ++ [r]).map tupI := by rw [List.map_map]; rfl
    rw [List.nil_append, em]
    refine ⟨by
      rw [List.length_map, List.length_map, List.length_map]
      have := List.length_filter_le (fun x => freeB n (x ++ [r])) acc
      omega, ?_⟩
    show forL _ _ _ _ [some (.int n), some (.lst (acc.map tupI ++ ((acc.filter fun x => freeB n (x ++ [r])).map fun x => x ++ [r]).map tupI)), some (.int r), b] G
    rw [← List.map_append]
    refine freel_loop (D := { D with nx := D.nx }) hn l (stepF (freeB n) acc r) (some (.int r)) b ?_ (fun x hx => ?_) q
    · have h1 := stepF_length (fr := freeB n) (acc := acc) (r := r)
      have h2 := Nat.mul_le_mul_right (2 ^ l.length) h1
      have h3 : acc.length * 2 * 2 ^ l.length = acc.length * (2 ^ l.length * 2) := by rw [Nat.mul_assoc, Nat.mul_comm 2]
      omega
    · rcases List.mem_append.mp hx with hx | hx
      · have := hr x hx; omega
      · obtain ⟨y, hy, rfl⟩ := List.mem_map.mp hx
        have := hr y (List.mem_filter.mp hy).1
        rw [List.length_append]
        show y.length + 1 + l.length ≤ 100
        omega
theorem sem_free_lots : ∀ ds G Q E, sp_free_lots ds G Q E → t_free_lots sp_does_free (endsF G Q E) (startD n_free_lots.length ds) G := by
  rintro _ G Q E ⟨n, rfl, h1, h2, q⟩
  refine ⟨(show 0 ≤ 16777216 by decide), (show 1 ≤ 16777216 by decide), ⟨by decide, by decide, by omega, by omega⟩, ?_⟩
  rw [rngD_1]
  have hl := length_range1 (n := n)
  refine freel_loop (D := { endsF G Q E with nx := tRetD (tCBD rSortedTD (tConsD (tVarD 1) tNilD)) (endsF G Q E) }) (by omega) (range1 n) [[]] none none ?_ (fun x hx => ?_) fun a b => ?_
  · have a2 : 2 ^ (range1 n).length ≤ 2 ^ 13 := Nat.pow_le_pow_right (by decide) (by omega)
    have a3 : (2 : Nat) ^ 13 = 8192 := by decide
    show 1 * _ ≤ _
    omega
  · rw [List.mem_singleton.mp hx]
    show 0 + _ ≤ _
    omega
  · show (match tupsD (((range1 n).foldl (stepF (freeB n)) [[]]).map tupI) with | some ts => _ | none => False)
    rw [tupsD_map]
    exact ⟨grew0, below_tups, q⟩
def sp_divisor : SpD := fun ds G Q E => ∃ a b : Nat, ds = [.int (a : Int), .int (b : Int)] ∧ Q (.int ((Nat.gcd a b : Nat) : Int)) G
theorem len_divisor : ∀ ds G Q E, sp_divisor ds G Q E → ds.length = p_divisor.length := by rintro _ _ _ _ ⟨a, b, rfl, _⟩; rfl
theorem gcd_loop {G : GS} {D : EndsD} : ∀ (f a b : Nat), b < f → (∀ y, D.nx [some (.int ((Nat.gcd a b : Nat) : Int)), y] G) →
    whileN (tTestD (tOpD Y.rNeD (tVarD 1) (tCD (.int 0)))) (tPar2D 0 1 (tConsD (tVarD 1) (tConsD (tOpD rModD (tVarD 0) (tVarD 1)) tNilD))) D f [some (.int (a : Int)), some (.int (b : Int))] G
  | 0, _, _, h, _ => absurd h (Nat.not_lt_zero _)
  | f + 1, a, b, h, q => by
    refine ⟨rfl, rfl, ?_⟩
    show (if (!eqD (.int (b : Int)) (.int 0)) = true then _ else _)
    rw [eqD_int]
    cases b with
    | zero =>
      rw [if_neg (by decide)]
      rw [Nat.gcd_zero_right] at q
      exact q _
    | succ b =>
      rw [decide_eq_false (by omega), if_pos (by decide)]
      refine ⟨by omega, ?_⟩
      have e : (a : Int) % ((b + 1 : Nat) : Int) = ((a % (b + 1) : Nat) : Int) := (Int.natCast_emod a (b + 1)).symm
      show whileN _ _ D f [some (.int ((b + 1 : Nat) : Int)), some (.int ((a : Int) % ((b + 1 : Nat) : Int)))] G
      rw [e]
      have hm : a % (b + 1) < b + 1 := Nat.mod_lt a (Nat.succ_pos b)
      have eg : Nat.gcd (b + 1) (a % (b + 1)) = Nat.gcd a (b + 1) := (Nat.gcd_comm _ _).trans ((Nat.gcd_rec (b + 1) a).symm.trans (Nat.gcd_comm _ _))
      refine gcd_loop f (b + 1) (a % (b + 1)) (by omega) ?_
      rw [eg]
      exact q
theorem sem_divisor : ∀ ds G Q E, sp_divisor ds G Q E → t_divisor (endsF G Q E) (startD n_divisor.length ds) G := by
  rintro _ G Q E ⟨a, b, rfl, q⟩
  exact ⟨b + 1, gcd_loop (D := { endsF G Q E with nx := tRetD (tVarD 0) (endsF G Q E) }) (b + 1) a b (Nat.lt_succ_self b) fun y => ⟨grew0, rfl, q⟩⟩
def timesL (n : Int) (lot : List Int) (t : Int) : List Int := sortI (lot.map fun x => x * t % n)
def sp_times_of : SpD := fun ds G Q E => ∃ (n t : Int) (lot : List Int), ds = [.int n, tupI lot, .int t] ∧ 0 < n ∧ lot.length ≤ 10000 ∧ (-(2 ^ 64) < t ∧ t < 2 ^ 64) ∧ Q (tupI (timesL n lot t)) G
theorem len_times_of : ∀ ds G Q E, sp_times_of ds G Q E → ds.length = p_times_of.length := by rintro _ _ _ _ ⟨a, b, c, rfl, _⟩; rfl
theorem sem_times_of : ∀ ds G Q E, sp_times_of ds G Q E → t_times_of (endsF G Q E) (startD n_times_of.length ds) G := by
  rintro _ G Q E ⟨n, t, lot, rfl, hn, hl, ht, q⟩
  refine ⟨by rw [List.length_map]; omega, ?_⟩
  refine lc_fm (e := D.int) (f := fun x => D.int (x * t % n)) (p := fun _ => true) lot [] (fun x hx Q' Ed q' => q') (fun x hx hp Q' Ed q' => ⟨.inl (.inr ht), hn, q'⟩) ?_
  have e : (lot.filter fun _ => true).map (fun x => D.int (x * t % n)) = (lot.map fun x => x * t % n).map .int := by
    rw [List.filter_eq_self.mpr (fun _ _ => rfl), List.map_map]; rfl
  rw [List.nil_append, e]
  show (match intsD ((lot.map fun x => x * t % n).map .int) with | some ns => _ | none => False)
  rw [intsD_map]
  exact ⟨grew0, below_tup, q⟩
def copP (n t : Int) : Bool := decide (Nat.gcd t.toNat n.toNat = 1)
def isFirst (n : Int) (lot : List Int) : Bool := ((range1 n).filter (copP n)).all fun t => leT lot (timesL n lot t)
def sp_is_first : SpD := fun ds G Q E => ∃ (n : Int) (lot : List Int), ds = [.int n, tupI lot] ∧ 1 ≤ n ∧ n ≤ 1000 ∧ lot.length ≤ 1000 ∧ Q (.bl (isFirst n lot)) G
theorem len_is_first : ∀ ds G Q E, sp_is_first ds G Q E → ds.length = p_is_first.length := by rintro _ _ _ _ ⟨a, b, rfl, _⟩; rfl
theorem sem_is_first : ∀ ds G Q E, sp_is_first ds G Q E → t_is_first sp_divisor sp_times_of (endsF G Q E) (startD n_is_first.length ds) G := by
  rintro _ G Q E ⟨n, lot, rfl, h1, h2, hl, q⟩
  refine ⟨⟨by decide, by decide, by omega, by omega⟩, ?_, ?_⟩
  · unfold rngD; rw [List.length_map, List.length_range]; omega
  rw [rngD_1]
  refine lc_fm (e := D.int) (f := fun t => D.bl (leT lot (timesL n lot t))) (p := copP n) (range1 n) [] (fun t ht Q' Ed q' => ?_) (fun t ht hp Q' Ed q' => ?_) ?_
  · have := mem_range1.mp ht
    refine ⟨t.toNat, n.toNat, ?_, rfl, rfl, ?_⟩
    · show [D.int t, D.int n] = _
      rw [Int.toNat_of_nonneg (by omega), Int.toNat_of_nonneg (by omega)]
    show Q' (eqD (.int ((Nat.gcd t.toNat n.toNat : Nat) : Int)) (.int 1)) G
    rw [eqD_int]
    have e : decide (((Nat.gcd t.toNat n.toNat : Nat) : Int) = 1) = copP n t := by
      unfold copP
      by_cases c : Nat.gcd t.toNat n.toNat = 1
      · rw [decide_eq_true c, c]; rfl
      · rw [decide_eq_false c]; exact decide_eq_false (by omega)
    rw [e]; exact q'
  · have := mem_range1.mp ht
    refine ⟨n, t, lot, rfl, by omega, by omega, ⟨by omega, by omega⟩, ?_⟩
    show (match intsD (lot.map .int), intsD ((timesL n lot t).map .int) with | some ns, some ms => _ | _, _ => False)
    rw [intsD_map, intsD_map]
    exact q'
  · rw [List.nil_append]
    have e : ((range1 n).filter (copP n)).map (fun t => D.bl (leT lot (timesL n lot t))) = (((range1 n).filter (copP n)).map fun t => leT lot (timesL n lot t)).map .bl := by rw [List.map_map]; rfl
    rw [e]
    show (match blsD ((((range1 n).filter (copP n)).map fun t => leT lot (timesL n lot t)).map .bl) with | some ns => _ | none => False)
    rw [blsD_map]
    refine ⟨grew0, rfl, ?_⟩
    rw [List.all_map]
    exact q
def mostL (n : Int) : Int := maxI ((freeLots n).map fun l => (l.length : Int))
def greatL (n : Int) : List (List Int) := (freeLots n).filter fun l => decide ((l.length : Int) = mostL n) && isFirst n l
def sp_greatest : SpD := fun ds G Q E => ∃ n : Int, ds = [.int n] ∧ 1 ≤ n ∧ n ≤ 14 ∧ Q (.obj G.length) (G ++ [.lst ((greatL n).map tupI)])
theorem len_greatest : ∀ ds G Q E, sp_greatest ds G Q E → ds.length = p_greatest.length := by rintro _ _ _ _ ⟨d, rfl, _⟩; rfl
theorem freeLots_ne {n : Int} : freeLots n ≠ [] := by
  intro h
  have h1 := (sortT_perm ((range1 n).foldl (stepF (freeB n)) [[]])).length_eq
  unfold freeLots at h
  rw [h] at h1
  have : ∀ (r : List Int) (acc : List (List Int)), acc.length ≤ (r.foldl (stepF (freeB n)) acc).length := by
    intro r
    induction r with
    | nil => intro acc; exact Nat.le_refl _
    | cons x r ih =>
      intro acc
      refine Nat.le_trans ?_ (ih (stepF (freeB n) acc x))
      unfold stepF
      rw [List.length_append]; omega
  have := this (range1 n) [[]]
  rw [← h1] at this
  exact absurd this (by decide)
theorem small_no1 {n : Int} {P : Prop} (h1 : 1 ≤ n) (h2 : n ≤ 14) (h : fromD (.int n) 1 60 = false) : P := by
  have h : (decide (1 ≤ n) && decide (n ≤ 60)) = false := h
  rw [decide_eq_true h1, decide_eq_true (by omega)] at h; cases h
theorem small_no2 {n : Int} {P : Prop} (h2 : n ≤ 14) (h : fromD (.int n) 15 60 = true) : P := by
  have h : (decide (15 ≤ n) && decide (n ≤ 60)) = true := h
  rw [decide_eq_false (by omega)] at h; cases h
theorem sem_greatest : ∀ ds G Q E, sp_greatest ds G Q E → t_greatest sp_check_small sp_free_lots sp_is_first (endsG Q E) (startD n_greatest.length ds) G := by
  rintro _ G Q E ⟨n, rfl, h1, h2, q1⟩
  refine ⟨.int n, rfl, rfl, fun _ => ?_, fun h => small_no1 h1 h2 h, fun h => small_no2 h2 h⟩
  have hm := freeLots_many (n := n) h2
  refine ⟨n, rfl, h1, h2, by rw [List.length_map]; omega, ?_⟩
  refine lc_fm (e := tupI) (f := fun l => D.int (l.length : Int)) (p := fun _ => true) (freeLots n) [] (fun x hx Q' Ed q' => q') (fun x hx hp Q' Ed q' => ?_) ?_
  · show Q' (.int (((x.map D.int).length : Nat) : Int)) G
    rw [List.length_map]; exact q'
  have e : ((freeLots n).filter fun _ => true).map (fun l => D.int (l.length : Int)) = ((freeLots n).map fun l => (l.length : Int)).map .int := by
    rw [List.filter_eq_self.mpr (fun _ _ => rfl), List.map_map]; rfl
  rw [List.nil_append, e]
  show (match intsD (((freeLots n).map fun l => (l.length : Int)).map .int) with | some ns => _ | none => False)
  rw [intsD_map]
  refine ⟨fun z => freeLots_ne (List.map_eq_nil_iff.mp z), by rw [List.length_map]; omega, ?_⟩
  refine lc_fm (e := tupI) (f := tupI) (p := fun l => decide ((l.length : Int) = mostL n) && isFirst n l) (freeLots n) [] (fun x hx Q' Ed q' => ?_) (fun x hx hp Q' Ed q' => q') ?_
  · refine ⟨rfl, rfl, ?_⟩
    show (if eqD (.int (((x.map D.int).length : Nat) : Int)) (.int (mostL n)) = true then _ else _)
    rw [eqD_int, List.length_map]
    cases c : decide ((x.length : Int) = mostL n) with
    | false => rw [c] at q'; exact q'
    | true =>
      rw [c] at q'
      have := freeLots_len hx
      exact ⟨n, x, rfl, by omega, by omega, by omega, q'⟩
  · rw [List.nil_append]
    exact q1
def fullL (n : Int) : List (List Int) := (freeLots n).filter fun l => (addL n l).isEmpty
def sp_full_lots : SpD := fun ds G Q E => ∃ n : Int, ds = [.int n] ∧ 1 ≤ n ∧ n ≤ 14 ∧ ∀ L : GS, Q (.obj (G ++ L).length) (G ++ L ++ [.lst ((fullL n).map tupI)])
theorem len_full_lots : ∀ ds G Q E, sp_full_lots ds G Q E → ds.length = p_full_lots.length := by rintro _ _ _ _ ⟨d, rfl, _⟩; rfl
theorem full_loop {n : Int} {Q : List D → GS → Prop} (h1 : 1 ≤ n) (h2 : n ≤ 14) : ∀ (l : List (List Int)) (acc : List D) (G : GS), (∀ x ∈ l, x.length ≤ 10000) → (∀ L : GS, Q (acc ++ (l.filter fun l => (addL n l).isEmpty).map tupI) (G ++ L)) →
    lcL (gNameD 1) (tTestD (tOpD Y.rEqD (tCBD rLenD (tConsD (tCallD sp_added (tConsD (tVarD 0) (tConsD (tVarD 1) tNilD))) tNilD)) (tCD (.int 0)))) (tVarD 1) (l.map tupI) acc [some (.int n), none] G Q
  | [], acc, G, _, q => by
    have := q []
    rw [List.append_nil] at this
    rw [List.filter_nil, List.map_nil, List.append_nil] at this
    exact this
  | x :: l, acc, G, hx, q => by
    refine ⟨n, x, rfl, by omega, by omega, hx x (.head _), ?_⟩
    have em : (G ++ [MO.lst ((addL n x).map .int)])[G.length]? = some (.lst ((addL n x).map .int)) := (getLast_set (m' := .dead)).1
    show (match itemsD (G ++ [MO.lst ((addL n x).map .int)]) (.obj G.length) with | some xs => _ | none => _)
    rw [items_obj em]
    refine ⟨rfl, rfl, ?_⟩
    show (if eqD (.int (((addL n x).map D.int).length : Int)) (.int 0) = true then _ else _)
    rw [eqD_int, List.length_map]
    have e : decide (((addL n x).length : Int) = 0) = (addL n x).isEmpty := by
      cases addL n x with
      | nil => rfl
      | cons x r => exact decide_eq_false (by simp; omega)
    rw [e]
    cases c : (addL n x).isEmpty with
    | true =>
      rw [if_pos rfl]
      refine full_loop h1 h2 l (acc ++ [tupI x]) _ (fun y hy => hx y (.tail _ hy)) fun L => ?_
      have := q ([MO.lst ((addL n x).map .int)] ++ L)
      rw [List.filter_cons, if_pos c] at this
      rw [List.append_assoc, List.append_assoc]
      exact this
    | false =>
      rw [if_neg (by decide)]
      refine full_loop h1 h2 l acc _ (fun y hy => hx y (.tail _ hy)) fun L => ?_
      have := q ([MO.lst ((addL n x).map .int)] ++ L)
      rw [List.filter_cons, if_neg (by rw [c]; decide)] at this
      rw [List.append_assoc]
      exact this
theorem sem_full_lots : ∀ ds G Q E, sp_full_lots ds G Q E → t_full_lots sp_added sp_check_small sp_free_lots (endsG Q E) (startD n_full_lots.length ds) G := by
  rintro _ G Q E ⟨n, rfl, h1, h2, q⟩
  refine ⟨.int n, rfl, rfl, fun _ => ?_, fun h => small_no1 h1 h2 h, fun h => small_no2 h2 h⟩
  have hm := freeLots_many (n := n) h2
  refine ⟨n, rfl, h1, h2, by rw [List.length_map]; omega, ?_⟩
  refine full_loop h1 h2 (freeLots n) [] G (fun x hx => by have := freeLots_len hx; omega) fun L => ?_
  rw [List.nil_append]
  exact q L
def isBl : D → Bool
  | .bl _ => true
  | _ => false
def seenB (n : Int) (d : D) : Bool := match d with
  | .tup [a, b] => fromD a 0 (n - 1) && isBl b
  | _ => false
def sp_is_seen : SpD := fun ds G Q E => ∃ (n : Int) (d : D), ds = [.int n, d] ∧ plainD d = true ∧ plains d = true ∧ Q (.bl (seenB n d)) G
theorem len_is_seen : ∀ ds G Q E, sp_is_seen ds G Q E → ds.length = p_is_seen.length := by rintro _ _ _ _ ⟨a, b, rfl, _⟩; rfl
theorem sem_is_seen : ∀ ds G Q E, sp_is_seen ds G Q E → t_is_seen sp_is_from (endsF G Q E) (startD n_is_seen.length ds) G := by
  rintro _ G Q E ⟨n, d, rfl, hd, hp, q⟩
  cases d with
  | tup xs =>
    have hx : ∀ x ∈ xs, plainD x = true := List.all_eq_true.mp hp
    refine ⟨rfl, rfl, ?_⟩
    show (if (!eqD (.int (xs.length : Int)) (.int 2)) = true then _ else _)
    rw [eqD_int]
    by_cases c : xs.length = 2
    · match xs, c, hx, q with
      | [a, b], _, hx, q =>
        rw [show decide ((([a, b] : List D).length : Int) = 2) = true from rfl, if_neg (by decide)]
        refine ⟨a, 0, n - 1, rfl, hx a (.head _), ?_⟩
        have q' : Q (.bl (fromD a 0 (n - 1) && isBl b)) G := q
        cases hf : fromD a 0 (n - 1) with
        | false => rw [hf] at q'; exact ⟨grew0, rfl, q'⟩
        | true =>
          rw [hf] at q'
          have hb := hx b (.tail _ (.head _))
          cases b with
          | obj k => cases hb
          | exn _ _ _ _ => cases hb
          | scr _ => cases hb
          | key _ => cases hb
          | _ => exact ⟨grew0, rfl, q'⟩
    · rw [decide_eq_false (by omega), if_pos (by decide)]
      have e : seenB n (.tup xs) = false := by
        unfold seenB
        split
        · rename_i a b e
          cases e
          exact absurd rfl c
        · rfl
      rw [e] at q
      exact ⟨grew0, rfl, q⟩
  | obj k => cases hd
  | exn _ _ _ _ => cases hd
  | scr _ => cases hd
  | key _ => cases hd
  | _ => exact ⟨grew0, rfl, q⟩
def pairD (p : Int × Bool) : D := .tup [.int p.1, .bl p.2]
def fitB (ps : List (Int × Bool)) (lot : List Int) : Bool := (ps.map fun p => decide (p.1 ∈ lot) == p.2).all id
def fitL (n : Int) (ps : List (Int × Bool)) : List (List Int) := (freeLots n).filter (fitB ps)
def firstSeen (n : Int) : Nat → List D → Option Nat
  | _, [] => none
  | i, x :: r => if seenB n x = true then firstSeen n (i + 1) r else some i
def seqD : D → Option (List D)
  | .lst xs => some xs
  | .tup xs => some xs
  | _ => none
def fitErr (dn ds : D) : Option Er := if fromD dn 1 60 = true then (if fromD dn 15 60 = true then some ⟨"TooGreat", none⟩ else match dn, seqD ds with
    | .int n, some xs => (firstSeen n 0 xs).map fun (i : Nat) => ⟨"BadSeen", some ("index", .int (i : Int))⟩
    | _, _ => some ⟨"BadSeen", some ("index", .non)⟩)
  else some ⟨"BadRound", none⟩
theorem firstSeen_pairs {n : Int} : ∀ {xs : List D} {i : Nat}, firstSeen n i xs = none → ∃ ps : List (Int × Bool), xs = ps.map pairD ∧ ∀ p ∈ ps, 0 ≤ p.1 ∧ p.1 < n
  | [], _, _ => ⟨[], rfl, fun _ h => nomatch h⟩
  | x :: r, i, h => by
    unfold firstSeen at h
    split at h
    · rename_i hc
      obtain ⟨ps, rfl, hp⟩ := firstSeen_pairs h
      unfold seenB at hc
      split at hc
      · rename_i a b
        obtain ⟨h1, h2⟩ := Bool.and_eq_true_iff.mp hc
        obtain ⟨k, rfl, h3, h4⟩ := fromD_int h1
        cases b with
        | bl b =>
          refine ⟨(k, b) :: ps, rfl, fun p hp' => ?_⟩
          rcases List.mem_cons.mp hp' with rfl | hp'
          · exact ⟨h3, by show k < n; omega⟩
          · exact hp p hp'
        | _ => cases h2
      · cases hc
    · cases h
def sp_fitting : SpD := fun ds G Q E => ∃ n : Int, ds = [.int n, .lst []] ∧ 1 ≤ n ∧ n ≤ 14 ∧ Q (.obj G.length) (G ++ [.lst ((fitL n []).map tupI)])
theorem len_fitting : ∀ ds G Q E, sp_fitting ds G Q E → ds.length = p_fitting.length := by rintro _ _ _ _ ⟨a, rfl, _⟩; rfl
theorem sem_fitting : ∀ ds G Q E, sp_fitting ds G Q E → t_fitting sp_check_small sp_free_lots sp_is_seen (endsG Q E) (startD n_fitting.length ds) G := by
  rintro _ G Q E ⟨n, rfl, h1, h2, q⟩
  refine ⟨.int n, rfl, rfl, fun _ => ?_, fun h => small_no1 h1 h2 h, fun h => small_no2 h2 h⟩
  have hm := freeLots_many (n := n) h2
  refine ⟨n, rfl, h1, h2, by rw [List.length_map]; omega, ?_⟩
  refine lc_fm (e := tupI) (f := tupI) (p := fitB []) (freeLots n) [] (fun lot hlot Q' Ed q2 => ⟨(show 0 ≤ 16777216 by decide), q2⟩) (fun x hx hp Q' Ed q2 => q2) ?_
  exact q
def sp_has_sum : SpD := fun ds G Q E => ∃ (d : D) (l : List Int), ds = [d] ∧ itD d = some (l.map .int) ∧ l.length ≤ 1000 ∧ Q (.bl (hasSumL l)) G
theorem len_has_sum : ∀ ds G Q E, sp_has_sum ds G Q E → ds.length = p_has_sum.length := by rintro _ _ _ _ ⟨d, l, rfl, _⟩; rfl
theorem has_core {d : D} {l : List Int} {G : GS} {Q : QD} (hd : d = .lst (l.map .int) ∨ d = .tup (l.map .int)) (hl : l.length ≤ 1000) (q : Q (.bl (hasSumL l)) G) :
    lcL2 (gNameD 1) tYesD (iAnyD (tVarD 0)) (gNameD 2) tYesD (tOpD Y.rInD (tOpD rAddD (tVarD 1) (tVarD 2)) (tVarD 0)) [2] (l.map .int) [] [some d, none, none] G (fun acc G2 => rAnyD [.lst acc] G2 Q) := by
  refine lc2_gen (e := D.int) (F := fun x => l.map fun y => D.bl (decide (x + y ∈ l))) (p := fun _ => true) l.length l [] ?_ (fun x _ => by rw [List.length_map]; exact Nat.le_refl _) (fun x hx acc K J hz hk => ?_) ?_
  · show 0 + l.length * l.length ≤ _
    have := Nat.mul_le_mul hl hl
    omega
  · rw [if_pos rfl] at hk
    have fin : ∀ d', (d' = D.lst (l.map .int) ∨ d' = .tup (l.map .int)) → lcL (gNameD 2) tYesD (tOpD Y.rInD (tOpD rAddD (tVarD 1) (tVarD 2)) (tVarD 0)) (l.map .int) acc [some d', some (.int x), none] G K := fun d' hd' => by
      refine lc_fm (e := D.int) (f := fun y => D.bl (decide (x + y ∈ l))) (p := fun _ => true) l acc (fun y hy Q' Ed q' => q') (fun y hy hp Q' Ed q' => ?_) ?_
      · have e : inL (.int (x + y)) (l.map .int) = decide (x + y ∈ l) := inL_ints
        rw [← e] at q'
        rcases hd' with rfl | rfl
        · exact ⟨inOk_ints, q'⟩
        · exact ⟨inOk_ints, q'⟩
      · rw [List.filter_eq_self.mpr (fun _ _ => rfl)]
        exact hk
    rcases hd with rfl | rfl
    · exact ⟨by rw [List.length_map]; omega, fin _ (.inl rfl)⟩
    · exact ⟨by rw [List.length_map]; omega, fin _ (.inr rfl)⟩
  · rw [List.filter_eq_self.mpr (fun _ _ => rfl), List.nil_append]
    have e : (l.flatMap fun x => l.map fun y => D.bl (decide (x + y ∈ l))) = (l.flatMap fun x => l.map fun y => decide (x + y ∈ l)).map .bl := by
      rw [List.map_flatMap]
      congr 1
      funext x
      rw [List.map_map]; rfl
    show (match blsD (l.flatMap fun x => l.map fun y => D.bl (decide (x + y ∈ l))) with | some ns => Q (.bl (ns.any id)) G | none => False)
    rw [e, blsD_map]
    have e2 : (l.flatMap fun x => l.map fun y => decide (x + y ∈ l)).any id = hasSumL l := by
      rw [List.any_flatMap]
      unfold hasSumL
      congr 1
      funext x
      rw [List.any_map]; rfl
    rw [← e2] at q
    exact q
theorem sem_has_sum : ∀ ds G Q E, sp_has_sum ds G Q E → t_has_sum (endsF G Q E) (startD n_has_sum.length ds) G := by
  rintro _ G Q E ⟨d, l, rfl, hd, hl, q⟩
  have core := has_core (G := G) (Q := (endsF G Q E).rt) (itD_cases hd) hl ⟨grew0, rfl, q⟩
  rcases itD_cases hd with rfl | rfl
  · exact core
  · exact core
def sp_check_whole : SpD := fun ds G Q E => ∃ (d : D) (m : Int), ds = [d, .int m] ∧ plainD d = true ∧ (fromD d 0 m = true → Q .non G) ∧ (fromD d 0 m = false → E ⟨"BadRound", none⟩ G)
theorem len_check_whole : ∀ ds G Q E, sp_check_whole ds G Q E → ds.length = p_check_whole.length := by rintro _ _ _ _ ⟨d, m, rfl, _⟩; rfl
theorem sem_check_whole : ∀ ds G Q E, sp_check_whole ds G Q E → t_check_whole sp_is_from (endsF G Q E) (startD n_check_whole.length ds) G := by
  rintro _ G Q E ⟨d, m, rfl, hp, q1, q2⟩
  refine ⟨d, 0, m, rfl, hp, ?_⟩
  show (if (!fromD d 0 m) = true then _ else _)
  cases h : fromD d 0 m with
  | true => rw [if_neg (by decide)]; exact ⟨grew0, q1 h⟩
  | false => rw [if_pos (by decide)]; exact ⟨grew0, (fun _ _ z => nomatch z), q2 h⟩
def wholeF (l : List Int) : Bool := !hasSumL l
def everyW (n : Int) : List (List Int) := (rngI 1 (n + 1)).foldl (stepF wholeF) [[]]
def mostW (n : Int) : Int := maxI ((everyW n).map fun l => (l.length : Int))
def wholeL (n : Int) : List (List Int) := sortT ((everyW n).filter fun l => decide ((l.length : Int) = mostW n))
theorem everyW_many {n : Int} (h : n ≤ 16) : (everyW n).length ≤ 65536 := by
  have h2 := fold_many (fr := wholeF) (rngI 1 (n + 1)) [[]]
  have h3 : 2 ^ (rngI 1 (n + 1)).length ≤ 2 ^ 16 := Nat.pow_le_pow_right (by decide) (by rw [length_rngI]; omega)
  have h4 : (2 : Nat) ^ 16 = 65536 := by decide
  have h5 : ([[]] : List (List Int)).length = 1 := rfl
  unfold everyW
  rw [h5] at h2
  omega
theorem everyW_len {n : Int} {l : List Int} (h0 : 0 ≤ n) (h : n ≤ 16) (hl : l ∈ everyW n) : l.length ≤ 16 := by
  have := (fold_sub0 hl).length_le
  rw [length_rngI] at this
  omega
theorem everyW_ne {n : Int} : everyW n ≠ [] := by
  intro h
  have h2 := fold_least (fr := wholeF) (rngI 1 (n + 1)) [[]]
  unfold everyW at h
  rw [h] at h2
  exact absurd h2 (by decide)
def sp_whole_lots : SpD := fun ds G Q E => ∃ n : Int, ds = [.int n] ∧ 0 ≤ n ∧ n ≤ 16 ∧ Q (.obj G.length) (G ++ [.lst ((wholeL n).map tupI)])
theorem len_whole_lots : ∀ ds G Q E, sp_whole_lots ds G Q E → ds.length = p_whole_lots.length := by rintro _ _ _ _ ⟨d, rfl, _⟩; rfl
/-- one number more -/
theorem fold_next {fr : List Int → Bool} {pre : List Int} {x : Int} : (pre ++ [x]).foldl (stepF fr) [[]] = pre.foldl (stepF fr) [[]] ++ ((pre.foldl (stepF fr) [[]]).filter fun l => fr (l ++ [x])).map fun l => l ++ [x] := by
  rw [List.foldl_append]; rfl
theorem sem_whole_lots : ∀ ds G Q E, sp_whole_lots ds G Q E → t_whole_lots sp_has_sum sp_check_whole (endsG Q E) (startD n_whole_lots.length ds) G := by
  rintro _ G Q E ⟨n, rfl, h1, h2, q1⟩
  refine ⟨.int n, 16, rfl, rfl, fun _ => ?_, fun h => ?_⟩
  rotate_left
  · have h : (decide (0 ≤ n) && decide (n ≤ 16)) = false := h
    rw [decide_eq_true h1, decide_eq_true h2] at h; cases h
  refine ⟨(show 0 ≤ 16777216 by decide), (show 1 ≤ 16777216 by decide), ⟨by decide, by decide, by omega, by omega⟩, ?_⟩
  rw [rngD_ab]
  have hlen : (rngI 1 (n + 1)).length ≤ 16 := by rw [length_rngI]; omega
  refine for_pre (e := D.int) (fun pre ρ G' => G' = G ∧ ∃ a b, ρ = [some (.int n), some (.lst ((pre.foldl (stepF wholeF) [[]]).map tupI)), a, b, none]) (rngI 1 (n + 1)) ⟨rfl, none, none, rfl⟩ ?_ ?_
  · rintro pre x post hs _ _ ⟨rfl, a, b, rfl⟩ D' r1 r2 r3 nx ct
    have hpre : pre.length + 1 ≤ 16 := by rw [hs, List.length_append, List.length_cons] at hlen; omega
    have hmany := fold_many (fr := wholeF) pre [[]]
    have hpow : 2 ^ pre.length ≤ 2 ^ 15 := Nat.pow_le_pow_right (by decide) (by omega)
    have hp15 : (2 : Nat) ^ 15 = 32768 := by decide
    have h11 : ([[]] : List (List Int)).length = 1 := rfl
    rw [h11] at hmany
    have hsub : ∀ l ∈ pre.foldl (stepF wholeF) [[]], l.length ≤ 16 := fun l hl => by
      have := (fold_sub0 hl).length_le; omega
    have hnext := fold_next (fr := wholeF) (pre := pre) (x := x)
    generalize pre.foldl (stepF wholeF) [[]] = acc at hmany hsub hnext ⊢
    refine ⟨by rw [List.length_map]; omega, ?_⟩
    refine lc_fm (e := tupI) (f := fun l => tupI (l ++ [x])) (p := fun l => wholeF (l ++ [x])) acc [] (fun l hl Q' Ed q' => ?_) (fun l hl hp Q' Ed q' => ?_) ?_
    · have := hsub l hl
      refine ⟨by rw [List.length_append, List.length_map]; show l.length + 1 ≤ _; omega, tupI (l ++ [x]), l ++ [x], ?_, rfl, by rw [List.length_append]; show l.length + 1 ≤ _; omega, q'⟩
      show [D.tup (l.map .int ++ [.int x])] = _
      rw [show (D.tup (l.map .int ++ [.int x]) : D) = tupI (l ++ [x]) from tup_app (s := [x])]
    · have := hsub l hl
      refine ⟨by rw [List.length_append, List.length_map]; show l.length + 1 ≤ _; omega, ?_⟩
      rw [← show (D.tup (l.map .int ++ [.int x]) : D) = tupI (l ++ [x]) from tup_app (s := [x])] at q'
      exact q'
    have em : (acc.filter fun l => wholeF (l ++ [x])).map (fun l => tupI (l ++ [x])) = ((acc.filter fun l => wholeF (l ++ [x])).map fun l => l ++ [x]).map tupI := by rw [List.map_map]; rfl
    rw [List.nil_append, em]
    refine ⟨by
      rw [List.length_map, List.length_map, List.length_map]
      have := List.length_filter_le (fun l => wholeF (l ++ [x])) acc
      omega, ?_⟩
    refine nx _ _ ⟨rfl, some (.int x), b, ?_⟩
    rw [hnext, List.map_append]; rfl
  · rintro _ _ ⟨rfl, a, b, rfl⟩
    have hE : (rngI 1 (n + 1)).foldl (stepF wholeF) [[]] = everyW n := rfl
    rw [hE]
    have hm := everyW_many h2
    refine ⟨by rw [List.length_map]; omega, ?_⟩
    refine lc_fm (e := tupI) (f := fun l => D.int (l.length : Int)) (p := fun _ => true) (everyW n) [] (fun x hx Q' Ed q' => q') (fun x hx hp Q' Ed q' => ?_) ?_
    · show Q' (.int (((x.map D.int).length : Nat) : Int)) _
      rw [List.length_map]; exact q'
    have e : ((everyW n).filter fun _ => true).map (fun l => D.int (l.length : Int)) = ((everyW n).map fun l => (l.length : Int)).map .int := by
      rw [List.filter_eq_self.mpr (fun _ _ => rfl), List.map_map]; rfl
    rw [List.nil_append, e]
    show (match intsD (((everyW n).map fun l => (l.length : Int)).map .int) with | some ns => _ | none => False)
    rw [intsD_map]
    refine ⟨fun z => everyW_ne (List.map_eq_nil_iff.mp z), by rw [List.length_map]; omega, ?_⟩
    refine lc_fm (e := tupI) (f := tupI) (p := fun l => decide ((l.length : Int) = mostW n)) (everyW n) [] (fun x hx Q' Ed q' => ?_) (fun x hx hp Q' Ed q' => q') ?_
    · refine ⟨rfl, rfl, ?_⟩
      show Q' (eqD (.int (((x.map D.int).length : Nat) : Int)) (.int (mostW n))) _
      rw [eqD_int, List.length_map]; exact q'
    · rw [List.nil_append]
      show (match tupsD (((everyW n).filter fun l => decide ((l.length : Int) = mostW n)).map tupI) with | some ts => _ | none => False)
      rw [tupsD_map]
      exact q1
def sp__law_random : SpD := fun ds G Q E => ∃ (ns : List Int) (salt : Int), ds = [.scr ns, .int salt] ∧ ns.length ≤ 63 ∧ 0 ≤ salt ∧ salt < 2147483647 ∧ Q (.obj G.length) (G ++ [.rnd])
theorem len__law_random : ∀ ds G Q E, sp__law_random ds G Q E → ds.length = p__law_random.length := by rintro _ _ _ _ ⟨d, e, rfl, _⟩; rfl
theorem sem__law_random : ∀ ds G Q E, sp__law_random ds G Q E → t__law_random (endsG Q E) (startD n__law_random.length ds) G := by
  rintro _ G Q E ⟨ns, salt, rfl, hl, h1, h2, q⟩
  refine random_loop (ns := ns) (a := .int salt) (fun s s1 s2 c => ?_) ns salt none h1 h2
  refine ⟨(show 2 ≤ 16777216 by decide), by rw [List.length_map]; omega, ?_⟩
  refine random_comp (ρ := []) (ns := ns) ns [] (fun r hr => ?_)
  have hr' : r.length ≤ 63 := by simp at hr; omega
  refine ⟨by simp; omega, ?_⟩
  have eg := getLast_set (G := G) (m := MO.lst ([.int s, .int 0] ++ r.map .int)) (m' := .rnd)
  show (match (G ++ [MO.lst ([.int s, .int 0] ++ r.map .int)])[G.length]? with | some (.lst ds) => _ | _ => False)
  rw [eg.1]
  refine ⟨⟨s :: 0 :: r, ?_, s, 0, r, rfl, s1, s2, by omega⟩, ?_⟩
  · exact intsD_map (s :: 0 :: r)
  · show Q _ ((G ++ [MO.lst ([.int s, .int 0] ++ r.map .int)]).set G.length .rnd)
    rw [eg.2]
    exact q
def sp_below_lst : SpD := fun ds G Q E => ∃ (k : Nat) (n a b : Int) (r : List Int), ds = [.obj k, .int n] ∧ 0 < n ∧ n < 1073741824 ∧ G[k]? = some (.lst ((a :: b :: r).map .int)) ∧ 0 ≤ a ∧ a < 2147483647 ∧ r.length ≤ 98 ∧
  ∀ (m a' b' : Int) (r' : List Int), 0 ≤ m → m < n → 0 ≤ a' → a' < 2147483647 → r'.length ≤ 98 → Q (.int m) (G.set k (.lst ((a' :: b' :: r').map .int)))
theorem len_below_lst : ∀ ds G Q E, sp_below_lst ds G Q E → ds.length = p__law_below.length := by rintro _ _ _ _ ⟨k, n, a, b, r, rfl, _⟩; rfl
theorem sem_below_lst : ∀ ds G Q E, sp_below_lst ds G Q E → t__law_below (endsG Q E) (startD n__law_below.length ds) G := by
  rintro _ G Q E ⟨k, n, a, b, r, rfl, hn, hn2, hG, ha, ha2, hr, q⟩
  have hk : k < G.length := (List.getElem?_eq_some_iff.mp hG).1
  have hG' : G[k]? = some (.lst (.int a :: .int b :: r.map .int)) := hG
  have p1 := below_part (E := E) hn hn2 hG ha ha2 hr q
  unfold t__law_below
  rw [tSeqD]
  by_cases c : b = 0
  · cases r with
    | nil =>
      subst c
      simp only [tIfSD, tAndD, tTestD, tOpD, tVarD, tCD, tCBD, tConsD, tNilD, Y.rIxD, rLenD, itemsD, rGtD, rInt0D, Y.rEqD, startD, List.map_cons, List.map_nil, List.length_cons, List.length_nil, List.replicate, List.cons_append, List.nil_append, List.getElem?_cons_zero, List.getElem?_cons_succ, hG', at_1, vw, eqD_int]
      exact ⟨rfl, rfl, p1⟩
    | cons b2 r2 =>
      subst c
      simp only [tIfSD, tAndD, tTestD, tOpD, tVarD, tCD, tCBD, tConsD, tNilD, Y.rIxD, rLenD, itemsD, rGtD, rInt0D, Y.rEqD, startD, List.map_cons, List.map_nil, List.length_cons, List.length_nil, List.replicate, List.cons_append, List.nil_append, List.getElem?_cons_zero, List.getElem?_cons_succ, hG', at_1, vw, eqD_int]
      refine ⟨rfl, rfl, ?_⟩
      rw [if_pos (decide_eq_true trivial), if_pos (decide_eq_true (by omega))]
      have h2 : (G.set k (.lst (.int a :: .int 0 :: r2.map .int)))[k]? = some (.lst (.int a :: .int 0 :: r2.map .int)) := List.getElem?_set_self hk
      refine ⟨⟨k, _, rfl, hG'⟩, ?_⟩
      simp only [tConsD, tNilD, rPopAtD, hG', tVarD, gSubD, tCD, setIxD, List.getElem?_cons_zero, List.getElem?_cons_succ]
      refine ⟨by decide, by simp at hr ⊢; omega, ?_⟩
      show (match (G.set k (.lst (.int a :: .int 0 :: r2.map .int)))[k]? with | some (.lst ds) => _ | _ => False)
      rw [h2]
      simp only [List.length_cons, ix_1l, List.set_cons_succ, List.set_cons_zero, List.set_set]
      refine below_part (a := a) (b := b2) (r := r2) hn hn2 (List.getElem?_set_self hk) ha ha2 (by simp at hr; omega) (fun m a' b' r' m1 m2 m3 m4 m5 => ?_)
      rw [List.set_set]
      exact q m a' b' r' m1 m2 m3 m4 m5
  · simp only [tIfSD, tAndD, tTestD, tOpD, tVarD, tCD, tCBD, tConsD, tNilD, Y.rIxD, rLenD, itemsD, rGtD, rInt0D, Y.rEqD, startD, List.map_cons, List.map_nil, List.length_cons, List.length_nil, List.replicate, List.cons_append, List.nil_append, List.getElem?_cons_zero, List.getElem?_cons_succ, hG', at_1, vw, eqD_int]
    refine ⟨rfl, rfl, ?_⟩
    rw [decide_eq_false c, if_neg (by decide)]
    exact p1
def sp__law_below : SpD := fun ds G Q E => ∃ (k : Nat) (n : Int), ds = [.obj k, .int n] ∧ G[k]? = some .rnd ∧ 0 < n ∧ n < 1073741824 ∧ ∀ m : Int, 0 ≤ m → m < n → Q (.int m) G
theorem below_imp {K : PySem.W.Frag} {mg : Str → Option Value} : ∀ vs H Q E, liftSp K mg sp__law_below vs H Q E → liftSp K mg sp_below_lst vs H Q E := by
  rintro vs H Q E ⟨ds, η, G, Qd, Ed, r, w, ⟨k, n, rfl, hG, hn, hn2, q⟩, hq, hE⟩
  have hk : k < G.length := (List.getElem?_eq_some_iff.mp hG).1
  obtain ⟨ns, ⟨a, b, t, rfl, h1, h2, h3⟩, w'⟩ := w.ofRnd hG
  refine ⟨[.obj k, .int n], η, G.set k (.lst ((a :: b :: t).map .int)), (fun d G' => ∃ m a' b' r', d = .int m ∧ 0 ≤ m ∧ m < n ∧ 0 ≤ a' ∧ a' < 2147483647 ∧ r'.length ≤ 98 ∧ G' = G.set k (.lst ((a' :: b' :: r').map .int))), (fun _ _ => False), r, w', ?_, ?_, le_none⟩
  · refine ⟨k, n, a, b, t, rfl, hn, hn2, by rw [List.getElem?_set_self hk], h1, h2, h3, fun m a' b' r' m1 m2 m3 m4 m5 => ⟨m, a', b', r', rfl, m1, m2, m3, m4, m5, by rw [List.set_set]⟩⟩
  · rintro d G' v η' H' s' w2 r' ⟨m, a', b', t', rfl, m1, m2, m3, m4, m5, rfl⟩
    have e : (G.set k (.lst ((a' :: b' :: t').map .int))).set k .rnd = G := by
      rw [List.set_set]
      obtain ⟨h, e⟩ := List.getElem?_eq_some_iff.mp hG
      rw [← e, List.set_getElem_self]
    have w3 := w2.toRnd (k := k) (ns := a' :: b' :: t') (by rw [List.getElem?_set_self hk]) ⟨a', b', t', rfl, m3, m4, m5⟩
    rw [e] at w3
    exact hq (.int m) G v η' H' s' w3 r' (q m m1 m2)
def datsL (n : Int) : List (List D) := [(addL n []).map .int, (fullL n).map tupI, (greatL n).map tupI, (fitL n []).map tupI, (wholeL n).map tupI]
/-- five new lists, each at its own number -/
structure Got (n : Int) (G G' : GS) (zs : List (Nat × List D)) : Prop where
  dats : zs.map (·.2) = datsL n
  new : ∀ z ∈ zs, G.length ≤ z.1
  at_ : ∀ z ∈ zs, G'[z.1]? = some (.lst z.2)
  up : zs.Pairwise (fun a b => a.1 < b.1)
  grew : ∃ L, G' = G ++ L
def objZ (z : Nat × List D) : D := .obj z.1
def sp__law_lists : SpD := fun ds G Q E => ∃ n : Int, ds = [.int n] ∧ 1 ≤ n ∧ n ≤ 8 ∧ ∀ G' zs, Got n G G' zs → Q (.lst (zs.map objZ)) G'
theorem len__law_lists : ∀ ds G Q E, sp__law_lists ds G Q E → ds.length = p__law_lists.length := by rintro _ _ _ _ ⟨d, rfl, _⟩; rfl
theorem get_app {G : GS} {i : Nat} {m : MO} (L : GS) (h : G[i]? = some m) : (G ++ L)[i]? = some m := by
  rw [List.getElem?_append_left (List.getElem?_eq_some_iff.mp h).1]; exact h
theorem sem__law_lists : ∀ ds G Q E, sp__law_lists ds G Q E → t__law_lists sp_adding sp_greatest sp_full_lots sp_fitting sp_whole_lots (endsG Q E) (startD n__law_lists.length ds) G := by
  rintro _ G Q E ⟨n, rfl, h1, h2, q⟩
  refine ⟨(show 0 ≤ 16777216 by decide), ?_⟩
  refine ⟨n, rfl, h1, by omega, ?_⟩
  refine ⟨n, rfl, h1, by omega, fun L => ?_⟩
  refine ⟨n, rfl, h1, by omega, ?_⟩
  refine ⟨(show 0 ≤ 16777216 by decide), ?_⟩
  refine ⟨n, rfl, h1, by omega, ?_⟩
  refine ⟨(show 4 ≤ 16777216 by decide), ?_⟩
  refine ⟨n, rfl, by omega, by omega, ?_⟩
  refine ⟨(show 1 ≤ 16777216 by decide), (show 5 ≤ 16777216 by decide), ?_⟩
  have e1 : (G ++ [MO.lst ((addL n []).map .int)])[G.length]? = some (.lst ((addL n []).map .int)) := (getLast_set (m' := .dead)).1
  generalize hG1 : G ++ [MO.lst ((addL n []).map .int)] = G1 at e1 ⊢
  have l1 : G1.length = G.length + 1 := by rw [← hG1, List.length_append]; rfl
  have e2 : (G1 ++ L ++ [MO.lst ((fullL n).map tupI)])[(G1 ++ L).length]? = some (.lst ((fullL n).map tupI)) := (getLast_set (m' := .dead)).1
  have l2 : (G1 ++ L).length = G1.length + L.length := List.length_append
  have f1 := get_app [MO.lst ((fullL n).map tupI)] (get_app L e1)
  have g2 : ∃ L', G1 ++ L ++ [MO.lst ((fullL n).map tupI)] = G ++ L' := ⟨[MO.lst ((addL n []).map .int)] ++ L ++ [MO.lst ((fullL n).map tupI)], by rw [← hG1]; simp⟩
  generalize hG2 : G1 ++ L ++ [MO.lst ((fullL n).map tupI)] = G2 at e2 f1 g2 ⊢
  have l3 : G2.length = (G1 ++ L).length + 1 := by rw [← hG2, List.length_append]; rfl
  generalize (G1 ++ L).length = k2 at e2 l2 l3 ⊢
  have e3 : (G2 ++ [MO.lst ((greatL n).map tupI)])[G2.length]? = some (.lst ((greatL n).map tupI)) := (getLast_set (m' := .dead)).1
  have e4 : (G2 ++ [MO.lst ((greatL n).map tupI)] ++ [MO.lst ((fitL n []).map tupI)])[(G2 ++ [MO.lst ((greatL n).map tupI)]).length]? = some (.lst ((fitL n []).map tupI)) := (getLast_set (m' := .dead)).1
  have e5 : (G2 ++ [MO.lst ((greatL n).map tupI)] ++ [MO.lst ((fitL n []).map tupI)] ++ [MO.lst ((wholeL n).map tupI)])[(G2 ++ [MO.lst ((greatL n).map tupI)] ++ [MO.lst ((fitL n []).map tupI)]).length]? = some (.lst ((wholeL n).map tupI)) := (getLast_set (m' := .dead)).1
  have l4 : (G2 ++ [MO.lst ((greatL n).map tupI)]).length = G2.length + 1 := by rw [List.length_append]; rfl
  have l5 : (G2 ++ [MO.lst ((greatL n).map tupI)] ++ [MO.lst ((fitL n []).map tupI)]).length = G2.length + 2 := by rw [List.length_append, List.length_append]; rfl
  refine q _ [(G.length, (addL n []).map .int), (k2, (fullL n).map tupI), (G2.length, (greatL n).map tupI), ((G2 ++ [MO.lst ((greatL n).map tupI)]).length, (fitL n []).map tupI), ((G2 ++ [MO.lst ((greatL n).map tupI)] ++ [MO.lst ((fitL n []).map tupI)]).length, (wholeL n).map tupI)] ⟨rfl, ?_, ?_, ?_, ?_⟩
  · intro z hz
    simp only [List.mem_cons, List.mem_nil_iff, or_false] at hz
    rcases hz with rfl | rfl | rfl | rfl | rfl
    · exact Nat.le_refl _
    · show G.length ≤ k2; omega
    · show G.length ≤ G2.length; omega
    · show G.length ≤ (G2 ++ [MO.lst ((greatL n).map tupI)]).length; omega
    · show G.length ≤ (G2 ++ [MO.lst ((greatL n).map tupI)] ++ [MO.lst ((fitL n []).map tupI)]).length; omega
  · intro z hz
    simp only [List.mem_cons, List.mem_nil_iff, or_false] at hz
    rcases hz with rfl | rfl | rfl | rfl | rfl
    · exact get_app _ (get_app _ (get_app _ f1))
    · exact get_app _ (get_app _ (get_app _ e2))
    · exact get_app _ (get_app _ e3)
    · exact get_app _ e4
    · exact e5
  · simp only [List.pairwise_cons, List.mem_cons, List.mem_nil_iff, or_false, List.Pairwise.nil, and_true]
    refine ⟨?_, ?_, ?_, ?_, fun _ z => z.elim⟩
    · rintro z (rfl | rfl | rfl | rfl) <;> dsimp only <;> omega
    · rintro z (rfl | rfl | rfl) <;> dsimp only <;> omega
    · rintro z (rfl | rfl) <;> dsimp only <;> omega
    · rintro z rfl; dsimp only; omega
  · obtain ⟨L', e⟩ := g2
    exact ⟨L' ++ [MO.lst ((greatL n).map tupI)] ++ [MO.lst ((fitL n []).map tupI)] ++ [MO.lst ((wholeL n).map tupI)], by rw [e]; simp⟩
mutual
theorem eqv_same : ∀ (k : Nat) (d : D), dep k d = true → PyData.eqv (toPy d) (toPy d) = true
  | 0, d, h => by
    obtain ⟨h1, h2⟩ := Bool.and_eq_true_iff.mp (show (flatD d && okD d) = true from h)
    cases d with
    | non => simp [toPy, PyData.eqv]
    | bl b => exact eqD_bl
    | int i => have := eqD_int (x := i) (y := i); rw [decide_eq_true rfl] at this; exact this
    | str s => exact eqD_str
    | _ => cases h1
  | k + 1, .tup xs, h => by
    obtain ⟨h1, h2⟩ := Bool.and_eq_true_iff.mp (show (xs.all (dep k) && decide (xs.length ≤ 1000000)) = true from h)
    show PyData.eqv (.tuple (toPyL xs)) (.tuple (toPyL xs)) = true
    rw [PyData.eqv]; exact eqvL_same k xs h1
  | k + 1, .lst xs, h => by
    obtain ⟨h1, h2⟩ := Bool.and_eq_true_iff.mp (show (xs.all (dep k) && decide (xs.length ≤ 1000000)) = true from h)
    show PyData.eqv (.list (toPyL xs)) (.list (toPyL xs)) = true
    rw [PyData.eqv]; exact eqvL_same k xs h1
  | k + 1, .non, _ => by simp [toPy, PyData.eqv]
  | k + 1, .bl _, _ => eqD_bl
  | k + 1, .int i, _ => by have := eqD_int (x := i) (y := i); rw [decide_eq_true rfl] at this; exact this
  | k + 1, .str _, _ => eqD_str
theorem eqvL_same : ∀ (k : Nat) (ds : List D), ds.all (dep k) = true → PyData.eqvAll (toPyL ds) (toPyL ds) = true
  | k, [], _ => by simp [toPyL, PyData.eqvAll]
  | k, d :: ds, h => by
    obtain ⟨h1, h2⟩ := Bool.and_eq_true_iff.mp (show (dep k d && ds.all (dep k)) = true from h)
    show PyData.eqvAll (toPy d :: toPyL ds) (toPy d :: toPyL ds) = true
    rw [PyData.eqvAll, eqv_same k d h1, eqvL_same k ds h2]; rfl
end
theorem rows_dep {l : List (List Int)} (hl : l.length ≤ 70000) (h : ∀ x ∈ l, x.length ≤ 100) : dep 2 (.lst (l.map tupI)) = true ∧ (l.map tupI).length ≤ 70000 := by
  refine ⟨dep_mapL (k := 1) (fun x hx => dep_tupI (by have := h x hx; omega)) (by omega), by rw [List.length_map]; exact hl⟩
theorem dats_ok {n : Int} (h1 : 1 ≤ n) (h2 : n ≤ 8) : ∀ d ∈ datsL n, dep 2 (.lst d) = true ∧ d.length ≤ 70000 := by
  have hm := freeLots_many (n := n) (by omega)
  have free : ∀ F : List Int → Bool, dep 2 (.lst (((freeLots n).filter F).map tupI)) = true ∧ (((freeLots n).filter F).map tupI).length ≤ 70000 := fun F => by
    refine rows_dep ?_ fun x hx => ?_
    · have := List.length_filter_le F (freeLots n); omega
    · have := freeLots_len (List.mem_filter.mp hx).1; omega
  intro d hd
  unfold datsL at hd
  simp only [List.mem_cons, List.mem_nil_iff, or_false] at hd
  rcases hd with rfl | rfl | rfl | rfl | rfl
  · have hl : (addL n []).length ≤ 70000 := by
      unfold addL
      refine Nat.le_trans (List.length_filter_le _ _) ?_
      rw [length_rangeI]; omega
    refine ⟨dep_mapL (k := 1) (fun x hx => rfl) (by omega), by rw [List.length_map]; exact hl⟩
  · exact free _
  · exact free _
  · exact free _
  · have hp := sortT_perm ((everyW n).filter fun l => decide ((l.length : Int) = mostW n))
    have hw := everyW_many (n := n) (by omega)
    refine rows_dep ?_ fun x hx => ?_
    · unfold wholeL
      rw [hp.length_eq]
      have := List.length_filter_le (fun l : List Int => decide ((l.length : Int) = mostW n)) (everyW n)
      omega
    · unfold wholeL at hx
      have := everyW_len (by omega) (by omega) (List.mem_filter.mp (hp.mem_iff.mp hx)).1
      omega
def knownD (n : Int) : D := .lst ((datsL n).map .lst)
theorem known_dep {n : Int} (h1 : 1 ≤ n) (h2 : n ≤ 8) : dep 3 (knownD n) = true := dep_mapL (k := 2) (fun d hd => (dats_ok h1 h2 d hd).1) (show 5 ≤ 1000000 by decide)
theorem got_map {n : Int} {G G' : GS} {zs : List (Nat × List D)} (g : Got n G G' zs) : (zs.filter fun _ => true).map (fun z => D.lst z.2) = (datsL n).map .lst := by
  rw [List.filter_eq_self.mpr (fun _ _ => rfl), ← g.dats, List.map_map]; rfl
theorem got_len {n : Int} {G G' : GS} {zs : List (Nat × List D)} (g : Got n G G' zs) : (zs.map objZ).length = 5 := by
  have := congrArg List.length g.dats
  rw [List.length_map] at this ⊢
  exact this
theorem setZ {G : GS} {k : Nat} {m m' : MO} (h : G[k]? = some m) : (G.set k m')[k]? = some m' := List.getElem?_set_self (List.getElem?_eq_some_iff.mp h).1
/-- list(_law_one) for each of the lists -/
theorem lc_copy {zs : List (Nat × List D)} {ρ : Rho} {G : GS} {Q : List D → GS → Prop} (h4 : 4 < ρ.length) (h : ∀ z ∈ zs, G[z.1]? = some (.lst z.2)) (q : Q ((zs.filter fun _ => true).map fun z => D.lst z.2) G) :
    lcL (gNameD 4) tYesD (tCBD rListD (tConsD (tVarD 4) tNilD)) (zs.map objZ) [] ρ G Q := by
  refine lc_fm (e := objZ) (f := fun z => D.lst z.2) (p := fun _ => true) zs [] (fun z hz Q' Ed q' => q') (fun z hz _ Q' Ed q' => ?_) q
  show (match (ρ.set 4 (some (objZ z)))[4]? with | some (some d) => _ | _ => False)
  rw [List.getElem?_set_self h4]
  show (match itemsD G (.obj z.1) with | some xs => Q' (.lst xs) G | none => False)
  rw [items_obj (h z hz)]
  exact q'
def sp_law : SpD := fun ds G Q E => ∃ ns, ds = [.scr ns] ∧ ns.length ≤ 63 ∧ ∀ G', Q (.bl true) G'
theorem len_law : ∀ ds G Q E, sp_law ds G Q E → ds.length = p_law.length := by rintro _ _ _ _ ⟨k, rfl, _⟩; rfl
set_option maxHeartbeats 4000000 in
theorem sem_law : ∀ ds G Q E, sp_law ds G Q E → t_law sp__law_random sp__law_below sp__law_lists (endsG Q E) (startD n_law.length ds) G := by
  rintro _ G0 Q E ⟨ns, rfl, hl, q⟩
  refine ⟨ns, 2354, rfl, hl, by decide, by decide, ?_⟩
  have eg : (G0 ++ [MO.rnd])[G0.length]? = some .rnd := (getLast_set (m' := .dead)).1
  generalize G0.length = k at eg ⊢
  generalize G0 ++ [MO.rnd] = G at eg ⊢
  refine ⟨k, 8, rfl, eg, by decide, by decide, fun u u1 u2 => ?_⟩
  have h1 : 1 ≤ 1 + u := by omega
  have h2 : 1 + u ≤ 8 := by omega
  generalize hn : (1 : Int) + u = n at h1 h2
  refine ⟨n, by rw [← hn], h1, h2, fun G1 z1 g1 => ?_⟩
  refine ⟨by rw [got_len g1]; decide, ?_⟩
  refine lc_copy (show 4 < 7 by decide) g1.at_ ?_
  rw [got_map g1]
  refine ⟨n, by rw [← hn], h1, h2, fun G2 z2 g2 => ?_⟩
  refine ⟨n, by rw [← hn], h1, h2, fun G3 z3 g3 => ?_⟩
  have hd := known_dep h1 h2
  have ok := okD_of (by decide) hd
  have eq : eqD (knownD n) (knownD n) = true := eqv_same 3 _ hd
  obtain ⟨L3, e3⟩ := g3.grew
  have low : ∀ z ∈ z2, z.1 < G2.length := fun z hz => (List.getElem?_eq_some_iff.mp (g2.at_ z hz)).1
  have zl : ∀ z ∈ z2, z.2.length ≤ 70000 := fun z hz => (dats_ok h1 h2 z.2 (by rw [← g2.dats]; exact List.mem_map.mpr ⟨z, hz, rfl⟩)).2
  refine for_inv (I := fun l ρ G' => ∃ (r : List (Nat × List D)) (a4 : Option D), l = r.map objZ ∧ (∀ z ∈ r, z ∈ z2) ∧ r.Pairwise (fun a b => a.1 < b.1) ∧ (∀ z ∈ r, G'[z.1]? = some (.lst z.2)) ∧ (∀ z ∈ z3, G'[z.1]? = some (.lst z.2)) ∧
      ρ = [some (.scr ns), some (.obj k), some (.int (1 + u)), some (knownD n), a4, some (.lst (z2.map objZ)), some (.lst (z3.map objZ))]) _ _ _ ⟨z2, none, rfl, fun z h => h, g2.up, fun z hz => ?_, g3.at_, rfl⟩ ?_ ?_
  · rw [e3]; exact get_app L3 (g2.at_ z hz)
  · rintro x l _ G ⟨r, a4, el, hin, hup, hr, h3, rfl⟩ D' r1 r2 r3 nx ct
    cases r with
    | nil => cases el
    | cons z r =>
      rw [List.map_cons] at el
      injection el with ex el
      subst ex el
      have hz := hr z (.head _)
      have hz2 := hin z (.head _)
      have hup2 := List.pairwise_cons.mp hup
      dsimp only [gNameD, List.set_cons_succ, List.set_cons_zero]
      refine ⟨⟨z.1, z.2, rfl, hz⟩, ?_⟩
      show (match G[z.1]? with | some (.lst ds) => _ | _ => False)
      rw [hz]
      refine ⟨by have := zl z hz2; omega, ⟨z.1, _, rfl, setZ hz⟩, ?_⟩
      show (match (G.set z.1 (.lst (z.2 ++ [.str "late"])))[z.1]? with | some (.lst ds) => _ | _ => False)
      rw [setZ hz]
      refine nx _ _ ⟨r, _, rfl, fun y hy => hin y (.tail _ hy), hup2.2, fun y hy => ?_, fun y hy => ?_, rfl⟩
      · have := hup2.1 y hy
        rw [List.getElem?_set_ne (by omega), List.getElem?_set_ne (by omega)]
        exact hr y (.tail _ hy)
      · have := low z hz2
        have h6 := g3.new y hy
        rw [List.getElem?_set_ne (by omega), List.getElem?_set_ne (by omega)]
        exact h3 y hy
  · rintro _ G ⟨r, a4, el, hin, hup, hr, h3, rfl⟩
    refine ⟨by rw [got_len g3]; decide, ?_⟩
    refine lc_copy (show 4 < 7 by decide) h3 ?_
    rw [got_map g3]
    refine ⟨ok, ok, ?_⟩
    show (if (!eqD (knownD n) (knownD n)) = true then _ else _)
    rw [eq, if_neg (by decide)]
    refine ⟨n, by rw [← hn], h1, h2, fun G5 z5 g5 => ?_⟩
    refine ⟨by rw [got_len g5]; decide, ?_⟩
    refine lc_copy (show 4 < 7 by decide) g5.at_ ?_
    rw [got_map g5]
    refine ⟨ok, ok, ?_⟩
    show Q (.bl (eqD (knownD n) (knownD n))) G5
    rw [eq]
    exact q _
end Z

namespace Z
open PySem PySem.Spec L2 Y
open PyProof.Rows hiding St
section
variable {P : Program} {w : World} {K : PySem.W.Frag} {mg : Str → Option Value} {base : Heap} {a : Nat → Addr} {fd : Nat → FuncData}
theorem ok__law_random (T : Txt K mg a fd) : FnOk P w K mg base (L2.CX P w) 1 (a 22) (fd 22) p__law_random (liftSp K mg sp__law_random) := fnG (k := 0) T.F__law_random sc__law_random len__law_random (d__law_random (T)) sem__law_random
theorem ok__law_below (T : Txt K mg a fd) : FnOk P w K mg base (L2.CX P w) 1 (a 23) (fd 23) p__law_below (liftSp K mg sp__law_below) := FnOk.imp (fnG (k := 0) T.F__law_below sc__law_below len_below_lst (d__law_below T) sem_below_lst) below_imp
theorem ok_is_integer (T : Txt K mg a fd) : FnOk P w K mg base (L2.CX P w) 1 (a 0) (fd 0) p_is_integer (liftSp K mg sp_is_integer) := fnD (k := 0) T.F_is_integer sc_is_integer len_is_integer (d_is_integer (T)) sem_is_integer
theorem ok_is_from (T : Txt K mg a fd) : FnOk P w K mg base (L2.CX P w) 2 (a 1) (fd 1) p_is_from (liftSp K mg sp_is_from) := fnD (k := 1) T.F_is_from sc_is_from len_is_from (d_is_from (T) (ok_is_integer T) (by decide)) sem_is_from
theorem ok_check_round (T : Txt K mg a fd) : FnOk P w K mg base (L2.CX P w) 3 (a 2) (fd 2) p_check_round (liftSp K mg sp_check_round) := fnD (k := 2) T.F_check_round sc_check_round len_check_round (d_check_round (T) (ok_is_from T) (by decide)) sem_check_round
theorem ok_check_lot (T : Txt K mg a fd) : FnOk P w K mg base (L2.CX P w) 4 (a 3) (fd 3) p_check_lot (liftSp K mg sp_check_lot) := fnD (k := 3) T.F_check_lot sc_check_lot len_check_lot (d_check_lot (T) (ok_is_from T) (by decide) (ok_check_round T) (by decide) (by decide)) sem_check_lot
theorem ok_sum_in (T : Txt K mg a fd) : FnOk P w K mg base (L2.CX P w) 1 (a 4) (fd 4) p_sum_in (liftSp K mg sp_sum_in) := fnD (k := 0) T.F_sum_in sc_sum_in len_sum_in (d_sum_in (T)) sem_sum_in
theorem ok_does_free (T : Txt K mg a fd) : FnOk P w K mg base (L2.CX P w) 2 (a 5) (fd 5) p_does_free (liftSp K mg sp_does_free) := fnD (k := 1) T.F_does_free sc_does_free len_does_free (d_does_free (T) (ok_sum_in T) (by decide)) sem_does_free
theorem ok_need_free (T : Txt K mg a fd) : FnOk P w K mg base (L2.CX P w) 5 (a 7) (fd 7) p_need_free (liftSp K mg sp_need_free) := fnD (k := 4) T.F_need_free sc_need_free len_need_free (d_need_free (T) (ok_check_lot T) (by decide) (ok_does_free T) (by decide)) sem_need_free
theorem ok_with_rest (T : Txt K mg a fd) : FnOk P w K mg base (L2.CX P w) 1 (a 6) (fd 6) p_with_rest (liftSp K mg sp_with_rest) := fnD (k := 0) T.F_with_rest sc_with_rest len_with_rest (d_with_rest (T)) sem_with_rest
theorem ok_added (T : Txt K mg a fd) : FnOk P w K mg base (L2.CX P w) 3 (a 8) (fd 8) p_added (liftSp K mg sp_added) := fnG (k := 2) T.F_added sc_added len_added (d_added (T) (ok_does_free T) (by decide) (ok_with_rest T) (by decide)) sem_added
theorem ok_adding (T : Txt K mg a fd) : FnOk P w K mg base (L2.CX P w) 6 (a 9) (fd 9) p_adding (liftSp K mg sp_adding) := fnG (k := 5) T.F_adding sc_adding len_adding (d_adding (T) (ok_need_free T) (by decide) (ok_added T) (by decide)) sem_adding
theorem ok_check_small (T : Txt K mg a fd) : FnOk P w K mg base (L2.CX P w) 4 (a 10) (fd 10) p_check_small (liftSp K mg sp_check_small) := fnD (k := 3) T.F_check_small sc_check_small len_check_small (d_check_small (T) (ok_check_round T) (by decide)) sem_check_small
theorem ok_free_lots (T : Txt K mg a fd) : FnOk P w K mg base (L2.CX P w) 3 (a 11) (fd 11) p_free_lots (liftSp K mg sp_free_lots) := fnD (k := 2) T.F_free_lots sc_free_lots len_free_lots (d_free_lots (T) (ok_does_free T) (by decide)) sem_free_lots
theorem ok_divisor (T : Txt K mg a fd) : FnOk P w K mg base (L2.CX P w) 1 (a 12) (fd 12) p_divisor (liftSp K mg sp_divisor) := fnD (k := 0) T.F_divisor sc_divisor len_divisor (d_divisor (T)) sem_divisor
theorem ok_times_of (T : Txt K mg a fd) : FnOk P w K mg base (L2.CX P w) 1 (a 13) (fd 13) p_times_of (liftSp K mg sp_times_of) := fnD (k := 0) T.F_times_of sc_times_of len_times_of (d_times_of (T)) sem_times_of
theorem ok_is_first (T : Txt K mg a fd) : FnOk P w K mg base (L2.CX P w) 2 (a 14) (fd 14) p_is_first (liftSp K mg sp_is_first) := fnD (k := 1) T.F_is_first sc_is_first len_is_first (d_is_first (T) (ok_divisor T) (by decide) (ok_times_of T) (by decide)) sem_is_first
theorem ok_greatest (T : Txt K mg a fd) : FnOk P w K mg base (L2.CX P w) 5 (a 15) (fd 15) p_greatest (liftSp K mg sp_greatest) := fnG (k := 4) T.F_greatest sc_greatest len_greatest (d_greatest (T) (ok_check_small T) (by decide) (ok_free_lots T) (by decide) (ok_is_first T) (by decide)) sem_greatest
theorem ok_full_lots (T : Txt K mg a fd) : FnOk P w K mg base (L2.CX P w) 5 (a 16) (fd 16) p_full_lots (liftSp K mg sp_full_lots) := fnG (k := 4) T.F_full_lots sc_full_lots len_full_lots (d_full_lots (T) (ok_added T) (by decide) (ok_check_small T) (by decide) (ok_free_lots T) (by decide)) sem_full_lots
theorem ok_is_seen (T : Txt K mg a fd) : FnOk P w K mg base (L2.CX P w) 3 (a 17) (fd 17) p_is_seen (liftSp K mg sp_is_seen) := fnD (k := 2) T.F_is_seen sc_is_seen len_is_seen (d_is_seen (T) (ok_is_from T) (by decide)) sem_is_seen
theorem ok_fitting (T : Txt K mg a fd) : FnOk P w K mg base (L2.CX P w) 5 (a 18) (fd 18) p_fitting (liftSp K mg sp_fitting) := fnG (k := 4) T.F_fitting sc_fitting len_fitting (d_fitting (T) (ok_check_small T) (by decide) (ok_free_lots T) (by decide) (ok_is_seen T) (by decide) (by decide)) sem_fitting
theorem ok_has_sum (T : Txt K mg a fd) : FnOk P w K mg base (L2.CX P w) 1 (a 19) (fd 19) p_has_sum (liftSp K mg sp_has_sum) := fnD (k := 0) T.F_has_sum sc_has_sum len_has_sum (d_has_sum (T)) sem_has_sum
theorem ok_check_whole (T : Txt K mg a fd) : FnOk P w K mg base (L2.CX P w) 3 (a 20) (fd 20) p_check_whole (liftSp K mg sp_check_whole) := fnD (k := 2) T.F_check_whole sc_check_whole len_check_whole (d_check_whole (T) (ok_is_from T) (by decide)) sem_check_whole
theorem ok_whole_lots (T : Txt K mg a fd) : FnOk P w K mg base (L2.CX P w) 4 (a 21) (fd 21) p_whole_lots (liftSp K mg sp_whole_lots) := fnG (k := 3) T.F_whole_lots sc_whole_lots len_whole_lots (d_whole_lots (T) (ok_has_sum T) (by decide) (ok_check_whole T) (by decide)) sem_whole_lots
theorem ok__law_lists (T : Txt K mg a fd) : FnOk P w K mg base (L2.CX P w) 7 (a 24) (fd 24) p__law_lists (liftSp K mg sp__law_lists) := fnG (k := 6) T.F__law_lists sc__law_lists len__law_lists (d__law_lists (T) (ok_adding T) (by decide) (ok_greatest T) (by decide) (ok_full_lots T) (by decide) (ok_fitting T) (by decide) (ok_whole_lots T) (by decide)) sem__law_lists
theorem ok_law (T : Txt K mg a fd) : FnOk P w K mg base (L2.CX P w) 8 (a 25) (fd 25) p_law (liftSp K mg sp_law) := fnG (k := 7) T.F_law sc_law len_law (d_law (T) (ok__law_random T) (by decide) (ok__law_below T) (by decide) (ok__law_lists T) (by decide)) sem_law
end
theorem cx_none {P : Program} {w : World} {H : Hp} {s : Shared} {e : Value} {s' : Shared} (h : L2.CX P w [] H s (fun _ _ _ => False) e s') : False := by
  obtain ⟨_, _, _, _, _, _, _, _, _, _, _, _, z⟩ := h
  exact z
/-- the law's promise, as the head asks it -/
def spFin (K : PySem.W.Frag) : Sp := fun vs H Q E => ∃ (a : Addr) (ns : List Int), vs = [.ref a] ∧ SqL K H a (ns.map V.int) ∧ ns.length ≤ 63 ∧ Only H ∧ ∀ H', Q (.bl true) H'
theorem fin_imp {K : PySem.W.Frag} {mg : Str → Option Value} : ∀ vs H Q E, spFin K vs H Q E → liftSp K mg sp_law vs H Q E := by
  rintro vs H Q E ⟨a, ns, rfl, hS, hl, hO, q⟩
  have hF : SqF K H a (ns.map V.int) := by
    rcases hS with (h | ⟨o, h⟩) | h
    · rcases hO a with z | ⟨o, xs, z⟩
      · rw [z] at h; cases h
      · rw [z] at h; cases h
    · exact .inl ⟨o, h⟩
    · exact .inr h
  refine ⟨[.scr ns], ⟨[], []⟩, [], fun d _ => d = .bl true, fun _ _ => False, ⟨_, _, rfl, ⟨a, rfl, hF⟩, rfl⟩, ⟨rfl, fun k m h => by simp at h, fun i j b h => by simp at h, fun b h => by simp at h⟩, ⟨ns, rfl, hl, fun _ => rfl⟩, ?_, le_none⟩
  rintro d G' v η' H' s' w' r rfl
  cases (show v = .bl true from r)
  exact q H'
set_option maxHeartbeats 0 in
theorem all_mk {P : Program} {w : World} {K : PySem.W.Frag} {h : Heap} {mg : Str → Option Value} {fa : Addr} (X : K.In h) (G : h.Ns mainGlobals mg) (hfa : mg "law" = some (.ref fa)) {f0 : Addr} {od0 an0 : Option Addr} {sl0 : Array (Option Value)} {oc0 kV0 dc0 pm0 cd0 ct0 : Value} {f1 : Addr} {od1 an1 : Option Addr} {sl1 : Array (Option Value)} {oc1 kV1 dc1 pm1 cd1 ct1 : Value} {f2 : Addr} {od2 an2 : Option Addr} {sl2 : Array (Option Value)} {oc2 kV2 dc2 pm2 cd2 ct2 : Value} {f3 : Addr} {od3 an3 : Option Addr} {sl3 : Array (Option Value)} {oc3 kV3 dc3 pm3 cd3 ct3 : Value} {f4 : Addr} {od4 an4 : Option Addr} {sl4 : Array (Option Value)} {oc4 kV4 dc4 pm4 cd4 ct4 : Value} {f5 : Addr} {od5 an5 : Option Addr} {sl5 : Array (Option Value)} {oc5 kV5 dc5 pm5 cd5 ct5 : Value} {f6 : Addr} {od6 an6 : Option Addr} {sl6 : Array (Option Value)} {oc6 kV6 dc6 pm6 cd6 ct6 : Value} {f7 : Addr} {od7 an7 : Option Addr} {sl7 : Array (Option Value)} {oc7 kV7 dc7 pm7 cd7 ct7 : Value} {f8 : Addr} {od8 an8 : Option Addr} {sl8 : Array (Option Value)} {oc8 kV8 dc8 pm8 cd8 ct8 : Value} {f9 : Addr} {od9 an9 : Option Addr} {sl9 : Array (Option Value)} {oc9 kV9 dc9 pm9 cd9 ct9 : Value} {f10 : Addr} {od10 an10 : Option Addr} {sl10 : Array (Option Value)} {oc10 kV10 dc10 pm10 cd10 ct10 : Value} {f11 : Addr} {od11 an11 : Option Addr} {sl11 : Array (Option Value)} {oc11 kV11 dc11 pm11 cd11 ct11 : Value} {f12 : Addr} {od12 an12 : Option Addr} {sl12 : Array (Option Value)} {oc12 kV12 dc12 pm12 cd12 ct12 : Value} {f13 : Addr} {od13 an13 : Option Addr} {sl13 : Array (Option Value)} {oc13 kV13 dc13 pm13 cd13 ct13 : Value} {f14 : Addr} {od14 an14 : Option Addr} {sl14 : Array (Option Value)} {oc14 kV14 dc14 pm14 cd14 ct14 : Value} {f15 : Addr} {od15 an15 : Option Addr} {sl15 : Array (Option Value)} {oc15 kV15 dc15 pm15 cd15 ct15 : Value} {f16 : Addr} {od16 an16 : Option Addr} {sl16 : Array (Option Value)} {oc16 kV16 dc16 pm16 cd16 ct16 : Value} {f17 : Addr} {od17 an17 : Option Addr} {sl17 : Array (Option Value)} {oc17 kV17 dc17 pm17 cd17 ct17 : Value} {f18 : Addr} {od18 an18 : Option Addr} {sl18 : Array (Option Value)} {oc18 kV18 dc18 pm18 cd18 ct18 : Value} {f19 : Addr} {od19 an19 : Option Addr} {sl19 : Array (Option Value)} {oc19 kV19 dc19 pm19 cd19 ct19 : Value} {f20 : Addr} {od20 an20 : Option Addr} {sl20 : Array (Option Value)} {oc20 kV20 dc20 pm20 cd20 ct20 : Value} {f21 : Addr} {od21 an21 : Option Addr} {sl21 : Array (Option Value)} {oc21 kV21 dc21 pm21 cd21 ct21 : Value} {f22 : Addr} {od22 an22 : Option Addr} {sl22 : Array (Option Value)} {oc22 kV22 dc22 pm22 cd22 ct22 : Value} {f23 : Addr} {od23 an23 : Option Addr} {sl23 : Array (Option Value)} {oc23 kV23 dc23 pm23 cd23 ct23 : Value} {f24 : Addr} {od24 an24 : Option Addr} {sl24 : Array (Option Value)} {oc24 kV24 dc24 pm24 cd24 ct24 : Value} {f25 : Addr} {od25 an25 : Option Addr} {sl25 : Array (Option Value)} {oc25 kV25 dc25 pm25 cd25 ct25 : Value} {f27 : Addr} {f28 : Addr} {f32 S28 N28 : Addr} {nm28 q28 : Str} {bs28 : List Value} {sn28 : List Str} {sub28 : List Value} {ab28 : Bool} {col28 : Option Bool} {dd28 : Option Addr} {m0_28 m1_28 m2_28 m3_28 m5_28 : Option Value} {od32 an32 : Option Addr} {sl32 : Array (Option Value)} {oc32 kV32 dc32 pm32 cd32 ct32 : Value} {f29 : Addr} {f30 : Addr} {f31 : Addr} {f33 S31 N31 : Addr} {nm31 q31 : Str} {bs31 : List Value} {sn31 : List Str} {sub31 : List Value} {ab31 : Bool} {col31 : Option Bool} {dd31 : Option Addr} {m0_31 m1_31 m2_31 m3_31 m5_31 : Option Value} {od33 an33 : Option Addr} {sl33 : Array (Option Value)} {oc33 kV33 dc33 pm33 cd33 ct33 : Value} {tk_MOST_ROUND : Tok} {tk_MOST_SEARCHED : Tok} {tk_MOST_WHOLE : Tok} (a0 : PySem.W.nsIn K mainGlobals "is_integer" = some (some (.ref f0))) (l0 : K.lookup f0 = some ⟨oc0, od0, .func (PySem.W.fnOf "is_integer" "is_integer" (defArgs s_is_integer) (defBody s_is_integer) (defScope s_is_integer) .none kV0 dc0 pm0 an0 cd0 ct0), sl0⟩) (c0 : PySem.W.codeIn K cd0 "is_integer" = true) (k0 : PySem.W.keepIn K (.ref f0) = true) (a1 : PySem.W.nsIn K mainGlobals "is_from" = some (some (.ref f1))) (l1 : K.lookup f1 = some ⟨oc1, od1, .func (PySem.W.fnOf "is_from" "is_from" (defArgs s_is_from) (defBody s_is_from) (defScope s_is_from) .none kV1 dc1 pm1 an1 cd1 ct1), sl1⟩) (c1 : PySem.W.codeIn K cd1 "is_from" = true) (k1 : PySem.W.keepIn K (.ref f1) = true) (a2 : PySem.W.nsIn K mainGlobals "check_round" = some (some (.ref f2))) (l2 : K.lookup f2 = some ⟨oc2, od2, .func (PySem.W.fnOf "check_round" "check_round" (defArgs s_check_round) (defBody s_check_round) (defScope s_check_round) .none kV2 dc2 pm2 an2 cd2 ct2), sl2⟩) (c2 : PySem.W.codeIn K cd2 "check_round" = true) (k2 : PySem.W.keepIn K (.ref f2) = true) (a3 : PySem.W.nsIn K mainGlobals "check_lot" = some (some (.ref f3))) (l3 : K.lookup f3 = some ⟨oc3, od3, .func (PySem.W.fnOf "check_lot" "check_lot" (defArgs s_check_lot) (defBody s_check_lot) (defScope s_check_lot) .none kV3 dc3 pm3 an3 cd3 ct3), sl3⟩) (c3 : PySem.W.codeIn K cd3 "check_lot" = true) (k3 : PySem.W.keepIn K (.ref f3) = true) (a4 : PySem.W.nsIn K mainGlobals "sum_in" = some (some (.ref f4))) (l4 : K.lookup f4 = some ⟨oc4, od4, .func (PySem.W.fnOf "sum_in" "sum_in" (defArgs s_sum_in) (defBody s_sum_in) (defScope s_sum_in) .none kV4 dc4 pm4 an4 cd4 ct4), sl4⟩) (c4 : PySem.W.codeIn K cd4 "sum_in" = true) (k4 : PySem.W.keepIn K (.ref f4) = true) (a5 : PySem.W.nsIn K mainGlobals "does_free" = some (some (.ref f5))) (l5 : K.lookup f5 = some ⟨oc5, od5, .func (PySem.W.fnOf "does_free" "does_free" (defArgs s_does_free) (defBody s_does_free) (defScope s_does_free) .none kV5 dc5 pm5 an5 cd5 ct5), sl5⟩) (c5 : PySem.W.codeIn K cd5 "does_free" = true) (k5 : PySem.W.keepIn K (.ref f5) = true) (a6 : PySem.W.nsIn K mainGlobals "with_rest" = some (some (.ref f6))) (l6 : K.lookup f6 = some ⟨oc6, od6, .func (PySem.W.fnOf "with_rest" "with_rest" (defArgs s_with_rest) (defBody s_with_rest) (defScope s_with_rest) .none kV6 dc6 pm6 an6 cd6 ct6), sl6⟩) (c6 : PySem.W.codeIn K cd6 "with_rest" = true) (k6 : PySem.W.keepIn K (.ref f6) = true) (a7 : PySem.W.nsIn K mainGlobals "need_free" = some (some (.ref f7))) (l7 : K.lookup f7 = some ⟨oc7, od7, .func (PySem.W.fnOf "need_free" "need_free" (defArgs s_need_free) (defBody s_need_free) (defScope s_need_free) .none kV7 dc7 pm7 an7 cd7 ct7), sl7⟩) (c7 : PySem.W.codeIn K cd7 "need_free" = true) (k7 : PySem.W.keepIn K (.ref f7) = true) (a8 : PySem.W.nsIn K mainGlobals "added" = some (some (.ref f8))) (l8 : K.lookup f8 = some ⟨oc8, od8, .func (PySem.W.fnOf "added" "added" (defArgs s_added) (defBody s_added) (defScope s_added) .none kV8 dc8 pm8 an8 cd8 ct8), sl8⟩) (c8 : PySem.W.codeIn K cd8 "added" = true) (k8 : PySem.W.keepIn K (.ref f8) = true) (a9 : PySem.W.nsIn K mainGlobals "adding" = some (some (.ref f9))) (l9 : K.lookup f9 = some ⟨oc9, od9, .func (PySem.W.fnOf "adding" "adding" (defArgs s_adding) (defBody s_adding) (defScope s_adding) .none kV9 dc9 pm9 an9 cd9 ct9), sl9⟩) (c9 : PySem.W.codeIn K cd9 "adding" = true) (k9 : PySem.W.keepIn K (.ref f9) = true) (a10 : PySem.W.nsIn K mainGlobals "check_small" = some (some (.ref f10))) (l10 : K.lookup f10 = some ⟨oc10, od10, .func (PySem.W.fnOf "check_small" "check_small" (defArgs s_check_small) (defBody s_check_small) (defScope s_check_small) .none kV10 dc10 pm10 an10 cd10 ct10), sl10⟩) (c10 : PySem.W.codeIn K cd10 "check_small" = true) (k10 : PySem.W.keepIn K (.ref f10) = true) (a11 : PySem.W.nsIn K mainGlobals "free_lots" = some (some (.ref f11))) (l11 : K.lookup f11 = some ⟨oc11, od11, .func (PySem.W.fnOf "free_lots" "free_lots" (defArgs s_free_lots) (defBody s_free_lots) (defScope s_free_lots) .none kV11 dc11 pm11 an11 cd11 ct11), sl11⟩) (c11 : PySem.W.codeIn K cd11 "free_lots" = true) (k11 : PySem.W.keepIn K (.ref f11) = true) (a12 : PySem.W.nsIn K mainGlobals "divisor" = some (some (.ref f12))) (l12 : K.lookup f12 = some ⟨oc12, od12, .func (PySem.W.fnOf "divisor" "divisor" (defArgs s_divisor) (defBody s_divisor) (defScope s_divisor) .none kV12 dc12 pm12 an12 cd12 ct12), sl12⟩) (c12 : PySem.W.codeIn K cd12 "divisor" = true) (k12 : PySem.W.keepIn K (.ref f12) = true) (a13 : PySem.W.nsIn K mainGlobals "times_of" = some (some (.ref f13))) (l13 : K.lookup f13 = some ⟨oc13, od13, .func (PySem.W.fnOf "times_of" "times_of" (defArgs s_times_of) (defBody s_times_of) (defScope s_times_of) .none kV13 dc13 pm13 an13 cd13 ct13), sl13⟩) (c13 : PySem.W.codeIn K cd13 "times_of" = true) (k13 : PySem.W.keepIn K (.ref f13) = true) (a14 : PySem.W.nsIn K mainGlobals "is_first" = some (some (.ref f14))) (l14 : K.lookup f14 = some ⟨oc14, od14, .func (PySem.W.fnOf "is_first" "is_first" (defArgs s_is_first) (defBody s_is_first) (defScope s_is_first) .none kV14 dc14 pm14 an14 cd14 ct14), sl14⟩) (c14 : PySem.W.codeIn K cd14 "is_first" = true) (k14 : PySem.W.keepIn K (.ref f14) = true) (a15 : PySem.W.nsIn K mainGlobals "greatest" = some (some (.ref f15))) (l15 : K.lookup f15 = some ⟨oc15, od15, .func (PySem.W.fnOf "greatest" "greatest" (defArgs s_greatest) (defBody s_greatest) (defScope s_greatest) .none kV15 dc15 pm15 an15 cd15 ct15), sl15⟩) (c15 : PySem.W.codeIn K cd15 "greatest" = true) (k15 : PySem.W.keepIn K (.ref f15) = true) (a16 : PySem.W.nsIn K mainGlobals "full_lots" = some (some (.ref f16))) (l16 : K.lookup f16 = some ⟨oc16, od16, .func (PySem.W.fnOf "full_lots" "full_lots" (defArgs s_full_lots) (defBody s_full_lots) (defScope s_full_lots) .none kV16 dc16 pm16 an16 cd16 ct16), sl16⟩) (c16 : PySem.W.codeIn K cd16 "full_lots" = true) (k16 : PySem.W.keepIn K (.ref f16) = true) (a17 : PySem.W.nsIn K mainGlobals "is_seen" = some (some (.ref f17))) (l17 : K.lookup f17 = some ⟨oc17, od17, .func (PySem.W.fnOf "is_seen" "is_seen" (defArgs s_is_seen) (defBody s_is_seen) (defScope s_is_seen) .none kV17 dc17 pm17 an17 cd17 ct17), sl17⟩) (c17 : PySem.W.codeIn K cd17 "is_seen" = true) (k17 : PySem.W.keepIn K (.ref f17) = true) (a18 : PySem.W.nsIn K mainGlobals "fitting" = some (some (.ref f18))) (l18 : K.lookup f18 = some ⟨oc18, od18, .func (PySem.W.fnOf "fitting" "fitting" (defArgs s_fitting) (defBody s_fitting) (defScope s_fitting) .none kV18 dc18 pm18 an18 cd18 ct18), sl18⟩) (c18 : PySem.W.codeIn K cd18 "fitting" = true) (k18 : PySem.W.keepIn K (.ref f18) = true) (a19 : PySem.W.nsIn K mainGlobals "has_sum" = some (some (.ref f19))) (l19 : K.lookup f19 = some ⟨oc19, od19, .func (PySem.W.fnOf "has_sum" "has_sum" (defArgs s_has_sum) (defBody s_has_sum) (defScope s_has_sum) .none kV19 dc19 pm19 an19 cd19 ct19), sl19⟩) (c19 : PySem.W.codeIn K cd19 "has_sum" = true) (k19 : PySem.W.keepIn K (.ref f19) = true) (a20 : PySem.W.nsIn K mainGlobals "check_whole" = some (some (.ref f20))) (l20 : K.lookup f20 = some ⟨oc20, od20, .func (PySem.W.fnOf "check_whole" "check_whole" (defArgs s_check_whole) (defBody s_check_whole) (defScope s_check_whole) .none kV20 dc20 pm20 an20 cd20 ct20), sl20⟩) (c20 : PySem.W.codeIn K cd20 "check_whole" = true) (k20 : PySem.W.keepIn K (.ref f20) = true) (a21 : PySem.W.nsIn K mainGlobals "whole_lots" = some (some (.ref f21))) (l21 : K.lookup f21 = some ⟨oc21, od21, .func (PySem.W.fnOf "whole_lots" "whole_lots" (defArgs s_whole_lots) (defBody s_whole_lots) (defScope s_whole_lots) .none kV21 dc21 pm21 an21 cd21 ct21), sl21⟩) (c21 : PySem.W.codeIn K cd21 "whole_lots" = true) (k21 : PySem.W.keepIn K (.ref f21) = true) (a22 : PySem.W.nsIn K mainGlobals "_law_random" = some (some (.ref f22))) (l22 : K.lookup f22 = some ⟨oc22, od22, .func (PySem.W.fnOf "_law_random" "_law_random" (defArgs s__law_random) (defBody s__law_random) (defScope s__law_random) .none kV22 dc22 pm22 an22 cd22 ct22), sl22⟩) (c22 : PySem.W.codeIn K cd22 "_law_random" = true) (k22 : PySem.W.keepIn K (.ref f22) = true) (a23 : PySem.W.nsIn K mainGlobals "_law_below" = some (some (.ref f23))) (l23 : K.lookup f23 = some ⟨oc23, od23, .func (PySem.W.fnOf "_law_below" "_law_below" (defArgs s__law_below) (defBody s__law_below) (defScope s__law_below) .none kV23 dc23 pm23 an23 cd23 ct23), sl23⟩) (c23 : PySem.W.codeIn K cd23 "_law_below" = true) (k23 : PySem.W.keepIn K (.ref f23) = true) (a24 : PySem.W.nsIn K mainGlobals "_law_lists" = some (some (.ref f24))) (l24 : K.lookup f24 = some ⟨oc24, od24, .func (PySem.W.fnOf "_law_lists" "_law_lists" (defArgs s__law_lists) (defBody s__law_lists) (defScope s__law_lists) .none kV24 dc24 pm24 an24 cd24 ct24), sl24⟩) (c24 : PySem.W.codeIn K cd24 "_law_lists" = true) (k24 : PySem.W.keepIn K (.ref f24) = true) (a25 : PySem.W.nsIn K mainGlobals "law" = some (some (.ref f25))) (l25 : K.lookup f25 = some ⟨oc25, od25, .func (PySem.W.fnOf "law" "law" (defArgs s_law) (defBody s_law) (defScope s_law) .none kV25 dc25 pm25 an25 cd25 ct25), sl25⟩) (c25 : PySem.W.codeIn K cd25 "law" = true) (k25 : PySem.W.keepIn K (.ref f25) = true) (a27 : PySem.W.nsIn K mainGlobals "BadRound" = some (some (.ref f27))) (k27 : PySem.W.keepIn K (.ref f27) = true) (s27 : PySem.W.subIn K (.ref f27) (.type "BaseException") = some true) (t27 : PySem.W.typeIn K (.ref f27) = some (.type "type")) (q27 : PySem.W.excIn K f27 [.type "ValueError", .type "Exception", .type "BaseException", .type "object"] "ValueError.__new__" = true) (a28 : PySem.W.nsIn K mainGlobals "BadLot" = some (some (.ref f28))) (k28 : PySem.W.keepIn K (.ref f28) = true) (s28 : PySem.W.subIn K (.ref f28) (.type "BaseException") = some true) (t28 : PySem.W.typeIn K (.ref f28) = some (.type "type")) (x28 : K.lookup f28 = some (excClassObj nm28 q28 f28 N28 bs28 (.ref S28 :: [.type "ValueError", .type "Exception", .type "BaseException", .type "object"]) true sn28 sub28 ab28 col28 dd28 m0_28 m1_28 m2_28 m3_28 m5_28 "ValueError.__new__")) (sa28 : PySem.W.findIn K (.ref f28) "__setattr__" = some (some (.builtin "object.__setattr__"))) (no28 : PySem.W.findIn K (.ref f28) "index" = some none) (i28 : PySem.W.findIn K (.ref f28) "__init__" = some (some (.ref f32))) (ti28 : PySem.W.typeIn K (.ref f32) = some (.type "function")) (l32 : K.lookup f32 = some ⟨oc32, od32, .func (PySem.W.fnOf "__init__" "BadLot.__init__" (defArgs s_ini_BadLot) (defBody s_ini_BadLot) (defScope s_ini_BadLot) .none kV32 dc32 pm32 an32 cd32 ct32), sl32⟩) (c32 : PySem.W.codeIn K cd32 "BadLot.__init__" = true) (k32 : PySem.W.keepIn K (.ref f32) = true) (a29 : PySem.W.nsIn K mainGlobals "TooGreat" = some (some (.ref f29))) (k29 : PySem.W.keepIn K (.ref f29) = true) (s29 : PySem.W.subIn K (.ref f29) (.type "BaseException") = some true) (t29 : PySem.W.typeIn K (.ref f29) = some (.type "type")) (q29 : PySem.W.excIn K f29 [.type "ValueError", .type "Exception", .type "BaseException", .type "object"] "ValueError.__new__" = true) (a30 : PySem.W.nsIn K mainGlobals "NotFree" = some (some (.ref f30))) (k30 : PySem.W.keepIn K (.ref f30) = true) (s30 : PySem.W.subIn K (.ref f30) (.type "BaseException") = some true) (t30 : PySem.W.typeIn K (.ref f30) = some (.type "type")) (q30 : PySem.W.excIn K f30 [.type "ValueError", .type "Exception", .type "BaseException", .type "object"] "ValueError.__new__" = true) (a31 : PySem.W.nsIn K mainGlobals "BadSeen" = some (some (.ref f31))) (k31 : PySem.W.keepIn K (.ref f31) = true) (s31 : PySem.W.subIn K (.ref f31) (.type "BaseException") = some true) (t31 : PySem.W.typeIn K (.ref f31) = some (.type "type")) (x31 : K.lookup f31 = some (excClassObj nm31 q31 f31 N31 bs31 (.ref S31 :: [.type "ValueError", .type "Exception", .type "BaseException", .type "object"]) true sn31 sub31 ab31 col31 dd31 m0_31 m1_31 m2_31 m3_31 m5_31 "ValueError.__new__")) (sa31 : PySem.W.findIn K (.ref f31) "__setattr__" = some (some (.builtin "object.__setattr__"))) (no31 : PySem.W.findIn K (.ref f31) "index" = some none) (i31 : PySem.W.findIn K (.ref f31) "__init__" = some (some (.ref f33))) (ti31 : PySem.W.typeIn K (.ref f33) = some (.type "function")) (l33 : K.lookup f33 = some ⟨oc33, od33, .func (PySem.W.fnOf "__init__" "BadSeen.__init__" (defArgs s_ini_BadSeen) (defBody s_ini_BadSeen) (defScope s_ini_BadSeen) .none kV33 dc33 pm33 an33 cd33 ct33), sl33⟩) (c33 : PySem.W.codeIn K cd33 "BadSeen.__init__" = true) (k33 : PySem.W.keepIn K (.ref f33) = true) (z_abs : PySem.W.nsIn K mainGlobals "abs" = some none) (z_all : PySem.W.nsIn K mainGlobals "all" = some none) (z_any : PySem.W.nsIn K mainGlobals "any" = some none) (z_bool : PySem.W.nsIn K mainGlobals "bool" = some none) (z_enumerate : PySem.W.nsIn K mainGlobals "enumerate" = some none) (z_int : PySem.W.nsIn K mainGlobals "int" = some none) (z_isinstance : PySem.W.nsIn K mainGlobals "isinstance" = some none) (z_len : PySem.W.nsIn K mainGlobals "len" = some none) (z_list : PySem.W.nsIn K mainGlobals "list" = some none) (z_max : PySem.W.nsIn K mainGlobals "max" = some none) (z_range : PySem.W.nsIn K mainGlobals "range" = some none) (z_sorted : PySem.W.nsIn K mainGlobals "sorted" = some none) (z_tuple : PySem.W.nsIn K mainGlobals "tuple" = some none) (v_MOST_ROUND : PySem.W.nsIn K mainGlobals "MOST_ROUND" = some (some (.int 60 tk_MOST_ROUND))) (v_MOST_SEARCHED : PySem.W.nsIn K mainGlobals "MOST_SEARCHED" = some (some (.int 14 tk_MOST_SEARCHED))) (v_MOST_WHOLE : PySem.W.nsIn K mainGlobals "MOST_WHOLE" = some (some (.int 16 tk_MOST_WHOLE))) :
    ∃ fd : FuncData, (∀ (s : Shared) (v : Value), BindsTo s fd ⟨[v], []⟩ [("_law_script", v)]) ∧ ∀ base : Heap, K.In base → base.Ns mainGlobals mg → FnOk P w K mg base (L2.CX P w) 8 fa fd ["_law_script"] (spFin K) := by
  have e : f25 = fa := Value.ref.inj (Option.some.inj ((PySem.W.mg_of X G a25).symm.trans hfa))
  subst e
  have T : Txt K mg (fun i => ([f0, f1, f2, f3, f4, f5, f6, f7, f8, f9, f10, f11, f12, f13, f14, f15, f16, f17, f18, f19, f20, f21, f22, f23, f24, f25, 0, f27, f28, f29, f30, f31, f32, f33] : List Addr).getD i 0) (fun i => ([PySem.W.fnOf "is_integer" "is_integer" (defArgs s_is_integer) (defBody s_is_integer) (defScope s_is_integer) .none kV0 dc0 pm0 an0 cd0 ct0, PySem.W.fnOf "is_from" "is_from" (defArgs s_is_from) (defBody s_is_from) (defScope s_is_from) .none kV1 dc1 pm1 an1 cd1 ct1, PySem.W.fnOf "check_round" "check_round" (defArgs s_check_round) (defBody s_check_round) (defScope s_check_round) .none kV2 dc2 pm2 an2 cd2 ct2, PySem.W.fnOf "check_lot" "check_lot" (defArgs s_check_lot) (defBody s_check_lot) (defScope s_check_lot) .none kV3 dc3 pm3 an3 cd3 ct3, PySem.W.fnOf "sum_in" "sum_in" (defArgs s_sum_in) (defBody s_sum_in) (defScope s_sum_in) .none kV4 dc4 pm4 an4 cd4 ct4, PySem.W.fnOf "does_free" "does_free" (defArgs s_does_free) (defBody s_does_free) (defScope s_does_free) .none kV5 dc5 pm5 an5 cd5 ct5, PySem.W.fnOf "with_rest" "with_rest" (defArgs s_with_rest) (defBody s_with_rest) (defScope s_with_rest) .none kV6 dc6 pm6 an6 cd6 ct6, PySem.W.fnOf "need_free" "need_free" (defArgs s_need_free) (defBody s_need_free) (defScope s_need_free) .none kV7 dc7 pm7 an7 cd7 ct7, PySem.W.fnOf "added" "added" (defArgs s_added) (defBody s_added) (defScope s_added) .none kV8 dc8 pm8 an8 cd8 ct8, PySem.W.fnOf "adding" "adding" (defArgs s_adding) (defBody s_adding) (defScope s_adding) .none kV9 dc9 pm9 an9 cd9 ct9, PySem.W.fnOf "check_small" "check_small" (defArgs s_check_small) (defBody s_check_small) (defScope s_check_small) .none kV10 dc10 pm10 an10 cd10 ct10, PySem.W.fnOf "free_lots" "free_lots" (defArgs s_free_lots) (defBody s_free_lots) (defScope s_free_lots) .none kV11 dc11 pm11 an11 cd11 ct11, PySem.W.fnOf "divisor" "divisor" (defArgs s_divisor) (defBody s_divisor) (defScope s_divisor) .none kV12 dc12 pm12 an12 cd12 ct12, PySem.W.fnOf "times_of" "times_of" (defArgs s_times_of) (defBody s_times_of) (defScope s_times_of) .none kV13 dc13 pm13 an13 cd13 ct13, PySem.W.fnOf "is_first" "is_first" (defArgs s_is_first) (defBody s_is_first) (defScope s_is_first) .none kV14 dc14 pm14 an14 cd14 ct14, PySem.W.fnOf "greatest" "greatest" (defArgs s_greatest) (defBody s_greatest) (defScope s_greatest) .none kV15 dc15 pm15 an15 cd15 ct15, PySem.W.fnOf "full_lots" "full_lots" (defArgs s_full_lots) (defBody s_full_lots) (defScope s_full_lots) .none kV16 dc16 pm16 an16 cd16 ct16, PySem.W.fnOf "is_seen" "is_seen" (defArgs s_is_seen) (defBody s_is_seen) (defScope s_is_seen) .none kV17 dc17 pm17 an17 cd17 ct17, PySem.W.fnOf "fitting" "fitting" (defArgs s_fitting) (defBody s_fitting) (defScope s_fitting) .none kV18 dc18 pm18 an18 cd18 ct18, PySem.W.fnOf "has_sum" "has_sum" (defArgs s_has_sum) (defBody s_has_sum) (defScope s_has_sum) .none kV19 dc19 pm19 an19 cd19 ct19, PySem.W.fnOf "check_whole" "check_whole" (defArgs s_check_whole) (defBody s_check_whole) (defScope s_check_whole) .none kV20 dc20 pm20 an20 cd20 ct20, PySem.W.fnOf "whole_lots" "whole_lots" (defArgs s_whole_lots) (defBody s_whole_lots) (defScope s_whole_lots) .none kV21 dc21 pm21 an21 cd21 ct21, PySem.W.fnOf "_law_random" "_law_random" (defArgs s__law_random) (defBody s__law_random) (defScope s__law_random) .none kV22 dc22 pm22 an22 cd22 ct22, PySem.W.fnOf "_law_below" "_law_below" (defArgs s__law_below) (defBody s__law_below) (defScope s__law_below) .none kV23 dc23 pm23 an23 cd23 ct23, PySem.W.fnOf "_law_lists" "_law_lists" (defArgs s__law_lists) (defBody s__law_lists) (defScope s__law_lists) .none kV24 dc24 pm24 an24 cd24 ct24, PySem.W.fnOf "law" "law" (defArgs s_law) (defBody s_law) (defScope s_law) .none kV25 dc25 pm25 an25 cd25 ct25, PySem.W.fnOf "law" "law" (defArgs s_law) (defBody s_law) (defScope s_law) .none kV25 dc25 pm25 an25 cd25 ct25, PySem.W.fnOf "law" "law" (defArgs s_law) (defBody s_law) (defScope s_law) .none kV25 dc25 pm25 an25 cd25 ct25, PySem.W.fnOf "law" "law" (defArgs s_law) (defBody s_law) (defScope s_law) .none kV25 dc25 pm25 an25 cd25 ct25, PySem.W.fnOf "law" "law" (defArgs s_law) (defBody s_law) (defScope s_law) .none kV25 dc25 pm25 an25 cd25 ct25, PySem.W.fnOf "law" "law" (defArgs s_law) (defBody s_law) (defScope s_law) .none kV25 dc25 pm25 an25 cd25 ct25, PySem.W.fnOf "law" "law" (defArgs s_law) (defBody s_law) (defScope s_law) .none kV25 dc25 pm25 an25 cd25 ct25, PySem.W.fnOf "__init__" "BadLot.__init__" (defArgs s_ini_BadLot) (defBody s_ini_BadLot) (defScope s_ini_BadLot) .none kV32 dc32 pm32 an32 cd32 ct32, PySem.W.fnOf "__init__" "BadSeen.__init__" (defArgs s_ini_BadSeen) (defBody s_ini_BadSeen) (defScope s_ini_BadSeen) .none kV33 dc33 pm33 an33 cd33 ct33] : List FuncData).getD i (PySem.W.fnOf "law" "law" (defArgs s_law) (defBody s_law) (defScope s_law) .none kV25 dc25 pm25 an25 cd25 ct25)) :=
    { g_is_integer := PySem.W.mg_of X G a0, F_is_integer := fun_mk (st := s_is_integer) l0 c0 k0, b_is_integer := (fun_mk (st := s_is_integer) l0 c0 k0).binds (ps := p_is_integer) fun _ _ _ _ _ _ us hl => match us, hl with | [_], _ => rfl, g_is_from := PySem.W.mg_of X G a1, F_is_from := fun_mk (st := s_is_from) l1 c1 k1, b_is_from := (fun_mk (st := s_is_from) l1 c1 k1).binds (ps := p_is_from) fun _ _ _ _ _ _ us hl => match us, hl with | [_, _, _], _ => rfl, g_check_round := PySem.W.mg_of X G a2, F_check_round := fun_mk (st := s_check_round) l2 c2 k2, b_check_round := (fun_mk (st := s_check_round) l2 c2 k2).binds (ps := p_check_round) fun _ _ _ _ _ _ us hl => match us, hl with | [_], _ => rfl, g_check_lot := PySem.W.mg_of X G a3, F_check_lot := fun_mk (st := s_check_lot) l3 c3 k3, b_check_lot := (fun_mk (st := s_check_lot) l3 c3 k3).binds (ps := p_check_lot) fun _ _ _ _ _ _ us hl => match us, hl with | [_, _], _ => rfl, g_sum_in := PySem.W.mg_of X G a4, F_sum_in := fun_mk (st := s_sum_in) l4 c4 k4, b_sum_in := (fun_mk (st := s_sum_in) l4 c4 k4).binds (ps := p_sum_in) fun _ _ _ _ _ _ us hl => match us, hl with | [_, _], _ => rfl, g_does_free := PySem.W.mg_of X G a5, F_does_free := fun_mk (st := s_does_free) l5 c5 k5, b_does_free := (fun_mk (st := s_does_free) l5 c5 k5).binds (ps := p_does_free) fun _ _ _ _ _ _ us hl => match us, hl with | [_, _], _ => rfl, g_with_rest := PySem.W.mg_of X G a6, F_with_rest := fun_mk (st := s_with_rest) l6 c6 k6, b_with_rest := (fun_mk (st := s_with_rest) l6 c6 k6).binds (ps := p_with_rest) fun _ _ _ _ _ _ us hl => match us, hl with | [_, _], _ => rfl, g_need_free := PySem.W.mg_of X G a7, F_need_free := fun_mk (st := s_need_free) l7 c7 k7, b_need_free := (fun_mk (st := s_need_free) l7 c7 k7).binds (ps := p_need_free) fun _ _ _ _ _ _ us hl => match us, hl with | [_, _], _ => rfl, g_added := PySem.W.mg_of X G a8, F_added := fun_mk (st := s_added) l8 c8 k8, b_added := (fun_mk (st := s_added) l8 c8 k8).binds (ps := p_added) fun _ _ _ _ _ _ us hl => match us, hl with | [_, _], _ => rfl, g_adding := PySem.W.mg_of X G a9, F_adding := fun_mk (st := s_adding) l9 c9 k9, b_adding := (fun_mk (st := s_adding) l9 c9 k9).binds (ps := p_adding) fun _ _ _ _ _ _ us hl => match us, hl with | [_, _], _ => rfl, g_check_small := PySem.W.mg_of X G a10, F_check_small := fun_mk (st := s_check_small) l10 c10 k10, b_check_small := (fun_mk (st := s_check_small) l10 c10 k10).binds (ps := p_check_small) fun _ _ _ _ _ _ us hl => match us, hl with | [_], _ => rfl, g_free_lots := PySem.W.mg_of X G a11, F_free_lots := fun_mk (st := s_free_lots) l11 c11 k11, b_free_lots := (fun_mk (st := s_free_lots) l11 c11 k11).binds (ps := p_free_lots) fun _ _ _ _ _ _ us hl => match us, hl with | [_], _ => rfl, g_divisor := PySem.W.mg_of X G a12, F_divisor := fun_mk (st := s_divisor) l12 c12 k12, b_divisor := (fun_mk (st := s_divisor) l12 c12 k12).binds (ps := p_divisor) fun _ _ _ _ _ _ us hl => match us, hl with | [_, _], _ => rfl, g_times_of := PySem.W.mg_of X G a13, F_times_of := fun_mk (st := s_times_of) l13 c13 k13, b_times_of := (fun_mk (st := s_times_of) l13 c13 k13).binds (ps := p_times_of) fun _ _ _ _ _ _ us hl => match us, hl with | [_, _, _], _ => rfl, g_is_first := PySem.W.mg_of X G a14, F_is_first := fun_mk (st := s_is_first) l14 c14 k14, b_is_first := (fun_mk (st := s_is_first) l14 c14 k14).binds (ps := p_is_first) fun _ _ _ _ _ _ us hl => match us, hl with | [_, _], _ => rfl, g_greatest := PySem.W.mg_of X G a15, F_greatest := fun_mk (st := s_greatest) l15 c15 k15, b_greatest := (fun_mk (st := s_greatest) l15 c15 k15).binds (ps := p_greatest) fun _ _ _ _ _ _ us hl => match us, hl with | [_], _ => rfl, g_full_lots := PySem.W.mg_of X G a16, F_full_lots := fun_mk (st := s_full_lots) l16 c16 k16, b_full_lots := (fun_mk (st := s_full_lots) l16 c16 k16).binds (ps := p_full_lots) fun _ _ _ _ _ _ us hl => match us, hl with | [_], _ => rfl, g_is_seen := PySem.W.mg_of X G a17, F_is_seen := fun_mk (st := s_is_seen) l17 c17 k17, b_is_seen := (fun_mk (st := s_is_seen) l17 c17 k17).binds (ps := p_is_seen) fun _ _ _ _ _ _ us hl => match us, hl with | [_, _], _ => rfl, g_fitting := PySem.W.mg_of X G a18, F_fitting := fun_mk (st := s_fitting) l18 c18 k18, b_fitting := (fun_mk (st := s_fitting) l18 c18 k18).binds (ps := p_fitting) fun _ _ _ _ _ _ us hl => match us, hl with | [_, _], _ => rfl, g_has_sum := PySem.W.mg_of X G a19, F_has_sum := fun_mk (st := s_has_sum) l19 c19 k19, b_has_sum := (fun_mk (st := s_has_sum) l19 c19 k19).binds (ps := p_has_sum) fun _ _ _ _ _ _ us hl => match us, hl with | [_], _ => rfl, g_check_whole := PySem.W.mg_of X G a20, F_check_whole := fun_mk (st := s_check_whole) l20 c20 k20, b_check_whole := (fun_mk (st := s_check_whole) l20 c20 k20).binds (ps := p_check_whole) fun _ _ _ _ _ _ us hl => match us, hl with | [_, _], _ => rfl, g_whole_lots := PySem.W.mg_of X G a21, F_whole_lots := fun_mk (st := s_whole_lots) l21 c21 k21, b_whole_lots := (fun_mk (st := s_whole_lots) l21 c21 k21).binds (ps := p_whole_lots) fun _ _ _ _ _ _ us hl => match us, hl with | [_], _ => rfl, g__law_random := PySem.W.mg_of X G a22, F__law_random := fun_mk (st := s__law_random) l22 c22 k22, b__law_random := (fun_mk (st := s__law_random) l22 c22 k22).binds (ps := p__law_random) fun _ _ _ _ _ _ us hl => match us, hl with | [_, _], _ => rfl, g__law_below := PySem.W.mg_of X G a23, F__law_below := fun_mk (st := s__law_below) l23 c23 k23, b__law_below := (fun_mk (st := s__law_below) l23 c23 k23).binds (ps := p__law_below) fun _ _ _ _ _ _ us hl => match us, hl with | [_, _], _ => rfl, g__law_lists := PySem.W.mg_of X G a24, F__law_lists := fun_mk (st := s__law_lists) l24 c24 k24, b__law_lists := (fun_mk (st := s__law_lists) l24 c24 k24).binds (ps := p__law_lists) fun _ _ _ _ _ _ us hl => match us, hl with | [_], _ => rfl, g_law := PySem.W.mg_of X G a25, F_law := fun_mk (st := s_law) l25 c25 k25, b_law := (fun_mk (st := s_law) l25 c25 k25).binds (ps := p_law) fun _ _ _ _ _ _ us hl => match us, hl with | [_], _ => rfl, g_BadRound := PySem.W.mg_of X G a27, q_BadRound := q27, k_BadRound := k27, s_BadRound := s27, t_BadRound := t27, e_BadLot := ⟨⟨⟨nm28, q28, N28, bs28, _, sn28, sub28, ab28, col28, dd28, m0_28, m1_28, m2_28, m3_28, m5_28, x28, (by decide +kernel : PySem.HandSPX.refsVE [.type "ValueError", .type "Exception", .type "BaseException", .type "object"] = true)⟩, sa28, s28, t28, k28⟩, i28, ti28, PySem.W.mg_of X G a28, no28, ⟨"BadLot.__init__", fun_mk (st := s_ini_BadLot) l32 c32 k32⟩, (fun_mk (st := s_ini_BadLot) l32 c32 k32).binds (ps := ["self", "index"]) fun _ _ _ _ _ _ us hl => match us, hl with | [_, _], _ => rfl⟩, g_TooGreat := PySem.W.mg_of X G a29, q_TooGreat := q29, k_TooGreat := k29, s_TooGreat := s29, t_TooGreat := t29, g_NotFree := PySem.W.mg_of X G a30, q_NotFree := q30, k_NotFree := k30, s_NotFree := s30, t_NotFree := t30, e_BadSeen := ⟨⟨⟨nm31, q31, N31, bs31, _, sn31, sub31, ab31, col31, dd31, m0_31, m1_31, m2_31, m3_31, m5_31, x31, (by decide +kernel : PySem.HandSPX.refsVE [.type "ValueError", .type "Exception", .type "BaseException", .type "object"] = true)⟩, sa31, s31, t31, k31⟩, i31, ti31, PySem.W.mg_of X G a31, no31, ⟨"BadSeen.__init__", fun_mk (st := s_ini_BadSeen) l33 c33 k33⟩, (fun_mk (st := s_ini_BadSeen) l33 c33 k33).binds (ps := ["self", "index"]) fun _ _ _ _ _ _ us hl => match us, hl with | [_, _], _ => rfl⟩, z_abs := PySem.W.mg_none_of X G z_abs, z_all := PySem.W.mg_none_of X G z_all, z_any := PySem.W.mg_none_of X G z_any, z_bool := PySem.W.mg_none_of X G z_bool, z_enumerate := PySem.W.mg_none_of X G z_enumerate, z_int := PySem.W.mg_none_of X G z_int, z_isinstance := PySem.W.mg_none_of X G z_isinstance, z_len := PySem.W.mg_none_of X G z_len, z_list := PySem.W.mg_none_of X G z_list, z_max := PySem.W.mg_none_of X G z_max, z_range := PySem.W.mg_none_of X G z_range, z_sorted := PySem.W.mg_none_of X G z_sorted, z_tuple := PySem.W.mg_none_of X G z_tuple, c_MOST_ROUND := ⟨tk_MOST_ROUND, PySem.W.mg_of X G v_MOST_ROUND⟩, c_MOST_SEARCHED := ⟨tk_MOST_SEARCHED, PySem.W.mg_of X G v_MOST_SEARCHED⟩, c_MOST_WHOLE := ⟨tk_MOST_WHOLE, PySem.W.mg_of X G v_MOST_WHOLE⟩ }
  exact ⟨PySem.W.fnOf "law" "law" (defArgs s_law) (defBody s_law) (defScope s_law) .none kV25 dc25 pm25 an25 cd25 ct25, fun s v => .of_eq rfl, fun base _ _ => FnOk.imp (ok_law T) fin_imp⟩
end Z
open PySem PySem.W PyProof.Rows
set_option maxHeartbeats 0 in
theorem PySem.Challenge.cw_sumless_k23_answers_are_new_holds : PySem.Challenge.rw_sumless_k23_answers_are_new.Holds := by
  w_on; o_law; k_head; (case hw => w_witness2)
  k_fill
  refine L2.walk_of (l := PySem.Challenge.rw_sumless_k23_answers_are_new) (n := 63) (k := 8) (x := "_law_script") (CX := fun w => L2.CX PySem.Challenge.rw_sumless_k23_answers_are_new.prog w) (sp := fun w => Z.spFin _) rfl (by decide) rfl ⟨rfl, by decide, by decide⟩ (fun w h Y => PySem.W.kIn_of Y) ?F (fun _ H a ns hl hO hS => ⟨a, ns, rfl, hS, hl, hO, fun _ => rfl⟩) (fun _ _ _ _ _ h => Z.cx_none h)
  case F =>
    intro w mg fa h KX G hmg
    refine' Z.all_mk KX G hmg ?a0 ?l0 ?c0 ?k0 ?a1 ?l1 ?c1 ?k1 ?a2 ?l2 ?c2 ?k2 ?a3 ?l3 ?c3 ?k3 ?a4 ?l4 ?c4 ?k4 ?a5 ?l5 ?c5 ?k5 ?a6 ?l6 ?c6 ?k6 ?a7 ?l7 ?c7 ?k7 ?a8 ?l8 ?c8 ?k8 ?a9 ?l9 ?c9 ?k9 ?a10 ?l10 ?c10 ?k10 ?a11 ?l11 ?c11 ?k11 ?a12 ?l12 ?c12 ?k12 ?a13 ?l13 ?c13 ?k13 ?a14 ?l14 ?c14 ?k14 ?a15 ?l15 ?c15 ?k15 ?a16 ?l16 ?c16 ?k16 ?a17 ?l17 ?c17 ?k17 ?a18 ?l18 ?c18 ?k18 ?a19 ?l19 ?c19 ?k19 ?a20 ?l20 ?c20 ?k20 ?a21 ?l21 ?c21 ?k21 ?a22 ?l22 ?c22 ?k22 ?a23 ?l23 ?c23 ?k23 ?a24 ?l24 ?c24 ?k24 ?a25 ?l25 ?c25 ?k25 ?a27 ?k27 ?s27 ?t27 ?q27 ?a28 ?k28 ?s28 ?t28 ?x28 ?sa28 ?no28 ?i28 ?ti28 ?l32 ?c32 ?k32 ?a29 ?k29 ?s29 ?t29 ?q29 ?a30 ?k30 ?s30 ?t30 ?q30 ?a31 ?k31 ?s31 ?t31 ?x31 ?sa31 ?no31 ?i31 ?ti31 ?l33 ?c33 ?k33 ?z_abs ?z_all ?z_any ?z_bool ?z_enumerate ?z_int ?z_isinstance ?z_len ?z_list ?z_max ?z_range ?z_sorted ?z_tuple ?v_MOST_ROUND ?v_MOST_SEARCHED ?v_MOST_WHOLE
    (case a0 => k_is)
    (case l0 => k_is)
    (case c0 => k_is)
    (case k0 => k_is)
    (case a1 => k_is)
    (case l1 => k_is)
    (case c1 => k_is)
    (case k1 => k_is)
    (case a2 => k_is)
    (case l2 => k_is)
    (case c2 => k_is)
    (case k2 => k_is)
    (case a3 => k_is)
    (case l3 => k_is)
    (case c3 => k_is)
    (case k3 => k_is)
    (case a4 => k_is)
    (case l4 => k_is)
    (case c4 => k_is)
    (case k4 => k_is)
    (case a5 => k_is)
    (case l5 => k_is)
    (case c5 => k_is)
    (case k5 => k_is)
    (case a6 => k_is)
    (case l6 => k_is)
    (case c6 => k_is)
    (case k6 => k_is)
    (case a7 => k_is)
    (case l7 => k_is)
    (case c7 => k_is)
    (case k7 => k_is)
    (case a8 => k_is)
    (case l8 => k_is)
    (case c8 => k_is)
    (case k8 => k_is)
    (case a9 => k_is)
    (case l9 => k_is)
    (case c9 => k_is)
    (case k9 => k_is)
    (case a10 => k_is)
    (case l10 => k_is)
    (case c10 => k_is)
    (case k10 => k_is)
    (case a11 => k_is)
    (case l11 => k_is)
    (case c11 => k_is)
    (case k11 => k_is)
    (case a12 => k_is)
    (case l12 => k_is)
    (case c12 => k_is)
    (case k12 => k_is)
    (case a13 => k_is)
    (case l13 => k_is)
    (case c13 => k_is)
    (case k13 => k_is)
    (case a14 => k_is)
    (case l14 => k_is)
    (case c14 => k_is)
    (case k14 => k_is)
    (case a15 => k_is)
    (case l15 => k_is)
    (case c15 => k_is)
    (case k15 => k_is)
    (case a16 => k_is)
    (case l16 => k_is)
    (case c16 => k_is)
    (case k16 => k_is)
    (case a17 => k_is)
    (case l17 => k_is)
    (case c17 => k_is)
    (case k17 => k_is)
    (case a18 => k_is)
    (case l18 => k_is)
    (case c18 => k_is)
    (case k18 => k_is)
    (case a19 => k_is)
    (case l19 => k_is)
    (case c19 => k_is)
    (case k19 => k_is)
    (case a20 => k_is)
    (case l20 => k_is)
    (case c20 => k_is)
    (case k20 => k_is)
    (case a21 => k_is)
    (case l21 => k_is)
    (case c21 => k_is)
    (case k21 => k_is)
    (case a22 => k_is)
    (case l22 => k_is)
    (case c22 => k_is)
    (case k22 => k_is)
    (case a23 => k_is)
    (case l23 => k_is)
    (case c23 => k_is)
    (case k23 => k_is)
    (case a24 => k_is)
    (case l24 => k_is)
    (case c24 => k_is)
    (case k24 => k_is)
    (case a25 => k_is)
    (case l25 => k_is)
    (case c25 => k_is)
    (case k25 => k_is)
    (case a27 => k_is)
    (case k27 => k_is)
    (case s27 => k_is)
    (case t27 => k_is)
    (case q27 => first | rfl | kernel_rfl | k_is)
    (case a28 => k_is)
    (case k28 => k_is)
    (case s28 => k_is)
    (case t28 => k_is)
    (case x28 => k_is)
    (case sa28 => k_is)
    (case no28 => k_is)
    (case i28 => k_is)
    (case ti28 => k_is)
    (case l32 => k_is)
    (case c32 => k_is)
    (case k32 => k_is)
    (case a29 => k_is)
    (case k29 => k_is)
    (case s29 => k_is)
    (case t29 => k_is)
    (case q29 => first | rfl | kernel_rfl | k_is)
    (case a30 => k_is)
    (case k30 => k_is)
    (case s30 => k_is)
    (case t30 => k_is)
    (case q30 => first | rfl | kernel_rfl | k_is)
    (case a31 => k_is)
    (case k31 => k_is)
    (case s31 => k_is)
    (case t31 => k_is)
    (case x31 => k_is)
    (case sa31 => k_is)
    (case no31 => k_is)
    (case i31 => k_is)
    (case ti31 => k_is)
    (case l33 => k_is)
    (case c33 => k_is)
    (case k33 => k_is)
    (case z_abs => k_is)
    (case z_all => k_is)
    (case z_any => k_is)
    (case z_bool => k_is)
    (case z_enumerate => k_is)
    (case z_int => k_is)
    (case z_isinstance => k_is)
    (case z_len => k_is)
    (case z_list => k_is)
    (case z_max => k_is)
    (case z_range => k_is)
    (case z_sorted => k_is)
    (case z_tuple => k_is)
    (case v_MOST_ROUND => k_is)
    (case v_MOST_SEARCHED => k_is)
    (case v_MOST_WHOLE => k_is)

