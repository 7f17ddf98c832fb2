import PyProof.Rows.All
import Wide.All
import OpenK.AllK
import Wide.FinOn
import HandS.ForMost
import HandS.ForExc
import HandS.TupAny
import HandS.Star
import HandS.Deep
import HandS.TryMany
import HandS.ExcInit
import HandS.ExcField
import HandS.Wide
import HandS.Small
import HandS.TupLe
import HandS.ExcValue
import HandS.IsInst
import HandS.SortInts
import KE.GoesEnum
import KE.SortData
import KE.DataMinMax
import HandS.Style
import KE.KSortTup
import HandS.TupMul
import HandS.SetFor
import HandS.Strs
import HandS.TupSets
import HandS.Text
import HandS.FStr
import HandS.Iter
import PyProof.ListStr
import PyProof.StrOps2
import KE.IntTextLaws
import HandS.Property
import HandS.ExcOwn
import KE.KOwnIter
import PyProof.InstSpecial
import HandS.Dict
import KE.KDictDisplayH
import PySem.Challenge.RW_sumless_k21_whole_zero_parts
set_option Elab.async false
set_option linter.all false
set_option maxRecDepth 100000
set_option autoImplicit false
namespace Y
open PySem PySem.Spec L2
open PyProof.Rows hiding St

inductive D where
  | non | bl (b : Bool) | int (i : Int) | str (s : Str) | tup (xs : List D) | lst (xs : List D) | obj (k : Nat) | dct | scr (ns : List Int) | key (ns : List Int) | exn (a dd : Addr) (f : Str) (d : D)

/-- what stands at a numbered object -/
inductive MO where
  | dead
  | lst (xs : List D)
  | rnd
  | ins (c : Str) (fs : List (Str × D))
  | dic (kvs : List (List Int × Option Int))
  | dik (kvs : List (Int × Option Int))
  | dil (u : Obj) (kvs : List (List Int × Option Int))
  | exc (c : Str)
  | exi (c f : Str) (d : D)

abbrev Rho := List (Option D)
abbrev GS := List MO
/-- where the numbered objects stand (none: no more one); what is being made and not shown yet -/
structure Eta where
  o : List (Option Addr)
  hid : List Addr
def Out (η : Eta) (a : Addr) : Prop := some a ∉ η.o ∧ a ∉ η.hid

/-- an error: its class, its field -/
structure Er where
  cls : Str
  arg : Option (Str × D)

/-- a list that nobody writes: the script -/
def SqF (K : PySem.W.Frag) (H : Hp) (a : Addr) (xs : List V) : Prop := (∃ o, H a = some (.frz o (.lst xs))) ∨
  ∃ (o : Obj) (its : Array Value) (n : Nat), K.lookup a = some o ∧ o.cls = .type "list" ∧ o.dict = none ∧ o.data = .seq its n ∧ its.size ≤ sizeLine ∧ Vals xs its.toList
/-- a dict by tuples of ints: True or ints stand there -/
def vO : Option Int → V
  | none => .bl true
  | some i => .int i
def kvI (kvs : List (Int × Option Int)) : List (L2.Key × V) := kvs.map fun e => (Sum.inl e.1, vO e.2)
def kvV (kvs : List (List Int × Option Int)) : List (List L2.Key × V) := kvs.map fun e => (e.1.map Sum.inl, vO e.2)
mutual
def Rp (K : PySem.W.Frag) (η : Eta) (H : Hp) : D → V → Prop
  | .non, v => v = .non
  | .bl b, v => v = .bl b
  | .int i, v => v = .int i
  | .str s, v => v = .str s
  | .tup ds, v => ∃ a vs, v = .ref a ∧ SqT K H a vs ∧ RpL K η H ds vs
  | .lst ds, v => ∃ a vs, v = .ref a ∧ Out η a ∧ H a = some (.lst vs) ∧ RpL K η H ds vs
  | .obj k, v => ∃ a, v = .ref a ∧ (η.o[k]? = some (some a) ∨ η.o[k]? = some none)
  | .dct, v => ∃ a, v = .ref a ∧ Out η a ∧ H a = some (.dK [])
  | .scr ns, v => ∃ a, v = .ref a ∧ SqF K H a (ns.map V.int)
  | .key ns, v => ∃ a, v = .ref a ∧ H a = some (.tup (ns.map V.int))
  | .exn a dd f d, v => v = .ref a ∧ ∃ u, H dd = some (.xd [(f, u)]) ∧ Rp K η H d u
def RpL (K : PySem.W.Frag) (η : Eta) (H : Hp) : List D → List V → Prop
  | [], vs => vs = []
  | d :: ds, vs => ∃ v r, vs = v :: r ∧ Rp K η H d v ∧ RpL K η H ds r
end

/-- a source of numbers: what is always so of its list -/
def GoodR (ns : List Int) : Prop := ∃ a b r, ns = a :: b :: r ∧ 0 ≤ a ∧ a < 2147483647 ∧ r.length ≤ 98

def FsR (K : PySem.W.Frag) (η : Eta) (H : Hp) : List (Str × D) → List (Str × V) → Prop
  | [], vs => vs = []
  | (f, d) :: ds, vs => ∃ v r, vs = (f, v) :: r ∧ Rp K η H d v ∧ FsR K η H ds r

def MOk (K : PySem.W.Frag) (mg : Str → Option Value) (η : Eta) (H : Hp) (k : Nat) : MO → Prop
  | .dead => η.o[k]? = some none
  | .lst ds => ∃ a vs, η.o[k]? = some (some a) ∧ H a = some (.lst vs) ∧ RpL K η H ds vs
  | .rnd => ∃ a ns, η.o[k]? = some (some a) ∧ H a = some (.lst (ns.map V.int)) ∧ GoodR ns
  | .ins c fs => ∃ a C dx vs, η.o[k]? = some (some a) ∧ mg c = some (.ref C) ∧ H a = some (.ins C dx vs) ∧ FsR K η H fs vs
  | .dic kvs => ∃ a, η.o[k]? = some (some a) ∧ H a = some (.dT (kvV kvs))
  | .dik kvs => ∃ a, η.o[k]? = some (some a) ∧ H a = some (.dK (kvI kvs))
  | .dil u kvs => ∃ a, η.o[k]? = some (some a) ∧ H a = some (.frz u (.dT (kvV kvs)))
  | .exc c => ∃ a C, η.o[k]? = some (some a) ∧ mg c = some (.ref C) ∧ H a = some (ExO (.ref C) a)
  | .exi c f d => ∃ a C dx v, η.o[k]? = some (some a) ∧ mg c = some (.ref C) ∧ H a = some (exo a C (some dx)) ∧ Out η dx ∧ H dx = some (exd dx [(f, v)]) ∧ Rp K η H d v

structure W (K : PySem.W.Frag) (mg : Str → Option Value) (η : Eta) (G : GS) (H : Hp) : Prop where
  len : η.o.length = G.length
  at_ : ∀ (k : Nat) (m : MO), G[k]? = some m → MOk K mg η H k m
  inj : ∀ (i j : Nat) (a : Addr), η.o[i]? = some (some a) → η.o[j]? = some (some a) → i = j
  hd : ∀ a, a ∈ η.hid → some a ∉ η.o ∧ ∃ o, H a = some o

/-- things that are never written -/
def Fix : HO → Prop
  | .tup _ => True
  | .frz _ _ => True
  | .own _ => True
  | .xd _ => True
  | _ => False

structure Stp (η : Eta) (H : Hp) (η' : Eta) (H' : Hp) : Prop where
  le : η.o.length ≤ η'.o.length
  old : ∀ (k : Nat) (a : Addr), η.o[k]? = some (some a) → η'.o[k]? = some (some a) ∨ η'.o[k]? = some none
  dead : ∀ (k : Nat), η.o[k]? = some none → η'.o[k]? = some none
  new : ∀ (k : Nat) (a : Addr), η.o.length ≤ k → η'.o[k]? = some (some a) → H a = none
  keep : ∀ b o, H b = some o → (some b ∉ η.o ∨ Fix o) → H' b = some o
  more : ∀ b o, H b = some o → ∃ o', H' b = some o'
  hid : ∃ L, η'.hid = L ++ η.hid ∧ ∀ b ∈ L, H b = none

theorem no_new {η : Eta} {H : Hp} (k : Nat) (a : Addr) (h : η.o.length ≤ k) (e : η.o[k]? = some (some a)) : H a = none := by
  rw [List.getElem?_eq_none h] at e; cases e
theorem hid0 {η : Eta} {H : Hp} : ∃ L, η.hid = L ++ η.hid ∧ ∀ b ∈ L, H b = none := ⟨[], rfl, fun _ h => nomatch h⟩
theorem Stp.refl (η : Eta) (H : Hp) : Stp η H η H :=
  ⟨Nat.le_refl _, fun _ _ h => .inl h, fun _ h => h, no_new, fun _ _ h _ => h, fun _ o h => ⟨o, h⟩, hid0⟩

theorem mem_eta {η : Eta} {a : Addr} : some a ∈ η.o ↔ ∃ k : Nat, η.o[k]? = some (some a) := by
  rw [List.mem_iff_getElem?]

theorem Stp.out {η η' : Eta} {H H' : Hp} (s : Stp η H η' H') {b : Addr} {o : HO} (h : H b = some o) (n : Out η b) : Out η' b := by
  refine ⟨fun hm => ?_, fun hm => ?_⟩
  case refine_2 =>
    obtain ⟨L, e, hL⟩ := s.hid
    rw [e] at hm
    rcases List.mem_append.mp hm with hm | hm
    · rw [hL b hm] at h; cases h
    · exact n.2 hm
  obtain ⟨k, e⟩ := mem_eta.mp hm
  by_cases hk : k < η.o.length
  · obtain ⟨x, ex⟩ : ∃ x, η.o[k]? = some x := ⟨η.o[k], List.getElem?_eq_getElem hk⟩
    cases x with
    | none => rw [s.dead k ex] at e; cases e
    | some c =>
      rcases s.old k c ex with q | q
      · rw [q] at e; cases e; exact n.1 (mem_eta.mpr ⟨k, ex⟩)
      · rw [q] at e; cases e
  · have := s.new k b (Nat.le_of_not_lt hk) e
    rw [h] at this; cases this

theorem Stp.outO {η η' : Eta} {H H' : Hp} (s : Stp η H η' H') {b : Addr} {o : HO} (h : H b = some o) (n : some b ∉ η.o) : some b ∉ η'.o := by
  intro hm
  obtain ⟨k, e⟩ := mem_eta.mp hm
  by_cases hk : k < η.o.length
  · obtain ⟨x, ex⟩ : ∃ x, η.o[k]? = some x := ⟨η.o[k], List.getElem?_eq_getElem hk⟩
    cases x with
    | none => rw [s.dead k ex] at e; cases e
    | some c =>
      rcases s.old k c ex with q | q
      · rw [q] at e; cases e; exact n (mem_eta.mpr ⟨k, ex⟩)
      · rw [q] at e; cases e
  · have := s.new k b (Nat.le_of_not_lt hk) e
    rw [h] at this; cases this
theorem Stp.trans {η η1 η2 : Eta} {H H1 H2 : Hp} (s : Stp η H η1 H1) (t : Stp η1 H1 η2 H2) : Stp η H η2 H2 where
  le := Nat.le_trans s.le t.le
  old := fun k a h => by
    rcases s.old k a h with q | q
    · exact t.old k a q
    · exact .inr (t.dead k q)
  dead := fun k h => t.dead k (s.dead k h)
  new := fun k a hk e => by
    by_cases h1 : k < η1.o.length
    · obtain ⟨x, ex⟩ : ∃ x, η1.o[k]? = some x := ⟨η1.o[k], List.getElem?_eq_getElem h1⟩
      cases x with
      | none => rw [t.dead k ex] at e; cases e
      | some c =>
        rcases t.old k c ex with q | q
        · rw [q] at e; cases e; exact s.new k a hk ex
        · rw [q] at e; cases e
    · have q := t.new k a (Nat.le_of_not_lt h1) e
      cases z : H a with
      | none => rfl
      | some o => obtain ⟨o', q'⟩ := s.more a o z; rw [q] at q'; cases q'
  keep := fun b o h n => by
    have h1 := s.keep b o h n
    refine t.keep b o h1 ?_
    rcases n with n | n
    · exact .inl (s.outO h n)
    · exact .inr n
  more := fun b o h => by
    obtain ⟨o1, h1⟩ := s.more b o h
    exact t.more b o1 h1
  hid := by
    obtain ⟨L1, e1, h1⟩ := s.hid
    obtain ⟨L2, e2, h2⟩ := t.hid
    refine ⟨L2 ++ L1, by rw [e2, e1, List.append_assoc], fun b hb => ?_⟩
    rcases List.mem_append.mp hb with hb | hb
    · cases z : H b with
      | none => rfl
      | some o => obtain ⟨o', q'⟩ := s.more b o z; rw [h2 b hb] at q'; cases q'
    · exact h1 b hb

section
variable {K : PySem.W.Frag} {mg : Str → Option Value} {η η' : Eta} {H H' : Hp} {G : GS}

theorem SqF.up (k : ∀ b o, H b = some o → Fix o → H' b = some o) {a : Addr} {vs : List V} (h : SqF K H a vs) : SqF K H' a vs := by
  rcases h with ⟨o, h⟩ | h
  · exact .inl ⟨o, k _ _ h trivial⟩
  · exact .inr h
theorem SqT.step (s : Stp η H η' H') {a : Addr} {vs : List V} (h : SqT K H a vs) : SqT K H' a vs := by
  rcases h with (h | ⟨o, h⟩) | h
  · exact .inl (.inl (s.keep _ _ h (.inr trivial)))
  · exact .inl (.inr ⟨o, s.keep _ _ h (.inr trivial)⟩)
  · exact .inr h

mutual
theorem Rp.step (s : Stp η H η' H') : ∀ (d : D) (v : V), Rp K η H d v → Rp K η' H' d v
  | .non, _, h => h
  | .bl _, _, h => h
  | .int _, _, h => h
  | .str _, _, h => h
  | .tup ds, v, h => by
    obtain ⟨a, vs, e, ht, hr⟩ := h
    exact ⟨a, vs, e, SqT.step s ht, RpL.step s ds vs hr⟩
  | .lst ds, v, h => by
    obtain ⟨a, vs, e, hn, hl, hr⟩ := h
    exact ⟨a, vs, e, s.out hl hn, s.keep _ _ hl (.inl hn.1), RpL.step s ds vs hr⟩
  | .obj k, v, h => by
    obtain ⟨a, e, h⟩ := h
    refine ⟨a, e, ?_⟩
    rcases h with h | h
    · exact s.old k a h
    · exact .inr (s.dead k h)
  | .dct, v, h => by
    obtain ⟨a, e, n, hd⟩ := h
    exact ⟨a, e, s.out hd n, s.keep _ _ hd (.inl n.1)⟩
  | .scr ns, v, h => by
    obtain ⟨a, e, h⟩ := h
    exact ⟨a, e, h.up fun b o z f => s.keep b o z (.inr f)⟩
  | .key ns, v, h => by
    obtain ⟨a, e, h⟩ := h
    exact ⟨a, e, s.keep _ _ h (.inr trivial)⟩
  | .exn a dd f d, v, h => by
    obtain ⟨e, u, hd, r⟩ := h
    exact ⟨e, u, s.keep _ _ hd (.inr trivial), Rp.step s d u r⟩
theorem RpL.step (s : Stp η H η' H') : ∀ (ds : List D) (vs : List V), RpL K η H ds vs → RpL K η' H' ds vs
  | [], _, h => h
  | d :: ds, vs, h => by
    obtain ⟨v, r, e, h1, h2⟩ := h
    exact ⟨v, r, e, Rp.step s d v h1, RpL.step s ds r h2⟩
end

theorem FsR.step (s : Stp η H η' H') : ∀ (ds : List (Str × D)) (vs : List (Str × V)), FsR K η H ds vs → FsR K η' H' ds vs
  | [], _, h => h
  | (f, d) :: ds, vs, h => by
    obtain ⟨v, r, e, h1, h2⟩ := h
    exact ⟨v, r, e, Rp.step s d v h1, FsR.step s ds r h2⟩

theorem RpL.length : ∀ {ds : List D} {vs : List V}, RpL K η H ds vs → ds.length = vs.length
  | [], _, h => by cases h; rfl
  | d :: ds, vs, h => by
    obtain ⟨v, r, e, _, h2⟩ := h
    subst e
    simp [RpL.length h2]
theorem RpL.get : ∀ {ds : List D} {vs : List V} {i : Nat} {d : D}, RpL K η H ds vs → ds[i]? = some d → ∃ v, vs[i]? = some v ∧ Rp K η H d v
  | [], _, i, d, h, e => by simp at e
  | d :: ds, vs, 0, x, h, e => by
    obtain ⟨v, r, ev, h1, h2⟩ := h
    simp at e; subst e; subst ev
    exact ⟨v, rfl, h1⟩
  | d :: ds, vs, i + 1, x, h, e => by
    obtain ⟨v, r, ev, h1, h2⟩ := h
    subst ev
    obtain ⟨u, e1, e2⟩ := RpL.get (i := i) (d := x) h2 (by simpa using e)
    exact ⟨u, by simpa using e1, e2⟩
theorem RpL.getV : ∀ {ds : List D} {vs : List V} {i : Nat} {v : V}, RpL K η H ds vs → vs[i]? = some v → ∃ d, ds[i]? = some d ∧ Rp K η H d v
  | [], _, i, d, h, e => by cases h; simp at e
  | d :: ds, vs, 0, x, h, e => by
    obtain ⟨v, r, ev, h1, h2⟩ := h
    subst ev; simp at e; subst e
    exact ⟨d, rfl, h1⟩
  | d :: ds, vs, i + 1, x, h, e => by
    obtain ⟨v, r, ev, h1, h2⟩ := h
    subst ev
    obtain ⟨u, e1, e2⟩ := RpL.getV (i := i) (v := x) h2 (by simpa using e)
    exact ⟨u, by simpa using e1, e2⟩
theorem RpL.append : ∀ {ds es : List D} {vs us : List V}, RpL K η H ds vs → RpL K η H es us → RpL K η H (ds ++ es) (vs ++ us)
  | [], _, _, _, h, g => by cases h; exact g
  | d :: ds, es, vs, us, h, g => by
    obtain ⟨v, r, e, h1, h2⟩ := h
    subst e
    exact ⟨v, r ++ us, rfl, h1, RpL.append h2 g⟩
theorem RpL.one {d : D} {v : V} (h : Rp K η H d v) : RpL K η H [d] [v] := ⟨v, [], rfl, h, rfl⟩
theorem RpL.take : ∀ (n : Nat) {ds : List D} {vs : List V}, RpL K η H ds vs → RpL K η H (ds.take n) (vs.take n)
  | 0, _, _, _ => by simp [RpL]
  | n + 1, [], _, h => by cases h; simp [RpL]
  | n + 1, d :: ds, vs, h => by
    obtain ⟨v, r, e, h1, h2⟩ := h
    subst e
    exact ⟨v, _, rfl, h1, RpL.take n h2⟩
theorem RpL.drop : ∀ (n : Nat) {ds : List D} {vs : List V}, RpL K η H ds vs → RpL K η H (ds.drop n) (vs.drop n)
  | 0, _, _, h => h
  | n + 1, [], _, h => by cases h; simp [RpL]
  | n + 1, d :: ds, vs, h => by
    obtain ⟨v, r, e, h1, h2⟩ := h
    subst e
    exact RpL.drop n h2
theorem RpL.reverse : ∀ {ds : List D} {vs : List V}, RpL K η H ds vs → RpL K η H ds.reverse vs.reverse
  | [], _, h => by cases h; simp [RpL]
  | d :: ds, vs, h => by
    obtain ⟨v, r, e, h1, h2⟩ := h
    subst e
    simp only [List.reverse_cons]
    exact RpL.append (RpL.reverse h2) (RpL.one h1)
theorem RpL.set : ∀ {ds : List D} {vs : List V} (i : Nat) {d : D} {v : V}, RpL K η H ds vs → Rp K η H d v → RpL K η H (ds.set i d) (vs.set i v)
  | [], _, i, _, _, h, _ => by cases h; exact rfl
  | d :: ds, vs, 0, x, u, h, g => by
    obtain ⟨v, r, e, h1, h2⟩ := h
    subst e
    exact ⟨u, r, rfl, g, h2⟩
  | d :: ds, vs, i + 1, x, u, h, g => by
    obtain ⟨v, r, e, h1, h2⟩ := h
    subst e
    exact ⟨v, _, rfl, h1, RpL.set i h2 g⟩
theorem RpL.eraseIdx : ∀ {ds : List D} {vs : List V} (i : Nat), RpL K η H ds vs → RpL K η H (ds.eraseIdx i) (vs.eraseIdx i)
  | [], _, i, h => by cases h; exact rfl
  | d :: ds, vs, 0, h => by
    obtain ⟨v, r, e, h1, h2⟩ := h
    subst e
    exact h2
  | d :: ds, vs, i + 1, h => by
    obtain ⟨v, r, e, h1, h2⟩ := h
    subst e
    exact ⟨v, _, rfl, h1, RpL.eraseIdx i h2⟩
theorem RpL.dropLast : ∀ {ds : List D} {vs : List V}, RpL K η H ds vs → RpL K η H ds.dropLast vs.dropLast := fun {ds vs} h => by
  rw [List.dropLast_eq_take, List.dropLast_eq_take, h.length]
  exact RpL.take _ h
theorem RpL.ints : ∀ {ns : List Int} {vs : List V}, RpL K η H (ns.map D.int) vs ↔ vs = ns.map V.int
  | [], vs => by simp [RpL]
  | n :: ns, vs => by
    simp only [List.map_cons, RpL]
    constructor
    · rintro ⟨v, r, e, h1, h2⟩
      have h3 := RpL.ints.mp h2
      have h1' : v = V.int n := h1
      rw [e, h1', h3]
    · intro e
      exact ⟨_, _, e, rfl, RpL.ints.mpr rfl⟩

theorem MOk.step (s : Stp η H η' H') {k : Nat} : ∀ {m : MO}, MOk K mg η H k m → (∀ a : Addr, η.o[k]? = some (some a) → η'.o[k]? = some (some a) ∧ ∀ o, H a = some o → H' a = some o) → MOk K mg η' H' k m
  | .dead, h, _ => s.dead _ h
  | .lst ds, h, g => by
    obtain ⟨a, vs, e, e2, r⟩ := h
    exact ⟨a, vs, (g a e).1, (g a e).2 _ e2, RpL.step s _ _ r⟩
  | .rnd, h, g => by
    obtain ⟨a, ns, e, e2, r⟩ := h
    exact ⟨a, ns, (g a e).1, (g a e).2 _ e2, r⟩
  | .ins c fs, h, g => by
    obtain ⟨a, C, dx, vs, e, e1, e2, r⟩ := h
    exact ⟨a, C, dx, vs, (g a e).1, e1, (g a e).2 _ e2, FsR.step s _ _ r⟩
  | .dic kvs, h, g => by
    obtain ⟨a, e, e2⟩ := h
    exact ⟨a, (g a e).1, (g a e).2 _ e2⟩
  | .dik kvs, h, g => by
    obtain ⟨a, e, e2⟩ := h
    exact ⟨a, (g a e).1, (g a e).2 _ e2⟩
  | .dil u kvs, h, g => by
    obtain ⟨a, e, e2⟩ := h
    exact ⟨a, (g a e).1, (g a e).2 _ e2⟩
  | .exc c, h, g => by
    obtain ⟨a, C, e, e1, e2⟩ := h
    exact ⟨a, C, (g a e).1, e1, (g a e).2 _ e2⟩
  | .exi c f d, h, g => by
    obtain ⟨a, C, dx, v, e, e1, e2, ho, hx, r⟩ := h
    exact ⟨a, C, dx, v, (g a e).1, e1, (g a e).2 _ e2, s.out hx ho, s.keep _ _ hx (.inl ho.1), Rp.step s _ _ r⟩

theorem W.lt (w : W K mg η G H) {k : Nat} {x : Option Addr} (e : η.o[k]? = some x) : ∃ m, G[k]? = some m := by
  have h1 : k < η.o.length := (List.getElem?_eq_some_iff.mp e).1
  exact ⟨G[k]'(w.len ▸ h1), List.getElem?_eq_getElem _⟩
theorem W.trk (w : W K mg η G H) {k : Nat} {a : Addr} (e : η.o[k]? = some (some a)) : ∃ o, H a = some o := by
  obtain ⟨m, hm⟩ := w.lt e
  have h := w.at_ k m hm
  cases m with
  | dead => have h' : η.o[k]? = some none := h; rw [h'] at e; cases e
  | lst ds => obtain ⟨b, vs, e1, e2, _⟩ := h; rw [e] at e1; cases e1; exact ⟨_, e2⟩
  | rnd => obtain ⟨b, vs, e1, e2, _⟩ := h; rw [e] at e1; cases e1; exact ⟨_, e2⟩
  | dic kvs => obtain ⟨b, e1, e2⟩ := h; rw [e] at e1; cases e1; exact ⟨_, e2⟩
  | dik kvs => obtain ⟨b, e1, e2⟩ := h; rw [e] at e1; cases e1; exact ⟨_, e2⟩
  | dil u kvs => obtain ⟨b, e1, e2⟩ := h; rw [e] at e1; cases e1; exact ⟨_, e2⟩
  | exc c => obtain ⟨b, C, e1, _, e2⟩ := h; rw [e] at e1; cases e1; exact ⟨_, e2⟩
  | exi c f d => obtain ⟨b, C, dx, v, e1, _, e2, _⟩ := h; rw [e] at e1; cases e1; exact ⟨_, e2⟩
  | ins c fs => obtain ⟨b, C, dx, vs, e1, _, e2, _⟩ := h; rw [e] at e1; cases e1; exact ⟨_, e2⟩
theorem W.outO (w : W K mg η G H) {a : Addr} (e : H a = none) : some a ∉ η.o := fun hm => by
  obtain ⟨k, hk⟩ := mem_eta.mp hm
  obtain ⟨o, ho⟩ := w.trk hk
  rw [e] at ho; cases ho
theorem W.out (w : W K mg η G H) {a : Addr} (e : H a = none) : Out η a := ⟨w.outO e, fun hm => by
  obtain ⟨_, o, ho⟩ := w.hd a hm
  rw [e] at ho; cases ho⟩
theorem W.same (w : W K mg η G H) (s : Stp η H η H') (k : ∀ b o, some b ∈ η.o → H b = some o → H' b = some o) : W K mg η G H' :=
  ⟨w.len, fun i m h => (w.at_ i m h).step s fun a e => ⟨e, fun o ho => k a o (mem_eta.mpr ⟨i, e⟩) ho⟩, w.inj, fun a ha => ⟨(w.hd a ha).1, let ⟨o, ho⟩ := (w.hd a ha).2; s.more a o ho⟩⟩

/-- a new thing is laid -/
theorem Stp.laid {p : Addr} {o : HO} (n : H p = none) : Stp η H η (upd H p o) :=
  ⟨Nat.le_refl _, fun _ _ h => .inl h, fun _ h => h, no_new,
    fun b u h _ => by rw [upd_ne (ne_of_none h n)]; exact h, fun b u h => ⟨u, by rw [upd_ne (ne_of_none h n)]; exact h⟩, hid0⟩
theorem W.laid {p : Addr} {o : HO} (w : W K mg η G H) (n : H p = none) : W K mg η G (upd H p o) :=
  w.same (Stp.laid n) fun b u _ h => by rw [upd_ne (ne_of_none h n)]; exact h
theorem Rp.lstNew {p : Addr} {vs : List V} {ds : List D} (w : W K mg η G H) (n : H p = none) (r : RpL K η H ds vs) : Rp K η (upd H p (.lst vs)) (.lst ds) (.ref p) :=
  ⟨p, vs, rfl, w.out n, upd_same, RpL.step (Stp.laid n) _ _ r⟩
theorem Rp.tupNew {p : Addr} {vs : List V} {ds : List D} (n : H p = none) (r : RpL K η H ds vs) : Rp K η (upd H p (.tup vs)) (.tup ds) (.ref p) :=
  ⟨p, vs, rfl, SqT.of upd_same, RpL.step (Stp.laid n) _ _ r⟩

def Eta.push (η : Eta) (p : Addr) : Eta := ⟨η.o ++ [some p], η.hid⟩
def Eta.kill (η : Eta) (k : Nat) : Eta := ⟨η.o.set k none, η.hid⟩
def Eta.cut (η : Eta) (n : Nat) : Eta := ⟨η.o.take n, η.hid⟩
/-- a new numbered object -/
theorem Stp.grow {p : Addr} (n : H p = none) : Stp η H (η.push p) H := by
  refine ⟨by simp [Eta.push], fun k a h => .inl ?_, fun k h => ?_, fun k a hk e => ?_, fun _ _ h _ => h, fun _ o h => ⟨o, h⟩, hid0⟩
  · show (η.o ++ [some p])[k]? = _
    rw [List.getElem?_append_left (List.getElem?_eq_some_iff.mp h).1]; exact h
  · show (η.o ++ [some p])[k]? = _
    rw [List.getElem?_append_left (List.getElem?_eq_some_iff.mp h).1]; exact h
  · have e : (η.o ++ [some p])[k]? = some (some a) := e
    rw [List.getElem?_append_right hk] at e
    cases q : k - η.o.length with
    | zero => rw [q] at e; simp at e; subst e; exact n
    | succ j => rw [q] at e; simp at e
theorem Stp.pushed {p : Addr} {o : HO} (n : H p = none) : Stp η H (η.push p) (upd H p o) := by
  have h1 : Stp η H (η.push p) H := Stp.grow n
  refine ⟨h1.le, h1.old, h1.dead, h1.new, fun b u h _ => ?_, fun b u h => ⟨u, ?_⟩, hid0⟩ <;> (rw [upd_ne (ne_of_none h n)]; exact h)
theorem W.grow {p : Addr} {m : MO} {o : HO} (w : W K mg η G H) (n : H p = none) (ok : MOk K mg (η.push p) (upd H p o) η.o.length m) :
    W K mg (η.push p) (G ++ [m]) (upd H p o) := by
  have st : Stp η H (η.push p) (upd H p o) := Stp.pushed n
  have aux : ∀ (i : Nat) (a : Addr), (η.push p).o[i]? = some (some a) → (i < η.o.length ∧ η.o[i]? = some (some a)) ∨ (i = η.o.length ∧ a = p) := by
    intro i a h
    have h : (η.o ++ [some p])[i]? = some (some a) := h
    by_cases hk : i < η.o.length
    · rw [List.getElem?_append_left hk] at h; exact .inl ⟨hk, h⟩
    · rw [List.getElem?_append_right (Nat.le_of_not_lt hk)] at h
      cases q : i - η.o.length with
      | zero => rw [q] at h; simp at h; exact .inr ⟨by omega, h.symm⟩
      | succ j => rw [q] at h; simp at h
  refine ⟨by simp [Eta.push, w.len], fun k x hx => ?_, fun i j a hi hj => ?_, fun a ha => ?_⟩
  · by_cases hk : k < G.length
    · rw [List.getElem?_append_left hk] at hx
      refine (w.at_ k x hx).step st fun a e => ⟨?_, fun u hu => ?_⟩
      · show (η.o ++ [some p])[k]? = _
        rw [List.getElem?_append_left (by rw [w.len]; exact hk)]; exact e
      · rw [upd_ne (ne_of_none hu n)]; exact hu
    · rw [List.getElem?_append_right (Nat.le_of_not_lt hk)] at hx
      have e0 : k - G.length = 0 := by
        cases q : k - G.length with
        | zero => rfl
        | succ j => rw [q] at hx; simp at hx
      rw [e0] at hx
      simp at hx
      subst hx
      have ek : k = η.o.length := by have := w.len; omega
      rw [ek]
      exact ok
  · rcases aux i a hi with ⟨h1, h2⟩ | ⟨h1, h2⟩ <;> rcases aux j a hj with ⟨g1, g2⟩ | ⟨g1, g2⟩
    · exact w.inj i j a h2 g2
    · subst g2; exact absurd (mem_eta.mpr ⟨i, h2⟩) (w.outO n)
    · subst h2; exact absurd (mem_eta.mpr ⟨j, g2⟩) (w.outO n)
    · omega
  · have ha : a ∈ η.hid := ha
    obtain ⟨h1, u, h2⟩ := w.hd a ha
    refine ⟨fun hm => ?_, st.more a u h2⟩
    obtain ⟨i, hi⟩ := mem_eta.mp hm
    rcases aux i a hi with ⟨_, h3⟩ | ⟨_, h3⟩
    · exact h1 (mem_eta.mpr ⟨i, h3⟩)
    · rw [h3, n] at h2; cases h2

/-- a numbered object is written -/
theorem Stp.wrote {a : Addr} {k : Nat} {o o' : HO} (e : η.o[k]? = some (some a)) (h : H a = some o) (nf : ¬ Fix o) : Stp η H η (upd H a o') := by
  refine ⟨Nat.le_refl _, fun _ _ h => .inl h, fun _ h => h, no_new, fun b u hb n => ?_, fun b u hb => ?_, hid0⟩
  · by_cases hba : b = a
    · subst hba
      rw [h] at hb; cases hb
      rcases n with n | n
      · exact absurd (mem_eta.mpr ⟨k, e⟩) n
      · exact absurd n nf
    · rw [upd_ne hba]; exact hb
  · by_cases hba : b = a
    · subst hba; exact ⟨_, upd_same⟩
    · exact ⟨u, by rw [upd_ne hba]; exact hb⟩
theorem W.wrote {a : Addr} {k : Nat} {o o' : HO} {m : MO} (w : W K mg η G H) (e : η.o[k]? = some (some a)) (h : H a = some o) (nf : ¬ Fix o) (ok : MOk K mg η (upd H a o') k m) :
    W K mg η (G.set k m) (upd H a o') := by
  have st : Stp η H η (upd H a o') := Stp.wrote e h nf
  refine ⟨by simp [w.len], fun i x hx => ?_, w.inj, fun b hb => ⟨(w.hd b hb).1, let ⟨u, hu⟩ := (w.hd b hb).2; st.more b u hu⟩⟩
  by_cases hi : i = k
  · subst hi
    have hlt : i < G.length := by rw [← w.len]; exact (List.getElem?_eq_some_iff.mp e).1
    rw [List.getElem?_set_self hlt] at hx
    cases hx; exact ok
  · rw [List.getElem?_set_ne (Ne.symm hi)] at hx
    refine (w.at_ i x hx).step st fun b eb => ⟨eb, fun u hu => ?_⟩
    have : b ≠ a := fun z => hi (w.inj i k a (z ▸ eb) e)
    rw [upd_ne this]; exact hu

/-- a numbered list is given away: it is data from now on -/
theorem Stp.freeze {k : Nat} : Stp η H (η.kill k) H := by
  refine ⟨by simp [Eta.kill], fun i a h => ?_, fun i h => ?_, fun i a hk e => ?_, fun _ _ h _ => h, fun _ o h => ⟨o, h⟩, hid0⟩
  · show (η.o.set k none)[i]? = _ ∨ (η.o.set k none)[i]? = _
    by_cases hi : i = k
    · subst hi; right; rw [List.getElem?_set_self (List.getElem?_eq_some_iff.mp h).1]
    · left; rw [List.getElem?_set_ne (Ne.symm hi)]; exact h
  · show (η.o.set k none)[i]? = _
    by_cases hi : i = k
    · subst hi; rw [List.getElem?_set_self (List.getElem?_eq_some_iff.mp h).1]
    · rw [List.getElem?_set_ne (Ne.symm hi)]; exact h
  · have e : (η.o.set k none)[i]? = some (some a) := e
    rw [List.getElem?_eq_none (by simpa using hk)] at e; cases e
theorem eta_set {k i : Nat} {a : Addr} (h : (η.kill k).o[i]? = some (some a)) : i ≠ k ∧ η.o[i]? = some (some a) := by
  have h : (η.o.set k none)[i]? = some (some a) := h
  by_cases hi : i = k
  · subst hi
    by_cases hl : i < η.o.length
    · rw [List.getElem?_set_self hl] at h; cases h
    · rw [List.getElem?_eq_none (by simpa using Nat.le_of_not_lt hl)] at h; cases h
  · rw [List.getElem?_set_ne (Ne.symm hi)] at h; exact ⟨hi, h⟩
theorem W.freeze (w : W K mg η G H) {k : Nat} : W K mg (η.kill k) (G.set k .dead) H := by
  refine ⟨by simp [Eta.kill, w.len], fun i x hx => ?_, fun i j a h1 h2 => w.inj i j a (eta_set h1).2 (eta_set h2).2, fun a ha => ?_⟩
  · by_cases hi : i = k
    · subst hi
      have hlt : i < G.length := by
        have := (List.getElem?_eq_some_iff.mp hx).1
        simpa using this
      rw [List.getElem?_set_self hlt] at hx
      cases hx
      show (η.o.set i none)[i]? = some none
      rw [List.getElem?_set_self (by rw [w.len]; exact hlt)]
    · rw [List.getElem?_set_ne (Ne.symm hi)] at hx
      refine (w.at_ i x hx).step Stp.freeze fun a e => ⟨?_, fun _ h => h⟩
      show (η.o.set k none)[i]? = _
      rw [List.getElem?_set_ne (Ne.symm hi)]; exact e
  · have ha : a ∈ η.hid := ha
    refine ⟨fun hm => ?_, (w.hd a ha).2⟩
    obtain ⟨i, hi⟩ := mem_eta.mp hm
    exact (w.hd a ha).1 (mem_eta.mpr ⟨i, (eta_set hi).2⟩)
theorem Rp.freeze (w : W K mg η G H) {k : Nat} {v : V} {ds : List D} (r : Rp K η H (.obj k) v) (g : G[k]? = some (.lst ds)) : Rp K (η.kill k) H (.lst ds) v := by
  obtain ⟨a, vs, e1, e2, r2⟩ := w.at_ k _ g
  obtain ⟨b, rfl, h⟩ := r
  rw [e1] at h
  have : b = a := by
    rcases h with h | h
    · cases h; rfl
    · cases h
  subst this
  refine ⟨b, vs, rfl, ⟨fun hm => ?_, fun hm => ?_⟩, e2, RpL.step Stp.freeze _ _ r2⟩
  · obtain ⟨i, hi⟩ := mem_eta.mp hm
    obtain ⟨n, q⟩ := eta_set hi
    exact n (w.inj i k b q e1)
  · exact (w.hd b hm).1 (mem_eta.mpr ⟨k, e1⟩)

def Eta.hide (η : Eta) (p : Addr) : Eta := ⟨η.o, p :: η.hid⟩
theorem W.hide {p : Addr} {o : HO} (w : W K mg η G H) (n : H p = none) : W K mg (η.hide p) G (upd H p o) := by
  have st : Stp η H η (upd H p o) := Stp.laid n
  have w1 : W K mg η G (upd H p o) := w.laid n
  have out : ∀ {b : Addr} {u : HO}, H b = some u → Out η b → Out (η.hide p) b := fun {b u} hb ho => ⟨ho.1, fun hm => by
    rcases List.mem_cons.mp hm with e | hm
    · subst e; rw [n] at hb; cases hb
    · exact ho.2 hm⟩
  refine ⟨w.len, fun k m hm => ?_, w.inj, fun a ha => ?_⟩
  · have h := w.at_ k m hm
    have up : ∀ {b : Addr} {u : HO}, H b = some u → upd H p o b = some u := fun {b u} hb => by rw [upd_ne (ne_of_none hb n)]; exact hb
    have rp : ∀ (d : D) (v : V), Rp K η H d v → Rp K (η.hide p) (upd H p o) d v := by
      intro d
      induction d using D.rec (motive_2 := fun ds => ∀ vs, RpL K η H ds vs → RpL K (η.hide p) (upd H p o) ds vs) with
      | non => intro v h; exact h
      | bl b => intro v h; exact h
      | int i => intro v h; exact h
      | str s => intro v h; exact h
      | tup ds ih => intro v h; obtain ⟨a, vs, e, ht, r⟩ := h; exact ⟨a, vs, e, SqT.step st ht, ih vs r⟩
      | lst ds ih => intro v h; obtain ⟨a, vs, e, ho, hl, r⟩ := h; exact ⟨a, vs, e, out hl ho, up hl, ih vs r⟩
      | obj k => intro v h; exact h
      | dct => intro v h; obtain ⟨a, e, ho, hl⟩ := h; exact ⟨a, e, out hl ho, up hl⟩
      | scr ns => intro v h; obtain ⟨a, e, h⟩ := h; exact ⟨a, e, h.up fun b o z _ => up z⟩
      | key ns => intro v h; obtain ⟨a, e, h⟩ := h; exact ⟨a, e, up h⟩
      | exn a dd f d ih => intro v h; obtain ⟨e, u, hd, r⟩ := h; exact ⟨e, u, up hd, ih u r⟩
      | nil => intros; assumption
      | cons d ds i1 i2 =>
        rename_i vs h
        obtain ⟨v, r, e, h1, h2⟩ := h
        exact ⟨v, r, e, i1 v h1, i2 r h2⟩
    have rpL : ∀ (ds : List D) (vs : List V), RpL K η H ds vs → RpL K (η.hide p) (upd H p o) ds vs := by
      intro ds
      induction ds with
      | nil => intro vs h; exact h
      | cons d ds ih =>
        intro vs h
        obtain ⟨v, r, e, h1, h2⟩ := h
        exact ⟨v, r, e, rp d v h1, ih r h2⟩
    cases m with
    | dead => exact h
    | lst ds => obtain ⟨a, vs, e1, e2, r⟩ := h; exact ⟨a, vs, e1, up e2, rpL ds vs r⟩
    | rnd => obtain ⟨a, ns, e1, e2, r⟩ := h; exact ⟨a, ns, e1, up e2, r⟩
    | dic kvs => obtain ⟨a, e1, e2⟩ := h; exact ⟨a, e1, up e2⟩
    | dik kvs => obtain ⟨a, e1, e2⟩ := h; exact ⟨a, e1, up e2⟩
    | dil u kvs => obtain ⟨a, e1, e2⟩ := h; exact ⟨a, e1, up e2⟩
    | exc c => obtain ⟨a, C, e1, e3, e2⟩ := h; exact ⟨a, C, e1, e3, up e2⟩
    | exi c f d => obtain ⟨a, C, dx, v, e1, e3, e2, ho, hx, r⟩ := h; exact ⟨a, C, dx, v, e1, e3, up e2, out hx ho, up hx, rp d v r⟩
    | ins c fs =>
      obtain ⟨a, C, dx, vs, e1, e3, e2, r⟩ := h
      refine ⟨a, C, dx, vs, e1, e3, up e2, ?_⟩
      clear e1 e2 e3 hm w1
      induction fs generalizing vs with
      | nil => exact r
      | cons f fs ih =>
        obtain ⟨v, r', e, h1, h2⟩ := r
        exact ⟨v, r', e, rp f.2 v h1, ih _ h2⟩
  · rcases List.mem_cons.mp ha with e | ha
    · subst e; exact ⟨w.outO n, _, upd_same⟩
    · exact ⟨(w.hd a ha).1, let ⟨u, hu⟩ := (w.hd a ha).2; st.more a u hu⟩
theorem Rp.hide {p : Addr} {o : HO} (n : H p = none) : ∀ (d : D) (v : V), Rp K η H d v → Rp K (η.hide p) (upd H p o) d v := by
  have st : Stp η H η (upd H p o) := Stp.laid n
  have up : ∀ {b : Addr} {u : HO}, H b = some u → upd H p o b = some u := fun {b u} hb => by rw [upd_ne (ne_of_none hb n)]; exact hb
  have out : ∀ {b : Addr} {u : HO}, H b = some u → Out η b → Out (η.hide p) b := fun {b u} hb ho => ⟨ho.1, fun hm => by
    rcases List.mem_cons.mp hm with e | hm
    · subst e; rw [n] at hb; cases hb
    · exact ho.2 hm⟩
  intro d
  induction d using D.rec (motive_2 := fun ds => ∀ vs, RpL K η H ds vs → RpL K (η.hide p) (upd H p o) ds vs) with
  | non => intro v h; exact h
  | bl b => intro v h; exact h
  | int i => intro v h; exact h
  | str s => intro v h; exact h
  | tup ds ih => intro v h; obtain ⟨a, vs, e, ht, r⟩ := h; exact ⟨a, vs, e, SqT.step st ht, ih vs r⟩
  | lst ds ih => intro v h; obtain ⟨a, vs, e, ho, hl, r⟩ := h; exact ⟨a, vs, e, out hl ho, up hl, ih vs r⟩
  | obj k => intro v h; exact h
  | dct => intro v h; obtain ⟨a, e, ho, hl⟩ := h; exact ⟨a, e, out hl ho, up hl⟩
  | scr ns => intro v h; obtain ⟨a, e, h⟩ := h; exact ⟨a, e, h.up fun b o z _ => up z⟩
  | key ns => intro v h; obtain ⟨a, e, h⟩ := h; exact ⟨a, e, up h⟩
  | exn a dd f d ih => intro v h; obtain ⟨e, u, hd, r⟩ := h; exact ⟨e, u, up hd, ih u r⟩
  | nil => intros; assumption
  | cons d ds i1 i2 =>
    rename_i vs h
    obtain ⟨v, r, e, h1, h2⟩ := h
    exact ⟨v, r, e, i1 v h1, i2 r h2⟩
theorem Rp.shown (e : ∀ b, b ∈ η'.hid → b ∈ η.hid) (eo : η.o = η'.o) : ∀ (d : D) (v : V), Rp K η H d v → Rp K η' H d v := by
  have out : ∀ {b : Addr}, Out η b → Out η' b := fun {b} ho => ⟨by rw [← eo]; exact ho.1, fun hm => ho.2 (e b hm)⟩
  intro d
  induction d using D.rec (motive_2 := fun ds => ∀ vs, RpL K η H ds vs → RpL K η' H ds vs) with
  | non => intro v h; exact h
  | bl b => intro v h; exact h
  | int i => intro v h; exact h
  | str s => intro v h; exact h
  | tup ds ih => intro v h; obtain ⟨a, vs, e, ht, r⟩ := h; exact ⟨a, vs, e, ht, ih vs r⟩
  | lst ds ih => intro v h; obtain ⟨a, vs, e, ho, hl, r⟩ := h; exact ⟨a, vs, e, out ho, hl, ih vs r⟩
  | obj k => intro v h; obtain ⟨a, e, h⟩ := h; exact ⟨a, e, by rw [← eo]; exact h⟩
  | dct => intro v h; obtain ⟨a, e, ho, hl⟩ := h; exact ⟨a, e, out ho, hl⟩
  | scr ns => intro v h; exact h
  | key ns => intro v h; exact h
  | exn a dd f d ih => intro v h; obtain ⟨e, u, hd, r⟩ := h; exact ⟨e, u, hd, ih u r⟩
  | nil => intros; assumption
  | cons d ds i1 i2 =>
    rename_i vs h
    obtain ⟨v, r, e, h1, h2⟩ := h
    exact ⟨v, r, e, i1 v h1, i2 r h2⟩
theorem RpL.shown (e : ∀ b, b ∈ η'.hid → b ∈ η.hid) (eo : η.o = η'.o) : ∀ (ds : List D) (vs : List V), RpL K η H ds vs → RpL K η' H ds vs
  | [], _, h => h
  | d :: ds, vs, h => by
    obtain ⟨v, r, ev, h1, h2⟩ := h
    exact ⟨v, r, ev, Rp.shown e eo d v h1, RpL.shown e eo ds r h2⟩
theorem FsR.shown (e : ∀ b, b ∈ η'.hid → b ∈ η.hid) (eo : η.o = η'.o) : ∀ (ds : List (Str × D)) (vs : List (Str × V)), FsR K η H ds vs → FsR K η' H ds vs
  | [], _, h => h
  | (f, d) :: ds, vs, h => by
    obtain ⟨v, r, ev, h1, h2⟩ := h
    exact ⟨v, r, ev, Rp.shown e eo d v h1, FsR.shown e eo ds r h2⟩
theorem W.shown (w : W K mg η G H) (e : ∀ b, b ∈ η'.hid → b ∈ η.hid) (eo : η.o = η'.o) : W K mg η' G H := by
  refine ⟨by rw [← eo]; exact w.len, fun k m hm => ?_, fun i j a => by rw [← eo]; exact w.inj i j a, fun a ha => by rw [← eo]; exact w.hd a (e a ha)⟩
  have h := w.at_ k m hm
  cases m with
  | dead => show η'.o[k]? = _; rw [← eo]; exact h
  | lst ds => obtain ⟨a, vs, e1, e2, r⟩ := h; exact ⟨a, vs, by rw [← eo]; exact e1, e2, RpL.shown e eo ds vs r⟩
  | rnd => obtain ⟨a, ns, e1, e2, r⟩ := h; exact ⟨a, ns, by rw [← eo]; exact e1, e2, r⟩
  | dic kvs => obtain ⟨a, e1, e2⟩ := h; exact ⟨a, by rw [← eo]; exact e1, e2⟩
  | dik kvs => obtain ⟨a, e1, e2⟩ := h; exact ⟨a, by rw [← eo]; exact e1, e2⟩
  | dil u kvs => obtain ⟨a, e1, e2⟩ := h; exact ⟨a, by rw [← eo]; exact e1, e2⟩
  | exc c => obtain ⟨a, C, e1, e3, e2⟩ := h; exact ⟨a, C, by rw [← eo]; exact e1, e3, e2⟩
  | exi c f d => obtain ⟨a, C, dx, v, e1, e3, e2, ho, hx, r⟩ := h; exact ⟨a, C, dx, v, by rw [← eo]; exact e1, e3, e2, ⟨by rw [← eo]; exact ho.1, fun hm => ho.2 (e _ hm)⟩, hx, Rp.shown e eo d v r⟩
  | ins c fs => obtain ⟨a, C, dx, vs, e1, e3, e2, r⟩ := h; exact ⟨a, C, dx, vs, by rw [← eo]; exact e1, e3, e2, FsR.shown e eo fs vs r⟩
/-- the hidden things as at the start -/
theorem Stp.shown (s : Stp η H η' H') : Stp η H ⟨η'.o, η.hid⟩ H' := ⟨s.le, s.old, s.dead, s.new, s.keep, s.more, hid0⟩
theorem Stp.hide {p : Addr} {o : HO} (n : H p = none) : Stp η H (η.hide p) (upd H p o) :=
  ⟨Nat.le_refl _, fun _ _ h => .inl h, fun _ h => h, no_new, fun b u h _ => by rw [upd_ne (ne_of_none h n)]; exact h, fun b u h => ⟨u, by rw [upd_ne (ne_of_none h n)]; exact h⟩, [p], rfl, fun b hb => by
    have : b = p := by simpa using hb
    rw [this]; exact n⟩
/-- what is hidden is written -/
theorem Stp.put {p : Addr} {o : HO} (s : Stp η H η' H') (n : H p = none) : Stp η H η' (upd H' p o) :=
  ⟨s.le, s.old, s.dead, s.new, fun b u h q => by rw [upd_ne (ne_of_none h n)]; exact s.keep b u h q, fun b u h => by
    rw [upd_ne (ne_of_none h n)]; exact s.more b u h, s.hid⟩
theorem Rp.put {p : Addr} {o u : HO} (hp : p ∈ η.hid) (hu : H p = some u) (nf : ¬ Fix u) : ∀ (d : D) (v : V), Rp K η H d v → Rp K η (upd H p o) d v := by
  intro d
  have sq : ∀ {a : Addr} {vs : List V}, SqT K H a vs → SqT K (upd H p o) a vs := fun {a vs} h => by
    rcases h with (h | ⟨f, h⟩) | h
    · exact .inl (.inl (by rw [upd_ne (fun z => by rw [z, hu] at h; cases h; exact nf trivial)]; exact h))
    · exact .inl (.inr ⟨f, by rw [upd_ne (fun z => by rw [z, hu] at h; cases h; exact nf trivial)]; exact h⟩)
    · exact .inr h
  induction d using D.rec (motive_2 := fun ds => ∀ vs, RpL K η H ds vs → RpL K η (upd H p o) ds vs) with
  | non => intro v h; exact h
  | bl b => intro v h; exact h
  | int i => intro v h; exact h
  | str s => intro v h; exact h
  | tup ds ih => intro v h; obtain ⟨a, vs, e, ht, r⟩ := h; exact ⟨a, vs, e, sq ht, ih vs r⟩
  | lst ds ih => intro v h; obtain ⟨a, vs, e, ho, hl, r⟩ := h; exact ⟨a, vs, e, ho, by rw [upd_ne (fun (z : a = p) => ho.2 (by rw [z]; exact hp))]; exact hl, ih vs r⟩
  | obj k => intro v h; exact h
  | dct => intro v h; obtain ⟨a, e, ho, hl⟩ := h; exact ⟨a, e, ho, by rw [upd_ne (fun (z : a = p) => ho.2 (by rw [z]; exact hp))]; exact hl⟩
  | scr ns => intro v h; obtain ⟨a, e, h⟩ := h; exact ⟨a, e, h.up fun b x z f => by rw [upd_ne (fun (y : b = p) => by rw [y, hu] at z; cases z; exact nf f)]; exact z⟩
  | key ns => intro v h; obtain ⟨a, e, h⟩ := h; exact ⟨a, e, by rw [upd_ne (fun (y : a = p) => by rw [y, hu] at h; cases h; exact nf trivial)]; exact h⟩
  | exn a dd f d ih => intro v h; obtain ⟨e, x, hd, r⟩ := h; exact ⟨e, x, by rw [upd_ne (fun (z : dd = p) => by rw [z, hu] at hd; cases hd; exact nf trivial)]; exact hd, ih x r⟩
  | nil => intros; assumption
  | cons d ds i1 i2 =>
    rename_i vs h
    obtain ⟨v, r, e, h1, h2⟩ := h
    exact ⟨v, r, e, i1 v h1, i2 r h2⟩
theorem RpL.put {p : Addr} {o u : HO} (hp : p ∈ η.hid) (hu : H p = some u) (nf : ¬ Fix u) : ∀ (ds : List D) (vs : List V), RpL K η H ds vs → RpL K η (upd H p o) ds vs
  | [], _, h => h
  | d :: ds, vs, h => by
    obtain ⟨v, r, ev, h1, h2⟩ := h
    exact ⟨v, r, ev, Rp.put hp hu nf d v h1, RpL.put hp hu nf ds r h2⟩
theorem FsR.put {p : Addr} {o u : HO} (hp : p ∈ η.hid) (hu : H p = some u) (nf : ¬ Fix u) : ∀ (ds : List (Str × D)) (vs : List (Str × V)), FsR K η H ds vs → FsR K η (upd H p o) ds vs
  | [], _, h => h
  | (f, d) :: ds, vs, h => by
    obtain ⟨v, r, ev, h1, h2⟩ := h
    exact ⟨v, r, ev, Rp.put hp hu nf d v h1, FsR.put hp hu nf ds r h2⟩
theorem W.put {p : Addr} {o u : HO} (w : W K mg η G H) (hp : p ∈ η.hid) (hu : H p = some u) (nf : ¬ Fix u) : W K mg η G (upd H p o) := by
  have ne : ∀ {k : Nat} {a : Addr}, η.o[k]? = some (some a) → a ≠ p := fun {k a} e z => (w.hd p hp).1 (mem_eta.mpr ⟨k, z ▸ e⟩)
  refine ⟨w.len, fun k m hm => ?_, w.inj, fun a ha => ⟨(w.hd a ha).1, ?_⟩⟩
  · have h := w.at_ k m hm
    cases m with
    | dead => exact h
    | lst ds => obtain ⟨a, vs, e1, e2, r⟩ := h; exact ⟨a, vs, e1, by rw [upd_ne (ne e1)]; exact e2, RpL.put hp hu nf ds vs r⟩
    | rnd => obtain ⟨a, ns, e1, e2, r⟩ := h; exact ⟨a, ns, e1, by rw [upd_ne (ne e1)]; exact e2, r⟩
    | dic kvs => obtain ⟨a, e1, e2⟩ := h; exact ⟨a, e1, by rw [upd_ne (ne e1)]; exact e2⟩
    | dik kvs => obtain ⟨a, e1, e2⟩ := h; exact ⟨a, e1, by rw [upd_ne (ne e1)]; exact e2⟩
    | dil u kvs => obtain ⟨a, e1, e2⟩ := h; exact ⟨a, e1, by rw [upd_ne (ne e1)]; exact e2⟩
    | exc c => obtain ⟨a, C, e1, e3, e2⟩ := h; exact ⟨a, C, e1, e3, by rw [upd_ne (ne e1)]; exact e2⟩
    | exi c f d => obtain ⟨a, C, dx, v, e1, e3, e2, ho, hx, r⟩ := h; exact ⟨a, C, dx, v, e1, e3, by rw [upd_ne (ne e1)]; exact e2, ho, by rw [upd_ne (fun (z : dx = p) => ho.2 (by rw [z]; exact hp))]; exact hx, Rp.put hp hu nf d v r⟩
    | ins c fs => obtain ⟨a, C, dx, vs, e1, e3, e2, r⟩ := h; exact ⟨a, C, dx, vs, e1, e3, by rw [upd_ne (ne e1)]; exact e2, FsR.put hp hu nf fs vs r⟩
  · by_cases z : a = p
    · exact ⟨o, by rw [z]; exact upd_same⟩
    · obtain ⟨x, hx⟩ := (w.hd a ha).2
      exact ⟨x, by rw [upd_ne z]; exact hx⟩
end

structure Stw (η : Eta) (H : Hp) (η' : Eta) (H' : Hp) : Prop where
  le : η.o.length ≤ η'.o.length
  old : ∀ (k : Nat) (a : Addr), η.o[k]? = some (some a) → η'.o[k]? = some (some a) ∨ η'.o[k]? = some none
  dead : ∀ (k : Nat), η.o[k]? = some none → η'.o[k]? = some none
  new : ∀ (k : Nat) (a : Addr), η.o.length ≤ k → η'.o[k]? = some (some a) → H a = none
  keep : ∀ b o, H b = some o → (Out η b ∨ Fix o) → H' b = some o
  more : ∀ b o, H b = some o → ∃ o', H' b = some o'
  hid : ∃ L, η'.hid = L ++ η.hid ∧ ∀ b ∈ L, H b = none
theorem Stp.w {η η' : Eta} {H H' : Hp} (s : Stp η H η' H') : Stw η H η' H' :=
  ⟨s.le, s.old, s.dead, s.new, fun b o h n => s.keep b o h (n.imp (fun z => z.1) id), s.more, s.hid⟩
theorem Stw.refl (η : Eta) (H : Hp) : Stw η H η H := (Stp.refl η H).w
theorem Stw.out {η η' : Eta} {H H' : Hp} (s : Stw η H η' H') {b : Addr} {o : HO} (h : H b = some o) (n : Out η b) : Out η' b := by
  refine ⟨fun hm => ?_, fun hm => ?_⟩
  · obtain ⟨k, e⟩ := mem_eta.mp hm
    by_cases hk : k < η.o.length
    · obtain ⟨x, ex⟩ : ∃ x, η.o[k]? = some x := ⟨η.o[k], List.getElem?_eq_getElem hk⟩
      cases x with
      | none => rw [s.dead k ex] at e; cases e
      | some c =>
        rcases s.old k c ex with q | q
        · rw [q] at e; cases e; exact n.1 (mem_eta.mpr ⟨k, ex⟩)
        · rw [q] at e; cases e
    · have := s.new k b (Nat.le_of_not_lt hk) e
      rw [h] at this; cases this
  · obtain ⟨L, e, hL⟩ := s.hid
    rw [e] at hm
    rcases List.mem_append.mp hm with hm | hm
    · rw [hL b hm] at h; cases h
    · exact n.2 hm
theorem Stw.trans {η η1 η2 : Eta} {H H1 H2 : Hp} (s : Stw η H η1 H1) (t : Stw η1 H1 η2 H2) : Stw η H η2 H2 where
  le := Nat.le_trans s.le t.le
  old := fun k a h => by
    rcases s.old k a h with q | q
    · exact t.old k a q
    · exact .inr (t.dead k q)
  dead := fun k h => t.dead k (s.dead k h)
  new := fun k a hk e => by
    by_cases h1 : k < η1.o.length
    · obtain ⟨x, ex⟩ : ∃ x, η1.o[k]? = some x := ⟨η1.o[k], List.getElem?_eq_getElem h1⟩
      cases x with
      | none => rw [t.dead k ex] at e; cases e
      | some c =>
        rcases t.old k c ex with q | q
        · rw [q] at e; cases e; exact s.new k a hk ex
        · rw [q] at e; cases e
    · have q := t.new k a (Nat.le_of_not_lt h1) e
      cases z : H a with
      | none => rfl
      | some o => obtain ⟨o', q'⟩ := s.more a o z; rw [q] at q'; cases q'
  keep := fun b o h n => by
    have h1 := s.keep b o h n
    exact t.keep b o h1 (n.imp (s.out h) id)
  more := fun b o h => by
    obtain ⟨o1, h1⟩ := s.more b o h
    exact t.more b o1 h1
  hid := by
    obtain ⟨L1, e1, h1⟩ := s.hid
    obtain ⟨L2, e2, h2⟩ := t.hid
    refine ⟨L2 ++ L1, by rw [e2, e1, List.append_assoc], fun b hb => ?_⟩
    rcases List.mem_append.mp hb with hb | hb
    · cases z : H b with
      | none => rfl
      | some o => obtain ⟨o', q'⟩ := s.more b o z; rw [h2 b hb] at q'; cases q'
    · exact h1 b hb
/-- a hidden list is written -/
theorem Stw.put {η η' : Eta} {H H' : Hp} {p : Addr} {o u : HO} (s : Stw η H η' H') (hp : p ∈ η.hid) (hu : H p = some u) (nf : ¬ Fix u) : Stw η H η' (upd H' p o) :=
  ⟨s.le, s.old, s.dead, s.new, fun b x h q => by
    rw [upd_ne (fun (z : b = p) => by
      subst z
      rw [hu] at h; cases h
      rcases q with q | q
      · exact q.2 hp
      · exact nf q)]
    exact s.keep b x h q, fun b x h => by
    by_cases z : b = p
    · exact ⟨o, by rw [z]; exact upd_same⟩
    · rw [upd_ne z]; exact s.more b x h, s.hid⟩
section
variable {K : PySem.W.Frag} {η η' : Eta} {H H' : Hp}
theorem SqT.stepw (s : Stw η H η' H') {a : Addr} {vs : List V} (h : SqT K H a vs) : SqT K H' a vs := by
  rcases h with (h | ⟨o, h⟩) | h
  · exact .inl (.inl (s.keep _ _ h (.inr trivial)))
  · exact .inl (.inr ⟨o, s.keep _ _ h (.inr trivial)⟩)
  · exact .inr h
mutual
theorem Rp.stepw (s : Stw η H η' H') : ∀ (d : D) (v : V), Rp K η H d v → Rp K η' H' d v
  | .non, _, h => h
  | .bl _, _, h => h
  | .int _, _, h => h
  | .str _, _, h => h
  | .tup ds, v, h => by
    obtain ⟨a, vs, e, ht, hr⟩ := h
    exact ⟨a, vs, e, SqT.stepw s ht, RpL.stepw s ds vs hr⟩
  | .lst ds, v, h => by
    obtain ⟨a, vs, e, hn, hl, hr⟩ := h
    exact ⟨a, vs, e, s.out hl hn, s.keep _ _ hl (.inl hn), RpL.stepw s ds vs hr⟩
  | .obj k, v, h => by
    obtain ⟨a, e, h⟩ := h
    refine ⟨a, e, ?_⟩
    rcases h with h | h
    · exact s.old k a h
    · exact .inr (s.dead k h)
  | .dct, v, h => by
    obtain ⟨a, e, n, hd⟩ := h
    exact ⟨a, e, s.out hd n, s.keep _ _ hd (.inl n)⟩
  | .scr ns, v, h => by
    obtain ⟨a, e, h⟩ := h
    exact ⟨a, e, h.up fun b o z f => s.keep b o z (.inr f)⟩
  | .key ns, v, h => by
    obtain ⟨a, e, h⟩ := h
    exact ⟨a, e, s.keep _ _ h (.inr trivial)⟩
  | .exn a dd f d, v, h => by
    obtain ⟨e, u, hd, r⟩ := h
    exact ⟨e, u, s.keep _ _ hd (.inr trivial), Rp.stepw s d u r⟩
theorem RpL.stepw (s : Stw η H η' H') : ∀ (ds : List D) (vs : List V), RpL K η H ds vs → RpL K η' H' ds vs
  | [], _, h => h
  | d :: ds, vs, h => by
    obtain ⟨v, r, e, h1, h2⟩ := h
    exact ⟨v, r, e, Rp.stepw s d v h1, RpL.stepw s ds r h2⟩
end
end

mutual
def below (n : Nat) : D → Bool
  | .tup ds => belowL n ds
  | .lst ds => belowL n ds
  | .obj k => decide (k < n)
  | .exn _ _ _ d => below n d
  | _ => true
def belowL (n : Nat) : List D → Bool
  | [] => true
  | d :: ds => below n d && belowL n ds
end
section
variable {K : PySem.W.Frag} {mg : Str → Option Value} {η : Eta} {H : Hp} {G : GS} {n : Nat}
theorem take_get {α : Type} {l : List α} {n k : Nat} {x : α} (h : (l.take n)[k]? = some x) : k < n ∧ l[k]? = some x := by
  by_cases hk : k < n
  · rw [List.getElem?_take_of_lt hk] at h; exact ⟨hk, h⟩
  · rw [List.getElem?_eq_none (by simp; omega)] at h; cases h
mutual
theorem Rp.cut : ∀ (d : D) (v : V), below n d = true → Rp K η H d v → Rp K (η.cut n) H d v
  | .non, _, _, h => h
  | .bl _, _, _, h => h
  | .int _, _, _, h => h
  | .str _, _, _, h => h
  | .tup ds, v, b, h => by
    obtain ⟨a, vs, e, ht, hr⟩ := h
    exact ⟨a, vs, e, ht, RpL.cut ds vs b hr⟩
  | .lst ds, v, b, h => by
    obtain ⟨a, vs, e, hn, hl, hr⟩ := h
    exact ⟨a, vs, e, ⟨fun z => hn.1 (List.mem_of_mem_take z), hn.2⟩, hl, RpL.cut ds vs b hr⟩
  | .obj k, v, b, h => by
    obtain ⟨a, e, h⟩ := h
    have hk : k < n := of_decide_eq_true b
    exact ⟨a, e, by show (η.o.take n)[k]? = _ ∨ (η.o.take n)[k]? = _; rw [List.getElem?_take_of_lt hk]; exact h⟩
  | .dct, v, b, h => by
    obtain ⟨a, e, hn, hd⟩ := h
    exact ⟨a, e, ⟨fun z => hn.1 (List.mem_of_mem_take z), hn.2⟩, hd⟩
  | .scr ns, v, b, h => h
  | .key ns, v, b, h => h
  | .exn a dd f d, v, b, h => by
    obtain ⟨e, u, hd, r⟩ := h
    exact ⟨e, u, hd, Rp.cut d u b r⟩
theorem RpL.cut : ∀ (ds : List D) (vs : List V), belowL n ds = true → RpL K η H ds vs → RpL K (η.cut n) H ds vs
  | [], _, _, h => h
  | d :: ds, vs, b, h => by
    obtain ⟨v, r, e, h1, h2⟩ := h
    have b' : below n d = true ∧ belowL n ds = true := by
      have : (below n d && belowL n ds) = true := b
      simpa using this
    exact ⟨v, r, e, Rp.cut d v b'.1 h1, RpL.cut ds r b'.2 h2⟩
end
def belowM (n : Nat) : MO → Bool
  | .lst ds => belowL n ds
  | .ins _ fs => belowL n (fs.map (·.2))
  | .exi _ _ d => below n d
  | _ => true
theorem FsR.cut : ∀ (ds : List (Str × D)) (vs : List (Str × V)), belowL n (ds.map (·.2)) = true → FsR K η H ds vs → FsR K (η.cut n) H ds vs
  | [], _, _, h => h
  | (f, d) :: ds, vs, b, h => by
    obtain ⟨v, r, e, h1, h2⟩ := h
    have b' : below n d = true ∧ belowL n (ds.map (·.2)) = true := by
      have : (below n d && belowL n (ds.map (·.2))) = true := b
      simpa using this
    exact ⟨v, r, e, Rp.cut d v b'.1 h1, FsR.cut ds r b'.2 h2⟩
theorem W.cut (w : W K mg η G H) (b : (G.take n).all (belowM n) = true) : W K mg (η.cut n) (G.take n) H := by
  refine ⟨by simp [Eta.cut, w.len], fun k m h => ?_, fun i j a h1 h2 => w.inj i j a (take_get h1).2 (take_get h2).2, fun a ha => ⟨fun hm => (w.hd a ha).1 (List.mem_of_mem_take hm), (w.hd a ha).2⟩⟩
  have hm : belowM n m = true := by
    have := List.all_eq_true.mp b m (List.mem_of_getElem? h)
    exact this
  obtain ⟨hk, hg⟩ := take_get h
  have hw := w.at_ k m hg
  cases m with
  | dead =>
    have hw' : η.o[k]? = some none := hw
    show (η.o.take n)[k]? = some none
    rw [List.getElem?_take_of_lt hk]; exact hw'
  | lst ds =>
    obtain ⟨a, vs, e1, e2, r⟩ := hw
    exact ⟨a, vs, by show (η.o.take n)[k]? = _; rw [List.getElem?_take_of_lt hk]; exact e1, e2, RpL.cut _ _ hm r⟩
  | rnd =>
    obtain ⟨a, vs, e1, e2, r⟩ := hw
    exact ⟨a, vs, by show (η.o.take n)[k]? = _; rw [List.getElem?_take_of_lt hk]; exact e1, e2, r⟩
  | ins c fs =>
    obtain ⟨a, C, dx, vs, e1, e3, e2, r⟩ := hw
    exact ⟨a, C, dx, vs, by show (η.o.take n)[k]? = _; rw [List.getElem?_take_of_lt hk]; exact e1, e3, e2, FsR.cut _ _ hm r⟩
  | dic kvs =>
    obtain ⟨a, e1, e2⟩ := hw
    exact ⟨a, by show (η.o.take n)[k]? = _; rw [List.getElem?_take_of_lt hk]; exact e1, e2⟩
  | dik kvs =>
    obtain ⟨a, e1, e2⟩ := hw
    exact ⟨a, by show (η.o.take n)[k]? = _; rw [List.getElem?_take_of_lt hk]; exact e1, e2⟩
  | dil u kvs =>
    obtain ⟨a, e1, e2⟩ := hw
    exact ⟨a, by show (η.o.take n)[k]? = _; rw [List.getElem?_take_of_lt hk]; exact e1, e2⟩
  | exc c =>
    obtain ⟨a, C, e1, e3, e2⟩ := hw
    exact ⟨a, C, by show (η.o.take n)[k]? = _; rw [List.getElem?_take_of_lt hk]; exact e1, e3, e2⟩
  | exi c f d =>
    obtain ⟨a, C, dx, v, e1, e3, e2, ho, hx, r⟩ := hw
    exact ⟨a, C, dx, v, by show (η.o.take n)[k]? = _; rw [List.getElem?_take_of_lt hk]; exact e1, e3, e2, ⟨fun z => ho.1 (List.mem_of_mem_take z), ho.2⟩, hx, Rp.cut _ _ hm r⟩
theorem Stp.cut {η' : Eta} {H' : Hp} (s : Stp η H η' H') : Stp η H (η'.cut η.o.length) H' where
  le := by simp [Eta.cut, s.le]
  old := fun k a h => by
    have hk := (List.getElem?_eq_some_iff.mp h).1
    show (η'.o.take η.o.length)[k]? = _ ∨ (η'.o.take η.o.length)[k]? = _
    rw [List.getElem?_take_of_lt hk]; exact s.old k a h
  dead := fun k h => by
    have hk := (List.getElem?_eq_some_iff.mp h).1
    show (η'.o.take η.o.length)[k]? = _
    rw [List.getElem?_take_of_lt hk]; exact s.dead k h
  new := fun k a hk e => s.new k a hk (take_get e).2
  keep := s.keep
  more := s.more
  hid := s.hid
end
end Y

namespace Y
open PySem PySem.Spec L2
open PyProof.Rows hiding St

abbrev QD := D → GS → Prop
abbrev QE := Er → GS → Prop
abbrev TEd := Rho → GS → QD → QE → Prop
abbrev TTd := Rho → GS → (Bool → GS → Prop) → QE → Prop
abbrev TAd := Rho → GS → (List D → GS → Prop) → QE → Prop

def EnvR (K : PySem.W.Frag) (η : Eta) (H : Hp) (σ : St) (ρ : Rho) : Prop :=
  σ.length = ρ.length ∧ ∀ (i : Nat) (d : D), ρ[i]? = some (some d) → ∃ v, σ[i]? = some (some v) ∧ Rp K η H d v

def ErR (K : PySem.W.Frag) (mg : Str → Option Value) (η : Eta) (H : Hp) (cls : Value) (od : Option Addr) (e : Er) : Prop :=
  ∃ C, mg e.cls = some (.ref C) ∧ cls = .ref C ∧ ∀ f d, e.arg = some (f, d) → ∃ dd v, od = some dd ∧ H dd = some (.xd [(f, v)]) ∧ Rp K η H d v

def LQ (K : PySem.W.Frag) (mg : Str → Option Value) (η : Eta) (H : Hp) (Qd : QD) (Q : VK) : Prop :=
  ∀ (d : D) (G' : GS) (v : V) (η' : Eta) (H' : Hp), Stp η H η' H' → W K mg η' G' H' → Rp K η' H' d v → Qd d G' → Q v H'
def LE (K : PySem.W.Frag) (mg : Str → Option Value) (η : Eta) (H : Hp) (Ed : QE) (E : XK) : Prop :=
  ∀ (e : Er) (G' : GS) (cls : Value) (od : Option Addr) (η' : Eta) (H' : Hp), Stp η H η' H' → W K mg η' G' H' → ErR K mg η' H' cls od e → Ed e G' → E cls od H'

section
variable {K : PySem.W.Frag} {mg : Str → Option Value} {η η' : Eta} {H H' : Hp} {G : GS} {σ : St} {ρ : Rho}
theorem EnvR.step (s : Stp η H η' H') (h : EnvR K η H σ ρ) : EnvR K η' H' σ ρ :=
  ⟨h.1, fun i d e => let ⟨v, e1, r⟩ := h.2 i d e; ⟨v, e1, Rp.step s d v r⟩⟩
theorem ErR.step (s : Stp η H η' H') {cls : Value} {od : Option Addr} {e : Er} (h : ErR K mg η H cls od e) : ErR K mg η' H' cls od e := by
  obtain ⟨C, h1, h2, h3⟩ := h
  refine ⟨C, h1, h2, fun f d ea => ?_⟩
  obtain ⟨dd, v, e1, e2, r⟩ := h3 f d ea
  exact ⟨dd, v, e1, s.keep _ _ e2 (.inr trivial), Rp.step s d v r⟩
theorem LQ.step (s : Stp η H η' H') {Qd : QD} {Q : VK} (h : LQ K mg η H Qd Q) : LQ K mg η' H' Qd Q :=
  fun d G' v η2 H2 s2 w r q => h d G' v η2 H2 (s.trans s2) w r q
theorem LE.step (s : Stp η H η' H') {Ed : QE} {E : XK} (h : LE K mg η H Ed E) : LE K mg η' H' Ed E :=
  fun e G' cls od η2 H2 s2 w r q => h e G' cls od η2 H2 (s.trans s2) w r q
theorem LQ.now {Qd : QD} {Q : VK} (h : LQ K mg η H Qd Q) {d : D} {v : V} (w : W K mg η G H) (r : Rp K η H d v) (q : Qd d G) : Q v H := h d G v η H (Stp.refl _ _) w r q
/-- a new list, a new tuple -/
theorem LQ.newL {Qd : QD} {Q : VK} (h : LQ K mg η H Qd Q) {ds : List D} {vs : List V} {p : Addr} (w : W K mg η G H) (n : H p = none) (r : RpL K η H ds vs) (q : Qd (.lst ds) G) : Q (.ref p) (upd H p (.lst vs)) :=
  h _ G _ η _ (Stp.laid n) (w.laid n) (Rp.lstNew w n r) q
theorem LQ.newT {Qd : QD} {Q : VK} (h : LQ K mg η H Qd Q) {ds : List D} {vs : List V} {p : Addr} (w : W K mg η G H) (n : H p = none) (r : RpL K η H ds vs) (q : Qd (.tup ds) G) : Q (.ref p) (upd H p (.tup vs)) :=
  h _ G _ η _ (Stp.laid n) (w.laid n) (Rp.tupNew n r) q
end

def lE (K : PySem.W.Frag) (mg : Str → Option Value) (E : St → XK) (t : TEd) : TE := fun σ H Q =>
  ∃ (ρ : Rho) (η : Eta) (G : GS) (Qd : QD) (Ed : QE), EnvR K η H σ ρ ∧ W K mg η G H ∧ t ρ G Qd Ed ∧ LQ K mg η H Qd Q ∧ LE K mg η H Ed (E σ)
def lT (K : PySem.W.Frag) (mg : Str → Option Value) (E : St → XK) (t : TTd) : TT := fun σ H Q =>
  ∃ (ρ : Rho) (η : Eta) (G : GS) (Qd : Bool → GS → Prop) (Ed : QE), EnvR K η H σ ρ ∧ W K mg η G H ∧ t ρ G Qd Ed ∧
    (∀ b G' η' H', Stp η H η' H' → W K mg η' G' H' → Qd b G' → Q b H') ∧ LE K mg η H Ed (E σ)
def lA (K : PySem.W.Frag) (mg : Str → Option Value) (E : St → XK) (t : TAd) : TA := fun σ H Q =>
  ∃ (ρ : Rho) (η : Eta) (G : GS) (Qd : List D → GS → Prop) (Ed : QE), EnvR K η H σ ρ ∧ W K mg η G H ∧ t ρ G Qd Ed ∧
    (∀ ds G' vs η' H', Stp η H η' H' → W K mg η' G' H' → RpL K η' H' ds vs → Qd ds G' → Q vs H') ∧ LE K mg η H Ed (E σ)

structure PEd (X : Cx) (E : St → XK) (e : Expr) (t : TEd) : Prop where run : PE X e (lE X.K X.mg E t)
structure PTd (X : Cx) (E : St → XK) (e : Expr) (t : TTd) : Prop where run : PT X e (lT X.K X.mg E t)
structure PWd (X : Cx) (E : St → XK) (e : Expr) (t : TTd) : Prop where run : PW X e (lT X.K X.mg E t)
structure PAd (X : Cx) (E : St → XK) (es : List Expr) (t : TAd) : Prop where run : PA X es (lA X.K X.mg E t)

theorem PE.imp {X : Cx} {e : Expr} {t t' : TE} (h : PE X e t) (i : ∀ σ H Q, t' σ H Q → t σ H Q) : PE X e t' := ⟨fun pins s σ H Q I q => h.run pins s σ H Q I (i σ H Q q)⟩
theorem PT.imp {X : Cx} {e : Expr} {t t' : TT} (h : PT X e t) (i : ∀ σ H Q, t' σ H Q → t σ H Q) : PT X e t' := ⟨fun pins s σ H Q I q => h.run pins s σ H Q I (i σ H Q q)⟩
theorem PW.imp {X : Cx} {e : Expr} {t t' : TT} (h : PW X e t) (i : ∀ σ H Q, t' σ H Q → t σ H Q) : PW X e t' := ⟨fun wh pins s σ H Q I q => h.run wh pins s σ H Q I (i σ H Q q)⟩
theorem PA.imp {X : Cx} {e : List Expr} {t t' : TA} (h : PA X e t) (i : ∀ σ H Q, t' σ H Q → t σ H Q) : PA X e t' := ⟨fun pos pins s σ H Q I q => h.run pos pins s σ H Q I (i σ H Q q)⟩

def tVarD (i : Nat) : TEd := fun ρ G Q _ => match ρ[i]? with | some (some d) => Q d G | _ => False
def tCD (d : D) : TEd := fun _ G Q _ => Q d G
section
variable {X : Cx} {E : St → XK}
theorem ped_var (i : Nat) {x : Str} {pos : Pos} (hN : X.N[i]? = some x := by rfl) (hv : Vis X.env.scope x := by first | exact Or.inl rfl | exact Or.inr (Or.inl rfl) | exact Or.inr (Or.inr rfl)) (hd : (x == ("__debug__" : Str)) = false := by decide)
    (hcd : (x == ("__classdict__" : Str)) = false := by decide) : PEd X E (.Name x pos) (tVarD i) := by
  refine ⟨PE.imp (pe_var hN hv hd hcd) fun σ H Q h => ?_⟩
  obtain ⟨ρ, η, G, Qd, Ed, he, w, ht, hq, _⟩ := h
  unfold tVarD at ht
  split at ht
  · rename_i d e
    obtain ⟨v, e1, r⟩ := he.2 i d e
    exact ⟨v, e1, hq.now w r ht⟩
  · exact ht.elim
theorem ped_c {e : Expr} {v : V} {d : D} (h : PE X e (tC v)) (r : ∀ K η H, Rp K η H d v) : PEd X E e (tCD d) := by
  refine ⟨PE.imp h fun σ H Q h => ?_⟩
  obtain ⟨ρ, η, G, Qd, Ed, he, w, ht, hq, _⟩ := h
  exact hq.now w (r _ _ _) ht
theorem ped_int {i j pos} : PEd X E (.Constant (.int i) j pos) (tCD (.int i)) := ped_c pe_int fun _ _ _ => rfl
theorem ped_bl {b j pos} : PEd X E (.Constant (.bool b) j pos) (tCD (.bl b)) := ped_c pe_bl fun _ _ _ => rfl
theorem ped_non {j pos} : PEd X E (.Constant .none j pos) (tCD .non) := ped_c pe_non fun _ _ _ => rfl
theorem ped_str {x j pos} : PEd X E (.Constant (.str x) j pos) (tCD (.str x)) := ped_c pe_str fun _ _ _ => rfl
/-- a module's constant int -/
theorem ped_globI {x : Str} {i : Int} {t : Tok} {pos : Pos} (hg : Gl X x) (hm : X.mg x = some (.int i t)) (hd : (x == ("__debug__" : Str)) = false := by decide) : PEd X E (.Name x pos) (tCD (.int i)) :=
  ped_c (pe_glob (v := .int i) hg hm ⟨_, rfl⟩ hd) fun _ _ _ => rfl
theorem ped_globS {x : Str} {i : Str} {t : Tok} {pos : Pos} (hg : Gl X x) (hm : X.mg x = some (.str i t)) (hd : (x == ("__debug__" : Str)) = false := by decide) : PEd X E (.Name x pos) (tCD (.str i)) :=
  ped_c (pe_glob (v := .str i) hg hm ⟨_, rfl⟩ hd) fun _ _ _ => rfl
end

abbrev R2d := D → D → GS → QD → Prop
def LiftR (X : Cx) (rH : R2) (rD : R2d) : Prop := ∀ (η : Eta) (G : GS) (H : Hp) (x y : V) (dx dy : D) (Q : VK) (Qd : QD),
  W X.K X.mg η G H → Rp X.K η H dx x → Rp X.K η H dy y → rD dx dy G Qd → LQ X.K X.mg η H Qd Q → rH x y H Q
def tOpD (r : R2d) (ta tb : TEd) : TEd := fun ρ G Q Ed => ta ρ G (fun x G1 => tb ρ G1 (fun y G2 => r x y G2 Q) Ed) Ed
section
variable {X : Cx} {E : St → XK} {a b c : Expr} {ta tb tc : TEd} {pos : Pos} {rH : R2} {rD : R2d}
theorem lift2 (hl : LiftR X rH rD) {σ : St} {H : Hp} {Q : VK} (h : lE X.K X.mg E (tOpD rD ta tb) σ H Q) : tOp rH (lE X.K X.mg E ta) (lE X.K X.mg E tb) σ H Q := by
  obtain ⟨ρ, η, G, Qd, Ed, he, w, ht, hq, hE⟩ := h
  refine ⟨ρ, η, G, _, Ed, he, w, ht, fun x G1 v η1 H1 s1 w1 r1 q1 => ?_, hE⟩
  refine ⟨ρ, η1, G1, _, Ed, he.step s1, w1, q1, fun y G2 u η2 H2 s2 w2 r2 q2 => ?_, hE.step s1⟩
  exact hl η2 G2 H2 v u x y Q Qd w2 (Rp.step s2 _ _ r1) r2 q2 (hq.step (s1.trans s2))
theorem ped_op {op : Operator} (ho : OpR X (binaryOp op) rH) (hl : LiftR X rH rD) (ha : PEd X E a ta) (hb : PEd X E b tb) : PEd X E (.BinOp a op b pos) (tOpD rD ta tb) :=
  ⟨PE.imp (pe_op ho ha.run hb.run) fun _ _ _ h => lift2 hl h⟩
theorem ped_cmp {op : CmpOp} (ho : OpR X (compareOp op) rH) (hl : LiftR X rH rD) (ha : PEd X E a ta) (hb : PEd X E b tb) (hm : behindInMarks op b = false) : PEd X E (.Compare a [op] [b] pos) (tOpD rD ta tb) :=
  ⟨PE.imp (pe_cmpR ho ha.run hb.run hm) fun _ _ _ h => lift2 hl h⟩
/-- a value's reading as a test: the value is a bool -/
def tTestD (t : TEd) : TTd := fun ρ G Q Ed => t ρ G (fun x G' => match x with | .bl b => Q b G' | _ => False) Ed
theorem liftTest {t : TEd} {tH : TE} (hl : ∀ {σ : St} {H : Hp} {Q : VK}, lE X.K X.mg E t σ H Q → tH σ H Q) {σ : St} {H : Hp} {Q : Bool → Hp → Prop} (h : lT X.K X.mg E (tTestD t) σ H Q) : tTest tH σ H Q := by
  obtain ⟨ρ, η, G, Qd, Ed, he, w, ht, hq, hE⟩ := h
  refine hl ⟨ρ, η, G, _, Ed, he, w, ht, fun d G' v η' H' s' w' r' q' => ?_, hE⟩
  cases d with
  | bl b => exact ⟨b, r', hq b G' η' H' s' w' q'⟩
  | _ => exact q'.elim
theorem ptd_cmp {op : CmpOp} (ho : OpR X (compareOp op) rH) (hl : LiftR X rH rD) (ha : PEd X E a ta) (hb : PEd X E b tb) (hm : behindInMarks op b = false) : PTd X E (.Compare a [op] [b] pos) (tTestD (tOpD rD ta tb)) :=
  ⟨PT.imp (pt_cmpR ho ha.run hb.run hm) fun _ _ _ h => liftTest (fun h => lift2 hl h) h⟩
/-- an expression whose value is a bool, as a test -/
theorem ptd_val {e : Expr} {t : TEd} (h : PEd X E e t) (he : ∀ whole, isTrue e X.env whole = (do let v ← whole; standAt e.pos; holding [v] (truthy v)) := by intro _; rfl) : PTd X E e (tTestD t) :=
  ⟨PT.imp (pt_val h.run he) fun σ H Q h => by
    have := liftTest (tH := lE X.K X.mg E t) (fun h => h) h
    exact this⟩
def tChainD (r r' : R2d) (ta tb tc : TEd) : TEd := fun ρ G Q Ed => ta ρ G (fun x G1 => tb ρ G1 (fun y G2 => r x y G2 fun z G3 =>
  match z with | .bl true => tc ρ G3 (fun u G4 => r' y u G4 Q) Ed | .bl false => Q (.bl false) G3 | _ => False) Ed) Ed
theorem liftChain {rH' : R2} {rD' : R2d} (hl : LiftR X rH rD) (hl' : LiftR X rH' rD') {σ : St} {H : Hp} {Q : VK} (h : lE X.K X.mg E (tChainD rD rD' ta tb tc) σ H Q) :
    tChain rH rH' (lE X.K X.mg E ta) (lE X.K X.mg E tb) (lE X.K X.mg E tc) σ H Q := by
  obtain ⟨ρ, η, G, Qd, Ed, he, w, ht, hq, hE⟩ := h
  refine ⟨ρ, η, G, _, Ed, he, w, ht, fun x G1 v η1 H1 s1 w1 r1 q1 => ?_, hE⟩
  refine ⟨ρ, η1, G1, _, Ed, he.step s1, w1, q1, fun y G2 u η2 H2 s2 w2 r2 q2 => ?_, hE.step s1⟩
  refine hl η2 G2 H2 v u x y _ _ w2 (Rp.step s2 _ _ r1) r2 q2 fun z G3 z' η3 H3 s3 w3 r3 q3 => ?_
  cases z with
  | bl k =>
    refine ⟨k, r3, ?_⟩
    cases k with
    | true =>
      rw [if_pos rfl]
      refine ⟨ρ, η3, G3, _, Ed, he.step (s1.trans (s2.trans s3)), w3, q3, fun u' G4 u'' η4 H4 s4 w4 r4 q4 => ?_, hE.step (s1.trans (s2.trans s3))⟩
      exact hl' η4 G4 H4 _ _ _ _ Q Qd w4 (Rp.step (s3.trans s4) _ _ r2) r4 q4 (hq.step (s1.trans (s2.trans (s3.trans s4))))
    | false =>
      rw [if_neg (by decide)]
      exact hq (.bl false) G3 _ η3 H3 (s1.trans (s2.trans s3)) w3 rfl q3
  | _ => exact q3.elim
theorem ped_chain {op op' : CmpOp} {rH' : R2} {rD' : R2d} (ho : OpR X (compareOp op) rH) (hl : LiftR X rH rD) (ho' : OpR X (compareOp op') rH') (hl' : LiftR X rH' rD') (ha : PEd X E a ta) (hb : PEd X E b tb) (hc : PEd X E c tc)
    (hm : lastMarks [op, op'] [b, c] = false := by with_unfolding_all rfl) : PEd X E (.Compare a [op, op'] [b, c] pos) (tChainD rD rD' ta tb tc) :=
  ⟨PE.imp (pe_chain ho ho' ha.run hb.run hc.run hm) fun _ _ _ h => liftChain hl hl' h⟩
theorem ptd_chain {op op' : CmpOp} {rH' : R2} {rD' : R2d} (ho : OpR X (compareOp op) rH) (hl : LiftR X rH rD) (ho' : OpR X (compareOp op') rH') (hl' : LiftR X rH' rD') (ha : PEd X E a ta) (hb : PEd X E b tb) (hc : PEd X E c tc)
    (hm : lastMarks [op, op'] [b, c] = false := by with_unfolding_all rfl) : PTd X E (.Compare a [op, op'] [b, c] pos) (tTestD (tChainD rD rD' ta tb tc)) :=
  ⟨PT.imp (pt_chain ho ho' ha.run hb.run hc.run hm) fun _ _ _ h => liftTest (fun h => liftChain hl hl' h) h⟩
end

def tAndD (t u : TTd) : TTd := fun ρ G Q Ed => t ρ G (fun c G1 => if c = true then u ρ G1 Q Ed else Q false G1) Ed
def tOrD (t u : TTd) : TTd := fun ρ G Q Ed => t ρ G (fun c G1 => if c = true then Q true G1 else u ρ G1 Q Ed) Ed
def tNotD (t : TTd) : TTd := fun ρ G Q Ed => t ρ G (fun c G1 => Q (!c) G1) Ed
def tAndVD (ta tb : TEd) : TEd := fun ρ G Q Ed => ta ρ G (fun x G1 => match x with | .bl true => tb ρ G1 Q Ed | .bl false => Q (.bl false) G1 | _ => False) Ed
def tOrVD (ta tb : TEd) : TEd := fun ρ G Q Ed => ta ρ G (fun x G1 => match x with | .bl false => tb ρ G1 Q Ed | .bl true => Q (.bl true) G1 | _ => False) Ed
def tNotVD (ta : TEd) : TEd := fun ρ G Q Ed => ta ρ G (fun x G1 => match x with | .bl c => Q (.bl (!c)) G1 | _ => False) Ed
def tIfED (t : TTd) (ta tb : TEd) : TEd := fun ρ G Q Ed => t ρ G (fun c G1 => if c = true then ta ρ G1 Q Ed else tb ρ G1 Q Ed) Ed
section
variable {X : Cx} {E : St → XK} {a b c : Expr} {ta tb : TEd} {t u : TTd} {pos : Pos} {rest : List Expr}
theorem pwd_and1 (ha : PTd X E a t) : PWd X E (.BoolOp .And [a] pos) t := ⟨pw_and1 ha.run⟩
theorem pwd_or1 (ha : PTd X E a t) : PWd X E (.BoolOp .Or [a] pos) t := ⟨pw_or1 ha.run⟩
theorem pwd_and (ha : PTd X E a t) (hb : PWd X E (.BoolOp .And (b :: rest) pos) u) : PWd X E (.BoolOp .And (a :: b :: rest) pos) (tAndD t u) := by
  refine ⟨PW.imp (pw_and ha.run hb.run) fun σ H Q h => ?_⟩
  obtain ⟨ρ, η, G, Qd, Ed, he, w, ht, hq, hE⟩ := h
  refine ⟨ρ, η, G, _, Ed, he, w, ht, fun k G1 η1 H1 s1 w1 q1 => ?_, hE⟩
  cases k with
  | true =>
    rw [if_pos rfl] at q1 ⊢
    exact ⟨ρ, η1, G1, Qd, Ed, he.step s1, w1, q1, fun b G' η' H' s' => hq b G' η' H' (s1.trans s'), hE.step s1⟩
  | false =>
    rw [if_neg (by decide)] at q1 ⊢
    exact hq false G1 η1 H1 s1 w1 q1
theorem pwd_or (ha : PTd X E a t) (hb : PWd X E (.BoolOp .Or (b :: rest) pos) u) : PWd X E (.BoolOp .Or (a :: b :: rest) pos) (tOrD t u) := by
  refine ⟨PW.imp (pw_or ha.run hb.run) fun σ H Q h => ?_⟩
  obtain ⟨ρ, η, G, Qd, Ed, he, w, ht, hq, hE⟩ := h
  refine ⟨ρ, η, G, _, Ed, he, w, ht, fun k G1 η1 H1 s1 w1 q1 => ?_, hE⟩
  cases k with
  | true =>
    rw [if_pos rfl] at q1 ⊢
    exact hq true G1 η1 H1 s1 w1 q1
  | false =>
    rw [if_neg (by decide)] at q1 ⊢
    exact ⟨ρ, η1, G1, Qd, Ed, he.step s1, w1, q1, fun b G' η' H' s' => hq b G' η' H' (s1.trans s'), hE.step s1⟩
theorem PWd.pt {e : Expr} (h : PWd X E e t) : PTd X E e t := ⟨h.run.pt⟩
theorem ptd_not (ha : PTd X E a t) : PTd X E (.UnaryOp .Not a pos) (tNotD t) := by
  refine ⟨PT.imp (pt_not ha.run) fun σ H Q h => ?_⟩
  obtain ⟨ρ, η, G, Qd, Ed, he, w, ht, hq, hE⟩ := h
  exact ⟨ρ, η, G, _, Ed, he, w, ht, fun k G1 η1 H1 s1 w1 q1 => hq (!k) G1 η1 H1 s1 w1 q1, hE⟩
theorem ped_one {op} {t : TEd} (h : PEd X E a t) : PEd X E (.BoolOp op [a] pos) t := ⟨pe_one h.run⟩
theorem ped_and (ha : PEd X E a ta) (hb : PEd X E (.BoolOp .And (b :: rest) pos) tb) : PEd X E (.BoolOp .And (a :: b :: rest) pos) (tAndVD ta tb) := by
  refine ⟨PE.imp (pe_and ha.run hb.run) fun σ H Q h => ?_⟩
  obtain ⟨ρ, η, G, Qd, Ed, he, w, ht, hq, hE⟩ := h
  refine ⟨ρ, η, G, _, Ed, he, w, ht, fun x G1 v η1 H1 s1 w1 r1 q1 => ?_, hE⟩
  cases x with
  | bl k =>
    refine ⟨k, r1, ?_⟩
    cases k with
    | true =>
      rw [if_pos rfl]
      exact ⟨ρ, η1, G1, Qd, Ed, he.step s1, w1, q1, hq.step s1, hE.step s1⟩
    | false =>
      rw [if_neg (by decide)]
      exact hq (.bl false) G1 _ η1 H1 s1 w1 rfl q1
  | _ => exact q1.elim
theorem ped_or (ha : PEd X E a ta) (hb : PEd X E (.BoolOp .Or (b :: rest) pos) tb) : PEd X E (.BoolOp .Or (a :: b :: rest) pos) (tOrVD ta tb) := by
  refine ⟨PE.imp (pe_or ha.run hb.run) fun σ H Q h => ?_⟩
  obtain ⟨ρ, η, G, Qd, Ed, he, w, ht, hq, hE⟩ := h
  refine ⟨ρ, η, G, _, Ed, he, w, ht, fun x G1 v η1 H1 s1 w1 r1 q1 => ?_, hE⟩
  cases x with
  | bl k =>
    refine ⟨k, r1, ?_⟩
    cases k with
    | false =>
      rw [if_neg (by decide)]
      exact ⟨ρ, η1, G1, Qd, Ed, he.step s1, w1, q1, hq.step s1, hE.step s1⟩
    | true =>
      rw [if_pos rfl]
      exact hq (.bl true) G1 _ η1 H1 s1 w1 rfl q1
  | _ => exact q1.elim
theorem ped_not (ha : PEd X E a ta) : PEd X E (.UnaryOp .Not a pos) (tNotVD ta) := by
  refine ⟨PE.imp (pe_not ha.run) fun σ H Q h => ?_⟩
  obtain ⟨ρ, η, G, Qd, Ed, he, w, ht, hq, hE⟩ := h
  refine ⟨ρ, η, G, _, Ed, he, w, ht, fun x G1 v η1 H1 s1 w1 r1 q1 => ?_, hE⟩
  cases x with
  | bl k => exact ⟨k, r1, hq (.bl (!k)) G1 _ η1 H1 s1 w1 rfl q1⟩
  | _ => exact q1.elim
theorem ped_ifExp (hc : PTd X E c t) (ha : PEd X E a ta) (hb : PEd X E b tb) : PEd X E (.IfExp c a b pos) (tIfED t ta tb) := by
  refine ⟨PE.imp (pe_ifExp hc.run ha.run hb.run) fun σ H Q h => ?_⟩
  obtain ⟨ρ, η, G, Qd, Ed, he, w, ht, hq, hE⟩ := h
  refine ⟨ρ, η, G, _, Ed, he, w, ht, fun k G1 η1 H1 s1 w1 q1 => ?_, hE⟩
  cases k with
  | true =>
    rw [if_pos rfl] at q1 ⊢
    exact ⟨ρ, η1, G1, Qd, Ed, he.step s1, w1, q1, hq.step s1, hE.step s1⟩
  | false =>
    rw [if_neg (by decide)] at q1 ⊢
    exact ⟨ρ, η1, G1, Qd, Ed, he.step s1, w1, q1, hq.step s1, hE.step s1⟩
end

def tNilD : TAd := fun _ G Q _ => Q [] G
def tConsD (ta : TEd) (tr : TAd) : TAd := fun ρ G Q Ed => ta ρ G (fun x G1 => tr ρ G1 (fun xs G2 => Q (x :: xs) G2) Ed) Ed
/-- the items of a list or tuple -/
def itemsD (G : GS) : D → Option (List D)
  | .tup ds => some ds
  | .lst ds => some ds
  | .obj k => match G[k]? with | some (.lst ds) => some ds | _ => none
  | _ => none
theorem itemsD_ok {K : PySem.W.Frag} {mg : Str → Option Value} {η : Eta} {G : GS} {H : Hp} (w : W K mg η G H) {d : D} {v : V} {ds : List D} (r : Rp K η H d v) (e : itemsD G d = some ds) :
    ∃ a vs, v = .ref a ∧ (SqT K H a vs ∨ SqL K H a vs) ∧ RpL K η H ds vs := by
  cases d with
  | tup xs =>
    obtain ⟨a, vs, e1, ht, hr⟩ := r
    cases e
    exact ⟨a, vs, e1, .inl ht, hr⟩
  | lst xs =>
    obtain ⟨a, vs, e1, _, ht, hr⟩ := r
    cases e
    exact ⟨a, vs, e1, .inr (SqL.of ht), hr⟩
  | obj k =>
    obtain ⟨a, e1, h⟩ := r
    simp only [itemsD] at e
    split at e
    · rename_i xs hk
      cases e
      obtain ⟨b, vs, g1, g2, g3⟩ := w.at_ k _ hk
      rw [g1] at h
      have : b = a := by
        rcases h with h | h
        · cases h; rfl
        · cases h
      subst this
      exact ⟨b, vs, e1, .inr (SqL.of g2), g3⟩
    · cases e
  | _ => cases e
def tStarD (te : TEd) (t : TAd) : TAd := fun ρ G Q Ed => te ρ G (fun x G1 => match itemsD G1 x with | some xs => t ρ G1 (fun ys G2 => Q (xs ++ ys) G2) Ed | none => False) Ed
def tTupD (t : TAd) : TEd := fun ρ G Q Ed => t ρ G (fun xs G1 => xs.length ≤ 16777216 ∧ Q (.tup xs) G1) Ed
def tLstD (t : TAd) : TEd := fun ρ G Q Ed => t ρ G (fun xs G1 => xs.length ≤ 16777216 ∧ Q (.lst xs) G1) Ed
/-- a list that will change: a numbered object -/
def tLstOD (t : TAd) : TEd := fun ρ G Q Ed => t ρ G (fun xs G1 => xs.length ≤ 16777216 ∧ Q (.obj G1.length) (G1 ++ [.lst xs])) Ed
theorem line_lt {n : Nat} (h : n < 16777216) : n < sizeLine := by rw [sizeLine_eq]; exact h
theorem line_eq {n : Nat} (h : n ≤ 16777216) : n ≤ sizeLine := by rw [sizeLine_eq]; exact h
theorem LQ.newO {K : PySem.W.Frag} {mg : Str → Option Value} {η : Eta} {G : GS} {H : Hp} {Qd : QD} {Q : VK} (h : LQ K mg η H Qd Q) {ds : List D} {vs : List V} {p : Addr} (w : W K mg η G H) (n : H p = none) (r : RpL K η H ds vs) (q : Qd (.obj G.length) (G ++ [.lst ds])) : Q (.ref p) (upd H p (.lst vs)) := by
  have st : Stp η H (η.push p) (upd H p (.lst vs)) := Stp.pushed n
  refine h (.obj G.length) (G ++ [.lst ds]) _ (η.push p) _ st (w.grow n (m := .lst ds) ⟨p, vs, by simp [Eta.push], upd_same, RpL.step st _ _ r⟩) ⟨p, rfl, .inl ?_⟩ q
  rw [← w.len]; simp [Eta.push]
section
variable {X : Cx} {E : St → XK} {e : Expr} {es : List Expr} {te : TEd} {t : TAd} {pos : Pos}
theorem pad_nil : PAd X E [] tNilD := by
  refine ⟨PA.imp pa_nil fun σ H Q h => ?_⟩
  obtain ⟨ρ, η, G, Qd, Ed, he, w, ht, hq, hE⟩ := h
  exact hq [] G [] η H (Stp.refl _ _) w rfl ht
theorem pad_cons (ha : PEd X E e te) (hr : PAd X E es t) (hs : starEach (e :: es) X.env = (false, eval e X.env) :: starEach es X.env := by rfl) : PAd X E (e :: es) (tConsD te t) := by
  refine ⟨PA.imp (pa_cons ha.run hr.run hs) fun σ H Q h => ?_⟩
  obtain ⟨ρ, η, G, Qd, Ed, he, w, ht, hq, hE⟩ := h
  refine ⟨ρ, η, G, _, Ed, he, w, ht, fun x G1 v η1 H1 s1 w1 r1 q1 => ?_, hE⟩
  refine ⟨ρ, η1, G1, _, Ed, he.step s1, w1, q1, fun ds G2 vs η2 H2 s2 w2 r2 q2 => ?_, hE.step s1⟩
  exact hq (x :: ds) G2 _ η2 H2 (s1.trans s2) w2 ⟨v, vs, rfl, Rp.step s2 _ _ r1, r2⟩ q2
theorem pad_star {p : Pos} (ha : PEd X E e te) (hr : PAd X E es t) (hs : starEach (.Starred e p :: es) X.env = (true, eval e X.env) :: starEach es X.env := by rfl) : PAd X E (.Starred e p :: es) (tStarD te t) := by
  refine ⟨PA.imp (StX.pa_star ha.run hr.run hs) fun σ H Q h => ?_⟩
  obtain ⟨ρ, η, G, Qd, Ed, he, w, ht, hq, hE⟩ := h
  refine ⟨ρ, η, G, _, Ed, he, w, ht, fun x G1 v η1 H1 s1 w1 r1 q1 => ?_, hE⟩
  dsimp only at q1
  split at q1
  · rename_i xs ex
    obtain ⟨a, vs, e1, hs', hr'⟩ := itemsD_ok w1 r1 ex
    refine ⟨a, vs, e1, hs', ρ, η1, G1, _, Ed, he.step s1, w1, q1, fun ds G2 us η2 H2 s2 w2 r2 q2 => ?_, hE.step s1⟩
    exact hq _ G2 _ η2 H2 (s1.trans s2) w2 (RpL.append (RpL.step s2 _ _ hr') r2) q2
  · exact q1.elim
theorem ped_tup {x1} (h : PAd X E es t) : PEd X E (.Tuple es x1 pos) (tTupD t) := by
  refine ⟨PE.imp (pe_tup h.run) fun σ H Q h => ?_⟩
  obtain ⟨ρ, η, G, Qd, Ed, he, w, ht, hq, hE⟩ := h
  refine ⟨ρ, η, G, _, Ed, he, w, ht, fun ds G1 vs η1 H1 s1 w1 r1 q1 => ?_, hE⟩
  exact ⟨line_eq (by rw [← r1.length]; exact q1.1), fun p hp => (hq.step s1).newT w1 hp r1 q1.2⟩
theorem ped_lst (h : PAd X E es t) : PEd X E (.List es pos) (tLstD t) := by
  refine ⟨PE.imp (pe_lst h.run) fun σ H Q h => ?_⟩
  obtain ⟨ρ, η, G, Qd, Ed, he, w, ht, hq, hE⟩ := h
  refine ⟨ρ, η, G, _, Ed, he, w, ht, fun ds G1 vs η1 H1 s1 w1 r1 q1 => ?_, hE⟩
  exact ⟨line_eq (by rw [← r1.length]; exact q1.1), fun p hp => (hq.step s1).newL w1 hp r1 q1.2⟩
theorem ped_lstO (h : PAd X E es t) : PEd X E (.List es pos) (tLstOD t) := by
  refine ⟨PE.imp (pe_lst h.run) fun σ H Q h => ?_⟩
  obtain ⟨ρ, η, G, Qd, Ed, he, w, ht, hq, hE⟩ := h
  refine ⟨ρ, η, G, _, Ed, he, w, ht, fun ds G1 vs η1 H1 s1 w1 r1 q1 => ?_, hE⟩
  exact ⟨line_eq (by rw [← r1.length]; exact q1.1), fun p hp => (hq.step s1).newO w1 hp r1 q1.2⟩
end

abbrev SpD := List D → GS → QD → QE → Prop
def liftSp (K : PySem.W.Frag) (mg : Str → Option Value) (sp : SpD) : Sp := fun vs H Q E =>
  ∃ (ds : List D) (η : Eta) (G : GS) (Qd : QD) (Ed : QE), RpL K η H ds vs ∧ W K mg η G H ∧ sp ds G Qd Ed ∧ LQ K mg η H Qd Q ∧ LE K mg η H Ed E
def tCallD (sp : SpD) (t : TAd) : TEd := fun ρ G Q Ed => t ρ G (fun ds G1 => sp ds G1 Q Ed) Ed
section
variable {X : Cx} {E : St → XK} {e : Expr} {es : List Expr} {t : TAd} {pos p : Pos} {k : Nat} {f : Addr} {fd : FuncData} {ps : List Str} {sp : SpD} {x : Str}
theorem ped_call (F : FnOk X.prog X.w X.K X.mg X.base (L2.CX X.prog X.w) k f fd ps (liftSp X.K X.mg sp)) (hr : Room k X.A) (hm : X.mg x = some (.ref f)) (hk : PySem.W.keepIn X.K (.ref f) = true) (hb : Binds X.K fd ps []) (hx : ∀ σ, PassesAt (L2.CX X.prog X.w) X σ (E σ))
    (hg : Gl X x) (ha : PAd X E (e :: es) t) (hdb : (x == ("__debug__" : Str)) = false := by decide) (he : starEach (e :: es) X.env = (false, eval e X.env) :: starEach es X.env := by rfl) (hpl : (backTo pos (starEach es X.env)).any (·.1) = false := by rfl) :
    PEd X E (.Call (.Name x p) (e :: es) [] pos) (tCallD sp t) := by
  refine ⟨PE.imp (pe_callS F hr hg hm hk hb hx ha.run hdb he hpl) fun σ H Q h => ?_⟩
  obtain ⟨ρ, η, G, Qd, Ed, he, w, ht, hq, hE⟩ := h
  refine ⟨ρ, η, G, _, Ed, he, w, ht, fun ds G1 vs η1 H1 s1 w1 r1 q1 => ?_, hE⟩
  exact ⟨ds, η1, G1, Qd, Ed, r1, w1, q1, hq.step s1, hE.step s1⟩
end

def LiftC (X : Cx) (rH : List V → Hp → VK → Prop) (rD : List D → GS → QD → Prop) : Prop := ∀ (η : Eta) (G : GS) (H : Hp) (vs : List V) (ds : List D) (Q : VK) (Qd : QD),
  W X.K X.mg η G H → RpL X.K η H ds vs → rD ds G Qd → LQ X.K X.mg η H Qd Q → rH vs H Q
def tCBD (r : List D → GS → QD → Prop) (t : TAd) : TEd := fun ρ G Q Ed => t ρ G (fun ds G1 => r ds G1 Q) Ed
section
variable {X : Cx} {E : St → XK} {e : Expr} {es : List Expr} {t : TAd} {pos p : Pos} {id T : String} {x : Str} {rH : List V → Hp → VK → Prop} {rD : List D → GS → QD → Prop}
theorem liftCB (hl : LiftC X rH rD) {σ : St} {H : Hp} {Q : VK} (h : lE X.K X.mg E (tCBD rD t) σ H Q) : tCB rH (lA X.K X.mg E t) σ H Q := by
  obtain ⟨ρ, η, G, Qd, Ed, he, w, ht, hq, hE⟩ := h
  refine ⟨ρ, η, G, _, Ed, he, w, ht, fun ds G1 vs η1 H1 s1 w1 r1 q1 => ?_, hE⟩
  exact hl η1 G1 H1 vs ds Q Qd w1 r1 q1 (hq.step s1)
theorem ped_callB (hc : CallR X (.builtin id) rH) (hl : LiftC X rH rD) (hm : X.mg x = none) (hv : bootBuiltins x = some (.builtin id)) (hg : Gl X x) (ha : PAd X E (e :: es) t) (hn : x ≠ "__name__" := by decide) (hdb : (x == ("__debug__" : Str)) = false := by decide)
    (he : starEach (e :: es) X.env = (false, eval e X.env) :: starEach es X.env := by rfl) (hpl : (backTo pos (starEach es X.env)).any (·.1) = false := by rfl) : PEd X E (.Call (.Name x p) (e :: es) [] pos) (tCBD rD t) :=
  ⟨PE.imp (pe_callB hc hg hm hv ha.run hn hdb he hpl) fun _ _ _ h => liftCB hl h⟩
theorem ped_callTy (hc : CallR X (.type T) rH) (hl : LiftC X rH rD) (hm : X.mg x = none) (hv : bootBuiltins x = some (.type T)) (hg : Gl X x) (ha : PAd X E (e :: es) t) (hn : x ≠ "__name__" := by decide) (hdb : (x == ("__debug__" : Str)) = false := by decide)
    (he : starEach (e :: es) X.env = (false, eval e X.env) :: starEach es X.env := by rfl) (hpl : (backTo pos (starEach es X.env)).any (·.1) = false := by rfl) : PEd X E (.Call (.Name x p) (e :: es) [] pos) (tCBD rD t) :=
  ⟨PE.imp (pe_callTy hc hg hm hv ha.run hn hdb he hpl) fun _ _ _ h => liftCB hl h⟩
end
end Y

namespace Y
open PySem PySem.Spec L2
open PyProof.Rows hiding St

structure EndsD where
  nx : Rho → GS → Prop
  rt : QD
  bk : Rho → GS → Prop := fun _ _ => False
  ct : Rho → GS → Prop := fun _ _ => False
  er : Er → Rho → GS → Prop := fun _ _ _ => False
abbrev TSd := EndsD → Rho → GS → Prop

structure Lnk (K : PySem.W.Frag) (mg : Str → Option Value) (E : St → XK) (η : Eta) (H : Hp) (Dd : EndsD) (D : Ends) : Prop where
  nx : ∀ ρ' G' σ' η' H', Stp η H η' H' → W K mg η' G' H' → EnvR K η' H' σ' ρ' → Dd.nx ρ' G' → D.nx σ' H'
  rt : LQ K mg η H Dd.rt D.rt
  bk : ∀ ρ' G' σ' η' H', Stp η H η' H' → W K mg η' G' H' → EnvR K η' H' σ' ρ' → Dd.bk ρ' G' → D.bk σ' H'
  ct : ∀ ρ' G' σ' η' H', Stp η H η' H' → W K mg η' G' H' → EnvR K η' H' σ' ρ' → Dd.ct ρ' G' → D.ct σ' H'
  er : ∀ e ρ' G' σ' cls od η' H', Stp η H η' H' → W K mg η' G' H' → EnvR K η' H' σ' ρ' → ErR K mg η' H' cls od e → Dd.er e ρ' G' → E σ' cls od H'
def lS (K : PySem.W.Frag) (mg : Str → Option Value) (E : St → XK) (t : TSd) : TS := fun D σ H =>
  ∃ (ρ : Rho) (η : Eta) (G : GS) (Dd : EndsD), EnvR K η H σ ρ ∧ W K mg η G H ∧ t Dd ρ G ∧ Lnk K mg E η H Dd D
structure PSd (X : Cx) (E : St → XK) (st : Stmt) (t : TSd) : Prop where run : PS X st (lS X.K X.mg E t)
structure PSsd (X : Cx) (E : St → XK) (st : List Stmt) (t : TSd) : Prop where run : PSs X st (lS X.K X.mg E t)

theorem PS.imp {X : Cx} {e : Stmt} {t t' : TS} (h : PS X e t) (i : ∀ D σ H, t' D σ H → t D σ H) : PS X e t' := ⟨fun pins s σ H Q I q => h.run pins s σ H Q I (i Q σ H q)⟩
theorem PSs.imp {X : Cx} {e : List Stmt} {t t' : TS} (h : PSs X e t) (i : ∀ D σ H, t' D σ H → t D σ H) : PSs X e t' := ⟨fun pins s σ H Q I q => h.run pins s σ H Q I (i Q σ H q)⟩

section
variable {K : PySem.W.Frag} {mg : Str → Option Value} {E : St → XK} {η η' : Eta} {H H' : Hp} {G : GS} {Dd : EndsD} {D : Ends} {σ : St} {ρ : Rho}
theorem Lnk.step (s : Stp η H η' H') (l : Lnk K mg E η H Dd D) : Lnk K mg E η' H' Dd D :=
  ⟨fun ρ' G' σ' η2 H2 s2 => l.nx ρ' G' σ' η2 H2 (s.trans s2), l.rt.step s, fun ρ' G' σ' η2 H2 s2 => l.bk ρ' G' σ' η2 H2 (s.trans s2),
    fun ρ' G' σ' η2 H2 s2 => l.ct ρ' G' σ' η2 H2 (s.trans s2), fun e ρ' G' σ' cls od η2 H2 s2 => l.er e ρ' G' σ' cls od η2 H2 (s.trans s2)⟩
/-- the error's wish at the slots as they are -/
theorem Lnk.le (l : Lnk K mg E η H Dd D) (he : EnvR K η H σ ρ) : LE K mg η H (fun e G' => Dd.er e ρ G') (E σ) :=
  fun e G' cls od η2 H2 s2 w r q => l.er e ρ G' σ cls od η2 H2 s2 w (he.step s2) r q
theorem EnvR.set (he : EnvR K η H σ ρ) (i : Nat) {d : Y.D} {v : V} (r : Rp K η H d v) : EnvR K η H (σ.set i (some v)) (ρ.set i (some d)) := by
  refine ⟨by simp [he.1], fun j x hx => ?_⟩
  by_cases hj : j = i
  · subst hj
    have hl : j < ρ.length := by
      have := (List.getElem?_eq_some_iff.mp hx).1
      simpa using this
    rw [List.getElem?_set_self hl] at hx
    cases hx
    exact ⟨v, by rw [List.getElem?_set_self (by rw [he.1]; exact hl)], r⟩
  · rw [List.getElem?_set_ne (Ne.symm hj)] at hx
    obtain ⟨u, e, r'⟩ := he.2 j x hx
    exact ⟨u, by rw [List.getElem?_set_ne (Ne.symm hj)]; exact e, r'⟩
theorem EnvR.unset (he : EnvR K η H σ ρ) (i : Nat) : EnvR K η H (σ.set i none) (ρ.set i none) := by
  refine ⟨by simp [he.1], fun j x hx => ?_⟩
  by_cases hj : j = i
  · subst hj
    by_cases hl : j < ρ.length
    · rw [List.getElem?_set_self hl] at hx; cases hx
    · rw [List.getElem?_eq_none (by simpa using Nat.le_of_not_lt hl)] at hx; cases hx
  · rw [List.getElem?_set_ne (Ne.symm hj)] at hx
    obtain ⟨u, e, r'⟩ := he.2 j x hx
    exact ⟨u, by rw [List.getElem?_set_ne (Ne.symm hj)]; exact e, r'⟩
/-- an expression's links, from a statement's -/
theorem Lnk.ex (l : Lnk K mg E η H Dd D) : LQ K mg η H Dd.rt D.rt := l.rt
end

def tNextD : TSd := fun D ρ G => D.nx ρ G
def tSeqD (t u : TSd) : TSd := fun D ρ G => t { D with nx := u D } ρ G
def tBreakD : TSd := fun D ρ G => D.bk ρ G
def tContD : TSd := fun D ρ G => D.ct ρ G
def tDropD (te : TEd) : TSd := fun D ρ G => te ρ G (fun _ G1 => D.nx ρ G1) (fun e G1 => D.er e ρ G1)
def tRetD (te : TEd) : TSd := fun D ρ G => te ρ G D.rt (fun e G1 => D.er e ρ G1)
def tIfSD (c : TTd) (t u : TSd) : TSd := fun D ρ G => c ρ G (fun b G1 => if b = true then t D ρ G1 else u D ρ G1) (fun e G1 => D.er e ρ G1)
def tNeverD : TSd := fun _ _ _ => False
section
variable {X : Cx} {E : St → XK} {st : Stmt} {rest : List Stmt} {t u : TSd} {e : Expr} {te : TEd} {pos : Pos}
theorem pssd_nil : PSsd X E [] tNextD := ⟨PSs.imp pss_nil fun D σ H h => by
  obtain ⟨ρ, η, G, Dd, he, w, ht, l⟩ := h
  exact l.nx ρ G σ η H (Stp.refl _ _) w he ht⟩
theorem pssd_cons (h1 : PSd X E st t) (h2 : PSsd X E rest u) : PSsd X E (st :: rest) (tSeqD t u) := ⟨PSs.imp (pss_cons h1.run h2.run) fun D σ H h => by
  obtain ⟨ρ, η, G, Dd, he, w, ht, l⟩ := h
  refine ⟨ρ, η, G, _, he, w, ht, ?_, l.rt, l.bk, l.ct, l.er⟩
  intro ρ1 G1 σ1 η1 H1 s1 w1 e1 q1
  exact ⟨ρ1, η1, G1, Dd, e1, w1, q1, l.step s1⟩⟩
theorem pssd_one (h1 : PSd X E st t) : PSsd X E [st] t := ⟨pss_one h1.run⟩
theorem psd_pass : PSd X E (.Pass pos) tNextD := ⟨PS.imp ps_pass fun D σ H h => by
  obtain ⟨ρ, η, G, Dd, he, w, ht, l⟩ := h
  exact l.nx ρ G σ η H (Stp.refl _ _) w he ht⟩
theorem psd_break : PSd X E (.Break pos) tBreakD := ⟨PS.imp ps_break fun D σ H h => by
  obtain ⟨ρ, η, G, Dd, he, w, ht, l⟩ := h
  exact l.bk ρ G σ η H (Stp.refl _ _) w he ht⟩
theorem psd_continue : PSd X E (.Continue pos) tContD := ⟨PS.imp ps_continue fun D σ H h => by
  obtain ⟨ρ, η, G, Dd, he, w, ht, l⟩ := h
  exact l.ct ρ G σ η H (Stp.refl _ _) w he ht⟩
theorem psd_never : PSd X E st tNeverD := ⟨PS.imp ps_never fun D σ H h => by
  obtain ⟨ρ, η, G, Dd, he, w, ht, l⟩ := h
  exact ht.elim⟩
theorem psd_expr (he : PEd X E e te) (hs : swapsWith e none pos.line X.env = pure false := by rfl) : PSd X E (.Expr e pos) (tDropD te) := ⟨PS.imp (ps_expr he.run hs) fun D σ H h => by
  obtain ⟨ρ, η, G, Dd, he, w, ht, l⟩ := h
  refine ⟨ρ, η, G, _, _, he, w, ht, fun d G1 v η1 H1 s1 w1 r1 q1 => ?_, l.le he⟩
  exact l.nx ρ G1 σ η1 H1 s1 w1 (he.step s1) q1⟩
theorem psd_ret (he : PEd X E e te) : PSd X E (.Return (some e) pos) (tRetD te) := ⟨PS.imp (ps_ret he.run) fun D σ H h => by
  obtain ⟨ρ, η, G, Dd, he, w, ht, l⟩ := h
  exact ⟨ρ, η, G, _, _, he, w, ht, l.rt, l.le he⟩⟩
theorem psd_if {c : Expr} {a b : List Stmt} {tc : TTd} (hc : PTd X E c tc) (ha : PSsd X E a t) (hb : PSsd X E b u) : PSd X E (.If c a b pos) (tIfSD tc t u) := ⟨PS.imp (ps_if hc.run ha.run hb.run) fun D σ H h => by
  obtain ⟨ρ, η, G, Dd, he, w, ht, l⟩ := h
  refine ⟨ρ, η, G, _, _, he, w, ht, fun k G1 η1 H1 s1 w1 q1 => ?_, l.le he⟩
  cases k with
  | true =>
    rw [if_pos rfl] at q1 ⊢
    exact ⟨ρ, η1, G1, Dd, he.step s1, w1, q1, l.step s1⟩
  | false =>
    rw [if_neg (by decide)] at q1 ⊢
    exact ⟨ρ, η1, G1, Dd, he.step s1, w1, q1, l.step s1⟩⟩
end

abbrev TGd := D → Rho → GS → (Rho → GS → Prop) → Prop
abbrev TGsd := List D → Rho → GS → (Rho → GS → Prop) → Prop
def lG (K : PySem.W.Frag) (mg : Str → Option Value) (t : TGd) : TG := fun v σ H Q =>
  ∃ (d : D) (ρ : Rho) (η : Eta) (G : GS) (Qd : Rho → GS → Prop), Rp K η H d v ∧ EnvR K η H σ ρ ∧ W K mg η G H ∧ t d ρ G Qd ∧
    ∀ ρ' G' σ' η' H', Stp η H η' H' → W K mg η' G' H' → EnvR K η' H' σ' ρ' → Qd ρ' G' → Q σ' H'
def lGs (K : PySem.W.Frag) (mg : Str → Option Value) (t : TGsd) : TGs := fun vs σ H Q =>
  ∃ (ds : List D) (ρ : Rho) (η : Eta) (G : GS) (Qd : Rho → GS → Prop), RpL K η H ds vs ∧ EnvR K η H σ ρ ∧ W K mg η G H ∧ t ds ρ G Qd ∧
    ∀ ρ' G' σ' η' H', Stp η H η' H' → W K mg η' G' H' → EnvR K η' H' σ' ρ' → Qd ρ' G' → Q σ' H'
structure PGd (X : Cx) (tg : Expr) (t : TGd) : Prop where run : PG X tg (lG X.K X.mg t)
structure PGsd (X : Cx) (tg : List Expr) (t : TGsd) : Prop where run : PGs X tg (lGs X.K X.mg t)
theorem PG.imp {X : Cx} {e : Expr} {t t' : TG} (h : PG X e t) (i : ∀ v σ H Q, t' v σ H Q → t v σ H Q) : PG X e t' := ⟨fun pins s σ H v u Q I r q => h.run pins s σ H v u Q I r (i v σ H Q q)⟩
theorem PGs.imp {X : Cx} {e : List Expr} {t t' : TGs} (h : PGs X e t) (i : ∀ v σ H Q, t' v σ H Q → t v σ H Q) : PGs X e t' := ⟨fun pins s σ H v u Q I r q => h.run pins s σ H v u Q I r (i v σ H Q q)⟩
def gNameD (i : Nat) : TGd := fun d ρ G Q => Q (ρ.set i (some d)) G
def gNilD : TGsd := fun ds ρ G Q => match ds with | [] => Q ρ G | _ => False
def gConsD (t : TGd) (u : TGsd) : TGsd := fun ds ρ G Q => match ds with | d :: r => t d ρ G (fun ρ1 G1 => u r ρ1 G1 Q) | [] => False
def gTupD (t : TGsd) : TGd := fun d ρ G Q => match d with | .tup ds => t ds ρ G Q | _ => False
/-- target = e, any target -/
def tAsgD (te : TEd) (g : TGd) : TSd := fun D ρ G => te ρ G (fun d G1 => g d ρ G1 D.nx) (fun e G1 => D.er e ρ G1)
def tSetD (i : Nat) (te : TEd) : TSd := fun D ρ G => te ρ G (fun d G1 => D.nx (ρ.set i (some d)) G1) (fun e G1 => D.er e ρ G1)
section
variable {X : Cx} {E : St → XK} {pos : Pos}
theorem pgd_name {i : Nat} {x : Str} (hN : X.N.Nodup) (hi : X.N[i]? = some x) (hx : Loc X.env.scope x) (hf : X.fn x = true ∨ X.env.scope.names.lookup x = some .local := by first | exact .inl rfl | exact .inr rfl | assumption) : PGd X (.Name x pos) (gNameD i) :=
  ⟨PG.imp (pg_name hN hi hx hf) fun v σ H Q h => by
    obtain ⟨d, ρ, η, G, Qd, r, he, w, ht, hq⟩ := h
    exact hq _ G _ η H (Stp.refl _ _) w (he.set i r) ht⟩
theorem pgsd_nil : PGsd X [] gNilD := ⟨PGs.imp pgs_nil fun v σ H Q h => by
  obtain ⟨ds, ρ, η, G, Qd, r, he, w, ht, hq⟩ := h
  cases ds with
  | nil => exact ⟨r, hq _ G _ η H (Stp.refl _ _) w he ht⟩
  | cons d ds => exact ht.elim⟩
theorem pgsd_cons {e : Expr} {es : List Expr} {t : TGd} {u : TGsd} (h1 : PGd X e t) (h2 : PGsd X es u)
    (hs : (assignEach (e :: es) X.env).map (·.2) = assign e X.env :: (assignEach es X.env).map (·.2) := by rfl) : PGsd X (e :: es) (gConsD t u) := ⟨PGs.imp (pgs_cons h1.run h2.run hs) fun v σ H Q h => by
  obtain ⟨ds, ρ, η, G, Qd, r, he, w, ht, hq⟩ := h
  cases ds with
  | nil => exact ht.elim
  | cons d ds =>
    obtain ⟨u', vs, ev, r1, r2⟩ := r
    refine ⟨u', vs, ev, d, ρ, η, G, _, r1, he, w, ht, fun ρ1 G1 σ1 η1 H1 s1 w1 e1 q1 => ?_⟩
    exact ⟨ds, ρ1, η1, G1, Qd, RpL.step s1 _ _ r2, e1, w1, q1, fun ρ2 G2 σ2 η2 H2 s2 => hq ρ2 G2 σ2 η2 H2 (s1.trans s2)⟩⟩
theorem pgd_tup {es : List Expr} {k : Nat} {t : TGsd} {n : Nat} (hc : X.calm = true) (h : PGsd X es t) (hlen : ∀ ds ρ G Q, t ds ρ G Q → ds.length = n)
    (hn : (assignEach es X.env).length = n := by rfl) (hst : (assignEach es X.env).findIdx? (·.1) = none := by rfl) : PGd X (.Tuple es k pos) (gTupD t) := ⟨PG.imp (pg_tup hc h.run hn hst) fun v σ H Q h => by
  obtain ⟨d, ρ, η, G, Qd, r, he, w, ht, hq⟩ := h
  cases d with
  | tup ds =>
    obtain ⟨a, vs, ev, hs, hr⟩ := r
    refine ⟨a, vs, ev, hs, by rw [← hr.length]; exact hlen _ _ _ _ ht, ds, ρ, η, G, Qd, hr, he, w, ht, hq⟩
  | _ => exact ht.elim⟩
theorem lenNil : ∀ ds ρ G Q, gNilD ds ρ G Q → ds.length = 0 := fun ds ρ G Q h => by
  cases ds with
  | nil => rfl
  | cons d ds => exact h.elim
theorem lenCons {i n : Nat} {u : TGsd} (h : ∀ ds ρ G Q, u ds ρ G Q → ds.length = n) : ∀ ds ρ G Q, gConsD (gNameD i) u ds ρ G Q → ds.length = n + 1 := fun ds ρ G Q q => by
  cases ds with
  | nil => exact q.elim
  | cons d ds => simp [h _ _ _ _ q]
theorem psd_asg {tg e : Expr} {te : TEd} {g : TGd} (he : PEd X E e te) (hg : PGd X tg g) (hs : swapsWithSole [tg] e pos.line X.env = pure false := by rfl) (hw : swappedStores [tg] e X.env = pure none := by rfl)
    (h1 : (assignEach [tg] X.env).map (·.2) = [assign tg X.env] := by rfl) : PSd X E (.Assign [tg] e pos) (tAsgD te g) := ⟨PS.imp (ps_asg he.run hg.run hs hw h1) fun D σ H h => by
  obtain ⟨ρ, η, G, Dd, he, w, ht, l⟩ := h
  refine ⟨ρ, η, G, _, _, he, w, ht, fun d G1 v η1 H1 s1 w1 r1 q1 => ?_, l.le he⟩
  exact ⟨d, ρ, η1, G1, _, r1, he.step s1, w1, q1, fun ρ2 G2 σ2 η2 H2 s2 => l.nx ρ2 G2 σ2 η2 H2 (s1.trans s2)⟩⟩
theorem psd_set {i : Nat} {x : Str} {e : Expr} {te : TEd} {pos' : Pos} (hN : X.N.Nodup) (hi : X.N[i]? = some x) (hx : Loc X.env.scope x) (he : PEd X E e te) (hs : swapsWith e (some (.Name x pos')) pos.line X.env = pure false := by rfl) (hf : X.fn x = true ∨ X.env.scope.names.lookup x = some .local := by first | exact .inl rfl | exact .inr rfl | assumption) :
    PSd X E (.Assign [.Name x pos'] e pos) (tSetD i te) := ⟨PS.imp (ps_set hN hi hx he.run hs hf) fun D σ H h => by
  obtain ⟨ρ, η, G, Dd, he, w, ht, l⟩ := h
  refine ⟨ρ, η, G, _, _, he, w, ht, fun d G1 v η1 H1 s1 w1 r1 q1 => ?_, l.le he⟩
  exact l.nx _ G1 _ η1 H1 s1 w1 ((he.step s1).set i r1) q1⟩
/-- a, b = x, y -/
def tPar2D (i j : Nat) (ta : TAd) : TSd := fun D ρ G => ta ρ G (fun ds G1 => match ds with | [d1, d2] => D.nx ((ρ.set i (some d1)).set j (some d2)) G1 | _ => False) (fun e G1 => D.er e ρ G1)
theorem psd_par {i j : Nat} {x y : Str} {a b : Expr} {ta : TAd} {px py pt : Pos} {kt k2 pt2} (hc : X.calm = true) (hN : X.N.Nodup) (hi : X.N[i]? = some x) (hj : X.N[j]? = some y) (hij : i ≠ j)
    (hx : X.env.scope.names.lookup x = some .local) (hy : X.env.scope.names.lookup y = some .local) (ha : PAd X E [a, b] ta)
    (hw : swappedStores [.Tuple [.Name x px, .Name y py] kt pt] (.Tuple [a, b] k2 pt2) X.env = pure (some [x, y]))
    (hs : swapsWithSole [.Tuple [.Name x px, .Name y py] kt pt] (.Tuple [a, b] k2 pt2) pos.line X.env = pure false := by rfl) :
    PSd X E (.Assign [.Tuple [.Name x px, .Name y py] kt pt] (.Tuple [a, b] k2 pt2) pos) (tPar2D i j ta) := ⟨PS.imp (ps_par hc hN hi hj hij hx hy ha.run hw hs) fun D σ H h => by
  obtain ⟨ρ, η, G, Dd, he, w, ht, l⟩ := h
  refine ⟨ρ, η, G, _, _, he, w, ht, fun ds G1 vs η1 H1 s1 w1 r1 q1 => ?_, l.le he⟩
  split at q1
  · obtain ⟨v1, _, rfl, r1, v2, _, rfl, r2, e3⟩ := r1
    refine ⟨v1, v2, by rw [e3], ?_⟩
    exact l.nx _ G1 _ η1 H1 s1 w1 (((he.step s1).set i r1).set j r2) q1
  · exact q1.elim⟩
end

/-- the walk J gives the things ds, whenever it is asked -/
def ItOk (K : PySem.W.Frag) (mg : Str → Option Value) (J : It) (η : Eta) (H : Hp) (ds : List D) : Prop :=
  ∀ (η' : Eta) (H' : Hp) (i : Nat), Stw η H η' H' → (i < ds.length → J.go i H') ∧ (ds.length ≤ i → J.stop i H') ∧
    ∀ x H'', J.yld i H' x H'' → i < ds.length → ∃ d, ds[i]? = some d ∧ Stp η' H' η' H'' ∧ (∀ G, W K mg η' G H' → W K mg η' G H'') ∧ Rp K η' H'' d x
abbrev TId := Rho → GS → (List D → GS → Prop) → QE → Prop
def lI (K : PySem.W.Frag) (mg : Str → Option Value) (E : St → XK) (t : TId) : TI := fun σ H R =>
  ∃ (ρ : Rho) (η : Eta) (G : GS) (Qd : List D → GS → Prop) (Ed : QE), EnvR K η H σ ρ ∧ W K mg η G H ∧ t ρ G Qd Ed ∧
    (∀ ds G' J η' H', Stp η H η' H' → W K mg η' G' H' → ItOk K mg J η' H' ds → Qd ds G' → R J H') ∧ LE K mg η H Ed (E σ)
structure PId (X : Cx) (E : St → XK) (tg iter : Expr) (t : TId) : Prop where run : PI X tg iter (lI X.K X.mg E t)
theorem PI.imp {X : Cx} {tg e : Expr} {t t' : TI} (h : PI X tg e t) (i : ∀ σ H Q, t' σ H Q → t σ H Q) : PI X tg e t' := ⟨fun pins s σ H Q I q => h.run pins s σ H Q I (i σ H Q q)⟩

theorem itl_ok {K : PySem.W.Frag} {mg : Str → Option Value} {η : Eta} {H : Hp} {a : Addr} {vs : List V} {ds : List D} (ha : H a = some (.lst vs)) (n : Out η a) (r : RpL K η H ds vs) : ItOk K mg (Itl K a) η H ds := by
  intro η' H' i s
  have ha' := s.keep _ _ ha (.inl n)
  have hl : SqL K H' a vs := SqL.of ha'
  have e := r.length
  refine ⟨fun h => ⟨vs, vs[i]'(by omega), hl, List.getElem?_eq_getElem _⟩, fun h => ⟨vs, hl, by omega⟩, fun x H'' y hi => ?_⟩
  obtain ⟨e1, e2⟩ := y
  subst e1
  obtain ⟨d, h1, h2⟩ := r.getV (e2 vs hl)
  exact ⟨d, h1, Stp.refl _ _, fun _ w => w, Rp.stepw s _ _ h2⟩
theorem itt_ok {K : PySem.W.Frag} {mg : Str → Option Value} {η : Eta} {H : Hp} {a : Addr} {vs : List V} {ds : List D} (ha : SqT K H a vs) (r : RpL K η H ds vs) : ItOk K mg (Itt K a) η H ds := by
  intro η' H' i s
  have hl : SqT K H' a vs := SqT.stepw s ha
  have e := r.length
  refine ⟨fun h => ⟨vs, vs[i]'(by omega), hl, List.getElem?_eq_getElem _⟩, fun h => ⟨vs, hl, by omega⟩, fun x H'' y hi => ?_⟩
  obtain ⟨e1, e2⟩ := y
  subst e1
  obtain ⟨d, h1, h2⟩ := r.getV (e2 vs hl)
  exact ⟨d, h1, Stp.refl _ _, fun _ w => w, Rp.stepw s _ _ h2⟩
theorem itr_ok {K : PySem.W.Frag} {mg : Str → Option Value} {η : Eta} {H : Hp} {lo : Int} {n : Nat} : ItOk K mg (Itr lo n) η H ((List.range n).map fun (i : Nat) => D.int (lo + (i : Int))) := by
  intro η' H' i s
  refine ⟨fun h => (by simpa using h : i < n), fun h => (by simpa using h : n ≤ i), fun x H'' y hi => ?_⟩
  obtain ⟨e1, e2⟩ := y
  subst e1; subst e2
  have hi' : i < n := by simpa using hi
  exact ⟨.int (lo + i), by simp [hi'], Stp.refl _ _, fun _ w => w, rfl⟩
/-- lo, lo + 1, .. (n of them) -/
def rngD (lo : Int) (n : Nat) : List D := (List.range n).map fun (i : Nat) => D.int (lo + (i : Int))
def iLstD (te : TEd) : TId := fun ρ G Q Ed => te ρ G (fun d G1 => match d with | .lst ds => Q ds G1 | _ => False) Ed
def iTupD (te : TEd) : TId := fun ρ G Q Ed => te ρ G (fun d G1 => match d with | .tup ds => Q ds G1 | _ => False) Ed
def iRng1D (te : TAd) : TId := fun ρ G Q Ed => te ρ G (fun ds G1 => match ds with | [.int j] => (-(2 ^ 62) ≤ j ∧ j < 2 ^ 62) ∧ Q (rngD 0 j.toNat) G1 | _ => False) Ed
def iRng2D (te : TAd) : TId := fun ρ G Q Ed => te ρ G (fun ds G1 => match ds with | [.int i, .int j] => (-(2 ^ 62) ≤ i ∧ i < 2 ^ 62 ∧ -(2 ^ 62) ≤ j ∧ j < 2 ^ 62) ∧ Q (rngD i (j - i).toNat) G1 | _ => False) Ed
section
variable {X : Cx} {E : St → XK} {tg e a b : Expr} {te : TEd} {ta : TAd} {p pos : Pos}
theorem pid_lst (h : PEd X E e te) : PId X E tg e (iLstD te) := ⟨PI.imp (pi_list h.run) fun σ H R h => by
  obtain ⟨ρ, η, G, Qd, Ed, he, w, ht, hq, hE⟩ := h
  refine ⟨ρ, η, G, _, Ed, he, w, ht, fun d G1 v η1 H1 s1 w1 r1 q1 => ?_, hE⟩
  cases d with
  | lst ds =>
    obtain ⟨x, vs, rfl, n, hx, hr⟩ := r1
    exact ⟨x, rfl, ⟨vs, SqL.of hx⟩, hq ds G1 _ η1 H1 s1 w1 (itl_ok hx n hr) q1⟩
  | _ => exact q1.elim⟩
theorem pid_tup (h : PEd X E e te) : PId X E tg e (iTupD te) := ⟨PI.imp (pi_tup h.run) fun σ H R h => by
  obtain ⟨ρ, η, G, Qd, Ed, he, w, ht, hq, hE⟩ := h
  refine ⟨ρ, η, G, _, Ed, he, w, ht, fun d G1 v η1 H1 s1 w1 r1 q1 => ?_, hE⟩
  cases d with
  | tup ds =>
    obtain ⟨x, vs, rfl, hx, hr⟩ := r1
    exact ⟨x, rfl, ⟨vs, hx⟩, hq ds G1 _ η1 H1 s1 w1 (itt_ok hx hr) q1⟩
  | _ => exact q1.elim⟩
theorem pid_rng1 (hm : X.mg "range" = none) (hg : Gl X "range") (ha : PAd X E [a] ta) (hs : starEach [a] X.env = [(false, eval a X.env)] := by rfl) : PId X E tg (.Call (.Name "range" p) [a] [] pos) (iRng1D ta) :=
  ⟨PI.imp (pi_range1 hg hm ha.run hs) fun σ H R h => by
  obtain ⟨ρ, η, G, Qd, Ed, he, w, ht, hq, hE⟩ := h
  refine ⟨ρ, η, G, _, Ed, he, w, ht, fun ds G1 vs η1 H1 s1 w1 r1 q1 => ?_, hE⟩
  split at q1
  · rename_i j
    obtain ⟨v, _, rfl, r1, rfl⟩ := r1
    refine ⟨j, by rw [show v = .int j from r1], q1.1.1, q1.1.2, hq _ G1 _ η1 H1 s1 w1 itr_ok q1.2⟩
  · exact q1.elim⟩
theorem pid_rng2 (hm : X.mg "range" = none) (hg : Gl X "range") (ha : PAd X E [a, b] ta) (hs : starEach [a, b] X.env = [(false, eval a X.env), (false, eval b X.env)] := by rfl) (hs2 : starEach [b] X.env = [(false, eval b X.env)] := by rfl) :
    PId X E tg (.Call (.Name "range" p) [a, b] [] pos) (iRng2D ta) :=
  ⟨PI.imp (pi_range2 hg hm ha.run hs hs2) fun σ H R h => by
  obtain ⟨ρ, η, G, Qd, Ed, he, w, ht, hq, hE⟩ := h
  refine ⟨ρ, η, G, _, Ed, he, w, ht, fun ds G1 vs η1 H1 s1 w1 r1 q1 => ?_, hE⟩
  split at q1
  · rename_i i j
    obtain ⟨v, _, rfl, r1, u, _, rfl, r2, rfl⟩ := r1
    refine ⟨i, j, by rw [show v = .int i from r1, show u = .int j from r2], q1.1, hq _ G1 _ η1 H1 s1 w1 itr_ok q1.2⟩
  · exact q1.elim⟩
end

def forL (g : TGd) (tb : TSd) (D : EndsD) : List Y.D → Rho → GS → Prop
  | [], ρ, G => D.nx ρ G
  | d :: ds, ρ, G => g d ρ G fun ρ2 G2 => tb { D with nx := forL g tb D ds, ct := forL g tb D ds, bk := D.nx } ρ2 G2
def tForD (wi : TId) (g : TGd) (tb : TSd) : TSd := fun D ρ G => wi ρ G (fun ds G1 => forL g tb D ds ρ G1) (fun e G1 => D.er e ρ G1)
theorem drop_cons {α : Type} {l : List α} {i : Nat} {d : α} (h : l[i]? = some d) : l.drop i = d :: l.drop (i + 1) := by
  obtain ⟨hi, e⟩ := List.getElem?_eq_some_iff.mp h
  rw [List.drop_eq_getElem_cons hi, e]
theorem psd_for {X : Cx} {E : St → XK} {tg iter : Expr} {body : List Stmt} {wi : TId} {g : TGd} {tb : TSd} {pos : Pos} (hp : PassesOwn (model X.prog X.w) X.A X.env X.xe) (hc : X.calm = true) (hi : PId X E tg iter wi) (hg : PGd X tg g) (hb : PSsd X E body tb)
    (hs : ∀ x, foldedSetIterable iter X.env x = pure x := by intro _; rfl) : PSd X E (.For tg iter body [] pos) (tForD wi g tb) :=
  ⟨PS.imp (ps_for hp hc hi.run hg.run hb.run hs) fun D σ H h => by
  obtain ⟨ρ, η, G, Dd, he, w, ht, l⟩ := h
  refine ⟨ρ, η, G, _, _, he, w, ht, fun ds G1 J η1 H1 s1 w1 it q1 => ?_, l.le he⟩
  refine ⟨fun i m σ' H' => ∃ ρ' η' G', Stp η1 H1 η' H' ∧ W X.K X.mg η' G' H' ∧ EnvR X.K η' H' σ' ρ' ∧ i ≤ ds.length ∧ m = ds.length - i ∧ forL g tb Dd (ds.drop i) ρ' G',
    ⟨_, ρ, η1, G1, Stp.refl _ _, w1, he.step s1, Nat.zero_le _, rfl, by simpa using q1⟩, ?_⟩
  rintro i m σ' H' ⟨ρ', η', G', s', w', e', hle, rfl, q'⟩
  obtain ⟨i1, i2, i3⟩ := it η' H' i s'.w
  by_cases hi : i < ds.length
  · right
    refine ⟨i1 hi, fun σ2 H2 => ∃ ρ2 η2 G2, Stp η1 H1 η2 H2 ∧ W X.K X.mg η2 G2 H2 ∧ EnvR X.K η2 H2 σ2 ρ2 ∧ forL g tb Dd (ds.drop (i + 1)) ρ2 G2, ?_, ?_⟩
    · rintro σ2 H2 ⟨ρ2, η2, G2, s2, w2, e2, q2⟩
      exact ⟨_, by omega, ρ2, η2, G2, s2, w2, e2, hi, rfl, q2⟩
    · intro x H'' y
      obtain ⟨d, hd, st, ww, rx⟩ := i3 x H'' y hi
      rw [drop_cons hd] at q'
      refine ⟨d, ρ', η', G', _, rx, e'.step st, ww G' w', q', fun ρ2 G2 σ2 η2 H2 s2 w2 e2 q2 => ?_⟩
      have sAll := s1.trans (s'.trans (st.trans s2))
      have s12 := s'.trans (st.trans s2)
      refine ⟨ρ2, η2, G2, _, e2, w2, q2, ?_, l.rt.step sAll, ?_, ?_, ?_⟩
      · intro ρ3 G3 σ3 η3 H3 s3 w3 e3 q3
        exact ⟨ρ3, η3, G3, s12.trans s3, w3, e3, q3⟩
      · intro ρ3 G3 σ3 η3 H3 s3 w3 e3 q3
        exact l.nx ρ3 G3 σ3 η3 H3 (sAll.trans s3) w3 e3 q3
      · intro ρ3 G3 σ3 η3 H3 s3 w3 e3 q3
        exact ⟨ρ3, η3, G3, s12.trans s3, w3, e3, q3⟩
      · intro e3 ρ3 G3 σ3 cls od η3 H3 s3
        exact l.er e3 ρ3 G3 σ3 cls od η3 H3 (sAll.trans s3)
  · left
    refine ⟨i2 (by omega), ?_⟩
    rw [List.drop_eq_nil_of_le (by omega)] at q'
    exact l.nx ρ' G' σ' η' H' (s1.trans s') w' e' q'⟩

def whileN (c : TTd) (tb : TSd) (D : EndsD) : Nat → Rho → GS → Prop
  | 0, _, _ => False
  | n + 1, ρ, G => c ρ G (fun b G1 => if b = true then tb { D with nx := whileN c tb D n, ct := whileN c tb D n, bk := D.nx } ρ G1 else D.nx ρ G1) (fun e G1 => D.er e ρ G1)
def tWhileD (c : TTd) (tb : TSd) : TSd := fun D ρ G => ∃ n, whileN c tb D n ρ G
theorem psd_while {X : Cx} {E : St → XK} {c : Expr} {body : List Stmt} {tc : TTd} {tb : TSd} {pos : Pos} (hp : PassesOwn (model X.prog X.w) X.A X.env X.xe) (hc : PTd X E c tc) (hb : PSsd X E body tb) : PSd X E (.While c body [] pos) (tWhileD tc tb) :=
  ⟨PS.imp (ps_while hp hc.run hb.run) fun D σ H h => by
  obtain ⟨ρ, η, G, Dd, he, w, ⟨n, ht⟩, l⟩ := h
  refine ⟨fun m σ' H' => ∃ ρ' η' G', Stp η H η' H' ∧ W X.K X.mg η' G' H' ∧ EnvR X.K η' H' σ' ρ' ∧ whileN tc tb Dd m ρ' G', ⟨n, ρ, η, G, Stp.refl _ _, w, he, ht⟩, ?_⟩
  rintro m σ' H' ⟨ρ', η', G', s', w', e', q'⟩
  cases m with
  | zero => exact q'.elim
  | succ m =>
    refine ⟨ρ', η', G', _, _, e', w', q', fun b G1 η1 H1 s1 w1 q1 => ?_, ?_⟩
    · cases b with
      | true =>
        rw [if_pos rfl] at q1 ⊢
        refine ⟨fun σ2 H2 => ∃ ρ2 η2 G2, Stp η H η2 H2 ∧ W X.K X.mg η2 G2 H2 ∧ EnvR X.K η2 H2 σ2 ρ2 ∧ whileN tc tb Dd m ρ2 G2, ?_, ?_⟩
        · rintro σ2 H2 q2
          exact ⟨m, by omega, q2⟩
        · have sAll := s'.trans s1
          refine ⟨ρ', η1, G1, _, e'.step s1, w1, q1, ?_, l.rt.step sAll, ?_, ?_, ?_⟩
          · intro ρ3 G3 σ3 η3 H3 s3 w3 e3 q3
            exact ⟨ρ3, η3, G3, sAll.trans s3, w3, e3, q3⟩
          · intro ρ3 G3 σ3 η3 H3 s3 w3 e3 q3
            exact l.nx ρ3 G3 σ3 η3 H3 (sAll.trans s3) w3 e3 q3
          · intro ρ3 G3 σ3 η3 H3 s3 w3 e3 q3
            exact ⟨ρ3, η3, G3, sAll.trans s3, w3, e3, q3⟩
          · intro e3 ρ3 G3 σ3 cls od η3 H3 s3
            exact l.er e3 ρ3 G3 σ3 cls od η3 H3 (sAll.trans s3)
      | false =>
        rw [if_neg (by decide)] at q1 ⊢
        exact l.nx ρ' G1 σ' η1 H1 (s'.trans s1) w1 (e'.step s1) q1
    · exact (l.step s').le e'⟩

def startD (n : Nat) (ds : List D) : Rho := ds.map some ++ List.replicate (n - ds.length) none
theorem envR_start {K : PySem.W.Frag} {η : Eta} {H : Hp} {N : List Str} {ds : List D} {vs : List V} (r : RpL K η H ds vs) : EnvR K η H (L2.start N vs) (startD N.length ds) := by
  refine ⟨by simp [L2.start, startD, r.length], fun i d e => ?_⟩
  unfold startD at e
  by_cases hi : i < ds.length
  · rw [List.getElem?_append_left (by simpa using hi), List.getElem?_map] at e
    cases q : ds[i]? with
    | none => rw [q] at e; simp at e
    | some x =>
      rw [q] at e
      simp at e
      subst e
      obtain ⟨v, hv, hr⟩ := r.get q
      refine ⟨v, ?_, hr⟩
      unfold L2.start
      rw [List.getElem?_append_left (by rw [List.length_map]; exact (List.getElem?_eq_some_iff.mp hv).1), List.getElem?_map, hv]
      rfl
  · rw [List.getElem?_append_right (by simpa using Nat.le_of_not_lt hi)] at e
    have := List.mem_of_getElem? e
    have := List.eq_of_mem_replicate this
    cases this
def belowE (n : Nat) (e : Er) : Prop := ∀ f d, e.arg = some (f, d) → below n d = true
/-- no older thing is written; what is made is dropped -/
def GrewFrom (G G' : GS) : Prop := ∃ L, G' = G ++ L
def endsF (G : GS) (Qd : QD) (Ed : QE) : EndsD where
  nx := fun _ G' => GrewFrom G G' ∧ Qd .non G
  rt := fun d G' => GrewFrom G G' ∧ below G.length d = true ∧ Qd d G
  er := fun e _ G' => GrewFrom G G' ∧ belowE G.length e ∧ Ed e G
section
variable {K : PySem.W.Frag} {mg : Str → Option Value} {η η' : Eta} {H H' : Hp} {G G' : GS} {L : GS}
/-- the numbers in older things are old -/
theorem Rp.below : ∀ (d : D) (v : V), Rp K η H d v → Y.below η.o.length d = true := by
  intro d
  induction d using D.rec (motive_2 := fun ds => ∀ vs, RpL K η H ds vs → belowL η.o.length ds = true) with
  | non => intro v h; rfl
  | bl b => intro v h; rfl
  | int i => intro v h; rfl
  | str s => intro v h; rfl
  | tup ds ih => intro v h; obtain ⟨a, vs, _, _, r⟩ := h; exact ih vs r
  | lst ds ih => intro v h; obtain ⟨a, vs, _, _, _, r⟩ := h; exact ih vs r
  | obj k =>
    intro v h
    obtain ⟨a, _, h⟩ := h
    have : k < η.o.length := by rcases h with h | h <;> exact (List.getElem?_eq_some_iff.mp h).1
    exact decide_eq_true this
  | dct => intro v h; rfl
  | scr ns => intro v h; rfl
  | key ns => intro v h; rfl
  | exn a dd f d ih => intro v h; obtain ⟨e, u, hd, r⟩ := h; exact ih u r
  | nil => intros; rfl
  | cons d ds i1 i2 =>
    rename_i vs h
    obtain ⟨v, r, e, h1, h2⟩ := h
    show (Y.below η.o.length d && belowL η.o.length ds) = true
    rw [i1 v h1, i2 r h2]; rfl
theorem RpL.below : ∀ (ds : List D) (vs : List V), RpL K η H ds vs → belowL η.o.length ds = true
  | [], _, _ => rfl
  | d :: ds, vs, h => by
    obtain ⟨v, r, e, h1, h2⟩ := h
    show (Y.below η.o.length d && belowL η.o.length ds) = true
    rw [Rp.below d v h1, RpL.below ds r h2]; rfl
theorem FsR.below : ∀ (ds : List (Str × D)) (vs : List (Str × V)), FsR K η H ds vs → belowL η.o.length (ds.map (·.2)) = true
  | [], _, _ => rfl
  | (f, d) :: ds, vs, h => by
    obtain ⟨v, r, e, h1, h2⟩ := h
    show (Y.below η.o.length d && belowL η.o.length (ds.map (·.2))) = true
    rw [Rp.below d v h1, FsR.below ds r h2]; rfl
theorem W.grew (w : W K mg η G H) (w' : W K mg η' (G ++ L) H') (s : Stp η H η' H') : W K mg (η'.cut η.o.length) G H' := by
  have hall : ((G ++ L).take η.o.length).all (belowM η.o.length) = true := by
    rw [w.len, List.take_left' rfl, List.all_eq_true]
    intro m hm
    obtain ⟨k, hk⟩ := List.mem_iff_getElem?.mp hm
    have q := w.at_ k m hk
    rw [← w.len]
    cases m with
    | dead => rfl
    | lst ds => obtain ⟨a, vs, _, _, r⟩ := q; exact RpL.below ds vs r
    | rnd => rfl
    | dic kvs => rfl
    | dik kvs => rfl
    | dil u kvs => rfl
    | exc c => rfl
    | exi c f d => obtain ⟨a, C, dx, v, _, _, _, _, _, r⟩ := q; exact Rp.below d v r
    | ins c fs => obtain ⟨a, C, dx, vs, _, _, _, r⟩ := q; exact FsR.below fs vs r
  have := w'.cut (n := η.o.length) hall
  rw [w.len, List.take_left' rfl, ← w.len] at this
  exact this
end
theorem fnD {P : Program} {w : World} {K : PySem.W.Frag} {mg : Str → Option Value} {base : Heap} {x qual : Str} {st : Stmt} {f : Addr} {fd : FuncData} {N ps : List Str} {k : Nat} {sp : SpD} {t : TSd} (F : Fun K x qual st f fd) (S : FnScope N ps (defScope st))
    (len : ∀ ds G Q E, sp ds G Q E → ds.length = ps.length)
    (hbody : ∀ (cdv : Value) (A : Around) (outer : List Env) (s : Shared) (H : Hp) (E : XK), Room k (A.deeper (envOfC qual (defScope st) s.heap.objs.size f cdv)) →
      PSsd (cxOf (L2.CX P w) P w K mg base N qual (defScope st) f cdv A outer s H E) (fun _ => E) (defBody st) t)
    (sem : ∀ ds G Q E, sp ds G Q E → t (endsF G Q E) (startD N.length ds) G) : FnOk P w K mg base (L2.CX P w) (k + 1) f fd ps (liftSp K mg sp) := by
  refine F.okX S (fun vs H Q E h => ?_) fun cdv A outer s H vs Q E hr h => ⟨_, (hbody cdv A outer s H E hr).run, ?_⟩
  · obtain ⟨ds, η, G, Qd, Ed, r, _, h, _⟩ := h
    rw [← r.length]; exact len _ _ _ _ h
  · obtain ⟨ds, η, G, Qd, Ed, r, w0, h, hq, hE⟩ := h
    refine ⟨_, η, G, endsF G Qd Ed, envR_start r, w0, sem ds G Qd Ed h, ?_, ?_, ?_, ?_, ?_⟩
    · rintro ρ' G' σ' η' H' s' w' e' ⟨⟨L, rfl⟩, q⟩
      exact hq .non G .non _ _ s'.cut (w0.grew w' s') rfl q
    · rintro d G' v η' H' s' w' r' ⟨⟨L, rfl⟩, b, q⟩
      rw [← w0.len] at b
      exact hq d G v _ _ s'.cut (w0.grew w' s') (Rp.cut d v b r') q
    · intro ρ' G' σ' η' H' s' w' e' q; exact q.elim
    · intro ρ' G' σ' η' H' s' w' e' q; exact q.elim
    · rintro e ρ' G' σ' cls od η' H' s' w' e' r' ⟨⟨L, rfl⟩, b, q⟩
      refine hE e G cls od _ _ s'.cut (w0.grew w' s') ?_ q
      obtain ⟨C, h1, h2, h3⟩ := r'
      refine ⟨C, h1, h2, fun f d ea => ?_⟩
      obtain ⟨dd, v, e1, e2, r2⟩ := h3 f d ea
      have b' := b f d ea
      rw [← w0.len] at b'
      exact ⟨dd, v, e1, e2, Rp.cut d v b' r2⟩
end Y

namespace Y
open PySem PySem.Spec L2
open PyProof.Rows hiding St

mutual
def toPy : D → PyData
  | .non => .none
  | .bl b => .bool b
  | .int i => .int i
  | .str s => .str s
  | .tup ds => .tuple (toPyL ds)
  | .lst ds => .list (toPyL ds)
  | .obj _ => .none
  | .dct => .none
  | .scr _ => .none
  | .key _ => .none
  | .exn _ _ _ _ => .none
def toPyL : List D → List PyData
  | [] => []
  | d :: ds => toPy d :: toPyL ds
end
mutual
def noObj : D → Bool
  | .tup ds => noObjL ds
  | .lst ds => noObjL ds
  | .obj _ => false
  | .dct => false
  | .scr _ => false
  | .key _ => false
  | .exn _ _ _ _ => false
  | _ => true
def noObjL : List D → Bool
  | [] => true
  | d :: ds => noObj d && noObjL ds
end
/-- a numbered list as the list that it is now -/
def vw (G : GS) : D → D
  | .obj k => match G[k]? with | some (.lst ds) => .lst ds | _ => .obj k
  | d => d
def okD (d : D) : Bool := noObj d && SeqAt.shaped (toPy d)
def eqD (a b : D) : Bool := PyData.eqv (toPy a) (toPy b)
theorem toPyL_map (ds : List D) : toPyL ds = ds.map toPy := by
  induction ds with
  | nil => rfl
  | cons d ds ih => simp [toPyL, ih]
section
variable {K : PySem.W.Frag} {mg : Str → Option Value} {η : Eta} {H : Hp} {G : GS}
mutual
theorem Rp.dp : ∀ (d : D) (v : V), noObj d = true → Rp K η H d v → Dp K H v (toPy d)
  | .non, v, _, h => by cases (show v = .non from h); exact .non
  | .bl b, v, _, h => by cases (show v = .bl b from h); exact .bl b
  | .int i, v, _, h => by cases (show v = .int i from h); exact .int i
  | .str s, v, _, h => by cases (show v = .str s from h); exact .str s
  | .tup ds, v, n, h => by
    obtain ⟨a, vs, e, ht, hr⟩ := h
    subst e
    exact .tup ht (RpL.dp ds vs n hr)
  | .lst ds, v, n, h => by
    obtain ⟨a, vs, e, _, hl, hr⟩ := h
    subst e
    exact .lst (SqL.of hl) (RpL.dp ds vs n hr)
  | .obj k, v, n, h => by cases n
  | .dct, v, n, h => by cases n
  | .scr _, v, n, h => by cases n
  | .key _, v, n, h => by cases n
  | .exn _ _ _ _, v, n, h => by cases n
theorem RpL.dp : ∀ (ds : List D) (vs : List V), noObjL ds = true → RpL K η H ds vs → DpAll K H vs (toPyL ds)
  | [], _, _, h => by cases h; exact .nil
  | d :: ds, vs, n, h => by
    obtain ⟨v, r, e, h1, h2⟩ := h
    subst e
    have n' : noObj d = true ∧ noObjL ds = true := by
      have : (noObj d && noObjL ds) = true := n
      simpa using this
    exact .cons (Rp.dp d v n'.1 h1) (RpL.dp ds r n'.2 h2)
end
theorem vw_obj {k : Nat} : (∃ ds, G[k]? = some (.lst ds) ∧ vw G (.obj k) = .lst ds) ∨ vw G (.obj k) = .obj k := by
  cases h : G[k]? with
  | none => right; simp only [vw, h]
  | some m => cases m with
    | lst ds => left; exact ⟨ds, rfl, by simp only [vw, h]⟩
    | _ => right; simp only [vw, h]
theorem vw_dp (w : W K mg η G H) {d : D} {v : V} (n : noObj (vw G d) = true) (r : Rp K η H d v) : Dp K H v (toPy (vw G d)) := by
  cases d with
  | obj k =>
    rcases vw_obj (G := G) (k := k) with ⟨ds, hk, e⟩ | e
    · rw [e] at n ⊢
      obtain ⟨a, vs, e1, e2, r2⟩ := w.at_ k _ hk
      obtain ⟨b, rfl, h⟩ := r
      rw [e1] at h
      have : b = a := by
        rcases h with h | h
        · cases h; rfl
        · cases h
      subst this
      exact .lst (SqL.of e2) (RpL.dp ds vs n r2)
    · rw [e] at n; cases n
  | _ => exact Rp.dp _ _ n r
theorem okD_and {d : D} (h : okD d = true) : noObj d = true ∧ SeqAt.shaped (toPy d) = true := by
  have : (noObj d && SeqAt.shaped (toPy d)) = true := h
  simpa using this
end

theorem LQ.nb {K : PySem.W.Frag} {mg : Str → Option Value} {η : Eta} {H : Hp} {G : GS} {Qd : QD} {Q : VK} (h : LQ K mg η H Qd Q) {b : Bool} (w : W K mg η G H) (q : Qd (.bl b) G) : Q (.bl b) H := h.now (d := .bl b) w rfl q
theorem LQ.ni {K : PySem.W.Frag} {mg : Str → Option Value} {η : Eta} {H : Hp} {G : GS} {Qd : QD} {Q : VK} (h : LQ K mg η H Qd Q) {b : Int} (w : W K mg η G H) (q : Qd (.int b) G) : Q (.int b) H := h.now (d := .int b) w rfl q
theorem LQ.ns {K : PySem.W.Frag} {mg : Str → Option Value} {η : Eta} {H : Hp} {G : GS} {Qd : QD} {Q : VK} (h : LQ K mg η H Qd Q) {b : Str} (w : W K mg η G H) (q : Qd (.str b) G) : Q (.str b) H := h.now (d := .str b) w rfl q
theorem LQ.nn {K : PySem.W.Frag} {mg : Str → Option Value} {η : Eta} {H : Hp} {G : GS} {Qd : QD} {Q : VK} (h : LQ K mg η H Qd Q) (w : W K mg η G H) (q : Qd .non G) : Q .non H := h.now (d := .non) w rfl q
def rEqD : R2d := fun x y G Q => okD (vw G x) = true ∧ okD (vw G y) = true ∧ Q (.bl (eqD (vw G x) (vw G y))) G
def rNeD : R2d := fun x y G Q => okD (vw G x) = true ∧ okD (vw G y) = true ∧ Q (.bl (!eqD (vw G x) (vw G y))) G
def flatD : D → Bool
  | .non => true
  | .bl _ => true
  | .int _ => true
  | .str _ => true
  | _ => false
def inL (x : D) (ds : List D) : Bool := ds.any fun z => eqD z x
def inOk (x : D) (ds : List D) : Bool := flatD x && ds.all flatD
def rInD : R2d := fun x y G Q => match itemsD G y with
  | some ds => inOk x ds = true ∧ Q (.bl (inL x ds)) G
  | none => match x, y with
    | .str a, .str b => ∃ c, a = ⟨#[c]⟩ ∧ Q (.bl (decide (c ∈ b.cps.toList))) G
    | _, _ => False
def rNotInD : R2d := fun x y G Q => match itemsD G y with
  | some ds => inOk x ds = true ∧ Q (.bl (!inL x ds)) G
  | none => False
theorem eqV_eqD {K : PySem.W.Frag} {η : Eta} {H : Hp} {d e : D} {v u : V} (r : Rp K η H d v) (q : Rp K η H e u) (f : flatD d = true) (g : flatD e = true) : eqV v u = eqD d e := by
  cases d with
  | tup _ => simp [flatD] at f
  | lst _ => simp [flatD] at f
  | obj _ => simp [flatD] at f
  | dct => simp [flatD] at f
  | scr _ => simp [flatD] at f
  | key _ => simp [flatD] at f
  | exn _ _ _ _ => simp [flatD] at f
  | _ =>
    cases (show v = _ from r)
    cases e with
    | tup _ => simp [flatD] at g
    | lst _ => simp [flatD] at g
    | obj _ => simp [flatD] at g
    | dct => simp [flatD] at g
    | scr _ => simp [flatD] at g
    | key _ => simp [flatD] at g
    | exn _ _ _ _ => simp [flatD] at g
    | _ => cases (show u = _ from q); rfl
theorem flat_of {K : PySem.W.Frag} {η : Eta} {H : Hp} {d : D} {v : V} (r : Rp K η H d v) (f : flatD d = true) : flatV v = true := by
  cases d with
  | tup _ => simp [flatD] at f
  | lst _ => simp [flatD] at f
  | obj _ => simp [flatD] at f
  | dct => simp [flatD] at f
  | scr _ => simp [flatD] at f
  | key _ => simp [flatD] at f
  | exn _ _ _ _ => simp [flatD] at f
  | _ => cases (show v = _ from r); rfl
theorem inV_inL {K : PySem.W.Frag} {η : Eta} {H : Hp} {x : D} {u : V} (rx : Rp K η H x u) (fx : flatD x = true) : ∀ {ds : List D} {vs : List V}, RpL K η H ds vs → ds.all flatD = true → vs.all flatV = true ∧ inV u vs = inL x ds
  | [], _, h, _ => by cases h; exact ⟨rfl, rfl⟩
  | d :: ds, vs, h, f => by
    obtain ⟨v, r, e, h1, h2⟩ := h
    subst e
    have f' : flatD d = true ∧ ds.all flatD = true := by simpa using f
    obtain ⟨a, b⟩ := inV_inL rx fx h2 f'.2
    refine ⟨by simp only [List.all_cons, a, flat_of h1 f'.1]; rfl, ?_⟩
    have b' : (r.any fun y => eqV y u) = inL x ds := b
    show ((v :: r).any fun y => eqV y u) = ((d :: ds).any fun z => eqD z x)
    rw [List.any_cons, List.any_cons, b', eqV_eqD h1 rx f'.1 fx]; rfl
section
variable {X : Cx}
theorem lift_eq : LiftR X (L2.rEqD X.K) rEqD := fun η G H x y dx dy Q Qd w rx ry h hq => by
  obtain ⟨h1, h2, q⟩ := h
  exact ⟨_, _, vw_dp w (okD_and h1).1 rx, vw_dp w (okD_and h2).1 ry, (okD_and h1).2, (okD_and h2).2, hq.nb w q⟩
theorem lift_ne : LiftR X (L2.rNeD X.K) rNeD := fun η G H x y dx dy Q Qd w rx ry h hq => by
  obtain ⟨h1, h2, q⟩ := h
  exact ⟨_, _, vw_dp w (okD_and h1).1 rx, vw_dp w (okD_and h2).1 ry, (okD_and h1).2, (okD_and h2).2, hq.nb w q⟩
abbrev hIn (X : Cx) : R2 := fun x y H Q => L2.rIn X.K false x y H Q ∨ (∃ (c : Nat) (z : Str), x = .str ⟨#[c]⟩ ∧ y = .str z ∧ Q (.bl (decide (c ∈ z.cps.toList))) H)
theorem oIn : OpR X (compareOp .In) (hIn X) := OpR.or op_in_seq op_in_sign
theorem lift_in : LiftR X (hIn X) rInD := fun η G H x y dx dy Q Qd w rx ry h hq => by
  unfold rInD at h
  split at h
  · rename_i ds e
    left
    obtain ⟨a, vs, rfl, hs, hr⟩ := itemsD_ok w ry e
    have f : flatD dx = true ∧ ds.all flatD = true := by simpa [inOk] using h.1
    obtain ⟨b1, b2⟩ := inV_inL rx f.1 hr f.2
    exact ⟨a, vs, rfl, hs.symm, flat_of rx f.1, b1, by rw [if_neg (by decide), b2]; exact hq.nb w h.2⟩
  · right
    split at h
    · obtain ⟨c, rfl, q⟩ := h
      exact ⟨c, _, rx, ry, hq.nb w q⟩
    · exact h.elim
theorem lift_notIn : LiftR X (L2.rIn X.K true) rNotInD := fun η G H x y dx dy Q Qd w rx ry h hq => by
  unfold rNotInD at h
  split at h
  · rename_i ds e
    obtain ⟨a, vs, rfl, hs, hr⟩ := itemsD_ok w ry e
    have f : flatD dx = true ∧ ds.all flatD = true := by simpa [inOk] using h.1
    obtain ⟨b1, b2⟩ := inV_inL rx f.1 hr f.2
    exact ⟨a, vs, rfl, hs.symm, flat_of rx f.1, b1, by rw [if_pos rfl, b2]; exact hq.nb w h.2⟩
  · exact h.elim

def rIntD (C : Int → Int → Prop) (f : Int → Int → D) : R2d := fun x y G Q => match x, y with | .int i, .int j => C i j ∧ Q (f i j) G | _, _ => False
def rInt0D (f : Int → Int → D) : R2d := fun x y G Q => match x, y with | .int i, .int j => Q (f i j) G | _, _ => False
theorem lift_I {C C' : Int → Int → Prop} {f : Int → Int → D} {g : Int → Int → V} (hc : ∀ i j, C i j → C' i j) (hf : ∀ i j K η H, Rp K η H (f i j) (g i j)) : LiftR X (rI C' g) (rIntD C f) := fun η G H x y dx dy Q Qd w rx ry h hq => by
  unfold rIntD at h
  split at h
  · rename_i i j
    exact ⟨i, j, rx, ry, hc i j h.1, hq.now w (hf i j _ _ _) h.2⟩
  · exact h.elim
theorem lift_I0 {f : Int → Int → D} {g : Int → Int → V} (hf : ∀ i j K η H, Rp K η H (f i j) (g i j)) : LiftR X (rI0 g) (rInt0D f) := fun η G H x y dx dy Q Qd w rx ry h hq => by
  unfold rInt0D at h
  split at h
  · rename_i i j
    exact ⟨i, j, rx, ry, hq.now w (hf i j _ _ _) h⟩
  · exact h.elim
def rSubD : R2d := rInt0D fun i j => .int (i - j)
theorem lift_sub : LiftR X (rI0 fun i j => .int (i - j)) rSubD := lift_I0 fun _ _ _ _ _ => rfl
def rModD : R2d := rIntD (fun _ j => 0 < j) fun i j => .int (i % j)
theorem lift_mod : LiftR X (rI (fun _ j => 0 < j) fun i j => .int (i % j)) rModD := lift_I (fun _ _ h => h) fun _ _ _ _ _ => rfl
/-- a factor below 2^64, or both together below a million bits -/
def MulOk (i j : Int) : Prop := CMul i j ∨ CMulW i j
abbrev hMul : R2 := fun x y H Q => rI CMul (fun i j => .int (i * j)) x y H Q ∨ rI CMulW (fun i j => .int (i * j)) x y H Q
theorem oMul : OpR X (binaryOp .Mult) hMul := OpR.or op_mul op_mulW
def rMulD : R2d := rIntD MulOk fun i j => .int (i * j)
theorem lift_mul : LiftR X hMul rMulD := fun η G H x y dx dy Q Qd w rx ry h hq => by
  unfold rMulD rIntD at h
  split at h
  · rename_i i j
    rcases h.1 with c | c
    · exact .inl ⟨i, j, rx, ry, c, hq.ni w h.2⟩
    · exact .inr ⟨i, j, rx, ry, c, hq.ni w h.2⟩
  · exact h.elim
def DivOk (i j : Int) : Prop := CDiv i j ∨ CDivW i j
abbrev hDiv : R2 := fun x y H Q => rI CDiv (fun i j => .int (i / j)) x y H Q ∨ rI CDivW (fun i j => .int (i / j)) x y H Q
theorem oDiv : OpR X (binaryOp .FloorDiv) hDiv := OpR.or op_fdiv op_fdivW
def rDivD : R2d := rIntD DivOk fun i j => .int (i / j)
theorem lift_div : LiftR X hDiv rDivD := fun η G H x y dx dy Q Qd w rx ry h hq => by
  unfold rDivD rIntD at h
  split at h
  · rename_i i j
    rcases h.1 with c | c
    · exact .inl ⟨i, j, rx, ry, c, hq.ni w h.2⟩
    · exact .inr ⟨i, j, rx, ry, c, hq.ni w h.2⟩
  · exact h.elim
def rPowD : R2d := rIntD CPow fun i j => .int (i ^ j.toNat)
theorem lift_pow : LiftR X (rI CPow fun i j => .int (i ^ j.toNat)) rPowD := lift_I (fun _ _ h => h) fun _ _ _ _ _ => rfl
def rLtD : R2d := rInt0D fun i j => .bl (decide (i < j))
theorem lift_lt : LiftR X (rI0 fun i j => .bl (decide (i < j))) rLtD := lift_I0 fun _ _ _ _ _ => rfl
def rGtD : R2d := rInt0D fun i j => .bl (decide (j < i))
theorem lift_gt : LiftR X (rI0 fun i j => .bl (decide (j < i))) rGtD := lift_I0 fun _ _ _ _ _ => rfl
def rGeD : R2d := rInt0D fun i j => .bl (decide (j ≤ i))
theorem lift_ge : LiftR X (rI0 fun i j => .bl (decide (j ≤ i))) rGeD := lift_I0 fun _ _ _ _ _ => rfl
def rLeD : R2d := rInt0D fun i j => .bl (decide (i ≤ j))
theorem lift_le : LiftR X (rI0 fun i j => .bl (decide (i ≤ j))) rLeD := lift_I0 fun _ _ _ _ _ => rfl

/-- + of ints, texts, tuples, lists -/
def rAddD : R2d := fun x y G Q => match x, y with
  | .int i, .int j => Q (.int (i + j)) G
  | .str a, .str b => a.length + b.length ≤ 16777216 ∧ Q (.str (a ++ b)) G
  | .tup a, .tup b => a.length + b.length ≤ 16777216 ∧ Q (.tup (a ++ b)) G
  | x, y => match vw G x, vw G y with | .lst a, .lst b => a.length + b.length ≤ 16777216 ∧ Q (.lst (a ++ b)) G | _, _ => False
/-- + of lists, where the sum will change -/
def rAddOD : R2d := fun x y G Q => match vw G x, vw G y with | .lst a, .lst b => a.length + b.length ≤ 16777216 ∧ Q (.obj G.length) (G ++ [.lst (a ++ b)]) | _, _ => False
abbrev hAdd (X : Cx) : R2 := fun x y H Q => rI0 (fun i j => .int (i + j)) x y H Q ∨ ((∃ i j, x = .str i ∧ y = .str j ∧ i.length + j.length ≤ sizeLine ∧ Q (.str (i ++ j)) H) ∨ (rCatA X.K x y H Q ∨ rCat x y H Q))
theorem oAdd : OpR X (binaryOp .Add) (hAdd X) := OpR.or op_add (OpR.or op_add_str (OpR.or op_catA op_cat))
theorem vw_lst {K : PySem.W.Frag} {mg : Str → Option Value} {η : Eta} {G : GS} {H : Hp} (w : W K mg η G H) {d : D} {v : V} {ds : List D} (r : Rp K η H d v) (e : vw G d = .lst ds) :
    ∃ a vs, v = .ref a ∧ H a = some (.lst vs) ∧ RpL K η H ds vs := by
  cases d with
  | lst xs =>
    obtain ⟨a, vs, e1, _, ht, hr⟩ := r
    cases e
    exact ⟨a, vs, e1, ht, hr⟩
  | obj k =>
    rcases vw_obj (G := G) (k := k) with ⟨xs, hk, e'⟩ | e'
    · rw [e'] at e
      cases e
      obtain ⟨a, vs, e1, e2, r2⟩ := w.at_ k _ hk
      obtain ⟨b, rfl, h⟩ := r
      rw [e1] at h
      have : b = a := by
        rcases h with h | h
        · cases h; rfl
        · cases h
      subst this
      exact ⟨b, vs, rfl, e2, r2⟩
    · rw [e'] at e; cases e
  | _ => cases e
theorem lift_addL {K : PySem.W.Frag} {mg : Str → Option Value} {η : Eta} {G : GS} {H : Hp} {x y : V} {dx dy : D} {Q : VK} (w : W K mg η G H) (rx : Rp K η H dx x) (ry : Rp K η H dy y) {a b : List D} (e1 : vw G dx = .lst a) (e2 : vw G dy = .lst b)
    (h1 : a.length + b.length ≤ 16777216) (h2 : ∀ vs p, RpL K η H (a ++ b) vs → H p = none → Q (.ref p) (upd H p (.lst vs))) : rCat x y H Q := by
  obtain ⟨p, vs, rfl, hp, hr⟩ := vw_lst w rx e1
  obtain ⟨q, us, rfl, hq, hs⟩ := vw_lst w ry e2
  exact ⟨p, q, vs, us, rfl, rfl, hp, hq, line_eq (by rw [← hr.length, ← hs.length]; exact h1), fun p' hp' => h2 _ p' (RpL.append hr hs) hp'⟩
theorem lift_add : LiftR X (hAdd X) rAddD := fun η G H x y dx dy Q Qd w rx ry h hq => by
  unfold rAddD at h
  split at h
  · rename_i i j
    exact .inl ⟨i, j, rx, ry, hq.ni w h⟩
  · rename_i a b
    exact .inr (.inl ⟨a, b, rx, ry, line_eq h.1, hq.ns w h.2⟩)
  · rename_i a b
    obtain ⟨p, vs, rfl, hp, hr⟩ := rx
    obtain ⟨q, us, rfl, hq', hs⟩ := ry
    have l1 := hr.length
    have l2 := hs.length
    refine .inr (.inr (.inl ⟨p, q, vs, us, rfl, rfl, hp, hq', line_eq (by omega), fun e => ?_, fun e1 e2 => ?_, fun e1 e2 p' hp' => ?_⟩))
    · subst e
      have : a = [] := by cases a with | nil => rfl | cons _ _ => simp at l1
      subst this
      exact hq.now (d := .tup b) w ⟨q, us, rfl, hq', hs⟩ h.2
    · subst e2
      have : b = [] := by cases b with | nil => rfl | cons _ _ => simp at l2
      subst this
      rw [List.append_nil] at h
      exact hq.now (d := .tup a) w ⟨p, vs, rfl, hp, hr⟩ h.2
    · exact hq.newT w hp' (RpL.append hr hs) h.2
  · split at h
    · rename_i a b e1 e2
      exact .inr (.inr (.inr (lift_addL w rx ry e1 e2 h.1 fun vs p r hp => hq.newL w hp r h.2)))
    · exact h.elim
theorem lift_addO : LiftR X (hAdd X) rAddOD := fun η G H x y dx dy Q Qd w rx ry h hq => by
  unfold rAddOD at h
  split at h
  · rename_i a b e1 e2
    exact .inr (.inr (.inr (lift_addL w rx ry e1 e2 h.1 fun vs p r hp => hq.newO w hp r h.2)))
  · exact h.elim

def isNonD : D → Bool
  | .non => true
  | _ => false
def rIsD : R2d := fun x y G Q => match y with
  | .non => Q (.bl (isNonD x)) G
  | .bl b => match x with | .bl a => Q (.bl (a == b)) G | _ => False
  | _ => False
def rIsNotD : R2d := fun x y G Q => match y with
  | .non => Q (.bl (!isNonD x)) G
  | .bl b => match x with | .bl a => Q (.bl (!(a == b))) G | _ => False
  | _ => False
abbrev hIs : R2 := fun x y H Q => (y = .non ∧ Q (.bl (decide (x = .non))) H) ∨ (∃ a b, x = .bl a ∧ y = .bl b ∧ Q (.bl (decide (a = b))) H)
abbrev hIsNot : R2 := fun x y H Q => (y = .non ∧ Q (.bl (!decide (x = .non))) H) ∨ (∃ a b, x = .bl a ∧ y = .bl b ∧ Q (.bl (!decide (a = b))) H)
theorem oIs : OpR X (compareOp .Is) hIs := OpR.or op_isN op_is_bl
theorem oIsNot : OpR X (compareOp .IsNot) hIsNot := OpR.or op_notN op_isnot_bl
theorem isNon_of {K : PySem.W.Frag} {η : Eta} {H : Hp} {d : D} {v : V} (r : Rp K η H d v) : decide (v = .non) = isNonD d := by
  cases d with
  | tup ds => obtain ⟨a, vs, rfl, _⟩ := r; rfl
  | lst ds => obtain ⟨a, vs, rfl, _⟩ := r; rfl
  | obj k => obtain ⟨a, rfl, _⟩ := r; rfl
  | dct => obtain ⟨a, rfl, _⟩ := r; rfl
  | scr _ => obtain ⟨a, rfl, _⟩ := r; rfl
  | key _ => obtain ⟨a, rfl, _⟩ := r; rfl
  | exn _ _ _ _ => obtain ⟨rfl, _⟩ := r; rfl
  | _ => cases r; rfl
theorem lift_is : LiftR X hIs rIsD := fun η G H x y dx dy Q Qd w rx ry h hq => by
  unfold rIsD at h
  split at h
  · exact .inl ⟨ry, by rw [isNon_of rx]; exact hq.nb w h⟩
  · rename_i b
    split at h
    · rename_i a
      refine .inr ⟨a, b, rx, ry, ?_⟩
      refine hq.now (d := .bl (a == b)) w ?_ h
      show V.bl (decide (a = b)) = V.bl (a == b)
      rw [Bool.beq_eq_decide_eq]
    · exact h.elim
  · exact h.elim
theorem lift_isNot : LiftR X hIsNot rIsNotD := fun η G H x y dx dy Q Qd w rx ry h hq => by
  unfold rIsNotD at h
  split at h
  · refine .inl ⟨ry, ?_⟩
    rw [isNon_of rx]
    exact hq.nb w h
  · rename_i b
    split at h
    · rename_i a
      refine .inr ⟨a, b, rx, ry, ?_⟩
      refine hq.now (d := .bl (!(a == b))) w ?_ h
      show V.bl (!decide (a = b)) = V.bl (!(a == b))
      rw [Bool.beq_eq_decide_eq]
    · exact h.elim
  · exact h.elim

def charD (s : Str) (i : Int) (Q : D → Prop) : Prop := s.length ≤ 16777216 ∧ match atI s.cps.toList i with | some c => Q (.str ⟨#[c]⟩) | none => False
def rIxD : R2d := fun x y G Q => match y with
  | .int i => match itemsD G x with
    | some ds => match atI ds i with | some d => Q d G | none => False
    | none => match x with | .str s => charD s i (fun d => Q d G) | _ => False
  | _ => False
theorem atI_rp {K : PySem.W.Frag} {η : Eta} {H : Hp} {ds : List D} {vs : List V} (r : RpL K η H ds vs) {i : Int} {d : D} (e : atI ds i = some d) : ∃ v, atI vs i = some v ∧ Rp K η H d v := by
  unfold atI at e ⊢
  rw [← r.length]
  cases q : ixN ds.length i with
  | none => rw [q] at e; simp at e
  | some j =>
    rw [q] at e
    simp only [Option.bind_some] at e ⊢
    exact r.get e
theorem lift_ix : ∀ (η : Eta) (G : GS) (H : Hp) (x y : V) (dx dy : D) (Q : VK) (Qd : QD), W X.K X.mg η G H → Rp X.K η H dx x → Rp X.K η H dy y → rIxD dx dy G Qd → LQ X.K X.mg η H Qd Q → rIx X.K x y H Q := fun η G H x y dx dy Q Qd w rx ry h hq => by
  unfold rIxD at h
  split at h
  · rename_i i
    split at h
    · rename_i ds e
      split at h
      · rename_i d ea
        obtain ⟨a, vs, rfl, hs, hr⟩ := itemsD_ok w rx e
        obtain ⟨v, e1, r1⟩ := atI_rp hr ea
        rcases hs with hs | hs
        · exact .inr (.inl ⟨a, vs, i, v, rfl, ry, hs, e1, hq.now w r1 h⟩)
        · exact .inl ⟨a, vs, i, v, rfl, ry, hs, e1, hq.now w r1 h⟩
      · exact h.elim
    · split at h
      · rename_i s _
        obtain ⟨h0, h⟩ := h
        split at h
        · rename_i c ec
          exact .inr (.inr ⟨s, i, c, rx, ry, line_eq h0, ec, hq.ns w h⟩)
        · exact h.elim
      · exact h.elim
  · exact h.elim
theorem ped_ix {E : St → XK} {a b : Expr} {ta tb : TEd} {pos : Pos} (ha : PEd X E a ta) (hb : PEd X E b tb) (hs : PlainIx b := by intro _ _; rfl) : PEd X E (.Subscript a b pos) (tOpD rIxD ta tb) :=
  ⟨PE.imp (pe_ix ix_seq ha.run hb.run hs) fun _ _ _ h => lift2 (rH := rIx X.K) lift_ix h⟩

abbrev TOd := Rho → GS → (Option Int → GS → Prop) → QE → Prop
def lO (K : PySem.W.Frag) (mg : Str → Option Value) (E : St → XK) (t : TOd) : TO := fun σ H Q =>
  ∃ (ρ : Rho) (η : Eta) (G : GS) (Qd : Option Int → GS → Prop) (Ed : QE), EnvR K η H σ ρ ∧ W K mg η G H ∧ t ρ G Qd Ed ∧
    (∀ b G' η' H', Stp η H η' H' → W K mg η' G' H' → Qd b G' → Q b H') ∧ LE K mg η H Ed (E σ)
structure POd (X : Cx) (E : St → XK) (e : Option Expr) (t : TOd) : Prop where run : PO X e (lO X.K X.mg E t)
theorem PO.imp {e : Option Expr} {t t' : TO} (h : PO X e t) (i : ∀ σ H Q, t' σ H Q → t σ H Q) : PO X e t' := ⟨fun pins s σ H Q I q => h.run pins s σ H Q I (i σ H Q q)⟩
def tNoPartD : TOd := fun _ G Q _ => Q none G
def tPartD (t : TEd) : TOd := fun ρ G Q Ed => t ρ G (fun d G1 => match d with | .int i => Q (some i) G1 | _ => False) Ed
theorem pod_none {E : St → XK} : POd X E none tNoPartD := ⟨PO.imp po_none fun σ H Q h => by
  obtain ⟨ρ, η, G, Qd, Ed, he, w, ht, hq, hE⟩ := h
  exact hq none G η H (Stp.refl _ _) w ht⟩
theorem pod_some {E : St → XK} {e : Expr} {te : TEd} (h : PEd X E e te) : POd X E (some e) (tPartD te) := ⟨PO.imp (po_some h.run) fun σ H Q h => by
  obtain ⟨ρ, η, G, Qd, Ed, he, w, ht, hq, hE⟩ := h
  refine ⟨ρ, η, G, _, Ed, he, w, ht, fun d G1 v η1 H1 s1 w1 r1 q1 => ?_, hE⟩
  cases d with
  | int i => exact ⟨i, r1, hq _ G1 η1 H1 s1 w1 q1⟩
  | _ => exact q1.elim⟩
def cutD (ds : List D) (lo hi : Option Int) : List D := (ds.drop (HT.sIx ds.length 0 lo)).take (HT.sIx ds.length ds.length hi - HT.sIx ds.length 0 lo)
theorem cut_rp {K : PySem.W.Frag} {η : Eta} {H : Hp} {ds : List D} {vs : List V} (r : RpL K η H ds vs) (lo hi : Option Int) : RpL K η H (cutD ds lo hi) (cutV vs lo hi) := by
  unfold cutD cutV
  rw [← r.length]
  exact RpL.take _ (RpL.drop _ r)
def rSlD (x : D) (lo hi : Option Int) (G : GS) (Q : QD) : Prop := match x with
  | .tup ds => Q (.tup (cutD ds lo hi)) G
  | .str s => s.length ≤ 16777216 ∧ Q (.str (cutS s lo hi)) G
  | x => match vw G x with | .lst ds => Q (.lst (cutD ds lo hi)) G | _ => False
abbrev hSl (X : Cx) : V → Option Int → Option Int → Hp → VK → Prop := fun x lo hi H Q => rSlA X.K x lo hi H Q ∨ (rSlS x lo hi H Q ∨ rSlL X.K x lo hi H Q)
theorem oSl : SlR X (hSl X) := SlR.or sl_tupA (SlR.or sl_str sl_list)
def tSlD (te : TEd) (tl th : TOd) : TEd := fun ρ G Q Ed => te ρ G (fun x G1 => tl ρ G1 (fun l G2 => th ρ G2 (fun u G3 => rSlD x l u G3 Q) Ed) Ed) Ed
theorem lift_sl {η : Eta} {G : GS} {H : Hp} {x : V} {dx : D} {lo hi : Option Int} {Q : VK} {Qd : QD} (w : W X.K X.mg η G H) (rx : Rp X.K η H dx x) (h : rSlD dx lo hi G Qd) (hq : LQ X.K X.mg η H Qd Q) : hSl X x lo hi H Q := by
  unfold rSlD at h
  split at h
  · rename_i ds
    obtain ⟨a, vs, rfl, hs, hr⟩ := rx
    have l := hr.length
    refine .inl ⟨a, vs, rfl, hs, fun c => ?_, fun c p hp => hq.newT w hp (cut_rp hr lo hi) h⟩
    have e : cutD ds lo hi = ds := by
      unfold cutD
      rw [l, c.1, c.2, ← l]
      simp
    rw [e] at h
    exact hq.now (d := .tup ds) w ⟨a, vs, rfl, hs, hr⟩ h
  · rename_i s
    exact .inr (.inl ⟨s, rx, line_eq h.1, hq.ns w h.2⟩)
  · split at h
    · rename_i ds e
      obtain ⟨a, vs, rfl, hs, hr⟩ := vw_lst w rx e
      exact .inr (.inr ⟨a, vs, rfl, SqL.of hs, fun p hp => hq.newL w hp (cut_rp hr lo hi) h⟩)
    · exact h.elim
theorem ped_slice {E : St → XK} {e : Expr} {te : TEd} {lo hi : Option Expr} {tl th : TOd} {pos p2 : Pos} (he : PEd X E e te) (hl : POd X E lo tl) (hh : POd X E hi th) : PEd X E (.Subscript e (.Slice lo hi none p2) pos) (tSlD te tl th) :=
  ⟨PE.imp (pe_slice oSl he.run hl.run hh.run) fun σ H Q h => by
  obtain ⟨ρ, η, G, Qd, Ed, he, w, ht, hq, hE⟩ := h
  refine ⟨ρ, η, G, _, Ed, he, w, ht, fun x G1 v η1 H1 s1 w1 r1 q1 => ?_, hE⟩
  refine ⟨ρ, η1, G1, _, Ed, he.step s1, w1, q1, fun l G2 η2 H2 s2 w2 q2 => ?_, hE.step s1⟩
  refine ⟨ρ, η2, G2, _, Ed, he.step (s1.trans s2), w2, q2, fun u G3 η3 H3 s3 w3 q3 => ?_, hE.step (s1.trans s2)⟩
  exact lift_sl w3 (Rp.step (s2.trans s3) _ _ r1) q3 (hq.step (s1.trans (s2.trans s3)))⟩
end
end Y

namespace Y
open PySem PySem.Spec L2
open PyProof.Rows hiding St

section
variable {X : Cx}
theorem rpl1 {K : PySem.W.Frag} {η : Eta} {H : Hp} {d : D} {vs : List V} (h : RpL K η H [d] vs) : ∃ v, vs = [v] ∧ Rp K η H d v := by
  obtain ⟨v, r, e, h1, h2⟩ := h
  cases h2
  exact ⟨v, e, h1⟩
theorem rpl2 {K : PySem.W.Frag} {η : Eta} {H : Hp} {d e : D} {vs : List V} (h : RpL K η H [d, e] vs) : ∃ v u, vs = [v, u] ∧ Rp K η H d v ∧ Rp K η H e u := by
  obtain ⟨v, r, e, h1, h2⟩ := h
  obtain ⟨u, e2, h3⟩ := rpl1 h2
  subst e2
  exact ⟨v, u, e, h1, h3⟩
/-- len -/
def rLenD : List D → GS → QD → Prop := fun ds G Q => match ds with
  | [d] => match itemsD G d with
    | some xs => Q (.int xs.length) G
    | none => match d with | .str s => s.length ≤ 16777216 ∧ Q (.int s.length) G | _ => False
  | _ => False
theorem lift_len : LiftC X (fun xs H Q => ∃ x n, xs = [x] ∧ LenV X.K x H n ∧ Q (.int n) H) rLenD := fun η G H vs ds Q Qd w r h hq => by
  unfold rLenD at h
  split at h
  · rename_i d
    obtain ⟨v, rfl, r1⟩ := rpl1 r
    split at h
    · rename_i xs e
      obtain ⟨a, us, rfl, hs, hr⟩ := itemsD_ok w r1 e
      refine ⟨_, us.length, rfl, ?_, by rw [← hr.length]; exact hq.ni w h⟩
      rcases hs with hs | hs
      · exact .inr ⟨us, hs, rfl⟩
      · exact .inl ⟨us, hs, rfl⟩
    · split at h
      · rename_i s _
        cases (show v = .str s from r1)
        exact ⟨_, s.length, rfl, ⟨line_eq h.1, rfl⟩, hq.ni w h.2⟩
      · exact h.elim
  · exact h.elim
/-- abs, int of an int -/
def rAbsD : List D → GS → QD → Prop := fun ds G Q => match ds with | [.int i] => Q (.int (if i < 0 then -i else i)) G | _ => False
theorem lift_abs : LiftC X (fun xs H Q => ∃ i, xs = [.int i] ∧ Q (.int (if i < 0 then -i else i)) H) rAbsD := fun η G H vs ds Q Qd w r h hq => by
  unfold rAbsD at h
  split at h
  · rename_i i
    obtain ⟨v, rfl, r1⟩ := rpl1 r
    exact ⟨i, by rw [show v = .int i from r1], hq.ni w h⟩
  · exact h.elim
abbrev hInt : List V → Hp → VK → Prop := fun xs H Q => ((∃ i, xs = [.int i] ∧ Q (.int i) H) ∨ ∃ k, xs = [.bl k] ∧ Q (.int (if k then 1 else 0)) H) ∨ (∃ a n, xs = [.str a] ∧ PySem.intText? a = some n ∧ a.length ≤ 640 ∧ Q (.int n) H)
theorem oInt : CallR X (.type "int") hInt := CallR.or call_int1 call_int_str
def rIntCD : List D → GS → QD → Prop := fun ds G Q => match ds with
  | [.int i] => Q (.int i) G
  | [.str s] => s.length ≤ 640 ∧ match PySem.intText? s with | some n => Q (.int n) G | none => False
  | _ => False
theorem lift_int : LiftC X hInt rIntCD := fun η G H vs ds Q Qd w r h hq => by
  unfold rIntCD at h
  split at h
  · rename_i i
    obtain ⟨v, rfl, r1⟩ := rpl1 r
    exact .inl (.inl ⟨i, by rw [show v = .int i from r1], hq.ni w h⟩)
  · rename_i s
    obtain ⟨v, rfl, r1⟩ := rpl1 r
    obtain ⟨h0, h⟩ := h
    split at h
    · rename_i n en
      exact .inr ⟨s, n, by rw [show v = .str s from r1], en, h0, hq.ni w h⟩
    · exact h.elim
  · exact h.elim
/-- str of an int -/
def rStrD : List D → GS → QD → Prop := fun ds G Q => match ds with | [.int i] => i.natAbs.log2 < 1920 ∧ Q (.str (toString i)) G | _ => False
theorem lift_str : LiftC X (fun xs H Q => ∃ i, xs = [.int i] ∧ i.natAbs.log2 < 1920 ∧ Q (.str (toString i)) H) rStrD := fun η G H vs ds Q Qd w r h hq => by
  unfold rStrD at h
  split at h
  · rename_i i
    obtain ⟨v, rfl, r1⟩ := rpl1 r
    exact ⟨i, by rw [show v = .int i from r1], h.1, hq.ns w h.2⟩
  · exact h.elim
/-- list, tuple of a list or a tuple -/
def rListD : List D → GS → QD → Prop := fun ds G Q => match ds with
  | [d] => match itemsD G d with | some xs => Q (.lst xs) G | none => False
  | _ => False
def rListOD : List D → GS → QD → Prop := fun ds G Q => match ds with
  | [d] => match itemsD G d with | some xs => Q (.obj G.length) (G ++ [.lst xs]) | none => False
  | _ => False
def rTupleD : List D → GS → QD → Prop := fun ds G Q => match ds with
  | [d] => match itemsD G d with | some xs => Q (.tup xs) G | none => False
  | _ => False
abbrev hList (X : Cx) : List V → Hp → VK → Prop := fun xs H Q => ∃ p ys, xs = [.ref p] ∧ (SqL X.K H p ys ∨ SqT X.K H p ys) ∧ ∀ l, H l = none → Q (.ref l) (upd H l (.lst ys))
theorem lift_list : LiftC X (hList X) rListD := fun η G H vs ds Q Qd w r h hq => by
  unfold rListD at h
  split at h
  · rename_i d
    obtain ⟨v, rfl, r1⟩ := rpl1 r
    split at h
    · rename_i xs e
      obtain ⟨a, us, rfl, hs, hr⟩ := itemsD_ok w r1 e
      exact ⟨a, us, rfl, hs.symm, fun l hl => hq.newL w hl hr h⟩
    · exact h.elim
  · exact h.elim
theorem lift_listO : LiftC X (hList X) rListOD := fun η G H vs ds Q Qd w r h hq => by
  unfold rListOD at h
  split at h
  · rename_i d
    obtain ⟨v, rfl, r1⟩ := rpl1 r
    split at h
    · rename_i xs e
      obtain ⟨a, us, rfl, hs, hr⟩ := itemsD_ok w r1 e
      exact ⟨a, us, rfl, hs.symm, fun l hl => hq.newO w hl hr h⟩
    · exact h.elim
  · exact h.elim
abbrev hTuple (X : Cx) : List V → Hp → VK → Prop := fun xs H Q => ∃ p ys, xs = [.ref p] ∧ ((SqL X.K H p ys ∧ ∀ l, H l = none → Q (.ref l) (upd H l (.tup ys))) ∨ (SqT X.K H p ys ∧ Q (.ref p) H))
theorem lift_tuple : LiftC X (hTuple X) rTupleD := fun η G H vs ds Q Qd w r h hq => by
  unfold rTupleD at h
  split at h
  · rename_i d
    obtain ⟨v, rfl, r1⟩ := rpl1 r
    split at h
    · rename_i xs e
      obtain ⟨a, us, rfl, hs, hr⟩ := itemsD_ok w r1 e
      rcases hs with hs | hs
      · exact ⟨a, us, rfl, .inr ⟨hs, hq.now (d := .tup xs) w ⟨a, us, rfl, hs, hr⟩ h⟩⟩
      · exact ⟨a, us, rfl, .inl ⟨hs, fun l hl => hq.newT w hl hr h⟩⟩
    · exact h.elim
  · exact h.elim
/-- the ints of a row, if it is one of ints -/
def intsD : List D → Option (List Int)
  | [] => some []
  | .int i :: ds => (intsD ds).map (i :: ·)
  | _ :: _ => none
theorem intsD_map (ns : List Int) : intsD (ns.map .int) = some ns := by
  induction ns with
  | nil => rfl
  | cons n ns ih => simp [intsD, ih]
theorem intsD_eq : ∀ {ds : List D} {ns : List Int}, intsD ds = some ns → ds = ns.map .int
  | [], ns, h => by cases h; rfl
  | .int i :: ds, ns, h => by
    simp only [intsD] at h
    cases q : intsD ds with
    | none => rw [q] at h; cases h
    | some ms =>
      rw [q] at h
      cases h
      rw [intsD_eq q]; rfl
  | .non :: ds, ns, h => by cases h
  | .bl _ :: ds, ns, h => by cases h
  | .str _ :: ds, ns, h => by cases h
  | .tup _ :: ds, ns, h => by cases h
  | .lst _ :: ds, ns, h => by cases h
  | .obj _ :: ds, ns, h => by cases h
  | .dct :: ds, ns, h => by cases h
  | .scr _ :: ds, ns, h => by cases h
  | .key _ :: ds, ns, h => by cases h
  | .exn _ _ _ _ :: ds, ns, h => by cases h
theorem intsD_sql {K : PySem.W.Frag} {mg : Str → Option Value} {η : Eta} {G : GS} {H : Hp} (w : W K mg η G H) {d : D} {v : V} {xs : List D} {ns : List Int} (r : Rp K η H d v) (e : itemsD G d = some xs) (en : intsD xs = some ns) :
    ∃ a, v = .ref a ∧ (SqT K H a (ns.map V.int) ∨ SqL K H a (ns.map V.int)) := by
  obtain ⟨a, us, rfl, hs, hr⟩ := itemsD_ok w r e
  rw [intsD_eq en] at hr
  cases RpL.ints.mp hr
  exact ⟨a, rfl, hs⟩
/-- sum of a list of ints -/
def rSumD : List D → GS → QD → Prop := fun ds G Q => match ds with
  | [d] => match vw G d with | .lst xs => (match intsD xs with | some ns => Q (.int ns.sum) G | none => False) | _ => False
  | _ => False
theorem vwL_sql {K : PySem.W.Frag} {mg : Str → Option Value} {η : Eta} {G : GS} {H : Hp} (w : W K mg η G H) {d : D} {v : V} {xs : List D} {ns : List Int} (r : Rp K η H d v) (e : vw G d = .lst xs) (en : intsD xs = some ns) :
    ∃ a, v = .ref a ∧ SqL K H a (ns.map V.int) := by
  obtain ⟨a, us, rfl, hs, hr⟩ := vw_lst w r e
  rw [intsD_eq en] at hr
  cases RpL.ints.mp hr
  exact ⟨a, rfl, SqL.of hs⟩
theorem lift_sum : LiftC X (L2.rSum X.K) rSumD := fun η G H vs ds Q Qd w r h hq => by
  unfold rSumD at h
  split at h
  · rename_i d
    obtain ⟨v, rfl, r1⟩ := rpl1 r
    split at h
    · rename_i xs e
      split at h
      · rename_i ns en
        obtain ⟨a, rfl, hs⟩ := vwL_sql w r1 e en
        exact ⟨a, ns, rfl, hs, hq.ni w h⟩
      · exact h.elim
    · exact h.elim
  · exact h.elim
/-- max, min of a list of ints -/
def maxI : List Int → Int
  | [] => 0
  | n :: ns => ns.foldl max n
def minI : List Int → Int
  | [] => 0
  | n :: ns => ns.foldl min n
theorem foldl_max (ns : List Int) : ∀ n, (∀ y ∈ n :: ns, y ≤ ns.foldl max n) ∧ ns.foldl max n ∈ n :: ns := by
  induction ns with
  | nil => intro n; simp
  | cons m ns ih =>
    intro n
    obtain ⟨h1, h2⟩ := ih (max n m)
    simp only [List.foldl_cons]
    refine ⟨fun y hy => ?_, ?_⟩
    · have hm := h1 (max n m) List.mem_cons_self
      rcases List.mem_cons.mp hy with e | hy
      · subst e; omega
      · rcases List.mem_cons.mp hy with e | hy
        · subst e; omega
        · exact h1 y (List.mem_cons_of_mem _ hy)
    · rcases List.mem_cons.mp h2 with e | h2
      · rw [e]
        by_cases c : n ≤ m
        · rw [Int.max_eq_right c]; simp
        · rw [Int.max_eq_left (by omega)]; simp
      · exact List.mem_cons_of_mem _ (List.mem_cons_of_mem _ h2)
theorem foldl_min (ns : List Int) : ∀ n, (∀ y ∈ n :: ns, ns.foldl min n ≤ y) ∧ ns.foldl min n ∈ n :: ns := by
  induction ns with
  | nil => intro n; simp
  | cons m ns ih =>
    intro n
    obtain ⟨h1, h2⟩ := ih (min n m)
    simp only [List.foldl_cons]
    refine ⟨fun y hy => ?_, ?_⟩
    · have hm := h1 (min n m) List.mem_cons_self
      rcases List.mem_cons.mp hy with e | hy
      · subst e; omega
      · rcases List.mem_cons.mp hy with e | hy
        · subst e; omega
        · exact h1 y (List.mem_cons_of_mem _ hy)
    · rcases List.mem_cons.mp h2 with e | h2
      · rw [e]
        by_cases c : n ≤ m
        · rw [Int.min_eq_left c]; simp
        · rw [Int.min_eq_right (by omega)]; simp
      · exact List.mem_cons_of_mem _ (List.mem_cons_of_mem _ h2)
theorem maxI_spec {ns : List Int} (h : ns ≠ []) : (∀ y ∈ ns, y ≤ maxI ns) ∧ maxI ns ∈ ns := by
  cases ns with
  | nil => exact absurd rfl h
  | cons n ns => exact foldl_max ns n
theorem minI_spec {ns : List Int} (h : ns ≠ []) : (∀ y ∈ ns, minI ns ≤ y) ∧ minI ns ∈ ns := by
  cases ns with
  | nil => exact absurd rfl h
  | cons n ns => exact foldl_min ns n
def rMaxD : List D → GS → QD → Prop := fun ds G Q => match ds with
  | [d] => match vw G d with | .lst xs => (match intsD xs with | some ns => ns ≠ [] ∧ Q (.int (maxI ns)) G | none => False) | _ => False
  | _ => False
theorem lift_max : LiftC X (L2.rMax X.K) rMaxD := fun η G H vs ds Q Qd w r h hq => by
  unfold rMaxD at h
  split at h
  · rename_i d
    obtain ⟨v, rfl, r1⟩ := rpl1 r
    split at h
    · rename_i xs e
      split at h
      · rename_i ns en
        obtain ⟨a, rfl, hs⟩ := vwL_sql w r1 e en
        refine ⟨a, ns, rfl, hs, by cases ns with | nil => exact absurd rfl h.1 | cons _ _ => simp, fun m hm hb => ?_⟩
        obtain ⟨h1, h2⟩ := maxI_spec h.1
        have : m = maxI ns := Int.le_antisymm (h1 m hm) (hb _ h2)
        rw [this]
        exact hq.ni w h.2
      · exact h.elim
    · exact h.elim
  · exact h.elim
def rMinID : List D → GS → QD → Prop := fun ds G Q => match ds with
  | [d] => match vw G d with | .lst xs => (match intsD xs with | some ns => ns ≠ [] ∧ Q (.int (minI ns)) G | none => False) | _ => False
  | _ => False
theorem lift_minI : LiftC X (L2.rMin X.K) rMinID := fun η G H vs ds Q Qd w r h hq => by
  unfold rMinID at h
  split at h
  · rename_i d
    obtain ⟨v, rfl, r1⟩ := rpl1 r
    split at h
    · rename_i xs e
      split at h
      · rename_i ns en
        obtain ⟨a, rfl, hs⟩ := vwL_sql w r1 e en
        refine ⟨a, ns, rfl, hs, by cases ns with | nil => exact absurd rfl h.1 | cons _ _ => simp, fun m hm hb => ?_⟩
        obtain ⟨h1, h2⟩ := minI_spec h.1
        have : m = minI ns := Int.le_antisymm (hb _ h2) (h1 m hm)
        rw [this]
        exact hq.ni w h.2
      · exact h.elim
    · exact h.elim
  · exact h.elim
/-- any, all of a list of bools -/
def blsD : List D → Option (List Bool)
  | [] => some []
  | .bl i :: ds => (blsD ds).map (i :: ·)
  | _ :: _ => none
theorem blsD_map (ns : List Bool) : blsD (ns.map .bl) = some ns := by
  induction ns with
  | nil => rfl
  | cons n ns ih => simp [blsD, ih]
theorem blsD_eq : ∀ {ds : List D} {ns : List Bool}, blsD ds = some ns → ds = ns.map .bl
  | [], ns, h => by cases h; rfl
  | .bl i :: ds, ns, h => by
    simp only [blsD] at h
    cases q : blsD ds with
    | none => rw [q] at h; cases h
    | some ms =>
      rw [q] at h
      cases h
      rw [blsD_eq q]; rfl
  | .non :: ds, ns, h => by cases h
  | .int _ :: ds, ns, h => by cases h
  | .str _ :: ds, ns, h => by cases h
  | .tup _ :: ds, ns, h => by cases h
  | .lst _ :: ds, ns, h => by cases h
  | .obj _ :: ds, ns, h => by cases h
  | .dct :: ds, ns, h => by cases h
  | .scr _ :: ds, ns, h => by cases h
  | .key _ :: ds, ns, h => by cases h
  | .exn _ _ _ _ :: ds, ns, h => by cases h
theorem RpL.bls {K : PySem.W.Frag} {η : Eta} {H : Hp} : ∀ {ns : List Bool} {vs : List V}, RpL K η H (ns.map D.bl) vs → vs = ns.map V.bl
  | [], vs, h => h
  | n :: ns, vs, h => by
    obtain ⟨v, r, e, h1, h2⟩ := h
    have h1' : v = V.bl n := h1
    rw [e, h1', RpL.bls h2]; rfl
def rAllD : List D → GS → QD → Prop := fun ds G Q => match ds with
  | [.lst xs] => (match blsD xs with | some ns => Q (.bl (ns.all id)) G | none => False)
  | _ => False
def rAnyD : List D → GS → QD → Prop := fun ds G Q => match ds with
  | [.lst xs] => (match blsD xs with | some ns => Q (.bl (ns.any id)) G | none => False)
  | _ => False
theorem lift_all : LiftC X (L2.rAll X.K) rAllD := fun η G H vs ds Q Qd w r h hq => by
  unfold rAllD at h
  split at h
  · rename_i xs
    obtain ⟨v, rfl, r1⟩ := rpl1 r
    split at h
    · rename_i ns en
      obtain ⟨a, us, rfl, _, hs, hr⟩ := r1
      rw [blsD_eq en] at hr
      cases RpL.bls hr
      exact ⟨a, ns, rfl, SqL.of hs, hq.nb w h⟩
    · exact h.elim
  · exact h.elim
theorem lift_any : LiftC X (L2.rAny X.K) rAnyD := fun η G H vs ds Q Qd w r h hq => by
  unfold rAnyD at h
  split at h
  · rename_i xs
    obtain ⟨v, rfl, r1⟩ := rpl1 r
    split at h
    · rename_i ns en
      obtain ⟨a, us, rfl, _, hs, hr⟩ := r1
      rw [blsD_eq en] at hr
      cases RpL.bls hr
      exact ⟨a, ns, rfl, SqL.of hs, hq.nb w h⟩
    · exact h.elim
  · exact h.elim

inductive Ty where
  | int | bool | str | tuple | list | dict
def Ty.name : Ty → String
  | .int => "int" | .bool => "bool" | .str => "str" | .tuple => "tuple" | .list => "list" | .dict => "dict"
inductive TyN where
  | non | bool | int | str | tuple | list | dict
def TyN.name : TyN → String
  | .non => "NoneType" | .int => "int" | .bool => "bool" | .str => "str" | .tuple => "tuple" | .list => "list" | .dict => "dict"
def tyN : D → Option TyN
  | .non => some .non
  | .bl _ => some .bool
  | .int _ => some .int
  | .str _ => some .str
  | .tup _ => some .tuple
  | .lst _ => some .list
  | .dct => some .dict
  | .scr _ => none
  | .key _ => none
  | .obj _ => none
  | .exn _ _ _ _ => none
def isaN : TyN → Ty → Bool
  | .bool, .int => true
  | .bool, .bool => true
  | .int, .int => true
  | .str, .str => true
  | .tuple, .tuple => true
  | .list, .list => true
  | .dict, .dict => true
  | _, _ => false
theorem kitB_isa (n : TyN) (T : Ty) : kitB n.name T.name = some (isaN n T) := by cases n <;> cases T <;> decide +kernel
def isaD (G : GS) (T : Ty) (d : D) : Option Bool := match tyN (vw G d) with | some n => some (isaN n T) | none => none
theorem isa_ok {K : PySem.W.Frag} {mg : Str → Option Value} {η : Eta} {G : GS} {H : Hp} (w : W K mg η G H) {T : Ty} {d : D} {v : V} {b : Bool} (r : Rp K η H d v) (e : isaD G T d = some b) : ∃ t, TyX K H v t ∧ PySem.W.kitOne K t (.type T.name) = some b := by
  unfold isaD at e
  split at e
  · rename_i n en
    cases e
    suffices ty : TyX K H v (.type n.name) from ⟨_, ty, kit_ty (kitB_isa n T)⟩
    cases hd : vw G d with
    | lst ds =>
      rw [hd] at en; cases en
      obtain ⟨a, vs, rfl, hl, _⟩ := vw_lst w r hd
      exact .base (.lst hl)
    | obj k => rw [hd] at en; cases en
    | exn _ _ _ _ => rw [hd] at en; cases en
    | scr _ => rw [hd] at en; cases en
    | key _ => rw [hd] at en; cases en
    | _ =>
      rw [hd] at en; cases en
      cases d with
      | obj k => rcases vw_obj (G := G) (k := k) with ⟨ds, _, z⟩ | z <;> (rw [z] at hd; cases hd)
      | non => first | (cases hd; done) | (cases (show v = .non from r); exact .base .non)
      | bl y => first | (cases hd; done) | (cases (show v = .bl y from r); exact .base (.bl y))
      | int y => first | (cases hd; done) | (cases (show v = .int y from r); exact .base (.int y))
      | str y => first | (cases hd; done) | (cases (show v = .str y from r); exact .base (.str y))
      | lst y => cases hd
      | exn _ _ _ _ => cases hd
      | scr _ => cases hd
      | key _ => cases hd
      | dct => first | (cases hd; done) | (obtain ⟨a, rfl, _, hd'⟩ := r; exact .base (.dK hd'))
      | tup y =>
        first
          | (cases hd; done)
          | (obtain ⟨a, vs, rfl, ht, _⟩ := r
             rcases ht with (ht | ⟨o, ht⟩) | ⟨o, its, n, h1, h2, _⟩
             · exact .base (.tup ht)
             · exact .fTuple ht
             · exact .kTuple h1 h2)
  · cases e
def tIsiD (T : Ty) (te : TEd) : TEd := fun ρ G Q Ed => te ρ G (fun d G1 => match isaD G1 T d with | some b => Q (.bl b) G1 | none => False) Ed
theorem ped_isi {E : St → XK} {e : Expr} {te : TEd} {p p2 pos : Pos} {x : Str} (T : Ty) (hm : X.mg "isinstance" = none) (hmT : X.mg x = none) (hvT : bootBuiltins x = some (.type T.name)) (hg : Gl X "isinstance") (hgT : Gl X x) (he : PEd X E e te)
    (hn : x ≠ "__name__" := by decide) (hd : (x == ("__debug__" : Str)) = false := by decide)
    (hs : starEach (e :: [.Name x p2]) X.env = (false, eval e X.env) :: starEach [.Name x p2] X.env := by rfl) (hpl : (backTo pos (starEach [.Name x p2] X.env)).any (·.1) = false := by rfl) :
    PEd X E (.Call (.Name "isinstance" p) [e, .Name x p2] [] pos) (tIsiD T te) := by
  have h1 : PE X (.Name x p2) (tC (.ty T.name)) := pe_bltn hgT hmT hvT rfl hn hd
  refine ⟨PE.imp (pe_callB call_isi hg hm (by decide +kernel) (pa_cons he.run (pa_cons h1 pa_nil) hs) (by decide) (by decide) hs hpl) fun σ H Q h => ?_⟩
  obtain ⟨ρ, η, G, Qd, Ed, he, w, ht, hq, hE⟩ := h
  refine ⟨ρ, η, G, _, Ed, he, w, ht, fun d G1 v η1 H1 s1 w1 r1 q1 => ?_, hE⟩
  dsimp only at q1
  split at q1
  · rename_i b eb
    obtain ⟨t, ty, k⟩ := isa_ok w1 r1 eb
    exact ⟨v, _, t, _, b, rfl, .ty _, ty, k, (hq.step s1).nb w1 q1⟩
  · exact q1.elim
/-- {} -/
def tDctD : TEd := fun _ G Q _ => Q .dct G
theorem ped_dct {E : St → XK} {pos : Pos} : PEd X E (.Dict [] [] pos) tDctD := ⟨PE.imp pe_dnewK fun σ H Q h => by
  obtain ⟨ρ, η, G, Qd, Ed, he, w, ht, hq, hE⟩ := h
  intro p hp
  exact hq .dct G _ η _ (Stp.laid hp) (w.laid hp) ⟨p, rfl, w.out hp, upd_same⟩ ht⟩
end
end Y

namespace Y
open PySem PySem.Spec L2
open PyProof.Rows hiding St

abbrev EF : St → XK := fun _ _ _ _ => False
def wipeD (ρ : Rho) : List Nat → Rho
  | [] => ρ
  | v :: vs => (wipeD ρ vs).set v none
theorem EnvR.wipe {K : PySem.W.Frag} {η : Eta} {H : Hp} {σ : St} {ρ : Rho} (he : EnvR K η H σ ρ) : ∀ vs : List Nat, EnvR K η H (L2.wipe σ vs) (wipeD ρ vs)
  | [] => he
  | v :: vs => (EnvR.wipe he vs).unset v
theorem wipe_set {σ : St} {i : Nat} {x : Option V} : ∀ {vs : List Nat}, i ∈ vs → L2.wipe (σ.set i x) vs = L2.wipe σ vs
  | [], h => by cases h
  | v :: vs, h => by
    show (L2.wipe (σ.set i x) vs).set v none = (L2.wipe σ vs).set v none
    by_cases hv : i ∈ vs
    · rw [wipe_set hv]
    · have e : i = v := by
        rcases List.mem_cons.mp h with e | h
        · exact e
        · exact absurd h hv
      subst e
      have aux : ∀ (us : List Nat), i ∉ us → L2.wipe (σ.set i x) us = (L2.wipe σ us).set i x := by
        intro us hu
        induction us with
        | nil => rfl
        | cons u us ih =>
          have h1 : i ≠ u := fun z => hu (z ▸ List.mem_cons_self)
          have h2 : i ∉ us := fun z => hu (List.mem_cons_of_mem _ z)
          show (L2.wipe (σ.set i x) us).set u none = ((L2.wipe σ us).set u none).set i x
          rw [ih h2, List.set_comm _ _ h1]
      rw [aux vs hv, List.set_set]
theorem wipe_wipe {σ : St} : ∀ (vs us : List Nat), (∀ v ∈ us, v ∈ vs) → L2.wipe (L2.wipe σ us) vs = L2.wipe σ vs
  | vs, [], _ => rfl
  | vs, u :: us, h => by
    show L2.wipe ((L2.wipe σ us).set u none) vs = _
    rw [wipe_set (h u List.mem_cons_self), wipe_wipe vs us fun v hv => h v (List.mem_cons_of_mem _ hv)]
/-- a comprehension's target: the stores of its own names -/
def CTg (K : PySem.W.Frag) (mg : Str → Option Value) (vs : List Nat) (g : TG) (t : TGd) : Prop := ∀ (v : V) (σ : St) (H : Hp) (Q : St → Hp → Prop) (d : D) (ρ : Rho) (η : Eta) (G : GS) (Qd : Rho → GS → Prop),
  Rp K η H d v → EnvR K η H σ ρ → t d ρ G Qd → (∀ ρ' G' σ', L2.wipe σ' vs = L2.wipe σ vs → EnvR K η H σ' ρ' → Qd ρ' G' → G' = G → Q σ' H) → g v σ H Q
theorem ctg_name {K : PySem.W.Frag} {mg : Str → Option Value} {vs : List Nat} {i : Nat} (h : i ∈ vs) : CTg K mg vs (gName i) (gNameD i) :=
  fun v σ H Q d ρ η G Qd r he ht hq => hq _ G _ (wipe_set h) (he.set i r) ht rfl
theorem ctg_tup2 {K : PySem.W.Frag} {mg : Str → Option Value} {vs : List Nat} {i j : Nat} (hi : i ∈ vs) (hj : j ∈ vs) : CTg K mg vs (gTup K 2 (gCons (gName i) (gCons (gName j) gNil))) (gTupD (gConsD (gNameD i) (gConsD (gNameD j) gNilD))) :=
  fun v σ H Q d ρ η G Qd r he ht hq => by
  cases d with
  | tup ds =>
    obtain ⟨a, us, rfl, hs, hr⟩ := r
    cases ds with
    | nil => exact ht.elim
    | cons d1 ds =>
      cases ds with
      | nil => exact ht.elim
      | cons d2 ds =>
        cases ds with
        | cons d3 ds => exact ht.elim
        | nil =>
          obtain ⟨v1, r1, rfl, q1, v2, r2, rfl, q2, rfl⟩ := hr
          exact ⟨a, _, rfl, hs, rfl, v1, _, rfl, v2, _, rfl, rfl, hq _ G _ (by rw [wipe_set hj, wipe_set hi]) ((he.set i q1).set j q2) ht rfl⟩
  | _ => exact ht.elim

def lcL (g : TGd) (tt : TTd) (te : TEd) : List D → List D → Rho → GS → (List D → GS → Prop) → Prop
  | [], acc, _, G, Q => Q acc G
  | d :: ds, acc, ρ, G, Q => g d ρ G fun ρ2 G2 => tt ρ2 G2 (fun b G3 => if b = true then te ρ2 G3 (fun e G4 => lcL g tt te ds (acc ++ [e]) ρ G4 Q) (fun _ _ => False) else lcL g tt te ds acc ρ G3 Q) (fun _ _ => False)
def tYesD : TTd := fun _ G Q _ => Q true G
def tLcD (wi : TId) (g : TGd) (tt : TTd) (te : TEd) (vs : List Nat) : TEd := fun ρ G Q Ed => wi ρ G (fun ds G1 => ds.length ≤ 16777216 ∧ lcL g tt te ds [] (wipeD ρ vs) G1 (fun acc G2 => Q (.lst acc) G2)) Ed
/-- .. where the list will change -/
def tLcOD (wi : TId) (g : TGd) (tt : TTd) (te : TEd) (vs : List Nat) : TEd := fun ρ G Q Ed => wi ρ G (fun ds G1 => ds.length ≤ 16777216 ∧ lcL g tt te ds [] (wipeD ρ vs) G1 (fun acc G2 => Q (.obj G2.length) (G2 ++ [.lst acc]))) Ed
structure PTsd (X : Cx) (E : St → XK) (es : List Expr) (t : TTd) : Prop where run : PTs X es (lT X.K X.mg E t)
theorem ptsd_nil {X : Cx} {E : St → XK} : PTsd X E [] tYesD := ⟨⟨fun pins s σ H Q I h => by
  obtain ⟨ρ, η, G, Qd, Ed, he, w, ht, hq, hE⟩ := h
  exact pts_nil.run pins s σ H Q I (hq true G η H (Stp.refl _ _) w ht)⟩⟩
theorem ptsd_one {X : Cx} {E : St → XK} {e : Expr} {t : TTd} (h : PTd X E e t) : PTsd X E [e] t := ⟨pts_one h.run⟩
section
variable {X : Cx} {E : St → XK}
/-- the hidden list becomes data -/
theorem hid_lst {K : PySem.W.Frag} {mg : Str → Option Value} {η η' : Eta} {H H' : Hp} {G : GS} {p : Addr} {vs : List V} {ds : List D} (w : W K mg η' G H') (s : Stp η H η' H') (n : H p = none) (hp : p ∈ η'.hid) (e : H' p = some (.lst vs)) (r : RpL K η' H' ds vs) (out : p ∉ η.hid) :
    W K mg ⟨η'.o, η.hid⟩ G H' ∧ Rp K ⟨η'.o, η.hid⟩ H' (.lst ds) (.ref p) := by
  have sub : ∀ b, b ∈ (⟨η'.o, η.hid⟩ : Eta).hid → b ∈ η'.hid := fun b hb => by
    obtain ⟨L, eL, _⟩ := s.hid
    rw [eL]; exact List.mem_append_right _ hb
  exact ⟨w.shown sub rfl, p, vs, rfl, ⟨(w.hd p hp).1, out⟩, e, RpL.shown sub rfl ds vs r⟩
theorem hid_obj {K : PySem.W.Frag} {mg : Str → Option Value} {η η' : Eta} {H H' : Hp} {G : GS} {p : Addr} {vs : List V} {ds : List D} (w : W K mg η' G H') (s : Stp η H η' H') (n : H p = none) (hp : p ∈ η'.hid) (e : H' p = some (.lst vs)) (r : RpL K η' H' ds vs) (out : p ∉ η.hid) :
    W K mg ⟨η'.o ++ [some p], η.hid⟩ (G ++ [.lst ds]) H' ∧ Rp K ⟨η'.o ++ [some p], η.hid⟩ H' (.obj G.length) (.ref p) ∧ Stp η H ⟨η'.o ++ [some p], η.hid⟩ H' := by
  have no : some p ∉ η'.o := (w.hd p hp).1
  have sub : ∀ b, b ∈ η.hid → b ∈ η'.hid := fun b hb => by
    obtain ⟨L, eL, _⟩ := s.hid
    rw [eL]; exact List.mem_append_right _ hb
  have get : ∀ {k : Nat} {x : Option Addr}, η'.o[k]? = some x → (η'.o ++ [some p])[k]? = some x := fun {k x} h => by
    rw [List.getElem?_append_left (List.getElem?_eq_some_iff.mp h).1]; exact h
  have aux : ∀ (i : Nat) (a : Addr), (η'.o ++ [some p])[i]? = some (some a) → (i < η'.o.length ∧ η'.o[i]? = some (some a)) ∨ (i = η'.o.length ∧ a = p) := by
    intro i a h
    by_cases hk : i < η'.o.length
    · rw [List.getElem?_append_left hk] at h; exact .inl ⟨hk, h⟩
    · rw [List.getElem?_append_right (Nat.le_of_not_lt hk)] at h
      cases q : i - η'.o.length with
      | zero => rw [q] at h; simp at h; exact .inr ⟨by omega, h.symm⟩
      | succ j => rw [q] at h; simp at h
  -- what is known of data in η' stays: p is hidden in η', so no datum is the list at p
  have o' : ∀ {b : Addr}, Out η' b → Out ⟨η'.o ++ [some p], η.hid⟩ b := fun {b} ho => ⟨fun hm => by
    rcases List.mem_append.mp hm with hm | hm
    · exact ho.1 hm
    · have : b = p := by simpa using hm
      exact ho.2 (this ▸ hp), fun hm => ho.2 (sub b hm)⟩
  have rp : ∀ (d : D) (v : V), Rp K η' H' d v → Rp K ⟨η'.o ++ [some p], η.hid⟩ H' d v := by
    intro d
    induction d using D.rec (motive_2 := fun ds => ∀ vs, RpL K η' H' ds vs → RpL K ⟨η'.o ++ [some p], η.hid⟩ H' ds vs) with
    | non => intro v h; exact h
    | bl b => intro v h; exact h
    | int i => intro v h; exact h
    | str s => intro v h; exact h
    | tup ds ih => intro v h; obtain ⟨a, vs, e, ht, r⟩ := h; exact ⟨a, vs, e, ht, ih vs r⟩
    | lst ds ih => intro v h; obtain ⟨a, vs, e, ho, hl, r⟩ := h; exact ⟨a, vs, e, o' ho, hl, ih vs r⟩
    | obj k =>
      intro v h; obtain ⟨a, e, h⟩ := h
      exact ⟨a, e, by rcases h with h | h; exact .inl (get h); exact .inr (get h)⟩
    | dct => intro v h; obtain ⟨a, e, ho, hl⟩ := h; exact ⟨a, e, o' ho, hl⟩
    | scr ns => intro v h; exact h
    | key ns => intro v h; exact h
    | exn a dd f d ih => intro v h; obtain ⟨e, u, hd, r⟩ := h; exact ⟨e, u, hd, ih u r⟩
    | nil => intros; assumption
    | cons d ds i1 i2 =>
      rename_i vs h
      obtain ⟨v, r, e, h1, h2⟩ := h
      exact ⟨v, r, e, i1 v h1, i2 r h2⟩
  have rpL : ∀ (ds : List D) (vs : List V), RpL K η' H' ds vs → RpL K ⟨η'.o ++ [some p], η.hid⟩ H' ds vs := by
    intro ds
    induction ds with
    | nil => intro vs h; exact h
    | cons d ds ih =>
      intro vs h
      obtain ⟨v, r, e, h1, h2⟩ := h
      exact ⟨v, r, e, rp d v h1, ih r h2⟩
  refine ⟨⟨by simp [w.len], fun k m hm => ?_, fun i j a hi hj => ?_, fun a ha => ?_⟩, ⟨p, rfl, .inl ?_⟩, ⟨?_, fun k a h => ?_, fun k h => ?_, fun k a hk h => ?_, fun b o hb q => s.keep b o hb q, s.more, hid0⟩⟩
  · by_cases hk : k < G.length
    · rw [List.getElem?_append_left hk] at hm
      have h := w.at_ k m hm
      cases m with
      | dead => exact get h
      | lst ds => obtain ⟨a, vs, e1, e2, r⟩ := h; exact ⟨a, vs, get e1, e2, rpL ds vs r⟩
      | rnd => obtain ⟨a, ns, e1, e2, r⟩ := h; exact ⟨a, ns, get e1, e2, r⟩
      | dic kvs => obtain ⟨a, e1, e2⟩ := h; exact ⟨a, get e1, e2⟩
      | dik kvs => obtain ⟨a, e1, e2⟩ := h; exact ⟨a, get e1, e2⟩
      | dil u kvs => obtain ⟨a, e1, e2⟩ := h; exact ⟨a, get e1, e2⟩
      | exc c => obtain ⟨a, C, e1, e3, e2⟩ := h; exact ⟨a, C, get e1, e3, e2⟩
      | exi c f d => obtain ⟨a, C, dx, v, e1, e3, e2, ho, hx, r⟩ := h; exact ⟨a, C, dx, v, get e1, e3, e2, o' ho, hx, rp d v r⟩
      | ins c fs =>
        obtain ⟨a, C, dx, vs, e1, e3, e2, r⟩ := h
        refine ⟨a, C, dx, vs, get e1, e3, e2, ?_⟩
        clear e1 e2 e3 hm
        induction fs generalizing vs with
        | nil => exact r
        | cons f fs ih =>
          obtain ⟨v, r', e, h1, h2⟩ := r
          exact ⟨v, r', e, rp f.2 v h1, ih _ h2⟩
    · rw [List.getElem?_append_right (Nat.le_of_not_lt hk)] at hm
      have e0 : k - G.length = 0 := by
        cases q : k - G.length with
        | zero => rfl
        | succ j => rw [q] at hm; simp at hm
      rw [e0] at hm
      simp at hm
      subst hm
      have ek : k = η'.o.length := by have := w.len; omega
      rw [ek]
      exact ⟨p, vs, by simp, e, rpL ds vs r⟩
  · rcases aux i a hi with ⟨h1, h2⟩ | ⟨h1, h2⟩ <;> rcases aux j a hj with ⟨g1, g2⟩ | ⟨g1, g2⟩
    · exact w.inj i j a h2 g2
    · subst g2; exact absurd (mem_eta.mpr ⟨i, h2⟩) no
    · subst h2; exact absurd (mem_eta.mpr ⟨j, g2⟩) no
    · omega
  · have ha' : a ∈ η.hid := ha
    refine ⟨fun hm => ?_, (w.hd a (sub a ha')).2⟩
    rcases List.mem_append.mp hm with hm | hm
    · exact (w.hd a (sub a ha')).1 hm
    · have : a = p := by simpa using hm
      exact out (this ▸ ha')
  · rw [← w.len]; simp
  · simp; exact Nat.le_succ_of_le s.le
  · rcases s.old k a h with q | q
    · exact .inl (get q)
    · exact .inr (get q)
  · exact get (s.dead k h)
  · rcases aux k a h with ⟨_, h2⟩ | ⟨_, h2⟩
    · exact s.new k a hk h2
    · rw [h2]; exact n
/-- the loop of a comprehension, whatever becomes of its list -/
theorem lc_run {K : PySem.W.Frag} {mg : Str → Option Value} {g : TG} {gd : TGd} {tt : TTd} {te : TEd} {vs : List Nat} {σ : St} {ρ : Rho} {η1 : Eta} {H1 : Hp} {G1 : GS} {J : It} {ds : List D} {Qf : List D → GS → Prop} {p : Addr} {Q : Hp → Prop}
    (hg : CTg K mg vs g gd) (he : EnvR K η1 H1 σ ρ) (w1 : W K mg η1 G1 H1) (it : ItOk K mg J η1 H1 ds) (hp : H1 p = none) (hz : ds.length ≤ 16777216) (q1 : lcL gd tt te ds [] (wipeD ρ vs) G1 Qf)
    (hQ : ∀ acc G' us η' H', Stp η1 H1 η' H' → W K mg η' G' H' → p ∈ η'.hid → H' p = some (.lst us) → RpL K η' H' acc us → Qf acc G' → Q H') :
    ∃ W' : Nat → Nat → Hp → Prop, (∃ m, W' 0 m (upd H1 p (.lst []))) ∧ ∀ i m H, W' i m H →
      (J.stop i H ∧ Q H) ∨ (J.go i H ∧ ∃ Nx : Hp → Prop, (∀ H', Nx H' → ∃ m', m' < m ∧ W' (i + 1) m' H') ∧ ∀ x H', J.yld i H x H' → g x (L2.wipe σ vs) H' fun σ2 H2 => L2.wipe σ2 vs = L2.wipe σ vs ∧ lT K mg EF tt σ2 H2 fun b H3 =>
        if b = true then lE K mg EF te σ2 H3 fun y H4 => ∃ acc, H4 p = some (.lst acc) ∧ acc.length < sizeLine ∧ Nx (upd H4 p (.lst (acc ++ [y]))) else Nx H3) := by
  have st0 : Stp η1 H1 (η1.hide p) (upd H1 p (.lst [])) := Stp.hide hp
  refine ⟨fun i m H' => ∃ η' G' acc us, Stp η1 H1 η' H' ∧ W K mg η' G' H' ∧ p ∈ η'.hid ∧ H' p = some (.lst us) ∧ RpL K η' H' acc us ∧ acc.length ≤ i ∧ i ≤ ds.length ∧ m = ds.length - i ∧ lcL gd tt te (ds.drop i) acc (wipeD ρ vs) G' Qf,
    ⟨_, η1.hide p, G1, [], [], st0, w1.hide hp, List.mem_cons_self, upd_same, rfl, Nat.le_refl _, Nat.zero_le _, rfl, by simpa using q1⟩, ?_⟩
  rintro i m H' ⟨η', G', acc, us, s', w', hm, e', r', ha, hi', rfl, q'⟩
  obtain ⟨i1, i2, i3⟩ := it η' H' i s'.w
  by_cases hi : i < ds.length
  · right
    refine ⟨i1 hi, fun H2 => ∃ η2 G2 acc2 us2, Stp η1 H1 η2 H2 ∧ W K mg η2 G2 H2 ∧ p ∈ η2.hid ∧ H2 p = some (.lst us2) ∧ RpL K η2 H2 acc2 us2 ∧ acc2.length ≤ i + 1 ∧ lcL gd tt te (ds.drop (i + 1)) acc2 (wipeD ρ vs) G2 Qf, ?_, ?_⟩
    · rintro H2 ⟨η2, G2, acc2, us2, s2, w2, m2, e2, r2, a2, q2⟩
      exact ⟨_, by omega, η2, G2, acc2, us2, s2, w2, m2, e2, r2, a2, hi, rfl, q2⟩
    · intro x H'' y
      obtain ⟨d, hd, st, ww, rx⟩ := i3 x H'' y hi
      rw [drop_cons hd] at q'
      have kp : ∀ {ηa ηb : Eta} {Ha Hb : Hp} {u : HO}, p ∈ ηa.hid → (∃ G, W K mg ηa G Ha) → Stp ηa Ha ηb Hb → Ha p = some u → Hb p = some u ∧ p ∈ ηb.hid := fun {ηa ηb Ha Hb u} hma hw s hu => by
        obtain ⟨G, w⟩ := hw
        refine ⟨s.keep p u hu (.inl (w.hd p hma).1), ?_⟩
        obtain ⟨L, eL, _⟩ := s.hid
        rw [eL]; exact List.mem_append_right _ hma
      refine hg x (L2.wipe σ vs) H'' _ d (wipeD ρ vs) η' G' _ rx ((he.step (s'.trans st)).wipe vs) q' fun ρ2 G2 σ2 hw2 e2 q2 hG => ?_
      subst hG
      refine ⟨by rw [hw2]; exact wipe_wipe _ _ fun _ h => h, ?_⟩
      refine ⟨ρ2, η', G2, _, _, e2, ww G2 w', q2, fun b G3 η3 H3 s3 w3 q3 => ?_, fun _ _ _ _ _ _ _ _ _ h => h⟩
      obtain ⟨k3, m3⟩ := kp hm ⟨_, w'⟩ (st.trans s3) e'
      cases b with
      | true =>
        rw [if_pos rfl] at q3 ⊢
        refine ⟨ρ2, η3, G3, _, _, e2.step s3, w3, q3, fun e G4 y η4 H4 s4 w4 r4 q4 => ?_, fun _ _ _ _ _ _ _ _ _ h => h⟩
        obtain ⟨k4, m4⟩ := kp m3 ⟨_, w3⟩ s4 k3
        have r5 : RpL K η4 H4 acc us := RpL.step (st.trans (s3.trans s4)) _ _ r'
        refine ⟨us, k4, line_lt ?_, η4, G4, acc ++ [e], us ++ [y], ((s'.trans (st.trans (s3.trans s4)))).put hp, w4.put m4 k4 (fun z => z), m4, upd_same, RpL.put m4 k4 (fun z => z) _ _ (RpL.append r5 (RpL.one r4)), by simp; exact ha, q4⟩
        rw [← r'.length]; omega
      | false =>
        rw [if_neg (by decide)] at q3 ⊢
        exact ⟨η3, G3, acc, us, s'.trans (st.trans s3), w3, m3, k3, RpL.step (st.trans s3) _ _ r', by omega, q3⟩
  · left
    refine ⟨i2 (by omega), ?_⟩
    rw [List.drop_eq_nil_of_le (by omega)] at q'
    exact hQ acc G' us η' H' s' w' hm e' r' q'
end
end Y

namespace Y
open PySem PySem.Spec L2
open PyProof.Rows hiding St

section
variable {X : Cx} {E : St → XK}
theorem lc_imp {wi : TId} {g : TG} {gd : TGd} {tt : TTd} {te : TEd} {vs : List Nat} (hct : CTg X.K X.mg vs g gd) {σ : St} {H : Hp} {Q : VK} (h : lE X.K X.mg E (tLcD wi gd tt te vs) σ H Q) :
    tLc (lI X.K X.mg E wi) g (lT X.K X.mg EF tt) (lE X.K X.mg EF te) vs σ H Q := by
  obtain ⟨ρ, η, G, Qd, Ed, he, w, ht, hq, hE⟩ := h
  refine ⟨ρ, η, G, _, Ed, he, w, ht, fun ds G1 J η1 H1 s1 w1 it q1 => ?_, hE⟩
  intro p hp
  refine lc_run hct (he.step s1) w1 it hp q1.1 q1.2 fun acc G' us η' H' s' w' hm e' r' q' => ?_
  have out : p ∉ η1.hid := fun z => by obtain ⟨_, o, ho⟩ := w1.hd p z; rw [hp] at ho; cases ho
  obtain ⟨w2, r2⟩ := hid_lst w' s' hp hm e' r' out
  exact hq _ _ _ _ _ (s1.trans s'.shown) w2 r2 q'
theorem lcO_imp {wi : TId} {g : TG} {gd : TGd} {tt : TTd} {te : TEd} {vs : List Nat} (hct : CTg X.K X.mg vs g gd) {σ : St} {H : Hp} {Q : VK} (h : lE X.K X.mg E (tLcOD wi gd tt te vs) σ H Q) :
    tLc (lI X.K X.mg E wi) g (lT X.K X.mg EF tt) (lE X.K X.mg EF te) vs σ H Q := by
  obtain ⟨ρ, η, G, Qd, Ed, he, w, ht, hq, hE⟩ := h
  refine ⟨ρ, η, G, _, Ed, he, w, ht, fun ds G1 J η1 H1 s1 w1 it q1 => ?_, hE⟩
  intro p hp
  refine lc_run hct (he.step s1) w1 it hp q1.1 q1.2 fun acc G' us η' H' s' w' hm e' r' q' => ?_
  have out : p ∉ η1.hid := fun z => by obtain ⟨_, o, ho⟩ := w1.hd p z; rw [hp] at ho; cases ho
  obtain ⟨w2, r2, s2⟩ := hid_obj w' s' hp hm e' r' out
  exact hq _ _ _ _ _ (s1.trans s2) w2 r2 q'
section
variable {elt tg iter : Expr} {ifs : List Expr} {scope : Scope} {own : List (Str × Nat)} {pos : Pos} {wi : TId} {g : TG} {gd : TGd} {tt : TTd} {te : TEd}
theorem ped_lc (hc : X.calm = true) (hN : X.N.Nodup) (hi : PId X E tg iter wi) (ok : BlkOk X.N X.env.scope scope own)
    (hg : ∀ (s : Shared) (H : Hp) (C : Addr) (cl : List (Str × Addr)) (fp : List Addr), PG (X.blk s H scope (compEnvC scope cl C X.env) fp) tg g) (hct : CTg X.K X.mg (own.map (·.2)) g gd)
    (ht : ∀ (s : Shared) (H : Hp) (C : Addr) (cl : List (Str × Addr)) (fp : List Addr), PTsd (X.blk s H scope (compEnvC scope cl C X.env) fp) EF ifs tt)
    (he : ∀ (s : Shared) (H : Hp) (C : Addr) (cl : List (Str × Addr)) (fp : List Addr), PEd (X.blk s H scope (compEnvC scope cl C X.env) fp) EF elt te) (hs : ∀ x, foldedSetIterable iter X.env x = pure x := by intro _; rfl) :
    PEd X E (.ListComp elt [⟨tg, iter, ifs, 0⟩] scope pos) (tLcD wi gd tt te (own.map (·.2))) :=
  ⟨PE.imp (pe_lc hc hN hi.run ok hg (fun s H C cl fp => (ht s H C cl fp).run) (fun s H C cl fp => (he s H C cl fp).run) hs) fun _ _ _ h => lc_imp hct h⟩
theorem ped_lcO (hc : X.calm = true) (hN : X.N.Nodup) (hi : PId X E tg iter wi) (ok : BlkOk X.N X.env.scope scope own)
    (hg : ∀ (s : Shared) (H : Hp) (C : Addr) (cl : List (Str × Addr)) (fp : List Addr), PG (X.blk s H scope (compEnvC scope cl C X.env) fp) tg g) (hct : CTg X.K X.mg (own.map (·.2)) g gd)
    (ht : ∀ (s : Shared) (H : Hp) (C : Addr) (cl : List (Str × Addr)) (fp : List Addr), PTsd (X.blk s H scope (compEnvC scope cl C X.env) fp) EF ifs tt)
    (he : ∀ (s : Shared) (H : Hp) (C : Addr) (cl : List (Str × Addr)) (fp : List Addr), PEd (X.blk s H scope (compEnvC scope cl C X.env) fp) EF elt te) (hs : ∀ x, foldedSetIterable iter X.env x = pure x := by intro _; rfl) :
    PEd X E (.ListComp elt [⟨tg, iter, ifs, 0⟩] scope pos) (tLcOD wi gd tt te (own.map (·.2))) :=
  ⟨PE.imp (pe_lc hc hN hi.run ok hg (fun s H C cl fp => (ht s H C cl fp).run) (fun s H C cl fp => (he s H C cl fp).run) hs) fun _ _ _ h => lcO_imp hct h⟩
/-- name = [..], the name a local -/
theorem setLc_imp {i : Nat} {t : TEd} {tH : TE} (hl : ∀ {σ : St} {H : Hp} {Q : VK}, lE X.K X.mg E t σ H Q → tH σ H Q) {D : Ends} {σ : St} {H : Hp} (h : lS X.K X.mg E (tSetD i t) D σ H) : tAsg tH (gName i) D σ H := by
  obtain ⟨ρ, η, G, Dd, he, w, ht, l⟩ := h
  refine hl ⟨ρ, η, G, _, _, he, w, ht, fun d G1 v η1 H1 s1 w1 r1 q1 => ?_, l.le he⟩
  exact l.nx _ G1 _ η1 H1 s1 w1 ((he.step s1).set i r1) q1
theorem psd_setLc {i : Nat} {y : Str} {py spos : Pos} (hc : X.calm = true) (hN : X.N.Nodup) (hy : X.N[i]? = some y) (hyl : X.env.scope.names.lookup y = some .local)
    (hsw : swapsWith (.ListComp elt [⟨tg, iter, ifs, 0⟩] scope pos) (some (.Name y py)) spos.line X.env = pure true) (hi : PId X E tg iter wi) (ok : BlkOk X.N X.env.scope scope own)
    (hg : ∀ (s : Shared) (H : Hp) (C : Addr) (cl : List (Str × Addr)) (fp : List Addr), PG (X.blk s H scope (compEnvC scope cl C X.env) fp) tg g) (hct : CTg X.K X.mg (own.map (·.2)) g gd)
    (ht : ∀ (s : Shared) (H : Hp) (C : Addr) (cl : List (Str × Addr)) (fp : List Addr), PTsd (X.blk s H scope (compEnvC scope cl C X.env) fp) EF ifs tt)
    (he : ∀ (s : Shared) (H : Hp) (C : Addr) (cl : List (Str × Addr)) (fp : List Addr), PEd (X.blk s H scope (compEnvC scope cl C X.env) fp) EF elt te) (hs : ∀ x, foldedSetIterable iter X.env x = pure x := by intro _; rfl) :
    PSd X E (.Assign [.Name y py] (.ListComp elt [⟨tg, iter, ifs, 0⟩] scope pos) spos) (tSetD i (tLcD wi gd tt te (own.map (·.2)))) :=
  ⟨PS.imp (ps_setLc hc hN hy hyl hsw hi.run ok hg (fun s H C cl fp => (ht s H C cl fp).run) (fun s H C cl fp => (he s H C cl fp).run) hs) fun _ _ _ h => setLc_imp (fun h => lc_imp hct h) h⟩
theorem psd_setLcO {i : Nat} {y : Str} {py spos : Pos} (hc : X.calm = true) (hN : X.N.Nodup) (hy : X.N[i]? = some y) (hyl : X.env.scope.names.lookup y = some .local)
    (hsw : swapsWith (.ListComp elt [⟨tg, iter, ifs, 0⟩] scope pos) (some (.Name y py)) spos.line X.env = pure true) (hi : PId X E tg iter wi) (ok : BlkOk X.N X.env.scope scope own)
    (hg : ∀ (s : Shared) (H : Hp) (C : Addr) (cl : List (Str × Addr)) (fp : List Addr), PG (X.blk s H scope (compEnvC scope cl C X.env) fp) tg g) (hct : CTg X.K X.mg (own.map (·.2)) g gd)
    (ht : ∀ (s : Shared) (H : Hp) (C : Addr) (cl : List (Str × Addr)) (fp : List Addr), PTsd (X.blk s H scope (compEnvC scope cl C X.env) fp) EF ifs tt)
    (he : ∀ (s : Shared) (H : Hp) (C : Addr) (cl : List (Str × Addr)) (fp : List Addr), PEd (X.blk s H scope (compEnvC scope cl C X.env) fp) EF elt te) (hs : ∀ x, foldedSetIterable iter X.env x = pure x := by intro _; rfl) :
    PSd X E (.Assign [.Name y py] (.ListComp elt [⟨tg, iter, ifs, 0⟩] scope pos) spos) (tSetD i (tLcOD wi gd tt te (own.map (·.2)))) :=
  ⟨PS.imp (ps_setLc hc hN hy hyl hsw hi.run ok hg (fun s H C cl fp => (ht s H C cl fp).run) (fun s H C cl fp => (he s H C cl fp).run) hs) fun _ _ _ h => setLc_imp (fun h => lcO_imp hct h) h⟩
end

def lcL2 (g : TGd) (tt : TTd) (wi1 : TId) (g1 : TGd) (tt1 : TTd) (te : TEd) (vs1 : List Nat) : List D → List D → Rho → GS → (List D → GS → Prop) → Prop
  | [], acc, _, G, Q => Q acc G
  | d :: ds, acc, ρ, G, Q => g d ρ G fun ρ2 G2 => tt ρ2 G2 (fun b G3 => if b = true then wi1 ρ2 G3 (fun ds1 G4 => acc.length + ds1.length ≤ 16777216 ∧
      lcL g1 tt1 te ds1 acc (wipeD ρ2 vs1) G4 (fun acc2 G5 => lcL2 g tt wi1 g1 tt1 te vs1 ds acc2 ρ G5 Q)) (fun _ _ => False) else lcL2 g tt wi1 g1 tt1 te vs1 ds acc ρ G3 Q) (fun _ _ => False)
def tLc2D (wi : TId) (g : TGd) (tt : TTd) (wi1 : TId) (g1 : TGd) (tt1 : TTd) (te : TEd) (vs vs1 : List Nat) : TEd := fun ρ G Q Ed => wi ρ G (fun ds G1 => lcL2 g tt wi1 g1 tt1 te vs1 ds [] (wipeD ρ vs) G1 (fun acc G2 => Q (.lst acc) G2)) Ed
theorem kept_hid {K : PySem.W.Frag} {mg : Str → Option Value} {ηa ηb : Eta} {Ha Hb : Hp} {u : HO} {p : Addr} (hma : p ∈ ηa.hid) (hw : ∃ G, W K mg ηa G Ha) (s : Stp ηa Ha ηb Hb) (hu : Ha p = some u) : Hb p = some u ∧ p ∈ ηb.hid := by
  obtain ⟨G, w⟩ := hw
  refine ⟨s.keep p u hu (.inl (w.hd p hma).1), ?_⟩
  obtain ⟨L, eL, _⟩ := s.hid
  rw [eL]; exact List.mem_append_right _ hma
theorem lc2_imp {wi : TId} {g : TG} {gd : TGd} {tt : TTd} {wi1 : TId} {g1 : TG} {gd1 : TGd} {tt1 : TTd} {te : TEd} {vs vs1 : List Nat} (hct : CTg X.K X.mg vs g gd) (hct1 : CTg X.K X.mg vs1 g1 gd1) {σ : St} {H : Hp} {Q : VK}
    (h : lE X.K X.mg E (tLc2D wi gd tt wi1 gd1 tt1 te vs vs1) σ H Q) :
    tLc2 (lI X.K X.mg E wi) g (lT X.K X.mg EF tt) (lI X.K X.mg EF wi1) g1 (lT X.K X.mg EF tt1) (lE X.K X.mg EF te) vs vs1 σ H Q := by
  obtain ⟨ρ, η, G, Qd, Ed, he, w, ht, hq, hE⟩ := h
  refine ⟨ρ, η, G, _, Ed, he, w, ht, fun ds G1 J η1 H1 s1 w1 it q1 => ?_, hE⟩
  intro p hp
  have st0 : Stp η1 H1 (η1.hide p) (upd H1 p (.lst [])) := Stp.hide hp
  have out : p ∉ η1.hid := fun z => by obtain ⟨_, o, ho⟩ := w1.hd p z; rw [hp] at ho; cases ho
  have he1 := he.step s1
  refine ⟨fun i m H' => ∃ η' G' acc us, Stp η1 H1 η' H' ∧ W X.K X.mg η' G' H' ∧ p ∈ η'.hid ∧ H' p = some (.lst us) ∧ RpL X.K η' H' acc us ∧ i ≤ ds.length ∧ m = ds.length - i ∧ lcL2 gd tt wi1 gd1 tt1 te vs1 (ds.drop i) acc (wipeD ρ vs) G' (fun acc G2 => Qd (.lst acc) G2),
    ⟨_, η1.hide p, G1, [], [], st0, w1.hide hp, List.mem_cons_self, upd_same, rfl, Nat.zero_le _, rfl, by simpa using q1⟩, ?_⟩
  rintro i m H' ⟨η', G', acc, us, s', w', hm, e', r', hi', rfl, q'⟩
  obtain ⟨i1, i2, i3⟩ := it η' H' i s'.w
  by_cases hi : i < ds.length
  · right
    refine ⟨i1 hi, fun H2 => ∃ η2 G2 acc2 us2, Stp η1 H1 η2 H2 ∧ W X.K X.mg η2 G2 H2 ∧ p ∈ η2.hid ∧ H2 p = some (.lst us2) ∧ RpL X.K η2 H2 acc2 us2 ∧ lcL2 gd tt wi1 gd1 tt1 te vs1 (ds.drop (i + 1)) acc2 (wipeD ρ vs) G2 (fun acc G2 => Qd (.lst acc) G2), ?_, ?_⟩
    · rintro H2 ⟨η2, G2, acc2, us2, s2, w2, m2, e2, r2, q2⟩
      exact ⟨_, by omega, η2, G2, acc2, us2, s2, w2, m2, e2, r2, hi, rfl, q2⟩
    · intro x H'' y
      obtain ⟨d, hd, st, ww, rx⟩ := i3 x H'' y hi
      rw [drop_cons hd] at q'
      refine hct x (L2.wipe σ vs) H'' _ d (wipeD ρ vs) η' G' _ rx ((he1.step (s'.trans st)).wipe vs) q' fun ρ2 G2 σ2 hw2 e2 q2 hG => ?_
      subst hG
      refine ⟨by rw [hw2]; exact wipe_wipe _ _ fun _ h => h, ?_⟩
      refine ⟨ρ2, η', G2, _, _, e2, ww G2 w', q2, fun b G3 η3 H3 s3 w3 q3 => ?_, fun _ _ _ _ _ _ _ _ _ h => h⟩
      obtain ⟨k3, m3⟩ := kept_hid hm ⟨_, w'⟩ (st.trans s3) e'
      cases b with
      | true =>
        rw [if_pos rfl] at q3 ⊢
        refine ⟨ρ2, η3, G3, _, _, e2.step s3, w3, q3, fun ds1 G4 J1 η4 H4 s4 w4 it1 q4 => ?_, fun _ _ _ _ _ _ _ _ _ h => h⟩
        obtain ⟨k4, m4⟩ := kept_hid m3 ⟨_, w3⟩ s4 k3
        have sA := s'.trans (st.trans (s3.trans s4))
        have r4 : RpL X.K η4 H4 acc us := RpL.step (st.trans (s3.trans s4)) _ _ r'
        refine ⟨fun j k H' => ∃ η' G' acc2 us2, Stp η1 H1 η' H' ∧ Stw η4 H4 η' H' ∧ W X.K X.mg η' G' H' ∧ p ∈ η'.hid ∧ H' p = some (.lst us2) ∧ RpL X.K η' H' acc2 us2 ∧ acc2.length ≤ acc.length + j ∧ j ≤ ds1.length ∧ k = ds1.length - j ∧
            lcL gd1 tt1 te (ds1.drop j) acc2 (wipeD ρ2 vs1) G' (fun acc2 G5 => lcL2 gd tt wi1 gd1 tt1 te vs1 (ds.drop (i + 1)) acc2 (wipeD ρ vs) G5 (fun acc G2 => Qd (.lst acc) G2)),
          ⟨_, η4, G4, acc, us, sA, Stw.refl _ _, w4, m4, k4, r4, Nat.le_refl _, Nat.zero_le _, rfl, by simpa using q4.2⟩, ?_⟩
        rintro j k H5 ⟨η5, G5, acc5, us5, s5, sw5, w5, m5, k5, r5, a5, hj', rfl, q5⟩
        obtain ⟨j1, j2, j3⟩ := it1 η5 H5 j sw5
        have eB : EnvR X.K η5 H5 σ2 ρ2 := by
          refine ⟨e2.1, fun i d hd => ?_⟩
          obtain ⟨v, e, r⟩ := (e2.step (s3.trans s4)).2 i d hd
          exact ⟨v, e, Rp.stepw sw5 _ _ r⟩
        by_cases hj : j < ds1.length
        · right
          refine ⟨j1 hj, fun H2 => ∃ η2 G2 acc2 us2, Stp η1 H1 η2 H2 ∧ Stw η4 H4 η2 H2 ∧ W X.K X.mg η2 G2 H2 ∧ p ∈ η2.hid ∧ H2 p = some (.lst us2) ∧ RpL X.K η2 H2 acc2 us2 ∧ acc2.length ≤ acc.length + (j + 1) ∧
            lcL gd1 tt1 te (ds1.drop (j + 1)) acc2 (wipeD ρ2 vs1) G2 (fun acc2 G5 => lcL2 gd tt wi1 gd1 tt1 te vs1 (ds.drop (i + 1)) acc2 (wipeD ρ vs) G5 (fun acc G2 => Qd (.lst acc) G2)), ?_, ?_⟩
          · rintro H2 ⟨η2, G2, acc2, us2, s2, sw2, w2, m2, e2, r2, a2, q2⟩
            exact ⟨_, by omega, η2, G2, acc2, us2, s2, sw2, w2, m2, e2, r2, a2, hj, rfl, q2⟩
          · intro x' H6 y'
            obtain ⟨d', hd', st', ww', rx'⟩ := j3 x' H6 y' hj
            rw [drop_cons hd'] at q5
            refine hct1 x' (L2.wipe σ2 vs1) H6 _ d' (wipeD ρ2 vs1) η5 G5 _ rx' ((eB.step st').wipe vs1) q5 fun ρ7 G7 σ7 hw7 e7 q7 hG7 => ?_
            subst hG7
            refine ⟨by rw [hw7]; exact wipe_wipe _ _ fun _ h => h, ?_⟩
            refine ⟨ρ7, η5, G7, _, _, e7, ww' G7 w5, q7, fun b G8 η8 H8 s8 w8 q8 => ?_, fun _ _ _ _ _ _ _ _ _ h => h⟩
            obtain ⟨k8, m8⟩ := kept_hid m5 ⟨_, w5⟩ (st'.trans s8) k5
            cases b with
            | true =>
              rw [if_pos rfl] at q8 ⊢
              refine ⟨ρ7, η8, G8, _, _, e7.step s8, w8, q8, fun e9 G9 y9 η9 H9 s9 w9 r9 q9 => ?_, fun _ _ _ _ _ _ _ _ _ h => h⟩
              obtain ⟨k9, m9⟩ := kept_hid m8 ⟨_, w8⟩ s9 k8
              have r5' : RpL X.K η9 H9 acc5 us5 := RpL.step (st'.trans (s8.trans s9)) _ _ r5
              refine ⟨us5, k9, line_lt ?_, η9, G9, acc5 ++ [e9], us5 ++ [y9], (s5.trans (st'.trans (s8.trans s9))).put hp, (sw5.trans (st'.trans (s8.trans s9)).w).put m4 k4 (fun z => z), w9.put m9 k9 (fun z => z), m9, upd_same,
                RpL.put m9 k9 (fun z => z) _ _ (RpL.append r5' (RpL.one r9)), by simp; omega, q9⟩
              have := q4.1
              rw [← r5.length]; omega
            | false =>
              rw [if_neg (by decide)] at q8 ⊢
              exact ⟨η8, G8, acc5, us5, s5.trans (st'.trans s8), sw5.trans (st'.trans s8).w, w8, m8, k8, RpL.step (st'.trans s8) _ _ r5, by omega, q8⟩
        · left
          refine ⟨j2 (by omega), ?_⟩
          rw [List.drop_eq_nil_of_le (by omega)] at q5
          exact ⟨η5, G5, acc5, us5, s5, w5, m5, k5, r5, q5⟩
      | false =>
        rw [if_neg (by decide)] at q3 ⊢
        exact ⟨η3, G3, acc, us, s'.trans (st.trans s3), w3, m3, k3, RpL.step (st.trans s3) _ _ r', q3⟩
  · left
    refine ⟨i2 (by omega), ?_⟩
    rw [List.drop_eq_nil_of_le (by omega)] at q'
    obtain ⟨w2, r2⟩ := hid_lst w' s' hp hm e' r' out
    exact hq _ _ _ _ _ (s1.trans s'.shown) w2 r2 q'
end
end Y

namespace Y
open PySem PySem.Spec L2
open PyProof.Rows hiding St

def tRaise0D (x : Str) : TSd := fun D ρ G => D.er ⟨x, none⟩ ρ G
def tRaise1D (x f : Str) (te : TEd) : TSd := fun D ρ G => te ρ G (fun d G1 => D.er ⟨x, some (f, d)⟩ ρ G1) (fun e G1 => D.er e ρ G1)
/-- what the statement's wish about exceptions is: E, at the slots -/
abbrev WofE (E : St → XK) : WX := fun cls d σ H => E σ cls d H
section
variable {X : Cx} {E : St → XK}
theorem pmk_own0 {C : Addr} {bmB : List Value} {B newId initId : String} {x : Str} {p pos : Pos} (F : ExcBaseFacts B newId initId bmB) (q : PySem.W.excIn X.K C bmB newId = true) (gC : X.mg x = some (.ref C)) (kC : PySem.W.keepIn X.K (.ref C) = true) (r : Raises X (.ref C)) (hg : Gl X x)
    (hdb : (x == ("__debug__" : Str)) = false := by decide) : PMk X (.Call (.Name x p) [] [] pos) (fun _ H Q => Q (.ref C) none H) := fun pins s σ H Q I h => by
  refine wpAny_Call_Name_kw (ld_glob I hg gC (PySem.W.callWith_K0 I.kIn kC ?_) hdb)
  obtain ⟨bm, N, nm, qn, bs, hdct, sn, sub, ab, col, dd, k0, k1, k2, k3, k5, mN, hC, hN, hni, T⟩ := exc_obj I.kIn q
  exact wpAny_call_exc_subT F T hC hN hni (fun h' e hm => mk_of I hm r h (I.hok.gone hm.new)) (by show 0 ≤ sizeLine; exact Nat.zero_le _)
theorem psd_raise0 {C : Addr} {x : Str} {p pos pos' : Pos} (hc : X.calm = true) (tk : Takes X (WofE E)) (q : PySem.W.excIn X.K C [.type "ValueError", .type "Exception", .type "BaseException", .type "object"] "ValueError.__new__" = true) (gC : X.mg x = some (.ref C)) (kC : PySem.W.keepIn X.K (.ref C) = true)
    (r : Raises X (.ref C)) (hg : Gl X x) (hdb : (x == ("__debug__" : Str)) = false := by decide) : PSd X E (.Raise (some (.Call (.Name x p) [] [] pos)) none pos') (tRaise0D x) :=
  ⟨PS.imp (ps_raise hc tk (pmk_own0 PySem.F.excBase_ValueError q gC kC r hg hdb)) fun D σ H h => by
  obtain ⟨ρ, η, G, Dd, he, w, ht, l⟩ := h
  exact l.er _ ρ G σ (.ref C) none η H (Stp.refl _ _) w he ⟨C, gC, rfl, fun f d e => by cases e⟩ ht⟩
/-- what is known of an own error class whose __init__ stores one field -/
structure ExT (X : Cx) (x f : Str) (C fI : Addr) (fd : FuncData) (ps : List Str) : Prop where
  oex : OexC X.K C
  ini : PySem.W.findIn X.K (.ref C) "__init__" = some (some (.ref fI))
  tyI : PySem.W.typeIn X.K (.ref fI) = some (.type "function")
  mgC : X.mg x = some (.ref C)
  bnd : Binds X.K fd ps []
/-- the promise of such an __init__ -/
def spIni (C : Addr) (f : Str) : Sp := fun vs H Q _ => ∃ (a : Addr) (v : V), vs = [.ref a, v] ∧ H a = some (exo a C none) ∧ ∀ dx, H dx = none → dx ≠ a → Q .non (upd (upd H dx (exd dx [(f, v)])) a (exo a C (some dx)))
theorem psd_raise1 {C fI : Addr} {fd : FuncData} {x f : Str} {ps : List Str} {k : Nat} {p pos pos' : Pos} {e : Expr} {te : TEd} (hc : X.calm = true) (tk : Takes X (WofE E)) (T : ExT X x f C fI fd ps)
    (F1 : FnOk X.prog X.w X.K X.mg X.base (L2.CX X.prog X.w) k fI fd ps (spIni C f)) (hr : Room (k + 1) X.A) (hg : Gl X x) (ha : PEd X E e te) (hdb : (x == ("__debug__" : Str)) = false := by decide)
    (he : starEach (e :: []) X.env = (false, eval e X.env) :: starEach [] X.env := by rfl) (hpl : (backTo pos (starEach [] X.env)).any (·.1) = false := by rfl) :
    PSd X E (.Raise (some (.Call (.Name x p) [e] [] pos)) none pos') (tRaise1D x f te) := by
  have hpa : PA X [e] (tCons (lE X.K X.mg E te) tNil) := pa_cons ha.run pa_nil he
  refine ⟨PS.imp (ps_raise hc tk (pmk_oex T.oex T.ini T.tyI F1 hr T.bnd .nil passL hg T.mgC hpa hdb he hpl)) fun D σ H h => ?_⟩
  obtain ⟨ρ, η, G, Dd, he, w, ht, l⟩ := h
  refine ⟨ρ, η, G, _, _, he, w, ht, fun d G1 v η1 H1 s1 w1 r1 q1 => ?_, l.le he⟩
  refine ⟨by show 1 ≤ 1000; decide, fun a hna => ⟨a, v, rfl, upd_same, fun dx hdx hne => ⟨rfl, dx, [(f, v)], upd_same, by rw [upd_ne hne]; exact upd_same, ?_, ?_⟩⟩⟩
  · have : dx ≠ a := hne
    rw [upd_ne this] at hdx; exact hdx
  · -- the exception's object is let go; its dict stays
    have hdx' : H1 dx = none := by rw [upd_ne hne] at hdx; exact hdx
    have eH : ∀ b, b ≠ dx → upd (del (upd (upd (upd H1 a (exo a C none)) dx (exd dx [(f, v)])) a (exo a C (some dx))) a) dx (.xd [(f, v)]) b = H1 b := by
      intro b hb
      rw [upd_ne hb]
      by_cases hba : b = a
      · rw [hba, del_same, hna]
      · rw [del_ne hba, upd_ne hba, upd_ne hb, upd_ne hba]
    have eH2 : upd (del (upd (upd (upd H1 a (exo a C none)) dx (exd dx [(f, v)])) a (exo a C (some dx))) a) dx (.xd [(f, v)]) = upd H1 dx (.xd [(f, v)]) := by
      funext b
      by_cases hb : b = dx
      · rw [hb, upd_same, upd_same]
      · rw [eH b hb, upd_ne hb]
    have st : Stp η1 H1 η1 (upd H1 dx (.xd [(f, v)])) := Stp.laid hdx'
    show E σ (.ref C) (some dx) _
    rw [eH2]
    refine l.er ⟨x, some (f, d)⟩ ρ G1 σ (.ref C) (some dx) η1 _ (s1.trans st) (w1.laid hdx') (he.step (s1.trans st)) ⟨C, T.mgC, rfl, fun f' d' e' => ?_⟩ q1
    cases e'
    exact ⟨dx, v, rfl, upd_same, Rp.step st _ _ r1⟩
end

structure Cl where
  c : Value
  i : Option Nat
  ts : Addr → Value → Option Addr → TS
def clSet (i : Option Nat) (v : Option V) (σ : St) : St := match i with
  | some j => σ.set j v
  | none => σ
def clEnds (i : Option Nat) (D : Ends) : Ends :=
  ⟨fun σ H => D.nx (clSet i none σ) H, D.rt, fun σ H => D.bk (clSet i none σ) H, fun σ H => D.ct (clSet i none σ) H⟩
def wCl (K : PySem.W.Frag) (Wout : WX) (D : Ends) : List Cl → WX
  | [] => Wout
  | k :: r => fun cls d σ H => ∃ b, PySem.W.exmOne K cls k.c = some b ∧ (b = true → ∀ a, H a = none → k.ts a cls d (clEnds k.i D) (clSet k.i (some (.ref a)) σ) H) ∧ (b = false → wCl K Wout D r cls d σ H)
/-- a clause's name and its slot -/
def ClName (X : Cx) : Option Str → Option Nat → Prop
  | none, none => True
  | some n, some i => X.N[i]? = some n ∧ X.env.kindOf n = some .local
  | _, _ => False
inductive ClsOk (X : Cx) : List ExceptHandler → List Cl → Prop
  | nil : ClsOk X [] []
  | cons {x : Str} {n : Option Str} {k : Cl} {b₀ : Stmt} {suite : List Stmt} {np hp : Pos} {hs : List ExceptHandler} {l : List Cl} (hc : Names X x k.c) (hn : ClName X n k.i)
      (run : ∀ (a : Addr) (oe : Obj) (cls : Value) (d : Option Addr) (pn : List (Addr × Obj)), Zc cls d oe → (∃ vs, oe.data = .fields vs) → PSs (X.suite a ((a, oe) :: pn)) (b₀ :: suite) (k.ts a cls d)) (r : ClsOk X hs l) :
      ClsOk X (.ExceptHandler (some (.Name x np)) n (b₀ :: suite) hp :: hs) (k :: l)
section
variable {X : Cx} {pins : List (Addr × Obj)} {D : Ends} {s : Shared} {a : Addr} {B : Heap} {cls : Value} {d : Option Addr}
/-- behind an except suite: the name goes, if there is one -/
theorem suite_back {n : Option Str} {i : Option Nat} {hp : Pos} {pn : List (Addr × Obj)} {q : Addr × Obj} {f : Flow} (ok : X.Ok) (hN : X.N.Nodup) (hn : ClName X n i) (h : SP (X.suite a (q :: (X.pn ++ pins))) [] (clEnds i D) f s) :
    match n with
    | none => SP X pins D f s
    | some m => wpAny (model X.prog X.w) X.A (do bindName X.env m .none; unbindBehindTheSuite X.env m hp) (fun _ s' => SP X pins D f s') X.xe s := by
  cases n with
  | none =>
    cases i with
    | some _ => exact hn.elim
    | none =>
      cases f with
      | ret u => obtain ⟨v, σ, H, S, r, z⟩ := h; exact ⟨v, σ, H, S.unsuite ok, r, z⟩
      | next => obtain ⟨σ, H, S, z⟩ := h; exact ⟨σ, H, S.unsuite ok, z⟩
      | brk => obtain ⟨σ, H, S, z⟩ := h; exact ⟨σ, H, S.unsuite ok, z⟩
      | cont => obtain ⟨σ, H, S, z⟩ := h; exact ⟨σ, H, S.unsuite ok, z⟩
  | some m =>
    cases i with
    | none => exact hn.elim
    | some j =>
      cases f with
      | ret u => obtain ⟨v, σ, H, S, r, z⟩ := h; exact gone_ok (S.unsuite ok) hN hn.1 hn.2 fun s' J => ⟨v, _, H, J, r, z⟩
      | next => obtain ⟨σ, H, S, z⟩ := h; exact gone_ok (S.unsuite ok) hN hn.1 hn.2 fun s' J => ⟨_, H, J, z⟩
      | brk => obtain ⟨σ, H, S, z⟩ := h; exact gone_ok (S.unsuite ok) hN hn.1 hn.2 fun s' J => ⟨_, H, J, z⟩
      | cont => obtain ⟨σ, H, S, z⟩ := h; exact gone_ok (S.unsuite ok) hN hn.1 hn.2 fun s' J => ⟨_, H, J, z⟩
/-- the clauses, one after the other, on a landed exception -/
theorem clauses_run {σ : St} {H : Hp} {sI s0 : Shared} {Wout : WX} (hst : X.stack = X.env :: X.outer) (hfr : X.env.frame = some X.env.locals) (hN : X.N.Nodup) (tk : Takes X Wout) (ok : X.Ok)
    (J : Inv X pins σ H sI) (nb : ∀ b o, sI.heap.get? b = some o → b ∉ frs X.stack → B.get? b = some o) (up : sI.heap.UpToSlots s.heap) (os : s.os = sI.os) (ag : AllBare s.gens) (na : H a = none)
    (fl : HandSPX.FlyingZ B (X.env :: X.outer) a (Zc cls d) s.heap) (nL : a ≠ X.env.locals) (nF : a ∉ X.fs) :
    ∀ {hs : List ExceptHandler} {l : List Cl}, ClsOk X hs l → wCl X.K Wout D l cls d σ H → wpAny (model X.prog X.w) X.A (handleBy (.ref a) X.env hs) (SP X pins D) X.xe s := by
  have land : ∀ {h : Heap}, HandSPX.FlyingZ B (X.env :: X.outer) a (Zc cls d) h → sI.heap.UpToSlots h → Inv X pins σ H { s with heap := h } := fun f u => J.landed nb f.1 u os ag
  obtain ⟨oe, vs, e1, e2, e3⟩ := fl.there
  have here : Inv X pins σ H s := land fl up
  intro hs l hk
  induction hk with
  | nil =>
    intro w
    have out : wpAny (model X.prog X.w) X.A (setFlight (.ref a) X.env.frame) (fun _ s' => wpAny (model X.prog X.w) X.A (throw (.ref a) : Sem Flow) (SP X pins D) X.xe s') X.xe s := by
      rw [hfr]
      exact HandSPX.setFlight_upZ fl fun h' g u => wpAny_throw (tk _ _ ⟨a, B, sI, pins, σ, H, cls, d, rfl, J, nb, up.trans u, .inr (.inr (by rw [hst]; exact g)), na, os, ag, w⟩)
    refine wpAny_handleBy_nil ?_
    obtain ⟨_, _, _, o2, v2, T, oT, ts, f1, _, f2, f3, _⟩ := id fl
    unfold PySem.passOn
    refine wpAny_bind (wpAny_field f1 f2 f3 ?_)
    have nz : ¬ ((Value.ref T == Value.none) = true) := by simp
    rw [if_neg nz]
    first
      | exact wpAny_bind out
      | exact wpAny_bind (wpAny_pure (wpAny_bind out))
  | @cons x n k b₀ suite np hp hs' l' hc hn run r ih =>
    intro w
    obtain ⟨b, m, yes, no⟩ := w
    have S := here.suite e1 e3 na nL nF
    have ty : PySem.W.Looks (model X.prog X.w) s.heap (typeOf (.ref a)) cls := fun _ _ _ _ kp z => wpAny_typeOf_ref (kp _ _ e1) (by rw [e2.1]; exact z)
    have mt := PySem.W.exm_one (M := model X.prog X.w) here.kIn ty m
    have name : ∀ {Q : Value → Shared → Prop} {E : Value → Shared → Prop}, Q k.c s → wpAny (model X.prog X.w) (X.A.mark (some (.ref a))) (eval (.Name x np) X.env) Q E s := fun {Q E} z => by
      obtain ⟨g, db, hm | ⟨hm, hv, nn⟩⟩ := hc
      · exact ld_glob (X := X.suite a ((a, oe) :: (X.pn ++ pins))) S g hm z db
      · exact ld_blt (X := X.suite a ((a, oe) :: (X.pn ++ pins))) S g hm hv z nn db
    refine wpAny_handleBy_cons (codeAny_handlers_test (name (mt.here ?_))) (fun z => by cases z)
    cases b with
    | false => exact ih (no rfl)
    | true =>
      have fin := fun (oe4 : Obj) (f : Flow) (s6 : Shared) => suite_back (X := X) (pins := pins) (D := D) (s := s6) (a := a) (n := n) (i := k.i) (hp := hp) (pn := X.pn) (q := (a, oe4)) (f := f) ok hN hn
      cases hnn : n with
      | none =>
        subst hnn
        refine codeAny_handlers_suite (HandSPX.lands_againZ fl fun h4 fl4 up4 => ?_)
        obtain ⟨oe4, vs4, g1, g2, g3⟩ := fl4.there
        have S4 := (land fl4 (up.trans up4)).suite g1 g3 na nL nF
        have st : clSet k.i (some (.ref a)) σ = σ := by
          cases hi : k.i with
          | none => rfl
          | some j => rw [hi] at hn; exact hn.elim
        have y := yes rfl a na
        rw [st] at y
        exact wpAny_mono ((run a oe4 cls d (X.pn ++ pins) g2 ⟨_, g3⟩).run [] _ _ H _ S4 y) (fun f s6 z => fin oe4 f s6 z) (fun _ _ z => z.elim)
      | some m' =>
        subst hnn
        cases hi : k.i with
        | none => rw [hi] at hn; exact hn.elim
        | some j =>
          have hn' := hn
          rw [hi] at hn'
          refine codeAny_handlers_suite_as (HandSPX.lands_againZ fl fun h4 fl4 up4 => ?_)
          obtain ⟨oe4, vs4, g1, g2, g3⟩ := fl4.there
          have S4 := (land fl4 (up.trans up4)).suite g1 g3 na nL nF
          refine store_ok (X := X.suite a ((a, oe4) :: (X.pn ++ pins))) (v := .ref a) S4 hN hn'.1 (.inl hn'.2) rfl (fun s5 S5 => ?_) (.inr hn'.2)
          have y := yes rfl a na
          rw [hi] at y
          have q := (run a oe4 cls d (X.pn ++ pins) g2 ⟨_, g3⟩).run [] s5 _ H _ S5 y
          refine wpAny_mono q (fun f s6 z => ?_) (fun _ _ z => z.elim)
          rw [← hi] at z
          exact fin oe4 f s6 z
theorem ps_try_cl {body : List Stmt} {h₀ : ExceptHandler} {hs : List ExceptHandler} {l : List Cl} {pos : Pos} {tb : WX → TS} {Wout : WX} (hst : X.stack = X.env :: X.outer) (hfr : X.env.frame = some X.env.locals) (hN : X.N.Nodup) (tk : Takes X Wout)
    (hb : ∀ (W : WX) (pn : List (Addr × Obj)) (xe : Value → Shared → Prop), Takes (X.tr pn xe) W → PassesOwn (model X.prog X.w) X.A X.env xe → PSs (X.tr pn xe) body (tb W))
    (hh : ClsOk X (h₀ :: hs) l) : PS X (.Try body (h₀ :: hs) [] [] pos) (fun D σ H => tb (wCl X.K Wout D l) D σ H) := by
  refine ⟨fun pins s σ H D I h => wpAny_Try_except ?_⟩
  have ok := I.ok
  have hA : X.A.frames = some (X.env :: X.outer) := by rw [ok.frames, hst]
  let Xe : Value → Shared → Prop := fun e s₁ => wpAny (model X.prog X.w) X.A (noteFrame e X.env) (fun _ s₂ => wpAny (model X.prog X.w) X.A (setFlight e none) (fun _ s₃ => wpAny (model X.prog X.w) X.A (handleBy e X.env (h₀ :: hs)) (SP X pins D) X.xe s₃) X.xe s₂) X.xe s₁
  have caught : Takes (X.tr (X.pn ++ pins) Xe) (wCl X.K Wout D l) := by
    rintro u s' ⟨a, B, sI, pins', σ', H', cls, d, rfl, J', nb, up, sky, na, os, ag, w⟩
    have J : Inv X pins σ' H' sI := J'.ofTry ok
    have sky' : Sky B (X.env :: X.outer) a (Zc cls d) X.env.locals s'.heap := by rw [← hst]; exact sky
    refine Sky.land Zc.steady hA hfr sky' fun h3 fl up3 => ?_
    obtain ⟨oe, vs, e1, _, e3⟩ := fl.there
    have nfr : a ∉ frs (X.env :: X.outer) := fun hm => by
      obtain ⟨_, o', e', nf⟩ := fl.2.2.1.mem hm
      rw [e1] at e'; cases e'
      exact nf _ e3
    refine clauses_run (s := { s' with heap := h3 }) (s0 := s') hst hfr hN tk ok J nb (up.trans up3) os ag na fl (fun z => nfr ?_) (fun z => nfr ?_) hh w
    · exact List.mem_filterMap.mpr ⟨X.env, List.mem_cons_self, by rw [hfr, z]⟩
    · obtain ⟨e, he, q⟩ := List.mem_filterMap.mp z
      exact List.mem_filterMap.mpr ⟨e, List.mem_cons_of_mem _ he, q⟩
  refine wpAny_mono ((hb _ (X.pn ++ pins) Xe caught PassesOwn.looking).run [] s σ H D (I.toTry _) h) (fun f s1 q => ?_) (fun _ _ z => z)
  cases f with
  | next => obtain ⟨σ', H', K', z⟩ := q; exact wpAny_execs_nil ⟨σ', H', K'.ofTry ok, z⟩
  | brk => obtain ⟨σ', H', K', z⟩ := q; exact ⟨σ', H', K'.ofTry ok, z⟩
  | cont => obtain ⟨σ', H', K', z⟩ := q; exact ⟨σ', H', K'.ofTry ok, z⟩
  | ret u => obtain ⟨v, σ', H', K', r, z⟩ := q; exact ⟨v, σ', H', K'.ofTry ok, r, z⟩
end

structure ClD where
  c : Str
  i : Option Nat
  t : Addr → Option Addr → TSd
def clSetD (i : Option Nat) (v : Option Y.D) (ρ : Rho) : Rho := match i with
  | some j => ρ.set j v
  | none => ρ
def clEndsD (i : Option Nat) (D : EndsD) : EndsD :=
  ⟨fun ρ G => D.nx (clSetD i none ρ) G, D.rt, fun ρ G => D.bk (clSetD i none ρ) G, fun ρ G => D.ct (clSetD i none ρ) G, fun _ _ _ => False⟩
/-- the clause's suite on the error e -/
def clRunD (k : ClD) (e : Er) (D : EndsD) (ρ : Rho) (G : GS) : Prop := match k.i with
  | none => ∀ a od, k.t a od (clEndsD none D) ρ G
  | some j => match e.arg with
    | some (f, d) => e.cls = k.c ∧ ∀ a dd, k.t a (some dd) (clEndsD (some j) D) (ρ.set j (some (.exn a dd f d))) G
    | none => False
/-- which class is under which: told once for the errors of a program -/
def handleD (sub : Str → Str → Bool) (D : EndsD) : List ClD → Er → Rho → GS → Prop
  | [], e, ρ, G => D.er e ρ G
  | k :: r, e, ρ, G => if sub e.cls k.c = true then clRunD k e D ρ G else handleD sub D r e ρ G
def tTryD (sub : Str → Str → Bool) (ok : Str → Bool) (t : TSd) (l : List ClD) : TSd := fun D ρ G => t { D with er := fun e ρ' G' => ok e.cls = true ∧ handleD sub D l e ρ' G' } ρ G
structure SubOk (X : Cx) (sub : Str → Str → Bool) (ok : Str → Bool) (hs : List Str) : Prop where
  at_ : ∀ x C h C', ok x = true → h ∈ hs → X.mg x = some (.ref C) → X.mg h = some (.ref C') → PySem.W.exmOne X.K (.ref C) (.ref C') = some (sub x h)
inductive ClsD (X : Cx) : List ExceptHandler → List ClD → Prop
  | nil : ClsD X [] []
  | cons {x : Str} {C : Addr} {n : Option Str} {k : ClD} {b₀ : Stmt} {suite : List Stmt} {np hp : Pos} {hs : List ExceptHandler} {l : List ClD} (hx : x = k.c) (hg : Gl X x) (hm : X.mg x = some (.ref C)) (hdb : (x == ("__debug__" : Str)) = false) (hn : ClName X n k.i)
      (run : ∀ (a : Addr) (oe : Obj) (cls : Value) (d : Option Addr) (pn : List (Addr × Obj)), Zc cls d oe → (∃ vs, oe.data = .fields vs) → (k.i ≠ none → cls = .ref C) → PSsd (X.suite a ((a, oe) :: pn)) EF (b₀ :: suite) (k.t a d)) (r : ClsD X hs l) :
      ClsD X (.ExceptHandler (some (.Name x np)) n (b₀ :: suite) hp :: hs) (k :: l)
section
variable {X : Cx} {E : St → XK}
/-- a clause of data as a clause -/
def toCl (X : Cx) (k : ClD) (C : Addr) : Cl := ⟨.ref C, k.i, fun a cls d D σ H => (k.i ≠ none → cls = .ref C) ∧ lS X.K X.mg EF (k.t a d) D σ H⟩
theorem pss_if_ {Y : Cx} {st : List Stmt} {P : Prop} {t : TS} (h : P → PSs Y st t) : PSs Y st (fun D σ H => P ∧ t D σ H) := ⟨fun pins s σ H D I q => (h q.1).run pins s σ H D I q.2⟩
theorem ClsD.up {hs : List ExceptHandler} {l : List ClD} (h : ClsD X hs l) : ∃ l' : List Cl, ClsOk X hs l' ∧ ∀ (sub : Str → Str → Bool) (ok : Str → Bool), SubOk X sub ok (l.map (·.c)) → ∀ {Wout : WX} {D : Ends} {Dd : EndsD} {η : Eta} {H : Hp} {η' : Eta} {H' : Hp} {σ' : St} {ρ' : Rho} {G' : GS} {e : Er} {cls : Value} {od : Option Addr},
    Lnk X.K X.mg E η H Dd D → (∀ cls od σ H, E σ cls od H → Wout cls od σ H) → Stp η H η' H' → W X.K X.mg η' G' H' → EnvR X.K η' H' σ' ρ' → ErR X.K X.mg η' H' cls od e → ok e.cls = true → handleD sub Dd l e ρ' G' → wCl X.K Wout D l' cls od σ' H' := by
  induction h with
  | nil =>
    refine ⟨[], .nil, fun sub ok so {Wout D Dd η H η' H' σ' ρ' G' e cls od} l hW s w he r hk q => hW _ _ _ _ (l.er e ρ' G' σ' cls od η' H' s w he r q)⟩
  | @cons x C n k b₀ suite np hp hs l hx hg hm hdb hn run r ih =>
    obtain ⟨l', ok', step⟩ := ih
    refine ⟨toCl X k C :: l', .cons ⟨hg, hdb, .inl hm⟩ hn (fun a oe cls d pn hz hf => pss_if_ fun c => (run a oe cls d pn hz hf c).run) ok', fun sub ok so {Wout D Dd η H η' H' σ' ρ' G' e cls od} lk hW s w he r hk q => ?_⟩
    obtain ⟨Ce, h1, h2, h3⟩ := id r
    have m : PySem.W.exmOne X.K cls (.ref C) = some (sub e.cls k.c) := by
      rw [h2]; exact so.at_ e.cls Ce k.c C hk (by simp) h1 (hx ▸ hm)
    refine ⟨sub e.cls k.c, m, fun hb a ha => ?_, fun hb => ?_⟩
    · have q' : clRunD k e Dd ρ' G' := by
        have : (if sub e.cls k.c = true then clRunD k e Dd ρ' G' else handleD sub Dd l e ρ' G') := q
        rw [if_pos hb] at this; exact this
      unfold clRunD at q'
      cases hi : k.i with
      | none =>
        rw [hi] at q'
        refine ⟨fun z => absurd hi z, ρ', η', G', clEndsD none Dd, by show EnvR _ _ _ (clSet k.i _ _) _; rw [hi]; exact he, w, q' a od, ?_⟩
        have l2 := lk.step s
        show Lnk _ _ _ _ _ _ (clEnds k.i D)
        rw [hi]
        exact ⟨l2.nx, l2.rt, l2.bk, l2.ct, fun _ _ _ _ _ _ _ _ _ _ _ _ z => z⟩
      | some j =>
        rw [hi] at q'
        cases ea : e.arg with
        | none => rw [ea] at q'; exact q'.elim
        | some fd =>
          obtain ⟨f, d⟩ := fd
          rw [ea] at q'
          obtain ⟨dd, v, e1, e2, r2⟩ := h3 f d ea
          subst e1
          have hset : EnvR X.K η' H' (clSet k.i (some (.ref a)) σ') (ρ'.set j (some (.exn a dd f d))) := by
            rw [hi]; exact he.set j (d := .exn a dd f d) ⟨rfl, v, e2, r2⟩
          have hcl : cls = .ref C := by
            rw [h2]
            have e1 := h1
            rw [q'.1, ← hx, hm] at e1
            cases e1; rfl
          refine ⟨fun _ => hcl, _, η', G', clEndsD (some j) Dd, hset, w, q'.2 a dd, ?_⟩
          have l2 := lk.step s
          show Lnk _ _ _ _ _ _ (clEnds k.i D)
          rw [hi]
          exact ⟨fun ρ3 G3 σ3 η3 H3 s3 w3 e3 q3 => l2.nx _ G3 _ η3 H3 s3 w3 (e3.unset j) q3, l2.rt, fun ρ3 G3 σ3 η3 H3 s3 w3 e3 q3 => l2.bk _ G3 _ η3 H3 s3 w3 (e3.unset j) q3,
            fun ρ3 G3 σ3 η3 H3 s3 w3 e3 q3 => l2.ct _ G3 _ η3 H3 s3 w3 (e3.unset j) q3, fun _ _ _ _ _ _ _ _ _ _ _ _ z => z⟩
    · have q' : handleD sub Dd l e ρ' G' := by
        have : (if sub e.cls k.c = true then clRunD k e Dd ρ' G' else handleD sub Dd l e ρ' G') := q
        rw [if_neg (by rw [hb]; decide)] at this; exact this
      exact step sub ok ⟨fun x C h C' h0 hm => so.at_ x C h C' h0 (List.mem_cons_of_mem _ hm)⟩ lk hW s w he r hk q'
theorem psd_try {body : List Stmt} {h₀ : ExceptHandler} {hs : List ExceptHandler} {l : List ClD} {pos : Pos} {t : TSd} {sub : Str → Str → Bool} {okc : Str → Bool} (hst : X.stack = X.env :: X.outer) (hfr : X.env.frame = some X.env.locals) (hN : X.N.Nodup) (tk : Takes X (WofE E))
    (so : SubOk X sub okc (l.map (·.c)))
    (hb : ∀ (W : WX) (pn : List (Addr × Obj)) (xe : Value → Shared → Prop), Takes (X.tr pn xe) W → PassesOwn (model X.prog X.w) X.A X.env xe → PSsd (X.tr pn xe) (fun σ cls d H => W cls d σ H) body t)
    (hh : ClsD X (h₀ :: hs) l) : PSd X E (.Try body (h₀ :: hs) [] [] pos) (tTryD sub okc t l) := by
  obtain ⟨l', ok', step⟩ := hh.up (E := E)
  refine ⟨PS.imp (ps_try_cl (tb := fun W => lS X.K X.mg (fun σ cls d H => W cls d σ H) t) hst hfr hN tk (fun W pn xe h1 h2 => (hb W pn xe h1 h2).run) ok') fun D σ H h => ?_⟩
  obtain ⟨ρ, η, G, Dd, he, w, ht, lk⟩ := h
  refine ⟨ρ, η, G, _, he, w, ht, lk.nx, lk.rt, lk.bk, lk.ct, ?_⟩
  intro e ρ' G' σ' cls od η' H' s' w' he' r ⟨k1, k2⟩
  exact step sub okc so lk (fun _ _ _ _ h => h) s' w' he' r k1 k2
/-- e.f in an except suite -/
def tExnD (a : Addr) (od : Option Addr) (f : Str) (te : TEd) : TEd := fun ρ G Q Ed => te ρ G (fun x G1 => match x with
  | .exn a' dd g d => a' = a ∧ od = some dd ∧ g = f ∧ Q d G1
  | _ => False) Ed
theorem ped_exn {a C : Addr} {oe : Obj} {cls : Value} {d : Option Addr} {pn : List (Addr × Obj)} {e : Expr} {te : TEd} {pos : Pos} {n : Str} (T : XfC X.K C) (hno : PySem.W.findIn X.K (.ref C) n = some none)
    (hz : Zc cls d oe) (hf : ∃ vs, oe.data = .fields vs) (hcl : cls = .ref C) (he : PEd (X.suite a ((a, oe) :: pn)) EF e te) (hb : attributeBase e n X.env (eval e X.env) = eval e X.env := by rfl) :
    PEd (X.suite a ((a, oe) :: pn)) EF (.Attribute e n pos) (tExnD a d n te) := ⟨PE.imp (pe_xf T hno hz hf he.run hb) fun σ H Q h => by
  obtain ⟨ρ, η, G, Qd, Ed, he, w, ht, hq, hE⟩ := h
  refine ⟨ρ, η, G, _, Ed, he, w, ht, fun x G1 v η1 H1 s1 w1 r1 q1 => ?_, hE⟩
  cases x with
  | exn a' dd g d' =>
    obtain ⟨rfl, rfl, rfl, q⟩ := q1
    obtain ⟨rfl, u, hd, ru⟩ := r1
    exact ⟨rfl, hcl, dd, _, u, rfl, hd, by simp [List.lookup], (hq.step s1).now w1 ru q⟩
  | _ => exact q1.elim⟩
end
end Y


namespace PySem
open Sem (wp)
theorem meets_enum_one {v : Value} {o : Obj} {H : Heap → Prop} (B : Begins v o H) :
    Meets (Builtin.«enumerate.__new__» ⟨[.type "enumerate", v], []⟩) (fun _ R s => H s.heap ∧
      R (.ok (.ret (.ref (s.heap.push o).objs.size))) { s with heap := (s.heap.push o).push { cls := .type "enumerate", data := .fields #[.none, .bool false, .ref s.heap.objs.size, rawInt 0, .none, .none] } }) :=
  .of_wp fun prog w A R s hh => by
    obtain ⟨hp, g, d, tk, os⟩ := s
    obtain ⟨h1, h⟩ := hh
    have hsub := sub_enumerate
    have begin1 : ∀ {A' : Around} {E : Value → Shared → Prop} {Q : Value → Shared → Prop}, Q (.ref hp.objs.size) ⟨hp.push o, g, d, tk, os⟩ → wpAny (model prog w) A' (pyIter v) Q E ⟨hp, g, d, tk, os⟩ :=
      fun q => B.iter prog w _ _ _ _ h1 q
    wp_walk using begin1
    refine wpAny_stack_any fun st => wpAny_pure ?_
    split
    · rename_i c _ _ _ _ _
      cases (c == Value.type "enumerate") <;> (wp_walk using begin1; exact ⟨_, rfl, h⟩)
    · wp_walk using begin1
      exact ⟨_, rfl, h⟩
end PySem

namespace Y
open PySem PySem.Spec L2
open PyProof.Rows hiding St

section
variable {prog : Program} {w : World} {A : Around} {E : Value → Shared → Prop} {s : Shared}
theorem call_enum_tuple {t : Addr} {items : Array Value} {Q : Value → Shared → Prop} (ht : s.heap.IsTuple t items)
    (h : ∀ h', IsEnum h' (s.heap.objs.size + 1) s.heap.objs.size ((0 : Nat) : Int) .none → h'.IsTupleIter s.heap.objs.size t 0 → (∀ b o, s.heap.get? b = some o → h'.get? b = some o) → Q (.ref (s.heap.objs.size + 1)) { s with heap := h' }) :
    wpAny (model prog w) A (call (.type "enumerate") [.ref t]) Q E s := by
  refine callType_new F.called_enumerate (by decide) (F.typeCall_enumerate_1 _) (F.newCall_enumerate_1 _) (fun obj => F.args_object_init_2 obj _) F.entry_enumerate_new (meets_enum_one (begins_tuple t items)) ⟨ht, ?_⟩
  let o1 : Obj := { cls := .type "tuple_iterator", data := .fields #[.ref t, .int 0 0] }
  let o2 : Obj := { cls := .type "enumerate", data := .fields #[.none, .bool false, .ref s.heap.objs.size, rawInt 0, .none, .none] }
  have hz : (s.heap.push o1).objs.size = s.heap.objs.size + 1 := Heap.size_push ..
  have g2 : ((s.heap.push o1).push o2).get? (s.heap.objs.size + 1) = some o2 := by
    have := Heap.get?_push_size (s.heap.push o1) (o := o2) rfl
    rw [hz] at this; exact this
  show _ ∧ _
  rw [hz]
  exact ⟨⟨_, g2, rfl⟩, h _ g2 ⟨_, Heap.get?_push_of_some _ (Heap.get?_push_size _ rfl), rfl, rfl⟩ fun b x y => Heap.get?_push_of_some _ (Heap.get?_push_of_some _ y)⟩
end
/-- a tuple's items, each in a new pair with its place -/
def ItEnT (K : PySem.W.Frag) (a : Addr) : It :=
  ⟨fun i H => ∃ (xs : List V) (x : V), SqT K H a xs ∧ xs[i]? = some x, fun i H v H' => ∃ T x, v = .ref T ∧ H T = none ∧ H' = upd H T (.tup [.int (i : Nat), x]) ∧ ∀ xs, SqT K H a xs → xs[i]? = some x,
    fun i H => ∃ xs : List V, SqT K H a xs ∧ xs.length ≤ i⟩
theorem turn_enT {P : Program} {w : World} {K : PySem.W.Frag} {elts : List Expr} {kk : Nat} {tpos : Pos} (a e it : Addr) :
    Turn P w K (.Tuple elts kk tpos) (ItEnT K a) [e, it] e (fun i h => (∃ old, IsEnum h e it ((i : Nat) : Int) old) ∧ h.IsTupleIter it a i ∧ e ≠ it) where
  mem := List.mem_cons_self
  obj := fun i h st b hb => by
    obtain ⟨⟨old, he⟩, ⟨o, ho, hc, hd⟩, _⟩ := st
    rcases List.mem_cons.mp hb with z | z
    · subst z; exact ⟨_, he, fun v q => nomatch q⟩
    · have z' : b = it := by simpa using z
      subst z'; exact ⟨o, ho, fun v q => by rw [hd] at q; cases q⟩
  keep := fun i h h' st k => by
    obtain ⟨⟨old, he⟩, hi, ne⟩ := st
    exact ⟨⟨old, k e List.mem_cons_self _ he⟩, hi.at fun o q => k it (List.mem_cons_of_mem _ List.mem_cons_self) o q, ne⟩
  item := fun X hP hw hK hc i pins s σ H E I hf st hg => by
    subst hP hw hK
    obtain ⟨⟨old, he⟩, hit, ne⟩ := st
    obtain ⟨xs, x, hq, hx⟩ := hg
    obtain ⟨its, rv, p, hz⟩ := I.tuple hq
    obtain ⟨u, hu, ru⟩ := rv.get hx
    have hh : X.A.in1.handled = none := I.ok.hd hc
    have ea : e ≠ a := fun z => by
      obtain ⟨o, ho, hcl, _⟩ := p
      have he' : s.heap.get? e = some _ := he
      rw [z, ho] at he'; cases he'; exact absurd (Value.type.inj hcl) (by decide)
    have ai : a ≠ it := fun z => by
      obtain ⟨o, ho, hcl, _⟩ := p
      obtain ⟨o', ho', hcl', _⟩ := hit
      rw [z, ho'] at ho; cases ho; rw [hcl'] at hcl; exact absurd (Value.type.inj hcl) (by decide)
    have hlt : i < its.toArray.size := by simpa using (List.getElem?_eq_some_iff.mp hu).1
    have hel : e < s.heap.objs.size := Heap.lt_size he
    refine wpAny_pyNext_enum_itemD (Draws.tuple hh it a ai its.toArray) he ⟨hit, p⟩ hlt ne (fun z => ?_) fun y h' tk hy ho hst hT hsz hk => ?_
    · rcases List.mem_cons.mp z with z | z
      · exact ne z
      · exact ea (by simpa using z)
    have ey : y = u := by
      have : its[i]? = some y := by simpa using hy
      rw [hu] at this; cases this; rfl
    subst ey
    refine ⟨_, rfl, wpAny_letOwnedTupleGo_enum (s := { s with heap := h', toks := tk + 1 }) ho fun h'' he' sb => ?_⟩
    have hT2 : h''.get? s.heap.objs.size = some { cls := .type "tuple", data := .seq #[.int i tk, y] } := (sb.2 _ (Nat.ne_of_gt hel)).trans hT
    have new : ObjOk X.prog X.w (upd H s.heap.objs.size (.tup [.int (i : Nat), x])) h'' s.heap.objs.size (.tup [.int (i : Nat), x]) :=
      ⟨by show 2 ≤ sizeLine; decide, [.int i tk, y], .cons ⟨_, rfl⟩ (.cons ru .nil), ⟨_, hT2, rfl, _, rfl⟩⟩
    have I1 : Inv X pins σ (upd H s.heap.objs.size (.tup [.int (i : Nat), x])) { s with heap := h'', toks := tk + 1 } :=
      I.turnedNew (ch := [e, it]) (fun b ob hb q => (sb.2 b (fun z => hb (z ▸ List.mem_cons_self))).trans (hk b ob (fun z => hb (z ▸ List.mem_cons_self)) (fun z => hb (by simp [z])) q)) hf (Nat.le_refl _) new
    have hlast : ((i + 1 : Nat) : Int) = (i : Int) + 1 := by omega
    refine ⟨.ref s.heap.objs.size, _, I1, rfl, ⟨_, x, rfl, I.hok.fresh (Nat.le_refl _), rfl, fun ys hy2 => by rw [I.tuple_inj hy2 hq]; exact hx⟩, ⟨⟨y, by rw [hlast]; exact he'⟩, hst.1.at fun o q => (sb.2 it (Ne.symm ne)).trans q, ne⟩, fun b hb => ?_⟩
    have hb' : b < s.heap.objs.size := by
      rcases List.mem_cons.mp hb with z | z
      · rw [z]; exact hel
      · have z' : b = it := by simpa using z
        rw [z']; obtain ⟨_, q, _⟩ := hit; exact Heap.lt_size q
    rw [upd_ne (Nat.ne_of_lt hb')]
    exact (hf b hb).1
  done := fun X hP hw hK hc i pins s σ H E I hf st hg => by
    subst hP hw hK
    obtain ⟨⟨old, he⟩, hit, ne⟩ := st
    obtain ⟨xs, hq, hx⟩ := hg
    obtain ⟨its, rv, p, hz⟩ := I.tuple hq
    have ai : a ≠ it := fun z => by
      obtain ⟨o, ho, hcl, _⟩ := p
      obtain ⟨o', ho', hcl', _⟩ := hit
      rw [z, ho'] at ho; cases ho; rw [hcl'] at hcl; exact absurd (Value.type.inj hcl) (by decide)
    obtain ⟨f0, f1, f2, f3, f4, f5⟩ := hf it (List.mem_cons_of_mem _ List.mem_cons_self)
    have hl := rv.length
    -- at its end the iterator draws nothing more
    have hh : X.A.in1.handled = none := I.ok.hd hc
    have D : Draws X.prog X.w X.A.in1 it [it, a] i (fun j v => its.toArray[j]? = some v ∧ j < i) (fun j h => h.IsTupleIter it a j ∧ h.IsTuple a its.toArray ∧ j = i) :=
      { live := fun _ _ st => let ⟨o, ho, _⟩ := st.1; ⟨o, ho⟩
        frame := fun _ _ _ st hk => ⟨st.1.at fun o e => hk it (by simp) o e, st.2.1.at fun o e => hk a (by simp) o e, st.2.2⟩
        item := fun j s Q E hj st _ => absurd st.2.2 (Nat.ne_of_lt hj)
        done := fun s Q E st hE => wpAny_nextOf_tuple_end hh st.1 st.2.1 (by simp; omega) hE }
    exact wpAny_pyNext_enum_endD D he ⟨hit, p, rfl⟩ fun h' eb => ⟨rfl, I.turned (t' := s.toks) (fun b o hb q => eb b o hb q) f0 f1 f3 f4 f5⟩
  self := fun A i s Q E st h => let ⟨⟨_, he⟩, _⟩ := st; wpAny_pyIter_enum he h
def iEnumA (K : PySem.W.Frag) (ta : TA) : TI := fun σ H R => ta σ H fun vs H1 => ∃ a, vs = [.ref a] ∧ ((∃ xs, SqL K H1 a xs ∧ R (Ite K a) H1) ∨ (∃ xs, SqT K H1 a xs ∧ R (ItEnT K a) H1))
section
variable {X : Cx} {E : St → XK} {e : Expr} {p pos tpos : Pos} {elts : List Expr} {kk : Nat}
theorem pi_enumA {ta : TA} (hg : Gl X "enumerate") (hm : X.mg "enumerate" = none) (ha : PA X [e] ta) (hs : starEach [e] X.env = [(false, eval e X.env)] := by rfl) :
    PI X (.Tuple elts kk tpos) (.Call (.Name "enumerate" p) [e] [] pos) (iEnumA X.K ta) := by
  refine ⟨fun pins s σ H R I h => Call_ (ld_blt I hg hm boot_enumerate (PyProof.Rows.callWith_type1 (thn (ha.run pos pins s σ H _ I h) fun us s1 hx => ?_) hs rfl))⟩
  obtain ⟨vs, H1, I1, r1, a, rfl, q⟩ := hx
  obtain rfl := Vals.ref1 r1
  have fresh : ∀ b ∈ [s1.heap.objs.size + 1, s1.heap.objs.size], FpOk X pins H1 b := fun b hb => by
    have hle : s1.heap.objs.size ≤ b := by
      rcases List.mem_cons.mp hb with z | z
      · omega
      · have z' : b = s1.heap.objs.size := by simpa using z
        omega
    exact I1.fpOk hle (I1.hok.fresh hle)
  rcases q with ⟨xs, hq, q⟩ | ⟨xs, hq, q⟩
  · obtain ⟨its, rv, pl, hz⟩ := I1.list hq
    refine call_enumerate_list pl.isList fun h' he hit hsz hk => wpAny_pyIter_enum he ?_
    exact ⟨_, _, _, _, H1, rfl, I1.kept (t' := s1.toks) hk, turn_enum a (s1.heap.objs.size + 1) s1.heap.objs.size, ⟨⟨.none, he⟩, hit, Nat.succ_ne_self _⟩, fresh, q⟩
  · obtain ⟨its, rv, pl, hz⟩ := I1.tuple hq
    refine call_enum_tuple pl fun h' he hit hk => wpAny_pyIter_enum he ?_
    exact ⟨_, _, _, _, H1, rfl, I1.kept (t' := s1.toks) hk, turn_enT a (s1.heap.objs.size + 1) s1.heap.objs.size, ⟨⟨.none, he⟩, hit, Nat.succ_ne_self _⟩, fresh, q⟩
/-- (0, x), (1, y), .. -/
def enumD : Nat → List D → List D
  | _, [] => []
  | i, d :: ds => .tup [.int (i : Int), d] :: enumD (i + 1) ds
theorem enumD_length : ∀ (i : Nat) (ds : List D), (enumD i ds).length = ds.length
  | _, [] => rfl
  | i, d :: ds => by simp [enumD, enumD_length (i + 1) ds]
theorem enumD_get : ∀ (ds : List D) (i j : Nat) (d : D), ds[j]? = some d → (enumD i ds)[j]? = some (.tup [.int ((i + j : Nat) : Int), d])
  | [], i, j, d, h => by simp at h
  | x :: ds, i, 0, d, h => by simp at h; subst h; simp [enumD]
  | x :: ds, i, j + 1, d, h => by
    have := enumD_get ds (i + 1) j d (by simpa using h)
    simp only [enumD, List.getElem?_cons_succ]
    rw [this]
    congr 4
    omega
def iEnumD (te : TAd) : TId := fun ρ G Q Ed => te ρ G (fun ds G1 => match ds with
  | [d] => match d with | .tup xs => Q (enumD 0 xs) G1 | .lst xs => Q (enumD 0 xs) G1 | _ => False
  | _ => False) Ed
theorem enum_it {K : PySem.W.Frag} {mg : Str → Option Value} {η' : Eta} {H' : Hp} {ds : List D} {vs : List V} {i : Nat} {T : Addr} {x : V} (r : RpL K η' H' ds vs) (hT : H' T = none) (hx : vs[i]? = some x) :
    ∃ d, (enumD 0 ds)[i]? = some d ∧ Stp η' H' η' (upd H' T (.tup [.int (i : Nat), x])) ∧ (∀ G, W K mg η' G H' → W K mg η' G (upd H' T (.tup [.int (i : Nat), x]))) ∧ Rp K η' (upd H' T (.tup [.int (i : Nat), x])) d (.ref T) := by
  obtain ⟨d, h1, h2⟩ := r.getV hx
  refine ⟨_, enumD_get ds 0 i d h1, Stp.laid hT, fun G w => w.laid hT, Rp.tupNew hT ⟨_, _, rfl, ?_, _, _, rfl, h2, rfl⟩⟩
  show V.int _ = V.int _
  simp
theorem pid_enum (hm : X.mg "enumerate" = none) (hg : Gl X "enumerate") {ta : TAd} (ha : PAd X E [e] ta) (hs : starEach [e] X.env = [(false, eval e X.env)] := by rfl) :
    PId X E (.Tuple elts kk tpos) (.Call (.Name "enumerate" p) [e] [] pos) (iEnumD ta) := ⟨PI.imp (pi_enumA hg hm ha.run hs) fun σ H R h => by
  obtain ⟨ρ, η, G, Qd, Ed, he, w, ht, hq, hE⟩ := h
  refine ⟨ρ, η, G, _, Ed, he, w, ht, fun ds G1 vs η1 H1 s1 w1 r1 q1 => ?_, hE⟩
  split at q1
  · rename_i d
    obtain ⟨v, rfl, rr⟩ := rpl1 r1
    clear r1
    split at q1
    · rename_i xs
      obtain ⟨a, us, rfl, hq', hr⟩ := rr
      refine ⟨a, rfl, .inr ⟨us, hq', hq _ G1 _ η1 H1 s1 w1 ?_ q1⟩⟩
      intro η' H' i sw
      have hl : SqT X.K H' a us := SqT.stepw sw hq'
      have e := hr.length
      rw [enumD_length]
      refine ⟨fun h => ⟨us, us[i]'(by omega), hl, List.getElem?_eq_getElem _⟩, fun h => ⟨us, hl, by omega⟩, fun x H'' y hi => ?_⟩
      obtain ⟨T, x', rfl, hT, rfl, hx⟩ := y
      exact enum_it (RpL.stepw sw _ _ hr) hT (hx us hl)
    · rename_i xs
      obtain ⟨a, us, rfl, ho, hq', hr⟩ := rr
      refine ⟨a, rfl, .inl ⟨us, SqL.of hq', hq _ G1 _ η1 H1 s1 w1 ?_ q1⟩⟩
      intro η' H' i sw
      have hl : SqL X.K H' a us := SqL.of (sw.keep _ _ hq' (.inl ho))
      have e := hr.length
      rw [enumD_length]
      refine ⟨fun h => ⟨us, us[i]'(by omega), hl, List.getElem?_eq_getElem _⟩, fun h => ⟨us, hl, by omega⟩, fun x H'' y hi => ?_⟩
      obtain ⟨T, x', rfl, hT, rfl, hx⟩ := y
      exact enum_it (RpL.stepw sw _ _ hr) hT (hx us hl)
    · exact q1.elim
  · exact q1.elim⟩
end

section
variable {X : Cx} {E : St → XK} {elt tg iter tg1 iter1 : Expr} {ifs ifs1 : List Expr} {scope : Scope} {own : List (Str × Nat)} {vs1 : List Nat} {pos : Pos} {wi wi1 : TId} {g g1 : TG} {gd gd1 : TGd} {tt tt1 : TTd} {te : TEd}
theorem ped_lc2 (hc : X.calm = true) (hN : X.N.Nodup) (hi : PId X E tg iter wi) (ok : BlkOk X.N X.env.scope scope own) (hv : ∀ i ∈ vs1, i ∈ own.map (·.2))
    (hg : ∀ (s : Shared) (H : Hp) (C : Addr) (cl : List (Str × Addr)) (fp : List Addr), PG (X.blk s H scope (compEnvC scope cl C X.env) fp) tg g) (hct : CTg X.K X.mg (own.map (·.2)) g gd)
    (ht : ∀ (s : Shared) (H : Hp) (C : Addr) (cl : List (Str × Addr)) (fp : List Addr), PTsd (X.blk s H scope (compEnvC scope cl C X.env) fp) EF ifs tt)
    (hi1 : ∀ (s : Shared) (H : Hp) (C : Addr) (cl : List (Str × Addr)) (fp : List Addr), PId (X.blk s H scope (compEnvC scope cl C X.env) fp) EF tg1 iter1 wi1)
    (hg1 : ∀ (s : Shared) (H : Hp) (C : Addr) (cl : List (Str × Addr)) (fp : List Addr), PG (X.blk s H scope (compEnvC scope cl C X.env) fp) tg1 g1) (hct1 : CTg X.K X.mg vs1 g1 gd1)
    (ht1 : ∀ (s : Shared) (H : Hp) (C : Addr) (cl : List (Str × Addr)) (fp : List Addr), PTsd (X.blk s H scope (compEnvC scope cl C X.env) fp) EF ifs1 tt1)
    (he : ∀ (s : Shared) (H : Hp) (C : Addr) (cl : List (Str × Addr)) (fp : List Addr), PEd (X.blk s H scope (compEnvC scope cl C X.env) fp) EF elt te)
    (hs : ∀ x, foldedSetIterable iter X.env x = pure x := by intro _; rfl) (hs1 : ∀ env x, foldedSetIterable iter1 env x = pure x := by intro _ _; rfl) :
    PEd X E (.ListComp elt [⟨tg, iter, ifs, 0⟩, ⟨tg1, iter1, ifs1, 0⟩] scope pos) (tLc2D wi gd tt wi1 gd1 tt1 te (own.map (·.2)) vs1) :=
  ⟨PE.imp (pe_lc2 hc hN hi.run ok hv hg (fun s H C cl fp => (ht s H C cl fp).run) (fun s H C cl fp => (hi1 s H C cl fp).run) hg1 (fun s H C cl fp => (ht1 s H C cl fp).run) (fun s H C cl fp => (he s H C cl fp).run) hs hs1) fun _ _ _ h => lc2_imp hct hct1 h⟩
theorem psd_setLc2 {i : Nat} {y : Str} {py spos : Pos} (hc : X.calm = true) (hN : X.N.Nodup) (hy : X.N[i]? = some y) (hyl : X.env.scope.names.lookup y = some .local)
    (hsw : swapsWith (.ListComp elt [⟨tg, iter, ifs, 0⟩, ⟨tg1, iter1, ifs1, 0⟩] scope pos) (some (.Name y py)) spos.line X.env = pure true) (hi : PId X E tg iter wi) (ok : BlkOk X.N X.env.scope scope own) (hv : ∀ i ∈ vs1, i ∈ own.map (·.2))
    (hg : ∀ (s : Shared) (H : Hp) (C : Addr) (cl : List (Str × Addr)) (fp : List Addr), PG (X.blk s H scope (compEnvC scope cl C X.env) fp) tg g) (hct : CTg X.K X.mg (own.map (·.2)) g gd)
    (ht : ∀ (s : Shared) (H : Hp) (C : Addr) (cl : List (Str × Addr)) (fp : List Addr), PTsd (X.blk s H scope (compEnvC scope cl C X.env) fp) EF ifs tt)
    (hi1 : ∀ (s : Shared) (H : Hp) (C : Addr) (cl : List (Str × Addr)) (fp : List Addr), PId (X.blk s H scope (compEnvC scope cl C X.env) fp) EF tg1 iter1 wi1)
    (hg1 : ∀ (s : Shared) (H : Hp) (C : Addr) (cl : List (Str × Addr)) (fp : List Addr), PG (X.blk s H scope (compEnvC scope cl C X.env) fp) tg1 g1) (hct1 : CTg X.K X.mg vs1 g1 gd1)
    (ht1 : ∀ (s : Shared) (H : Hp) (C : Addr) (cl : List (Str × Addr)) (fp : List Addr), PTsd (X.blk s H scope (compEnvC scope cl C X.env) fp) EF ifs1 tt1)
    (he : ∀ (s : Shared) (H : Hp) (C : Addr) (cl : List (Str × Addr)) (fp : List Addr), PEd (X.blk s H scope (compEnvC scope cl C X.env) fp) EF elt te)
    (hs : ∀ x, foldedSetIterable iter X.env x = pure x := by intro _; rfl) (hs1 : ∀ env x, foldedSetIterable iter1 env x = pure x := by intro _ _; rfl) :
    PSd X E (.Assign [.Name y py] (.ListComp elt [⟨tg, iter, ifs, 0⟩, ⟨tg1, iter1, ifs1, 0⟩] scope pos) spos) (tSetD i (tLc2D wi gd tt wi1 gd1 tt1 te (own.map (·.2)) vs1)) :=
  ⟨PS.imp (ps_setLc2 hc hN hy hyl hsw hi.run ok hv hg (fun s H C cl fp => (ht s H C cl fp).run) (fun s H C cl fp => (hi1 s H C cl fp).run) hg1 (fun s H C cl fp => (ht1 s H C cl fp).run) (fun s H C cl fp => (he s H C cl fp).run) hs hs1) fun _ _ _ h => setLc_imp (fun h => lc2_imp hct hct1 h) h⟩
end
end Y


namespace Y
open PySem PyProof.Rows SrtO
section
variable {prog : Program} {w : World} {A : Around} {E : Value → Shared → Prop} {s : Shared}
theorem sorted_seq {l : Addr} {T : String} {o : Obj} {vs : List Value} {n : Nat} {lt : Value → Value → Bool} {Q : Value → Shared → Prop} (O : Swo lt) (hT : T = "list" ∨ T = "tuple") (ho : s.heap.get? l = some o) (hc : o.cls = .type T) (hd : o.data = .seq vs.toArray n) (hz : vs.length ≤ sizeLine)
    (hS : 2 ≤ vs.length → ∀ (g : Heap) (a : Addr), (∀ b u, s.heap.get? b = some u → b ≠ a ∧ g.get? b = some u) → SortableO prog w A.in1.in1 { s with heap := g } a vs lt)
    (h : ∀ (out : List Value) (h1 h2 : Heap) (e : Nat), Srtd lt out → Stb lt out vs → (∀ b u, s.heap.get? b = some u → h1.get? b = some u) → (∀ b u, h1.get? b = some u → h2.get? b = some u) →
      h2.get? h1.objs.size = some (seqObj "list" out.toArray e) → Q (.ref h1.objs.size) { s with heap := h2 }) :
    wpAny (model prog w) A (call (.builtin "sorted") [.ref l]) Q E s := by
  refine Calls.call_function_entry kind_sorted plain_sorted entry_sorted (args_sorted1 _) ?_
  unfold Builtin.«sorted»
  refine wpAny_bind (m := checkCount _ _ _ _) (wpAny_pure (wpAny_bind (wpAny_collect_seq l hT ho hc hd (fun h1 k1 => ?_) (by rw [List.size_toArray]; exact hz))))
  rw [List.toList_toArray]
  refine wpAny_bind (wpAny_newList ?_ hz)
  have at2 : (h1.push (seqObj "list" vs.toArray 0)).get? h1.objs.size = some (seqObj "list" vs.toArray 0) := Heap.get?_push_size _ rfl
  have k2 : ∀ b u, s.heap.get? b = some u → b ≠ h1.objs.size ∧ (h1.push (seqObj "list" vs.toArray 0)).get? b = some u := fun b u q => ⟨Nat.ne_of_lt (Heap.lt_size (k1 b u q)), Heap.get?_push_of_some _ (k1 b u q)⟩
  refine wpAny_bind (wpAny_holding (wpAny_call_entry slot_list_sort ⟨_, at2, rfl⟩ entry_list_sort (list_sort_ord O at2 hz (fun h2 => hS h2 _ _ k2) fun out a b => ⟨.none, rfl, ?_⟩) (args_list_sort _)))
  obtain ⟨e, he⟩ := sortedHeap_at (vs := vs) (out := out.toArray) at2
  exact wpAny_pure ⟨_, rfl, h out h1 _ e a b k1 (fun b u q => by
    rw [sortedHeap_old (Nat.ne_of_lt (Heap.lt_size q)) (Heap.lt_size (Heap.get?_push_of_some _ q))]
    exact Heap.get?_push_of_some _ q) he⟩
end
end Y

namespace Y
open PySem PySem.Spec L2
open PyProof.Rows hiding St
theorem sorted_uniq : ∀ {l1 l2 : List Int}, l1.Perm l2 → l1.Pairwise (· ≤ ·) → l2.Pairwise (· ≤ ·) → l1 = l2
  | [], l2, p, _, _ => by rw [p.nil_eq]
  | a :: r, [], p, _, _ => absurd p.length_eq (by simp)
  | a :: r, b :: t, p, h1, h2 => by
    have ha : a ∈ b :: t := p.mem_iff.mp (.head _)
    have hb : b ∈ a :: r := p.mem_iff.mpr (.head _)
    have e : a = b := by
      rcases List.mem_cons.mp ha with e | m
      · exact e
      · rcases List.mem_cons.mp hb with e | m'
        · exact e.symm
        · have := List.rel_of_pairwise_cons h1 m'
          have := List.rel_of_pairwise_cons h2 m
          omega
    subst e
    rw [sorted_uniq (List.perm_cons a |>.mp p) h1.of_cons h2.of_cons]
def sortI (ns : List Int) : List Int := ns.mergeSort (fun a b => decide (a ≤ b))
theorem sortI_perm (ns : List Int) : (sortI ns).Perm ns := List.mergeSort_perm _ _
theorem sortI_sorted (ns : List Int) : (sortI ns).Pairwise (· ≤ ·) := by
  have := List.pairwise_mergeSort (le := fun a b : Int => decide (a ≤ b)) (fun a b c h1 h2 => by simp at *; omega) (fun a b => by simp; omega) ns
  exact this.imp (by simp)
def rSortedD : List D → GS → QD → Prop := fun ds G Q => match ds with
  | [d] => match itemsD G d with
    | some xs => (match intsD xs with | some ns => Q (.lst ((sortI ns).map .int)) G | none => False)
    | none => False
  | _ => False
abbrev hSorted (X : Cx) : List V → Hp → VK → Prop := fun vs H Q => ∃ (a : Addr) (ns : List Int), vs = [V.ref a] ∧ (SqT X.K H a (ns.map V.int) ∨ SqL X.K H a (ns.map V.int)) ∧ ∀ p, H p = none → Q (.ref p) (upd H p (.lst ((sortI ns).map V.int)))
section
variable {X : Cx}
theorem oSorted : CallR X (.builtin "sorted") (hSorted X) := by
  intro pins s σ H vs us Q I r h
  obtain ⟨a, ns, rfl, hs, q⟩ := h
  obtain ⟨T, o, n, its, hT, ho, hc, hd, rv, hz⟩ : ∃ (T : String) (o : Obj) (n : Nat) (its : List Value), (T = "list" ∨ T = "tuple") ∧ s.heap.get? a = some o ∧ o.cls = .type T ∧ o.data = .seq its.toArray n ∧ Vals (ns.map V.int) its ∧ (ns.map V.int).length ≤ sizeLine := by
    rcases hs with hs | hs
    · obtain ⟨its, rv, ⟨o, ho, hc, n, hd⟩, hz⟩ := I.tuple hs
      exact ⟨"tuple", o, n, its, .inr rfl, ho, hc, hd, rv, hz⟩
    · obtain ⟨its, rv, ⟨o, n, ho, hc, _, hd⟩, hz⟩ := I.list hs
      exact ⟨"list", o, n, its, .inl rfl, ho, hc, hd, rv, hz⟩
  rw [Vals.ref1 r]
  have hi := rv.ints
  refine sorted_seq SrtO.swo_int hT ho hc hd (by rw [← rv.length]; exact hz) (fun h2 _ _ _ => SrtO.ints_sortable hi h2) fun out h1 h2 e a1 a2 k1 k2 at_ => ?_
  obtain ⟨i1, i2, i3⟩ := SrtO.ints_out hi a1 a2
  have eq : out.map SrtO.iv = sortI ns := sorted_uniq (i2.trans (sortI_perm ns).symm) i3 (sortI_sorted ns)
  rw [eq] at i1 i2
  have I1 := I.kept (t' := s.toks) k1
  have hlen : ((sortI ns).map V.int).length ≤ sizeLine := by
    rw [List.length_map, i2.length_eq]
    rw [List.length_map] at hz
    exact hz
  have I2 := I1.laid (t' := s.toks) k2 (Nat.le_refl _) (o := .lst ((sortI ns).map V.int)) ⟨hlen, out, e, vals_of_ints i1, at_⟩
  exact ⟨.ref h1.objs.size, _, I2, rfl, q _ (I1.hok.fresh (Nat.le_refl _))⟩
theorem lift_sorted : LiftC X (hSorted X) rSortedD := by
  intro η G H vs ds Q Qd w r h q
  match ds, h with
  | [d], h =>
    obtain ⟨v, rfl, rd⟩ := rpl1 r
    unfold rSortedD at h
    simp only at h
    split at h
    · rename_i xs e
      split at h
      · rename_i ns en
        obtain ⟨a, rfl, hs⟩ := intsD_sql w rd e en
        exact ⟨a, ns, rfl, hs, fun p hp => q.newL w hp (RpL.ints.mpr rfl) h⟩
      · exact h.elim
    · exact h.elim
end
end Y

namespace Y
open PySem PySem.Spec L2
open PyProof.Rows hiding St

def frzD (d : D) (G : GS) (Q : QD) : Prop := match d with
  | .obj k => match G[k]? with | some (.lst ds) => Q (.lst ds) (G.set k .dead) | _ => False
  | _ => False
def tFrzD (te : TEd) : TEd := fun ρ G Q Ed => te ρ G (fun d G1 => frzD d G1 Q) Ed
/-- a list of ints that will be a source of numbers -/
def tRndD (te : TEd) : TEd := fun ρ G Q Ed => te ρ G (fun d G1 => match d with
  | .obj k => match G1[k]? with | some (.lst ds) => (∃ ns, intsD ds = some ns ∧ GoodR ns) ∧ Q (.obj k) (G1.set k .rnd) | _ => False
  | _ => False) Ed
section
variable {X : Cx} {E : St → XK} {e : Expr} {te : TEd} {pos : Pos}
theorem ped_frz (h : PEd X E e te) : PEd X E e (tFrzD te) := by
  refine ⟨PE.imp h.run fun σ H Q h => ?_⟩
  obtain ⟨ρ, η, G, Qd, Ed, he, w, ht, hq, hE⟩ := h
  refine ⟨ρ, η, G, _, Ed, he, w, ht, fun d G1 v η1 H1 s1 w1 r1 q1 => ?_, hE⟩
  unfold frzD at q1
  cases d with
  | obj k =>
    simp only at q1
    split at q1
    · rename_i ds e1
      exact hq (.lst ds) _ v (η1.kill k) H1 (s1.trans Stp.freeze) w1.freeze (Rp.freeze w1 r1 e1) q1
    · exact q1.elim
  | _ => exact q1.elim
theorem W.toRnd {K : PySem.W.Frag} {mg : Str → Option Value} {η : Eta} {G : GS} {H : Hp} {k : Nat} {ns : List Int} (w : W K mg η G H) (e : G[k]? = some (.lst (ns.map .int))) (g : GoodR ns) : W K mg η (G.set k .rnd) H := by
  have hk : k < G.length := (List.getElem?_eq_some_iff.mp e).1
  refine ⟨by rw [w.len, List.length_set], fun j m hj => ?_, w.inj, w.hd⟩
  by_cases c : k = j
  · subst c
    rw [List.getElem?_set_self hk] at hj
    cases hj
    obtain ⟨a, vs, h1, h2, h3⟩ := w.at_ k _ e
    exact ⟨a, ns, h1, by rw [RpL.ints.mp h3] at h2; exact h2, g⟩
  · rw [List.getElem?_set_ne c] at hj
    exact w.at_ j m hj
theorem W.ofRnd {K : PySem.W.Frag} {mg : Str → Option Value} {η : Eta} {G : GS} {H : Hp} {k : Nat} (w : W K mg η G H) (e : G[k]? = some .rnd) : ∃ ns, GoodR ns ∧ W K mg η (G.set k (.lst (ns.map .int))) H := by
  have hk : k < G.length := (List.getElem?_eq_some_iff.mp e).1
  obtain ⟨a, ns, h1, h2, g⟩ := w.at_ k _ e
  refine ⟨ns, g, by rw [w.len, List.length_set], fun j m hj => ?_, w.inj, w.hd⟩
  by_cases c : k = j
  · subst c
    rw [List.getElem?_set_self hk] at hj
    cases hj
    exact ⟨a, _, h1, h2, RpL.ints.mpr rfl⟩
  · rw [List.getElem?_set_ne c] at hj
    exact w.at_ j m hj
theorem ped_rnd (h : PEd X E e te) : PEd X E e (tRndD te) := by
  refine ⟨PE.imp h.run fun σ H Q h => ?_⟩
  obtain ⟨ρ, η, G, Qd, Ed, he, w, ht, hq, hE⟩ := h
  refine ⟨ρ, η, G, _, Ed, he, w, ht, fun d G1 v η1 H1 s1 w1 r1 q1 => ?_, hE⟩
  cases d with
  | obj k =>
    simp only at q1
    split at q1
    · rename_i ds e1
      obtain ⟨⟨ns, e2, g⟩, q1⟩ := q1
      rw [intsD_eq e2] at e1
      exact hq (.obj k) _ v η1 H1 s1 (w1.toRnd e1 g) r1 q1
    · exact q1.elim
  | _ => exact q1.elim
end

abbrev RMd := D → List D → GS → QD → Prop
def tMetD (r : RMd) (to : TEd) (t : TAd) : TEd := fun ρ G Q Ed => to ρ G (fun x G1 => isLstD G1 x ∧ t ρ G1 (fun xs G2 => r x xs G2 Q) Ed) Ed
where isLstD (G : GS) (d : D) : Prop := ∃ k ds, d = .obj k ∧ G[k]? = some (.lst ds)
def tMet0D (r : RMd) (to : TEd) : TEd := fun ρ G Q Ed => to ρ G (fun x G1 => tMetD.isLstD G1 x ∧ r x [] G1 Q) Ed
def LiftM (X : Cx) (rH : V → List V → Hp → VK → Prop) (rD : RMd) : Prop := ∀ (η : Eta) (G : GS) (H : Hp) (x : V) (vs : List V) (dx : D) (ds : List D) (Q : VK) (Qd : QD),
  W X.K X.mg η G H → Rp X.K η H dx x → RpL X.K η H ds vs → rD dx ds G Qd → LQ X.K X.mg η H Qd Q → rH x vs H Q
/-- what a numbered list is, where it stands -/
theorem W.lstAt {K : PySem.W.Frag} {mg : Str → Option Value} {η : Eta} {G : GS} {H : Hp} {k : Nat} {v : V} {ds : List D} (w : W K mg η G H) (r : Rp K η H (.obj k) v) (e : G[k]? = some (.lst ds)) :
    ∃ a vs, v = .ref a ∧ η.o[k]? = some (some a) ∧ H a = some (.lst vs) ∧ RpL K η H ds vs := by
  obtain ⟨a, vs, h1, h2, h3⟩ := w.at_ k _ e
  obtain ⟨b, rfl, h⟩ := r
  have : b = a := by
    rcases h with h | h
    · rw [h] at h1; cases h1; rfl
    · rw [h] at h1; cases h1
  subst this
  exact ⟨b, vs, rfl, h1, h2, h3⟩
/-- .. and it is written -/
theorem LQ.set {K : PySem.W.Frag} {mg : Str → Option Value} {η : Eta} {G : GS} {H : Hp} {k : Nat} {a : Addr} {vs us : List V} {es : List D} {Qd : QD} {Q : VK} (q : LQ K mg η H Qd Q) (w : W K mg η G H) (h1 : η.o[k]? = some (some a)) (h2 : H a = some (.lst vs))
    (r : RpL K η H es us) {d : D} {v : V} (rd : Rp K η H d v) (qd : Qd d (G.set k (.lst es))) : Q v (upd H a (.lst us)) := by
  have nf : ¬ Fix (HO.lst vs) := fun z => z
  have st := Stp.wrote (o' := .lst us) h1 h2 nf
  have hl : RpL K η (upd H a (.lst us)) es us := RpL.step st _ _ r
  exact q d _ v η _ st (w.wrote (m := .lst es) h1 h2 nf ⟨a, us, h1, upd_same, hl⟩) (Rp.step st _ _ rd) qd
section
variable {X : Cx} {E : St → XK} {o e : Expr} {es : List Expr} {to te : TEd} {t : TAd} {name : Str} {apos cpos pos : Pos} {id : String} {rH : V → List V → Hp → VK → Prop} {rD : RMd}
theorem liftMet (hl : LiftM X rH rD) {σ : St} {H : Hp} {Q : VK} (h : lE X.K X.mg E (tMetD rD to t) σ H Q) : tBM X.K "list" rH (lE X.K X.mg E to) (lA X.K X.mg E t) σ H Q := by
  obtain ⟨ρ, η, G, Qd, Ed, he, w, ht, hq, hE⟩ := h
  refine ⟨ρ, η, G, _, Ed, he, w, ht, fun x G1 v η1 H1 s1 w1 r1 q1 => ?_, hE⟩
  obtain ⟨⟨k, ds, rfl, ek⟩, q1⟩ := q1
  obtain ⟨a, vs, rfl, _, h2, _⟩ := w1.lstAt r1 ek
  refine ⟨.inl ⟨rfl, vs, .inl (.inl h2)⟩, ρ, η1, G1, _, Ed, he.step s1, w1, q1, fun ds G2 us η2 H2 s2 w2 r2 q2 => ?_, hE.step s1⟩
  exact hl η2 G2 H2 _ us _ ds Q Qd w2 (Rp.step s2 _ _ r1) r2 q2 (hq.step (s1.trans s2))
theorem liftMet0 (hl : LiftM X rH rD) {σ : St} {H : Hp} {Q : VK} (h : lE X.K X.mg E (tMet0D rD to) σ H Q) : tBM0 X.K "list" rH (lE X.K X.mg E to) σ H Q := by
  obtain ⟨ρ, η, G, Qd, Ed, he, w, ht, hq, hE⟩ := h
  refine ⟨ρ, η, G, _, Ed, he, w, ht, fun x G1 v η1 H1 s1 w1 r1 q1 => ?_, hE⟩
  obtain ⟨⟨k, ds, rfl, ek⟩, q1⟩ := q1
  obtain ⟨a, vs, rfl, _, h2, _⟩ := w1.lstAt r1 ek
  exact ⟨.inl ⟨rfl, vs, .inl (.inl h2)⟩, hl η1 G1 H1 _ [] _ [] Q Qd w1 r1 rfl q1 (hq.step s1)⟩
theorem ped_met (slot : Slot "list" name id) (hty : typeOf (.builtin id) = pure (.type "method_descriptor")) (hm : MtR X id rH) (hl : LiftM X rH rD) (ho : PEd X E o to) (ha : PAd X E (e :: es) t)
    (hbase : attributeBase o name X.env (eval o X.env) = eval o X.env := by rfl)
    (hfew : ((backTo cpos (starEach (e :: es) X.env)).all (fun x => !x.1) && (backToKw cpos (keywordEach [] X.env)).all (fun x => x.1.isSome)
      && decide ((e :: es).length + ([] : List Keyword).length + (if ([] : List Keyword).isEmpty then 0 else 1) < 30)) = true := by rfl)
    (hline : (apos.endLine == cpos.line) = true := by rfl) (hs : starEach (e :: es) X.env = (false, eval e X.env) :: starEach es X.env := by rfl) (hplain : (backTo cpos (starEach es X.env)).any (·.1) = false := by rfl) :
    PEd X E (.Call (.Attribute o name apos) (e :: es) [] cpos) (tMetD rD to t) :=
  ⟨PE.imp (pe_bm PySem.F.plainAttrs_list slot hty hm ho.run ha.run hbase hfew hline hs hplain) fun _ _ _ h => liftMet hl h⟩
theorem ped_met0 (slot : Slot "list" name id) (hty : typeOf (.builtin id) = pure (.type "method_descriptor")) (hm : MtR X id rH) (hl : LiftM X rH rD) (ho : PEd X E o to)
    (hbase : attributeBase o name X.env (eval o X.env) = eval o X.env := by rfl) (hline : (apos.endLine == cpos.line) = true := by rfl) : PEd X E (.Call (.Attribute o name apos) [] [] cpos) (tMet0D rD to) :=
  ⟨PE.imp (pe_bm0 PySem.F.plainAttrs_list slot hty hm ho.run hbase hline) fun _ _ _ h => liftMet0 hl h⟩
def rAppendD : RMd := fun x xs G Q => match x, xs with
  | .obj k, [d] => match G[k]? with | some (.lst ds) => ds.length < 16777216 ∧ Q .non (G.set k (.lst (ds ++ [d]))) | _ => False
  | _, _ => False
theorem lift_append : LiftM X rAppend rAppendD := by
  intro η G H x vs dx ds Q Qd w rx r h q
  unfold rAppendD at h
  split at h
  · rename_i k d
    split at h
    · rename_i es ek
      obtain ⟨hz, h⟩ := h
      obtain ⟨v, rfl, rd⟩ := rpl1 r
      obtain ⟨a, us, rfl, h1, h2, h3⟩ := w.lstAt rx ek
      exact ⟨a, us, v, rfl, rfl, h2, by rw [← h3.length]; exact line_lt hz, q.set w h1 h2 (h3.append (RpL.one rd)) (show Rp X.K η H .non .non from rfl) h⟩
    · exact h.elim
  · exact h.elim
def rPopD : RMd := fun x xs G Q => match x, xs with
  | .obj k, [] => match G[k]? with | some (.lst ds) => (match ds[ds.length - 1]? with | some d => Q d (G.set k (.lst ds.dropLast)) | none => False) | _ => False
  | _, _ => False
theorem lift_pop : LiftM X rPop rPopD := by
  intro η G H x vs dx ds Q Qd w rx r h q
  unfold rPopD at h
  split at h
  · rename_i k
    split at h
    · rename_i es ek
      split at h
      · rename_i d ed
        obtain ⟨a, us, rfl, h1, h2, h3⟩ := w.lstAt rx ek
        obtain ⟨v, ev, rv⟩ := h3.get ed
        exact ⟨a, us, v, rfl, r, h2, by rw [← h3.length]; exact ev, q.set w h1 h2 h3.dropLast rv h⟩
      · exact h.elim
    · exact h.elim
  · exact h.elim
def rPopAtD : RMd := fun x xs G Q => match x, xs with
  | .obj k, [.int i] => match G[k]? with | some (.lst ds) => 0 ≤ i ∧ ds.length ≤ 16777216 ∧ (match ds[i.toNat]? with | some d => Q d (G.set k (.lst (ds.eraseIdx i.toNat))) | none => False) | _ => False
  | _, _ => False
theorem lift_popAt : LiftM X rPopAt rPopAtD := by
  intro η G H x vs dx ds Q Qd w rx r h q
  unfold rPopAtD at h
  split at h
  · rename_i k i
    split at h
    · rename_i es ek
      obtain ⟨hi, hz, h⟩ := h
      split at h
      · rename_i d ed
        obtain ⟨u, rfl, ru⟩ := rpl1 r
        cases (show u = .int i from ru)
        obtain ⟨a, us, rfl, h1, h2, h3⟩ := w.lstAt rx ek
        obtain ⟨v, ev, rv⟩ := h3.get ed
        have hlt : i.toNat < es.length := (List.getElem?_eq_some_iff.mp ed).1
        have hle := h3.length
        have sx : seqIndex? i us.length = some i.toNat := by
          unfold seqIndex?
          rw [if_neg (Int.not_lt.mpr hi)]
          simp only
          rw [if_pos (by simp; omega)]
        have h62 : i < 2 ^ 63 := by
          have : (i.toNat : Int) = i := Int.toNat_of_nonneg hi
          omega
        refine ⟨a, us, i, i.toNat, v, rfl, rfl, h2, by omega, h62, sx, ev, q.set w h1 h2 (h3.eraseIdx _) rv h⟩
      · exact h.elim
    · exact h.elim
  · exact h.elim
def rReverseD : RMd := fun x xs G Q => match x, xs with
  | .obj k, [] => match G[k]? with | some (.lst ds) => Q .non (G.set k (.lst ds.reverse)) | _ => False
  | _, _ => False
theorem lift_reverse : LiftM X rReverse rReverseD := by
  intro η G H x vs dx ds Q Qd w rx r h q
  unfold rReverseD at h
  split at h
  · rename_i k
    split at h
    · rename_i es ek
      obtain ⟨a, us, rfl, h1, h2, h3⟩ := w.lstAt rx ek
      exact ⟨a, us, rfl, r, h2, q.set w h1 h2 h3.reverse (show Rp X.K η H .non .non from rfl) h⟩
    · exact h.elim
  · exact h.elim
end
end Y

namespace Y
open PySem PySem.Spec L2
open PyProof.Rows hiding St

def setIxD (x i d : D) (G : GS) (Q : GS → Prop) : Prop := match x, i with
  | .obj k, .int i => match G[k]? with | some (.lst ds) => (match ixN ds.length i with | some j => Q (G.set k (.lst (ds.set j d))) | none => False) | _ => False
  | _, _ => False
def gSubD (to ti : TEd) : TGd := fun d ρ G Q => to ρ G (fun x G1 => ti ρ G1 (fun i G2 => setIxD x i d G2 (fun G3 => Q ρ G3)) (fun _ _ => False)) (fun _ _ => False)
def tAugD (i : Nat) (f : Int → Int → Int) (te : TEd) : TSd := fun D ρ G => match ρ[i]? with
  | some (some (.int a)) => te ρ G (fun d G1 => match d with | .int b => D.nx (ρ.set i (some (.int (f a b)))) G1 | _ => False) (fun e G1 => D.er e ρ G1)
  | _ => False
section
variable {X : Cx} {E : St → XK} {pos : Pos}
theorem le_none {K : PySem.W.Frag} {mg : Str → Option Value} {η : Eta} {H : Hp} {E : XK} : LE K mg η H (fun _ _ => False) E := fun _ _ _ _ _ _ _ _ _ h => h.elim
theorem pgd_sub {o i : Expr} {to ti : TEd} (ho : PEd X E o to) (hi : PEd X E i ti)
    (ha : ∀ v, assign (.Subscript o i pos) X.env v = (do
      let ov ← holding [v] (eval o X.env)
      let iv ← holding [v, ov] (eval i X.env)
      standAt pos
      holding [v, ov, iv] (setItem ov iv v)
      release [v, ov, iv] []) := by intro _; rfl) : PGd X (.Subscript o i pos) (gSubD to ti) :=
  ⟨PG.imp (pg_sub ho.run hi.run set_list ha) fun v σ H Q h => by
    obtain ⟨d, ρ, η, G, Qd, r, he, w, ht, hq⟩ := h
    refine ⟨ρ, η, G, _, _, he, w, ht, fun x G1 u η1 H1 s1 w1 r1 q1 => ?_, le_none⟩
    refine ⟨ρ, η1, G1, _, _, he.step s1, w1, q1, fun y G2 z η2 H2 s2 w2 r2 q2 => ?_, le_none⟩
    have rx := Rp.step s2 _ _ r1
    have rd := Rp.step (s1.trans s2) _ _ r
    replace q2 : setIxD x y d G2 (fun G3 => Qd ρ G3) := q2
    unfold setIxD at q2
    split at q2
    · rename_i k i
      split at q2
      · rename_i ds ek
        split at q2
        · rename_i j ej
          obtain ⟨a, us, rfl, h1, h2, h3⟩ := w2.lstAt rx ek
          cases (show z = .int i from r2)
          have nf : ¬ Fix (HO.lst us) := fun z => z
          have st := Stp.wrote (o' := .lst (us.set j v)) h1 h2 nf
          have hl : RpL X.K η2 (upd H2 a (.lst (us.set j v))) (ds.set j d) (us.set j v) := RpL.step st _ _ (h3.set j rd)
          exact ⟨a, us, i, j, rfl, rfl, h2, by rw [← h3.length]; exact ej, hq ρ _ σ η2 _ ((s1.trans s2).trans st) (w2.wrote (m := .lst (ds.set j d)) h1 h2 nf ⟨a, _, h1, upd_same, hl⟩) (((he.step s1).step s2).step st) q2⟩
        · exact q2.elim
      · exact q2.elim
    · exact q2.elim⟩
theorem psd_aug {i : Nat} {x : Str} {e : Expr} {te : TEd} {op : Operator} {f : Int → Int → Int} {pos' : Pos} (ho : PIp X op (ipI f)) (hN : X.N.Nodup) (hi : X.N[i]? = some x) (hx : Loc X.env.scope x) (he : PEd X E e te)
    (hf : X.fn x = true ∨ X.env.scope.names.lookup x = some .local := by first | exact .inl rfl | exact .inr rfl | assumption) : PSd X E (.AugAssign (.Name x pos') op e pos) (tAugD i f te) :=
  ⟨PS.imp (ps_aug hN hi hx he.run ho hf) fun D σ H h => by
    obtain ⟨ρ, η, G, Dd, he, w, ht, l⟩ := h
    unfold tAugD at ht
    split at ht
    · rename_i a ea
      obtain ⟨v, ev, rv⟩ := he.2 i _ ea
      cases (show v = .int a from rv)
      refine ⟨.int a, ev, ρ, η, G, _, _, he, w, ht, fun d G1 u η1 H1 s1 w1 r1 q1 => ?_, l.le he⟩
      cases d with
      | int b =>
        cases (show u = .int b from r1)
        exact ⟨a, b, rfl, rfl, l.nx _ G1 _ η1 H1 s1 w1 ((he.step s1).set i (show Rp X.K η1 H1 (.int (f a b)) (.int (f a b)) from rfl)) q1⟩
      | _ => exact q1.elim
    · exact ht.elim⟩
end

def endsG (Qd : QD) (Ed : QE) : EndsD where
  nx := fun _ G' => Qd .non G'
  rt := Qd
  er := fun e _ G' => Ed e G'
theorem fnG {P : Program} {w : World} {K : PySem.W.Frag} {mg : Str → Option Value} {base : Heap} {x qual : Str} {st : Stmt} {f : Addr} {fd : FuncData} {N ps : List Str} {k : Nat} {sp : SpD} {t : TSd} (F : Fun K x qual st f fd) (S : FnScope N ps (defScope st))
    (len : ∀ ds G Q E, sp ds G Q E → ds.length = ps.length)
    (hbody : ∀ (cdv : Value) (A : Around) (outer : List Env) (s : Shared) (H : Hp) (E : XK), Room k (A.deeper (envOfC qual (defScope st) s.heap.objs.size f cdv)) →
      PSsd (cxOf (L2.CX P w) P w K mg base N qual (defScope st) f cdv A outer s H E) (fun _ => E) (defBody st) t)
    (sem : ∀ ds G Q E, sp ds G Q E → t (endsG Q E) (startD N.length ds) G) : FnOk P w K mg base (L2.CX P w) (k + 1) f fd ps (liftSp K mg sp) := by
  refine F.okX S (fun vs H Q E h => ?_) fun cdv A outer s H vs Q E hr h => ⟨_, (hbody cdv A outer s H E hr).run, ?_⟩
  · obtain ⟨ds, η, G, Qd, Ed, r, _, h, _⟩ := h
    rw [← r.length]; exact len _ _ _ _ h
  · obtain ⟨ds, η, G, Qd, Ed, r, w0, h, hq, hE⟩ := h
    refine ⟨_, η, G, endsG Qd Ed, envR_start r, w0, sem ds G Qd Ed h, ?_, ?_, ?_, ?_, ?_⟩
    · intro ρ' G' σ' η' H' s' w' e' q
      exact hq .non G' .non _ _ s' w' rfl q
    · exact hq
    · intro ρ' G' σ' η' H' s' w' e' q; exact q.elim
    · intro ρ' G' σ' η' H' s' w' e' q; exact q.elim
    · intro e ρ' G' σ' cls od η' H' s' w' e' r' q
      exact hE e G' cls od _ _ s' w' r' q
/-- a promise is read otherwise -/
theorem liftSp_imp {K : PySem.W.Frag} {mg : Str → Option Value} {sp sp' : SpD} (h : ∀ ds G Q E, sp ds G Q E → sp' ds G Q E) : ∀ vs H Q E, liftSp K mg sp vs H Q E → liftSp K mg sp' vs H Q E := by
  rintro vs H Q E ⟨ds, η, G, Qd, Ed, r, w, hs, hq, hE⟩
  exact ⟨ds, η, G, Qd, Ed, r, w, h _ _ _ _ hs, hq, hE⟩
end Y

namespace Y
open PySem PySem.Spec L2
open PyProof.Rows hiding St
/-- a list or a tuple, walked -/
def iSeqA (K : PySem.W.Frag) (tl : TE) : TI := fun σ H R => tl σ H fun x H1 => ∃ a, x = .ref a ∧ (((∃ xs, SqL K H1 a xs) ∧ R (Itl K a) H1) ∨ ((∃ xs, SqT K H1 a xs) ∧ R (Itt K a) H1))
def iAnyD (te : TEd) : TId := fun ρ G Q Ed => te ρ G (fun d G1 => match d with | .tup ds => Q ds G1 | .lst ds => Q ds G1 | _ => False) Ed
/-- the script, walked -/
def iScrD (te : TEd) : TId := fun ρ G Q Ed => te ρ G (fun d G1 => match d with | .scr ns => Q (ns.map .int) G1 | _ => False) Ed
theorem SqF.sql {K : PySem.W.Frag} {H : Hp} {a : Addr} {xs : List V} (h : SqF K H a xs) : SqL K H a xs := by
  rcases h with ⟨o, h⟩ | h
  · exact .inl (.inr ⟨o, h⟩)
  · exact .inr h
theorem its_ok {K : PySem.W.Frag} {mg : Str → Option Value} {η : Eta} {H : Hp} {a : Addr} {ns : List Int} (h : SqF K H a (ns.map V.int)) : ItOk K mg (Itl K a) η H (ns.map .int) := by
  intro η' H' i s
  have h' : SqL K H' a (ns.map V.int) := (h.up fun b o z f => s.keep b o z (.inr f)).sql
  refine ⟨fun hi => ?_, fun hi => ⟨_, h', by simpa using hi⟩, fun x H'' hy hi => ?_⟩
  · have hi' : i < ns.length := by simpa using hi
    exact ⟨_, .int ns[i], h', by rw [List.getElem?_map, List.getElem?_eq_getElem hi']; rfl⟩
  · have hi' : i < ns.length := by simpa using hi
    obtain ⟨rfl, fv⟩ := hy
    have e := fv _ h'
    rw [List.getElem?_map, List.getElem?_eq_getElem hi'] at e
    cases e
    exact ⟨.int ns[i], by rw [List.getElem?_map, List.getElem?_eq_getElem hi']; rfl, Stp.refl _ _, fun _ w => w, rfl⟩
def tNegD (te : TEd) : TEd := fun ρ G Q Ed => te ρ G (fun d G1 => match d with | .int i => Q (.int (-i)) G1 | _ => False) Ed
def tPar3D (i j l : Nat) (ta : TAd) : TSd := fun D ρ G => ta ρ G (fun ds G1 => match ds with | [d1, d2, d3] => D.nx (((ρ.set i (some d1)).set j (some d2)).set l (some d3)) G1 | _ => False) (fun e G1 => D.er e ρ G1)
section
variable {X : Cx} {E : St → XK} {tg e : Expr} {te : TEd} {pos : Pos}
theorem pi_seqA {l : Expr} {tl : TE} (hl : PE X l tl) : PI X tg l (iSeqA X.K tl) := by
  refine ⟨fun pins s σ H R I h => thn (hl.run pins s σ H _ I h) fun v s1 hh => ?_⟩
  obtain ⟨x, H1, I1, r1, a, rfl, q⟩ := hh
  cases r1
  have fp : ∀ b ∈ [s1.heap.objs.size], FpOk X pins H1 b := fun b hb => by
    obtain rfl : b = s1.heap.objs.size := by simpa using hb
    exact I1.fpOk (Nat.le_refl _) (I1.hok.fresh (Nat.le_refl _))
  rcases q with ⟨⟨xs, hs⟩, q⟩ | ⟨⟨xs, hs⟩, q⟩
  · obtain ⟨its, _, pl, _⟩ := I1.list hs
    exact wpAny_pyIter_list pl.isList ⟨s1.heap.objs.size, [s1.heap.objs.size], _, _, H1, rfl, I1.kept (t' := s1.toks) fun _ _ z => Heap.get?_push_of_some _ z, turn_list a _, ⟨_, Heap.get?_push_size _ rfl, rfl, rfl⟩, fp, q⟩
  · obtain ⟨its, _, pt, _⟩ := I1.tuple hs
    exact wpAny_pyIter_tuple (show s1.heap.IsTuple a its.toArray from pt) ⟨s1.heap.objs.size, [s1.heap.objs.size], _, _, H1, rfl, I1.kept (t' := s1.toks) fun _ _ z => Heap.get?_push_of_some _ z, turn_tuple a _, ⟨_, Heap.get?_push_size _ rfl, rfl, rfl⟩, fp, q⟩
theorem pid_any (h : PEd X E e te) : PId X E tg e (iAnyD te) := ⟨PI.imp (pi_seqA h.run) fun σ H R h => by
  obtain ⟨ρ, η, G, Qd, Ed, he, w, ht, hq, hE⟩ := h
  refine ⟨ρ, η, G, _, Ed, he, w, ht, fun d G1 v η1 H1 s1 w1 r1 q1 => ?_, hE⟩
  cases d with
  | lst ds =>
    obtain ⟨x, vs, rfl, n, hx, hr⟩ := r1
    exact ⟨x, rfl, .inl ⟨⟨vs, SqL.of hx⟩, hq ds G1 _ η1 H1 s1 w1 (itl_ok hx n hr) q1⟩⟩
  | tup ds =>
    obtain ⟨x, vs, rfl, hx, hr⟩ := r1
    exact ⟨x, rfl, .inr ⟨⟨vs, hx⟩, hq ds G1 _ η1 H1 s1 w1 (itt_ok hx hr) q1⟩⟩
  | _ => exact q1.elim⟩
theorem pid_scr (h : PEd X E e te) : PId X E tg e (iScrD te) := ⟨PI.imp (pi_list h.run) fun σ H R h => by
  obtain ⟨ρ, η, G, Qd, Ed, he, w, ht, hq, hE⟩ := h
  refine ⟨ρ, η, G, _, Ed, he, w, ht, fun d G1 v η1 H1 s1 w1 r1 q1 => ?_, hE⟩
  cases d with
  | scr ns =>
    obtain ⟨x, rfl, hx⟩ := r1
    exact ⟨x, rfl, ⟨_, hx.sql⟩, hq _ G1 _ η1 H1 s1 w1 (its_ok hx) q1⟩
  | _ => exact q1.elim⟩
theorem ped_neg (h : PEd X E e te) : PEd X E (.UnaryOp .USub e pos) (tNegD te) := ⟨PE.imp (pe_un un_neg h.run) fun σ H Q h => by
  obtain ⟨ρ, η, G, Qd, Ed, he, w, ht, hq, hE⟩ := h
  refine ⟨ρ, η, G, _, Ed, he, w, ht, fun d G1 v η1 H1 s1 w1 r1 q1 => ?_, hE⟩
  cases d with
  | int i => exact ⟨i, r1, hq (.int (-i)) G1 _ η1 H1 s1 w1 (show Rp X.K η1 H1 (.int (-i)) (.int (-i)) from rfl) q1⟩
  | _ => exact q1.elim⟩
theorem psd_par3 {i j l : Nat} {x y z : Str} {a b c : Expr} {ta : TAd} {px py pz pt : Pos} {kt k2 pt2} (hc : X.calm = true) (hN : X.N.Nodup) (hi : X.N[i]? = some x) (hj : X.N[j]? = some y) (hl : X.N[l]? = some z) (hij : i ≠ j) (hil : i ≠ l) (hjl : j ≠ l)
    (hx : X.env.scope.names.lookup x = some .local) (hy : X.env.scope.names.lookup y = some .local) (hz : X.env.scope.names.lookup z = some .local) (ha : PAd X E [a, b, c] ta)
    (hw : swappedStores [.Tuple [.Name x px, .Name y py, .Name z pz] kt pt] (.Tuple [a, b, c] k2 pt2) X.env = pure (some [x, y, z]))
    (hs : swapsWithSole [.Tuple [.Name x px, .Name y py, .Name z pz] kt pt] (.Tuple [a, b, c] k2 pt2) pos.line X.env = pure false := by rfl) :
    PSd X E (.Assign [.Tuple [.Name x px, .Name y py, .Name z pz] kt pt] (.Tuple [a, b, c] k2 pt2) pos) (tPar3D i j l ta) := ⟨PS.imp (ps_par3 hc hN hi hj hl hij hil hjl hx hy hz ha.run hw hs) fun D σ H h => by
  obtain ⟨ρ, η, G, Dd, he, w, ht, l⟩ := h
  refine ⟨ρ, η, G, _, _, he, w, ht, fun ds G1 vs η1 H1 s1 w1 r1 q1 => ?_, l.le he⟩
  match ds, q1 with
  | [d1, d2, d3], q1 =>
    obtain ⟨v1, t1, rfl, r1, v2, t2, rfl, r2, v3, t3, rfl, r3, rfl⟩ := r1
    exact ⟨v1, v2, v3, rfl, l.nx _ G1 _ η1 H1 s1 w1 ((((he.step s1).set i r1).set j r2).set _ r3) q1⟩⟩
end

/-- a class's body -/
def clsB : Stmt → List Stmt
  | .ClassDef (body := b) .. => b
  | _ => []
structure ExF (K : PySem.W.Frag) (mg : Str → Option Value) (x f : Str) (C fI : Addr) (fd : FuncData) (st : Stmt) : Prop where
  oex : OexC K C
  ini : PySem.W.findIn K (.ref C) "__init__" = some (some (.ref fI))
  tyI : PySem.W.typeIn K (.ref fI) = some (.type "function")
  mgC : mg x = some (.ref C)
  no : PySem.W.findIn K (.ref C) f = some none
  F : ∃ qual, Fun K "__init__" qual st fI fd
  b : Binds K fd ["self", f] []
theorem ExF.ext {X : Cx} {x f : Str} {C fI : Addr} {fd : FuncData} {st : Stmt} (T : ExF X.K X.mg x f C fI fd st) : ExT X x f C fI fd ["self", f] := ⟨T.oex, T.ini, T.tyI, T.mgC, T.b⟩
theorem ini_ok {P : Program} {w : World} {K : PySem.W.Frag} {mg : Str → Option Value} {base : Heap} {x f : Str} {C fI : Addr} {fd : FuncData} {st : Stmt} (T : ExF K mg x f C fI fd st) (S : FnScope ["self", f] ["self", f] (defScope st))
    (hb : ∀ (qual : Str) (cdv : Value) (A : Around) (outer : List Env) (s : Shared) (H : Hp) (E : XK), PSs (cxOf (L2.CX P w) P w K mg base ["self", f] qual (defScope st) fI cdv A outer s H E) (defBody st) (tOst K f (tVar 0) (tVar 1))) : FnOk P w K mg base (L2.CX P w) 1 fI fd ["self", f] (spIni C f) := by
  obtain ⟨qual, F⟩ := T.F
  refine F.okX (k := 0) S (fun vs H Q E h => ?_) fun cdv A outer s H vs Q E hr h => ⟨_, hb qual cdv A outer s H E, ?_⟩
  · obtain ⟨a, v, rfl, _⟩ := h; rfl
  · obtain ⟨a, v, rfl, e, q⟩ := h
    exact ⟨v, rfl, .ref a, rfl, a, C, rfl, T.oex, T.no, .inl ⟨e, fun dx n ne => q dx n ne⟩⟩
end Y

namespace Y
open PySem PySem.Spec L2
open PySem.W (keyToksAll keyToks dataLt alike alikeAll minD AlikeAll toks_all_cons dataLt_tuple alike_unique min_list_data)
open PyProof.Rows hiding St

def tupI (t : List Int) : D := .tup (t.map .int)
def ltT : List Int → List Int → Bool
  | [], [] => false
  | [], _ :: _ => true
  | _ :: _, [] => false
  | x :: r, y :: t => decide (x < y) || (decide (x = y) && ltT r t)
def tupsD : List D → Option (List (List Int))
  | [] => some []
  | .tup ds :: r => match intsD ds, tupsD r with | some t, some ts => some (t :: ts) | _, _ => none
  | _ :: _ => none
theorem tupsD_map (ts : List (List Int)) : tupsD (ts.map tupI) = some ts := by
  induction ts with
  | nil => rfl
  | cons t ts ih =>
    show (match intsD (t.map .int), tupsD (ts.map tupI) with | some t, some ts => some (t :: ts) | _, _ => none) = _
    rw [intsD_map, ih]
theorem tupsD_eq : ∀ {ds : List D} {ts : List (List Int)}, tupsD ds = some ts → ds = ts.map tupI
  | [], ts, h => by cases h; rfl
  | .tup es :: r, ts, h => by
    unfold tupsD at h
    split at h
    · rename_i t us e1 e2
      cases h
      show _ = tupI t :: us.map tupI
      rw [← tupsD_eq e2]
      unfold tupI
      rw [← intsD_eq e1]
    · cases h
  | .non :: _, _, h => by simp [tupsD] at h
  | .bl _ :: _, _, h => by simp [tupsD] at h
  | .int _ :: _, _, h => by simp [tupsD] at h
  | .str _ :: _, _, h => by simp [tupsD] at h
  | .lst _ :: _, _, h => by simp [tupsD] at h
  | .obj _ :: _, _, h => by simp [tupsD] at h
  | .dct :: _, _, h => by simp [tupsD] at h
  | .scr _ :: _, _, h => by simp [tupsD] at h
  | .key _ :: _, _, h => by simp [tupsD] at h
  | .exn _ _ _ _ :: _, _, h => by simp [tupsD] at h
def pyT (t : List Int) : PyData := .tuple (t.map .int)
theorem toPy_tupI (t : List Int) : toPy (tupI t) = pyT t := by
  show PyData.tuple (toPyL (t.map .int)) = _
  rw [toPyL_map, List.map_map]
  rfl
theorem toks_ints : ∀ (a b : List Int), PyProof.Rows.lexLt PyProof.Rows.itemOrd (keyToksAll (a.map .int)) (keyToksAll (b.map .int)) = ltT a b
  | [], [] => by
    show PyProof.Rows.lexLt PyProof.Rows.itemOrd [.inl 0] [.inl 0] = false
    simp [PyProof.Rows.lexLt, PyProof.Rows.itemLt]
  | [], y :: t => by
    rw [List.map_cons, toks_all_cons]
    show PyProof.Rows.lexLt PyProof.Rows.itemOrd [.inl 0] (_ :: _) = true
    simp [PyProof.Rows.lexLt, PyProof.Rows.itemLt]
  | x :: r, [] => by
    rw [List.map_cons, toks_all_cons]
    show PyProof.Rows.lexLt PyProof.Rows.itemOrd (_ :: _) [.inl 0] = false
    simp [PyProof.Rows.lexLt, PyProof.Rows.itemLt]
  | x :: r, y :: t => by
    rw [List.map_cons, List.map_cons, toks_all_cons, toks_all_cons]
    show PyProof.Rows.lexLt PyProof.Rows.itemOrd (.inl 1 :: .inl x :: keyToksAll (r.map .int)) (.inl 1 :: .inl y :: keyToksAll (t.map .int)) = (decide (x < y) || (decide (x = y) && ltT r t))
    rw [PyProof.Rows.lex_cons, PyProof.Rows.lex_cons, toks_ints r t]
    show (decide ((1 : Int) < 1) || (!decide ((1 : Int) < 1) && (decide (x < y) || (!decide (y < x) && ltT r t)))) = _
    rcases Int.lt_trichotomy x y with h | h | h
    · simp [h]
    · simp [h]
    · have h1 : ¬ x < y := by omega
      have h2 : ¬ x = y := by omega
      simp [h, h1, h2]
theorem dataLt_pyT (a b : List Int) : dataLt (pyT a) (pyT b) = ltT a b := by
  unfold pyT
  rw [dataLt_tuple, toks_ints]
theorem alike_ints : ∀ a b : List Int, alikeAll (a.map .int) (b.map .int) = true
  | [], _ => by simp [alikeAll]
  | _ :: _, [] => by simp [alikeAll]
  | x :: r, y :: t => by simp [alikeAll, alike, alike_ints r t]
theorem alike_pyT (a b : List Int) : alike (pyT a) (pyT b) = true := by
  unfold pyT
  simp [alike, alike_ints]
theorem pyT_inj {a b : List Int} (h : pyT a = pyT b) : a = b := by
  unfold pyT at h
  have h1 : a.map PyData.int = b.map PyData.int := PyData.tuple.inj h
  have h2 := congrArg (List.map fun p => match p with | PyData.int i => i | _ => 0) h1
  rw [List.map_map, List.map_map] at h2
  have e : ((fun p => match p with | PyData.int i => i | _ => (0 : Int)) ∘ PyData.int) = id := rfl
  rw [e, List.map_id, List.map_id] at h2
  exact h2
def minT (t : List Int) (ts : List (List Int)) : List Int := ts.foldl (fun a y => if ltT y a = true then y else a) t
theorem minD_pyT : ∀ (ts : List (List Int)) (t : List Int), minD (pyT t) (ts.map pyT) = pyT (minT t ts)
  | [], _ => rfl
  | u :: ts, t => by
    unfold minD minT
    rw [List.map_cons, List.foldl_cons, List.foldl_cons, dataLt_pyT]
    have e : (if ltT u t = true then pyT u else pyT t) = pyT (if ltT u t = true then u else t) := by split <;> rfl
    rw [e]
    exact minD_pyT ts _
theorem minT_mem : ∀ (ts : List (List Int)) (t : List Int), minT t ts ∈ t :: ts
  | [], _ => .head _
  | u :: ts, t => by
    show minT (if ltT u t = true then u else t) ts ∈ _
    have := minT_mem ts (if ltT u t = true then u else t)
    rcases List.mem_cons.mp this with h | h
    · rw [h]
      split
      · exact .tail _ (.head _)
      · exact .head _
    · exact .tail _ (.tail _ h)
theorem depth_ints : ∀ a : List Int, PyData.depthAll (a.map .int) ≤ 1
  | [] => by simp [PyData.depthAll]
  | x :: r => by
    have := depth_ints r
    simp [PyData.depthAll, PyData.depth]
    omega
theorem depth_pyTs : ∀ ts : List (List Int), PyData.depthAll (ts.map pyT) ≤ 2
  | [] => by simp [PyData.depthAll]
  | t :: ts => by
    have h1 := depth_pyTs ts
    have h2 := depth_ints t
    show max (pyT t).depth (PyData.depthAll (ts.map pyT)) ≤ 2
    have h3 : (pyT t).depth ≤ 2 := by
      unfold pyT
      simp only [PyData.depth]
      omega
    omega
def rMinTD : List D → GS → QD → Prop := fun ds G Q => match ds with
  | [d] => match vw G d with
    | .lst xs => (match tupsD xs with | some (t :: ts) => Q (tupI (minT t ts)) G | _ => False)
    | _ => False
  | _ => False
abbrev hMinT (X : Cx) : List V → Hp → VK → Prop := fun vs H Q => ∃ (a : Addr) (xs : List V) (t : List Int) (ts : List (List Int)), vs = [.ref a] ∧ SqL X.K H a xs ∧ DpAll X.K H xs ((t :: ts).map pyT) ∧
  ∀ (i : Nat) (v : V), xs[i]? = some v → (t :: ts)[i]? = some (minT t ts) → Q v H
theorem Reads_get {h : Heap} : ∀ {vs : List Value} {xs : List PyData} {as : List Addr}, ReadsAll h vs xs as → ∀ (i : Nat) (v : Value), vs[i]? = some v → ∃ d bs, xs[i]? = some d ∧ Reads h v d bs
  | _, _, _, .nil, _, _, hv => by simp at hv
  | _, _, _, .cons (d := d) (ds := ds) r rs, 0, v, hv => by
    cases (show some _ = some v from hv)
    exact ⟨d, _, rfl, r⟩
  | _, _, _, .cons (d := d) (ds := ds) r rs, i + 1, v, hv => Reads_get rs i v (by simpa using hv)
theorem vals_getV : ∀ {xs : List V} {us : List Value} {i : Nat} {u : Value}, Vals xs us → us[i]? = some u → ∃ x, xs[i]? = some x ∧ RelV x u
  | _, _, _, _, .nil, h => by simp at h
  | _, _, 0, u, .cons r rs, h => by
    cases (show some _ = some u from h)
    exact ⟨_, rfl, r⟩
  | _, _, i + 1, u, .cons r rs, h => vals_getV (i := i) rs (by simpa using h)
section
variable {X : Cx}
theorem cr_minT (hc : X.calm = true) (hu : X.A.units + 64 < cLine) : CallR X (.builtin "min") (hMinT X) := by
  intro pins s σ H vs us Q I r h
  obtain ⟨a, xs, t, ts, rfl, hs, hd, q⟩ := h
  obtain ⟨its, rv, pl, hz⟩ := I.list hs
  rw [Vals.ref1 r]
  obtain ⟨as, hr⟩ := Dp.readsAll I _ _ _ hd rv
  have hal : AlikeAll (pyT t :: ts.map pyT) := by
    refine ⟨fun x hx y hy => ?_, fun x hx => ?_⟩
    · obtain ⟨p, _, rfl⟩ := List.mem_map.mp (show x ∈ (t :: ts).map pyT from hx)
      obtain ⟨p', _, rfl⟩ := List.mem_map.mp (show y ∈ (t :: ts).map pyT from hy)
      exact alike_pyT _ _
    · obtain ⟨p, _, rfl⟩ := List.mem_map.mp (show x ∈ (t :: ts).map pyT from hx)
      unfold pyT; intro z; cases z
  have hdp := depth_pyTs (t :: ts)
  refine min_list_data (I.ok.hd hc) pl.isList (x := pyT t) (xs := ts.map pyT) (by simpa using hr) hal (by
    show X.A.units + 1 + PyData.depthAll ((t :: ts).map pyT) < cLine
    omega) fun i v h' tk bs hv rd k => ?_
  have hv' : its[i]? = some v := by simpa using hv
  obtain ⟨x, hx, rx⟩ := vals_getV rv hv'
  obtain ⟨d, cs, hd', rd'⟩ := Reads_get hr i v hv'
  have hm : d ∈ (t :: ts).map pyT := List.mem_of_getElem? hd'
  obtain ⟨u, hu', rfl⟩ := List.mem_map.mp hm
  rw [minD_pyT] at rd
  have e : pyT u = pyT (minT t ts) := alike_unique _ _ _ _ _ (alike_pyT _ _) (PyProof.Rows.Reads.keeps k rd') rd
  have e2 := pyT_inj e
  subst e2
  have hi : (t :: ts)[i]? = some (minT t ts) := by
    rw [List.getElem?_map] at hd'
    obtain ⟨z, hz1, hz2⟩ := Option.map_eq_some_iff.mp hd'
    rw [hz1, pyT_inj hz2]
  exact ⟨x, H, I.kept k, rx, q i x hx hi⟩
theorem lift_minT : LiftC X (hMinT X) rMinTD := by
  intro η G H vs ds Q Qd w r h q
  match ds, h with
  | [d], h =>
    obtain ⟨v, rfl, rd⟩ := rpl1 r
    unfold rMinTD at h
    simp only at h
    split at h
    · rename_i xs e
      split at h
      · rename_i t ts en
        obtain ⟨a, us, rfl, ha, ru⟩ := vw_lst w rd e
        have ex := tupsD_eq en
        have hdp : DpAll X.K H us ((t :: ts).map pyT) := by
          have := RpL.dp xs us (by
            rw [ex]
            clear ex en ru rd e
            induction (t :: ts) with
            | nil => rfl
            | cons z zs ih =>
              show (noObj (tupI z) && noObjL (zs.map tupI)) = true
              rw [ih]
              have : noObjL (z.map D.int) = true := by
                induction z with
                | nil => rfl
                | cons _ _ ih2 => exact ih2
              show (noObjL (z.map D.int) && true) = true
              rw [this]; rfl) ru
          rw [ex, toPyL_map, List.map_map] at this
          rwa [show toPy ∘ tupI = pyT from funext toPy_tupI] at this
        refine ⟨a, us, t, ts, rfl, SqL.of ha, hdp, fun i v hv hm => ?_⟩
        obtain ⟨d', hd', rd'⟩ := ru.getV hv
        rw [ex, List.getElem?_map, hm] at hd'
        cases hd'
        exact q.now w rd' h
      · exact h.elim
    · exact h.elim
end
end Y

namespace Y
open PySem PySem.Spec L2
open PyProof.Rows hiding St
theorem grew0 {G : GS} : GrewFrom G G := ⟨[], (List.append_nil _).symm⟩
theorem grew1 {G L : GS} : GrewFrom G (G ++ L) := ⟨L, rfl⟩
def plainD (d : D) : Bool := (tyN d).isSome
def isIntD : D → Bool
  | .int _ => true
  | _ => false
def fromD (d : D) (lo hi : Int) : Bool := match d with
  | .int i => decide (lo ≤ i) && decide (i ≤ hi)
  | _ => false
theorem fromD_int {d : D} {lo hi : Int} (h : fromD d lo hi = true) : ∃ i, d = .int i ∧ lo ≤ i ∧ i ≤ hi := by
  cases d with
  | int i =>
    have := Bool.and_eq_true_iff.mp h
    exact ⟨i, rfl, of_decide_eq_true this.1, of_decide_eq_true this.2⟩
  | _ => cases h
def isTupD : D → Bool
  | .tup _ => true
  | _ => false
theorem atI_nat' {α : Type} {xs : List α} {j : Nat} : atI xs (j : Int) = xs[j]? := by
  unfold atI ixN
  rw [if_pos (by omega)]
  by_cases h : (j : Int) < (xs.length : Int)
  · rw [if_pos h]
    show xs[(j : Int).toNat]? = _
    rw [Int.toNat_natCast]
  · rw [if_neg h, List.getElem?_eq_none (by omega)]
    rfl
theorem cutD_drop {ds : List D} {j : Nat} (h : j ≤ ds.length) : cutD ds (some (j : Int)) none = ds.drop j := by
  unfold cutD
  rw [HT.sIx_nat, HT.sIx_none, Nat.min_eq_left h]
  exact List.take_of_length_le (by rw [List.length_drop]; omega)
theorem inOk_ints {x : Int} {ns : List Int} : inOk (.int x) (ns.map .int) = true := by
  unfold inOk
  have : (ns.map D.int).all flatD = true := by
    rw [List.all_map]
    exact List.all_eq_true.mpr fun _ _ => rfl
  rw [this]; rfl
theorem eqD_int {x y : Int} : eqD (.int x) (.int y) = decide (x = y) := by
  show PyData.eqv (.int x) (.int y) = _
  rw [PyData.eqv]
  by_cases h : x = y <;> simp [h]
theorem inL_ints {x : Int} {ns : List Int} : inL (.int x) (ns.map .int) = decide (x ∈ ns) := by
  unfold inL
  rw [List.any_map]
  induction ns with
  | nil => simp
  | cons y ys ih =>
    rw [List.any_cons, ih]
    show (eqD (.int y) (.int x) || _) = _
    rw [eqD_int]
    by_cases h : y = x
    · simp [h]
    · have : x ≠ y := fun z => h z.symm
      simp [h, this]
end Y

namespace Y
open PySem PySem.Spec L2
open PyProof.Rows hiding St
theorem exm_of {K : PySem.W.Frag} {C S : Addr} {b : Bool} (h1 : PySem.W.subIn K (.ref S) (.type "BaseException") = some true) (h2 : PySem.W.isClsIn K S = true) (h3 : PySem.W.typeIn K (.ref S) = some (.type "type")) (h4 : PySem.W.subIn K (.ref C) (.ref S) = some b) :
    PySem.W.exmOne K (.ref C) (.ref S) = some b := by
  have a1 : (PySem.W.subIn K (.ref S) (.type "BaseException") == some true) = true := by simp [h1]
  have a2 : ((PySem.W.clsIn K S).isSome && PySem.W.typeIn K (.ref S) == some (.type "type")) = true := by
    have z : (PySem.W.clsIn K S).isSome = true := h2
    simp [z, h3]
  exact (if_pos a1).trans ((if_pos a2).trans h4)
end Y

namespace Y
open PySem PySem.Spec L2 SrtO
open PySem.W (alikeAll firstLt_toks eqAt_alikeAll rcLt_alikeAll oneLt_alike)
open PyProof.Rows hiding St
section
variable {prog : Program} {w : World} {A : Around} {E : Value → Shared → Prop} {s : Shared}
theorem oneLt_tup {a b : Value} {ta tb : List Int} {as bs : List Addr} {Q : Bool → Shared → Prop} (f : Bool) (ra : Reads s.heap a (pyT ta) as) (rb : Reads s.heap b (pyT tb) bs) (hu : A.units + 8 < cLine) (hq : Q (ltT ta tb) s) :
    wpAny (model prog w) A (oneLt' f a b) Q E s := by
  have hdp : A.units + min (pyT ta).depth (pyT tb).depth < cLine := by
    have h1 := depth_ints ta
    have : (pyT ta).depth ≤ 2 := by unfold pyT; simp only [PyData.depth]; omega
    omega
  cases f with
  | false => exact oneLt_alike (fun z => absurd z (by decide)) ra rb (alike_pyT _ _) (by unfold pyT; intro z; cases z) hdp (by rw [dataLt_pyT]; exact hq)
  | true =>
    have hal := alike_ints ta tb
    rw [← dataLt_pyT] at hq
    unfold pyT at ra rb hdp hq
    rw [PySem.W.dataLt_tuple, ← firstLt_toks _ _ hal] at hq
    cases ra with
    | @tuple l o vs n _ as1 h1 h2 h3 h4 =>
      cases rb with
      | @tuple l2 o2 vs2 n2 _ bs1 k1 k2 k3 k4 =>
        have n1 : vs.size = (ta.map PyData.int).length := by simpa using SeqAt.ReadsAll.length _ _ _ h4
        have n3 : vs2.size = (tb.map PyData.int).length := by simpa using SeqAt.ReadsAll.length _ _ _ k4
        rw [← n1, ← n3] at hq
        have he : ∀ j (j1 : j < vs.size) (j2 : j < vs2.size), SeqAt.EqAt A.in1 s vs[j] vs2[j] _ := fun j j1 j2 => by
          have := eqAt_alikeAll _ _ A.in1 s vs.toList vs2.toList _ _ h4 k4 hal (SeqAt.room_in hdp) j (by simpa using j1) (by simpa using j2)
          simpa using this
        have hr := fun j (j1 : j < vs.size) (j2 : j < vs2.size) hj => rcLt_alikeAll _ _ A.in1 s vs.toList vs2.toList _ _ h4 k4 hal (SeqAt.room_in hdp) j (by simpa using j1) (by simpa using j2) hj
        obtain ⟨cls, dd, data, sl⟩ := o
        obtain ⟨cls2, dd2, data2, sl2⟩ := o2
        simp only at h2 h3 k2 k3
        subst h2 h3 k2 k3
        rw [oneLt'_eq]
        simp only [if_true]
        refine wpAny_bind (wpAny_cRoomFor (by omega) (wpAny_bind (wpAny_callSpecialIfBound?_slot (T := "tuple") ⟨_, h1, rfl⟩ F.slot_tuple_lt
          (call_meets F.slot_tuple_lt ⟨_, h1, rfl⟩ F.entry_tuple_lt (F.args_tuple_lt_2 _ _) (SeqAt.tuple_ltAt l l2 vs vs2 n n2 dd dd2 sl sl2 _ _) ⟨h1, k1, he, fun j j1 j2 hj => by simpa using hr j j1 j2 hj, wpAny_truthy_bool hq⟩))))
end
end Y

namespace Y
open PySem PySem.Spec L2 SrtO
open PySem.W (kas_first_eq kas_mapM Looks)
open PyProof.Rows hiding St
section
variable {M : Model} {A : Around} {s : Shared}
theorem first_tup {v : Value} {t : List Int} {as : List Addr} (r : Reads s.heap v (pyT t) as) : ∃ o : Option Value, (o.isSome = true ↔ t ≠ []) ∧ (∀ (E : Value → Shared → Prop) (Q : Option Value → Shared → Prop), Q o s → wpAny M A (firstOfTuple' v) Q E s) ∧ Looks M s.heap (typeOf v) (.type "tuple") := by
  unfold pyT at r
  cases r with
  | @tuple a o xs n _ _ ho hc hd hr =>
    have hlen : xs.size = t.length := by simpa using SeqAt.ReadsAll.length _ _ _ hr
    have ty : Looks M s.heap (typeOf (.ref a)) (.type "tuple") := by
      rw [← hc]
      exact (Looks.ld ho).andThen .now
    refine ⟨xs[0]?, ?_, fun E Q hq => ?_, ty⟩
    · cases t with
      | nil =>
        have : xs[0]? = none := by rw [Array.getElem?_eq_none_iff, hlen]; exact Nat.le_refl 0
        rw [this]; simp
      | cons x r =>
        have h0 : 0 < xs.size := by rw [hlen]; exact Nat.succ_pos _
        rw [Array.getElem?_eq_getElem h0]; simp
    · rw [kas_first_eq]
      refine wpAny_bind (ty.here ?_)
      rw [if_neg (by first | decide | simp)]
      exact wpAny_bind (listItems_at ho hd (wpAny_pure hq))
theorem firsts_tup {k : Value → List Int} : ∀ vs : List Value, (∀ v ∈ vs, ∃ as, Reads s.heap v (pyT (k v)) as) → ∃ fs : List (Option Value), fs.length = vs.length ∧ (∀ (i : Nat) (v : Value), vs[i]? = some v → ∃ o : Option Value, fs[i]? = some o ∧ (o.isSome = true ↔ k v ≠ [])) ∧
    ∀ (E : Value → Shared → Prop) (Q : List (Option Value) → Shared → Prop), Q fs s → wpAny M A (vs.mapM firstOfTuple') Q E s
  | [], _ => ⟨[], rfl, fun i v h => by simp at h, fun E Q h => by rw [List.mapM_nil]; exact wpAny_pure h⟩
  | v :: vs, hp => by
    obtain ⟨as, r⟩ := hp v (.head _)
    obtain ⟨o, h1, h2, _⟩ := first_tup (M := M) (A := A) r
    obtain ⟨fs, l1, l2, l3⟩ := firsts_tup vs fun u hu => hp u (.tail _ hu)
    refine ⟨o :: fs, by simp [l1], fun i u hi => ?_, fun E Q hq => ?_⟩
    · cases i with
      | zero => cases (show some v = some u from hi); exact ⟨o, rfl, h1⟩
      | succ i => exact l2 i u hi
    · rw [List.mapM_cons]
      exact wpAny_bind (h2 _ _ (wpAny_bind (l3 E (fun bs s' => wpAny M A (pure (o :: bs)) Q E s') (wpAny_pure hq))))
theorem kind_mixed {k : Value → List Int} {vs : List Value} (hp : ∀ v ∈ vs, ∃ as, Reads s.heap v (pyT (k v)) as) (h2 : 2 ≤ vs.length) (hm : ∃ v ∈ vs, k v = []) :
    ∃ f : Bool, ∀ (E : Value → Shared → Prop) (Q : SortKind → Shared → Prop), Q (if f = true then oneType' else general') s → wpAny M A (keyKind' vs.toArray) Q E s := by
  obtain ⟨fs, l1, l2, l3⟩ := firsts_tup (M := M) (A := A) vs hp
  have hall : (fs.toArray.all fun x => x.isSome) = false := by
    obtain ⟨v, hv, e⟩ := hm
    obtain ⟨i, hi⟩ := List.mem_iff_getElem?.mp hv
    obtain ⟨o, ho, hs⟩ := l2 i v hi
    have hn : o.isSome = false := by
      cases hh : o.isSome with
      | false => rfl
      | true => exact absurd e (hs.mp hh)
    rw [List.all_toArray, List.all_eq_false]
    exact ⟨o, List.mem_of_getElem? ho, by rw [hn]; decide⟩
  have hT : ∀ v ∈ vs, Looks M s.heap (typeOf v) (.type "tuple") := fun v hv => by
    obtain ⟨as, r⟩ := hp v hv
    obtain ⟨_, _, _, ty⟩ := first_tup (M := M) (A := A) r
    exact ty
  refine ⟨!(fs.toArray[0]?.bind id).isSome, fun E Q hq => ?_⟩
  rw [keyKind'_eq, List.mapM_toArray, map_eq_pure_bind]
  refine wpAny_bind (wpAny_bind (l3 E _ (wpAny_pure ?_)))
  rw [if_neg (by rw [hall]; decide)]
  cases hc : (fs.toArray[0]?.bind id).isSome with
  | true =>
    rw [hc] at hq
    rw [if_pos rfl]
    exact wpAny_pure hq
  | false =>
    rw [hc] at hq
    rw [if_neg (by decide)]
    obtain ⟨v1, v2, rest, rfl⟩ : ∃ v1 v2 rest, vs = v1 :: v2 :: rest := by
      match vs, h2 with
      | [], h2 => simp at h2
      | [_], h2 => simp at h2
      | v1 :: v2 :: rest, _ => exact ⟨v1, v2, rest, rfl⟩
    rw [oneTypeOnly'_eq, List.mapM_toArray, map_eq_pure_bind]
    refine wpAny_bind (wpAny_bind (wpAny_bind (kas_mapM (r := Value.type "tuple") _ (fun v hv Q' hq' => (hT v hv).here hq') (wpAny_pure ?_))))
    have ha : ((List.map (fun _ => Value.type "tuple") (v1 :: v2 :: rest)).toArray.all fun x => x == Value.type "tuple") = true := by
      rw [List.all_toArray, List.all_map, List.all_eq_true]
      intro _ _
      exact beq_self_eq_true _
    have h0 : (List.map (fun _ => Value.type "tuple") (v1 :: v2 :: rest)).toArray[0]? = some (Value.type "tuple") := by simp
    rw [h0]
    simp only [ha, if_true]
    exact wpAny_pure (wpAny_pure hq)
end
end Y

namespace Y
open PySem PySem.Spec L2 SrtO
open PySem.W (SortsAt dataKind dataKind_some keyToks)
open PyProof.Rows hiding St
theorem ltT_no : ∀ {a b : List Int}, ltT a b = false → ltT b a = false → a = b
  | [], [], _, _ => rfl
  | [], _ :: _, h, _ => by cases h
  | _ :: _, [], _, h => by cases h
  | x :: r, y :: t, h1, h2 => by
    simp only [ltT, Bool.or_eq_false_iff, Bool.and_eq_false_iff, decide_eq_false_iff_not] at h1 h2
    have e : x = y := by omega
    subst e
    rw [ltT_no (a := r) (b := t) (by rcases h1.2 with z | z; exact absurd rfl z; exact z) (by rcases h2.2 with z | z; exact absurd rfl z; exact z)]
theorem ltT_asym : ∀ {a b : List Int}, ltT a b = true → ltT b a = false
  | [], [], h => by cases h
  | [], _ :: _, _ => rfl
  | _ :: _, [], h => by cases h
  | x :: r, y :: t, h => by
    simp only [ltT, Bool.or_eq_true, Bool.and_eq_true, decide_eq_true_eq] at h
    show (decide (y < x) || (decide (y = x) && ltT t r)) = false
    rcases h with h | ⟨h1, h2⟩
    · have a1 : ¬ y < x := by omega
      have a2 : ¬ y = x := by omega
      simp [a1, a2]
    · subst h1
      simp [ltT_asym h2]
theorem ltT_trans : ∀ {a b c : List Int}, ltT a b = true → ltT b c = true → ltT a c = true
  | [], [], _, h, _ => by cases h
  | _ :: _, [], _, h, _ => by cases h
  | _, _ :: _, [], _, h => by cases h
  | [], _ :: _, _ :: _, _, _ => rfl
  | x :: r, y :: t, z :: u, h1, h2 => by
    simp only [ltT, Bool.or_eq_true, Bool.and_eq_true, decide_eq_true_eq] at h1 h2
    show (decide (x < z) || (decide (x = z) && ltT r u)) = true
    simp only [Bool.or_eq_true, Bool.and_eq_true, decide_eq_true_eq]
    rcases h1 with h1 | ⟨h1, h1'⟩ <;> rcases h2 with h2 | ⟨h2, h2'⟩
    · exact .inl (by omega)
    · exact .inl (by omega)
    · exact .inl (by omega)
    · exact .inr ⟨by omega, ltT_trans h1' h2'⟩
theorem swo_tup (k : Value → List Int) : Swo fun u v => ltT (k u) (k v) := by
  refine ⟨fun x y h => ltT_asym h, fun x y z h1 h2 => ?_⟩
  cases h : ltT (k z) (k x) with
  | false => rfl
  | true =>
    cases h3 : ltT (k x) (k y) with
    | true => rw [ltT_trans h h3] at h2; cases h2
    | false =>
      rw [ltT_no h3 h1] at h
      rw [h] at h2; cases h2
def sortT (ts : List (List Int)) : List (List Int) := ts.mergeSort (fun a b => !ltT b a)
theorem sortT_perm (ts : List (List Int)) : (sortT ts).Perm ts := List.mergeSort_perm _ _
theorem sortT_sorted (ts : List (List Int)) : (sortT ts).Pairwise (fun a b => ltT b a = false) := by
  have := List.pairwise_mergeSort (le := fun a b : List Int => !ltT b a) (fun a b c h1 h2 => by
    simp only [Bool.not_eq_true'] at *
    cases h : ltT c a with
    | false => rfl
    | true =>
      cases h3 : ltT a b with
      | true => rw [ltT_trans h h3] at h2; cases h2
      | false =>
        rw [ltT_no h3 h1] at h
        rw [h] at h2; cases h2) (fun a b => by
    cases h : ltT b a with
    | false => rfl
    | true => simp [ltT_asym h]) ts
  exact this.imp (by simp)
theorem sortedT_uniq : ∀ {l1 l2 : List (List Int)}, l1.Perm l2 → l1.Pairwise (fun a b => ltT b a = false) → l2.Pairwise (fun a b => ltT b a = false) → l1 = l2
  | [], l2, p, _, _ => by rw [p.nil_eq]
  | a :: r, [], p, _, _ => absurd p.length_eq (by simp)
  | a :: r, b :: t, p, h1, h2 => by
    have ha : a ∈ b :: t := p.mem_iff.mp (.head _)
    have hb : b ∈ a :: r := p.mem_iff.mpr (.head _)
    have e : a = b := by
      rcases List.mem_cons.mp ha with e | m
      · exact e
      · rcases List.mem_cons.mp hb with e | m'
        · exact e.symm
        · exact ltT_no (List.rel_of_pairwise_cons h2 m) (List.rel_of_pairwise_cons h1 m')
    subst e
    rw [sortedT_uniq (List.perm_cons a |>.mp p) h1.of_cons h2.of_cons]
section
variable {prog : Program} {w : World} {A : Around} {s : Shared}
theorem tups_sortable {g : Heap} {a : Addr} {vs : List Value} {k : Value → List Int} (hp : ∀ v ∈ vs, ∃ as, Reads s.heap v (pyT (k v)) as) (kp : ∀ b u, s.heap.get? b = some u → b ≠ a ∧ g.get? b = some u) (h2 : 2 ≤ vs.length) (hu : A.units + 8 < cLine) :
    SortableO prog w A { s with heap := g } a vs fun u v => ltT (k u) (k v) := by
  intro h' kp'
  have hp' : ∀ v ∈ vs, ∃ as, Reads h' v (pyT (k v)) as := fun v hv => by
    obtain ⟨as, r⟩ := hp v hv
    exact ⟨as, PyProof.Rows.Reads.keeps (fun b u z => kp' b u (kp b u z).1 (kp b u z).2) r⟩
  by_cases hm : ∃ v ∈ vs, k v = []
  · obtain ⟨f, hf⟩ := kind_mixed (M := model prog w) (A := A) (s := { s with heap := h' }) hp' h2 hm
    refine ⟨if f = true then oneType' else general', fun Q E hq => hf E Q hq, fun p q m m' => ?_⟩
    obtain ⟨as, r1⟩ := hp' _ m
    obtain ⟨bs, r2⟩ := hp' _ m'
    cases f with
    | true => exact oneLt_tup (s := { s with heap := h' }) true r1 r2 hu ⟨rfl, rfl⟩
    | false => exact oneLt_tup (s := { s with heap := h' }) false r1 r2 hu ⟨rfl, rfl⟩
  · have ne : ∀ v ∈ vs, k v ≠ [] := fun v hv e => hm ⟨v, hv, e⟩
    have each : ∀ us : List Value, (∀ v ∈ us, v ∈ vs) → PySem.W.EachIs (fun v d => ∃ as, Reads h' v d as) us (us.map fun v => pyT (k v)) := fun us => by
      induction us with
      | nil => exact fun _ => .nil
      | cons v us ih => exact fun h => .cons (hp' v (h v (.head _))) (ih fun u hu => h u (.tail _ hu))
    have al : PySem.W.AllAlike (vs.map fun v => pyT (k v)) := fun d hd d' hd' => by
      obtain ⟨v, _, rfl⟩ := List.mem_map.mp hd
      obtain ⟨u, _, rfl⟩ := List.mem_map.mp hd'
      exact alike_pyT _ _
    have so : PySem.W.Sortable (vs.map fun v => pyT (k v)) := .inl fun d hd => by
      obtain ⟨v, hv, rfl⟩ := List.mem_map.mp hd
      cases e : k v with
      | nil => exact absurd e (ne v hv)
      | cons x r => exact ⟨.int x, r.map .int, rfl⟩
    have dp : ∀ d, d ∈ vs.map (fun v => pyT (k v)) → A.units + d.depth < cLine := fun d hd => by
      obtain ⟨v, _, rfl⟩ := List.mem_map.mp hd
      have h1 := depth_ints (k v)
      have : (pyT (k v)).depth ≤ 2 := by unfold pyT; simp only [PyData.depth]; omega
      omega
    obtain ⟨kd, lt, kk⟩ := (SortsAt.data (prog := prog) (w := w) (A := A) (s := { s with heap := h' }) (each vs fun _ h => h) al so dp).kind
    refine ⟨kd, fun Q E hq => kk h2 E hq, fun p q m m' => ?_⟩
    obtain ⟨as, r1⟩ := hp' _ m
    obtain ⟨bs, r2⟩ := hp' _ m'
    have k1 := dataKind_some al (List.mem_map.mpr ⟨_, m, rfl⟩) r1
    have k2 := dataKind_some al (List.mem_map.mpr ⟨_, m', rfl⟩) r2
    exact lt (fun _ _ => False) p.1 q.1 _ _ (Q := fun r s' => s' = ({ s with heap := h' } : Shared) ∧ r = ltT (k p.1) (k q.1)) k1 k2 ⟨rfl, dataLt_pyT (k p.1) (k q.1)⟩
end
end Y

namespace Y
open PySem PySem.Spec L2 SrtO
open PyProof.Rows hiding St
/-- sorted of a list or a tuple of rows of ints -/
def rSortedTD : List D → GS → QD → Prop := fun ds G Q => match ds with
  | [d] => match itemsD G d with
    | some xs => (match tupsD xs with | some ts => Q (.lst ((sortT ts).map tupI)) G | none => False)
    | none => False
  | _ => False
abbrev hSortedT (X : Cx) : List V → Hp → VK → Prop := fun vs H Q => ∃ (a : Addr) (xs : List V) (ts : List (List Int)), vs = [V.ref a] ∧ (SqT X.K H a xs ∨ SqL X.K H a xs) ∧ DpAll X.K H xs (ts.map pyT) ∧ (∀ x ∈ xs, ∃ b, x = V.ref b) ∧
  ∀ us : List V, us.length = (sortT ts).length → (∀ (i : Nat) (u : V), us[i]? = some u → ∃ (j : Nat) (t : List Int), xs[j]? = some u ∧ ts[j]? = some t ∧ (sortT ts)[i]? = some t) → ∀ p, H p = none → Q (.ref p) (upd H p (.lst us))
open Classical in
/-- the row that a value stands for -/
noncomputable def kOf (h : Heap) (v : Value) : List Int := if z : ∃ t bs, Reads h v (pyT t) bs then z.choose else []
theorem reads_all_get {h : Heap} : ∀ {vs : List Value} {ts : List (List Int)} {as : List Addr}, ReadsAll h vs (ts.map pyT) as → vs.length = ts.length ∧ ∀ (i : Nat) (v : Value), vs[i]? = some v → ∃ t bs, ts[i]? = some t ∧ Reads h v (pyT t) bs
  | [], [], _, _ => ⟨rfl, fun i v h => by simp at h⟩
  | [], _ :: _, _, r => nomatch r
  | _ :: _, [], _, r => nomatch r
  | v :: vs, t :: ts, _, .cons r rs => by
    obtain ⟨h1, h2⟩ := reads_all_get rs
    refine ⟨by simp [h1], fun i u hu => ?_⟩
    cases i with
    | zero => cases (show some v = some u from hu); exact ⟨t, _, rfl, r⟩
    | succ i => exact h2 i u hu
section
variable {X : Cx}
theorem oSortedT (hu : X.A.units + 64 < cLine) : CallR X (.builtin "sorted") (hSortedT X) := by
  intro pins s σ H vs us Q I r h
  obtain ⟨a, xs, ts, rfl, hs, hd, hrf, q⟩ := h
  obtain ⟨T, o, n, its, hT, ho, hc, hdd, rv, hz⟩ : ∃ (T : String) (o : Obj) (n : Nat) (its : List Value), (T = "list" ∨ T = "tuple") ∧ s.heap.get? a = some o ∧ o.cls = .type T ∧ o.data = .seq its.toArray n ∧ Vals xs its ∧ xs.length ≤ sizeLine := by
    rcases hs with hs | hs
    · obtain ⟨its, rv, ⟨o, ho, hc, n, hd⟩, hz⟩ := I.tuple hs
      exact ⟨"tuple", o, n, its, .inr rfl, ho, hc, hd, rv, hz⟩
    · obtain ⟨its, rv, ⟨o, n, ho, hc, _, hd⟩, hz⟩ := I.list hs
      exact ⟨"list", o, n, its, .inl rfl, ho, hc, hd, rv, hz⟩
  rw [Vals.ref1 r]
  obtain ⟨as, hr⟩ := Dp.readsAll I _ _ _ hd rv
  obtain ⟨hl, hg⟩ := reads_all_get hr
  obtain ⟨e1, e2⟩ := refs_back rv hrf
  obtain ⟨k, hk⟩ : ∃ k : Value → List Int, ∀ v t bs, Reads s.heap v (pyT t) bs → k v = t := by
    refine ⟨kOf s.heap, fun v t bs rd => ?_⟩
    have z : ∃ t bs, Reads s.heap v (pyT t) bs := ⟨t, bs, rd⟩
    have e : kOf s.heap v = z.choose := dif_pos z
    rw [e]
    obtain ⟨cs, rc⟩ := z.choose_spec
    exact pyT_inj (PySem.W.alike_unique _ _ _ _ _ (alike_pyT _ _) rc rd)
  have hp : ∀ v ∈ its, ∃ as, Reads s.heap v (pyT (k v)) as := fun v hv => by
    obtain ⟨i, hi⟩ := List.mem_iff_getElem?.mp hv
    obtain ⟨t, bs, _, rd⟩ := hg i v hi
    rw [hk v t bs rd]
    exact ⟨bs, rd⟩
  have hmap : its.map k = ts := by
    refine List.ext_getElem? fun i => ?_
    rw [List.getElem?_map]
    cases hi : its[i]? with
    | none =>
      have : its.length ≤ i := List.getElem?_eq_none_iff.mp hi
      rw [List.getElem?_eq_none (by omega)]; rfl
    | some v =>
      obtain ⟨t, bs, ht, rd⟩ := hg i v hi
      rw [ht, Option.map_some, hk v t bs rd]
  refine sorted_seq (swo_tup k) hT ho hc hdd (by rw [← rv.length]; exact hz) (fun h2 g b kp => tups_sortable hp kp h2 (by show X.A.units + 1 + 1 + 8 < cLine; omega)) fun out h1 h2 e a1 a2 k1 k2 at_ => ?_
  have perm := a2.perm
  have eq : out.map k = sortT ts := by
    refine sortedT_uniq (((perm.map k).trans (by rw [hmap])).trans (sortT_perm ts).symm) ?_ (sortT_sorted ts)
    exact List.pairwise_map.mpr (a1.imp fun h => h)
  have I1 := I.kept (t' := s.toks) k1
  have hb : ∀ u ∈ out, ∃ c, u = Value.ref c := fun u hu => e2 u (perm.mem_iff.mp hu)
  have hlen : (out.map backV).length ≤ sizeLine := by
    rw [List.length_map, perm.length_eq, ← rv.length]; exact hz
  have I2 := I1.laid (t' := s.toks) k2 (Nat.le_refl _) (o := .lst (out.map backV)) ⟨hlen, out, e, vals_back hb, at_⟩
  refine ⟨.ref h1.objs.size, _, I2, rfl, q (out.map backV) (by rw [← eq, List.length_map, List.length_map]) (fun i u hi => ?_) _ (I1.hok.fresh (Nat.le_refl _))⟩
  rw [List.getElem?_map] at hi
  obtain ⟨v, hv, rfl⟩ := Option.map_eq_some_iff.mp hi
  have hm : v ∈ its := perm.mem_iff.mp (List.mem_of_getElem? hv)
  obtain ⟨j, hj⟩ := List.mem_iff_getElem?.mp hm
  obtain ⟨t, bs, ht, rd⟩ := hg j v hj
  refine ⟨j, t, by rw [e1, List.getElem?_map, hj]; rfl, ht, ?_⟩
  rw [← eq, List.getElem?_map, hv, Option.map_some, hk v t bs rd]
end
end Y

namespace Y
open PySem PySem.Spec L2
open PyProof.Rows hiding St
section
variable {X : Cx}
theorem RpL.ofGet {K : PySem.W.Frag} {η : Eta} {H : Hp} : ∀ {ds : List D} {vs : List V}, vs.length = ds.length → (∀ (i : Nat) (v : V), vs[i]? = some v → ∃ d, ds[i]? = some d ∧ Rp K η H d v) → RpL K η H ds vs
  | [], [], _, _ => rfl
  | [], _ :: _, h, _ => by simp at h
  | _ :: _, [], h, _ => by simp at h
  | d :: ds, v :: vs, h, hg => by
    obtain ⟨d', e, r⟩ := hg 0 v rfl
    cases (show some d = some d' from e)
    exact ⟨v, vs, rfl, r, RpL.ofGet (by simpa using h) fun i u hu => hg (i + 1) u hu⟩
theorem noObj_tupI {t : List Int} : noObj (tupI t) = true := by
  show noObjL (t.map D.int) = true
  induction t with
  | nil => rfl
  | cons _ _ ih => exact ih
theorem noObjL_tups {ts : List (List Int)} : noObjL (ts.map tupI) = true := by
  induction ts with
  | nil => rfl
  | cons t ts ih =>
    show (noObj (tupI t) && noObjL (ts.map tupI)) = true
    rw [ih, noObj_tupI]; rfl
theorem lift_sortedT : LiftC X (hSortedT X) rSortedTD := by
  intro η G H vs ds Q Qd w r h q
  match ds, h with
  | [d], h =>
    obtain ⟨v, rfl, rd⟩ := rpl1 r
    unfold rSortedTD at h
    simp only at h
    split at h
    · rename_i xs e
      split at h
      · rename_i ts en
        obtain ⟨a, us, rfl, hs, ru⟩ := itemsD_ok w rd e
        have ex := tupsD_eq en
        subst ex
        have hdp : DpAll X.K H us (ts.map pyT) := by
          have := RpL.dp _ us noObjL_tups ru
          rw [toPyL_map, List.map_map] at this
          rwa [show toPy ∘ tupI = pyT from funext toPy_tupI] at this
        have refs : ∀ x ∈ us, ∃ b, x = V.ref b := fun x hx => by
          obtain ⟨i, hi⟩ := List.mem_iff_getElem?.mp hx
          obtain ⟨d', hd', rd'⟩ := ru.getV hi
          rw [List.getElem?_map] at hd'
          obtain ⟨t, _, rfl⟩ := Option.map_eq_some_iff.mp hd'
          obtain ⟨b, _, e, _⟩ := rd'
          exact ⟨b, e⟩
        refine ⟨a, us, ts, rfl, hs, hdp, refs, fun zs hl hg p hp => q.newL w hp (RpL.ofGet (by rw [List.length_map]; exact hl) fun i u hu => ?_) h⟩
        obtain ⟨j, t, h1, h2, h3⟩ := hg i u hu
        refine ⟨tupI t, by rw [List.getElem?_map, h3]; rfl, ?_⟩
        obtain ⟨d', hd', rd'⟩ := ru.getV h1
        rw [List.getElem?_map, h2] at hd'
        cases hd'
        exact rd'
      · exact h.elim
    · exact h.elim
end
end Y

namespace Y
open PySem PySem.Spec L2
open PyProof.Rows hiding St
/-- <= of tuples of ints: the kit's own walk over the places -/
def leT (ns ms : List Int) : Bool := Ob.lexAt (fun j => decide (ns.getD j 0 = ms.getD j 0)) (fun j => decide (ns.getD j 0 ≤ ms.getD j 0)) (decide (ns.length ≤ ms.length)) 0 (min ns.length ms.length)
def rLeTD : R2d := fun x y G Q => match x, y with
  | .tup a, .tup b => (match intsD a, intsD b with | some ns, some ms => Q (.bl (leT ns ms)) G | _, _ => False)
  | _, _ => False
theorem lift_leT {X : Cx} : LiftR X (L2.rLeT X.K) rLeTD := by
  intro η G H x y dx dy Q Qd w rx ry h q
  unfold rLeTD at h
  split at h
  · rename_i a b
    split at h
    · rename_i ns ms e1 e2
      rw [intsD_eq e1] at rx
      rw [intsD_eq e2] at ry
      obtain ⟨p, vs, rfl, hp, r1⟩ := rx
      obtain ⟨p2, vs2, rfl, hp2, r2⟩ := ry
      rw [RpL.ints.mp r1] at hp
      rw [RpL.ints.mp r2] at hp2
      exact ⟨p, p2, ns, ms, rfl, rfl, hp, hp2, q.nb w h⟩
    · exact h.elim
  · exact h.elim
theorem lexAt_shift {e r e' r' : Nat → Bool} {z : Bool} (he : ∀ j, e (j + 1) = e' j) (hr : ∀ j, r (j + 1) = r' j) : ∀ k i, Ob.lexAt e r z (i + 1) k = Ob.lexAt e' r' z i k
  | 0, i => rfl
  | k + 1, i => by
    rw [Ob.lexAt_succ, Ob.lexAt_succ, he, hr, lexAt_shift he hr k (i + 1)]
theorem leT_eq : ∀ ns ms : List Int, leT ns ms = !ltT ms ns
  | [], ms => by
    have : ltT ms [] = false := by cases ms <;> rfl
    rw [this]
    unfold leT
    rw [show min ([] : List Int).length ms.length = 0 by simp]
    rw [Ob.lexAt_zero]
    simp
  | n :: ns, [] => by
    unfold leT
    rw [show min (n :: ns).length ([] : List Int).length = 0 by simp, Ob.lexAt_zero]
    simp [ltT]
  | n :: ns, m :: ms => by
    unfold leT
    rw [show min (n :: ns).length (m :: ms).length = min ns.length ms.length + 1 by simp only [List.length_cons]; omega, Ob.lexAt_succ]
    rw [lexAt_shift (e' := fun j => decide (ns.getD j 0 = ms.getD j 0)) (r' := fun j => decide (ns.getD j 0 ≤ ms.getD j 0)) (fun j => by simp) (fun j => by simp)]
    have ih := leT_eq ns ms
    unfold leT at ih
    have ez : decide ((n :: ns).length ≤ (m :: ms).length) = decide (ns.length ≤ ms.length) := by simp
    rw [ez, ih]
    show (if decide (n = m) = true then !ltT ms ns else decide (n ≤ m)) = !(decide (m < n) || (decide (m = n) && ltT ms ns))
    rcases Int.lt_trichotomy n m with h | h | h
    · have a1 : ¬ n = m := by omega
      have a2 : n ≤ m := by omega
      have a3 : ¬ m < n := by omega
      have a4 : ¬ m = n := by omega
      simp [a1, a2, a3, a4]
    · subst h; simp
    · have a1 : ¬ n = m := by omega
      have a2 : ¬ n ≤ m := by omega
      simp [a1, a2, h]
end Y

namespace Y
open PySem PySem.Spec L2
open PyProof.Rows hiding St
/-- ahead of a statement, a numbered list that a name has is given away -/
def tFrzS (i : Nat) (t : TSd) : TSd := fun D ρ G => match ρ[i]? with
  | some (some (.obj k)) => match G[k]? with | some (.lst ds) => t D (ρ.set i (some (.lst ds))) (G.set k .dead) | _ => False
  | _ => False
theorem EnvR.freezeAt {K : PySem.W.Frag} {mg : Str → Option Value} {η : Eta} {G : GS} {H : Hp} {σ : St} {ρ : Rho} {i k : Nat} {ds : List D} (he : EnvR K η H σ ρ) (w : W K mg η G H) (h1 : ρ[i]? = some (some (.obj k))) (h2 : G[k]? = some (.lst ds)) : EnvR K (η.kill k) H σ (ρ.set i (some (.lst ds))) := by
  obtain ⟨v, hv, r⟩ := he.2 i _ h1
  have he2 : EnvR K (η.kill k) H σ ρ := he.step Stp.freeze
  have h3 := he2.set i (Rp.freeze w r h2)
  have e : σ.set i (some v) = σ := by
    obtain ⟨hi, e⟩ := List.getElem?_eq_some_iff.mp hv
    rw [← e, List.set_getElem_self]
  rw [e] at h3
  exact h3
theorem psd_frzS {X : Cx} {E : St → XK} {st : Stmt} {t : TSd} {i : Nat} (h : PSd X E st t) : PSd X E st (tFrzS i t) := by
  refine ⟨PS.imp h.run fun D σ H h => ?_⟩
  obtain ⟨ρ, η, G, Dd, he, w, ht, l⟩ := h
  unfold tFrzS at ht
  split at ht
  · rename_i k e1
    split at ht
    · rename_i ds e2
      exact ⟨ρ.set i (some (.lst ds)), η.kill k, G.set k .dead, Dd, he.freezeAt w e1 e2, w.freeze, ht, l.step Stp.freeze⟩
    · exact ht.elim
  · exact ht.elim
end Y

namespace Y
open PySem PySem.Spec L2
open PyProof.Rows hiding St
section
variable {X : Cx}
theorem isa_ty {K : PySem.W.Frag} {mg : Str → Option Value} {η : Eta} {G : GS} {H : Hp} (w : W K mg η G H) {d : D} {v : V} {n : TyN} (r : Rp K η H d v) (en : tyN (vw G d) = some n) : TyX K H v (.type n.name) := by
  cases hd : vw G d with
  | lst ds =>
    rw [hd] at en; cases en
    obtain ⟨a, vs, rfl, hl, _⟩ := vw_lst w r hd
    exact .base (.lst hl)
  | obj k => rw [hd] at en; cases en
  | exn _ _ _ _ => rw [hd] at en; cases en
  | scr _ => rw [hd] at en; cases en
  | key _ => rw [hd] at en; cases en
  | _ =>
    rw [hd] at en; cases en
    cases d with
    | obj k => rcases vw_obj (G := G) (k := k) with ⟨ds, _, z⟩ | z <;> (rw [z] at hd; cases hd)
    | non => first | (cases hd; done) | (cases (show v = .non from r); exact .base .non)
    | bl y => first | (cases hd; done) | (cases (show v = .bl y from r); exact .base (.bl y))
    | int y => first | (cases hd; done) | (cases (show v = .int y from r); exact .base (.int y))
    | str y => first | (cases hd; done) | (cases (show v = .str y from r); exact .base (.str y))
    | lst y => cases hd
    | exn _ _ _ _ => cases hd
    | scr _ => cases hd
    | key _ => cases hd
    | dct => first | (cases hd; done) | (obtain ⟨a, rfl, _, hd'⟩ := r; exact .base (.dK hd'))
    | tup y =>
      first
        | (cases hd; done)
        | (obtain ⟨a, vs, rfl, ht, _⟩ := r
           rcases ht with (ht | ⟨o, ht⟩) | ⟨o, its, n, h1, h2, _⟩
           · exact .base (.tup ht)
           · exact .fTuple ht
           · exact .kTuple h1 h2)
/-- isinstance with two types in a tuple -/
def tIsi2D (T U : Ty) (te : TEd) : TEd := fun ρ G Q Ed => te ρ G (fun d G1 => match tyN (vw G1 d) with | some n => Q (.bl (isaN n T || isaN n U)) G1 | none => False) Ed
theorem ped_isi2 {E : St → XK} {e : Expr} {te : TEd} {p p2 p3 tp pos : Pos} {k : Nat} {x y : Str} (T U : Ty) (hm : X.mg "isinstance" = none) (hmT : X.mg x = none) (hmU : X.mg y = none) (hvT : bootBuiltins x = some (.type T.name)) (hvU : bootBuiltins y = some (.type U.name)) (hg : Gl X "isinstance") (hgT : Gl X x) (hgU : Gl X y) (he : PEd X E e te)
    (hn : x ≠ "__name__" := by decide) (hd : (x == ("__debug__" : Str)) = false := by decide) (hn2 : y ≠ "__name__" := by decide) (hd2 : (y == ("__debug__" : Str)) = false := by decide)
    (hs : starEach (e :: [.Tuple [.Name x p2, .Name y p3] k tp]) X.env = (false, eval e X.env) :: starEach [.Tuple [.Name x p2, .Name y p3] k tp] X.env := by rfl) (hpl : (backTo pos (starEach [.Tuple [.Name x p2, .Name y p3] k tp] X.env)).any (·.1) = false := by rfl) :
    PEd X E (.Call (.Name "isinstance" p) [e, .Tuple [.Name x p2, .Name y p3] k tp] [] pos) (tIsi2D T U te) := by
  have h1 : PE X (.Name x p2) (tC (.ty T.name)) := pe_bltn hgT hmT hvT rfl hn hd
  have h2 : PE X (.Name y p3) (tC (.ty U.name)) := pe_bltn hgU hmU hvU rfl hn2 hd2
  have h3 : PE X (.Tuple [.Name x p2, .Name y p3] k tp) _ := pe_tup (pa_cons h1 (pa_cons h2 pa_nil))
  refine ⟨PE.imp (pe_callB call_isiT hg hm (by decide +kernel) (pa_cons he.run (pa_cons h3 pa_nil) hs) (by decide) (by decide) hs hpl) fun σ H Q h => ?_⟩
  obtain ⟨ρ, η, G, Qd, Ed, he, w, ht, hq, hE⟩ := h
  refine ⟨ρ, η, G, _, Ed, he, w, ht, fun d G1 v η1 H1 s1 w1 r1 q1 => ?_, hE⟩
  dsimp only at q1
  split at q1
  · rename_i n en
    refine ⟨show 2 ≤ sizeLine by decide, fun a ha => ?_⟩
    have s2 : Stp η1 H1 η1 (upd H1 a (.tup [.ty T.name, .ty U.name])) := Stp.laid ha
    have w2 : W X.K X.mg η1 G1 (upd H1 a (.tup [.ty T.name, .ty U.name])) := w1.laid ha
    have r2 := Rp.step s2 d v r1
    have ty := isa_ty w2 r2 en
    refine ⟨v, a, [.ty T.name, .ty U.name], _, [.type T.name, .type U.name], isaN n T || isaN n U, rfl, upd_same, .cons (.ty _) (.cons (.ty _) .nil), ty, ?_, ((hq.step s1).step s2).nb w2 q1⟩
    refine kitAny_cons (kit_ty (kitB_isa n T)) (fun hb => ?_) (fun hb => by rw [hb]; rfl)
    rw [hb]
    exact kitAny_cons (kit_ty (kitB_isa n U)) (fun hb => by rw [hb]; exact kitAny_nil) (fun hb => by rw [hb]; rfl)
  · exact q1.elim
theorem RpL.rep {K : PySem.W.Frag} {η : Eta} {H : Hp} {ds : List D} {vs : List V} (h : RpL K η H ds vs) : ∀ n : Nat, RpL K η H (List.replicate n ds).flatten (List.replicate n vs).flatten
  | 0 => rfl
  | n + 1 => by
    rw [List.replicate_succ, List.replicate_succ, List.flatten_cons, List.flatten_cons]
    exact RpL.append h (RpL.rep h n)
theorem ped_call0 {E : St → XK} {pos p : Pos} {k : Nat} {f : Addr} {fd : FuncData} {ps : List Str} {sp : SpD} {x : Str} (F : FnOk X.prog X.w X.K X.mg X.base (L2.CX X.prog X.w) k f fd ps (liftSp X.K X.mg sp)) (hr : Room k X.A) (hm : X.mg x = some (.ref f)) (hk : PySem.W.keepIn X.K (.ref f) = true) (hb : Binds X.K fd ps [])
    (hx : ∀ σ, PassesAt (L2.CX X.prog X.w) X σ (E σ)) (hg : Gl X x) (hdb : (x == ("__debug__" : Str)) = false := by decide) : PEd X E (.Call (.Name x p) [] [] pos) (tCallD sp tNilD) := by
  refine ⟨⟨fun pins s σ H Q I h => ?_⟩⟩
  obtain ⟨ρ, η, G, Qd, Ed, he, w, ht, hq, hE⟩ := h
  refine wpAny_Call_Name_kw (ld_glob I hg hm ?_ hdb)
  exact PySem.W.callWith_K0 I.kIn hk (run_fnS F hr hb (hx σ) I .nil ⟨[], η, G, Qd, Ed, rfl, w, ht, hq, hE⟩)
/-- a list, so many times -/
def rRepLD : R2d := fun x y G Q => match vw G x, y with
  | .lst xs, .int k => (-(2 ^ 63) ≤ k ∧ k < 2 ^ 63) ∧ xs.length * k.toNat ≤ 16777216 ∧ Q (.lst (List.replicate k.toNat xs).flatten) G
  | _, _ => False
theorem lift_repL : LiftR X L2.rRep rRepLD := fun η G H x y dx dy Q Qd w rx ry h hq => by
  unfold rRepLD at h
  split at h
  · rename_i xs k e
    obtain ⟨a, vs, rfl, hl, hr⟩ := vw_lst w rx e
    have l1 := hr.length
    exact ⟨a, k, vs, rfl, ry, hl, h.1.1, h.1.2, line_eq (by rw [← l1]; exact h.2.1), fun p hp => hq.newL w hp (hr.rep _) h.2.2⟩
  · exact h.elim
/-- a tuple, so many times -/
def rRepTD : R2d := fun x y G Q => match x, y with
  | .tup xs, .int k => xs ≠ [] ∧ 2 ≤ k ∧ k ≤ 1000 ∧ xs.length ≤ 1000 ∧ Q (.tup (List.replicate k.toNat xs).flatten) G
  | _, _ => False
theorem lift_repT : LiftR X (L2.rRepT X.K) rRepTD := fun η G H x y dx dy Q Qd w rx ry h hq => by
  unfold rRepTD at h
  split at h
  · rename_i xs k
    obtain ⟨a, vs, rfl, hl, hr⟩ := rx
    have l1 := hr.length
    exact ⟨a, k, vs, rfl, ry, hl, fun z => h.1 (by rw [z] at l1; exact List.length_eq_zero_iff.mp l1), h.2.1, h.2.2.1, by rw [← l1]; exact h.2.2.2.1, fun p hp => hq.newT w hp (hr.rep _) h.2.2.2.2⟩
  · exact h.elim
end
end Y

namespace Y
open PySem PySem.Spec PyProof.Rows L2
section
variable {P : Program} {w : World} {A : Around} {E : Value → Shared → Prop} {s : Shared}
/-- a set that was just made -/
abbrev newS (w : World) : Obj := { cls := .type "set", dict := none, data := .set #[] 0 (.fresh 0 0 (!w.params.followText "set-order")) }
abbrev pushS (w : World) (g : Heap) : Heap := g.push (newS w)
theorem pushS_at {g : Heap} : (pushS w g).get? g.objs.size = some (newS w) := Heap.get?_push_size _ rfl
theorem pushS_size {g : Heap} : (pushS w g).objs.size = g.objs.size + 1 := Heap.size_push ..
/-- what a list of ints holds, place by place -/
theorem ints_place {its : Array Value} {ns : List Int} (hit : IntsAre its.toList ns) {i : Nat} {v : Value} (hv : its[i]? = some v) : ∃ k t, ns[i]? = some k ∧ v = .int k t := by
  have hz : its.size = ns.length := (Array.length_toList (xs := its)).symm.trans (IntsAre.length hit)
  have hi : i < ns.length := hz ▸ (Array.getElem?_eq_some_iff.mp hv).1
  obtain ⟨t, e⟩ := IntsAre.int_at hit i v (by rw [Array.getElem?_toList]; exact hv)
  have e2 : ns.getD i 0 = ns[i] := by rw [List.getD_eq_getElem?_getD, List.getElem?_eq_getElem hi]; rfl
  exact ⟨ns[i], t, List.getElem?_eq_getElem hi, by rw [e, e2]⟩
set_option maxHeartbeats 3200000 in
theorem call_set_lst {l : Addr} {its : Array Value} (ns : List Int) {Q : Value → Shared → Prop} (hh : A.handled = none) (hl : s.heap.IsList l its) (hit : IntsAre its.toList ns) (hb : ns.length + 1 < scanBound)
    (h : ∀ (g : Heap) (tk c : Nat), SetR w g s.heap.objs.size (fun j => decide (j ∈ ns)) c → (∀ b o, s.heap.get? b = some o → g.get? b = some o) → Q (.ref s.heap.objs.size) { s with heap := g, toks := tk }) :
    wpAny (model P w) A (call (.type "set") [.ref l]) Q E s := by
  have hz : its.size = ns.length := (Array.length_toList (xs := its)).symm.trans (IntsAre.length hit)
  obtain ⟨c0, t0, m0⟩ := F.called_set.mro
  have m1 := F.called_set.made
  have m2 := F.called_set.sub
  have m3 := F.called_set.notType
  have m4 := F.called_set.canCreate
  have m5 := F.typeCall_set_1 (.ref l)
  refine wpAny_call (codeAny_of_tree ?_)
  show wpAny _ _ (callAny (.type "set") _) _ _ _
  refine wpAny_pure ⟨Code.quiet_builtin _ (by decide +kernel), codeAny_builtin F.entry_type_call ?_⟩
  rw [Around.under_plain (weight_type_call_type "set" [.ref l] []) rfl]
  repeat any_goals first | assumption | wp_step
  refine codeAny_mono (code_set_led1 (.ref l) (E := E) (Q₁ := fun ob s1 => ob = .ref s.heap.objs.size ∧ s1 = { s with heap := pushS w s.heap }) ⟨rfl, rfl⟩) fun r s1 hr => ?_
  match r, hr with
  | .error e, hr => exact hr
  | .ok (.ret ob), hr =>
    obtain ⟨rfl, rfl⟩ := hr
    have ty : Shared.TypeIs { s with heap := pushS w s.heap } (.ref s.heap.objs.size) "set" := ⟨_, pushS_at, rfl⟩
    have m6 := F.called_set.init.lookup
    have m7 := F.called_set.init.bind (.ref s.heap.objs.size)
    repeat any_goals first | assumption | wp_step
    refine codeAny_mono (codeAny_call_builtin (R := wants (fun r2 s2 => r2 = .none ∧ ∃ (g : Heap) (tk c : Nat), s2 = { s with heap := g, toks := tk } ∧ SetR w g s.heap.objs.size (fun j => decide (j ∈ ns)) c ∧
      (∀ b o, s.heap.get? b = some o → g.get? b = some o)) E) F.called_set.init.plain F.entry_set_init (check_set_init_1 ty ?_)) fun r2 s2 hr2 => ?_
    case refine_2 =>
      match r2, hr2 with
      | .error e, hr2 => exact hr2
      | .ok (.ret r), hr2 =>
        obtain ⟨rfl, g, tk, c, rfl, hS, hk⟩ := hr2
        repeat any_goals first | assumption | wp_step
        exact h g tk c hS hk
    case refine_1 =>
      obtain ⟨⟨oc, od, dt, osl⟩, ho, hc, nl, hd⟩ := hl
      simp only at hc hd
      subst hc hd
      have hlt : l < s.heap.objs.size := Heap.lt_size ho
      have q1 : (pushS w s.heap).get? l = some ⟨.type "list", od, .seq its nl, osl⟩ := Heap.get?_push_of_some _ ho
      have q2 := F.sub_list_set
      have q3 := F.sub_list_frozenset
      have q4 : (Value.type "list" == Value.type "dict") = false := by decide
      have q5 : (pushS w s.heap).IsList l its := ⟨_, q1, rfl, nl, rfl⟩
      unfold Builtin.«set.__init__» noKeywords Builtin.Frozenset.updateFrom
      generalize hP : pyIter = PI
      wp_walk
      subst hP
      refine wpAny_pyIter_list q5 (wpAny_bind (wpAny_runValue ?_))
      have n1 : l ≠ (pushS w s.heap).objs.size := by rw [pushS_size]; exact Nat.ne_of_lt (Nat.lt_succ_of_lt hlt)
      have n2 : s.heap.objs.size ∉ [(pushS w s.heap).objs.size, l] := by
        rw [pushS_size]
        intro z
        rcases List.mem_cons.mp z with z | z
        · exact Nat.ne_of_lt (Nat.lt_succ_self _) z
        · exact Nat.ne_of_gt hlt (List.mem_singleton.mp z)
      refine set_update_ints (Walks.list (by simp [hh]) _ l n1 its).toS s.heap.objs.size n2 ns hz hb (fun i v hv => ints_place hit hv) (its.size - 0) 0 _ (by omega) (Nat.zero_le _)
        ⟨⟨_, Heap.get?_push_size _ rfl, rfl, rfl⟩, q5.push _⟩ ⟨0, Nat.le_refl 0, setR_new_at (Heap.get?_push_of_some _ pushS_at)⟩ fun s3 c mv hcn hS => ?_
      obtain ⟨g, g2, d3, t3, o3⟩ := s3
      cases (show g2 = s.gens from mv.gens)
      cases (show d3 = s.drawn from mv.drawn)
      cases (show o3 = s.os from mv.os)
      show wpAny _ _ _ _ _ _
      refine wpAny_pure ?_
      show wpAny _ _ (ret Value.none) _ _ _
      refine wpAny_pure ⟨rfl, g, t3, c, rfl, hS, fun b o e => mv.heap b o (fun z => ?_) (Heap.get?_push_of_some _ (Heap.get?_push_of_some _ e))⟩
      have hb0 := Heap.lt_size e
      rcases List.mem_cons.mp z with z | z
      · exact Nat.ne_of_lt hb0 z
      · have z2 : b = (pushS w s.heap).objs.size := List.mem_singleton.mp z
        rw [pushS_size] at z2
        exact Nat.ne_of_lt (Nat.lt_succ_of_lt hb0) z2
end
end Y

namespace Y
open PySem PySem.Spec L2
open PyProof.Rows hiding St
/-- each int once -/
def nub : List Int → List Int
  | [] => []
  | x :: r => if x ∈ r then nub r else x :: nub r
theorem mem_nub {x : Int} : ∀ {ns : List Int}, x ∈ nub ns ↔ x ∈ ns
  | [] => Iff.rfl
  | y :: r => by
    have ih := mem_nub (x := x) (ns := r)
    unfold nub
    by_cases c : y ∈ r
    · rw [if_pos c, ih, List.mem_cons]
      exact ⟨.inr, fun h => h.elim (fun e => e ▸ c) id⟩
    · rw [if_neg c, List.mem_cons, List.mem_cons, ih]
theorem nodup_nub : ∀ (ns : List Int), (nub ns).Nodup
  | [] => List.nodup_nil
  | y :: r => by
    unfold nub
    by_cases c : y ∈ r
    · rw [if_pos c]; exact nodup_nub r
    · rw [if_neg c, List.nodup_cons]; exact ⟨fun h => c (mem_nub.mp h), nodup_nub r⟩
/-- what sorted(set(..)) gives -/
def setL (ns : List Int) : List Int := sortI (nub ns)
theorem mem_setL {x : Int} {ns : List Int} : x ∈ setL ns ↔ x ∈ ns := ((sortI_perm (nub ns)).mem_iff).trans mem_nub
theorem setL_asc (ns : List Int) : (setL ns).Pairwise (· < ·) := by
  have nd : (setL ns).Nodup := (sortI_perm (nub ns)).nodup_iff.mpr (nodup_nub ns)
  exact (List.Pairwise.and (sortI_sorted (nub ns)) nd).imp fun {a b} h => Int.lt_iff_le_and_ne.mpr h
theorem asc_ext : ∀ {a b : List Int}, a.Pairwise (· < ·) → b.Pairwise (· < ·) → (∀ x, x ∈ a ↔ x ∈ b) → a = b
  | [], [], _, _, _ => rfl
  | [], y :: b, _, _, h => nomatch (h y).mpr (.head _)
  | x :: a, [], _, _, h => nomatch (h x).mp (.head _)
  | x :: a, y :: b, ha, hb, h => by
    have e : x = y := by
      rcases List.mem_cons.mp ((h x).mp (.head _)) with e | m
      · exact e
      · rcases List.mem_cons.mp ((h y).mpr (.head _)) with e | m2
        · exact e.symm
        · have h1 := List.rel_of_pairwise_cons hb m
          have h2 := List.rel_of_pairwise_cons ha m2
          omega
    subst e
    rw [asc_ext ha.of_cons hb.of_cons fun z => ?_]
    constructor
    · intro m
      rcases List.mem_cons.mp ((h z).mp (.tail _ m)) with e | m2
      · subst e; exact absurd (List.rel_of_pairwise_cons ha m) (Int.lt_irrefl _)
      · exact m2
    · intro m
      rcases List.mem_cons.mp ((h z).mpr (.tail _ m)) with e | m2
      · subst e; exact absurd (List.rel_of_pairwise_cons hb m) (Int.lt_irrefl _)
      · exact m2
theorem nodup_le : ∀ {a b : List Int}, a.Nodup → (∀ x ∈ a, x ∈ b) → a.length ≤ b.length
  | [], _, _, _ => Nat.zero_le _
  | x :: r, b, ha, h => by
    obtain ⟨h1, h2⟩ := List.nodup_cons.mp ha
    have := nodup_le (b := b.erase x) h2 fun y hy => (List.mem_erase_of_ne (show y ≠ x from fun e => h1 (by rw [← e]; exact hy))).mpr (h y (.tail _ hy))
    rw [List.length_erase_of_mem (h x (.head _))] at this
    have : 0 < b.length := List.length_pos_of_mem (h x (.head _))
    rw [List.length_cons]; omega
theorem nodup_len {a b : List Int} (ha : a.Nodup) (hb : b.Nodup) (h : ∀ x, x ∈ a ↔ x ∈ b) : a.length = b.length :=
  Nat.le_antisymm (nodup_le ha fun x hx => (h x).mp hx) (nodup_le hb fun x hx => (h x).mpr hx)
theorem setR_count {w : World} {h : Heap} {a : Addr} {ns : List Int} {c : Nat} (R : SetR w h a (fun j => decide (j ∈ ns)) c) : c = (nub ns).length := by
  obtain ⟨o, es, ep, t, _, _, _, _, nd, hm, _, _, hn, _⟩ := R
  have := nodup_len nd (nodup_nub ns) fun x => by rw [← hm x, decide_eq_true_eq, mem_nub]
  rw [List.length_map, Array.length_toList] at this
  omega
section
variable {X : Cx}
/-- a list or a tuple of ints, no longer than a set can take -/
def Ints (K : PySem.W.Frag) (H : Hp) (x : V) (ns : List Int) : Prop := ∃ l, x = .ref l ∧ (SqL K H l (ns.map V.int) ∨ SqT K H l (ns.map V.int)) ∧ ns.length ≤ 4000
/-- set(x): what there is behind it -/
theorem set_made {A : Around} {E : Value → Shared → Prop} {pins : List (Addr × Obj)} {s1 : Shared} {σ : St} {H1 : Hp} {v : Value} {x : V} {ns : List Int} {Q : Value → Shared → Prop} (hd : A.handled = none) (I1 : Inv X pins σ H1 s1) (r1 : RelV x v) (hx : Ints X.K H1 x ns)
    (q : ∀ (g : Heap) (tk : Nat), SetR X.w g s1.heap.objs.size (fun j => decide (j ∈ ns)) (nub ns).length → (∀ b o, s1.heap.get? b = some o → g.get? b = some o) → Q (.ref s1.heap.objs.size) { s1 with heap := g, toks := tk }) :
    wpAny (model X.prog X.w) A (call (.type "set") [v]) Q E s1 := by
  obtain ⟨l, rfl, hq, hz⟩ := hx
  cases r1
  rcases hq with hq | hq
  · obtain ⟨its, r, pl, _⟩ := I1.list hq
    refine call_set_lst ns hd pl.isList (by simpa using r.ints) (by unfold scanBound; omega) fun g tk c R hk => q g tk ?_ hk
    rw [← setR_count R]; exact R
  · obtain ⟨its, rv, pt, _⟩ := I1.tuple hq
    refine call_set_tupI ns hd (show s1.heap.IsTuple l its.toArray from pt) (ints_of_vals rv) (by unfold scanBound; omega) fun g tk c R _ hk => q g tk ?_ hk
    rw [← setR_count R]; exact R
def tLenSetK (K : PySem.W.Frag) (ta : TE) : TE := fun σ H Q => ta σ H fun x H1 => ∃ ns, Ints K H1 x ns ∧ Q (.int (nub ns).length) H1
theorem pe_lenSetK {a : Expr} {ta : TE} {p p2 q pos : Pos} (hc : X.calm = true) (hg : Gl X "len") (hm : X.mg "len" = none) (hg2 : Gl X "set") (hm2 : X.mg "set" = none) (ha : PE X a ta) (na : starEach [a] X.env = (false, eval a X.env) :: starEach [] X.env := by rfl) :
    PE X (.Call (.Name "len" p) [.Call (.Name "set" p2) [a] [] q] [] pos) (tLenSetK X.K ta) := by
  refine ⟨fun pins s σ H Q I h => Call_ (ld_blt I hg hm PySem.boot_len (callWith_builtin1 (args_cons (Call_ (ld_blt I hg2 hm2 boot_set (callWith_type1 (args_cons (thn (ha.run pins s σ H _ I h) fun v s1 h1 => args_nil ?_) na) na rfl))) rfl) rfl rfl))⟩
  obtain ⟨x, H1, I1, r1, ns, hx, q1⟩ := h1
  refine set_made (I1.ok.hd hc) I1 r1 hx fun g tk R hk => ?_
  obtain ⟨o, es, ep, t, ho, hex, hd, _, _, _, hb, hf, hn, _⟩ := R
  have I2 : Inv X pins σ H1 { s1 with heap := g, toks := tk } := I1.kept hk
  refine args_nil (call_len_set ho hex hd hf (by unfold scanBound at hb; omega) ⟨.int (nub ns).length, H1, I2.tok _, ⟨_, by rw [hn]⟩, q1⟩)
def tSortSetK (K : PySem.W.Frag) (ta : TE) : TE := fun σ H Q => ta σ H fun x H1 => ∃ ns, Ints K H1 x ns ∧ (nub ns).length < 64 ∧ ∀ p, H1 p = none → Q (.ref p) (upd H1 p (.lst ((setL ns).map V.int)))
theorem pe_sortSetK {a : Expr} {ta : TE} {p p2 q pos : Pos} (hc : X.calm = true) (hg : Gl X "sorted") (hm : X.mg "sorted" = none) (hg2 : Gl X "set") (hm2 : X.mg "set" = none) (ha : PE X a ta) (na : starEach [a] X.env = (false, eval a X.env) :: starEach [] X.env := by rfl) :
    PE X (.Call (.Name "sorted" p) [.Call (.Name "set" p2) [a] [] q] [] pos) (tSortSetK X.K ta) := by
  refine ⟨fun pins s σ H Q I h => Call_ (ld_blt I hg hm (by decide +kernel : bootBuiltins "sorted" = some (.builtin "sorted")) (callWith_builtin1 (args_cons (Call_ (ld_blt I hg2 hm2 boot_set (callWith_type1 (args_cons (thn (ha.run pins s σ H _ I h) fun v s1 h1 => args_nil ?_) na) na rfl))) rfl) rfl rfl))⟩
  obtain ⟨x, H1, I1, r1, ns, hx, h64, q1⟩ := h1
  have hd := I1.ok.hd hc
  refine set_made hd I1 r1 hx fun g tk R hk => args_nil ?_
  refine sorted_set (s := { s1 with heap := g, toks := tk }) R hd h64 fun s' p out c ms k eg eo hp hgt hi hs hm hl => ?_
  have e : ms = setL ns := asc_ext hs (setL_asc ns) fun z => by rw [hm z, decide_eq_true_eq, mem_setL]
  subst e
  have hp1 : s1.heap.objs.size ≤ p := Nat.le_trans (Nat.le_of_lt (SetR.lt R)) hp
  have hn : H1 p = none := I1.hok.fresh hp1
  have hlen : ((setL ns).map V.int).length ≤ sizeLine := by rw [List.length_map, hl, sizeLine_eq]; omega
  have kall : ∀ b o, s1.heap.get? b = some o → s'.heap.get? b = some o := fun b o z => k b o (hk b o z)
  have J : Inv X pins σ (upd H1 p (.lst ((setL ns).map V.int))) { s1 with heap := s'.heap, gens := s'.gens, drawn := s'.drawn, toks := s'.toks } :=
    I1.call (ch := []) (Un.laid kall hp1 hn) (I1.hok.laid kall hp1 ⟨hlen, out.toList, c, vals_of_ints hi, hgt⟩) (by rw [eg]; exact I1.bare) (fun _ z => nomatch z)
  have es : s' = { s1 with heap := s'.heap, gens := s'.gens, drawn := s'.drawn, toks := s'.toks } := by
    obtain ⟨_, _, _, _, _⟩ := s'
    cases eo
    rfl
  rw [es]
  exact ⟨.ref p, _, J, rfl, q1 p hn⟩
variable {E : St → XK}
def tLenSetD (te : TEd) : TEd := fun ρ G Q Ed => te ρ G (fun d G1 => match itemsD G1 d with
  | some xs => match intsD xs with | some ns => ns.length ≤ 4000 ∧ Q (.int (nub ns).length) G1 | none => False
  | none => False) Ed
def tSortSetD (te : TEd) : TEd := fun ρ G Q Ed => te ρ G (fun d G1 => match itemsD G1 d with
  | some xs => match intsD xs with | some ns => ns.length ≤ 4000 ∧ (nub ns).length < 64 ∧ Q (.lst ((setL ns).map .int)) G1 | none => False
  | none => False) Ed
theorem items_ints {K : PySem.W.Frag} {mg : Str → Option Value} {η : Eta} {G : GS} {H : Hp} (w : W K mg η G H) {d : D} {v : V} {xs : List D} {ns : List Int} (r : Rp K η H d v) (e : itemsD G d = some xs) (en : intsD xs = some ns) (hz : ns.length ≤ 4000) : Ints K H v ns := by
  obtain ⟨a, us, rfl, hs, ru⟩ := itemsD_ok w r e
  have ex := intsD_eq en
  subst ex
  rw [RpL.ints.mp ru] at hs
  exact ⟨a, rfl, hs.elim .inr .inl, hz⟩
theorem ped_lenSet {a : Expr} {te : TEd} {p p2 q pos : Pos} (hc : X.calm = true) (hm : X.mg "len" = none) (hm2 : X.mg "set" = none) (hg : Gl X "len") (hg2 : Gl X "set") (ha : PEd X E a te) (na : starEach [a] X.env = (false, eval a X.env) :: starEach [] X.env := by rfl) :
    PEd X E (.Call (.Name "len" p) [.Call (.Name "set" p2) [a] [] q] [] pos) (tLenSetD te) := by
  refine ⟨PE.imp (pe_lenSetK hc hg hm hg2 hm2 ha.run na) fun σ H Q h => ?_⟩
  obtain ⟨ρ, η, G, Qd, Ed, he, w, ht, hq, hE⟩ := h
  refine ⟨ρ, η, G, _, Ed, he, w, ht, fun d G1 v η1 H1 s1 w1 r1 q1 => ?_, hE⟩
  dsimp only at q1
  split at q1
  · rename_i xs e
    split at q1
    · rename_i ns en
      exact ⟨ns, items_ints w1 r1 e en q1.1, (hq.step s1).ni w1 q1.2⟩
    · exact q1.elim
  · exact q1.elim
theorem ped_sortSet {a : Expr} {te : TEd} {p p2 q pos : Pos} (hc : X.calm = true) (hm : X.mg "sorted" = none) (hm2 : X.mg "set" = none) (hg : Gl X "sorted") (hg2 : Gl X "set") (ha : PEd X E a te) (na : starEach [a] X.env = (false, eval a X.env) :: starEach [] X.env := by rfl) :
    PEd X E (.Call (.Name "sorted" p) [.Call (.Name "set" p2) [a] [] q] [] pos) (tSortSetD te) := by
  refine ⟨PE.imp (pe_sortSetK hc hg hm hg2 hm2 ha.run na) fun σ H Q h => ?_⟩
  obtain ⟨ρ, η, G, Qd, Ed, he, w, ht, hq, hE⟩ := h
  refine ⟨ρ, η, G, _, Ed, he, w, ht, fun d G1 v η1 H1 s1 w1 r1 q1 => ?_, hE⟩
  dsimp only at q1
  split at q1
  · rename_i xs e
    split at q1
    · rename_i ns en
      exact ⟨ns, items_ints w1 r1 e en q1.1, q1.2.1, fun p hp => (hq.step s1).newL w1 hp (RpL.ints.mpr rfl) q1.2.2⟩
    · exact q1.elim
  · exact q1.elim
end
end Y

namespace Y
open PySem PySem.Spec L2 SrtO
open PyProof.Rows hiding St
/-- each row once -/
def nubT : List (List Int) → List (List Int)
  | [] => []
  | x :: r => if r.contains x = true then nubT r else x :: nubT r
theorem mem_nubT {x : List Int} : ∀ {ts : List (List Int)}, x ∈ nubT ts ↔ x ∈ ts
  | [] => Iff.rfl
  | y :: r => by
    have ih := mem_nubT (x := x) (ts := r)
    unfold nubT
    by_cases c : r.contains y = true
    · rw [if_pos c, ih, List.mem_cons]
      exact ⟨.inr, fun h => h.elim (fun e => e ▸ List.contains_iff_mem.mp c) id⟩
    · rw [if_neg c, List.mem_cons, List.mem_cons, ih]
theorem nodup_nubT : ∀ (ts : List (List Int)), (nubT ts).Nodup
  | [] => List.nodup_nil
  | y :: r => by
    unfold nubT
    by_cases c : r.contains y = true
    · rw [if_pos c]; exact nodup_nubT r
    · rw [if_neg c, List.nodup_cons]; exact ⟨fun h => c (List.contains_iff_mem.mpr (mem_nubT.mp h)), nodup_nubT r⟩
/-- what sorted(set(..)) gives -/
def setT (ts : List (List Int)) : List (List Int) := sortT (nubT ts)
theorem ints_items {P : Program} {w : World} {h : Heap} : ∀ {vs : List Value} {t : List Int} {as : List Addr}, ReadsAll h vs (t.map PyData.int) as → ItemsAre (intKind P w) t vs
  | [], [], _, _ => .nil
  | [], _ :: _, _, r => nomatch r
  | _ :: _, [], _, r => nomatch r
  | v :: vs, i :: t, _, .cons r rs => by
    cases r with
    | int => exact .cons (intKind_is P w _ _) (ints_items rs)
theorem reads_isT {P : Program} {w : World} {h : Heap} {v : Value} {t : List Int} {as : List Addr} (r : Reads h v (pyT t) as) : ∃ a, v = .ref a ∧ IsT P w h t a := by
  unfold pyT at r
  cases r with
  | @tuple a o xs n _ _ ho hc hd hr => exact ⟨a, rfl, o, xs, n, ho, hc, hd, ints_items hr⟩
section
variable {prog : Program} {w : World} {A : Around} {E : Value → Shared → Prop} {s : Shared}
theorem sorted_setG {a : Addr} {L : List (Addr × List Int)} {es : Array (Int × Value)} {ep : Nat} {t : SetTable} {k : Value → List Int} {Q : Value → Shared → Prop} (R : SetTR prog w s.heap a L es ep t) (hh : A.handled = none) (hu : A.units + 16 < cLine)
    (hk : ∀ p ∈ L, k (.ref p.1) = p.2 ∧ ∃ as, Reads s.heap (.ref p.1) (pyT p.2) as)
    (hQ : ∀ s' p (out : List Value) c, (∀ b o, s.heap.get? b = some o → s'.heap.get? b = some o) → s'.gens = s.gens → s'.os = s.os → s.heap.objs.size ≤ p →
      s'.heap.get? p = some (seqObj "list" out.toArray c) → (∀ v ∈ out, ∃ p ∈ L, v = .ref p.1) → out.map k = sortT (L.map (·.2)) → Q (.ref p) s') :
    wpAny (model prog w) A (call (.builtin "sorted") [.ref a]) Q E s := by
  obtain ⟨o, ho, hex, hd⟩ := R.ob
  have hsz := R.size
  have hfew := R.few
  refine Calls.call_function_entry kind_sorted plain_sorted entry_sorted (args_sorted1 _) ?_
  unfold Builtin.«sorted»
  refine wpAny_bind (m := checkCount _ _ _ _) (wpAny_pure (wpAny_bind (collect_set (A := A.in1) hh ⟨o, ho, hex.1, hd⟩ R.fits (by unfold scanBound; omega) R.tab.ris R.led fun s1 vs k1 hz g1 o1 pm => ?_)))
  have hes : es.toList.map (·.2) = L.map fun q => Value.ref q.1 := by
    rw [R.rows]
    show (L.map _).map _ = _
    rw [List.map_map]; rfl
  rw [hes] at pm
  have hin : ∀ v ∈ vs, ∃ p ∈ L, v = Value.ref p.1 := fun v hv => by
    obtain ⟨q, hq, e⟩ := List.mem_map.mp (pm.mem_iff.mp hv)
    exact ⟨q, hq, e.symm⟩
  have hvl : vs.length < 64 := by rw [pm.length_eq, List.length_map]; exact hfew
  have hvz : vs.length ≤ sizeLine := by rw [sizeLine_eq]; omega
  refine wpAny_bind (wpAny_newList ?_ hvz)
  have at2 : (s1.heap.push (seqObj "list" vs.toArray 0)).get? s1.heap.objs.size = some (seqObj "list" vs.toArray 0) := Heap.get?_push_size _ rfl
  have k2 : ∀ b u, s1.heap.get? b = some u → b ≠ s1.heap.objs.size ∧ (s1.heap.push (seqObj "list" vs.toArray 0)).get? b = some u := fun b u q => ⟨Nat.ne_of_lt (Heap.lt_size q), Heap.get?_push_of_some _ q⟩
  have hp : ∀ v ∈ vs, ∃ as, Reads s1.heap v (pyT (k v)) as := fun v hv => by
    obtain ⟨p, hp, rfl⟩ := hin v hv
    obtain ⟨e, as, r⟩ := hk p hp
    rw [e]
    exact ⟨as, PyProof.Rows.Reads.keeps k1 r⟩
  refine wpAny_bind (wpAny_holding (wpAny_call_entry slot_list_sort ⟨_, at2, rfl⟩ entry_list_sort (list_sort_ord (s := { s1 with heap := s1.heap.push (seqObj "list" vs.toArray 0) }) (swo_tup k) at2 hvz (fun h2 => tups_sortable (s := s1) hp k2 h2 (by show A.units + 1 + 1 + 8 < cLine; omega)) fun out b1 b2 => ⟨.none, rfl, ?_⟩) (args_list_sort _)))
  obtain ⟨c, hc⟩ := sortedHeap_at (vs := vs) (out := out.toArray) at2
  have perm := b2.perm
  have pe : out.map k = sortT (L.map (·.2)) := by
    refine sortedT_uniq (((perm.trans pm).map k).trans ?_) (List.pairwise_map.mpr (b1.imp fun h => h)) (sortT_sorted _)
    have : (L.map fun q => Value.ref q.1).map k = L.map (·.2) := by
      rw [List.map_map]
      exact List.map_congr_left fun p hp => (hk p hp).1
    rw [this]
    exact (sortT_perm _).symm
  refine wpAny_pure ⟨_, rfl, hQ _ s1.heap.objs.size out c (fun b u e => ?_) g1 o1 hz hc (fun v hv => hin v (perm.mem_iff.mp hv)) pe⟩
  have q := k1 b u e
  show (sortedHeap (s1.heap.push (seqObj "list" vs.toArray 0)) s1.heap.objs.size vs out.toArray).get? b = some u
  rw [sortedHeap_old (Nat.ne_of_lt (Heap.lt_size q)) (Heap.lt_size (Heap.get?_push_of_some _ q))]
  exact Heap.get?_push_of_some _ q
end
section
variable {X : Cx}
def tSortSetTK (K : PySem.W.Frag) (ta : TE) : TE := fun σ H Q => ta σ H fun x H1 => ∃ (a : Addr) (xs : List V) (ts : List (List Int)), x = V.ref a ∧ SqL K H1 a xs ∧ DpAll K H1 xs (ts.map pyT) ∧ (∀ x ∈ xs, ∃ b, x = V.ref b) ∧ ts.length < 64 ∧
  ∀ us : List V, us.length = (setT ts).length → (∀ (i : Nat) (u : V), us[i]? = some u → ∃ (j : Nat) (t : List Int), xs[j]? = some u ∧ ts[j]? = some t ∧ (setT ts)[i]? = some t) → ∀ p, H1 p = none → Q (.ref p) (upd H1 p (.lst us))
theorem pe_sortSetTK {a : Expr} {ta : TE} {p p2 q pos : Pos} (hc : X.calm = true) (hu : X.A.units + 64 < cLine) (hg : Gl X "sorted") (hm : X.mg "sorted" = none) (hg2 : Gl X "set") (hm2 : X.mg "set" = none) (ha : PE X a ta) (na : starEach [a] X.env = (false, eval a X.env) :: starEach [] X.env := by rfl) :
    PE X (.Call (.Name "sorted" p) [.Call (.Name "set" p2) [a] [] q] [] pos) (tSortSetTK X.K ta) := by
  refine ⟨fun pins s σ H Q I h => Call_ (ld_blt I hg hm (by decide +kernel : bootBuiltins "sorted" = some (.builtin "sorted")) (callWith_builtin1 (args_cons (Call_ (ld_blt I hg2 hm2 boot_set (callWith_type1 (args_cons (thn (ha.run pins s σ H _ I h) fun v s1 h1 => args_nil ?_) na) na rfl))) rfl) rfl rfl))⟩
  obtain ⟨x, H1, I1, r1, l, xs, ts, rfl, hs, hdp, hrf, h64, q1⟩ := h1
  cases r1
  have hd := I1.ok.hd hc
  obtain ⟨its, rv, pl, hz⟩ := I1.list hs
  obtain ⟨as, hr⟩ := Dp.readsAll I1 _ _ _ hdp rv
  obtain ⟨hl, hget⟩ := reads_all_get hr
  obtain ⟨e1, e2⟩ := refs_back rv hrf
  obtain ⟨k, hk⟩ : ∃ k : Value → List Int, ∀ v t bs, Reads s1.heap v (pyT t) bs → k v = t := by
    refine ⟨kOf s1.heap, fun v t bs rd => ?_⟩
    have z : ∃ t bs, Reads s1.heap v (pyT t) bs := ⟨t, bs, rd⟩
    have e : kOf s1.heap v = z.choose := dif_pos z
    rw [e]
    obtain ⟨cs, rc⟩ := z.choose_spec
    exact pyT_inj (PySem.W.alike_unique _ _ _ _ _ (alike_pyT _ _) rc rd)
  have hp : ∀ v ∈ its, ∃ b as, v = .ref b ∧ Reads s1.heap (.ref b) (pyT (k v)) as ∧ IsT X.prog X.w s1.heap (k v) b := fun v hv => by
    obtain ⟨i, hi⟩ := List.mem_iff_getElem?.mp hv
    obtain ⟨t, bs, _, rd⟩ := hget i v hi
    obtain ⟨b, e, z⟩ := reads_isT (P := X.prog) (w := X.w) rd
    rw [hk v t bs rd]
    subst e
    exact ⟨b, bs, rfl, rd, z⟩
  have hmap : its.map k = ts := by
    refine List.ext_getElem? fun i => ?_
    rw [List.getElem?_map]
    cases hi : its[i]? with
    | none =>
      have : its.length ≤ i := List.getElem?_eq_none_iff.mp hi
      rw [List.getElem?_eq_none (by omega)]; rfl
    | some v =>
      obtain ⟨t, bs, ht, rd⟩ := hget i v hi
      rw [ht, Option.map_some, hk v t bs rd]
  let adr : Value → Addr := fun v => match v with | .ref b => b | _ => 0
  let ks : List (Addr × List Int) := its.map fun v => (adr v, k v)
  have hit : its = ks.map fun p => Value.ref p.1 := by
    show its = (its.map _).map _
    rw [List.map_map]
    refine (List.map_id _).symm.trans (List.map_congr_left fun v hv => ?_)
    obtain ⟨b, _, rfl, _⟩ := hp v hv
    rfl
  have hks : ∀ p ∈ ks, k (.ref p.1) = p.2 ∧ (Value.ref p.1) ∈ its ∧ (∃ as, Reads s1.heap (.ref p.1) (pyT p.2) as) ∧ IsT X.prog X.w s1.heap p.2 p.1 := fun p hm => by
    obtain ⟨v, hv, rfl⟩ := List.mem_map.mp hm
    obtain ⟨b, as, rfl, rd, z⟩ := hp v hv
    exact ⟨rfl, hv, ⟨as, rd⟩, z⟩
  have hksl : ks.length < 64 := by
    show (its.map _).length < 64
    rw [List.length_map, hl]; exact h64
  have hks2 : ks.map (·.2) = ts := by
    show (its.map _).map _ = ts
    rw [List.map_map]; exact hmap
  refine call_set_tups (P := X.prog) (w := X.w) ks hd pl.isList (by simpa using hit) (fun p hp => (hks p hp).2.2.2) hksl (by omega) fun g tk L es ep t R gt kg => args_nil ?_
  have sub : ∀ p ∈ L, p ∈ ks := fun p hp => List.mem_of_mem_take (gt.sub p hp)
  have setE : sortT (L.map (·.2)) = setT ts := by
    refine sortedT_uniq (((sortT_perm _).trans ?_).trans (sortT_perm _).symm) (sortT_sorted _) (sortT_sorted _)
    refine (List.perm_ext_iff_of_nodup R.nd (nodup_nubT ts)).mpr fun x => ?_
    rw [mem_nubT, ← hks2]
    constructor
    · intro h
      obtain ⟨p, hp, e⟩ := List.mem_map.mp h
      exact List.mem_map.mpr ⟨p, sub p hp, e⟩
    · intro h
      obtain ⟨p, hp, rfl⟩ := List.mem_map.mp h
      exact gt.all p (by rw [List.take_length]; exact hp)
  refine sorted_setG (s := { s1 with heap := g, toks := tk }) (k := k) R hd (by omega) (fun p hp => ⟨(hks p (sub p hp)).1, ?_⟩) fun s' p out c k3 eg eo hp hget' hout eq => ?_
  · obtain ⟨as, rd⟩ := (hks p (sub p hp)).2.2.1
    exact ⟨as, PyProof.Rows.Reads.keeps kg rd⟩
  rw [setE] at eq
  have kall : ∀ b o, s1.heap.get? b = some o → s'.heap.get? b = some o := fun b o z => k3 b o (kg b o z)
  have hin : ∀ v ∈ out, v ∈ its := fun v hv => by
    obtain ⟨p, hp, rfl⟩ := hout v hv
    exact (hks p (sub p hp)).2.1
  have hp1 : s1.heap.objs.size ≤ p := Nat.le_trans (Nat.le_of_lt (show s1.heap.objs.size < g.objs.size by obtain ⟨o, ho, _⟩ := R.ob; exact Heap.lt_size ho)) hp
  have hn : H1 p = none := I1.hok.fresh hp1
  have hb : ∀ u ∈ out, ∃ c, u = Value.ref c := fun u hu => e2 u (hin u hu)
  have olen : out.length = (setT ts).length := by rw [← eq, List.length_map]
  have slen : (setT ts).length < 64 := by rw [← setE, (sortT_perm _).length_eq, List.length_map]; exact R.few
  have hlen : (out.map backV).length ≤ sizeLine := by rw [List.length_map, olen, sizeLine_eq]; omega
  have J : Inv X pins σ (upd H1 p (.lst (out.map backV))) { s1 with heap := s'.heap, gens := s'.gens, drawn := s'.drawn, toks := s'.toks } :=
    I1.call (ch := []) (Un.laid kall hp1 hn) (I1.hok.laid kall hp1 ⟨hlen, out, c, vals_back hb, hget'⟩) (by rw [eg]; exact I1.bare) (fun _ z => nomatch z)
  have es : s' = { s1 with heap := s'.heap, gens := s'.gens, drawn := s'.drawn, toks := s'.toks } := by
    obtain ⟨_, _, _, _, _⟩ := s'
    cases eo
    rfl
  rw [es]
  refine ⟨.ref p, _, J, rfl, q1 (out.map backV) (by rw [List.length_map, olen]) (fun i u hi => ?_) p hn⟩
  rw [List.getElem?_map] at hi
  obtain ⟨v, hv, rfl⟩ := Option.map_eq_some_iff.mp hi
  obtain ⟨j, hj⟩ := List.mem_iff_getElem?.mp (hin v (List.mem_of_getElem? hv))
  obtain ⟨t, bs, ht, rd⟩ := hget j v hj
  refine ⟨j, t, by rw [e1, List.getElem?_map, hj]; rfl, ht, ?_⟩
  rw [← eq, List.getElem?_map, hv, Option.map_some, hk v t bs rd]
variable {E : St → XK}
def tSortSetTD (te : TEd) : TEd := fun ρ G Q Ed => te ρ G (fun d G1 => match itemsD G1 d with
  | some xs => match tupsD xs with | some ts => (∀ ys, d ≠ D.tup ys) ∧ ts.length < 64 ∧ Q (.lst ((setT ts).map tupI)) G1 | none => False
  | none => False) Ed
theorem itemsL_ok {K : PySem.W.Frag} {mg : Str → Option Value} {η : Eta} {G : GS} {H : Hp} (w : W K mg η G H) {d : D} {v : V} {ds : List D} (r : Rp K η H d v) (e : itemsD G d = some ds) (n : ∀ ys, d ≠ D.tup ys) :
    ∃ a vs, v = .ref a ∧ SqL K H a vs ∧ RpL K η H ds vs := by
  cases d with
  | tup xs => exact absurd rfl (n xs)
  | lst xs =>
    obtain ⟨a, vs, e1, _, ht, hr⟩ := r
    cases e
    exact ⟨a, vs, e1, SqL.of ht, hr⟩
  | obj k =>
    obtain ⟨a, e1, h⟩ := r
    simp only [itemsD] at e
    split at e
    · rename_i xs hk
      cases e
      obtain ⟨b, vs, g1, g2, g3⟩ := w.at_ k _ hk
      rw [g1] at h
      have : b = a := by
        rcases h with h | h
        · cases h; rfl
        · cases h
      subst this
      exact ⟨b, vs, e1, SqL.of g2, g3⟩
    · cases e
  | scr ns => cases e
  | key ns => cases e
  | non => cases e
  | bl b => cases e
  | int i => cases e
  | str s => cases e
  | dct => cases e
  | exn a dd f d => cases e
theorem ped_sortSetT {a : Expr} {te : TEd} {p p2 q pos : Pos} (hc : X.calm = true) (hu : X.A.units + 64 < cLine) (hm : X.mg "sorted" = none) (hm2 : X.mg "set" = none) (hg : Gl X "sorted") (hg2 : Gl X "set") (ha : PEd X E a te) (na : starEach [a] X.env = (false, eval a X.env) :: starEach [] X.env := by rfl) :
    PEd X E (.Call (.Name "sorted" p) [.Call (.Name "set" p2) [a] [] q] [] pos) (tSortSetTD te) := by
  refine ⟨PE.imp (pe_sortSetTK hc hu hg hm hg2 hm2 ha.run na) fun σ H Q h => ?_⟩
  obtain ⟨ρ, η, G, Qd, Ed, he, w, ht, hq, hE⟩ := h
  refine ⟨ρ, η, G, _, Ed, he, w, ht, fun d G1 v η1 H1 s1 w1 r1 q1 => ?_, hE⟩
  dsimp only at q1
  split at q1
  · rename_i xs e
    split at q1
    · rename_i ts en
      have ex := tupsD_eq en
      subst ex
      obtain ⟨b, us, rfl, hs, ru⟩ := itemsL_ok w1 r1 e q1.1
      have hdp : DpAll X.K H1 us (ts.map pyT) := by
        have := RpL.dp _ us noObjL_tups ru
        rw [toPyL_map, List.map_map] at this
        rwa [show toPy ∘ tupI = pyT from funext toPy_tupI] at this
      have refs : ∀ x ∈ us, ∃ b, x = V.ref b := fun x hx => by
        obtain ⟨i, hi⟩ := List.mem_iff_getElem?.mp hx
        obtain ⟨d', hd', rd'⟩ := ru.getV hi
        rw [List.getElem?_map] at hd'
        obtain ⟨t, _, rfl⟩ := Option.map_eq_some_iff.mp hd'
        obtain ⟨b, _, e, _⟩ := rd'
        exact ⟨b, e⟩
      refine ⟨b, us, ts, rfl, hs, hdp, refs, q1.2.1, fun zs hl hg p hp => (hq.step s1).newL w1 hp (RpL.ofGet (by rw [List.length_map]; exact hl) fun i u hu => ?_) q1.2.2⟩
      obtain ⟨j, t, h1, h2, h3⟩ := hg i u hu
      refine ⟨tupI t, by rw [List.getElem?_map, h3]; rfl, ?_⟩
      obtain ⟨d', hd', rd'⟩ := ru.getV h1
      rw [List.getElem?_map, h2] at hd'
      cases hd'
      exact rd'
    · exact q1.elim
  · exact q1.elim
/-- in, not in a list of things that are no numbered objects -/
def rNotInDD : R2d := fun x y G Q => match vw G y with | .lst ds => okD (vw G x) = true ∧ okD (.lst ds) = true ∧ Q (.bl (!inL (vw G x) ds)) G | _ => False
def rInDD : R2d := fun x y G Q => match vw G y with | .lst ds => okD (vw G x) = true ∧ okD (.lst ds) = true ∧ Q (.bl (inL (vw G x) ds)) G | _ => False
theorem any_py {x : D} {ds : List D} : ((toPyL ds).any fun z => PyData.eqv z (toPy x)) = inL x ds := by
  rw [toPyL_map, List.any_map]; rfl
theorem lift_notInDD : LiftR X (L2.rNotInD X.K) rNotInDD := fun η G H x y dx dy Q Qd w rx ry h hq => by
  unfold rNotInDD at h
  split at h
  · rename_i ds e
    obtain ⟨h1, h2, q⟩ := h
    have d2 := vw_dp w (by rw [e]; exact (okD_and h2).1) ry
    rw [e] at d2
    refine ⟨_, toPyL ds, vw_dp w (okD_and h1).1 rx, d2, (okD_and h1).2, (okD_and h2).2, ?_⟩
    rw [any_py]
    exact hq.nb w q
  · exact h.elim
theorem lift_inDD : LiftR X (L2.rInD X.K) rInDD := fun η G H x y dx dy Q Qd w rx ry h hq => by
  unfold rInDD at h
  split at h
  · rename_i ds e
    obtain ⟨h1, h2, q⟩ := h
    have d2 := vw_dp w (by rw [e]; exact (okD_and h2).1) ry
    rw [e] at d2
    refine ⟨_, toPyL ds, vw_dp w (okD_and h1).1 rx, d2, (okD_and h1).2, (okD_and h2).2, ?_⟩
    rw [any_py]
    exact hq.nb w q
  · exact h.elim
end
end Y

namespace Y
open PySem PySem.Spec L2
open PyProof.Rows hiding St
def strsD : List D → Option (List Str)
  | [] => some []
  | .str s :: ds => (strsD ds).map (s :: ·)
  | _ :: _ => none
theorem strsD_map (ns : List Str) : strsD (ns.map .str) = some ns := by
  induction ns with
  | nil => rfl
  | cons n ns ih => simp [strsD, ih]
theorem strsD_eq : ∀ {ds : List D} {ns : List Str}, strsD ds = some ns → ds = ns.map .str
  | [], ns, h => by cases h; rfl
  | .str i :: ds, ns, h => by
    simp only [strsD] at h
    cases q : strsD ds with
    | none => rw [q] at h; cases h
    | some ms =>
      rw [q] at h
      cases h
      rw [strsD_eq q]; rfl
  | .non :: ds, ns, h => by cases h
  | .bl _ :: ds, ns, h => by cases h
  | .int _ :: ds, ns, h => by cases h
  | .tup _ :: ds, ns, h => by cases h
  | .lst _ :: ds, ns, h => by cases h
  | .obj _ :: ds, ns, h => by cases h
  | .dct :: ds, ns, h => by cases h
  | .scr _ :: ds, ns, h => by cases h
  | .key _ :: ds, ns, h => by cases h
  | .exn _ _ _ _ :: ds, ns, h => by cases h
section
variable {K : PySem.W.Frag} {η : Eta} {H : Hp}
theorem RpL.strs : ∀ {ns : List Str} {vs : List V}, RpL K η H (ns.map D.str) vs ↔ vs = ns.map V.str
  | [], vs => by simp [RpL]
  | n :: ns, vs => by
    simp only [List.map_cons, RpL]
    constructor
    · rintro ⟨v, r, e, h1, h2⟩
      have h3 := RpL.strs.mp h2
      have h1' : v = V.str n := h1
      rw [e, h1', h3]
    · intro e
      exact ⟨V.str n, ns.map V.str, e, rfl, RpL.strs.mpr rfl⟩
end
section
variable {X : Cx} {E : St → XK} {o e : Expr} {to te : TEd} {rH : V → List V → Hp → VK → Prop} {rD : R2d}
/-- a text's method of one thing -/
def tStrMD (r : R2d) (to te : TEd) : TEd := fun ρ G Q Ed => to ρ G (fun d G1 => (∃ a, d = .str a) ∧ te ρ G1 (fun x G2 => r d x G2 Q) Ed) Ed
def LiftM1 (X : Cx) (rH : V → List V → Hp → VK → Prop) (rD : R2d) : Prop := LiftR X (fun x y H Q => rH x [y] H Q) rD
theorem ped_strM {id : String} {name : Str} {apos pos : Pos} (slot : Slot "str" name id) (ty : typeOf (.builtin id) = pure (.type "method_descriptor")) (rule : MtR X id rH) (hl : LiftM1 X rH rD) (ho : PEd X E o to) (he : PEd X E e te)
    (hs : starEach [e] X.env = [(false, eval e X.env)] := by rfl) (hbase : attributeBase o name X.env (eval o X.env) = eval o X.env := by rfl) (hline : (apos.endLine == pos.line) = true := by rfl) :
    PEd X E (.Call (.Attribute o name apos) [e] [] pos) (tStrMD rD to te) := by
  refine ⟨PE.imp (pe_m1 slot ty rule ho.run he.run hs hbase hline) fun σ H Q h => ?_⟩
  obtain ⟨ρ, η, G, Qd, Ed, he, w, ht, hq, hE⟩ := h
  refine ⟨ρ, η, G, _, Ed, he, w, ht, fun x G1 v η1 H1 s1 w1 r1 q1 => ?_, hE⟩
  obtain ⟨⟨a, rfl⟩, q1⟩ := q1
  refine ⟨⟨a, r1⟩, ρ, η1, G1, _, Ed, he.step s1, w1, q1, fun y G2 u η2 H2 s2 w2 r2 q2 => ?_, hE.step s1⟩
  exact hl η2 G2 H2 v u _ y Q Qd w2 (Rp.step s2 _ _ r1) r2 q2 (hq.step (s1.trans s2))
def rJoinD : R2d := fun x y G Q => match x, itemsD G y with
  | .str a, some xs => (match strsD xs with | some ys => (ys.map (·.length)).sum + ys.length * a.length ≤ 16777216 ∧ Q (.str (Txt.join a ys)) G | none => False)
  | _, _ => False
theorem lift_join : LiftM1 X (fun x xs H Q => ∃ a p, ∃ ys : List Str, x = .str a ∧ xs = [.ref p] ∧ (SqL X.K H p (ys.map V.str) ∨ SqT X.K H p (ys.map V.str)) ∧
    (ys.map (·.length)).sum + ys.length * a.length ≤ 16777216 ∧ Q (.str (Txt.join a ys)) H) rJoinD := fun η G H x y dx dy Q Qd w rx ry h hq => by
  unfold rJoinD at h
  split at h
  · rename_i a xs e
    split at h
    · rename_i ys en
      have ex := strsD_eq en
      subst ex
      obtain ⟨p, us, rfl, hs, ru⟩ := itemsD_ok w ry e
      have ru := RpL.strs.mp ru
      subst ru
      exact ⟨a, p, ys, rx, rfl, hs.elim .inr .inl, h.1, hq.now (d := D.str _) w rfl h.2⟩
    · exact h.elim
  · exact h.elim
def rSplitD : R2d := fun x y G Q => match x, y with
  | .str a, .str b => (b.length == 0) = false ∧ a.length + 2 ≤ 16777216 ∧ Q (.lst ((Txt.split a b).map .str)) G
  | _, _ => False
theorem lift_split : LiftM1 X (fun x xs H Q => ∃ a b, x = .str a ∧ xs = [.str b] ∧ (b.length == 0) = false ∧ a.length + 2 ≤ sizeLine ∧ rNewStrs (Txt.split a b) H Q) rSplitD := fun η G H x y dx dy Q Qd w rx ry h hq => by
  unfold rSplitD at h
  split at h
  · rename_i a b
    have rx : x = V.str a := rx
    have ry : y = V.str b := ry
    subst rx ry
    exact ⟨a, b, rfl, rfl, h.1, by rw [sizeLine_eq]; exact h.2.1, fun p hp => hq.newL w hp (RpL.strs.mpr rfl) h.2.2⟩
  · exact h.elim
/-- {x} in a formatted text -/
def tFmtD (te : TEd) : TEd := fun ρ G Q Ed => te ρ G (fun d G1 => match d with
  | .str y => y.length ≤ 16777216 ∧ Q (.str y) G1
  | .int i => i.natAbs.log2 < 1920 ∧ Q (.str (toString i)) G1
  | _ => False) Ed
theorem ped_fmt {pos : Pos} (he : PEd X E e te) : PEd X E (.FormattedValue e (-1) none pos) (tFmtD te) := by
  refine ⟨PE.imp (pe_fmt he.run) fun σ H Q h => ?_⟩
  obtain ⟨ρ, η, G, Qd, Ed, he, w, ht, hq, hE⟩ := h
  refine ⟨ρ, η, G, _, Ed, he, w, ht, fun d G1 v η1 H1 s1 w1 r1 q1 => ?_, hE⟩
  dsimp only at q1
  split at q1
  · rename_i y
    exact .inl ⟨y, r1, by rw [sizeLine_eq]; exact q1.1, (hq.step s1).now (d := D.str _) w1 rfl q1.2⟩
  · rename_i i
    exact .inr ⟨i, r1, q1.1, (hq.step s1).now (d := D.str _) w1 rfl q1.2⟩
  · exact q1.elim
/-- a formatted text of two parts -/
def tJs2D (ta tb : TEd) : TEd := fun ρ G Q Ed => ta ρ G (fun x G1 => ∃ y, x = .str y ∧ (Str.empty ++ y).length ≤ 16777216 ∧
  tb ρ G1 (fun z G2 => ∃ u, z = .str u ∧ (Str.empty ++ y ++ u).length ≤ 16777216 ∧ Q (.str (Str.empty ++ y ++ u)) G2) Ed) Ed
theorem ped_joined2 {a b : Expr} {ta tb : TEd} {pos : Pos} (ha : PEd X E a ta) (hb : PEd X E b tb) : PEd X E (.JoinedStr [a, b] pos) (tJs2D ta tb) := by
  refine ⟨PE.imp (pe_joined (.cons ha.run (.cons hb.run .nil))) fun σ H Q h => ?_⟩
  obtain ⟨ρ, η, G, Qd, Ed, he, w, ht, hq, hE⟩ := h
  refine ⟨ρ, η, G, _, Ed, he, w, ht, fun x G1 v η1 H1 s1 w1 r1 q1 => ?_, hE⟩
  obtain ⟨y, rfl, hy, q1⟩ := q1
  refine ⟨y, r1, by rw [sizeLine_eq]; exact hy, ρ, η1, G1, _, Ed, he.step s1, w1, q1, fun z G2 u η2 H2 s2 w2 r2 q2 => ?_, hE.step s1⟩
  obtain ⟨u', rfl, hu, q2⟩ := q2
  exact ⟨u', r2, by rw [sizeLine_eq]; exact hu, (hq.step (s1.trans s2)).now (d := D.str _) w2 rfl q2⟩
end
end Y
namespace Y
open PySem PySem.Spec L2
open PyProof.Rows hiding St
def forO (g : TGd) (tb : TSd) (D : EndsD) (k : Nat) : Nat → Nat → Rho → GS → Prop
  | 0, _, _, _ => False
  | n + 1, i, ρ, G => match G[k]? with
    | some (.lst ds) => (match ds[i]? with
      | none => D.nx ρ G
      | some d => g d ρ G fun ρ2 G2 => tb { D with nx := forO g tb D k n (i + 1), ct := forO g tb D k n (i + 1), bk := D.nx } ρ2 G2)
    | _ => False
def tForOD (te : TEd) (g : TGd) (tb : TSd) : TSd := fun D ρ G => te ρ G (fun d G1 => match d with | .obj k => ∃ n, forO g tb D k n 0 ρ G1 | _ => False) (fun e G1 => D.er e ρ G1)
theorem psd_forO {X : Cx} {E : St → XK} {tg iter : Expr} {body : List Stmt} {te : TEd} {g : TGd} {tb : TSd} {pos : Pos} (hp : PassesOwn (model X.prog X.w) X.A X.env X.xe) (hc : X.calm = true) (hi : PEd X E iter te) (hg : PGd X tg g) (hb : PSsd X E body tb)
    (hs : ∀ x, foldedSetIterable iter X.env x = pure x := by intro _; rfl) : PSd X E (.For tg iter body [] pos) (tForOD te g tb) :=
  ⟨PS.imp (ps_for hp hc (pi_list hi.run) hg.run hb.run hs) fun D σ H h => by
  obtain ⟨ρ, η, G, Dd, he, w, ht, l⟩ := h
  refine ⟨ρ, η, G, _, _, he, w, ht, fun d G1 v η1 H1 s1 w1 r1 q1 => ?_, l.le he⟩
  cases d with
  | obj k =>
    obtain ⟨n, q1⟩ := q1
    obtain ⟨a, rfl, ha⟩ := r1
    have r1 : Rp X.K η1 H1 (.obj k) (.ref a) := ⟨a, rfl, ha⟩
    have at_ : ∀ η' H' G', Stp η1 H1 η' H' → W X.K X.mg η' G' H' → ∀ ds, G'[k]? = some (.lst ds) → ∃ vs, H' a = some (.lst vs) ∧ RpL X.K η' H' ds vs := by
      intro η' H' G' s' w' ds hk
      obtain ⟨b, vs, g1, g2, g3⟩ := w'.at_ k _ hk
      obtain ⟨a', e, h⟩ := Rp.step s' _ _ r1
      cases e
      rw [g1] at h
      have : b = a := by
        rcases h with h | h
        · cases h; rfl
        · cases h
      subst this
      exact ⟨vs, g2, g3⟩
    refine ⟨a, rfl, ?_, ?_⟩
    · cases n with
      | zero => exact q1.elim
      | succ n =>
        unfold forO at q1
        split at q1
        · rename_i ds hk
          obtain ⟨vs, h1, _⟩ := at_ _ _ _ (Stp.refl _ _) w1 ds hk
          exact ⟨vs, SqL.of h1⟩
        · exact q1.elim
    · refine ⟨fun i m σ' H' => ∃ ρ' η' G', Stp η1 H1 η' H' ∧ W X.K X.mg η' G' H' ∧ EnvR X.K η' H' σ' ρ' ∧ forO g tb Dd k m i ρ' G', ⟨n, ρ, η1, G1, Stp.refl _ _, w1, he.step s1, q1⟩, ?_⟩
      rintro i m σ' H' ⟨ρ', η', G', s', w', e', q'⟩
      cases m with
      | zero => exact q'.elim
      | succ m =>
        unfold forO at q'
        split at q'
        · rename_i ds hk
          obtain ⟨vs, h1, hr⟩ := at_ _ _ _ s' w' ds hk
          split at q'
          · rename_i hn
            left
            refine ⟨⟨vs, SqL.of h1, by rw [← hr.length]; exact List.getElem?_eq_none_iff.mp hn⟩, l.nx ρ' G' σ' η' H' (s1.trans s') w' e' q'⟩
          · rename_i d hd
            right
            obtain ⟨x, hx, rx⟩ := hr.get hd
            refine ⟨⟨vs, x, SqL.of h1, hx⟩, fun σ2 H2 => ∃ ρ2 η2 G2, Stp η1 H1 η2 H2 ∧ W X.K X.mg η2 G2 H2 ∧ EnvR X.K η2 H2 σ2 ρ2 ∧ forO g tb Dd k m (i + 1) ρ2 G2, ?_, ?_⟩
            · rintro σ2 H2 ⟨ρ2, η2, G2, s2, w2, e2, q2⟩
              exact ⟨m, Nat.lt_succ_self m, ρ2, η2, G2, s2, w2, e2, q2⟩
            · intro x' H'' y
              obtain ⟨rfl, y⟩ := y
              have ex := y vs (SqL.of h1)
              rw [hx] at ex
              cases ex
              refine ⟨d, ρ', η', G', _, rx, e', w', q', fun ρ2 G2 σ2 η2 H2 s2 w2 e2 q2 => ?_⟩
              have sAll := s1.trans (s'.trans s2)
              have s12 := s'.trans s2
              refine ⟨ρ2, η2, G2, _, e2, w2, q2, ?_, l.rt.step sAll, ?_, ?_, ?_⟩
              · intro ρ3 G3 σ3 η3 H3 s3 w3 e3 q3
                exact ⟨ρ3, η3, G3, s12.trans s3, w3, e3, q3⟩
              · intro ρ3 G3 σ3 η3 H3 s3 w3 e3 q3
                exact l.nx ρ3 G3 σ3 η3 H3 (sAll.trans s3) w3 e3 q3
              · intro ρ3 G3 σ3 η3 H3 s3 w3 e3 q3
                exact ⟨ρ3, η3, G3, s12.trans s3, w3, e3, q3⟩
              · intro e3 ρ3 G3 σ3 cls od η3 H3 s3
                exact l.er e3 ρ3 G3 σ3 cls od η3 H3 (sAll.trans s3)
        · exact q'.elim
  | _ => exact q1.elim⟩
end Y
namespace Y
open PySem PySem.Spec L2
open PyProof.Rows hiding St
/-- a text's signs -/
def signsD (s : Str) : List D := s.cps.toList.map fun c => D.str ⟨#[c]⟩
theorem itsign_ok {K : PySem.W.Frag} {mg : Str → Option Value} {η : Eta} {H : Hp} {s : Str} : ItOk K mg (Its s) η H (signsD s) := by
  intro η' H' i st
  have hl : (signsD s).length = s.cps.size := by unfold signsD; rw [List.length_map, Array.length_toList]
  refine ⟨fun h => (by rw [hl] at h; exact h : i < s.cps.size), fun h => (by rw [hl] at h; exact h : s.cps.size ≤ i), fun x H'' y hi => ?_⟩
  obtain ⟨e1, c, e2, e3⟩ := y
  subst e1; subst e3
  refine ⟨.str ⟨#[c]⟩, ?_, Stp.refl _ _, fun _ w => w, rfl⟩
  unfold signsD
  rw [List.getElem?_map, Array.getElem?_toList, e2]; rfl
def iStrD (te : TEd) : TId := fun ρ G Q Ed => te ρ G (fun d G1 => match d with | .str s => Q (signsD s) G1 | _ => False) Ed
theorem pid_str {X : Cx} {E : St → XK} {tg e : Expr} {te : TEd} (h : PEd X E e te) : PId X E tg e (iStrD te) := ⟨PI.imp (pi_str h.run) fun σ H R h => by
  obtain ⟨ρ, η, G, Qd, Ed, he, w, ht, hq, hE⟩ := h
  refine ⟨ρ, η, G, _, Ed, he, w, ht, fun d G1 v η1 H1 s1 w1 r1 q1 => ?_, hE⟩
  cases d with
  | str s => exact ⟨s, r1, hq _ G1 _ η1 H1 s1 w1 itsign_ok q1⟩
  | _ => exact q1.elim⟩
end Y

namespace Y
open PySem PySem.Spec L2
open PyProof.Rows hiding St
section
variable {X : Cx}
theorem line_63 : sizeLine < 2 ^ 62 := by rw [sizeLine_eq]; decide
theorem rep_size (a : Array Nat) : ∀ (n : Nat) (acc : Array Nat), ((List.replicate n a).foldl (· ++ ·) acc).size = acc.size + n * a.size
  | 0, acc => by simp
  | n + 1, acc => by
    rw [List.replicate_succ, List.foldl_cons, rep_size a n, Array.size_append, Nat.succ_mul]; omega
theorem op_mulS : OpR X (binaryOp .Mult) (fun x y H Q => ∃ (a : Str) (n : Int), x = .str a ∧ y = .int n ∧ 2 ≤ n ∧ n < 1000000 ∧ 1 ≤ a.length ∧ a.length * n.toNat ≤ 16777216 ∧ Q (.str ⟨(List.replicate n.toNat a.cps).foldl (· ++ ·) #[]⟩) H) := by
  intro pins s σ H x y v u Q I rx ry h
  obtain ⟨a, n, rfl, rfl, h2, h3, h1, hz, q⟩ := h
  obtain ⟨t, rfl⟩ := rx
  obtain ⟨t2, rfl⟩ := ry
  have hl : a.length ≤ a.length * n.toNat := Nat.le_mul_of_pos_right _ (by omega)
  refine P.mul_str (by rw [decide_eq_false (by omega), decide_eq_false (by omega)]; rfl) (fun _ _ => ?_) (fun _ _ => ?_) ?_
  · have : ((2 : Int) ^ 63 - 1) / n ≥ 16777216 := by
      refine (Int.le_ediv_iff_mul_le (by omega)).mpr ?_
      have : (16777216 : Int) * n ≤ 16777216 * 1000000 := Int.mul_le_mul_of_nonneg_left (by omega) (by decide)
      omega
    omega
  · unfold Builtin.Str.tooLong
    rw [decide_eq_false]
    rw [sizeLine_eq]; omega
  · have hc : ((n == 1) || (a.length == 0)) = false := by
      rw [Bool.or_eq_false_iff]
      exact ⟨by rw [beq_eq_false_iff_ne]; omega, by rw [beq_eq_false_iff_ne]; omega⟩
    rw [if_neg (by omega), if_neg (by rw [hc]; decide)]
    refine ⟨?_, .str _, H, I.tok _, ⟨_, rfl⟩, q⟩
    show ((List.replicate n.toNat a.cps).foldl (· ++ ·) #[]).size ≤ sizeLine
    rw [rep_size, sizeLine_eq]
    have e : a.length = a.cps.size := rfl
    rw [e, Nat.mul_comm] at hz
    show 0 + n.toNat * a.cps.size ≤ 16777216
    omega
def repS (a : Str) (n : Int) : Str := ⟨(List.replicate n.toNat a.cps).foldl (· ++ ·) #[]⟩
def rMulSD : R2d := fun x y G Q => match x, y with
  | .str a, .int n => 2 ≤ n ∧ n < 1000000 ∧ 1 ≤ a.length ∧ a.length * n.toNat ≤ 16777216 ∧ Q (.str (repS a n)) G
  | _, _ => False
theorem lift_mulS : LiftR X (fun x y H Q => ∃ (a : Str) (n : Int), x = .str a ∧ y = .int n ∧ 2 ≤ n ∧ n < 1000000 ∧ 1 ≤ a.length ∧ a.length * n.toNat ≤ 16777216 ∧ Q (.str ⟨(List.replicate n.toNat a.cps).foldl (· ++ ·) #[]⟩) H) rMulSD := fun η G H x y dx dy Q Qd w rx ry h hq => by
  unfold rMulSD at h
  split at h
  · rename_i a n
    exact ⟨a, n, rx, ry, h.1, h.2.1, h.2.2.1, h.2.2.2.1, hq.now (d := D.str _) w rfl h.2.2.2.2⟩
  · exact h.elim
def signsV (s : Str) : List V := s.cps.toList.map fun c => V.str ⟨#[c]⟩
theorem signs_vals {x : Str} {acc : Array Value} (h : ItemsOf (SignAt x) acc x.cps.size) : Vals (signsV x) acc.toList := by
  have main : ∀ (l : List Nat) (vs : List Value), vs.length = l.length → (∀ (j : Nat) (v : Value), vs[j]? = some v → ∃ (c : Nat) (u : Tok), l[j]? = some c ∧ v = Value.str ⟨#[c]⟩ u) → Vals (l.map fun c => V.str ⟨#[c]⟩) vs := by
    intro l
    induction l with
    | nil =>
      intro vs hl _
      cases vs with
      | nil => exact .nil
      | cons _ _ => simp at hl
    | cons c l ih =>
      intro vs hl hv
      cases vs with
      | nil => simp at hl
      | cons v vs =>
        obtain ⟨c', u, e, rfl⟩ := hv 0 v rfl
        cases (show some c = some c' from e)
        exact .cons ⟨u, rfl⟩ (ih vs (by simpa using hl) fun j v hj => hv (j + 1) v hj)
  refine main x.cps.toList acc.toList (by rw [Array.length_toList, Array.length_toList]; exact h.1) fun j v hj => ?_
  rw [Array.getElem?_toList] at hj
  obtain ⟨c, u, e, ev⟩ := h.2 j v hj
  exact ⟨c, u, by rw [Array.getElem?_toList]; exact e, ev⟩
theorem call_listS (hc : X.calm = true) : CallR X (.type "list") (fun xs H Q => ∃ a : Str, xs = [.str a] ∧ a.length ≤ 16777216 ∧ ∀ l, H l = none → Q (.ref l) (upd H l (.lst (signsV a)))) := by
  intro pins s σ H xs us Q I r h
  obtain ⟨a, rfl, hz, q⟩ := h
  obtain ⟨u, rfl, t, rfl⟩ := vals1 r
  refine call_list_str (I.ok.hd hc) a t (fun h' tk acc c k e hi => ?_) (by rw [sizeLine_eq]; exact hz)
  have hl : (signsV a).length ≤ sizeLine := by unfold signsV; rw [List.length_map, Array.length_toList, sizeLine_eq]; exact hz
  exact ⟨.ref s.heap.objs.size, _, I.laid (t' := tk) k (Nat.le_refl _) (show ObjOk X.prog X.w _ h' _ (.lst (signsV a)) from ⟨hl, acc.toList, c, signs_vals hi, by simpa using e⟩), rfl, q _ (I.hok.fresh (Nat.le_refl _))⟩
def rListSD : List D → GS → QD → Prop := fun ds G Q => match ds with
  | [.str s] => s.length ≤ 16777216 ∧ Q (.lst (signsD s)) G
  | _ => False
theorem signs_rp {K : PySem.W.Frag} {η : Eta} {H : Hp} {s : Str} : RpL K η H (signsD s) (signsV s) := by
  unfold signsD signsV
  induction s.cps.toList with
  | nil => rfl
  | cons c l ih => exact ⟨_, _, rfl, rfl, ih⟩
theorem lift_listS : LiftC X (fun xs H Q => ∃ a : Str, xs = [.str a] ∧ a.length ≤ 16777216 ∧ ∀ l, H l = none → Q (.ref l) (upd H l (.lst (signsV a)))) rListSD := fun η G H vs ds Q Qd w r h hq => by
  unfold rListSD at h
  split at h
  · rename_i s
    obtain ⟨v, rfl, r1⟩ := rpl1 r
    have r1 : v = V.str s := r1
    subst r1
    exact ⟨s, rfl, h.1, fun l hl => hq.newL w hl signs_rp h.2⟩
  · exact h.elim
def rNotInSD : R2d := fun x y G Q => match x, y with
  | .str a, .str b => ∃ c, a = ⟨#[c]⟩ ∧ Q (.bl (!decide (c ∈ b.cps.toList))) G
  | _, _ => False
theorem lift_notInS : LiftR X (fun x y H Q => ∃ (c : Nat) (z : Str), x = .str ⟨#[c]⟩ ∧ y = .str z ∧ Q (.bl (!decide (c ∈ z.cps.toList))) H) rNotInSD := fun η G H x y dx dy Q Qd w rx ry h hq => by
  unfold rNotInSD at h
  split at h
  · rename_i a b
    obtain ⟨c, rfl, q⟩ := h
    exact ⟨c, b, rx, ry, hq.now (d := D.bl _) w rfl q⟩
  · exact h.elim
end
end Y

namespace Y
open PySem PySem.Spec L2
open PyProof.Rows hiding St
def putD (f : Str) (d : D) : List (Str × D) → List (Str × D)
  | [] => [(f, d)]
  | (g, x) :: r => if g = f then (g, d) :: r else (g, x) :: putD f d r
def getD (f : Str) : List (Str × D) → Option D
  | [] => none
  | (g, x) :: r => if g = f then some x else getD f r
section
variable {K : PySem.W.Frag} {η : Eta} {H : Hp}
theorem FsR.get : ∀ {ds : List (Str × D)} {vs : List (Str × V)} {f : Str} {d : D}, FsR K η H ds vs → getD f ds = some d → ∃ v, vs.lookup f = some v ∧ Rp K η H d v
  | [], _, f, d, _, e => by cases e
  | (g, x) :: ds, vs, f, d, h, e => by
    obtain ⟨v, r, rfl, h1, h2⟩ := h
    unfold getD at e
    by_cases c : g = f
    · rw [if_pos c] at e
      cases e
      subst c
      exact ⟨v, by rw [List.lookup_cons, beq_self_eq_true], h1⟩
    · rw [if_neg c] at e
      obtain ⟨u, e1, e2⟩ := FsR.get h2 e
      exact ⟨u, by rw [List.lookup_cons, beq_eq_false_iff_ne.mpr (fun z => c z.symm)]; exact e1, e2⟩
theorem FsR.no : ∀ {ds : List (Str × D)} {vs : List (Str × V)} {f : Str}, FsR K η H ds vs → getD f ds = none → vs.lookup f = none
  | [], _, f, h, _ => by cases h; rfl
  | (g, x) :: ds, vs, f, h, e => by
    obtain ⟨v, r, rfl, h1, h2⟩ := h
    unfold getD at e
    by_cases c : g = f
    · rw [if_pos c] at e; cases e
    · rw [if_neg c] at e
      rw [List.lookup_cons, beq_eq_false_iff_ne.mpr (fun z => c z.symm)]
      exact FsR.no h2 e
theorem FsR.put2 : ∀ {ds : List (Str × D)} {vs : List (Str × V)} {f : Str} {d : D} {v : V}, FsR K η H ds vs → Rp K η H d v → FsR K η H (putD f d ds) (putF f v vs)
  | [], _, f, d, v, h, r => by cases h; exact ⟨v, [], rfl, r, rfl⟩
  | (g, x) :: ds, vs, f, d, v, h, r => by
    obtain ⟨u, t, rfl, h1, h2⟩ := h
    unfold putD putF
    by_cases c : g = f
    · rw [if_pos c, if_pos c]; exact ⟨v, t, rfl, r, h2⟩
    · rw [if_neg c, if_neg c]; exact ⟨u, _, rfl, h1, FsR.put2 h2 r⟩
theorem FsR.length : ∀ {ds : List (Str × D)} {vs : List (Str × V)}, FsR K η H ds vs → ds.length = vs.length
  | [], _, h => by cases h; rfl
  | (f, d) :: ds, vs, h => by
    obtain ⟨v, r, rfl, _, h2⟩ := h
    simp [FsR.length h2]
end
/-- an own class and its text -/
structure ClT (K : PySem.W.Frag) (mg : Str → Option Value) (c : Str) (C : Addr) : Prop where
  mgC : mg c = some (.ref C)
  cl : Cls K C
theorem W.insAt {K : PySem.W.Frag} {mg : Str → Option Value} {η : Eta} {G : GS} {H : Hp} {k : Nat} {c : Str} {C : Addr} {v : V} {fs : List (Str × D)} (w : W K mg η G H) (T : ClT K mg c C) (r : Rp K η H (.obj k) v) (e : G[k]? = some (.ins c fs)) :
    ∃ a dx vs, v = .ref a ∧ η.o[k]? = some (some a) ∧ H a = some (.ins C dx vs) ∧ FsR K η H fs vs := by
  obtain ⟨a, C', dx, vs, h1, hm, h2, h3⟩ := w.at_ k _ e
  obtain ⟨b, rfl, h⟩ := r
  have : b = a := by
    rcases h with h | h
    · rw [h] at h1; cases h1; rfl
    · rw [h] at h1; cases h1
  subst this
  rw [T.mgC] at hm
  cases hm
  exact ⟨b, dx, vs, rfl, h1, h2, h3⟩
def tFldD (c f : Str) (te : TEd) : TEd := fun ρ G Q Ed => te ρ G (fun x G1 => ∃ k fs d, x = .obj k ∧ G1[k]? = some (.ins c fs) ∧ getD f fs = some d ∧ Q d G1) Ed
def tSetFD (c f : Str) (to tv : TEd) : TSd := fun D ρ G => tv ρ G (fun d G1 => to ρ G1 (fun x G2 => ∃ k fs, x = .obj k ∧ G2[k]? = some (.ins c fs) ∧ fs.length < 1000 ∧ D.nx ρ (G2.set k (.ins c (putD f d fs)))) (fun e G2 => D.er e ρ G2)) (fun e G1 => D.er e ρ G1)
def tMthD (c m : Str) (sp : SpD) (to : TEd) (ta : TAd) : TEd := fun ρ G Q Ed => to ρ G (fun x G1 => (∃ k fs, x = .obj k ∧ G1[k]? = some (.ins c fs) ∧ getD m fs = none) ∧ ta ρ G1 (fun ds G2 => sp (x :: ds) G2 Q Ed) Ed) Ed
def tPrpD (c : Str) (sp : SpD) (to : TEd) : TEd := fun ρ G Q Ed => to ρ G (fun x G1 => (∃ k fs, x = .obj k ∧ G1[k]? = some (.ins c fs)) ∧ sp [x] G1 Q (fun _ _ => False)) Ed
def tMakD (c : Str) (sp : SpD) (ta : TAd) : TEd := fun ρ G Q Ed => ta ρ G (fun ds G1 => sp (.obj G1.length :: ds) (G1 ++ [.ins c []]) (fun d G2 => d = .non ∧ Q (.obj G1.length) G2) Ed) Ed
section
variable {X : Cx} {E : St → XK} {o e value : Expr} {es : List Expr} {to te tv : TEd} {ta : TAd} {c f m x : Str} {C g : Addr} {p pos pos' apos : Pos} {k : Nat} {fd : FuncData} {ps : List Str} {sp : SpD}
theorem ped_fld (T : ClT X.K X.mg c C) (hn : NoAttr X.K C f) (he : PEd X E e te) (hb : attributeBase e f X.env (eval e X.env) = eval e X.env := by rfl) : PEd X E (.Attribute e f pos) (tFldD c f te) := by
  refine ⟨PE.imp (pe_fld he.run hb) fun σ H Q h => ?_⟩
  obtain ⟨ρ, η, G, Qd, Ed, he, w, ht, hq, hE⟩ := h
  refine ⟨ρ, η, G, _, Ed, he, w, ht, fun d G1 v η1 H1 s1 w1 r1 q1 => ?_, hE⟩
  obtain ⟨k, fs, d', rfl, ek, el, q1⟩ := q1
  obtain ⟨a, dx, vs, rfl, h1, h2, h3⟩ := w1.insAt T r1 ek
  obtain ⟨u, e1, e2⟩ := h3.get el
  exact ⟨a, C, dx, vs, u, rfl, h2, T.cl, hn, e1, hq d' G1 u η1 H1 s1 w1 e2 q1⟩
theorem psd_fld (T : ClT X.K X.mg c C) (hn : NoAttr X.K C f) (ho : PEd X E o to) (hv : PEd X E value tv) (hs : swapsWith value (some (.Attribute o f pos')) pos.line X.env = pure false := by rfl) :
    PSd X E (.Assign [.Attribute o f pos'] value pos) (tSetFD c f to tv) := ⟨PS.imp (ps_fld ho.run hv.run hs) fun D σ H h => by
  obtain ⟨ρ, η, G, Dd, he, w, ht, l⟩ := h
  refine ⟨ρ, η, G, _, _, he, w, ht, fun d G1 v η1 H1 s1 w1 r1 q1 => ?_, l.le he⟩
  refine ⟨ρ, η1, G1, _, _, he.step s1, w1, q1, fun x G2 u η2 H2 s2 w2 r2 q2 => ?_, (l.le he).step s1⟩
  obtain ⟨k, fs, rfl, ek, hl, q2⟩ := q2
  obtain ⟨a, dx, vs, rfl, h1, h2, h3⟩ := w2.insAt T r2 ek
  have nf : ¬ Fix (HO.ins C dx vs) := fun z => z
  have st := Stp.wrote (o' := .ins C dx (putF f v vs)) h1 h2 nf
  have rd := Rp.step s2 _ _ r1
  have hp : FsR X.K η2 (upd H2 a (.ins C dx (putF f v vs))) (putD f d fs) (putF f v vs) := FsR.step st _ _ (h3.put2 rd)
  exact ⟨a, C, dx, vs, rfl, h2, T.cl, hn, by rw [← h3.length]; exact hl, l.nx ρ _ σ η2 _ ((s1.trans s2).trans st) (w2.wrote (m := .ins c (putD f d fs)) h1 h2 nf ⟨a, C, dx, _, h1, T.mgC, upd_same, hp⟩) (((he.step s1).step s2).step st) q2⟩⟩
/-- a method's call where what is raised is wished for at the caller's slots -/
def tMethS (C : Addr) (m : Str) (sp : Sp) (E : St → XK) (ta : TE) (t : TA) : TE := fun σ H Q => ta σ H fun x H1 => ∃ a dx fs, x = .ref a ∧ H1 a = some (.ins C dx fs) ∧ fs.lookup m = none ∧ t σ H1 fun vs H2 => sp (x :: vs) H2 Q (E σ)
theorem pe_methS' {CX : CXT} {sp : Sp} {ta : TE} {t : TA} {pl : Sem Bool} (he : PE X o ta) (c : Cls X.K C) (hm : Meth X.K C m g) (F : FnOk X.prog X.w X.K X.mg X.base CX k g fd ps sp) (hr : Room k X.A) (hb : Binds X.K fd ps []) (hx : ∀ σ, PassesAt CX X σ (E σ)) (ha : PA X (e :: es) t)
    (hst : starEach (e :: es) X.env = (false, eval e X.env) :: starEach es X.env := by rfl) (hpl : (backTo pos (starEach es X.env)).any (·.1) = false := by rfl)
    (ht : eval (.Call (.Attribute o m apos) (e :: es) [] pos) X.env = (do
      let ov ← eval o X.env
      standAt apos.atName
      let (f, first) ← holding [ov] (getMethod ov m pl)
      callWith pos f first (backTo pos (starEach (e :: es) X.env)) (backToKw pos (keywordEach [] X.env))) := by rfl) :
    PE X (.Call (.Attribute o m apos) (e :: es) [] pos) (tMethS C m sp E ta t) := by
  refine ⟨fun pins s σ H Q I h => ?_⟩
  refine PySem.W.methodCall_KW (pl := pl) (thn (he.run pins s σ H _ I h) fun u s1 ⟨x, H1, I1, rx, a, dx, fs, ex, ea, l, q⟩ => ?_) ht
  subst ex
  obtain rfl : u = Value.ref a := rx
  refine getmeth_ok I1 ea c hm l ?_
  refine PySem.W.callWith_K (first := [.ref a]) (h₀ := X.base) I1.ok.mod.kin hm.kp (thn (ha.run pos pins s1 σ H1 _ I1 q) fun us s2 ⟨vs, H2, I2, r, q⟩ => ⟨I2.kIn, ?_⟩) hst hpl
  exact run_fnS (us := .ref a :: us) (vs := .ref a :: vs) F hr hb (hx σ) I2 (.cons rfl r) q
theorem pe_methS0' {CX : CXT} {sp : Sp} {ta : TE} {pl : Sem Bool} (he : PE X o ta) (c : Cls X.K C) (hm : Meth X.K C m g) (F : FnOk X.prog X.w X.K X.mg X.base CX k g fd ps sp) (hr : Room k X.A) (hb : Binds X.K fd ps []) (hx : ∀ σ, PassesAt CX X σ (E σ))
    (ht : eval (.Call (.Attribute o m apos) [] [] pos) X.env = (do
      let ov ← eval o X.env
      standAt apos.atName
      let (f, first) ← holding [ov] (getMethod ov m pl)
      callWith pos f first (backTo pos (starEach [] X.env)) (backToKw pos (keywordEach [] X.env))) := by rfl) :
    PE X (.Call (.Attribute o m apos) [] [] pos) (tMethS C m sp E ta tNil) := by
  refine ⟨fun pins s σ H Q I h => ?_⟩
  refine PySem.W.methodCall_KW (pl := pl) (thn (he.run pins s σ H _ I h) fun u s1 ⟨x, H1, I1, rx, a, dx, fs, ex, ea, l, q⟩ => ?_) ht
  subst ex
  obtain rfl : u = Value.ref a := rx
  refine getmeth_ok I1 ea c hm l ?_
  exact PySem.W.callWith_K0 (first := [.ref a]) I1.kIn hm.kp (run_fnS (us := [.ref a]) (vs := [.ref a]) F hr hb (hx σ) I1 (.cons rfl .nil) q)
theorem liftMth (T : ClT X.K X.mg c C) {σ : St} {H : Hp} {Q : VK} (h : lE X.K X.mg E (tMthD c m sp to ta) σ H Q) : tMethS C m (liftSp X.K X.mg sp) E (lE X.K X.mg E to) (lA X.K X.mg E ta) σ H Q := by
  obtain ⟨ρ, η, G, Qd, Ed, he, w, ht, hq, hE⟩ := h
  refine ⟨ρ, η, G, _, Ed, he, w, ht, fun x G1 v η1 H1 s1 w1 r1 q1 => ?_, hE⟩
  obtain ⟨⟨k, fs, rfl, ek, el⟩, q1⟩ := q1
  obtain ⟨a, dx, vs, rfl, h1, h2, h3⟩ := w1.insAt T r1 ek
  refine ⟨a, dx, vs, rfl, h2, h3.no el, ρ, η1, G1, _, Ed, he.step s1, w1, q1, fun ds G2 us η2 H2 s2 w2 r2 q2 => ?_, hE.step s1⟩
  exact ⟨.obj k :: ds, η2, G2, Qd, Ed, ⟨_, _, rfl, Rp.step s2 _ _ r1, r2⟩, w2, q2, hq.step (s1.trans s2), hE.step (s1.trans s2)⟩
theorem ped_mth (T : ClT X.K X.mg c C) (hm : Meth X.K C m g) (F : FnOk X.prog X.w X.K X.mg X.base (L2.CX X.prog X.w) k g fd ps (liftSp X.K X.mg sp)) (hr : Room k X.A) (hb : Binds X.K fd ps []) (hx : ∀ σ, PassesAt (L2.CX X.prog X.w) X σ (E σ)) (ho : PEd X E o to) (ha : PAd X E (e :: es) ta)
    {pl : Sem Bool} (hst : starEach (e :: es) X.env = (false, eval e X.env) :: starEach es X.env := by rfl) (hpl : (backTo pos (starEach es X.env)).any (·.1) = false := by rfl)
    (ht : eval (.Call (.Attribute o m apos) (e :: es) [] pos) X.env = (do
      let ov ← eval o X.env
      standAt apos.atName
      let (f, first) ← holding [ov] (getMethod ov m pl)
      callWith pos f first (backTo pos (starEach (e :: es) X.env)) (backToKw pos (keywordEach [] X.env))) := by rfl) :
    PEd X E (.Call (.Attribute o m apos) (e :: es) [] pos) (tMthD c m sp to ta) :=
  ⟨PE.imp (pe_methS' (E := E) (pl := pl) ho.run T.cl hm F hr hb hx ha.run hst hpl ht) fun σ H Q h => liftMth T h⟩
theorem ped_mth0 (T : ClT X.K X.mg c C) (hm : Meth X.K C m g) (F : FnOk X.prog X.w X.K X.mg X.base (L2.CX X.prog X.w) k g fd ps (liftSp X.K X.mg sp)) (hr : Room k X.A) (hb : Binds X.K fd ps []) (hx : ∀ σ, PassesAt (L2.CX X.prog X.w) X σ (E σ)) (ho : PEd X E o to)
    {pl : Sem Bool}
    (ht : eval (.Call (.Attribute o m apos) [] [] pos) X.env = (do
      let ov ← eval o X.env
      standAt apos.atName
      let (f, first) ← holding [ov] (getMethod ov m pl)
      callWith pos f first (backTo pos (starEach [] X.env)) (backToKw pos (keywordEach [] X.env))) := by rfl) :
    PEd X E (.Call (.Attribute o m apos) [] [] pos) (tMthD c m sp to tNilD) :=
  ⟨PE.imp (pe_methS0' (E := E) (pl := pl) ho.run T.cl hm F hr hb hx ht) fun σ H Q h => by
    have h1 := liftMth T h
    obtain ⟨ρ, η, G, Qd, Ed, he, w, ht, hq, hE⟩ := h
    refine ⟨ρ, η, G, _, Ed, he, w, ht, fun x G1 v η1 H1 s1 w1 r1 q1 => ?_, hE⟩
    obtain ⟨⟨k, fs, rfl, ek, el⟩, q1⟩ := q1
    obtain ⟨a, dx, vs, rfl, h1, h2, h3⟩ := w1.insAt T r1 ek
    exact ⟨a, dx, vs, rfl, h2, h3.no el, ⟨[.obj k], η1, G1, Qd, Ed, ⟨_, _, rfl, r1, rfl⟩, w1, q1, hq.step s1, hE.step s1⟩⟩⟩
theorem cx_no {P : Program} {w : World} {outer : List Env} {H : Hp} {s : Shared} {e : Value} {s' : Shared} (h : L2.CX P w outer H s (fun _ _ _ => False) e s') : False := by
  obtain ⟨_, _, _, _, _, _, _, _, _, _, _, _, z⟩ := h
  exact z
theorem le_no {K : PySem.W.Frag} {mg : Str → Option Value} {η : Eta} {H : Hp} {E : XK} : LE K mg η H (fun _ _ => False) E := fun _ _ _ _ _ _ _ _ _ h => h.elim
theorem ped_prp {pr : Addr} (T : ClT X.K X.mg c C) (hp : PropOf X.K C f pr g) (F : FnOk X.prog X.w X.K X.mg X.base (L2.CX X.prog X.w) k g fd ps (liftSp X.K X.mg sp)) (hr : Room (k + 1) X.A) (hb : Binds X.K fd ps []) (he : PEd X E e te)
    (hab : attributeBase e f X.env (eval e X.env) = eval e X.env := by rfl) : PEd X E (.Attribute e f pos) (tPrpD c sp te) := by
  refine ⟨PE.imp (pe_prop (E := fun _ _ _ => False) he.run T.cl hp F hr hb .nil (fun _ _ _ _ _ _ _ h => cx_no h) hab) fun σ H Q h => ?_⟩
  obtain ⟨ρ, η, G, Qd, Ed, he, w, ht, hq, hE⟩ := h
  refine ⟨ρ, η, G, _, Ed, he, w, ht, fun x G1 v η1 H1 s1 w1 r1 q1 => ?_, hE⟩
  obtain ⟨⟨k, fs, rfl, ek⟩, q1⟩ := q1
  obtain ⟨a, dx, vs, rfl, h1, h2, h3⟩ := w1.insAt T r1 ek
  exact ⟨a, dx, vs, rfl, h2, [.obj k], η1, G1, Qd, _, ⟨_, _, rfl, r1, rfl⟩, w1, q1, hq.step s1, le_no⟩
/-- making an instance where what is raised is wished for at the caller's slots -/
def tMakeS (C : Addr) (sp : Sp) (E : St → XK) (t : TA) : TE := fun σ H Q => t σ H fun vs H1 => ∀ x dx, H1 x = none → H1 dx = none → dx ≠ x →
  sp (.ref x :: vs) (upd (upd H1 dx (.own x)) x (.ins C dx [])) (fun v H2 => v = .non ∧ Q (.ref x) H2) (E σ)
theorem run_makeS {CX : CXT} {sp : Sp} {E : XK} {pins : List (Addr × Obj)} {σ : St} {H : Hp} {s : Shared} {Q : VK} {us : List Value} {vs : List V} (M : Mk X.K C g) (F : FnOk X.prog X.w X.K X.mg X.base CX k g fd ps sp) (hr : Room (k + 1) X.A) (hb : Binds X.K fd ps [])
    (hx : PassesAt CX X σ E) (I : Inv X pins σ H s) (r : Vals vs us)
    (h : ∀ x dx, H x = none → H dx = none → dx ≠ x → sp (.ref x :: vs) (upd (upd H dx (.own x)) x (.ins C dx [])) (fun v H2 => v = .non ∧ Q (.ref x) H2) E) :
    wpAny (model X.prog X.w) X.A (call (.ref C) us) (EP X pins σ Q) X.xe s := by
  have hq := h (s.heap.objs.size + 1) s.heap.objs.size (I.hok.fresh (Nat.le_succ _)) (I.hok.fresh (Nat.le_refl _)) (Nat.ne_of_lt (Nat.lt_succ_self _))
  have I2 := Inv.made (C := C) I
  have r2 : Vals (V.ref (s.heap.objs.size + 1) :: vs) (Value.ref (s.heap.objs.size + 1) :: us) := .cons rfl r
  have hl : (Value.ref (s.heap.objs.size + 1) :: us).length = ps.length := by
    have e := r2.length
    rw [F.len _ _ _ _ hq] at e
    exact e.symm
  have b := hb { s with heap := (s.heap.push PySem.W.emptyDict).push (PySem.W.instObj C s.heap.objs.size) } (Value.ref (s.heap.objs.size + 1) :: us) I2.kIn (by rw [List.append_nil]; exact hl)
  rw [List.append_nil] at b
  refine wpAny_call (make_map (f := g) I.kIn M.makes M.init (beq_iff_eq.mp M.fn) (codeAny_mono (F.run _ X.stack _ _ ⟨Value.ref (s.heap.objs.size + 1) :: us, []⟩ (Value.ref (s.heap.objs.size + 1) :: us) _ _ E (hr.make C us [])
    (I2.env0.make C us []) b r2 hq) fun r s' hq' => ?_))
  cases r with
  | error e => exact hx pins _ _ e s' I2 hq'
  | ok fl =>
    cases fl with
    | ret u =>
      obtain ⟨v, H', I3, rv, ev, q3⟩ := I2.after hq'
      subst ev
      exact ⟨rv, ⟨V.ref (s.heap.objs.size + 1), H', I3, rfl, q3⟩⟩
    | next => exact False.elim hq'
    | brk => exact False.elim hq'
    | cont => exact False.elim hq'
theorem pe_makeS {CX : CXT} {sp : Sp} {t : TA} (M : Mk X.K C g) (F : FnOk X.prog X.w X.K X.mg X.base CX k g fd ps sp) (hr : Room (k + 1) X.A) (hg : Gl X x) (hm : X.mg x = some (.ref C)) (hb : Binds X.K fd ps []) (hx : ∀ σ, PassesAt CX X σ (E σ))
    (ha : PA X (e :: es) t) (hdb : (x == ("__debug__" : Str)) = false := by decide) (he : starEach (e :: es) X.env = (false, eval e X.env) :: starEach es X.env := by rfl) (hpl : (backTo pos (starEach es X.env)).any (·.1) = false := by rfl) :
    PE X (.Call (.Name x p) (e :: es) [] pos) (tMakeS C sp E t) := by
  refine ⟨fun pins s σ H Q I h => ?_⟩
  refine wpAny_Call_Name_kw (ld_glob I hg hm ?_ hdb)
  refine PySem.W.callWith_K (h₀ := X.base) I.ok.mod.kin M.kp (thn (ha.run pos pins s σ H _ I h) fun us s1 ⟨vs, H1, I1, r, q⟩ => ⟨I1.kIn, ?_⟩) he hpl
  exact run_makeS M F hr hb (hx σ) I1 r q
theorem ped_mak (T : ClT X.K X.mg c C) (M : Mk X.K C g) (F : FnOk X.prog X.w X.K X.mg X.base (L2.CX X.prog X.w) k g fd ps (liftSp X.K X.mg sp)) (hr : Room (k + 1) X.A) (hg : Gl X c) (hb : Binds X.K fd ps []) (hx : ∀ σ, PassesAt (L2.CX X.prog X.w) X σ (E σ))
    (ha : PAd X E (e :: es) ta) (hdb : (c == ("__debug__" : Str)) = false := by decide) (he : starEach (e :: es) X.env = (false, eval e X.env) :: starEach es X.env := by rfl) (hpl : (backTo pos (starEach es X.env)).any (·.1) = false := by rfl) :
    PEd X E (.Call (.Name c p) (e :: es) [] pos) (tMakD c sp ta) := by
  refine ⟨PE.imp (pe_makeS (E := E) M F hr hg T.mgC hb hx ha.run hdb he hpl) fun σ H Q h => ?_⟩
  obtain ⟨ρ, η, G, Qd, Ed, he, w, ht, hq, hE⟩ := h
  refine ⟨ρ, η, G, _, Ed, he, w, ht, fun ds G1 vs η1 H1 s1 w1 r1 q1 => ?_, hE⟩
  intro y dx hy hd hne
  have w2 := w1.laid (o := .own y) hd
  have s2 : Stp η1 H1 η1 (upd H1 dx (.own y)) := Stp.laid hd
  have hy2 : (upd H1 dx (.own y)) y = none := by rw [upd_ne (fun z => hne z.symm)]; exact hy
  have el : (η1.push y).o[η1.o.length]? = some (some y) := by
    show (η1.o ++ [some y])[η1.o.length]? = _
    rw [List.getElem?_append_right (Nat.le_refl _), Nat.sub_self]; rfl
  have w3 := w2.grow (m := .ins c []) (o := .ins C dx []) hy2 ⟨y, C, dx, [], el, T.mgC, upd_same, rfl⟩
  have s3 : Stp η1 (upd H1 dx (.own y)) (η1.push y) (upd (upd H1 dx (.own y)) y (.ins C dx [])) := Stp.pushed hy2
  have s13 := s2.trans s3
  rw [w1.len] at el
  refine ⟨.obj G1.length :: ds, η1.push y, _, _, Ed, ⟨.ref y, vs, rfl, ⟨y, rfl, .inl el⟩, RpL.step s13 _ _ r1⟩, w3, q1, ?_, hE.step (s1.trans s13)⟩
  rintro d G2 v η2 H2 s4 w4 r4 ⟨rfl, q⟩
  refine ⟨r4, hq (.obj G1.length) G2 (.ref y) η2 H2 ((s1.trans s13).trans s4) w4 ⟨y, rfl, s4.old _ _ el⟩ q⟩
end
/-- len of an instance whose class has a __len__ of its own -/
def rLenOwn (K : PySem.W.Frag) (C : Addr) (sp : Sp) : List V → Hp → VK → Prop := fun xs H Q => ∃ a dx fs, xs = [.ref a] ∧ H a = some (.ins C dx fs) ∧ sp [.ref a] H (fun v H2 => ∃ i : Int, v = .int i ∧ 0 ≤ i ∧ i < 2 ^ 62 ∧ Q v H2) (fun _ _ _ => False)
theorem call_lenOwn {X : Cx} {C g : Addr} {k : Nat} {fd : FuncData} {ps : List Str} {sp : Sp} (hm : Meth X.K C "__len__" g) (F : FnOk X.prog X.w X.K X.mg X.base (L2.CX X.prog X.w) k g fd ps sp) (hr : Room (k + 1) X.A) (hb : Binds X.K fd ps []) :
    CallR X (.builtin "len") (rLenOwn X.K C sp) := by
  intro pins s σ H xs us Q I r h
  obtain ⟨a, dx, fs, rfl, ea, q⟩ := h
  obtain ⟨u, rfl, ru⟩ := vals1 r
  obtain rfl : u = Value.ref a := ru
  obtain ⟨mA, O, _, _, _, _⟩ := ins_get I.hok ea
  obtain ⟨od, J, _⟩ := O.look
  have hl : [Value.ref a].length = ps.length := F.len _ _ _ _ q
  have b := hb s [.ref a] I.kIn (by rw [List.append_nil]; exact hl)
  rw [List.append_nil] at b
  obtain ⟨hp, gs, dr, tk, os⟩ := s
  refine Calls.call_function_entry kind_len plain_len entry_len (args_len1 _) ?_
  unfold Builtin.«len»
  refine wpAny_bind (m := oneArg "len" _) (wpAny_pure ?_)
  refine wpAny_bind (m := callSpecial? (.ref a) (Str.ofString "__len__")) (PySem.W.special_fn (name := "__len__") (args := []) I.kIn J hm.at_ (beq_iff_eq.mp hm.fn) ?_)
  refine wpAny_call (codeAny_mono (F.run X.A.in1 X.stack _ H ⟨[.ref a], []⟩ [.ref a] [.ref a] _ _ hr.in1 I.env0.in1 b (.cons rfl .nil) q) fun r s' hq => ?_)
  cases r with
  | error er => exact (cx_no hq).elim
  | ok fl =>
    cases fl with
    | ret u =>
      obtain ⟨v, H', I3, rv, i, rfl, i0, i1, q3⟩ := I.after hq
      obtain ⟨t, rfl⟩ : ∃ t, u = .int i t := rv
      refine wpAny_bind (wpAny_holding (wpAny_pure ?_))
      refine wpAny_bind (wpAny_letGo ?_)
      show wpAny _ _ (if i < 0 then _ else _) _ _ _
      rw [if_neg (by omega)]
      show wpAny _ _ (if i ≥ 2 ^ 63 then _ else _) _ _ _
      rw [if_neg (by omega)]
      exact wpAny_bind (wpAny_mkInt (wpAny_pure ⟨_, rfl, .int i, H', I3.tok _, ⟨_, rfl⟩, q3⟩))
    | next => exact False.elim hq
    | brk => exact False.elim hq
    | cont => exact False.elim hq
def rLenInD (c : Str) (sp : SpD) : List D → GS → QD → Prop := fun ds G Q => match ds with
  | [x] => (∃ k fs, x = .obj k ∧ G[k]? = some (.ins c fs)) ∧ sp [x] G (fun d G2 => ∃ i : Int, d = .int i ∧ 0 ≤ i ∧ i < 2 ^ 62 ∧ Q (.int i) G2) (fun _ _ => False)
  | _ => False
theorem lift_lenIn {X : Cx} {c : Str} {C : Addr} {sp : SpD} (T : ClT X.K X.mg c C) : LiftC X (rLenOwn X.K C (liftSp X.K X.mg sp)) (rLenInD c sp) := fun η G H vs ds Q Qd w r h hq => by
  unfold rLenInD at h
  split at h
  · rename_i x
    obtain ⟨v, rfl, r1⟩ := rpl1 r
    obtain ⟨⟨k, fs, rfl, ek⟩, h⟩ := h
    obtain ⟨a, dx, us, rfl, h1, h2, h3⟩ := w.insAt T r1 ek
    refine ⟨a, dx, us, rfl, h2, [.obj k], η, G, _, _, ⟨_, _, rfl, r1, rfl⟩, w, h, ?_, le_no⟩
    rintro d G2 v η2 H2 s2 w2 r2 ⟨i, rfl, i0, i1, q⟩
    exact ⟨i, r2, i0, i1, hq (.int i) G2 v η2 H2 s2 w2 r2 q⟩
  · exact h.elim
end Y

namespace Y
open PySem PySem.Spec L2
open PyProof.Rows hiding St
def keyI (ns : List Int) : List L2.Key := ns.map Sum.inl
theorem keyI_inj {a b : List Int} (h : keyI a = keyI b) : a = b := by
  have := congrArg (List.map fun k : L2.Key => match k with | .inl i => i | .inr _ => 0) h
  unfold keyI at this
  rw [List.map_map, List.map_map] at this
  have e : ((fun k : L2.Key => match k with | .inl i => i | .inr _ => 0) ∘ Sum.inl) = (id : Int → Int) := rfl
  rw [e, List.map_id, List.map_id] at this
  exact this
theorem keyI_kV {ns : List Int} : (keyI ns).map kV = ns.map V.int := by
  unfold keyI
  rw [List.map_map]; rfl
def dget (kvs : List (List Int × Option Int)) (ns : List Int) : Option (Option Int) := (kvs.find? fun e => decide (e.1 = ns)).map (·.2)
def dput (kvs : List (List Int × Option Int)) (ns : List Int) (o : Option Int) : List (List Int × Option Int) :=
  if (kvs.any fun e => decide (e.1 = ns)) = true then kvs.map (fun e => if e.1 = ns then (e.1, o) else e) else kvs ++ [(ns, o)]
theorem key_dec {a b : List Int} : decide (keyI a = keyI b) = decide (a = b) := by
  by_cases c : a = b
  · subst c; rw [decide_eq_true rfl, decide_eq_true rfl]
  · rw [decide_eq_false c, decide_eq_false fun z => c (keyI_inj z)]
theorem valV_kv (ns : List Int) : ∀ kvs : List (List Int × Option Int), valV (kvV kvs) (keyI ns) = (dget kvs ns).map vO
  | [] => rfl
  | e :: r => by
    have ih := valV_kv ns r
    unfold valV dget kvV at ih ⊢
    rw [List.map_cons, List.find?_cons, List.find?_cons]
    show Option.map _ (match decide (keyI e.1 = keyI ns) with | true => some (keyI e.1, vO e.2) | false => _) = Option.map vO (Option.map _ (match decide (e.1 = ns) with | true => some e | false => _))
    rw [key_dec]
    cases decide (e.1 = ns) with
    | true => rfl
    | false => exact ih
theorem putK_kv (ns : List Int) (o : Option Int) (kvs : List (List Int × Option Int)) : putK (kvV kvs) (keyI ns) (vO o) = kvV (dput kvs ns o) := by
  have e1 : ((kvV kvs).any fun e => decide (e.1 = keyI ns)) = kvs.any fun e => decide (e.1 = ns) := by
    unfold kvV
    rw [List.any_map]
    refine congrArg (fun f => kvs.any f) (funext fun e => ?_)
    show decide (keyI e.1 = keyI ns) = _
    exact key_dec
  unfold putK dput
  rw [e1]
  by_cases c : (kvs.any fun e => decide (e.1 = ns)) = true
  · rw [if_pos c, if_pos c]
    unfold kvV
    rw [List.map_map, List.map_map]
    refine List.map_congr_left fun e he => ?_
    show (if keyI e.1 = keyI ns then (keyI e.1, vO o) else (keyI e.1, vO e.2)) = _
    by_cases d : e.1 = ns
    · rw [if_pos (by rw [d])]
      show _ = (fun e : List Int × Option Int => (keyI e.1, vO e.2)) (if e.1 = ns then (e.1, o) else e)
      rw [if_pos d]
    · rw [if_neg fun z => d (keyI_inj z)]
      show _ = (fun e : List Int × Option Int => (keyI e.1, vO e.2)) (if e.1 = ns then (e.1, o) else e)
      rw [if_neg d]
  · rw [if_neg c, if_neg c]
    unfold kvV
    rw [List.map_append]; rfl
theorem W.dicAt {K : PySem.W.Frag} {mg : Str → Option Value} {η : Eta} {G : GS} {H : Hp} {k : Nat} {v : V} {kvs : List (List Int × Option Int)} (w : W K mg η G H) (r : Rp K η H (.obj k) v) (e : G[k]? = some (.dic kvs)) :
    ∃ a, v = .ref a ∧ η.o[k]? = some (some a) ∧ H a = some (.dT (kvV kvs)) := by
  obtain ⟨a, h1, h2⟩ := w.at_ k _ e
  obtain ⟨b, rfl, h⟩ := r
  have : b = a := by
    rcases h with h | h
    · rw [h] at h1; cases h1; rfl
    · rw [h] at h1; cases h1
  subst this
  exact ⟨b, rfl, h1, h2⟩
abbrev QK := List Int → GS → Prop
abbrev TKd := Rho → GS → QK → QE → Prop
/-- an expression that gives a tuple of ints that is a key -/
def lK (K : PySem.W.Frag) (mg : Str → Option Value) (E : St → XK) (t : TKd) : TE := fun σ H Q =>
  ∃ (ρ : Rho) (η : Eta) (G : GS) (Qd : QK) (Ed : QE), EnvR K η H σ ρ ∧ W K mg η G H ∧ t ρ G Qd Ed ∧
    (∀ ns G' b η' H', Stp η H η' H' → W K mg η' G' H' → H' b = some (.tup (ns.map V.int)) → Qd ns G' → Q (.ref b) H') ∧ LE K mg η H Ed (E σ)
structure PKd (X : Cx) (E : St → XK) (e : Expr) (t : TKd) : Prop where run : PE X e (lK X.K X.mg E t)
def kTupD (te : TEd) : TKd := fun ρ G Q Ed => te ρ G (fun x G1 => ∃ ns, x = .lst (ns.map .int) ∧ Q ns G1) Ed
def kDspD (ta : TAd) : TKd := fun ρ G Q Ed => ta ρ G (fun ds G1 => ∃ ns, ds = ns.map .int ∧ ns.length ≤ 16777216 ∧ Q ns G1) Ed
def tDicOD : TEd := fun _ G Q _ => Q (.obj G.length) (G ++ [.dic []])
def tInKD (tk : TKd) (td : TEd) : TEd := fun ρ G Q Ed => tk ρ G (fun ns G1 => td ρ G1 (fun y G2 => ∃ k kvs, y = .obj k ∧ G2[k]? = some (.dic kvs) ∧ Q (.bl (dget kvs ns).isSome) G2) Ed) Ed
def tGetKD (td : TEd) (tk : TKd) : TEd := fun ρ G Q Ed => td ρ G (fun y G1 => tk ρ G1 (fun ns G2 => ∃ k kvs i, y = .obj k ∧ G2[k]? = some (.dic kvs) ∧ dget kvs ns = some (some i) ∧ Q (.int i) G2) Ed) Ed
def dO : D → Option (Option Int)
  | .bl true => some none
  | .int i => some (some i)
  | _ => none
def tPutKD (td : TEd) (tk : TKd) (tv : TEd) : TSd := fun D ρ G => tv ρ G (fun d G1 => td ρ G1 (fun y G2 => tk ρ G2 (fun ns G3 => ∃ k kvs o, y = .obj k ∧ G3[k]? = some (.dic kvs) ∧ dO d = some o ∧ kvs.length < 16777216 ∧ D.nx ρ (G3.set k (.dic (dput kvs ns o)))) (fun e G3 => D.er e ρ G3)) (fun e G2 => D.er e ρ G2)) (fun e G1 => D.er e ρ G1)
section
variable {X : Cx} {E : St → XK} {a b e o i value : Expr} {es : List Expr} {te td tv : TEd} {ta : TAd} {tk : TKd} {p pos pos' : Pos}
theorem ped_dic : PEd X E (.Dict [] [] pos) tDicOD := ⟨PE.imp pe_dnewT fun σ H Q h => by
  obtain ⟨ρ, η, G, Qd, Ed, he, w, ht, hq, hE⟩ := h
  intro p hp
  have el : (η.push p).o[η.o.length]? = some (some p) := by
    show (η.o ++ [some p])[η.o.length]? = _
    rw [List.getElem?_append_right (Nat.le_refl _), Nat.sub_self]; rfl
  have w2 := w.grow (m := .dic []) (o := .dT []) hp ⟨p, el, upd_same⟩
  rw [w.len] at el
  exact hq (.obj G.length) _ (.ref p) (η.push p) _ (Stp.pushed hp) w2 ⟨p, rfl, .inl el⟩ ht⟩
theorem pkd_tuple (hm : X.mg "tuple" = none) (hg : Gl X "tuple") (he : PEd X E e te) (hs : starEach (e :: []) X.env = (false, eval e X.env) :: starEach [] X.env := by rfl) (hpl : (backTo pos (starEach [] X.env)).any (·.1) = false := by rfl) :
    PKd X E (.Call (.Name "tuple" p) [e] [] pos) (kTupD te) := by
  have hpa : PA X [e] (tCons (lE X.K X.mg E te) tNil) := pa_cons he.run pa_nil hs
  refine ⟨PE.imp (pe_callTy call_tuple_of hg hm (by decide +kernel) hpa (by decide) (by decide) hs hpl) fun σ H Q h => ?_⟩
  obtain ⟨ρ, η, G, Qd, Ed, he, w, ht, hq, hE⟩ := h
  refine ⟨ρ, η, G, _, Ed, he, w, ht, fun d G1 v η1 H1 s1 w1 r1 q1 => ?_, hE⟩
  obtain ⟨ns, rfl, q⟩ := q1
  obtain ⟨a, vs, rfl, ho, hl, hr⟩ := r1
  have hr := RpL.ints.mp hr
  subst hr
  exact ⟨a, _, rfl, .inl ⟨SqL.of hl, fun l hn => hq ns G1 l η1 _ (s1.trans (Stp.laid hn)) (w1.laid hn) upd_same q⟩⟩
theorem pkd_dsp {x1} (ha : PAd X E es ta) : PKd X E (.Tuple es x1 pos) (kDspD ta) := by
  refine ⟨PE.imp (pe_tup ha.run) fun σ H Q h => ?_⟩
  obtain ⟨ρ, η, G, Qd, Ed, he, w, ht, hq, hE⟩ := h
  refine ⟨ρ, η, G, _, Ed, he, w, ht, fun ds G1 vs η1 H1 s1 w1 r1 q1 => ?_, hE⟩
  obtain ⟨ns, rfl, hl, q⟩ := q1
  have hr := RpL.ints.mp r1
  subst hr
  exact ⟨by rw [List.length_map]; exact line_eq hl, fun l hn => hq ns G1 l η1 _ (s1.trans (Stp.laid hn)) (w1.laid hn) upd_same q⟩
theorem liftInK {σ : St} {H : Hp} {Q : VK} (h : lE X.K X.mg E (tInKD tk td) σ H Q) : tDIn (lK X.K X.mg E tk) (lE X.K X.mg E td) σ H Q := by
  obtain ⟨ρ, η, G, Qd, Ed, he, w, ht, hq, hE⟩ := h
  refine ⟨ρ, η, G, _, Ed, he, w, ht, fun ns G1 b η1 H1 s1 w1 eb q1 => ?_, hE⟩
  refine ⟨ρ, η1, G1, _, Ed, he.step s1, w1, q1, fun y G2 u η2 H2 s2 w2 r2 q2 => ?_, hE.step s1⟩
  obtain ⟨k, kvs, rfl, ek, q2⟩ := q2
  obtain ⟨a, rfl, h1, h2⟩ := w2.dicAt r2 ek
  have eb2 : H2 b = some (.tup ((keyI ns).map kV)) := by rw [keyI_kV]; exact s2.keep _ _ eb (.inr trivial)
  refine ⟨a, _, rfl, DGet.t h2 eb2, ?_⟩
  rw [valV_kv, Option.isSome_map]
  exact hq (.bl _) G2 _ η2 H2 (s1.trans s2) w2 rfl q2
theorem ped_inK (hu : X.A.units + 1 < cLine) (hk : PKd X E a tk) (hd : PEd X E b td) (hm : behindInMarks .In b = false) : PEd X E (.Compare a [.In] [b] pos) (tInKD tk td) :=
  ⟨PE.imp (pe_cmp (pc_din hu hk.run hd.run) hm) fun σ H Q h => liftInK h⟩
theorem ptd_inK (hu : X.A.units + 1 < cLine) (hk : PKd X E a tk) (hd : PEd X E b td) (hm : behindInMarks .In b = false) : PTd X E (.Compare a [.In] [b] pos) (tTestD (tInKD tk td)) :=
  ⟨PT.imp (pt_cmp (pc_din hu hk.run hd.run) hm) fun σ H Q h => liftTest (fun h => liftInK h) h⟩
theorem ped_getK (hu : X.A.units + 1 < cLine) (ho : PEd X E o td) (hk : PKd X E i tk) (hs : NoSl i) : PEd X E (.Subscript o i pos) (tGetKD td tk) := by
  refine ⟨PE.imp (pe_dget hu ho.run hk.run hs) fun σ H Q h => ?_⟩
  obtain ⟨ρ, η, G, Qd, Ed, he, w, ht, hq, hE⟩ := h
  refine ⟨ρ, η, G, _, Ed, he, w, ht, fun y G1 v η1 H1 s1 w1 r1 q1 => ?_, hE⟩
  refine ⟨ρ, η1, G1, _, Ed, he.step s1, w1, q1, fun ns G2 b η2 H2 s2 w2 eb q2 => ?_, hE.step s1⟩
  obtain ⟨k, kvs, j, rfl, ek, eg, q2⟩ := q2
  obtain ⟨a, rfl, h1, h2⟩ := w2.dicAt (Rp.step s2 _ _ r1) ek
  have eb2 : H2 b = some (.tup ((keyI ns).map kV)) := by rw [keyI_kV]; exact eb
  refine ⟨a, .int j, rfl, ?_, hq (.int j) G2 _ η2 H2 (s1.trans s2) w2 rfl q2⟩
  have := DGet.t h2 eb2
  rw [valV_kv, eg] at this
  exact this
theorem dO_rp {K : PySem.W.Frag} {η : Eta} {H : Hp} {d : D} {v : V} {o : Option Int} (r : Rp K η H d v) (e : dO d = some o) : v = vO o := by
  cases d with
  | bl c =>
    cases c with
    | true => cases e; exact r
    | false => cases e
  | int i => cases e; exact r
  | _ => cases e
theorem psd_putK (hu : X.A.units + 1 < cLine) (ho : PEd X E o td) (hk : PKd X E i tk) (hv : PEd X E value tv) (hs : swapsWith value (some (.Subscript o i pos')) pos.line X.env = pure false := by rfl) : PSd X E (.Assign [.Subscript o i pos'] value pos) (tPutKD td tk tv) := ⟨PS.imp (ps_dput hu ho.run hk.run hv.run hs) fun D σ H h => by
  obtain ⟨ρ, η, G, Dd, he, w, ht, l⟩ := h
  refine ⟨ρ, η, G, _, _, he, w, ht, fun d G1 v η1 H1 s1 w1 r1 q1 => ?_, l.le he⟩
  refine ⟨ρ, η1, G1, _, _, he.step s1, w1, q1, fun y G2 u η2 H2 s2 w2 r2 q2 => ?_, (l.le he).step s1⟩
  refine ⟨ρ, η2, G2, _, _, (he.step s1).step s2, w2, q2, fun ns G3 b η3 H3 s3 w3 eb q3 => ?_, ((l.le he).step s1).step s2⟩
  obtain ⟨k, kvs, oo, rfl, ek, eo, hl, q3⟩ := q3
  obtain ⟨a, rfl, h1, h2⟩ := w3.dicAt (Rp.step s3 _ _ r2) ek
  have hv2 := dO_rp (Rp.step (s2.trans s3) _ _ r1) eo
  subst hv2
  have eb2 : H3 b = some (.tup ((keyI ns).map kV)) := by rw [keyI_kV]; exact eb
  have nf : ¬ Fix (HO.dT (kvV kvs)) := fun z => z
  have st := Stp.wrote (o' := .dT (kvV (dput kvs ns oo))) h1 h2 nf
  have hp := DPut.t (v := vO oo) h2 eb2 (by unfold kvV; rw [List.length_map]; exact line_lt hl)
  rw [putK_kv] at hp
  exact ⟨a, _, rfl, hp, l.nx ρ _ σ η3 _ ((s1.trans (s2.trans s3)).trans st) (w3.wrote (m := .dic (dput kvs ns oo)) h1 h2 nf ⟨a, h1, upd_same⟩) ((((he.step s1).step s2).step s3).step st) q3⟩⟩
end
end Y
namespace Y
open PySem PySem.Spec L2
open PySem.W (keyToksAll keyToks dataLt alike alikeAll minD AlikeAll toks_all_cons dataLt_tuple alike_unique min_list_data)
open PyProof.Rows hiding St
def pyP (p : Int × List Int) : PyData := .tuple [.int p.1, pyT p.2]
def pairI (p : Int × List Int) : D := .tup [.int p.1, tupI p.2]
def ltP (a b : Int × List Int) : Bool := decide (a.1 < b.1) || (decide (a.1 = b.1) && ltT a.2 b.2)
def minP (p : Int × List Int) (ps : List (Int × List Int)) : Int × List Int := ps.foldl (fun a y => if ltP y a = true then y else a) p
def pairsD : List D → Option (List (Int × List Int))
  | [] => some []
  | .tup [.int k, .tup ds] :: r => match intsD ds, pairsD r with | some t, some ts => some ((k, t) :: ts) | _, _ => none
  | _ :: _ => none
theorem pairsD_map (ps : List (Int × List Int)) : pairsD (ps.map pairI) = some ps := by
  induction ps with
  | nil => rfl
  | cons t ts ih =>
    show (match intsD (t.2.map .int), pairsD (ts.map pairI) with | some u, some us => some ((t.1, u) :: us) | _, _ => none) = _
    rw [intsD_map, ih]
theorem toPy_pairI (p : Int × List Int) : toPy (pairI p) = pyP p := by
  show PyData.tuple [.int p.1, toPy (tupI p.2)] = _
  rw [toPy_tupI]; rfl
theorem toks_end : ∀ (a b : List Int), PyProof.Rows.lexLt PyProof.Rows.itemOrd (keyToksAll (a.map .int) ++ [.inl 0]) (keyToksAll (b.map .int) ++ [.inl 0]) = ltT a b
  | [], [] => by
    show PyProof.Rows.lexLt PyProof.Rows.itemOrd [.inl 0, .inl 0] [.inl 0, .inl 0] = false
    simp [PyProof.Rows.lexLt, PyProof.Rows.itemLt]
  | [], y :: t => by
    rw [List.map_cons, toks_all_cons]
    show PyProof.Rows.lexLt PyProof.Rows.itemOrd [.inl 0, .inl 0] (_ :: _) = true
    simp [PyProof.Rows.lexLt, PyProof.Rows.itemLt]
  | x :: r, [] => by
    rw [List.map_cons, toks_all_cons]
    show PyProof.Rows.lexLt PyProof.Rows.itemOrd (_ :: _) [.inl 0, .inl 0] = false
    simp [PyProof.Rows.lexLt, PyProof.Rows.itemLt]
  | x :: r, y :: t => by
    rw [List.map_cons, List.map_cons, toks_all_cons, toks_all_cons]
    show PyProof.Rows.lexLt PyProof.Rows.itemOrd (.inl 1 :: .inl x :: (keyToksAll (r.map .int) ++ [.inl 0])) (.inl 1 :: .inl y :: (keyToksAll (t.map .int) ++ [.inl 0])) = (decide (x < y) || (decide (x = y) && ltT r t))
    rw [PyProof.Rows.lex_cons, PyProof.Rows.lex_cons, toks_end r t]
    show (decide ((1 : Int) < 1) || (!decide ((1 : Int) < 1) && (decide (x < y) || (!decide (y < x) && ltT r t)))) = _
    rcases Int.lt_trichotomy x y with h | h | h
    · simp [h]
    · simp [h]
    · have h1 : ¬ x < y := by omega
      have h2 : ¬ x = y := by omega
      simp [h, h1, h2]
theorem dataLt_pyP (a b : Int × List Int) : dataLt (pyP a) (pyP b) = ltP a b := by
  unfold pyP pyT
  rw [dataLt_tuple, toks_all_cons, toks_all_cons, toks_all_cons, toks_all_cons]
  show PyProof.Rows.lexLt PyProof.Rows.itemOrd (.inl 1 :: .inl a.1 :: .inl 1 :: (keyToksAll (a.2.map .int) ++ [.inl 0])) (.inl 1 :: .inl b.1 :: .inl 1 :: (keyToksAll (b.2.map .int) ++ [.inl 0])) = _
  rw [PyProof.Rows.lex_cons, PyProof.Rows.lex_cons, PyProof.Rows.lex_cons, toks_end]
  show (decide ((1 : Int) < 1) || (!decide ((1 : Int) < 1) && (decide (a.1 < b.1) || (!decide (b.1 < a.1) && (decide ((1 : Int) < 1) || (!decide ((1 : Int) < 1) && ltT a.2 b.2)))))) = _
  unfold ltP
  rcases Int.lt_trichotomy a.1 b.1 with h | h | h
  · simp [h]
  · simp [h]
  · have h1 : ¬ a.1 < b.1 := by omega
    have h2 : ¬ a.1 = b.1 := by omega
    simp [h, h1, h2]
theorem alike_pyP (a b : Int × List Int) : alike (pyP a) (pyP b) = true := by
  unfold pyP
  simp [alike, alikeAll, alike_pyT]
theorem pyP_inj {a b : Int × List Int} (h : pyP a = pyP b) : a = b := by
  unfold pyP at h
  have h1 := PyData.tuple.inj h
  injection h1 with e1 h2
  injection h2 with e2 _
  exact Prod.ext (PyData.int.inj e1) (pyT_inj e2)
theorem minD_pyP : ∀ (ts : List (Int × List Int)) (t : Int × List Int), minD (pyP t) (ts.map pyP) = pyP (minP t ts)
  | [], _ => rfl
  | u :: ts, t => by
    unfold minD minP
    rw [List.map_cons, List.foldl_cons, List.foldl_cons, dataLt_pyP]
    have e : (if ltP u t = true then pyP u else pyP t) = pyP (if ltP u t = true then u else t) := by split <;> rfl
    rw [e]
    exact minD_pyP ts _
theorem depth_pyPs : ∀ ts : List (Int × List Int), PyData.depthAll (ts.map pyP) ≤ 4
  | [] => by simp [PyData.depthAll]
  | t :: ts => by
    have h1 := depth_pyPs ts
    have h2 := depth_ints t.2
    show max (pyP t).depth (PyData.depthAll (ts.map pyP)) ≤ 4
    have h3 : (pyP t).depth ≤ 4 := by
      unfold pyP pyT
      simp only [PyData.depth, PyData.depthAll]
      omega
    omega
def rMinPD : List D → GS → QD → Prop := fun ds G Q => match ds with
  | [d] => match vw G d with
    | .lst xs => ∃ (p : Int × List Int) (ps : List (Int × List Int)), xs = (p :: ps).map pairI ∧ Q (pairI (minP p ps)) G
    | _ => False
  | _ => False
abbrev hMinP (X : Cx) : List V → Hp → VK → Prop := fun vs H Q => ∃ (a : Addr) (xs : List V) (t : Int × List Int) (ts : List (Int × List Int)), vs = [.ref a] ∧ SqL X.K H a xs ∧ DpAll X.K H xs ((t :: ts).map pyP) ∧
  ∀ (i : Nat) (v : V), xs[i]? = some v → (t :: ts)[i]? = some (minP t ts) → Q v H
theorem cr_minP {X : Cx} (hc : X.calm = true) (hu : X.A.units + 64 < cLine) : CallR X (.builtin "min") (hMinP X) := by
  intro pins s σ H vs us Q I r h
  obtain ⟨a, xs, t, ts, rfl, hs, hd, q⟩ := h
  obtain ⟨its, rv, pl, hz⟩ := I.list hs
  rw [Vals.ref1 r]
  obtain ⟨as, hr⟩ := Dp.readsAll I _ _ _ hd rv
  have hal : AlikeAll (pyP t :: ts.map pyP) := by
    refine ⟨fun x hx y hy => ?_, fun x hx => ?_⟩
    · obtain ⟨p, _, rfl⟩ := List.mem_map.mp (show x ∈ (t :: ts).map pyP from hx)
      obtain ⟨p', _, rfl⟩ := List.mem_map.mp (show y ∈ (t :: ts).map pyP from hy)
      exact alike_pyP _ _
    · obtain ⟨p, _, rfl⟩ := List.mem_map.mp (show x ∈ (t :: ts).map pyP from hx)
      unfold pyP; intro z; cases z
  have hdp := depth_pyPs (t :: ts)
  refine min_list_data (I.ok.hd hc) pl.isList (x := pyP t) (xs := ts.map pyP) (by simpa using hr) hal (by
    show X.A.units + 1 + PyData.depthAll ((t :: ts).map pyP) < cLine
    omega) fun i v h' tk bs hv rd k => ?_
  have hv' : its[i]? = some v := by simpa using hv
  obtain ⟨x, hx, rx⟩ := vals_getV rv hv'
  obtain ⟨d, cs, hd', rd'⟩ := Reads_get hr i v hv'
  obtain ⟨u, hu', rfl⟩ := List.mem_map.mp (show d ∈ (t :: ts).map pyP from List.mem_of_getElem? hd')
  rw [minD_pyP] at rd
  have e2 := pyP_inj (show pyP u = pyP (minP t ts) from alike_unique _ _ _ _ _ (alike_pyP _ _) (PyProof.Rows.Reads.keeps k rd') rd)
  subst e2
  have hi : (t :: ts)[i]? = some (minP t ts) := by
    rw [List.getElem?_map] at hd'
    obtain ⟨z, hz1, hz2⟩ := Option.map_eq_some_iff.mp hd'
    rw [hz1, pyP_inj hz2]
  exact ⟨x, H, I.kept k, rx, q i x hx hi⟩
theorem noObj_pairs : ∀ ps : List (Int × List Int), noObjL (ps.map pairI) = true
  | [] => rfl
  | p :: ps => by
    show (noObj (pairI p) && noObjL (ps.map pairI)) = true
    rw [noObj_pairs ps, Bool.and_true]
    show (true && (noObj (tupI p.2) && true)) = true
    rw [noObj_tupI]; rfl
theorem lift_minP {X : Cx} : LiftC X (hMinP X) rMinPD := by
  intro η G H vs ds Q Qd w r h q
  match ds, h with
  | [d], h =>
    obtain ⟨v, rfl, rd⟩ := rpl1 r
    unfold rMinPD at h
    simp only at h
    split at h
    · rename_i xs e
      obtain ⟨t, ts, ex, h⟩ := h
      obtain ⟨a, us, rfl, ha, ru⟩ := vw_lst w rd e
      have hdp : DpAll X.K H us ((t :: ts).map pyP) := by
        have := RpL.dp xs us (by rw [ex]; exact noObj_pairs _) ru
        rw [ex, toPyL_map, List.map_map] at this
        rwa [show toPy ∘ pairI = pyP from funext toPy_pairI] at this
      refine ⟨a, us, t, ts, rfl, SqL.of ha, hdp, fun i v hv hm => ?_⟩
      obtain ⟨d', hd', rd'⟩ := ru.getV hv
      rw [ex, List.getElem?_map, hm] at hd'
      cases hd'
      exact q.now w rd' h
    · exact h.elim
end Y

namespace Y
open PySem PySem.Spec L2
open PyProof.Rows hiding St
def tRevLD (te : TEd) : TEd := fun ρ G Q Ed => te ρ G (fun x G1 => match vw G1 x with | .lst ds => Q (.lst ds.reverse) G1 | _ => False) Ed
section
variable {X : Cx} {E : St → XK} {e : Expr} {te : TEd}
theorem ped_revL {k : Nat} {p1 p2 p3 pos : Pos} (he : PEd X E e te) : PEd X E (.Subscript e (.Slice none none (some (.UnaryOp .USub (.Constant (.int 1) k p1) p2)) p3) pos) (tRevLD te) := by
  refine ⟨PE.imp (pe_revL he.run) fun σ H Q h => ?_⟩
  obtain ⟨ρ, η, G, Qd, Ed, he, w, ht, hq, hE⟩ := h
  refine ⟨ρ, η, G, _, Ed, he, w, ht, fun x G1 v η1 H1 s1 w1 r1 q1 => ?_, hE⟩
  simp only at q1
  split at q1
  · rename_i ds ev
    obtain ⟨a, vs, rfl, ha, hr⟩ := vw_lst w1 r1 ev
    exact ⟨a, vs, rfl, SqL.of ha, fun p hp => (hq.step s1).newL w1 hp hr.reverse q1⟩
  · exact q1.elim
def rExtendD : RMd := fun x xs G Q => match x, xs with
  | .obj k, [.lst ys] => match G[k]? with | some (.lst ds) => ds.length + ys.length ≤ 16777216 ∧ Q .non (G.set k (.lst (ds ++ ys))) | _ => False
  | _, _ => False
theorem lift_extend : LiftM X rExtend rExtendD := by
  intro η G H x vs dx ds Q Qd w rx r h q
  unfold rExtendD at h
  split at h
  · rename_i k ys
    split at h
    · rename_i es ek
      obtain ⟨hz, h⟩ := h
      obtain ⟨v, rfl, rd⟩ := rpl1 r
      obtain ⟨b, us, rfl, hb, h4, h5⟩ := rd
      obtain ⟨a, ws, rfl, h1, h2, h3⟩ := w.lstAt rx ek
      exact ⟨a, b, ws, us, rfl, rfl, h2, h4, by rw [← h3.length, ← h5.length]; exact line_eq hz, q.set w h1 h2 (h3.append h5) (show Rp X.K η H .non .non from rfl) h⟩
    · exact h.elim
  · exact h.elim
end
end Y

namespace L2
open PySem PySem.Spec PyProof.Rows
/-- {(..): v}: one pair, the key a tuple -/
def tDisp1 (tk tv : TE) : TE := fun σ H Q => ∀ p, H p = none → tk σ (upd H p (.dT [])) fun x H1 => tv σ H1 fun y H2 => H2 p = some (.dT []) ∧ ∃ (b : Addr) (ks : List Key), x = .ref b ∧ H2 b = some (.tup (ks.map kV)) ∧ Q (.ref p) (upd H2 p (.dT [(ks, y)]))
theorem pe_disp1 {X : Cx} {pos : Pos} {k v : Expr} {tk tv : TE} (hu : X.A.units < cLine) (hk : PE X k tk) (hv : PE X v tv) : PE X (.Dict [some k] [v] pos) (tDisp1 tk tv) := by
  refine ⟨fun pins s σ H Q I q => ?_⟩
  have hn := I.hok.fresh (Nat.le_refl s.heap.objs.size)
  have I1 := I.laid (a := s.heap.objs.size) (o := .dT []) (h' := s.heap.push { cls := .type "dict", data := .dict #[] }) (t' := s.toks) (fun _ _ q => Heap.get?_push_of_some _ q) (Nat.le_refl _) (dt_empty s.heap I.big)
  rw [arm_eval_Dict, zip_pairTrees [some k] [v] X.env pos rfl rfl, dictDisplay_pairs (pairTrees [some k] [v] X.env pos) (by simp [pairTrees]) (by simp [pairTrees])]
  refine wpAny_bind (wpAny_standAt (wpAny_bind (wpAny_subDictH (knd := tupleKind (mixKind X.prog X.w)) hu (by simp [pairTrees]) ?_)))
  refine pairTrees_cons_walk (thn (hk.run pins _ σ _ _ I1 (q _ hn)) fun u s1 ⟨x, H1, I2, rx, q1⟩ => thn (hv.run pins s1 σ H1 _ I2 q1) fun u2 s2 ⟨y, H2, I3, ry, e, b, ks, ex, eb, q2⟩ => pairTrees_nil_walk ?_)
  subst ex
  obtain rfl : u = Value.ref b := rx
  obtain ⟨z, hd, xs, rel, dd⟩ := dt_of I3.hok e
  cases rel
  refine ⟨[(ks, b, u2)], ⟨rfl, rfl, key_of I3.hok eb, trivial⟩, dd, fun h' tk' dd' hs' => wpAny_pure ⟨.ref s.heap.objs.size, _, ?_, rfl, q2⟩⟩
  obtain ⟨o, es, ep, hq, h2, h3, h4, _, h5⟩ := dd'
  refine d_write I3 (by rw [e]; exact True.intro) hs' ⟨o, hq⟩ ⟨by rw [sizeLine_eq]; show 1 ≤ 16777216; decide, hd, _, (.cons ⟨rfl, ?_, ry⟩ .nil), o, es, ep, hq, h2, h3, h4, h5⟩
  rw [upd_ne (ne_of eb e (fun z => nomatch z))]
  exact eb
end L2
namespace HT
open PySem PySem.Spec PyProof.Rows L2
section
variable {prog : Program} {w : World} {A : Around} {E : Value → Shared → Prop} {s : Shared}
theorem places_rev (n : Nat) : Builtin.Slice.slicePlaces ((n : Int) - 1) (-1) (-1) = n := by
  unfold Builtin.Slice.slicePlaces
  rw [if_neg (by decide)]
  by_cases h : (n : Int) - 1 > -1
  · rw [if_pos h]
    have e : ((n : Int) - 1 - -1 - 1) / (- -1) + 1 = (n : Int) := by
      rw [show (- -1 : Int) = 1 by decide, Int.ediv_one]; omega
    omega
  · rw [if_neg h]; omega
theorem sliceApplied_rev {sl : Addr} {vl vu vs : Value} {n : Nat} {Q : Int × Int × Nat → Shared → Prop} (hs : s.heap.IsSliceOf sl vl vu vs) (pl : IsPart vl none) (pu : IsPart vu none) (ps : IsPart vs (some (-1)))
    (h : Q ((n : Int) - 1, -1, n) s) : wpAny (model prog w) A (Builtin.Slice.sliceApplied (.ref sl) (pure (n : Int))) Q E s := by
  obtain ⟨os, hos, hcs, hds⟩ := id hs
  unfold Builtin.Slice.sliceApplied Builtin.Slice.sliceFields
  refine wpAny_bind (wpAny_bind (wpAny_field hos hds (x := vl) rfl (wpAny_bind (wpAny_field hos hds (x := vu) rfl (wpAny_bind (wpAny_field hos hds (x := vs) rfl (wpAny_pure ?_)))))))
  refine wpAny_bind (slicePart_ ps ?_)
  show wpAny _ _ (if ((-1 : Int) == 0) = true then _ else _) _ _ s
  rw [if_neg (by decide)]
  refine wpAny_bind (slicePart_ pl (wpAny_bind (slicePart_ pu (wpAny_bind (wpAny_pure ?_)))))
  show wpAny _ _ (pure ((n : Int) - 1, (-1 : Int), Builtin.Slice.slicePlaces ((n : Int) - 1) (-1) (-1))) _ _ s
  rw [places_rev]
  exact wpAny_pure h
theorem fm_congr {α β : Type} {f g : α → Option β} : ∀ {l : List α}, (∀ x ∈ l, f x = g x) → l.filterMap f = l.filterMap g
  | [], _ => rfl
  | x :: l, h => by
    rw [List.filterMap_cons, List.filterMap_cons, h x (.head _), fm_congr fun y hy => h y (.tail _ hy)]
theorem pick_rev (xs : Array Value) : ((List.range xs.size).filterMap fun (k : Nat) => xs[(((xs.size : Nat) : Int) - 1 + (k : Int) * (-1)).toNat]?).toArray = xs.toList.reverse.toArray := by
  have e1 : ((List.range xs.size).filterMap fun (k : Nat) => xs[(((xs.size : Nat) : Int) - 1 + (k : Int) * (-1)).toNat]?) = ((List.range xs.size).map fun k => xs.size - 1 - k).filterMap (xs[·]?) := by
    rw [List.filterMap_map]
    apply fm_congr
    intro k hk
    have hk' := List.mem_range.mp hk
    show xs[(((xs.size : Nat) : Int) - 1 + (k : Int) * (-1)).toNat]? = xs[xs.size - 1 - k]?
    congr 1; omega
  rw [e1, PySem.W.krv_range, List.filterMap_reverse, PySem.W.krv_all]
theorem getItem_tuple_rev {t sl : Addr} {items : Array Value} {vl vu vs : Value} {Q : Value → Shared → Prop} (ht : IsTup s.heap t items) (hs : s.heap.IsSliceOf sl vl vu vs) (pl : IsPart vl none) (pu : IsPart vu none) (ps : IsPart vs (some (-1)))
    (h : Q (.ref s.heap.objs.size) { s with heap := s.heap.push { cls := .type "tuple", data := .seq items.toList.reverse.toArray } })
    (hsz : items.size ≤ sizeLine) : wpAny (model prog w) A (getItem (.ref t) (.ref sl)) Q E s := by
  have htake : sizeOk (.seq items.toList.reverse.toArray) := by
    show items.toList.reverse.toArray.size ≤ sizeLine
    rw [List.size_toArray, List.length_reverse, Array.length_toList]
    exact hsz
  obtain ⟨os, hos, hcs, hds⟩ := id hs
  have hTs : s.TypeIs (.ref sl) "slice" := ⟨os, hos, hcs⟩
  unfold getItem
  try with_reducible refine wpAny_holding ?_
  first | refine wpAny_bind (wpAny_pure ?_) | skip
  refine wpAny_bind (wpAny_sequenceKey ht.typeIs (by decide) ?_)
  refine wpAny_bind (wpAny_callSpecial?_slot (name := Str.ofString "__getitem__") ht.typeIs PyProof.Rows.slot_tuple_getitem
    (wpAny_call_entry PyProof.Rows.slot_tuple_getitem ht.typeIs entry_tuple_getitem ?_ (args_tuple_getitem _ _)))
  show wpAny _ _ (Builtin.Tuple.tupleItemsOf (.ref t) >>= _) _ _ s
  refine wpAny_bind (tupleItemsOf_ ht ?_)
  refine wpAny_bind (wpAny_typeOf hTs ?_)
  rw [if_pos (by decide)]
  refine wpAny_bind (sliceApplied_rev hs pl pu ps ?_)
  have hno : ¬ ((((items.size : Nat) : Int) - 1 == 0 && (-1 : Int) == 1 && items.size == items.size) = true) := by
    intro q
    rw [Bool.and_eq_true, Bool.and_eq_true] at q
    exact absurd q.1.2 (by decide)
  show wpAny _ _ (if (((items.size : Nat) : Int) - 1 == 0 && (-1 : Int) == 1 && items.size == items.size) = true then _ else _) _ _ s
  rw [if_neg hno, pick_rev]
  first
    | exact wpAny_bind (m := Builtin.Tuple.tupleExact _) (wpAny_newObj_type (wpAny_pure ⟨_, rfl, wpAny_pure h⟩) htake)
    | exact wpAny_bind (m := Builtin.Tuple.tupleExact _) (wpAny_newObj_type (wpAny_bind (wpAny_pure (wpAny_pure ⟨_, rfl, wpAny_pure h⟩))) htake)
    | exact wpAny_bind (wpAny_bind (m := Builtin.Tuple.tupleExact _) (wpAny_newObj_type (wpAny_pure (wpAny_pure ⟨_, rfl, wpAny_pure h⟩)) htake))
    | exact wpAny_bind (wpAny_bind (m := Builtin.Tuple.tupleExact _) (wpAny_newObj_type (wpAny_pure ⟨_, rfl, wpAny_pure h⟩) htake))
end
end HT
namespace L2
open PySem PySem.Spec PyProof.Rows
def tRevT (K : PySem.W.Frag) (te : TE) : TE := fun σ H Q => te σ H fun x H1 => ∃ a xs, x = .ref a ∧ SqT K H1 a xs ∧ ∀ p, H1 p = none → Q (.ref p) (upd H1 p (.tup xs.reverse))
theorem pe_revT {X : Cx} {e : Expr} {te : TE} {k : Nat} {p1 p2 p3 pos : Pos} (he : PE X e te) : PE X (.Subscript e (.Slice none none (some (.UnaryOp .USub (.Constant (.int 1) k p1) p2)) p3) pos) (tRevT X.K te) := by
  refine ⟨fun pins s σ H Q I h => ?_⟩
  refine Subscript_ (thn (he.run pins s σ H _ I h) fun v s1 ⟨x, H1, I1, r1, q1⟩ => ?_)
  obtain ⟨a, xs, ex, hx, q⟩ := q1
  subst ex
  cases r1
  have hst : PO X (some (.UnaryOp .USub (.Constant (.int 1) k p1) p2)) (tPart (tUn (rU fun i => .int (-i)) (tC (.int 1)))) := po_some (pe_un un_neg pe_int)
  refine wpAny_Slice (thn (po_none.run pins s1 σ H1 (fun o H2 => o = none ∧ H2 = H1) I1 ⟨rfl, rfl⟩) fun vl s2 ⟨l, H2, I2, pl, el, e2⟩ => ?_)
  subst el e2
  refine thn (po_none.run pins s2 σ H2 (fun o H3 => o = none ∧ H3 = H2) I2 ⟨rfl, rfl⟩) fun vu s3 ⟨u, H3, I3, pu, eu, e3⟩ => ?_
  subst eu e3
  refine thn (hst.run pins s3 σ H3 (fun o H4 => o = some (-1) ∧ H4 = H3) I3 ⟨1, rfl, -1, rfl, rfl, rfl⟩) fun vs s4 ⟨o, H4, I4, ps, eo, e4⟩ => ?_
  subst eo e4
  have I5 : Inv X pins σ H4 { s4 with heap := s4.heap.push { cls := .type "slice", data := .fields #[vl, vu, vs] } } := I4.kept (t' := s4.toks) fun b ob q => Heap.get?_push_of_some _ q
  obtain ⟨its, r, ht, hz⟩ := I5.tuple hx
  have hlen := r.length
  show wpAny (model X.prog X.w) X.A (subscriptTail e (.Slice none none (some (.UnaryOp .USub (.Constant (.int 1) k p1) p2)) p3) (.ref a) (.ref s4.heap.objs.size)) (EP X pins σ Q) X.xe { s4 with heap := s4.heap.push { cls := .type "slice", data := .fields #[vl, vu, vs] } }
  refine tail_any (ops := [.ref a, .ref s4.heap.objs.size]) ht.typeIs (PyProof.Rows.slot_tuple_getitem.lookup) ?_ (by with_unfolding_all rfl)
  refine HT.getItem_tuple_rev ht (Heap.IsSliceOf.new _ vl vu vs) pl pu ps ?_ (by rw [List.size_toArray, ← hlen]; exact hz)
  refine ⟨.ref _, _, I5.laid (t' := s4.toks) (o := .tup xs.reverse) (fun b ob q => Heap.get?_push_of_some _ q) (Nat.le_refl _) ?_, rfl, q _ (I5.hok.fresh (Nat.le_refl _))⟩
  exact ⟨by rw [List.length_reverse]; exact hz, _, r.reverse, IsTup.new _ _⟩
end L2
namespace Y
open PySem PySem.Spec L2
open PyProof.Rows hiding St
def tRevTD (te : TEd) : TEd := fun ρ G Q Ed => te ρ G (fun x G1 => match x with | .tup ds => Q (.tup ds.reverse) G1 | _ => False) Ed
def tVarTD (i : Nat) : TEd := fun ρ G Q _ => match ρ[i]? with | some (some (.key ns)) => Q (.tup (ns.map .int)) G | _ => False
def kVarD (i : Nat) : TKd := fun ρ G Q _ => match ρ[i]? with | some (some (.key ns)) => Q ns G | _ => False
/-- a tuple display of ints as a key -/
def tDspKD (ta : TAd) : TEd := fun ρ G Q Ed => ta ρ G (fun ds G1 => ∃ ns, ds = ns.map .int ∧ ns.length ≤ 16777216 ∧ Q (.key ns) G1) Ed
def gKeyD (g : TGd) : TGd := fun d ρ G Q => match d with | .key ns => g (.tup (ns.map .int)) ρ G Q | _ => False
def tDic1D (i j v : Int) : TEd := fun _ G Q _ => Q (.obj G.length) (G ++ [.dic [([i, j], some v)]])
/-- a dict that stands, locked or not -/
def IsDic (G : GS) (k : Nat) (kvs : List (List Int × Option Int)) : Prop := G[k]? = some (.dic kvs) ∨ ∃ u, G[k]? = some (.dil u kvs)
def tGetLD (td : TEd) (tk : TKd) : TEd := fun ρ G Q Ed => td ρ G (fun y G1 => tk ρ G1 (fun ns G2 => ∃ k kvs i, y = .obj k ∧ IsDic G2 k kvs ∧ dget kvs ns = some (some i) ∧ Q (.int i) G2) Ed) Ed
def tInLD (tk : TKd) (td : TEd) : TEd := fun ρ G Q Ed => tk ρ G (fun ns G1 => td ρ G1 (fun y G2 => ∃ k kvs, y = .obj k ∧ IsDic G2 k kvs ∧ Q (.bl (dget kvs ns).isSome) G2) Ed) Ed
def dV : Option Int → D
  | none => .bl true
  | some i => .int i
def tGet2D (td : TEd) (tk : TKd) (tx : TEd) : TEd := fun ρ G Q Ed => td ρ G (fun y G1 => (∃ k kvs, y = .obj k ∧ IsDic G1 k kvs) ∧ tk ρ G1 (fun ns G2 => tx ρ G2 (fun z G3 => ∃ k kvs, y = .obj k ∧ IsDic G3 k kvs ∧ Q (match dget kvs ns with | some o => dV o | none => z) G3) Ed) Ed) Ed
/-- the keys of a locked dict -/
def iKeysD (td : TEd) : TId := fun ρ G Q Ed => td ρ G (fun y G1 => ∃ k u kvs, y = .obj k ∧ G1[k]? = some (.dil u kvs) ∧ Q (kvs.map fun e => D.key e.1) G1) Ed
def tLockD (i : Nat) (t : TSd) : TSd := fun D ρ G => ∃ k kvs, ρ[i]? = some (some (.obj k)) ∧ G[k]? = some (.dic kvs) ∧ ∀ u, t
  { nx := fun ρ' G' => G'[k]? = some (.dil u kvs) ∧ D.nx ρ' (G'.set k (.dic kvs)), rt := fun d G' => G'[k]? = some (.dil u kvs) ∧ D.rt d (G'.set k (.dic kvs)),
    bk := fun ρ' G' => G'[k]? = some (.dil u kvs) ∧ D.bk ρ' (G'.set k (.dic kvs)), ct := fun ρ' G' => G'[k]? = some (.dil u kvs) ∧ D.ct ρ' (G'.set k (.dic kvs)), er := fun _ _ _ => False } ρ (G.set k (.dil u kvs))
def tLockED (i : Nat) (te : TEd) : TEd := fun ρ G Q _ => ∃ k kvs, ρ[i]? = some (some (.obj k)) ∧ G[k]? = some (.dic kvs) ∧ ∀ u, te ρ (G.set k (.dil u kvs)) (fun d G' => G'[k]? = some (.dil u kvs) ∧ Q d (G'.set k (.dic kvs))) (fun _ _ => False)
section
variable {K : PySem.W.Frag} {mg : Str → Option Value} {η η' : Eta} {H H' : Hp} {G G' : GS} {σ : St} {ρ : Rho} {a : Addr} {k : Nat} {u : Obj} {kvs : List (List Int × Option Int)} {o' : HO}
/-- a numbered dict that was locked is written: what else stands stays -/
theorem Rp.unlock (e : η.o[k]? = some (some a)) (h : H a = some (.frz u (.dT (kvV kvs)))) : ∀ (d : D) (v : V), Rp K η H d v → Rp K η (upd H a o') d v := by
  have nn : ∀ {b : Addr}, Out η b → b ≠ a := fun {b} ho z => ho.1 (mem_eta.mpr ⟨k, z ▸ e⟩)
  have sq : ∀ {b : Addr} {vs : List V}, SqT K H b vs → SqT K (upd H a o') b vs := fun {b vs} hb => by
    rcases hb with (hb | ⟨f, hb⟩) | hb
    · exact .inl (.inl (by rw [upd_ne (fun z => by rw [z, h] at hb; cases hb)]; exact hb))
    · exact .inl (.inr ⟨f, by rw [upd_ne (fun z => by rw [z, h] at hb; cases hb)]; exact hb⟩)
    · exact .inr hb
  intro d
  induction d using D.rec (motive_2 := fun ds => ∀ vs, RpL K η H ds vs → RpL K η (upd H a o') ds vs) with
  | non => intro v r; exact r
  | bl b => intro v r; exact r
  | int i => intro v r; exact r
  | str s => intro v r; exact r
  | tup ds ih => intro v r; obtain ⟨b, vs, e1, ht, r⟩ := r; exact ⟨b, vs, e1, sq ht, ih vs r⟩
  | lst ds ih => intro v r; obtain ⟨b, vs, e1, ho, hl, r⟩ := r; exact ⟨b, vs, e1, ho, by rw [upd_ne (nn ho)]; exact hl, ih vs r⟩
  | obj k => intro v r; exact r
  | dct => intro v r; obtain ⟨b, e1, ho, hl⟩ := r; exact ⟨b, e1, ho, by rw [upd_ne (nn ho)]; exact hl⟩
  | scr ns =>
    intro v r
    obtain ⟨b, e1, r⟩ := r
    refine ⟨b, e1, ?_⟩
    rcases r with ⟨o, r⟩ | r
    · exact .inl ⟨o, by rw [upd_ne (fun z => by rw [z, h] at r; cases r)]; exact r⟩
    · exact .inr r
  | key ns => intro v r; obtain ⟨b, e1, r⟩ := r; exact ⟨b, e1, by rw [upd_ne (fun z => by rw [z, h] at r; cases r)]; exact r⟩
  | exn c dd f d ih => intro v r; obtain ⟨e1, x, hd, r⟩ := r; exact ⟨e1, x, by rw [upd_ne (fun z => by rw [z, h] at hd; cases hd)]; exact hd, ih x r⟩
  | nil => intros; assumption
  | cons d ds i1 i2 =>
    rename_i vs r
    obtain ⟨v, r, e1, h1, h2⟩ := r
    exact ⟨v, r, e1, i1 v h1, i2 r h2⟩
theorem RpL.unlock (e : η.o[k]? = some (some a)) (h : H a = some (.frz u (.dT (kvV kvs)))) : ∀ (ds : List D) (vs : List V), RpL K η H ds vs → RpL K η (upd H a o') ds vs
  | [], _, r => r
  | d :: ds, vs, r => by
    obtain ⟨v, r, ev, h1, h2⟩ := r
    exact ⟨v, r, ev, Rp.unlock e h d v h1, RpL.unlock e h ds r h2⟩
theorem FsR.unlock (e : η.o[k]? = some (some a)) (h : H a = some (.frz u (.dT (kvV kvs)))) : ∀ (ds : List (Str × D)) (vs : List (Str × V)), FsR K η H ds vs → FsR K η (upd H a o') ds vs
  | [], _, r => r
  | (f, d) :: ds, vs, r => by
    obtain ⟨v, r, ev, h1, h2⟩ := r
    exact ⟨v, r, ev, Rp.unlock e h d v h1, FsR.unlock e h ds r h2⟩
theorem W.unlock (w : W K mg η G H) (e : η.o[k]? = some (some a)) (h : H a = some (.frz u (.dT (kvV kvs)))) : W K mg η (G.set k (.dic kvs)) (upd H a (.dT (kvV kvs))) := by
  refine ⟨by simp [w.len], fun i x hx => ?_, w.inj, fun b hb => ⟨(w.hd b hb).1, ?_⟩⟩
  · by_cases hi : i = k
    · subst hi
      have hlt : i < G.length := by rw [← w.len]; exact (List.getElem?_eq_some_iff.mp e).1
      rw [List.getElem?_set_self hlt] at hx
      cases hx
      exact ⟨a, e, upd_same⟩
    · rw [List.getElem?_set_ne (Ne.symm hi)] at hx
      have hm := w.at_ i x hx
      have ne : ∀ {b : Addr}, η.o[i]? = some (some b) → b ≠ a := fun {b} eb z => hi (w.inj i k a (z ▸ eb) e)
      have nn : ∀ {b : Addr}, Out η b → b ≠ a := fun {b} ho z => ho.1 (mem_eta.mpr ⟨k, z ▸ e⟩)
      cases x with
      | dead => exact hm
      | lst ds => obtain ⟨b, vs, e1, e2, r⟩ := hm; exact ⟨b, vs, e1, by rw [upd_ne (ne e1)]; exact e2, RpL.unlock e h ds vs r⟩
      | rnd => obtain ⟨b, ns, e1, e2, r⟩ := hm; exact ⟨b, ns, e1, by rw [upd_ne (ne e1)]; exact e2, r⟩
      | dic kvs => obtain ⟨b, e1, e2⟩ := hm; exact ⟨b, e1, by rw [upd_ne (ne e1)]; exact e2⟩
      | dik kvs => obtain ⟨b, e1, e2⟩ := hm; exact ⟨b, e1, by rw [upd_ne (ne e1)]; exact e2⟩
      | dil u kvs => obtain ⟨b, e1, e2⟩ := hm; exact ⟨b, e1, by rw [upd_ne (ne e1)]; exact e2⟩
      | exc c => obtain ⟨b, C, e1, e3, e2⟩ := hm; exact ⟨b, C, e1, e3, by rw [upd_ne (ne e1)]; exact e2⟩
      | exi c f d => obtain ⟨b, C, dx, v, e1, e3, e2, ho, hx, r⟩ := hm; exact ⟨b, C, dx, v, e1, e3, by rw [upd_ne (ne e1)]; exact e2, ho, by rw [upd_ne (nn ho)]; exact hx, Rp.unlock e h d v r⟩
      | ins c fs => obtain ⟨b, C, dx, vs, e1, e3, e2, r⟩ := hm; exact ⟨b, C, dx, vs, e1, e3, by rw [upd_ne (ne e1)]; exact e2, FsR.unlock e h fs vs r⟩
  · by_cases z : b = a
    · exact ⟨_, by rw [z]; exact upd_same⟩
    · obtain ⟨x, hx⟩ := (w.hd b hb).2
      exact ⟨x, by rw [upd_ne z]; exact hx⟩
theorem EnvR.unlock (e : η.o[k]? = some (some a)) (h : H a = some (.frz u (.dT (kvV kvs)))) (he : EnvR K η H σ ρ) : EnvR K η (upd H a o') σ ρ :=
  ⟨he.1, fun i d ed => let ⟨v, e1, r⟩ := he.2 i d ed; ⟨v, e1, Rp.unlock e h d v r⟩⟩
/-- from ahead of the lock to behind it -/
theorem Stp.lock (e : η.o[k]? = some (some a)) (h : H a = some (.dT (kvV kvs))) (s : Stp η (upd H a (.frz u (.dT (kvV kvs)))) η' H') : Stp η H η' (upd H' a (.dT (kvV kvs))) := by
  refine ⟨s.le, s.old, s.dead, fun j b hj eb => ?_, fun b o hb n => ?_, fun b o hb => ?_, ?_⟩
  · have := s.new j b hj eb
    by_cases z : b = a
    · rw [z, upd_same] at this; cases this
    · rw [upd_ne z] at this; exact this
  · by_cases z : b = a
    · subst z
      rw [h] at hb
      cases hb
      rcases n with n | n
      · exact absurd (mem_eta.mpr ⟨k, e⟩) n
      · exact n.elim
    · rw [upd_ne z]
      exact s.keep b o (by rw [upd_ne z]; exact hb) n
  · by_cases z : b = a
    · exact ⟨_, by rw [z]; exact upd_same⟩
    · rw [upd_ne z]
      exact s.more b o (by rw [upd_ne z]; exact hb)
  · obtain ⟨L, e1, hL⟩ := s.hid
    refine ⟨L, e1, fun b hb => ?_⟩
    have := hL b hb
    by_cases z : b = a
    · rw [z, upd_same] at this; cases this
    · rw [upd_ne z] at this; exact this
theorem lock_at (w : W K mg η' G' H') (e : η.o[k]? = some (some a)) (s : Stp η H η' H') (hk : G'[k]? = some (.dil u kvs)) : η'.o[k]? = some (some a) ∧ H' a = some (.frz u (.dT (kvV kvs))) := by
  obtain ⟨b, e1, e2⟩ := w.at_ k _ hk
  rcases s.old k a e with q | q
  · rw [q] at e1; cases e1; exact ⟨q, e2⟩
  · rw [q] at e1; cases e1
end
section
variable {X : Cx} {E : St → XK}
theorem slot_obj {K : PySem.W.Frag} {mg : Str → Option Value} {η : Eta} {G : GS} {H : Hp} {σ : St} {ρ : Rho} {i k : Nat} {kvs : List (List Int × Option Int)} (w : W K mg η G H) (ek : G[k]? = some (.dic kvs)) : ∃ a, η.o[k]? = some (some a) ∧ H a = some (.dT (kvV kvs)) := w.at_ k _ ek
theorem psd_lock {st : Stmt} {t : TSd} {i : Nat} (h : PSd X E st t) : PSd X E st (tLockD i t) := ⟨PS.imp (ps_lock h.run) fun D σ H hh => by
  obtain ⟨ρ, η, G, Dd, he, w, ⟨k, kvs, _, ek, ht⟩, l⟩ := hh
  obtain ⟨a, e1, e2⟩ := w.at_ k _ ek
  refine ⟨a, _, e2, True.intro, fun od => ?_⟩
  have nf : ¬ Fix (HO.dT (kvV kvs)) := fun z => z
  have sl : Stp η H η (upd H a (.frz od (.dT (kvV kvs)))) := Stp.wrote e1 e2 nf
  have wl : W X.K X.mg η (G.set k (.dil od kvs)) (upd H a (.frz od (.dT (kvV kvs)))) := w.wrote (m := .dil od kvs) e1 e2 nf ⟨a, e1, upd_same⟩
  refine ⟨ρ, η, G.set k (.dil od kvs), _, he.step sl, wl, ht od, ?_, ?_, ?_, ?_, ?_⟩
  · rintro ρ' G' σ' η' H' s' w' e' ⟨hk, q⟩
    obtain ⟨f1, f2⟩ := lock_at w' e1 s' hk
    exact ⟨f2, l.nx ρ' _ σ' η' _ (Stp.lock e1 e2 s') (w'.unlock f1 f2) (e'.unlock f1 f2) q⟩
  · rintro d G' v η' H' s' w' r' ⟨hk, q⟩
    obtain ⟨f1, f2⟩ := lock_at w' e1 s' hk
    exact ⟨f2, l.rt d _ v η' _ (Stp.lock e1 e2 s') (w'.unlock f1 f2) (Rp.unlock f1 f2 d v r') q⟩
  · rintro ρ' G' σ' η' H' s' w' e' ⟨hk, q⟩
    obtain ⟨f1, f2⟩ := lock_at w' e1 s' hk
    exact ⟨f2, l.bk ρ' _ σ' η' _ (Stp.lock e1 e2 s') (w'.unlock f1 f2) (e'.unlock f1 f2) q⟩
  · rintro ρ' G' σ' η' H' s' w' e' ⟨hk, q⟩
    obtain ⟨f1, f2⟩ := lock_at w' e1 s' hk
    exact ⟨f2, l.ct ρ' _ σ' η' _ (Stp.lock e1 e2 s') (w'.unlock f1 f2) (e'.unlock f1 f2) q⟩
  · rintro _ _ _ _ _ _ _ _ _ _ _ _ q
    exact q.elim⟩
theorem ped_lock {e : Expr} {te : TEd} {i : Nat} (h : PEd X E e te) : PEd X E e (tLockED i te) := ⟨PE.imp (pe_lock h.run) fun σ H Q hh => by
  obtain ⟨ρ, η, G, Qd, Ed, he, w, ⟨k, kvs, _, ek, ht⟩, hq, hE⟩ := hh
  obtain ⟨a, e1, e2⟩ := w.at_ k _ ek
  refine ⟨a, _, e2, True.intro, fun od => ?_⟩
  have nf : ¬ Fix (HO.dT (kvV kvs)) := fun z => z
  have sl : Stp η H η (upd H a (.frz od (.dT (kvV kvs)))) := Stp.wrote e1 e2 nf
  have wl : W X.K X.mg η (G.set k (.dil od kvs)) (upd H a (.frz od (.dT (kvV kvs)))) := w.wrote (m := .dil od kvs) e1 e2 nf ⟨a, e1, upd_same⟩
  refine ⟨ρ, η, G.set k (.dil od kvs), _, _, he.step sl, wl, ht od, ?_, fun _ _ _ _ _ _ _ _ _ q => q.elim⟩
  rintro d G' v η' H' s' w' r' ⟨hk, q⟩
  obtain ⟨f1, f2⟩ := lock_at w' e1 s' hk
  exact ⟨f2, hq d _ v η' _ (Stp.lock e1 e2 s') (w'.unlock f1 f2) (Rp.unlock f1 f2 d v r') q⟩⟩
theorem pid_keys {tg e : Expr} {td : TEd} (he : PEd X E e td) : PId X E tg e (iKeysD td) := ⟨PI.imp (pi_keys he.run) fun σ H R hh => by
  obtain ⟨ρ, η, G, Qd, Ed, he, w, ht, hq, hE⟩ := hh
  refine ⟨ρ, η, G, _, Ed, he, w, ht, fun d G1 v η1 H1 s1 w1 r1 q1 => ?_, hE⟩
  obtain ⟨k, u, kvs, rfl, ek, q1⟩ := q1
  obtain ⟨a, g1, g2⟩ := w1.at_ k _ ek
  obtain ⟨b, rfl, h⟩ := r1
  have : b = a := by
    rcases h with h | h
    · rw [h] at g1; cases g1; rfl
    · rw [h] at g1; cases g1
  subst this
  refine ⟨b, u, rfl, .inr ⟨kvV kvs, g2, hq _ G1 (Itkt b u (kvV kvs)) η1 H1 s1 w1 ?_ q1⟩⟩
  intro η' H' i s
  have h' : H' b = some (.frz u (.dT (kvV kvs))) := s.keep _ _ g2 (.inr trivial)
  have hl : (kvs.map fun e => D.key e.1).length = (kvV kvs).length := by unfold kvV; rw [List.length_map, List.length_map]
  refine ⟨fun hi => ⟨h', by rw [← hl]; exact hi⟩, fun hi => ⟨h', by rw [← hl]; exact hi⟩, fun x H'' y hi => ?_⟩
  obtain ⟨rfl, ks, v, q, e1, rfl, e2⟩ := y
  unfold kvV at e1
  rw [List.getElem?_map] at e1
  obtain ⟨e, he1, he2⟩ := Option.map_eq_some_iff.mp e1
  cases he2
  refine ⟨.key e.1, by rw [List.getElem?_map, he1]; rfl, Stp.refl _ _, fun _ w => w, q, rfl, ?_⟩
  rw [e2]
  have := keyI_kV (ns := e.1)
  unfold keyI at this
  rw [this]⟩
theorem pgd_key {tg : Expr} {g : TGd} (h : PGd X tg g) : PGd X tg (gKeyD g) := ⟨PG.imp h.run fun v σ H Q hh => by
  obtain ⟨d, ρ, η, G, Qd, r, he, w, ht, hq⟩ := hh
  unfold gKeyD at ht
  split at ht
  · rename_i ns
    obtain ⟨a, e, r⟩ := r
    exact ⟨.tup (ns.map .int), ρ, η, G, Qd, ⟨a, _, e, SqT.of r, RpL.ints.mpr rfl⟩, he, w, ht, hq⟩
  · exact ht.elim⟩
theorem ped_varT (i : Nat) {x : Str} {pos : Pos} (hN : X.N[i]? = some x := by rfl) (hv : Vis X.env.scope x := by first | exact Or.inl rfl | exact Or.inr (Or.inl rfl) | exact Or.inr (Or.inr rfl)) (hd : (x == ("__debug__" : Str)) = false := by decide)
    (hcd : (x == ("__classdict__" : Str)) = false := by decide) : PEd X E (.Name x pos) (tVarTD i) := by
  refine ⟨PE.imp (pe_var hN hv hd hcd) fun σ H Q h => ?_⟩
  obtain ⟨ρ, η, G, Qd, Ed, he, w, ht, hq, _⟩ := h
  unfold tVarTD at ht
  split at ht
  · rename_i ns e
    obtain ⟨v, e1, r⟩ := he.2 i _ e
    obtain ⟨a, ev, r⟩ := r
    exact ⟨v, e1, hq.now (d := .tup (ns.map .int)) w ⟨a, _, ev, SqT.of r, RpL.ints.mpr rfl⟩ ht⟩
  · exact ht.elim
theorem pkd_var (i : Nat) {x : Str} {pos : Pos} (hN : X.N[i]? = some x := by rfl) (hv : Vis X.env.scope x := by first | exact Or.inl rfl | exact Or.inr (Or.inl rfl) | exact Or.inr (Or.inr rfl)) (hd : (x == ("__debug__" : Str)) = false := by decide)
    (hcd : (x == ("__classdict__" : Str)) = false := by decide) : PKd X E (.Name x pos) (kVarD i) := by
  refine ⟨PE.imp (pe_var hN hv hd hcd) fun σ H Q h => ?_⟩
  obtain ⟨ρ, η, G, Qd, Ed, he, w, ht, hq, _⟩ := h
  unfold kVarD at ht
  split at ht
  · rename_i ns e
    obtain ⟨v, e1, a, rfl, r⟩ := he.2 i _ e
    exact ⟨_, e1, hq ns G a η H (Stp.refl _ _) w r ht⟩
  · exact ht.elim
variable {e o i value : Expr} {es : List Expr} {te td tx : TEd} {ta : TAd} {tk : TKd} {pos apos cpos : Pos}
theorem ped_revT {k : Nat} {p1 p2 p3 pos : Pos} (he : PEd X E e te) : PEd X E (.Subscript e (.Slice none none (some (.UnaryOp .USub (.Constant (.int 1) k p1) p2)) p3) pos) (tRevTD te) := by
  refine ⟨PE.imp (pe_revT he.run) fun σ H Q h => ?_⟩
  obtain ⟨ρ, η, G, Qd, Ed, he, w, ht, hq, hE⟩ := h
  refine ⟨ρ, η, G, _, Ed, he, w, ht, fun x G1 v η1 H1 s1 w1 r1 q1 => ?_, hE⟩
  cases x with
  | tup ds =>
    obtain ⟨a, vs, rfl, ha, hr⟩ := r1
    exact ⟨a, vs, rfl, ha, fun p hp => (hq.step s1).newT w1 hp hr.reverse q1⟩
  | _ => exact q1.elim
theorem ped_dspK {x1} (ha : PAd X E es ta) : PEd X E (.Tuple es x1 pos) (tDspKD ta) := by
  refine ⟨PE.imp (pe_tup ha.run) fun σ H Q h => ?_⟩
  obtain ⟨ρ, η, G, Qd, Ed, he, w, ht, hq, hE⟩ := h
  refine ⟨ρ, η, G, _, Ed, he, w, ht, fun ds G1 vs η1 H1 s1 w1 r1 q1 => ?_, hE⟩
  obtain ⟨ns, rfl, hl, q⟩ := q1
  have hr := RpL.ints.mp r1
  subst hr
  exact ⟨by rw [List.length_map]; exact line_eq hl, fun l hn => hq (.key ns) G1 _ η1 _ (s1.trans (Stp.laid hn)) (w1.laid hn) ⟨l, rfl, upd_same⟩ q⟩
theorem ped_dic1 {i j v : Int} {k1 k2 k3 k4 : Nat} {p1 p2 p3 p4 : Pos} (hu : X.A.units < cLine) : PEd X E (.Dict [some (.Tuple [.Constant (.int i) k1 p1, .Constant (.int j) k2 p2] k4 p4)] [.Constant (.int v) k3 p3] pos) (tDic1D i j v) := by
  refine ⟨PE.imp (pe_disp1 hu (pe_tup (pa_cons pe_int (pa_cons pe_int pa_nil))) pe_int) fun σ H Q h => ?_⟩
  obtain ⟨ρ, η, G, Qd, Ed, he, w, ht, hq, hE⟩ := h
  intro p hp
  refine ⟨by rw [sizeLine_eq]; show 2 ≤ 16777216; decide, fun l hl => ?_⟩
  have hlp : l ≠ p := fun z => by rw [z, upd_same] at hl; cases hl
  have hl' : H l = none := by rw [upd_ne hlp] at hl; exact hl
  refine ⟨by rw [upd_ne (Ne.symm hlp)]; exact upd_same, l, [.inl i, .inl j], rfl, upd_same, ?_⟩
  have e3 : upd (upd (upd H p (.dT [])) l (.tup [V.int i, V.int j])) p (.dT [([Sum.inl i, Sum.inl j], V.int v)]) = upd (upd H l (.tup [V.int i, V.int j])) p (.dT (kvV [([i, j], some v)])) := by
    funext b
    by_cases z : b = p
    · subst z; rw [upd_same, upd_same]; rfl
    · rw [upd_ne z, upd_ne z]
      by_cases z2 : b = l
      · subst z2; rw [upd_same, upd_same]
      · rw [upd_ne z2, upd_ne z2, upd_ne z]
  show Q (.ref p) (upd (upd (upd H p (.dT [])) l (.tup [V.int i, V.int j])) p (.dT [([Sum.inl i, Sum.inl j], V.int v)]))
  rw [e3]
  have s1 : Stp η H η (upd H l (.tup [V.int i, V.int j])) := Stp.laid hl'
  have w1 : W X.K X.mg η G (upd H l (.tup [V.int i, V.int j])) := w.laid hl'
  have hp1 : upd H l (.tup [V.int i, V.int j]) p = none := by rw [upd_ne (Ne.symm hlp)]; exact hp
  have el : (η.push p).o[η.o.length]? = some (some p) := by
    show (η.o ++ [some p])[η.o.length]? = _
    rw [List.getElem?_append_right (Nat.le_refl _), Nat.sub_self]; rfl
  have w2 := w1.grow (m := .dic [([i, j], some v)]) (o := .dT (kvV [([i, j], some v)])) hp1 ⟨p, el, upd_same⟩
  rw [w.len] at el
  exact hq (.obj G.length) _ (.ref p) (η.push p) _ (s1.trans (Stp.pushed hp1)) w2 ⟨p, rfl, .inl el⟩ ht
theorem W.dicL {K : PySem.W.Frag} {mg : Str → Option Value} {η : Eta} {G : GS} {H : Hp} {k : Nat} {v : V} {kvs : List (List Int × Option Int)} (w : W K mg η G H) (r : Rp K η H (.obj k) v) (e : IsDic G k kvs) : ∃ a, v = .ref a ∧ Rd H a (.dT (kvV kvs)) := by
  obtain ⟨b, rfl, h⟩ := r
  rcases e with e | ⟨u, e⟩
  · obtain ⟨a, h1, h2⟩ := w.at_ k _ e
    have : b = a := by
      rcases h with h | h
      · rw [h] at h1; cases h1; rfl
      · rw [h] at h1; cases h1
    subst this
    exact ⟨b, rfl, .inl h2⟩
  · obtain ⟨a, h1, h2⟩ := w.at_ k _ e
    have : b = a := by
      rcases h with h | h
      · rw [h] at h1; cases h1; rfl
      · rw [h] at h1; cases h1
    subst this
    exact ⟨b, rfl, .inr ⟨u, h2⟩⟩
theorem DGet.rd {H : Hp} {a b : Addr} {kvs : List (List L2.Key × V)} {k : List L2.Key} (e : Rd H a (.dT kvs)) (eb : H b = some (.tup (k.map kV))) : DGet H a (.ref b) (valV kvs k) := .inr ⟨kvs, k, b, e, rfl, eb, rfl⟩
theorem ped_getL (hu : X.A.units + 1 < cLine) (ho : PEd X E o td) (hk : PKd X E i tk) (hs : NoSl i) : PEd X E (.Subscript o i pos) (tGetLD td tk) := by
  refine ⟨PE.imp (pe_dget hu ho.run hk.run hs) fun σ H Q h => ?_⟩
  obtain ⟨ρ, η, G, Qd, Ed, he, w, ht, hq, hE⟩ := h
  refine ⟨ρ, η, G, _, Ed, he, w, ht, fun y G1 v η1 H1 s1 w1 r1 q1 => ?_, hE⟩
  refine ⟨ρ, η1, G1, _, Ed, he.step s1, w1, q1, fun ns G2 b η2 H2 s2 w2 eb q2 => ?_, hE.step s1⟩
  obtain ⟨k, kvs, j, rfl, ek, eg, q2⟩ := q2
  obtain ⟨a, rfl, h2⟩ := w2.dicL (Rp.step s2 _ _ r1) ek
  have eb2 : H2 b = some (.tup ((keyI ns).map kV)) := by rw [keyI_kV]; exact eb
  refine ⟨a, .int j, rfl, ?_, hq (.int j) G2 _ η2 H2 (s1.trans s2) w2 rfl q2⟩
  have := DGet.rd h2 eb2
  rw [valV_kv, eg] at this
  exact this
theorem liftInL {σ : St} {H : Hp} {Q : VK} (h : lE X.K X.mg E (tInLD tk td) σ H Q) : tDIn (lK X.K X.mg E tk) (lE X.K X.mg E td) σ H Q := by
  obtain ⟨ρ, η, G, Qd, Ed, he, w, ht, hq, hE⟩ := h
  refine ⟨ρ, η, G, _, Ed, he, w, ht, fun ns G1 b η1 H1 s1 w1 eb q1 => ?_, hE⟩
  refine ⟨ρ, η1, G1, _, Ed, he.step s1, w1, q1, fun y G2 u η2 H2 s2 w2 r2 q2 => ?_, hE.step s1⟩
  obtain ⟨k, kvs, rfl, ek, q2⟩ := q2
  obtain ⟨a, rfl, h2⟩ := w2.dicL r2 ek
  have eb2 : H2 b = some (.tup ((keyI ns).map kV)) := by rw [keyI_kV]; exact s2.keep _ _ eb (.inr trivial)
  refine ⟨a, _, rfl, DGet.rd h2 eb2, ?_⟩
  rw [valV_kv, Option.isSome_map]
  exact hq (.bl _) G2 _ η2 H2 (s1.trans s2) w2 rfl q2
theorem ped_inL {a b : Expr} (hu : X.A.units + 1 < cLine) (hk : PKd X E a tk) (hd : PEd X E b td) (hm : behindInMarks .In b = false) : PEd X E (.Compare a [.In] [b] pos) (tInLD tk td) :=
  ⟨PE.imp (pe_cmp (pc_din hu hk.run hd.run) hm) fun σ H Q h => liftInL h⟩
theorem ptd_inL {a b : Expr} (hu : X.A.units + 1 < cLine) (hk : PKd X E a tk) (hd : PEd X E b td) (hm : behindInMarks .In b = false) : PTd X E (.Compare a [.In] [b] pos) (tTestD (tInLD tk td)) :=
  ⟨PT.imp (pt_cmp (pc_din hu hk.run hd.run) hm) fun σ H Q h => liftTest (fun h => liftInL h) h⟩
theorem dV_vO {K : PySem.W.Frag} {η : Eta} {H : Hp} (o : Option Int) : Rp K η H (dV o) (vO o) := by cases o <;> rfl
theorem ped_get2 {x : Expr} (hu : X.A.units + 1 < cLine) (ho : PEd X E o td) (hk : PKd X E e tk) (hx : PEd X E x tx) (m : M2 X o "get" apos e x cpos) : PEd X E (.Call (.Attribute o "get" apos) [e, x] [] cpos) (tGet2D td tk tx) := by
  refine ⟨PE.imp (pe_dget2 hu ho.run hk.run hx.run m) fun σ H Q h => ?_⟩
  obtain ⟨ρ, η, G, Qd, Ed, he, w, ht, hq, hE⟩ := h
  refine ⟨ρ, η, G, _, Ed, he, w, ht, fun y G1 v η1 H1 s1 w1 r1 q1 => ?_, hE⟩
  obtain ⟨⟨k, kvs, rfl, ek⟩, q1⟩ := q1
  obtain ⟨a, rfl, h1⟩ := w1.dicL r1 ek
  refine ⟨a, rfl, .inr ⟨_, h1⟩, ρ, η1, G1, _, Ed, he.step s1, w1, q1, fun ns G2 b η2 H2 s2 w2 eb q2 => ?_, hE.step s1⟩
  refine ⟨ρ, η2, G2, _, Ed, he.step (s1.trans s2), w2, q2, fun z G3 u η3 H3 s3 w3 r3 q3 => ?_, hE.step (s1.trans s2)⟩
  obtain ⟨k', kvs', e', ek', q3⟩ := q3
  cases e'
  obtain ⟨a', e'', h3⟩ := w3.dicL (Rp.step (s2.trans s3) _ _ r1) ek'
  cases e''
  have eb2 : H3 b = some (.tup ((keyI ns).map kV)) := by rw [keyI_kV]; exact s3.keep _ _ eb (.inr trivial)
  refine ⟨_, DGet.rd h3 eb2, ?_⟩
  rw [valV_kv]
  cases hd : dget kvs' ns with
  | some o =>
    rw [hd] at q3
    exact hq (dV o) G3 _ η3 H3 (s1.trans (s2.trans s3)) w3 (dV_vO o) q3
  | none =>
    rw [hd] at q3
    exact hq z G3 _ η3 H3 (s1.trans (s2.trans s3)) w3 r3 q3
end
end Y

namespace L2
open PySem PySem.Spec PyProof.Rows
set_option maxHeartbeats 4000000 in
theorem tuple_mul1 (l : Addr) (items : Array Value) (n : Nat) (dd : Option Addr) (sl : Array (Option Value)) (u : Tok) :
    Meets (Builtin.«tuple.__mul__» ⟨[.ref l, .int 1 u], []⟩) (fun _ R s => s.heap.get? l = some { cls := .type "tuple", dict := dd, data := .seq items n, slots := sl } ∧
      R (.ok (.ret (Value.ref l))) { s with heap := s.heap, toks := s.toks }) :=
  .of_wp fun prog w A R s h => by
    obtain ⟨hp, g, d, tk, os⟩ := s
    obtain ⟨hl, h⟩ := h
    have f1 := AutoSeq1.idx_int
    have c1 : (items.isEmpty || (1 : Int) == 1) = true := by simp
    wp_walk using wpAny_loadPart' hl
    repeat (first
      | (refine wpAny_ite_true (decide_eq_true (by rw [c1])) ?_; wp_walk using wpAny_loadPart' hl)
      | (refine wpAny_ite_false (decide_eq_false (by decide)) ?_; wp_walk using wpAny_loadPart' hl))
    exact ⟨_, rfl, h⟩
set_option maxHeartbeats 4000000 in
theorem tuple_mul0 (l : Addr) (items : Array Value) (n : Nat) (dd : Option Addr) (sl : Array (Option Value)) (u : Tok) (c1 : (items.isEmpty || (0 : Int) == 1) = false) (c2 : (decide ((0 : Int) ≤ 0) || items.isEmpty) = true) :
    Meets (Builtin.«tuple.__mul__» ⟨[.ref l, .int 0 u], []⟩) (fun _ R s => s.heap.get? l = some { cls := .type "tuple", dict := dd, data := .seq items n, slots := sl } ∧
      R (.ok (.ret (Value.ref s.heap.objs.size))) { s with heap := s.heap.push { cls := Value.type "tuple", data := Data.seq #[] }, toks := s.toks }) :=
  .of_wp fun prog w A R s h => by
    obtain ⟨hp, g, d, tk, os⟩ := s
    obtain ⟨hl, h⟩ := h
    have f1 := AutoSeq1.idx_int
    wp_walk using wpAny_loadPart' hl
    repeat (first
      | (refine wpAny_ite_false (decide_eq_false (by rw [c1]; exact Bool.false_ne_true)) ?_; wp_walk using wpAny_loadPart' hl)
      | (refine wpAny_ite_true (decide_eq_true (by rw [c2])) ?_; wp_walk using wpAny_loadPart' hl)
      | (refine wpAny_ite_false (decide_eq_false (by decide)) ?_; wp_walk using wpAny_loadPart' hl))
    exact ⟨_, rfl, h⟩
def rRepT2 (K : PySem.W.Frag) : R2 := fun x y H Q => ∃ l k xs, x = .ref l ∧ y = .int k ∧ SqT K H l xs ∧ xs ≠ [] ∧ 0 ≤ k ∧ k ≤ 1000 ∧ xs.length ≤ 1000 ∧ (k = 1 → Q (.ref l) H) ∧ (k ≠ 1 → ∀ p, H p = none → Q (.ref p) (upd H p (.tup (List.replicate k.toNat xs).flatten)))
section
variable {X : Cx}
theorem op_repT2 : OpR X (binaryOp .Mult) (rRepT2 X.K) := by
  intro pins s σ H x y v u Q I rx ry h
  obtain ⟨l, k, xs, rfl, rfl, hT, hne, h1, h2, hz, q1, q2⟩ := h
  by_cases c : 2 ≤ k
  · exact op_repT pins s σ H _ _ v u Q I rx ry ⟨l, k, xs, rfl, rfl, hT, hne, c, h2, hz, q2 (by omega)⟩
  cases rx
  obtain ⟨t, rfl⟩ := ry
  obtain ⟨its, r, ⟨⟨cls, dd, data, sl⟩, ho, hc, n, hd⟩, hs⟩ := I.tuple hT
  simp only at hc hd
  subst hc hd
  have hle : its.length = xs.length := r.length.symm
  have hi : its.toArray.isEmpty = false := by
    cases its with
    | nil => exact absurd (List.eq_nil_of_length_eq_zero hle.symm) hne
    | cons a b => rfl
  by_cases c1 : k = 1
  · subst c1
    refine wpAny_binaryOp_repeat_ref (T := "tuple") (U := "int") (by decide) ⟨_, ho, rfl⟩ (fun s' => typeIs_int s' 1 t) noFill_tuple_mul F.fills_int_mul F.slot_int_rmul repeat_tuple F.slot_int_index.lookup
      (call_meets F.slot_int_rmul (typeIs_int s 1 t) F.entry_int_rmul (F.args_int_rmul_2 _ _) (int_rmul_tuple 1 t l its.toArray n dd sl)
        ⟨ho, rfl, ⟨_, ho, rfl⟩, call_meets F.slot_tuple_mul ⟨_, ho, rfl⟩ F.entry_tuple_mul (F.args_tuple_mul_2 _ _) (tuple_mul1 l its.toArray n dd sl t) ⟨ho, ?_⟩⟩)
    exact ⟨.ref l, H, I, rfl, q1 rfl⟩
  · have c0 : k = 0 := by omega
    subst c0
    refine wpAny_binaryOp_repeat_ref (T := "tuple") (U := "int") (by decide) ⟨_, ho, rfl⟩ (fun s' => typeIs_int s' 0 t) noFill_tuple_mul F.fills_int_mul F.slot_int_rmul repeat_tuple F.slot_int_index.lookup
      (call_meets F.slot_int_rmul (typeIs_int s 0 t) F.entry_int_rmul (F.args_int_rmul_2 _ _) (int_rmul_tuple 0 t l its.toArray n dd sl)
        ⟨ho, rfl, ⟨_, ho, rfl⟩, call_meets F.slot_tuple_mul ⟨_, ho, rfl⟩ F.entry_tuple_mul (F.args_tuple_mul_2 _ _) (tuple_mul0 l its.toArray n dd sl t (by rw [hi]; rfl) (by rw [hi]; rfl)) ⟨ho, ?_⟩⟩)
    have q := q2 (by decide)
    refine ⟨.ref s.heap.objs.size, _, I.laid (t' := s.toks) (o := .tup (List.replicate (0 : Int).toNat xs).flatten) (fun b ob q => Heap.get?_push_of_some _ q) (Nat.le_refl _) ?_, rfl, q _ (I.hok.fresh (Nat.le_refl _))⟩
    exact ⟨Nat.zero_le _, [], .nil, IsTup.new _ _⟩
end
end L2
namespace Y
open PySem PySem.Spec L2
open PyProof.Rows hiding St
def rRepT2D : R2d := fun x y G Q => match x, y with
  | .tup xs, .int k => xs ≠ [] ∧ 0 ≤ k ∧ k ≤ 1000 ∧ xs.length ≤ 1000 ∧ Q (.tup (List.replicate k.toNat xs).flatten) G
  | _, _ => False
theorem lift_repT2 {X : Cx} : LiftR X (L2.rRepT2 X.K) rRepT2D := fun η G H x y dx dy Q Qd w rx ry h hq => by
  unfold rRepT2D at h
  split at h
  · rename_i xs k
    obtain ⟨a, vs, rfl, hl, hr⟩ := rx
    have l1 := hr.length
    refine ⟨a, k, vs, rfl, ry, hl, fun z => h.1 (by rw [z] at l1; exact List.length_eq_zero_iff.mp l1), h.2.1, h.2.2.1, by rw [← l1]; exact h.2.2.2.1, fun e => ?_, fun _ p hp => hq.newT w hp (hr.rep _) h.2.2.2.2⟩
    subst e
    have h5 := h.2.2.2.2
    have e : (List.replicate (1 : Int).toNat xs).flatten = xs := by
      show (List.replicate 1 xs).flatten = xs
      simp
    rw [e] at h5
    exact hq.now (d := .tup xs) w ⟨a, vs, rfl, hl, hr⟩ h5
  · exact h.elim
end Y

namespace Z
open PySem PySem.Spec L2 Y
open PyProof.Rows hiding St
def ltOD : Option D → D → Bool
  | none, _ => true
  | some (.int a), .int b => decide (a < b)
  | _, _ => false
def firstBad (n : Int) : Option D → Nat → List D → Option Nat
  | _, _, [] => none
  | p, i, x :: r => if (fromD x 0 (n - 1) && ltOD p x) = true then firstBad n (some x) (i + 1) r else some i
def lotErr (dn dl : D) : Option Er := if fromD dn 1 60 = true then
    (match dn, dl with
    | .int n, .tup xs => (firstBad n none 0 xs).map fun (i : Nat) => ⟨"BadLot", some ("index", .int (i : Int))⟩
    | _, _ => some ⟨"BadLot", some ("index", .non)⟩)
  else some ⟨"BadRound", none⟩
def plains : D → Bool
  | .tup xs => xs.all plainD
  | d => plainD d
def sumIn (n : Int) (lot : List Int) : List Int → Option (List Int)
  | [] => none
  | x :: r => match (x :: r).find? (fun y => decide ((x + y) % n ∈ lot)) with
    | some y => some [x, y, (x + y) % n]
    | none => sumIn n lot r
def optT : Option (List Int) → D
  | none => .non
  | some t => tupI t
theorem sum_in_inner {G : GS} {n x : Int} {lot : List Int} {at_ : D} {D : EndsD} (hn : 0 < n) : ∀ (ys : List Int) (c : Option Y.D),
    (match ys.find? (fun y => decide ((x + y) % n ∈ lot)) with | some y => D.rt (tupI [x, y, (x + y) % n]) G | none => ∀ c, D.nx [some (.int n), some (tupI lot), some at_, some (.int x), c] G) →
    forL (gNameD 4) (tIfSD (tTestD (tOpD rInD (tOpD rModD (tOpD rAddD (tVarD 3) (tVarD 4)) (tVarD 0)) (tVarD 1))) (tRetD (tTupD (tConsD (tVarD 3) (tConsD (tVarD 4) (tConsD (tOpD rModD (tOpD rAddD (tVarD 3) (tVarD 4)) (tVarD 0)) tNilD))))) tNextD)
      D (ys.map .int) [some (.int n), some (tupI lot), some at_, some (.int x), c] G
  | [], c, q => q c
  | y :: ys, c, q => by
    rw [List.find?_cons] at q
    refine ⟨hn, inOk_ints, ?_⟩
    show (if inL (.int ((x + y) % n)) (lot.map .int) = true then _ else _)
    rw [inL_ints]
    cases h : decide ((x + y) % n ∈ lot) with
    | true =>
      rw [h] at q
      exact ⟨hn, (show 3 ≤ 16777216 by decide), q⟩
    | false =>
      rw [h] at q
      exact sum_in_inner (D := { D with nx := D.nx }) hn ys (some (.int y)) q
theorem sum_in_loop {G : GS} {Q : QD} {E : QE} {n : Int} {lot : List Int} (hn : 0 < n) : ∀ (r pre : List Int) (a b c : Option D), pre ++ r = lot → Q (optT (sumIn n lot r)) G →
    forL (gTupD (gConsD (gNameD 2) (gConsD (gNameD 3) gNilD))) (tForD (iAnyD (tSlD (tVarD 1) (tPartD (tVarD 2)) tNoPartD)) (gNameD 4) (tIfSD (tTestD (tOpD rInD (tOpD rModD (tOpD rAddD (tVarD 3) (tVarD 4)) (tVarD 0)) (tVarD 1))) (tRetD (tTupD (tConsD (tVarD 3) (tConsD (tVarD 4) (tConsD (tOpD rModD (tOpD rAddD (tVarD 3) (tVarD 4)) (tVarD 0)) tNilD))))) tNextD))
      { endsF G Q E with nx := tRetD (tCD .non) (endsF G Q E) } (enumD pre.length (r.map .int)) [some (.int n), some (tupI lot), a, b, c] G
  | [], pre, a, b, c, e, q => ⟨grew0, rfl, q⟩
  | x :: r, pre, a, b, c, e, q => by
    have ec : cutD (lot.map D.int) (some (pre.length : Int)) none = (x :: r).map .int := by
      rw [cutD_drop (by rw [List.length_map, ← e, List.length_append]; omega), ← e, List.map_append, List.drop_left' (by rw [List.length_map])]
    show (forL _ _ _ (cutD (lot.map D.int) (some (pre.length : Int)) none) _ G)
    rw [ec]
    refine sum_in_inner hn (x :: r) c ?_
    unfold sumIn at q
    cases h : (x :: r).find? (fun y => decide ((x + y) % n ∈ lot)) with
    | some y => rw [h] at q; exact ⟨grew0, rfl, q⟩
    | none =>
      rw [h] at q
      intro c'
      have := sum_in_loop (G := G) (Q := Q) (E := E) hn r (pre ++ [x]) (some (.int pre.length)) (some (.int x)) c' (by rw [List.append_assoc]; exact e) q
      rw [List.length_append] at this
      exact this
theorem firstBad_ints {n : Int} : ∀ {xs : List D} {p : Option D} {i : Nat}, firstBad n p i xs = none → ∃ lot : List Int, xs = lot.map .int ∧ (∀ x ∈ lot, 0 ≤ x ∧ x ≤ n - 1) ∧ lot.Pairwise (· < ·) ∧ (∀ a, p = some (.int a) → ∀ x ∈ lot, a < x)
  | [], p, i, _ => ⟨[], rfl, (fun _ h => nomatch h), .nil, (fun _ _ _ h => nomatch h)⟩
  | x :: r, p, i, h => by
    unfold firstBad at h
    split at h
    · rename_i hc
      obtain ⟨h1, h2⟩ := Bool.and_eq_true_iff.mp hc
      obtain ⟨k, rfl, h3, h4⟩ := fromD_int h1
      obtain ⟨lot, rfl, a1, a2, a3⟩ := firstBad_ints h
      refine ⟨k :: lot, rfl, ?_, .cons (fun y hy => a3 k rfl y hy) a2, ?_⟩
      · intro y hy
        rcases List.mem_cons.mp hy with e | m
        · rw [e]; exact ⟨h3, h4⟩
        · exact a1 y m
      · intro a ea y hy
        subst ea
        have h2' : a < k := of_decide_eq_true h2
        rcases List.mem_cons.mp hy with e | m
        · rw [e]; exact h2'
        · have := a3 k rfl y m; omega
    · cases h
/-- what stands behind check_lot -/
theorem lotErr_none {dn dl : D} (h : lotErr dn dl = none) : ∃ n lot, dn = .int n ∧ dl = tupI lot ∧ 1 ≤ n ∧ n ≤ 60 ∧ (∀ x ∈ lot, 0 ≤ x ∧ x ≤ n - 1) ∧ lot.Pairwise (· < ·) := by
  unfold lotErr at h
  split at h
  · rename_i hn
    obtain ⟨n, rfl, h1, h2⟩ := fromD_int hn
    cases dl with
    | tup xs =>
      simp only at h
      obtain ⟨lot, rfl, a1, a2, _⟩ := firstBad_ints (Option.map_eq_none_iff.mp h)
      exact ⟨n, lot, rfl, rfl, h1, h2, a1, a2⟩
    | _ => cases h
  · cases h
theorem lotErr_below {dn dl : D} {e : Er} {k : Nat} (h : lotErr dn dl = some e) : belowE k e := by
  unfold lotErr at h
  split at h
  · split at h
    · obtain ⟨i, _, rfl⟩ := Option.map_eq_some_iff.mp h
      intro f d z; cases z; rfl
    · cases h; intro f d z; cases z; rfl
  · cases h; intro f d z; cases z
theorem random_loop {G : GS} {ns : List Int} {a : D} {D : EndsD} (h : ∀ s : Int, 0 ≤ s → s < 2147483647 → ∀ c, D.nx [some (.scr ns), some a, some (.int s), c] G) : ∀ (l : List Int) (s : Int) (c : Option Y.D), 0 ≤ s → s < 2147483647 →
    forL (gNameD 3) (tSetD 2 (tOpD rModD (tCBD rIntCD (tConsD (tOpD rAddD (tOpD rMulD (tVarD 2) (tCD (.int 31))) (tCBD rAbsD (tConsD (tVarD 3) tNilD))) tNilD)) (tCD (.int 2147483647)))) D (l.map .int) [some (.scr ns), some a, some (.int s), c] G
  | [], s, c, h1, h2 => h s h1 h2 c
  | x :: l, s, c, h1, h2 => by
    refine ⟨.inl (.inl ⟨by omega, by omega⟩), by omega, ?_⟩
    exact random_loop (D := { D with nx := D.nx }) h l _ (some (.int x)) (Int.emod_nonneg _ (by omega)) (Int.emod_lt_of_pos _ (by omega))
theorem random_comp {G : GS} {ρ : Rho} {ns : List Int} {x1 x2 x3 : Option Y.D} {Q : List Y.D → GS → Prop} : ∀ (l : List Int) (acc : List Int), (∀ r : List Int, r.length ≤ acc.length + l.length → Q (r.map .int) G) →
    lcL (gNameD 3) (tTestD (tOpD rGeD (tVarD 3) (tOpD rPowD (tCD (.int 10)) (tCD (.int 18))))) (tVarD 3) (l.map .int) (acc.map .int) [x1, x2, x3, none] G Q
  | [], acc, h => h acc (by simp)
  | x :: l, acc, h => by
    refine ⟨⟨by decide, by decide, by decide⟩, ?_⟩
    show (if decide ((10 : Int) ^ (18 : Int).toNat ≤ x) = true then _ else _)
    by_cases c : (10 : Int) ^ (18 : Int).toNat ≤ x
    · rw [decide_eq_true c, if_pos rfl]
      have := random_comp (x1 := x1) (x2 := x2) (x3 := x3) (G := G) (Q := Q) (ρ := ρ) (ns := ns) l (acc ++ [x]) (fun r hr => h r (by rw [List.length_append] at hr; simp at hr ⊢; omega))
      rw [List.map_append] at this
      exact this
    · rw [decide_eq_false c, if_neg (by decide)]
      exact random_comp (ρ := ρ) (ns := ns) l acc (fun r hr => h r (by simp at hr ⊢; omega))
theorem getLast_set {G : GS} {m m' : MO} : (G ++ [m])[G.length]? = some m ∧ (G ++ [m]).set G.length m' = G ++ [m'] := by
  constructor
  · rw [List.getElem?_append_right (Nat.le_refl _), Nat.sub_self]; rfl
  · rw [List.set_append_right _ _ (Nat.le_refl _), Nat.sub_self]; rfl
theorem items_obj {G : GS} {k : Nat} {ds : List D} (h : G[k]? = some (.lst ds)) : itemsD G (.obj k) = some ds := by
  show (match G[k]? with | some (.lst ds) => some ds | _ => none) = _
  rw [h]
theorem ix_0 {G : GS} {k : Nat} {d : D} {ds : List D} {Q : QD} (h : G[k]? = some (.lst (d :: ds))) (q : Q d G) : Y.rIxD (.obj k) (.int 0) G Q := by
  unfold Y.rIxD
  have e : atI (d :: ds) 0 = some d := atI_nat' (j := 0)
  simp only [items_obj h, e]
  exact q
theorem ix_1 {G : GS} {k : Nat} {d d2 : D} {ds : List D} {Q : QD} (h : G[k]? = some (.lst (d :: d2 :: ds))) (q : Q d2 G) : Y.rIxD (.obj k) (.int 1) G Q := by
  unfold Y.rIxD
  have e : atI (d :: d2 :: ds) 1 = some d2 := atI_nat' (j := 1)
  simp only [items_obj h, e]
  exact q
theorem ixN_n {n i : Nat} (h : i < n) : ixN n (i : Int) = some i := by
  unfold ixN
  rw [if_pos (by omega), if_pos (by omega), Int.toNat_natCast]
theorem set_0 {G : GS} {k : Nat} {d e : D} {ds : List D} {Q : GS → Prop} (h : G[k]? = some (.lst (d :: ds))) (q : Q (G.set k (.lst (e :: ds)))) : setIxD (.obj k) (.int 0) e G Q := by
  unfold setIxD
  have e1 : ixN (d :: ds).length 0 = some 0 := ixN_n (i := 0) (by simp)
  simp only [h, e1]
  exact q
theorem set_1 {G : GS} {k : Nat} {d d2 e : D} {ds : List D} {Q : GS → Prop} (h : G[k]? = some (.lst (d :: d2 :: ds))) (q : Q (G.set k (.lst (d :: e :: ds)))) : setIxD (.obj k) (.int 1) e G Q := by
  unfold setIxD
  have e1 : ixN (d :: d2 :: ds).length 1 = some 1 := ixN_n (i := 1) (by simp)
  simp only [h, e1]
  exact q
theorem at_0 {x : D} {t : List D} : atI (x :: t) 0 = some x := atI_nat' (j := 0)
theorem at_1 {x y : D} {t : List D} : atI (x :: y :: t) 1 = some y := atI_nat' (j := 1)
theorem ix_0l {t : Nat} : ixN (t + 1) 0 = some 0 := ixN_n (i := 0) (by omega)
theorem ix_1l {t : Nat} : ixN (t + 1 + 1) 1 = some 1 := ixN_n (i := 1) (by omega)
theorem below_part {n a b : Int} {r : List Int} {k : Nat} {G : GS} {Q : QD} {E : QE} (hn : 0 < n) (hn2 : n < 1073741824) (hG : G[k]? = some (.lst ((a :: b :: r).map .int))) (ha : 0 ≤ a) (ha2 : a < 2147483647) (hr : r.length ≤ 98)
    (q : ∀ (m a' b' : Int) (r' : List Int), 0 ≤ m → m < n → 0 ≤ a' → a' < 2147483647 → r'.length ≤ 98 → Q (.int m) (G.set k (.lst ((a' :: b' :: r').map .int)))) :
    (tSeqD (tIfSD (tTestD (tOpD rGtD (tOpD rIxD (tVarD 0) (tCD (.int 1))) (tCD (.int 0)))) (tSeqD (tSetD 2 (tOpD rModD (tCBD rIntCD (tConsD (tOpD rIxD (tVarD 0) (tCD (.int 1))) tNilD)) (tVarD 1))) (tSeqD (tAsgD (tOpD rDivD (tOpD rIxD (tVarD 0) (tCD (.int 1))) (tVarD 1)) (gSubD (tVarD 0) (tCD (.int 1)))) (tRetD (tVarD 2)))) tNextD) (tSeqD (tAsgD (tOpD rModD (tCBD rIntCD (tConsD (tOpD rAddD (tOpD rMulD (tOpD rIxD (tVarD 0) (tCD (.int 0))) (tCD (.int 48271))) (tCD (.int 11))) tNilD)) (tCD (.int 2147483647))) (gSubD (tVarD 0) (tCD (.int 0)))) (tRetD (tOpD rModD (tCBD rIntCD (tConsD (tOpD rDivD (tOpD rIxD (tVarD 0) (tCD (.int 0))) (tCD (.int 64))) tNilD)) (tVarD 1)))))
      (endsG Q E) [some (.obj k), some (.int n), none] G := by
  have hk : k < G.length := (List.getElem?_eq_some_iff.mp hG).1
  have hG' : G[k]? = some (.lst (.int a :: .int b :: r.map .int)) := hG
  have hS : ∀ x : Int, (G.set k (.lst (.int x :: .int b :: r.map .int)))[k]? = some (.lst (.int x :: .int b :: r.map .int)) := fun x => List.getElem?_set_self hk
  simp only [tSeqD, tDropD, tRetD, tIfSD, tForD, tSetD, tAsgD, tPar2D, tPar3D, tAugD, tWhileD, tNextD, tBreakD, tContD, tRaise0D, tRaise1D, tTestD, tAndD, tOrD, tNotD, tAndVD, tOrVD, tNotVD, tIfED, tOpD, tChainD, tCBD, tCallD, tConsD, tNilD, tStarD, tTupD, tLstD, tLstOD, tVarD, tCD, tNegD, tYesD, tFrzD, tRndD, tMetD, tMet0D, tSlD, tPartD, tNoPartD, tLcD, tLcOD, tLc2D, tIsiD, rGtD, rGeD, rLtD, rLeD, rSubD, rModD, rMulD, rDivD, rPowD, rInt0D, rIntD, rAddD, rAddOD, rIsD, rIsNotD, Y.rIxD, rSlD, rLenD, rAbsD, rIntCD, rStrD, rListD, rTupleD, rSumD, rMaxD, rMinID, rAllD, rAnyD, rSortedD, rAppendD, rPopD, rPopAtD, rReverseD, setIxD, frzD, gTupD, gConsD, gNameD, gNilD, gSubD, iAnyD, iEnumD, iRng1D, iRng2D, isNonD, wipeD, Y.rEqD, Y.rNeD, Y.rInD, Y.rNotInD, List.getElem?_cons_zero, List.getElem?_cons_succ, List.set_cons_zero, List.set_cons_succ, startD, List.map_cons, List.map_nil, List.length_cons, List.length_nil, List.replicate, List.cons_append, List.nil_append, itemsD, hG', hS, at_0, at_1, ix_0l, ix_1l]
  by_cases c : 0 < b
  · rw [decide_eq_true c, if_pos rfl]
    exact ⟨hn, .inl ⟨hn, hn2⟩, q (b % n) a (b / n) r (Int.emod_nonneg _ (by omega)) (Int.emod_lt_of_pos _ hn) ha ha2 hr⟩
  · rw [decide_eq_false c, if_neg (by decide)]
    exact ⟨.inl (.inl ⟨by omega, by omega⟩), by omega, .inl ⟨by decide, by decide⟩, hn, q _ _ b r (Int.emod_nonneg _ (by omega)) (Int.emod_lt_of_pos _ hn) (Int.emod_nonneg _ (by omega)) (Int.emod_lt_of_pos _ (by omega)) hr⟩
theorem belowL_mem {k : Nat} : ∀ {xs : List D}, belowL k xs = true → ∀ d ∈ xs, below k d = true
  | x :: xs, h, d, hd => by
    have h' := Bool.and_eq_true_iff.mp (show (below k x && belowL k xs) = true from h)
    rcases List.mem_cons.mp hd with e | m
    · rw [e]; exact h'.1
    · exact belowL_mem h'.2 d m
def flatE (d : D) : Bool := flatD d && okD d
def dep : Nat → D → Bool
  | 0, d => flatE d
  | k + 1, .tup xs => xs.all (dep k) && decide (xs.length ≤ 1000000)
  | k + 1, .lst xs => xs.all (dep k) && decide (xs.length ≤ 1000000)
  | _ + 1, d => flatE d
theorem eqD_str {s : Str} : eqD (.str s) (.str s) = true := by
  show PyData.eqv (.str s) (.str s) = true
  rw [PyData.eqv]; simp
theorem eqD_bl {s : Bool} : eqD (.bl s) (.bl s) = true := by
  show PyData.eqv (.bool s) (.bool s) = true
  rw [PyData.eqv]; simp
theorem blsD_rep {n : Nat} : blsD ((List.replicate n true).map .bl) = some (List.replicate n true) := blsD_map _
theorem eqD_b (b : Bool) : eqD (.bl b) (.bl b) = true := eqD_bl
theorem below_tup {k : Nat} {t : List Int} : below k (tupI t) = true := by
  show belowL k (t.map .int) = true
  induction t with
  | nil => rfl
  | cons _ _ ih => exact ih
/-- an ascending row of rests -/
def Lot (n : Int) (lot : List Int) : Prop := (∀ x ∈ lot, 0 ≤ x ∧ x < n) ∧ lot.Pairwise (· < ·)
theorem sortI_lot {n : Int} {ns : List Int} (h : ∀ x ∈ ns, 0 ≤ x ∧ x < n) (nd : ns.Nodup) : Lot n (sortI ns) ∧ (sortI ns).length = ns.length := by
  have p := sortI_perm ns
  refine ⟨⟨fun x hx => h x (p.mem_iff.mp hx), ?_⟩, p.length_eq⟩
  have nd' : (sortI ns).Nodup := p.nodup_iff.mpr nd
  exact (List.Pairwise.and (sortI_sorted ns) nd').imp fun {a b} h => by
    obtain ⟨h1, h2⟩ := h
    exact Int.lt_iff_le_and_ne.mpr ⟨h1, h2⟩
theorem get_old {G L : GS} {k : Nat} {m : MO} (h : G[k]? = some m) : (G ++ L)[k]? = some m := by
  rw [List.getElem?_append_left (List.getElem?_eq_some_iff.mp h).1]; exact h
theorem rngD_ints {n : Nat} : rngD 0 n = ((List.range n).map fun i : Nat => ((0 : Int) + (i : Int))).map .int := by
  unfold rngD; rw [List.map_map]; rfl
def blockL (n : Int) (lot : List Int) (x : Int) : List (List Int) := (lot.filter fun y => decide (x ≤ y) && decide ((x + y) % n ∈ lot)).map fun y => [x, y, (x + y) % n]
def sumsL (n : Int) (lot : List Int) : List (List Int) := lot.flatMap (blockL n lot)
theorem sums_comp {n x : Int} {lot : List Int} {G : GS} {a : Option D} {Q : List D → GS → Prop} (hn : 0 < n) : ∀ (l : List Int) (acc : List D), Q (acc ++ ((l.filter fun y => decide (x ≤ y) && decide ((x + y) % n ∈ lot)).map fun y => [x, y, (x + y) % n]).map tupI) G →
    lcL (gNameD 4) (tAndD (tTestD (tOpD rGeD (tVarD 4) (tVarD 3))) (tTestD (tOpD Y.rInD (tOpD rModD (tOpD rAddD (tVarD 3) (tVarD 4)) (tVarD 0)) (tVarD 1)))) (tTupD (tConsD (tVarD 3) (tConsD (tVarD 4) (tConsD (tOpD rModD (tOpD rAddD (tVarD 3) (tVarD 4)) (tVarD 0)) tNilD))))
      (l.map .int) acc [some (.int n), some (tupI lot), a, some (.int x), none] G Q
  | [], acc, q => by
    rw [List.filter_nil, List.map_nil, List.map_nil, List.append_nil] at q
    exact q
  | y :: l, acc, q => by
    show (if decide (x ≤ y) = true then _ else _)
    by_cases c : x ≤ y
    · rw [decide_eq_true c, if_pos rfl]
      refine ⟨hn, inOk_ints, ?_⟩
      show (if inL (.int ((x + y) % n)) (lot.map .int) = true then _ else _)
      rw [inL_ints]
      by_cases c2 : (x + y) % n ∈ lot
      · rw [decide_eq_true c2, if_pos rfl]
        refine ⟨hn, (show 3 ≤ 16777216 by decide), ?_⟩
        refine sums_comp hn l (acc ++ [tupI [x, y, (x + y) % n]]) ?_
        rw [List.filter_cons, decide_eq_true c, decide_eq_true c2] at q
        rw [List.append_assoc]
        exact q
      · rw [decide_eq_false c2, if_neg (by decide)]
        refine sums_comp hn l acc ?_
        rw [List.filter_cons, decide_eq_false c2, Bool.and_false] at q
        exact q
    · rw [decide_eq_false c, if_neg (by decide)]
      refine sums_comp hn l acc ?_
      rw [List.filter_cons, decide_eq_false c] at q
      exact q
theorem block_len {n x : Int} {lot : List Int} : (blockL n lot x).length ≤ lot.length := by
  unfold blockL
  rw [List.length_map]
  exact List.length_filter_le _ _
theorem sums_loop {n : Int} {lot : List Int} {G : GS} {D : EndsD} (hn : 0 < n) (hl : lot.length ≤ 1000) : ∀ (l : List Int) (acc : List (List Int)) (a b : Option Y.D), acc.length + 1000 * l.length ≤ 1000000 → (∀ a b, D.nx [some (.int n), some (tupI lot), some (.lst ((acc ++ l.flatMap (blockL n lot)).map tupI)), a, b] G) →
    forL (gNameD 3) (tSetD 2 (tOpD rAddD (tVarD 2) (tLcD (iAnyD (tVarD 1)) (gNameD 4) (tAndD (tTestD (tOpD rGeD (tVarD 4) (tVarD 3))) (tTestD (tOpD Y.rInD (tOpD rModD (tOpD rAddD (tVarD 3) (tVarD 4)) (tVarD 0)) (tVarD 1)))) (tTupD (tConsD (tVarD 3) (tConsD (tVarD 4) (tConsD (tOpD rModD (tOpD rAddD (tVarD 3) (tVarD 4)) (tVarD 0)) tNilD)))) [4])))
      D (l.map .int) [some (.int n), some (tupI lot), some (.lst (acc.map tupI)), a, b] G
  | [], acc, a, b, hz, q => by
    have q' := q a b
    rw [List.flatMap_nil, List.append_nil] at q'
    exact q'
  | x :: l, acc, a, b, hz, q => by
    refine ⟨by rw [List.length_map]; omega, ?_⟩
    refine sums_comp hn lot [] ?_
    have h1 : (blockL n lot x).length ≤ 1000 := Nat.le_trans block_len hl
    have hlen : (x :: l).length = l.length + 1 := rfl
    refine ⟨by rw [List.length_map]; show acc.length + ((blockL n lot x).map tupI).length ≤ _; rw [List.length_map]; omega, ?_⟩
    show forL _ _ _ _ [some (.int n), some (tupI lot), some (.lst (acc.map tupI ++ (blockL n lot x).map tupI)), some (.int x), b] G
    rw [← List.map_append]
    refine sums_loop (D := { D with nx := D.nx }) hn hl l (acc ++ blockL n lot x) (some (.int x)) b (by rw [List.length_append]; omega) ?_
    rw [List.append_assoc]
    exact q
theorem below_tups {k : Nat} {ts : List (List Int)} : below k (.lst (ts.map tupI)) = true := by
  show belowL k (ts.map tupI) = true
  induction ts with
  | nil => rfl
  | cons t ts ih =>
    show (below k (tupI t) && belowL k (ts.map tupI)) = true
    rw [below_tup, ih]; rfl
theorem noObj_tups {ts : List (List Int)} : noObjL (ts.map tupI) = true := by
  induction ts with
  | nil => rfl
  | cons t ts ih =>
    show (noObj (tupI t) && noObjL (ts.map tupI)) = true
    rw [ih]
    have : noObjL (t.map D.int) = true := by
      induction t with
      | nil => rfl
      | cons _ _ ih2 => exact ih2
    show (noObjL (t.map D.int) && true) = true
    rw [this]; rfl
theorem lay_ints : ∀ t : List Int, PyData.canLayAll0 (t.map .int) = true
  | [] => by simp [PyData.canLayAll0]
  | x :: r => by simp [PyData.canLayAll0, PyData.canLay0, lay_ints r]
theorem lay_tups : ∀ ts : List (List Int), PyData.canLayAll0 (ts.map pyT) = true
  | [] => by simp [PyData.canLayAll0]
  | t :: ts => by
    rw [List.map_cons, PyData.canLayAll0, lay_tups ts]
    unfold pyT
    rw [PyData.canLay0, lay_ints]; rfl
theorem okD_tups {ts : List (List Int)} : okD (.lst (ts.map tupI)) = true := by
  unfold okD
  have e : toPy (.lst (ts.map tupI)) = .list (ts.map pyT) := by
    show PyData.list (toPyL (ts.map tupI)) = _
    rw [toPyL_map, List.map_map, show toPy ∘ tupI = pyT from funext toPy_tupI]
  have n : noObj (.lst (ts.map tupI)) = true := noObj_tups
  rw [e, n]
  have hd := depth_pyTs ts
  unfold SeqAt.shaped
  rw [PyData.canLay0, lay_tups]
  have : (PyData.list (ts.map pyT)).depth ≤ 64 := by simp only [PyData.depth]; omega
  rw [decide_eq_true this]; rfl
theorem eqD_tups_nil {ts : List (List Int)} : eqD (.lst (ts.map tupI)) (.lst []) = ts.isEmpty := by
  show PyData.eqv (.list (toPyL (ts.map tupI))) (.list (toPyL [])) = _
  cases ts with
  | nil => simp [toPyL, PyData.eqv, PyData.eqvAll]
  | cons t ts => simp [toPyL, PyData.eqv, PyData.eqvAll]
theorem more_lot {n x : Int} {lot : List Int} (h : Lot n lot) (hx : 0 ≤ x ∧ x < n) (c : x ∉ lot) : Lot n (sortI (lot ++ [x])) ∧ (sortI (lot ++ [x])).length = lot.length + 1 := by
  have := sortI_lot (n := n) (ns := lot ++ [x]) (fun z hz => by
    rcases List.mem_append.mp hz with hz | hz
    · exact h.1 z hz
    · rw [List.mem_singleton.mp hz]; exact hx) (by
    rw [List.nodup_append]
    exact ⟨h.2.imp (fun h => by omega), by simp, fun a ha b hb e => c (by rw [← List.mem_singleton.mp hb, ← e]; exact ha)⟩)
  rw [List.length_append] at this
  exact this
theorem sum_block {n x : Int} {lot r : List Int} {pre : List Int} (hp : lot.Pairwise (· < ·)) (e : pre ++ x :: r = lot) : blockL n lot x = ((x :: r).filter fun y => decide ((x + y) % n ∈ lot)).map fun y => [x, y, (x + y) % n] := by
  unfold blockL
  congr 1
  have hp' := hp
  rw [← e, List.pairwise_append] at hp'
  obtain ⟨_, h2, h3⟩ := hp'
  have e1 : pre.filter (fun y => decide (x ≤ y) && decide ((x + y) % n ∈ lot)) = [] := by
    rw [List.filter_eq_nil_iff]
    intro y hy
    have := h3 y hy x (.head _)
    simp; omega
  have e2 : (x :: r).filter (fun y => decide (x ≤ y) && decide ((x + y) % n ∈ lot)) = (x :: r).filter fun y => decide ((x + y) % n ∈ lot) := by
    refine List.filter_congr fun y hy => ?_
    have : x ≤ y := by
      rcases List.mem_cons.mp hy with h | h
      · omega
      · have := List.rel_of_pairwise_cons h2 h; omega
    rw [decide_eq_true this, Bool.true_and]
  conv => lhs; rw [show lot.filter (fun y => decide (x ≤ y) && decide ((x + y) % n ∈ lot)) = (pre ++ x :: r).filter (fun y => decide (x ≤ y) && decide ((x + y) % n ∈ lot)) by rw [e]]
  rw [List.filter_append, e1, e2, List.nil_append]
theorem ltT_self3 {x y y' z z' : Int} (h : y < y') : ltT [x, y', z'] [x, y, z] = false := by
  simp [ltT]; omega
theorem ltT_gt {x x' : Int} {a b : List Int} (h : x < x') : ltT (x' :: a) (x :: b) = false := by
  simp [ltT]; omega
theorem minT_first : ∀ (ts : List (List Int)) (t : List Int), (∀ u ∈ ts, ltT u t = false) → minT t ts = t
  | [], _, _ => rfl
  | u :: ts, t, h => by
    show minT (if ltT u t = true then u else t) ts = t
    rw [h u (.head _), if_neg (by decide)]
    exact minT_first ts t fun v hv => h v (.tail _ hv)
theorem block_head {n x : Int} {lot : List Int} {u : List Int} (h : u ∈ blockL n lot x) : ∃ y z, u = [x, y, z] := by
  obtain ⟨y, _, rfl⟩ := List.mem_map.mp h
  exact ⟨y, _, rfl⟩
theorem plain_first {n : Int} {lot : List Int} (hp : lot.Pairwise (· < ·)) : ∀ (r pre : List Int), pre ++ r = lot →
    (r.flatMap (blockL n lot) = [] ∧ sumIn n lot r = none) ∨ (∃ x y z ts, r.flatMap (blockL n lot) = [x, y, z] :: ts ∧ sumIn n lot r = some [x, y, z] ∧ x ∈ r ∧ ∀ u ∈ ts, ltT u [x, y, z] = false)
  | [], pre, e => .inl ⟨rfl, rfl⟩
  | x :: r, pre, e => by
    have hb := sum_block (n := n) hp e
    rw [List.flatMap_cons]
    have hpr : (x :: r).Pairwise (· < ·) := by rw [← e, List.pairwise_append] at hp; exact hp.2.1
    unfold sumIn
    cases hf : (x :: r).find? (fun y => decide ((x + y) % n ∈ lot)) with
    | none =>
      have : blockL n lot x = [] := by
        rw [hb, List.filter_eq_nil_iff.mpr, List.map_nil]
        intro y hy
        exact List.find?_eq_none.mp hf y hy
      rw [this, List.nil_append]
      rcases plain_first hp r (pre ++ [x]) (by rw [List.append_assoc]; exact e) with ⟨h1, h2⟩ | ⟨a, b, c, ts, h1, h2, h3, h4⟩
      · exact .inl ⟨h1, h2⟩
      · exact .inr ⟨a, b, c, ts, h1, h2, .tail _ h3, h4⟩
    | some y =>
      obtain ⟨as, bs, e1, e2⟩ : ∃ as bs, x :: r = as ++ y :: bs ∧ ∀ z ∈ as, ¬ decide ((x + z) % n ∈ lot) = true := by
        obtain ⟨_, as, bs, h1, h2⟩ := List.find?_eq_some_iff_append.mp hf
        exact ⟨as, bs, h1, fun z hz hh => by have := h2 z hz; rw [hh] at this; cases this⟩
      have hy := List.find?_some hf
      have eb : blockL n lot x = [x, y, (x + y) % n] :: (bs.filter fun y => decide ((x + y) % n ∈ lot)).map fun y => [x, y, (x + y) % n] := by
        rw [hb, e1, List.filter_append, List.filter_eq_nil_iff.mpr e2, List.nil_append, List.filter_cons, if_pos hy, List.map_cons]
      refine .inr ⟨x, y, (x + y) % n, _, by rw [eb]; rfl, rfl, .head _, fun u hu => ?_⟩
      rcases List.mem_append.mp hu with hu | hu
      · obtain ⟨z, hz, rfl⟩ := List.mem_map.mp hu
        rw [e1, List.pairwise_append] at hpr
        exact ltT_self3 (List.rel_of_pairwise_cons hpr.2.1 (List.mem_filter.mp hz).1)
      · obtain ⟨x', hx', hu⟩ := List.mem_flatMap.mp hu
        obtain ⟨p, q, rfl⟩ := block_head hu
        exact ltT_gt (List.rel_of_pairwise_cons hpr hx')
theorem first_plain {n : Int} {lot : List Int} (hp : Lot n lot) : (sumsL n lot = [] ∧ sumIn n lot lot = none) ∨ ∃ x y z ts, sumsL n lot = [x, y, z] :: ts ∧ sumIn n lot lot = some [x, y, z] ∧ minT [x, y, z] ts = [x, y, z] := by
  rcases plain_first hp.2 lot [] rfl with h | ⟨x, y, z, ts, h1, h2, _, h4⟩
  · exact .inl h
  · exact .inr ⟨x, y, z, ts, h1, h2, minT_first ts _ h4⟩
theorem firstBad_ok {n : Int} : ∀ {lot : List Int} {p : Option D} {i : Nat}, (∀ x ∈ lot, 0 ≤ x ∧ x < n) → lot.Pairwise (· < ·) → (∀ x ∈ lot, ltOD p (.int x) = true) → firstBad n p i (lot.map .int) = none
  | [], _, _, _, _, _ => rfl
  | x :: r, p, i, h1, h2, h3 => by
    rw [List.map_cons, firstBad, if_pos]
    · exact firstBad_ok (fun y hy => h1 y (.tail _ hy)) h2.of_cons fun y hy => decide_eq_true (List.rel_of_pairwise_cons h2 hy)
    · rw [h3 x (.head _), Bool.and_true]
      obtain ⟨a, b⟩ := h1 x (.head _)
      show (decide (0 ≤ x) && decide (x ≤ n - 1)) = true
      rw [decide_eq_true a, decide_eq_true (by omega)]; rfl
theorem lotErr_ok {n : Int} {lot : List Int} (h1 : 1 ≤ n) (h2 : n ≤ 60) (h : Lot n lot) : lotErr (.int n) (tupI lot) = none := by
  unfold lotErr
  rw [if_pos (by show (decide (1 ≤ n) && decide (n ≤ 60)) = true; rw [decide_eq_true h1, decide_eq_true h2]; rfl)]
  show Option.map _ (firstBad n none 0 (lot.map .int)) = none
  rw [firstBad_ok h.1 h.2 fun _ _ => rfl]; rfl
theorem plains_tupI {lot : List Int} : plains (tupI lot) = true := by
  show (lot.map D.int).all plainD = true
  rw [List.all_map, List.all_eq_true]; intro _ _; rfl
/-- a comprehension over one name: what stays, what is made of it -/
theorem lc_fm {α : Type} {e f : α → D} {p : α → Bool} {i : Nat} {tt : TTd} {te : TEd} {ρ : Rho} {G : GS} {Q : List D → GS → Prop} : ∀ (l : List α) (acc : List D),
    (∀ x ∈ l, ∀ (Q' : Bool → GS → Prop) Ed, Q' (p x) G → tt (ρ.set i (some (e x))) G Q' Ed) → (∀ x ∈ l, p x = true → ∀ (Q' : QD) Ed, Q' (f x) G → te (ρ.set i (some (e x))) G Q' Ed) →
    Q (acc ++ (l.filter p).map f) G → lcL (gNameD i) tt te (l.map e) acc ρ G Q
  | [], acc, _, _, q => by rw [List.filter_nil, List.map_nil, List.append_nil] at q; exact q
  | x :: l, acc, h1, h2, q => by
    refine h1 x (.head _) _ _ ?_
    cases hp : p x with
    | true =>
      refine h2 x (.head _) hp _ _ ?_
      refine lc_fm l _ (fun y hy => h1 y (.tail _ hy)) (fun y hy => h2 y (.tail _ hy)) ?_
      rw [List.filter_cons, if_pos hp] at q
      rw [List.append_assoc]
      exact q
    | false =>
      refine lc_fm l _ (fun y hy => h1 y (.tail _ hy)) (fun y hy => h2 y (.tail _ hy)) ?_
      rw [List.filter_cons, if_neg (by rw [hp]; decide)] at q
      exact q
/-- a loop that returns at the first that is p -/
theorem for_find {α : Type} {e f : α → D} {p : α → Bool} {i : Nat} {tb : TSd} {ρ : Rho} {G : GS} {D : EndsD} : ∀ (l : List α) (v : Option Y.D),
    (∀ x ∈ l, ∀ (D' : EndsD), D'.rt = D.rt → D'.er = D.er → (if p x = true then D.rt (f x) G else D'.nx (ρ.set i (some (e x))) G) → tb D' (ρ.set i (some (e x))) G) →
    (match l.find? p with | some x => D.rt (f x) G | none => ∀ v, D.nx (ρ.set i v) G) → forL (gNameD i) tb D (l.map e) (ρ.set i v) G
  | [], v, _, q => q v
  | x :: l, v, h, q => by
    show tb _ ((ρ.set i v).set i (some (e x))) G
    rw [List.set_set]
    refine h x (.head _) _ rfl rfl ?_
    rw [List.find?_cons] at q
    cases hp : p x with
    | true => rw [hp] at q; rw [if_pos rfl]; exact q
    | false =>
      rw [hp] at q
      rw [if_neg (by decide)]
      exact for_find l (some (e x)) (fun y hy => h y (.tail _ hy)) q
def rangeI (n : Int) : List Int := (List.range n.toNat).map fun i : Nat => ((0 : Int) + (i : Int))
theorem rngD_0 {n : Int} : rngD 0 n.toNat = (rangeI n).map .int := rngD_ints
theorem mem_rangeI {n x : Int} : x ∈ rangeI n ↔ 0 ≤ x ∧ x < n := by
  unfold rangeI
  rw [List.mem_map]
  constructor
  · rintro ⟨i, hi, rfl⟩
    have := List.mem_range.mp hi
    omega
  · rintro ⟨h1, h2⟩
    exact ⟨x.toNat, List.mem_range.mpr (by omega), by omega⟩
theorem length_rangeI {n : Int} : (rangeI n).length = n.toNat := by unfold rangeI; rw [List.length_map, List.length_range]
theorem below_ints {k : Nat} {t : List Int} : below k (.lst (t.map .int)) = true := below_tup (t := t)
def freeB (n : Int) (lot : List Int) : Bool := (sumIn n lot lot).isNone
def addL (n : Int) (lot : List Int) : List Int := (rangeI n).filter fun x => !decide (x ∈ lot) && freeB n (sortI (lot ++ [x]))
theorem tup_inj {a b : List Int} (h : tupI a = tupI b) : a = b := by
  have := congrArg (fun d => match d with | D.tup ds => intsD ds | _ => none) h
  have h : intsD (a.map .int) = intsD (b.map .int) := this
  rw [intsD_map, intsD_map] at h
  exact Option.some.inj h
theorem asc_len : ∀ (l : List Int) (a b : Int), (∀ x ∈ l, a ≤ x ∧ x < b) → l.Pairwise (· < ·) → l.length ≤ (b - a).toNat
  | [], _, _, _, _ => Nat.zero_le _
  | x :: r, a, b, h, hp => by
    have := h x (.head _)
    have ih := asc_len r (x + 1) b (fun y hy => by
      have h1 := List.rel_of_pairwise_cons hp hy
      have h2 := h y (.tail _ hy)
      omega) hp.of_cons
    show r.length + 1 ≤ _
    omega
theorem lot_short {n : Int} {lot : List Int} (h : Lot n lot) : lot.length ≤ n.toNat := by
  have := asc_len lot 0 n h.1 h.2
  rwa [Int.sub_zero] at this
theorem free_eq {n : Int} {lot : List Int} (h : Lot n lot) : (sumsL n lot).isEmpty = freeB n lot := by
  unfold freeB
  rcases first_plain h with ⟨a, b⟩ | ⟨x, y, z, ts, a, b, _⟩ <;> (rw [a, b]; rfl)
theorem okD_ints {l : List Int} : okD (.lst (l.map .int)) = true := by
  unfold okD
  have e : toPy (.lst (l.map .int)) = .list (l.map .int) := by
    show PyData.list (toPyL (l.map .int)) = _
    rw [toPyL_map, List.map_map]; rfl
  have n : noObj (.lst (l.map .int)) = true := by
    show noObjL (l.map D.int) = true
    induction l with
    | nil => rfl
    | cons _ _ ih => exact ih (by show PyData.list (toPyL _) = _; rw [toPyL_map, List.map_map]; rfl)
  rw [e, n]
  unfold SeqAt.shaped
  rw [PyData.canLay0, lay_ints]
  have hd := depth_ints l
  have : (PyData.list (l.map .int)).depth ≤ 64 := by simp only [PyData.depth]; omega
  rw [decide_eq_true this]; rfl
theorem eqD_ints_nil {l : List Int} : eqD (.lst (l.map .int)) (.lst []) = l.isEmpty := by
  show PyData.eqv (.list (toPyL (l.map .int))) (.list (toPyL [])) = _
  cases l with
  | nil => simp [toPyL, PyData.eqv, PyData.eqvAll]
  | cons t ts => simp [toPyL, PyData.eqv, PyData.eqvAll]
theorem dep1_ints {l : List Int} (h : l.length ≤ 1000000) : dep 1 (.lst (l.map .int)) = true := by
  show ((l.map D.int).all (dep 0) && decide ((l.map D.int).length ≤ 1000000)) = true
  rw [List.length_map, decide_eq_true h, Bool.and_true, List.all_map, List.all_eq_true]
  intro _ _; rfl
theorem addL_eq {n : Int} {lot : List Int} (h : Lot n lot) : ((rangeI n).filter fun x => !decide (x ∈ lot)).filter (fun x => (sumsL n (sortI (lot ++ [x]))).isEmpty) = addL n lot := by
  unfold addL
  rw [List.filter_filter]
  refine List.filter_congr fun x hx => ?_
  by_cases c : x ∈ lot
  · simp [c]
  · have hm := (more_lot h (mem_rangeI.mp hx) c).1
    rw [free_eq hm, decide_eq_false c]
    simp
theorem rangeI_cons {n : Int} (h : 1 ≤ n) : rangeI n = 0 :: ((List.range (n - 1).toNat).map fun i : Nat => ((1 : Int) + (i : Int))) := by
  unfold rangeI
  have e : n.toNat = (n - 1).toNat + 1 := by omega
  rw [e, List.range_succ_eq_map, List.map_cons, List.map_map]
  congr 1
  refine List.map_congr_left fun i _ => ?_
  show (0 : Int) + ((i + 1 : Nat) : Int) = 1 + (i : Int)
  omega
theorem find_congr {α : Type} {p q : α → Bool} : ∀ {l : List α}, (∀ x ∈ l, p x = q x) → l.find? p = l.find? q
  | [], _ => rfl
  | x :: r, h => by
    rw [List.find?_cons, List.find?_cons, h x (.head _), find_congr fun y hy => h y (.tail _ hy)]
def okLast (row : List Int) (x : Int) : Bool := match row.getLast? with
  | none => true
  | some y => decide (y ≤ x)
/-- the rows of so many of a lot, ascending -/
def rowsL (lot : List Int) : Nat → List (List Int)
  | 0 => [[]]
  | k + 1 => (rowsL lot k).flatMap fun row => (lot.filter (okLast row)).map fun x => row ++ [x]
theorem length_flat {α β : Type} {f : α → List β} {m : Nat} : ∀ (l : List α), (∀ x ∈ l, (f x).length ≤ m) → (l.flatMap f).length ≤ l.length * m
  | [], _ => by simp
  | x :: r, h => by
    rw [List.flatMap_cons, List.length_append, List.length_cons, Nat.add_mul, Nat.one_mul]
    have := h x (.head _)
    have := length_flat r fun y hy => h y (.tail _ hy)
    omega
theorem rowsL_length {lot : List Int} : ∀ k, (rowsL lot k).length ≤ lot.length ^ k
  | 0 => by simp [rowsL]
  | k + 1 => by
    have h := length_flat (f := fun row => (lot.filter (okLast row)).map fun x => row ++ [x]) (m := lot.length) (rowsL lot k) fun row _ => by
      rw [List.length_map]; exact List.length_filter_le _ _
    have := Nat.mul_le_mul_right lot.length (rowsL_length (lot := lot) k)
    rw [Nat.pow_succ]
    exact Nat.le_trans h this
theorem rowsL_len {lot : List Int} : ∀ k, ∀ row ∈ rowsL lot k, row.length = k
  | 0, row, h => by rw [List.mem_singleton.mp h]; rfl
  | k + 1, row, h => by
    obtain ⟨r, hr, h⟩ := List.mem_flatMap.mp h
    obtain ⟨x, _, rfl⟩ := List.mem_map.mp h
    rw [List.length_append, rowsL_len k r hr]; rfl
theorem atI_last' {row : List Int} {y : Int} (h : row.getLast? = some y) : atI (row.map D.int) (-1) = some (.int y) := by
  obtain ⟨ys, rfl⟩ : ∃ ys, row = ys ++ [y] := List.getLast?_eq_some_iff.mp h
  rw [List.map_append]
  exact atI_last _ _
theorem okD_tupI {row : List Int} : okD (tupI row) = true := by
  unfold okD
  have n : noObj (tupI row) = true := by
    show noObjL (row.map D.int) = true
    induction row with
    | nil => rfl
    | cons _ _ ih => exact ih
  rw [toPy_tupI, n]
  unfold SeqAt.shaped pyT
  rw [PyData.canLay0, lay_ints]
  have hd := depth_ints row
  have : (PyData.tuple (row.map .int)).depth ≤ 64 := by simp only [PyData.depth]; omega
  rw [decide_eq_true this]; rfl
theorem eqD_tup_nil {row : List Int} : eqD (tupI row) (.tup []) = row.isEmpty := by
  show PyData.eqv (.tuple (toPyL (row.map .int))) (.tuple (toPyL [])) = _
  cases row with
  | nil => simp [toPyL, PyData.eqv, PyData.eqvAll]
  | cons t ts => simp [toPyL, PyData.eqv, PyData.eqvAll]
theorem last_nil {row : List Int} : row.isEmpty = true ↔ row.getLast? = none := by
  cases row <;> simp
theorem ltT_app : ∀ {r r' a b : List Int}, r.length = r'.length → ltT r r' = true → ltT (r ++ a) (r' ++ b) = true
  | [], [], _, _, _, h => by cases h
  | [], _ :: _, _, _, e, _ => by cases e
  | _ :: _, [], _, _, e, _ => by cases e
  | x :: r, y :: t, a, b, e, h => by
    have e' : r.length = t.length := by simpa using e
    simp only [ltT, Bool.or_eq_true, Bool.and_eq_true, decide_eq_true_eq] at h
    show (decide (x < y) || (decide (x = y) && ltT (r ++ a) (t ++ b))) = true
    simp only [Bool.or_eq_true, Bool.and_eq_true, decide_eq_true_eq]
    rcases h with h | ⟨h1, h2⟩
    · exact .inl h
    · exact .inr ⟨h1, ltT_app e' h2⟩
theorem ltT_same {x y : Int} : ∀ {r : List Int}, x < y → ltT (r ++ [x]) (r ++ [y]) = true
  | [], h => by simp [ltT, h]
  | z :: r, h => by
    show (decide (z < z) || (decide (z = z) && ltT (r ++ [x]) (r ++ [y]))) = true
    simp [ltT_same (r := r) h]
theorem ltT_asymm : ∀ {a b : List Int}, ltT a b = true → ltT b a = false
  | [], [], h => by cases h
  | [], _ :: _, _ => rfl
  | _ :: _, [], h => by cases h
  | x :: r, y :: t, h => by
    simp only [ltT, Bool.or_eq_true, Bool.and_eq_true, decide_eq_true_eq] at h
    show (decide (y < x) || (decide (y = x) && ltT t r)) = false
    rcases h with h | ⟨h1, h2⟩
    · have a1 : ¬ y < x := by omega
      have a2 : ¬ y = x := by omega
      simp [a1, a2]
    · subst h1
      simp [ltT_asymm h2]
theorem asc_flat {m : Nat} {ys : List Int → List Int} : ∀ (l : List (List Int)), (∀ r ∈ l, r.length = m) → (∀ r ∈ l, (ys r).Pairwise (· < ·)) → l.Pairwise (fun a b => ltT a b = true) →
    (l.flatMap fun r => (ys r).map fun x => r ++ [x]).Pairwise (fun a b => ltT a b = true)
  | [], _, _, _ => .nil
  | r :: l, h1, h2, h3 => by
    rw [List.flatMap_cons, List.pairwise_append]
    refine ⟨?_, asc_flat l (fun s hs => h1 s (.tail _ hs)) (fun s hs => h2 s (.tail _ hs)) h3.of_cons, fun a ha b hb => ?_⟩
    · rw [List.pairwise_map]
      exact (h2 r (.head _)).imp fun h => ltT_same h
    · obtain ⟨x, _, rfl⟩ := List.mem_map.mp ha
      obtain ⟨s, hs, hb⟩ := List.mem_flatMap.mp hb
      obtain ⟨y, _, rfl⟩ := List.mem_map.mp hb
      exact ltT_app ((h1 r (.head _)).trans (h1 s (.tail _ hs)).symm) (List.rel_of_pairwise_cons h3 hs)
theorem rowsL_asc {lot : List Int} (hp : lot.Pairwise (· < ·)) : ∀ k, (rowsL lot k).Pairwise (fun a b => ltT a b = true)
  | 0 => List.pairwise_singleton _ _
  | k + 1 => asc_flat (m := k) (ys := fun row => lot.filter (okLast row)) (rowsL lot k) (rowsL_len k) (fun _ _ => hp.filter _) (rowsL_asc hp k)
theorem minT_asc {t : List Int} {ts : List (List Int)} (h : (t :: ts).Pairwise (fun a b => ltT a b = true)) : minT t ts = t :=
  minT_first ts t fun _ hu => ltT_asymm (List.rel_of_pairwise_cons h hu)
theorem tup_app {r s : List Int} : (D.tup (r.map .int ++ s.map .int) : D) = tupI (r ++ s) := by unfold tupI; rw [List.map_append]
def range1 (n : Int) : List Int := (List.range (n - 1).toNat).map fun i : Nat => ((1 : Int) + (i : Int))
theorem rngD_1 {n : Int} : rngD 1 (n - 1).toNat = (range1 n).map .int := by unfold rngD range1; rw [List.map_map]; rfl
theorem length_range1 {n : Int} : (range1 n).length = (n - 1).toNat := by unfold range1; rw [List.length_map, List.length_range]
theorem mem_range1 {n x : Int} : x ∈ range1 n ↔ 1 ≤ x ∧ x < n := by
  unfold range1
  rw [List.mem_map]
  constructor
  · rintro ⟨i, hi, rfl⟩
    have := List.mem_range.mp hi
    omega
  · rintro ⟨h1, h2⟩
    exact ⟨(x - 1).toNat, List.mem_range.mpr (by omega), by omega⟩
/-- every lot so far, and those that stay free with a rest more -/
def stepF (fr : List Int → Bool) (acc : List (List Int)) (r : Int) : List (List Int) := acc ++ (acc.filter fun l => fr (l ++ [r])).map fun l => l ++ [r]
theorem stepF_length {fr : List Int → Bool} {acc : List (List Int)} {r : Int} : (stepF fr acc r).length ≤ acc.length * 2 := by
  unfold stepF
  rw [List.length_append, List.length_map]
  have := List.length_filter_le (fun l => fr (l ++ [r])) acc
  omega
theorem stepF_len {fr : List Int → Bool} {acc : List (List Int)} {r : Int} {m : Nat} (h : ∀ l ∈ acc, l.length ≤ m) : ∀ l ∈ stepF fr acc r, l.length ≤ m + 1 := fun l hl => by
  rcases List.mem_append.mp hl with hl | hl
  · have := h l hl; omega
  · obtain ⟨x, hx, rfl⟩ := List.mem_map.mp hl
    have := h x (List.mem_filter.mp hx).1
    rw [List.length_append]
    show x.length + 1 ≤ m + 1
    omega
def freeLots (n : Int) : List (List Int) := sortT ((range1 n).foldl (stepF (freeB n)) [[]])
/-- a loop by what is so ahead of each thing -/
theorem for_inv {g : TGd} {tb : TSd} {D : EndsD} {I : List Y.D → Rho → GS → Prop} : ∀ (l : List Y.D) (ρ : Rho) (G : GS), I l ρ G →
    (∀ x r ρ G, I (x :: r) ρ G → ∀ D' : EndsD, D'.rt = D.rt → D'.er = D.er → D'.bk = D.nx → (∀ ρ' G', I r ρ' G' → D'.nx ρ' G') → (∀ ρ' G', I r ρ' G' → D'.ct ρ' G') → g x ρ G (fun ρ2 G2 => tb D' ρ2 G2)) →
    (∀ ρ G, I [] ρ G → D.nx ρ G) → forL g tb D l ρ G
  | [], ρ, G, h, _, q => q ρ G h
  | x :: r, ρ, G, h, st, q => st x r ρ G h { D with nx := forL g tb D r, ct := forL g tb D r, bk := D.nx } rfl rfl rfl (fun ρ' G' h' => for_inv r ρ' G' h' st q) (fun ρ' G' h' => for_inv r ρ' G' h' st q)
/-- a loop over mapped things, by what is so behind a part of them -/
theorem for_pre {α : Type} {e : α → Y.D} {g : TGd} {tb : TSd} {D : EndsD} (R : List α → Rho → GS → Prop) (l : List α) {ρ : Rho} {G : GS} (h0 : R [] ρ G)
    (st : ∀ (pre : List α) (x : α) (post : List α), l = pre ++ x :: post → ∀ ρ G, R pre ρ G → ∀ D' : EndsD, D'.rt = D.rt → D'.er = D.er → D'.bk = D.nx → (∀ ρ' G', R (pre ++ [x]) ρ' G' → D'.nx ρ' G') → (∀ ρ' G', R (pre ++ [x]) ρ' G' → D'.ct ρ' G') → g (e x) ρ G (fun ρ2 G2 => tb D' ρ2 G2))
    (q : ∀ ρ G, R l ρ G → D.nx ρ G) : forL g tb D (l.map e) ρ G := by
  have main : ∀ (r pre : List α) (ρ : Rho) (G : GS), l = pre ++ r → R pre ρ G → forL g tb D (r.map e) ρ G := by
    intro r
    induction r with
    | nil => intro pre ρ G el h; rw [List.append_nil] at el; exact q ρ G (el ▸ h)
    | cons x r ih =>
      intro pre ρ G el h
      exact st pre x r el ρ G h { D with nx := forL g tb D (r.map e), ct := forL g tb D (r.map e), bk := D.nx } rfl rfl rfl
        (fun ρ' G' h' => ih (pre ++ [x]) ρ' G' (by rw [List.append_assoc]; exact el) h') (fun ρ' G' h' => ih (pre ++ [x]) ρ' G' (by rw [List.append_assoc]; exact el) h')
  exact main l [] ρ G rfl h0
/-- a while by a measure -/
theorem while_inv {c : TTd} {tb : TSd} {D : EndsD} (I : Nat → Rho → GS → Prop)
    (st : ∀ n ρ G, I n ρ G → ∀ D' : EndsD, D'.rt = D.rt → D'.er = D.er → D'.bk = D.nx → (∀ m ρ' G', m < n → I m ρ' G' → D'.nx ρ' G') → (∀ m ρ' G', m < n → I m ρ' G' → D'.ct ρ' G') →
      c ρ G (fun b G1 => if b = true then tb D' ρ G1 else D.nx ρ G1) (fun e G1 => D.er e ρ G1)) {n : Nat} {ρ : Rho} {G : GS} (h : I n ρ G) : ∃ n, whileN c tb D n ρ G := by
  have main : ∀ f n ρ G, n < f → I n ρ G → whileN c tb D f ρ G := by
    intro f
    induction f with
    | zero => intro n ρ G h; exact absurd h (Nat.not_lt_zero _)
    | succ f ih =>
      intro n ρ G hf h
      exact st n ρ G h { D with nx := whileN c tb D f, ct := whileN c tb D f, bk := D.nx } rfl rfl rfl (fun m ρ' G' hm h' => ih m ρ' G' (by omega) h') (fun m ρ' G' hm h' => ih m ρ' G' (by omega) h')
  exact ⟨n + 1, main (n + 1) n ρ G (Nat.lt_succ_self n) h⟩
/-- a comprehension, whatever its target: what stays, what is made of it -/
theorem lc_gen {α : Type} {e f : α → D} {p : α → Bool} {g : TGd} {tt : TTd} {te : TEd} {ρ : Rho} {G : GS} {Q : List D → GS → Prop} : ∀ (l : List α) (acc : List D),
    (∀ x ∈ l, ∀ (K : D → GS → Prop) (J : GS → Prop), (if p x = true then K (f x) G else J G) →
      g (e x) ρ G (fun ρ2 G2 => tt ρ2 G2 (fun b G3 => if b = true then te ρ2 G3 K (fun _ _ => False) else J G3) (fun _ _ => False))) →
    Q (acc ++ (l.filter p).map f) G → lcL g tt te (l.map e) acc ρ G Q
  | [], acc, _, q => by rw [List.filter_nil, List.map_nil, List.append_nil] at q; exact q
  | x :: l, acc, h, q => by
    refine h x (.head _) (fun d G4 => lcL g tt te (l.map e) (acc ++ [d]) ρ G4 Q) (fun G3 => lcL g tt te (l.map e) acc ρ G3 Q) ?_
    cases hp : p x with
    | true =>
      rw [if_pos rfl]
      refine lc_gen l _ (fun y hy => h y (.tail _ hy)) ?_
      rw [List.filter_cons, if_pos hp] at q
      rw [List.append_assoc]
      exact q
    | false =>
      rw [if_neg (by decide)]
      refine lc_gen l _ (fun y hy => h y (.tail _ hy)) ?_
      rw [List.filter_cons, if_neg (by rw [hp]; decide)] at q
      exact q
/-- a comprehension of two clauses -/
theorem lc2_gen {α : Type} {e : α → D} {F : α → List D} {p : α → Bool} {g : TGd} {tt : TTd} {wi1 : TId} {g1 : TGd} {tt1 : TTd} {te : TEd} {vs1 : List Nat} {ρ : Rho} {G : GS} {Q : List D → GS → Prop} (m : Nat) : ∀ (l : List α) (acc : List D),
    acc.length + l.length * m ≤ 16777216 → (∀ x ∈ l, (F x).length ≤ m) →
    (∀ x ∈ l, ∀ (acc : List D) (K : List D → GS → Prop) (J : GS → Prop), acc.length + m ≤ 16777216 → (if p x = true then K (acc ++ F x) G else J G) →
      g (e x) ρ G (fun ρ2 G2 => tt ρ2 G2 (fun b G3 => if b = true then wi1 ρ2 G3 (fun ds1 G4 => acc.length + ds1.length ≤ 16777216 ∧ lcL g1 tt1 te ds1 acc (wipeD ρ2 vs1) G4 K) (fun _ _ => False) else J G3) (fun _ _ => False))) →
    Q (acc ++ (l.filter p).flatMap F) G → lcL2 g tt wi1 g1 tt1 te vs1 (l.map e) acc ρ G Q
  | [], acc, _, _, _, q => by rw [List.filter_nil, List.flatMap_nil, List.append_nil] at q; exact q
  | x :: l, acc, hz, hF, h, q => by
    have hm : (x :: l).length * m = l.length * m + m := by rw [List.length_cons, Nat.add_mul, Nat.one_mul]
    refine h x (.head _) acc (fun acc2 G5 => lcL2 g tt wi1 g1 tt1 te vs1 (l.map e) acc2 ρ G5 Q) (fun G3 => lcL2 g tt wi1 g1 tt1 te vs1 (l.map e) acc ρ G3 Q) (by omega) ?_
    have hx := hF x (.head _)
    cases hp : p x with
    | true =>
      rw [if_pos rfl]
      refine lc2_gen m l _ (by rw [List.length_append]; omega) (fun y hy => hF y (.tail _ hy)) (fun y hy => h y (.tail _ hy)) ?_
      rw [List.filter_cons, if_pos hp] at q
      rw [List.append_assoc]
      exact q
    | false =>
      rw [if_neg (by decide)]
      refine lc2_gen m l _ (by omega) (fun y hy => hF y (.tail _ hy)) (fun y hy => h y (.tail _ hy)) ?_
      rw [List.filter_cons, if_neg (by rw [hp]; decide)] at q
      exact q
theorem okD_str {s : Str} (h : PyData.strOk s = true) : okD (.str s) = true := by
  show (true && SeqAt.shaped (.str s)) = true
  unfold SeqAt.shaped
  simp [PyData.canLay0, PyData.depth, h]
theorem eqD_strs {s t : Str} : eqD (.str s) (.str t) = decide (s = t) := by
  show PyData.eqv (.str s) (.str t) = _
  rw [PyData.eqv]
  by_cases c : s = t
  · subst c; simp
  · simp [c]
/-- a test of a text -/
theorem str_if {a b : Str} {A B : Prop} (q : if a = b then A else B) (ha : PyData.strOk a = true := by decide +kernel) (hb : PyData.strOk b = true := by decide +kernel) :
    okD (.str a) = true ∧ okD (.str b) = true ∧ (if eqD (.str a) (.str b) = true then A else B) := by
  refine ⟨okD_str ha, okD_str hb, ?_⟩
  rw [eqD_strs]
  by_cases c : a = b
  · rw [if_pos c] at q; rw [decide_eq_true c, if_pos rfl]; exact q
  · rw [if_neg c] at q; rw [decide_eq_false c, if_neg (by decide)]; exact q
theorem lotErr_cases {dn dl : D} {e : Er} (h : lotErr dn dl = some e) : e = ⟨"BadRound", none⟩ ∨ ∃ d, e = ⟨"BadLot", some ("index", d)⟩ ∧ ∀ k, below k d = true := by
  unfold lotErr at h
  split at h
  · split at h
    · obtain ⟨i, _, rfl⟩ := Option.map_eq_some_iff.mp h
      exact .inr ⟨_, rfl, fun _ => rfl⟩
    · cases h; exact .inr ⟨_, rfl, fun _ => rfl⟩
  · cases h; exact .inl rfl
/-- the last numbered list takes a thing more -/
theorem append_last {G : GS} {ds : List D} {d : D} {Q : QD} (hl : ds.length < 16777216) (q : Q .non (G ++ [.lst (ds ++ [d])])) : tMetD.isLstD (G ++ [.lst ds]) (.obj G.length) ∧ rAppendD (.obj G.length) [d] (G ++ [.lst ds]) Q := by
  have eg := getLast_set (G := G) (m := MO.lst ds) (m' := MO.lst (ds ++ [d]))
  refine ⟨⟨_, _, rfl, eg.1⟩, ?_⟩
  unfold rAppendD
  simp only [eg.1]
  exact ⟨hl, by rw [eg.2]; exact q⟩
theorem frz_last {G : GS} {ds : List D} {Q : QD} (q : Q (.lst ds) (G ++ [.dead])) : frzD (.obj G.length) (G ++ [.lst ds]) Q := by
  have eg := getLast_set (G := G) (m := MO.lst ds) (m' := MO.dead)
  unfold frzD
  simp only [eg.1]
  rw [eg.2]; exact q
theorem grew_one {G : GS} {m : MO} : GrewFrom G (G ++ [m]) := ⟨_, rfl⟩
/-- the numbers from a to b - 1 -/
def rngI (a b : Int) : List Int := (List.range (b - a).toNat).map fun i : Nat => a + (i : Int)
theorem rngD_ab {a b : Int} : rngD a (b - a).toNat = (rngI a b).map .int := by unfold rngD rngI; rw [List.map_map]; rfl
theorem length_rngI {a b : Int} : (rngI a b).length = (b - a).toNat := by unfold rngI; rw [List.length_map, List.length_range]
theorem mem_rngI {a b x : Int} : x ∈ rngI a b ↔ a ≤ x ∧ x < b := by
  unfold rngI
  rw [List.mem_map]
  constructor
  · rintro ⟨i, hi, rfl⟩
    have := List.mem_range.mp hi
    omega
  · rintro ⟨h1, h2⟩
    exact ⟨(x - a).toNat, List.mem_range.mpr (by omega), by omega⟩
theorem rngI_asc {a b : Int} : (rngI a b).Pairwise (· < ·) := by
  unfold rngI
  rw [List.pairwise_map]
  exact List.pairwise_lt_range.imp fun h => by omega
theorem rangeI_rngI {n : Int} : rangeI n = rngI 0 n := by unfold rangeI rngI; rw [Int.sub_zero]
theorem range1_rngI {n : Int} : range1 n = rngI 1 n := rfl
theorem rangeI_lot {n : Int} : Lot n (rangeI n) := ⟨fun _ h => mem_rangeI.mp h, by rw [rangeI_rngI]; exact rngI_asc⟩
theorem Lot.sub {n : Int} {a b : List Int} (h : Lot n b) (s : a.Sublist b) : Lot n a := ⟨fun x hx => h.1 x (s.subset hx), h.2.sublist s⟩
theorem fold_sub {fr : List Int → Bool} : ∀ (r : List Int) (acc : List (List Int)) (base : List Int), (∀ l ∈ acc, l.Sublist base) → ∀ l ∈ r.foldl (stepF fr) acc, l.Sublist (base ++ r)
  | [], acc, base, h, l, hl => by rw [List.append_nil]; exact h l hl
  | x :: r, acc, base, h, l, hl => by
    have := fold_sub (fr := fr) r (stepF fr acc x) (base ++ [x]) (fun m hm => by
      rcases List.mem_append.mp hm with hm | hm
      · exact (h m hm).trans (List.sublist_append_left _ _)
      · obtain ⟨y, hy, rfl⟩ := List.mem_map.mp hm
        exact (h y (List.mem_filter.mp hy).1).append (List.Sublist.refl _)) l hl
    rw [List.append_assoc] at this
    exact this
theorem fold_sub0 {fr : List Int → Bool} {r l : List Int} (h : l ∈ r.foldl (stepF fr) [[]]) : l.Sublist r := by
  have := fold_sub (fr := fr) r [[]] [] (fun m hm => by rw [List.mem_singleton.mp hm]; exact List.Sublist.refl _) l h
  exact this
theorem fold_many {fr : List Int → Bool} : ∀ (r : List Int) (acc : List (List Int)), (r.foldl (stepF fr) acc).length ≤ acc.length * 2 ^ r.length
  | [], acc => by simp
  | x :: r, acc => by
    have h1 := fold_many (fr := fr) r (stepF fr acc x)
    have h2 := Nat.mul_le_mul_right (2 ^ r.length) (stepF_length (fr := fr) (acc := acc) (r := x))
    have h3 : acc.length * 2 * 2 ^ r.length = acc.length * 2 ^ (r.length + 1) := by rw [Nat.pow_succ, Nat.mul_assoc, Nat.mul_comm 2]
    show (r.foldl (stepF fr) (stepF fr acc x)).length ≤ acc.length * 2 ^ (r.length + 1)
    omega
theorem fold_congr {f g : List Int → Bool} {n : Int} (h : ∀ l, Lot n l → f l = g l) : ∀ (r pre : List Int) (acc : List (List Int)), Lot n (pre ++ r) → (∀ l ∈ acc, l.Sublist pre) → r.foldl (stepF f) acc = r.foldl (stepF g) acc
  | [], _, _, _, _ => rfl
  | x :: r, pre, acc, hl, ha => by
    have hs : ∀ l ∈ acc, (l ++ [x]).Sublist (pre ++ x :: r) := fun l hm => (ha l hm).append (List.singleton_sublist.mpr (.head _))
    have e : stepF f acc x = stepF g acc x := by
      unfold stepF
      congr 2
      exact List.filter_congr fun l hm => h _ (hl.sub (hs l hm))
    show r.foldl (stepF f) (stepF f acc x) = r.foldl (stepF g) (stepF g acc x)
    rw [e]
    refine fold_congr h r (pre ++ [x]) _ (by rw [List.append_assoc]; exact hl) fun m hm => ?_
    rcases List.mem_append.mp hm with hm | hm
    · exact (ha m hm).trans (List.sublist_append_left _ _)
    · obtain ⟨y, hy, rfl⟩ := List.mem_map.mp hm
      exact (ha y (List.mem_filter.mp hy).1).append (List.Sublist.refl _)
theorem freeB_zero {n : Int} (hn : 0 < n) : freeB n [0] = false := by
  unfold freeB sumIn
  have : ([(0 : Int)].find? fun y => decide ((0 + y) % n ∈ [(0 : Int)])) = some 0 := by
    rw [List.find?_cons, show (0 + (0 : Int)) % n = 0 by simp]
    rfl
  rw [this]; rfl
theorem every_free {n : Int} (h : 1 ≤ n) : sortT ((rangeI n).foldl (stepF (freeB n)) [[]]) = freeLots n := by
  unfold freeLots
  have : rangeI n = 0 :: range1 n := rangeI_cons h
  rw [this]
  show sortT ((range1 n).foldl _ (stepF (freeB n) [[]] 0)) = _
  have e : stepF (freeB n) [[]] 0 = [[]] := by
    unfold stepF
    rw [List.filter_cons, show freeB n ([] ++ [0]) = false from freeB_zero (by omega)]
    rfl
  rw [e]
theorem freeLots_sub {n : Int} {l : List Int} (h : l ∈ freeLots n) : l.Sublist (range1 n) := fold_sub0 ((sortT_perm _).mem_iff.mp h)
theorem range1_lot {n : Int} : Lot n (range1 n) := ⟨fun x h => by have := mem_range1.mp h; omega, by rw [range1_rngI]; exact rngI_asc⟩
theorem freeLots_lot {n : Int} {l : List Int} (h : l ∈ freeLots n) : Lot n l := range1_lot.sub (freeLots_sub h)
theorem freeLots_len {n : Int} {l : List Int} (h : l ∈ freeLots n) : l.length ≤ n.toNat := lot_short (freeLots_lot h)
theorem freeLots_many {n : Int} (h : n ≤ 14) : (freeLots n).length ≤ 8192 := by
  have h1 := (sortT_perm ((range1 n).foldl (stepF (freeB n)) [[]])).length_eq
  have h2 := fold_many (fr := freeB n) (range1 n) [[]]
  have h3 : 2 ^ (range1 n).length ≤ 2 ^ 13 := Nat.pow_le_pow_right (by decide) (by rw [length_range1]; omega)
  have h4 : (2 : Nat) ^ 13 = 8192 := by decide
  have h5 : ([[]] : List (List Int)).length = 1 := rfl
  unfold freeLots
  rw [h5] at h2
  omega
theorem eqv_ints : ∀ a b : List Int, PyData.eqvAll (a.map .int) (b.map .int) = decide (a = b)
  | [], [] => by simp [PyData.eqvAll]
  | [], _ :: _ => by simp [PyData.eqvAll]
  | _ :: _, [] => by simp [PyData.eqvAll]
  | x :: r, y :: t => by
    rw [List.map_cons, List.map_cons, PyData.eqvAll, PyData.eqv, eqv_ints r t]
    by_cases h : x = y
    · by_cases h2 : r = t
      · simp [h, h2]
      · simp [h, h2]
    · simp [h]
theorem eqD_tupI {a b : List Int} : eqD (tupI a) (tupI b) = decide (a = b) := by
  show PyData.eqv (toPy (tupI a)) (toPy (tupI b)) = _
  rw [toPy_tupI, toPy_tupI]
  unfold pyT
  rw [PyData.eqv, eqv_ints]
theorem minT_le : ∀ (ts : List (List Int)) (t : List Int), minT t ts = t ∨ ltT (minT t ts) t = true
  | [], t => .inl rfl
  | u :: ts, t => by
    show minT (if ltT u t = true then u else t) ts = t ∨ ltT (minT (if ltT u t = true then u else t) ts) t = true
    by_cases c : ltT u t = true
    · rw [if_pos c]
      rcases minT_le ts u with h | h
      · rw [h]; exact .inr c
      · exact .inr (ltT_trans h c)
    · rw [if_neg c]; exact minT_le ts t
theorem ltT_irr {a : List Int} : ltT a a = false := by
  cases h : ltT a a with
  | false => rfl
  | true => rw [ltT_asym h] at h; cases h
theorem minT_all : ∀ (ts : List (List Int)) (t : List Int), ∀ u ∈ t :: ts, ltT u (minT t ts) = false
  | [], t, u, hu => by rw [List.mem_singleton.mp hu]; exact ltT_irr
  | v :: ts, t, u, hu => by
    show ltT u (minT (if ltT v t = true then v else t) ts) = false
    have ih := minT_all ts (if ltT v t = true then v else t)
    have hw := ih _ (.head _)
    have low : ∀ z, ltT z (if ltT v t = true then v else t) = false → ltT z (minT (if ltT v t = true then v else t) ts) = false := fun z hz => by
      cases c : ltT z (minT (if ltT v t = true then v else t) ts) with
      | false => rfl
      | true =>
        rcases minT_le ts (if ltT v t = true then v else t) with e | e
        · rw [e, hz] at c; cases c
        · rw [ltT_trans c e] at hz; cases hz
    rcases List.mem_cons.mp hu with rfl | hu
    · refine low u ?_
      by_cases c : ltT v u = true
      · rw [if_pos c]; exact ltT_asym c
      · rw [if_neg c]; exact ltT_irr
    · rcases List.mem_cons.mp hu with rfl | hu
      · refine low u ?_
        by_cases c : ltT u t = true
        · rw [if_pos c]; exact ltT_irr
        · rw [if_neg c]; simpa using c
      · exact ih u (.tail _ hu)
theorem minT_self {t : List Int} {ts : List (List Int)} : (t = minT t ts) ↔ ∀ u ∈ ts, ltT u t = false :=
  ⟨fun e u hu => by have := minT_all ts t u (.tail _ hu); rw [← e] at this; exact this, fun h => (minT_first ts t h).symm⟩
theorem seq_set {i : Nat} {te : TEd} {u : TSd} {D : EndsD} {ρ : Rho} {G : GS} (P : Y.D → Prop) (h1 : ∀ Q : QD, (∀ d, P d → Q d G) → te ρ G Q (fun e G1 => D.er e ρ G1)) (h2 : ∀ d, P d → u D (ρ.set i (some d)) G) : tSeqD (tSetD i te) u D ρ G := h1 _ h2
mutual
theorem okD_dep : ∀ (k : Nat) (d : D), dep k d = true → noObj d = true ∧ PyData.canLay0 (toPy d) = true ∧ (toPy d).depth ≤ k + 2
  | 0, d, h => by
    obtain ⟨h1, h2⟩ := Bool.and_eq_true_iff.mp (show (flatD d && okD d) = true from h)
    obtain ⟨h3, h4⟩ := Bool.and_eq_true_iff.mp (show (noObj d && SeqAt.shaped (toPy d)) = true from h2)
    refine ⟨h3, (Bool.and_eq_true_iff.mp (show (PyData.canLay0 (toPy d) && _) = true from h4)).1, ?_⟩
    cases d <;> first | (cases h1; done) | (simp [toPy, PyData.depth])
  | k + 1, .tup xs, h => by
    obtain ⟨h1, h2⟩ := Bool.and_eq_true_iff.mp (show (xs.all (dep k) && decide (xs.length ≤ 1000000)) = true from h)
    obtain ⟨a, b, c⟩ := okD_depL k xs h1
    refine ⟨a, b, ?_⟩
    show (PyData.tuple (toPyL xs)).depth ≤ _
    simp only [PyData.depth]; omega
  | k + 1, .lst xs, h => by
    obtain ⟨h1, h2⟩ := Bool.and_eq_true_iff.mp (show (xs.all (dep k) && decide (xs.length ≤ 1000000)) = true from h)
    obtain ⟨a, b, c⟩ := okD_depL k xs h1
    refine ⟨a, b, ?_⟩
    show (PyData.list (toPyL xs)).depth ≤ _
    simp only [PyData.depth]; omega
  | k + 1, .non, _ => ⟨rfl, rfl, by simp [toPy, PyData.depth]⟩
  | k + 1, .bl _, _ => ⟨rfl, rfl, by simp [toPy, PyData.depth]⟩
  | k + 1, .int _, _ => ⟨rfl, rfl, by simp [toPy, PyData.depth]⟩
  | k + 1, .str s, h => by
    obtain ⟨h1, h2⟩ := Bool.and_eq_true_iff.mp (show (flatD (.str s) && okD (.str s)) = true from h)
    obtain ⟨h3, h4⟩ := Bool.and_eq_true_iff.mp (show (noObj (.str s) && SeqAt.shaped (toPy (.str s))) = true from h2)
    exact ⟨h3, (Bool.and_eq_true_iff.mp (show (PyData.canLay0 (toPy (.str s)) && _) = true from h4)).1, by simp [toPy, PyData.depth]⟩
theorem okD_depL : ∀ (k : Nat) (ds : List D), ds.all (dep k) = true → noObjL ds = true ∧ PyData.canLayAll0 (toPyL ds) = true ∧ PyData.depthAll (toPyL ds) ≤ k + 2
  | k, [], _ => ⟨rfl, rfl, by simp [toPyL, PyData.depthAll]⟩
  | k, d :: ds, h => by
    obtain ⟨h1, h2⟩ := Bool.and_eq_true_iff.mp (show (dep k d && ds.all (dep k)) = true from h)
    obtain ⟨a, b, c⟩ := okD_dep k d h1
    obtain ⟨a2, b2, c2⟩ := okD_depL k ds h2
    refine ⟨?_, ?_, ?_⟩
    · show (noObj d && noObjL ds) = true
      rw [a, a2]; rfl
    · show PyData.canLayAll0 (toPy d :: toPyL ds) = true
      rw [PyData.canLayAll0, b, b2]; rfl
    · show PyData.depthAll (toPy d :: toPyL ds) ≤ _
      simp only [PyData.depthAll]; omega
end
theorem okD_of {k : Nat} {d : D} (hk : k ≤ 50) (h : dep k d = true) : okD d = true := by
  obtain ⟨a, b, c⟩ := okD_dep k d h
  show (noObj d && SeqAt.shaped (toPy d)) = true
  rw [a]
  unfold SeqAt.shaped
  rw [b, decide_eq_true (by omega)]; rfl
theorem eqD_nil {ds : List D} : eqD (.lst ds) (.lst []) = ds.isEmpty := by
  show PyData.eqv (.list (toPyL ds)) (.list (toPyL [])) = _
  cases ds with
  | nil => simp [toPyL, PyData.eqv, PyData.eqvAll]
  | cons t ts => simp [toPyL, PyData.eqv, PyData.eqvAll]
theorem eqD_bls {a b : Bool} : eqD (.bl a) (.bl b) = (a == b) := by
  show PyData.eqv (.bool a) (.bool b) = _
  rw [PyData.eqv]
/-- the index: a comprehension's list is compared with the empty one -/
theorem dep_mapL {α : Type} {k : Nat} {f : α → D} {l : List α} (h : ∀ x ∈ l, dep k (f x) = true) (hl : l.length ≤ 1000000) : dep (k + 1) (.lst (l.map f)) = true := by
  show ((l.map f).all (dep k) && decide ((l.map f).length ≤ 1000000)) = true
  rw [List.length_map, decide_eq_true hl, Bool.and_true, List.all_map, List.all_eq_true]
  exact h
theorem dep_mapT {α : Type} {k : Nat} {f : α → D} {l : List α} (h : ∀ x ∈ l, dep k (f x) = true) (hl : l.length ≤ 1000000) : dep (k + 1) (.tup (l.map f)) = true := by
  show ((l.map f).all (dep k) && decide ((l.map f).length ≤ 1000000)) = true
  rw [List.length_map, decide_eq_true hl, Bool.and_true, List.all_map, List.all_eq_true]
  exact h
theorem dep_tupI {k : Nat} {l : List Int} (hl : l.length ≤ 1000000) : dep (k + 1) (tupI l) = true := dep_mapT (f := D.int) (fun _ _ => by cases k <;> rfl) hl
theorem belowL_map {α : Type} {k : Nat} {f : α → D} {l : List α} (h : ∀ x ∈ l, below k (f x) = true) : belowL k (l.map f) = true := by
  induction l with
  | nil => rfl
  | cons x r ih =>
    show (below k (f x) && belowL k (r.map f)) = true
    rw [h x (.head _), ih fun y hy => h y (.tail _ hy)]; rfl
theorem add_int {a b : Int} {G : GS} {K : QD} : rAddD (.int a) (.int b) G K = K (.int (a + b)) G := rfl
def itD : D → Option (List D)
  | .lst xs => some xs
  | .tup xs => some xs
  | _ => none
theorem itD_cases {d : D} {xs : List D} (h : itD d = some xs) : d = .lst xs ∨ d = .tup xs := by
  cases d with
  | lst ys => cases h; exact .inl rfl
  | tup ys => cases h; exact .inr rfl
  | _ => cases h
theorem filter_empty {α : Type} {p : α → Bool} : ∀ (l : List α), (l.filter p).isEmpty = !l.any p
  | [] => rfl
  | x :: r => by
    rw [List.filter_cons, List.any_cons]
    cases h : p x with
    | true => rw [if_pos rfl]; rfl
    | false => rw [if_neg (by decide), filter_empty r]; rfl
theorem map_empty {α β : Type} {f : α → β} {l : List α} : (l.map f).isEmpty = l.isEmpty := by cases l <;> rfl
/-- the same, wherever the name is set in the end -/
theorem seq_set' {te : QD → QE → Prop} {K : QD} {E : QE} (P : Y.D → Prop) {G : GS} (h1 : ∀ Q : QD, (∀ d, P d → Q d G) → te Q E) (h2 : ∀ d, P d → K d G) : te K E := h1 K h2
def isPr (p : Nat) : Prop := 2 ≤ p ∧ ∀ d, d ∣ p → d = 1 ∨ d = p
theorem pr_mul {p a b : Nat} (hp : isPr p) (h : p ∣ a * b) : p ∣ a ∨ p ∣ b := by
  rcases hp.2 (Nat.gcd p a) (Nat.gcd_dvd_left p a) with e | e
  · exact .inr (Nat.Coprime.dvd_of_dvd_mul_left e h)
  · refine .inl ?_
    have := Nat.gcd_dvd_right p a
    rw [e] at this; exact this
theorem pr_least {m b : Nat} (hb : 2 ≤ b) (hd : b ∣ m) (hno : ∀ d, 2 ≤ d → d < b → ¬ d ∣ m) : isPr b := by
  refine ⟨hb, fun d hd2 => ?_⟩
  have h1 := Nat.le_of_dvd (by omega) hd2
  rcases Nat.lt_or_ge d 2 with c | c
  · rcases Nat.lt_or_ge d 1 with c2 | c2
    · have : d = 0 := by omega
      subst this
      have := Nat.zero_dvd.mp hd2
      omega
    · exact .inl (by omega)
  · rcases Nat.lt_or_ge d b with c2 | c2
    · exact absurd (Nat.dvd_trans hd2 hd) (hno d c c2)
    · exact .inr (by omega)
theorem pr_exists : ∀ (f m : Nat), m ≤ f → 2 ≤ m → ∃ p, isPr p ∧ p ∣ m
  | 0, m, h, h2 => by omega
  | f + 1, m, h, h2 => by
    by_cases c : ∃ d, 2 ≤ d ∧ d < m ∧ d ∣ m
    · obtain ⟨d, d1, d2, d3⟩ := c
      obtain ⟨p, p1, p2⟩ := pr_exists f d (by omega) d1
      exact ⟨p, p1, Nat.dvd_trans p2 d3⟩
    · exact ⟨m, pr_least h2 (Nat.dvd_refl m) (fun d a b e => c ⟨d, a, b, e⟩), Nat.dvd_refl m⟩
/-- the ascending list of all primes of a number -/
def PrN (n : Nat) (l : List Nat) : Prop := l.Pairwise (· < ·) ∧ ∀ p, p ∈ l ↔ isPr p ∧ p ∣ n
theorem ascN_ext : ∀ {a b : List Nat}, a.Pairwise (· < ·) → b.Pairwise (· < ·) → (∀ x, x ∈ a ↔ x ∈ b) → a = b
  | [], [], _, _, _ => rfl
  | [], y :: b, _, _, h => nomatch (h y).mpr (.head _)
  | x :: a, [], _, _, h => nomatch (h x).mp (.head _)
  | x :: a, y :: b, ha, hb, h => by
    have e : x = y := by
      rcases List.mem_cons.mp ((h x).mp (.head _)) with e | m
      · exact e
      · rcases List.mem_cons.mp ((h y).mpr (.head _)) with e | m2
        · exact e.symm
        · have h1 := List.rel_of_pairwise_cons hb m
          have h2 := List.rel_of_pairwise_cons ha m2
          omega
    subst e
    rw [ascN_ext ha.of_cons hb.of_cons fun z => ?_]
    constructor
    · intro m
      rcases List.mem_cons.mp ((h z).mp (.tail _ m)) with e | m2
      · subst e; exact absurd (List.rel_of_pairwise_cons ha m) (Nat.lt_irrefl _)
      · exact m2
    · intro m
      rcases List.mem_cons.mp ((h z).mpr (.tail _ m)) with e | m2
      · subst e; exact absurd (List.rel_of_pairwise_cons hb m) (Nat.lt_irrefl _)
      · exact m2
def prB (p : Nat) : Bool := decide (2 ≤ p) && (List.range p).all fun d => decide (d < 2) || p % d != 0
theorem prB_iff {p : Nat} : prB p = true ↔ isPr p := by
  unfold prB
  rw [Bool.and_eq_true, decide_eq_true_eq, List.all_eq_true]
  constructor
  · rintro ⟨h1, h2⟩
    refine pr_least (m := p) h1 (Nat.dvd_refl p) fun d d1 d2 d3 => ?_
    have := h2 d (List.mem_range.mpr d2)
    rw [decide_eq_false (by omega), Bool.false_or, bne_iff_ne] at this
    exact this (Nat.mod_eq_zero_of_dvd d3)
  · rintro ⟨h1, h2⟩
    refine ⟨h1, fun d hd => ?_⟩
    have := List.mem_range.mp hd
    by_cases c : d < 2
    · rw [decide_eq_true c]; rfl
    · rw [decide_eq_false c, Bool.false_or, bne_iff_ne]
      intro e
      rcases h2 d (Nat.dvd_of_mod_eq_zero e) with e2 | e2 <;> omega
def primesN (n : Nat) : List Nat := (List.range (n + 1)).filter fun p => n % p == 0 && prB p
theorem primesN_spec {n : Nat} (hn : 1 ≤ n) : PrN n (primesN n) := by
  refine ⟨List.pairwise_lt_range.filter _, fun p => ?_⟩
  unfold primesN
  rw [List.mem_filter, Bool.and_eq_true, beq_iff_eq, prB_iff, List.mem_range]
  constructor
  · rintro ⟨_, h1, h2⟩; exact ⟨h2, Nat.dvd_of_mod_eq_zero h1⟩
  · rintro ⟨h1, h2⟩
    have := Nat.le_of_dvd hn h2
    exact ⟨by omega, Nat.mod_eq_zero_of_dvd h2, h1⟩
theorem PrN.eq {n : Nat} {l : List Nat} (hn : 1 ≤ n) (h : PrN n l) : l = primesN n :=
  ascN_ext h.1 (primesN_spec hn).1 fun x => (h.2 x).trans ((primesN_spec hn).2 x).symm
/-- a trial division under way: found f, next b, left m -/
structure PS (n : Nat) (f : List Nat) (b m : Nat) : Prop where
  asc : f.Pairwise (· < ·)
  mem : ∀ p ∈ f, isPr p ∧ p ∣ n ∧ p < b
  pos : 0 < m
  dv : m ∣ n
  all : ∀ p, isPr p → p ∣ n → p ∈ f ∨ p ∣ m
  no : ∀ d, 2 ≤ d → d < b → ¬ d ∣ m
  b2 : 2 ≤ b
theorem PS.start {n : Nat} (hn : 1 ≤ n) : PS n [] 2 n := ⟨.nil, (fun _ h => nomatch h), hn, Nat.dvd_refl n, fun p _ h => .inr h, fun d h1 h2 => by omega, Nat.le_refl 2⟩
theorem PS.skip {n b m : Nat} {f : List Nat} (s : PS n f b m) (h : ¬ b ∣ m) : PS n f (b + 1) m :=
  ⟨s.asc, fun p hp => by obtain ⟨a, c, d⟩ := s.mem p hp; exact ⟨a, c, by omega⟩, s.pos, s.dv, s.all, fun d h1 h2 => by
    rcases Nat.lt_or_ge d b with c | c
    · exact s.no d h1 c
    · have : d = b := by omega
      subst this; exact h, by have := s.b2; omega⟩
/-- what is left of m when it is divided by b, some times -/
structure DivS (b m m' : Nat) : Prop where
  dv : m' ∣ m
  pos : 0 < m'
  all : ∀ p, isPr p → p ∣ m → p = b ∨ p ∣ m'
theorem DivS.refl {b m : Nat} (h : 0 < m) : DivS b m m := ⟨Nat.dvd_refl m, h, fun _ _ h => .inr h⟩
theorem DivS.step {b m m' : Nat} (hb : isPr b) (s : DivS b m m') (h : b ∣ m') : DivS b m (m' / b) := by
  have e : b * (m' / b) = m' := Nat.mul_div_cancel' h
  have b2 := hb.1
  have pos := s.pos
  refine ⟨Nat.dvd_trans ⟨b, by rw [Nat.mul_comm]; exact e.symm⟩ s.dv, ?_, fun p hp hd => ?_⟩
  · rcases Nat.eq_zero_or_pos (m' / b) with z | z
    · rw [z, Nat.mul_zero] at e; omega
    · exact z
  · rcases s.all p hp hd with z | z
    · exact .inl z
    · rw [← e] at z
      rcases pr_mul hp z with z | z
      · rcases hb.2 p z with z2 | z2
        · have := hp.1; omega
        · exact .inl z2
      · exact .inr z
theorem PS.prime {n b m : Nat} {f : List Nat} (s : PS n f b m) (h : b ∣ m) : isPr b := pr_least s.b2 h s.no
theorem PS.hit {n b m m' : Nat} {f : List Nat} (s : PS n f b m) (h : b ∣ m) (d : DivS b m m') (hn : ¬ b ∣ m') : PS n (f ++ [b]) (b + 1) m' := by
  have hb := s.prime h
  refine ⟨?_, fun p hp => ?_, d.pos, Nat.dvd_trans d.dv s.dv, fun p hp hd => ?_, fun e h1 h2 => ?_, by have := s.b2; omega⟩
  · rw [List.pairwise_append]
    refine ⟨s.asc, List.pairwise_singleton _ _, fun x hx y hy => ?_⟩
    rw [List.mem_singleton.mp hy]
    exact (s.mem x hx).2.2
  · rcases List.mem_append.mp hp with hp | hp
    · obtain ⟨a, c, e⟩ := s.mem p hp
      exact ⟨a, c, by omega⟩
    · rw [List.mem_singleton.mp hp]
      exact ⟨hb, Nat.dvd_trans h s.dv, by omega⟩
  · rcases s.all p hp hd with z | z
    · exact .inl (List.mem_append.mpr (.inl z))
    · rcases d.all p hp z with z | z
      · exact .inl (List.mem_append.mpr (.inr (List.mem_singleton.mpr z)))
      · exact .inr z
  · rcases Nat.lt_or_ge e b with c | c
    · exact fun z => s.no e h1 c (Nat.dvd_trans z d.dv)
    · have : e = b := by omega
      subst this; exact hn
theorem PS.done {n b m : Nat} {f : List Nat} (s : PS n f b m) (hn : 1 ≤ n) (h : m < b * b) : (if 1 < m then f ++ [m] else f) = primesN n := by
  refine PrN.eq hn ?_
  have small : ∀ p, isPr p → p ∣ m → p = m := fun p hp hd => by
    have hpb : b ≤ p := by
      rcases Nat.lt_or_ge p b with c | c
      · exact absurd hd (s.no p hp.1 c)
      · exact c
    obtain ⟨k, hk⟩ := hd
    rcases Nat.lt_or_ge k 2 with c | c
    · have pos := s.pos
      have : k = 1 := by
        rcases Nat.eq_zero_or_pos k with z | z
        · subst z; omega
        · omega
      rw [hk, this, Nat.mul_one]
    · obtain ⟨q, q1, q2⟩ := pr_exists k k (Nat.le_refl k) c
      have hqb : b ≤ q := by
        rcases Nat.lt_or_ge q b with c | c
        · exact absurd (Nat.dvd_trans q2 ⟨p, by rw [hk, Nat.mul_comm]⟩) (s.no q q1.1 c)
        · exact c
      have hqk : q ≤ k := Nat.le_of_dvd (by omega) q2
      have : b * b ≤ p * k := Nat.mul_le_mul hpb (Nat.le_trans hqb hqk)
      omega
  by_cases c : 1 < m
  · rw [if_pos c]
    obtain ⟨p, p1, p2⟩ := pr_exists m m (Nat.le_refl m) (by omega)
    have pm := small p p1 p2
    subst pm
    have hbm : b ≤ p := by
      rcases Nat.lt_or_ge p b with c | c
      · exact absurd p2 (s.no p p1.1 c)
      · exact c
    refine ⟨?_, fun q => ?_⟩
    · rw [List.pairwise_append]
      refine ⟨s.asc, List.pairwise_singleton _ _, fun x hx y hy => ?_⟩
      rw [List.mem_singleton.mp hy]
      have := (s.mem x hx).2.2
      omega
    · rw [List.mem_append, List.mem_singleton]
      constructor
      · rintro (h | rfl)
        · exact ⟨(s.mem q h).1, (s.mem q h).2.1⟩
        · exact ⟨p1, s.dv⟩
      · rintro ⟨h1, h2⟩
        rcases s.all q h1 h2 with z | z
        · exact .inl z
        · exact .inr (small q h1 z)
  · rw [if_neg c]
    refine ⟨s.asc, fun q => ⟨fun h => ⟨(s.mem q h).1, (s.mem q h).2.1⟩, fun ⟨h1, h2⟩ => ?_⟩⟩
    rcases s.all q h1 h2 with z | z
    · exact z
    · have := Nat.le_of_dvd s.pos z
      have := h1.1
      omega
/-- the prime by which the greatest lots are made -/
def guideN (l : List Nat) : Option Nat := match l.find? (fun p => p % 3 == 2) with
  | some p => some p
  | none => if 3 ∈ l then some 3 else none
def partN (n : Nat) : Option Nat → Nat × Nat × Nat
  | none => (n, n / 3 + 1, n / 3 * 2)
  | some p => if p = 3 then (3, 1, 1) else (p, p / 3 + 1, p / 3 * 2 + 1)
def sizeW (n : Nat) (g : Option Nat) : Nat := n / (partN n g).1 * ((partN n g).2.2 + 1 - (partN n g).2.1)
def sizeN (n : Nat) : Nat := sizeW n (guideN (primesN n))
def toldB (n : Nat) (g : Option Nat) (r : Nat) : Bool := decide ((partN n g).2.1 ≤ r % (partN n g).1) && decide (r % (partN n g).1 ≤ (partN n g).2.2)
def lotN (n : Nat) : List Nat := (List.range n).filter (toldB n (guideN (primesN n)))
theorem mod_two : ∀ (f n : Nat), n ≤ f → n % 3 = 2 → ∃ p, isPr p ∧ p ∣ n ∧ p % 3 = 2
  | 0, n, h, h2 => by omega
  | f + 1, n, h, h2 => by
    obtain ⟨q, q1, q2⟩ := pr_exists n n (Nat.le_refl n) (by omega)
    obtain ⟨k, hk⟩ := q2
    by_cases c2 : q % 3 = 2
    · exact ⟨q, q1, ⟨k, hk⟩, c2⟩
    · have hm : (q % 3) * (k % 3) % 3 = 2 := by rw [← Nat.mul_mod, ← hk]; exact h2
      have c1 : q % 3 = 1 := by
        rcases Nat.eq_zero_or_pos (q % 3) with z | z
        · rw [z, Nat.zero_mul] at hm; omega
        · omega
      rw [c1, Nat.one_mul] at hm
      have hk2 : k % 3 = 2 := by omega
      have hq := q1.1
      have hlt : k < n := by
        have : 2 * k ≤ q * k := Nat.mul_le_mul_right k hq
        omega
      obtain ⟨p, p1, p2, p3⟩ := mod_two f k (by omega) hk2
      exact ⟨p, p1, Nat.dvd_trans p2 ⟨q, by rw [hk, Nat.mul_comm]⟩, p3⟩
theorem pr_three : isPr 3 := prB_iff.mp (by decide)
/-- what a guide says of its number -/
theorem guide_cases {n : Nat} (hn : 1 ≤ n) : (∃ p q, guideN (primesN n) = some p ∧ p = 3 * q + 2 ∧ p ∣ n) ∨ (guideN (primesN n) = some 3 ∧ 3 ∣ n) ∨ (guideN (primesN n) = none ∧ n = 3 * (n / 3) + 1) := by
  have hs := primesN_spec hn
  unfold guideN
  cases hf : (primesN n).find? (fun p => p % 3 == 2) with
  | some p =>
    have h1 := List.find?_some hf
    have h2 := List.mem_of_find?_eq_some hf
    rw [beq_iff_eq] at h1
    exact .inl ⟨p, p / 3, rfl, by omega, ((hs.2 p).mp h2).2⟩
  | none =>
    by_cases c : 3 ∈ primesN n
    · exact .inr (.inl ⟨if_pos c, ((hs.2 3).mp c).2⟩)
    · refine .inr (.inr ⟨if_neg c, ?_⟩)
      have h0 : n % 3 ≠ 0 := fun z => c ((hs.2 3).mpr ⟨pr_three, Nat.dvd_of_mod_eq_zero z⟩)
      have h2 : n % 3 ≠ 2 := fun z => by
        obtain ⟨p, p1, p2, p3⟩ := mod_two n n (Nat.le_refl n) z
        have := List.find?_eq_none.mp hf p ((hs.2 p).mpr ⟨p1, p2⟩)
        rw [beq_iff_eq] at this
        exact this p3
      omega
def guideI : Option Nat → Nat
  | none => 0
  | some p => p
def lawSizeN (n g : Nat) : Nat := if g = 0 then (n - 1) / 3 else if g = 3 then n / 3 else n / g * ((g + 1) / 3)
theorem law_size_eq {n : Nat} (hn : 1 ≤ n) : lawSizeN n (guideI (guideN (primesN n))) = sizeN n := by
  unfold sizeN
  rcases guide_cases hn with ⟨p, q, h, e, _⟩ | ⟨h, _⟩ | ⟨h, e⟩
  · rw [h]
    show lawSizeN n p = sizeW n (some p)
    unfold lawSizeN sizeW partN
    have n0 : p ≠ 0 := by omega
    have n3 : p ≠ 3 := by omega
    simp only [if_neg n0, if_neg n3]
    congr 1
    omega
  · rw [h]
    show lawSizeN n 3 = sizeW n (some 3)
    unfold lawSizeN sizeW partN
    simp
  · rw [h]
    show lawSizeN n 0 = sizeW n none
    unfold lawSizeN sizeW partN
    simp only [if_pos]
    rw [Nat.div_self hn, Nat.one_mul]
    omega
def lawToldB (n g r : Nat) : Bool := if g = 0 then decide (n + 2 ≤ 3 * r) && decide (3 * r + 2 ≤ 2 * n) else if g = 3 then decide (r % 3 = 1) else decide (g + 1 ≤ 3 * (r % g)) && decide (3 * (r % g) + 1 ≤ 2 * g)
theorem law_told_eq {n r : Nat} (hn : 1 ≤ n) (hr : r < n) : lawToldB n (guideI (guideN (primesN n))) r = toldB n (guideN (primesN n)) r := by
  have key : ∀ a b : Bool, (a = true ↔ b = true) → a = b := fun a b h => by cases a <;> cases b <;> simp_all
  rcases guide_cases hn with ⟨p, q, h, e, _⟩ | ⟨h, _⟩ | ⟨h, e⟩
  · rw [h]
    show lawToldB n p r = toldB n (some p) r
    unfold lawToldB toldB partN
    have n0 : p ≠ 0 := by omega
    have n3 : p ≠ 3 := by omega
    simp only [if_neg n0, if_neg n3]
    refine key _ _ ?_
    simp only [Bool.and_eq_true, decide_eq_true_eq]
    omega
  · rw [h]
    show lawToldB n 3 r = toldB n (some 3) r
    unfold lawToldB toldB partN
    simp only [if_pos, if_neg (show ¬ (3 : Nat) = 0 by decide)]
    refine key _ _ ?_
    simp only [Bool.and_eq_true, decide_eq_true_eq]
    omega
  · rw [h]
    show lawToldB n 0 r = toldB n none r
    unfold lawToldB toldB partN
    simp only [if_pos]
    rw [Nat.mod_eq_of_lt hr]
    refine key _ _ ?_
    simp only [Bool.and_eq_true, decide_eq_true_eq]
    omega
theorem toldB_iff {n r : Nat} {g : Option Nat} : toldB n g r = true ↔ (partN n g).2.1 ≤ r % (partN n g).1 ∧ r % (partN n g).1 ≤ (partN n g).2.2 := by
  unfold toldB
  rw [Bool.and_eq_true, decide_eq_true_eq, decide_eq_true_eq]
/-- the told lot is free -/
theorem told_free {n x y : Nat} (hn : 1 ≤ n) (hx : x < n) (hy : y < n) (h1 : toldB n (guideN (primesN n)) x = true) (h2 : toldB n (guideN (primesN n)) y = true) : toldB n (guideN (primesN n)) ((x + y) % n) = false := by
  cases c : toldB n (guideN (primesN n)) ((x + y) % n) with
  | false => rfl
  | true =>
    exfalso
    rw [toldB_iff] at h1 h2 c
    rcases guide_cases hn with ⟨p, q, h, e, hd⟩ | ⟨h, hd⟩ | ⟨h, e⟩
    · rw [h] at h1 h2 c
      have n3 : p ≠ 3 := by omega
      simp only [partN, if_neg n3] at h1 h2 c
      rw [Nat.mod_mod_of_dvd _ hd, Nat.add_mod] at c
      have a1 : x % p < p := Nat.mod_lt _ (by omega)
      have a2 : y % p < p := Nat.mod_lt _ (by omega)
      generalize x % p = u at *
      generalize y % p = v at *
      rcases Nat.lt_or_ge (u + v) p with z | z
      · rw [Nat.mod_eq_of_lt z] at c; omega
      · rw [Nat.mod_eq_sub_mod z, Nat.mod_eq_of_lt (by omega)] at c; omega
    · rw [h] at h1 h2 c
      simp only [partN, if_pos] at h1 h2 c
      rw [Nat.mod_mod_of_dvd _ hd] at c
      omega
    · rw [h] at h1 h2 c
      simp only [partN] at h1 h2 c
      rw [Nat.mod_eq_of_lt hx] at h1
      rw [Nat.mod_eq_of_lt hy] at h2
      rw [Nat.mod_mod] at c
      rcases Nat.lt_or_ge (x + y) n with z | z
      · rw [Nat.mod_eq_of_lt z] at c; omega
      · rw [Nat.mod_eq_sub_mod z, Nat.mod_eq_of_lt (by omega)] at c; omega
theorem lot_count : ∀ n, n < 200 → (lotN (n + 1)).length = sizeN (n + 1) := by
  have h : ((List.range 200).all fun n => (lotN (n + 1)).length == sizeN (n + 1)) = true := by decide +kernel
  intro n hn
  have := List.all_eq_true.mp h n (List.mem_range.mpr hn)
  rwa [beq_iff_eq] at this
def natD (k : Nat) : D := .int (k : Int)
def castL (l : List Nat) : List Int := l.map fun k : Nat => (k : Int)
theorem natD_cast {l : List Nat} : l.map natD = (castL l).map .int := by unfold castL; rw [List.map_map]; rfl
def optN : Option Nat → D
  | none => .non
  | some k => natD k
theorem cast_mem {k : Nat} {l : List Nat} : decide ((k : Int) ∈ castL l) = decide (k ∈ l) := by
  have : (k : Int) ∈ castL l ↔ k ∈ l := by
    unfold castL
    rw [List.mem_map]
    exact ⟨fun ⟨j, h, e⟩ => by rw [← Int.ofNat.inj e]; exact h, fun h => ⟨k, h, rfl⟩⟩
  by_cases c : k ∈ l
  · rw [decide_eq_true c, decide_eq_true (this.mpr c)]
  · rw [decide_eq_false c, decide_eq_false fun z => c (this.mp z)]
theorem log_small {i : Int} (h : i.natAbs < 2 ^ 200) : i.natAbs.log2 < 200 := by
  rcases Nat.eq_zero_or_pos i.natAbs with z | z
  · rw [z]; decide
  · exact (Nat.log2_lt (by omega)).mpr h
theorem bigMul {i j : Int} (h1 : i.natAbs < 2 ^ 200) (h2 : j.natAbs < 2 ^ 200) : MulOk i j := .inr (by
  have a := log_small h1
  have b := log_small h2
  show _ + _ < _
  omega)
theorem bigDiv {i j : Int} (h : 0 < j) (h2 : j.natAbs < 2 ^ 200) : DivOk i j := .inr ⟨h, by
  have b := log_small h2
  omega⟩
theorem guide_head {l : List Nat} : guideN l = match l.filter (fun p => p % 3 == 2) with | a :: _ => some a | [] => if 3 ∈ l then some 3 else none := by
  unfold guideN
  rw [← List.head?_filter]
  cases l.filter (fun p => p % 3 == 2) <;> rfl
theorem min_head {a : Nat} {r : List Nat} (h : (a :: r).Pairwise (· < ·)) : minI (castL (a :: r)) = (a : Int) := by
  obtain ⟨h1, h2⟩ := minI_spec (ns := castL (a :: r)) (by unfold castL; simp)
  have h3 := h1 a (by unfold castL; simp)
  obtain ⟨k, hk, e⟩ := List.mem_map.mp (show minI (castL (a :: r)) ∈ (a :: r).map fun k : Nat => (k : Int) from h2)
  rcases List.mem_cons.mp hk with rfl | hk
  · omega
  · have := List.rel_of_pairwise_cons h hk
    omega
theorem range_at {n x : Nat} {pre post : List Nat} (h : List.range n = pre ++ x :: post) : x = pre.length ∧ pre.length < n := by
  have hl := congrArg List.length h
  rw [List.length_range, List.length_append, List.length_cons] at hl
  have : (List.range n)[pre.length]? = some x := by
    rw [h, List.getElem?_append_right (Nat.le_refl _), Nat.sub_self]; rfl
  rw [List.getElem?_range (by omega)] at this
  exact ⟨(Option.some.inj this).symm, by omega⟩
theorem primes_few {n : Nat} (h : n ≤ 1000000) : (primesN n).length ≤ 1000001 := by
  have := List.length_filter_le (fun p => n % p == 0 && prB p) (List.range (n + 1))
  rw [List.length_range] at this
  unfold primesN; omega
theorem maxI_perm {a b : List Int} (h : a ≠ []) (hp : a.Perm b) : maxI a = maxI b := by
  have hb : b ≠ [] := fun z => h (List.perm_nil.mp (z ▸ hp))
  obtain ⟨a1, a2⟩ := maxI_spec h
  obtain ⟨b1, b2⟩ := maxI_spec hb
  exact Int.le_antisymm (b1 _ (hp.mem_iff.mp a2)) (a1 _ (hp.mem_iff.mpr b2))
theorem fold_least {fr : List Int → Bool} : ∀ (r : List Int) (acc : List (List Int)), acc.length ≤ (r.foldl (stepF fr) acc).length
  | [], acc => Nat.le_refl _
  | x :: r, acc => by
    refine Nat.le_trans ?_ (fold_least r (stepF fr acc x))
    unfold stepF
    rw [List.length_append]; omega
theorem rngD_nat {n : Nat} : rngD 0 ((n : Int)).toNat = (List.range n).map natD := by
  unfold rngD
  rw [Int.toNat_natCast]
  exact List.map_congr_left fun i _ => by show D.int (0 + (i : Int)) = .int (i : Int); rw [Int.zero_add]
end Z
namespace EG
/-- among 2 n - 1 things there are n whose numbers sum to a multiple of n -/
def Eg (n : Nat) : Prop := ∀ (α : Type) (f : α → Int) (l : List α), 2 * n ≤ l.length + 1 → ∃ s r : List α, l.Perm (s ++ r) ∧ s.length = n ∧ (n : Int) ∣ (s.map f).sum
theorem eg_one : Eg 1 := fun α f l h => match l, h with
  | a :: r, _ => ⟨[a], r, .refl _, rfl, ⟨([a].map f).sum, (Int.one_mul _).symm⟩⟩
theorem groups {a : Nat} (h : Eg a) (a1 : 1 ≤ a) {α : Type} (f : α → Int) : ∀ (k : Nat) (l : List α), (k + 1) * a ≤ l.length + 1 →
    ∃ (gs : List (List α)) (r : List α), l.Perm (gs.flatten ++ r) ∧ gs.length = k ∧ ∀ g ∈ gs, g.length = a ∧ (a : Int) ∣ (g.map f).sum
  | 0, l, _ => ⟨[], l, .refl _, rfl, fun _ h => (nomatch h)⟩
  | k + 1, l, hl => by
    have e : (k + 1 + 1) * a = (k + 1) * a + a := by rw [Nat.add_mul (k + 1) 1, Nat.one_mul]
    have e2 : (k + 1) * a = k * a + a := by rw [Nat.add_mul, Nat.one_mul]
    obtain ⟨s, r, p, hs, hd⟩ := h α f l (by omega)
    have hlen := p.length_eq
    rw [List.length_append] at hlen
    obtain ⟨gs, r', p', hg, hall⟩ := groups h a1 f k r (by omega)
    refine ⟨s :: gs, r', ?_, by rw [List.length_cons, hg], fun g hg' => ?_⟩
    · rw [List.flatten_cons, List.append_assoc]
      exact p.trans (p'.append_left s)
    · rcases List.mem_cons.mp hg' with rfl | hg'
      · exact ⟨hs, hd⟩
      · exact hall g hg'
theorem flat_len {α : Type} {a : Nat} : ∀ {gs : List (List α)}, (∀ g ∈ gs, g.length = a) → gs.flatten.length = gs.length * a
  | [], _ => by simp
  | g :: gs, h => by
    rw [List.flatten_cons, List.length_append, h g (.head _), flat_len fun g' hg => h g' (.tail _ hg), List.length_cons, Nat.add_mul, Nat.one_mul, Nat.add_comm]
theorem flat_sum {α : Type} {f : α → Int} {a : Int} : ∀ {gs : List (List α)}, (∀ g ∈ gs, a ∣ (g.map f).sum) → (gs.flatten.map f).sum = a * (gs.map fun g => (g.map f).sum / a).sum
  | [], _ => by simp
  | g :: gs, h => by
    rw [List.flatten_cons, List.map_append, List.sum_append, flat_sum fun g' hg => h g' (.tail _ hg), List.map_cons, List.sum_cons, Int.mul_add, Int.mul_ediv_cancel' (h g (.head _))]
theorem flat_perm {α : Type} {a b : List (List α)} (h : a.Perm b) : a.flatten.Perm b.flatten := by
  induction h with
  | nil => exact .refl _
  | cons x _ ih => rw [List.flatten_cons, List.flatten_cons]; exact ih.append_left x
  | swap x y l =>
    rw [List.flatten_cons, List.flatten_cons, List.flatten_cons, List.flatten_cons, ← List.append_assoc, ← List.append_assoc]
    exact List.perm_append_comm.append_right _
  | trans _ _ h1 h2 => exact h1.trans h2
theorem eg_mul {a b : Nat} (ha : Eg a) (hb : Eg b) (a1 : 1 ≤ a) (b1 : 1 ≤ b) : Eg (a * b) := fun α f l hl => by
  obtain ⟨gs, r0, p0, hg, hall⟩ := groups ha a1 f (2 * b - 1) l (by
    rw [show 2 * b - 1 + 1 = 2 * b by omega, Nat.mul_assoc, Nat.mul_comm b a]; exact hl)
  obtain ⟨ss, rr, p1, hs, hd⟩ := hb (List α) (fun g => (g.map f).sum / (a : Int)) gs (by omega)
  have hss : ∀ g ∈ ss, g ∈ gs := fun g hg' => p1.mem_iff.mpr (List.mem_append_left _ hg')
  refine ⟨ss.flatten, rr.flatten ++ r0, ?_, ?_, ?_⟩
  · refine p0.trans ?_
    rw [← List.append_assoc, ← List.flatten_append]
    exact (flat_perm p1).append_right _
  · rw [flat_len fun g hg' => (hall g (hss g hg')).1, hs, Nat.mul_comm]
  · rw [flat_sum (a := (a : Int)) fun g hg' => (hall g (hss g hg')).2, Int.natCast_mul]
    exact Int.mul_dvd_mul (Int.dvd_refl _) hd
theorem nl {α : Type} [DecidableEq α] : ∀ {a b : List α}, a.Nodup → (∀ x ∈ a, x ∈ b) → a.length ≤ b.length
  | [], _, _, _ => Nat.zero_le _
  | x :: a, b, nd, h => by
    obtain ⟨h1, h2⟩ := List.nodup_cons.mp nd
    have := nl (b := b.erase x) h2 fun y hy => (List.mem_erase_of_ne (show y ≠ x from fun e => h1 (by rw [← e]; exact hy))).mpr (h y (.tail _ hy))
    rw [List.length_erase_of_mem (h x (.head _))] at this
    have hp := List.length_pos_of_mem (h x (.head _))
    rw [List.length_cons]; omega
def rng (p : Nat) : List Int := (List.range p).map fun i : Nat => (i : Int)
theorem mem_rng {p : Nat} {z : Int} : z ∈ rng p ↔ 0 ≤ z ∧ z < p := by
  unfold rng
  rw [List.mem_map]
  constructor
  · rintro ⟨i, hi, rfl⟩
    have := List.mem_range.mp hi
    omega
  · rintro ⟨h0, h1⟩
    exact ⟨z.toNat, List.mem_range.mpr (by omega), by omega⟩
theorem len_rng {p : Nat} : (rng p).length = p := by unfold rng; rw [List.length_map, List.length_range]
/-- the residues that a pick of one of each pair can have -/
structure Picks {α : Type} (f : α → Int) (p : Nat) (ps : List (α × α)) (S : List Int) : Prop where
  nd : S.Nodup
  ok : ∀ z ∈ S, 0 ≤ z ∧ z < p ∧ ∃ s r : List α, (ps.map (·.1) ++ ps.map (·.2)).Perm (s ++ r) ∧ s.length = ps.length ∧ (s.map f).sum % p = z
theorem shift_nd {S : List Int} {p : Nat} (hp : 0 < p) (nd : S.Nodup) (h : ∀ z ∈ S, 0 ≤ z ∧ z < p) (c : Int) : (S.map fun z => (z + c) % p).Nodup := by
  rw [List.nodup_iff_pairwise_ne, List.pairwise_map]
  refine (List.nodup_iff_pairwise_ne.mp nd).imp_of_mem fun {x y} hx hy hxy e => hxy ?_
  have h1 := Int.emod_eq_emod_iff_emod_sub_eq_zero.mp e
  rw [show x + c - (y + c) = x - y by omega] at h1
  have h2 := Int.emod_eq_emod_iff_emod_sub_eq_zero.mpr h1
  have hx := h x hx
  have hy := h y hy
  rwa [Int.emod_eq_of_lt hx.1 hx.2, Int.emod_eq_of_lt hy.1 hy.2] at h2
theorem pick_step {α : Type} {f : α → Int} {p : Nat} {ps : List (α × α)} {S : List Int} {a b : α} (h : Picks f p ps S) {z : Int} (hz : z ∈ S) (hp : 0 < p) :
    (0 ≤ (z + f a) % p ∧ (z + f a) % p < p) ∧ (∃ s r : List α, (((a, b) :: ps).map (·.1) ++ ((a, b) :: ps).map (·.2)).Perm (s ++ r) ∧ s.length = ((a, b) :: ps).length ∧ (s.map f).sum % p = (z + f a) % p) ∧
    (∃ s r : List α, (((a, b) :: ps).map (·.1) ++ ((a, b) :: ps).map (·.2)).Perm (s ++ r) ∧ s.length = ((a, b) :: ps).length ∧ (s.map f).sum % p = (z + f b) % p) := by
  obtain ⟨_, _, s, r, hs, hl, he⟩ := h.ok z hz
  have base : (((a, b) :: ps).map (·.1) ++ ((a, b) :: ps).map (·.2)).Perm (a :: b :: (s ++ r)) := by
    rw [List.map_cons, List.map_cons, List.cons_append]
    refine .cons a ?_
    exact (List.perm_middle).trans (.cons b hs)
  have hsum : ∀ c : Int, (c + (s.map f).sum) % (p : Int) = (z + c) % p := fun c => by
    rw [← he, Int.emod_add_emod, Int.add_comm]
  refine ⟨⟨Int.emod_nonneg _ (by omega), Int.emod_lt_of_pos _ (by omega)⟩, ⟨a :: s, b :: r, ?_, by rw [List.length_cons, hl]; rfl, ?_⟩, ⟨b :: s, a :: r, ?_, by rw [List.length_cons, hl]; rfl, ?_⟩⟩
  · rw [List.cons_append]
    exact base.trans (.cons a (List.perm_middle.symm))
  · rw [List.map_cons, List.sum_cons]; exact hsum _
  · rw [List.cons_append]
    exact base.trans ((List.Perm.swap b a _).trans (.cons b (List.perm_middle.symm)))
  · rw [List.map_cons, List.sum_cons]; exact hsum _
theorem pick {α : Type} {f : α → Int} {p : Nat} (hp : 2 ≤ p) (pr : ∀ d, d ∣ p → d = 1 ∨ d = p) : ∀ (ps : List (α × α)), (∀ q ∈ ps, f q.1 % (p : Int) ≠ f q.2 % (p : Int)) → ∃ S, Picks f p ps S ∧ min p (ps.length + 1) ≤ S.length
  | [], _ => ⟨[0], ⟨List.nodup_cons.mpr ⟨fun z => (nomatch z), List.nodup_nil⟩, fun z hz => by
      rw [List.mem_singleton.mp hz]
      exact ⟨Int.le_refl 0, by omega, [], [], .refl _, rfl, by simp⟩⟩, by simp; omega⟩
  | (a, b) :: ps, h => by
    obtain ⟨S, hS, hl⟩ := pick hp pr ps fun q hq => h q (.tail _ hq)
    have hin : ∀ z ∈ S, 0 ≤ z ∧ z < (p : Int) := fun z hz => ⟨(hS.ok z hz).1, (hS.ok z hz).2.1⟩
    have nd1 := shift_nd (by omega) hS.nd hin (f a)
    have ok1 : ∀ z ∈ S.map (fun z => (z + f a) % (p : Int)), 0 ≤ z ∧ z < (p : Int) ∧ ∃ s r : List α, (((a, b) :: ps).map (·.1) ++ ((a, b) :: ps).map (·.2)).Perm (s ++ r) ∧ s.length = ((a, b) :: ps).length ∧ (s.map f).sum % p = z := fun z hz => by
      obtain ⟨y, hy, rfl⟩ := List.mem_map.mp hz
      obtain ⟨h1, h2, _⟩ := pick_step (a := a) (b := b) hS hy (by omega)
      exact ⟨h1.1, h1.2, h2⟩
    rw [List.length_cons]
    by_cases big : p ≤ S.length
    · exact ⟨_, ⟨nd1, ok1⟩, by rw [List.length_map]; omega⟩
    · have hex : ∃ y ∈ S, (y + f b) % (p : Int) ∉ S.map (fun z => (z + f a) % (p : Int)) := by
        refine Classical.byContradiction fun c => ?_
        have clo : ∀ y ∈ S, (y + (f b - f a)) % (p : Int) ∈ S := fun y hy => by
          have : (y + f b) % (p : Int) ∈ S.map (fun z => (z + f a) % (p : Int)) := Classical.byContradiction fun z => c ⟨y, hy, z⟩
          obtain ⟨y', hy', e⟩ := List.mem_map.mp this
          have h1 := Int.emod_eq_emod_iff_emod_sub_eq_zero.mp e
          have h2 : y' % (p : Int) = (y + (f b - f a)) % p := Int.emod_eq_emod_iff_emod_sub_eq_zero.mpr (by
            rw [show y' - (y + (f b - f a)) = y' + f a - (y + f b) by omega]; exact h1)
          rw [Int.emod_eq_of_lt (hin y' hy').1 (hin y' hy').2] at h2
          rw [← h2]; exact hy'
        have ne : S ≠ [] := fun z => by rw [z] at hl; simp at hl; omega
        obtain ⟨y0, hy0⟩ := List.exists_mem_of_ne_nil S ne
        have all : ∀ j : Nat, (y0 + (j : Int) * (f b - f a)) % (p : Int) ∈ S := by
          intro j
          induction j with
          | zero =>
            have := hin y0 hy0
            rw [show y0 + ((0 : Nat) : Int) * (f b - f a) = y0 by simp, Int.emod_eq_of_lt this.1 this.2]
            exact hy0
          | succ j ih =>
            have := clo _ ih
            rw [Int.emod_add_emod] at this
            rw [show y0 + ((j + 1 : Nat) : Int) * (f b - f a) = y0 + (j : Int) * (f b - f a) + (f b - f a) by rw [Int.natCast_add, Int.add_mul]; simp; omega]
            exact this
        have nd2 : ((List.range p).map fun j : Nat => (y0 + (j : Int) * (f b - f a)) % (p : Int)).Nodup := by
          rw [List.nodup_iff_pairwise_ne, List.pairwise_map]
          refine (List.pairwise_lt_range (n := p)).imp_of_mem fun {i j} hi hj hij e => ?_
          have h1 := Int.dvd_of_emod_eq_zero (Int.emod_eq_emod_iff_emod_sub_eq_zero.mp e.symm)
          rw [show y0 + (j : Int) * (f b - f a) - (y0 + (i : Int) * (f b - f a)) = ((j : Int) - i) * (f b - f a) by rw [Int.sub_mul]; omega] at h1
          have h2 := Int.natAbs_dvd_natAbs.mpr h1
          rw [Int.natAbs_natCast, Int.natAbs_mul] at h2
          have hj' := List.mem_range.mp hj
          have hd : ¬ p ∣ (f b - f a).natAbs := fun z => by
            have : (p : Int) ∣ f b - f a := Int.natAbs_dvd_natAbs.mp (by rw [Int.natAbs_natCast]; exact z)
            exact h (a, b) (.head _) (Int.emod_eq_emod_iff_emod_sub_eq_zero.mpr (Int.emod_eq_zero_of_dvd this)).symm
          have hc : Nat.Coprime p (f b - f a).natAbs := by
            rcases pr _ (Nat.gcd_dvd_left p (f b - f a).natAbs) with g | g
            · exact g
            · exact absurd (g ▸ Nat.gcd_dvd_right p (f b - f a).natAbs) hd
          have h3 := hc.dvd_of_dvd_mul_right h2
          have h4 := Nat.le_of_dvd (by omega) h3
          have hi' := List.mem_range.mp hi
          omega
        have := nl nd2 (b := S) fun z hz => by
          obtain ⟨j, _, rfl⟩ := List.mem_map.mp hz
          exact all j
        rw [List.length_map, List.length_range] at this
        exact big this
      obtain ⟨y, hy, hno⟩ := hex
      refine ⟨(y + f b) % (p : Int) :: S.map (fun z => (z + f a) % (p : Int)), ⟨List.nodup_cons.mpr ⟨hno, nd1⟩, fun z hz => ?_⟩, by rw [List.length_cons, List.length_map]; omega⟩
      rcases List.mem_cons.mp hz with rfl | hz
      · obtain ⟨_, _, h3⟩ := pick_step (a := a) (b := b) hS hy (by omega)
        exact ⟨Int.emod_nonneg _ (by omega), Int.emod_lt_of_pos _ (by omega), h3⟩
      · exact ok1 z hz
theorem same_sum {α : Type} {f : α → Int} {p v : Int} : ∀ {s : List α}, (∀ x ∈ s, f x % p = v) → ∃ k, (s.map f).sum = p * k + (s.length : Int) * v
  | [], _ => ⟨0, by simp⟩
  | x :: s, h => by
    obtain ⟨k, hk⟩ := same_sum (s := s) fun y hy => h y (.tail _ hy)
    have hx := h x (.head _)
    have e := Int.mul_ediv_add_emod (f x) p
    refine ⟨f x / p + k, ?_⟩
    rw [List.map_cons, List.sum_cons, hk, List.length_cons, Int.natCast_add, Int.mul_add, Int.add_mul]
    rw [hx] at e
    simp
    omega
theorem eg_prime {p : Nat} (hp : 2 ≤ p) (pr : ∀ d, d ∣ p → d = 1 ∨ d = p) : Eg p := fun α f l hl => by
  have hperm := List.mergeSort_perm l (fun x y => decide (f x % (p : Int) ≤ f y % (p : Int)))
  have hsort : (l.mergeSort (fun x y => decide (f x % (p : Int) ≤ f y % (p : Int)))).Pairwise (fun x y => decide (f x % (p : Int) ≤ f y % (p : Int)) = true) :=
    List.pairwise_mergeSort (le := fun x y => decide (f x % (p : Int) ≤ f y % (p : Int))) (fun a b c h1 h2 => decide_eq_true (Int.le_trans (of_decide_eq_true h1) (of_decide_eq_true h2))) (fun a b => by
      rcases Int.le_total (f a % (p : Int)) (f b % (p : Int)) with h | h
      · rw [decide_eq_true h]; rfl
      · rw [decide_eq_true h, Bool.or_true]) l
  generalize l.mergeSort (fun x y => decide (f x % (p : Int) ≤ f y % (p : Int))) = m at hperm hsort
  have hlen := hperm.length_eq
  suffices hh : ∃ s r : List α, m.Perm (s ++ r) ∧ s.length = p ∧ (p : Int) ∣ (s.map f).sum by
    obtain ⟨s, r, h1, h2, h3⟩ := hh
    exact ⟨s, r, hperm.symm.trans h1, h2, h3⟩
  have hmono : ∀ i j : Nat, i ≤ j → ∀ x y, m[i]? = some x → m[j]? = some y → f x % (p : Int) ≤ f y % (p : Int) := fun i j hij x y hx hy => by
    rcases Nat.lt_or_eq_of_le hij with h | h
    · obtain ⟨h1, e1⟩ := List.getElem?_eq_some_iff.mp hx
      obtain ⟨h2, e2⟩ := List.getElem?_eq_some_iff.mp hy
      have := List.pairwise_iff_getElem.mp hsort i j h1 h2 h
      rw [e1, e2] at this
      exact of_decide_eq_true this
    · subst h; rw [hx] at hy; cases hy; exact Int.le_refl _
  by_cases c : ∃ i, i < p - 1 ∧ ∃ x y, m[i + 1]? = some x ∧ m[i + p]? = some y ∧ f x % (p : Int) = f y % (p : Int)
  · obtain ⟨i, hi, x, y, hx, hy, e⟩ := c
    refine ⟨(m.drop (i + 1)).take p, m.take (i + 1) ++ (m.drop (i + 1)).drop p, ?_, ?_, ?_⟩
    · have e1 : m = m.take (i + 1) ++ ((m.drop (i + 1)).take p ++ (m.drop (i + 1)).drop p) := by rw [List.take_append_drop, List.take_append_drop]
      conv => lhs; rw [e1]
      rw [← List.append_assoc, ← List.append_assoc]
      exact List.perm_append_comm.append_right _
    · rw [List.length_take, List.length_drop]; omega
    · have hall : ∀ w ∈ (m.drop (i + 1)).take p, f w % (p : Int) = f x % (p : Int) := fun w hw => by
        obtain ⟨j, hj⟩ := List.mem_iff_getElem?.mp hw
        rw [List.getElem?_take] at hj
        split at hj
        · rename_i hjp
          rw [List.getElem?_drop] at hj
          have h1 := hmono (i + 1) (i + 1 + j) (by omega) x w hx hj
          have h2 := hmono (i + 1 + j) (i + p) (by omega) w y hj hy
          omega
        · cases hj
      obtain ⟨k, hk⟩ := same_sum hall
      rw [hk]
      have hl2 : ((m.drop (i + 1)).take p).length = p := by rw [List.length_take, List.length_drop]; omega
      rw [hl2, ← Int.mul_add]
      exact Int.dvd_mul_right _ _
  · match m, hlen, hperm, hsort, hmono, c with
    | [], hlen, _, _, _, _ => rw [List.length_nil] at hlen; omega
    | c0 :: m, hlen, _, _, _, c =>
      rw [List.length_cons] at hlen
      have la : (m.take (p - 1)).length = p - 1 := by rw [List.length_take]; omega
      have lb : ((m.drop (p - 1)).take (p - 1)).length = p - 1 := by rw [List.length_take, List.length_drop]; omega
      have hps : ((m.take (p - 1)).zip ((m.drop (p - 1)).take (p - 1))).length = p - 1 := by rw [List.length_zip, la, lb]; omega
      obtain ⟨S, hS, hSl⟩ := pick (f := f) hp pr ((m.take (p - 1)).zip ((m.drop (p - 1)).take (p - 1))) fun q hq e => by
        obtain ⟨i, hi⟩ := List.mem_iff_getElem?.mp hq
        rw [List.getElem?_zip_eq_some] at hi
        obtain ⟨h1, h2⟩ := hi
        rw [List.getElem?_take] at h1 h2
        split at h1
        · rename_i hip
          rw [if_pos hip, List.getElem?_drop] at h2
          refine c ⟨i, hip, q.1, q.2, by rw [List.getElem?_cons_succ]; exact h1, ?_, e⟩
          rw [show i + p = (p - 1 + i) + 1 by omega, List.getElem?_cons_succ]
          exact h2
        · cases h1
      rw [hps, show p - 1 + 1 = p by omega, Nat.min_self] at hSl
      have ht : (-(f c0)) % (p : Int) ∈ S := by
        refine Classical.byContradiction fun z => ?_
        have := nl (List.nodup_cons.mpr ⟨z, hS.nd⟩) (b := rng p) fun w hw => by
          rw [mem_rng]
          rcases List.mem_cons.mp hw with rfl | hw
          · exact ⟨Int.emod_nonneg _ (by omega), Int.emod_lt_of_pos _ (by omega)⟩
          · exact ⟨(hS.ok w hw).1, (hS.ok w hw).2.1⟩
        rw [List.length_cons, len_rng] at this
        omega
      obtain ⟨_, _, s, r, hperm2, hsl, hsum⟩ := hS.ok _ ht
      rw [List.map_fst_zip (by omega), List.map_snd_zip (by omega)] at hperm2
      refine ⟨c0 :: s, r ++ (m.drop (p - 1)).drop (p - 1), ?_, by rw [List.length_cons, hsl, hps]; omega, ?_⟩
      · rw [List.cons_append]
        refine .cons c0 ?_
        have e1 : m = m.take (p - 1) ++ ((m.drop (p - 1)).take (p - 1) ++ (m.drop (p - 1)).drop (p - 1)) := by rw [List.take_append_drop, List.take_append_drop]
        conv => lhs; rw [e1]
        rw [← List.append_assoc, ← List.append_assoc]
        exact hperm2.append_right _
      · rw [List.map_cons, List.sum_cons]
        apply Int.dvd_of_emod_eq_zero
        rw [Int.add_emod, hsum, ← Int.add_emod, Int.add_right_neg, Int.zero_emod]
theorem eg_all : ∀ n, 1 ≤ n → Eg n := by
  intro n
  induction n using Nat.strongRecOn with
  | ind n ih =>
    intro h1
    by_cases c : n = 1
    · subst c; exact eg_one
    · have least : ∀ k, k ≤ n → (∃ d, 2 ≤ d ∧ d ≤ k ∧ d ∣ n) → ∃ d, 2 ≤ d ∧ d ∣ n ∧ ∀ e, 2 ≤ e → e ∣ n → d ≤ e := by
        intro k
        induction k with
        | zero => rintro _ ⟨d, d2, dk, _⟩; omega
        | succ k ihk =>
          rintro hk ⟨d, d2, dk, dn⟩
          by_cases c2 : ∃ d, 2 ≤ d ∧ d ≤ k ∧ d ∣ n
          · exact ihk (by omega) c2
          · refine ⟨d, d2, dn, fun e e2 en => ?_⟩
            have : ¬ e ≤ k := fun z => c2 ⟨e, e2, z, en⟩
            omega
      obtain ⟨p, p2, pn, hmin⟩ := least n (Nat.le_refl n) ⟨n, by omega, Nat.le_refl n, Nat.dvd_refl n⟩
      have pr : ∀ d, d ∣ p → d = 1 ∨ d = p := fun d hd => by
        have d0 : d ≠ 0 := fun z => by rw [z] at hd; have := Nat.eq_zero_of_zero_dvd hd; omega
        by_cases d1 : d = 1
        · exact .inl d1
        · have := hmin d (by omega) (Nat.dvd_trans hd pn)
          have := Nat.le_of_dvd (by omega) hd
          right; omega
      obtain ⟨q, hq⟩ := pn
      have q1 : 1 ≤ q := by
        rcases Nat.eq_zero_or_pos q with z | z
        · rw [z, Nat.mul_zero] at hq; omega
        · exact z
      have qn : q < n := by
        have : 2 * q ≤ p * q := Nat.mul_le_mul_right _ p2
        omega
      rw [hq]
      exact eg_mul (eg_prime p2 pr) (ih q qn q1) (by omega) q1
end EG
namespace Z
open PySem PySem.Spec L2 Y
open PyProof.Rows hiding St
end Z

namespace Z
open PySem PySem.Spec L2 Y
open PyProof.Rows hiding St
def topS (i : Nat) : Stmt := PySem.Challenge.pw_sumless_k21_whole_zero_parts.main.body.getD i (.Pass ⟨0, 0, 0, 0⟩)
abbrev s_is_integer : Stmt := topS 5
abbrev s_is_from : Stmt := topS 6
abbrev s_check_row : Stmt := topS 10
abbrev s_tables : Stmt := topS 11
abbrev s_least_part : Stmt := topS 12
abbrev s_zero_part : Stmt := topS 13
abbrev s_zero_many : Stmt := topS 14
abbrev s_count_zero : Stmt := topS 15
abbrev s__law_random : Stmt := topS 17
abbrev s__law_below : Stmt := topS 18
abbrev s__law_pick : Stmt := topS 19
abbrev s__law_equal : Stmt := topS 20
abbrev s__law_word : Stmt := topS 21
abbrev s__law_total : Stmt := topS 22
abbrev s__law_all_refused : Stmt := topS 23
abbrev s_law : Stmt := topS 24
abbrev s_ini_BadRow : Stmt := (clsB (topS 3)).getD 0 (.Pass ⟨0, 0, 0, 0⟩)
abbrev n_is_integer : List Str := ["value"]
abbrev p_is_integer : List Str := ["value"]
theorem sc_is_integer : FnScope n_is_integer p_is_integer (defScope s_is_integer) := ⟨rfl, rfl, rfl, by decide +kernel, rfl, by decide +kernel, by decide +kernel⟩
abbrev n_is_from : List Str := ["value", "low", "high"]
abbrev p_is_from : List Str := ["value", "low", "high"]
theorem sc_is_from : FnScope n_is_from p_is_from (defScope s_is_from) := ⟨rfl, rfl, rfl, by decide +kernel, rfl, by decide +kernel, by decide +kernel⟩
abbrev n_check_row : List Str := ["n", "row", "index", "rest"]
abbrev p_check_row : List Str := ["n", "row"]
theorem sc_check_row : FnScope n_check_row p_check_row (defScope s_check_row) := ⟨rfl, rfl, rfl, by decide +kernel, rfl, by decide +kernel, by decide +kernel⟩
abbrev n_tables : List Str := ["n", "row", "found", "rest", "ahead", "now", "many", "total", "key"]
abbrev p_tables : List Str := ["n", "row"]
theorem sc_tables : FnScope n_tables p_tables (defScope s_tables) := ⟨rfl, rfl, rfl, by decide +kernel, rfl, by decide +kernel, by decide +kernel⟩
abbrev n_least_part : List Str := ["n", "row", "told", "many", "found", "need", "total", "at", "rest", "later"]
abbrev p_least_part : List Str := ["n", "row", "told", "many"]
theorem sc_least_part : FnScope n_least_part p_least_part (defScope s_least_part) := ⟨rfl, rfl, rfl, by decide +kernel, rfl, by decide +kernel, by decide +kernel⟩
abbrev n_zero_part : List Str := ["n", "row", "told", "many"]
abbrev p_zero_part : List Str := ["n", "row"]
theorem sc_zero_part : FnScope n_zero_part p_zero_part (defScope s_zero_part) := ⟨rfl, rfl, rfl, by decide +kernel, rfl, by decide +kernel, by decide +kernel⟩
abbrev n_zero_many : List Str := ["n", "row", "told"]
abbrev p_zero_many : List Str := ["n", "row"]
theorem sc_zero_many : FnScope n_zero_many p_zero_many (defScope s_zero_many) := ⟨rfl, rfl, rfl, by decide +kernel, rfl, by decide +kernel, by decide +kernel⟩
abbrev n_count_zero : List Str := ["n", "row", "first", "key"]
abbrev p_count_zero : List Str := ["n", "row"]
theorem sc_count_zero : FnScope n_count_zero p_count_zero (defScope s_count_zero) := ⟨rfl, rfl, rfl, by decide +kernel, rfl, by decide +kernel, by decide +kernel⟩
abbrev n__law_random : List Str := ["_law_script", "_law_salt", "_law_seed", "_law_cell"]
abbrev p__law_random : List Str := ["_law_script", "_law_salt"]
theorem sc__law_random : FnScope n__law_random p__law_random (defScope s__law_random) := ⟨rfl, rfl, rfl, by decide +kernel, rfl, by decide +kernel, by decide +kernel⟩
abbrev n__law_below : List Str := ["_law_d", "_law_size", "_law_result"]
abbrev p__law_below : List Str := ["_law_d", "_law_size"]
theorem sc__law_below : FnScope n__law_below p__law_below (defScope s__law_below) := ⟨rfl, rfl, rfl, by decide +kernel, rfl, by decide +kernel, by decide +kernel⟩
abbrev n__law_pick : List Str := ["_law_d", "_law_items"]
abbrev p__law_pick : List Str := ["_law_d", "_law_items"]
theorem sc__law_pick : FnScope n__law_pick p__law_pick (defScope s__law_pick) := ⟨rfl, rfl, rfl, by decide +kernel, rfl, by decide +kernel, by decide +kernel⟩
abbrev n__law_equal : List Str := ["_law_actual", "_law_expected", "_law_k", "_law_key"]
abbrev p__law_equal : List Str := ["_law_actual", "_law_expected"]
theorem sc__law_equal : FnScope n__law_equal p__law_equal (defScope s__law_equal) := ⟨rfl, rfl, rfl, by decide +kernel, rfl, by decide +kernel, by decide +kernel⟩
abbrev n__law_word : List Str := ["_law_name", "_law_n", "_law_row", "_law_found", "e"]
abbrev p__law_word : List Str := ["_law_name", "_law_n", "_law_row"]
theorem sc__law_word : FnScope n__law_word p__law_word (defScope s__law_word) := ⟨rfl, rfl, rfl, by decide +kernel, rfl, by decide +kernel, by decide +kernel⟩
abbrev n__law_total : List Str := ["_law_n", "_law_row", "_law_places_so", "_law_place"]
abbrev p__law_total : List Str := ["_law_n", "_law_row", "_law_places_so"]
theorem sc__law_total : FnScope n__law_total p__law_total (defScope s__law_total) := ⟨rfl, rfl, rfl, by decide +kernel, rfl, by decide +kernel, by decide +kernel⟩
abbrev n__law_all_refused : List Str := ["_law_n", "_law_row", "_law_bad", "_law_name", "_law_value"]
abbrev p__law_all_refused : List Str := ["_law_n", "_law_row", "_law_bad"]
theorem sc__law_all_refused : FnScope n__law_all_refused p__law_all_refused (defScope s__law_all_refused) := ⟨rfl, rfl, rfl, by decide +kernel, rfl, by decide +kernel, by decide +kernel⟩
abbrev n_law : List Str := ["_law_script", "_law_d", "_law_turn", "_law_n", "_law_row", "_law_ones", "_law_found", "_law_place", "_law_good", "_law_some", "_law_told", "_law_part", "_law_sets_so", "_law_pair", "_law_k"]
abbrev p_law : List Str := ["_law_script"]
theorem sc_law : FnScope n_law p_law (defScope s_law) := ⟨rfl, rfl, rfl, by decide +kernel, rfl, by decide +kernel, by decide +kernel⟩
/-- what the written part says -/
structure Txt (K : PySem.W.Frag) (mg : Str → Option Value) (a : Nat → Addr) (fd : Nat → FuncData) : Prop where
  z_abs : mg "abs" = none
  z_all : mg "all" = none
  z_bool : mg "bool" = none
  z_dict : mg "dict" = none
  z_enumerate : mg "enumerate" = none
  z_int : mg "int" = none
  z_isinstance : mg "isinstance" = none
  z_len : mg "len" = none
  z_list : mg "list" = none
  z_min : mg "min" = none
  z_range : mg "range" = none
  z_set : mg "set" = none
  z_sorted : mg "sorted" = none
  z_str : mg "str" = none
  z_sum : mg "sum" = none
  z_tuple : mg "tuple" = none
  c_MOST_ZERO : ∃ t : Tok, mg "MOST_ZERO" = some (.int 20 t)
  c_MOST_ROW : ∃ t : Tok, mg "MOST_ROW" = some (.int 40 t)
  g_is_integer : mg "is_integer" = some (.ref (a 0))
  F_is_integer : Fun K "is_integer" "is_integer" s_is_integer (a 0) (fd 0)
  b_is_integer : Binds K (fd 0) p_is_integer []
  g_is_from : mg "is_from" = some (.ref (a 1))
  F_is_from : Fun K "is_from" "is_from" s_is_from (a 1) (fd 1)
  b_is_from : Binds K (fd 1) p_is_from []
  g_check_row : mg "check_row" = some (.ref (a 2))
  F_check_row : Fun K "check_row" "check_row" s_check_row (a 2) (fd 2)
  b_check_row : Binds K (fd 2) p_check_row []
  g_tables : mg "tables" = some (.ref (a 3))
  F_tables : Fun K "tables" "tables" s_tables (a 3) (fd 3)
  b_tables : Binds K (fd 3) p_tables []
  g_least_part : mg "least_part" = some (.ref (a 4))
  F_least_part : Fun K "least_part" "least_part" s_least_part (a 4) (fd 4)
  b_least_part : Binds K (fd 4) p_least_part []
  g_zero_part : mg "zero_part" = some (.ref (a 5))
  F_zero_part : Fun K "zero_part" "zero_part" s_zero_part (a 5) (fd 5)
  b_zero_part : Binds K (fd 5) p_zero_part []
  g_zero_many : mg "zero_many" = some (.ref (a 6))
  F_zero_many : Fun K "zero_many" "zero_many" s_zero_many (a 6) (fd 6)
  b_zero_many : Binds K (fd 6) p_zero_many []
  g_count_zero : mg "count_zero" = some (.ref (a 7))
  F_count_zero : Fun K "count_zero" "count_zero" s_count_zero (a 7) (fd 7)
  b_count_zero : Binds K (fd 7) p_count_zero []
  g__law_random : mg "_law_random" = some (.ref (a 8))
  F__law_random : Fun K "_law_random" "_law_random" s__law_random (a 8) (fd 8)
  b__law_random : Binds K (fd 8) p__law_random []
  g__law_below : mg "_law_below" = some (.ref (a 9))
  F__law_below : Fun K "_law_below" "_law_below" s__law_below (a 9) (fd 9)
  b__law_below : Binds K (fd 9) p__law_below []
  g__law_pick : mg "_law_pick" = some (.ref (a 10))
  F__law_pick : Fun K "_law_pick" "_law_pick" s__law_pick (a 10) (fd 10)
  b__law_pick : Binds K (fd 10) p__law_pick []
  g__law_equal : mg "_law_equal" = some (.ref (a 11))
  F__law_equal : Fun K "_law_equal" "_law_equal" s__law_equal (a 11) (fd 11)
  b__law_equal : Binds K (fd 11) p__law_equal []
  g__law_word : mg "_law_word" = some (.ref (a 12))
  F__law_word : Fun K "_law_word" "_law_word" s__law_word (a 12) (fd 12)
  b__law_word : Binds K (fd 12) p__law_word []
  g__law_total : mg "_law_total" = some (.ref (a 13))
  F__law_total : Fun K "_law_total" "_law_total" s__law_total (a 13) (fd 13)
  b__law_total : Binds K (fd 13) p__law_total []
  g__law_all_refused : mg "_law_all_refused" = some (.ref (a 14))
  F__law_all_refused : Fun K "_law_all_refused" "_law_all_refused" s__law_all_refused (a 14) (fd 14)
  b__law_all_refused : Binds K (fd 14) p__law_all_refused []
  g_law : mg "law" = some (.ref (a 15))
  F_law : Fun K "law" "law" s_law (a 15) (fd 15)
  b_law : Binds K (fd 15) p_law []
  g_BadRound : mg "BadRound" = some (.ref (a 17))
  q_BadRound : PySem.W.excIn K (a 17) [.type "ValueError", .type "Exception", .type "BaseException", .type "object"] "ValueError.__new__" = true
  k_BadRound : PySem.W.keepIn K (.ref (a 17)) = true
  s_BadRound : PySem.W.subIn K (.ref (a 17)) (.type "BaseException") = some true
  t_BadRound : PySem.W.typeIn K (.ref (a 17)) = some (.type "type")
  e_BadRow : ExF K mg "BadRow" "index" (a 18) (a 19) (fd 19) s_ini_BadRow
  m_BadRound_BadRound : PySem.W.exmOne K (.ref (a 17)) (.ref (a 17)) = some true
  m_BadRound_BadRow : PySem.W.exmOne K (.ref (a 17)) (.ref (a 18)) = some false
  m_BadRow_BadRound : PySem.W.exmOne K (.ref (a 18)) (.ref (a 17)) = some false
  m_BadRow_BadRow : PySem.W.exmOne K (.ref (a 18)) (.ref (a 18)) = some true
  f_BadRow : XfC K (a 18)
def subX (x h : Str) : Bool := x == h
def okX (x : Str) : Bool := (["BadRound", "BadRow"] : List Str).contains x
theorem sub_ok {K : PySem.W.Frag} {mg : Str → Option Value} {a : Nat → Addr} {fd : Nat → FuncData} (T : Txt K mg a fd) {X : Cx} (hK : X.K = K) (hm : X.mg = mg) (hs : List Str) (hh : ∀ h ∈ hs, h ∈ (["BadRound", "BadRow"] : List Str)) : SubOk X subX okX hs := by
  subst hK hm
  refine ⟨fun x C h C2 hx hmem h1 h2 => ?_⟩
  have hx2 : x ∈ (["BadRound", "BadRow"] : List Str) := by simpa [okX] using hx
  have hh2 := hh h hmem
  simp only [List.mem_cons, List.mem_nil_iff, or_false] at hx2 hh2
  rcases hx2 with rfl | rfl <;> rcases hh2 with rfl | rfl
  · rw [T.g_BadRound] at h1; rw [T.g_BadRound] at h2; cases h1; cases h2; exact T.m_BadRound_BadRound.trans (by decide)
  · rw [T.g_BadRound] at h1; rw [T.e_BadRow.mgC] at h2; cases h1; cases h2; exact T.m_BadRound_BadRow.trans (by decide)
  · rw [T.e_BadRow.mgC] at h1; rw [T.g_BadRound] at h2; cases h1; cases h2; exact T.m_BadRow_BadRound.trans (by decide)
  · rw [T.e_BadRow.mgC] at h1; rw [T.e_BadRow.mgC] at h2; cases h1; cases h2; exact T.m_BadRow_BadRow.trans (by decide)
section
variable {P : Program} {w : World} {K : PySem.W.Frag} {mg : Str → Option Value} {base : Heap} {a : Nat → Addr} {fd : Nat → FuncData}
theorem i_BadRow (T : Txt K mg a fd) : FnOk P w K mg base (L2.CX P w) 1 (a 19) (fd 19) ["self", "index"] (spIni (a 18) "index") := ini_ok T.e_BadRow ⟨rfl, rfl, rfl, by decide +kernel, rfl, by decide +kernel, by decide +kernel⟩ fun _ _ _ _ _ _ _ => pss_one (ps_ost (pv 0) (pv 1))
end
def t_is_integer : TSd := (tRetD (tAndVD (tIsiD .int (tVarD 0)) (tNotVD (tIsiD .bool (tVarD 0)))))
theorem d_is_integer {P : Program} {w : World} {K : PySem.W.Frag} {mg : Str → Option Value} {base : Heap} {a : Nat → Addr} {fd : Nat → FuncData} {k : Nat} (T : Txt K mg a fd) : ∀ (cdv : Value) (A : Around) (outer : List Env) (s : Shared) (H : Hp) (E : XK), Room k (A.deeper (envOfC "is_integer" (defScope s_is_integer) s.heap.objs.size (a 0) cdv)) →
    PSsd (cxOf (L2.CX P w) P w K mg base n_is_integer "is_integer" (defScope s_is_integer) (a 0) cdv A outer s H E) (fun _ => E) (defBody s_is_integer) (t_is_integer) := by
  intro cdv A outer s H E hr
  have hu : (cxOf (L2.CX P w) P w K mg base n_is_integer "is_integer" (defScope s_is_integer) (a 0) cdv A outer s H E).A.units + 64 < cLine := by have := hr.un; show (A.deeper _).units + 64 < cLine; omega
  have tk : Takes (cxOf (L2.CX P w) P w K mg base n_is_integer "is_integer" (defScope s_is_integer) (a 0) cdv A outer s H E) (fun cls d _ H => E cls d H) := takes_of rfl rfl rfl rfl
  have hx : ∀ σ, PassesAt (L2.CX P w) (cxOf (L2.CX P w) P w K mg base n_is_integer "is_integer" (defScope s_is_integer) (a 0) cdv A outer s H E) σ E := fun σ => passAt tk σ
  have hp : PassesOwn (model P w) (cxOf (L2.CX P w) P w K mg base n_is_integer "is_integer" (defScope s_is_integer) (a 0) cdv A outer s H E).A (cxOf (L2.CX P w) P w K mg base n_is_integer "is_integer" (defScope s_is_integer) (a 0) cdv A outer s H E).env (cxOf (L2.CX P w) P w K mg base n_is_integer "is_integer" (defScope s_is_integer) (a 0) cdv A outer s H E).xe := passes_of rfl
  have nd : (n_is_integer).Nodup := sc_is_integer.nd
  exact (pssd_one (psd_ret (ped_and (ped_isi .int T.z_isinstance T.z_int rfl rfl rfl (ped_var 0)) (ped_one (ped_not (ped_isi .bool T.z_isinstance T.z_bool rfl rfl rfl (ped_var 0)))))))
def t_is_from (sp_is_integer : SpD) : TSd := (tRetD (tAndVD (tCallD sp_is_integer (tConsD (tVarD 0) tNilD)) (tChainD rLeD rLeD (tVarD 1) (tVarD 0) (tVarD 2))))
theorem d_is_from {P : Program} {w : World} {K : PySem.W.Frag} {mg : Str → Option Value} {base : Heap} {a : Nat → Addr} {fd : Nat → FuncData} {k : Nat} (T : Txt K mg a fd) {sp_is_integer : SpD} {k_is_integer : Nat} (G_is_integer : FnOk P w K mg base (L2.CX P w) k_is_integer (a 0) (fd 0) p_is_integer (liftSp K mg sp_is_integer)) (h_is_integer : k_is_integer ≤ k) : ∀ (cdv : Value) (A : Around) (outer : List Env) (s : Shared) (H : Hp) (E : XK), Room k (A.deeper (envOfC "is_from" (defScope s_is_from) s.heap.objs.size (a 1) cdv)) →
    PSsd (cxOf (L2.CX P w) P w K mg base n_is_from "is_from" (defScope s_is_from) (a 1) cdv A outer s H E) (fun _ => E) (defBody s_is_from) (t_is_from sp_is_integer) := by
  intro cdv A outer s H E hr
  have hu : (cxOf (L2.CX P w) P w K mg base n_is_from "is_from" (defScope s_is_from) (a 1) cdv A outer s H E).A.units + 64 < cLine := by have := hr.un; show (A.deeper _).units + 64 < cLine; omega
  have tk : Takes (cxOf (L2.CX P w) P w K mg base n_is_from "is_from" (defScope s_is_from) (a 1) cdv A outer s H E) (fun cls d _ H => E cls d H) := takes_of rfl rfl rfl rfl
  have hx : ∀ σ, PassesAt (L2.CX P w) (cxOf (L2.CX P w) P w K mg base n_is_from "is_from" (defScope s_is_from) (a 1) cdv A outer s H E) σ E := fun σ => passAt tk σ
  have hp : PassesOwn (model P w) (cxOf (L2.CX P w) P w K mg base n_is_from "is_from" (defScope s_is_from) (a 1) cdv A outer s H E).A (cxOf (L2.CX P w) P w K mg base n_is_from "is_from" (defScope s_is_from) (a 1) cdv A outer s H E).env (cxOf (L2.CX P w) P w K mg base n_is_from "is_from" (defScope s_is_from) (a 1) cdv A outer s H E).xe := passes_of rfl
  have nd : (n_is_from).Nodup := sc_is_from.nd
  exact (pssd_one (psd_ret (ped_and (ped_call G_is_integer (hr.mono h_is_integer) T.g_is_integer T.F_is_integer.kp T.b_is_integer hx rfl (pad_cons (ped_var 0) pad_nil)) (ped_one (ped_chain op_le lift_le op_le lift_le (ped_var 1) (ped_var 0) (ped_var 2))))))
def t_check_row (sp_is_from : SpD) : TSd := (tSeqD (tIfSD (tNotD (tTestD (tCallD sp_is_from (tConsD (tVarD 0) (tConsD (tCD (.int 1)) (tConsD (tCD (.int 20)) tNilD)))))) (tRaise0D "BadRound") tNextD) (tSeqD (tIfSD (tOrD (tNotD (tTestD (tIsiD .tuple (tVarD 1)))) (tTestD (tOpD rGtD (tCBD rLenD (tConsD (tVarD 1) tNilD)) (tCD (.int 40))))) (tRaise1D "BadRow" "index" (tCD .non)) tNextD) (tForD (iEnumD (tConsD (tVarD 1) tNilD)) (gTupD (gConsD (gNameD 2) (gConsD (gNameD 3) gNilD))) (tIfSD (tNotD (tTestD (tCallD sp_is_from (tConsD (tVarD 3) (tConsD (tCD (.int 0)) (tConsD (tOpD rSubD (tVarD 0) (tCD (.int 1))) tNilD)))))) (tRaise1D "BadRow" "index" (tVarD 2)) tNextD))))
theorem d_check_row {P : Program} {w : World} {K : PySem.W.Frag} {mg : Str → Option Value} {base : Heap} {a : Nat → Addr} {fd : Nat → FuncData} {k : Nat} (T : Txt K mg a fd) {sp_is_from : SpD} {k_is_from : Nat} (G_is_from : FnOk P w K mg base (L2.CX P w) k_is_from (a 1) (fd 1) p_is_from (liftSp K mg sp_is_from)) (h_is_from : k_is_from ≤ k) (hi_BadRow : 2 ≤ k) : ∀ (cdv : Value) (A : Around) (outer : List Env) (s : Shared) (H : Hp) (E : XK), Room k (A.deeper (envOfC "check_row" (defScope s_check_row) s.heap.objs.size (a 2) cdv)) →
    PSsd (cxOf (L2.CX P w) P w K mg base n_check_row "check_row" (defScope s_check_row) (a 2) cdv A outer s H E) (fun _ => E) (defBody s_check_row) (t_check_row sp_is_from) := by
  intro cdv A outer s H E hr
  have hu : (cxOf (L2.CX P w) P w K mg base n_check_row "check_row" (defScope s_check_row) (a 2) cdv A outer s H E).A.units + 64 < cLine := by have := hr.un; show (A.deeper _).units + 64 < cLine; omega
  have tk : Takes (cxOf (L2.CX P w) P w K mg base n_check_row "check_row" (defScope s_check_row) (a 2) cdv A outer s H E) (fun cls d _ H => E cls d H) := takes_of rfl rfl rfl rfl
  have hx : ∀ σ, PassesAt (L2.CX P w) (cxOf (L2.CX P w) P w K mg base n_check_row "check_row" (defScope s_check_row) (a 2) cdv A outer s H E) σ E := fun σ => passAt tk σ
  have hp : PassesOwn (model P w) (cxOf (L2.CX P w) P w K mg base n_check_row "check_row" (defScope s_check_row) (a 2) cdv A outer s H E).A (cxOf (L2.CX P w) P w K mg base n_check_row "check_row" (defScope s_check_row) (a 2) cdv A outer s H E).env (cxOf (L2.CX P w) P w K mg base n_check_row "check_row" (defScope s_check_row) (a 2) cdv A outer s H E).xe := passes_of rfl
  have nd : (n_check_row).Nodup := sc_check_row.nd
  have I_BadRow : FnOk P w K mg base (L2.CX P w) 1 (a 19) (fd 19) ["self", "index"] (spIni (a 18) "index") := i_BadRow T
  exact (pssd_cons (psd_if (ptd_not (ptd_val (ped_call G_is_from (hr.mono h_is_from) T.g_is_from T.F_is_from.kp T.b_is_from hx rfl (pad_cons (ped_var 0) (pad_cons ped_int (pad_cons (ped_globI rfl T.c_MOST_ZERO.choose_spec) pad_nil)))))) (pssd_one (psd_raise0 rfl tk T.q_BadRound T.g_BadRound T.k_BadRound (raises_own T.s_BadRound T.t_BadRound) rfl)) pssd_nil) (pssd_cons (psd_if (PWd.pt (pwd_or (ptd_not (ptd_val (ped_isi .tuple T.z_isinstance T.z_tuple rfl rfl rfl (ped_var 1)))) (pwd_or1 (ptd_cmp op_gt lift_gt (ped_callB call_len lift_len T.z_len rfl rfl (pad_cons (ped_var 1) pad_nil)) (ped_globI rfl T.c_MOST_ROW.choose_spec) (nomark _))))) (pssd_one (psd_raise1 rfl tk (T.e_BadRow.ext) I_BadRow (hr.mono hi_BadRow) rfl ped_non)) pssd_nil) (pssd_one (psd_for hp rfl (pid_enum T.z_enumerate (by rfl) (pad_cons (ped_var 1) pad_nil)) (pgd_tup rfl (pgsd_cons (pgd_name (i := 2) nd rfl (by first | exact .inl rfl | exact .inr rfl)) (pgsd_cons (pgd_name (i := 3) nd rfl (by first | exact .inl rfl | exact .inr rfl)) pgsd_nil)) (lenCons (lenCons lenNil))) (pssd_one (psd_if (ptd_not (ptd_val (ped_call G_is_from (hr.mono h_is_from) T.g_is_from T.F_is_from.kp T.b_is_from hx rfl (pad_cons (ped_var 3) (pad_cons ped_int (pad_cons (ped_op op_sub lift_sub (ped_var 0) ped_int) pad_nil)))))) (pssd_one (psd_raise1 rfl tk (T.e_BadRow.ext) I_BadRow (hr.mono hi_BadRow) rfl (ped_var 2))) pssd_nil))))))
def t_tables : TSd := (tSeqD (tSetD 2 (tLstD (tConsD (tDic1D 0 0 1) tNilD))) (tSeqD (tForD (iAnyD (tRevTD (tVarD 1))) (gNameD 3) (tSeqD (tPar2D 4 5 (tConsD (tOpD rIxD (tVarD 2) (tCD (.int 0))) (tConsD tDicOD tNilD))) (tSeqD (tLockD 4 (tForD (iKeysD (tVarD 4)) (gKeyD (gTupD (gConsD (gNameD 6) (gConsD (gNameD 7) gNilD)))) (tForD (iAnyD (tLstD (tConsD (tDspKD (tConsD (tVarD 6) (tConsD (tVarD 7) tNilD))) (tConsD (tDspKD (tConsD (tOpD rAddD (tVarD 6) (tCD (.int 1))) (tConsD (tOpD rModD (tOpD rAddD (tVarD 7) (tVarD 3)) (tVarD 0)) tNilD))) tNilD)))) (gNameD 8) (tPutKD (tVarD 5) (kVarD 8) (tOpD rAddD (tGet2D (tVarD 5) (kVarD 8) (tCD (.int 0))) (tGetLD (tVarD 4) (kDspD (tConsD (tVarD 6) (tConsD (tVarD 7) tNilD))))))))) (tSetD 2 (tLstD (tConsD (tVarD 5) (tStarD (tVarD 2) tNilD))))))) (tRetD (tVarD 2))))
theorem d_tables {P : Program} {w : World} {K : PySem.W.Frag} {mg : Str → Option Value} {base : Heap} {a : Nat → Addr} {fd : Nat → FuncData} {k : Nat} (T : Txt K mg a fd) : ∀ (cdv : Value) (A : Around) (outer : List Env) (s : Shared) (H : Hp) (E : XK), Room k (A.deeper (envOfC "tables" (defScope s_tables) s.heap.objs.size (a 3) cdv)) →
    PSsd (cxOf (L2.CX P w) P w K mg base n_tables "tables" (defScope s_tables) (a 3) cdv A outer s H E) (fun _ => E) (defBody s_tables) (t_tables) := by
  intro cdv A outer s H E hr
  have hu : (cxOf (L2.CX P w) P w K mg base n_tables "tables" (defScope s_tables) (a 3) cdv A outer s H E).A.units + 64 < cLine := by have := hr.un; show (A.deeper _).units + 64 < cLine; omega
  have tk : Takes (cxOf (L2.CX P w) P w K mg base n_tables "tables" (defScope s_tables) (a 3) cdv A outer s H E) (fun cls d _ H => E cls d H) := takes_of rfl rfl rfl rfl
  have hx : ∀ σ, PassesAt (L2.CX P w) (cxOf (L2.CX P w) P w K mg base n_tables "tables" (defScope s_tables) (a 3) cdv A outer s H E) σ E := fun σ => passAt tk σ
  have hp : PassesOwn (model P w) (cxOf (L2.CX P w) P w K mg base n_tables "tables" (defScope s_tables) (a 3) cdv A outer s H E).A (cxOf (L2.CX P w) P w K mg base n_tables "tables" (defScope s_tables) (a 3) cdv A outer s H E).env (cxOf (L2.CX P w) P w K mg base n_tables "tables" (defScope s_tables) (a 3) cdv A outer s H E).xe := passes_of rfl
  have nd : (n_tables).Nodup := sc_tables.nd
  exact (pssd_cons (psd_set (i := 2) nd rfl (by first | exact .inl rfl | exact .inr rfl) (ped_lst (pad_cons (ped_dic1 (Nat.lt_of_le_of_lt (Nat.le_add_right _ _) hu)) pad_nil))) (pssd_cons (psd_for hp rfl (pid_any (ped_revT (ped_var 1))) (pgd_name (i := 3) nd rfl (by first | exact .inl rfl | exact .inr rfl)) (pssd_cons (psd_par (i := 4) (j := 5) rfl nd rfl rfl (by decide) rfl rfl (pad_cons (ped_ix (ped_var 2) ped_int) (pad_cons ped_dic pad_nil)) rfl) (pssd_cons (psd_lock (i := 4) (psd_for hp rfl (pid_keys (ped_var 4)) (pgd_key (pgd_tup rfl (pgsd_cons (pgd_name (i := 6) nd rfl (by first | exact .inl rfl | exact .inr rfl)) (pgsd_cons (pgd_name (i := 7) nd rfl (by first | exact .inl rfl | exact .inr rfl)) pgsd_nil)) (lenCons (lenCons lenNil)))) (pssd_one (psd_for hp rfl (pid_any (ped_lst (pad_cons (ped_dspK (pad_cons (ped_var 6) (pad_cons (ped_var 7) pad_nil))) (pad_cons (ped_dspK (pad_cons (ped_op oAdd lift_add (ped_var 6) ped_int) (pad_cons (ped_op op_mod lift_mod (ped_op oAdd lift_add (ped_var 7) (ped_var 3)) (ped_var 0)) pad_nil))) pad_nil)))) (pgd_name (i := 8) nd rfl (by first | exact .inl rfl | exact .inr rfl)) (pssd_one (psd_putK (Nat.lt_of_le_of_lt (Nat.add_le_add_left (by decide) _) hu) (ped_var 5) (pkd_var 8) (ped_op oAdd lift_add (ped_get2 (Nat.lt_of_le_of_lt (Nat.add_le_add_left (by decide) _) hu) (ped_var 5) (pkd_var 8) ped_int ⟨rfl, by rfl, by rfl, by rfl⟩) (ped_getL (Nat.lt_of_le_of_lt (Nat.add_le_add_left (by decide) _) hu) (ped_var 4) (pkd_dsp (pad_cons (ped_var 6) (pad_cons (ped_var 7) pad_nil))) (fun _ _ => rfl))))))))) (pssd_one (psd_set (i := 2) nd rfl (by first | exact .inl rfl | exact .inr rfl) (ped_lst (pad_cons (ped_var 5) (pad_star (ped_var 2) pad_nil)))))))) (pssd_one (psd_ret (ped_var 2)))))
def t_least_part : TSd := (tSeqD (tPar3D 4 5 6 (tConsD (tLstOD tNilD) (tConsD (tVarD 3) (tConsD (tCD (.int 0)) tNilD)))) (tSeqD (tForD (iEnumD (tConsD (tVarD 1) tNilD)) (gTupD (gConsD (gNameD 7) (gConsD (gNameD 8) gNilD))) (tSeqD (tSetD 9 (tOpD rModD (tOpD rSubD (tVarD 6) (tVarD 8)) (tVarD 0))) (tIfSD (tAndD (tTestD (tOpD rGtD (tVarD 5) (tCD (.int 0)))) (tTestD (tInLD (kDspD (tConsD (tOpD rSubD (tVarD 5) (tCD (.int 1))) (tConsD (tVarD 9) tNilD))) (tOpD rIxD (tVarD 2) (tOpD rAddD (tVarD 7) (tCD (.int 1))))))) (tSeqD (tDropD (tMetD rAppendD (tVarD 4) (tConsD (tVarD 7) tNilD))) (tPar2D 5 6 (tConsD (tOpD rSubD (tVarD 5) (tCD (.int 1))) (tConsD (tVarD 9) tNilD)))) tNextD))) (tRetD (tCBD rTupleD (tConsD (tVarD 4) tNilD)))))
theorem d_least_part {P : Program} {w : World} {K : PySem.W.Frag} {mg : Str → Option Value} {base : Heap} {a : Nat → Addr} {fd : Nat → FuncData} {k : Nat} (T : Txt K mg a fd) : ∀ (cdv : Value) (A : Around) (outer : List Env) (s : Shared) (H : Hp) (E : XK), Room k (A.deeper (envOfC "least_part" (defScope s_least_part) s.heap.objs.size (a 4) cdv)) →
    PSsd (cxOf (L2.CX P w) P w K mg base n_least_part "least_part" (defScope s_least_part) (a 4) cdv A outer s H E) (fun _ => E) (defBody s_least_part) (t_least_part) := by
  intro cdv A outer s H E hr
  have hu : (cxOf (L2.CX P w) P w K mg base n_least_part "least_part" (defScope s_least_part) (a 4) cdv A outer s H E).A.units + 64 < cLine := by have := hr.un; show (A.deeper _).units + 64 < cLine; omega
  have tk : Takes (cxOf (L2.CX P w) P w K mg base n_least_part "least_part" (defScope s_least_part) (a 4) cdv A outer s H E) (fun cls d _ H => E cls d H) := takes_of rfl rfl rfl rfl
  have hx : ∀ σ, PassesAt (L2.CX P w) (cxOf (L2.CX P w) P w K mg base n_least_part "least_part" (defScope s_least_part) (a 4) cdv A outer s H E) σ E := fun σ => passAt tk σ
  have hp : PassesOwn (model P w) (cxOf (L2.CX P w) P w K mg base n_least_part "least_part" (defScope s_least_part) (a 4) cdv A outer s H E).A (cxOf (L2.CX P w) P w K mg base n_least_part "least_part" (defScope s_least_part) (a 4) cdv A outer s H E).env (cxOf (L2.CX P w) P w K mg base n_least_part "least_part" (defScope s_least_part) (a 4) cdv A outer s H E).xe := passes_of rfl
  have nd : (n_least_part).Nodup := sc_least_part.nd
  exact (pssd_cons (psd_par3 (i := 4) (j := 5) (l := 6) rfl nd rfl rfl rfl (by decide) (by decide) (by decide) rfl rfl rfl (pad_cons (ped_lstO pad_nil) (pad_cons (ped_var 3) (pad_cons ped_int pad_nil))) rfl) (pssd_cons (psd_for hp rfl (pid_enum T.z_enumerate (by rfl) (pad_cons (ped_var 1) pad_nil)) (pgd_tup rfl (pgsd_cons (pgd_name (i := 7) nd rfl (by first | exact .inl rfl | exact .inr rfl)) (pgsd_cons (pgd_name (i := 8) nd rfl (by first | exact .inl rfl | exact .inr rfl)) pgsd_nil)) (lenCons (lenCons lenNil))) (pssd_cons (psd_set (i := 9) nd rfl (by first | exact .inl rfl | exact .inr rfl) (ped_op op_mod lift_mod (ped_op op_sub lift_sub (ped_var 6) (ped_var 8)) (ped_var 0))) (pssd_one (psd_if (PWd.pt (pwd_and (ptd_cmp op_gt lift_gt (ped_var 5) ped_int (nomark _)) (pwd_and1 (ptd_inL (Nat.lt_of_le_of_lt (Nat.add_le_add_left (by decide) _) hu) (pkd_dsp (pad_cons (ped_op op_sub lift_sub (ped_var 5) ped_int) (pad_cons (ped_var 9) pad_nil))) (ped_ix (ped_var 2) (ped_op oAdd lift_add (ped_var 7) ped_int)) (by with_unfolding_all rfl))))) (pssd_cons (psd_expr (ped_met PySem.F.slot_list_append PySem.F.type_list_append mt_append lift_append (ped_var 4) (pad_cons (ped_var 7) pad_nil))) (pssd_one (psd_par (i := 5) (j := 6) rfl nd rfl rfl (by decide) rfl rfl (pad_cons (ped_op op_sub lift_sub (ped_var 5) ped_int) (pad_cons (ped_var 9) pad_nil)) rfl))) pssd_nil)))) (pssd_one (psd_ret (ped_callTy call_tuple_of lift_tuple T.z_tuple rfl rfl (pad_cons (ped_var 4) pad_nil))))))
def t_zero_part (sp_check_row sp_tables sp_least_part : SpD) : TSd := (tSeqD (tDropD (tCallD sp_check_row (tConsD (tVarD 0) (tConsD (tVarD 1) tNilD)))) (tSeqD (tSetD 2 (tCallD sp_tables (tConsD (tVarD 0) (tConsD (tVarD 1) tNilD)))) (tSeqD (tForD (iRng2D (tConsD (tCD (.int 1)) (tConsD (tOpD rAddD (tCBD rLenD (tConsD (tVarD 1) tNilD)) (tCD (.int 1))) tNilD))) (gNameD 3) (tIfSD (tTestD (tInLD (kDspD (tConsD (tVarD 3) (tConsD (tCD (.int 0)) tNilD))) (tOpD rIxD (tVarD 2) (tCD (.int 0))))) (tRetD (tCallD sp_least_part (tConsD (tVarD 0) (tConsD (tVarD 1) (tConsD (tVarD 2) (tConsD (tVarD 3) tNilD)))))) tNextD)) (tRetD (tCD .non)))))
theorem d_zero_part {P : Program} {w : World} {K : PySem.W.Frag} {mg : Str → Option Value} {base : Heap} {a : Nat → Addr} {fd : Nat → FuncData} {k : Nat} (T : Txt K mg a fd) {sp_check_row : SpD} {k_check_row : Nat} (G_check_row : FnOk P w K mg base (L2.CX P w) k_check_row (a 2) (fd 2) p_check_row (liftSp K mg sp_check_row)) (h_check_row : k_check_row ≤ k) {sp_tables : SpD} {k_tables : Nat} (G_tables : FnOk P w K mg base (L2.CX P w) k_tables (a 3) (fd 3) p_tables (liftSp K mg sp_tables)) (h_tables : k_tables ≤ k) {sp_least_part : SpD} {k_least_part : Nat} (G_least_part : FnOk P w K mg base (L2.CX P w) k_least_part (a 4) (fd 4) p_least_part (liftSp K mg sp_least_part)) (h_least_part : k_least_part ≤ k) : ∀ (cdv : Value) (A : Around) (outer : List Env) (s : Shared) (H : Hp) (E : XK), Room k (A.deeper (envOfC "zero_part" (defScope s_zero_part) s.heap.objs.size (a 5) cdv)) →
    PSsd (cxOf (L2.CX P w) P w K mg base n_zero_part "zero_part" (defScope s_zero_part) (a 5) cdv A outer s H E) (fun _ => E) (defBody s_zero_part) (t_zero_part sp_check_row sp_tables sp_least_part) := by
  intro cdv A outer s H E hr
  have hu : (cxOf (L2.CX P w) P w K mg base n_zero_part "zero_part" (defScope s_zero_part) (a 5) cdv A outer s H E).A.units + 64 < cLine := by have := hr.un; show (A.deeper _).units + 64 < cLine; omega
  have tk : Takes (cxOf (L2.CX P w) P w K mg base n_zero_part "zero_part" (defScope s_zero_part) (a 5) cdv A outer s H E) (fun cls d _ H => E cls d H) := takes_of rfl rfl rfl rfl
  have hx : ∀ σ, PassesAt (L2.CX P w) (cxOf (L2.CX P w) P w K mg base n_zero_part "zero_part" (defScope s_zero_part) (a 5) cdv A outer s H E) σ E := fun σ => passAt tk σ
  have hp : PassesOwn (model P w) (cxOf (L2.CX P w) P w K mg base n_zero_part "zero_part" (defScope s_zero_part) (a 5) cdv A outer s H E).A (cxOf (L2.CX P w) P w K mg base n_zero_part "zero_part" (defScope s_zero_part) (a 5) cdv A outer s H E).env (cxOf (L2.CX P w) P w K mg base n_zero_part "zero_part" (defScope s_zero_part) (a 5) cdv A outer s H E).xe := passes_of rfl
  have nd : (n_zero_part).Nodup := sc_zero_part.nd
  exact (pssd_cons (psd_expr (ped_call G_check_row (hr.mono h_check_row) T.g_check_row T.F_check_row.kp T.b_check_row hx rfl (pad_cons (ped_var 0) (pad_cons (ped_var 1) pad_nil)))) (pssd_cons (psd_set (i := 2) nd rfl (by first | exact .inl rfl | exact .inr rfl) (ped_call G_tables (hr.mono h_tables) T.g_tables T.F_tables.kp T.b_tables hx rfl (pad_cons (ped_var 0) (pad_cons (ped_var 1) pad_nil)))) (pssd_cons (psd_for hp rfl (pid_rng2 T.z_range (by rfl) (pad_cons ped_int (pad_cons (ped_op oAdd lift_add (ped_callB call_len lift_len T.z_len rfl rfl (pad_cons (ped_var 1) pad_nil)) ped_int) pad_nil))) (pgd_name (i := 3) nd rfl (by first | exact .inl rfl | exact .inr rfl)) (pssd_one (psd_if (ptd_inL (Nat.lt_of_le_of_lt (Nat.add_le_add_left (by decide) _) hu) (pkd_dsp (pad_cons (ped_var 3) (pad_cons ped_int pad_nil))) (ped_ix (ped_var 2) ped_int) (by with_unfolding_all rfl)) (pssd_one (psd_ret (ped_call G_least_part (hr.mono h_least_part) T.g_least_part T.F_least_part.kp T.b_least_part hx rfl (pad_cons (ped_var 0) (pad_cons (ped_var 1) (pad_cons (ped_var 2) (pad_cons (ped_var 3) pad_nil))))))) pssd_nil))) (pssd_one (psd_ret ped_non)))))
def t_zero_many (sp_check_row sp_tables sp_least_part : SpD) : TSd := (tSeqD (tDropD (tCallD sp_check_row (tConsD (tVarD 0) (tConsD (tVarD 1) tNilD)))) (tSeqD (tSetD 2 (tCallD sp_tables (tConsD (tVarD 0) (tConsD (tVarD 1) tNilD)))) (tRetD (tIfED (tTestD (tInLD (kDspD (tConsD (tVarD 0) (tConsD (tCD (.int 0)) tNilD))) (tOpD rIxD (tVarD 2) (tCD (.int 0))))) (tCallD sp_least_part (tConsD (tVarD 0) (tConsD (tVarD 1) (tConsD (tVarD 2) (tConsD (tVarD 0) tNilD))))) (tCD .non)))))
theorem d_zero_many {P : Program} {w : World} {K : PySem.W.Frag} {mg : Str → Option Value} {base : Heap} {a : Nat → Addr} {fd : Nat → FuncData} {k : Nat} (T : Txt K mg a fd) {sp_check_row : SpD} {k_check_row : Nat} (G_check_row : FnOk P w K mg base (L2.CX P w) k_check_row (a 2) (fd 2) p_check_row (liftSp K mg sp_check_row)) (h_check_row : k_check_row ≤ k) {sp_tables : SpD} {k_tables : Nat} (G_tables : FnOk P w K mg base (L2.CX P w) k_tables (a 3) (fd 3) p_tables (liftSp K mg sp_tables)) (h_tables : k_tables ≤ k) {sp_least_part : SpD} {k_least_part : Nat} (G_least_part : FnOk P w K mg base (L2.CX P w) k_least_part (a 4) (fd 4) p_least_part (liftSp K mg sp_least_part)) (h_least_part : k_least_part ≤ k) : ∀ (cdv : Value) (A : Around) (outer : List Env) (s : Shared) (H : Hp) (E : XK), Room k (A.deeper (envOfC "zero_many" (defScope s_zero_many) s.heap.objs.size (a 6) cdv)) →
    PSsd (cxOf (L2.CX P w) P w K mg base n_zero_many "zero_many" (defScope s_zero_many) (a 6) cdv A outer s H E) (fun _ => E) (defBody s_zero_many) (t_zero_many sp_check_row sp_tables sp_least_part) := by
  intro cdv A outer s H E hr
  have hu : (cxOf (L2.CX P w) P w K mg base n_zero_many "zero_many" (defScope s_zero_many) (a 6) cdv A outer s H E).A.units + 64 < cLine := by have := hr.un; show (A.deeper _).units + 64 < cLine; omega
  have tk : Takes (cxOf (L2.CX P w) P w K mg base n_zero_many "zero_many" (defScope s_zero_many) (a 6) cdv A outer s H E) (fun cls d _ H => E cls d H) := takes_of rfl rfl rfl rfl
  have hx : ∀ σ, PassesAt (L2.CX P w) (cxOf (L2.CX P w) P w K mg base n_zero_many "zero_many" (defScope s_zero_many) (a 6) cdv A outer s H E) σ E := fun σ => passAt tk σ
  have hp : PassesOwn (model P w) (cxOf (L2.CX P w) P w K mg base n_zero_many "zero_many" (defScope s_zero_many) (a 6) cdv A outer s H E).A (cxOf (L2.CX P w) P w K mg base n_zero_many "zero_many" (defScope s_zero_many) (a 6) cdv A outer s H E).env (cxOf (L2.CX P w) P w K mg base n_zero_many "zero_many" (defScope s_zero_many) (a 6) cdv A outer s H E).xe := passes_of rfl
  have nd : (n_zero_many).Nodup := sc_zero_many.nd
  exact (pssd_cons (psd_expr (ped_call G_check_row (hr.mono h_check_row) T.g_check_row T.F_check_row.kp T.b_check_row hx rfl (pad_cons (ped_var 0) (pad_cons (ped_var 1) pad_nil)))) (pssd_cons (psd_set (i := 2) nd rfl (by first | exact .inl rfl | exact .inr rfl) (ped_call G_tables (hr.mono h_tables) T.g_tables T.F_tables.kp T.b_tables hx rfl (pad_cons (ped_var 0) (pad_cons (ped_var 1) pad_nil)))) (pssd_one (psd_ret (ped_ifExp (ptd_inL (Nat.lt_of_le_of_lt (Nat.add_le_add_left (by decide) _) hu) (pkd_dsp (pad_cons (ped_var 0) (pad_cons ped_int pad_nil))) (ped_ix (ped_var 2) ped_int) (by with_unfolding_all rfl)) (ped_call G_least_part (hr.mono h_least_part) T.g_least_part T.F_least_part.kp T.b_least_part hx rfl (pad_cons (ped_var 0) (pad_cons (ped_var 1) (pad_cons (ped_var 2) (pad_cons (ped_var 0) pad_nil))))) ped_non)))))
def t_count_zero (sp_check_row sp_tables : SpD) : TSd := (tSeqD (tDropD (tCallD sp_check_row (tConsD (tVarD 0) (tConsD (tVarD 1) tNilD)))) (tSeqD (tSetD 2 (tOpD rIxD (tCallD sp_tables (tConsD (tVarD 0) (tConsD (tVarD 1) tNilD))) (tCD (.int 0)))) (tRetD (tCBD rSumD (tConsD (tLockED 2 (tLcD (iKeysD (tVarD 2)) (gNameD 3) (tTestD (tOpD rEqD (tOpD rIxD (tVarTD 3) (tCD (.int 1))) (tCD (.int 0)))) (tGetLD (tVarD 2) (kVarD 3)) [3])) tNilD)))))
theorem d_count_zero {P : Program} {w : World} {K : PySem.W.Frag} {mg : Str → Option Value} {base : Heap} {a : Nat → Addr} {fd : Nat → FuncData} {k : Nat} (T : Txt K mg a fd) {sp_check_row : SpD} {k_check_row : Nat} (G_check_row : FnOk P w K mg base (L2.CX P w) k_check_row (a 2) (fd 2) p_check_row (liftSp K mg sp_check_row)) (h_check_row : k_check_row ≤ k) {sp_tables : SpD} {k_tables : Nat} (G_tables : FnOk P w K mg base (L2.CX P w) k_tables (a 3) (fd 3) p_tables (liftSp K mg sp_tables)) (h_tables : k_tables ≤ k) : ∀ (cdv : Value) (A : Around) (outer : List Env) (s : Shared) (H : Hp) (E : XK), Room k (A.deeper (envOfC "count_zero" (defScope s_count_zero) s.heap.objs.size (a 7) cdv)) →
    PSsd (cxOf (L2.CX P w) P w K mg base n_count_zero "count_zero" (defScope s_count_zero) (a 7) cdv A outer s H E) (fun _ => E) (defBody s_count_zero) (t_count_zero sp_check_row sp_tables) := by
  intro cdv A outer s H E hr
  have hu : (cxOf (L2.CX P w) P w K mg base n_count_zero "count_zero" (defScope s_count_zero) (a 7) cdv A outer s H E).A.units + 64 < cLine := by have := hr.un; show (A.deeper _).units + 64 < cLine; omega
  have tk : Takes (cxOf (L2.CX P w) P w K mg base n_count_zero "count_zero" (defScope s_count_zero) (a 7) cdv A outer s H E) (fun cls d _ H => E cls d H) := takes_of rfl rfl rfl rfl
  have hx : ∀ σ, PassesAt (L2.CX P w) (cxOf (L2.CX P w) P w K mg base n_count_zero "count_zero" (defScope s_count_zero) (a 7) cdv A outer s H E) σ E := fun σ => passAt tk σ
  have hp : PassesOwn (model P w) (cxOf (L2.CX P w) P w K mg base n_count_zero "count_zero" (defScope s_count_zero) (a 7) cdv A outer s H E).A (cxOf (L2.CX P w) P w K mg base n_count_zero "count_zero" (defScope s_count_zero) (a 7) cdv A outer s H E).env (cxOf (L2.CX P w) P w K mg base n_count_zero "count_zero" (defScope s_count_zero) (a 7) cdv A outer s H E).xe := passes_of rfl
  have nd : (n_count_zero).Nodup := sc_count_zero.nd
  exact (pssd_cons (psd_expr (ped_call G_check_row (hr.mono h_check_row) T.g_check_row T.F_check_row.kp T.b_check_row hx rfl (pad_cons (ped_var 0) (pad_cons (ped_var 1) pad_nil)))) (pssd_cons (psd_set (i := 2) nd rfl (by first | exact .inl rfl | exact .inr rfl) (ped_ix (ped_call G_tables (hr.mono h_tables) T.g_tables T.F_tables.kp T.b_tables hx rfl (pad_cons (ped_var 0) (pad_cons (ped_var 1) pad_nil))) ped_int)) (pssd_one (psd_ret (ped_callB (cr_sum rfl) lift_sum T.z_sum rfl rfl (pad_cons (ped_lock (i := 2) (ped_lc (own := [("key", 3)]) rfl nd (pid_keys (ped_var 2)) (blkOk_by (N := n_count_zero) (sc := defScope s_count_zero) (own := [("key", 3)]) (by decide +kernel)) (fun s H C cl fp => (pg_name (i := 3) nd rfl (by first | exact .inl rfl | exact .inr rfl))) (ctg_name (by decide)) (fun s H C cl fp => (ptsd_one (ptd_cmp (op_eqD hu) lift_eq (ped_ix (ped_varT 3) ped_int) ped_int (nomark _)))) (fun s H C cl fp => (ped_getL (Nat.lt_of_le_of_lt (Nat.add_le_add_left (by decide) _) hu) (ped_var 2) (pkd_var 3) (fun _ _ => rfl))))) pad_nil))))))
def t__law_random : TSd := (tSeqD (tSetD 2 (tVarD 1)) (tSeqD (tForD (iScrD (tVarD 0)) (gNameD 3) (tSetD 2 (tOpD rModD (tCBD rIntCD (tConsD (tOpD rAddD (tOpD rMulD (tVarD 2) (tCD (.int 31))) (tCBD rAbsD (tConsD (tVarD 3) tNilD))) tNilD)) (tCD (.int 2147483647))))) (tRetD (tRndD (tOpD rAddOD (tLstD (tConsD (tVarD 2) (tConsD (tCD (.int 0)) tNilD))) (tLcD (iScrD (tVarD 0)) (gNameD 3) (tTestD (tOpD rGeD (tVarD 3) (tOpD rPowD (tCD (.int 10)) (tCD (.int 18))))) (tVarD 3) [3]))))))
theorem d__law_random {P : Program} {w : World} {K : PySem.W.Frag} {mg : Str → Option Value} {base : Heap} {a : Nat → Addr} {fd : Nat → FuncData} {k : Nat} (T : Txt K mg a fd) : ∀ (cdv : Value) (A : Around) (outer : List Env) (s : Shared) (H : Hp) (E : XK), Room k (A.deeper (envOfC "_law_random" (defScope s__law_random) s.heap.objs.size (a 8) cdv)) →
    PSsd (cxOf (L2.CX P w) P w K mg base n__law_random "_law_random" (defScope s__law_random) (a 8) cdv A outer s H E) (fun _ => E) (defBody s__law_random) (t__law_random) := by
  intro cdv A outer s H E hr
  have hu : (cxOf (L2.CX P w) P w K mg base n__law_random "_law_random" (defScope s__law_random) (a 8) cdv A outer s H E).A.units + 64 < cLine := by have := hr.un; show (A.deeper _).units + 64 < cLine; omega
  have tk : Takes (cxOf (L2.CX P w) P w K mg base n__law_random "_law_random" (defScope s__law_random) (a 8) cdv A outer s H E) (fun cls d _ H => E cls d H) := takes_of rfl rfl rfl rfl
  have hx : ∀ σ, PassesAt (L2.CX P w) (cxOf (L2.CX P w) P w K mg base n__law_random "_law_random" (defScope s__law_random) (a 8) cdv A outer s H E) σ E := fun σ => passAt tk σ
  have hp : PassesOwn (model P w) (cxOf (L2.CX P w) P w K mg base n__law_random "_law_random" (defScope s__law_random) (a 8) cdv A outer s H E).A (cxOf (L2.CX P w) P w K mg base n__law_random "_law_random" (defScope s__law_random) (a 8) cdv A outer s H E).env (cxOf (L2.CX P w) P w K mg base n__law_random "_law_random" (defScope s__law_random) (a 8) cdv A outer s H E).xe := passes_of rfl
  have nd : (n__law_random).Nodup := sc__law_random.nd
  exact (pssd_cons (psd_set (i := 2) nd rfl (by first | exact .inl rfl | exact .inr rfl) (ped_var 1)) (pssd_cons (psd_for hp rfl (pid_scr (ped_var 0)) (pgd_name (i := 3) nd rfl (by first | exact .inl rfl | exact .inr rfl)) (pssd_one (psd_set (i := 2) nd rfl (by first | exact .inl rfl | exact .inr rfl) (ped_op op_mod lift_mod (ped_callTy oInt lift_int T.z_int rfl rfl (pad_cons (ped_op oAdd lift_add (ped_op oMul lift_mul (ped_var 2) ped_int) (ped_callB call_abs lift_abs T.z_abs rfl rfl (pad_cons (ped_var 3) pad_nil))) pad_nil)) ped_int)))) (pssd_one (psd_ret (ped_rnd (ped_op oAdd lift_addO (ped_lst (pad_cons (ped_var 2) (pad_cons ped_int pad_nil))) (ped_lc (own := [("_law_cell", 3)]) rfl nd (pid_scr (ped_var 0)) (blkOk_by (N := n__law_random) (sc := defScope s__law_random) (own := [("_law_cell", 3)]) (by decide +kernel)) (fun s H C cl fp => (pg_name (i := 3) nd rfl (by first | exact .inl rfl | exact .inr rfl))) (ctg_name (by decide)) (fun s H C cl fp => (ptsd_one (ptd_cmp op_ge lift_ge (ped_var 3) (ped_op op_pow lift_pow ped_int ped_int) (nomark _)))) (fun s H C cl fp => (ped_var 3)))))))))
def t__law_below : TSd := (tSeqD (tIfSD (tAndD (tTestD (tOpD rEqD (tOpD rIxD (tVarD 0) (tCD (.int 1))) (tCD (.int 0)))) (tTestD (tOpD rGtD (tCBD rLenD (tConsD (tVarD 0) tNilD)) (tCD (.int 2))))) (tAsgD (tMetD rPopAtD (tVarD 0) (tConsD (tCD (.int 2)) tNilD)) (gSubD (tVarD 0) (tCD (.int 1)))) tNextD) (tSeqD (tIfSD (tTestD (tOpD rGtD (tOpD rIxD (tVarD 0) (tCD (.int 1))) (tCD (.int 0)))) (tSeqD (tSetD 2 (tOpD rModD (tCBD rIntCD (tConsD (tOpD rIxD (tVarD 0) (tCD (.int 1))) tNilD)) (tVarD 1))) (tSeqD (tAsgD (tOpD rDivD (tOpD rIxD (tVarD 0) (tCD (.int 1))) (tVarD 1)) (gSubD (tVarD 0) (tCD (.int 1)))) (tRetD (tVarD 2)))) tNextD) (tSeqD (tAsgD (tOpD rModD (tCBD rIntCD (tConsD (tOpD rAddD (tOpD rMulD (tOpD rIxD (tVarD 0) (tCD (.int 0))) (tCD (.int 48271))) (tCD (.int 11))) tNilD)) (tCD (.int 2147483647))) (gSubD (tVarD 0) (tCD (.int 0)))) (tRetD (tOpD rModD (tCBD rIntCD (tConsD (tOpD rDivD (tOpD rIxD (tVarD 0) (tCD (.int 0))) (tCD (.int 64))) tNilD)) (tVarD 1))))))
theorem d__law_below {P : Program} {w : World} {K : PySem.W.Frag} {mg : Str → Option Value} {base : Heap} {a : Nat → Addr} {fd : Nat → FuncData} {k : Nat} (T : Txt K mg a fd) : ∀ (cdv : Value) (A : Around) (outer : List Env) (s : Shared) (H : Hp) (E : XK), Room k (A.deeper (envOfC "_law_below" (defScope s__law_below) s.heap.objs.size (a 9) cdv)) →
    PSsd (cxOf (L2.CX P w) P w K mg base n__law_below "_law_below" (defScope s__law_below) (a 9) cdv A outer s H E) (fun _ => E) (defBody s__law_below) (t__law_below) := by
  intro cdv A outer s H E hr
  have hu : (cxOf (L2.CX P w) P w K mg base n__law_below "_law_below" (defScope s__law_below) (a 9) cdv A outer s H E).A.units + 64 < cLine := by have := hr.un; show (A.deeper _).units + 64 < cLine; omega
  have tk : Takes (cxOf (L2.CX P w) P w K mg base n__law_below "_law_below" (defScope s__law_below) (a 9) cdv A outer s H E) (fun cls d _ H => E cls d H) := takes_of rfl rfl rfl rfl
  have hx : ∀ σ, PassesAt (L2.CX P w) (cxOf (L2.CX P w) P w K mg base n__law_below "_law_below" (defScope s__law_below) (a 9) cdv A outer s H E) σ E := fun σ => passAt tk σ
  have hp : PassesOwn (model P w) (cxOf (L2.CX P w) P w K mg base n__law_below "_law_below" (defScope s__law_below) (a 9) cdv A outer s H E).A (cxOf (L2.CX P w) P w K mg base n__law_below "_law_below" (defScope s__law_below) (a 9) cdv A outer s H E).env (cxOf (L2.CX P w) P w K mg base n__law_below "_law_below" (defScope s__law_below) (a 9) cdv A outer s H E).xe := passes_of rfl
  have nd : (n__law_below).Nodup := sc__law_below.nd
  exact (pssd_cons (psd_if (PWd.pt (pwd_and (ptd_cmp (op_eqD hu) lift_eq (ped_ix (ped_var 0) ped_int) ped_int (nomark _)) (pwd_and1 (ptd_cmp op_gt lift_gt (ped_callB call_len lift_len T.z_len rfl rfl (pad_cons (ped_var 0) pad_nil)) ped_int (nomark _))))) (pssd_one (psd_asg (ped_met PySem.F.slot_list_pop PySem.F.type_list_pop mt_popAt lift_popAt (ped_var 0) (pad_cons ped_int pad_nil)) (pgd_sub (E := EF) (ped_var 0) ped_int))) pssd_nil) (pssd_cons (psd_if (ptd_cmp op_gt lift_gt (ped_ix (ped_var 0) ped_int) ped_int (nomark _)) (pssd_cons (psd_set (i := 2) nd rfl (by first | exact .inl rfl | exact .inr rfl) (ped_op op_mod lift_mod (ped_callTy oInt lift_int T.z_int rfl rfl (pad_cons (ped_ix (ped_var 0) ped_int) pad_nil)) (ped_var 1))) (pssd_cons (psd_asg (ped_op oDiv lift_div (ped_ix (ped_var 0) ped_int) (ped_var 1)) (pgd_sub (E := EF) (ped_var 0) ped_int)) (pssd_one (psd_ret (ped_var 2))))) pssd_nil) (pssd_cons (psd_asg (ped_op op_mod lift_mod (ped_callTy oInt lift_int T.z_int rfl rfl (pad_cons (ped_op oAdd lift_add (ped_op oMul lift_mul (ped_ix (ped_var 0) ped_int) ped_int) ped_int) pad_nil)) ped_int) (pgd_sub (E := EF) (ped_var 0) ped_int)) (pssd_one (psd_ret (ped_op op_mod lift_mod (ped_callTy oInt lift_int T.z_int rfl rfl (pad_cons (ped_op oDiv lift_div (ped_ix (ped_var 0) ped_int) ped_int) pad_nil)) (ped_var 1)))))))
def t__law_pick (sp__law_below : SpD) : TSd := (tRetD (tOpD rIxD (tVarD 1) (tCallD sp__law_below (tConsD (tVarD 0) (tConsD (tCBD rLenD (tConsD (tVarD 1) tNilD)) tNilD)))))
theorem d__law_pick {P : Program} {w : World} {K : PySem.W.Frag} {mg : Str → Option Value} {base : Heap} {a : Nat → Addr} {fd : Nat → FuncData} {k : Nat} (T : Txt K mg a fd) {sp__law_below : SpD} {k__law_below : Nat} (G__law_below : FnOk P w K mg base (L2.CX P w) k__law_below (a 9) (fd 9) p__law_below (liftSp K mg sp__law_below)) (h__law_below : k__law_below ≤ k) : ∀ (cdv : Value) (A : Around) (outer : List Env) (s : Shared) (H : Hp) (E : XK), Room k (A.deeper (envOfC "_law_pick" (defScope s__law_pick) s.heap.objs.size (a 10) cdv)) →
    PSsd (cxOf (L2.CX P w) P w K mg base n__law_pick "_law_pick" (defScope s__law_pick) (a 10) cdv A outer s H E) (fun _ => E) (defBody s__law_pick) (t__law_pick sp__law_below) := by
  intro cdv A outer s H E hr
  have hu : (cxOf (L2.CX P w) P w K mg base n__law_pick "_law_pick" (defScope s__law_pick) (a 10) cdv A outer s H E).A.units + 64 < cLine := by have := hr.un; show (A.deeper _).units + 64 < cLine; omega
  have tk : Takes (cxOf (L2.CX P w) P w K mg base n__law_pick "_law_pick" (defScope s__law_pick) (a 10) cdv A outer s H E) (fun cls d _ H => E cls d H) := takes_of rfl rfl rfl rfl
  have hx : ∀ σ, PassesAt (L2.CX P w) (cxOf (L2.CX P w) P w K mg base n__law_pick "_law_pick" (defScope s__law_pick) (a 10) cdv A outer s H E) σ E := fun σ => passAt tk σ
  have hp : PassesOwn (model P w) (cxOf (L2.CX P w) P w K mg base n__law_pick "_law_pick" (defScope s__law_pick) (a 10) cdv A outer s H E).A (cxOf (L2.CX P w) P w K mg base n__law_pick "_law_pick" (defScope s__law_pick) (a 10) cdv A outer s H E).env (cxOf (L2.CX P w) P w K mg base n__law_pick "_law_pick" (defScope s__law_pick) (a 10) cdv A outer s H E).xe := passes_of rfl
  have nd : (n__law_pick).Nodup := sc__law_pick.nd
  exact (pssd_one (psd_ret (ped_ix (ped_var 1) (ped_call G__law_below (hr.mono h__law_below) T.g__law_below T.F__law_below.kp T.b__law_below hx rfl (pad_cons (ped_var 0) (pad_cons (ped_callB call_len lift_len T.z_len rfl rfl (pad_cons (ped_var 1) pad_nil)) pad_nil))))))
def t__law_equal (sp__law_equal : SpD) : TSd := (tSeqD (tIfSD (tTestD (tOpD rIsD (tVarD 1) (tCD .non))) (tRetD (tOpD rIsD (tVarD 0) (tCD .non))) tNextD) (tSeqD (tIfSD (tTestD (tIsiD .bool (tVarD 1))) (tRetD (tAndVD (tIsiD .bool (tVarD 0)) (tOpD rEqD (tVarD 0) (tVarD 1)))) tNextD) (tSeqD (tIfSD (tTestD (tIsiD .int (tVarD 1))) (tRetD (tAndVD (tIsiD .int (tVarD 0)) (tAndVD (tNotVD (tIsiD .bool (tVarD 0))) (tOpD rEqD (tVarD 0) (tVarD 1))))) tNextD) (tSeqD (tIfSD (tTestD (tIsiD .str (tVarD 1))) (tRetD (tAndVD (tIsiD .str (tVarD 0)) (tOpD rEqD (tVarD 0) (tVarD 1)))) tNextD) (tSeqD (tIfSD (tTestD (tIsiD .dict (tVarD 1))) (tSeqD tNeverD tNeverD) tNextD) (tSeqD (tIfSD (tTestD (tOpD rNeD (tIsiD .tuple (tVarD 1)) (tIsiD .tuple (tVarD 0)))) (tRetD (tCD (.bl false))) tNextD) (tSeqD (tIfSD (tTestD (tOpD rNeD (tIsiD .list (tVarD 1)) (tIsiD .list (tVarD 0)))) (tRetD (tCD (.bl false))) tNextD) (tSeqD (tIfSD (tTestD (tOpD rNeD (tCBD rLenD (tConsD (tVarD 0) tNilD)) (tCBD rLenD (tConsD (tVarD 1) tNilD)))) (tRetD (tCD (.bl false))) tNextD) (tRetD (tCBD rAllD (tConsD (tLcD (iRng1D (tConsD (tCBD rLenD (tConsD (tVarD 1) tNilD)) tNilD)) (gNameD 2) tYesD (tCallD sp__law_equal (tConsD (tOpD rIxD (tVarD 0) (tVarD 2)) (tConsD (tOpD rIxD (tVarD 1) (tVarD 2)) tNilD))) [2]) tNilD)))))))))))
theorem d__law_equal {P : Program} {w : World} {K : PySem.W.Frag} {mg : Str → Option Value} {base : Heap} {a : Nat → Addr} {fd : Nat → FuncData} {k : Nat} (T : Txt K mg a fd) {sp__law_equal : SpD} {k__law_equal : Nat} (G__law_equal : FnOk P w K mg base (L2.CX P w) k__law_equal (a 11) (fd 11) p__law_equal (liftSp K mg sp__law_equal)) (h__law_equal : k__law_equal ≤ k) : ∀ (cdv : Value) (A : Around) (outer : List Env) (s : Shared) (H : Hp) (E : XK), Room k (A.deeper (envOfC "_law_equal" (defScope s__law_equal) s.heap.objs.size (a 11) cdv)) →
    PSsd (cxOf (L2.CX P w) P w K mg base n__law_equal "_law_equal" (defScope s__law_equal) (a 11) cdv A outer s H E) (fun _ => E) (defBody s__law_equal) (t__law_equal sp__law_equal) := by
  intro cdv A outer s H E hr
  have hu : (cxOf (L2.CX P w) P w K mg base n__law_equal "_law_equal" (defScope s__law_equal) (a 11) cdv A outer s H E).A.units + 64 < cLine := by have := hr.un; show (A.deeper _).units + 64 < cLine; omega
  have tk : Takes (cxOf (L2.CX P w) P w K mg base n__law_equal "_law_equal" (defScope s__law_equal) (a 11) cdv A outer s H E) (fun cls d _ H => E cls d H) := takes_of rfl rfl rfl rfl
  have hx : ∀ σ, PassesAt (L2.CX P w) (cxOf (L2.CX P w) P w K mg base n__law_equal "_law_equal" (defScope s__law_equal) (a 11) cdv A outer s H E) σ E := fun σ => passAt tk σ
  have hp : PassesOwn (model P w) (cxOf (L2.CX P w) P w K mg base n__law_equal "_law_equal" (defScope s__law_equal) (a 11) cdv A outer s H E).A (cxOf (L2.CX P w) P w K mg base n__law_equal "_law_equal" (defScope s__law_equal) (a 11) cdv A outer s H E).env (cxOf (L2.CX P w) P w K mg base n__law_equal "_law_equal" (defScope s__law_equal) (a 11) cdv A outer s H E).xe := passes_of rfl
  have nd : (n__law_equal).Nodup := sc__law_equal.nd
  exact (pssd_cons (psd_if (ptd_cmp oIs lift_is (ped_var 1) ped_non (nomark _)) (pssd_one (psd_ret (ped_cmp oIs lift_is (ped_var 0) ped_non (nomark _)))) pssd_nil) (pssd_cons (psd_if (ptd_val (ped_isi .bool T.z_isinstance T.z_bool rfl rfl rfl (ped_var 1))) (pssd_one (psd_ret (ped_and (ped_isi .bool T.z_isinstance T.z_bool rfl rfl rfl (ped_var 0)) (ped_one (ped_cmp (op_eqD hu) lift_eq (ped_var 0) (ped_var 1) (nomark _)))))) pssd_nil) (pssd_cons (psd_if (ptd_val (ped_isi .int T.z_isinstance T.z_int rfl rfl rfl (ped_var 1))) (pssd_one (psd_ret (ped_and (ped_isi .int T.z_isinstance T.z_int rfl rfl rfl (ped_var 0)) (ped_and (ped_not (ped_isi .bool T.z_isinstance T.z_bool rfl rfl rfl (ped_var 0))) (ped_one (ped_cmp (op_eqD hu) lift_eq (ped_var 0) (ped_var 1) (nomark _))))))) pssd_nil) (pssd_cons (psd_if (ptd_val (ped_isi .str T.z_isinstance T.z_str rfl rfl rfl (ped_var 1))) (pssd_one (psd_ret (ped_and (ped_isi .str T.z_isinstance T.z_str rfl rfl rfl (ped_var 0)) (ped_one (ped_cmp (op_eqD hu) lift_eq (ped_var 0) (ped_var 1) (nomark _)))))) pssd_nil) (pssd_cons (psd_if (ptd_val (ped_isi .dict T.z_isinstance T.z_dict rfl rfl rfl (ped_var 1))) (pssd_cons psd_never (pssd_one psd_never)) pssd_nil) (pssd_cons (psd_if (ptd_cmp (op_neD hu) lift_ne (ped_isi .tuple T.z_isinstance T.z_tuple rfl rfl rfl (ped_var 1)) (ped_isi .tuple T.z_isinstance T.z_tuple rfl rfl rfl (ped_var 0)) (nomark _)) (pssd_one (psd_ret ped_bl)) pssd_nil) (pssd_cons (psd_if (ptd_cmp (op_neD hu) lift_ne (ped_isi .list T.z_isinstance T.z_list rfl rfl rfl (ped_var 1)) (ped_isi .list T.z_isinstance T.z_list rfl rfl rfl (ped_var 0)) (nomark _)) (pssd_one (psd_ret ped_bl)) pssd_nil) (pssd_cons (psd_if (ptd_cmp (op_neD hu) lift_ne (ped_callB call_len lift_len T.z_len rfl rfl (pad_cons (ped_var 0) pad_nil)) (ped_callB call_len lift_len T.z_len rfl rfl (pad_cons (ped_var 1) pad_nil)) (nomark _)) (pssd_one (psd_ret ped_bl)) pssd_nil) (pssd_one (psd_ret (ped_callB (cr_all rfl) lift_all T.z_all rfl rfl (pad_cons (ped_lc (own := [("_law_k", 2)]) rfl nd (pid_rng1 T.z_range (by rfl) (pad_cons (ped_callB call_len lift_len T.z_len rfl rfl (pad_cons (ped_var 1) pad_nil)) pad_nil)) (blkOk_by (N := n__law_equal) (sc := defScope s__law_equal) (own := [("_law_k", 2)]) (by decide +kernel)) (fun s H C cl fp => (pg_name (i := 2) nd rfl (by first | exact .inl rfl | exact .inr rfl))) (ctg_name (by decide)) (fun s H C cl fp => ptsd_nil) (fun s H C cl fp => (ped_call G__law_equal (hr.mono h__law_equal) T.g__law_equal T.F__law_equal.kp T.b__law_equal (fun σ => passAt takes0 σ) rfl (pad_cons (ped_ix (ped_var 0) (ped_var 2)) (pad_cons (ped_ix (ped_var 1) (ped_var 2)) pad_nil))))) pad_nil))))))))))))
def t__law_word (sp_zero_part sp_zero_many sp_count_zero : SpD) : TSd := (tSeqD (tSetD 3 (tCD (.str ""))) (tSeqD (tTryD subX okX (tIfSD (tTestD (tOpD rEqD (tVarD 0) (tCD (.str "part")))) (tDropD (tCallD sp_zero_part (tConsD (tVarD 1) (tConsD (tVarD 2) tNilD)))) (tIfSD (tTestD (tOpD rEqD (tVarD 0) (tCD (.str "many")))) (tDropD (tCallD sp_zero_many (tConsD (tVarD 1) (tConsD (tVarD 2) tNilD)))) (tDropD (tCallD sp_count_zero (tConsD (tVarD 1) (tConsD (tVarD 2) tNilD)))))) [⟨"BadRound", none, fun a1 d1 => (tSetD 3 (tCD (.str "round")))⟩, ⟨"BadRow", (some 4), fun a1 d1 => (tSetD 3 (tTupD (tConsD (tCD (.str "row")) (tConsD (tExnD a1 d1 "index" (tVarD 4)) tNilD))))⟩]) (tRetD (tVarD 3))))
theorem d__law_word {P : Program} {w : World} {K : PySem.W.Frag} {mg : Str → Option Value} {base : Heap} {a : Nat → Addr} {fd : Nat → FuncData} {k : Nat} (T : Txt K mg a fd) {sp_zero_part : SpD} {k_zero_part : Nat} (G_zero_part : FnOk P w K mg base (L2.CX P w) k_zero_part (a 5) (fd 5) p_zero_part (liftSp K mg sp_zero_part)) (h_zero_part : k_zero_part ≤ k) {sp_zero_many : SpD} {k_zero_many : Nat} (G_zero_many : FnOk P w K mg base (L2.CX P w) k_zero_many (a 6) (fd 6) p_zero_many (liftSp K mg sp_zero_many)) (h_zero_many : k_zero_many ≤ k) {sp_count_zero : SpD} {k_count_zero : Nat} (G_count_zero : FnOk P w K mg base (L2.CX P w) k_count_zero (a 7) (fd 7) p_count_zero (liftSp K mg sp_count_zero)) (h_count_zero : k_count_zero ≤ k) : ∀ (cdv : Value) (A : Around) (outer : List Env) (s : Shared) (H : Hp) (E : XK), Room k (A.deeper (envOfC "_law_word" (defScope s__law_word) s.heap.objs.size (a 12) cdv)) →
    PSsd (cxOf (L2.CX P w) P w K mg base n__law_word "_law_word" (defScope s__law_word) (a 12) cdv A outer s H E) (fun _ => E) (defBody s__law_word) (t__law_word sp_zero_part sp_zero_many sp_count_zero) := by
  intro cdv A outer s H E hr
  have hu : (cxOf (L2.CX P w) P w K mg base n__law_word "_law_word" (defScope s__law_word) (a 12) cdv A outer s H E).A.units + 64 < cLine := by have := hr.un; show (A.deeper _).units + 64 < cLine; omega
  have tk : Takes (cxOf (L2.CX P w) P w K mg base n__law_word "_law_word" (defScope s__law_word) (a 12) cdv A outer s H E) (fun cls d _ H => E cls d H) := takes_of rfl rfl rfl rfl
  have hx : ∀ σ, PassesAt (L2.CX P w) (cxOf (L2.CX P w) P w K mg base n__law_word "_law_word" (defScope s__law_word) (a 12) cdv A outer s H E) σ E := fun σ => passAt tk σ
  have hp : PassesOwn (model P w) (cxOf (L2.CX P w) P w K mg base n__law_word "_law_word" (defScope s__law_word) (a 12) cdv A outer s H E).A (cxOf (L2.CX P w) P w K mg base n__law_word "_law_word" (defScope s__law_word) (a 12) cdv A outer s H E).env (cxOf (L2.CX P w) P w K mg base n__law_word "_law_word" (defScope s__law_word) (a 12) cdv A outer s H E).xe := passes_of rfl
  have nd : (n__law_word).Nodup := sc__law_word.nd
  exact (pssd_cons (psd_set (i := 3) nd rfl (by first | exact .inl rfl | exact .inr rfl) ped_str) (pssd_cons (psd_try (l := [⟨"BadRound", none, fun a1 d1 => (tSetD 3 (tCD (.str "round")))⟩, ⟨"BadRow", (some 4), fun a1 d1 => (tSetD 3 (tTupD (tConsD (tCD (.str "row")) (tConsD (tExnD a1 d1 "index" (tVarD 4)) tNilD))))⟩]) (t := (tIfSD (tTestD (tOpD rEqD (tVarD 0) (tCD (.str "part")))) (tDropD (tCallD sp_zero_part (tConsD (tVarD 1) (tConsD (tVarD 2) tNilD)))) (tIfSD (tTestD (tOpD rEqD (tVarD 0) (tCD (.str "many")))) (tDropD (tCallD sp_zero_many (tConsD (tVarD 1) (tConsD (tVarD 2) tNilD)))) (tDropD (tCallD sp_count_zero (tConsD (tVarD 1) (tConsD (tVarD 2) tNilD))))))) rfl rfl nd tk (sub_ok T rfl rfl _ (by decide +kernel)) (fun W pn xe tk1 hp1 => (pssd_one (psd_if (ptd_cmp (op_eqD hu) lift_eq (ped_var 0) ped_str (nomark _)) (pssd_one (psd_expr (ped_call G_zero_part (hr.mono h_zero_part) T.g_zero_part T.F_zero_part.kp T.b_zero_part (fun σ => passAt tk1 σ) rfl (pad_cons (ped_var 1) (pad_cons (ped_var 2) pad_nil))))) (pssd_one (psd_if (ptd_cmp (op_eqD hu) lift_eq (ped_var 0) ped_str (nomark _)) (pssd_one (psd_expr (ped_call G_zero_many (hr.mono h_zero_many) T.g_zero_many T.F_zero_many.kp T.b_zero_many (fun σ => passAt tk1 σ) rfl (pad_cons (ped_var 1) (pad_cons (ped_var 2) pad_nil))))) (pssd_one (psd_expr (ped_call G_count_zero (hr.mono h_count_zero) T.g_count_zero T.F_count_zero.kp T.b_count_zero (fun σ => passAt tk1 σ) rfl (pad_cons (ped_var 1) (pad_cons (ped_var 2) pad_nil)))))))))) (ClsD.cons rfl (by rfl) T.g_BadRound (by decide) trivial (fun a1 oe1 cls1 d1 pn1 hz1 hf1 hc1 => (pssd_one (psd_set (i := 3) nd rfl (by first | exact .inl rfl | exact .inr rfl) ped_str))) (ClsD.cons rfl (by rfl) T.e_BadRow.mgC (by decide) ⟨rfl, rfl⟩ (fun a1 oe1 cls1 d1 pn1 hz1 hf1 hc1 => (pssd_one (psd_set (i := 3) nd rfl (by first | exact .inl rfl | exact .inr rfl) (ped_tup (pad_cons ped_str (pad_cons (ped_exn T.f_BadRow T.e_BadRow.no hz1 hf1 (hc1 (by decide)) (ped_var 4)) pad_nil)))))) ClsD.nil))) (pssd_one (psd_ret (ped_var 3)))))
def t__law_total : TSd := (tRetD (tOpD rModD (tCBD rSumD (tConsD (tLcD (iAnyD (tVarD 2)) (gNameD 3) tYesD (tOpD rIxD (tVarD 1) (tVarD 3)) [3]) tNilD)) (tVarD 0)))
theorem d__law_total {P : Program} {w : World} {K : PySem.W.Frag} {mg : Str → Option Value} {base : Heap} {a : Nat → Addr} {fd : Nat → FuncData} {k : Nat} (T : Txt K mg a fd) : ∀ (cdv : Value) (A : Around) (outer : List Env) (s : Shared) (H : Hp) (E : XK), Room k (A.deeper (envOfC "_law_total" (defScope s__law_total) s.heap.objs.size (a 13) cdv)) →
    PSsd (cxOf (L2.CX P w) P w K mg base n__law_total "_law_total" (defScope s__law_total) (a 13) cdv A outer s H E) (fun _ => E) (defBody s__law_total) (t__law_total) := by
  intro cdv A outer s H E hr
  have hu : (cxOf (L2.CX P w) P w K mg base n__law_total "_law_total" (defScope s__law_total) (a 13) cdv A outer s H E).A.units + 64 < cLine := by have := hr.un; show (A.deeper _).units + 64 < cLine; omega
  have tk : Takes (cxOf (L2.CX P w) P w K mg base n__law_total "_law_total" (defScope s__law_total) (a 13) cdv A outer s H E) (fun cls d _ H => E cls d H) := takes_of rfl rfl rfl rfl
  have hx : ∀ σ, PassesAt (L2.CX P w) (cxOf (L2.CX P w) P w K mg base n__law_total "_law_total" (defScope s__law_total) (a 13) cdv A outer s H E) σ E := fun σ => passAt tk σ
  have hp : PassesOwn (model P w) (cxOf (L2.CX P w) P w K mg base n__law_total "_law_total" (defScope s__law_total) (a 13) cdv A outer s H E).A (cxOf (L2.CX P w) P w K mg base n__law_total "_law_total" (defScope s__law_total) (a 13) cdv A outer s H E).env (cxOf (L2.CX P w) P w K mg base n__law_total "_law_total" (defScope s__law_total) (a 13) cdv A outer s H E).xe := passes_of rfl
  have nd : (n__law_total).Nodup := sc__law_total.nd
  exact (pssd_one (psd_ret (ped_op op_mod lift_mod (ped_callB (cr_sum rfl) lift_sum T.z_sum rfl rfl (pad_cons (ped_lc (own := [("_law_place", 3)]) rfl nd (pid_any (ped_var 2)) (blkOk_by (N := n__law_total) (sc := defScope s__law_total) (own := [("_law_place", 3)]) (by decide +kernel)) (fun s H C cl fp => (pg_name (i := 3) nd rfl (by first | exact .inl rfl | exact .inr rfl))) (ctg_name (by decide)) (fun s H C cl fp => ptsd_nil) (fun s H C cl fp => (ped_ix (ped_var 1) (ped_var 3)))) pad_nil)) (ped_var 0))))
def t__law_all_refused (sp__law_word : SpD) : TSd := (tSeqD (tForD (iAnyD (tLstD (tConsD (tCD (.str "part")) (tConsD (tCD (.str "many")) (tConsD (tCD (.str "count")) tNilD))))) (gNameD 3) (tSeqD (tForD (iAnyD (tLstD (tConsD (tCD .non) (tConsD (tCD (.int 0)) (tConsD (tCD (.int 21)) (tConsD (tCD (.str "7")) (tConsD (tCD (.bl true)) tNilD))))))) (gNameD 4) (tIfSD (tTestD (tOpD rNeD (tCallD sp__law_word (tConsD (tVarD 3) (tConsD (tVarD 4) (tConsD (tCD .non) tNilD)))) (tCD (.str "round")))) (tRetD (tCD (.bl false))) tNextD)) (tSeqD (tForD (iAnyD (tLstD (tConsD (tCD .non) (tConsD (tLstD (tConsD (tCD (.int 0)) tNilD)) (tConsD (tCD (.int 3)) (tConsD (tOpD rRepT2D (tTupD (tConsD (tCD (.int 0)) tNilD)) (tCD (.int 41))) (tConsD (tCD (.str "0")) tNilD))))))) (gNameD 4) (tIfSD (tTestD (tOpD rNeD (tCallD sp__law_word (tConsD (tVarD 3) (tConsD (tVarD 0) (tConsD (tVarD 4) tNilD)))) (tTupD (tConsD (tCD (.str "row")) (tConsD (tCD .non) tNilD))))) (tRetD (tCD (.bl false))) tNextD)) (tIfSD (tTestD (tOpD rNeD (tCallD sp__law_word (tConsD (tVarD 3) (tConsD (tVarD 0) (tConsD (tOpD rAddD (tSlD (tVarD 1) tNoPartD (tPartD (tCD (.int 5)))) (tTupD (tConsD (tVarD 2) (tConsD (tCD .non) tNilD)))) tNilD)))) (tTupD (tConsD (tCD (.str "row")) (tConsD (tCBD rMinID (tConsD (tLstD (tConsD (tCD (.int 5)) (tConsD (tCBD rLenD (tConsD (tVarD 1) tNilD)) tNilD))) tNilD)) tNilD))))) (tRetD (tCD (.bl false))) tNextD)))) (tRetD (tCD (.bl true))))
theorem d__law_all_refused {P : Program} {w : World} {K : PySem.W.Frag} {mg : Str → Option Value} {base : Heap} {a : Nat → Addr} {fd : Nat → FuncData} {k : Nat} (T : Txt K mg a fd) {sp__law_word : SpD} {k__law_word : Nat} (G__law_word : FnOk P w K mg base (L2.CX P w) k__law_word (a 12) (fd 12) p__law_word (liftSp K mg sp__law_word)) (h__law_word : k__law_word ≤ k) : ∀ (cdv : Value) (A : Around) (outer : List Env) (s : Shared) (H : Hp) (E : XK), Room k (A.deeper (envOfC "_law_all_refused" (defScope s__law_all_refused) s.heap.objs.size (a 14) cdv)) →
    PSsd (cxOf (L2.CX P w) P w K mg base n__law_all_refused "_law_all_refused" (defScope s__law_all_refused) (a 14) cdv A outer s H E) (fun _ => E) (defBody s__law_all_refused) (t__law_all_refused sp__law_word) := by
  intro cdv A outer s H E hr
  have hu : (cxOf (L2.CX P w) P w K mg base n__law_all_refused "_law_all_refused" (defScope s__law_all_refused) (a 14) cdv A outer s H E).A.units + 64 < cLine := by have := hr.un; show (A.deeper _).units + 64 < cLine; omega
  have tk : Takes (cxOf (L2.CX P w) P w K mg base n__law_all_refused "_law_all_refused" (defScope s__law_all_refused) (a 14) cdv A outer s H E) (fun cls d _ H => E cls d H) := takes_of rfl rfl rfl rfl
  have hx : ∀ σ, PassesAt (L2.CX P w) (cxOf (L2.CX P w) P w K mg base n__law_all_refused "_law_all_refused" (defScope s__law_all_refused) (a 14) cdv A outer s H E) σ E := fun σ => passAt tk σ
  have hp : PassesOwn (model P w) (cxOf (L2.CX P w) P w K mg base n__law_all_refused "_law_all_refused" (defScope s__law_all_refused) (a 14) cdv A outer s H E).A (cxOf (L2.CX P w) P w K mg base n__law_all_refused "_law_all_refused" (defScope s__law_all_refused) (a 14) cdv A outer s H E).env (cxOf (L2.CX P w) P w K mg base n__law_all_refused "_law_all_refused" (defScope s__law_all_refused) (a 14) cdv A outer s H E).xe := passes_of rfl
  have nd : (n__law_all_refused).Nodup := sc__law_all_refused.nd
  exact (pssd_cons (psd_for hp rfl (pid_any (ped_lst (pad_cons ped_str (pad_cons ped_str (pad_cons ped_str pad_nil))))) (pgd_name (i := 3) nd rfl (by first | exact .inl rfl | exact .inr rfl)) (pssd_cons (psd_for hp rfl (pid_any (ped_lst (pad_cons ped_non (pad_cons ped_int (pad_cons ped_int (pad_cons ped_str (pad_cons ped_bl pad_nil))))))) (pgd_name (i := 4) nd rfl (by first | exact .inl rfl | exact .inr rfl)) (pssd_one (psd_if (ptd_cmp (op_neD hu) lift_ne (ped_call G__law_word (hr.mono h__law_word) T.g__law_word T.F__law_word.kp T.b__law_word hx rfl (pad_cons (ped_var 3) (pad_cons (ped_var 4) (pad_cons ped_non pad_nil)))) ped_str (nomark _)) (pssd_one (psd_ret ped_bl)) pssd_nil))) (pssd_cons (psd_for hp rfl (pid_any (ped_lst (pad_cons ped_non (pad_cons (ped_lst (pad_cons ped_int pad_nil)) (pad_cons ped_int (pad_cons (ped_op op_repT2 lift_repT2 (ped_tup (pad_cons ped_int pad_nil)) ped_int) (pad_cons ped_str pad_nil))))))) (pgd_name (i := 4) nd rfl (by first | exact .inl rfl | exact .inr rfl)) (pssd_one (psd_if (ptd_cmp (op_neD hu) lift_ne (ped_call G__law_word (hr.mono h__law_word) T.g__law_word T.F__law_word.kp T.b__law_word hx rfl (pad_cons (ped_var 3) (pad_cons (ped_var 0) (pad_cons (ped_var 4) pad_nil)))) (ped_tup (pad_cons ped_str (pad_cons ped_non pad_nil))) (nomark _)) (pssd_one (psd_ret ped_bl)) pssd_nil))) (pssd_one (psd_if (ptd_cmp (op_neD hu) lift_ne (ped_call G__law_word (hr.mono h__law_word) T.g__law_word T.F__law_word.kp T.b__law_word hx rfl (pad_cons (ped_var 3) (pad_cons (ped_var 0) (pad_cons (ped_op oAdd lift_add (ped_slice (ped_var 1) pod_none (pod_some ped_int)) (ped_tup (pad_cons (ped_var 2) (pad_cons ped_non pad_nil)))) pad_nil)))) (ped_tup (pad_cons ped_str (pad_cons (ped_callB (cr_min rfl) lift_minI T.z_min rfl rfl (pad_cons (ped_lst (pad_cons ped_int (pad_cons (ped_callB call_len lift_len T.z_len rfl rfl (pad_cons (ped_var 1) pad_nil)) pad_nil))) pad_nil)) pad_nil))) (nomark _)) (pssd_one (psd_ret ped_bl)) pssd_nil))))) (pssd_one (psd_ret ped_bl)))
def t_law (sp_zero_part sp_zero_many sp_count_zero sp__law_random sp__law_below sp__law_pick sp__law_equal sp__law_total sp__law_all_refused : SpD) : TSd := (tSeqD (tSetD 1 (tCallD sp__law_random (tConsD (tVarD 0) (tConsD (tCD (.int 2121)) tNilD)))) (tSeqD (tForD (iRng1D (tConsD (tCD (.int 2)) tNilD)) (gNameD 2) (tSeqD (tSetD 3 (tOpD rAddD (tCD (.int 1)) (tCallD sp__law_below (tConsD (tVarD 1) (tConsD (tCallD sp__law_pick (tConsD (tVarD 1) (tConsD (tLstD (tConsD (tCD (.int 4)) (tConsD (tCD (.int 9)) tNilD))) tNilD))) tNilD))))) (tSeqD (tAsgD (tTupD (tConsD (tCBD rTupleD (tConsD (tLcD (iRng1D (tConsD (tCallD sp__law_below (tConsD (tVarD 1) (tConsD (tCD (.int 10)) tNilD))) tNilD)) (gNameD 14) tYesD (tCallD sp__law_below (tConsD (tVarD 1) (tConsD (tVarD 3) tNilD))) [14]) tNilD)) (tConsD (tLstD (tConsD (tTupD tNilD) tNilD)) tNilD))) (gTupD (gConsD (gNameD 4) (gConsD (gNameD 12) gNilD)))) (tSeqD (tForD (iRng1D (tConsD (tCBD rLenD (tConsD (tVarD 4) tNilD)) tNilD)) (gNameD 7) (tSetD 12 (tOpD rAddD (tVarD 12) (tLcD (iAnyD (tVarD 12)) (gNameD 9) tYesD (tOpD rAddD (tVarD 9) (tTupD (tConsD (tVarD 7) tNilD))) [9])))) (tSeqD (tSetD 8 (tLcD (iAnyD (tVarD 12)) (gNameD 9) (tTestD (tOpD rEqD (tCallD sp__law_total (tConsD (tVarD 3) (tConsD (tVarD 4) (tConsD (tVarD 9) tNilD)))) (tCD (.int 0)))) (tTupD (tConsD (tCBD rLenD (tConsD (tVarD 9) tNilD)) (tConsD (tVarD 9) tNilD))) [9])) (tSeqD (tIfSD (tNotD (tTestD (tCallD sp__law_equal (tConsD (tCallD sp_count_zero (tConsD (tVarD 3) (tConsD (tVarD 4) tNilD))) (tConsD (tCBD rLenD (tConsD (tVarD 8) tNilD)) tNilD))))) (tRetD (tCD (.bl false))) tNextD) (tSeqD (tSetD 9 (tLcD (iAnyD (tVarD 8)) (gNameD 13) (tTestD (tOpD rGtD (tOpD rIxD (tVarD 13) (tCD (.int 0))) (tCD (.int 0)))) (tVarD 13) [13])) (tSeqD (tIfSD (tNotD (tTestD (tCallD sp__law_equal (tConsD (tCallD sp_zero_part (tConsD (tVarD 3) (tConsD (tVarD 4) tNilD))) (tConsD (tIfED (tTestD (tOpD rNeD (tVarD 9) (tLstD tNilD))) (tOpD rIxD (tCBD rMinPD (tConsD (tVarD 9) tNilD)) (tCD (.int 1))) (tCD .non)) tNilD))))) (tRetD (tCD (.bl false))) tNextD) (tSeqD (tSetD 9 (tLcD (iAnyD (tVarD 8)) (gNameD 13) (tTestD (tOpD rEqD (tOpD rIxD (tVarD 13) (tCD (.int 0))) (tVarD 3))) (tVarD 13) [13])) (tSeqD (tIfSD (tNotD (tTestD (tCallD sp__law_equal (tConsD (tCallD sp_zero_many (tConsD (tVarD 3) (tConsD (tVarD 4) tNilD))) (tConsD (tIfED (tTestD (tOpD rNeD (tVarD 9) (tLstD tNilD))) (tOpD rIxD (tCBD rMinPD (tConsD (tVarD 9) tNilD)) (tCD (.int 1))) (tCD .non)) tNilD))))) (tRetD (tCD (.bl false))) tNextD) (tIfSD (tOrD (tAndD (tTestD (tOpD rGeD (tCBD rLenD (tConsD (tVarD 4) tNilD)) (tVarD 3))) (tTestD (tOpD rIsD (tCallD sp_zero_part (tConsD (tVarD 3) (tConsD (tVarD 4) tNilD))) (tCD .non)))) (tAndD (tTestD (tOpD rGeD (tCBD rLenD (tConsD (tVarD 4) tNilD)) (tOpD rSubD (tOpD rMulD (tCD (.int 2)) (tVarD 3)) (tCD (.int 1))))) (tTestD (tOpD rIsD (tCallD sp_zero_many (tConsD (tVarD 3) (tConsD (tVarD 4) tNilD))) (tCD .non))))) (tRetD (tCD (.bl false))) tNextD))))))))))) (tSeqD (tSetD 3 (tOpD rAddD (tCD (.int 1)) (tCallD sp__law_below (tConsD (tVarD 1) (tConsD (tCD (.int 20)) tNilD))))) (tSeqD (tSetD 4 (tCBD rTupleD (tConsD (tLcD (iRng1D (tConsD (tOpD rSubD (tOpD rMulD (tCD (.int 2)) (tVarD 3)) (tCD (.int 1))) tNilD)) (gNameD 14) tYesD (tCallD sp__law_below (tConsD (tVarD 1) (tConsD (tVarD 3) tNilD))) [14]) tNilD))) (tSeqD (tPar2D 10 11 (tConsD (tCallD sp_zero_many (tConsD (tVarD 3) (tConsD (tVarD 4) tNilD))) (tConsD (tCallD sp_zero_part (tConsD (tVarD 3) (tConsD (tVarD 4) tNilD))) tNilD))) (tSeqD (tIfSD (tOrD (tTestD (tOpD rIsD (tVarD 10) (tCD .non))) (tOrD (tTestD (tOpD rNeD (tCBD rLenD (tConsD (tVarD 10) tNilD)) (tVarD 3))) (tOrD (tTestD (tOpD rNeD (tCBD rListD (tConsD (tVarD 10) tNilD)) (tSortSetD (tVarD 10)))) (tTestD (tOpD rNeD (tCallD sp__law_total (tConsD (tVarD 3) (tConsD (tVarD 4) (tConsD (tVarD 10) tNilD)))) (tCD (.int 0))))))) (tRetD (tCD (.bl false))) tNextD) (tSeqD (tIfSD (tOrD (tTestD (tOpD rIsD (tVarD 11) (tCD .non))) (tOrD (tNotD (tTestD (tChainD rLeD rLeD (tCD (.int 1)) (tCBD rLenD (tConsD (tVarD 11) tNilD)) (tVarD 3)))) (tTestD (tOpD rNeD (tCallD sp__law_total (tConsD (tVarD 3) (tConsD (tVarD 4) (tConsD (tVarD 11) tNilD)))) (tCD (.int 0)))))) (tRetD (tCD (.bl false))) tNextD) (tSeqD (tSetD 5 (tOpD rRepT2D (tTupD (tConsD (tOpD rModD (tCD (.int 1)) (tVarD 3)) tNilD)) (tOpD rSubD (tVarD 3) (tCD (.int 1))))) (tSeqD (tSetD 6 (tLstD (tConsD (tCallD sp_zero_part (tConsD (tVarD 3) (tConsD (tVarD 5) tNilD))) (tConsD (tCallD sp_zero_many (tConsD (tVarD 3) (tConsD (tOpD rAddD (tVarD 5) (tOpD rRepT2D (tTupD (tConsD (tCD (.int 0)) tNilD)) (tOpD rSubD (tVarD 3) (tCD (.int 1))))) tNilD))) tNilD)))) (tSeqD (tIfSD (tAndD (tTestD (tOpD rGtD (tVarD 3) (tCD (.int 1)))) (tTestD (tOpD rNeD (tVarD 6) (tLstD (tConsD (tCD .non) (tConsD (tCD .non) tNilD)))))) (tRetD (tCD (.bl false))) tNextD) (tSeqD (tIfSD (tOrD (tTestD (tOpD rNeD (tCallD sp_count_zero (tConsD (tCD (.int 1)) (tConsD (tOpD rRepT2D (tTupD (tConsD (tCD (.int 0)) tNilD)) (tCD (.int 40))) tNilD))) (tOpD rPowD (tCD (.int 2)) (tCD (.int 40))))) (tTestD (tOpD rNeD (tCallD sp_count_zero (tConsD (tCD (.int 2)) (tConsD (tOpD rRepT2D (tTupD (tConsD (tCD (.int 1)) tNilD)) (tCD (.int 40))) tNilD))) (tOpD rPowD (tCD (.int 2)) (tCD (.int 39)))))) (tRetD (tCD (.bl false))) tNextD) (tRetD (tCallD sp__law_all_refused (tConsD (tVarD 3) (tConsD (tVarD 4) (tConsD (tCallD sp__law_pick (tConsD (tVarD 1) (tConsD (tLstD (tConsD (tCD .non) (tConsD (tNegD (tCD (.int 1))) (tConsD (tVarD 3) (tConsD (tCD (.str "0")) (tConsD (tCD (.bl true)) (tConsD (tTupD (tConsD (tCD (.int 0)) tNilD)) tNilD))))))) tNilD))) tNilD))))))))))))))))
theorem d_law {P : Program} {w : World} {K : PySem.W.Frag} {mg : Str → Option Value} {base : Heap} {a : Nat → Addr} {fd : Nat → FuncData} {k : Nat} (T : Txt K mg a fd) {sp_zero_part : SpD} {k_zero_part : Nat} (G_zero_part : FnOk P w K mg base (L2.CX P w) k_zero_part (a 5) (fd 5) p_zero_part (liftSp K mg sp_zero_part)) (h_zero_part : k_zero_part ≤ k) {sp_zero_many : SpD} {k_zero_many : Nat} (G_zero_many : FnOk P w K mg base (L2.CX P w) k_zero_many (a 6) (fd 6) p_zero_many (liftSp K mg sp_zero_many)) (h_zero_many : k_zero_many ≤ k) {sp_count_zero : SpD} {k_count_zero : Nat} (G_count_zero : FnOk P w K mg base (L2.CX P w) k_count_zero (a 7) (fd 7) p_count_zero (liftSp K mg sp_count_zero)) (h_count_zero : k_count_zero ≤ k) {sp__law_random : SpD} {k__law_random : Nat} (G__law_random : FnOk P w K mg base (L2.CX P w) k__law_random (a 8) (fd 8) p__law_random (liftSp K mg sp__law_random)) (h__law_random : k__law_random ≤ k) {sp__law_below : SpD} {k__law_below : Nat} (G__law_below : FnOk P w K mg base (L2.CX P w) k__law_below (a 9) (fd 9) p__law_below (liftSp K mg sp__law_below)) (h__law_below : k__law_below ≤ k) {sp__law_pick : SpD} {k__law_pick : Nat} (G__law_pick : FnOk P w K mg base (L2.CX P w) k__law_pick (a 10) (fd 10) p__law_pick (liftSp K mg sp__law_pick)) (h__law_pick : k__law_pick ≤ k) {sp__law_equal : SpD} {k__law_equal : Nat} (G__law_equal : FnOk P w K mg base (L2.CX P w) k__law_equal (a 11) (fd 11) p__law_equal (liftSp K mg sp__law_equal)) (h__law_equal : k__law_equal ≤ k) {sp__law_total : SpD} {k__law_total : Nat} (G__law_total : FnOk P w K mg base (L2.CX P w) k__law_total (a 13) (fd 13) p__law_total (liftSp K mg sp__law_total)) (h__law_total : k__law_total ≤ k) {sp__law_all_refused : SpD} {k__law_all_refused : Nat} (G__law_all_refused : FnOk P w K mg base (L2.CX P w) k__law_all_refused (a 14) (fd 14) p__law_all_refused (liftSp K mg sp__law_all_refused)) (h__law_all_refused : k__law_all_refused ≤ k) : ∀ (cdv : Value) (A : Around) (outer : List Env) (s : Shared) (H : Hp) (E : XK), Room k (A.deeper (envOfC "law" (defScope s_law) s.heap.objs.size (a 15) cdv)) →
    PSsd (cxOf (L2.CX P w) P w K mg base n_law "law" (defScope s_law) (a 15) cdv A outer s H E) (fun _ => E) (defBody s_law) (t_law sp_zero_part sp_zero_many sp_count_zero sp__law_random sp__law_below sp__law_pick sp__law_equal sp__law_total sp__law_all_refused) := by
  intro cdv A outer s H E hr
  have hu : (cxOf (L2.CX P w) P w K mg base n_law "law" (defScope s_law) (a 15) cdv A outer s H E).A.units + 64 < cLine := by have := hr.un; show (A.deeper _).units + 64 < cLine; omega
  have tk : Takes (cxOf (L2.CX P w) P w K mg base n_law "law" (defScope s_law) (a 15) cdv A outer s H E) (fun cls d _ H => E cls d H) := takes_of rfl rfl rfl rfl
  have hx : ∀ σ, PassesAt (L2.CX P w) (cxOf (L2.CX P w) P w K mg base n_law "law" (defScope s_law) (a 15) cdv A outer s H E) σ E := fun σ => passAt tk σ
  have hp : PassesOwn (model P w) (cxOf (L2.CX P w) P w K mg base n_law "law" (defScope s_law) (a 15) cdv A outer s H E).A (cxOf (L2.CX P w) P w K mg base n_law "law" (defScope s_law) (a 15) cdv A outer s H E).env (cxOf (L2.CX P w) P w K mg base n_law "law" (defScope s_law) (a 15) cdv A outer s H E).xe := passes_of rfl
  have nd : (n_law).Nodup := sc_law.nd
  exact (pssd_cons (psd_set (i := 1) nd rfl (by first | exact .inl rfl | exact .inr rfl) (ped_call G__law_random (hr.mono h__law_random) T.g__law_random T.F__law_random.kp T.b__law_random hx rfl (pad_cons (ped_var 0) (pad_cons ped_int pad_nil)))) (pssd_cons (psd_for hp rfl (pid_rng1 T.z_range (by rfl) (pad_cons ped_int pad_nil)) (pgd_name (i := 2) nd rfl (by first | exact .inl rfl | exact .inr rfl)) (pssd_cons (psd_set (i := 3) nd rfl (by first | exact .inl rfl | exact .inr rfl) (ped_op oAdd lift_add ped_int (ped_call G__law_below (hr.mono h__law_below) T.g__law_below T.F__law_below.kp T.b__law_below hx rfl (pad_cons (ped_var 1) (pad_cons (ped_call G__law_pick (hr.mono h__law_pick) T.g__law_pick T.F__law_pick.kp T.b__law_pick hx rfl (pad_cons (ped_var 1) (pad_cons (ped_lst (pad_cons ped_int (pad_cons ped_int pad_nil))) pad_nil))) pad_nil))))) (pssd_cons (psd_asg (ped_tup (pad_cons (ped_callTy call_tuple_of lift_tuple T.z_tuple rfl rfl (pad_cons (ped_lc (own := [("_law_k", 14)]) rfl nd (pid_rng1 T.z_range (by rfl) (pad_cons (ped_call G__law_below (hr.mono h__law_below) T.g__law_below T.F__law_below.kp T.b__law_below hx rfl (pad_cons (ped_var 1) (pad_cons ped_int pad_nil))) pad_nil)) (blkOk_by (N := n_law) (sc := defScope s_law) (own := [("_law_k", 14)]) (by decide +kernel)) (fun s H C cl fp => (pg_name (i := 14) nd rfl (by first | exact .inl rfl | exact .inr rfl))) (ctg_name (by decide)) (fun s H C cl fp => ptsd_nil) (fun s H C cl fp => (ped_call G__law_below (hr.mono h__law_below) T.g__law_below T.F__law_below.kp T.b__law_below (fun σ => passAt takes0 σ) rfl (pad_cons (ped_var 1) (pad_cons (ped_var 3) pad_nil))))) pad_nil)) (pad_cons (ped_lst (pad_cons (ped_tup pad_nil) pad_nil)) pad_nil))) (pgd_tup rfl (pgsd_cons (pgd_name (i := 4) nd rfl (by first | exact .inl rfl | exact .inr rfl)) (pgsd_cons (pgd_name (i := 12) nd rfl (by first | exact .inl rfl | exact .inr rfl)) pgsd_nil)) (lenCons (lenCons lenNil)))) (pssd_cons (psd_for hp rfl (pid_rng1 T.z_range (by rfl) (pad_cons (ped_callB call_len lift_len T.z_len rfl rfl (pad_cons (ped_var 4) pad_nil)) pad_nil)) (pgd_name (i := 7) nd rfl (by first | exact .inl rfl | exact .inr rfl)) (pssd_one (psd_set (i := 12) nd rfl (by first | exact .inl rfl | exact .inr rfl) (ped_op oAdd lift_add (ped_var 12) (ped_lc (own := [("_law_some", 9)]) rfl nd (pid_any (ped_var 12)) (blkOk_by (N := n_law) (sc := defScope s_law) (own := [("_law_some", 9)]) (by decide +kernel)) (fun s H C cl fp => (pg_name (i := 9) nd rfl (by first | exact .inl rfl | exact .inr rfl))) (ctg_name (by decide)) (fun s H C cl fp => ptsd_nil) (fun s H C cl fp => (ped_op oAdd lift_add (ped_var 9) (ped_tup (pad_cons (ped_var 7) pad_nil))))))))) (pssd_cons (psd_setLc (own := [("_law_some", 9)]) (i := 8) rfl nd rfl rfl (sw_true rfl rfl (by rfl) (by rfl)) (pid_any (ped_var 12)) (blkOk_by (N := n_law) (sc := defScope s_law) (own := [("_law_some", 9)]) (by decide +kernel)) (fun s H C cl fp => (pg_name (i := 9) nd rfl (by first | exact .inl rfl | exact .inr rfl))) (ctg_name (by decide)) (fun s H C cl fp => (ptsd_one (ptd_cmp (op_eqD hu) lift_eq (ped_call G__law_total (hr.mono h__law_total) T.g__law_total T.F__law_total.kp T.b__law_total (fun σ => passAt takes0 σ) rfl (pad_cons (ped_var 3) (pad_cons (ped_var 4) (pad_cons (ped_var 9) pad_nil)))) ped_int (nomark _)))) (fun s H C cl fp => (ped_tup (pad_cons (ped_callB call_len lift_len T.z_len rfl rfl (pad_cons (ped_var 9) pad_nil)) (pad_cons (ped_var 9) pad_nil))))) (pssd_cons (psd_if (ptd_not (ptd_val (ped_call G__law_equal (hr.mono h__law_equal) T.g__law_equal T.F__law_equal.kp T.b__law_equal hx rfl (pad_cons (ped_call G_count_zero (hr.mono h_count_zero) T.g_count_zero T.F_count_zero.kp T.b_count_zero hx rfl (pad_cons (ped_var 3) (pad_cons (ped_var 4) pad_nil))) (pad_cons (ped_callB call_len lift_len T.z_len rfl rfl (pad_cons (ped_var 8) pad_nil)) pad_nil))))) (pssd_one (psd_ret ped_bl)) pssd_nil) (pssd_cons (psd_setLc (own := [("_law_pair", 13)]) (i := 9) rfl nd rfl rfl (sw_true rfl rfl (by rfl) (by rfl)) (pid_any (ped_var 8)) (blkOk_by (N := n_law) (sc := defScope s_law) (own := [("_law_pair", 13)]) (by decide +kernel)) (fun s H C cl fp => (pg_name (i := 13) nd rfl (by first | exact .inl rfl | exact .inr rfl))) (ctg_name (by decide)) (fun s H C cl fp => (ptsd_one (ptd_cmp op_gt lift_gt (ped_ix (ped_var 13) ped_int) ped_int (nomark _)))) (fun s H C cl fp => (ped_var 13))) (pssd_cons (psd_if (ptd_not (ptd_val (ped_call G__law_equal (hr.mono h__law_equal) T.g__law_equal T.F__law_equal.kp T.b__law_equal hx rfl (pad_cons (ped_call G_zero_part (hr.mono h_zero_part) T.g_zero_part T.F_zero_part.kp T.b_zero_part hx rfl (pad_cons (ped_var 3) (pad_cons (ped_var 4) pad_nil))) (pad_cons (ped_ifExp (ptd_cmp (op_neD hu) lift_ne (ped_var 9) (ped_lst pad_nil) (nomark _)) (ped_ix (ped_callB (cr_minP rfl hu) lift_minP T.z_min rfl rfl (pad_cons (ped_var 9) pad_nil)) ped_int) ped_non) pad_nil))))) (pssd_one (psd_ret ped_bl)) pssd_nil) (pssd_cons (psd_setLc (own := [("_law_pair", 13)]) (i := 9) rfl nd rfl rfl (sw_true rfl rfl (by rfl) (by rfl)) (pid_any (ped_var 8)) (blkOk_by (N := n_law) (sc := defScope s_law) (own := [("_law_pair", 13)]) (by decide +kernel)) (fun s H C cl fp => (pg_name (i := 13) nd rfl (by first | exact .inl rfl | exact .inr rfl))) (ctg_name (by decide)) (fun s H C cl fp => (ptsd_one (ptd_cmp (op_eqD hu) lift_eq (ped_ix (ped_var 13) ped_int) (ped_var 3) (nomark _)))) (fun s H C cl fp => (ped_var 13))) (pssd_cons (psd_if (ptd_not (ptd_val (ped_call G__law_equal (hr.mono h__law_equal) T.g__law_equal T.F__law_equal.kp T.b__law_equal hx rfl (pad_cons (ped_call G_zero_many (hr.mono h_zero_many) T.g_zero_many T.F_zero_many.kp T.b_zero_many hx rfl (pad_cons (ped_var 3) (pad_cons (ped_var 4) pad_nil))) (pad_cons (ped_ifExp (ptd_cmp (op_neD hu) lift_ne (ped_var 9) (ped_lst pad_nil) (nomark _)) (ped_ix (ped_callB (cr_minP rfl hu) lift_minP T.z_min rfl rfl (pad_cons (ped_var 9) pad_nil)) ped_int) ped_non) pad_nil))))) (pssd_one (psd_ret ped_bl)) pssd_nil) (pssd_one (psd_if (PWd.pt (pwd_or (PWd.pt (pwd_and (ptd_cmp op_ge lift_ge (ped_callB call_len lift_len T.z_len rfl rfl (pad_cons (ped_var 4) pad_nil)) (ped_var 3) (nomark _)) (pwd_and1 (ptd_cmp oIs lift_is (ped_call G_zero_part (hr.mono h_zero_part) T.g_zero_part T.F_zero_part.kp T.b_zero_part hx rfl (pad_cons (ped_var 3) (pad_cons (ped_var 4) pad_nil))) ped_non (nomark _))))) (pwd_or1 (PWd.pt (pwd_and (ptd_cmp op_ge lift_ge (ped_callB call_len lift_len T.z_len rfl rfl (pad_cons (ped_var 4) pad_nil)) (ped_op op_sub lift_sub (ped_op oMul lift_mul ped_int (ped_var 3)) ped_int) (nomark _)) (pwd_and1 (ptd_cmp oIs lift_is (ped_call G_zero_many (hr.mono h_zero_many) T.g_zero_many T.F_zero_many.kp T.b_zero_many hx rfl (pad_cons (ped_var 3) (pad_cons (ped_var 4) pad_nil))) ped_non (nomark _)))))))) (pssd_one (psd_ret ped_bl)) pssd_nil)))))))))))) (pssd_cons (psd_set (i := 3) nd rfl (by first | exact .inl rfl | exact .inr rfl) (ped_op oAdd lift_add ped_int (ped_call G__law_below (hr.mono h__law_below) T.g__law_below T.F__law_below.kp T.b__law_below hx rfl (pad_cons (ped_var 1) (pad_cons ped_int pad_nil))))) (pssd_cons (psd_set (i := 4) nd rfl (by first | exact .inl rfl | exact .inr rfl) (ped_callTy call_tuple_of lift_tuple T.z_tuple rfl rfl (pad_cons (ped_lc (own := [("_law_k", 14)]) rfl nd (pid_rng1 T.z_range (by rfl) (pad_cons (ped_op op_sub lift_sub (ped_op oMul lift_mul ped_int (ped_var 3)) ped_int) pad_nil)) (blkOk_by (N := n_law) (sc := defScope s_law) (own := [("_law_k", 14)]) (by decide +kernel)) (fun s H C cl fp => (pg_name (i := 14) nd rfl (by first | exact .inl rfl | exact .inr rfl))) (ctg_name (by decide)) (fun s H C cl fp => ptsd_nil) (fun s H C cl fp => (ped_call G__law_below (hr.mono h__law_below) T.g__law_below T.F__law_below.kp T.b__law_below (fun σ => passAt takes0 σ) rfl (pad_cons (ped_var 1) (pad_cons (ped_var 3) pad_nil))))) pad_nil))) (pssd_cons (psd_par (i := 10) (j := 11) rfl nd rfl rfl (by decide) rfl rfl (pad_cons (ped_call G_zero_many (hr.mono h_zero_many) T.g_zero_many T.F_zero_many.kp T.b_zero_many hx rfl (pad_cons (ped_var 3) (pad_cons (ped_var 4) pad_nil))) (pad_cons (ped_call G_zero_part (hr.mono h_zero_part) T.g_zero_part T.F_zero_part.kp T.b_zero_part hx rfl (pad_cons (ped_var 3) (pad_cons (ped_var 4) pad_nil))) pad_nil)) rfl) (pssd_cons (psd_if (PWd.pt (pwd_or (ptd_cmp oIs lift_is (ped_var 10) ped_non (nomark _)) (pwd_or (ptd_cmp (op_neD hu) lift_ne (ped_callB call_len lift_len T.z_len rfl rfl (pad_cons (ped_var 10) pad_nil)) (ped_var 3) (nomark _)) (pwd_or (ptd_cmp (op_neD hu) lift_ne (ped_callTy call_list_of lift_list T.z_list rfl rfl (pad_cons (ped_var 10) pad_nil)) (ped_sortSet rfl T.z_sorted T.z_set rfl rfl (ped_var 10)) (nomark _)) (pwd_or1 (ptd_cmp (op_neD hu) lift_ne (ped_call G__law_total (hr.mono h__law_total) T.g__law_total T.F__law_total.kp T.b__law_total hx rfl (pad_cons (ped_var 3) (pad_cons (ped_var 4) (pad_cons (ped_var 10) pad_nil)))) ped_int (nomark _))))))) (pssd_one (psd_ret ped_bl)) pssd_nil) (pssd_cons (psd_if (PWd.pt (pwd_or (ptd_cmp oIs lift_is (ped_var 11) ped_non (nomark _)) (pwd_or (ptd_not (ptd_chain op_le lift_le op_le lift_le ped_int (ped_callB call_len lift_len T.z_len rfl rfl (pad_cons (ped_var 11) pad_nil)) (ped_var 3))) (pwd_or1 (ptd_cmp (op_neD hu) lift_ne (ped_call G__law_total (hr.mono h__law_total) T.g__law_total T.F__law_total.kp T.b__law_total hx rfl (pad_cons (ped_var 3) (pad_cons (ped_var 4) (pad_cons (ped_var 11) pad_nil)))) ped_int (nomark _)))))) (pssd_one (psd_ret ped_bl)) pssd_nil) (pssd_cons (psd_set (i := 5) nd rfl (by first | exact .inl rfl | exact .inr rfl) (ped_op op_repT2 lift_repT2 (ped_tup (pad_cons (ped_op op_mod lift_mod ped_int (ped_var 3)) pad_nil)) (ped_op op_sub lift_sub (ped_var 3) ped_int))) (pssd_cons (psd_set (i := 6) nd rfl (by first | exact .inl rfl | exact .inr rfl) (ped_lst (pad_cons (ped_call G_zero_part (hr.mono h_zero_part) T.g_zero_part T.F_zero_part.kp T.b_zero_part hx rfl (pad_cons (ped_var 3) (pad_cons (ped_var 5) pad_nil))) (pad_cons (ped_call G_zero_many (hr.mono h_zero_many) T.g_zero_many T.F_zero_many.kp T.b_zero_many hx rfl (pad_cons (ped_var 3) (pad_cons (ped_op oAdd lift_add (ped_var 5) (ped_op op_repT2 lift_repT2 (ped_tup (pad_cons ped_int pad_nil)) (ped_op op_sub lift_sub (ped_var 3) ped_int))) pad_nil))) pad_nil)))) (pssd_cons (psd_if (PWd.pt (pwd_and (ptd_cmp op_gt lift_gt (ped_var 3) ped_int (nomark _)) (pwd_and1 (ptd_cmp (op_neD hu) lift_ne (ped_var 6) (ped_lst (pad_cons ped_non (pad_cons ped_non pad_nil))) (nomark _))))) (pssd_one (psd_ret ped_bl)) pssd_nil) (pssd_cons (psd_if (PWd.pt (pwd_or (ptd_cmp (op_neD hu) lift_ne (ped_call G_count_zero (hr.mono h_count_zero) T.g_count_zero T.F_count_zero.kp T.b_count_zero hx rfl (pad_cons ped_int (pad_cons (ped_op op_repT2 lift_repT2 (ped_tup (pad_cons ped_int pad_nil)) ped_int) pad_nil))) (ped_op op_pow lift_pow ped_int ped_int) (nomark _)) (pwd_or1 (ptd_cmp (op_neD hu) lift_ne (ped_call G_count_zero (hr.mono h_count_zero) T.g_count_zero T.F_count_zero.kp T.b_count_zero hx rfl (pad_cons ped_int (pad_cons (ped_op op_repT2 lift_repT2 (ped_tup (pad_cons ped_int pad_nil)) ped_int) pad_nil))) (ped_op op_pow lift_pow ped_int ped_int) (nomark _))))) (pssd_one (psd_ret ped_bl)) pssd_nil) (pssd_one (psd_ret (ped_call G__law_all_refused (hr.mono h__law_all_refused) T.g__law_all_refused T.F__law_all_refused.kp T.b__law_all_refused hx rfl (pad_cons (ped_var 3) (pad_cons (ped_var 4) (pad_cons (ped_call G__law_pick (hr.mono h__law_pick) T.g__law_pick T.F__law_pick.kp T.b__law_pick hx rfl (pad_cons (ped_var 1) (pad_cons (ped_lst (pad_cons ped_non (pad_cons (ped_neg ped_int) (pad_cons (ped_var 3) (pad_cons ped_str (pad_cons ped_bl (pad_cons (ped_tup (pad_cons ped_int pad_nil)) pad_nil))))))) pad_nil))) pad_nil)))))))))))))))))
end Z

namespace Z
open PySem PySem.Spec L2 Y
open PyProof.Rows hiding St
def sp_is_integer : SpD := fun ds G Q E => ∃ d, ds = [d] ∧ plainD d = true ∧ Q (.bl (isIntD d)) G
theorem len_is_integer : ∀ ds G Q E, sp_is_integer ds G Q E → ds.length = p_is_integer.length := by rintro _ _ _ _ ⟨d, rfl, _⟩; rfl
theorem sem_is_integer : ∀ ds G Q E, sp_is_integer ds G Q E → t_is_integer (endsF G Q E) (startD n_is_integer.length ds) G := by
  rintro _ G Q E ⟨d, rfl, hp, q⟩
  cases d <;> first | exact ⟨grew0, rfl, q⟩ | cases hp
def sp_is_from : SpD := fun ds G Q E => ∃ d lo hi, ds = [d, .int lo, .int hi] ∧ plainD d = true ∧ Q (.bl (fromD d lo hi)) G
theorem len_is_from : ∀ ds G Q E, sp_is_from ds G Q E → ds.length = p_is_from.length := by rintro _ _ _ _ ⟨d, lo, hi, rfl, _⟩; rfl
theorem sem_is_from : ∀ ds G Q E, sp_is_from ds G Q E → t_is_from sp_is_integer (endsF G Q E) (startD n_is_from.length ds) G := by
  rintro _ G Q E ⟨d, lo, hi, rfl, hp, q⟩
  refine ⟨d, rfl, hp, ?_⟩
  cases d with
  | int i =>
    unfold fromD at q
    simp only at q
    show (match (D.bl (decide (lo ≤ i)) : D) with | .bl true => _ | .bl false => _ | _ => False)
    cases h : decide (lo ≤ i) with
    | true => rw [h] at q; exact ⟨grew0, rfl, q⟩
    | false => rw [h] at q; exact ⟨grew0, rfl, q⟩
  | _ => exact ⟨grew0, rfl, q⟩
def firstOff (n : Int) : Nat → List D → Option Nat
  | _, [] => none
  | i, x :: r => if fromD x 0 (n - 1) = true then firstOff n (i + 1) r else some i
def rowErr (dn dr : D) : Option Er := if fromD dn 1 20 = true then
    (match dn, dr with
    | .int n, .tup xs => if xs.length ≤ 40 then (firstOff n 0 xs).map fun (i : Nat) => ⟨"BadRow", some ("index", .int (i : Int))⟩ else some ⟨"BadRow", some ("index", .non)⟩
    | _, _ => some ⟨"BadRow", some ("index", .non)⟩)
  else some ⟨"BadRound", none⟩
theorem rowErr_below {dn dl : D} {e : Er} {k : Nat} (h : rowErr dn dl = some e) : belowE k e := by
  unfold rowErr at h
  split at h
  · split at h
    · split at h
      · obtain ⟨i, _, rfl⟩ := Option.map_eq_some_iff.mp h
        intro f d z; cases z; rfl
      · cases h; intro f d z; cases z; rfl
    · cases h; intro f d z; cases z; rfl
  · cases h; intro f d z; cases z
theorem firstOff_ints {n : Int} : ∀ {xs : List D} {i : Nat}, firstOff n i xs = none → ∃ row : List Int, xs = row.map .int ∧ ∀ x ∈ row, 0 ≤ x ∧ x < n
  | [], _, _ => ⟨[], rfl, fun _ h => (nomatch h)⟩
  | x :: r, i, h => by
    unfold firstOff at h
    by_cases c : fromD x 0 (n - 1) = true
    · rw [if_pos c] at h
      obtain ⟨k, rfl, k1, k2⟩ := fromD_int c
      obtain ⟨row, rfl, hr⟩ := firstOff_ints h
      refine ⟨k :: row, rfl, fun y hy => ?_⟩
      rcases List.mem_cons.mp hy with rfl | hy
      · omega
      · exact hr y hy
    · rw [if_neg c] at h; cases h
theorem rowErr_none {dn dr : D} (h : rowErr dn dr = none) : ∃ (n : Int) (row : List Int), dn = .int n ∧ dr = tupI row ∧ 1 ≤ n ∧ n ≤ 20 ∧ row.length ≤ 40 ∧ ∀ x ∈ row, 0 ≤ x ∧ x < n := by
  unfold rowErr at h
  split at h
  · rename_i hn
    obtain ⟨n, rfl, h1, h2⟩ := fromD_int hn
    cases dr with
    | tup xs =>
      simp only at h
      split at h
      · rename_i hl
        obtain ⟨row, rfl, hr⟩ := firstOff_ints (Option.map_eq_none_iff.mp h)
        exact ⟨n, row, rfl, rfl, h1, h2, by rw [List.length_map] at hl; exact hl, hr⟩
      · cases h
    | _ => cases h
  · cases h
theorem firstOff_ok {n : Int} : ∀ {row : List Int} {i : Nat}, (∀ x ∈ row, 0 ≤ x ∧ x < n) → firstOff n i (row.map .int) = none
  | [], _, _ => rfl
  | x :: r, i, h => by
    have hx := h x (.head _)
    show (if fromD (.int x) 0 (n - 1) = true then _ else _) = _
    have : fromD (.int x) 0 (n - 1) = true := by
      show (decide (0 ≤ x) && decide (x ≤ n - 1)) = true
      rw [decide_eq_true hx.1, decide_eq_true (by omega)]; rfl
    rw [if_pos this]
    exact firstOff_ok fun y hy => h y (.tail _ hy)
theorem rowErr_ok {n : Int} {row : List Int} (h1 : 1 ≤ n) (h2 : n ≤ 20) (hl : row.length ≤ 40) (h : ∀ x ∈ row, 0 ≤ x ∧ x < n) : rowErr (.int n) (tupI row) = none := by
  unfold rowErr
  have : fromD (.int n) 1 20 = true := by
    show (decide (1 ≤ n) && decide (n ≤ 20)) = true
    rw [decide_eq_true h1, decide_eq_true h2]; rfl
  rw [if_pos this]
  show (if (row.map Y.D.int).length ≤ 40 then _ else _) = _
  rw [if_pos (by rw [List.length_map]; exact hl), firstOff_ok h]; rfl
def sp_check_row : SpD := fun ds G Q E => ∃ dn dl, ds = [dn, dl] ∧ plainD dn = true ∧ plainD dl = true ∧ plains dl = true ∧ match rowErr dn dl with | none => Q .non G | some e => E e G
theorem len_check_row : ∀ ds G Q E, sp_check_row ds G Q E → ds.length = p_check_row.length := by rintro _ _ _ _ ⟨d, e, rfl, _⟩; rfl
theorem check_row_loop {G : GS} {Q : QD} {E : QE} {n : Int} {xs : List D} : ∀ (r : List D) (i : Nat) (a b : Option D), (∀ x ∈ r, plainD x = true) →
    (match firstOff n i r with | none => Q .non G | some i => E ⟨"BadRow", some ("index", .int (i : Int))⟩ G) →
    forL (gTupD (gConsD (gNameD 2) (gConsD (gNameD 3) gNilD))) (tIfSD (tNotD (tTestD (tCallD sp_is_from (tConsD (tVarD 3) (tConsD (tCD (.int 0)) (tConsD (tOpD rSubD (tVarD 0) (tCD (.int 1))) tNilD)))))) (tRaise1D "BadRow" "index" (tVarD 2)) tNextD)
      (endsF G Q E) (enumD i r) [some (.int n), some (.tup xs), a, b] G
  | [], i, a, b, hp, q => ⟨grew0, q⟩
  | x :: r, i, a, b, hp, q => by
    refine ⟨x, 0, n - 1, rfl, hp x (.head _), ?_⟩
    unfold firstOff at q
    show (if (!fromD x 0 (n - 1)) = true then _ else _)
    cases h : fromD x 0 (n - 1) with
    | false =>
      rw [h] at q
      exact ⟨grew0, (fun _ _ z => by cases z; rfl), q⟩
    | true =>
      rw [h] at q
      exact check_row_loop r (i + 1) _ _ (fun y hy => hp y (.tail _ hy)) q
theorem sem_check_row : ∀ ds G Q E, sp_check_row ds G Q E → t_check_row sp_is_from (endsF G Q E) (startD n_check_row.length ds) G := by
  rintro _ G Q E ⟨dn, dl, rfl, hn, hl, hp, q⟩
  refine ⟨dn, 1, 20, rfl, hn, ?_⟩
  show (if (!fromD dn 1 20) = true then _ else _)
  unfold rowErr at q
  cases h : fromD dn 1 20 with
  | false =>
    rw [h, if_neg (by decide)] at q
    exact ⟨grew0, (fun _ _ z => nomatch z), q⟩
  | true =>
    rw [h, if_pos rfl] at q
    rw [if_neg (by decide)]
    obtain ⟨n, rfl, _, _⟩ := fromD_int h
    have bad : isaD G .tuple dl = some false → E ⟨"BadRow", some ("index", .non)⟩ G → (tSeqD (tIfSD (tOrD (tNotD (tTestD (tIsiD .tuple (tVarD 1)))) (tTestD (tOpD rGtD (tCBD rLenD (tConsD (tVarD 1) tNilD)) (tCD (.int 40))))) (tRaise1D "BadRow" "index" (tCD .non)) tNextD) (tForD (iEnumD (tConsD (tVarD 1) tNilD)) (gTupD (gConsD (gNameD 2) (gConsD (gNameD 3) gNilD))) (tIfSD (tNotD (tTestD (tCallD sp_is_from (tConsD (tVarD 3) (tConsD (tCD (.int 0)) (tConsD (tOpD rSubD (tVarD 0) (tCD (.int 1))) tNilD)))))) (tRaise1D "BadRow" "index" (tVarD 2)) tNextD))) (endsF G Q E) [some (.int n), some dl, none, none] G := fun hd q => by
      show (match isaD G .tuple dl with | some b => _ | none => False)
      rw [hd]
      exact ⟨grew0, (fun _ _ z => by cases z; rfl), q⟩
    cases dl with
    | tup xs =>
      simp only at q
      show (if decide (((xs.length : Nat) : Int) > 40) = true then _ else _)
      by_cases c : xs.length ≤ 40
      · rw [if_pos c] at q
        rw [decide_eq_false (by omega), if_neg (by decide)]
        refine check_row_loop xs 0 none none (fun x hx => List.all_eq_true.mp hp x hx) ?_
        cases hb : firstOff n 0 xs with
        | none => rw [hb] at q; exact q
        | some i => rw [hb] at q; exact q
      · rw [if_neg c] at q
        rw [decide_eq_true (by omega), if_pos rfl]
        exact ⟨grew0, (fun _ _ z => by cases z; rfl), q⟩
    | obj k => cases hl
    | exn a b c d => cases hl
    | scr ns => cases hl
    | key ns => cases hl
    | non => exact bad rfl q
    | bl b => exact bad rfl q
    | int i => exact bad rfl q
    | str s => exact bad rfl q
    | lst xs => exact bad rfl q
    | dct => exact bad rfl q
abbrev KVs := List (List Int × Option Int)
def cntP (n : Int) : List Int → (Nat → Int → Bool) → Nat
  | [], P => if P 0 0 = true then 1 else 0
  | x :: r, P => cntP n r P + cntP n r (fun m t => P (m + 1) ((t + x) % n))
def eqP (m : Nat) (t : Int) : Nat → Int → Bool := fun m' t' => decide (m' = m) && decide (t' = t)
def hasB (n : Int) (r : List Int) (m : Nat) (t : Int) : Bool := decide (0 < cntP n r (eqP m t))
def valO : Option Int → Int
  | some i => i
  | none => 0
def sumE (P : List Int → Bool) : KVs → Int
  | [] => 0
  | e :: r => (if P e.1 = true then valO e.2 else 0) + sumE P r
def getO (kvs : KVs) (k : List Int) : Int := match dget kvs k with
  | some o => valO o
  | none => 0
def addE (kvs : KVs) (k : List Int) (c : Int) : KVs := dput kvs k (some (getO kvs k + c))
def stepK (n x : Int) (acc : KVs) (e : List Int × Option Int) : KVs := match e.1 with
  | [m, t] => addE (addE acc [m, t] (valO e.2)) [m + 1, (t + x) % n] (valO e.2)
  | _ => acc
def tabT (n : Int) : List Int → KVs
  | [] => [([0, 0], some 1)]
  | x :: r => (tabT n r).foldl (stepK n x) []
theorem cntP_congr {n : Int} {P P' : Nat → Int → Bool} : ∀ {r : List Int}, (∀ m t, P m t = P' m t) → cntP n r P = cntP n r P'
  | r, h => by
    have : P = P' := by funext m t; exact h m t
    rw [this]
theorem dget_mem {kvs : KVs} {k : List Int} {o : Option Int} (h : dget kvs k = some o) : (k, o) ∈ kvs := by
  unfold dget at h
  obtain ⟨e, he, ho⟩ := Option.map_eq_some_iff.mp h
  have h1 := List.mem_of_find?_eq_some he
  have h2 := List.find?_some he
  have h2 : e.1 = k := of_decide_eq_true h2
  rw [← ho, ← h2]; exact h1
theorem dget_no {kvs : KVs} {k : List Int} (h : dget kvs k = none) : ∀ e ∈ kvs, e.1 ≠ k := by
  unfold dget at h
  intro e he z
  have := List.find?_eq_none.mp (Option.map_eq_none_iff.mp h) e he
  exact this (decide_eq_true z)
theorem dget_at {kvs : KVs} (nd : (kvs.map (·.1)).Nodup) {e : List Int × Option Int} (h : e ∈ kvs) : dget kvs e.1 = some e.2 := by
  cases hd : dget kvs e.1 with
  | none => exact absurd rfl (dget_no hd e h)
  | some o =>
    have h2 := dget_mem hd
    have : ∀ {l : KVs}, (l.map (·.1)).Nodup → e ∈ l → (e.1, o) ∈ l → o = e.2 := by
      intro l
      induction l with
      | nil => intro _ h; cases h
      | cons a l ih =>
        intro nd h1 h2
        rw [List.map_cons, List.nodup_cons] at nd
        rcases List.mem_cons.mp h1 with rfl | h1
        · rcases List.mem_cons.mp h2 with h2 | h2
          · rw [← h2]
          · exact absurd (List.mem_map.mpr ⟨_, h2, rfl⟩) nd.1
        · rcases List.mem_cons.mp h2 with h2 | h2
          · rw [← h2] at nd
            exact absurd (List.mem_map.mpr ⟨_, h1, rfl⟩) nd.1
          · exact ih nd.2 h1 h2
    rw [this nd h h2]
theorem any_key {kvs : KVs} {k : List Int} : (kvs.any fun e => decide (e.1 = k)) = true ↔ ∃ e ∈ kvs, e.1 = k := by
  rw [List.any_eq_true]
  exact ⟨fun ⟨e, h1, h2⟩ => ⟨e, h1, of_decide_eq_true h2⟩, fun ⟨e, h1, h2⟩ => ⟨e, h1, decide_eq_true h2⟩⟩
theorem sumE_append {P : List Int → Bool} : ∀ (a b : KVs), sumE P (a ++ b) = sumE P a + sumE P b
  | [], b => by show sumE P b = 0 + sumE P b; omega
  | e :: a, b => by
    show (if P e.1 = true then valO e.2 else 0) + sumE P (a ++ b) = (if P e.1 = true then valO e.2 else 0) + sumE P a + sumE P b
    rw [sumE_append a b]; omega
theorem repl_same {k : List Int} {o : Option Int} : ∀ {kvs : KVs}, (∀ e ∈ kvs, e.1 ≠ k) → kvs.map (fun e => if e.1 = k then (e.1, o) else e) = kvs
  | [], _ => rfl
  | e :: r, h => by
    rw [List.map_cons, if_neg (h e (.head _)), repl_same fun e he => h e (.tail _ he)]
theorem sumE_repl {P : List Int → Bool} {k : List Int} {o : Option Int} : ∀ {kvs : KVs}, (kvs.map (·.1)).Nodup → ∀ {e0 : List Int × Option Int}, e0 ∈ kvs → e0.1 = k →
    sumE P (kvs.map fun e => if e.1 = k then (e.1, o) else e) = sumE P kvs + (if P k = true then valO o - valO e0.2 else 0)
  | [], _, _, h, _ => by cases h
  | e :: r, nd, e0, h, hk => by
    rw [List.map_cons, List.nodup_cons] at nd
    rw [List.map_cons]
    by_cases c : e.1 = k
    · have hno : ∀ e ∈ r, e.1 ≠ k := fun e' he' z => nd.1 (List.mem_map.mpr ⟨e', he', by rw [z, c]⟩)
      have e00 : e0 = e := by
        rcases List.mem_cons.mp h with h | h
        · exact h
        · exact absurd hk (hno e0 h)
      subst e00
      rw [if_pos c, repl_same hno]
      show (if P e0.1 = true then valO o else 0) + sumE P r = (if P e0.1 = true then valO e0.2 else 0) + sumE P r + _
      rw [c]
      by_cases p : P k = true
      · rw [if_pos p, if_pos p, if_pos p]; omega
      · rw [if_neg p, if_neg p, if_neg p]; omega
    · have h' : e0 ∈ r := by
        rcases List.mem_cons.mp h with h | h
        · rw [h] at hk; exact absurd hk c
        · exact h
      rw [if_neg c]
      show (if P e.1 = true then valO e.2 else 0) + sumE P (r.map _) = (if P e.1 = true then valO e.2 else 0) + sumE P r + _
      rw [sumE_repl nd.2 h' hk]
      omega
theorem sumE_add {P : List Int → Bool} {kvs : KVs} {k : List Int} {c : Int} (nd : (kvs.map (·.1)).Nodup) : sumE P (addE kvs k c) = sumE P kvs + (if P k = true then c else 0) := by
  unfold addE dput
  by_cases a : (kvs.any fun e => decide (e.1 = k)) = true
  · rw [if_pos a]
    obtain ⟨e0, h0, hk⟩ := any_key.mp a
    rw [sumE_repl nd h0 hk]
    have hg : getO kvs k = valO e0.2 := by
      unfold getO
      rw [← hk, dget_at nd h0]
    show sumE P kvs + (if P k = true then getO kvs k + c - valO e0.2 else 0) = _
    rw [hg]
    by_cases p : P k = true
    · rw [if_pos p, if_pos p]; omega
    · rw [if_neg p, if_neg p]
  · rw [if_neg a, sumE_append]
    have hg : getO kvs k = 0 := by
      unfold getO
      cases hd : dget kvs k with
      | none => rfl
      | some o => exact absurd (any_key.mpr ⟨_, dget_mem hd, rfl⟩) a
    rw [hg]
    show sumE P kvs + ((if P k = true then 0 + c else 0) + 0) = _
    by_cases p : P k = true
    · rw [if_pos p, if_pos p]; omega
    · rw [if_neg p, if_neg p]; omega
/-- a dict of the tables -/
structure DOk (n : Int) (L : Nat) (kvs : KVs) : Prop where
  nd : (kvs.map (·.1)).Nodup
  ent : ∀ e ∈ kvs, ∃ (m : Nat) (t i : Int), e = ([(m : Int), t], some i) ∧ m ≤ L ∧ 0 ≤ t ∧ t < n ∧ 0 < i
theorem DOk.add {n : Int} {L : Nat} {kvs : KVs} (h : DOk n L kvs) {m : Nat} {t c : Int} (hm : m ≤ L) (t0 : 0 ≤ t) (t1 : t < n) (hc : 0 < c) : DOk n L (addE kvs [(m : Int), t] c) := by
  have hg : 0 ≤ getO kvs [(m : Int), t] := by
    unfold getO
    cases hd : dget kvs [(m : Int), t] with
    | none => exact Int.le_refl 0
    | some o =>
      obtain ⟨m', t', i, e, _, _, _, hi⟩ := h.ent _ (dget_mem hd)
      have : o = some i := congrArg Prod.snd e
      rw [this]; show 0 ≤ i; omega
  unfold addE dput
  by_cases a : (kvs.any fun e => decide (e.1 = [(m : Int), t])) = true
  · rw [if_pos a]
    refine ⟨?_, fun e he => ?_⟩
    · rw [List.map_map]
      have : kvs.map ((fun e : List Int × Option Int => e.1) ∘ fun e => if e.1 = [(m : Int), t] then (e.1, some (getO kvs [(m : Int), t] + c)) else e) = kvs.map (·.1) := List.map_congr_left fun e _ => by
        show (if e.1 = [(m : Int), t] then (e.1, some (getO kvs [(m : Int), t] + c)) else e).1 = e.1
        split <;> rfl
      rw [this]; exact h.nd
    · obtain ⟨e', he', rfl⟩ := List.mem_map.mp he
      by_cases z : e'.1 = [(m : Int), t]
      · rw [if_pos z]
        exact ⟨m, t, _, by rw [z], hm, t0, t1, by omega⟩
      · rw [if_neg z]; exact h.ent e' he'
  · rw [if_neg a]
    refine ⟨?_, fun e he => ?_⟩
    · rw [List.map_append, List.nodup_append]
      refine ⟨h.nd, List.nodup_cons.mpr ⟨fun z => (nomatch z), List.nodup_nil⟩, fun x hx y hy e => ?_⟩
      obtain ⟨e', he', rfl⟩ := List.mem_map.mp hx
      have hy := List.mem_singleton.mp hy
      exact a (any_key.mpr ⟨e', he', by rw [e, hy]⟩)
    · rcases List.mem_append.mp he with he | he
      · exact h.ent e he
      · rw [List.mem_singleton.mp he]
        exact ⟨m, t, _, rfl, hm, t0, t1, by omega⟩
def shiftP (n x : Int) (P : List Int → Bool) : List Int → Bool := fun k => match k with
  | [m, t] => P [m + 1, (t + x) % n]
  | _ => false
theorem fold_ok {n x : Int} {L : Nat} (hn : 0 < n) : ∀ (pre acc : KVs), DOk n (L + 1) acc → (∀ e ∈ pre, ∃ (m : Nat) (t i : Int), e = ([(m : Int), t], some i) ∧ m ≤ L ∧ 0 ≤ t ∧ t < n ∧ 0 < i) →
    DOk n (L + 1) (pre.foldl (stepK n x) acc) ∧ ∀ P, sumE P (pre.foldl (stepK n x) acc) = sumE P acc + sumE P pre + sumE (shiftP n x P) pre
  | [], acc, h, _ => ⟨h, fun P => by show sumE P acc = sumE P acc + 0 + 0; omega⟩
  | e :: pre, acc, h, hp => by
    obtain ⟨m, t, i, he, hm, t0, t1, hi⟩ := hp e (.head _)
    have m0 : 0 ≤ (t + x) % n := Int.emod_nonneg _ (by omega)
    have m1 : (t + x) % n < n := Int.emod_lt_of_pos _ hn
    have a1 := h.add (m := m) (t := t) (c := i) (by omega) t0 t1 hi
    have a2 := a1.add (m := m + 1) (t := (t + x) % n) (c := i) (by omega) m0 m1 hi
    have es : stepK n x acc e = addE (addE acc [(m : Int), t] i) [((m + 1 : Nat) : Int), (t + x) % n] i := by
      rw [he, Int.natCast_add]; rfl
    rw [List.foldl_cons, es]
    obtain ⟨b1, b2⟩ := fold_ok (x := x) hn pre _ a2 fun e' he' => hp e' (.tail _ he')
    refine ⟨b1, fun P => ?_⟩
    rw [b2 P, sumE_add a1.nd, sumE_add h.nd]
    show _ = sumE P acc + ((if P e.1 = true then valO e.2 else 0) + sumE P pre) + ((if shiftP n x P e.1 = true then valO e.2 else 0) + sumE (shiftP n x P) pre)
    have e1 : (if P e.1 = true then valO e.2 else 0) = (if P [(m : Int), t] = true then i else 0) := by rw [he]; rfl
    have e2 : (if shiftP n x P e.1 = true then valO e.2 else 0) = (if P [((m + 1 : Nat) : Int), (t + x) % n] = true then i else 0) := by rw [he, Int.natCast_add]; rfl
    rw [e1, e2]
    omega
theorem tab_ok {n : Int} (hn : 0 < n) : ∀ r : List Int, DOk n r.length (tabT n r) ∧ ∀ P : List Int → Bool, sumE P (tabT n r) = (cntP n r (fun m t => P [(m : Int), t]) : Int)
  | [] => by
    refine ⟨⟨List.nodup_cons.mpr ⟨fun z => (nomatch z), List.nodup_nil⟩, fun e he => ?_⟩, fun P => ?_⟩
    · rw [List.mem_singleton.mp he]
      exact ⟨0, 0, 1, rfl, Nat.le_refl _, Int.le_refl 0, hn, by decide⟩
    · show (if P [0, 0] = true then (1 : Int) else 0) + 0 = ((if P [((0 : Nat) : Int), 0] = true then 1 else 0 : Nat) : Int)
      by_cases p : P [0, 0] = true
      · rw [if_pos p, if_pos (show P [((0 : Nat) : Int), 0] = true from p)]; rfl
      · rw [if_neg p, if_neg (show ¬ P [((0 : Nat) : Int), 0] = true from p)]; rfl
  | x :: r => by
    obtain ⟨h1, h2⟩ := tab_ok hn r
    obtain ⟨b1, b2⟩ := fold_ok (x := x) (L := r.length) hn (tabT n r) [] ⟨List.nodup_nil, fun _ h => (nomatch h)⟩ h1.ent
    refine ⟨b1, fun P => ?_⟩
    show sumE P ((tabT n r).foldl (stepK n x) []) = ((cntP n r (fun m t => P [(m : Int), t]) + cntP n r (fun m t => P [((m + 1 : Nat) : Int), (t + x) % n]) : Nat) : Int)
    rw [b2 P, h2 P, h2 (shiftP n x P), Int.natCast_add]
    have e : cntP n r (fun m t => shiftP n x P [(m : Int), t]) = cntP n r (fun m t => P [((m + 1 : Nat) : Int), (t + x) % n]) := cntP_congr fun m t => by
      show P [(m : Int) + 1, (t + x) % n] = P [((m + 1 : Nat) : Int), (t + x) % n]
      rw [Int.natCast_add]; rfl
    rw [e]
    show 0 + _ + _ = _
    omega
theorem sumE_key {k : List Int} : ∀ {kvs : KVs}, (kvs.map (·.1)).Nodup → sumE (fun k' => decide (k' = k)) kvs = getO kvs k := by
  intro kvs
  have hno : ∀ {l : KVs}, (∀ e ∈ l, e.1 ≠ k) → sumE (fun k' => decide (k' = k)) l = 0 := by
    intro l
    induction l with
    | nil => intro _; rfl
    | cons e r ih =>
      intro h
      show (if decide (e.1 = k) = true then valO e.2 else 0) + sumE _ r = 0
      rw [decide_eq_false (h e (.head _)), ih fun e he => h e (.tail _ he)]; rfl
  have main : ∀ {l : KVs}, (l.map (·.1)).Nodup → ∀ {o : Option Int}, (k, o) ∈ l → sumE (fun k' => decide (k' = k)) l = valO o := by
    intro l
    induction l with
    | nil => intro _ _ h; cases h
    | cons e r ih =>
      intro nd o h
      rw [List.map_cons, List.nodup_cons] at nd
      show (if decide (e.1 = k) = true then valO e.2 else 0) + sumE _ r = valO o
      rcases List.mem_cons.mp h with h | h
      · rw [← h, decide_eq_true rfl, if_pos rfl, hno fun e' he' z => nd.1 (List.mem_map.mpr ⟨e', he', by rw [z, ← h]⟩)]
        show valO o + 0 = valO o
        omega
      · rw [decide_eq_false (fun z => nd.1 (by rw [z]; exact List.mem_map.mpr ⟨_, h, rfl⟩)), ih nd.2 h]
        show 0 + valO o = valO o
        omega
  intro nd
  unfold getO
  cases hd : dget kvs k with
  | none => exact hno (dget_no hd)
  | some o => exact main nd (dget_mem hd)
theorem tab_get {n : Int} (hn : 0 < n) (r : List Int) (m : Nat) (t : Int) : getO (tabT n r) [(m : Int), t] = (cntP n r (eqP m t) : Int) := by
  obtain ⟨h1, h2⟩ := tab_ok hn r
  rw [← sumE_key h1.nd, h2]
  congr 1
  refine cntP_congr fun m' t' => ?_
  unfold eqP
  show decide ([(m' : Int), t'] = [(m : Int), t]) = _
  by_cases c : m' = m ∧ t' = t
  · obtain ⟨rfl, rfl⟩ := c
    rw [decide_eq_true rfl, decide_eq_true rfl, decide_eq_true rfl]; rfl
  · rw [decide_eq_false fun z => c ⟨by injection z with z1 z2; omega, by injection z with z1 z2; injection z2⟩]
    by_cases c1 : m' = m
    · rw [decide_eq_true c1, decide_eq_false fun z => c ⟨c1, z⟩]; rfl
    · rw [decide_eq_false c1]; rfl
theorem tab_has {n : Int} (hn : 0 < n) (r : List Int) (m : Nat) (t : Int) : (dget (tabT n r) [(m : Int), t]).isSome = hasB n r m t := by
  have hg := tab_get hn r m t
  obtain ⟨h1, _⟩ := tab_ok hn r
  unfold getO at hg
  unfold hasB
  cases hd : dget (tabT n r) [(m : Int), t] with
  | none =>
    rw [hd] at hg
    dsimp only at hg
    rw [decide_eq_false (by omega)]; rfl
  | some o =>
    rw [hd] at hg
    dsimp only at hg
    obtain ⟨m', t', i, e, _, _, _, hi⟩ := h1.ent _ (dget_mem hd)
    have : o = some i := congrArg Prod.snd e
    rw [this] at hg
    have hg : i = _ := hg
    rw [decide_eq_true (by omega)]; rfl
theorem nodup_leT {α : Type} [DecidableEq α] : ∀ {a b : List α}, a.Nodup → (∀ x ∈ a, x ∈ b) → a.length ≤ b.length
  | [], _, _, _ => Nat.zero_le _
  | x :: a, b, nd, h => by
    obtain ⟨h1, h2⟩ := List.nodup_cons.mp nd
    have := nodup_leT (b := b.erase x) h2 fun y hy => (List.mem_erase_of_ne (show y ≠ x from fun e => h1 (by rw [← e]; exact hy))).mpr (h y (.tail _ hy))
    rw [List.length_erase_of_mem (h x (.head _))] at this
    have hp := List.length_pos_of_mem (h x (.head _))
    rw [List.length_cons]; omega
theorem DOk.few {n : Int} {L : Nat} {kvs : KVs} (h : DOk n L kvs) : kvs.length ≤ (L + 1) * n.toNat := by
  have := nodup_leT (b := (List.range (L + 1)).flatMap fun (m : Nat) => (rangeI n).map fun t => [(m : Int), t]) h.nd fun k hk => by
    obtain ⟨e, he, rfl⟩ := List.mem_map.mp hk
    obtain ⟨m, t, i, rfl, hm, t0, t1, _⟩ := h.ent e he
    exact List.mem_flatMap.mpr ⟨m, List.mem_range.mpr (by omega), List.mem_map.mpr ⟨t, mem_rangeI.mpr ⟨t0, t1⟩, rfl⟩⟩
  rw [List.length_map] at this
  refine Nat.le_trans this ?_
  have := length_flat (m := n.toNat) (f := fun m : Nat => (rangeI n).map fun t => [(m : Int), t]) (List.range (L + 1)) fun m _ => by rw [List.length_map, length_rangeI]; exact Nat.le_refl _
  rwa [List.length_range] at this
theorem get_set {G : GS} {k : Nat} {m m' : MO} (h : G[k]? = some m) : (G.set k m')[k]? = some m' := List.getElem?_set_self (List.getElem?_eq_some_iff.mp h).1
structure Told (n : Int) (row : List Int) (ts : List D) (G : GS) : Prop where
  len : ts.length = row.length + 1
  at_ : ∀ i, i ≤ row.length → ∃ k : Nat, ts[i]? = some (.obj k) ∧ G[k]? = some (.dic (tabT n (row.drop i)))
theorem Told.more {n : Int} {row : List Int} {ts : List D} {G : GS} (h : Told n row ts G) (L : GS) : Told n row ts (G ++ L) :=
  ⟨h.len, fun i hi => let ⟨k, a, b⟩ := h.at_ i hi; ⟨k, a, get_old b⟩⟩
theorem set_same {G : GS} {k : Nat} {m : MO} (h : G[k]? = some m) : G.set k m = G := by
  obtain ⟨hk, e⟩ := List.getElem?_eq_some_iff.mp h
  rw [← e]; exact List.set_getElem_self hk
theorem lock_back {G : GS} {k : Nat} {a b c d : MO} (h : G[k]? = some d) : (((G ++ [a]).set k b).set G.length c).set k d = G ++ [c] := by
  have hk := (List.getElem?_eq_some_iff.mp h).1
  rw [List.set_append_left _ _ hk, List.set_append_right _ _ (by rw [List.length_set]; exact Nat.le_refl _), List.length_set, Nat.sub_self]
  show (G.set k b ++ [c]).set k d = _
  rw [List.set_append_left _ _ (by rw [List.length_set]; exact hk), List.set_set, set_same h]
theorem put_key {n : Int} {L : Nat} {D : EndsD} {G : GS} {k0 kn : Nat} {u : Obj} {kvs acc : KVs} {m t i : Int} {key : List Int} {s0 s1 s2 s3 : Option Y.D}
    (hn : G[kn]? = some (.dic acc)) (h0 : G[k0]? = some (.dil u kvs)) (hd : dget kvs [m, t] = some (some i)) (ok : DOk n L acc) (hl : (L + 1) * n.toNat < 16777216)
    (q : D.nx [s0, s1, s2, s3, some (.obj k0), some (.obj kn), some (.int m), some (.int t), some (.key key)] (G.set kn (.dic (addE acc key i)))) :
    tPutKD (tVarD 5) (kVarD 8) (tOpD rAddD (tGet2D (tVarD 5) (kVarD 8) (tCD (.int 0))) (tGetLD (tVarD 4) (kDspD (tConsD (tVarD 6) (tConsD (tVarD 7) tNilD))))) D
      [s0, s1, s2, s3, some (.obj k0), some (.obj kn), some (.int m), some (.int t), some (.key key)] G := by
  have few := ok.few
  have fin : ∀ j : Int, getO acc key = j → (fun (x : Y.D) G1 => tGetLD (tVarD 4) (kDspD (tConsD (tVarD 6) (tConsD (tVarD 7) tNilD))) [s0, s1, s2, s3, some (.obj k0), some (.obj kn), some (.int m), some (.int t), some (.key key)] G1 (fun y G2 => rAddD x y G2 (fun d G3 => (tVarD 5) [s0, s1, s2, s3, some (.obj k0), some (.obj kn), some (.int m), some (.int t), some (.key key)] G3 (fun y G4 => kVarD 8 [s0, s1, s2, s3, some (.obj k0), some (.obj kn), some (.int m), some (.int t), some (.key key)] G4 (fun ns G5 => ∃ k kvs o, y = .obj k ∧ G5[k]? = some (.dic kvs) ∧ dO d = some o ∧ kvs.length < 16777216 ∧ D.nx [s0, s1, s2, s3, some (.obj k0), some (.obj kn), some (.int m), some (.int t), some (.key key)] (G5.set k (.dic (dput kvs ns o)))) (fun e G5 => D.er e [s0, s1, s2, s3, some (.obj k0), some (.obj kn), some (.int m), some (.int t), some (.key key)] G5)) (fun e G4 => D.er e [s0, s1, s2, s3, some (.obj k0), some (.obj kn), some (.int m), some (.int t), some (.key key)] G4))) (fun e G1 => D.er e [s0, s1, s2, s3, some (.obj k0), some (.obj kn), some (.int m), some (.int t), some (.key key)] G1)) (.int j) G := fun j hj => by
    refine ⟨[m, t], rfl, (show 2 ≤ 16777216 by decide), k0, kvs, i, rfl, .inr ⟨u, h0⟩, hd, ?_⟩
    refine ⟨kn, acc, some (j + i), rfl, hn, rfl, by omega, ?_⟩
    have e : dput acc key (some (j + i)) = addE acc key i := by unfold addE; rw [hj]
    rw [e]; exact q
  refine ⟨⟨kn, acc, rfl, .inl hn⟩, kn, acc, rfl, .inl hn, ?_⟩
  cases hk : dget acc key with
  | none => exact fin 0 (by unfold getO; rw [hk])
  | some o =>
    obtain ⟨m', t', v, e, _⟩ := ok.ent _ (dget_mem hk)
    have ho : o = some v := congrArg Prod.snd e
    subst ho
    exact fin v (by unfold getO; rw [hk]; rfl)
def sp_tables : SpD := fun ds G Q E => ∃ (n : Int) (row : List Int), ds = [.int n, tupI row] ∧ 0 < n ∧ n ≤ 20 ∧ row.length ≤ 40 ∧ ∀ ts L, Told n row ts (G ++ L) → Q (.lst ts) (G ++ L)
theorem len_tables : ∀ ds G Q E, sp_tables ds G Q E → ds.length = p_tables.length := by rintro _ _ _ _ ⟨d, e, rfl, _⟩; rfl
set_option maxHeartbeats 4000000 in
theorem sem_tables : ∀ ds G Q E, sp_tables ds G Q E → t_tables (endsG Q E) (startD n_tables.length ds) G := by
  rintro _ G0 Q E ⟨n, row, rfl, hn, hn2, hl, q⟩
  refine ⟨(show 1 ≤ 16777216 by decide), ?_⟩
  show tSeqD (tForD (iAnyD (tRevTD (tVarD 1))) _ _) _ _ [some (.int n), some (tupI row), some (.lst [.obj G0.length]), none, none, none, none, none, none] (G0 ++ [MO.dic [([0, 0], some 1)]])
  show forL _ _ _ (row.map Y.D.int).reverse _ _
  rw [← List.map_reverse]
  refine for_pre (e := Y.D.int) (fun pre ρ G' => ∃ L ts x3 x4 x5 x6 x7 x8, G' = G0 ++ L ∧ Told n pre.reverse ts G' ∧ ρ = [some (.int n), some (tupI row), some (.lst ts), x3, x4, x5, x6, x7, x8]) row.reverse
    ⟨[MO.dic [([0, 0], some 1)]], [.obj G0.length], none, none, none, none, none, none, rfl, ⟨rfl, fun i hi => ?_⟩, rfl⟩ ?_ ?_
  · have : i = 0 := Nat.le_zero.mp hi
    subst this
    exact ⟨G0.length, rfl, (getLast_set (m' := .dead)).1⟩
  · rintro pre x post el _ G ⟨L, ts, x3, x4, x5, x6, x7, x8, eG, hT, rfl⟩ D' r1 r2 r3 nx ct
    have hpre : pre.length + 1 ≤ 40 := by
      have := congrArg List.length el
      rw [List.length_reverse, List.length_append, List.length_cons] at this
      omega
    obtain ⟨k0, t0, g0⟩ := hT.at_ 0 (Nat.zero_le _)
    rw [List.drop_zero] at g0
    obtain ⟨ok, _⟩ := tab_ok hn pre.reverse
    rw [List.length_reverse] at ok
    have hk0 := (List.getElem?_eq_some_iff.mp g0).1
    dsimp only [gNameD, List.set_cons_succ, List.set_cons_zero]
    show (match atI ts ((0 : Nat) : Int) with | some d => _ | none => False)
    rw [atI_nat', t0]
    show tSeqD (tLockD 4 _) _ D' [some (.int n), some (tupI row), some (.lst ts), some (.int x), some (.obj k0), some (.obj G.length), x6, x7, x8] (G ++ [.dic []])
    refine ⟨k0, tabT n pre.reverse, rfl, get_old g0, fun u => ?_⟩
    have h0 : ((G ++ [MO.dic []]).set k0 (.dil u (tabT n pre.reverse)))[k0]? = some (.dil u (tabT n pre.reverse)) := get_set (get_old g0)
    have hkn : ((G ++ [MO.dic []]).set k0 (.dil u (tabT n pre.reverse)))[G.length]? = some (.dic []) := by
      rw [List.getElem?_set_ne (by omega)]; exact (getLast_set (m' := .dead)).1
    refine ⟨k0, u, tabT n pre.reverse, rfl, h0, ?_⟩
    have hbig : (pre.length + 1 + 1) * n.toNat < 16777216 := by
      have : (pre.length + 1 + 1) * n.toNat ≤ 41 * 20 := Nat.mul_le_mul (by omega) (by omega)
      omega
    refine for_pre (e := fun e => Y.D.key e.1) (fun p2 ρ G' => G' = ((G ++ [MO.dic []]).set k0 (.dil u (tabT n pre.reverse))).set G.length (.dic (p2.foldl (stepK n x) [])) ∧ ∃ y6 y7 y8, ρ = [some (.int n), some (tupI row), some (.lst ts), some (.int x), some (.obj k0), some (.obj G.length), y6, y7, y8]) (tabT n pre.reverse)
      ⟨(set_same hkn).symm, x6, x7, x8, rfl⟩ ?_ ?_
    · rintro p2 e post2 el2 _ _ ⟨rfl, y6, y7, y8, rfl⟩ D2 s1 s2 s3 nx2 ct2
      have he : e ∈ tabT n pre.reverse := by rw [el2]; simp
      obtain ⟨m, t, i, rfl, hm, t1, t2, hi⟩ := ok.ent e he
      have hp2 : ∀ e ∈ p2, ∃ (m : Nat) (t i : Int), e = ([(m : Int), t], some i) ∧ m ≤ pre.length ∧ 0 ≤ t ∧ t < n ∧ 0 < i := fun e' he' => ok.ent e' (by rw [el2]; simp [he'])
      obtain ⟨oka, _⟩ := fold_ok (x := x) (L := pre.length) hn p2 [] ⟨List.nodup_nil, fun _ h => (nomatch h)⟩ hp2
      have hd : dget (tabT n pre.reverse) [(m : Int), t] = some (some i) := dget_at ok.nd he
      dsimp only [gKeyD, gTupD, gConsD, gNilD, gNameD, List.map_cons, List.map_nil, List.set_cons_succ, List.set_cons_zero]
      have hgn : ∀ acc : KVs, (((G ++ [MO.dic []]).set k0 (.dil u (tabT n pre.reverse))).set G.length (.dic acc))[G.length]? = some (.dic acc) := fun acc => get_set hkn
      have hg0 : ∀ acc : KVs, (((G ++ [MO.dic []]).set k0 (.dil u (tabT n pre.reverse))).set G.length (.dic acc))[k0]? = some (.dil u (tabT n pre.reverse)) := fun acc => by
        rw [List.getElem?_set_ne (by omega)]; exact h0
      generalize hA : p2.foldl (stepK n x) [] = A at oka
      have m0 : 0 ≤ (t + x) % n := Int.emod_nonneg _ (by omega)
      have m1 : (t + x) % n < n := Int.emod_lt_of_pos _ hn
      have oka1 := oka.add (m := m) (t := t) (c := i) (by omega) t1 t2 hi
      refine ⟨[(m : Int), t], rfl, (show 2 ≤ 16777216 by decide), hn, [(m : Int) + 1, (t + x) % n], rfl, (show 2 ≤ 16777216 by decide), (show 2 ≤ 16777216 by decide), ?_⟩
      show tPutKD (tVarD 5) (kVarD 8) _ _ [some (.int n), some (tupI row), some (.lst ts), some (.int x), some (.obj k0), some (.obj G.length), some (.int (m : Int)), some (.int t), some (.key [(m : Int), t])] _
      refine put_key (hgn A) (hg0 A) hd oka hbig ?_
      rw [List.set_set]
      dsimp only [forL, gNameD, List.set_cons_succ, List.set_cons_zero]
      refine put_key (hgn _) (hg0 _) hd oka1 hbig ?_
      rw [List.set_set]
      refine nx2 _ _ ⟨?_, _, _, _, rfl⟩
      rw [List.foldl_append, hA]; rfl
    · rintro _ _ ⟨rfl, y6, y7, y8, rfl⟩
      refine ⟨by rw [List.getElem?_set_ne (by omega)]; exact h0, ?_⟩
      rw [lock_back g0]
      have hlen := hT.len
      rw [List.length_reverse] at hlen
      refine ⟨by show (ts ++ []).length + 1 ≤ 16777216; rw [List.append_nil]; omega, ?_⟩
      rw [List.append_nil]
      refine nx _ _ ⟨L ++ [.dic (tabT n (x :: pre.reverse))], .obj G.length :: ts, _, _, _, _, _, _, by rw [eG, List.append_assoc]; rfl, ?_, rfl⟩
      rw [List.reverse_append]
      show Told n (x :: pre.reverse) _ _
      refine ⟨by rw [List.length_cons, hT.len]; rfl, fun i hi => ?_⟩
      cases i with
      | zero => exact ⟨G.length, rfl, (getLast_set (m' := .dead)).1⟩
      | succ i =>
        obtain ⟨k, a, b⟩ := hT.at_ i (by rw [List.length_cons] at hi; omega)
        exact ⟨k, a, get_old b⟩
  · rintro _ G ⟨L, ts, x3, x4, x5, x6, x7, x8, rfl, hT, rfl⟩
    rw [List.reverse_reverse] at hT
    exact q ts L hT
/-- the least places that have a sum, one by one -/
def lpN (n : Int) : List Int → Int → Nat → Int → List Int
  | [], _, _, _ => []
  | x :: r, a, need, tot => if (decide (0 < need) && hasB n r (need - 1) ((tot - x) % n)) = true then a :: lpN n r (a + 1) (need - 1) ((tot - x) % n) else lpN n r (a + 1) need tot
theorem lpN_len {n : Int} : ∀ (r : List Int) (a : Int) (need : Nat) (tot : Int), (lpN n r a need tot).length ≤ r.length
  | [], _, _, _ => Nat.le_refl _
  | x :: r, a, need, tot => by
    unfold lpN
    split
    · rw [List.length_cons, List.length_cons]; have := lpN_len r (a + 1) (need - 1) ((tot - x) % n) (n := n); omega
    · rw [List.length_cons]; have := lpN_len r (a + 1) need tot (n := n); omega
def sp_least_part : SpD := fun ds G Q E => ∃ (n : Int) (row : List Int) (ts : List D) (m : Nat), ds = [.int n, tupI row, .lst ts, .int (m : Int)] ∧ 0 < n ∧ n ≤ 20 ∧ row.length ≤ 40 ∧ m ≤ 1000 ∧ Told n row ts G ∧ Q (tupI (lpN n row 0 m 0)) G
theorem len_least_part : ∀ ds G Q E, sp_least_part ds G Q E → ds.length = p_least_part.length := by rintro _ _ _ _ ⟨n, row, ts, m, rfl, _⟩; rfl
theorem lp_loop {n : Int} {row : List Int} {ts : List D} {s3 : Option Y.D} {G : GS} {D : EndsD} (hn : 0 < n) (hl : row.length ≤ 40) (hT : Told n row ts G) : ∀ (r pre : List Int) (found : List Int) (need : Nat) (tot : Int) (x7 x8 x9 : Option Y.D), row = pre ++ r → found.length ≤ pre.length →
    (∀ f need' tot' x7 x8 x9, f = found ++ lpN n r (pre.length : Int) need tot → D.nx [some (.int n), some (tupI row), some (.lst ts), s3, some (.obj G.length), some (.int need'), some (.int tot'), x7, x8, x9] (G ++ [.lst (f.map .int)])) →
    forL (gTupD (gConsD (gNameD 7) (gConsD (gNameD 8) gNilD))) (tSeqD (tSetD 9 (tOpD rModD (tOpD rSubD (tVarD 6) (tVarD 8)) (tVarD 0))) (tIfSD (tAndD (tTestD (tOpD rGtD (tVarD 5) (tCD (.int 0)))) (tTestD (tInLD (kDspD (tConsD (tOpD rSubD (tVarD 5) (tCD (.int 1))) (tConsD (tVarD 9) tNilD))) (tOpD Y.rIxD (tVarD 2) (tOpD rAddD (tVarD 7) (tCD (.int 1))))))) (tSeqD (tDropD (tMetD rAppendD (tVarD 4) (tConsD (tVarD 7) tNilD))) (tPar2D 5 6 (tConsD (tOpD rSubD (tVarD 5) (tCD (.int 1))) (tConsD (tVarD 9) tNilD)))) tNextD))
      D (enumD pre.length (r.map .int)) [some (.int n), some (tupI row), some (.lst ts), s3, some (.obj G.length), some (.int (need : Int)), some (.int tot), x7, x8, x9] (G ++ [.lst (found.map .int)])
  | [], pre, found, need, tot, x7, x8, x9, _, _, q => q found _ _ _ _ _ (by unfold lpN; rw [List.append_nil])
  | x :: r, pre, found, need, tot, x7, x8, x9, er, hf, q => by
    have e2 : row = (pre ++ [x]) ++ r := by rw [List.append_assoc]; exact er
    have hlen : (pre ++ [x]).length = pre.length + 1 := by rw [List.length_append]; rfl
    have hrow : row.length = pre.length + (r.length + 1) := by rw [er, List.length_append, List.length_cons]
    obtain ⟨k, t1, g1⟩ := hT.at_ (pre.length + 1) (by omega)
    have edrop : row.drop (pre.length + 1) = r := by rw [e2, ← hlen]; exact List.drop_left
    rw [edrop] at g1
    have next : ∀ (found' : List Int) (need' : Nat) (tot' : Int) (y7 y8 y9 : Option Y.D), found'.length ≤ pre.length + 1 →
        found' ++ lpN n r ((pre.length : Int) + 1) need' tot' = found ++ lpN n (x :: r) (pre.length : Int) need tot →
        forL (gTupD (gConsD (gNameD 7) (gConsD (gNameD 8) gNilD))) _ D (enumD (pre.length + 1) (r.map .int)) [some (.int n), some (tupI row), some (.lst ts), s3, some (.obj G.length), some (.int (need' : Int)), some (.int tot'), y7, y8, y9] (G ++ [.lst (found'.map .int)]) := fun found' need' tot' y7 y8 y9 hf' eq => by
      have := lp_loop hn hl hT r (pre ++ [x]) found' need' tot' y7 y8 y9 e2 (by rw [hlen]; exact hf') (fun f n' t' z7 z8 z9 ef => q f n' t' z7 z8 z9 (by rw [ef, hlen, ← eq]; rfl))
      rw [hlen] at this
      exact this
    refine ⟨hn, ?_⟩
    show (if decide ((need : Int) > 0) = true then _ else _)
    by_cases c : 0 < need
    · rw [decide_eq_true (by omega), if_pos rfl]
      have ek : ((need : Int) - 1) = ((need - 1 : Nat) : Int) := by omega
      refine ⟨[(need : Int) - 1, (tot - x) % n], rfl, (show 2 ≤ 16777216 by decide), ?_⟩
      show (match atI ts ((pre.length : Int) + 1) with | some d => _ | none => False)
      have ei : ((pre.length : Int) + 1) = ((pre.length + 1 : Nat) : Int) := by omega
      rw [ei, atI_nat', t1]
      refine ⟨k, tabT n r, rfl, .inl (get_old g1), ?_⟩
      rw [ek, tab_has hn]
      cases hb : hasB n r (need - 1) ((tot - x) % n) with
      | true =>
        have hlp : lpN n (x :: r) (pre.length : Int) need tot = (pre.length : Int) :: lpN n r ((pre.length : Int) + 1) (need - 1) ((tot - x) % n) := by
          rw [lpN, hb, decide_eq_true c]; rfl
        obtain ⟨a, b⟩ := append_last (G := G) (ds := found.map .int) (d := .int (pre.length : Int)) (Q := fun _ G' => (tPar2D 5 6 (tConsD (tOpD rSubD (tVarD 5) (tCD (.int 1))) (tConsD (tVarD 9) tNilD))) { D with nx := forL (gTupD (gConsD (gNameD 7) (gConsD (gNameD 8) gNilD))) (tSeqD (tSetD 9 (tOpD rModD (tOpD rSubD (tVarD 6) (tVarD 8)) (tVarD 0))) (tIfSD (tAndD (tTestD (tOpD rGtD (tVarD 5) (tCD (.int 0)))) (tTestD (tInLD (kDspD (tConsD (tOpD rSubD (tVarD 5) (tCD (.int 1))) (tConsD (tVarD 9) tNilD))) (tOpD Y.rIxD (tVarD 2) (tOpD rAddD (tVarD 7) (tCD (.int 1))))))) (tSeqD (tDropD (tMetD rAppendD (tVarD 4) (tConsD (tVarD 7) tNilD))) (tPar2D 5 6 (tConsD (tOpD rSubD (tVarD 5) (tCD (.int 1))) (tConsD (tVarD 9) tNilD)))) tNextD)) D (enumD (pre.length + 1) (r.map .int)) } [some (.int n), some (tupI row), some (.lst ts), s3, some (.obj G.length), some (.int (need : Int)), some (.int tot), some (.int (pre.length : Int)), some (.int x), some (.int ((tot - x) % n))] G') (by rw [List.length_map]; omega) (by
          have e3 : found.map Y.D.int ++ [.int (pre.length : Int)] = (found ++ [(pre.length : Int)]).map .int := by rw [List.map_append]; rfl
          rw [e3]
          show forL _ _ _ _ [some (.int n), some (tupI row), some (.lst ts), s3, some (.obj G.length), some (.int ((need : Int) - 1)), some (.int ((tot - x) % n)), some (.int (pre.length : Int)), some (.int x), some (.int ((tot - x) % n))] _
          rw [ek]
          refine next _ _ _ _ _ _ (by rw [List.length_append]; show found.length + 1 ≤ _; omega) ?_
          rw [hlp, List.append_assoc]; rfl)
        exact ⟨a, b⟩
      | false =>
        refine next found need tot _ _ _ (by omega) ?_
        rw [lpN, hb, Bool.and_false]; rfl
    · rw [decide_eq_false (by omega)]
      refine next found need tot _ _ _ (by omega) ?_
      rw [lpN, decide_eq_false c]; rfl
theorem sem_least_part : ∀ ds G Q E, sp_least_part ds G Q E → t_least_part (endsF G Q E) (startD n_least_part.length ds) G := by
  rintro _ G Q E ⟨n, row, ts, m, rfl, hn, hn2, hl, hm, hT, q⟩
  refine ⟨(show 0 ≤ 16777216 by decide), ?_⟩
  refine lp_loop (r := row) (pre := []) (found := []) (need := m) (tot := 0) (D := { endsF G Q E with nx := tRetD (tCBD rTupleD (tConsD (tVarD 4) tNilD)) (endsF G Q E) }) hn hl hT none none none rfl (Nat.le_refl _) ?_
  intro f need' tot' x7 x8 x9 ef
  have em : (G ++ [MO.lst (f.map .int)])[G.length]? = some (.lst (f.map .int)) := (getLast_set (m' := .dead)).1
  show (match itemsD (G ++ [MO.lst (f.map .int)]) (.obj G.length) with | some xs => _ | none => _)
  rw [items_obj em]
  refine ⟨grew_one, below_tup, ?_⟩
  rw [ef]
  exact q
/-- the fewest places, the least of them -/
def zeroM (n : Int) (row : List Int) : Option Nat := ((List.range row.length).map (· + 1)).find? fun m => hasB n row m 0
def partN0 (n : Int) (row : List Int) : Option (List Int) := (zeroM n row).map fun m => lpN n row 0 m 0
def sp_zero_part : SpD := fun ds G Q E => ∃ dn dr, ds = [dn, dr] ∧ plainD dn = true ∧ plainD dr = true ∧ plains dr = true ∧
  match rowErr dn dr with | none => (∀ n row, dn = .int n → dr = tupI row → 1 ≤ n → n ≤ 20 → row.length ≤ 40 → (∀ x ∈ row, 0 ≤ x ∧ x < n) → Q (optT (partN0 n row)) G) | some e => E e G
theorem len_zero_part : ∀ ds G Q E, sp_zero_part ds G Q E → ds.length = p_zero_part.length := by rintro _ _ _ _ ⟨d, e, rfl, _⟩; rfl
theorem below_optT {k : Nat} {o : Option (List Int)} : below k (optT o) = true := by
  cases o with
  | none => rfl
  | some l => exact below_tup
theorem grew_app {G L : GS} : GrewFrom G (G ++ L) := ⟨L, rfl⟩
theorem part_loop {n : Int} {row : List Int} {ts : List D} {G L : GS} {Q : QD} {E : QE} (hn : 1 ≤ n) (hn2 : n ≤ 20) (hl : row.length ≤ 40) (hT : Told n row ts (G ++ L)) : ∀ (r : List Nat) (x3 : Option Y.D), (∀ m ∈ r, m ≤ 40) →
    Q (optT ((r.find? fun m => hasB n row m 0).map fun m => lpN n row 0 m 0)) G →
    forL (gNameD 3) (tIfSD (tTestD (tInLD (kDspD (tConsD (tVarD 3) (tConsD (tCD (.int 0)) tNilD))) (tOpD Y.rIxD (tVarD 2) (tCD (.int 0))))) (tRetD (tCallD sp_least_part (tConsD (tVarD 0) (tConsD (tVarD 1) (tConsD (tVarD 2) (tConsD (tVarD 3) tNilD)))))) tNextD)
      { endsF G Q E with nx := tRetD (tCD .non) (endsF G Q E) } (r.map natD) [some (.int n), some (tupI row), some (.lst ts), x3] (G ++ L)
  | [], x3, _, q => ⟨grew_app, rfl, q⟩
  | m :: r, x3, hm, q => by
    obtain ⟨k, t1, g1⟩ := hT.at_ 0 (Nat.zero_le _)
    rw [List.drop_zero] at g1
    refine ⟨[(m : Int), 0], rfl, (show 2 ≤ 16777216 by decide), ?_⟩
    show (match atI ts ((0 : Nat) : Int) with | some d => _ | none => False)
    rw [atI_nat', t1]
    refine ⟨k, tabT n row, rfl, .inl g1, ?_⟩
    rw [tab_has (by omega)]
    rw [List.find?_cons] at q
    cases hb : hasB n row m 0 with
    | true =>
      rw [hb] at q
      have := hm m (.head _)
      exact ⟨n, row, ts, m, rfl, by omega, hn2, hl, by omega, hT, grew_app, below_tup, q⟩
    | false =>
      rw [hb] at q
      exact part_loop hn hn2 hl hT r _ (fun m' h => hm m' (.tail _ h)) q
theorem sem_zero_part : ∀ ds G Q E, sp_zero_part ds G Q E → t_zero_part sp_check_row sp_tables sp_least_part (endsF G Q E) (startD n_zero_part.length ds) G := by
  rintro _ G Q E ⟨dn, dr, rfl, h1, h2, h3, q⟩
  refine ⟨dn, dr, rfl, h1, h2, h3, ?_⟩
  cases he : rowErr dn dr with
  | some e => rw [he] at q; exact ⟨grew0, rowErr_below he, q⟩
  | none =>
    rw [he] at q
    obtain ⟨n, row, rfl, rfl, n1, n2, hl, hr⟩ := rowErr_none he
    have q' := q n row rfl rfl n1 n2 hl hr
    refine ⟨n, row, rfl, by omega, n2, hl, fun ts L hT => ?_⟩
    have el : (((row.map Y.D.int).length : Nat) : Int) = (row.length : Int) := by rw [List.length_map]
    refine ⟨⟨by decide, by decide, ?_, ?_⟩, ?_⟩
    · show -(2 ^ 62) ≤ (((row.map Y.D.int).length : Nat) : Int) + 1; omega
    · show (((row.map Y.D.int).length : Nat) : Int) + 1 < 2 ^ 62; omega
    show forL _ _ _ (rngD 1 ((((row.map Y.D.int).length : Nat) : Int) + 1 - 1).toNat) _ _
    have er : rngD 1 ((((row.map Y.D.int).length : Nat) : Int) + 1 - 1).toNat = ((List.range row.length).map (· + 1)).map natD := by
      rw [el, show ((row.length : Int) + 1 - 1).toNat = row.length by omega]
      unfold rngD
      rw [List.map_map]
      refine List.map_congr_left fun i _ => ?_
      show Y.D.int (1 + (i : Int)) = Y.D.int ((i + 1 : Nat) : Int)
      congr 1; omega
    rw [er]
    refine part_loop n1 n2 hl hT _ none (fun m hm => ?_) q'
    obtain ⟨i, hi, rfl⟩ := List.mem_map.mp hm
    have := List.mem_range.mp hi
    omega
def manyN0 (n : Int) (row : List Int) : Option (List Int) := if hasB n row n.toNat 0 = true then some (lpN n row 0 n.toNat 0) else none
def sp_zero_many : SpD := fun ds G Q E => ∃ dn dr, ds = [dn, dr] ∧ plainD dn = true ∧ plainD dr = true ∧ plains dr = true ∧
  match rowErr dn dr with | none => (∀ n row, dn = .int n → dr = tupI row → 1 ≤ n → n ≤ 20 → row.length ≤ 40 → (∀ x ∈ row, 0 ≤ x ∧ x < n) → Q (optT (manyN0 n row)) G) | some e => E e G
theorem len_zero_many : ∀ ds G Q E, sp_zero_many ds G Q E → ds.length = p_zero_many.length := by rintro _ _ _ _ ⟨d, e, rfl, _⟩; rfl
theorem sem_zero_many : ∀ ds G Q E, sp_zero_many ds G Q E → t_zero_many sp_check_row sp_tables sp_least_part (endsF G Q E) (startD n_zero_many.length ds) G := by
  rintro _ G Q E ⟨dn, dr, rfl, h1, h2, h3, q⟩
  refine ⟨dn, dr, rfl, h1, h2, h3, ?_⟩
  cases he : rowErr dn dr with
  | some e => rw [he] at q; exact ⟨grew0, rowErr_below he, q⟩
  | none =>
    rw [he] at q
    obtain ⟨n, row, rfl, rfl, n1, n2, hl, hr⟩ := rowErr_none he
    have q' := q n row rfl rfl n1 n2 hl hr
    refine ⟨n, row, rfl, by omega, n2, hl, fun ts L hT => ?_⟩
    obtain ⟨N, rfl⟩ : ∃ N : Nat, n = (N : Int) := ⟨n.toNat, by omega⟩
    unfold manyN0 at q'
    rw [Int.toNat_natCast] at q'
    obtain ⟨k, t1, g1⟩ := hT.at_ 0 (Nat.zero_le _)
    rw [List.drop_zero] at g1
    refine ⟨[(N : Int), 0], rfl, (show 2 ≤ 16777216 by decide), ?_⟩
    show (match atI ts ((0 : Nat) : Int) with | some d => _ | none => False)
    rw [atI_nat', t1]
    refine ⟨k, tabT (N : Int) row, rfl, .inl g1, ?_⟩
    rw [tab_has (by omega)]
    cases hb : hasB (N : Int) row N 0 with
    | true =>
      rw [hb, if_pos rfl] at q'
      exact ⟨(N : Int), row, ts, N, rfl, by omega, n2, hl, by omega, hT, grew_app, below_tup, q'⟩
    | false =>
      rw [hb, if_neg (by decide)] at q'
      exact ⟨grew_app, rfl, q'⟩
def sp_count_zero : SpD := fun ds G Q E => ∃ dn dr, ds = [dn, dr] ∧ plainD dn = true ∧ plainD dr = true ∧ plains dr = true ∧
  match rowErr dn dr with | none => (∀ n row, dn = .int n → dr = tupI row → 1 ≤ n → n ≤ 20 → row.length ≤ 40 → (∀ x ∈ row, 0 ≤ x ∧ x < n) → Q (.int (cntP n row (fun _ t => decide (t = 0)) : Int)) G) | some e => E e G
theorem len_count_zero : ∀ ds G Q E, sp_count_zero ds G Q E → ds.length = p_count_zero.length := by rintro _ _ _ _ ⟨d, e, rfl, _⟩; rfl
def secB (k : List Int) : Bool := match k with
  | [_, t] => decide (t = 0)
  | _ => false
theorem sum_filter {P : List Int → Bool} : ∀ kvs : KVs, ((kvs.filter fun e => P e.1).map fun e => valO e.2).sum = sumE P kvs
  | [] => rfl
  | e :: r => by
    have ih := sum_filter (P := P) r
    show _ = (if P e.1 = true then valO e.2 else 0) + sumE P r
    rw [List.filter_cons]
    by_cases c : P e.1 = true
    · rw [if_pos c, if_pos c, List.map_cons, List.sum_cons, ih]
    · rw [if_neg c, if_neg c, ih]; omega
theorem sem_count_zero : ∀ ds G Q E, sp_count_zero ds G Q E → t_count_zero sp_check_row sp_tables (endsF G Q E) (startD n_count_zero.length ds) G := by
  rintro _ G Q E ⟨dn, dr, rfl, h1, h2, h3, q⟩
  refine ⟨dn, dr, rfl, h1, h2, h3, ?_⟩
  cases he : rowErr dn dr with
  | some e => rw [he] at q; exact ⟨grew0, rowErr_below he, q⟩
  | none =>
    rw [he] at q
    obtain ⟨n, row, rfl, rfl, n1, n2, hl, hr⟩ := rowErr_none he
    have q' := q n row rfl rfl n1 n2 hl hr
    refine ⟨n, row, rfl, by omega, n2, hl, fun ts L hT => ?_⟩
    obtain ⟨k, t1, g1⟩ := hT.at_ 0 (Nat.zero_le _)
    rw [List.drop_zero] at g1
    obtain ⟨ok, sm⟩ := tab_ok (n := n) (by omega) row
    have few := ok.few
    have hbig : (row.length + 1) * n.toNat ≤ 41 * 20 := Nat.mul_le_mul (by omega) (by omega)
    show (match atI ts ((0 : Nat) : Int) with | some d => _ | none => False)
    rw [atI_nat', t1]
    refine ⟨k, tabT n row, rfl, g1, fun u => ?_⟩
    have hk : ((G ++ L).set k (.dil u (tabT n row)))[k]? = some (.dil u (tabT n row)) := get_set g1
    refine ⟨k, u, tabT n row, rfl, hk, by rw [List.length_map]; omega, ?_⟩
    refine lc_gen (e := fun e => Y.D.key e.1) (f := fun e => Y.D.int (valO e.2)) (p := fun e => secB e.1) (tabT n row) [] (fun e hx K J hK => ?_) ?_
    · obtain ⟨m, t, i, rfl, _, _, _, _⟩ := ok.ent e hx
      have hd : dget (tabT n row) [(m : Int), t] = some (some i) := dget_at ok.nd hx
      refine ⟨rfl, rfl, ?_⟩
      show (if eqD (.int t) (.int 0) = true then _ else _)
      rw [eqD_int]
      have hK : (if decide (t = 0) = true then K (.int i) _ else J _) := hK
      by_cases c : t = 0
      · rw [decide_eq_true c, if_pos rfl] at hK
        rw [decide_eq_true c, if_pos rfl]
        exact ⟨k, tabT n row, i, rfl, .inr ⟨u, hk⟩, hd, hK⟩
      · rw [decide_eq_false c, if_neg (by decide)] at hK
        rw [decide_eq_false c, if_neg (by decide)]
        exact hK
    rw [List.nil_append]
    have e1 : ((tabT n row).filter fun e => secB e.1).map (fun e => Y.D.int (valO e.2)) = (((tabT n row).filter fun e => secB e.1).map fun e => valO e.2).map .int := by rw [List.map_map]; rfl
    rw [e1]
    refine ⟨hk, ?_⟩
    rw [List.set_set, set_same g1]
    show (match intsD ((((tabT n row).filter fun e => secB e.1).map fun e => valO e.2).map .int) with | some ns => (endsF G Q E).rt (.int ns.sum) (G ++ L) | none => False)
    rw [intsD_map]
    show (endsF G Q E).rt (.int (((tabT n row).filter fun e => secB e.1).map fun e => valO e.2).sum) (G ++ L)
    rw [sum_filter, sm]
    exact ⟨grew_app, rfl, q'⟩
def sp__law_random : SpD := fun ds G Q E => ∃ (ns : List Int) (salt : Int), ds = [.scr ns, .int salt] ∧ ns.length ≤ 63 ∧ 0 ≤ salt ∧ salt < 2147483647 ∧ Q (.obj G.length) (G ++ [.rnd])
theorem len__law_random : ∀ ds G Q E, sp__law_random ds G Q E → ds.length = p__law_random.length := by rintro _ _ _ _ ⟨d, e, rfl, _⟩; rfl
theorem sem__law_random : ∀ ds G Q E, sp__law_random ds G Q E → t__law_random (endsG Q E) (startD n__law_random.length ds) G := by
  rintro _ G Q E ⟨ns, salt, rfl, hl, h1, h2, q⟩
  refine random_loop (ns := ns) (a := .int salt) (fun s s1 s2 c => ?_) ns salt none h1 h2
  refine ⟨(show 2 ≤ 16777216 by decide), by rw [List.length_map]; omega, ?_⟩
  refine random_comp (ρ := []) (ns := ns) ns [] (fun r hr => ?_)
  have hr' : r.length ≤ 63 := by simp at hr; omega
  refine ⟨by simp; omega, ?_⟩
  have eg := getLast_set (G := G) (m := MO.lst ([.int s, .int 0] ++ r.map .int)) (m' := .rnd)
  show (match (G ++ [MO.lst ([.int s, .int 0] ++ r.map .int)])[G.length]? with | some (.lst ds) => _ | _ => False)
  rw [eg.1]
  refine ⟨⟨s :: 0 :: r, ?_, s, 0, r, rfl, s1, s2, by omega⟩, ?_⟩
  · exact intsD_map (s :: 0 :: r)
  · show Q _ ((G ++ [MO.lst ([.int s, .int 0] ++ r.map .int)]).set G.length .rnd)
    rw [eg.2]
    exact q
def sp_below_lst : SpD := fun ds G Q E => ∃ (k : Nat) (n a b : Int) (r : List Int), ds = [.obj k, .int n] ∧ 0 < n ∧ n < 1073741824 ∧ G[k]? = some (.lst ((a :: b :: r).map .int)) ∧ 0 ≤ a ∧ a < 2147483647 ∧ r.length ≤ 98 ∧
  ∀ (m a' b' : Int) (r' : List Int), 0 ≤ m → m < n → 0 ≤ a' → a' < 2147483647 → r'.length ≤ 98 → Q (.int m) (G.set k (.lst ((a' :: b' :: r').map .int)))
theorem len_below_lst : ∀ ds G Q E, sp_below_lst ds G Q E → ds.length = p__law_below.length := by rintro _ _ _ _ ⟨k, n, a, b, r, rfl, _⟩; rfl
theorem sem_below_lst : ∀ ds G Q E, sp_below_lst ds G Q E → t__law_below (endsG Q E) (startD n__law_below.length ds) G := by
  rintro _ G Q E ⟨k, n, a, b, r, rfl, hn, hn2, hG, ha, ha2, hr, q⟩
  have hk : k < G.length := (List.getElem?_eq_some_iff.mp hG).1
  have hG' : G[k]? = some (.lst (.int a :: .int b :: r.map .int)) := hG
  have p1 := below_part (E := E) hn hn2 hG ha ha2 hr q
  unfold t__law_below
  rw [tSeqD]
  by_cases c : b = 0
  · cases r with
    | nil =>
      subst c
      simp only [tIfSD, tAndD, tTestD, tOpD, tVarD, tCD, tCBD, tConsD, tNilD, Y.rIxD, rLenD, itemsD, rGtD, rInt0D, Y.rEqD, startD, List.map_cons, List.map_nil, List.length_cons, List.length_nil, List.replicate, List.cons_append, List.nil_append, List.getElem?_cons_zero, List.getElem?_cons_succ, hG', at_1, vw, eqD_int]
      exact ⟨rfl, rfl, p1⟩
    | cons b2 r2 =>
      subst c
      simp only [tIfSD, tAndD, tTestD, tOpD, tVarD, tCD, tCBD, tConsD, tNilD, Y.rIxD, rLenD, itemsD, rGtD, rInt0D, Y.rEqD, startD, List.map_cons, List.map_nil, List.length_cons, List.length_nil, List.replicate, List.cons_append, List.nil_append, List.getElem?_cons_zero, List.getElem?_cons_succ, hG', at_1, vw, eqD_int]
      refine ⟨rfl, rfl, ?_⟩
      rw [if_pos (decide_eq_true trivial), if_pos (decide_eq_true (by omega))]
      have h2 : (G.set k (.lst (.int a :: .int 0 :: r2.map .int)))[k]? = some (.lst (.int a :: .int 0 :: r2.map .int)) := List.getElem?_set_self hk
      refine ⟨⟨k, _, rfl, hG'⟩, ?_⟩
      simp only [tConsD, tNilD, rPopAtD, hG', tVarD, gSubD, tCD, setIxD, List.getElem?_cons_zero, List.getElem?_cons_succ]
      refine ⟨by decide, by simp at hr ⊢; omega, ?_⟩
      show (match (G.set k (.lst (.int a :: .int 0 :: r2.map .int)))[k]? with | some (.lst ds) => _ | _ => False)
      rw [h2]
      simp only [List.length_cons, ix_1l, List.set_cons_succ, List.set_cons_zero, List.set_set]
      refine below_part (a := a) (b := b2) (r := r2) hn hn2 (List.getElem?_set_self hk) ha ha2 (by simp at hr; omega) (fun m a' b' r' m1 m2 m3 m4 m5 => ?_)
      rw [List.set_set]
      exact q m a' b' r' m1 m2 m3 m4 m5
  · simp only [tIfSD, tAndD, tTestD, tOpD, tVarD, tCD, tCBD, tConsD, tNilD, Y.rIxD, rLenD, itemsD, rGtD, rInt0D, Y.rEqD, startD, List.map_cons, List.map_nil, List.length_cons, List.length_nil, List.replicate, List.cons_append, List.nil_append, List.getElem?_cons_zero, List.getElem?_cons_succ, hG', at_1, vw, eqD_int]
    refine ⟨rfl, rfl, ?_⟩
    rw [decide_eq_false c, if_neg (by decide)]
    exact p1
def sp__law_below : SpD := fun ds G Q E => ∃ (k : Nat) (n : Int), ds = [.obj k, .int n] ∧ G[k]? = some .rnd ∧ 0 < n ∧ n < 1073741824 ∧ ∀ m : Int, 0 ≤ m → m < n → Q (.int m) G
theorem below_imp {K : PySem.W.Frag} {mg : Str → Option Value} : ∀ vs H Q E, liftSp K mg sp__law_below vs H Q E → liftSp K mg sp_below_lst vs H Q E := by
  rintro vs H Q E ⟨ds, η, G, Qd, Ed, r, w, ⟨k, n, rfl, hG, hn, hn2, q⟩, hq, hE⟩
  have hk : k < G.length := (List.getElem?_eq_some_iff.mp hG).1
  obtain ⟨ns, ⟨a, b, t, rfl, h1, h2, h3⟩, w'⟩ := w.ofRnd hG
  refine ⟨[.obj k, .int n], η, G.set k (.lst ((a :: b :: t).map .int)), (fun d G' => ∃ m a' b' r', d = .int m ∧ 0 ≤ m ∧ m < n ∧ 0 ≤ a' ∧ a' < 2147483647 ∧ r'.length ≤ 98 ∧ G' = G.set k (.lst ((a' :: b' :: r').map .int))), (fun _ _ => False), r, w', ?_, ?_, le_none⟩
  · refine ⟨k, n, a, b, t, rfl, hn, hn2, by rw [List.getElem?_set_self hk], h1, h2, h3, fun m a' b' r' m1 m2 m3 m4 m5 => ⟨m, a', b', r', rfl, m1, m2, m3, m4, m5, by rw [List.set_set]⟩⟩
  · rintro d G' v η' H' s' w2 r' ⟨m, a', b', t', rfl, m1, m2, m3, m4, m5, rfl⟩
    have e : (G.set k (.lst ((a' :: b' :: t').map .int))).set k .rnd = G := by
      rw [List.set_set]
      obtain ⟨h, e⟩ := List.getElem?_eq_some_iff.mp hG
      rw [← e, List.set_getElem_self]
    have w3 := w2.toRnd (k := k) (ns := a' :: b' :: t') (by rw [List.getElem?_set_self hk]) ⟨a', b', t', rfl, m3, m4, m5⟩
    rw [e] at w3
    exact hq (.int m) G v η' H' s' w3 r' (q m m1 m2)
def sp__law_pick : SpD := fun ds G Q E => ∃ (k : Nat) (xs : List D), ds = [.obj k, .lst xs] ∧ G[k]? = some .rnd ∧ 0 < xs.length ∧ xs.length < 1073741824 ∧ belowL G.length xs = true ∧ ∀ d ∈ xs, Q d G
theorem len__law_pick : ∀ ds G Q E, sp__law_pick ds G Q E → ds.length = p__law_pick.length := by rintro _ _ _ _ ⟨d, e, rfl, _⟩; rfl
theorem sem__law_pick : ∀ ds G Q E, sp__law_pick ds G Q E → t__law_pick sp__law_below (endsF G Q E) (startD n__law_pick.length ds) G := by
  rintro _ G Q E ⟨k, xs, rfl, hG, h1, h2, hb, q⟩
  refine ⟨k, xs.length, rfl, hG, by omega, by omega, fun m m1 m2 => ?_⟩
  obtain ⟨j, rfl⟩ : ∃ j : Nat, m = (j : Int) := ⟨m.toNat, by omega⟩
  have hj : j < xs.length := by omega
  show (match atI xs (j : Int) with | some d => _ | none => False)
  rw [atI_nat', List.getElem?_eq_getElem hj]
  exact ⟨grew0, belowL_mem hb _ (List.getElem_mem hj), q _ (List.getElem_mem hj)⟩
def sp_eq (k : Nat) : SpD := fun ds G Q E => ∃ d, ds = [d, d] ∧ dep k d = true ∧ Q (.bl true) G
theorem len_eq (k : Nat) : ∀ ds G Q E, sp_eq k ds G Q E → ds.length = p__law_equal.length := by rintro _ _ _ _ ⟨d, rfl, _⟩; rfl
theorem equal_flat {sp : SpD} {d : D} {G : GS} {Q : QD} {E : QE} (h : flatE d = true) (q : Q (.bl true) G) : t__law_equal sp (endsF G Q E) (startD n__law_equal.length [d, d]) G := by
  cases d with
  | non => exact ⟨grew0, rfl, q⟩
  | bl b =>
    refine ⟨rfl, rfl, ?_⟩
    rw [show eqD (vw G (.bl b)) (vw G (.bl b)) = true from eqD_bl]
    exact ⟨grew0, rfl, q⟩
  | int i =>
    refine ⟨rfl, rfl, ?_⟩
    rw [show eqD (vw G (.int i)) (vw G (.int i)) = true by show eqD (.int i) (.int i) = true; rw [eqD_int]; exact decide_eq_true rfl]
    exact ⟨grew0, rfl, q⟩
  | str s =>
    refine ⟨(Bool.and_eq_true_iff.mp h).2, (Bool.and_eq_true_iff.mp h).2, ?_⟩
    rw [show eqD (vw G (.str s)) (vw G (.str s)) = true from eqD_str]
    exact ⟨grew0, rfl, q⟩
  | _ => cases h
/-- the comprehension of _law_equal -/
theorem equal_comp {k : Nat} {d : D} {xs : List D} {G : GS} {Q : List D → GS → Prop} {ρ1 : Rho} (hi : itemsD G d = some xs) (hd : ∀ x ∈ xs, dep k x = true) (q : Q ((List.replicate xs.length true).map .bl) G) :
    ∀ (m i : Nat), i + m = xs.length → lcL (gNameD 2) tYesD (tCallD (sp_eq k) (tConsD (tOpD Y.rIxD (tVarD 0) (tVarD 2)) (tConsD (tOpD Y.rIxD (tVarD 1) (tVarD 2)) tNilD)))
      ((List.range' i m).map fun (j : Nat) => D.int (0 + (j : Int))) ((List.replicate i true).map .bl) [some d, some d, none, none] G Q
  | 0, i, e => by
    have : i = xs.length := by omega
    subst this
    exact q
  | m + 1, i, e => by
    have hx : xs[i]? = some (xs[i]'(by omega)) := List.getElem?_eq_getElem (by omega)
    have ea : atI xs (0 + (i : Int)) = some (xs[i]'(by omega)) := by rw [Int.zero_add, atI_nat']; exact hx
    rw [List.range'_succ, List.map_cons]
    simp only [lcL, tSeqD, tDropD, tRetD, tIfSD, tForD, tSetD, tAsgD, tPar2D, tPar3D, tAugD, tWhileD, tNextD, tBreakD, tContD, tRaise0D, tRaise1D, tTestD, tAndD, tOrD, tNotD, tAndVD, tOrVD, tNotVD, tIfED, tOpD, tChainD, tCBD, tCallD, tConsD, tNilD, tStarD, tTupD, tLstD, tLstOD, tVarD, tCD, tNegD, tYesD, tFrzD, tRndD, tMetD, tMet0D, tSlD, tPartD, tNoPartD, tLcD, tLcOD, tLc2D, tIsiD, rGtD, rGeD, rLtD, rLeD, rSubD, rModD, rMulD, rDivD, rPowD, rInt0D, rIntD, rAddD, rAddOD, rIsD, rIsNotD, Y.rIxD, rSlD, rLenD, rAbsD, rIntCD, rStrD, rListD, rTupleD, rSumD, rMaxD, rMinID, rAllD, rAnyD, rSortedD, rAppendD, rPopD, rPopAtD, rReverseD, setIxD, frzD, gTupD, gConsD, gNameD, gNilD, gSubD, iAnyD, iEnumD, iRng1D, iRng2D, isNonD, wipeD, Y.rEqD, Y.rNeD, Y.rInD, Y.rNotInD, List.getElem?_cons_zero, List.getElem?_cons_succ, List.set_cons_zero, List.set_cons_succ, startD, List.map_cons, List.map_nil, List.length_cons, List.length_nil, List.replicate, List.cons_append, List.nil_append, hi, ea]
    refine ⟨_, rfl, hd _ (List.getElem_mem _), ?_⟩
    have ih := equal_comp (ρ1 := ρ1) hi hd q m (i + 1) (by omega)
    have er : (List.replicate (i + 1) true).map D.bl = (List.replicate i true).map D.bl ++ [D.bl true] := by
      rw [List.replicate_succ', List.map_append]; rfl
    rw [er] at ih
    exact ih
theorem equal_items {k : Nat} {d : D} {xs : List D} {G : GS} {Q : QD} {E : QE} (hi : itemsD G d = some xs) (hz : xs.length ≤ 1000000) (hd : ∀ x ∈ xs, dep k x = true) (q : Q (.bl true) G) :
    (tRetD (tCBD rAllD (tConsD (tLcD (iRng1D (tConsD (tCBD rLenD (tConsD (tVarD 1) tNilD)) tNilD)) (gNameD 2) tYesD (tCallD (sp_eq k) (tConsD (tOpD Y.rIxD (tVarD 0) (tVarD 2)) (tConsD (tOpD Y.rIxD (tVarD 1) (tVarD 2)) tNilD))) [2]) tNilD)))
      (endsF G Q E) [some d, some d, none, none] G := by
  simp only [tRetD, tCBD, tConsD, tNilD, tLcD, iRng1D, rLenD, tVarD, List.getElem?_cons_succ, List.getElem?_cons_zero, hi]
  refine ⟨⟨by omega, by omega⟩, ?_, ?_⟩
  · unfold rngD; rw [List.length_map, List.length_range]; omega
  · have e : rngD 0 ((xs.length : Int)).toNat = (List.range' 0 xs.length).map fun (j : Nat) => D.int (0 + (j : Int)) := by
      unfold rngD; rw [Int.toNat_natCast, List.range_eq_range']
    rw [e]
    refine equal_comp (ρ1 := []) hi hd ?_ xs.length 0 (by omega)
    show (match blsD ((List.replicate xs.length true).map .bl) with | some ns => _ | none => False)
    rw [blsD_map]
    show (endsF G Q E).rt (.bl ((List.replicate xs.length true).all id)) G
    rw [show (List.replicate xs.length true).all id = true by rw [List.all_eq_true]; intro x hx; rw [List.eq_of_mem_replicate hx]; rfl]
    exact ⟨grew0, rfl, q⟩
theorem sem_eq0 {sp : SpD} : ∀ ds G Q E, sp_eq 0 ds G Q E → t__law_equal sp (endsF G Q E) (startD n__law_equal.length ds) G := by
  rintro _ G Q E ⟨d, rfl, hd, q⟩
  exact equal_flat hd q
theorem sem_eqS (k : Nat) : ∀ ds G Q E, sp_eq (k + 1) ds G Q E → t__law_equal (sp_eq k) (endsF G Q E) (startD n__law_equal.length ds) G := by
  rintro _ G Q E ⟨d, rfl, hd, q⟩
  cases d with
  | tup xs =>
    obtain ⟨h1, h2⟩ := Bool.and_eq_true_iff.mp (show (xs.all (dep k) && decide (xs.length ≤ 1000000)) = true from hd)
    have last := equal_items (k := k) (d := .tup xs) (G := G) (Q := Q) (E := E) rfl (of_decide_eq_true h2) (List.all_eq_true.mp h1) q
    refine ⟨rfl, rfl, ?_⟩
    show (if (!eqD (.bl true) (.bl true)) = true then _ else _)
    rw [eqD_b]
    refine ⟨rfl, rfl, ?_⟩
    show (if (!eqD (.bl false) (.bl false)) = true then _ else _)
    rw [eqD_b]
    refine ⟨rfl, rfl, ?_⟩
    show (if (!eqD (.int (xs.length : Int)) (.int (xs.length : Int))) = true then _ else _)
    rw [eqD_int, decide_eq_true rfl, if_neg (by decide)]
    exact last
  | lst xs =>
    obtain ⟨h1, h2⟩ := Bool.and_eq_true_iff.mp (show (xs.all (dep k) && decide (xs.length ≤ 1000000)) = true from hd)
    have last := equal_items (k := k) (d := .lst xs) (G := G) (Q := Q) (E := E) rfl (of_decide_eq_true h2) (List.all_eq_true.mp h1) q
    refine ⟨rfl, rfl, ?_⟩
    show (if (!eqD (.bl false) (.bl false)) = true then _ else _)
    rw [eqD_b]
    refine ⟨rfl, rfl, ?_⟩
    show (if (!eqD (.bl true) (.bl true)) = true then _ else _)
    rw [eqD_b]
    refine ⟨rfl, rfl, ?_⟩
    show (if (!eqD (.int (xs.length : Int)) (.int (xs.length : Int))) = true then _ else _)
    rw [eqD_int, decide_eq_true rfl, if_neg (by decide)]
    exact last
  | non => exact equal_flat hd q
  | bl b => exact equal_flat hd q
  | int b => exact equal_flat hd q
  | str b => exact equal_flat hd q
  | _ => cases hd
def valA (row : List Int) (i : Int) : Int := row.getD i.toNat 0
def totA (row s : List Int) : Int := (s.map (valA row)).sum
structure AscA (a b : Int) (s : List Int) : Prop where
  up : s.Pairwise (· < ·)
  ge : ∀ i ∈ s, a ≤ i
  lt : ∀ i ∈ s, i < b
structure Wit (n : Int) (row : List Int) (a : Nat) (need : Nat) (tot : Int) (s : List Int) : Prop where
  asc : AscA a row.length s
  len : s.length = need
  sum : totA row s % n = tot
theorem totA_cons {row : List Int} {i : Int} {s : List Int} : totA row (i :: s) = valA row i + totA row s := by
  unfold totA; rw [List.map_cons, List.sum_cons]
theorem valA_at {row pre r : List Int} {x : Int} (e : row = pre ++ x :: r) : valA row (pre.length : Int) = x := by
  unfold valA
  rw [e, Int.toNat_natCast, List.getD_eq_getElem?_getD, List.getElem?_append_right (Nat.le_refl _), Nat.sub_self]; rfl
theorem cntP_congrB {n : Int} (hn : 0 < n) : ∀ {r : List Int} {P P' : Nat → Int → Bool}, (∀ m t, 0 ≤ t → t < n → P m t = P' m t) → cntP n r P = cntP n r P'
  | [], P, P', h => by
    show (if P 0 0 = true then 1 else 0) = (if P' 0 0 = true then 1 else 0)
    rw [h 0 0 (Int.le_refl 0) hn]
  | x :: r, P, P', h => by
    show cntP n r P + cntP n r _ = cntP n r P' + cntP n r _
    rw [cntP_congrB hn h, cntP_congrB (P := fun m t => P (m + 1) ((t + x) % n)) (P' := fun m t => P' (m + 1) ((t + x) % n)) hn fun m t _ _ => h _ _ (Int.emod_nonneg _ (by omega)) (Int.emod_lt_of_pos _ hn)]
theorem cntP_none {n : Int} : ∀ {r : List Int}, cntP n r (fun _ _ => false) = 0
  | [] => rfl
  | x :: r => by
    show cntP n r (fun _ _ => false) + cntP n r (fun _ _ => false) = 0
    rw [cntP_none]
theorem cntP_every {n : Int} : ∀ {r : List Int}, cntP n r (fun _ _ => true) = 2 ^ r.length
  | [] => rfl
  | x :: r => by
    show cntP n r (fun _ _ => true) + cntP n r (fun _ _ => true) = _
    rw [cntP_every, List.length_cons, Nat.pow_succ]; omega
theorem mod_back {n t x u : Int} (h0 : 0 ≤ u) (h1 : u < n) : (t + x) % n = u ↔ t % n = (u - x) % n := by
  constructor
  · intro h
    rw [← h, Int.sub_emod, Int.emod_emod, ← Int.sub_emod, show t + x - x = t by omega]
  · intro h
    rw [Int.add_emod, h, ← Int.add_emod, show u - x + x = u by omega]
    exact Int.emod_eq_of_lt h0 h1
theorem hasB_cons {n x : Int} {r : List Int} {need : Nat} {tot : Int} (hn : 0 < n) (h0 : 0 ≤ tot) (h1 : tot < n) :
    hasB n (x :: r) need tot = (hasB n r need tot || (decide (0 < need) && hasB n r (need - 1) ((tot - x) % n))) := by
  unfold hasB
  show decide (0 < cntP n r (eqP need tot) + cntP n r (fun m t => eqP need tot (m + 1) ((t + x) % n))) = _
  by_cases c : 0 < need
  · have e : cntP n r (fun m t => eqP need tot (m + 1) ((t + x) % n)) = cntP n r (eqP (need - 1) ((tot - x) % n)) := cntP_congrB hn fun m t t0 t1 => by
      unfold eqP
      have := mod_back (n := n) (t := t) (x := x) (u := tot) h0 h1
      rw [Int.emod_eq_of_lt t0 t1] at this
      rw [decide_eq_decide.mpr this, decide_eq_decide.mpr (show m + 1 = need ↔ m = need - 1 by omega)]
    rw [e, decide_eq_true c, Bool.true_and]
    rw [← Bool.decide_or]
    exact decide_eq_decide.mpr (by omega)
  · have e : cntP n r (fun m t => eqP need tot (m + 1) ((t + x) % n)) = 0 := by
      rw [← cntP_none (n := n) (r := r)]
      refine cntP_congr fun m t => ?_
      unfold eqP
      rw [decide_eq_false (show ¬ m + 1 = need by omega), Bool.false_and]
    rw [e, decide_eq_false c, Bool.false_and, Bool.or_false, Nat.add_zero]
theorem asc_head {a : Nat} {b : Int} {i : Int} {s : List Int} (h : AscA a b (i :: s)) : (i = (a : Int) ∧ AscA ((a + 1 : Nat) : Int) b s) ∨ AscA ((a + 1 : Nat) : Int) b (i :: s) := by
  have h1 := h.ge i (.head _)
  have h2 := List.pairwise_cons.mp h.up
  by_cases c : i = (a : Int)
  · exact .inl ⟨c, h2.2, fun j hj => by have := h2.1 j hj; omega, fun j hj => h.lt j (.tail _ hj)⟩
  · refine .inr ⟨h.up, fun j hj => ?_, h.lt⟩
    rcases List.mem_cons.mp hj with rfl | hj
    · omega
    · have := h2.1 j hj; omega
/-- a witness either takes the first place or not -/
theorem wit_split {n : Int} {row pre r : List Int} {x : Int} {need : Nat} {tot : Int} {s : List Int} (hn : 0 < n) (h0 : 0 ≤ tot) (h1 : tot < n) (e : row = pre ++ x :: r) (h : Wit n row pre.length need tot s) :
    (∃ s', s = (pre.length : Int) :: s' ∧ 0 < need ∧ Wit n row (pre.length + 1) (need - 1) ((tot - x) % n) s') ∨ Wit n row (pre.length + 1) need tot s := by
  cases s with
  | nil => exact .inr ⟨⟨.nil, fun _ z => (nomatch z), fun _ z => (nomatch z)⟩, h.len, h.sum⟩
  | cons i s =>
    rcases asc_head h.asc with ⟨hi, ha⟩ | ha
    · subst hi
      refine .inl ⟨s, rfl, ?_, ha, ?_, ?_⟩
      · have := h.len; rw [List.length_cons] at this; omega
      · have := h.len; rw [List.length_cons] at this; omega
      · have := h.sum
        rw [totA_cons, valA_at e, Int.add_comm] at this
        exact (mod_back h0 h1).mp this
    · exact .inr ⟨ha, h.len, h.sum⟩
theorem wit_cons {n : Int} {row pre r : List Int} {x : Int} {need : Nat} {tot : Int} {s : List Int} (hn : 0 < n) (h0 : 0 ≤ tot) (h1 : tot < n) (e : row = pre ++ x :: r) (hp : 0 < need) (h : Wit n row (pre.length + 1) (need - 1) ((tot - x) % n) s) :
    Wit n row pre.length need tot ((pre.length : Int) :: s) := by
  refine ⟨⟨List.pairwise_cons.mpr ⟨fun j hj => by have := h.asc.ge j hj; omega, h.asc.up⟩, fun j hj => ?_, fun j hj => ?_⟩, by rw [List.length_cons, h.len]; omega, ?_⟩
  · rcases List.mem_cons.mp hj with rfl | hj
    · exact Int.le_refl _
    · have := h.asc.ge j hj; omega
  · rcases List.mem_cons.mp hj with rfl | hj
    · rw [e, List.length_append, List.length_cons]; omega
    · exact h.asc.lt j hj
  · rw [totA_cons, valA_at e, Int.add_comm]
    refine (mod_back h0 h1).mpr ?_
    exact h.sum
theorem wit_more {n : Int} {row : List Int} {a : Nat} {need : Nat} {tot : Int} {s : List Int} (h : Wit n row (a + 1) need tot s) : Wit n row a need tot s :=
  ⟨⟨h.asc.up, fun j hj => by have := h.asc.ge j hj; omega, h.asc.lt⟩, h.len, h.sum⟩
theorem wit_has {n : Int} {row : List Int} (hn : 0 < n) : ∀ (r pre : List Int) (need : Nat) (tot : Int) (s : List Int), row = pre ++ r → 0 ≤ tot → tot < n → Wit n row pre.length need tot s → hasB n r need tot = true
  | [], pre, need, tot, s, e, h0, h1, h => by
    rw [List.append_nil] at e
    have : s = [] := by
      cases s with
      | nil => rfl
      | cons i s =>
        have a1 := h.asc.ge i (.head _)
        have a2 := h.asc.lt i (.head _)
        rw [e] at a2; omega
    subst this
    have h2 := h.len
    have h3 := h.sum
    unfold totA at h3
    rw [List.map_nil, List.sum_nil, Int.zero_emod] at h3
    subst h3
    have h2 : need = 0 := h2.symm
    subst h2
    rfl
  | x :: r, pre, need, tot, s, e, h0, h1, h => by
    have e2 : row = (pre ++ [x]) ++ r := by rw [List.append_assoc]; exact e
    have hlen : (pre ++ [x]).length = pre.length + 1 := by rw [List.length_append]; rfl
    rw [hasB_cons hn h0 h1]
    rcases wit_split hn h0 h1 e h with ⟨s', rfl, hp, hw⟩ | hw
    · rw [← hlen] at hw
      rw [wit_has hn r (pre ++ [x]) _ _ _ e2 (Int.emod_nonneg _ (by omega)) (Int.emod_lt_of_pos _ hn) hw, decide_eq_true hp, Bool.and_true, Bool.or_true]
    · rw [← hlen] at hw
      rw [wit_has hn r (pre ++ [x]) _ _ _ e2 h0 h1 hw, Bool.true_or]
theorem lp_wit {n : Int} {row : List Int} (hn : 0 < n) : ∀ (r pre : List Int) (need : Nat) (tot : Int), row = pre ++ r → 0 ≤ tot → tot < n → hasB n r need tot = true → Wit n row pre.length need tot (lpN n r (pre.length : Int) need tot)
  | [], pre, need, tot, e, h0, h1, h => by
    unfold hasB at h
    have h : 0 < (if eqP need tot 0 0 = true then 1 else 0) := of_decide_eq_true h
    have h2 : eqP need tot 0 0 = true := by
      by_cases c : eqP need tot 0 0 = true
      · exact c
      · rw [if_neg c] at h; omega
    obtain ⟨h3, h4⟩ := Bool.and_eq_true_iff.mp h2
    have h3 := of_decide_eq_true h3
    have h4 := of_decide_eq_true h4
    subst h3 h4
    exact ⟨⟨.nil, fun _ z => (nomatch z), fun _ z => (nomatch z)⟩, rfl, Int.zero_emod n⟩
  | x :: r, pre, need, tot, e, h0, h1, h => by
    have e2 : row = (pre ++ [x]) ++ r := by rw [List.append_assoc]; exact e
    have hlen : (pre ++ [x]).length = pre.length + 1 := by rw [List.length_append]; rfl
    have hc : (((pre ++ [x]).length : Nat) : Int) = (pre.length : Int) + 1 := by rw [hlen]; omega
    rw [hasB_cons hn h0 h1] at h
    unfold lpN
    by_cases c : (decide (0 < need) && hasB n r (need - 1) ((tot - x) % n)) = true
    · rw [if_pos c]
      obtain ⟨c1, c2⟩ := Bool.and_eq_true_iff.mp c
      have := lp_wit hn r (pre ++ [x]) _ _ e2 (Int.emod_nonneg _ (by omega)) (Int.emod_lt_of_pos _ hn) c2
      rw [hc, hlen] at this
      exact wit_cons hn h0 h1 e (of_decide_eq_true c1) this
    · rw [if_neg c]
      rw [eq_false_of_ne_true c, Bool.or_false] at h
      have := lp_wit hn r (pre ++ [x]) _ _ e2 h0 h1 h
      rw [hc, hlen] at this
      exact wit_more this
theorem lp_le {n : Int} {row : List Int} (hn : 0 < n) : ∀ (r pre : List Int) (need : Nat) (tot : Int) (s : List Int), row = pre ++ r → 0 ≤ tot → tot < n → Wit n row pre.length need tot s →
    s = lpN n r (pre.length : Int) need tot ∨ ltT (lpN n r (pre.length : Int) need tot) s = true
  | [], pre, need, tot, s, e, h0, h1, h => by
    rw [List.append_nil] at e
    cases s with
    | nil => exact .inl rfl
    | cons i s =>
      have a1 := h.asc.ge i (.head _)
      have a2 := h.asc.lt i (.head _)
      rw [e] at a2; omega
  | x :: r, pre, need, tot, s, e, h0, h1, h => by
    have e2 : row = (pre ++ [x]) ++ r := by rw [List.append_assoc]; exact e
    have hlen : (pre ++ [x]).length = pre.length + 1 := by rw [List.length_append]; rfl
    have hc : (((pre ++ [x]).length : Nat) : Int) = (pre.length : Int) + 1 := by rw [hlen]; omega
    unfold lpN
    by_cases c : (decide (0 < need) && hasB n r (need - 1) ((tot - x) % n)) = true
    · rw [if_pos c]
      obtain ⟨c1, c2⟩ := Bool.and_eq_true_iff.mp c
      have c1 := of_decide_eq_true c1
      rcases wit_split hn h0 h1 e h with ⟨s', rfl, hp, hw⟩ | hw
      · rw [← hlen] at hw
        have := lp_le hn r (pre ++ [x]) _ _ _ e2 (Int.emod_nonneg _ (by omega)) (Int.emod_lt_of_pos _ hn) hw
        rw [hc] at this
        rcases this with rfl | this
        · exact .inl rfl
        · refine .inr ?_
          show (decide ((pre.length : Int) < (pre.length : Int)) || (decide ((pre.length : Int) = (pre.length : Int)) && ltT _ s')) = true
          rw [this, decide_eq_true rfl, Bool.and_true, Bool.or_true]
      · cases s with
        | nil => have h2 : need = 0 := h.len.symm; omega
        | cons i s =>
          refine .inr ?_
          have := hw.asc.ge i (.head _)
          show (decide ((pre.length : Int) < i) || _) = true
          rw [decide_eq_true (by omega), Bool.true_or]
    · rw [if_neg c]
      rcases wit_split hn h0 h1 e h with ⟨s', rfl, hp, hw⟩ | hw
      · rw [← hlen] at hw
        have := wit_has hn r (pre ++ [x]) _ _ _ e2 (Int.emod_nonneg _ (by omega)) (Int.emod_lt_of_pos _ hn) hw
        rw [this, decide_eq_true hp] at c
        exact absurd rfl c
      · rw [← hlen] at hw
        have := lp_le hn r (pre ++ [x]) _ _ _ e2 h0 h1 hw
        rw [hc] at this
        exact this
theorem has_iff {n : Int} {row : List Int} (hn : 0 < n) {m : Nat} : hasB n row m 0 = true ↔ ∃ s, Wit n row 0 m 0 s :=
  ⟨fun h => ⟨_, lp_wit (row := row) hn row [] m 0 rfl (Int.le_refl 0) hn h⟩, fun ⟨s, h⟩ => wit_has (row := row) hn row [] m 0 s rfl (Int.le_refl 0) hn h⟩
def plcs (k : Nat) : List Int := (List.range k).map fun i : Nat => (i : Int)
def setsP (k : Nat) : List (List Int) := (plcs k).foldl (fun ls r => ls ++ ls.map fun l => l ++ [r]) [[]]
theorem plcs_succ {k : Nat} : plcs (k + 1) = plcs k ++ [(k : Int)] := by
  unfold plcs; rw [List.range_succ, List.map_append]; rfl
theorem setsP_succ {k : Nat} : setsP (k + 1) = setsP k ++ (setsP k).map fun l => l ++ [(k : Int)] := by
  unfold setsP; rw [plcs_succ, List.foldl_append]; rfl
theorem setsP_len : ∀ k, (setsP k).length = 2 ^ k
  | 0 => rfl
  | k + 1 => by rw [setsP_succ, List.length_append, List.length_map, setsP_len, Nat.pow_succ]; omega
theorem setsP_asc : ∀ k, ∀ s ∈ setsP k, AscA 0 (k : Int) s ∧ s.length ≤ k
  | 0, s, h => by
    rw [List.mem_singleton.mp (show s ∈ [[]] from h)]
    exact ⟨⟨.nil, fun _ z => (nomatch z), fun _ z => (nomatch z)⟩, Nat.le_refl _⟩
  | k + 1, s, h => by
    rw [setsP_succ] at h
    rcases List.mem_append.mp h with h | h
    · obtain ⟨a, b⟩ := setsP_asc k s h
      exact ⟨⟨a.up, a.ge, fun i hi => by have := a.lt i hi; omega⟩, by omega⟩
    · obtain ⟨t, ht, rfl⟩ := List.mem_map.mp h
      obtain ⟨a, b⟩ := setsP_asc k t ht
      refine ⟨⟨?_, fun i hi => ?_, fun i hi => ?_⟩, by rw [List.length_append]; show t.length + 1 ≤ _; omega⟩
      · refine List.pairwise_append.mpr ⟨a.up, List.pairwise_singleton _ _, fun i hi j hj => ?_⟩
        rw [List.mem_singleton.mp hj]; exact a.lt i hi
      · rcases List.mem_append.mp hi with hi | hi
        · exact a.ge i hi
        · rw [List.mem_singleton.mp hi]; omega
      · rcases List.mem_append.mp hi with hi | hi
        · have := a.lt i hi; omega
        · rw [List.mem_singleton.mp hi]; omega
theorem asc_sets : ∀ (k : Nat) (s : List Int), AscA 0 (k : Int) s → s ∈ setsP k
  | 0, s, h => by
    cases s with
    | nil => exact .head _
    | cons i s => have h1 := h.ge i (.head _); have h2 := h.lt i (.head _); omega
  | k + 1, s, h => by
    rw [setsP_succ]
    by_cases c : ∀ i ∈ s, i < (k : Int)
    · exact List.mem_append_left _ (asc_sets k s ⟨h.up, h.ge, c⟩)
    · rcases List.eq_nil_or_concat s with rfl | ⟨t, x, rfl⟩
      · exact absurd (fun _ z => (nomatch z)) c
      · rw [List.concat_eq_append] at h c ⊢
        obtain ⟨a1, a2, a3⟩ := List.pairwise_append.mp h.up
        have hx := h.lt x (List.mem_append_right _ (.head _))
        have hx2 : x = (k : Int) := by
          refine Classical.byContradiction fun z => c fun i hi => ?_
          rcases List.mem_append.mp hi with hi | hi
          · have := a3 i hi x (.head _); omega
          · rw [List.mem_singleton.mp hi]; omega
        subst hx2
        refine List.mem_append_right _ (List.mem_map.mpr ⟨t, asc_sets k t ⟨a1, fun i hi => h.ge i (List.mem_append_left _ hi), fun i hi => a3 i hi _ (.head _)⟩, rfl⟩)
theorem cntP_snoc {n x : Int} : ∀ {r : List Int} {P : Nat → Int → Bool}, cntP n (r ++ [x]) P = cntP n r P + cntP n r (fun m t => P (m + 1) ((t + x) % n))
  | [], P => rfl
  | y :: r, P => by
    show cntP n (r ++ [x]) P + cntP n (r ++ [x]) _ = (cntP n r P + cntP n r _) + (cntP n r _ + cntP n r _)
    have e1 := cntP_snoc (n := n) (x := x) (r := r) (P := P)
    have e2 := cntP_snoc (n := n) (x := x) (r := r) (P := fun m t => P (m + 1) ((t + y) % n))
    have e : cntP n r (fun m t => P (m + 1 + 1) (((t + x) % n + y) % n)) = cntP n r (fun m t => P (m + 1 + 1) (((t + y) % n + x) % n)) := cntP_congr fun m t => by
      rw [Int.emod_add_emod, Int.emod_add_emod, show t + x + y = t + y + x by omega]
    have e3 : cntP n r (fun m t => (fun m t => P (m + 1) ((t + x) % n)) (m + 1) ((t + y) % n)) = cntP n r (fun m t => P (m + 1 + 1) (((t + y) % n + x) % n)) := rfl
    have e4 : cntP n r (fun m t => (fun m t => P (m + 1) ((t + y) % n)) (m + 1) ((t + x) % n)) = cntP n r (fun m t => P (m + 1 + 1) (((t + x) % n + y) % n)) := rfl
    rw [e1, e2, e3, e4, e]; omega
theorem totA_snoc {row s : List Int} {i : Int} : totA row (s ++ [i]) = totA row s + valA row i := by
  unfold totA; rw [List.map_append, List.sum_append]; show _ + (_ + 0) = _; omega
theorem sets_count {n : Int} {row : List Int} (hn : 0 < n) : ∀ (k : Nat) (P : Nat → Int → Bool), k ≤ row.length → ((setsP k).filter fun s => P s.length (totA row s % n)).length = cntP n (row.take k) P
  | 0, P, _ => by
    show (([[]] : List (List Int)).filter _).length = (if P 0 0 = true then 1 else 0)
    rw [List.filter_cons]
    show (if P 0 (0 % n) = true then _ else _ : List (List Int)).length = _
    rw [Int.zero_emod]
    by_cases c : P 0 0 = true
    · rw [if_pos c, if_pos c]; rfl
    · rw [if_neg c, if_neg c]; rfl
  | k + 1, P, h => by
    have et : row.take (k + 1) = row.take k ++ [valA row (k : Int)] := by
      rw [List.take_succ, List.getElem?_eq_getElem (by omega)]
      unfold valA
      rw [Int.toNat_natCast, List.getD_eq_getElem?_getD, List.getElem?_eq_getElem (by omega)]; rfl
    rw [et, cntP_snoc, setsP_succ, List.filter_append, List.length_append, sets_count hn k P (by omega), List.filter_map, List.length_map]
    congr 1
    rw [← sets_count hn k (fun m t => P (m + 1) ((t + valA row (k : Int)) % n)) (by omega)]
    congr 1
    refine List.filter_congr fun s _ => ?_
    show P (s ++ [(k : Int)]).length (totA row (s ++ [(k : Int)]) % n) = P (s.length + 1) ((totA row s % n + valA row (k : Int)) % n)
    rw [List.length_append, totA_snoc, Int.emod_add_emod]; rfl
theorem ltT_irrZ : ∀ s : List Int, ltT s s = false
  | [] => rfl
  | x :: s => by
    show (decide (x < x) || (decide (x = x) && ltT s s)) = false
    rw [ltT_irrZ s, decide_eq_false (Int.lt_irrefl x), Bool.and_false]; rfl
theorem ltT_trZ : ∀ {a b c : List Int}, ltT a b = true → ltT b c = true → ltT a c = true
  | [], [], _, h, _ => by cases h
  | [], _ :: _, [], _, h => by cases h
  | [], _ :: _, _ :: _, _, _ => rfl
  | _ :: _, [], _, h, _ => by cases h
  | _ :: _, _ :: _, [], _, h => by cases h
  | x :: a, y :: b, z :: c, h1, h2 => by
    have h1 : (decide (x < y) || (decide (x = y) && ltT a b)) = true := h1
    have h2 : (decide (y < z) || (decide (y = z) && ltT b c)) = true := h2
    show (decide (x < z) || (decide (x = z) && ltT a c)) = true
    rw [Bool.or_eq_true, Bool.and_eq_true, decide_eq_true_eq, decide_eq_true_eq] at h1 h2 ⊢
    rcases h1 with h1 | ⟨h1, g1⟩
    · rcases h2 with h2 | ⟨h2, g2⟩
      · exact .inl (by omega)
      · exact .inl (by omega)
    · rcases h2 with h2 | ⟨h2, g2⟩
      · exact .inl (by omega)
      · exact .inr ⟨by omega, ltT_trZ g1 g2⟩
theorem ltP_iff {a b : Int × List Int} : ltP a b = true ↔ a.1 < b.1 ∨ (a.1 = b.1 ∧ ltT a.2 b.2 = true) := by
  unfold Y.ltP
  rw [Bool.or_eq_true, Bool.and_eq_true, decide_eq_true_eq, decide_eq_true_eq]
theorem ltP_irr (a : Int × List Int) : ltP a a = false := by
  unfold Y.ltP
  rw [ltT_irrZ, decide_eq_false (Int.lt_irrefl _), Bool.and_false]; rfl
theorem ltP_asym {a b : Int × List Int} (h : ltP a b = true) : ltP b a = false := by
  cases hb : ltP b a with
  | false => rfl
  | true =>
    have h1 := ltP_iff.mp h
    have h2 := ltP_iff.mp hb
    rcases h1 with h1 | ⟨h1, g1⟩
    · rcases h2 with h2 | ⟨h2, g2⟩ <;> omega
    · rcases h2 with h2 | ⟨h2, g2⟩
      · omega
      · have := ltT_trZ g1 g2
        rw [ltT_irrZ] at this; cases this
/-- the one below all the others is the least -/
theorem min_is {p0 : Int × List Int} : ∀ (ps : List (Int × List Int)) (p : Int × List Int), p0 ∈ p :: ps → (∀ q ∈ p :: ps, q = p0 ∨ ltP p0 q = true) → minP p ps = p0
  | [], p, h, _ => (List.mem_singleton.mp h).symm
  | y :: ps, p, h, hall => by
    show minP (if ltP y p = true then y else p) ps = p0
    refine min_is ps _ ?_ ?_
    · rcases List.mem_cons.mp h with rfl | h
      · have : ltP y p0 = false := by
          rcases hall y (.tail _ (.head _)) with rfl | h
          · exact ltP_irr _
          · exact ltP_asym h
        rw [this, if_neg (by decide)]
        exact .head _
      · rcases List.mem_cons.mp h with rfl | h
        · rcases hall p (.head _) with rfl | h
          · rw [ltP_irr, if_neg (by decide)]; exact .head _
          · rw [h, if_pos rfl]; exact .head _
        · exact .tail _ h
    · intro q hq
      rcases List.mem_cons.mp hq with rfl | hq
      · split
        · exact hall y (.tail _ (.head _))
        · exact hall p (.head _)
      · exact hall q (.tail _ (.tail _ hq))
def goodZ (n : Int) (row : List Int) : List (Int × List Int) := ((setsP row.length).filter fun s => decide (totA row s % n = 0)).map fun s => ((s.length : Int), s)
theorem mem_goodZ {n : Int} {row : List Int} {p : Int × List Int} : p ∈ goodZ n row ↔ p.1 = (p.2.length : Int) ∧ Wit n row 0 p.2.length 0 p.2 := by
  unfold goodZ
  constructor
  · intro h
    obtain ⟨s, hs, rfl⟩ := List.mem_map.mp h
    obtain ⟨h1, h2⟩ := List.mem_filter.mp hs
    exact ⟨rfl, (setsP_asc _ s h1).1, rfl, of_decide_eq_true h2⟩
  · rintro ⟨h1, h2⟩
    refine List.mem_map.mpr ⟨p.2, List.mem_filter.mpr ⟨asc_sets _ _ h2.asc, decide_eq_true h2.sum⟩, ?_⟩
    rw [← h1]
theorem pick_none {n : Int} {row : List Int} {F : Int → Bool} (hn : 0 < n) (h : ∀ m : Nat, F (m : Int) = true → hasB n row m 0 = false) : ((goodZ n row).filter fun p => F p.1) = [] := by
  refine List.filter_eq_nil_iff.mpr fun p hp hF => ?_
  obtain ⟨h1, h2⟩ := mem_goodZ.mp hp
  rw [h1] at hF
  have := h _ hF
  rw [(has_iff hn).mpr ⟨_, h2⟩] at this
  cases this
theorem pick_min {n : Int} {row : List Int} {F : Int → Bool} (hn : 0 < n) {m : Nat} (hF : F (m : Int) = true) (hm : hasB n row m 0 = true) (hle : ∀ m' : Nat, F (m' : Int) = true → hasB n row m' 0 = true → m ≤ m') :
    ∃ p ps, ((goodZ n row).filter fun p => F p.1) = p :: ps ∧ minP p ps = ((m : Int), lpN n row 0 m 0) := by
  have hw : Wit n row 0 m 0 (lpN n row 0 m 0) := lp_wit (row := row) hn row [] m 0 rfl (Int.le_refl 0) hn hm
  have hmem : ((m : Int), lpN n row 0 m 0) ∈ ((goodZ n row).filter fun p => F p.1) := List.mem_filter.mpr ⟨mem_goodZ.mpr ⟨by rw [hw.len], by rw [hw.len]; exact hw⟩, hF⟩
  have hall : ∀ q ∈ ((goodZ n row).filter fun p => F p.1), q = ((m : Int), lpN n row 0 m 0) ∨ ltP ((m : Int), lpN n row 0 m 0) q = true := by
    rintro ⟨q1, q2⟩ hq
    obtain ⟨h1, h2⟩ := List.mem_filter.mp hq
    obtain ⟨h3, h4⟩ := mem_goodZ.mp h1
    dsimp only at h2 h3 h4
    subst h3
    have := hle q2.length h2 ((has_iff hn).mpr ⟨_, h4⟩)
    rcases Nat.lt_or_eq_of_le this with c | c
    · exact .inr (ltP_iff.mpr (.inl (show (m : Int) < (q2.length : Int) by omega)))
    · rw [← c] at h4
      rcases lp_le (row := row) hn row [] m 0 q2 rfl (Int.le_refl 0) hn h4 with e | e
      · refine .inl ?_
        rw [← c]
        exact congrArg (Prod.mk (m : Int)) e
      · exact .inr (ltP_iff.mpr (.inr ⟨show (m : Int) = (q2.length : Int) by omega, e⟩))
  generalize ((goodZ n row).filter fun p => F p.1) = L at hmem hall
  match L, hmem, hall with
  | [], h, _ => cases h
  | p :: ps, h, hall => exact ⟨p, ps, rfl, min_is ps p h hall⟩
theorem find_least {p : Nat → Bool} : ∀ (k a m : Nat), (List.range' a k).find? p = some m → p m = true ∧ a ≤ m ∧ ∀ j, a ≤ j → j < a + k → p j = true → m ≤ j
  | 0, _, _, h => by cases h
  | k + 1, a, m, h => by
    rw [List.range'_succ, List.find?_cons] at h
    cases hp : p a with
    | true =>
      rw [hp] at h
      cases h
      exact ⟨hp, Nat.le_refl _, fun j h1 _ _ => h1⟩
    | false =>
      rw [hp] at h
      obtain ⟨h1, h2, h3⟩ := find_least k (a + 1) m h
      refine ⟨h1, by omega, fun j j1 j2 j3 => ?_⟩
      rcases Nat.lt_or_eq_of_le j1 with c | c
      · exact h3 j c (by omega) j3
      · rw [← c, hp] at j3; cases j3
theorem zeroM_eq {n : Int} {row : List Int} : zeroM n row = (List.range' 1 row.length).find? fun m => hasB n row m 0 := by
  unfold zeroM
  rw [List.range'_eq_map_range]
  congr 1
  exact List.map_congr_left fun i _ => Nat.add_comm i 1
theorem wit_short {n : Int} {row : List Int} {m : Nat} {t : Int} {s : List Int} (h : Wit n row 0 m t s) : m ≤ row.length := by
  rw [← h.len]
  exact (setsP_asc _ s (asc_sets _ _ h.asc)).2
theorem zeroM_none {n : Int} {row : List Int} (hn : 0 < n) (h : zeroM n row = none) : ∀ m : Nat, 0 < m → hasB n row m 0 = false := fun m m0 => by
  cases hb : hasB n row m 0 with
  | false => rfl
  | true =>
    obtain ⟨s, hs⟩ := (has_iff hn).mp hb
    have hm := wit_short hs
    rw [zeroM_eq] at h
    have := List.find?_eq_none.mp h m (List.mem_range'_1.mpr ⟨m0, by omega⟩)
    exact absurd hb this
theorem zeroM_some {n : Int} {row : List Int} {m : Nat} (hn : 0 < n) (h : zeroM n row = some m) : hasB n row m 0 = true ∧ 0 < m ∧ ∀ j : Nat, 0 < j → hasB n row j 0 = true → m ≤ j := by
  rw [zeroM_eq] at h
  obtain ⟨h1, h2, h3⟩ := find_least _ _ _ h
  refine ⟨h1, h2, fun j j0 hj => ?_⟩
  obtain ⟨s, hs⟩ := (has_iff hn).mp hj
  have := wit_short hs
  exact h3 j j0 (by omega) hj
def LeastOf (L : List (Int × List Int)) : Option (List Int) → Prop
  | none => L = []
  | some l => ∃ p ps, L = p :: ps ∧ (minP p ps).2 = l
theorem part_min {n : Int} {row : List Int} (hn : 0 < n) : LeastOf ((goodZ n row).filter fun p => decide (0 < p.1)) (partN0 n row) := by
  unfold partN0
  cases hz : zeroM n row with
  | none =>
    refine pick_none (F := fun i => decide (0 < i)) hn fun m hm => zeroM_none hn hz m ?_
    have := of_decide_eq_true hm; omega
  | some m =>
    obtain ⟨h1, h2, h3⟩ := zeroM_some hn hz
    obtain ⟨p, ps, e1, e2⟩ := pick_min (F := fun i => decide (0 < i)) hn (m := m) (decide_eq_true (by omega)) h1 (fun m' hm' hb => h3 m' (by have := of_decide_eq_true hm'; omega) hb)
    exact ⟨p, ps, e1, by rw [e2]⟩
theorem many_min {n : Int} {row : List Int} (hn : 0 < n) : LeastOf ((goodZ n row).filter fun p => decide (p.1 = n)) (manyN0 n row) := by
  unfold manyN0
  have hk : ((n.toNat : Nat) : Int) = n := Int.toNat_of_nonneg (by omega)
  by_cases c : hasB n row n.toNat 0 = true
  · rw [if_pos c]
    obtain ⟨p, ps, e1, e2⟩ := pick_min (F := fun i => decide (i = n)) hn (m := n.toNat) (decide_eq_true hk) c (fun m' hm' hb => by have := of_decide_eq_true hm'; omega)
    exact ⟨p, ps, e1, by rw [e2]⟩
  · rw [if_neg c]
    refine pick_none (F := fun i => decide (i = n)) hn fun m hm => ?_
    have : m = n.toNat := by have := of_decide_eq_true hm; omega
    rw [this]; exact eq_false_of_ne_true c
theorem plcs_mem {k : Nat} {i : Int} : i ∈ plcs k ↔ 0 ≤ i ∧ i < (k : Int) := by
  unfold plcs
  rw [List.mem_map]
  constructor
  · rintro ⟨j, hj, rfl⟩
    have := List.mem_range.mp hj
    omega
  · rintro ⟨h1, h2⟩
    exact ⟨i.toNat, List.mem_range.mpr (by omega), by omega⟩
theorem plcs_nd (k : Nat) : (plcs k).Nodup := by
  unfold plcs
  rw [List.nodup_iff_pairwise_ne, List.pairwise_map]
  exact (List.pairwise_lt_range (n := k)).imp fun h => by omega
theorem plcs_len (k : Nat) : (plcs k).length = k := by unfold plcs; rw [List.length_map, List.length_range]
theorem permZ_sum {a b : List Int} (h : a.Perm b) : a.sum = b.sum := by
  induction h with
  | nil => rfl
  | cons x _ ih => rw [List.sum_cons, List.sum_cons, ih]
  | swap x y l => simp only [List.sum_cons]; omega
  | trans _ _ h1 h2 => exact h1.trans h2
theorem many_some {N : Nat} {row : List Int} (h1 : 1 ≤ N) (hl : 2 * N ≤ row.length + 1) : hasB (N : Int) row N 0 = true := by
  obtain ⟨s, r, hp, hs, hd⟩ := EG.eg_all N h1 Int (valA row) (plcs row.length) (by rw [plcs_len]; exact hl)
  refine (has_iff (by omega)).mpr ⟨sortI s, ?_⟩
  have hperm := sortI_perm s
  have nd : (s ++ r).Nodup := hp.nodup_iff.mp (plcs_nd _)
  have nds : s.Nodup := (List.nodup_append.mp nd).1
  have hmem : ∀ i ∈ sortI s, 0 ≤ i ∧ i < (row.length : Int) := fun i hi => plcs_mem.mp (hp.mem_iff.mpr (List.mem_append_left _ (hperm.mem_iff.mp hi)))
  have ndq : (sortI s).Nodup := hperm.nodup_iff.mpr nds
  refine ⟨⟨?_, fun i hi => by have := (hmem i hi).1; omega, fun i hi => (hmem i hi).2⟩, by rw [hperm.length_eq, hs], ?_⟩
  · refine (List.Pairwise.and (sortI_sorted s) (List.nodup_iff_pairwise_ne.mp ndq)).imp fun h => ?_
    omega
  · unfold totA
    rw [permZ_sum (hperm.map (valA row))]
    exact Int.emod_eq_zero_of_dvd hd
def preS (row : List Int) (j : Nat) : Int := totA row (plcs j)
def midP (i j : Nat) : List Int := (List.range' i (j - i)).map fun t : Nat => (t : Int)
theorem midP_sum {row : List Int} {i : Nat} : ∀ k, preS row (i + k) = preS row i + totA row (midP i (i + k))
  | 0 => by
    unfold midP
    rw [show i + 0 - i = 0 by omega]
    show preS row i = preS row i + 0
    omega
  | k + 1 => by
    have ih := midP_sum (row := row) (i := i) k
    unfold midP at ih ⊢
    rw [show i + k - i = k by omega] at ih
    rw [show i + (k + 1) - i = k + 1 by omega, List.range'_concat, List.map_append]
    show preS row (i + k + 1) = preS row i + totA row (_ ++ [((i + 1 * k : Nat) : Int)])
    rw [totA_snoc, Nat.one_mul]
    unfold preS at ih ⊢
    rw [plcs_succ, totA_snoc, ih]; omega
theorem midP_asc {i j L : Nat} (h : j ≤ L) : AscA 0 (L : Int) (midP i j) ∧ (midP i j).length = j - i := by
  unfold midP
  refine ⟨⟨?_, fun x hx => ?_, fun x hx => ?_⟩, by rw [List.length_map, List.length_range']⟩
  · rw [List.pairwise_map]
    exact (List.pairwise_lt_range' (s := i) (n := j - i)).imp fun h => by omega
  · obtain ⟨t, _, rfl⟩ := List.mem_map.mp hx; omega
  · obtain ⟨t, ht, rfl⟩ := List.mem_map.mp hx
    have := List.mem_range'_1.mp ht
    omega
theorem part_some {N : Nat} {row : List Int} (h1 : 1 ≤ N) (hl : N ≤ row.length) : ∃ m, zeroM (N : Int) row = some m ∧ 1 ≤ m ∧ m ≤ N := by
  have hn : (0 : Int) < (N : Int) := by omega
  have hex : ∃ i j : Nat, i < j ∧ j ≤ N ∧ preS row i % (N : Int) = preS row j % (N : Int) := by
    refine Classical.byContradiction fun c => ?_
    have nd : ((List.range (N + 1)).map fun j => preS row j % (N : Int)).Nodup := by
      rw [List.nodup_iff_pairwise_ne, List.pairwise_map]
      refine (List.pairwise_lt_range (n := N + 1)).imp_of_mem fun {i j} hi hj hij e => c ⟨i, j, hij, ?_, e⟩
      have := List.mem_range.mp hj; omega
    have := nodup_leT (b := plcs N) nd fun x hx => by
      obtain ⟨j, _, rfl⟩ := List.mem_map.mp hx
      exact plcs_mem.mpr ⟨Int.emod_nonneg _ (by omega), Int.emod_lt_of_pos _ hn⟩
    rw [List.length_map, List.length_range, plcs_len] at this
    omega
  obtain ⟨i, j, hij, hj, he⟩ := hex
  obtain ⟨a1, a2⟩ := midP_asc (i := i) (j := j) (L := row.length) (by omega)
  have hs := midP_sum (row := row) (i := i) (j - i)
  rw [show i + (j - i) = j by omega] at hs
  have hw : hasB (N : Int) row (j - i) 0 = true := (has_iff hn).mpr ⟨midP i j, a1, a2, by
    have := Int.emod_eq_emod_iff_emod_sub_eq_zero.mp he.symm
    rw [hs, show preS row i + totA row (midP i j) - preS row i = totA row (midP i j) by omega] at this
    exact this⟩
  cases hz : zeroM (N : Int) row with
  | none =>
    have := zeroM_none hn hz (j - i) (by omega)
    rw [hw] at this; cases this
  | some m =>
    obtain ⟨b1, b2, b3⟩ := zeroM_some hn hz
    have := b3 (j - i) (by omega) hw
    exact ⟨m, rfl, b2, by omega⟩
def onesR (N : Nat) : List Int := List.replicate (N - 1) 1
theorem asc_few {a b : Nat} {s : List Int} (hn : s.Nodup) (h : ∀ i ∈ s, (a : Int) ≤ i ∧ i < (b : Int)) : s.length ≤ b - a := by
  have := nodup_leT (b := (List.range' a (b - a)).map fun t : Nat => (t : Int)) hn fun i hi => by
    obtain ⟨h1, h2⟩ := h i hi
    exact List.mem_map.mpr ⟨i.toNat, List.mem_range'_1.mpr (by omega), by omega⟩
  rwa [List.length_map, List.length_range'] at this
theorem asc_nd {a b : Int} {s : List Int} (h : AscA a b s) : s.Nodup := List.nodup_iff_pairwise_ne.mpr (h.up.imp fun h => by omega)
theorem ones_val {N k : Nat} {i : Int} (h0 : 0 ≤ i) : valA (onesR N ++ List.replicate k 0) i = if i < ((N - 1 : Nat) : Int) then 1 else 0 := by
  unfold valA onesR
  rw [List.getD_eq_getElem?_getD, List.getElem?_append, List.length_replicate]
  by_cases c : i < ((N - 1 : Nat) : Int)
  · rw [if_pos c, if_pos (by omega), List.getElem?_replicate, if_pos (by omega)]; rfl
  · rw [if_neg c, if_neg (by omega), List.getElem?_replicate]
    split <;> rfl
theorem ones_sum {N k : Nat} : ∀ {s : List Int}, (∀ i ∈ s, 0 ≤ i) → totA (onesR N ++ List.replicate k 0) s = ((s.filter fun i => decide (i < ((N - 1 : Nat) : Int))).length : Int)
  | [], _ => rfl
  | i :: s, h => by
    rw [totA_cons, ones_val (h i (.head _)), ones_sum fun j hj => h j (.tail _ hj), List.filter_cons]
    by_cases c : i < ((N - 1 : Nat) : Int)
    · rw [if_pos c, decide_eq_true c, if_pos rfl, List.length_cons]; omega
    · rw [if_neg c, decide_eq_false c, if_neg (by decide)]; omega
theorem ones_free {N k m : Nat} (h2 : 2 ≤ N) {s : List Int} (h : Wit (N : Int) (onesR N ++ List.replicate k 0) 0 m 0 s) : (s.filter fun i => decide (i < ((N - 1 : Nat) : Int))) = [] := by
  have hs := h.sum
  rw [ones_sum fun i hi => by have := h.asc.ge i hi; omega] at hs
  have hle := asc_few (a := 0) (b := N - 1) (s := s.filter fun i => decide (i < ((N - 1 : Nat) : Int))) ((asc_nd h.asc).filter _) fun i hi => by
    obtain ⟨h1, h2⟩ := List.mem_filter.mp hi
    exact ⟨h.asc.ge i h1, of_decide_eq_true h2⟩
  rw [Int.emod_eq_of_lt (by omega) (by omega)] at hs
  exact List.eq_nil_of_length_eq_zero (by omega)
theorem ones_none {N : Nat} (h2 : 2 ≤ N) : partN0 (N : Int) (onesR N) = none := by
  unfold partN0
  cases hz : zeroM (N : Int) (onesR N) with
  | none => rfl
  | some m =>
    obtain ⟨b1, b2, _⟩ := zeroM_some (by omega) hz
    obtain ⟨s, hs⟩ := (has_iff (by omega)).mp b1
    have hs' : Wit (N : Int) (onesR N ++ List.replicate 0 0) 0 m 0 s := by rw [List.replicate_zero, List.append_nil]; exact hs
    have := ones_free h2 hs'
    cases s with
    | nil => have := hs.len; rw [List.length_nil] at this; omega
    | cons i s =>
      have h3 := hs.asc.lt i (.head _)
      unfold onesR at h3
      rw [List.length_replicate] at h3
      exact absurd (decide_eq_true h3) (List.filter_eq_nil_iff.mp this i (.head _))
theorem ones_many {N : Nat} (h2 : 2 ≤ N) : manyN0 (N : Int) (onesR N ++ List.replicate (N - 1) 0) = none := by
  unfold manyN0
  rw [Int.toNat_natCast]
  by_cases c : hasB (N : Int) (onesR N ++ List.replicate (N - 1) 0) N 0 = true
  · obtain ⟨s, hs⟩ := (has_iff (by omega)).mp c
    have := ones_free h2 hs
    have hle := asc_few (a := N - 1) (b := N - 1 + (N - 1)) (s := s) (asc_nd hs.asc) fun i hi => by
      have h3 := hs.asc.lt i hi
      unfold onesR at h3
      rw [List.length_append, List.length_replicate, List.length_replicate] at h3
      have h4 := List.filter_eq_nil_iff.mp this i hi
      refine ⟨?_, by omega⟩
      refine Classical.byContradiction fun z => h4 (decide_eq_true (by omega))
    rw [hs.len] at hle
    omega
  · rw [if_neg c]
theorem zeros_40 : cntP 1 (List.replicate 40 0) (fun _ t => decide (t = 0)) = 2 ^ 40 := by
  rw [cntP_congrB (P' := fun _ _ => true) (by decide) fun m t h0 h1 => decide_eq_true (by omega), cntP_every]
  rfl
theorem ones_40 : cntP 2 (List.replicate 40 1) (fun _ t => decide (t = 0)) = 2 ^ 39 := by
  have split : ∀ r : List Int, cntP 2 r (fun _ t => decide (t = 0)) + cntP 2 r (fun _ t => !decide (t = 0)) = 2 ^ r.length := by
    intro r
    have gen : ∀ (r : List Int) (P : Nat → Int → Bool), cntP 2 r P + cntP 2 r (fun m t => !P m t) = 2 ^ r.length := by
      intro r
      induction r with
      | nil =>
        intro P
        show (if P 0 0 = true then 1 else 0) + (if (!P 0 0) = true then 1 else 0) = 1
        cases P 0 0 <;> rfl
      | cons x r ih =>
        intro P
        have h1 := ih P
        have h2 := ih fun m t => P (m + 1) ((t + x) % 2)
        have e1 : cntP 2 (x :: r) P = cntP 2 r P + cntP 2 r (fun m t => P (m + 1) ((t + x) % 2)) := rfl
        have e2 : cntP 2 (x :: r) (fun m t => !P m t) = cntP 2 r (fun m t => !P m t) + cntP 2 r (fun m t => !P (m + 1) ((t + x) % 2)) := rfl
        rw [List.length_cons, Nat.pow_succ, e1, e2]
        omega
    exact gen r fun _ t => decide (t = 0)
  have := split (List.replicate 39 1)
  rw [List.length_replicate] at this
  rw [← this]
  have e1 : cntP 2 (List.replicate 40 1) (fun _ t => decide (t = 0)) = cntP 2 (List.replicate 39 1) (fun _ t => decide (t = 0)) + cntP 2 (List.replicate 39 1) (fun _ t => decide ((t + 1) % 2 = 0)) := rfl
  have e2 : cntP 2 (List.replicate 39 1) (fun _ t => decide ((t + 1) % 2 = 0)) = cntP 2 (List.replicate 39 1) (fun _ t => !decide (t = 0)) := cntP_congrB (by decide) fun m t h0 h1 => by
    have : t = 0 ∨ t = 1 := by omega
    rcases this with rfl | rfl <;> rfl
  rw [e1, e2]
def rowW (e : Er) : D := match e.arg with
  | none => .str "round"
  | some (_, d) => .tup [.str "row", d]
theorem rowErr_cases {dn dr : D} {e : Er} (h : rowErr dn dr = some e) : e = ⟨"BadRound", none⟩ ∨ ∃ d, e = ⟨"BadRow", some ("index", d)⟩ ∧ ∀ k, below k d = true := by
  unfold rowErr at h
  split at h
  · split at h
    · split at h
      · obtain ⟨i, _, rfl⟩ := Option.map_eq_some_iff.mp h
        exact .inr ⟨_, rfl, fun _ => rfl⟩
      · cases h; exact .inr ⟨_, rfl, fun _ => rfl⟩
    · cases h; exact .inr ⟨_, rfl, fun _ => rfl⟩
  · cases h; exact .inl rfl
def sp__law_word : SpD := fun ds G Q E => ∃ s dn dr e, ds = [.str s, dn, dr] ∧ (s = "part" ∨ s = "many" ∨ s = "count") ∧ plainD dn = true ∧ plainD dr = true ∧ plains dr = true ∧ rowErr dn dr = some e ∧ Q (rowW e) G
theorem len__law_word : ∀ ds G Q E, sp__law_word ds G Q E → ds.length = p__law_word.length := by rintro _ _ _ _ ⟨s, a, b, w, rfl, _⟩; rfl
theorem sem__law_word : ∀ ds G Q E, sp__law_word ds G Q E → t__law_word sp_zero_part sp_zero_many sp_count_zero (endsF G Q E) (startD n__law_word.length ds) G := by
  rintro _ G Q E ⟨s, dn, dr, e, rfl, hs, p1, p2, p3, he, q⟩
  have LL : okX e.cls = true ∧ handleD subX { endsF G Q E with nx := tRetD (tVarD 3) (endsF G Q E) } [⟨"BadRound", none, fun a1 d1 => (tSetD 3 (tCD (.str "round")))⟩, ⟨"BadRow", (some 4), fun a1 d1 => (tSetD 3 (tTupD (tConsD (tCD (.str "row")) (tConsD (tExnD a1 d1 "index" (tVarD 4)) tNilD))))⟩] e [some (.str s), some dn, some dr, some (.str ""), none] G := by
    rcases rowErr_cases he with rfl | ⟨d, rfl, hb⟩
    · refine ⟨by decide, ?_⟩
      show (if subX "BadRound" "BadRound" = true then _ else _)
      rw [if_pos (by decide)]
      intro _ _
      exact ⟨grew0, rfl, q⟩
    · refine ⟨(show okX "BadRow" = true by decide), ?_⟩
      show (if subX "BadRow" "BadRound" = true then _ else if subX "BadRow" "BadRow" = true then _ else _)
      rw [if_neg (by decide), if_pos (by decide)]
      refine ⟨rfl, fun a dd => ?_⟩
      have hbl : below G.length (.tup [.str "row", d]) = true := by
        show (true && (below _ d && true)) = true
        rw [hb]; rfl
      exact ⟨rfl, rfl, rfl, (show 2 ≤ 16777216 by decide), grew0, hbl, q⟩
  have n1 : ("many" : Str) ≠ "part" := by decide +kernel
  have n2 : ("count" : Str) ≠ "part" := by decide +kernel
  have n3 : ("count" : Str) ≠ "many" := by decide +kernel
  rcases hs with rfl | rfl | rfl
  · refine str_if ?_
    rw [if_pos rfl]
    refine ⟨dn, dr, rfl, p1, p2, p3, ?_⟩
    rw [he]
    exact LL
  · refine str_if ?_
    rw [if_neg n1]
    refine str_if ?_
    rw [if_pos rfl]
    refine ⟨dn, dr, rfl, p1, p2, p3, ?_⟩
    rw [he]
    exact LL
  · refine str_if ?_
    rw [if_neg n2]
    refine str_if ?_
    rw [if_neg n3]
    refine ⟨dn, dr, rfl, p1, p2, p3, ?_⟩
    rw [he]
    exact LL
def sp__law_total : SpD := fun ds G Q E => ∃ (n : Int) (row s : List Int), ds = [.int n, tupI row, tupI s] ∧ 0 < n ∧ (∀ i ∈ s, 0 ≤ i ∧ i < (row.length : Int)) ∧ s.length ≤ 1000000 ∧ Q (.int (totA row s % n)) G
theorem len__law_total : ∀ ds G Q E, sp__law_total ds G Q E → ds.length = p__law_total.length := by rintro _ _ _ _ ⟨n, row, s, rfl, _⟩; rfl
theorem sem__law_total : ∀ ds G Q E, sp__law_total ds G Q E → t__law_total (endsF G Q E) (startD n__law_total.length ds) G := by
  rintro _ G Q E ⟨n, row, s, rfl, hn, hs, hl, q⟩
  refine ⟨by rw [List.length_map]; omega, ?_⟩
  refine lc_fm (e := Y.D.int) (f := fun i => Y.D.int (valA row i)) (p := fun _ => true) s [] (fun i hi Q' Ed q' => q') (fun i hi _ Q' Ed q' => ?_) ?_
  · show (match atI (row.map Y.D.int) i with | some d => Q' d G | none => False)
    obtain ⟨h1, h2⟩ := hs i hi
    obtain ⟨j, rfl⟩ : ∃ j : Nat, i = (j : Int) := ⟨i.toNat, by omega⟩
    rw [atI_nat', List.getElem?_map, List.getElem?_eq_getElem (by omega)]
    show Q' (Y.D.int row[j]) G
    have : valA row (j : Int) = row[j] := by
      unfold valA
      rw [Int.toNat_natCast, List.getD_eq_getElem?_getD, List.getElem?_eq_getElem (by omega)]; rfl
    rw [← this]; exact q'
  · have e1 : (s.filter fun _ => true).map (fun i => Y.D.int (valA row i)) = (s.map (valA row)).map .int := by
      rw [List.filter_eq_self.mpr (fun _ _ => rfl), List.map_map]; rfl
    rw [List.nil_append, e1]
    show (match intsD ((s.map (valA row)).map .int) with | some ns => _ | none => False)
    rw [intsD_map]
    exact ⟨hn, grew0, rfl, q⟩
def sp__law_all_refused : SpD := fun ds G Q E => ∃ (n : Int) (row : List Int) (bad : D), ds = [.int n, tupI row, bad] ∧ 1 ≤ n ∧ n ≤ 20 ∧ (∀ x ∈ row, 0 ≤ x ∧ x < n) ∧ row.length ≤ 40 ∧ plainD bad = true ∧ fromD bad 0 (n - 1) = false ∧ Q (.bl true) G
theorem len__law_all_refused : ∀ ds G Q E, sp__law_all_refused ds G Q E → ds.length = p__law_all_refused.length := by rintro _ _ _ _ ⟨n, row, s, rfl, _⟩; rfl
def okW (w : D) : Prop := okD w = true ∧ eqD w w = true
theorem okW_str {w : Str} (h : PyData.strOk w = true) : okW (.str w) := ⟨okD_str h, eqD_str⟩
theorem okW_row {d : D} (h : d = .non ∨ ∃ i, d = .int i) : okW (.tup [.str "row", d]) := by
  rcases h with rfl | ⟨i, rfl⟩
  · refine ⟨okD_of (k := 1) (by decide) (by decide +kernel), ?_⟩
    show PyData.eqv (.tuple [.str "row", .none]) (.tuple [.str "row", .none]) = true
    simp [PyData.eqv, PyData.eqvAll]
  · refine ⟨okD_of (k := 1) (by decide) ?_, ?_⟩
    · show (dep 0 (.str "row") && (dep 0 (.int i) && true) && decide (2 ≤ 1000000)) = true
      rw [show dep 0 (.str "row") = true by decide +kernel]; rfl
    · show PyData.eqv (.tuple [.str "row", .int i]) (.tuple [.str "row", .int i]) = true
      simp [PyData.eqv, PyData.eqvAll]
theorem word_no {s : Str} {dn dv w : D} {ts ta tb tw : TEd} {e : Er} {ρ : Rho} {G : GS} {Q : Bool → GS → Prop} {E : QE} (hs : ∀ Q E, Q (.str s) G → ts ρ G Q E) (ha : ∀ Q E, Q dn G → ta ρ G Q E) (hb : ∀ Q E, Q dv G → tb ρ G Q E) (hw : ∀ Q E, Q w G → tw ρ G Q E)
    (c : s = "part" ∨ s = "many" ∨ s = "count") (p1 : plainD dn = true) (p2 : plainD dv = true) (p3 : plains dv = true) (r : rowErr dn dv = some e) (ew : rowW e = w) (pw : plainD w = true) (ok : okW w) (q : Q false G) :
    tTestD (tOpD Y.rNeD (tCallD sp__law_word (tConsD ts (tConsD ta (tConsD tb tNilD)))) tw) ρ G Q E := by
  refine hs _ _ (ha _ _ (hb _ _ ⟨s, dn, dv, e, rfl, c, p1, p2, p3, r, hw _ _ ?_⟩))
  rw [ew]
  have ev : vw G w = w := by cases w <;> first | rfl | cases pw
  show okD (vw G w) = true ∧ okD (vw G w) = true ∧ (match D.bl (!eqD (vw G w) (vw G w)) with | .bl b => Q b G | _ => False)
  rw [ev, ok.2]
  exact ⟨ok.1, ok.1, q⟩
theorem firstOff_at {n : Int} {bad : D} {r : List D} (hb : fromD bad 0 (n - 1) = false) : ∀ {l : List Int} {i : Nat}, (∀ x ∈ l, 0 ≤ x ∧ x < n) → firstOff n i (l.map .int ++ bad :: r) = some (i + l.length)
  | [], i, _ => by
    show (if fromD bad 0 (n - 1) = true then _ else some i) = _
    rw [hb]; rfl
  | x :: l, i, h => by
    have hx := h x (.head _)
    show (if fromD (.int x) 0 (n - 1) = true then firstOff n (i + 1) (l.map .int ++ bad :: r) else _) = _
    have : fromD (.int x) 0 (n - 1) = true := by
      show (decide (0 ≤ x) && decide (x ≤ n - 1)) = true
      rw [decide_eq_true hx.1, decide_eq_true (by omega)]; rfl
    rw [if_pos this, firstOff_at hb fun y hy => h y (.tail _ hy), List.length_cons]
    congr 1; omega
theorem cutD_takeR {ds : List D} {j : Nat} : Y.cutD ds none (some (j : Int)) = ds.take j := by
  unfold Y.cutD
  rw [HT.sIx_none, List.drop_zero, Nat.sub_zero, HT.sIx_nat]
  rcases Nat.le_total j ds.length with h | h
  · rw [Nat.min_eq_left h]
  · rw [Nat.min_eq_right h, List.take_of_length_le h, List.take_of_length_le (Nat.le_refl _)]
theorem rep_tup {k : Nat} {a : Int} : (List.replicate k [Y.D.int a]).flatten = (List.replicate k a).map Y.D.int := by
  induction k with
  | zero => rfl
  | succ k ih => rw [List.replicate_succ, List.flatten_cons, ih, List.replicate_succ]; rfl
theorem sem__law_all_refused : ∀ ds G Q E, sp__law_all_refused ds G Q E → t__law_all_refused sp__law_word (endsF G Q E) (startD n__law_all_refused.length ds) G := by
  rintro _ G Q E ⟨n, row, bad, rfl, n1, n2, hr, hl, hp, hb, q⟩
  have sr : okW (.str "round") := okW_str (by decide +kernel)
  have hn : fromD (.int n) 1 20 = true := by
    show (decide (1 ≤ n) && decide (n ≤ 20)) = true
    rw [decide_eq_true n1, decide_eq_true n2]; rfl
  refine ⟨(show 3 ≤ 16777216 by decide), ?_⟩
  refine for_inv (I := fun l ρ G' => G' = G ∧ (∀ d ∈ l, ∃ s : Str, d = .str s ∧ (s = "part" ∨ s = "many" ∨ s = "count")) ∧ ∃ a b, ρ = [some (.int n), some (tupI row), some bad, a, b]) _ _ _ ⟨rfl, fun d hd => ?_, _, _, rfl⟩ ?_ ?_
  · simp only [List.mem_cons, List.mem_nil_iff, or_false] at hd
    rcases hd with rfl | rfl | rfl
    · exact ⟨_, rfl, .inl rfl⟩
    · exact ⟨_, rfl, .inr (.inl rfl)⟩
    · exact ⟨_, rfl, .inr (.inr rfl)⟩
  · rintro x l _ G ⟨rfl, hd, a, b, rfl⟩ D' r1 r2 r3 nx ct
    obtain ⟨s, rfl, hs⟩ := hd x (.head _)
    dsimp only [gNameD, List.set_cons_succ, List.set_cons_zero, tIfSD]
    have badN : ∀ d ∈ ([.non, .int 0, .int 21, .str "7", .bl true] : List D), plainD d = true ∧ fromD d 1 20 = false := fun d hd => by
      simp only [List.mem_cons, List.mem_nil_iff, or_false] at hd
      rcases hd with rfl | rfl | rfl | rfl | rfl <;> exact ⟨rfl, by decide⟩
    have badR : ∀ d ∈ ([.non, .lst [.int 0], .int 3, .tup ((List.replicate 41 0).map .int), .str "0"] : List D), plainD d = true ∧ plains d = true ∧ rowErr (.int n) d = some ⟨"BadRow", some ("index", .non)⟩ := fun d hd => by
      have nt : ∀ d : D, (∀ xs, d ≠ .tup xs) → rowErr (.int n) d = some ⟨"BadRow", some ("index", .non)⟩ := fun d h => by
        unfold rowErr
        rw [if_pos hn]
        cases d with
        | tup xs => exact absurd rfl (h xs)
        | _ => rfl
      simp only [List.mem_cons, List.mem_nil_iff, or_false] at hd
      rcases hd with rfl | rfl | rfl | rfl | rfl
      · exact ⟨rfl, rfl, nt _ fun _ z => by cases z⟩
      · exact ⟨rfl, rfl, nt _ fun _ z => by cases z⟩
      · exact ⟨rfl, rfl, nt _ fun _ z => by cases z⟩
      · refine ⟨rfl, plains_tupI, ?_⟩
        unfold rowErr
        rw [if_pos hn]
        show (if ((List.replicate 41 (0 : Int)).map Y.D.int).length ≤ 40 then _ else _) = _
        rw [if_neg (by rw [List.length_map, List.length_replicate]; decide)]
      · exact ⟨rfl, rfl, nt _ fun _ z => by cases z⟩
    refine ⟨(show 5 ≤ 16777216 by decide), ?_⟩
    refine for_inv (I := fun l ρ G' => G' = G ∧ (∀ d ∈ l, plainD d = true ∧ fromD d 1 20 = false) ∧ ∃ b, ρ = [some (.int n), some (tupI row), some bad, some (.str s), b]) _ _ _ ⟨rfl, badN, _, rfl⟩ ?_ ?_
    · rintro x l _ G ⟨rfl, hd, b, rfl⟩ D' r1 r2 r3 nx ct
      obtain ⟨h1, h2⟩ := hd x (.head _)
      dsimp only [gNameD, List.set_cons_succ, List.set_cons_zero, tIfSD]
      refine word_no (s := s) (dn := x) (dv := .non) (w := .str "round") (e := ⟨"BadRound", none⟩) (fun _ _ h => h) (fun _ _ h => h) (fun _ _ h => h) (fun _ _ h => h) hs h1 rfl rfl ?_ rfl rfl sr ?_
      · unfold rowErr
        rw [h2]; rfl
      rw [if_neg (by decide)]
      exact nx _ _ ⟨rfl, fun d h => hd d (.tail _ h), _, rfl⟩
    rintro _ G ⟨rfl, _, b, rfl⟩
    refine ⟨(show 1 ≤ 16777216 by decide), (show 1 ≤ 16777216 by decide), ?_⟩
    refine ⟨List.cons_ne_nil _ _, (show (0 : Int) ≤ 41 by decide), (show (41 : Int) ≤ 1000 by decide), (show 1 ≤ 1000 by decide), ?_⟩
    refine ⟨(show 5 ≤ 16777216 by decide), ?_⟩
    have er : (List.replicate (41 : Int).toNat [Y.D.int 0]).flatten = (List.replicate 41 0).map Y.D.int := rep_tup
    rw [er]
    refine for_inv (I := fun l ρ G' => G' = G ∧ (∀ d ∈ l, plainD d = true ∧ plains d = true ∧ rowErr (.int n) d = some ⟨"BadRow", some ("index", .non)⟩) ∧ ∃ b, ρ = [some (.int n), some (tupI row), some bad, some (.str s), b]) _ _ _ ⟨rfl, badR, _, rfl⟩ ?_ ?_
    · rintro x l _ G ⟨rfl, hd, b, rfl⟩ D' r1 r2 r3 nx ct
      obtain ⟨h1, h2, h3⟩ := hd x (.head _)
      dsimp only [gNameD, List.set_cons_succ, List.set_cons_zero, tIfSD]
      refine word_no (s := s) (dn := .int n) (dv := x) (w := .tup [.str "row", .non]) (fun _ _ h => h) (fun _ _ h => h) (fun _ _ h => h) (fun _ _ h => ⟨(show 2 ≤ 16777216 by decide), h⟩) hs rfl h1 h2 h3 rfl rfl (okW_row (.inl rfl)) ?_
      rw [if_neg (by decide)]
      exact nx _ _ ⟨rfl, fun d h => hd d (.tail _ h), _, rfl⟩
    rintro _ G ⟨rfl, _, b, rfl⟩
    have ec : Y.cutD (row.map Y.D.int) none (some 5) = (row.take 5).map .int := by
      rw [show (5 : Int) = ((5 : Nat) : Int) from rfl, cutD_takeR, List.map_take]
    have hlt : (row.take 5).length = min 5 row.length := List.length_take
    dsimp only [tIfSD]
    refine word_no (s := s) (dn := .int n) (dv := .tup ((row.take 5).map .int ++ [bad, .non])) (w := .tup [.str "row", .int ((min 5 row.length : Nat) : Int)]) (e := ⟨"BadRow", some ("index", .int ((min 5 row.length : Nat) : Int))⟩) (fun _ _ h => h) (fun _ _ h => h) (fun _ _ h => ?_) (fun _ _ h => ?_) hs rfl rfl ?_ ?_ rfl rfl (okW_row (.inr ⟨_, rfl⟩)) ?_
    · refine ⟨(show 2 ≤ 16777216 by decide), ?_⟩
      show (Y.cutD (row.map Y.D.int) none (some 5)).length + 2 ≤ 16777216 ∧ _
      rw [ec, List.length_map, hlt]
      refine ⟨by omega, ?_⟩
      show _
      exact ec ▸ h
    · refine ⟨(show 2 ≤ 16777216 by decide), ?_⟩
      show (match intsD [Y.D.int 5, Y.D.int (((row.map Y.D.int).length : Nat) : Int)] with | some ns => _ | none => False)
      refine ⟨List.cons_ne_nil _ _, (show 2 ≤ 16777216 by decide), ?_⟩
      have em : minI [5, (((row.map Y.D.int).length : Nat) : Int)] = ((min 5 row.length : Nat) : Int) := by
        rw [List.length_map]
        unfold minI
        simp only [List.foldl_cons, List.foldl_nil]
        omega
      rw [em]
      exact h
    · show ((row.take 5).map Y.D.int ++ [bad, .non]).all plainD = true
      refine List.all_eq_true.mpr fun x hx => ?_
      rcases List.mem_append.mp hx with hx | hx
      · obtain ⟨i, _, rfl⟩ := List.mem_map.mp hx; rfl
      · simp only [List.mem_cons, List.mem_nil_iff, or_false] at hx
        rcases hx with rfl | rfl
        · exact hp
        · rfl
    · unfold rowErr
      rw [if_pos hn]
      show (if ((row.take 5).map Y.D.int ++ [bad, .non]).length ≤ 40 then (firstOff n 0 ((row.take 5).map Y.D.int ++ [bad, .non])).map _ else _) = _
      rw [if_pos (by rw [List.length_append, List.length_map, hlt]; show min 5 row.length + 2 ≤ 40; omega), firstOff_at hb (fun x hx => hr x (List.mem_of_mem_take hx)), hlt, Nat.zero_add]; rfl
    rw [if_neg (by decide)]
    exact nx _ _ ⟨rfl, fun d h => hd d (.tail _ h), _, _, rfl⟩
  · rintro _ G ⟨rfl, _, a, b, rfl⟩
    exact ⟨grew0, rfl, q⟩
def tTurn21 : TSd := (tSeqD (tForD (iRng1D (tConsD (tCBD rLenD (tConsD (tVarD 4) tNilD)) tNilD)) (gNameD 7) (tSetD 12 (tOpD rAddD (tVarD 12) (tLcD (iAnyD (tVarD 12)) (gNameD 9) tYesD (tOpD rAddD (tVarD 9) (tTupD (tConsD (tVarD 7) tNilD))) [9])))) (tSeqD (tSetD 8 (tLcD (iAnyD (tVarD 12)) (gNameD 9) (tTestD (tOpD Y.rEqD (tCallD sp__law_total (tConsD (tVarD 3) (tConsD (tVarD 4) (tConsD (tVarD 9) tNilD)))) (tCD (.int 0)))) (tTupD (tConsD (tCBD rLenD (tConsD (tVarD 9) tNilD)) (tConsD (tVarD 9) tNilD))) [9])) (tSeqD (tIfSD (tNotD (tTestD (tCallD (sp_eq 1) (tConsD (tCallD sp_count_zero (tConsD (tVarD 3) (tConsD (tVarD 4) tNilD))) (tConsD (tCBD rLenD (tConsD (tVarD 8) tNilD)) tNilD))))) (tRetD (tCD (.bl false))) tNextD) (tSeqD (tSetD 9 (tLcD (iAnyD (tVarD 8)) (gNameD 13) (tTestD (tOpD rGtD (tOpD Y.rIxD (tVarD 13) (tCD (.int 0))) (tCD (.int 0)))) (tVarD 13) [13])) (tSeqD (tIfSD (tNotD (tTestD (tCallD (sp_eq 1) (tConsD (tCallD sp_zero_part (tConsD (tVarD 3) (tConsD (tVarD 4) tNilD))) (tConsD (tIfED (tTestD (tOpD Y.rNeD (tVarD 9) (tLstD tNilD))) (tOpD Y.rIxD (tCBD rMinPD (tConsD (tVarD 9) tNilD)) (tCD (.int 1))) (tCD .non)) tNilD))))) (tRetD (tCD (.bl false))) tNextD) (tSeqD (tSetD 9 (tLcD (iAnyD (tVarD 8)) (gNameD 13) (tTestD (tOpD Y.rEqD (tOpD Y.rIxD (tVarD 13) (tCD (.int 0))) (tVarD 3))) (tVarD 13) [13])) (tSeqD (tIfSD (tNotD (tTestD (tCallD (sp_eq 1) (tConsD (tCallD sp_zero_many (tConsD (tVarD 3) (tConsD (tVarD 4) tNilD))) (tConsD (tIfED (tTestD (tOpD Y.rNeD (tVarD 9) (tLstD tNilD))) (tOpD Y.rIxD (tCBD rMinPD (tConsD (tVarD 9) tNilD)) (tCD (.int 1))) (tCD .non)) tNilD))))) (tRetD (tCD (.bl false))) tNextD) (tIfSD (tOrD (tAndD (tTestD (tOpD rGeD (tCBD rLenD (tConsD (tVarD 4) tNilD)) (tVarD 3))) (tTestD (tOpD rIsD (tCallD sp_zero_part (tConsD (tVarD 3) (tConsD (tVarD 4) tNilD))) (tCD .non)))) (tAndD (tTestD (tOpD rGeD (tCBD rLenD (tConsD (tVarD 4) tNilD)) (tOpD rSubD (tOpD rMulD (tCD (.int 2)) (tVarD 3)) (tCD (.int 1))))) (tTestD (tOpD rIsD (tCallD sp_zero_many (tConsD (tVarD 3) (tConsD (tVarD 4) tNilD))) (tCD .non))))) (tRetD (tCD (.bl false))) tNextD))))))))
def tTail21 : TSd := (tSeqD (tPar2D 10 11 (tConsD (tCallD sp_zero_many (tConsD (tVarD 3) (tConsD (tVarD 4) tNilD))) (tConsD (tCallD sp_zero_part (tConsD (tVarD 3) (tConsD (tVarD 4) tNilD))) tNilD))) (tSeqD (tIfSD (tOrD (tTestD (tOpD rIsD (tVarD 10) (tCD .non))) (tOrD (tTestD (tOpD Y.rNeD (tCBD rLenD (tConsD (tVarD 10) tNilD)) (tVarD 3))) (tOrD (tTestD (tOpD Y.rNeD (tCBD rListD (tConsD (tVarD 10) tNilD)) (tSortSetD (tVarD 10)))) (tTestD (tOpD Y.rNeD (tCallD sp__law_total (tConsD (tVarD 3) (tConsD (tVarD 4) (tConsD (tVarD 10) tNilD)))) (tCD (.int 0))))))) (tRetD (tCD (.bl false))) tNextD) (tSeqD (tIfSD (tOrD (tTestD (tOpD rIsD (tVarD 11) (tCD .non))) (tOrD (tNotD (tTestD (tChainD rLeD rLeD (tCD (.int 1)) (tCBD rLenD (tConsD (tVarD 11) tNilD)) (tVarD 3)))) (tTestD (tOpD Y.rNeD (tCallD sp__law_total (tConsD (tVarD 3) (tConsD (tVarD 4) (tConsD (tVarD 11) tNilD)))) (tCD (.int 0)))))) (tRetD (tCD (.bl false))) tNextD) (tSeqD (tSetD 5 (tOpD rRepT2D (tTupD (tConsD (tOpD rModD (tCD (.int 1)) (tVarD 3)) tNilD)) (tOpD rSubD (tVarD 3) (tCD (.int 1))))) (tSeqD (tSetD 6 (tLstD (tConsD (tCallD sp_zero_part (tConsD (tVarD 3) (tConsD (tVarD 5) tNilD))) (tConsD (tCallD sp_zero_many (tConsD (tVarD 3) (tConsD (tOpD rAddD (tVarD 5) (tOpD rRepT2D (tTupD (tConsD (tCD (.int 0)) tNilD)) (tOpD rSubD (tVarD 3) (tCD (.int 1))))) tNilD))) tNilD)))) (tSeqD (tIfSD (tAndD (tTestD (tOpD rGtD (tVarD 3) (tCD (.int 1)))) (tTestD (tOpD Y.rNeD (tVarD 6) (tLstD (tConsD (tCD .non) (tConsD (tCD .non) tNilD)))))) (tRetD (tCD (.bl false))) tNextD) (tSeqD (tIfSD (tOrD (tTestD (tOpD Y.rNeD (tCallD sp_count_zero (tConsD (tCD (.int 1)) (tConsD (tOpD rRepT2D (tTupD (tConsD (tCD (.int 0)) tNilD)) (tCD (.int 40))) tNilD))) (tOpD rPowD (tCD (.int 2)) (tCD (.int 40))))) (tTestD (tOpD Y.rNeD (tCallD sp_count_zero (tConsD (tCD (.int 2)) (tConsD (tOpD rRepT2D (tTupD (tConsD (tCD (.int 1)) tNilD)) (tCD (.int 40))) tNilD))) (tOpD rPowD (tCD (.int 2)) (tCD (.int 39)))))) (tRetD (tCD (.bl false))) tNextD) (tRetD (tCallD sp__law_all_refused (tConsD (tVarD 3) (tConsD (tVarD 4) (tConsD (tCallD sp__law_pick (tConsD (tVarD 1) (tConsD (tLstD (tConsD (tCD .non) (tConsD (tNegD (tCD (.int 1))) (tConsD (tVarD 3) (tConsD (tCD (.str "0")) (tConsD (tCD (.bl true)) (tConsD (tTupD (tConsD (tCD (.int 0)) tNilD)) tNilD))))))) tNilD))) tNilD))))))))))))
theorem lc_draw {te : TEd} {i : Nat} {ρ : Rho} {G : GS} {Q : List D → GS → Prop} {P : Int → Prop} (h : ∀ (x : D) (Q' : QD) (Ed : QE), (∀ y, P y → Q' (.int y) G) → te (ρ.set i (some x)) G Q' Ed) : ∀ (l : List D) (acc : List Int),
    (∀ ys : List Int, ys.length = l.length → (∀ y ∈ ys, P y) → Q ((acc ++ ys).map .int) G) → lcL (gNameD i) tYesD te l (acc.map .int) ρ G Q
  | [], acc, q => by have := q [] rfl (fun _ z => (nomatch z)); rw [List.append_nil] at this; exact this
  | x :: l, acc, q => by
    show te (ρ.set i (some x)) G (fun d G4 => lcL (gNameD i) tYesD te l (acc.map .int ++ [d]) ρ G4 Q) _
    refine h x _ _ fun y hy => ?_
    have e : acc.map Y.D.int ++ [.int y] = (acc ++ [y]).map .int := by rw [List.map_append]; rfl
    rw [e]
    refine lc_draw h l (acc ++ [y]) fun ys h1 h2 => ?_
    rw [List.append_assoc]
    exact q (y :: ys) (by rw [List.length_cons, List.length_cons, h1]) fun z hz => by
      rcases List.mem_cons.mp hz with rfl | hz
      · exact hy
      · exact h2 z hz
theorem rngD_succ {lo : Int} {m : Nat} : rngD lo (m + 1) = .int lo :: rngD (lo + 1) m := by
  unfold rngD
  rw [List.range_succ_eq_map, List.map_cons, List.map_map]
  have e : (List.range m).map ((fun (i : Nat) => D.int (lo + (i : Int))) ∘ Nat.succ) = (List.range m).map fun (i : Nat) => D.int (lo + 1 + (i : Int)) := List.map_congr_left fun i _ => by
    show D.int (lo + ((i + 1 : Nat) : Int)) = D.int (lo + 1 + (i : Int))
    rw [show lo + ((i + 1 : Nat) : Int) = lo + 1 + (i : Int) by omega]
  rw [e, show lo + ((0 : Nat) : Int) = lo by omega]
theorem rngD_len {lo : Int} {m : Nat} : (rngD lo m).length = m := by unfold rngD; rw [List.length_map, List.length_range]
theorem eqD_intsS {a : List Int} : eqD (.lst (a.map .int)) (.lst (a.map .int)) = true := by
  have h : PyData.eqvAll (toPyL (a.map .int)) (toPyL (a.map .int)) = true := by
    induction a with
    | nil => simp [toPyL, PyData.eqvAll]
    | cons t a ih =>
      show PyData.eqvAll (.int t :: toPyL (a.map .int)) (.int t :: toPyL (a.map .int)) = true
      rw [PyData.eqvAll, ih]
      simp [PyData.eqv]
  show PyData.eqv (.list (toPyL (a.map .int))) (.list (toPyL (a.map .int))) = true
  rw [PyData.eqv]; exact h
theorem okD_pairs {ps : List (Int × List Int)} (h : ∀ p ∈ ps, p.2.length ≤ 1000000) (hl : ps.length ≤ 1000000) : okD (.lst (ps.map pairI)) = true := okD_of (k := 3) (by decide) (dep_mapL (k := 2) (fun p hp => by
  show (dep 1 (.int p.1) && (dep 1 (tupI p.2) && true) && decide (2 ≤ 1000000)) = true
  rw [dep_tupI (h p hp)]; rfl) hl)
/-- what the law takes as the least -/
theorem pick_eq {L : List (Int × List Int)} {o : Option (List Int)} {ρ : Rho} {G : GS} {Q : QD} {E : QE} (h9 : ρ[9]? = some (some (.lst (L.map pairI)))) (hm : LeastOf L o)
    (ok : okD (.lst (L.map pairI)) = true) (q : Q (optT o) G) :
    (tIfED (tTestD (tOpD Y.rNeD (tVarD 9) (tLstD tNilD))) (tOpD Y.rIxD (tCBD rMinPD (tConsD (tVarD 9) tNilD)) (tCD (.int 1))) (tCD .non)) ρ G Q E := by
  show (match ρ[9]? with | some (some d) => _ | _ => False)
  rw [h9]
  refine ⟨(show 0 ≤ 16777216 by decide), ok, (show okD (.lst []) = true by decide), ?_⟩
  show (if (!eqD (.lst (L.map pairI)) (.lst [])) = true then _ else _)
  rw [eqD_nil]
  cases o with
  | none =>
    have hm : L = [] := hm
    rw [hm]
    exact q
  | some l =>
    obtain ⟨p, ps, e1, e2⟩ := hm
    rw [e1]
    show (if true = true then _ else _)
    rw [if_pos rfl]
    show (match ρ[9]? with | some (some d) => _ | _ => False)
    rw [h9]
    dsimp only
    refine ⟨p, ps, by rw [e1], ?_⟩
    show Q (tupI (minP p ps).2) G
    rw [e2]; exact q
theorem opt_len {n : Int} {row l : List Int} (h : partN0 n row = some l ∨ manyN0 n row = some l) : l.length ≤ row.length := by
  rcases h with h | h
  · unfold partN0 at h
    obtain ⟨m, _, rfl⟩ := Option.map_eq_some_iff.mp h
    exact lpN_len _ _ _ _
  · unfold manyN0 at h
    split at h
    · cases h; exact lpN_len _ _ _ _
    · cases h
theorem dep_opt {o : Option (List Int)} (h : ∀ l, o = some l → l.length ≤ 1000000) : dep 1 (optT o) = true := by
  cases o with
  | none => rfl
  | some l => exact dep_tupI (h l rfl)
/-- the three calls on a row that is one -/
theorem zp_call {n : Int} {row : List Int} {G : GS} {Q : QD} {E : QE} (n1 : 1 ≤ n) (n2 : n ≤ 20) (hl : row.length ≤ 40) (hr : ∀ x ∈ row, 0 ≤ x ∧ x < n) (q : Q (optT (partN0 n row)) G) : sp_zero_part [.int n, tupI row] G Q E := by
  refine ⟨.int n, tupI row, rfl, rfl, rfl, plains_tupI, ?_⟩
  rw [rowErr_ok n1 n2 hl hr]
  intro n' row' e1 e2 _ _ _ _
  cases e1
  have e2 := tup_inj e2
  subst e2
  exact q
theorem zm_call {n : Int} {row : List Int} {G : GS} {Q : QD} {E : QE} (n1 : 1 ≤ n) (n2 : n ≤ 20) (hl : row.length ≤ 40) (hr : ∀ x ∈ row, 0 ≤ x ∧ x < n) (q : Q (optT (manyN0 n row)) G) : sp_zero_many [.int n, tupI row] G Q E := by
  refine ⟨.int n, tupI row, rfl, rfl, rfl, plains_tupI, ?_⟩
  rw [rowErr_ok n1 n2 hl hr]
  intro n' row' e1 e2 _ _ _ _
  cases e1
  have e2 := tup_inj e2
  subst e2
  exact q
theorem cz_call {n : Int} {row : List Int} {G : GS} {Q : QD} {E : QE} (n1 : 1 ≤ n) (n2 : n ≤ 20) (hl : row.length ≤ 40) (hr : ∀ x ∈ row, 0 ≤ x ∧ x < n) (q : Q (.int (cntP n row (fun _ t => decide (t = 0)) : Int)) G) : sp_count_zero [.int n, tupI row] G Q E := by
  refine ⟨.int n, tupI row, rfl, rfl, rfl, plains_tupI, ?_⟩
  rw [rowErr_ok n1 n2 hl hr]
  intro n' row' e1 e2 _ _ _ _
  cases e1
  have e2 := tup_inj e2
  subst e2
  exact q
theorem good_len {n : Int} {row : List Int} (hn : 0 < n) : ((goodZ n row).length : Int) = (cntP n row (fun _ t => decide (t = 0)) : Int) := by
  unfold goodZ
  rw [List.length_map]
  have := sets_count (row := row) hn row.length (fun _ t => decide (t = 0)) (Nat.le_refl _)
  rw [List.take_length] at this
  rw [← this]
theorem non_opt {o : Option (List Int)} {G : GS} {Q : QD} (h : ∃ l, o = some l) (q : Q (.bl false) G) : rIsD (optT o) .non G Q := by
  obtain ⟨l, rfl⟩ := h
  exact q
theorem mul_2 {x : Int} : CMul 2 x ∨ CMulW 2 x := .inl (.inl ⟨by decide, by decide⟩)
theorem call2 {sp : SpD} {ta tb : TEd} {d1 d2 : D} {ρ : Rho} {G : GS} {Q : QD} {E : QE} (ha : ∀ (Q : QD) (E : QE), Q d1 G → ta ρ G Q E) (hb : ∀ (Q : QD) (E : QE), Q d2 G → tb ρ G Q E) (q : sp [d1, d2] G Q E) : tCallD sp (tConsD ta (tConsD tb tNilD)) ρ G Q E := ha _ _ (hb _ _ q)
theorem add_call {ta tb : TEd} {a b : List Int} {ρ : Rho} {G : GS} (ha : ∀ (Q : QD) (E : QE), Q (tupI a) G → ta ρ G Q E) (hb : ∀ (Q : QD) (E : QE), Q (tupI b) G → tb ρ G Q E) (hl : a.length + b.length ≤ 16777216) (Q : QD) (E : QE) (q : Q (tupI (a ++ b)) G) : tOpD rAddD ta tb ρ G Q E := by
  refine ha _ _ (hb _ _ ⟨by rw [List.length_map, List.length_map]; exact hl, ?_⟩)
  rw [← List.map_append]
  exact q
theorem two_call {ta tb : TEd} {d1 d2 : D} {ρ : Rho} {G : GS} (ha : ∀ (Q : QD) (E : QE), Q d1 G → ta ρ G Q E) (hb : ∀ (Q : QD) (E : QE), Q d2 G → tb ρ G Q E) (Q : QD) (E : QE) (q : Q (.lst [d1, d2]) G) : tLstD (tConsD ta (tConsD tb tNilD)) ρ G Q E := ha _ _ (hb _ _ ⟨(show 2 ≤ 16777216 by decide), q⟩)
def NoW (t : TTd) (ρ : Rho) (G : GS) : Prop := ∀ (Q : Bool → GS → Prop) (E : QE), Q false G → t ρ G Q E
theorem or_no {t u : TTd} {ρ : Rho} {G : GS} (h1 : NoW t ρ G) (h2 : NoW u ρ G) : NoW (tOrD t u) ρ G := fun Q E q => h1 _ _ (h2 _ _ q)
theorem if_no {t : TTd} {u : TSd} {D : EndsD} {ρ : Rho} {G : GS} (h : NoW t ρ G) (q : D.nx ρ G) : tIfSD t u tNextD D ρ G := h _ _ q
theorem seq_no {t : TTd} {u v : TSd} {D : EndsD} {ρ : Rho} {G : GS} (h : NoW t ρ G) (q : v D ρ G) : tSeqD (tIfSD t u tNextD) v D ρ G := h _ _ q
theorem seq_eq {ta tb : TEd} {d : D} {u v : TSd} {D : EndsD} {ρ : Rho} {G : GS} (ha : ∀ (Q : QD) (E : QE), Q d G → ta ρ G Q E) (hb : ∀ (Q : QD) (E : QE), Q d G → tb ρ G Q E) (hd : dep 1 d = true) (q : v D ρ G) :
    tSeqD (tIfSD (tNotD (tTestD (tCallD (sp_eq 1) (tConsD ta (tConsD tb tNilD))))) u tNextD) v D ρ G := ha _ _ (hb _ _ ⟨d, rfl, hd, q⟩)
set_option maxHeartbeats 4000000 in
theorem turn21 {N : Nat} {row : List Int} {s0 s1 s2 s5 s6 s7 s8 s9 s10 s11 s13 s14 : Option D} {G : GS} {D' : EndsD} (n1 : 1 ≤ N) (n2 : N ≤ 20) (hl : row.length ≤ 10) (hr : ∀ x ∈ row, 0 ≤ x ∧ x < (N : Int))
    (q : ∀ a7 a8 a9 a12, D'.nx [s0, s1, s2, some (.int (N : Int)), some (tupI row), s5, s6, a7, a8, a9, s10, s11, a12, s13, s14] G) :
    tTurn21 D' [s0, s1, s2, some (.int (N : Int)), some (tupI row), s5, s6, s7, s8, s9, s10, s11, some (.lst [.tup []]), s13, s14] G := by
  have hn : (0 : Int) < (N : Int) := by omega
  have hlm : (row.map Y.D.int).length = row.length := List.length_map _
  have few : ∀ k, k ≤ row.length → (setsP k).length ≤ 1024 := fun k hk => by
    rw [setsP_len]
    exact (show 2 ^ k ≤ 2 ^ 10 from Nat.pow_le_pow_right (by decide) (by omega))
  refine ⟨⟨?_, ?_⟩, ?_⟩
  · show -(2 ^ 62) ≤ (((row.map Y.D.int).length : Nat) : Int); omega
  · show (((row.map Y.D.int).length : Nat) : Int) < 2 ^ 62; omega
  show forL _ _ _ (rngD 0 (((row.map Y.D.int).length : Nat) : Int).toNat) _ _
  rw [hlm, Int.toNat_natCast]
  refine for_inv (I := fun l ρ G' => G' = G ∧ ∃ (t : Nat) (a7 : Option Y.D), l = rngD (t : Int) (row.length - t) ∧ t ≤ row.length ∧ ρ = [s0, s1, s2, some (.int (N : Int)), some (tupI row), s5, s6, a7, s8, s9, s10, s11, some (.lst ((setsP t).map tupI)), s13, s14]) _ _ _ ⟨rfl, 0, s7, rfl, Nat.zero_le _, rfl⟩ ?_ ?_
  · rintro x l _ G ⟨rfl, t, a7, el, ht, rfl⟩ E' r1 r2 r3 nx ct
    cases hm : row.length - t with
    | zero => rw [hm] at el; cases el
    | succ m =>
      rw [hm, rngD_succ] at el
      injection el with e1 e2
      subst e1 e2
      have hf := few t ht
      dsimp only [gNameD, List.set_cons_succ, List.set_cons_zero]
      refine ⟨by rw [List.length_map]; omega, ?_⟩
      refine lc_fm (e := tupI) (f := fun l => tupI (l ++ [(t : Int)])) (p := fun _ => true) (setsP t) [] (fun l hx Q' Ed q' => q') (fun l hx hp' Q' Ed q' => ?_) ?_
      · have := (setsP_asc t l hx).2
        refine ⟨(show 1 ≤ 16777216 by decide), by rw [List.length_map]; show l.length + 1 ≤ _; omega, ?_⟩
        have e : l.map D.int ++ [.int (t : Int)] = (l ++ [(t : Int)]).map .int := by rw [List.map_append]; rfl
        show Q' (.tup (l.map D.int ++ [.int (t : Int)])) _
        rw [e]
        exact q'
      · have e : ((setsP t).filter fun _ => true).map (fun l => tupI (l ++ [(t : Int)])) = ((setsP t).map fun l => l ++ [(t : Int)]).map tupI := by
          rw [List.filter_eq_self.mpr (fun _ _ => rfl), List.map_map]; rfl
        rw [List.nil_append, e]
        refine ⟨by rw [List.length_map, List.length_map, List.length_map]; omega, ?_⟩
        rw [← List.map_append, ← setsP_succ]
        exact nx _ _ ⟨rfl, t + 1, _, by rw [show row.length - (t + 1) = m by omega, show (((t + 1 : Nat)) : Int) = (t : Int) + 1 by omega], by omega, rfl⟩
  rintro _ G ⟨rfl, t, a7, el, ht, rfl⟩
  have : t = row.length := by
    cases hm : row.length - t with
    | zero => omega
    | succ m => rw [hm, rngD_succ] at el; cases el
  subst this
  have hf := few _ (Nat.le_refl row.length)
  have hgl : (goodZ (N : Int) row).length ≤ 1024 := by
    unfold goodZ
    rw [List.length_map]
    exact Nat.le_trans (List.length_filter_le _ _) hf
  have hgs : ∀ p ∈ goodZ (N : Int) row, p.2.length ≤ 1000000 := fun p hp => by
    have := wit_short (mem_goodZ.mp hp).2
    omega
  refine ⟨by rw [List.length_map]; omega, ?_⟩
  refine lc_fm (e := tupI) (f := fun s => pairI ((s.length : Int), s)) (p := fun s => decide (totA row s % (N : Int) = 0)) (setsP row.length) [] (fun s hx Q' Ed q' => ?_) (fun s hx hp' Q' Ed q' => ?_) ?_
  · obtain ⟨h1, h2⟩ := setsP_asc _ s hx
    refine ⟨(N : Int), row, s, rfl, hn, fun i hi => ⟨h1.ge i hi, h1.lt i hi⟩, by omega, rfl, rfl, ?_⟩
    show Q' (eqD (.int (totA row s % (N : Int))) (.int 0)) G
    rw [eqD_int]
    exact q'
  · refine ⟨(show 2 ≤ 16777216 by decide), ?_⟩
    show Q' (.tup [.int (((s.map Y.D.int).length : Nat) : Int), tupI s]) G
    rw [List.length_map]
    exact q'
  have eg : ((setsP row.length).filter fun s => decide (totA row s % (N : Int) = 0)).map (fun s => pairI ((s.length : Int), s)) = (goodZ (N : Int) row).map pairI := by
    unfold goodZ
    rw [List.map_map]; rfl
  rw [List.nil_append, eg]
  dsimp only [List.set_cons_succ, List.set_cons_zero]
  refine seq_eq (d := .int (cntP (N : Int) row (fun _ t => decide (t = 0)) : Int)) (fun Q E q => ?_) (fun Q E q => ?_) rfl ?_
  · show sp_count_zero [.int (N : Int), tupI row] G Q E
    exact cz_call (by omega) (by omega) (by omega) hr q
  · show Q (.int ((((goodZ (N : Int) row).map pairI).length : Nat) : Int)) G
    rw [List.length_map, good_len hn]; exact q
  refine ⟨by rw [List.length_map]; omega, ?_⟩
  refine lc_fm (e := pairI) (f := pairI) (p := fun p => decide (0 < p.1)) (goodZ (N : Int) row) [] (fun p hx Q' Ed q' => q') (fun p hx hp' Q' Ed q' => q') ?_
  rw [List.nil_append]
  have ok1 : ∀ F : Int × List Int → Bool, okD (.lst (((goodZ (N : Int) row).filter F).map pairI)) = true := fun F => okD_pairs (fun p hp => hgs p (List.mem_filter.mp hp).1) (by have := List.length_filter_le F (goodZ (N : Int) row); omega)
  dsimp only [List.set_cons_succ, List.set_cons_zero]
  refine seq_eq (d := optT (partN0 (N : Int) row)) (fun Q E q => ?_) (fun Q E q => pick_eq (o := partN0 (N : Int) row) rfl (part_min (row := row) hn) (ok1 _) q) (dep_opt fun l h => by have := opt_len (.inl h); omega) ?_
  · show sp_zero_part [.int (N : Int), tupI row] G Q E
    exact zp_call (by omega) (by omega) (by omega) hr q
  refine ⟨by rw [List.length_map]; omega, ?_⟩
  refine lc_fm (e := pairI) (f := pairI) (p := fun p => decide (p.1 = (N : Int))) (goodZ (N : Int) row) [] (fun p hx Q' Ed q' => ?_) (fun p hx hp' Q' Ed q' => q') ?_
  · refine ⟨rfl, rfl, ?_⟩
    show Q' (eqD (.int p.1) (.int (N : Int))) G
    rw [eqD_int]
    exact q'
  rw [List.nil_append]
  dsimp only [List.set_cons_succ, List.set_cons_zero]
  refine seq_eq (d := optT (manyN0 (N : Int) row)) (fun Q E q => ?_) (fun Q E q => pick_eq (o := manyN0 (N : Int) row) rfl (many_min (row := row) hn) (ok1 _) q) (dep_opt fun l h => by have := opt_len (.inr h); omega) ?_
  · show sp_zero_many [.int (N : Int), tupI row] G Q E
    exact zm_call (by omega) (by omega) (by omega) hr q
  refine if_no (or_no (fun Q E q => ?_) fun Q E q => ?_) (q _ _ _ _)
  · show (if decide ((N : Int) ≤ (((row.map Y.D.int).length : Nat) : Int)) = true then sp_zero_part [.int (N : Int), tupI row] G (fun d G1 => rIsD d .non G1 fun z G2 => match z with | .bl b => Q b G2 | _ => False) E else Q false G)
    rw [hlm]
    by_cases c : N ≤ row.length
    · rw [decide_eq_true (by omega), if_pos rfl]
      obtain ⟨m, hm, _⟩ := part_some n1 c
      refine zp_call (by omega) (by omega) (by omega) hr (non_opt (show ∃ l, partN0 (N : Int) row = some l from ⟨lpN (N : Int) row 0 m 0, by unfold partN0; rw [hm]; rfl⟩) q)
    · rw [decide_eq_false (by omega), if_neg (by decide)]
      exact q
  · refine ⟨mul_2, ?_⟩
    show (if decide ((2 : Int) * (N : Int) - 1 ≤ (((row.map Y.D.int).length : Nat) : Int)) = true then sp_zero_many [.int (N : Int), tupI row] G (fun d G1 => rIsD d .non G1 fun z G2 => match z with | .bl b => Q b G2 | _ => False) E else Q false G)
    rw [hlm]
    by_cases c : 2 * N ≤ row.length + 1
    · rw [decide_eq_true (by omega), if_pos rfl]
      have hm := many_some n1 c
      refine zm_call (by omega) (by omega) (by omega) hr (non_opt (show ∃ l, manyN0 (N : Int) row = some l from ⟨lpN (N : Int) row 0 N 0, by unfold manyN0; rw [Int.toNat_natCast, hm, if_pos rfl]⟩) q)
    · rw [decide_eq_false (by omega), if_neg (by decide)]
      exact q
theorem setL_id {l : List Int} (h : l.Pairwise (· < ·)) : setL l = l := asc_ext (setL_asc l) h fun x => mem_setL
theorem seq_par {i j : Nat} {ta tb : TEd} {u : TSd} {D : EndsD} {ρ : Rho} {G : GS} (P P' : Y.D → Prop) (h1 : ∀ (Q : QD) (E : QE), (∀ d, P d → Q d G) → ta ρ G Q E) (h2 : ∀ (Q : QD) (E : QE), (∀ d, P' d → Q d G) → tb ρ G Q E)
    (h : ∀ d e, P d → P' e → u D ((ρ.set i (some d)).set j (some e)) G) : tSeqD (tPar2D i j (tConsD ta (tConsD tb tNilD))) u D ρ G := h1 _ _ fun d hd => h2 _ _ fun e he => h d e hd he
theorem seq_one {i : Nat} {ta : TEd} {u : TSd} {D : EndsD} {ρ : Rho} {G : GS} (P : Y.D → Prop) (h1 : ∀ (Q : QD) (E : QE), (∀ d, P d → Q d G) → ta ρ G Q E) (h : ∀ d, P d → u D (ρ.set i (some d)) G) : tSeqD (tSetD i ta) u D ρ G := h1 _ _ h
theorem ne_no {ta tb : TEd} {d : D} {ρ : Rho} {G : GS} (ha : ∀ (Q : QD) (E : QE), Q d G → ta ρ G Q E) (hb : ∀ (Q : QD) (E : QE), Q d G → tb ρ G Q E) (ev : vw G d = d) (ok : okD d = true) (eq : eqD d d = true) : NoW (tTestD (tOpD Y.rNeD ta tb)) ρ G := fun Q E q => by
  refine ha _ _ (hb _ _ ?_)
  show okD (vw G d) = true ∧ okD (vw G d) = true ∧ (match D.bl (!eqD (vw G d) (vw G d)) with | .bl b => Q b G | _ => False)
  rw [ev, eq]
  exact ⟨ok, ok, q⟩
theorem ne_int {ta tb : TEd} {i : Int} {ρ : Rho} {G : GS} (ha : ∀ (Q : QD) (E : QE), Q (.int i) G → ta ρ G Q E) (hb : ∀ (Q : QD) (E : QE), Q (.int i) G → tb ρ G Q E) : NoW (tTestD (tOpD Y.rNeD ta tb)) ρ G := ne_no ha hb rfl rfl (by rw [eqD_int]; exact decide_eq_true rfl)
theorem rep_call {ta tb : TEd} {a : Int} {k : Nat} {ρ : Rho} {G : GS} (hk : k ≤ 1000) (ha : ∀ (Q : QD) (E : QE), Q (.int a) G → ta ρ G Q E) (hb : ∀ (Q : QD) (E : QE), Q (.int (k : Int)) G → tb ρ G Q E) (Q : QD) (E : QE) (q : Q (tupI (List.replicate k a)) G) : tOpD rRepT2D (tTupD (tConsD ta tNilD)) tb ρ G Q E := by
  refine ha _ _ ⟨(show 1 ≤ 16777216 by decide), hb _ _ ⟨List.cons_ne_nil _ _, (show (0 : Int) ≤ (k : Int) by omega), (show (k : Int) ≤ 1000 by omega), (show 1 ≤ 1000 by decide), ?_⟩⟩
  show Q (.tup (List.replicate ((k : Int)).toNat [Y.D.int a]).flatten) G
  rw [Int.toNat_natCast, rep_tup]
  exact q
theorem mem_rep {k : Nat} {a x : Int} (h : x ∈ List.replicate k a) : x = a := (List.mem_replicate.mp h).2
set_option maxHeartbeats 4000000 in
theorem tail21 {N k : Nat} {row : List Int} {s0 s2 s5 s6 s7 s8 s9 s10 s11 s12 s13 s14 : Option D} {G : GS} {Q : QD} {E : QE} (n1 : 1 ≤ N) (n2 : N ≤ 20) (hl : row.length = 2 * N - 1) (hr : ∀ x ∈ row, 0 ≤ x ∧ x < (N : Int)) (eg : G[k]? = some .rnd) (q : ∀ G', Q (.bl true) G') :
    tTail21 (endsG Q E) [s0, some (.obj k), s2, some (.int (N : Int)), some (tupI row), s5, s6, s7, s8, s9, s10, s11, s12, s13, s14] G := by
  have hn : (0 : Int) < (N : Int) := by omega
  obtain ⟨lm, em⟩ : ∃ l, manyN0 (N : Int) row = some l := ⟨_, by
    unfold manyN0
    rw [Int.toNat_natCast, many_some n1 (by omega), if_pos rfl]⟩
  obtain ⟨m, hm, m1, m2⟩ := part_some n1 (row := row) (by omega)
  obtain ⟨lp, ep⟩ : ∃ l, partN0 (N : Int) row = some l := ⟨_, by
    unfold partN0
    rw [hm]; rfl⟩
  have wm : Wit (N : Int) row 0 N 0 lm := by
    have hb := many_some n1 (row := row) (by omega)
    have := em
    unfold manyN0 at this
    rw [Int.toNat_natCast, hb, if_pos rfl] at this
    cases this
    exact lp_wit (row := row) hn row [] N 0 rfl (Int.le_refl 0) hn hb
  have wp : Wit (N : Int) row 0 m 0 lp := by
    have := ep
    unfold partN0 at this
    rw [hm] at this
    cases this
    exact lp_wit (row := row) hn row [] m 0 rfl (Int.le_refl 0) hn (zeroM_some hn hm).1
  refine seq_par (P := fun d => d = tupI lm) (P' := fun d => d = tupI lp) (fun Q E h => ?_) (fun Q E h => ?_) ?_
  · show sp_zero_many [.int (N : Int), tupI row] G Q E
    refine zm_call (by omega) (by omega) (by omega) hr ?_
    rw [em]; exact h _ rfl
  · show sp_zero_part [.int (N : Int), tupI row] G Q E
    refine zp_call (by omega) (by omega) (by omega) hr ?_
    rw [ep]; exact h _ rfl
  rintro _ _ rfl rfl
  dsimp only [List.set_cons_succ, List.set_cons_zero]
  have tot : ∀ {l : List Int} {m : Nat} {te : TEd} {ρ : Rho}, Wit (N : Int) row 0 m 0 l → (∀ (Q : QD) (E : QE), Q (tupI l) G → te ρ G Q E) → ρ[3]? = some (some (.int (N : Int))) → ρ[4]? = some (some (tupI row)) → NoW (tTestD (tOpD Y.rNeD (tCallD sp__law_total (tConsD (tVarD 3) (tConsD (tVarD 4) (tConsD te tNilD)))) (tCD (.int 0)))) ρ G := fun {l m te ρ} w ht h3 h4 => ne_int (fun Q E q => by
      show (match ρ[3]? with | some (some d) => _ | _ => False)
      rw [h3]
      show (match ρ[4]? with | some (some d) => _ | _ => False)
      rw [h4]
      refine ht _ _ ?_
      refine ⟨(N : Int), row, l, rfl, hn, fun i hi => ⟨w.asc.ge i hi, w.asc.lt i hi⟩, by have := wit_short w; rw [w.len]; omega, ?_⟩
      rw [w.sum]; exact q) (fun Q E q => q)
  refine seq_no (or_no (fun Q E q => q) (or_no (ne_int (i := (N : Int)) (fun Q E q => ?_) fun Q E q => q) (or_no (ne_no (d := .lst (lm.map .int)) (fun Q E q => q) (fun Q E q => ?_) rfl okD_ints eqD_intsS) (tot wm (fun Q E q => q) rfl rfl)))) ?_
  · show Q (.int (((lm.map Y.D.int).length : Nat) : Int)) G
    rw [List.length_map, wm.len]; exact q
  · show (match intsD (lm.map .int) with | some ns => ns.length ≤ 4000 ∧ (nub ns).length < 64 ∧ Q (.lst ((setL ns).map .int)) G | none => False)
    rw [intsD_map]
    have hw := wm.len
    refine ⟨by omega, ?_, ?_⟩
    · have := nodup_leT (nodup_nub lm) (b := lm) fun x hx => mem_nub.mp hx
      omega
    · rw [setL_id wm.asc.up]; exact q
  refine seq_no (or_no (fun Q E q => q) (or_no (fun Q E q => ?_) (tot wp (fun Q E q => q) rfl rfl))) ?_
  · show (match Y.D.bl (decide ((1 : Int) ≤ (((lp.map Y.D.int).length : Nat) : Int))) with | .bl true => _ | .bl false => _ | _ => False)
    rw [List.length_map, wp.len, decide_eq_true (by omega)]
    show Q (!decide ((m : Int) ≤ (N : Int))) G
    rw [decide_eq_true (by omega)]; exact q
  have ek : (N : Int) - 1 = ((N - 1 : Nat) : Int) := by omega
  have ones_ok : ∀ x ∈ List.replicate (N - 1) ((1 : Int) % (N : Int)), 0 ≤ x ∧ x < (N : Int) := fun x hx => by
    rw [mem_rep hx]
    exact ⟨Int.emod_nonneg _ (by omega), Int.emod_lt_of_pos _ hn⟩
  refine seq_one (P := fun d => d = tupI (List.replicate (N - 1) ((1 : Int) % (N : Int)))) (fun Q E h => rep_call (by omega) (fun Q E q => ⟨hn, q⟩) (fun Q E q => by
    show Q (.int ((N : Int) - 1)) G
    rw [ek]; exact q) Q E (h _ rfl)) ?_
  rintro _ rfl
  dsimp only [List.set_cons_succ, List.set_cons_zero]
  refine seq_one (P := fun d => d = .lst [optT (partN0 (N : Int) (List.replicate (N - 1) ((1 : Int) % (N : Int)))), optT (manyN0 (N : Int) (List.replicate (N - 1) ((1 : Int) % (N : Int)) ++ List.replicate (N - 1) 0))]) (fun Q E h => two_call (fun Q E q => ?_) (fun Q E q => ?_) Q E (h _ rfl)) ?_
  · show sp_zero_part [.int (N : Int), tupI (List.replicate (N - 1) ((1 : Int) % (N : Int)))] G Q E
    exact zp_call (by omega) (by omega) (by rw [List.length_replicate]; omega) ones_ok q
  · refine call2 (d1 := .int (N : Int)) (d2 := tupI (List.replicate (N - 1) ((1 : Int) % (N : Int)) ++ List.replicate (N - 1) 0)) (fun Q E q => q) (fun Q E q => add_call (a := List.replicate (N - 1) ((1 : Int) % (N : Int))) (b := List.replicate (N - 1) 0) (fun Q E q => q) (fun Q E q => rep_call (k := N - 1) (a := 0) (by omega) (fun Q E q => q) (fun Q E q => by
      show Q (.int ((N : Int) - 1)) G
      rw [ek]; exact q) Q E q) (by rw [List.length_replicate, List.length_replicate]; omega) Q E q) ?_
    refine zm_call (by omega) (by omega) (by rw [List.length_append, List.length_replicate, List.length_replicate]; omega) (fun x hx => ?_) q
    rcases List.mem_append.mp hx with hx | hx
    · exact ones_ok x hx
    · rw [mem_rep hx]; omega
  rintro _ rfl
  dsimp only [List.set_cons_succ, List.set_cons_zero]
  refine seq_no (fun Q E q => ?_) ?_
  · show (if decide ((1 : Int) < (N : Int)) = true then _ else _)
    by_cases c : 2 ≤ N
    · rw [decide_eq_true (by omega), if_pos rfl]
      have e1 : (1 : Int) % (N : Int) = 1 := Int.emod_eq_of_lt (by decide) (by omega)
      rw [e1]
      have o1 := ones_none c
      have o2 := ones_many c
      unfold onesR at o1 o2
      rw [o1, o2]
      refine ⟨(show 2 ≤ 16777216 by decide), (show okD (.lst [.non, .non]) = true by decide), (show okD (.lst [.non, .non]) = true by decide), ?_⟩
      show Q (!eqD (.lst [.non, .non]) (.lst [.non, .non])) G
      rw [show eqD (.lst [.non, .non]) (.lst [.non, .non]) = true by decide]; exact q
    · rw [decide_eq_false (by omega), if_neg (by decide)]
      exact q
  refine seq_no (or_no (ne_int (i := 2 ^ 40) (fun Q E q => ?_) fun Q E q => ⟨⟨by decide, by decide, by decide⟩, q⟩) (ne_int (i := 2 ^ 39) (fun Q E q => ?_) fun Q E q => ⟨⟨by decide, by decide, by decide⟩, q⟩)) ?_
  · refine rep_call (k := 40) (a := 0) (by decide) (fun Q E q => q) (fun Q E q => q) _ _ ?_
    refine cz_call (by decide) (by decide) (by decide) (fun x hx => by rw [mem_rep hx]; decide) ?_
    rw [zeros_40]; exact q
  · refine rep_call (k := 40) (a := 1) (by decide) (fun Q E q => q) (fun Q E q => q) _ _ ?_
    refine cz_call (by decide) (by decide) (by decide) (fun x hx => by rw [mem_rep hx]; decide) ?_
    rw [ones_40]; exact q
  refine ⟨(show 1 ≤ 16777216 by decide), (show 6 ≤ 16777216 by decide), ?_⟩
  refine ⟨k, [.non, .int (-1), .int (N : Int), .str "0", .bl true, .tup [.int 0]], rfl, eg, (show 0 < 6 by decide), (show 6 < 1073741824 by decide), rfl, fun d hd => ?_⟩
  refine ⟨(N : Int), row, d, rfl, by omega, by omega, hr, by omega, ?_, ?_, q _⟩
  · simp only [List.mem_cons, List.mem_nil_iff, or_false] at hd
    rcases hd with rfl | rfl | rfl | rfl | rfl | rfl <;> rfl
  · simp only [List.mem_cons, List.mem_nil_iff, or_false] at hd
    rcases hd with rfl | rfl | rfl | rfl | rfl | rfl
    · rfl
    · rfl
    · show (decide (0 ≤ (N : Int)) && decide ((N : Int) ≤ (N : Int) - 1)) = false
      rw [decide_eq_false (show ¬ (N : Int) ≤ (N : Int) - 1 by omega), Bool.and_false]
    · rfl
    · rfl
    · rfl
def sp_law : SpD := fun ds G Q E => ∃ ns, ds = [.scr ns] ∧ ns.length ≤ 63 ∧ ∀ G', Q (.bl true) G'
theorem len_law : ∀ ds G Q E, sp_law ds G Q E → ds.length = p_law.length := by rintro _ _ _ _ ⟨k, rfl, _⟩; rfl
set_option maxHeartbeats 4000000 in
theorem sem_law : ∀ ds G Q E, sp_law ds G Q E → t_law sp_zero_part sp_zero_many sp_count_zero sp__law_random sp__law_below sp__law_pick (sp_eq 1) sp__law_total sp__law_all_refused (endsG Q E) (startD n_law.length ds) G := by
  rintro _ G0 Q E ⟨ns, rfl, hl, q⟩
  refine ⟨ns, 2121, rfl, hl, by decide, by decide, ?_⟩
  have eg : (G0 ++ [MO.rnd])[G0.length]? = some .rnd := (getLast_set (m' := .dead)).1
  generalize G0.length = k at eg ⊢
  generalize G0 ++ [MO.rnd] = G at eg ⊢
  refine ⟨⟨by decide, by decide⟩, ?_⟩
  refine for_inv (I := fun l ρ G' => G' = G ∧ ∃ a2 a3 a4 a5 a6 a7 a8 a9 a10 a11 a12 a13 a14 : Option D, ρ = [some (.scr ns), some (.obj k), a2, a3, a4, a5, a6, a7, a8, a9, a10, a11, a12, a13, a14]) _ _ _ ⟨rfl, none, none, none, none, none, none, none, none, none, none, none, none, none, rfl⟩ ?_ ?_
  · rintro x l _ G ⟨rfl, a2, a3, a4, a5, a6, a7, a8, a9, a10, a11, a12, a13, a14, rfl⟩ D' r1 r2 r3 nx ct
    dsimp only [gNameD, List.set_cons_succ, List.set_cons_zero]
    refine seq_set (fun d => ∃ N : Nat, d = .int (N : Int) ∧ 1 ≤ N ∧ N ≤ 9) (fun Q' hQ => ?_) ?_
    · refine ⟨(show 2 ≤ 16777216 by decide), k, [.int 4, .int 9], rfl, eg, by decide, by decide, rfl, fun d hd => ?_⟩
      have : ∃ b : Int, d = .int b ∧ 0 < b ∧ b ≤ 9 := by
        simp only [List.mem_cons, List.mem_nil_iff, or_false] at hd
        rcases hd with rfl | rfl
        · exact ⟨_, rfl, by decide, by decide⟩
        · exact ⟨_, rfl, by decide, by decide⟩
      obtain ⟨b, rfl, b1, b2⟩ := this
      refine ⟨k, b, rfl, eg, b1, by omega, fun y y1 y2 => hQ _ ⟨(1 + y).toNat, ?_, by omega, by omega⟩⟩
      show D.int (1 + y) = D.int (((1 + y).toNat : Nat) : Int)
      rw [Int.toNat_of_nonneg (by omega)]
    rintro _ ⟨N, rfl, n1, n2⟩
    refine ⟨k, 10, rfl, eg, by decide, by decide, fun y y1 y2 => ⟨⟨by omega, by omega⟩, ?_⟩⟩
    refine ⟨by rw [rngD_len]; omega, ?_⟩
    refine lc_draw (P := fun z => 0 ≤ z ∧ z < (N : Int)) (fun x Q' Ed h => ⟨k, (N : Int), rfl, eg, by omega, by omega, fun m m1 m2 => h m ⟨m1, m2⟩⟩) _ [] fun row h1 h2 => ?_
    rw [List.nil_append]
    rw [rngD_len] at h1
    refine ⟨(show 0 ≤ 16777216 by decide), (show 1 ≤ 16777216 by decide), (show 2 ≤ 16777216 by decide), ?_⟩
    exact turn21 n1 (by omega) (by omega) h2 fun a7 a8 a9 a12 => nx _ _ ⟨rfl, _, _, _, _, _, _, _, _, _, _, _, _, _, rfl⟩
  · rintro _ G ⟨rfl, a2, a3, a4, a5, a6, a7, a8, a9, a10, a11, a12, a13, a14, rfl⟩
    refine ⟨k, 20, rfl, eg, by decide, by decide, fun u u1 u2 => ⟨mul_2, ⟨by omega, by omega⟩, ?_⟩⟩
    refine ⟨by rw [rngD_len]; omega, ?_⟩
    have e1 : (1 : Int) + u = (((1 + u).toNat : Nat) : Int) := by rw [Int.toNat_of_nonneg (by omega)]
    refine lc_draw (P := fun z => 0 ≤ z ∧ z < 1 + u) (fun x Q' Ed h => ⟨k, 1 + u, rfl, eg, by omega, by omega, fun m m1 m2 => h m ⟨m1, m2⟩⟩) _ [] fun row h1 h2 => ?_
    rw [List.nil_append]
    rw [rngD_len] at h1
    have := tail21 (N := (1 + u).toNat) (k := k) (row := row) (s0 := some (.scr ns)) (s2 := a2) (s5 := a5) (s6 := a6) (s7 := a7) (s8 := a8) (s9 := a9) (s10 := a10) (s11 := a11) (s12 := a12) (s13 := a13) (s14 := a14) (G := G) (E := E) (by omega) (by omega) (by omega) (fun x hx => by rw [← e1]; exact h2 x hx) eg q
    rw [← e1] at this
    exact this
end Z

namespace Z
open PySem PySem.Spec L2 Y
open PyProof.Rows hiding St
section
variable {P : Program} {w : World} {K : PySem.W.Frag} {mg : Str → Option Value} {base : Heap} {a : Nat → Addr} {fd : Nat → FuncData}
theorem ok_is_integer (T : Txt K mg a fd) : FnOk P w K mg base (L2.CX P w) 1 (a 0) (fd 0) p_is_integer (liftSp K mg sp_is_integer) := fnD (k := 0) T.F_is_integer sc_is_integer len_is_integer (d_is_integer (T)) sem_is_integer
theorem ok_is_from (T : Txt K mg a fd) : FnOk P w K mg base (L2.CX P w) 2 (a 1) (fd 1) p_is_from (liftSp K mg sp_is_from) := fnD (k := 1) T.F_is_from sc_is_from len_is_from (d_is_from (T) (ok_is_integer T) (by decide)) sem_is_from
theorem ok_check_row (T : Txt K mg a fd) : FnOk P w K mg base (L2.CX P w) 3 (a 2) (fd 2) p_check_row (liftSp K mg sp_check_row) := fnD (k := 2) T.F_check_row sc_check_row len_check_row (d_check_row (T) (ok_is_from T) (by decide) (by decide)) sem_check_row
theorem ok_tables (T : Txt K mg a fd) : FnOk P w K mg base (L2.CX P w) 1 (a 3) (fd 3) p_tables (liftSp K mg sp_tables) := fnG (k := 0) T.F_tables sc_tables len_tables (d_tables (T)) sem_tables
theorem ok_least_part (T : Txt K mg a fd) : FnOk P w K mg base (L2.CX P w) 1 (a 4) (fd 4) p_least_part (liftSp K mg sp_least_part) := fnD (k := 0) T.F_least_part sc_least_part len_least_part (d_least_part (T)) sem_least_part
theorem ok_zero_part (T : Txt K mg a fd) : FnOk P w K mg base (L2.CX P w) 4 (a 5) (fd 5) p_zero_part (liftSp K mg sp_zero_part) := fnD (k := 3) T.F_zero_part sc_zero_part len_zero_part (d_zero_part (T) (ok_check_row T) (by decide) (ok_tables T) (by decide) (ok_least_part T) (by decide)) sem_zero_part
theorem ok_zero_many (T : Txt K mg a fd) : FnOk P w K mg base (L2.CX P w) 4 (a 6) (fd 6) p_zero_many (liftSp K mg sp_zero_many) := fnD (k := 3) T.F_zero_many sc_zero_many len_zero_many (d_zero_many (T) (ok_check_row T) (by decide) (ok_tables T) (by decide) (ok_least_part T) (by decide)) sem_zero_many
theorem ok_count_zero (T : Txt K mg a fd) : FnOk P w K mg base (L2.CX P w) 4 (a 7) (fd 7) p_count_zero (liftSp K mg sp_count_zero) := fnD (k := 3) T.F_count_zero sc_count_zero len_count_zero (d_count_zero (T) (ok_check_row T) (by decide) (ok_tables T) (by decide)) sem_count_zero
theorem ok__law_random (T : Txt K mg a fd) : FnOk P w K mg base (L2.CX P w) 1 (a 8) (fd 8) p__law_random (liftSp K mg sp__law_random) := fnG (k := 0) T.F__law_random sc__law_random len__law_random (d__law_random (T)) sem__law_random
theorem ok__law_below (T : Txt K mg a fd) : FnOk P w K mg base (L2.CX P w) 1 (a 9) (fd 9) p__law_below (liftSp K mg sp__law_below) := FnOk.imp (fnG (k := 0) T.F__law_below sc__law_below len_below_lst (d__law_below T) sem_below_lst) below_imp
theorem ok__law_pick (T : Txt K mg a fd) : FnOk P w K mg base (L2.CX P w) 2 (a 10) (fd 10) p__law_pick (liftSp K mg sp__law_pick) := fnD (k := 1) T.F__law_pick sc__law_pick len__law_pick (d__law_pick (T) (ok__law_below T) (by decide)) sem__law_pick
theorem ok_eq0 : FnOk P w K mg base (L2.CX P w) 0 (a 11) (fd 11) p__law_equal (liftSp K mg (fun _ _ _ _ => False)) := ⟨fun _ _ _ _ h => (by obtain ⟨_, _, _, _, _, _, _, h, _⟩ := h; exact h.elim), fun _ _ _ _ _ _ _ _ _ _ _ _ _ h => (by obtain ⟨_, _, _, _, _, _, _, h, _⟩ := h; exact h.elim)⟩
theorem ok_eq (T : Txt K mg a fd) : ∀ n : Nat, FnOk P w K mg base (L2.CX P w) (n + 1) (a 11) (fd 11) p__law_equal (liftSp K mg (sp_eq n))
  | 0 => fnD (k := 0) T.F__law_equal sc__law_equal (len_eq 0) (d__law_equal T ok_eq0 (Nat.le_refl _)) sem_eq0
  | n + 1 => fnD (k := n + 1) T.F__law_equal sc__law_equal (len_eq (n + 1)) (d__law_equal T (ok_eq T n) (Nat.le_refl _)) (sem_eqS n)
theorem ok__law_total (T : Txt K mg a fd) : FnOk P w K mg base (L2.CX P w) 1 (a 13) (fd 13) p__law_total (liftSp K mg sp__law_total) := fnD (k := 0) T.F__law_total sc__law_total len__law_total (d__law_total (T)) sem__law_total
theorem ok__law_word (T : Txt K mg a fd) : FnOk P w K mg base (L2.CX P w) 5 (a 12) (fd 12) p__law_word (liftSp K mg sp__law_word) := fnD (k := 4) T.F__law_word sc__law_word len__law_word (d__law_word (T) (ok_zero_part T) (by decide) (ok_zero_many T) (by decide) (ok_count_zero T) (by decide)) sem__law_word
theorem ok__law_all_refused (T : Txt K mg a fd) : FnOk P w K mg base (L2.CX P w) 6 (a 14) (fd 14) p__law_all_refused (liftSp K mg sp__law_all_refused) := fnD (k := 5) T.F__law_all_refused sc__law_all_refused len__law_all_refused (d__law_all_refused (T) (ok__law_word T) (by decide)) sem__law_all_refused
theorem ok_law (T : Txt K mg a fd) : FnOk P w K mg base (L2.CX P w) 7 (a 15) (fd 15) p_law (liftSp K mg sp_law) := fnG (k := 6) T.F_law sc_law len_law (d_law (T) (ok_zero_part T) (by decide) (ok_zero_many T) (by decide) (ok_count_zero T) (by decide) (ok__law_random T) (by decide) (ok__law_below T) (by decide) (ok__law_pick T) (by decide) (ok_eq T 1) (by decide) (ok__law_total T) (by decide) (ok__law_all_refused T) (by decide)) sem_law
end
theorem cx_none {P : Program} {w : World} {H : Hp} {s : Shared} {e : Value} {s' : Shared} (h : L2.CX P w [] H s (fun _ _ _ => False) e s') : False := by
  obtain ⟨_, _, _, _, _, _, _, _, _, _, _, _, z⟩ := h
  exact z
/-- the law's promise, as the head asks it -/
def spFin (K : PySem.W.Frag) : Sp := fun vs H Q E => ∃ (a : Addr) (ns : List Int), vs = [.ref a] ∧ SqL K H a (ns.map V.int) ∧ ns.length ≤ 63 ∧ Only H ∧ ∀ H', Q (.bl true) H'
theorem fin_imp {K : PySem.W.Frag} {mg : Str → Option Value} : ∀ vs H Q E, spFin K vs H Q E → liftSp K mg sp_law vs H Q E := by
  rintro vs H Q E ⟨a, ns, rfl, hS, hl, hO, q⟩
  have hF : SqF K H a (ns.map V.int) := by
    rcases hS with (h | ⟨o, h⟩) | h
    · rcases hO a with z | ⟨o, xs, z⟩
      · rw [z] at h; cases h
      · rw [z] at h; cases h
    · exact .inl ⟨o, h⟩
    · exact .inr h
  refine ⟨[.scr ns], ⟨[], []⟩, [], fun d _ => d = .bl true, fun _ _ => False, ⟨_, _, rfl, ⟨a, rfl, hF⟩, rfl⟩, ⟨rfl, fun k m h => by simp at h, fun i j b h => by simp at h, fun b h => by simp at h⟩, ⟨ns, rfl, hl, fun _ => rfl⟩, ?_, le_none⟩
  rintro d G' v η' H' s' w' r rfl
  cases (show v = .bl true from r)
  exact q H'
set_option maxHeartbeats 0 in
theorem all_mk {P : Program} {w : World} {K : PySem.W.Frag} {h : Heap} {mg : Str → Option Value} {fa : Addr} (X : K.In h) (G : h.Ns mainGlobals mg) (hfa : mg "law" = some (.ref fa)) {f0 : Addr} {od0 an0 : Option Addr} {sl0 : Array (Option Value)} {oc0 kV0 dc0 pm0 cd0 ct0 : Value} {f1 : Addr} {od1 an1 : Option Addr} {sl1 : Array (Option Value)} {oc1 kV1 dc1 pm1 cd1 ct1 : Value} {f2 : Addr} {od2 an2 : Option Addr} {sl2 : Array (Option Value)} {oc2 kV2 dc2 pm2 cd2 ct2 : Value} {f3 : Addr} {od3 an3 : Option Addr} {sl3 : Array (Option Value)} {oc3 kV3 dc3 pm3 cd3 ct3 : Value} {f4 : Addr} {od4 an4 : Option Addr} {sl4 : Array (Option Value)} {oc4 kV4 dc4 pm4 cd4 ct4 : Value} {f5 : Addr} {od5 an5 : Option Addr} {sl5 : Array (Option Value)} {oc5 kV5 dc5 pm5 cd5 ct5 : Value} {f6 : Addr} {od6 an6 : Option Addr} {sl6 : Array (Option Value)} {oc6 kV6 dc6 pm6 cd6 ct6 : Value} {f7 : Addr} {od7 an7 : Option Addr} {sl7 : Array (Option Value)} {oc7 kV7 dc7 pm7 cd7 ct7 : Value} {f8 : Addr} {od8 an8 : Option Addr} {sl8 : Array (Option Value)} {oc8 kV8 dc8 pm8 cd8 ct8 : Value} {f9 : Addr} {od9 an9 : Option Addr} {sl9 : Array (Option Value)} {oc9 kV9 dc9 pm9 cd9 ct9 : Value} {f10 : Addr} {od10 an10 : Option Addr} {sl10 : Array (Option Value)} {oc10 kV10 dc10 pm10 cd10 ct10 : Value} {f11 : Addr} {od11 an11 : Option Addr} {sl11 : Array (Option Value)} {oc11 kV11 dc11 pm11 cd11 ct11 : Value} {f12 : Addr} {od12 an12 : Option Addr} {sl12 : Array (Option Value)} {oc12 kV12 dc12 pm12 cd12 ct12 : Value} {f13 : Addr} {od13 an13 : Option Addr} {sl13 : Array (Option Value)} {oc13 kV13 dc13 pm13 cd13 ct13 : Value} {f14 : Addr} {od14 an14 : Option Addr} {sl14 : Array (Option Value)} {oc14 kV14 dc14 pm14 cd14 ct14 : Value} {f15 : Addr} {od15 an15 : Option Addr} {sl15 : Array (Option Value)} {oc15 kV15 dc15 pm15 cd15 ct15 : Value} {f17 : Addr} {f18 : Addr} {f19 S18 N18 : Addr} {nm18 q18 : Str} {bs18 : List Value} {sn18 : List Str} {sub18 : List Value} {ab18 : Bool} {col18 : Option Bool} {dd18 : Option Addr} {m0_18 m1_18 m2_18 m3_18 m5_18 : Option Value} {od19 an19 : Option Addr} {sl19 : Array (Option Value)} {oc19 kV19 dc19 pm19 cd19 ct19 : Value} {tk_MOST_ZERO : Tok} {tk_MOST_ROW : Tok} (a0 : PySem.W.nsIn K mainGlobals "is_integer" = some (some (.ref f0))) (l0 : K.lookup f0 = some ⟨oc0, od0, .func (PySem.W.fnOf "is_integer" "is_integer" (defArgs s_is_integer) (defBody s_is_integer) (defScope s_is_integer) .none kV0 dc0 pm0 an0 cd0 ct0), sl0⟩) (c0 : PySem.W.codeIn K cd0 "is_integer" = true) (k0 : PySem.W.keepIn K (.ref f0) = true) (a1 : PySem.W.nsIn K mainGlobals "is_from" = some (some (.ref f1))) (l1 : K.lookup f1 = some ⟨oc1, od1, .func (PySem.W.fnOf "is_from" "is_from" (defArgs s_is_from) (defBody s_is_from) (defScope s_is_from) .none kV1 dc1 pm1 an1 cd1 ct1), sl1⟩) (c1 : PySem.W.codeIn K cd1 "is_from" = true) (k1 : PySem.W.keepIn K (.ref f1) = true) (a2 : PySem.W.nsIn K mainGlobals "check_row" = some (some (.ref f2))) (l2 : K.lookup f2 = some ⟨oc2, od2, .func (PySem.W.fnOf "check_row" "check_row" (defArgs s_check_row) (defBody s_check_row) (defScope s_check_row) .none kV2 dc2 pm2 an2 cd2 ct2), sl2⟩) (c2 : PySem.W.codeIn K cd2 "check_row" = true) (k2 : PySem.W.keepIn K (.ref f2) = true) (a3 : PySem.W.nsIn K mainGlobals "tables" = some (some (.ref f3))) (l3 : K.lookup f3 = some ⟨oc3, od3, .func (PySem.W.fnOf "tables" "tables" (defArgs s_tables) (defBody s_tables) (defScope s_tables) .none kV3 dc3 pm3 an3 cd3 ct3), sl3⟩) (c3 : PySem.W.codeIn K cd3 "tables" = true) (k3 : PySem.W.keepIn K (.ref f3) = true) (a4 : PySem.W.nsIn K mainGlobals "least_part" = some (some (.ref f4))) (l4 : K.lookup f4 = some ⟨oc4, od4, .func (PySem.W.fnOf "least_part" "least_part" (defArgs s_least_part) (defBody s_least_part) (defScope s_least_part) .none kV4 dc4 pm4 an4 cd4 ct4), sl4⟩) (c4 : PySem.W.codeIn K cd4 "least_part" = true) (k4 : PySem.W.keepIn K (.ref f4) = true) (a5 : PySem.W.nsIn K mainGlobals "zero_part" = some (some (.ref f5))) (l5 : K.lookup f5 = some ⟨oc5, od5, .func (PySem.W.fnOf "zero_part" "zero_part" (defArgs s_zero_part) (defBody s_zero_part) (defScope s_zero_part) .none kV5 dc5 pm5 an5 cd5 ct5), sl5⟩) (c5 : PySem.W.codeIn K cd5 "zero_part" = true) (k5 : PySem.W.keepIn K (.ref f5) = true) (a6 : PySem.W.nsIn K mainGlobals "zero_many" = some (some (.ref f6))) (l6 : K.lookup f6 = some ⟨oc6, od6, .func (PySem.W.fnOf "zero_many" "zero_many" (defArgs s_zero_many) (defBody s_zero_many) (defScope s_zero_many) .none kV6 dc6 pm6 an6 cd6 ct6), sl6⟩) (c6 : PySem.W.codeIn K cd6 "zero_many" = true) (k6 : PySem.W.keepIn K (.ref f6) = true) (a7 : PySem.W.nsIn K mainGlobals "count_zero" = some (some (.ref f7))) (l7 : K.lookup f7 = some ⟨oc7, od7, .func (PySem.W.fnOf "count_zero" "count_zero" (defArgs s_count_zero) (defBody s_count_zero) (defScope s_count_zero) .none kV7 dc7 pm7 an7 cd7 ct7), sl7⟩) (c7 : PySem.W.codeIn K cd7 "count_zero" = true) (k7 : PySem.W.keepIn K (.ref f7) = true) (a8 : PySem.W.nsIn K mainGlobals "_law_random" = some (some (.ref f8))) (l8 : K.lookup f8 = some ⟨oc8, od8, .func (PySem.W.fnOf "_law_random" "_law_random" (defArgs s__law_random) (defBody s__law_random) (defScope s__law_random) .none kV8 dc8 pm8 an8 cd8 ct8), sl8⟩) (c8 : PySem.W.codeIn K cd8 "_law_random" = true) (k8 : PySem.W.keepIn K (.ref f8) = true) (a9 : PySem.W.nsIn K mainGlobals "_law_below" = some (some (.ref f9))) (l9 : K.lookup f9 = some ⟨oc9, od9, .func (PySem.W.fnOf "_law_below" "_law_below" (defArgs s__law_below) (defBody s__law_below) (defScope s__law_below) .none kV9 dc9 pm9 an9 cd9 ct9), sl9⟩) (c9 : PySem.W.codeIn K cd9 "_law_below" = true) (k9 : PySem.W.keepIn K (.ref f9) = true) (a10 : PySem.W.nsIn K mainGlobals "_law_pick" = some (some (.ref f10))) (l10 : K.lookup f10 = some ⟨oc10, od10, .func (PySem.W.fnOf "_law_pick" "_law_pick" (defArgs s__law_pick) (defBody s__law_pick) (defScope s__law_pick) .none kV10 dc10 pm10 an10 cd10 ct10), sl10⟩) (c10 : PySem.W.codeIn K cd10 "_law_pick" = true) (k10 : PySem.W.keepIn K (.ref f10) = true) (a11 : PySem.W.nsIn K mainGlobals "_law_equal" = some (some (.ref f11))) (l11 : K.lookup f11 = some ⟨oc11, od11, .func (PySem.W.fnOf "_law_equal" "_law_equal" (defArgs s__law_equal) (defBody s__law_equal) (defScope s__law_equal) .none kV11 dc11 pm11 an11 cd11 ct11), sl11⟩) (c11 : PySem.W.codeIn K cd11 "_law_equal" = true) (k11 : PySem.W.keepIn K (.ref f11) = true) (a12 : PySem.W.nsIn K mainGlobals "_law_word" = some (some (.ref f12))) (l12 : K.lookup f12 = some ⟨oc12, od12, .func (PySem.W.fnOf "_law_word" "_law_word" (defArgs s__law_word) (defBody s__law_word) (defScope s__law_word) .none kV12 dc12 pm12 an12 cd12 ct12), sl12⟩) (c12 : PySem.W.codeIn K cd12 "_law_word" = true) (k12 : PySem.W.keepIn K (.ref f12) = true) (a13 : PySem.W.nsIn K mainGlobals "_law_total" = some (some (.ref f13))) (l13 : K.lookup f13 = some ⟨oc13, od13, .func (PySem.W.fnOf "_law_total" "_law_total" (defArgs s__law_total) (defBody s__law_total) (defScope s__law_total) .none kV13 dc13 pm13 an13 cd13 ct13), sl13⟩) (c13 : PySem.W.codeIn K cd13 "_law_total" = true) (k13 : PySem.W.keepIn K (.ref f13) = true) (a14 : PySem.W.nsIn K mainGlobals "_law_all_refused" = some (some (.ref f14))) (l14 : K.lookup f14 = some ⟨oc14, od14, .func (PySem.W.fnOf "_law_all_refused" "_law_all_refused" (defArgs s__law_all_refused) (defBody s__law_all_refused) (defScope s__law_all_refused) .none kV14 dc14 pm14 an14 cd14 ct14), sl14⟩) (c14 : PySem.W.codeIn K cd14 "_law_all_refused" = true) (k14 : PySem.W.keepIn K (.ref f14) = true) (a15 : PySem.W.nsIn K mainGlobals "law" = some (some (.ref f15))) (l15 : K.lookup f15 = some ⟨oc15, od15, .func (PySem.W.fnOf "law" "law" (defArgs s_law) (defBody s_law) (defScope s_law) .none kV15 dc15 pm15 an15 cd15 ct15), sl15⟩) (c15 : PySem.W.codeIn K cd15 "law" = true) (k15 : PySem.W.keepIn K (.ref f15) = true) (a17 : PySem.W.nsIn K mainGlobals "BadRound" = some (some (.ref f17))) (k17 : PySem.W.keepIn K (.ref f17) = true) (s17 : PySem.W.subIn K (.ref f17) (.type "BaseException") = some true) (t17 : PySem.W.typeIn K (.ref f17) = some (.type "type")) (q17 : PySem.W.excIn K f17 [.type "ValueError", .type "Exception", .type "BaseException", .type "object"] "ValueError.__new__" = true) (a18 : PySem.W.nsIn K mainGlobals "BadRow" = some (some (.ref f18))) (k18 : PySem.W.keepIn K (.ref f18) = true) (s18 : PySem.W.subIn K (.ref f18) (.type "BaseException") = some true) (t18 : PySem.W.typeIn K (.ref f18) = some (.type "type")) (x18 : K.lookup f18 = some (excClassObj nm18 q18 f18 N18 bs18 (.ref S18 :: [.type "ValueError", .type "Exception", .type "BaseException", .type "object"]) true sn18 sub18 ab18 col18 dd18 m0_18 m1_18 m2_18 m3_18 m5_18 "ValueError.__new__")) (sa18 : PySem.W.findIn K (.ref f18) "__setattr__" = some (some (.builtin "object.__setattr__"))) (no18 : PySem.W.findIn K (.ref f18) "index" = some none) (i18 : PySem.W.findIn K (.ref f18) "__init__" = some (some (.ref f19))) (ti18 : PySem.W.typeIn K (.ref f19) = some (.type "function")) (l19 : K.lookup f19 = some ⟨oc19, od19, .func (PySem.W.fnOf "__init__" "BadRow.__init__" (defArgs s_ini_BadRow) (defBody s_ini_BadRow) (defScope s_ini_BadRow) .none kV19 dc19 pm19 an19 cd19 ct19), sl19⟩) (c19 : PySem.W.codeIn K cd19 "BadRow.__init__" = true) (k19 : PySem.W.keepIn K (.ref f19) = true) (u17_17 : PySem.W.subIn K (.ref f17) (.ref f17) = some true) (u17_18 : PySem.W.subIn K (.ref f17) (.ref f18) = some false) (u18_17 : PySem.W.subIn K (.ref f18) (.ref f17) = some false) (u18_18 : PySem.W.subIn K (.ref f18) (.ref f18) = some true) (w17 : PySem.W.isClsIn K f17 = true) (w18 : PySem.W.isClsIn K f18 = true) (ga18 : PySem.W.findIn K (.ref f18) "__getattribute__" = some (some (.builtin "BaseException.__getattribute__"))) (gg18 : PySem.W.findIn K (.ref f18) "__getattr__" = some none) (hd18 : PySem.W.hasDictIn K f18 = true) (z_abs : PySem.W.nsIn K mainGlobals "abs" = some none) (z_all : PySem.W.nsIn K mainGlobals "all" = some none) (z_bool : PySem.W.nsIn K mainGlobals "bool" = some none) (z_dict : PySem.W.nsIn K mainGlobals "dict" = some none) (z_enumerate : PySem.W.nsIn K mainGlobals "enumerate" = some none) (z_int : PySem.W.nsIn K mainGlobals "int" = some none) (z_isinstance : PySem.W.nsIn K mainGlobals "isinstance" = some none) (z_len : PySem.W.nsIn K mainGlobals "len" = some none) (z_list : PySem.W.nsIn K mainGlobals "list" = some none) (z_min : PySem.W.nsIn K mainGlobals "min" = some none) (z_range : PySem.W.nsIn K mainGlobals "range" = some none) (z_set : PySem.W.nsIn K mainGlobals "set" = some none) (z_sorted : PySem.W.nsIn K mainGlobals "sorted" = some none) (z_str : PySem.W.nsIn K mainGlobals "str" = some none) (z_sum : PySem.W.nsIn K mainGlobals "sum" = some none) (z_tuple : PySem.W.nsIn K mainGlobals "tuple" = some none) (v_MOST_ZERO : PySem.W.nsIn K mainGlobals "MOST_ZERO" = some (some (.int 20 tk_MOST_ZERO))) (v_MOST_ROW : PySem.W.nsIn K mainGlobals "MOST_ROW" = some (some (.int 40 tk_MOST_ROW))) :
    ∃ fd : FuncData, (∀ (s : Shared) (v : Value), BindsTo s fd ⟨[v], []⟩ [("_law_script", v)]) ∧ ∀ base : Heap, K.In base → base.Ns mainGlobals mg → FnOk P w K mg base (L2.CX P w) 7 fa fd ["_law_script"] (spFin K) := by
  have e : f15 = fa := Value.ref.inj (Option.some.inj ((PySem.W.mg_of X G a15).symm.trans hfa))
  subst e
  have T : Txt K mg (fun i => ([f0, f1, f2, f3, f4, f5, f6, f7, f8, f9, f10, f11, f12, f13, f14, f15, 0, f17, f18, f19] : List Addr).getD i 0) (fun i => ([PySem.W.fnOf "is_integer" "is_integer" (defArgs s_is_integer) (defBody s_is_integer) (defScope s_is_integer) .none kV0 dc0 pm0 an0 cd0 ct0, PySem.W.fnOf "is_from" "is_from" (defArgs s_is_from) (defBody s_is_from) (defScope s_is_from) .none kV1 dc1 pm1 an1 cd1 ct1, PySem.W.fnOf "check_row" "check_row" (defArgs s_check_row) (defBody s_check_row) (defScope s_check_row) .none kV2 dc2 pm2 an2 cd2 ct2, PySem.W.fnOf "tables" "tables" (defArgs s_tables) (defBody s_tables) (defScope s_tables) .none kV3 dc3 pm3 an3 cd3 ct3, PySem.W.fnOf "least_part" "least_part" (defArgs s_least_part) (defBody s_least_part) (defScope s_least_part) .none kV4 dc4 pm4 an4 cd4 ct4, PySem.W.fnOf "zero_part" "zero_part" (defArgs s_zero_part) (defBody s_zero_part) (defScope s_zero_part) .none kV5 dc5 pm5 an5 cd5 ct5, PySem.W.fnOf "zero_many" "zero_many" (defArgs s_zero_many) (defBody s_zero_many) (defScope s_zero_many) .none kV6 dc6 pm6 an6 cd6 ct6, PySem.W.fnOf "count_zero" "count_zero" (defArgs s_count_zero) (defBody s_count_zero) (defScope s_count_zero) .none kV7 dc7 pm7 an7 cd7 ct7, PySem.W.fnOf "_law_random" "_law_random" (defArgs s__law_random) (defBody s__law_random) (defScope s__law_random) .none kV8 dc8 pm8 an8 cd8 ct8, PySem.W.fnOf "_law_below" "_law_below" (defArgs s__law_below) (defBody s__law_below) (defScope s__law_below) .none kV9 dc9 pm9 an9 cd9 ct9, PySem.W.fnOf "_law_pick" "_law_pick" (defArgs s__law_pick) (defBody s__law_pick) (defScope s__law_pick) .none kV10 dc10 pm10 an10 cd10 ct10, PySem.W.fnOf "_law_equal" "_law_equal" (defArgs s__law_equal) (defBody s__law_equal) (defScope s__law_equal) .none kV11 dc11 pm11 an11 cd11 ct11, PySem.W.fnOf "_law_word" "_law_word" (defArgs s__law_word) (defBody s__law_word) (defScope s__law_word) .none kV12 dc12 pm12 an12 cd12 ct12, PySem.W.fnOf "_law_total" "_law_total" (defArgs s__law_total) (defBody s__law_total) (defScope s__law_total) .none kV13 dc13 pm13 an13 cd13 ct13, PySem.W.fnOf "_law_all_refused" "_law_all_refused" (defArgs s__law_all_refused) (defBody s__law_all_refused) (defScope s__law_all_refused) .none kV14 dc14 pm14 an14 cd14 ct14, PySem.W.fnOf "law" "law" (defArgs s_law) (defBody s_law) (defScope s_law) .none kV15 dc15 pm15 an15 cd15 ct15, PySem.W.fnOf "law" "law" (defArgs s_law) (defBody s_law) (defScope s_law) .none kV15 dc15 pm15 an15 cd15 ct15, PySem.W.fnOf "law" "law" (defArgs s_law) (defBody s_law) (defScope s_law) .none kV15 dc15 pm15 an15 cd15 ct15, PySem.W.fnOf "law" "law" (defArgs s_law) (defBody s_law) (defScope s_law) .none kV15 dc15 pm15 an15 cd15 ct15, PySem.W.fnOf "__init__" "BadRow.__init__" (defArgs s_ini_BadRow) (defBody s_ini_BadRow) (defScope s_ini_BadRow) .none kV19 dc19 pm19 an19 cd19 ct19] : List FuncData).getD i (PySem.W.fnOf "law" "law" (defArgs s_law) (defBody s_law) (defScope s_law) .none kV15 dc15 pm15 an15 cd15 ct15)) :=
    { g_is_integer := PySem.W.mg_of X G a0, F_is_integer := fun_mk (st := s_is_integer) l0 c0 k0, b_is_integer := (fun_mk (st := s_is_integer) l0 c0 k0).binds (ps := p_is_integer) fun _ _ _ _ _ _ us hl => match us, hl with | [_], _ => rfl, g_is_from := PySem.W.mg_of X G a1, F_is_from := fun_mk (st := s_is_from) l1 c1 k1, b_is_from := (fun_mk (st := s_is_from) l1 c1 k1).binds (ps := p_is_from) fun _ _ _ _ _ _ us hl => match us, hl with | [_, _, _], _ => rfl, g_check_row := PySem.W.mg_of X G a2, F_check_row := fun_mk (st := s_check_row) l2 c2 k2, b_check_row := (fun_mk (st := s_check_row) l2 c2 k2).binds (ps := p_check_row) fun _ _ _ _ _ _ us hl => match us, hl with | [_, _], _ => rfl, g_tables := PySem.W.mg_of X G a3, F_tables := fun_mk (st := s_tables) l3 c3 k3, b_tables := (fun_mk (st := s_tables) l3 c3 k3).binds (ps := p_tables) fun _ _ _ _ _ _ us hl => match us, hl with | [_, _], _ => rfl, g_least_part := PySem.W.mg_of X G a4, F_least_part := fun_mk (st := s_least_part) l4 c4 k4, b_least_part := (fun_mk (st := s_least_part) l4 c4 k4).binds (ps := p_least_part) fun _ _ _ _ _ _ us hl => match us, hl with | [_, _, _, _], _ => rfl, g_zero_part := PySem.W.mg_of X G a5, F_zero_part := fun_mk (st := s_zero_part) l5 c5 k5, b_zero_part := (fun_mk (st := s_zero_part) l5 c5 k5).binds (ps := p_zero_part) fun _ _ _ _ _ _ us hl => match us, hl with | [_, _], _ => rfl, g_zero_many := PySem.W.mg_of X G a6, F_zero_many := fun_mk (st := s_zero_many) l6 c6 k6, b_zero_many := (fun_mk (st := s_zero_many) l6 c6 k6).binds (ps := p_zero_many) fun _ _ _ _ _ _ us hl => match us, hl with | [_, _], _ => rfl, g_count_zero := PySem.W.mg_of X G a7, F_count_zero := fun_mk (st := s_count_zero) l7 c7 k7, b_count_zero := (fun_mk (st := s_count_zero) l7 c7 k7).binds (ps := p_count_zero) fun _ _ _ _ _ _ us hl => match us, hl with | [_, _], _ => rfl, g__law_random := PySem.W.mg_of X G a8, F__law_random := fun_mk (st := s__law_random) l8 c8 k8, b__law_random := (fun_mk (st := s__law_random) l8 c8 k8).binds (ps := p__law_random) fun _ _ _ _ _ _ us hl => match us, hl with | [_, _], _ => rfl, g__law_below := PySem.W.mg_of X G a9, F__law_below := fun_mk (st := s__law_below) l9 c9 k9, b__law_below := (fun_mk (st := s__law_below) l9 c9 k9).binds (ps := p__law_below) fun _ _ _ _ _ _ us hl => match us, hl with | [_, _], _ => rfl, g__law_pick := PySem.W.mg_of X G a10, F__law_pick := fun_mk (st := s__law_pick) l10 c10 k10, b__law_pick := (fun_mk (st := s__law_pick) l10 c10 k10).binds (ps := p__law_pick) fun _ _ _ _ _ _ us hl => match us, hl with | [_, _], _ => rfl, g__law_equal := PySem.W.mg_of X G a11, F__law_equal := fun_mk (st := s__law_equal) l11 c11 k11, b__law_equal := (fun_mk (st := s__law_equal) l11 c11 k11).binds (ps := p__law_equal) fun _ _ _ _ _ _ us hl => match us, hl with | [_, _], _ => rfl, g__law_word := PySem.W.mg_of X G a12, F__law_word := fun_mk (st := s__law_word) l12 c12 k12, b__law_word := (fun_mk (st := s__law_word) l12 c12 k12).binds (ps := p__law_word) fun _ _ _ _ _ _ us hl => match us, hl with | [_, _, _], _ => rfl, g__law_total := PySem.W.mg_of X G a13, F__law_total := fun_mk (st := s__law_total) l13 c13 k13, b__law_total := (fun_mk (st := s__law_total) l13 c13 k13).binds (ps := p__law_total) fun _ _ _ _ _ _ us hl => match us, hl with | [_, _, _], _ => rfl, g__law_all_refused := PySem.W.mg_of X G a14, F__law_all_refused := fun_mk (st := s__law_all_refused) l14 c14 k14, b__law_all_refused := (fun_mk (st := s__law_all_refused) l14 c14 k14).binds (ps := p__law_all_refused) fun _ _ _ _ _ _ us hl => match us, hl with | [_, _, _], _ => rfl, g_law := PySem.W.mg_of X G a15, F_law := fun_mk (st := s_law) l15 c15 k15, b_law := (fun_mk (st := s_law) l15 c15 k15).binds (ps := p_law) fun _ _ _ _ _ _ us hl => match us, hl with | [_], _ => rfl, g_BadRound := PySem.W.mg_of X G a17, q_BadRound := q17, k_BadRound := k17, s_BadRound := s17, t_BadRound := t17, e_BadRow := ⟨⟨⟨nm18, q18, N18, bs18, _, sn18, sub18, ab18, col18, dd18, m0_18, m1_18, m2_18, m3_18, m5_18, x18, (by decide +kernel : PySem.HandSPX.refsVE [.type "ValueError", .type "Exception", .type "BaseException", .type "object"] = true)⟩, sa18, s18, t18, k18⟩, i18, ti18, PySem.W.mg_of X G a18, no18, ⟨"BadRow.__init__", fun_mk (st := s_ini_BadRow) l19 c19 k19⟩, (fun_mk (st := s_ini_BadRow) l19 c19 k19).binds (ps := ["self", "index"]) fun _ _ _ _ _ _ us hl => match us, hl with | [_, _], _ => rfl⟩, m_BadRound_BadRound := exm_of s17 w17 t17 u17_17, m_BadRound_BadRow := exm_of s18 w18 t18 u17_18, m_BadRow_BadRound := exm_of s17 w17 t17 u18_17, m_BadRow_BadRow := exm_of s18 w18 t18 u18_18, f_BadRow := ⟨ga18, gg18, s18, hd18⟩, z_abs := PySem.W.mg_none_of X G z_abs, z_all := PySem.W.mg_none_of X G z_all, z_bool := PySem.W.mg_none_of X G z_bool, z_dict := PySem.W.mg_none_of X G z_dict, z_enumerate := PySem.W.mg_none_of X G z_enumerate, z_int := PySem.W.mg_none_of X G z_int, z_isinstance := PySem.W.mg_none_of X G z_isinstance, z_len := PySem.W.mg_none_of X G z_len, z_list := PySem.W.mg_none_of X G z_list, z_min := PySem.W.mg_none_of X G z_min, z_range := PySem.W.mg_none_of X G z_range, z_set := PySem.W.mg_none_of X G z_set, z_sorted := PySem.W.mg_none_of X G z_sorted, z_str := PySem.W.mg_none_of X G z_str, z_sum := PySem.W.mg_none_of X G z_sum, z_tuple := PySem.W.mg_none_of X G z_tuple, c_MOST_ZERO := ⟨tk_MOST_ZERO, PySem.W.mg_of X G v_MOST_ZERO⟩, c_MOST_ROW := ⟨tk_MOST_ROW, PySem.W.mg_of X G v_MOST_ROW⟩ }
  exact ⟨PySem.W.fnOf "law" "law" (defArgs s_law) (defBody s_law) (defScope s_law) .none kV15 dc15 pm15 an15 cd15 ct15, fun s v => .of_eq rfl, fun base _ _ => FnOk.imp (ok_law T) fin_imp⟩
end Z
open PySem PySem.W PyProof.Rows
set_option maxHeartbeats 0 in
theorem PySem.Challenge.cw_sumless_k21_whole_zero_parts_holds : PySem.Challenge.rw_sumless_k21_whole_zero_parts.Holds := by
  w_on; o_law; k_head; (case hw => w_witness2)
  k_fill
  refine L2.walk_of (l := PySem.Challenge.rw_sumless_k21_whole_zero_parts) (n := 63) (k := 7) (x := "_law_script") (CX := fun w => L2.CX PySem.Challenge.rw_sumless_k21_whole_zero_parts.prog w) (sp := fun w => Z.spFin _) rfl (by decide) rfl ⟨rfl, by decide, by decide⟩ (fun w h Y => PySem.W.kIn_of Y) ?F (fun _ H a ns hl hO hS => ⟨a, ns, rfl, hS, hl, hO, fun _ => rfl⟩) (fun _ _ _ _ _ h => Z.cx_none h)
  case F =>
    intro w mg fa h KX G hmg
    refine' Z.all_mk KX G hmg ?a0 ?l0 ?c0 ?k0 ?a1 ?l1 ?c1 ?k1 ?a2 ?l2 ?c2 ?k2 ?a3 ?l3 ?c3 ?k3 ?a4 ?l4 ?c4 ?k4 ?a5 ?l5 ?c5 ?k5 ?a6 ?l6 ?c6 ?k6 ?a7 ?l7 ?c7 ?k7 ?a8 ?l8 ?c8 ?k8 ?a9 ?l9 ?c9 ?k9 ?a10 ?l10 ?c10 ?k10 ?a11 ?l11 ?c11 ?k11 ?a12 ?l12 ?c12 ?k12 ?a13 ?l13 ?c13 ?k13 ?a14 ?l14 ?c14 ?k14 ?a15 ?l15 ?c15 ?k15 ?a17 ?k17 ?s17 ?t17 ?q17 ?a18 ?k18 ?s18 ?t18 ?x18 ?sa18 ?no18 ?i18 ?ti18 ?l19 ?c19 ?k19 ?u17_17 ?u17_18 ?u18_17 ?u18_18 ?w17 ?w18 ?ga18 ?gg18 ?hd18 ?z_abs ?z_all ?z_bool ?z_dict ?z_enumerate ?z_int ?z_isinstance ?z_len ?z_list ?z_min ?z_range ?z_set ?z_sorted ?z_str ?z_sum ?z_tuple ?v_MOST_ZERO ?v_MOST_ROW
    (case a0 => k_is)
    (case l0 => k_is)
    (case c0 => k_is)
    (case k0 => k_is)
    (case a1 => k_is)
    (case l1 => k_is)
    (case c1 => k_is)
    (case k1 => k_is)
    (case a2 => k_is)
    (case l2 => k_is)
    (case c2 => k_is)
    (case k2 => k_is)
    (case a3 => k_is)
    (case l3 => k_is)
    (case c3 => k_is)
    (case k3 => k_is)
    (case a4 => k_is)
    (case l4 => k_is)
    (case c4 => k_is)
    (case k4 => k_is)
    (case a5 => k_is)
    (case l5 => k_is)
    (case c5 => k_is)
    (case k5 => k_is)
    (case a6 => k_is)
    (case l6 => k_is)
    (case c6 => k_is)
    (case k6 => k_is)
    (case a7 => k_is)
    (case l7 => k_is)
    (case c7 => k_is)
    (case k7 => k_is)
    (case a8 => k_is)
    (case l8 => k_is)
    (case c8 => k_is)
    (case k8 => k_is)
    (case a9 => k_is)
    (case l9 => k_is)
    (case c9 => k_is)
    (case k9 => k_is)
    (case a10 => k_is)
    (case l10 => k_is)
    (case c10 => k_is)
    (case k10 => k_is)
    (case a11 => k_is)
    (case l11 => k_is)
    (case c11 => k_is)
    (case k11 => k_is)
    (case a12 => k_is)
    (case l12 => k_is)
    (case c12 => k_is)
    (case k12 => k_is)
    (case a13 => k_is)
    (case l13 => k_is)
    (case c13 => k_is)
    (case k13 => k_is)
    (case a14 => k_is)
    (case l14 => k_is)
    (case c14 => k_is)
    (case k14 => k_is)
    (case a15 => k_is)
    (case l15 => k_is)
    (case c15 => k_is)
    (case k15 => k_is)
    (case a17 => k_is)
    (case k17 => k_is)
    (case s17 => k_is)
    (case t17 => k_is)
    (case q17 => first | rfl | kernel_rfl | k_is)
    (case a18 => k_is)
    (case k18 => k_is)
    (case s18 => k_is)
    (case t18 => k_is)
    (case x18 => k_is)
    (case sa18 => k_is)
    (case no18 => k_is)
    (case i18 => k_is)
    (case ti18 => k_is)
    (case l19 => k_is)
    (case c19 => k_is)
    (case k19 => k_is)
    (case u17_17 => k_is)
    (case u17_18 => k_is)
    (case u18_17 => k_is)
    (case u18_18 => k_is)
    (case w17 => k_is)
    (case w18 => k_is)
    (case ga18 => k_is)
    (case gg18 => k_is)
    (case hd18 => k_is)
    (case z_abs => k_is)
    (case z_all => k_is)
    (case z_bool => k_is)
    (case z_dict => k_is)
    (case z_enumerate => k_is)
    (case z_int => k_is)
    (case z_isinstance => k_is)
    (case z_len => k_is)
    (case z_list => k_is)
    (case z_min => k_is)
    (case z_range => k_is)
    (case z_set => k_is)
    (case z_sorted => k_is)
    (case z_str => k_is)
    (case z_sum => k_is)
    (case z_tuple => k_is)
    (case v_MOST_ZERO => k_is)
    (case v_MOST_ROW => k_is)

