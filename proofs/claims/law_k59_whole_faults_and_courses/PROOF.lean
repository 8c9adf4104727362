import PyProof.Rows.All
import Wide.All
import OpenK.AllK
import Wide.FinOn
import HandS.ForMost
import HandS.Deep
import HandS.Exc
import HandS.TupSets
import HandS.Property
import HandS.MakeKwOnly
import HandS.DictComp
import HandS.OwnEq
import HandS.Codes
import HandS.Evl
import HandS.Star
import HandS.SetKeys
import HandS.IsInst
import KE.SortData
import KE.SortKeyHeap
import KE.KDictKeyed
import HandS.SetTxt0
import PyProof.InstNe
import KE.KDictDisplayH
import HandS.Conv
import HandS.Lambda
import HandS.DictEq
import HandS.Walk
import HandS.TupAny
import KE.GoesEnum
import HandS.TupMul
import HandS.Head0
import HandS.Head1
import HandS.Head2
import HandS.HeadEnd
import HandS.HeadHook1
import HandS.HeadHook2
import HandS.HeadHook3
import HandS.HeadHook4
import HandS.EndTab
import HandS.HeadWalk
import PySem.Challenge.RW_halfsetup_k59_whole_faults_and_courses
section
set_option Elab.async false
set_option linter.all false
set_option maxRecDepth 100000
set_option maxHeartbeats 4000000
namespace Hs
open PySem PySem.Spec PyProof.Rows L2
open Evl (Ex)
/-! what stays: all but lists and objects told by their content alone -/
def isL : HO → Bool
  | .lst _ => true
  | .ext _ => true
  | .tbl _ => true
  | _ => false
def Fz (H H' : Hp) : Prop := ∀ a o, H a = some o → isL o = false → H' a = some o
theorem Fz.rfl' {H : Hp} : Fz H H := fun _ _ h _ => h
theorem Fz.trans {H H1 H2 : Hp} (a : Fz H H1) (b : Fz H1 H2) : Fz H H2 := fun x o h e => b x o (a x o h e) e
theorem Fz.ex {H H1 : Hp} (a : Ex H H1) : Fz H H1 := fun x o h _ => a x o h
theorem Fz.new {H : Hp} {p : Addr} {o : HO} (h : H p = none) : Fz H (upd H p o) := Fz.ex (Ex.new h)
theorem Fz.put {H : Hp} {p : Addr} {u o : HO} (h : H p = some u) (e : isL u = true) : Fz H (upd H p o) := fun a v ha ev => by
  have hne : a ≠ p := by
    rintro rfl
    rw [h] at ha
    cases ha
    rw [e] at ev
    cases ev
  rw [upd_ne hne]
  exact ha
/-- all but l stays -/
def ExB (l : Addr) (H H' : Hp) : Prop := ∀ a o, H a = some o → a ≠ l → H' a = some o
theorem ExB.rfl' {l : Addr} {H : Hp} : ExB l H H := fun _ _ h _ => h
theorem ExB.trans {l : Addr} {H H1 H2 : Hp} (a : ExB l H H1) (b : ExB l H1 H2) : ExB l H H2 := fun x o h e => b x o (a x o h e) e
theorem ExB.ex {l : Addr} {H H1 : Hp} (a : Ex H H1) : ExB l H H1 := fun x o h _ => a x o h
theorem ExB.put {l : Addr} {H : Hp} {o : HO} : ExB l H (upd H l o) := fun a v ha ev => by
  rw [upd_ne ev]
  exact ha
theorem ExB.fz {l : Addr} {H H' : Hp} {u : HO} (a : ExB l H H') (h : H l = some u) (e : isL u = true) : Fz H H' := fun x o hx ex => by
  refine a x o hx ?_
  rintro rfl
  rw [h] at hx
  cases hx
  rw [e] at ex
  cases ex
theorem ExB.back {l : Addr} {H H1 H2 : Hp} (a : Ex H H1) (n : H l = none) (b : ExB l H1 H2) : Ex H H2 := fun x o h => b x o (a x o h) (ne_of_none h n)
theorem fz_t {K : PySem.W.Frag} {H H' : Hp} {a : Addr} {xs : List V} (e : Fz H H') (h : SqT K H a xs) : SqT K H' a xs := by
  rcases h with h | h
  · rcases h with h | ⟨o, h⟩
    · exact .inl (.inl (e _ _ h rfl))
    · exact .inl (.inr ⟨o, e _ _ h rfl⟩)
  · exact .inr h

/-! nested keys in the abstract heap -/
mutual
inductive Nk (K : PySem.W.Frag) (H : Hp) : V → NestedKey → Prop
  | non : Nk K H .non .none
  | num (i : Int) : Nk K H (.int i) (.num i)
  | text (x : Str) : Nk K H (.str x) (.text x)
  | tup {a : Addr} {xs : List V} {ks : List NestedKey} : SqT K H a xs → NkAll K H xs ks → Nk K H (.ref a) (.tup ks)
inductive NkAll (K : PySem.W.Frag) (H : Hp) : List V → List NestedKey → Prop
  | nil : NkAll K H [] []
  | cons {v : V} {vs : List V} {k : NestedKey} {ks : List NestedKey} : Nk K H v k → NkAll K H vs ks → NkAll K H (v :: vs) (k :: ks)
end
section
variable {K : PySem.W.Frag} {H H' : Hp}
mutual
theorem Nk.fz (e : Fz H H') : ∀ (k : NestedKey) (v : V), Nk K H v k → Nk K H' v k
  | .none, _, h => by cases h; exact .non
  | .num i, _, h => by cases h; exact .num i
  | .text x, _, h => by cases h; exact .text x
  | .tup ks, _, h => by
    cases h with
    | tup h1 h2 => exact .tup (fz_t e h1) (NkAll.fz e ks _ h2)
theorem NkAll.fz (e : Fz H H') : ∀ (ks : List NestedKey) (vs : List V), NkAll K H vs ks → NkAll K H' vs ks
  | [], _, h => by cases h; exact .nil
  | k :: ks, _, h => by
    cases h with
    | cons h1 h2 => exact .cons (Nk.fz e k _ h1) (NkAll.fz e ks _ h2)
end
theorem NkAll.length : ∀ {ks : List NestedKey} {vs : List V}, NkAll K H vs ks → vs.length = ks.length
  | [], _, h => by cases h; rfl
  | k :: ks, _, h => by
    cases h with
    | cons h1 h2 => rw [List.length_cons, List.length_cons, NkAll.length h2]
theorem NkAll.get : ∀ {ks : List NestedKey} {vs : List V} {i : Nat} {v : V}, NkAll K H vs ks → vs[i]? = some v → ∃ k, ks[i]? = some k ∧ Nk K H v k
  | [], _, _, _, h, e => by cases h; simp at e
  | k :: ks, _, 0, _, h, e => by
    cases h with
    | cons h1 h2 =>
      simp at e
      subst e
      exact ⟨k, rfl, h1⟩
  | k :: ks, _, i + 1, _, h, e => by
    cases h with
    | cons h1 h2 =>
      obtain ⟨k', e1, e2⟩ := NkAll.get (i := i) h2 (by simpa using e)
      exact ⟨k', by simpa using e1, e2⟩
theorem NkAll.append : ∀ {ks ls : List NestedKey} {vs ws : List V}, NkAll K H vs ks → NkAll K H ws ls → NkAll K H (vs ++ ws) (ks ++ ls)
  | [], _, _, _, h, h' => by cases h; exact h'
  | k :: ks, _, _, _, h, h' => by
    cases h with
    | cons h1 h2 => exact .cons h1 (NkAll.append h2 h')
theorem NkAll.drop : ∀ {ks : List NestedKey} {vs : List V} (n : Nat), NkAll K H vs ks → NkAll K H (vs.drop n) (ks.drop n)
  | _, _, 0, h => h
  | [], _, n + 1, h => by cases h; exact .nil
  | k :: ks, _, n + 1, h => by
    cases h with
    | cons h1 h2 => exact NkAll.drop n h2
theorem NkAll.take : ∀ {ks : List NestedKey} {vs : List V} (n : Nat), NkAll K H vs ks → NkAll K H (vs.take n) (ks.take n)
  | _, _, 0, h => .nil
  | [], _, n + 1, h => by cases h; exact .nil
  | k :: ks, _, n + 1, h => by
    cases h with
    | cons h1 h2 => exact .cons h1 (NkAll.take n h2)
theorem NkAll.nums : ∀ (ns : List Int), NkAll K H (ns.map V.int) (ns.map NestedKey.num)
  | [] => .nil
  | n :: ns => .cons (.num n) (NkAll.nums ns)
end
section
variable {X : Cx} {pins : List (Addr × Obj)} {σ : L2.St} {H : Hp} {s : Shared}
mutual
theorem Nk.is (I : Inv X pins σ H s) : ∀ (k : NestedKey) (v : V) (u : Value), Nk X.K H v k → RelV v u → NestedIs s.heap k u
  | .none, _, _, h, r => by
    cases h
    cases r
    exact .none
  | .num i, _, _, h, r => by
    cases h
    obtain ⟨t, rfl⟩ := r
    exact .int i t
  | .text x, _, _, h, r => by
    cases h
    obtain ⟨t, rfl⟩ := r
    exact .text x t
  | .tup ks, _, _, h, r => by
    cases h with
    | tup hs ha =>
      cases r
      obtain ⟨its, rv, ⟨o, ho, hc, n, hd⟩, _⟩ := I.tuple hs
      exact .tup ho hc hd (by simpa using NkAll.is I ks _ its ha rv)
theorem NkAll.is (I : Inv X pins σ H s) : ∀ (ks : List NestedKey) (vs : List V) (us : List Value), NkAll X.K H vs ks → Vals vs us → NestedAll s.heap ks us
  | [], _, _, h, r => by
    cases h
    cases r
    exact .nil
  | k :: ks, _, _, h, r => by
    cases h with
    | cons h1 h2 =>
      cases r with
      | cons r1 r2 => exact .cons (Nk.is I k _ _ h1 r1) (NkAll.is I ks _ _ h2 r2)
end
end
/-! as data -/
mutual
theorem Nk.reads {X : Cx} {pins : List (Addr × Obj)} {σ : L2.St} {H : Hp} {s : Shared} (I : Inv X pins σ H s) : ∀ (k : NestedKey) (v : V) (u : Value), Nk X.K H v k → RelV v u → ∃ as, Reads s.heap u k.data as
  | .none, _, _, h, r => by
    cases h
    cases r
    exact ⟨_, Reads.none⟩
  | .num i, _, _, h, r => by
    cases h
    obtain ⟨t, rfl⟩ := r
    exact ⟨_, Reads.int i t⟩
  | .text x, _, _, h, r => by
    cases h
    obtain ⟨t, rfl⟩ := r
    exact ⟨_, Reads.str x t⟩
  | .tup ks, _, _, h, r => by
    cases h with
    | tup hs ha =>
      cases r
      obtain ⟨its, rv, ⟨o, ho, hc, n, hd⟩, _⟩ := I.tuple hs
      obtain ⟨as, hr⟩ := NkAll.reads I ks _ its ha rv
      exact ⟨_, Reads.tuple ho hc hd (by simpa [NestedKey.data] using hr)⟩
theorem NkAll.reads {X : Cx} {pins : List (Addr × Obj)} {σ : L2.St} {H : Hp} {s : Shared} (I : Inv X pins σ H s) : ∀ (ks : List NestedKey) (vs : List V) (us : List Value), NkAll X.K H vs ks → Vals vs us → ∃ as, ReadsAll s.heap us (NestedKey.datas ks) as
  | [], _, _, h, r => by
    cases h
    cases r
    exact ⟨_, ReadsAll.nil⟩
  | k :: ks, _, _, h, r => by
    cases h with
    | cons h1 h2 =>
      cases r with
      | cons r1 r2 =>
        obtain ⟨as, q1⟩ := Nk.reads I k _ _ h1 r1
        obtain ⟨bs, q2⟩ := NkAll.reads I ks _ _ h2 r2
        exact ⟨_, ReadsAll.cons q1 q2⟩
end
/-! == and in -/
section
variable {A : Around} {s : Shared}
theorem min_one {a b : Nat} : min a b ≤ a := Nat.min_le_left _ _
theorem rc_tups {x y : Addr} {vs ws : Array Value} {ks ls : List NestedKey} (hl : s.heap.IsTuple x vs) (hb : s.heap.IsTuple y ws) (h4 : NestedAll s.heap ks vs.toList) (k4 : NestedAll s.heap ls ws.toList) (hu : A.units + 1 + NestedKey.depthAll ks < cLine) :
    SeqAt.RcAt A s (.ref x) (.ref y) (NestedKey.beqAll ks ls) := by
  have n1 : vs.size = ks.length := by simpa using NestedAll.length _ _ h4
  have n2 : ws.size = ls.length := by simpa using NestedAll.length _ _ k4
  rw [← beqAll_eq ks ls, ← n1, ← n2]
  refine SeqAt.RcAt.tuples hl hb (by omega) fun j j1 j2 => ?_
  have := eqAt_keys ks ls A.in1 s vs.toList ws.toList h4 k4 (by have := Nat.min_le_left (NestedKey.depthAll ks) (NestedKey.depthAll ls); simp only [Around.in1_units]; omega) j (by simpa using j1) (by simpa using j2)
  simpa using this
theorem rcne_tups {x y : Addr} {vs ws : Array Value} {ks ls : List NestedKey} (hl : s.heap.IsTuple x vs) (hb : s.heap.IsTuple y ws) (h4 : NestedAll s.heap ks vs.toList) (k4 : NestedAll s.heap ls ws.toList) (hu : A.units + 1 + NestedKey.depthAll ks < cLine) :
    SeqAt.RcNeAt A s (.ref x) (.ref y) (!NestedKey.beqAll ks ls) := by
  have n1 : vs.size = ks.length := by simpa using NestedAll.length _ _ h4
  have n2 : ws.size = ls.length := by simpa using NestedAll.length _ _ k4
  rw [← beqAll_eq ks ls, ← n1, ← n2]
  refine SeqAt.RcNeAt.tuples hl hb (by omega) fun j j1 j2 => ?_
  have := eqAt_keys ks ls A.in1 s vs.toList ws.toList h4 k4 (by have := Nat.min_le_left (NestedKey.depthAll ks) (NestedKey.depthAll ls); simp only [Around.in1_units]; omega) j (by simpa using j1) (by simpa using j2)
  simpa using this
end
section
variable {X : Cx}
theorem keys_dec (ks ls : List NestedKey) : NestedKey.beqAll ks ls = decide (ks = ls) := by
  cases h : NestedKey.beqAll ks ls with
  | true => exact (decide_eq_true (NestedKey.eq_of_beqAll ks ls h)).symm
  | false => exact (decide_eq_false fun e => by rw [e, NestedKey.beqAll_self] at h; cases h).symm
/-- two tuples of keys -/
def rEqN (K : PySem.W.Frag) (neg : Bool) : R2 := fun x y H Q => ∃ ks ls, Nk K H x (.tup ks) ∧ Nk K H y (.tup ls) ∧ NestedKey.depthAll ks ≤ 60 ∧ Q (.bl (if neg then !decide (ks = ls) else decide (ks = ls))) H
theorem op_eqN (hu : X.A.units + 64 < cLine) : OpR X (compareOp .Eq) (rEqN X.K false) := by
  intro pins s σ H x y v u Q I rx ry h
  obtain ⟨ks, ls, hd, he, sd, q⟩ := h
  cases hd with
  | tup h1 h2 =>
    cases he with
    | tup g1 g2 =>
      cases rx
      cases ry
      obtain ⟨its, rv, t1, _⟩ := I.tuple h1
      obtain ⟨its2, rv2, t2, _⟩ := I.tuple g1
      refine rc_tups t1 t2 (by simpa using NkAll.is I ks _ its h2 rv) (by simpa using NkAll.is I ls _ its2 g2 rv2) (by omega) X.prog X.w X.xe _ ⟨.bl _, H, I, rfl, ?_⟩
      rw [keys_dec]
      exact q
theorem op_neN (hu : X.A.units + 64 < cLine) : OpR X (compareOp .NotEq) (rEqN X.K true) := by
  intro pins s σ H x y v u Q I rx ry h
  obtain ⟨ks, ls, hd, he, sd, q⟩ := h
  cases hd with
  | tup h1 h2 =>
    cases he with
    | tup g1 g2 =>
      cases rx
      cases ry
      obtain ⟨its, rv, t1, _⟩ := I.tuple h1
      obtain ⟨its2, rv2, t2, _⟩ := I.tuple g1
      refine rcne_tups t1 t2 (by simpa using NkAll.is I ks _ its h2 rv) (by simpa using NkAll.is I ls _ its2 g2 rv2) (by omega) X.prog X.w X.xe _ ⟨.bl _, H, I, rfl, ?_⟩
      rw [keys_dec]
      exact q
/-- a list against the empty one, whatever its items -/
def rEqE (K : PySem.W.Frag) (neg : Bool) : R2 := fun x y H Q => ∃ a b xs, x = .ref a ∧ y = .ref b ∧ SqL K H a xs ∧ SqL K H b [] ∧ Q (.bl (if neg then !decide (xs = []) else decide (xs = []))) H
theorem op_eqE (hu : X.A.units + 64 < cLine) : OpR X (compareOp .Eq) (rEqE X.K false) := by
  intro pins s σ H x y v u Q I rx ry h
  obtain ⟨a, b, xs, rfl, rfl, h1, h2, q⟩ := h
  cases rx
  cases ry
  obtain ⟨its, rv, t1, _⟩ := I.list h1
  obtain ⟨its2, rv2, t2, _⟩ := I.list h2
  cases rv2
  cases xs with
  | nil =>
    cases rv
    refine SeqAt.RcAt.lists (e := fun _ => true) t1.isList t2.isList rfl (by omega) (fun j j1 j2 => by simp at j2) X.prog X.w X.xe _ ⟨.bl _, H, I, rfl, ?_⟩
    exact q
  | cons y ys =>
    cases rv with
    | cons r1 r2 =>
      refine SeqAt.RcAt.lists_lengths t1.isList t2.isList (by simp) (by omega) X.prog X.w X.xe _ ⟨.bl _, H, I, rfl, ?_⟩
      simpa using q
theorem op_neE (hu : X.A.units + 64 < cLine) : OpR X (compareOp .NotEq) (rEqE X.K true) := by
  intro pins s σ H x y v u Q I rx ry h
  obtain ⟨a, b, xs, rfl, rfl, h1, h2, q⟩ := h
  cases rx
  cases ry
  obtain ⟨its, rv, t1, _⟩ := I.list h1
  obtain ⟨its2, rv2, t2, _⟩ := I.list h2
  cases rv2
  cases xs with
  | nil =>
    cases rv
    refine SeqAt.RcNeAt.lists (e := fun _ => true) t1.isList t2.isList rfl (by omega) (fun j j1 j2 => by simp at j2) X.prog X.w X.xe _ ⟨.bl _, H, I, rfl, ?_⟩
    exact q
  | cons y ys =>
    cases rv with
    | cons r1 r2 =>
      refine SeqAt.RcNeAt.lists_lengths t1.isList t2.isList (by simp) (by omega) X.prog X.w X.xe _ ⟨.bl _, H, I, rfl, ?_⟩
      simpa using q
/-- two lists of keys -/
def rEqL (K : PySem.W.Frag) (neg : Bool) : R2 := fun x y H Q => ∃ a b xs ys ks ls, x = .ref a ∧ y = .ref b ∧ SqL K H a xs ∧ SqL K H b ys ∧ NkAll K H xs ks ∧ NkAll K H ys ls ∧ NestedKey.depthAll ks ≤ 60 ∧ Q (.bl (if neg then !decide (ks = ls) else decide (ks = ls))) H
theorem op_eqL (hu : X.A.units + 64 < cLine) : OpR X (compareOp .Eq) (rEqL X.K false) := by
  intro pins s σ H x y v u Q I rx ry h
  obtain ⟨a, b, xs, ys, ks, ls, rfl, rfl, h1, g1, h2, g2, sd, q⟩ := h
  cases rx
  cases ry
  obtain ⟨its, rv, t1, _⟩ := I.list h1
  obtain ⟨its2, rv2, t2, _⟩ := I.list g1
  have a1 := NkAll.is I ks _ its h2 rv
  have a2 := NkAll.is I ls _ its2 g2 rv2
  have n1 : its.toArray.size = ks.length := by simpa using NestedAll.length _ _ a1
  have n2 : its2.toArray.size = ls.length := by simpa using NestedAll.length _ _ a2
  by_cases hs : its.toArray.size = its2.toArray.size
  · refine SeqAt.RcAt.lists (e := keyEqAt ks ls) t1.isList t2.isList hs (by omega) (fun j j1 j2 => ?_) X.prog X.w X.xe _ ⟨.bl _, H, I, rfl, ?_⟩
    · have := eqAt_keys ks ls X.A.in1 s its its2 a1 a2 (by have := Nat.min_le_left (NestedKey.depthAll ks) (NestedKey.depthAll ls); simp only [Around.in1_units]; omega) j (by simpa using j1) (by simpa using j2)
      simpa using this
    · have e := beqAll_eq ks ls
      rw [← n1, ← n2, ← hs, Nat.min_self] at e
      have e2 : (List.range its.toArray.size).all (keyEqAt ks ls) = decide (ks = ls) := by
        rw [← keys_dec, ← e]
        simp
      rw [e2]
      exact q
  · refine SeqAt.RcAt.lists_lengths t1.isList t2.isList (by simpa using hs) (by omega) X.prog X.w X.xe _ ⟨.bl _, H, I, rfl, ?_⟩
    have e2 : decide (ks = ls) = false := decide_eq_false fun e => hs (by rw [n1, n2, e])
    rw [e2] at q
    exact q
theorem op_neL (hu : X.A.units + 64 < cLine) : OpR X (compareOp .NotEq) (rEqL X.K true) := by
  intro pins s σ H x y v u Q I rx ry h
  obtain ⟨a, b, xs, ys, ks, ls, rfl, rfl, h1, g1, h2, g2, sd, q⟩ := h
  cases rx
  cases ry
  obtain ⟨its, rv, t1, _⟩ := I.list h1
  obtain ⟨its2, rv2, t2, _⟩ := I.list g1
  have a1 := NkAll.is I ks _ its h2 rv
  have a2 := NkAll.is I ls _ its2 g2 rv2
  have n1 : its.toArray.size = ks.length := by simpa using NestedAll.length _ _ a1
  have n2 : its2.toArray.size = ls.length := by simpa using NestedAll.length _ _ a2
  by_cases hs : its.toArray.size = its2.toArray.size
  · refine SeqAt.RcNeAt.lists (e := keyEqAt ks ls) t1.isList t2.isList hs (by omega) (fun j j1 j2 => ?_) X.prog X.w X.xe _ ⟨.bl _, H, I, rfl, ?_⟩
    · have := eqAt_keys ks ls X.A.in1 s its its2 a1 a2 (by have := Nat.min_le_left (NestedKey.depthAll ks) (NestedKey.depthAll ls); simp only [Around.in1_units]; omega) j (by simpa using j1) (by simpa using j2)
      simpa using this
    · have e := beqAll_eq ks ls
      rw [← n1, ← n2, ← hs, Nat.min_self] at e
      have e2 : (List.range its.toArray.size).all (keyEqAt ks ls) = decide (ks = ls) := by
        rw [← keys_dec, ← e]
        simp
      rw [e2]
      exact q
  · refine SeqAt.RcNeAt.lists_lengths t1.isList t2.isList (by simpa using hs) (by omega) X.prog X.w X.xe _ ⟨.bl _, H, I, rfl, ?_⟩
    have e2 : decide (ks = ls) = false := decide_eq_false fun e => hs (by rw [n1, n2, e])
    rw [e2] at q
    exact q
/-- a key in a list or tuple of keys -/
def rInN (K : PySem.W.Frag) (neg : Bool) : R2 := fun x y H Q => ∃ k p xs ks, y = .ref p ∧ (SqL K H p xs ∨ SqT K H p xs) ∧ Nk K H x k ∧ NkAll K H xs ks ∧ k.depth ≤ 60 ∧ Q (.bl (if neg then !decide (k ∈ ks) else decide (k ∈ ks))) H
open Classical in
theorem in_items {A : Around} {s : Shared} {ks : List NestedKey} {k : NestedKey} {its : List Value} {u : Value} (h1 : NestedIs s.heap k u) (h2 : NestedAll s.heap ks its) (hu : A.units + k.depth < cLine) :
    ∃ e : Value → Bool, (∀ y, y ∈ its.toArray → SeqAt.EqAt A s y u (e y)) ∧ its.toArray.any e = decide (k ∈ ks) := by
  have key : ∀ (ks : List NestedKey) (its : List Value), NestedAll s.heap ks its → (∀ y ∈ its, ∃ k', NestedIs s.heap k' y) ∧ ((∃ y ∈ its, NestedIs s.heap k y) ↔ k ∈ ks) := by
    intro ks
    induction ks with
    | nil =>
      intro its h
      cases h
      exact ⟨fun y hy => (by cases hy), (by simp)⟩
    | cons k0 ks ih =>
      intro its h
      cases h with
      | @cons _ v _ vs c1 c2 =>
        obtain ⟨i1, i2⟩ := ih vs c2
        refine ⟨fun y hy => ?_, ?_⟩
        · rcases List.mem_cons.mp hy with e | hy
          · exact ⟨k0, e ▸ c1⟩
          · exact i1 y hy
        · constructor
          · rintro ⟨y, hy, z⟩
            rcases List.mem_cons.mp hy with e | hy
            · subst e
              exact List.mem_cons.mpr (.inl (NestedIs.inj _ _ _ z c1))
            · exact List.mem_cons_of_mem _ (i2.mp ⟨y, hy, z⟩)
          · intro hk
            rcases List.mem_cons.mp hk with e | hk
            · exact ⟨v, List.mem_cons_self, e ▸ c1⟩
            · obtain ⟨y, hy, z⟩ := i2.mpr hk
              exact ⟨y, List.mem_cons_of_mem _ hy, z⟩
  obtain ⟨g1, g2⟩ := key ks its h2
  refine ⟨fun y => decide (NestedIs s.heap k y), fun y hy => ?_, ?_⟩
  · obtain ⟨k', hk'⟩ := g1 y (by simpa using hy)
    have q := eqAt_key k' k A s y u hk' h1 (by have := Nat.min_le_right k'.depth k.depth; omega)
    have e : NestedKey.beq k' k = decide (NestedIs s.heap k y) := by
      rw [← NestedKey.decide_eq]
      by_cases c : k' = k
      · rw [decide_eq_true c, decide_eq_true (c ▸ hk')]
      · rw [decide_eq_false c, decide_eq_false fun z => c (NestedIs.inj _ _ _ hk' z)]
    exact q.cast e
  · rw [Bool.eq_iff_iff]
    simp only [List.any_toArray, List.any_eq_true, decide_eq_true_eq]
    exact g2
theorem op_inN (hu : X.A.units + 64 < cLine) : OpR X (compareOp .In) (rInN X.K false) := by
  intro pins s σ H x y v u Q I rx ry h
  obtain ⟨k, p, xs, ks, rfl, hq, hk, hks, sd, q⟩ := h
  cases ry
  have i1 := Nk.is I k x v hk rx
  rcases hq with hq | hq
  · obtain ⟨its, rv, pl, _⟩ := I.list hq
    obtain ⟨e, e1, e2⟩ := in_items (A := X.A.in1) i1 (NkAll.is I ks _ its hks rv) (by simp only [Around.in1_units]; omega)
    refine SeqAt.in_listAt e pl.isList e1 ⟨.bl _, H, I, rfl, ?_⟩
    rw [e2]
    exact q
  · obtain ⟨its, rv, pl, _⟩ := I.tuple hq
    obtain ⟨e, e1, e2⟩ := in_items (A := X.A.in1) i1 (NkAll.is I ks _ its hks rv) (by simp only [Around.in1_units]; omega)
    refine SeqAt.in_tupleAt e pl e1 ⟨.bl _, H, I, rfl, ?_⟩
    rw [e2]
    exact q
theorem op_ninN (hu : X.A.units + 64 < cLine) : OpR X (compareOp .NotIn) (rInN X.K true) := by
  intro pins s σ H x y v u Q I rx ry h
  obtain ⟨k, p, xs, ks, rfl, hq, hk, hks, sd, q⟩ := h
  cases ry
  have i1 := Nk.is I k x v hk rx
  rcases hq with hq | hq
  · obtain ⟨its, rv, pl, _⟩ := I.list hq
    obtain ⟨e, e1, e2⟩ := in_items (A := X.A.in1) i1 (NkAll.is I ks _ its hks rv) (by simp only [Around.in1_units]; omega)
    refine SeqAt.notIn_listAt e pl.isList e1 ⟨.bl _, H, I, rfl, ?_⟩
    rw [e2]
    exact q
  · obtain ⟨its, rv, pl, _⟩ := I.tuple hq
    obtain ⟨e, e1, e2⟩ := in_items (A := X.A.in1) i1 (NkAll.is I ks _ its hks rv) (by simp only [Around.in1_units]; omega)
    refine SeqAt.notIn_tupleAt e pl e1 ⟨.bl _, H, I, rfl, ?_⟩
    rw [e2]
    exact q
end
end Hs
end
section
set_option Elab.async false
set_option linter.all false
set_option maxRecDepth 100000
set_option maxHeartbeats 4000000
namespace Hs
open PySem PySem.Spec PyProof.Rows L2
/-! ### sets whose members are nested tuples -/
/-- the tuple at a is the key k -/
def TupN (h : Heap) (k : NestedKey) (a : Addr) : Prop := NestedIs h k (.ref a) ∧ k.depth ≤ 8
section
variable {P : Program} {w : World} {A : Around} {E : Value → Shared → Prop} {s : Shared}
def NoCls (P : Program) (w : World) (n : Nat) (s : Shared) (v : Value) : Prop := ∀ (A : Around) (E : Value → Shared → Prop) (Q : Bool → Shared → Prop), Q false s → wpAny (model P w) A (ofAClassStatement n v) Q E s
theorem nocls_flat {n : Nat} {v : Value} (h : ∀ a, v ≠ .ref a) : NoCls P w n s v := fun A E Q q => by
  have e : ofAClassStatement n v = pure false := by
    cases v with
    | ref a => exact absurd rfl (h a)
    | _ => cases n <;> rfl
  rw [e]
  exact wpAny_pure q
theorem nocls_tup {n : Nat} {a : Addr} {o : Obj} {vs : Array Value} {m : Nat} (ho : s.heap.get? a = some o) (hc : o.cls = .type "tuple") (hd : o.data = .seq vs m) (hq : ∀ v ∈ vs.toList, NoCls P w n s v) : NoCls P w (n + 1) s (.ref a) := fun A E Q q => by
  have hT : s.TypeIs (.ref a) "tuple" := ⟨o, ho, hc⟩
  unfold ofAClassStatement
  refine wpAny_bind (wpAny_typeOf hT ?_)
  dsimp only
  have e : (("tuple" : String) == "tuple") = true := by decide
  simp only [e, if_true, Bool.not_true, Bool.false_eq_true, if_false]
  try refine wpAny_bind (wpAny_pure ?_)
  try simp only [Bool.not_true, Bool.false_eq_true, if_false]
  show wpAny _ _ (seqItems? (.ref a) >>= _) _ _ s
  refine wpAny_bind (wpAny_seqItems ho hd ?_)
  dsimp only
  refine wpAny_bind ?_
  show wpAny _ _ (forIn vs _ _) _ _ s
  rw [← Array.forIn_toList]
  refine wpAny_forIn_list _ (fun rest r s' => r.1 = none ∧ s' = s ∧ ∀ v ∈ rest, NoCls P w n s v) _ ?_ ?_ _ _ ⟨rfl, rfl, hq⟩
  · rintro v rest r s' ⟨hr, rfl, hall⟩
    refine wpAny_bind (hall v List.mem_cons_self _ _ _ ?_)
    simp only [Bool.false_eq_true, if_false]
    exact wpAny_pure ⟨rfl, rfl, fun u hu' => hall u (List.mem_cons_of_mem _ hu')⟩
  · rintro ⟨r1, r2⟩ s' ⟨hr, rfl, _⟩
    simp only at hr
    subst hr
    exact wpAny_pure q
mutual
theorem nocls_key : ∀ (k : NestedKey) (v : Value) (n : Nat) (s : Shared), NestedIs s.heap k v → k.depth ≤ n → NoCls P w n s v
  | .none, _, n, s, x, _ => by cases x; exact nocls_flat fun a z => nomatch z
  | .num i, _, n, s, x, _ => by cases x <;> exact nocls_flat fun a z => nomatch z
  | .text y, _, n, s, x, _ => by cases x; exact nocls_flat fun a z => nomatch z
  | .tup ks, _, n, s, x, hn => by
    cases x with
    | tup hg hc hd hk =>
      simp only [NestedKey.depth] at hn
      cases n with
      | zero => omega
      | succ n => exact nocls_tup hg hc hd (nocls_keys ks _ n s hk (by omega))
theorem nocls_keys : ∀ (ks : List NestedKey) (vs : List Value) (n : Nat) (s : Shared), NestedAll s.heap ks vs → NestedKey.depthAll ks ≤ n → ∀ v ∈ vs, NoCls P w n s v
  | [], _, n, s, x, _, v, hv => by cases x; cases hv
  | k :: ks, _, n, s, x, hn, v, hv => by
    cases x with
    | cons x1 x2 =>
      simp only [NestedKey.depthAll] at hn
      rcases List.mem_cons.mp hv with e | hv
      · rw [e]; exact nocls_key k _ n s x1 (by omega)
      · exact nocls_keys ks _ n s x2 (by omega) v hv
end
def HashSome (P : Program) (w : World) (n : Nat) (s : Shared) (v : Value) : Prop := ∀ (A : Around) (E : Value → Shared → Prop) (Q : Bool → Shared → Prop), (∀ b, Q b s) → wpAny (model P w) A (hashByValue n v) Q E s
theorem hsome_tup {n : Nat} {a : Addr} {o : Obj} {vs : Array Value} {m : Nat} (ho : s.heap.get? a = some o) (hc : o.cls = .type "tuple") (hd : o.data = .seq vs m) (hq : ∀ v ∈ vs.toList, HashSome P w n s v) : HashSome P w (n + 1) s (.ref a) := fun A E Q q => by
  have hT : s.TypeIs (.ref a) "tuple" := ⟨o, ho, hc⟩
  unfold hashByValue
  refine wpAny_bind (wpAny_specialOf hT F.slot_tuple_hash.lookup ?_)
  show wpAny _ _ (seqItems? (.ref a) >>= _) _ _ s
  refine wpAny_bind (wpAny_seqItems ho hd ?_)
  refine wpAny_bind ?_
  show wpAny _ _ (forIn vs _ _) _ _ s
  rw [← Array.forIn_toList]
  have loop : ∀ (l : List Value) (r : Option Bool × Unit), (∀ v ∈ l, HashSome P w n s v) → ∀ Q' : Option Bool × Unit → Shared → Prop, (∀ r', Q' r' s) → wpAny (model P w) A (forIn l r fun x r => do
      let __do_lift ← hashByValue n x
      if (!__do_lift) = true then pure (ForInStep.done (some false, ())) else pure (ForInStep.yield (none, ()))) Q' E s := by
    intro l
    induction l with
    | nil => intro r _ Q' h; exact wpAny_pure (h r)
    | cons v l ih =>
      intro r hall Q' h
      rw [List.forIn_cons]
      refine wpAny_bind (wpAny_bind (hall v List.mem_cons_self _ _ _ fun b => ?_))
      cases b with
      | true =>
        simp only [Bool.not_true, Bool.false_eq_true, if_false]
        exact wpAny_pure (ih _ (fun u hu => hall u (List.mem_cons_of_mem _ hu)) Q' h)
      | false =>
        simp only [Bool.not_false, if_true]
        exact wpAny_pure (wpAny_pure (h _))
  refine loop _ _ hq _ fun r' => ?_
  obtain ⟨r1, r2⟩ := r'
  cases r1 with
  | none => exact wpAny_pure (q _)
  | some b => exact wpAny_pure (q _)
mutual
theorem hsome_key : ∀ (k : NestedKey) (v : Value) (n : Nat) (s : Shared), NestedIs s.heap k v → HashSome P w n s v
  | .none, _, n, s, x => fun A E Q q => by cases x; cases n <;> exact wpAny_pure (q _)
  | .num i, _, n, s, x => fun A E Q q => by cases x <;> cases n <;> exact wpAny_pure (q _)
  | .text y, _, n, s, x => fun A E Q q => by cases x; cases n <;> exact wpAny_pure (q _)
  | .tup ks, _, n, s, x => by
    cases x with
    | tup hg hc hd hk =>
      cases n with
      | zero => exact fun A E Q q => wpAny_pure (q _)
      | succ n => exact hsome_tup hg hc hd (hsome_keys ks _ n s hk)
theorem hsome_keys : ∀ (ks : List NestedKey) (vs : List Value) (n : Nat) (s : Shared), NestedAll s.heap ks vs → ∀ v ∈ vs, HashSome P w n s v
  | [], _, n, s, x, v, hv => by cases x; cases hv
  | k :: ks, _, n, s, x, v, hv => by
    cases x with
    | cons x1 x2 =>
      rcases List.mem_cons.mp hv with e | hv
      · rw [e]; exact hsome_key k _ n s x1
      · exact hsome_keys ks _ n s x2 v hv
end
/-- a search among tuples of this kind shows nothing -/
theorem seen_key {k : NestedKey} {b : Addr} {Q : Bool → Shared → Prop} (hk : TupN s.heap k b) {ys : List Value} (hy : ∀ y ∈ ys, ∃ k' c, y = Value.ref c ∧ TupN s.heap k' c) (h : Q false s) :
    wpAny (model P w) A (searchCouldBeSeen (.ref b) ys) Q E s := by
  unfold searchCouldBeSeen
  refine wpAny_bind ?_
  refine wpAny_forIn_list _ (fun rest r s' => r.1 = none ∧ s' = s ∧ ∀ y ∈ rest, ∃ k' c, y = Value.ref c ∧ TupN s.heap k' c) _ ?_ ?_ _ _ ⟨rfl, rfl, hy⟩
  · rintro v rest r s' ⟨hr, rfl, hall⟩
    obtain ⟨k', c, rfl, hc⟩ := hall v List.mem_cons_self
    have rest' : ∀ y ∈ rest, ∃ k' c, y = Value.ref c ∧ TupN s'.heap k' c := fun u hu' => hall u (List.mem_cons_of_mem _ hu')
    dsimp only
    by_cases hv : (b == c || (carriedByValue (.ref b) && carriedByValue (.ref c))) = true
    · refine wp_if_pos hv ?_
      exact wpAny_pure ⟨rfl, rfl, rest'⟩
    · refine wp_if_neg hv ?_
      refine wpAny_bind (quiet_key k _ 8 s' hk.1 hk.2 _ _ _ ?_)
      simp only [Bool.not_true, Bool.false_eq_true, if_false]
      refine wpAny_bind (quiet_key k' _ 8 s' hc.1 hc.2 _ _ _ ?_)
      simp only [Bool.not_true, Bool.false_eq_true, if_false]
      refine wpAny_bind (nocls_key k _ 8 s' hk.1 hk.2 _ _ _ ?_)
      simp only [Bool.false_eq_true, if_false]
      refine wpAny_bind (nocls_key k' _ 8 s' hc.1 hc.2 _ _ _ ?_)
      simp only [Bool.false_eq_true, if_false]
      exact wpAny_pure ⟨rfl, rfl, rest'⟩
  · rintro ⟨r1, r2⟩ s' ⟨hr, rfl, _⟩
    simp only at hr
    subst hr
    exact wpAny_pure h
end
end Hs
end
section
set_option Elab.async false
set_option linter.all false
set_option maxRecDepth 100000
set_option maxHeartbeats 4000000
namespace Hs
open PySem PySem.Spec PyProof.Rows L2
section
variable {P : Program} {w : World} {A : Around} {E : Value → Shared → Prop} {s : Shared}
def rowsN (w : World) (L : List (Addr × NestedKey)) : List (Int × Value) := L.map fun p => ((NestedKey.hash w p.2), Value.ref p.1)
structure SetNR (w : World) (h : Heap) (a : Addr) (L : List (Addr × NestedKey)) (es : Array (Int × Value)) (ep : Nat) (t : SetTable) : Prop where
  ob : ∃ o, h.get? a = some o ∧ o.ExactSet ∧ o.data = .set es ep t
  rows : es.toList = rowsN w L
  tab : TabOk t (L.map fun p => (NestedKey.hash w p.2))
  nd : (L.map (·.2)).Nodup
  tup : ∀ p ∈ L, TupN h p.2 p.1
  led : w.params.followText "set-order" = true ∨ t.led = true
  room : L.length * 5 < t.mask * 3
  few : L.length < 64
variable {a : Addr} {L : List (Addr × NestedKey)} {es : Array (Int × Value)} {ep : Nat} {t : SetTable}
theorem SetNR.size (R : SetNR w s.heap a L es ep t) : es.size = L.length := by
  have h := congrArg List.length R.rows
  unfold rowsN at h
  rw [Array.length_toList, List.length_map] at h
  exact h
theorem SetNR.fits (R : SetNR w s.heap a L es ep t) : t.fits es.size = true := by
  have h1 := R.tab.sz
  rw [List.length_map] at h1
  have h2 := R.size
  have h3 := R.room
  unfold SetTable.fits SetTable.fill
  rw [R.tab.dm, Bool.and_eq_true, beq_iff_eq, decide_eq_true_eq]
  show t.place.size = es.size ∧ t.place.size + 0 ≤ t.mask
  omega
theorem SetNR.entry (R : SetNR w s.heap a L es ep t) {i : Nat} {p : Addr × NestedKey} (h : L[i]? = some p) : es[i]? = some ((NestedKey.hash w p.2), Value.ref p.1) := by
  rw [← Array.getElem?_toList, R.rows]
  unfold rowsN
  rw [List.getElem?_map, h] <;> rfl
theorem SetNR.gw (R : SetNR w s.heap a L es ep t) : ¬ t.gaveWay = true := by
  unfold SetTable.gaveWay
  rw [mask_odd R.tab.mok]
  decide
theorem sameMem (t : SetTable) : t.sameMemory t.moves t.mask = some true := by
  unfold SetTable.sameMemory
  rw [if_pos (beq_self_eq_true _)]

/-- THE SEARCH: from the c-th step of the way on -/
theorem search_fromN (R : SetNR w s.heap a L es ep t) {x : Addr} {k : NestedKey} (hx : TupN s.heap k x) (hu : A.units + 8 < cLine) {K : Nat} (hKf : K < 10 * SetTable.turns t.mask)
    (hK : way t.mask ((NestedKey.hash w k)) K ∉ t.place.toList) (hKb : ∀ c, c < K → way t.mask ((NestedKey.hash w k)) c ∈ t.place.toList) {Q : SetFound → Shared → Prop}
    (hin : k ∈ L.map (·.2) → Q (.there none) s) (hout : k ∉ L.map (·.2) → Q (.free (way t.mask ((NestedKey.hash w k)) K) false) s) :
    ∀ (f c : Nat) (stand : Option SetTable.Probe), stand.getD (t.probeStart ((NestedKey.hash w k))) = nth t.mask (runAt t.mask (SetTable.bits ((NestedKey.hash w k)) % (t.mask + 1)) (SetTable.bits ((NestedKey.hash w k)))) c → c ≤ K → K - c < f →
      (∀ (i : Nat) p, L[i]? = some p → p.2 = k → ∃ c', c ≤ c' ∧ c' < K ∧ t.place.toList[i]? = some (way t.mask ((NestedKey.hash w k)) c')) →
      wpAny (model P w) A (setSearchFrom a (.ref x) ((NestedKey.hash w k)) true f stand) Q E s
  | 0, c, stand, _, _, hf, _ => absurd hf (Nat.not_lt_zero _)
  | f + 1, c, stand, hst, hc, hf, hre => by
    obtain ⟨o, ho, hex, hd⟩ := R.ob
    rw [setSearchFrom_succ]
    refine wpAny_bind (wpAny_setState_of ho hd R.fits ?_)
    dsimp only
    refine wp_if_neg R.gw ?_
    try refine wpAny_bind (wpAny_pure ?_)
    have hnd : (nth t.mask (runAt t.mask (SetTable.bits ((NestedKey.hash w k)) % (t.mask + 1)) (SetTable.bits ((NestedKey.hash w k)))) c).dummy = none := by
      have key : ∀ (n : Nat) (p : SetTable.Probe), p.dummy = none → (nth t.mask p n).dummy = none := by
        intro n
        induction n with
        | zero => intro p h; exact h
        | succ n ih =>
          intro p h
          refine ih (adv t.mask p) ?_
          unfold adv
          split <;> exact h
      exact key c _ rfl
    have sh : ∀ q, nth t.mask (nth t.mask (runAt t.mask (SetTable.bits ((NestedKey.hash w k)) % (t.mask + 1)) (SetTable.bits ((NestedKey.hash w k)))) c) q = nth t.mask (runAt t.mask (SetTable.bits ((NestedKey.hash w k)) % (t.mask + 1)) (SetTable.bits ((NestedKey.hash w k)))) (c + q) := fun q => (nth_add t.mask c _ q).symm
    have e1 : ∀ q, (nth t.mask (nth t.mask (runAt t.mask (SetTable.bits ((NestedKey.hash w k)) % (t.mask + 1)) (SetTable.bits ((NestedKey.hash w k)))) c) q).j = way t.mask ((NestedKey.hash w k)) (c + q) := fun q => congrArg SetTable.Probe.j (sh q)
    have spec := go_spec t R.tab.ris R.tab.dm (fun i => (es[i]?.map (·.1)).getD 0) ((NestedKey.hash w k)) (10 * SetTable.turns t.mask) (K - c) _ hnd (by omega)
      (fun q hq => by rw [e1]; exact hKb (c + q) (by omega)) (by rw [e1, show c + (K - c) = K by omega]; exact hK)
    have hashAt : ∀ (i : Nat) p, L[i]? = some p → (fun i => (es[i]?.map (·.1)).getD 0) i = (NestedKey.hash w p.2) := fun i p hp => by
      show (es[i]?.map (·.1)).getD 0 = _
      rw [R.entry hp] <;> rfl
    rcases spec with ⟨q, i, hq, hi, hh, hno, hpr⟩ | ⟨hno, hpr⟩
    · -- a candidate
      have hpr' : t.probe (fun i => (es[i]?.map (·.1)).getD 0) ((NestedKey.hash w k)) (stand.getD (t.probeStart ((NestedKey.hash w k)))) = some (.candidate (way t.mask ((NestedKey.hash w k)) (c + q)) i (nth t.mask (runAt t.mask (SetTable.bits ((NestedKey.hash w k)) % (t.mask + 1)) (SetTable.bits ((NestedKey.hash w k)))) (c + (q + 1)))) := by
        rw [hst, ← e1, ← sh]
        exact hpr
      rw [hpr']
      dsimp only
      rw [e1] at hi
      -- the entry
      have hil : i < L.length := by
        have h1 : i < t.place.toList.length := (List.getElem?_eq_some_iff.mp hi).1
        have h2 := R.tab.sz
        rw [List.length_map] at h2
        rw [Array.length_toList] at h1
        omega
      have hp : L[i]? = some L[i] := List.getElem?_eq_getElem hil
      generalize hpe : L[i] = p at hp
      have hmem : p ∈ L := List.mem_of_getElem? hp
      have hpt := R.tup p hmem
      have rest : wpAny (model P w) A (searchRest a (.ref x) ((NestedKey.hash w k)) true f es t (way t.mask ((NestedKey.hash w k)) (c + q)) i (nth t.mask (runAt t.mask (SetTable.bits ((NestedKey.hash w k)) % (t.mask + 1)) (SetTable.bits ((NestedKey.hash w k)))) (c + (q + 1)))) Q E s := by
        unfold searchRest
        rw [R.entry hp]
        dsimp only
        refine wpAny_bind (wpAny_holding ((nestedKind P w).eqBool hu hpt hx ?_))
        refine wpAny_bind (wpAny_setState_of ho hd R.fits ?_)
        dsimp only
        by_cases hkk : p.2 = k
        · refine wp_if_pos (by simp [hkk]) ?_
          refine wpAny_pure (hin ?_)
          exact List.mem_map.mpr ⟨p, hmem, hkk⟩
        · refine wp_if_neg (by simp [hkk]) ?_
          try refine wpAny_bind (wpAny_pure ?_)
          rw [sameMem]
          dsimp only
          have hsl : t.slot (way t.mask ((NestedKey.hash w k)) (c + q)) = .live i := slot_live R.tab.ris hi
          simp only [if_true, hsl, R.entry hp]
          refine wpAny_bind (wpAny_isSame_ref_self (wpAny_bind (wpAny_pure ?_)))
          simp only [if_true]
          refine wp_if_neg (by simp [hkk]) ?_
          refine search_fromN R hx hu hKf hK hKb hin hout f (c + (q + 1)) _ rfl (by omega) (by omega) fun i0 p0 h0 hk0 => ?_
          obtain ⟨c', a1, a2, a3⟩ := hre i0 p0 h0 hk0
          refine ⟨c', ?_, a2, a3⟩
          -- it isn't passed
          rcases Nat.lt_or_ge c' (c + q) with z | z
          · exfalso
            refine hno (c' - c) i0 (by omega) (by rw [e1, show c + (c' - c) = c' by omega]; exact a3) ?_
            exact (hashAt i0 p0 h0).trans (congrArg (NestedKey.hash w) hk0)
          · rcases Nat.lt_or_ge (c + q) c' with y | y
            · omega
            · exfalso
              have ec : c' = c + q := Nat.le_antisymm y z
              rw [ec] at a3
              have s0 := slot_live R.tab.ris a3
              rw [hsl] at s0
              injection s0 with s0
              rw [← s0, hp] at h0
              exact hkk ((congrArg Prod.snd (Option.some.inj h0)).trans hk0)
      by_cases hl : t.led = true
      · refine wp_if_neg (by simp [hl]) ?_
        try refine wpAny_bind (wpAny_pure ?_)
        exact rest
      · refine wp_if_pos (by simp [hl]) ?_
        refine wpAny_bind (seen_key hx (fun y hy => ?_) ?_)
        · obtain ⟨e, he, ee⟩ := List.mem_map.mp hy
          have he1 : e ∈ es ∧ e.1 = (NestedKey.hash w k) := by simpa using he
          have he2 : e ∈ es.toList := by simpa using he1.1
          rw [R.rows] at he2
          obtain ⟨p2, hp2, e2⟩ := List.mem_map.mp he2
          refine ⟨p2.2, p2.1, ?_, R.tup p2 hp2⟩
          rw [← ee, ← e2]
        · refine wp_if_neg (by decide) ?_
          try refine wpAny_bind (wpAny_pure ?_)
          exact rest
    · -- the empty slot
      have hpr' : t.probe (fun i => (es[i]?.map (·.1)).getD 0) ((NestedKey.hash w k)) (stand.getD (t.probeStart ((NestedKey.hash w k)))) = some (.empty (way t.mask ((NestedKey.hash w k)) K) none) := by
        have e2 : way t.mask ((NestedKey.hash w k)) K = (nth t.mask (nth t.mask (runAt t.mask (SetTable.bits ((NestedKey.hash w k)) % (t.mask + 1)) (SetTable.bits ((NestedKey.hash w k)))) c) (K - c)).j := by
          rw [e1, show c + (K - c) = K by omega]
        rw [hst, e2]
        exact hpr
      rw [hpr']
      dsimp only
      refine wpAny_pure (hout fun hm => ?_)
      obtain ⟨p0, h0, hk0⟩ := List.mem_map.mp hm
      obtain ⟨i0, hi0, e0⟩ := List.getElem_of_mem h0
      have h00 : L[i0]? = some p0 := by rw [List.getElem?_eq_getElem hi0, e0]
      obtain ⟨c', a1, a2, a3⟩ := hre i0 p0 h00 hk0
      refine hno (c' - c) i0 (by omega) (by rw [e1, show c + (c' - c) = c' by omega]; exact a3) ?_
      exact (hashAt i0 p0 h00).trans (congrArg (NestedKey.hash w) hk0)

/-- the search as adding asks for it -/
theorem search_atN (R : SetNR w s.heap a L es ep t) {x : Addr} {k : NestedKey} (hx : TupN s.heap k x) (hu : A.units + 8 < cLine) {Q : SetFound → Shared → Prop}
    (hin : k ∈ L.map (·.2) → Q (.there none) s)
    (hout : ∀ K, k ∉ L.map (·.2) → way t.mask ((NestedKey.hash w k)) K ∉ t.place.toList → (∀ c, c < K → way t.mask ((NestedKey.hash w k)) c ∈ t.place.toList) → Q (.free (way t.mask ((NestedKey.hash w k)) K) false) s) :
    wpAny (model P w) A (setSearch a (.ref x) ((NestedKey.hash w k)) true) Q E s := by
  have hroom := R.room
  obtain ⟨K, hKf, hK, hKb⟩ := R.tab.first (by rw [List.length_map]; omega) ((NestedKey.hash w k))
  have hbig : K < 100000 := by
    have : 10 * SetTable.turns t.mask ≤ 1420 := by
      unfold SetTable.turns
      rcases R.tab.mok with e | e | e <;> omega
    omega
  unfold setSearch
  refine search_fromN R hx hu hKf hK hKb hin (fun hn => hout K hn hK hKb) 100000 0 none rfl (Nat.zero_le _) (by omega) fun i p hp hk => ?_
  have hi : (L.map fun p => (NestedKey.hash w p.2))[i]? = some ((NestedKey.hash w k)) := by rw [List.getElem?_map, hp, ← hk] <;> rfl
  have hil : i < t.place.toList.length := by
    have h1 : i < L.length := (List.getElem?_eq_some_iff.mp hp).1
    have h2 := R.tab.sz
    rw [List.length_map] at h2
    rw [Array.length_toList]
    omega
  have hj := List.getElem?_eq_getElem hil
  obtain ⟨c, hc, e⟩ := R.tab.before hK hi hj
  exact ⟨c, Nat.zero_le _, hc, by rw [hj, e]⟩
end

/-! part 2 -/
section
variable {P : Program} {w : World} {A : Around} {E : Value → Shared → Prop} {s : Shared}
/-- a tuple isn't the set -/
theorem tupN_same {h h' : Heap} {k : NestedKey} {a b : Addr} {o : Obj} {es : Array (Int × Value)} {ep : Nat} {t : SetTable} (hb : TupN h k b) (ho : h.get? a = some o) (hd : o.data = .set es ep t) (hs : Heap.SameBut a h h') : TupN h' k b :=
  ⟨NestedIs.at (fun c o' vs n ho' hd' => (hs.2 c (fun e => by subst e; rw [ho] at ho'; cases ho'; rw [hd] at hd'; cases hd')).trans ho') _ _ hb.1, hb.2⟩
theorem rows_putN (L : List (Addr × NestedKey)) (p : Nat) (x : Addr) (k : NestedKey) : rowsN w (L.take p ++ (x, k) :: L.drop p) = (rowsN w L).take p ++ ((NestedKey.hash w k), Value.ref x) :: (rowsN w L).drop p := by
  unfold rowsN
  rw [List.map_append, List.map_cons, List.map_take, List.map_drop]
theorem put_perm {α : Type} (L : List α) (p : Nat) (x : α) : (L.take p ++ x :: L.drop p).Perm (x :: L) := by
  have h : (L.take p ++ x :: L.drop p).Perm (x :: (L.take p ++ L.drop p)) := List.perm_middle
  rw [List.take_append_drop] at h
  exact h
theorem order_rowsN (L : List (Addr × NestedKey)) (es : Array (Int × Value)) (order : Array Nat) (hr : es.toList = rowsN w L) (hp : order.toList.Perm (List.range L.length)) :
    ∃ L2, (order.filterMap (es[·]?)).toList = rowsN w L2 ∧ L2.Perm L ∧ (L2.map fun p => (NestedKey.hash w p.2)) = order.toList.map fun i => (es.map (·.1)).getD i 0 := by
  have hsz : es.size = L.length := by
    have h := congrArg List.length hr
    unfold rowsN at h
    rw [Array.length_toList, List.length_map] at h
    exact h
  have ent : ∀ i (h : i < L.length), es[i]? = some ((NestedKey.hash w (L[i]).2), Value.ref (L[i]).1) := fun i h => by
    rw [← Array.getElem?_toList, hr]
    unfold rowsN
    rw [List.getElem?_map, List.getElem?_eq_getElem h] <;> rfl
  have key : ∀ l : List Nat, (∀ i ∈ l, i < L.length) → ∃ L2 : List (Addr × NestedKey), l.filterMap (fun i => es[i]?) = rowsN w L2 ∧ L2 = l.filterMap (fun i => L[i]?) ∧ (L2.map fun p => (NestedKey.hash w p.2)) = l.map fun i => (es.map (·.1)).getD i 0 := by
    intro l
    induction l with
    | nil => intro _; exact ⟨[], rfl, rfl, rfl⟩
    | cons i l ih =>
      intro hl
      have hi := hl i List.mem_cons_self
      obtain ⟨L2, e1, e2, e3⟩ := ih fun j hj => hl j (List.mem_cons_of_mem _ hj)
      refine ⟨L[i] :: L2, ?_, ?_, ?_⟩
      · rw [List.filterMap_cons_some (ent i hi), e1] <;> rfl
      · rw [List.filterMap_cons_some (List.getElem?_eq_getElem hi), e2]
      · rw [List.map_cons, List.map_cons, e3]
        have hi2 : i < (es.map (·.1)).size := by rw [Array.size_map, hsz]; exact hi
        have e4 : (es.map (·.1)).getD i 0 = (NestedKey.hash w (L[i]).2) := by
          have e5 : (es.map (·.1))[i]? = some ((NestedKey.hash w (L[i]).2)) := by rw [Array.getElem?_map, ent i hi] <;> rfl
          simp [Array.getD_eq_getD_getElem?, e5]
        rw [e4]
  obtain ⟨L2, e1, e2, e3⟩ := key order.toList fun i hi => List.mem_range.mp (hp.mem_iff.mp hi)
  refine ⟨L2, by first | (rw [Array.toList_filterMap]; exact e1) | simpa using e1, ?_, e3⟩
  have h1 : L2.Perm ((List.range L.length).filterMap fun i => L[i]?) := by
    rw [e2]
    exact hp.filterMap _
  have h2 : (List.range L.length).filterMap (fun i => L[i]?) = L := by
    have key2 : ∀ n, n ≤ L.length → (List.range n).filterMap (fun i => L[i]?) = L.take n := by
      intro n
      induction n with
      | zero => intro _; rfl
      | succ n ih =>
        intro hn
        have hlt : n < L.length := hn
        rw [List.range_succ, List.filterMap_append, ih (Nat.le_of_lt hlt), List.take_succ, List.getElem?_eq_getElem hlt]
        rw [List.filterMap_cons_some (List.getElem?_eq_getElem hlt)] <;> rfl
    rw [key2 L.length (Nat.le_refl _), List.take_length]
  rw [h2] at h1
  exact h1

variable {a : Addr} {L : List (Addr × NestedKey)} {es : Array (Int × Value)} {ep : Nat} {t : SetTable}
/-- the table laid anew, larger -/
theorem relay_atN {o : Obj} (ho : s.heap.get? a = some o) (hex : o.ExactSet) (hd : o.data = .set es ep t) (hrows : es.toList = rowsN w L) (hsz : t.place.size = es.size) (hdm : t.dummies = #[]) (hfl : es.size ≤ t.mask)
    (nd : (L.map (·.2)).Nodup) (tup : ∀ p ∈ L, TupN s.heap p.2 p.1) (ld : w.params.followText "set-order" = true ∨ t.led = true) (few : L.length < 64) {wanted M : Nat}
    (hw : SetTable.sizeAbove wanted - 1 = M) (hM : MaskOk M) (hw2 : SetTable.sizeAbove wanted ≤ 128) (hn : L.length * 5 < M * 3) {Q : Unit → Shared → Prop}
    (hQ : ∀ h' L' es' ep' t', Heap.SameBut a s.heap h' → SetNR w h' a L' es' ep' t' → L'.Perm L → Q () { s with heap := h' }) : wpAny (model P w) A (setRelay a wanted) Q E s := by
  have hsl : es.size = L.length := by
    have h := congrArg List.length hrows
    unfold rowsN at h
    rw [Array.length_toList, List.length_map] at h
    exact h
  have hfits : t.fits es.size = true := by
    unfold SetTable.fits SetTable.fill
    rw [hdm, Bool.and_eq_true, beq_iff_eq, decide_eq_true_eq]
    show t.place.size = es.size ∧ t.place.size + 0 ≤ t.mask
    omega
  obtain ⟨t', order, e, hp, T, em, el, ep', ed⟩ := relaid_ok t (hs := es.map (·.1)) (wanted := wanted) hw hM (by rw [Array.size_map, hsl]; omega)
  rw [Array.size_map, hsl] at hp
  obtain ⟨L2, r1, r2, r3⟩ := order_rowsN L es order hrows hp
  rw [← r3] at T
  have hs2 : (order.filterMap (es[·]?)).size = es.size := by
    have h := congrArg List.length r1
    unfold rowsN at h
    rw [Array.length_toList, List.length_map, r2.length_eq] at h
    rw [h, hsl]
  rw [setRelay_eq]
  refine wpAny_bind (wpAny_setState_of ho hd hfits ?_)
  dsimp only
  refine wp_if_neg (by rw [sizeLine_eq]; omega) ?_
  try refine wpAny_bind (wpAny_pure ?_)
  rw [e]
  dsimp only
  refine wpAny_bind ?_
  refine wp_if_neg (by rw [hs2]; simp) ?_
  try refine wpAny_bind (wpAny_pure ?_)
  refine wpAny_pure ?_
  dsimp only
  refine wpAny_storeSet_of ho hd ?_ (by rw [hs2, hsl, sizeLine_eq]; omega)
  have sb : Heap.SameBut a s.heap (s.heap.update a (Obj.putSet (order.filterMap (es[·]?)) t')) := Heap.SameBut.update ..
  refine hQ _ L2 (order.filterMap (es[·]?)) (ep + 1) t' sb ?_ r2
  refine ⟨⟨_, store_at ho hd, ⟨hex.1, hex.2.1, hex.2.2⟩, rfl⟩, r1, T, ?_, fun p hpm => tupN_same (tup p (r2.mem_iff.mp hpm)) ho hd sb, by rw [el]; exact ld, ?_, by rw [r2.length_eq]; exact few⟩
  · exact (r2.map (·.2)).nodup_iff.mpr nd
  · rw [r2.length_eq, em]
    exact hn

/-- ADDING -/
theorem add_atN (R : SetNR w s.heap a L es ep t) {x : Addr} {k : NestedKey} (hx : TupN s.heap k x) (hu : A.units + 8 < cLine) (hfew : L.length + 1 < 64) {Q : Bool → Shared → Prop}
    (hQ : ∀ b h' L' es' ep' t', Heap.SameBut a s.heap h' → SetNR w h' a L' es' ep' t' → (k ∈ L.map (·.2) → L' = L) → (k ∉ L.map (·.2) → L'.Perm ((x, k) :: L)) → Q b { s with heap := h' }) :
    wpAny (model P w) A (setAddHashed a (.ref x) ((NestedKey.hash w k))) Q E s := by
  obtain ⟨o, ho, hex, hd⟩ := R.ob
  have hsl := R.size
  have hroom := R.room
  unfold setAddHashed
  refine wpAny_holding ?_
  rw [show (100000 : Nat) = 99999 + 1 from rfl, setAddHashedIn_succ]
  refine wpAny_bind (wpAny_setState_of ho hd R.fits ?_)
  dsimp only
  refine wp_if_neg (by simp [byScan, Value.scannable]) ?_
  try refine wpAny_bind (wpAny_pure ?_)
  refine wpAny_bind (search_atN R hx hu (fun hm => ?_) fun K hm hK hb => ?_)
  · dsimp only
    exact wpAny_pure (hQ false s.heap L es ep t (Heap.SameBut.refl a s.heap) R (fun _ => rfl) fun z => absurd hm z)
  · dsimp only
    refine wpAny_bind (wpAny_setState_of ho hd R.fits ?_)
    dsimp only
    obtain ⟨q1, q2, q3, q4, q5, q6, q7, q8, q9⟩ := R.tab.put hK hb
    generalize hpt : t.put (way t.mask ((NestedKey.hash w k)) K) = pt at q1 q3 q4 q5 q6 q7 q8 q9 ⊢
    obtain ⟨t1, p⟩ := pt
    dsimp only at q1 q3 q4 q5 q6 q7 q8 q9 ⊢
    subst q1
    have hby : ∀ (Q' : Bool → Shared → Prop), (∀ b, Q' b s) → wpAny (model P w) A (hashByValue 8 (.ref x)) Q' E s := fun Q' h => hsome_key k _ 8 s hx.1 A E Q' h
    have tfl : TabOk { t1 with plain := false } _ := ⟨q3.ris, q3.dm, q3.sz, q3.mok, q3.bd, q3.reach⟩
    by_cases hpl : t1.plain = true
    · first
        | (refine wpAny_bind ?_; refine wp_if_pos hpl ?_; refine hby _ fun b => ?_)
        | refine wp_if_pos hpl (wpAny_bind (hby _ fun b => ?_))
      cases b
      · simp only [Bool.false_eq_true, if_false]
        replace q3 := tfl
        replace q4 : ({ t1 with plain := false } : SetTable).mask = t.mask := q4
        replace q5 : ({ t1 with plain := false } : SetTable).led = t.led := q5
        replace q9 : ({ t1 with plain := false } : SetTable).fill = _ := q9
        clear tfl
        generalize ({ t1 with plain := false } : SetTable) = t1 at q3 q4 q5 q9 ⊢
        have hin : (SetTable.insertAt es (SetTable.below t.place (way t.mask ((NestedKey.hash w k)) K)) ((NestedKey.hash w k), Value.ref x)).toList = rowsN w (L.take (SetTable.below t.place (way t.mask ((NestedKey.hash w k)) K)) ++ (x, k) :: L.drop (SetTable.below t.place (way t.mask ((NestedKey.hash w k)) K))) := by
          rw [SetTable.toList_insertAt, rows_putN, R.rows]
        generalize hpp : SetTable.below t.place (way t.mask ((NestedKey.hash w k)) K) = p at q2 q3 hin ⊢
        have pm := put_perm L p (x, k)
        have hlen : (L.take p ++ (x, k) :: L.drop p).length = L.length + 1 := pm.length_eq
        have hhs : (L.take p ++ (x, k) :: L.drop p).map (fun p => (NestedKey.hash w p.2)) = (L.map fun p => (NestedKey.hash w p.2)).take p ++ (NestedKey.hash w k) :: (L.map fun p => (NestedKey.hash w p.2)).drop p := by
          rw [List.map_append, List.map_cons, List.map_take, List.map_drop]
        rw [← hhs] at q3
        have nd1 : ((L.take p ++ (x, k) :: L.drop p).map (·.2)).Nodup := by
          refine (pm.map (·.2)).nodup_iff.mpr ?_
          rw [List.map_cons]
          exact List.nodup_cons.mpr ⟨hm, R.nd⟩
        have hes : (SetTable.insertAt es p ((NestedKey.hash w k), Value.ref x)).size = L.length + 1 := by
          have h := congrArg List.length hin
          unfold rowsN at h
          rw [Array.length_toList, List.length_map, hlen] at h
          exact h
        generalize SetTable.insertAt es p ((NestedKey.hash w k), Value.ref x) = es1 at hin hes ⊢
        generalize L.take p ++ (x, k) :: L.drop p = L1 at pm hlen q3 nd1 hin
        refine wpAny_bind (wpAny_storeSet_of ho hd ?_ (by rw [hes, sizeLine_eq]; omega))
        have sb : Heap.SameBut a s.heap (s.heap.update a (Obj.putSet es1 t1)) := Heap.SameBut.update ..
        have ho1 := store_at (es' := es1) (t' := t1) ho hd
        generalize s.heap.update a (Obj.putSet es1 t1) = h1 at sb ho1 ⊢
        have tup1 : ∀ p ∈ L1, TupN h1 p.2 p.1 := fun p hp => by
          rcases List.mem_cons.mp (pm.mem_iff.mp hp) with e | hp
          · rw [e]; exact tupN_same hx ho hd sb
          · exact tupN_same (R.tup p hp) ho hd sb
        have ld1 : w.params.followText "set-order" = true ∨ t1.led = true := by rw [q5]; exact R.led
        by_cases hf : t1.tooFull = true
        · first
            | (refine wpAny_bind ?_; refine wp_if_pos (by simp [hf]) ?_)
            | (refine wp_if_pos (by simp [hf]) ?_; refine wpAny_bind ?_)
          have hfull : (L.length + 1) * 5 ≥ t1.mask * 3 := by
            have h := hf
            unfold SetTable.tooFull at h
            rw [decide_eq_true_eq, q9, List.length_map] at h
            exact h
          rw [hsl]
          have hsz1 : t1.place.size = es1.size := by
            have h := q3.sz
            rw [List.length_map, hlen] at h
            rw [h, hes]
          have cases2 : (t.mask = 7 ∧ L.length = 4) ∨ (t.mask = 31 ∧ L.length = 18) := by
            rcases R.tab.mok with e | e | e
            · left; rw [q4, e] at hfull; rw [e] at hroom; exact ⟨e, by omega⟩
            · right; rw [q4, e] at hfull; rw [e] at hroom; exact ⟨e, by omega⟩
            · exfalso; rw [q4, e] at hfull; omega
          have go : ∀ M, SetTable.sizeAbove (SetTable.grown (L.length + 1)) - 1 = M → MaskOk M → SetTable.sizeAbove (SetTable.grown (L.length + 1)) ≤ 128 → (L.length + 1) * 5 < M * 3 →
              wpAny (model P w) A (setRelay a (SetTable.grown (L.length + 1))) (fun _ s' => wpAny (model P w) A (pure true) Q E s') E { s with heap := h1 } := fun M h1' h2' h3' h4' => by
            refine relay_atN (s := { s with heap := h1 }) ho1 ⟨hex.1, hex.2.1, hex.2.2⟩ rfl hin hsz1 q3.dm (by rw [hes, q4]; rcases cases2 with ⟨e, e2⟩ | ⟨e, e2⟩ <;> omega) nd1 tup1 ld1 (by rw [hlen]; exact hfew) h1' h2' h3' (by rw [hlen]; exact h4') ?_
            intro h2 L2 es2 ep2 t2 sb2 R2 pm2
            refine wpAny_pure (hQ true h2 L2 es2 ep2 t2 (sb.trans sb2) R2 (fun z => absurd z hm) fun _ => pm2.trans pm)
          rcases cases2 with ⟨_, e2⟩ | ⟨_, e2⟩
          · refine go 31 (by rw [e2, size_20]) (.inr (.inl rfl)) (by rw [e2, size_20]; decide) (by omega)
          · refine go 127 (by rw [e2, size_76]) (.inr (.inr rfl)) (by rw [e2, size_76]; decide) (by omega)
        · first
            | refine wp_if_neg (by simp [hf]) ?_
            | (refine wpAny_bind ?_; refine wp_if_neg (by simp [hf]) ?_; refine wpAny_pure ?_)
          refine wpAny_pure (hQ true h1 L1 es1 (ep + 1) t1 sb ⟨⟨_, ho1, ⟨hex.1, hex.2.1, hex.2.2⟩, rfl⟩, hin, q3, nd1, tup1, ld1, ?_, by rw [hlen]; exact hfew⟩ (fun z => absurd z hm) fun _ => pm)
          have h := hf
          unfold SetTable.tooFull at h
          rw [decide_eq_true_eq, q9, List.length_map] at h
          rw [hlen]
          omega
      · simp only [if_true]
        have hin : (SetTable.insertAt es (SetTable.below t.place (way t.mask ((NestedKey.hash w k)) K)) ((NestedKey.hash w k), Value.ref x)).toList = rowsN w (L.take (SetTable.below t.place (way t.mask ((NestedKey.hash w k)) K)) ++ (x, k) :: L.drop (SetTable.below t.place (way t.mask ((NestedKey.hash w k)) K))) := by
          rw [SetTable.toList_insertAt, rows_putN, R.rows]
        generalize hpp : SetTable.below t.place (way t.mask ((NestedKey.hash w k)) K) = p at q2 q3 hin ⊢
        have pm := put_perm L p (x, k)
        have hlen : (L.take p ++ (x, k) :: L.drop p).length = L.length + 1 := pm.length_eq
        have hhs : (L.take p ++ (x, k) :: L.drop p).map (fun p => (NestedKey.hash w p.2)) = (L.map fun p => (NestedKey.hash w p.2)).take p ++ (NestedKey.hash w k) :: (L.map fun p => (NestedKey.hash w p.2)).drop p := by
          rw [List.map_append, List.map_cons, List.map_take, List.map_drop]
        rw [← hhs] at q3
        have nd1 : ((L.take p ++ (x, k) :: L.drop p).map (·.2)).Nodup := by
          refine (pm.map (·.2)).nodup_iff.mpr ?_
          rw [List.map_cons]
          exact List.nodup_cons.mpr ⟨hm, R.nd⟩
        have hes : (SetTable.insertAt es p ((NestedKey.hash w k), Value.ref x)).size = L.length + 1 := by
          have h := congrArg List.length hin
          unfold rowsN at h
          rw [Array.length_toList, List.length_map, hlen] at h
          exact h
        generalize SetTable.insertAt es p ((NestedKey.hash w k), Value.ref x) = es1 at hin hes ⊢
        generalize L.take p ++ (x, k) :: L.drop p = L1 at pm hlen q3 nd1 hin
        refine wpAny_bind (wpAny_storeSet_of ho hd ?_ (by rw [hes, sizeLine_eq]; omega))
        have sb : Heap.SameBut a s.heap (s.heap.update a (Obj.putSet es1 t1)) := Heap.SameBut.update ..
        have ho1 := store_at (es' := es1) (t' := t1) ho hd
        generalize s.heap.update a (Obj.putSet es1 t1) = h1 at sb ho1 ⊢
        have tup1 : ∀ p ∈ L1, TupN h1 p.2 p.1 := fun p hp => by
          rcases List.mem_cons.mp (pm.mem_iff.mp hp) with e | hp
          · rw [e]; exact tupN_same hx ho hd sb
          · exact tupN_same (R.tup p hp) ho hd sb
        have ld1 : w.params.followText "set-order" = true ∨ t1.led = true := by rw [q5]; exact R.led
        by_cases hf : t1.tooFull = true
        · first
            | (refine wpAny_bind ?_; refine wp_if_pos (by simp [hf]) ?_)
            | (refine wp_if_pos (by simp [hf]) ?_; refine wpAny_bind ?_)
          have hfull : (L.length + 1) * 5 ≥ t1.mask * 3 := by
            have h := hf
            unfold SetTable.tooFull at h
            rw [decide_eq_true_eq, q9, List.length_map] at h
            exact h
          rw [hsl]
          have hsz1 : t1.place.size = es1.size := by
            have h := q3.sz
            rw [List.length_map, hlen] at h
            rw [h, hes]
          have cases2 : (t.mask = 7 ∧ L.length = 4) ∨ (t.mask = 31 ∧ L.length = 18) := by
            rcases R.tab.mok with e | e | e
            · left; rw [q4, e] at hfull; rw [e] at hroom; exact ⟨e, by omega⟩
            · right; rw [q4, e] at hfull; rw [e] at hroom; exact ⟨e, by omega⟩
            · exfalso; rw [q4, e] at hfull; omega
          have go : ∀ M, SetTable.sizeAbove (SetTable.grown (L.length + 1)) - 1 = M → MaskOk M → SetTable.sizeAbove (SetTable.grown (L.length + 1)) ≤ 128 → (L.length + 1) * 5 < M * 3 →
              wpAny (model P w) A (setRelay a (SetTable.grown (L.length + 1))) (fun _ s' => wpAny (model P w) A (pure true) Q E s') E { s with heap := h1 } := fun M h1' h2' h3' h4' => by
            refine relay_atN (s := { s with heap := h1 }) ho1 ⟨hex.1, hex.2.1, hex.2.2⟩ rfl hin hsz1 q3.dm (by rw [hes, q4]; rcases cases2 with ⟨e, e2⟩ | ⟨e, e2⟩ <;> omega) nd1 tup1 ld1 (by rw [hlen]; exact hfew) h1' h2' h3' (by rw [hlen]; exact h4') ?_
            intro h2 L2 es2 ep2 t2 sb2 R2 pm2
            refine wpAny_pure (hQ true h2 L2 es2 ep2 t2 (sb.trans sb2) R2 (fun z => absurd z hm) fun _ => pm2.trans pm)
          rcases cases2 with ⟨_, e2⟩ | ⟨_, e2⟩
          · refine go 31 (by rw [e2, size_20]) (.inr (.inl rfl)) (by rw [e2, size_20]; decide) (by omega)
          · refine go 127 (by rw [e2, size_76]) (.inr (.inr rfl)) (by rw [e2, size_76]; decide) (by omega)
        · first
            | refine wp_if_neg (by simp [hf]) ?_
            | (refine wpAny_bind ?_; refine wp_if_neg (by simp [hf]) ?_; refine wpAny_pure ?_)
          refine wpAny_pure (hQ true h1 L1 es1 (ep + 1) t1 sb ⟨⟨_, ho1, ⟨hex.1, hex.2.1, hex.2.2⟩, rfl⟩, hin, q3, nd1, tup1, ld1, ?_, by rw [hlen]; exact hfew⟩ (fun z => absurd z hm) fun _ => pm)
          have h := hf
          unfold SetTable.tooFull at h
          rw [decide_eq_true_eq, q9, List.length_map] at h
          rw [hlen]
          omega
    · first
        | (refine wpAny_bind ?_; refine wp_if_neg hpl ?_; refine wpAny_pure ?_)
        | refine wp_if_neg hpl (wpAny_bind (wpAny_pure ?_))
      simp only [if_true]
      have hin : (SetTable.insertAt es (SetTable.below t.place (way t.mask ((NestedKey.hash w k)) K)) ((NestedKey.hash w k), Value.ref x)).toList = rowsN w (L.take (SetTable.below t.place (way t.mask ((NestedKey.hash w k)) K)) ++ (x, k) :: L.drop (SetTable.below t.place (way t.mask ((NestedKey.hash w k)) K))) := by
        rw [SetTable.toList_insertAt, rows_putN, R.rows]
      generalize hpp : SetTable.below t.place (way t.mask ((NestedKey.hash w k)) K) = p at q2 q3 hin ⊢
      have pm := put_perm L p (x, k)
      have hlen : (L.take p ++ (x, k) :: L.drop p).length = L.length + 1 := pm.length_eq
      have hhs : (L.take p ++ (x, k) :: L.drop p).map (fun p => (NestedKey.hash w p.2)) = (L.map fun p => (NestedKey.hash w p.2)).take p ++ (NestedKey.hash w k) :: (L.map fun p => (NestedKey.hash w p.2)).drop p := by
        rw [List.map_append, List.map_cons, List.map_take, List.map_drop]
      rw [← hhs] at q3
      have nd1 : ((L.take p ++ (x, k) :: L.drop p).map (·.2)).Nodup := by
        refine (pm.map (·.2)).nodup_iff.mpr ?_
        rw [List.map_cons]
        exact List.nodup_cons.mpr ⟨hm, R.nd⟩
      have hes : (SetTable.insertAt es p ((NestedKey.hash w k), Value.ref x)).size = L.length + 1 := by
        have h := congrArg List.length hin
        unfold rowsN at h
        rw [Array.length_toList, List.length_map, hlen] at h
        exact h
      generalize SetTable.insertAt es p ((NestedKey.hash w k), Value.ref x) = es1 at hin hes ⊢
      generalize L.take p ++ (x, k) :: L.drop p = L1 at pm hlen q3 nd1 hin
      refine wpAny_bind (wpAny_storeSet_of ho hd ?_ (by rw [hes, sizeLine_eq]; omega))
      have sb : Heap.SameBut a s.heap (s.heap.update a (Obj.putSet es1 t1)) := Heap.SameBut.update ..
      have ho1 := store_at (es' := es1) (t' := t1) ho hd
      generalize s.heap.update a (Obj.putSet es1 t1) = h1 at sb ho1 ⊢
      have tup1 : ∀ p ∈ L1, TupN h1 p.2 p.1 := fun p hp => by
        rcases List.mem_cons.mp (pm.mem_iff.mp hp) with e | hp
        · rw [e]; exact tupN_same hx ho hd sb
        · exact tupN_same (R.tup p hp) ho hd sb
      have ld1 : w.params.followText "set-order" = true ∨ t1.led = true := by rw [q5]; exact R.led
      by_cases hf : t1.tooFull = true
      · first
          | (refine wpAny_bind ?_; refine wp_if_pos (by simp [hf]) ?_)
          | (refine wp_if_pos (by simp [hf]) ?_; refine wpAny_bind ?_)
        have hfull : (L.length + 1) * 5 ≥ t1.mask * 3 := by
          have h := hf
          unfold SetTable.tooFull at h
          rw [decide_eq_true_eq, q9, List.length_map] at h
          exact h
        rw [hsl]
        have hsz1 : t1.place.size = es1.size := by
          have h := q3.sz
          rw [List.length_map, hlen] at h
          rw [h, hes]
        have cases2 : (t.mask = 7 ∧ L.length = 4) ∨ (t.mask = 31 ∧ L.length = 18) := by
          rcases R.tab.mok with e | e | e
          · left; rw [q4, e] at hfull; rw [e] at hroom; exact ⟨e, by omega⟩
          · right; rw [q4, e] at hfull; rw [e] at hroom; exact ⟨e, by omega⟩
          · exfalso; rw [q4, e] at hfull; omega
        have go : ∀ M, SetTable.sizeAbove (SetTable.grown (L.length + 1)) - 1 = M → MaskOk M → SetTable.sizeAbove (SetTable.grown (L.length + 1)) ≤ 128 → (L.length + 1) * 5 < M * 3 →
            wpAny (model P w) A (setRelay a (SetTable.grown (L.length + 1))) (fun _ s' => wpAny (model P w) A (pure true) Q E s') E { s with heap := h1 } := fun M h1' h2' h3' h4' => by
          refine relay_atN (s := { s with heap := h1 }) ho1 ⟨hex.1, hex.2.1, hex.2.2⟩ rfl hin hsz1 q3.dm (by rw [hes, q4]; rcases cases2 with ⟨e, e2⟩ | ⟨e, e2⟩ <;> omega) nd1 tup1 ld1 (by rw [hlen]; exact hfew) h1' h2' h3' (by rw [hlen]; exact h4') ?_
          intro h2 L2 es2 ep2 t2 sb2 R2 pm2
          refine wpAny_pure (hQ true h2 L2 es2 ep2 t2 (sb.trans sb2) R2 (fun z => absurd z hm) fun _ => pm2.trans pm)
        rcases cases2 with ⟨_, e2⟩ | ⟨_, e2⟩
        · refine go 31 (by rw [e2, size_20]) (.inr (.inl rfl)) (by rw [e2, size_20]; decide) (by omega)
        · refine go 127 (by rw [e2, size_76]) (.inr (.inr rfl)) (by rw [e2, size_76]; decide) (by omega)
      · first
          | refine wp_if_neg (by simp [hf]) ?_
          | (refine wpAny_bind ?_; refine wp_if_neg (by simp [hf]) ?_; refine wpAny_pure ?_)
        refine wpAny_pure (hQ true h1 L1 es1 (ep + 1) t1 sb ⟨⟨_, ho1, ⟨hex.1, hex.2.1, hex.2.2⟩, rfl⟩, hin, q3, nd1, tup1, ld1, ?_, by rw [hlen]; exact hfew⟩ (fun z => absurd z hm) fun _ => pm)
        have h := hf
        unfold SetTable.tooFull at h
        rw [decide_eq_true_eq, q9, List.length_map] at h
        rw [hlen]
        omega
end

/-! part 3 -/
/-- what the set has got from the first i items -/
structure GotN (ks : List (Addr × NestedKey)) (i : Nat) (L : List (Addr × NestedKey)) : Prop where
  sub : ∀ p ∈ L, p ∈ ks.take i
  all : ∀ p ∈ ks.take i, p.2 ∈ L.map (·.2)
  len : L.length ≤ i
theorem GotN.zero (ks : List (Addr × NestedKey)) : GotN ks 0 [] := ⟨fun p h => (by cases h), fun p h => (by simp at h), Nat.le_refl _⟩
theorem take_next {α : Type} {l : List α} {i : Nat} {x : α} (h : l[i]? = some x) : l.take (i + 1) = l.take i ++ [x] := by
  rw [List.take_succ, h] <;> rfl
theorem GotN.same {ks L : List (Addr × NestedKey)} {i : Nat} {x : Addr × NestedKey} (g : GotN ks i L) (h : ks[i]? = some x) (hm : x.2 ∈ L.map (·.2)) : GotN ks (i + 1) L := by
  refine ⟨fun p hp => ?_, fun p hp => ?_, Nat.le_succ_of_le g.len⟩
  · rw [take_next h]
    exact List.mem_append_left _ (g.sub p hp)
  · rw [take_next h] at hp
    rcases List.mem_append.mp hp with z | z
    · exact g.all p z
    · rw [List.mem_singleton.mp z]; exact hm
theorem GotN.more {ks L L' : List (Addr × NestedKey)} {i : Nat} {x : Addr × NestedKey} (g : GotN ks i L) (h : ks[i]? = some x) (pm : L'.Perm (x :: L)) : GotN ks (i + 1) L' := by
  refine ⟨fun p hp => ?_, fun p hp => ?_, ?_⟩
  · rw [take_next h]
    rcases List.mem_cons.mp (pm.mem_iff.mp hp) with e | z
    · rw [e]; exact List.mem_append_right _ (List.mem_singleton.mpr rfl)
    · exact List.mem_append_left _ (g.sub p z)
  · rw [(pm.map (·.2)).mem_iff, List.map_cons]
    rw [take_next h] at hp
    rcases List.mem_append.mp hp with z | z
    · exact List.mem_cons_of_mem _ (g.all p z)
    · rw [List.mem_singleton.mp z]; exact List.mem_cons_self
  · rw [pm.length_eq, List.length_cons]
    exact Nat.succ_le_succ g.len

section
variable {P : Program} {w : World} {A : Around} {E : Value → Shared → Prop} {s : Shared}
theorem tupN_keep {h h' : Heap} {k : NestedKey} {b : Addr} (x : TupN h k b) (hk : ∀ c o, h.get? c = some o → h'.get? c = some o) : TupN h' k b :=
  ⟨NestedIs.at (fun c o' vs n ho' hd' => hk c o' ho') _ _ x.1, x.2⟩
theorem SetNR.keep {h h' : Heap} {a : Addr} {L : List (Addr × NestedKey)} {es : Array (Int × Value)} {ep : Nat} {t : SetTable} (R : SetNR w h a L es ep t) (ha : ∀ o, h.get? a = some o → h'.get? a = some o) (ht : ∀ p ∈ L, TupN h' p.2 p.1) : SetNR w h' a L es ep t := by
  obtain ⟨o, ho, r⟩ := R.ob
  exact ⟨⟨o, ha o ho, r⟩, R.rows, R.tab, R.nd, ht, R.led, R.room, R.few⟩
/-- a new set -/
theorem setNR_fresh {h : Heap} {a : Addr} (ho : h.get? a = some { cls := .type "set", dict := none, data := .set #[] 0 (.fresh 0 0 (!w.params.followText "set-order")) }) : SetNR w h a [] #[] 0 (.fresh 0 0 (!w.params.followText "set-order")) where
  ob := ⟨_, ho, ⟨rfl, rfl, rfl⟩, rfl⟩
  rows := rfl
  tab := ⟨List.Pairwise.nil, rfl, rfl, .inl rfl, fun x hx => (by cases hx), fun i h j hi => (by simp at hi)⟩
  nd := List.nodup_nil
  tup := fun p hp => (by cases hp)
  led := by
    show _ ∨ (!w.params.followText "set-order") = true
    cases w.params.followText "set-order"
    · exact .inr rfl
    · exact .inl rfl
  room := by
    show 0 * 5 < 7 * 3
    decide
  few := by
    show 0 < 64
    decide

end
end Hs
end
section
set_option Elab.async false
set_option linter.all false
set_option maxRecDepth 100000
set_option maxHeartbeats 4000000
namespace Hs
open PySem PySem.Spec PyProof.Rows L2
abbrev Kept (h h' : Heap) : Prop := ∀ b o, h.get? b = some o → h'.get? b = some o
abbrev freshSet (w : World) : Obj := { cls := .type "set", dict := none, data := .set #[] 0 (.fresh 0 0 (!w.params.followText "set-order")) }
/-- what adding each item does to J -/
def Adds (P : Program) (w : World) (h0 : Heap) (S : Addr) (items : Array Value) (u : Nat) (J : Nat → Heap → Prop) : Prop :=
  ∀ (A : Around) (i : Nat) (v : Value) (s : Shared) (E : Value → Shared → Prop) (Q : Bool → Shared → Prop), A.units ≤ u → items[i]? = some v → Kept h0 s.heap → J i s.heap →
    (∀ b h' tk, s.toks ≤ tk → Heap.SameBut S s.heap h' → J (i + 1) h' → Q b { s with heap := h', toks := tk }) → wpAny (model P w) A (setAdd S v) Q E s
theorem Adds.mono {P : Program} {w : World} {h0 : Heap} {S : Addr} {items : Array Value} {u u' : Nat} {J : Nat → Heap → Prop} (x : Adds P w h0 S items u J) (h : u' ≤ u) : Adds P w h0 S items u' J :=
  fun A i v s E Q hu => x A i v s E Q (Nat.le_trans hu h)
section
variable {P : Program} {w : World} {A : Around} {E : Value → Shared → Prop} {s : Shared}
theorem update_gen {I : Addr} {fp wr : List Addr} {G : Array GenState → Array GenState → Prop} {items : Array Value} {Pv : Nat → Value → Prop} {St : Nat → Shared → Prop} {R : Result → Shared → Prop}
    (W : WalksS P w A.in1 I fp wr G items.size Pv St) (S : Addr) (hSf : S ∉ fp) (h0 : Heap) (hS0 : h0.get? S = none) (hw0 : ∀ b ∈ wr, h0.get? b = none) (hval : ∀ i v, Pv i v → items[i]? = some v)
    (J : Nat → Heap → Prop) (Jk : ∀ i h h', (∀ o, h.get? S = some o → h'.get? S = some o) → Kept h0 h' → J i h → J i h') (step : Adds P w h0 S items A.in1.units J) :
    ∀ (k i : Nat) (s : Shared), items.size - i = k → i ≤ items.size → St i s → Kept h0 s.heap → J i s.heap →
      (∀ s', Moved (S :: wr) G s s' → J items.size s'.heap → Kept h0 s'.heap → R (.ok (.ret .none)) s') →
      codeAny (model P w) A (.builtin "set.update.loop" ⟨[.ref S, .ref I], []⟩) R s := by
  have hSw : S ∉ wr := fun h => hSf (W.sub _ h)
  have hsub : ∀ b ∈ wr, b ∈ S :: wr := fun b hb => List.mem_cons_of_mem _ hb
  have keepM : ∀ {s s' : Shared}, Moved wr G s s' → Kept h0 s.heap → Kept h0 s'.heap := fun hm hkp b o e =>
    hm.heap b o (fun hb => by rw [hw0 b hb] at e; cases e) (hkp b o e)
  intro k
  induction k with
  | zero =>
    intro i s hk' hi hst hkp hS hR
    have hin : i = items.size := by omega
    subst hin
    refine codeAny_builtin F.entry_set_update_loop ?_
    rw [Around.under_plainId F.plain_set_update_loop _]
    show wpAny _ A.in1 (pyNext (.ref I) >>= _) _ _ s
    refine wpAny_bind (W.done s _ _ hst fun s' hm => ?_)
    show wpAny _ A.in1 (ret Value.none) _ _ s'
    have hkp' := keepM hm hkp
    exact wpAny_pure (hR s' (hm.mono hsub) (Jk _ _ _ (fun o e => hm.heap S o hSw e) hkp' hS) hkp')
  | succ k ih =>
    intro i s hk' hi hst hkp hS hR
    have hlt : i < items.size := by omega
    refine codeAny_builtin F.entry_set_update_loop ?_
    rw [Around.under_plainId F.plain_set_update_loop _]
    show wpAny _ A.in1 (pyNext (.ref I) >>= _) _ _ s
    refine wpAny_bind (W.item i s _ _ hlt hst fun v s' hP hst' hm => ?_)
    have hp := hval i v hP
    have hkp' := keepM hm hkp
    have hS' := Jk _ _ _ (fun o e => hm.heap S o hSw e) hkp' hS
    show wpAny _ A.in1 (holding [v] (setAdd S v) >>= _) _ _ s'
    refine wpAny_bind (wpAny_holding ?_)
    refine step A.in1 i v s' _ _ (Nat.le_refl _) hp hkp' hS' fun b h' tk htk hsb hS2 => ?_
    have hkp2 : Kept h0 h' := fun b o e => (hsb.2 b (fun z => by rw [z, hS0] at e; cases e)).trans (hkp' b o e)
    refine wpAny_pure ⟨plainId_quiet F.plain_set_update_loop _, ih (i + 1) _ (by omega) hlt (W.frame _ s' _ _ hst' htk fun b hb o e => ?_) hkp2 hS2 fun s'' hm'' hS'' hkp'' => ?_⟩
    · rw [hsb.2 b (fun h : b = S => hSf (by rw [← h]; exact hb))]; exact e
    · refine hR s'' (Moved.trans W.gtrans ((hm.mono hsub).then_heap htk fun b o hb e => ?_) hm'') hS'' hkp''
      rw [hsb.2 b (fun h : b = S => hb (by rw [h]; exact List.mem_cons_self))]; exact e

set_option maxRecDepth 100000 in
set_option maxHeartbeats 3200000 in
/-- set(xs) of a list -/
theorem call_set_list_gen {l : Addr} {items : Array Value} (J : Nat → Heap → Prop) {Q : Value → Shared → Prop} (hh : A.handled = none) (hl : s.heap.IsList l items)
    (J0 : ∀ h, h.get? s.heap.objs.size = some (freshSet w) → Kept s.heap h → J 0 h)
    (Jk : ∀ i h h', (∀ o, h.get? s.heap.objs.size = some o → h'.get? s.heap.objs.size = some o) → Kept s.heap h' → J i h → J i h')
    (step : Adds P w s.heap s.heap.objs.size items (A.units + 4) J)
    (h : ∀ (h' : Heap) (tk : Nat), J items.size h' → Kept s.heap h' → Q (.ref s.heap.objs.size) { s with heap := h', toks := tk }) :
    wpAny (model P w) A (call (.type "set") [.ref l]) Q E s := by
  obtain ⟨c, tl, hmro⟩ := F.called_set.mro
  have hmade := F.called_set.made
  have hsub := F.called_set.sub
  refine wpAny_call (codeAny_of_tree ?_)
  show wpAny _ _ (callAny (.type "set") _) _ _ _
  refine wpAny_pure ⟨Code.quiet_builtin _ (by decide +kernel), codeAny_builtin F.entry_type_call ?_⟩
  rw [Around.under_plain (weight_type_call_type "set" [.ref l] []) rfl]
  have h1 := F.called_set.notType
  have h2 := F.called_set.canCreate
  have hct := F.typeCall_set_1 (.ref l)
  repeat (any_goals (first | assumption | wp_step))
  refine codeAny_mono (code_set_led1 (.ref l) (E := E) (Q₁ := fun obj s₁ => obj = .ref s.heap.objs.size ∧ s₁ = { s with heap := s.heap.push (freshSet w) }) ⟨rfl, rfl⟩) fun r s₁ hr => ?_
  cases r with
  | error e => exact hr
  | ok fl =>
    cases fl with
    | ret obj =>
      obtain ⟨rfl, rfl⟩ := hr
      have hS : (s.heap.push (freshSet w)).get? s.heap.objs.size = some (freshSet w) := Heap.get?_push_size _ rfl
      have hT : Shared.TypeIs { s with heap := s.heap.push (freshSet w) } (.ref s.heap.objs.size) "set" := ⟨_, hS, rfl⟩
      have hli := F.called_set.init.lookup
      have hbi := F.called_set.init.bind (.ref s.heap.objs.size)
      repeat (any_goals (first | assumption | wp_step))
      refine codeAny_mono (codeAny_call_builtin (R := wants (fun r s₂ => r = .none ∧ ∃ h' tk, s₂ = { s with heap := h', toks := tk } ∧ J items.size h' ∧ Kept s.heap h') E) F.called_set.init.plain F.entry_set_init (check_set_init_1 hT ?_)) fun r₂ s₂ hr₂ => ?_
      · obtain ⟨ol, hol, hcl, nl, hdl⟩ := hl
        obtain ⟨ocls, odict, odata, oslots⟩ := ol
        simp only at hcl hdl
        subst hcl; subst hdl
        have hol' : (s.heap.push (freshSet w)).get? l = some { cls := .type "list", dict := odict, data := .seq items nl, slots := oslots } := Heap.get?_push_of_some _ hol
        have hsls := F.sub_list_set
        have hslf := F.sub_list_frozenset
        have hne : (Value.type "list" == Value.type "dict") = false := by decide
        have hl1 : (s.heap.push (freshSet w)).IsList l items := ⟨_, hol', rfl, nl, rfl⟩
        unfold Builtin.«set.__init__» noKeywords Builtin.Frozenset.updateFrom
        generalize hPI : pyIter = PI
        wp_walk
        subst hPI
        refine wpAny_pyIter_list hl1 ?_
        refine wpAny_bind (wpAny_runValue ?_)
        have hlS : l < s.heap.objs.size := Heap.lt_size hol
        have hh3 : A.in1.in1.in1.handled = none := by simp [hh]
        have hneI : l ≠ (s.heap.push (freshSet w)).objs.size := by
          rw [Heap.size_push]; exact Nat.ne_of_lt (Nat.lt_succ_of_lt hlS)
        have hSf : s.heap.objs.size ∉ [(s.heap.push (freshSet w)).objs.size, l] := by
          rw [Heap.size_push]; simp only [List.mem_cons, List.mem_singleton, List.not_mem_nil, or_false, not_or]
          exact ⟨Nat.ne_of_lt (Nat.lt_succ_self _), Nat.ne_of_gt hlS⟩
        have none_of : ∀ b, s.heap.objs.size ≤ b → s.heap.get? b = none := fun b hb => by
          cases q : s.heap.get? b with
          | none => rfl
          | some o => exact absurd (Nat.lt_of_lt_of_le (Heap.lt_size q) hb) (Nat.lt_irrefl _)
        have kp0 : Kept s.heap ((s.heap.push (freshSet w)).push { cls := .type "list_iterator", data := .fields #[.ref l, .int 0 0] }) := fun b o e => Heap.get?_push_of_some _ (Heap.get?_push_of_some _ e)
        refine update_gen ((Walks.list hh3 _ l hneI items).toS) s.heap.objs.size hSf s.heap (none_of _ (Nat.le_refl _)) (fun b hb => none_of b (by
            rw [List.mem_singleton.mp hb, Heap.size_push]
            exact Nat.le_succ _)) (fun i v q => q) J Jk (step.mono (by simp [Around.in1_units]; try omega)) (items.size - 0) 0 _ (by omega) (Nat.zero_le _)
          ⟨⟨_, Heap.get?_push_size _ rfl, rfl, rfl⟩, (hl1.push _)⟩ kp0 (J0 _ (Heap.get?_push_of_some _ hS) kp0) ?hR
        case hR =>
          intro s' hm hS' hkp
          obtain ⟨h', g2, d', tk', os'⟩ := s'
          have eg : g2 = s.gens := hm.gens
          have ed : d' = s.drawn := hm.drawn
          have eo : os' = s.os := hm.os
          subst eg; subst ed; subst eo
          show wpAny _ _ _ _ _ _
          refine wpAny_pure ?_
          show wpAny _ _ (ret Value.none) _ _ _
          exact wpAny_pure ⟨rfl, h', tk', rfl, hS', hkp⟩
      · cases r₂ with
        | error e => exact hr₂
        | ok fl₂ =>
          cases fl₂ with
          | ret r =>
            obtain ⟨rfl, h', tk, rfl, hS', hk'⟩ := hr₂
            repeat (any_goals (first | assumption | wp_step))
            exact h _ _ hS' hk'
          | _ => exact hr₂.elim
    | _ => exact hr.elim

set_option maxRecDepth 100000 in
set_option maxHeartbeats 3200000 in
/-- set(xs) of a tuple -/
theorem call_set_tuple_gen {l : Addr} {items : Array Value} (J : Nat → Heap → Prop) {Q : Value → Shared → Prop} (hh : A.handled = none) (hl : s.heap.IsTuple l items)
    (J0 : ∀ h, h.get? s.heap.objs.size = some (freshSet w) → Kept s.heap h → J 0 h)
    (Jk : ∀ i h h', (∀ o, h.get? s.heap.objs.size = some o → h'.get? s.heap.objs.size = some o) → Kept s.heap h' → J i h → J i h')
    (step : Adds P w s.heap s.heap.objs.size items (A.units + 4) J)
    (h : ∀ (h' : Heap) (tk : Nat), J items.size h' → Kept s.heap h' → Q (.ref s.heap.objs.size) { s with heap := h', toks := tk }) :
    wpAny (model P w) A (call (.type "set") [.ref l]) Q E s := by
  obtain ⟨c, tl, hmro⟩ := F.called_set.mro
  have hmade := F.called_set.made
  have hsub := F.called_set.sub
  refine wpAny_call (codeAny_of_tree ?_)
  show wpAny _ _ (callAny (.type "set") _) _ _ _
  refine wpAny_pure ⟨Code.quiet_builtin _ (by decide +kernel), codeAny_builtin F.entry_type_call ?_⟩
  rw [Around.under_plain (weight_type_call_type "set" [.ref l] []) rfl]
  have h1 := F.called_set.notType
  have h2 := F.called_set.canCreate
  have hct := F.typeCall_set_1 (.ref l)
  repeat (any_goals (first | assumption | wp_step))
  refine codeAny_mono (code_set_led1 (.ref l) (E := E) (Q₁ := fun obj s₁ => obj = .ref s.heap.objs.size ∧ s₁ = { s with heap := s.heap.push (freshSet w) }) ⟨rfl, rfl⟩) fun r s₁ hr => ?_
  cases r with
  | error e => exact hr
  | ok fl =>
    cases fl with
    | ret obj =>
      obtain ⟨rfl, rfl⟩ := hr
      have hS : (s.heap.push (freshSet w)).get? s.heap.objs.size = some (freshSet w) := Heap.get?_push_size _ rfl
      have hT : Shared.TypeIs { s with heap := s.heap.push (freshSet w) } (.ref s.heap.objs.size) "set" := ⟨_, hS, rfl⟩
      have hli := F.called_set.init.lookup
      have hbi := F.called_set.init.bind (.ref s.heap.objs.size)
      repeat (any_goals (first | assumption | wp_step))
      refine codeAny_mono (codeAny_call_builtin (R := wants (fun r s₂ => r = .none ∧ ∃ h' tk, s₂ = { s with heap := h', toks := tk } ∧ J items.size h' ∧ Kept s.heap h') E) F.called_set.init.plain F.entry_set_init (check_set_init_1 hT ?_)) fun r₂ s₂ hr₂ => ?_
      · obtain ⟨ol, hol, hcl, nl, hdl⟩ := hl
        obtain ⟨ocls, odict, odata, oslots⟩ := ol
        simp only at hcl hdl
        subst hcl; subst hdl
        have hol' : (s.heap.push (freshSet w)).get? l = some { cls := .type "tuple", dict := odict, data := .seq items nl, slots := oslots } := Heap.get?_push_of_some _ hol
        have hsls := F.sub_tuple_set
        have hslf := F.sub_tuple_frozenset
        have hne : (Value.type "tuple" == Value.type "dict") = false := by decide
        have hl1 : (s.heap.push (freshSet w)).IsTuple l items := ⟨_, hol', rfl, nl, rfl⟩
        unfold Builtin.«set.__init__» noKeywords Builtin.Frozenset.updateFrom
        generalize hPI : pyIter = PI
        wp_walk
        subst hPI
        refine wpAny_pyIter_tuple hl1 ?_
        refine wpAny_bind (wpAny_runValue ?_)
        have hlS : l < s.heap.objs.size := Heap.lt_size hol
        have hh3 : A.in1.in1.in1.handled = none := by simp [hh]
        have hneI : l ≠ (s.heap.push (freshSet w)).objs.size := by
          rw [Heap.size_push]; exact Nat.ne_of_lt (Nat.lt_succ_of_lt hlS)
        have hSf : s.heap.objs.size ∉ [(s.heap.push (freshSet w)).objs.size, l] := by
          rw [Heap.size_push]; simp only [List.mem_cons, List.mem_singleton, List.not_mem_nil, or_false, not_or]
          exact ⟨Nat.ne_of_lt (Nat.lt_succ_self _), Nat.ne_of_gt hlS⟩
        have none_of : ∀ b, s.heap.objs.size ≤ b → s.heap.get? b = none := fun b hb => by
          cases q : s.heap.get? b with
          | none => rfl
          | some o => exact absurd (Nat.lt_of_lt_of_le (Heap.lt_size q) hb) (Nat.lt_irrefl _)
        have kp0 : Kept s.heap ((s.heap.push (freshSet w)).push { cls := .type "tuple_iterator", data := .fields #[.ref l, .int 0 0] }) := fun b o e => Heap.get?_push_of_some _ (Heap.get?_push_of_some _ e)
        refine update_gen ((Walks.tuple hh3 _ l hneI items).toS) s.heap.objs.size hSf s.heap (none_of _ (Nat.le_refl _)) (fun b hb => none_of b (by
            rw [List.mem_singleton.mp hb, Heap.size_push]
            exact Nat.le_succ _)) (fun i v q => q) J Jk (step.mono (by simp [Around.in1_units]; try omega)) (items.size - 0) 0 _ (by omega) (Nat.zero_le _)
          ⟨⟨_, Heap.get?_push_size _ rfl, rfl, rfl⟩, (hl1.push _)⟩ kp0 (J0 _ (Heap.get?_push_of_some _ hS) kp0) ?hR
        case hR =>
          intro s' hm hS' hkp
          obtain ⟨h', g2, d', tk', os'⟩ := s'
          have eg : g2 = s.gens := hm.gens
          have ed : d' = s.drawn := hm.drawn
          have eo : os' = s.os := hm.os
          subst eg; subst ed; subst eo
          show wpAny _ _ _ _ _ _
          refine wpAny_pure ?_
          show wpAny _ _ (ret Value.none) _ _ _
          exact wpAny_pure ⟨rfl, h', tk', rfl, hS', hkp⟩
      · cases r₂ with
        | error e => exact hr₂
        | ok fl₂ =>
          cases fl₂ with
          | ret r =>
            obtain ⟨rfl, h', tk, rfl, hS', hk'⟩ := hr₂
            repeat (any_goals (first | assumption | wp_step))
            exact h _ _ hS' hk'
          | _ => exact hr₂.elim
    | _ => exact hr.elim

end
end Hs
end
section
set_option Elab.async false
set_option linter.all false
set_option maxRecDepth 100000
set_option maxHeartbeats 4000000
namespace Hs
open PySem PySem.Spec PyProof.Rows L2 PySem.Froz
open Evl (Ex)
section
variable {P : Program} {w : World} {A : Around} {E : Value → Shared → Prop} {s : Shared}
/-! ### texts -/
/-- the set of the texts l at a -/
def TxR (P : Program) (w : World) (h : Heap) (a : Addr) (l : List Str) : Prop :=
  ∃ D : SD, h.get? a = some (sObj "set" D) ∧ TxOk P w D l ∧ l.Nodup ∧ Ris D.2.2.place.toList ∧ (w.params.followText "set-order" = true ∨ D.2.2.led = true)
theorem txr_fresh {h : Heap} {a : Addr} (ho : h.get? a = some (freshSet w)) : TxR P w h a [] :=
  ⟨(#[], 0, .fresh 0 0 (!w.params.followText "set-order")), ho, TxOk.nil (by rfl), List.nodup_nil, List.Pairwise.nil, by
    show _ ∨ (!w.params.followText "set-order") = true
    cases w.params.followText "set-order"
    · exact .inr rfl
    · exact .inl rfl⟩
theorem TxR.at {h h' : Heap} {a : Addr} {l : List Str} (R : TxR P w h a l) (k : ∀ o, h.get? a = some o → h'.get? a = some o) : TxR P w h' a l := by
  obtain ⟨D, ho, r⟩ := R
  exact ⟨D, k _ ho, r⟩
theorem tail_ris {ep : Nat} {es1 : Array (Int × Value)} {t2 : SetTable} {wd : Bool} (r : Ris t2.place.toList) : Ris (tailTx ep es1 t2 wd).2.2.place.toList := by
  unfold tailTx
  split
  · exact relayAll_ris _ _ _
  · exact r
theorem tail_led {ep : Nat} {es1 : Array (Int × Value)} {t2 : SetTable} {wd : Bool} : (tailTx ep es1 t2 wd).2.2.led = t2.led := by
  unfold tailTx
  split
  · exact relayAll_led _ _ _
  · rfl
theorem add_ris {D : SD} {h : Int} {v : Value} (r : Ris D.2.2.place.toList) : Ris (addTx h v D).2.2.place.toList := by
  unfold addTx
  refine tail_ris ?_
  have q := layNew_ris D.2.2 D.1 h v r
  split
  · exact q
  · exact q
theorem add_led {D : SD} {h : Int} {v : Value} : (addTx h v D).2.2.led = D.2.2.led := by
  unfold addTx
  rw [tail_led, ← layNew_led D.2.2 D.1 h v]
  split <;> rfl
theorem upd_but {h : Heap} {a : Addr} {f : Obj → Obj} : Heap.SameBut a h (h.update a f) := Heap.SameBut.update ..
/-- a text that is there is not put in again -/
theorem add_old {a : Addr} {T : String} {D : SD} {l : List Str} {k : Str} {u : Tok} {Q : Bool → Shared → Prop} (ho : s.heap.get? a = some (sObj T D)) (F : TxOk P w D l) (hk : k ∈ l) (hb : l.length < scanBound)
    (h : Q false s) : wpAny (model P w) A (setAddHashed a (.str k u) (hashStr w k)) Q E s := by
  obtain ⟨es, ep, t⟩ := D
  have hd : (sObj T (es, ep, t)).data = .set es ep t := rfl
  have hf : t.fits es.size = true := F.fit
  have hel : ElemsOf (strKind P w) es.toList := F.el
  have hsz : es.size = l.length := F.sz
  have hb0 : es.size < scanBound := by omega
  have hkey : (strKind P w).is k (.str k u) = true := is_str k u
  obtain ⟨e, he, hp⟩ := (F.mem k).mp hk
  unfold setAddHashed setAddHashedIn
  refine wpAny_holding (wpAny_bind (wpAny_setState_of ho hd hf ?_))
  dsimp only
  rw [byScan_of rfl hb0 hel]
  simp only [↓reduceIte]
  unfold setAddByScan
  refine wpAny_bind ?_
  refine wpAny_bind (wpAny_rule ?_)
  refine wpAny_bind (wpAny_setScan_of (knd := strKind P w) (k := k) hkey ho hd hf hel ?_)
  cases hr : List.findIdx? (fun e => (strKind P w).is k e.2) es.toList with
  | none =>
    have c := List.findIdx?_eq_none_iff.mp hr e he
    rw [hp] at c
    cases c
  | some j =>
    dsimp only
    exact wpAny_pure (wpAny_pure h)
theorem adds_texts {h0 : Heap} {S : Addr} {zs : List Str} {items : Array Value} (hz : Vals (zs.map V.str) items.toList) {u : Nat} (hb : zs.length + 1 < scanBound) :
    Adds P w h0 S items u fun i h => ∃ l, TxR P w h S l ∧ (∀ z, z ∈ l ↔ z ∈ zs.take i) ∧ l.length ≤ i := by
  intro A i v s E Q _ hv _ ⟨l, ⟨D, ho, F, nd, rs, ld⟩, hm, hl⟩ h
  have hv2 : items.toList[i]? = some v := by rw [Array.getElem?_toList]; exact hv
  obtain ⟨z, hz1, tk, rfl⟩ : ∃ z, zs[i]? = some z ∧ ∃ tk, v = .str z tk := by
    have hlen := hz.length
    have hi : i < items.toList.length := (List.getElem?_eq_some_iff.mp hv2).1
    have hi2 : i < (zs.map V.str).length := by rw [hlen]; exact hi
    rw [List.length_map] at hi2
    refine ⟨zs[i], List.getElem?_eq_getElem hi2, ?_⟩
    have q := Vals.get hz (i := i) (x := .str zs[i]) (by rw [List.getElem?_map, List.getElem?_eq_getElem hi2] <;> rfl)
    obtain ⟨u, hu, r⟩ := q
    rw [hv2] at hu
    cases hu
    obtain ⟨tk, e⟩ := r
    exact ⟨tk, e⟩
  have hil : i < zs.length := (List.getElem?_eq_some_iff.mp hz1).1
  have hnext : ∀ y, y ∈ zs.take (i + 1) ↔ y ∈ zs.take i ∨ y = z := fun y => by
    rw [take_next hz1, List.mem_append, List.mem_singleton]
  unfold setAdd
  refine wpAny_holding ?_
  refine wpAny_bind ((strKind P w).pyHash (k := z) (is_str _ _) ?_)
  rcases Classical.em (z ∈ l) with c | c
  · refine add_old (l := l) (D := D) (s := { s with toks := s.toks + 1 }) ho F c (by omega) ?_
    exact h false s.heap (s.toks + 1) (Nat.le_succ _) (Heap.SameBut.refl _ _) ⟨l, ⟨D, ho, F, nd, rs, ld⟩, fun y => by
      rw [hnext, hm]
      exact ⟨.inl, fun q => q.elim id fun e => (by rw [e]; exact (hm z).mp c)⟩, by omega⟩
  · refine add_x (l := l) (D := D) (s := { s with toks := s.toks + 1 }) ho F c (by omega) ?_
    refine h true _ (s.toks + 1) (Nat.le_succ _) upd_but ⟨z :: l, ⟨_, get_upd _ ho rfl, add_ok tk F, List.nodup_cons.mpr ⟨c, nd⟩, add_ris rs, ld.imp id fun q => by rw [add_led]; exact q⟩, fun y => ?_, by rw [List.length_cons]; omega⟩
    rw [hnext, List.mem_cons, hm]
    exact Or.comm
/-- the members are the texts -/
theorem txok_vals {D : SD} {l : List Str} (F : TxOk P w D l) (nd : l.Nodup) {vs : List Value} (p : vs.Perm (D.1.toList.map (·.2))) : ∃ zs : List Str, zs.Perm l ∧ Vals (zs.map V.str) vs := by
  have one : ∀ v ∈ vs, ∃ z tk, v = Value.str z tk ∧ z ∈ l := fun v hv => by
    obtain ⟨e, he, rfl⟩ := List.mem_map.mp (p.mem_iff.mp hv)
    obtain ⟨⟨k, hk, _⟩, _⟩ := F.el e he
    have hk2 : Value.isStrOf k e.2 = true := hk
    cases hv2 : e.2 with
    | str x tk =>
      rw [hv2] at hk2
      have ek : x = k := by simpa [Value.isStrOf] using hk2
      subst ek
      exact ⟨x, tk, rfl, (F.mem x).mpr ⟨e, he, hk⟩⟩
    | _ => rw [hv2] at hk2; simp [Value.isStrOf] at hk2
  have mk : ∀ vs : List Value, (∀ v ∈ vs, ∃ z tk, v = Value.str z tk ∧ z ∈ l) → ∃ zs : List Str, Vals (zs.map V.str) vs ∧ (∀ z ∈ zs, z ∈ l) := by
    intro vs
    induction vs with
    | nil => intro _; exact ⟨[], .nil, fun z h => (by cases h)⟩
    | cons v vs ih =>
      intro h
      obtain ⟨z, tk, rfl, hz⟩ := h v List.mem_cons_self
      obtain ⟨zs, h1, h2⟩ := ih fun u hu => h u (List.mem_cons_of_mem _ hu)
      refine ⟨z :: zs, .cons ⟨tk, rfl⟩ h1, fun y hy => ?_⟩
      rcases List.mem_cons.mp hy with e | e
      · rw [e]; exact hz
      · exact h2 y e
  obtain ⟨zs, h1, h2⟩ := mk vs one
  refine ⟨zs, ?_, h1⟩
  have hlen : zs.length = l.length := by
    have a := h1.length
    rw [List.length_map] at a
    rw [a, p.length_eq, List.length_map, Array.length_toList]
    exact F.sz
  have sub : ∀ z ∈ l, z ∈ zs := fun z hz => by
    obtain ⟨e, he, hk⟩ := (F.mem z).mp hz
    have hm : e.2 ∈ vs := p.mem_iff.mpr (List.mem_map.mpr ⟨e, he, rfl⟩)
    obtain ⟨i, hi, ei⟩ := List.getElem_of_mem hm
    have hi2 : i < zs.length := by
      have a := h1.length
      rw [List.length_map] at a
      rw [a]
      exact hi
    obtain ⟨u, hu, r⟩ := Vals.get h1 (i := i) (x := .str zs[i]) (by rw [List.getElem?_map, List.getElem?_eq_getElem hi2] <;> rfl)
    rw [List.getElem?_eq_getElem hi, ei] at hu
    have eu : e.2 = u := Option.some.inj hu
    obtain ⟨tk, er⟩ := r
    rw [eu, er] at hk
    have ek : zs[i] = z := by
      have hk2 : Value.isStrOf z (.str zs[i] tk) = true := hk
      simpa [Value.isStrOf] using hk2
    rw [← ek]
    exact List.getElem_mem hi2
  have go : ∀ (l zs : List Str), l.Nodup → (∀ z ∈ l, z ∈ zs) → zs.length = l.length → zs.Perm l := by
    intro l
    induction l with
    | nil =>
      intro zs _ _ hn
      rw [List.eq_nil_of_length_eq_zero hn]
    | cons x l ih =>
      intro zs nd sub hn
      obtain ⟨n1, n2⟩ := List.nodup_cons.mp nd
      have hx := sub x List.mem_cons_self
      have e1 := List.length_erase_of_mem hx
      rw [List.length_cons] at hn
      refine (List.perm_cons_erase hx).trans (List.Perm.cons x (ih (zs.erase x) n2 (fun z hz => ?_) (by omega)))
      exact (List.mem_erase_of_ne (fun (e : _ = x) => n1 (e ▸ hz))).mpr (sub z (List.mem_cons_of_mem _ hz))
  exact go l zs nd sub hlen
end
end Hs
end
section
set_option Elab.async false
set_option linter.all false
set_option maxRecDepth 100000
set_option maxHeartbeats 4000000
namespace Hs
open PySem PySem.Spec PyProof.Rows L2
open Evl (Ex)
section
variable {X : Cx} {CX : CXT} {k : Nat} {C f : Addr} {fd : FuncData} {ps : List Str} {sp : Sp} {E : XK}
/-- a def is called with values -/
theorem own_call {A : Around} {pins : List (Addr × Obj)} {σ : L2.St} {H : Hp} {s : Shared} {Q : VK} {us : List Value} {vs : List V} (F : FnOk X.prog X.w X.K X.mg X.base CX0 k f fd ps sp) (hr : Room k A) (hA : A.frames = X.A.frames)
    (hb : Binds X.K fd ps []) (I : Inv X pins σ H s) (rv : Vals vs us) (h : sp vs H Q E0) : wpAny (model X.prog X.w) A (call (.ref f) us) (EP X pins σ Q) X.xe s := by
  have e0 : Env0 X.prog X.w X.K X.mg X.base A X.stack s H := by
    have e := I.env0
    exact ⟨by rw [hA]; exact e.frames, e.mod, e.bs, e.bsz, e.funs, e.frf, e.hok, e.bare⟩
  have hl := F.len _ _ _ _ h
  refine wpAny_call (codeAny_mono (F.run A X.stack s H ⟨us, []⟩ us vs Q E0 hr e0 (by
    have := hb s us I.kIn (by rw [List.append_nil, ← rv.length]; exact hl)
    simpa using this) rv h) fun r s' hq => ?_)
  cases r with
  | error e => exact False.elim hq
  | ok fl =>
    cases fl with
    | ret w => exact I.after hq
    | next => exact False.elim hq
    | brk => exact False.elim hq
    | cont => exact False.elim hq

/-- the class at C has the def at f under the name m -/
structure Own (K : PySem.W.Frag) (C : Addr) (m : Str) (f : Addr) : Prop where
  at_ : PySem.W.findIn K (.ref C) m = some (some (.ref f))
  fn : PySem.W.isFn K (.ref f) = true

/-- k in o, by the class's own __contains__ -/
def rOwnIn (C : Addr) (sp : Sp) (neg : Bool) : R2 := fun x y H Q => ∃ a dx fs, y = .ref a ∧ H a = some (.ins C dx fs) ∧ sp [y, x] H (fun v H' => ∃ b, v = .bl b ∧ Q (.bl (if neg then !b else b)) H') E0
theorem op_inOwn (F : FnOk X.prog X.w X.K X.mg X.base CX0 k f fd ps sp) (hr : Room k X.A) (hb : Binds X.K fd ps []) (o : Own X.K C "__contains__" f) : OpR X (compareOp .In) (rOwnIn C sp false) := by
  intro pins s σ H x y v u Q I rx ry h
  obtain ⟨a, dx, fs, rfl, ha, h⟩ := h
  cases ry
  obtain ⟨mA, J, _⟩ := ins_get I.hok ha
  obtain ⟨od, J, _⟩ := J.look
  obtain ⟨m, hF⟩ := I.fr
  refine PySem.W.in_K hF I.ok.mod.kin J o.at_ o.fn (wpAny_mono (own_call (vs := [.ref a, x]) F hr rfl hb I (.cons rfl (.cons rx .nil)) h) (fun r s' z => ?_) fun _ _ z => z)
  obtain ⟨w', H', I', rw', b, e, q⟩ := z
  subst e
  cases rw'
  exact wpAny_truthy_bool ⟨.bl b, H', I', rfl, q⟩
theorem op_ninOwn (F : FnOk X.prog X.w X.K X.mg X.base CX0 k f fd ps sp) (hr : Room k X.A) (hb : Binds X.K fd ps []) (o : Own X.K C "__contains__" f) : OpR X (compareOp .NotIn) (rOwnIn C sp true) := by
  intro pins s σ H x y v u Q I rx ry h
  obtain ⟨a, dx, fs, rfl, ha, h⟩ := h
  cases ry
  obtain ⟨mA, J, _⟩ := ins_get I.hok ha
  obtain ⟨od, J, _⟩ := J.look
  obtain ⟨m, hF⟩ := I.fr
  refine PySem.W.notIn_K hF I.ok.mod.kin J o.at_ o.fn (wpAny_mono (own_call (vs := [.ref a, x]) F hr rfl hb I (.cons rfl (.cons rx .nil)) h) (fun r s' z => ?_) fun _ _ z => z)
  obtain ⟨w', H', I', rw', b, e, q⟩ := z
  subst e
  cases rw'
  exact wpAny_truthy_bool ⟨.bl (!b), H', I', rfl, q⟩

/-- o[k], by the class's own __getitem__ -/
def rOwnIx (C : Addr) (sp : Sp) : R2 := fun x y H Q => ∃ a dx fs, x = .ref a ∧ H a = some (.ins C dx fs) ∧ sp [x, y] H Q E0
theorem pe_ixOwn {a b : Expr} {ta tb : TE} {pos : Pos} (F : FnOk X.prog X.w X.K X.mg X.base CX0 k f fd ps sp) (hr : Room (k + 1) X.A) (hb : Binds X.K fd ps []) (o : Own X.K C "__getitem__" f) (hfn : PySem.W.fnIn X.K f = true) (ha : PE X a ta) (hi : PE X b tb)
    (hsl : ∀ v u, subscripted b true v u = runValue (.builtin "lifetime.subscript" ⟨[v, u], []⟩) := by intro _ _; with_unfolding_all rfl) : PE X (.Subscript a b pos) (tOp (rOwnIx C sp) ta tb) := by
  refine ⟨fun pins s σ H Q I h => ?_⟩
  refine Subscript_ (binT ha hi I h fun v u s2 x y H2 I2 rx ry q => ?_)
  obtain ⟨p, dx, fs, rfl, hp, q⟩ := q
  cases rx
  obtain ⟨mA, J, _⟩ := ins_get I2.hok hp
  obtain ⟨od, J, _⟩ := J.look
  obtain ⟨m, hF⟩ := I2.fr
  exact PySem.W.sub_K hF I2.ok.mod.kin J o.at_ hfn o.fn (own_call (vs := [.ref p, y]) F hr.in1 rfl hb I2 (.cons rfl (.cons ry .nil)) q) (hsl _ _)

/-- o == p, by the class's own __eq__ -/
def rOwnEq (C : Addr) (sp : Sp) (neg : Bool) : R2 := fun x y H Q => ∃ a dx fs b dy gs, x = .ref a ∧ y = .ref b ∧ H a = some (.ins C dx fs) ∧ H b = some (.ins C dy gs) ∧ sp [x, y] H (fun v H' => ∃ b, v = .bl b ∧ Q (.bl (if neg then !b else b)) H') E0
theorem op_eqOwn (F : FnOk X.prog X.w X.K X.mg X.base CX0 k f fd ps sp) (hr : Room k X.A) (hb : Binds X.K fd ps []) (o : Own X.K C "__eq__" f) : OpR X (compareOp .Eq) (rOwnEq C sp false) := by
  intro pins s σ H x y v u Q I rx ry h
  obtain ⟨a, dx, fs, b, dy, gs, rfl, rfl, ha, hb', h⟩ := h
  cases rx
  cases ry
  obtain ⟨mA, J, _⟩ := ins_get I.hok ha
  obtain ⟨mB, J', _⟩ := ins_get I.hok hb'
  obtain ⟨od, J, _⟩ := J.look
  obtain ⟨od', J', _⟩ := J'.look
  obtain ⟨m, hF⟩ := I.fr
  show wpAny (model X.prog X.w) X.A (richCompare .Eq _ _) (EP X pins σ Q) X.xe s
  refine PySem.W.cmp_K (op := .Eq) (tb := .ref C) hr.units0 hF I.ok.mod.kin J J'.type (by simp [PySem.W.notFirst]) o.at_ o.fn (wpAny_mono (own_call (vs := [.ref a, .ref b]) F hr rfl hb I (.cons rfl (.cons rfl .nil)) h) (fun r s' z => ?_) fun _ _ z => z)
  obtain ⟨w', H', I', rw', c, e, q⟩ := z
  subst e
  cases rw'
  exact ⟨.bl c, H', I', rfl, q⟩
end
section
open PySem.W
variable {M : Model} {A : Around} {E : Value → Shared → Prop} {s : Shared} {K : PySem.W.Frag} {x C L f : Addr} {h_0 : Heap} {m : Str → Option Value} {ox : Obj} {od : Option Obj} {prog : Program} {w : World}
theorem ifBoundB {name : Str} {id : String} {args : List Value} {Q : Option Value → Shared → Prop} (X : K.In s.heap) (I : PySem.W.InstAt s.heap x ox C od) (hs : PySem.W.findIn K (.ref C) name = some (some (.builtin id))) (hb : ∀ self, bindSpecial (.builtin id) self = pure (.builtin id, [self]))
    (h : wpAny M A (call (.builtin id) (.ref x :: args)) (fun v => Q (some v)) E s) : wpAny M A (callSpecialIfBound? (.ref x) name args) Q E s := by
  simp only [callSpecialIfBound?, bindSpecialIfBound?]
  refine wpAny_holding (wpAny_bind (wpAny_bind (wpAny_bind (I.type.here ((looks_findIn X hs).here ?_)))))
  refine wpAny_bind (wpAny_askSetting (wpAny_ite ?_))
  have fin : wpAny M A (call (.builtin id) ([.ref x] ++ args) >>= fun v => pure (some v)) Q E s := wpAny_bind (wpAny_mono h (fun v s' h' => wpAny_pure h') fun _ _ h' => h')
  split
  · refine wpAny_bind ?_
    rw [hb]
    exact wpAny_pure (wpAny_pure (by exact fin))
  · refine wpAny_tryCatch (wpAny_bind ?_)
    rw [hb]
    exact wpAny_pure (wpAny_pure (by exact fin))
theorem ne_K {b : Value} {Q : Value → Shared → Prop} (hu : A.units + 1 < cLine) (F : Fr h_0 L s.heap m) (X_0 : K.In h_0) (I : PySem.W.InstAt s.heap x ox C od) (hb : Looks (model prog w) s.heap (typeOf b) (.ref C))
    (hn : findIn K (.ref C) "__ne__" = some (some (.builtin "object.__ne__"))) (hob : subIn K (.ref C) (.type "object") = some true) (hs : findIn K (.ref C) "__eq__" = some (some (.ref f))) (hf : isFn K (.ref f) = true)
    (h : wpAny (model prog w) A.in1 (call (.ref f) [.ref x, b]) (fun v s' => ∃ c, v = .bool c ∧ Q (.bool (!c)) s') E s) : wpAny (model prog w) A (richCompare .NotEq (.ref x) b) Q E s := by
  have X := X_0.keeps F.keep
  have body : wpAny (model prog w) A.in1 (Builtin.«object.__ne__» ⟨[.ref x, b], []⟩) (fun fin s' => ∃ c, fin = .done (.ret (.bool c)) ∧ Q (.bool c) s') E s := by
    unfold Builtin.«object.__ne__»
    repeat (first
      | with_reducible refine wpAny_cRoomFor (by simp only [Around.in1_units]; omega) ?_
      | (refine wpAny_bind (m := callSpecialIfBound? (.ref x) (Str.ofString "__eq__") [b]) (ifBound_K X I hs hf (wpAny_mono h (fun r s' hr => by
            obtain ⟨c, rfl, hq⟩ := hr
            repeat (first | exact ⟨_, rfl, hq⟩ | exact wpAny_pure ⟨_, rfl, hq⟩ | (refine wpAny_bind (m := truthy (.bool _)) (wpAny_truthy_bool ?_)) | wp_step)) fun _ _ e => e)))
      | wp_step)
  have one : wpAny (model prog w) A (tryCompare (.ref x) "__ne__" b) (fun r s' => ∃ c, r = some (.bool c) ∧ Q (.bool c) s') E s := by
    unfold tryCompare
    refine wpAny_bind (ifBoundB X I hn PySem.F.cmp_object.ne.bind (wpAny_call (codeAny_call_builtin PySem.F.cmp_object.ne.plain PySem.F.cmpEntry_ne
      (PySem.W.check_slot PySem.F.cmpKind_ne PySem.F.cmpSplit_ne (I.type.andThen (looks_subIn X hob)) (PySem.F.cmpArgs_ne _ _) (wpAny_mono body (fun fin s' z => ?_) fun _ _ z => z)))))
    obtain ⟨c, rfl, q⟩ := z
    exact wpAny_pure ⟨c, rfl, q⟩
  unfold richCompare
  simp only [oneThing_ref]
  refine wpAny_holding (wpAny_bind (wpAny_cRoomFor (by omega) ?_))
  refine wpAny_bind (I.type.here (wpAny_bind (hb.here ?_)))
  rw [show (Value.ref C != Value.ref C) = false from by simp]
  simp only [Bool.false_eq_true, if_false]
  refine wpAny_bind (wpAny_pure ?_)
  simp only [Bool.false_eq_true, if_false]
  refine wpAny_bind (wpAny_mono one (fun r s' z => ?_) fun _ _ z => z)
  obtain ⟨c, rfl, q⟩ := z
  first | exact wpAny_pure q | exact wpAny_pure (wpAny_pure q)
end
section
variable {X : Cx} {CX : CXT} {k : Nat} {C f : Addr} {fd : FuncData} {ps : List Str} {sp : Sp} {E : XK}
theorem op_neOwn (F : FnOk X.prog X.w X.K X.mg X.base CX0 k f fd ps sp) (hr : Room (k + 1) X.A) (hb : Binds X.K fd ps []) (o : Own X.K C "__eq__" f) (hn : PySem.W.findIn X.K (.ref C) "__ne__" = some (some (.builtin "object.__ne__")))
    (hob : PySem.W.subIn X.K (.ref C) (.type "object") = some true) : OpR X (compareOp .NotEq) (rOwnEq C sp true) := by
  intro pins s σ H x y v u Q I rx ry h
  obtain ⟨a, dx, fs, b, dy, gs, rfl, rfl, ha, hb', h⟩ := h
  cases rx
  cases ry
  obtain ⟨mA, J, _⟩ := ins_get I.hok ha
  obtain ⟨mB, J', _⟩ := ins_get I.hok hb'
  obtain ⟨od, J, _⟩ := J.look
  obtain ⟨od', J', _⟩ := J'.look
  obtain ⟨m, hF⟩ := I.fr
  show wpAny (model X.prog X.w) X.A (richCompare .NotEq _ _) (EP X pins σ Q) X.xe s
  refine ne_K (by have := hr.units; omega) hF I.ok.mod.kin J J'.type hn hob o.at_ o.fn (wpAny_mono (own_call (vs := [.ref a, .ref b]) F hr.in1 rfl hb I (.cons rfl (.cons rfl .nil)) h) (fun r s' z => ?_) fun _ _ z => z)
  obtain ⟨w', H', I', rw', c, e, q⟩ := z
  subst e
  cases rw'
  exact ⟨c, rfl, .bl (!c), H', I', rfl, q⟩
end
end Hs
end
section
set_option Elab.async false
set_option linter.all false
set_option maxRecDepth 100000
set_option maxHeartbeats 4000000
namespace Hs
open PySem PySem.Spec PyProof.Rows L2
open Evl (Ex)
/-! dicts whose keys are nested tuples and whose values are objects -/
abbrev NE := NestedKey × Addr × Addr
def toE (xs : List NE) : List (NestedKey × Addr × Value) := xs.map fun x => (x.1, x.2.1, Value.ref x.2.2)
structure RawN (P : Program) (w : World) (h : Heap) (d : Addr) (xs : List NE) : Prop where
  sm : (d == sysModules) = false
  len : xs.length ≤ sizeLine
  ex : ∃ o es ep, h.get? d = some o ∧ o.ExactDict ∧ o.data = .dict es ep ∧ es.toList = (toE xs).map (entryOfKey (nestedKind P w)) ∧ ((toE xs).map (·.1)).Nodup
def ND (P : Program) (w : World) (d : Addr) (xs : List NE) : HO := .ext fun h => RawN P w h d xs
def KeyN (K : PySem.W.Frag) (H : Hp) (xs : List NE) : Prop := ∀ x ∈ xs, Nk K H (.ref x.2.1) x.1 ∧ x.1.depth ≤ 8
theorem KeyN.fz {K : PySem.W.Frag} {H H' : Hp} {xs : List NE} (e : Fz H H') (h : KeyN K H xs) : KeyN K H' xs := fun x hx => ⟨(h x hx).1.fz e _ _, (h x hx).2⟩
def storedN (xs : List NE) (k : NestedKey) (ka b : Addr) : List NE := if (xs.any fun x => decide (x.1 = k)) = true then xs.map fun x => if x.1 = k then (x.1, x.2.1, b) else x else xs ++ [(k, ka, b)]
def lookN (xs : List NE) (k : NestedKey) : Option Addr := (xs.find? fun x => decide (x.1 = k)).map fun x => x.2.2
theorem atKey_toE (xs : List NE) (k : NestedKey) : (atKey (toE xs) k).map (·.2) = (lookN xs k).map Value.ref := by
  induction xs with
  | nil => rfl
  | cons x xs ih =>
    by_cases h : x.1 = k
    · simp [toE, atKey, lookN, h]
    · have i := ih
      simp only [toE, atKey, lookN] at i ⊢
      simp only [List.map_cons, List.find?_cons, h, decide_false, Bool.false_eq_true]
      exact i
theorem isSome_toE (xs : List NE) (k : NestedKey) : (atKey (toE xs) k).isSome = xs.any fun x => decide (x.1 = k) := by
  induction xs with
  | nil => rfl
  | cons x xs ih =>
    by_cases h : x.1 = k
    · simp [toE, atKey, h]
    · have i := ih
      simp only [toE, atKey] at i ⊢
      simp only [List.map_cons, List.find?_cons, h, decide_false, List.any_cons, Bool.false_or]
      exact i
theorem toE_stored (xs : List NE) (k : NestedKey) (ka b : Addr) : storedH (toE xs) k ka (Value.ref b) = toE (storedN xs k ka b) := by
  unfold storedH storedN
  rw [isSome_toE]
  cases h : xs.any fun x => decide (x.1 = k) with
  | true =>
    simp only [if_true, toE, List.map_map]
    refine List.map_congr_left fun x _ => ?_
    show putAt k (Value.ref b) (x.1, x.2.1, Value.ref x.2.2) = _
    unfold putAt
    by_cases e : x.1 = k
    · simp [e]
    · simp [e]
  | false => simp [toE]
theorem stored_len (xs : List NE) (k : NestedKey) (ka b : Addr) : (storedN xs k ka b).length ≤ xs.length + 1 := by
  unfold storedN
  split
  · rw [List.length_map]
    omega
  · simp
theorem mem_stored {xs : List NE} {k : NestedKey} {ka b : Addr} {x : NE} (h : x ∈ storedN xs k ka b) : (∃ y ∈ xs, x.1 = y.1 ∧ x.2.1 = y.2.1 ∧ (x.2.2 = y.2.2 ∨ (x.1 = k ∧ x.2.2 = b))) ∨ x = (k, ka, b) := by
  unfold storedN at h
  split at h
  · obtain ⟨y, hy, e⟩ := List.mem_map.mp h
    by_cases c : y.1 = k
    · rw [if_pos c] at e
      subst e
      exact .inl ⟨y, hy, rfl, rfl, .inr ⟨c, rfl⟩⟩
    · rw [if_neg c] at e
      subst e
      exact .inl ⟨y, hy, rfl, rfl, .inl rfl⟩
  · rcases List.mem_append.mp h with h | h
    · exact .inl ⟨x, h, rfl, rfl, .inl rfl⟩
    · exact .inr (by simpa using h)
theorem KeyN.stored {K : PySem.W.Frag} {H : Hp} {xs : List NE} {k : NestedKey} {ka b : Addr} (h : KeyN K H xs) (hk : Nk K H (.ref ka) k) (hd : k.depth ≤ 8) : KeyN K H (storedN xs k ka b) := fun x hx => by
  rcases mem_stored hx with ⟨y, hy, e1, e2, _⟩ | e
  · rw [e1, e2]
    exact h y hy
  · rw [e]
    exact ⟨hk, hd⟩
section
variable {X : Cx} {pins : List (Addr × Obj)} {σ : L2.St} {H : Hp} {s : Shared} {d : Addr} {xs : List NE}
theorem RawN.full {P : Program} {w : World} {h : Heap} (R : RawN P w h d xs) (k : ∀ x ∈ xs, NestedIs h x.1 (.ref x.2.1) ∧ x.1.depth ≤ 8) : h.DictOfH (nestedKind P w) d (toE xs) := by
  obtain ⟨o, es, ep, h1, h2, h3, h4, h5⟩ := R.ex
  refine ⟨o, es, ep, h1, h2, h3, h4, fun y hy => ?_, h5⟩
  obtain ⟨x, hx, e⟩ := List.mem_map.mp hy
  subst e
  exact k x hx
theorem RawN.of {P : Program} {w : World} {h : Heap} {ys : List (NestedKey × Addr × Value)} (e : ys = toE xs) (sm : (d == sysModules) = false) (len : xs.length ≤ sizeLine) (D : h.DictOfH (nestedKind P w) d ys) : RawN P w h d xs := by
  subst e
  obtain ⟨o, es, ep, h1, h2, h3, h4, _, h5⟩ := D
  exact ⟨sm, len, o, es, ep, h1, h2, h3, h4, h5⟩
theorem RawN.at' {P : Program} {w : World} {h h' : Heap} (R : RawN P w h d xs) (k : ∀ o, h.get? d = some o → h'.get? d = some o) : RawN P w h' d xs := by
  obtain ⟨o, es, ep, h1, r⟩ := R.ex
  exact ⟨R.sm, R.len, o, es, ep, k o h1, r⟩
theorem RawN.ok {P : Program} {w : World} {H : Hp} {h : Heap} (R : RawN P w h d xs) : ObjOk P w H h d (ND P w d xs) := by
  obtain ⟨o, es, ep, h1, r⟩ := R.ex
  exact ⟨R, ⟨o, h1⟩, fun h1 h2 p k => p.at' k⟩
theorem nd_rd (I : Inv X pins σ H s) (e : Rd H d (ND X.prog X.w d xs)) : RawN X.prog X.w s.heap d xs := (e.ok I.hok).1
theorem keys_is (I : Inv X pins σ H s) (k : KeyN X.K H xs) : ∀ x ∈ xs, NestedIs s.heap x.1 (.ref x.2.1) ∧ x.1.depth ≤ 8 := fun x hx => ⟨Nk.is I _ _ _ (k x hx).1 rfl, (k x hx).2⟩
theorem nd_of (I : Inv X pins σ H s) (e : Rd H d (ND X.prog X.w d xs)) (k : KeyN X.K H xs) : s.heap.DictOfH (nestedKind X.prog X.w) d (toE xs) := (nd_rd I e).full (keys_is I k)
/-- {} -/
def tDNewN (P : Program) (w : World) : TE := fun _ H Q => ∀ p, H p = none → Q (.ref p) (upd H p (ND P w p []))
theorem pe_dnewN {pos : Pos} : PE X (.Dict [] [] pos) (tDNewN X.prog X.w) := ⟨fun pins s σ H Q I h =>
  wpAny_Dict_empty ⟨.ref s.heap.objs.size, _, I.laid (a := s.heap.objs.size) (o := ND X.prog X.w s.heap.objs.size []) (t' := s.toks) (fun _ _ q => Heap.get?_push_of_some _ q) (Nat.le_refl _)
    (RawN.ok ⟨beq_eq_false_iff_ne.mpr (Ne.symm (Nat.ne_of_lt I.big)), Nat.zero_le _, _, #[], 0, Heap.get?_push_size _ rfl, ⟨rfl, rfl, rfl⟩, rfl, rfl, List.nodup_nil⟩), rfl, h _ (I.hok.fresh (Nat.le_refl _))⟩⟩
/-- what is stored -/
theorem nd_set {A : Around} {E : Value → Shared → Prop} {Q : Unit → Shared → Prop} {k : NestedKey} {ka b : Addr} (hu : A.units + 9 < cLine) (I : Inv X pins σ H s) (e : H d = some (ND X.prog X.w d xs)) (kn : KeyN X.K H xs) (hk : Nk X.K H (.ref ka) k) (hd : k.depth ≤ 8) (hl : xs.length < sizeLine)
    (h : ∀ s', Inv X pins σ (upd H d (ND X.prog X.w d (storedN xs k ka b))) s' → Q () s') : wpAny (model X.prog X.w) A (setItem (.ref d) (.ref ka) (.ref b)) Q E s := by
  have R := nd_rd I (.inl e)
  have D := nd_of I (.inl e) kn
  refine wpAny_setItem_heap (hsz := by unfold toE; rw [List.length_map]; exact R.len) (show (nestedKind X.prog X.w).room A.in1 from by show A.in1.units + 8 < cLine; simp only [Around.in1_units]; omega) (show (nestedKind X.prog X.w).is s.heap k ka from ⟨Nk.is I _ _ _ hk rfl, hd⟩) D fun h' D' hs => h _ ?_
  have he : ∃ q, h'.get? d = some q := let ⟨q, _, _, hq, _⟩ := D'; ⟨q, hq⟩
  exact L2.d_write I (by rw [e]; exact True.intro) hs he (RawN.of (toE_stored xs k ka b) R.sm (by have := stored_len xs k ka b; omega) D').ok
def rSetN (K : PySem.W.Frag) (P : Program) (w : World) : TSet := fun o i v H Q => ∃ d k ka b xs, o = .ref d ∧ i = .ref ka ∧ v = .ref b ∧ H d = some (ND P w d xs) ∧ KeyN K H xs ∧ Nk K H (.ref ka) k ∧ k.depth ≤ 8 ∧ xs.length < sizeLine ∧ Q (upd H d (ND P w d (storedN xs k ka b)))
theorem set_N (hu : X.A.units + 9 < cLine) : PSet X (rSetN X.K X.prog X.w) := by
  intro pins s σ H o i v ov iv u Q I ro ri rv h
  obtain ⟨d, k, ka, b, xs, rfl, rfl, rfl, e, kn, hk, hd, hl, q⟩ := h
  cases ro
  cases ri
  cases rv
  exact nd_set hu I e kn hk hd hl fun s' I' => ⟨_, I', q⟩
/-- d[k] -/
def rGetN (K : PySem.W.Frag) (P : Program) (w : World) : R2 := fun x y H Q => ∃ d k ka b xs, x = .ref d ∧ y = .ref ka ∧ H d = some (ND P w d xs) ∧ KeyN K H xs ∧ Nk K H (.ref ka) k ∧ k.depth ≤ 8 ∧ lookN xs k = some b ∧ Q (.ref b) H
theorem pe_dgetN {a i : Expr} {ta ti : TE} {pos : Pos} (hu : X.A.units + 9 < cLine) (ha : PE X a ta) (hi : PE X i ti) (hs : NoSl i := by intro _ _; rfl) : PE X (.Subscript a i pos) (tOp (rGetN X.K X.prog X.w) ta ti) := by
  refine ⟨fun pins s σ H Q I h => ?_⟩
  refine subD_of (T := "dict") PySem.F.slot_dict_getitem.lookup hs (thn (ha.run pins s σ H _ I h) fun u s1 ⟨x, H1, I1, rx, q1⟩ => thn (hi.run pins s1 σ H1 _ I1 q1) fun iv s2 ⟨y, H2, I2, ry, q2⟩ => ?_)
  obtain ⟨d, k, ka, b, xs, rfl, rfl, e, kn, hk, hd, hl, q⟩ := q2
  cases rx
  cases ry
  have D := nd_of I2 (.inl e) kn
  refine ⟨D.typeIs, ?_⟩
  have el : (atKey (toE xs) k).map (·.2) = some (Value.ref b) := by rw [atKey_toE, hl]; rfl
  obtain ⟨p, hp, e2⟩ := Option.map_eq_some_iff.mp el
  refine wpAny_getItem_heap (show (nestedKind X.prog X.w).room X.A.in1 from by show X.A.in1.units + 8 < cLine; simp only [Around.in1_units]; omega) (show (nestedKind X.prog X.w).is s2.heap k ka from ⟨Nk.is I2 _ _ _ hk rfl, hd⟩) D hp ?_
  rw [e2]
  exact ⟨.ref b, H2, I2.tok _, rfl, q⟩
/-- d.get(k, z) -/
def tGet2N (K : PySem.W.Frag) (P : Program) (w : World) (td ty tz : TE) : TE := fun σ H Q => td σ H fun x H1 => ∃ d xs, x = .ref d ∧ H1 d = some (ND P w d xs) ∧ ty σ H1 fun y H2 => tz σ H2 fun z H3 => ∃ k ka, y = .ref ka ∧ H3 d = some (ND P w d xs) ∧ KeyN K H3 xs ∧ Nk K H3 (.ref ka) k ∧ k.depth ≤ 8 ∧
  Q (((lookN xs k).map V.ref).getD z) H3
theorem pe_dget2N {o e f : Expr} {apos cpos : Pos} {td ty tz : TE} (hu : X.A.units + 9 < cLine) (ho : PE X o td) (he : PE X e ty) (hf : PE X f tz) (m : M2 X o "get" apos e f cpos) : PE X (.Call (.Attribute o "get" apos) [e, f] [] cpos) (tGet2N X.K X.prog X.w td ty tz) := by
  refine ⟨fun pins s σ H Q I h => ?_⟩
  refine wpAny_Call_method m.base m.few m.line PySem.F.plainAttrs_dict PySem.F.slot_dict_get PySem.F.type_dict_get (thn (ho.run pins s σ H _ I h) fun u s1 ⟨x, H1, I1, rx, d, xs, ex, hd, q1⟩ => ?_)
  subst ex
  obtain rfl : u = Value.ref d := rx
  obtain ⟨ob, es, ep, g1, g2, g3, _⟩ := (nd_rd I1 (.inl hd)).ex
  refine ⟨⟨ob, g1, g2.1⟩, fun b q => by cases q; exact ⟨ob, g1, g2.2.1⟩, ?_⟩
  rw [m.trees]
  refine Calls.callWith_builtin rfl (Calls.evalArgs_plain (Calls.spliced_cons (thn (he.run pins s1 σ H1 _ I1 q1) fun iv s2 ⟨y, H2, I2, ry, q2⟩ =>
    Calls.spliced_cons (thn (hf.run pins s2 σ H2 _ I2 q2) fun fv s3 ⟨z, H3, I3, rz, k, ka, ey, hd3, kn, hk, hdp, q3⟩ => Calls.spliced_nil ?_))))
  subst ey
  cases ry
  have D := nd_of I3 (.inl hd3) kn
  refine call_meetsIn PySem.F.slot_dict_get D.typeIs PySem.F.entry_dict_get (PySem.F.args_dict_get_3 _ _ _) (meetsH_dict_get_default (nestedKind X.prog X.w) d ka (nd_rd I3 (.inl hd3)).sm fv) ⟨by show X.A.in1.units + 8 < cLine; simp only [Around.in1_units]; omega, k, toE xs, ⟨Nk.is I3 _ _ _ hk rfl, hdp⟩, D, ?_⟩
  have el := atKey_toE xs k
  refine ⟨((lookN xs k).map V.ref).getD z, H3, I3.tok _, ?_, q3⟩
  rw [el]
  cases lookN xs k with
  | none => exact rz
  | some b => exact rfl
end
end Hs
end
section
set_option Elab.async false
set_option linter.all false
set_option maxRecDepth 100000
set_option maxHeartbeats 4000000
namespace Hs
open PySem PySem.Spec PyProof.Rows L2
open Evl (Ex)
section
variable {X : Cx} {pins : List (Addr × Obj)} {σ : L2.St} {H : Hp} {s : Shared} {d : Addr} {xs : List NE}
theorem nd_raw (R : RawN X.prog X.w s.heap d xs) : ∃ es ep, s.heap.DictRaw d es ep ∧ es.size = xs.length ∧ ∀ i (hi : i < es.size), ∃ y, xs[i]? = some y ∧ es[i].key = .ref y.2.1 ∧ es[i].val = .ref y.2.2 := by
  obtain ⟨o, es, ep, ho, hc, hd, he, _⟩ := R.ex
  have hs : es.size = xs.length := by
    have := size_of_entries he
    unfold toE at this
    rwa [List.length_map] at this
  refine ⟨es, ep, ⟨o, ho, hc, hd⟩, hs, fun i hi => ?_⟩
  have hx : i < xs.length := hs ▸ hi
  have e := entry_at he i
  unfold toE at e
  rw [Array.getElem?_eq_getElem hi, List.getElem?_map, List.getElem?_eq_getElem hx, Option.map_some, Option.map_some] at e
  have e' := Option.some.inj e
  exact ⟨xs[i], List.getElem?_eq_getElem hx, by rw [e'] <;> rfl, by rw [e'] <;> rfl⟩
/-- {k: v} -/
def tDisp1N (K : PySem.W.Frag) (P : Program) (w : World) (tk tv : TE) : TE := fun σ H Q => ∀ p, H p = none → tk σ (upd H p (ND P w p [])) fun y H1 => tv σ H1 fun z H2 => ∃ k ka b, y = .ref ka ∧ z = .ref b ∧ Nk K H2 (.ref ka) k ∧ k.depth ≤ 8 ∧ H2 p = some (ND P w p []) ∧ Q (.ref p) (upd H2 p (ND P w p [(k, ka, b)]))
theorem pe_disp1N {k v : Expr} {pos : Pos} {tk tv : TE} (hu : X.A.units + 9 < cLine) (hk : PE X k tk) (hv : PE X v tv) : PE X (.Dict [some k] [v] pos) (tDisp1N X.K X.prog X.w tk tv) := by
  refine ⟨fun pins s σ H Q I h => ?_⟩
  have I1 := I.laid (a := s.heap.objs.size) (o := ND X.prog X.w s.heap.objs.size []) (h' := s.heap.push { cls := .type "dict", data := .dict #[] }) (t' := s.toks) (fun _ _ q => Heap.get?_push_of_some _ q) (Nat.le_refl _)
    (RawN.ok ⟨beq_eq_false_iff_ne.mpr (Ne.symm (Nat.ne_of_lt I.big)), Nat.zero_le _, _, #[], 0, Heap.get?_push_size _ rfl, ⟨rfl, rfl, rfl⟩, rfl, rfl, List.nodup_nil⟩)
  have q := h s.heap.objs.size (I.hok.fresh (Nat.le_refl _))
  have hl := pairTrees_length [some k] [v] X.env pos rfl rfl
  have hl1 : (pairTrees [some k] [v] X.env pos).length = 1 := hl
  rw [arm_eval_Dict, zip_pairTrees [some k] [v] X.env pos rfl rfl]
  rw [dictDisplay_pairs (pairTrees [some k] [v] X.env pos) (fun z => by rw [z] at hl1; cases hl1) (by omega)]
  refine wpAny_bind (wpAny_standAt (wpAny_bind (wpAny_subDictH (knd := nestedKind X.prog X.w) (Q := fun d s' => wpAny (model X.prog X.w) X.A (pure (Value.ref d)) (EP X pins σ Q) X.xe s') (show X.A.units + 8 < cLine by omega) (by omega) ?_)))
  refine pairTrees_cons_walk (thn (hk.run pins _ σ _ _ I1 q) fun u s1 ⟨y, H1, I1, ry, q1⟩ => thn (hv.run pins s1 σ H1 _ I1 q1) fun w2 s2 ⟨z, H2, I2, rz, k', ka, b, ey, ez, hk2, hdp, hp, q2⟩ => pairTrees_nil_walk ?_)
  subst ey ez
  cases ry
  cases rz
  have D := nd_of I2 (.inl hp) (fun _ h => by cases h)
  refine ⟨[(k', ka, Value.ref b)], ⟨rfl, rfl, ⟨Nk.is I2 _ _ _ hk2 rfl, hdp⟩, trivial⟩, D, fun h' tk D2 hs => wpAny_pure ⟨.ref s.heap.objs.size, _, ?_, rfl, q2⟩⟩
  have he : ∃ q, h'.get? s.heap.objs.size = some q := let ⟨q, _, _, hq, _⟩ := D2; ⟨q, hq⟩
  exact L2.d_write I2 (by rw [hp]; exact True.intro) hs he (RawN.of (xs := [(k', ka, b)]) rfl (nd_rd I2 (.inl hp)).sm (Nat.le_of_lt (by rw [sizeLine_eq]; show 1 < _; omega)) D2).ok
end
end Hs
end
section
set_option Elab.async false
set_option linter.all false
set_option maxRecDepth 100000
set_option maxHeartbeats 4000000
namespace Hs
open PySem PySem.Spec PyProof.Rows L2
open Evl (Ex)
section
open PySem.W (KdlSrc)
variable {prog : Program} {w : World} {A : Around} {E : Value → Shared → Prop} {s : Shared} {T : String} {r d : Addr} {n : Nat} {P : Nat → Value → Prop} {OK : Heap → Prop}
/-- what can be walked by list() can be gathered -/
theorem collectK {Q : List Value → Shared → Prop} (K : KdlSrc prog w T r d n P OK) (hh : A.handled = none) (hok : OK s.heap) (hn : n ≤ sizeLine)
    (hQ : ∀ (h' : Heap) (tk : Nat) (acc : Array Value), (∀ b o, s.heap.get? b = some o → h'.get? b = some o) → s.heap.objs.size ≤ h'.objs.size → ItemsOf P acc n → Q acc.toList { s with heap := h', toks := tk }) :
    wpAny (model prog w) A (collect (.ref r)) Q E s := by
  have hlt := K.there _ hok
  unfold collect
  refine wpAny_bind (wpAny_runValue (codeAny_builtin PySem.F.entry_proto_collect ?_))
  rw [Around.under_plainId PySem.F.plain_proto_collect _]
  show wpAny _ A.in1 (newList [] >>= fun l => again (.builtin "list.__iadd__" ⟨[l, .ref r], []⟩)) _ _ s
  refine wpAny_bind (wpAny_newObj_type ?_)
  refine wpAny_pure ⟨plainId_quiet PySem.F.plain_list_iadd _, codeAny_builtin PySem.F.entry_list_iadd ?_⟩
  rw [Around.under_plainId PySem.F.plain_list_iadd _]
  show wpAny _ A.in1 (Builtin.List.listExtendWith (.ref s.heap.objs.size) (.ref r) (.ref s.heap.objs.size)) _ _ _
  have hS : (s.heap.push { cls := .type "list", data := .seq ([] : List Value).toArray }).get? s.heap.objs.size = some { cls := .type "list", data := .seq #[] 0 } := Heap.get?_push_size _ rfl
  refine wpAny_mono (PySem.W.kdl_extend (A := A) (R := fun rr s' => rr = .ok (.ret (.ref s.heap.objs.size)) ∧ ∃ (h' : Heap) (tk : Nat) (acc : Array Value) (c' : Nat), s' = { s with heap := h', toks := tk } ∧
      (∀ b o, s.heap.get? b = some o → h'.get? b = some o) ∧ h'.get? s.heap.objs.size = some { cls := .type "list", dict := none, data := .seq acc c', slots := #[] } ∧ ItemsOf P acc n)
    (s := { s with heap := s.heap.push { cls := .type "list", data := .seq ([] : List Value).toArray } }) K hh (K.keep _ _ hok fun b _ o e => Heap.get?_push_of_some _ e) s.heap.objs.size (Nat.ne_of_gt hlt.1) (Nat.ne_of_gt hlt.2) _ 0 hS
    (fun h' tk acc c' hk e hi => ⟨rfl, h', tk, acc, c', rfl, fun b o q => hk b o (Nat.ne_of_lt (Heap.lt_size q)) (Heap.get?_push_of_some _ q), e, hi⟩) hn) (fun fin s' h => ?_) (fun e s' h => ?_)
  · cases fin with
    | done f =>
      obtain ⟨e, h', tk, acc, c', rfl, hk, hS', hi⟩ := h
      cases e
      show wpAny _ A (load s.heap.objs.size >>= _) _ _ _
      exact wpAny_bind (wpAny_load hS' (wpAny_pure (hQ h' tk acc hk (Nat.le_of_lt (Heap.lt_size hS')) hi)))
    | again c' =>
      refine ⟨h.1, codeAny_mono h.2 fun rr s'' hr' => ?_⟩
      obtain ⟨rfl, h', tk, acc, c', rfl, hk, hS', hi⟩ := hr'
      show wpAny _ A (load s.heap.objs.size >>= _) _ _ _
      exact wpAny_bind (wpAny_load hS' (wpAny_pure (hQ h' tk acc hk (Nat.le_of_lt (Heap.lt_size hS')) hi)))
  · exact absurd h.1 (by simp)
/-- tuple() of what can be gathered -/
theorem tupleK {Q : Value → Shared → Prop} (hT : s.TypeIs (.ref r) T) (hne : T ≠ "tuple") (hq : T ≠ "list") (hh : A.handled = none) (hn : n ≤ sizeLine)
    (hc : ∀ (A' : Around) (E' : Value → Shared → Prop) (Q' : List Value → Shared → Prop), A'.handled = none → (∀ (h' : Heap) (tk : Nat) (acc : Array Value), (∀ b o, s.heap.get? b = some o → h'.get? b = some o) → ItemsOf P acc n → Q' acc.toList { s with heap := h', toks := tk }) → wpAny (model prog w) A' (collect (.ref r)) Q' E' s)
    (hQ : ∀ (h' : Heap) (tk : Nat) (acc : Array Value), (∀ b o, s.heap.get? b = some o → h'.get? b = some o) → ItemsOf P acc n → Q (.ref h'.objs.size) { s with heap := h'.push { cls := .type "tuple", data := .seq acc }, toks := tk }) :
    wpAny (model prog w) A (call (.type "tuple") [.ref r]) Q E s := by
  refine callType_codes (Q₁ := fun obj s1 => s1.TypeIs obj "tuple" ∧ Q obj s1) PySem.F.called_tuple (PySem.F.typeCall_tuple_1 _) PySem.F.entry_object_init ?_ fun obj s1 h1 => ?_
  · refine codeAny_of_tree ?_
    show wpAny _ A.in1.in1 (do checkBuiltinCall "tuple.__new__" ⟨[.type "tuple", .ref r], []⟩; again (.builtin "tuple.__new__" ⟨[.type "tuple", .ref r], []⟩)) _ _ s
    refine wpAny_bind (wpAny_of_eq (PySem.F.newCall_tuple_1 _) (wpAny_pure ⟨plainId_quiet PySem.F.plain_tuple_new _, codeAny_builtin PySem.F.entry_tuple_new ?_⟩))
    rw [Around.under_plainId PySem.F.plain_tuple_new _]
    have hsub := sub_tuple_self
    have hinit := init_tuple_lookup
    have hmh := madeHere_tuple
    have hn1 : (Value.type T == Value.type "tuple") = false := by simpa using hne
    have hn2 : (Value.type T == Value.type "list") = false := by simpa using hq
    show wpAny _ _ (Builtin.«tuple.__new__» _) _ _ _
    unfold Builtin.«tuple.__new__»
    generalize hC : @PySem.collect = CC
    wp_walk using wpAny_typeOf hT
    subst hC
    refine hc _ _ _ hh fun h' tk acc hk hacc => ?_
    refine wpAny_bind (wpAny_pure ?_)
    show wpAny _ _ (Builtin.Tuple.tupleExact acc.toList.toArray >>= fun v => ret v) _ _ _
    unfold Builtin.Tuple.tupleExact
    refine wpAny_bind (wpAny_newObj_type ?_ (by show acc.toList.toArray.size ≤ sizeLine; simp only [Array.toArray_toList]; rw [hacc.1]; exact hn))
    refine wpAny_pure ?_
    have e : acc.toList.toArray = acc := by simp
    rw [e]
    exact ⟨⟨_, Heap.get?_push_size _ rfl, rfl⟩, hQ h' tk acc hk hacc⟩
  · exact ⟨h1.1, PySem.F.args_object_init_2 obj _, object_init_meets PySem.F.called_tuple.init.lookup PySem.F.called_tuple.made (by decide) prog w A.in1 _ s1 ⟨h1.1, rfl, h1.2⟩⟩
end
end Hs
end
section
set_option Elab.async false
set_option linter.all false
set_option maxRecDepth 100000
set_option maxHeartbeats 4000000
namespace Hs
open PySem PySem.Spec PyProof.Rows L2
open Evl (Ex)
/-! d.values() as an object, list() and tuple() of it, a walk over it -/
def VW (p d : Addr) : HO := .ext fun h => h.IsValuesView p d
theorem vw_ok {P : Program} {w : World} {H : Hp} {h : Heap} {p d : Addr} (e : h.get? p = some { cls := .type "dict_values", data := .fields #[.ref d] }) : ObjOk P w H h p (VW p d) :=
  ⟨⟨_, e, rfl, rfl⟩, ⟨_, e⟩, fun h1 h2 q k => let ⟨o, a, b, c⟩ := q; ⟨o, k _ a, b, c⟩⟩
section
variable {X : Cx} {e : Expr} {td : TE} {apos cpos : Pos}
/-- e.values() -/
def tVals (P : Program) (w : World) (td : TE) : TE := fun σ H Q => td σ H fun x H1 => ∃ d, x = .ref d ∧ ((∃ xs, H1 d = some (ND P w d xs)) ∨ ∃ kvs, H1 d = some (.dK kvs)) ∧ ∀ p, H1 p = none → Q (.ref p) (upd H1 p (VW p d))
theorem pe_vals (he : PE X e td) (hbase : attributeBase e "values" X.env (eval e X.env) = eval e X.env := by rfl) (hline : (apos.endLine == cpos.line) = true := by rfl) : PE X (.Call (.Attribute e "values" apos) [] [] cpos) (tVals X.prog X.w td) := by
  refine ⟨fun pins s σ H Q I h => ?_⟩
  refine wpAny_Call_method (T := "dict") (id := "dict.values") hbase rfl hline PySem.F.plainAttrs_dict PySem.F.slot_dict_values PySem.F.type_dict_values (thn (he.run pins s σ H _ I h) fun u s1 ⟨x, H1, I1, rx, d, ex, hd, q⟩ => ?_)
  subst ex
  obtain rfl : u = Value.ref d := rx
  have raw : (d == sysModules) = false ∧ ∃ es ep, s1.heap.DictRaw d es ep := by
    rcases hd with ⟨xs, hd⟩ | ⟨kvs, hd⟩
    · have R := nd_rd I1 (.inl hd)
      obtain ⟨es, ep, r, _⟩ := nd_raw R
      exact ⟨R.sm, es, ep, r⟩
    · obtain ⟨_, h2, vs, _, dd⟩ := dk_of I1.hok hd
      obtain ⟨o, es, ep, a, b, c, _⟩ := dd
      exact ⟨h2, es, ep, o, a, b, c⟩
  obtain ⟨hs, es, ep, hr⟩ := raw
  obtain ⟨o, ho, hc, hdt⟩ := id hr
  refine ⟨⟨o, ho, hc.1⟩, fun b z => by cases z; exact ⟨o, ho, hc.2.1⟩, ?_⟩
  show wpAny _ _ (callWith cpos (.builtin "dict.values") [.ref d] [] []) _ X.xe s1
  refine method_meetsIn PySem.F.slot_dict_values PySem.F.entry_dict_values rfl (PySem.evalArgs_none ⟨rfl, hr.typeIs, PySem.F.args_dict_values_1 _, _, meets_dict_values_raw d hs, ⟨es, ep, hr⟩, ?_⟩)
  exact ⟨.ref s1.heap.objs.size, _, I1.laid (a := s1.heap.objs.size) (o := VW s1.heap.objs.size d) (t' := s1.toks) (fun b u z => Heap.get?_push_of_some _ z) (Nat.le_refl _) (vw_ok (Heap.get?_push_size _ rfl)), rfl, q _ (I1.hok.fresh (Nat.le_refl _))⟩
/-- list(d.values()), d keyed by nested tuples -/
def rListVals (P : Program) (w : World) : List V → Hp → VK → Prop := fun xs H Q => ∃ p d ys, xs = [.ref p] ∧ H p = some (VW p d) ∧ H d = some (ND P w d ys) ∧ ∀ l, H l = none → Q (.ref l) (upd H l (.lst (ys.map fun y => V.ref y.2.2)))
theorem cr_listVals (hc : X.calm = true) : CallR X (.type "list") (rListVals X.prog X.w) := by
  intro pins s σ H xs us Q I r h
  obtain ⟨p, d, ys, rfl, hp, hd, q⟩ := h
  obtain ⟨u, rfl, rx⟩ := vals1 r
  cases rx
  have R := nd_rd I (.inl hd)
  obtain ⟨es, ep, hr, hsz, ent⟩ := nd_raw R
  have hv : s.heap.IsValuesView p d := (I.hok p _ hp).1
  refine PySem.W.kdl_call (KdlSrc.rawValues (d := d) (r := p) (es := es) (ep := ep)) (I.ok.hd hc) ⟨hv, hr⟩ (by rw [hsz]; exact R.len) fun h' tk acc' c' hkeep hS hacc => ?_
  refine ⟨.ref s.heap.objs.size, upd H s.heap.objs.size (.lst (ys.map fun y => V.ref y.2.2)), I.laid hkeep (Nat.le_refl _) (show ObjOk X.prog X.w _ _ _ (.lst (ys.map fun y => V.ref y.2.2)) from ⟨?_, acc'.toList, c', ?_, ?_⟩), rfl, q _ (I.hok.fresh (Nat.le_refl _))⟩
  · rw [List.length_map]
    exact R.len
  · refine vals_of_at (by have h9 := hacc.1; rw [List.length_map]; simp only [Array.length_toList]; omega) fun j x w h1 h2 => ?_
    obtain ⟨hi, e2⟩ := hacc.2 j w (by rw [← Array.getElem?_toList]; exact h2)
    obtain ⟨y, hy, _, e4⟩ := ent j hi
    rw [List.getElem?_map, hy] at h1
    cases h1
    rw [e2, e4] <;> rfl
  · rw [Array.toArray_toList]
    exact hS
/-- tuple(d.values()), d keyed by texts and ints -/
def rTupVals : List V → Hp → VK → Prop := fun xs H Q => ∃ p d kvs, xs = [.ref p] ∧ H p = some (VW p d) ∧ H d = some (.dK kvs) ∧ ∀ l, H l = none → Q (.ref l) (upd H l (.tup (kvs.map fun kv => kv.2)))
theorem cr_tupVals (hc : X.calm = true) : CallR X (.type "tuple") rTupVals := by
  intro pins s σ H xs us Q I r h
  obtain ⟨p, d, kvs, rfl, hp, hd, q⟩ := h
  obtain ⟨u, rfl, rx⟩ := vals1 r
  cases rx
  obtain ⟨z, lo, vs, rk, hm⟩ := (show ObjOk X.prog X.w H s.heap d (.dK kvs) from I.hok d _ hd)
  obtain ⟨ep, hat⟩ := hm.dictAt
  have hl : kvs.length = vs.length := Paired.length rk
  have hv : s.heap.IsValuesView p d := (I.hok p _ hp).1
  have K := PySem.W.kdl_values (knd := mixKind X.prog X.w) (d := d) (r := p) (kvs := vs) (ep := ep)
  refine tupleK (P := fun i v => ∃ k, vs[i]? = some (k, v)) (n := vs.length) hv.typeIs (by decide) (by decide) (I.ok.hd hc) (by rw [← hl]; exact z) (fun A' E' Q' hh hq => collectK K hh ⟨hv, hat⟩ (by rw [← hl]; exact z) fun h' tk acc a b c => hq h' tk acc a c) fun h' tk acc hk hacc => ?_
  have I1 : Inv X pins σ H { s with heap := h', toks := tk } := I.kept hk
  refine ⟨.ref h'.objs.size, upd H h'.objs.size (.tup (kvs.map fun kv => kv.2)), I1.laid (t' := tk) (fun b o e => Heap.get?_push_of_some _ e) (Nat.le_refl _) (show ObjOk X.prog X.w _ _ _ (.tup (kvs.map fun kv => kv.2)) from ⟨?_, acc.toList, ?_, ?_⟩), rfl, q _ (I1.hok.fresh (Nat.le_refl _))⟩
  · rw [List.length_map]
    exact z
  · refine vals_of_at (by have h9 := hacc.1; rw [List.length_map]; simp only [Array.length_toList]; omega) fun j x w h1 h2 => ?_
    obtain ⟨k, hk2⟩ := hacc.2 j w (by rw [← Array.getElem?_toList]; exact h2)
    rw [List.getElem?_map] at h1
    cases hkv : kvs[j]? with
    | none => rw [hkv] at h1; cases h1
    | some kv =>
      rw [hkv] at h1
      obtain ⟨a, b⟩ := kv
      cases h1
      obtain ⟨u, hu, ru⟩ := kv_get rk hkv
      rw [hk2] at hu
      cases hu
      exact ru
  · exact ⟨_, Heap.get?_push_size _ rfl, rfl, 0, by simp⟩
end
/-! for x in d.values(), d locked -/
def Itn (P : Program) (w : World) (d : Addr) (o : Obj) (xs : List NE) : It :=
  ⟨fun i H => H d = some (.frz o (ND P w d xs)) ∧ i < xs.length, fun i H x H' => H' = H ∧ ∃ y, xs[i]? = some y ∧ x = .ref y.2.2, fun i H => H d = some (.frz o (ND P w d xs)) ∧ xs.length ≤ i⟩
section
variable {X : Cx} {pins : List (Addr × Obj)} {σ : L2.St} {H : Hp} {s : Shared} {d : Addr} {xs : List NE} {o : Obj} {es : Array DictEntry} {ep : Nat}
theorem frzN (I : Inv X pins σ H s) (h : H d = some (.frz o (ND X.prog X.w d xs))) : s.heap.get? d = some o ∧ RawN X.prog X.w s.heap d xs := ⟨(I.hok d _ h).1, nd_rd I (.inr ⟨o, h⟩)⟩
theorem turn_valsN {P : Program} {w : World} {K : PySem.W.Frag} {tg : Expr} (it : Addr) (hod : o.data = .dict es ep) (hsz : es.size = xs.length) : Turn P w K tg (Itn P w d o xs) [it] it (fun i h => h.IsValIter it d i es.size ep) where
  mem := by simp
  obj := fun i h st b hb => by
    have e : b = it := by simpa using hb
    subst e
    obtain ⟨oi, e, c, dd⟩ := st
    exact ⟨oi, e, fun v z => by rw [dd] at z; cases z⟩
  keep := fun i h h' st k => let ⟨oi, e, c⟩ := st; ⟨oi, k it (by simp) oi e, c⟩
  item := by
    intro X hP hw hK hc i pins s σ H E I hf st hg
    subst hP hw hK
    obtain ⟨hd, hi⟩ := hg
    obtain ⟨f0, f1, f2, f3, f4, f5⟩ := hf it (by simp)
    obtain ⟨hgd, R⟩ := frzN I hd
    obtain ⟨es', ep', hr, hs', ent⟩ := nd_raw R
    obtain ⟨o2, ho2, hx, hdt⟩ := id hr
    rw [hgd] at ho2
    cases ho2
    obtain ⟨rfl, rfl⟩ := dict_ep hod hdt
    have hi2 : i < es'.size := by rw [hsz]; exact hi
    obtain ⟨y, hy, _, e4⟩ := ent i hi2
    refine wpAny_pyNext_values_item_raw st hr hi2 fun h' st' sb => ?_
    have I1 : Inv X pins σ H { s with heap := h' } := I.turned (t' := s.toks) (fun b ob hb e => (sb.2 b hb).trans e) f0 f1 f3 f4 f5
    obtain ⟨oi, e, c, dd⟩ := id st'
    exact ⟨_, rfl, go_of (s := { s with heap := h' }) e c dd (by decide) ⟨.ref y.2.2, H, I1, e4, ⟨rfl, y, hy, rfl⟩, st', fun b hb => (hf b hb).1⟩⟩
  done := by
    intro X hP hw hK hc i pins s σ H E I hf st hg
    subst hP hw hK
    obtain ⟨hd, hi⟩ := hg
    obtain ⟨f0, f1, f2, f3, f4, f5⟩ := hf it (by simp)
    obtain ⟨hgd, R⟩ := frzN I hd
    obtain ⟨es', ep', hr, hs', ent⟩ := nd_raw R
    obtain ⟨o2, ho2, hx, hdt⟩ := id hr
    rw [hgd] at ho2
    cases ho2
    obtain ⟨rfl, rfl⟩ := dict_ep hod hdt
    exact wpAny_pyNext_values_end_raw (I.ok.hd hc) st hr (by rw [hsz]; exact hi) fun h' eb => ⟨rfl, I.turned (t' := s.toks) (fun b ob hb e => eb b ob hb e) f0 f1 f3 f4 f5⟩
  self := fun A i s Q E st h => wpAny_pyIter_valiter st h
def iValsN (P : Program) (w : World) (td : TE) : TI := fun σ H R => td σ H fun x H1 => ∃ d o xs, x = .ref d ∧ H1 d = some (.frz o (ND P w d xs)) ∧ R (Itn P w d o xs) H1
theorem pi_valuesN {tg e : Expr} {td : TE} {apos cpos : Pos} (he : PE X e td) (hbase : attributeBase e "values" X.env (eval e X.env) = eval e X.env := by rfl) (hline : (apos.endLine == cpos.line) = true := by rfl) : PI X tg (.Call (.Attribute e "values" apos) [] [] cpos) (iValsN X.prog X.w td) := by
  refine ⟨fun pins s σ H R I h => ?_⟩
  refine wpAny_Call_method (T := "dict") (id := "dict.values") hbase rfl hline PySem.F.plainAttrs_dict PySem.F.slot_dict_values PySem.F.type_dict_values (thn (he.run pins s σ H _ I h) fun u s1 ⟨x, H1, I1, rx, d, o, xs, ex, hd, q⟩ => ?_)
  subst ex
  obtain rfl : u = Value.ref d := rx
  obtain ⟨hgd, RR⟩ := frzN I1 hd
  obtain ⟨es, ep, hr, hsz, ent⟩ := nd_raw RR
  obtain ⟨o2, ho2, hx, hdt⟩ := id hr
  rw [hgd] at ho2
  cases ho2
  refine ⟨hr.typeIs, fun b z => by cases z; exact ⟨o, hgd, hx.2.1⟩, ?_⟩
  have I2 : Inv X pins σ H1 { s1 with heap := s1.heap.push { cls := .type "dict_values", data := .fields #[.ref d] } } := I1.kept (t' := s1.toks) fun b ob q => Heap.get?_push_of_some _ q
  have fin : wpAny (model X.prog X.w) X.A (pyIter (.ref s1.heap.objs.size)) (PIE X pins σ tg R) X.xe { s1 with heap := s1.heap.push { cls := .type "dict_values", data := .fields #[.ref d] } } := by
    exact wpAny_pyIter_values_raw (d := d) ⟨_, Heap.get?_push_size _ rfl, rfl, rfl⟩ (hr.push _) (pi_one (tk := s1.toks) I2 _ (turn_valsN _ hdt hsz) ⟨_, Heap.get?_push_size _ rfl, rfl, rfl⟩ q)
  show wpAny _ _ (callWith cpos (.builtin "dict.values") [.ref d] [] []) _ X.xe s1
  exact method_meetsIn PySem.F.slot_dict_values PySem.F.entry_dict_values rfl (PySem.evalArgs_none ⟨rfl, hr.typeIs, PySem.F.args_dict_values_1 _, _, meets_dict_values_raw d RR.sm, ⟨es, ep, hr⟩, fin⟩)
end
end Hs
end
section
set_option Elab.async false
set_option linter.all false
set_option maxRecDepth 100000
set_option maxHeartbeats 4000000
namespace Hs
open PySem PySem.Spec PyProof.Rows L2
open Evl (Ex)
/-! d.update([(k, v), ..]) -/
def storedNs (xs ms : List NE) : List NE := ms.foldl (fun acc m => storedN acc m.1 m.2.1 m.2.2) xs
theorem toE_storedNs (ms : List NE) : ∀ xs : List NE, storedAllH (toE xs) (toE ms) = toE (storedNs xs ms) := by
  induction ms with
  | nil => intro xs; rfl
  | cons m ms ih =>
    intro xs
    show storedAllH (storedH (toE xs) m.1 m.2.1 (Value.ref m.2.2)) (toE ms) = toE (storedNs (storedN xs m.1 m.2.1 m.2.2) ms)
    rw [toE_stored, ih]
theorem storedNs_len (ms : List NE) : ∀ xs : List NE, (storedNs xs ms).length ≤ xs.length + ms.length := by
  induction ms with
  | nil => intro xs; exact Nat.le_refl _
  | cons m ms ih =>
    intro xs
    have h1 := ih (storedN xs m.1 m.2.1 m.2.2)
    have h2 := stored_len xs m.1 m.2.1 m.2.2
    show (storedNs (storedN xs m.1 m.2.1 m.2.2) ms).length ≤ _
    rw [List.length_cons]
    omega
theorem KeyN.storedNs {K : PySem.W.Frag} {H : Hp} {ms : List NE} (hm : KeyN K H ms) : ∀ {xs : List NE}, KeyN K H xs → KeyN K H (storedNs xs ms) := by
  induction ms with
  | nil => intro xs h; exact h
  | cons m ms ih =>
    intro xs h
    obtain ⟨a, b⟩ := hm m List.mem_cons_self
    exact ih (fun x hx => hm x (List.mem_cons_of_mem _ hx)) (h.stored a b)
section
variable {X : Cx}
/-- each is a pair of a key and an object -/
def PrN (K : PySem.W.Frag) (H : Hp) : List V → List NE → Prop
  | [], [] => True
  | v :: vs, m :: ms => (∃ t, v = .ref t ∧ SqT K H t [.ref m.2.1, .ref m.2.2]) ∧ PrN K H vs ms
  | _, _ => False
theorem PrN.length {K : PySem.W.Frag} {H : Hp} : ∀ {vs : List V} {ms : List NE}, PrN K H vs ms → vs.length = ms.length
  | [], [], _ => rfl
  | v :: vs, m :: ms, h => by rw [List.length_cons, List.length_cons, PrN.length h.2]
  | [], _ :: _, h => h.elim
  | _ :: _, [], h => h.elim
theorem PrN.get {K : PySem.W.Frag} {H : Hp} : ∀ {vs : List V} {ms : List NE} {j : Nat} {m : NE}, PrN K H vs ms → ms[j]? = some m → ∃ t, vs[j]? = some (.ref t) ∧ SqT K H t [.ref m.2.1, .ref m.2.2]
  | [], [], j, m, _, e => by simp at e
  | v :: vs, m0 :: ms, 0, m, h, e => by
    simp at e
    subst e
    obtain ⟨t, e1, e2⟩ := h.1
    exact ⟨t, by rw [e1] <;> rfl, e2⟩
  | v :: vs, m0 :: ms, j + 1, m, h, e => by
    obtain ⟨t, a, b⟩ := PrN.get (j := j) (m := m) h.2 (by simpa using e)
    exact ⟨t, by simpa using a, b⟩
  | [], _ :: _, _, _, h, _ => h.elim
  | _ :: _, [], _, _, h, _ => h.elim
def tUpdN (K : PySem.W.Frag) (P : Program) (w : World) (td ty : TE) : TE := fun σ H Q => td σ H fun x H1 => ∃ d xs, x = .ref d ∧ H1 d = some (ND P w d xs) ∧ ty σ H1 fun y H2 => ∃ l vs ms, y = .ref l ∧ H2 d = some (ND P w d xs) ∧ SqL K H2 l vs ∧ PrN K H2 vs ms ∧ KeyN K H2 xs ∧ KeyN K H2 ms ∧
  xs.length + ms.length ≤ sizeLine ∧ Q .non (upd H2 d (ND P w d (storedNs xs ms)))
theorem pe_updN {o e : Expr} {apos cpos : Pos} {td ty : TE} (hc : X.calm = true) (hu : X.A.units + 9 < cLine) (ho : PE X o td) (he : PE X e ty) (m : M1 X o "update" apos e cpos) : PE X (.Call (.Attribute o "update" apos) [e] [] cpos) (tUpdN X.K X.prog X.w td ty) := by
  refine ⟨fun pins s σ H Q I h => ?_⟩
  refine wpAny_Call_method m.base m.few m.line PySem.F.plainAttrs_dict PySem.F.slot_dict_update PySem.F.type_dict_update (thn (ho.run pins s σ H _ I h) fun u s1 ⟨x, H1, I1, rx, d, xs, ex, hd, q1⟩ => ?_)
  subst ex
  obtain rfl : u = Value.ref d := rx
  obtain ⟨ob, es, ep, g1, g2, g3, _⟩ := (nd_rd I1 (.inl hd)).ex
  refine ⟨⟨ob, g1, g2.1⟩, fun b q => by cases q; exact ⟨ob, g1, g2.2.1⟩, ?_⟩
  rw [m.trees]
  refine Calls.callWith_builtin rfl (Calls.evalArgs_plain (Calls.spliced_cons (thn (he.run pins s1 σ H1 _ I1 q1) fun iv s2 ⟨y, H2, I2, ry, l, vs, ms, ey, hd2, hl, pr, kn, km, hsz, q2⟩ => Calls.spliced_nil ?_)))
  subst ey
  cases ry
  have D := nd_of I2 (.inl hd2) kn
  obtain ⟨its, rv, ⟨lo, ln, hlo, hlc, hld, hldat⟩, _⟩ := I2.list hl
  have hlen := pr.length
  have hvl := rv.length
  -- where the pairs stand
  let Ts : Nat → Addr := fun j => match its[j]? with
    | some (.ref t) => t
    | _ => 0
  let ps : List (Value × Value) := ms.map fun m => (Value.ref m.2.1, Value.ref m.2.2)
  have hps : ps.length = ms.length := List.length_map _
  have items : PairItems s2.heap its.toArray Ts ps := by
    refine ⟨by rw [List.size_toArray, hps]; omega, fun j k v hj => ?_⟩
    rw [List.getElem?_map] at hj
    cases hm : ms[j]? with
    | none => rw [hm] at hj; cases hj
    | some m0 =>
      rw [hm] at hj
      cases hj
      obtain ⟨t, ht, sq⟩ := pr.get hm
      obtain ⟨u, hu2, ru⟩ := rv.get ht
      cases ru
      have eT : Ts j = t := by show (match its[j]? with | some (.ref t) => t | _ => 0) = t; rw [hu2]
      rw [eT]
      refine ⟨by simpa using hu2, .inl ?_⟩
      obtain ⟨its2, rv2, it2, _⟩ := I2.tuple sq
      cases rv2 with
      | cons r1 r2 =>
        cases r2 with
        | cons r3 r4 =>
          cases r4
          cases r1
          cases r3
          exact it2
  have PA := PairArg.list (prog := X.prog) (w := X.w) l its.toArray Ts ps
  have hne : d ∉ l :: (List.range ps.length).map Ts := by
    have hdn : ∀ b o, s2.heap.get? b = some o → (o.cls = .type "list" ∨ o.cls = .type "tuple") → d ≠ b := by
      rintro b o e hcl rfl
      obtain ⟨o2, es2, ep2, e1, e2, _⟩ := id D
      rw [e] at e1
      cases e1
      have e3 := e2.1
      rcases hcl with z | z
      · rw [z] at e3; exact absurd e3 (by decide)
      · rw [z] at e3; exact absurd e3 (by decide)
    intro hm
    rcases List.mem_cons.mp hm with e | hm
    · exact hdn l lo hlo (.inl hlc) e
    · obtain ⟨j, hj, e⟩ := List.mem_map.mp hm
      have hj := List.mem_range.mp hj
      obtain ⟨⟨k, v⟩, hp⟩ : ∃ p, ps[j]? = some p := ⟨ps[j], List.getElem?_eq_getElem hj⟩
      obtain ⟨o, ho, hcl⟩ := (items.2 j k v hp).2.there
      exact hdn (Ts j) o ho hcl.symm e.symm
  have hks : ∀ x ∈ toE xs ++ toE ms, NestedIs s2.heap x.1 (.ref x.2.1) ∧ x.1.depth ≤ 8 := by
    intro x hx
    rcases List.mem_append.mp hx with hx | hx
    · obtain ⟨y, hy, e⟩ := List.mem_map.mp hx
      subst e
      exact keys_is I2 kn y hy
    · obtain ⟨y, hy, e⟩ := List.mem_map.mp hx
      subst e
      exact keys_is I2 km y hy
  refine call_update_pairsH (knd := nestedKind X.prog X.w) (ps := toE ms) PA (I2.ok.hd hc) (by show X.A.in1.units + 8 < cLine; simp only [Around.in1_units]; omega) ⟨⟨lo, ln, hlo, hlc, hld, hldat⟩, items⟩ hne ⟨by unfold toE; rw [List.length_map, hps], fun i key v hr => ?_⟩ (fun h' hk x hx => ?_) D (by unfold toE; rw [List.length_map, hps]; exact hsz) fun h' tk D' hk => ?_
  · have hr' : ps[i]? = some (key, v) := hr
    rw [List.getElem?_map] at hr'
    cases hm : ms[i]? with
    | none => rw [hm] at hr'; cases hr'
    | some m0 =>
      rw [hm] at hr'
      cases hr'
      exact ⟨m0.1, m0.2.1, by unfold toE; rw [List.getElem?_map, hm] <;> rfl, rfl⟩
  · obtain ⟨a1, a2⟩ := hks x hx
    refine ⟨NestedIs.at (fun b ob vs n hb hc => ?_) _ _ a1, a2⟩
    refine hk b ob (fun e => ?_) (fun z => by cases z) hb
    subst e
    obtain ⟨o2, es2, ep2, e1, e2, e3, _⟩ := id D
    rw [hb] at e1
    cases e1
    rw [hc] at e3
    cases e3
  · have he : ∃ q, h'.get? d = some q := let ⟨q, _, _, hq, _⟩ := D'; ⟨q, hq⟩
    have hs : ∀ b o, b ≠ d → s2.heap.get? b = some o → h'.get? b = some o := fun b o hb e => hk b o hb (fun z => by cases z) e
    have I3 : Inv X pins σ (upd H2 d (ND X.prog X.w d (storedNs xs ms))) { s2 with heap := h', toks := tk } :=
      I2.write (x := d) (e := d) (by rw [hd2]; exact True.intro) (.inl rfl) (fun b q hb z => hs b q hb z) he (RawN.of (toE_storedNs ms xs) (nd_rd I2 (.inl hd2)).sm (by have := storedNs_len ms xs; omega) D').ok
    exact ⟨.non, _, I3, rfl, q2⟩
end
end Hs
end
section
set_option Elab.async false
set_option linter.all false
set_option maxRecDepth 100000
set_option maxHeartbeats 4000000
namespace Hs
open PySem PySem.Spec PyProof.Rows L2
open Evl (Ex)
section
variable {prog : Program} {w : World} {K : Type} [DecidableEq K] {knd : KeyKind prog w K} {A : Around} {E : Value → Shared → Prop} {s : Shared}
theorem copyOf_at {nm : String} {d : Addr} {kvs : List (K × Value)} {Q : Value → Shared → Prop} (hd : (d == sysModules) = false) (hm : s.heap.DictOf knd d kvs) (hsz : kvs.length ≤ sizeLine)
    (h : ∀ h', h'.DictOf knd s.heap.objs.size kvs → (∀ b o, s.heap.get? b = some o → h'.get? b = some o) → Q (.ref s.heap.objs.size) { s with heap := h' }) : wpAny (model prog w) A (Builtin.Dict.copyOf nm (.ref d)) Q E s := by
  obtain ⟨o, es, ep, ho, hc, hdat, hk, hp, hn⟩ := id hm
  have hes : es.size ≤ sizeLine + 1 := by
    have e1 := hp.length
    have e2 : es.toList.length = es.size := by simp
    omega
  unfold Builtin.Dict.copyOf
  refine wpAny_bind (wpAny_pure ?_)
  unfold Builtin.Dict.showsAll
  rw [if_neg (by rw [hd]; exact Bool.false_ne_true)]
  refine wpAny_bind (wpAny_pure ?_)
  refine wpAny_bind (wpAny_dictEntries ho hdat ?_)
  have fin : ∀ es' : Array DictEntry, es' = es → Q (.ref s.heap.objs.size) { s with heap := s.heap.push { cls := .type "dict", data := .dict es' } } := by
    rintro es' rfl
    exact h _ ⟨_, es', 0, Heap.get?_push_size _ rfl, ⟨rfl, rfl, rfl⟩, rfl, hk, hp, hn⟩ fun b o' e => Heap.get?_push_of_some _ e
  by_cases hemp : es.isEmpty = true
  · rw [if_pos hemp]
    refine wpAny_bind (wpAny_rule (wpAny_newObj_type ?_))
    exact (fin #[] (Array.isEmpty_iff.mp hemp).symm)
  · rw [if_neg hemp]
    refine wpAny_bind ?_
    · unfold Builtin.Dict.readDirectly
      refine wpAny_bind (wpAny_isInstance hm.typeIs isSubtype_dict_dict ?_)
      simp only [Bool.not_true, Bool.false_eq_true, if_false]
      refine wpAny_bind (wpAny_specialOf hm.typeIs F.slot_dict_iter.lookup (wpAny_pure ?_))
      simp only [beq_self_eq_true, if_true]
      refine wpAny_bind (wpAny_entriesForEmpty (knd := knd) ho hdat hk (wpAny_newObj_type ?_ hes))
      exact fin es rfl
theorem or_body {d o : Addr} {kvs more : List (K × Value)} {R : Result → Shared → Prop} (hd : (d == sysModules) = false) (ho : (o == sysModules) = false) (hm : s.heap.DictOf knd d kvs) (hmo : s.heap.DictOf knd o more) (hsz : kvs.length + more.length ≤ sizeLine)
    (h : ∀ h', h'.DictOf knd s.heap.objs.size (merged kvs more) → (∀ b u, s.heap.get? b = some u → h'.get? b = some u) → R (.ok (.ret (.ref s.heap.objs.size))) { s with heap := h' }) :
    wpAny (model prog w) A.in1 (Builtin.«dict.__or__» ⟨[.ref d, .ref o], []⟩) (fun fin s' => ∃ v, fin = .done (.ret v) ∧ R (.ok (.ret v)) s') (fun e s' => R (.error e) s') s := by
  unfold Builtin.«dict.__or__»
  refine wpAny_bind ?_
  unfold Builtin.Dict.dictSlotArgs
  refine wpAny_bind (wpAny_notOrdered_dict hm.typeIs ?_)
  show wpAny _ _ (pure (Value.ref d, Value.ref o)) _ _ s
  refine wpAny_pure ?_
  show wpAny _ _ (do
    if !(← isInstance (.ref d) (.type "dict") <&&> isInstance (.ref o) (.type "dict")) then rule s!"{"dict.__or__"}.not-a-dict"; return ← ret .notImplemented
    let new ← Builtin.Dict.copyOf "dict.__or__" (.ref d)
    holding [new] (Builtin.Dict.updateFrom "dict.__or__" (← Builtin.Dict.addrOf new) (.ref o) [] new)) _ _ s
  refine wpAny_bind ?_
  refine wpAny_bind (wpAny_isInstance hm.typeIs isSubtype_dict_dict ?_)
  show wpAny _ _ (isInstance (.ref o) (.type "dict")) _ _ s
  refine wpAny_isInstance hmo.typeIs isSubtype_dict_dict ?_
  simp only [Bool.not_true, Bool.false_eq_true, if_false]
  have hlt : d < s.heap.objs.size := let ⟨_, _, _, e, _⟩ := hm; Heap.lt_size e
  have hlo : o < s.heap.objs.size := let ⟨_, _, _, e, _⟩ := hmo; Heap.lt_size e
  refine wpAny_bind (copyOf_at hd hm (by omega) fun h1 d1 k1 => ?_)
  refine wpAny_bind (wpAny_pure ?_)
  have o1 : h1.DictOf knd o more := let ⟨ob, a, b, e, r⟩ := hmo; ⟨ob, a, b, k1 _ _ e, r⟩
  refine wpAny_holding ?_
  show wpAny _ _ (Builtin.Dict.updateFrom "dict.__or__" s.heap.objs.size (.ref o) [] (.ref s.heap.objs.size)) _ _ _
  unfold Builtin.Dict.updateFrom
  refine wpAny_bind (wpAny_typeOf o1.typeIs ?_)
  rw [if_neg (by decide)]
  refine wpAny_bind ?_
  unfold Builtin.Dict.merge
  refine wpAny_bind ?_
  unfold Builtin.Dict.readDirectly
  refine wpAny_bind (wpAny_isInstance o1.typeIs isSubtype_dict_dict ?_)
  simp only [Bool.not_true, Bool.false_eq_true, if_false]
  refine wpAny_bind (wpAny_specialOf o1.typeIs F.slot_dict_iter.lookup (wpAny_pure ?_))
  simp only [beq_self_eq_true, if_true]
  refine wpAny_bind (wpAny_pure ?_)
  refine wpAny_mergeDict (hsz := hsz) (Nat.ne_of_gt hlo) ho d1 o1 fun h2 d2 o2 hs => ?_
  show wpAny _ _ (Builtin.Dict.addKeywords _ [] >>= _) _ _ _
  exact wpAny_bind (wpAny_pure (wpAny_pure ⟨_, rfl, h h2 d2 fun b u e => (hs.2 b (Nat.ne_of_lt (Heap.lt_size e))).trans (k1 b u e)⟩))
end
section
variable {X : Cx}
/-- d | e, dicts of texts and ints: a new one -/
def rOrD : R2 := fun x y H Q => ∃ a b ks ls, x = .ref a ∧ y = .ref b ∧ H a = some (.dK ks) ∧ H b = some (.dK ls) ∧ ks.length + ls.length ≤ 1000 ∧ ∀ p, H p = none → Q (.ref p) (upd H p (.dK (mergeK ks ls)))
theorem op_orD : OpR X (binaryOp .BitOr) rOrD := by
  intro pins s σ H x y v u Q I rx ry h
  obtain ⟨a, b, ks, ls, rfl, rfl, ha, hb, hl, q⟩ := h
  cases rx
  cases ry
  obtain ⟨_, ha2, vs, ra, da⟩ := dk_of I.hok ha
  obtain ⟨_, hb2, ws, rb, db⟩ := dk_of I.hok hb
  have l1 := Paired.length ra
  have l2 := Paired.length rb
  have hz := sizeLine_eq
  refine wpAny_binaryOp_same (op := .BitOr) da.typeIs db.typeIs F.fills_dict_or F.slot_dict_or (wpAny_call (codeAny_call_builtin F.slot_dict_or.plain F.entry_dict_or (F.slot_dict_or.check _ _ _ _ _ _ _ _ da.typeIs (F.args_dict_or_2 _ _) ?_)))
  refine wpAny_mono (or_body (R := fun r s' => ∃ h', r = .ok (.ret (.ref s.heap.objs.size)) ∧ s' = { s with heap := h' } ∧ h'.DictOf (mixKind X.prog X.w) s.heap.objs.size (merged vs ws) ∧ ∀ b u, s.heap.get? b = some u → h'.get? b = some u) ha2 hb2 da db (by omega) fun h' d' k' => ⟨h', rfl, rfl, d', k'⟩) (fun fin s' z => ?_) (fun e s' z => ?_)
  · obtain ⟨v, rfl, h', e, rfl, d', k'⟩ := z
    cases e
    refine ⟨(fun z => nomatch z), .ref s.heap.objs.size, _, I.laid (t' := s.toks) k' (Nat.le_refl _) (show ObjOk X.prog X.w _ h' _ (.dK (mergeK ks ls)) from ⟨?_, ?_, merged vs ws, KV.merge rb ra, d'⟩), rfl, q _ (I.hok.fresh (Nat.le_refl _))⟩
    · have := length_mergeK ls ks
      omega
    · exact beq_eq_false_iff_ne.mpr (Ne.symm (Nat.ne_of_lt I.big))
  · obtain ⟨h', e, _⟩ := z
    cases e
end
end Hs
end
section
set_option Elab.async false
set_option linter.all false
set_option maxRecDepth 100000
set_option maxHeartbeats 4000000
namespace Hs
open PySem PySem.Spec PyProof.Rows L2 PySem.Froz
open Evl (Ex)
open PySem.W (Sortable AllAlike dataLe TotalLe)
/-! ### sets as objects of the heap -/
def SetX (P : Program) (w : World) (a : Addr) (l : List Str) : HO := .ext fun h => TxR P w h a l
structure SetN0 (w : World) (h : Heap) (a : Addr) (L : List (Addr × NestedKey)) : Prop where
  ex : ∃ (es : Array (Int × Value)) (ep : Nat) (t : SetTable), (∃ o, h.get? a = some o ∧ o.ExactSet ∧ o.data = .set es ep t) ∧ es.toList = rowsN w L ∧ TabOk t (L.map fun p => p.2.hash w) ∧ (L.map (·.2)).Nodup ∧
    (w.params.followText "set-order" = true ∨ t.led = true) ∧ L.length * 5 < t.mask * 3 ∧ L.length < 64
def SetN (w : World) (a : Addr) (L : List (Addr × NestedKey)) : HO := .ext fun h => SetN0 w h a L
theorem setX_new {P : Program} {w : World} {H : Hp} {h : Heap} {a : Addr} {l : List Str} (R : TxR P w h a l) : ObjOk P w H h a (SetX P w a l) := by
  have ⟨D, ho, _⟩ := R
  exact ⟨R, ⟨_, ho⟩, fun h1 h2 p k => TxR.at p fun o e => k o e⟩
theorem SetNR.n0 {w : World} {h : Heap} {a : Addr} {L : List (Addr × NestedKey)} {es : Array (Int × Value)} {ep : Nat} {t : SetTable} (R : SetNR w h a L es ep t) : SetN0 w h a L :=
  ⟨es, ep, t, R.ob, R.rows, R.tab, R.nd, R.led, R.room, R.few⟩
theorem SetN0.full {w : World} {h : Heap} {a : Addr} {L : List (Addr × NestedKey)} (R : SetN0 w h a L) (ht : ∀ p ∈ L, TupN h p.2 p.1) : ∃ es ep t, SetNR w h a L es ep t := by
  obtain ⟨es, ep, t, h1, h2, h3, h4, h6, h7, h8⟩ := R.ex
  exact ⟨es, ep, t, h1, h2, h3, h4, ht, h6, h7, h8⟩
theorem setN_new {P : Program} {w : World} {H : Hp} {h : Heap} {a : Addr} {L : List (Addr × NestedKey)} (R : SetN0 w h a L) : ObjOk P w H h a (SetN w a L) := by
  have ⟨es, ep, t, ⟨o, ho, r⟩, q⟩ := R.ex
  refine ⟨R, ⟨o, ho⟩, fun h1 h2 p k => ?_⟩
  have ⟨es', ep', t', ⟨o', ho', r'⟩, q'⟩ := SetN0.ex p
  exact ⟨es', ep', t', ⟨o', k o' ho', r'⟩, q'⟩
theorem adds_keys {P : Program} {w : World} {h0 : Heap} {S : Addr} (ks : List (Addr × NestedKey)) {items : Array Value} (hz : items.toList = ks.map fun p => Value.ref p.1) (hk : ∀ p ∈ ks, TupN h0 p.2 p.1) {u : Nat} (hu : u + 16 < cLine) (hfew : ks.length < 64) :
    Adds P w h0 S items u fun i h => ∃ L es ep t, SetNR w h S L es ep t ∧ GotN ks i L := by
  intro A i v s E Q hA hv kp ⟨L, es, ep, t, R, g⟩ h
  obtain ⟨p, hp, rfl⟩ : ∃ p, ks[i]? = some p ∧ v = .ref p.1 := by
    have q : items.toList[i]? = some v := by rw [Array.getElem?_toList]; exact hv
    rw [hz, List.getElem?_map] at q
    cases hq : ks[i]? with
    | none => rw [hq] at q; cases q
    | some p =>
      rw [hq] at q
      exact ⟨p, rfl, (Option.some.inj q).symm⟩
  have hx : TupN s.heap p.2 p.1 := tupN_keep (hk p (List.mem_of_getElem? hp)) kp
  unfold setAdd
  refine wpAny_holding ?_
  refine wpAny_bind ((nestedKind P w).pyHash (show A.units + 8 < cLine by omega) hx ?_)
  have hi : i < ks.length := (List.getElem?_eq_some_iff.mp hp).1
  refine add_atN (s := { s with toks := s.toks + p.2.draws }) R hx (by omega) (by have := g.len; omega) fun b h' L' es' ep' t' hsb hS2 c1 c2 => ?_
  refine h b h' _ (Nat.le_add_right _ _) hsb ⟨L', es', ep', t', hS2, ?_⟩
  · rcases Classical.em (p.2 ∈ L.map (·.2)) with c | c
    · rw [c1 c]; exact g.same hp c
    · exact g.more hp (c2 c)
theorem refs_valsN : ∀ {ks : List (Addr × NestedKey)} {us : List Value}, Vals (ks.map fun p => V.ref p.1) us → us = ks.map fun p => Value.ref p.1
  | [], _, .nil => rfl
  | p :: ks, _, .cons r t => by
    cases r
    rw [refs_valsN t] <;> rfl
theorem vals_refsN : ∀ (ks : List (Addr × NestedKey)), Vals (ks.map fun p => V.ref p.1) (ks.map fun p => Value.ref p.1)
  | [] => .nil
  | p :: ks => .cons rfl (vals_refsN ks)
section
variable {X : Cx}
/-- set(xs), xs a list of tuples of keys -/
def rSetOfN (K : PySem.W.Frag) (w : World) : List V → Hp → VK → Prop := fun xs H Q => ∃ (l : Addr) (ks : List (Addr × NestedKey)), xs = [V.ref l] ∧ SqL K H l (ks.map fun p => V.ref p.1) ∧ (∀ p ∈ ks, Nk K H (.ref p.1) p.2 ∧ p.2.depth ≤ 8) ∧ ks.length < 64 ∧
  ∀ a L, H a = none → (∀ p ∈ L, p ∈ ks) → (∀ p ∈ ks, p.2 ∈ L.map (·.2)) → (L.map (·.2)).Nodup → L.length < 64 → Q (.ref a) (upd H a (SetN w a L))
theorem cr_setOfN (hc : X.calm = true) (hu : X.A.units + 64 < cLine) : CallR X (.type "set") (rSetOfN X.K X.w) := by
  intro pins s σ H xs us Q I r h
  obtain ⟨l, ks, rfl, hl, hk, hf, q⟩ := h
  rw [Vals.ref1 r]
  obtain ⟨its, rv, pl, hz⟩ := I.list hl
  have hn : H s.heap.objs.size = none := I.hok.fresh (Nat.le_refl _)
  have hk2 : ∀ p ∈ ks, TupN s.heap p.2 p.1 := fun p hp => ⟨Nk.is I _ _ _ (hk p hp).1 rfl, (hk p hp).2⟩
  have hit : its = ks.map fun p => Value.ref p.1 := refs_valsN rv
  have hlen : its.toArray.size = ks.length := by rw [List.size_toArray, hit, List.length_map]
  refine call_set_list_gen (P := X.prog) (w := X.w) (fun i h => ∃ L es ep t, SetNR X.w h s.heap.objs.size L es ep t ∧ GotN ks i L) (I.ok.hd hc) pl.isList (fun h0 e _ => ⟨[], #[], 0, _, setNR_fresh e, GotN.zero ks⟩)
    (fun i h h' e kp ⟨L, es, ep, t, R, g⟩ => ⟨L, es, ep, t, R.keep e fun p hp => tupN_keep (hk2 p (List.mem_of_mem_take (g.sub p hp))) kp, g⟩)
    (adds_keys ks (by simpa using hit) hk2 (by omega) hf) fun h' tk ⟨L, es, ep, t, R, g⟩ kp => ?_
  rw [hlen] at g
  refine ⟨.ref s.heap.objs.size, upd H s.heap.objs.size (SetN X.w s.heap.objs.size L), I.laid (t' := tk) kp (Nat.le_refl _) (setN_new R.n0), rfl, q _ L hn (fun p hp => ?_) (fun p hp => ?_) R.nd R.few⟩
  · exact List.mem_of_mem_take (g.sub p hp)
  · exact g.all p (by rw [List.take_length]; exact hp)
/-- set(xs), xs a list or a tuple of texts -/
def rSetX (K : PySem.W.Frag) (P : Program) (w : World) (tup : Bool) : List V → Hp → VK → Prop := fun xs H Q => ∃ (l : Addr) (zs : List Str), xs = [V.ref l] ∧ (if tup = true then SqT K H l (zs.map V.str) else SqL K H l (zs.map V.str)) ∧ zs.length < 64 ∧
  ∀ a ls, H a = none → ls.Nodup → (∀ z, z ∈ ls ↔ z ∈ zs) → ls.length < 64 → Q (.ref a) (upd H a (SetX P w a ls))
theorem cr_setXL (hc : X.calm = true) : CallR X (.type "set") (rSetX X.K X.prog X.w false) := by
  intro pins s σ H xs us Q I r h
  obtain ⟨l, zs, rfl, hl, hf, q⟩ := h
  rw [Vals.ref1 r]
  obtain ⟨its, rv, pl, hz⟩ := I.list hl
  have hn : H s.heap.objs.size = none := I.hok.fresh (Nat.le_refl _)
  have hlen : its.toArray.size = zs.length := by rw [List.size_toArray, ← rv.length, List.length_map]
  refine call_set_list_gen (P := X.prog) (w := X.w) (fun i h => ∃ l, TxR X.prog X.w h s.heap.objs.size l ∧ (∀ z, z ∈ l ↔ z ∈ zs.take i) ∧ l.length ≤ i) (I.ok.hd hc) pl.isList (fun h0 e _ => ⟨[], txr_fresh e, fun z => by simp, Nat.le_refl _⟩)
    (fun i h h' e kp ⟨l, R, g⟩ => ⟨l, R.at e, g⟩)
    (adds_texts (by simpa using rv) (by unfold scanBound; omega)) fun h' tk ⟨l, R, g, gl⟩ kp => ?_
  rw [hlen] at g gl
  rw [List.take_length] at g
  obtain ⟨D, _, _, nd, _⟩ := id R
  exact ⟨.ref s.heap.objs.size, upd H s.heap.objs.size (SetX X.prog X.w s.heap.objs.size l), I.laid (t' := tk) kp (Nat.le_refl _) (setX_new R), rfl, q _ l hn nd g (by omega)⟩
theorem cr_setXT (hc : X.calm = true) : CallR X (.type "set") (rSetX X.K X.prog X.w true) := by
  intro pins s σ H xs us Q I r h
  obtain ⟨l, zs, rfl, hl, hf, q⟩ := h
  rw [Vals.ref1 r]
  obtain ⟨its, rv, pl, hz⟩ := I.tuple hl
  have hn : H s.heap.objs.size = none := I.hok.fresh (Nat.le_refl _)
  have hlen : its.toArray.size = zs.length := by rw [List.size_toArray, ← rv.length, List.length_map]
  refine call_set_tuple_gen (P := X.prog) (w := X.w) (fun i h => ∃ l, TxR X.prog X.w h s.heap.objs.size l ∧ (∀ z, z ∈ l ↔ z ∈ zs.take i) ∧ l.length ≤ i) (I.ok.hd hc) pl (fun h0 e _ => ⟨[], txr_fresh e, fun z => by simp, Nat.le_refl _⟩)
    (fun i h h' e kp ⟨l, R, g⟩ => ⟨l, R.at e, g⟩)
    (adds_texts (by simpa using rv) (by unfold scanBound; omega)) fun h' tk ⟨l, R, g, gl⟩ kp => ?_
  rw [hlen] at g gl
  rw [List.take_length] at g
  obtain ⟨D, _, _, nd, _⟩ := id R
  exact ⟨.ref s.heap.objs.size, upd H s.heap.objs.size (SetX X.prog X.w s.heap.objs.size l), I.laid (t' := tk) kp (Nat.le_refl _) (setX_new R), rfl, q _ l hn nd g (by omega)⟩
/-! ### len -/
theorem cr_lenSetN : CallR X (.builtin "len") (fun xs H Q => ∃ a L, xs = [V.ref a] ∧ H a = some (SetN X.w a L) ∧ Q (.int L.length) H) := by
  intro pins s σ H vs us Q I r h
  obtain ⟨a, L, rfl, ha, q⟩ := h
  rw [Vals.ref1 r]
  have R0 : SetN0 X.w s.heap a L := (I.hok a _ ha).1
  obtain ⟨es, ep, t, ⟨o, ho, hex, hd⟩, hr, T, nd, ld, rm, fw⟩ := R0.ex
  have hsz : es.size = L.length := by
    have h := congrArg List.length hr
    unfold rowsN at h
    rw [Array.length_toList, List.length_map] at h
    exact h
  have hfits : t.fits es.size = true := by
    have h1 := T.sz
    rw [List.length_map] at h1
    unfold SetTable.fits SetTable.fill
    rw [T.dm, Bool.and_eq_true, beq_iff_eq, decide_eq_true_eq]
    show t.place.size = es.size ∧ t.place.size + 0 ≤ t.mask
    omega
  refine call_len_set ho hex hd hfits (by rw [hsz]; omega) ⟨.int L.length, H, I.tok _, ⟨_, by rw [hsz]⟩, q⟩
theorem cr_lenSetX : CallR X (.builtin "len") (fun xs H Q => ∃ a l, xs = [V.ref a] ∧ H a = some (SetX X.prog X.w a l) ∧ l.length < 64 ∧ Q (.int l.length) H) := by
  intro pins s σ H vs us Q I r h
  obtain ⟨a, l, rfl, ha, hl, q⟩ := h
  rw [Vals.ref1 r]
  have R0 : TxR X.prog X.w s.heap a l := (I.hok a _ ha).1
  obtain ⟨D, ho, F, nd, rs, ld⟩ := R0
  obtain ⟨es, ep, t⟩ := D
  have hsz : es.size = l.length := F.sz
  refine call_len_set ho ⟨rfl, rfl, rfl⟩ rfl F.fit (by show (es.size : Int) < 2 ^ 63; rw [hsz]; omega) ⟨.int l.length, H, I.tok _, ⟨_, by show Value.int (es.size : Int) _ = _; rw [hsz]⟩, q⟩
/-! ### in -/
theorem TxR.setOf {P : Program} {w : World} {h : Heap} {a : Addr} {l : List Str} (R : TxR P w h a l) (hl : l.length < 64) : h.SetOf (strKind P w) a (fun k => decide (k ∈ l)) l.length := by
  obtain ⟨D, ho, F, nd, rs, ld⟩ := R
  obtain ⟨es, ep, t⟩ := D
  have hsz : es.size = l.length := F.sz
  exact ⟨_, es, ep, t, ho, ⟨rfl, rfl, rfl⟩, rfl, F.el, fun k => by rw [decide_eq_true_eq]; exact F.mem k, by rw [hsz]; unfold scanBound; omega, F.fit, hsz⟩
def rInX (P : Program) (w : World) (neg : Bool) : V → V → Hp → VK → Prop := fun x y H Q => ∃ (k : Str) (a : Addr) (l : List Str), x = V.str k ∧ y = V.ref a ∧ H a = some (SetX P w a l) ∧ l.length < 64 ∧ Q (.bl (if neg then !decide (k ∈ l) else decide (k ∈ l))) H
theorem op_inX : OpR X (compareOp .In) (rInX X.prog X.w false) := by
  intro pins s σ H x y u v Q I r1 r2 h
  obtain ⟨k, a, l, rfl, rfl, ha, hl, q⟩ := h
  obtain ⟨tk, rfl⟩ := r1
  cases r2
  have R0 : TxR X.prog X.w s.heap a l := (I.hok a _ ha).1
  exact wpAny_inSet_of (is_str k tk) rfl (R0.setOf hl) ⟨.bl _, H, I.tok _, rfl, q⟩
theorem op_ninX : OpR X (compareOp .NotIn) (rInX X.prog X.w true) := by
  intro pins s σ H x y u v Q I r1 r2 h
  obtain ⟨k, a, l, rfl, rfl, ha, hl, q⟩ := h
  obtain ⟨tk, rfl⟩ := r1
  cases r2
  have R0 : TxR X.prog X.w s.heap a l := (I.hok a _ ha).1
  exact wpAny_notInSet_of (is_str k tk) rfl (R0.setOf hl) ⟨.bl _, H, I.tok _, rfl, q⟩
end
end Hs
end
section
set_option Elab.async false
set_option linter.all false
set_option maxRecDepth 100000
set_option maxHeartbeats 4000000
namespace Hs
open PySem PySem.Spec PyProof.Rows L2 PySem.Froz
open Evl (Ex)
open PySem.W (Sortable AllAlike dataLe TotalLe SortsAt list_sort_vals sortVals_data sortVals_length bound_map each_map dataKind KdlSrc sortLe_total sort_pairwise sortVals sortingHeap sortingHeap_old)
/-- what sorted() may gather -/
def Col (X : Cx) (H : Hp) (a : Addr) (xs : List V) : Prop := ∀ (pins : List (Addr × Obj)) (σ : L2.St) (s : Shared), Inv X pins σ H s → ∀ (A : Around) (E : Value → Shared → Prop) (Q : List Value → Shared → Prop), A.handled = none →
  (∀ s' vs ys, Kept s.heap s'.heap → s.heap.objs.size ≤ s'.heap.objs.size → s'.gens = s.gens → s'.os = s.os → List.Perm ys xs → Vals ys vs → Q vs s') → wpAny (model X.prog X.w) A (collect (.ref a)) Q E s
section
variable {X : Cx} {H : Hp}
theorem nkAll_perm {K : PySem.W.Frag} : ∀ {xs ys : List V}, List.Perm ys xs → ∀ {ks : List NestedKey}, NkAll K H xs ks → ∃ ls, List.Perm ls ks ∧ NkAll K H ys ls := by
  intro xs ys p
  induction p with
  | nil => exact fun h => ⟨_, List.Perm.refl _, h⟩
  | cons x _ ih =>
    intro ks h
    cases h with
    | cons h1 h2 =>
      obtain ⟨ls, e1, e2⟩ := ih h2
      exact ⟨_ :: ls, e1.cons _, .cons h1 e2⟩
  | swap x y l =>
    intro ks h
    cases h with
    | cons h1 h2 =>
      cases h2 with
      | cons h3 h4 => exact ⟨_, List.Perm.swap _ _ _, .cons h3 (.cons h1 h4)⟩
  | trans _ _ ih1 ih2 =>
    intro ks h
    obtain ⟨l1, a1, a2⟩ := ih2 h
    obtain ⟨l2, b1, b2⟩ := ih1 a2
    exact ⟨l2, b1.trans a1, b2⟩
theorem each_of {K : PySem.W.Frag} : ∀ {ys : List V} {vs : List Value} {ls : List NestedKey}, Vals ys vs → NkAll K H ys ls → PySem.W.EachIs (fun v (b : V × NestedKey) => RelV b.1 v ∧ Nk K H b.1 b.2) vs (ys.zip ls)
  | _, _, _, .nil, .nil => .nil
  | _, _, _, .cons r t, .cons h1 h2 => .cons ⟨r, h1⟩ (each_of t h2)
theorem zip_fst {α β : Type} : ∀ {l : List α} {m : List β}, l.length = m.length → (l.zip m).map Prod.fst = l
  | [], [], _ => rfl
  | [], _ :: _, h => nomatch h
  | _ :: _, [], h => nomatch h
  | a :: l, b :: m, h => by
    rw [List.zip_cons_cons, List.map_cons, zip_fst (by simpa using h)]
theorem zip_snd {α β : Type} : ∀ {l : List α} {m : List β}, l.length = m.length → (l.zip m).map Prod.snd = m
  | [], [], _ => rfl
  | [], _ :: _, h => nomatch h
  | _ :: _, [], h => nomatch h
  | a :: l, b :: m, h => by
    rw [List.zip_cons_cons, List.map_cons, zip_snd (by simpa using h)]
theorem of_each {K : PySem.W.Frag} : ∀ {vs : List Value} {bs : List (V × NestedKey)}, PySem.W.EachIs (fun v (b : V × NestedKey) => RelV b.1 v ∧ Nk K H b.1 b.2) vs bs → Vals (bs.map Prod.fst) vs ∧ NkAll K H (bs.map Prod.fst) (bs.map Prod.snd)
  | _, _, .nil => ⟨.nil, .nil⟩
  | _, _, .cons ⟨r, h⟩ t => ⟨.cons r (of_each t).1, .cons h (of_each t).2⟩
/-- sorted(xs), xs anything that can be gathered, of keys: a new list of the same, in order -/
def rSortedC (X : Cx) : List V → Hp → VK → Prop := fun vs H Q => ∃ (a : Addr) (xs : List V) (ks : List NestedKey), vs = [V.ref a] ∧ Col X H a xs ∧ NkAll X.K H xs ks ∧ xs.length ≤ sizeLine ∧ AllAlike (ks.map NestedKey.data) ∧ Sortable (ks.map NestedKey.data) ∧
  (∀ k ∈ ks, k.data.depth ≤ 8) ∧ ∀ (ys : List V) (ls : List NestedKey) (p : Addr), List.Perm ys xs → List.Perm ls ks → NkAll X.K H ys ls → ls.Pairwise (fun a b => dataLe false NestedKey.data a b = true) → H p = none → Q (.ref p) (upd H p (.lst ys))
theorem cr_sortedC (hc : X.calm = true) (hu : X.A.units + 64 < cLine) : CallR X (.builtin "sorted") (rSortedC X) := by
  intro pins s σ H vs us Q I r h
  obtain ⟨a, xs, ks, rfl, hcol, hk, hlen, hal, hso, hdep, q⟩ := h
  rw [Vals.ref1 r]
  refine Calls.call_function_entry kind_sorted plain_sorted entry_sorted (args_sorted1 _) ?_
  unfold Builtin.«sorted»
  refine wpAny_bind (m := checkCount "sorted" 1 1 _) (wpAny_pure ?_)
  refine wpAny_bind (hcol pins σ s I X.A.in1 _ _ (I.ok.hd hc) fun s1 vs ys k1 hz g1 o1 pm rv => ?_)
  obtain ⟨ls, pl, nk⟩ := nkAll_perm pm hk
  have hyl : ys.length = ls.length := NkAll.length nk
  have hvl : vs.length ≤ sizeLine := by rw [← rv.length, pm.length_eq]; exact hlen
  refine wpAny_bind (wpAny_newList ?_ hvl)
  have hoL : (s1.heap.push (seqObj "list" vs.toArray 0)).get? s1.heap.objs.size = some (seqObj "list" vs.toArray 0) := Heap.get?_push_size _ rfl
  have e1 := each_of rv nk
  have zs : (ys.zip ls).map Prod.snd = ls := zip_snd hyl
  have hdat : (ys.zip ls).map (fun b => b.2.data) = ls.map NestedKey.data := by
    rw [← zs, List.map_map] <;> simp [zs]
  have hal2 : AllAlike ((ys.zip ls).map fun b => b.2.data) := by
    rw [hdat]
    intro d hd d' hd'
    exact hal d ((pl.map _).mem_iff.mp hd) d' ((pl.map _).mem_iff.mp hd')
  have hso2 : Sortable ((ys.zip ls).map fun b => b.2.data) := by
    rw [hdat]
    exact hso.imp (fun z d hd => z d ((pl.map _).mem_iff.mp hd)) fun z d hd => z d ((pl.map _).mem_iff.mp hd)
  have old : ∀ b u, s.heap.get? b = some u → (sortingHeap (s1.heap.push (seqObj "list" vs.toArray 0)) s1.heap.objs.size vs).get? b = some u := fun b u e => by
    have q := k1 b u e
    exact sortingHeap_old (Nat.ne_of_lt (Heap.lt_size q)) (Heap.get?_push_of_some _ q)
  have er : PySem.W.EachIs (fun v (b : V × NestedKey) => ∃ as, Reads (sortingHeap (s1.heap.push (seqObj "list" vs.toArray 0)) s1.heap.objs.size vs) v b.2.data as) vs (ys.zip ls) := e1.mono fun v b ⟨r, h⟩ => by
    obtain ⟨as, rd⟩ := Nk.reads I _ _ _ h r
    exact ⟨as, PyProof.Rows.Reads.keeps old rd⟩
  have hbl : vs.length = (ys.zip ls).length := e1.length
  refine wpAny_bind (wpAny_holding (wpAny_call_entry slot_list_sort ⟨_, hoL, rfl⟩ entry_list_sort (list_sort_vals (κ := dataKind (sortingHeap (s1.heap.push (seqObj "list" vs.toArray 0)) s1.heap.objs.size vs) ((ys.zip ls).map fun b => b.2.data)) hoL
    (SortsAt.data (s := { s1 with heap := sortingHeap (s1.heap.push (seqObj "list" vs.toArray 0)) s1.heap.objs.size vs }) (each_map (R := fun v d => ∃ as, Reads (sortingHeap (s1.heap.push (seqObj "list" vs.toArray 0)) s1.heap.objs.size vs) v d as) (fun b : V × NestedKey => b.2.data) er) hal2 hso2
      (bound_map (enc := fun b : V × NestedKey => b.2.data) fun b hb => ?_)) hvl ⟨.none, rfl, ?_⟩) (args_list_sort _)))
  · have hb2 : b.2 ∈ ls := by rw [← zs]; exact List.mem_map.mpr ⟨b, hb, rfl⟩
    have hd := hdep b.2 (pl.mem_iff.mp hb2)
    show _ + b.2.data.depth < cLine
    simp only [Around.in1_units]
    omega
  · have so := sortVals_data (h' := sortingHeap (s1.heap.push (seqObj "list" vs.toArray 0)) s1.heap.objs.size vs) false e1 er hal2
    have hol := sortVals_length (κ := dataKind (sortingHeap (s1.heap.push (seqObj "list" vs.toArray 0)) s1.heap.objs.size vs) ((ys.zip ls).map fun b => b.2.data)) (ks := vs) (vs := vs) false rfl
    generalize sortVals (dataKind (sortingHeap (s1.heap.push (seqObj "list" vs.toArray 0)) s1.heap.objs.size vs) ((ys.zip ls).map fun b => b.2.data)) false vs vs = out at so hol ⊢
    have mp := List.mergeSort_perm (ys.zip ls) (dataLe false fun b => b.2.data)
    have mw := sort_pairwise (sortLe_total (PyProof.Rows.listOrd PyProof.Rows.itemOrd) false (fun b : V × NestedKey => PySem.W.keyToks b.2.data)) (ys.zip ls)
    generalize hM : (ys.zip ls).mergeSort (dataLe false fun b => b.2.data) = M at so mp
    have mw2 : M.Pairwise fun a b => dataLe false NestedKey.data a.2 b.2 = true := by
      rw [← hM]
      exact mw
    obtain ⟨hv, hn⟩ := of_each so
    obtain ⟨c, hcl⟩ := sortedHeap_at (vs := vs) (out := out.toArray) hoL
    have hlen2 : (M.map Prod.fst).length ≤ sizeLine := by rw [List.length_map, mp.length_eq, ← hbl]; exact hvl
    have kk : ∀ b u, s.heap.get? b = some u → (sortedHeap (s1.heap.push (seqObj "list" vs.toArray 0)) s1.heap.objs.size vs out.toArray).get? b = some u := fun b u e => by
      have q := k1 b u e
      have hlt := Heap.lt_size q
      rw [sortedHeap_old (Nat.ne_of_lt hlt) (by rw [size_push']; exact Nat.lt_succ_of_lt hlt)]
      exact Heap.get?_push_of_some _ q
    have hn0 : H s1.heap.objs.size = none := I.hok.fresh hz
    refine wpAny_pure ⟨_, rfl, ?_⟩
    have J : Inv X pins σ (upd H s1.heap.objs.size (.lst (M.map Prod.fst))) { s with heap := sortedHeap (s1.heap.push (seqObj "list" vs.toArray 0)) s1.heap.objs.size vs out.toArray, gens := s1.gens, drawn := s1.drawn, toks := s1.toks } :=
      I.call (ch := []) (Un.laid kk hz hn0) (I.hok.laid kk hz ⟨hlen2, out, c, hv, hcl⟩) (by rw [g1]; exact I.bare) (fun _ z => nomatch z)
    have es : ({ s1 with heap := sortedHeap (s1.heap.push (seqObj "list" vs.toArray 0)) s1.heap.objs.size vs out.toArray } : Shared) = { s with heap := sortedHeap (s1.heap.push (seqObj "list" vs.toArray 0)) s1.heap.objs.size vs out.toArray, gens := s1.gens, drawn := s1.drawn, toks := s1.toks } := by
      cases s1
      cases s
      cases o1
      rfl
    show EP X pins σ Q _ { s1 with heap := sortedHeap (s1.heap.push (seqObj "list" vs.toArray 0)) s1.heap.objs.size vs out.toArray }
    rw [es]
    have pf : List.Perm (M.map Prod.fst) xs := by
      have z := mp.map Prod.fst
      rw [zip_fst hyl] at z
      exact z.trans pm
    have ps : List.Perm (M.map Prod.snd) ks := by
      have z := mp.map Prod.snd
      rw [zs] at z
      exact z.trans pl
    exact ⟨.ref s1.heap.objs.size, _, J, rfl, q _ _ _ pf ps hn (List.pairwise_map.mpr mw2) hn0⟩
end
end Hs
end
section
set_option Elab.async false
set_option linter.all false
set_option maxRecDepth 100000
set_option maxHeartbeats 4000000
namespace Hs
open PySem PySem.Spec PyProof.Rows L2 PySem.Froz
open Evl (Ex)
open PySem.W (KdlSrc)
section
variable {X : Cx} {H : Hp}
theorem mixRel {P : Program} {w : World} : ∀ {k : Key} {v : Value}, (mixKind P w).is k v = true → RelV (kV k) v
  | .inl i, v, h => by
    have h2 : Value.isInt i v = true := h
    obtain ⟨t, e⟩ := Value.isInt_shape h2
    exact ⟨t, e⟩
  | .inr x, v, h => by
    have h2 : Value.isStrOf x v = true := h
    cases v with
    | str y t =>
      have e : y = x := by simpa [Value.isStrOf] using h2
      subst e
      exact ⟨t, rfl⟩
    | _ => simp [Value.isStrOf] at h2
theorem col_list {l : Addr} {xs : List V} (h : SqL X.K H l xs) : Col X H l xs := by
  intro pins σ s I A E Q hh q
  obtain ⟨its, rv, pl, hz⟩ := I.list h
  have hlen : its.length ≤ sizeLine := by rw [← rv.length]; exact hz
  refine collect_list pl.isList ?_ hlen
  refine q _ its xs (fun b o e => ?_) ?_ rfl rfl (List.Perm.refl _) rv
  · rw [Heap.get?_update_ne _ _ _ _ (Nat.ne_of_lt (Heap.lt_size e)), Heap.get?_push_ne _ _ _ (Nat.ne_of_lt (Heap.lt_size e))]
    exact e
  · show s.heap.objs.size ≤ (Heap.update _ _ _).objs.size
    rw [Heap.size_update, size_push']
    exact Nat.le_succ _
theorem col_nd {d : Addr} {ys : List NE} (h : H d = some (ND X.prog X.w d ys)) : Col X H d (ys.map fun y => V.ref y.2.1) := by
  intro pins σ s I A E Q hh q
  have R := nd_rd I (.inl h)
  obtain ⟨es, ep, hr, hsz, ent⟩ := nd_raw R
  refine collectK (KdlSrc.rawDict (d := d) (es := es) (ep := ep) R.sm) hh hr (by rw [hsz]; exact R.len) fun h' tk acc hk hz hacc => ?_
  refine q _ acc.toList _ hk hz rfl rfl (List.Perm.refl _) ?_
  refine vals_of_at (by have h9 := hacc.1; rw [List.length_map]; simp only [Array.length_toList]; omega) fun j x w h1 h2 => ?_
  obtain ⟨hi, e2⟩ := hacc.2 j w (by rw [← Array.getElem?_toList]; exact h2)
  obtain ⟨y, hy, e3, _⟩ := ent j hi
  rw [List.getElem?_map, hy] at h1
  cases h1
  rw [e2, e3] <;> rfl
theorem col_dk {d : Addr} {kvs : List (Key × V)} (h : H d = some (.dK kvs)) : Col X H d (kvs.map fun kv => kV kv.1) := by
  intro pins σ s I A E Q hh q
  obtain ⟨z, lo, vs, rk, hm⟩ := (show ObjOk X.prog X.w H s.heap d (.dK kvs) from I.hok d _ h)
  obtain ⟨ep, hat⟩ := hm.dictAt
  have hl : kvs.length = vs.length := Paired.length rk
  refine collectK (PySem.W.kdl_dict (knd := mixKind X.prog X.w) (d := d) (kvs := vs) (ep := ep) lo) hh hat (by rw [← hl]; exact z) fun h' tk acc hk hz hacc => ?_
  refine q _ acc.toList _ hk hz rfl rfl (List.Perm.refl _) ?_
  refine vals_of_at (by have h9 := hacc.1; rw [List.length_map]; simp only [Array.length_toList]; omega) fun j x w h1 h2 => ?_
  obtain ⟨k, y, hk2, hk3⟩ := hacc.2 j w (by rw [← Array.getElem?_toList]; exact h2)
  rw [List.getElem?_map] at h1
  cases hkv : kvs[j]? with
  | none => rw [hkv] at h1; cases h1
  | some kv =>
    rw [hkv] at h1
    cases h1
    have e1 : (kvs.map (·.1))[j]? = (vs.map (·.1))[j]? := by rw [KV.keys rk]
    rw [List.getElem?_map, List.getElem?_map, hkv, hk2] at e1
    have e2 : kv.1 = k := Option.some.inj e1
    subst e2
    exact mixRel hk3
theorem col_setX {a : Addr} {l : List Str} (h : H a = some (SetX X.prog X.w a l)) (hl : l.length < 64) : Col X H a (l.map V.str) := by
  intro pins σ s I A E Q hh q
  have R0 : TxR X.prog X.w s.heap a l := (I.hok a _ h).1
  obtain ⟨D, ho, F, nd, rs, ld⟩ := R0
  have hsz : D.1.size = l.length := F.sz
  refine collect_set (es := D.1) (ep := D.2.1) (t := D.2.2) hh ⟨_, ho, rfl, rfl⟩ F.fit (by rw [hsz]; unfold scanBound; omega) rs ld fun s1 vs k1 hz g1 o1 pm => ?_
  obtain ⟨zs, pz, rv⟩ := txok_vals F nd pm
  exact q s1 vs _ k1 hz g1 o1 (pz.map _) rv
theorem col_setN {a : Addr} {L : List (Addr × NestedKey)} (h : H a = some (SetN X.w a L)) : Col X H a (L.map fun p => V.ref p.1) := by
  intro pins σ s I A E Q hh q
  have R0 : SetN0 X.w s.heap a L := (I.hok a _ h).1
  obtain ⟨es, ep, t, ⟨o, ho, hex, hd⟩, hr, T, nd, ld, rm, fw⟩ := R0.ex
  have hsz : es.size = L.length := by
    have h := congrArg List.length hr
    unfold rowsN at h
    rw [Array.length_toList, List.length_map] at h
    exact h
  have hfits : t.fits es.size = true := by
    have h1 := T.sz
    rw [List.length_map] at h1
    unfold SetTable.fits SetTable.fill
    rw [T.dm, Bool.and_eq_true, beq_iff_eq, decide_eq_true_eq]
    show t.place.size = es.size ∧ t.place.size + 0 ≤ t.mask
    omega
  refine collect_set (es := es) (ep := ep) (t := t) hh ⟨o, ho, hex.1, hd⟩ hfits (by rw [hsz]; unfold scanBound; omega) T.ris ld fun s1 vs k1 hz g1 o1 pm => ?_
  have hes : es.toList.map (·.2) = L.map fun q => Value.ref q.1 := by
    rw [hr]
    unfold rowsN
    rw [List.map_map] <;> rfl
  rw [hes] at pm
  have back : ∀ {xs : List V} {us ws : List Value}, List.Perm ws us → Vals xs us → ∃ ys, List.Perm ys xs ∧ Vals ys ws := by
    intro xs us ws p
    induction p generalizing xs with
    | nil => exact fun h => ⟨_, List.Perm.refl _, h⟩
    | cons x _ ih =>
      intro h
      cases h with
      | cons h1 h2 =>
        obtain ⟨ls, e1, e2⟩ := ih h2
        exact ⟨_ :: ls, e1.cons _, .cons h1 e2⟩
    | swap x y l =>
      intro h
      cases h with
      | cons h1 h2 =>
        cases h2 with
        | cons h3 h4 => exact ⟨_, List.Perm.swap _ _ _, .cons h3 (.cons h1 h4)⟩
    | trans _ _ ih1 ih2 =>
      intro h
      obtain ⟨l1, a1, a2⟩ := ih2 h
      obtain ⟨l2, b1, b2⟩ := ih1 a2
      exact ⟨l2, b1.trans a1, b2⟩
  obtain ⟨ys, py, rv⟩ := back pm (vals_refsN L)
  exact q s1 vs ys k1 hz g1 o1 py rv
end
end Hs
end
section
set_option Elab.async false
set_option linter.all false
set_option autoImplicit false
set_option maxRecDepth 100000
set_option maxHeartbeats 4000000
namespace Hs
open PySem PySem.Calls PyProof.Rows PySem.W
section
variable {prog : Program} {w : World} {A : Around} {E : Value → Shared → Prop} {s : Shared} {a kS : Addr} {b : Bool} {vs : List Value} {keys : Array Value} {e e1 : Nat} {P : PySem.Fin → Shared → Prop} {kz : List PyData}
theorem keyH_restG {f : Value} {h₁ : Heap} (kp : KeepsBut a h₁ s.heap) (hkS : h₁.get? kS = none) (nk : s.heap.get? kS = some (seqObj "list" #[] 0)) (na : s.heap.get? a = some (seqObj "list" #[] e1)) (hka : kS ≠ a)
    (hlen : kz.length = vs.length) (hZ : vs.length ≤ sizeLine) (hal : AllAlike kz) (hS : ∀ (s : Shared) (ks : List Value), EachIs (fun v d => ∃ as, Reads s.heap v d as) ks kz → SortsAt prog w A s (dataKind s.heap kz) ks)
    (turn : ∀ (i : Nat) (v : Value) (k : PyData), vs[i]? = some v → kz[i]? = some k → ∀ (h : Heap) (tk : Nat), KeepsBut a h₁ h →
      wpAny (model prog w) A (call f [v]) (KeyPure k { s with heap := h, toks := tk }) (fun _ _ => False) { s with heap := h, toks := tk })
    (h : ∀ h' tk out c, KeepsBut a h₁ h' → h'.get? a = some (seqObj "list" (List.toArray out) c) → KeyedOut b kz vs out → P (.done (.ret .none)) { s with heap := h', toks := tk }) :
    wpAny (model prog w) A (ksk_rest a f b vs.toArray e1 (.ref kS)) P E s := by
  unfold ksk_rest
  refine wpAny_bind (wpAny_rule ?_)
  first
    | rw [List.forIn_toArray]
    | (rw [← Array.forIn_toList]; simp only [List.toList_toArray])
    | rw [← Array.forIn_toList]
  refine wpAny_bind (ksk_fold (fun i s' => ∃ h' tk kA e, s' = { s with heap := h', toks := tk } ∧ KeepsBut a h₁ h' ∧ h'.get? kS = some (seqObj "list" kA e) ∧ h'.get? a = some (seqObj "list" #[] e1) ∧ EachIs (fun v k => Reads h' v k [] ∧ alike k k = true) kA.toList (kz.take i)) vs 0 s
    ⟨s.heap, s.toks, #[], 0, rfl, kp, nk, na, by rw [List.take_zero]; exact EachIs.nil⟩ ?step ?done)
  case step =>
    rintro j x s' hx ⟨h', tk, kA, e, rfl, kp', nk', na', hk⟩
    simp only [Nat.zero_add] at hk ⊢
    have hj : j < vs.length := (List.getElem?_eq_some_iff.mp hx).1
    obtain ⟨k, hkj⟩ : ∃ k, kz[j]? = some k := ⟨_, List.getElem?_eq_getElem (by omega)⟩
    have hkk : alike k k = true := hal k (List.mem_of_getElem? hkj) k (List.mem_of_getElem? hkj)
    have hz : kA.size ≤ vs.length := by
      have h1 := hk.length
      rw [Array.length_toList, List.length_take] at h1
      omega
    refine wpAny_bind (wpAny_attempt (wpAny_mono (turn j x k hx hkj h' tk kp') (fun v s'' he => ?_) fun _ _ hF => hF.elim))
    obtain ⟨g, tk2, rfl, hg, hr⟩ := he
    try dsimp only
    have nk2 : g.get? kS = some (seqObj "list" kA e) := hg _ _ nk'
    have na2 : g.get? a = some (seqObj "list" #[] e1) := hg _ _ na'
    have s1 := Heap.SameBut.update g kS (Obj.mapSeq (·.push v))
    obtain ⟨c2, hc2⟩ : ∃ c2, (g.update kS (Obj.mapSeq (·.push v))).get? kS = some (seqObj "list" (kA.push v) c2) := ⟨_, get?_update_seq nk2 (·.push v)⟩
    have ek : kz.take (j + 1) = kz.take j ++ [k] := by rw [List.take_add_one, hkj]; simp
    have ea : (kA.push v).toList = kA.toList ++ [v] := by simp
    refine wpAny_bind (listUpdate_at nk2 rfl ?_ (Nat.le_trans hz hZ) (Nat.le_trans (Nat.le_of_eq (Array.size_push ..)) (Nat.succ_le_succ (Nat.le_trans hz hZ))))
    have keepS : ∀ (u : Value) (d : PyData), Reads g u d [] ∧ alike d d = true → Reads (g.update kS (Obj.mapSeq (·.push v))) u d [] ∧ alike d d = true := fun u d q =>
      ⟨Reads.keepBut (a := kS) (fun b o hb e => (s1.2 b hb).trans e) (fun o e => by rw [nk2] at e; rw [← Option.some.inj e]) d u [] q.2 q.1 (by simp), q.2⟩
    refine wpAny_pure ⟨rfl, _, _, kA.push v, c2, rfl, (kp'.trans_all hg).same s1 (.inr hkS), hc2, (s1.2 a hka.symm).trans na2, ?_⟩
    rw [ea, ek]
    refine each_snoc (R := fun (u : Value) (d : PyData) => Reads (g.update kS (Obj.mapSeq (·.push v))) u d [] ∧ alike d d = true) (keepS v k ⟨hr, hkk⟩) ?_
    exact hk.mono fun u d q => keepS u d ⟨PyProof.Rows.Reads.keeps hg q.1, q.2⟩
  case done =>
    rintro s' ⟨h', tk, kA, e, rfl, kp', nk', na', hk⟩
    have hk' : EachIs (fun v k => ∃ as, Reads h' v k as) kA.toList kz := by
      have e3 : kz.take (0 + vs.length) = kz := List.take_of_length_le (by omega)
      rw [e3] at hk
      exact hk.mono fun v k q => ⟨[], q.1⟩
    have hsz : kA.size = vs.length := by
      have h1 := hk'.length
      rw [Array.length_toList] at h1
      omega
    try dsimp only
    refine wpAny_bind (listItems_at nk' rfl ?_)
    exact keyH_end (κ := dataKind h' kz) (h₁ := h₁) kp' hkS nk' na' hka (hS { s with heap := h', toks := tk } _ hk') hsz hZ fun h3 tk3 c k3 n3 => h h3 tk3 _ c k3 n3 ⟨h', kA.toList, hal, rfl, hk'⟩

theorem keyH_treeG {f : Value} {n : Nat} (ho : s.heap.get? a = some (seqObj "list" vs.toArray n)) (hlen : kz.length = vs.length) (hZ : vs.length ≤ sizeLine) (hal : AllAlike kz) (hS : ∀ (s : Shared) (ks : List Value), EachIs (fun v d => ∃ as, Reads s.heap v d as) ks kz → SortsAt prog w A s (dataKind s.heap kz) ks)
    (turn : ∀ (i : Nat) (v : Value) (k : PyData), vs[i]? = some v → kz[i]? = some k → ∀ (h : Heap) (tk : Nat), KeepsBut a s.heap h →
      wpAny (model prog w) A (call f [v]) (KeyPure k { s with heap := h, toks := tk }) (fun _ _ => False) { s with heap := h, toks := tk })
    (h : ∀ h' tk out c, KeepsBut a s.heap h' → h'.get? a = some (seqObj "list" (List.toArray out) c) → KeyedOut b kz vs out → P (.done (.ret .none)) { s with heap := h', toks := tk }) :
    wpAny (model prog w) A (ksk_tree a f b) P E s := by
  have ha : a < s.heap.objs.size := Heap.lt_size ho
  obtain ⟨e1, ho1⟩ : ∃ e1, (s.heap.update a (Obj.mapSeq fun _ => (#[] : Array Value))).get? a = some (seqObj "list" #[] e1) := ⟨_, get?_update_seq ho fun _ => #[]⟩
  have hkS : ((s.heap.update a (Obj.mapSeq fun _ => (#[] : Array Value))).push (seqObj "tuple" vs.toArray 0)).objs.size = s.heap.objs.size + 1 := by rw [size_push', Heap.size_update]
  unfold ksk_tree
  refine wpAny_bind (listItems_at ho rfl ?_)
  refine wpAny_bind (listUpdate_at ho rfl ?_ (by rw [List.size_toArray]; exact hZ) (Nat.zero_le _))
  refine wpAny_bind (seqEpoch_at ho1 rfl ?_)
  refine wpAny_bind (wpAny_newTuple ?_ (by show vs.length ≤ _; exact hZ))
  refine wpAny_bind (wpAny_newList ?_ (Nat.zero_le _))
  refine wpAny_holding ?_
  have kp : KeepsBut a s.heap (sortingHeap s.heap a vs) := fun b o hb q => sortingHeap_old hb q
  refine keyH_restG (kz := kz) (h₁ := s.heap) (s := { s with heap := ((s.heap.update a (Obj.mapSeq fun _ => (#[] : Array Value))).push (seqObj "tuple" vs.toArray 0)).push (seqObj "list" #[] 0) }) (kS := ((s.heap.update a (Obj.mapSeq fun _ => (#[] : Array Value))).push (seqObj "tuple" vs.toArray 0)).objs.size)
    kp (Heap.get?_none_of_le (by rw [hkS]; exact Nat.le_succ _)) (Heap.get?_push_size _ rfl) (Heap.get?_push_of_some _ (Heap.get?_push_of_some _ ho1)) (by rw [hkS]; exact Nat.ne_of_gt (Nat.lt_succ_of_lt ha)) hlen hZ hal hS turn h
end
section
variable {prog : Program} {w : World} {A : Around} {E : Value → Shared → Prop} {s : Shared} {β : Type} {vs : List Value} {bs : List β} {R : Value → β → Prop}
theorem sorted_key_dataG {l : Addr} {f : Value} {kw : List (Str × Value)} {b : Bool} {Q : Value → Shared → Prop} (k : β → PyData) (hl : s.heap.IsList l vs.toArray) (e : EachIs R vs bs) (hal : AllAlike (bs.map k)) (hS : ∀ (s : Shared) (ks : List Value), EachIs (fun v d => ∃ as, Reads s.heap v d as) ks (bs.map k) → SortsAt prog w A.in1.in1 s (dataKind s.heap (bs.map k)) ks) (hL : bs.length ≤ sizeLine)
    (ha1 : argsOk "sorted" ⟨[.ref l], kw⟩) (ha2 : ∀ x, argsOk "list.sort" ⟨[.ref x], kw⟩) (ht : ∀ x, Builtin.«list.sort» ⟨[.ref x], kw⟩ = ksk_tree x f b)
    (turn : ∀ (v : Value) (x : β), R v x → x ∈ bs → ∀ (h : Heap) (tk : Nat), (∀ b o, s.heap.get? b = some o → h.get? b = some o) →
      wpAny (model prog w) A.in1.in1 (call f [v]) (KeyPure (k x) { s with heap := h, toks := tk }) (fun _ _ => False) { s with heap := h, toks := tk })
    (h : ∀ out c h' tk, (∀ b o, s.heap.get? b = some o → h'.get? b = some o) → s.heap.get? (s.heap.objs.size + 1) = none → h'.get? (s.heap.objs.size + 1) = some (seqObj "list" (List.toArray out) c) → out.length = bs.length → EachIs R out (bs.mergeSort (dataLe b k)) →
      Q (.ref (s.heap.objs.size + 1)) { s with heap := h', toks := tk }) :
    wpAny (model prog w) A (call (.builtin "sorted") [.ref l] kw) Q E s := by
  have fresh : s.heap.get? (s.heap.objs.size + 1) = none := Heap.get?_none_of_le (Nat.le_succ _)
  have up : ∀ {g : Heap}, KeepsBut (s.heap.objs.size + 1) (copyHeap s.heap vs) g → ∀ b o, s.heap.get? b = some o → g.get? b = some o := fun {g} kp b o q =>
    kp b o (Nat.ne_of_lt (Nat.lt_succ_of_lt (Heap.lt_size q))) (copyHeap_old q)
  refine sorted_of_sort hl (by rw [e.length]; exact hL) ha1 ha2 fun E' => ?_
  rw [ht]
  refine keyH_treeG (kz := bs.map k) (s := { s with heap := copyHeap s.heap vs }) (copyHeap_at s.heap vs) (by rw [List.length_map]; exact e.length.symm) (by rw [e.length]; exact hL) hal hS
    (keyH_turns (s := { s with heap := copyHeap s.heap vs }) e fun v x hR hx h tk kp => turn v x hR hx h tk (up kp)) fun h' tk out c kp hD ko => ⟨rfl, ?_⟩
  exact h out c h' tk (up kp) fresh hD ((ko.length (by rw [List.length_map]; exact e.length.symm)).trans e.length) (keyedOut_each k ko e)

end
/-! tuples of which the first is empty -/
section
open PySem.SeqAt
variable {prog : Program} {w : World} {A : Around} {E : Value → Shared → Prop} {s : Shared}
theorem call_tuple_lt {Q : Value → Shared → Prop} {l b : Addr} {items items2 : Array Value} {e r : Nat → Bool} (hl : s.heap.IsTuple l items) (hb : s.heap.IsTuple b items2)
    (he : ∀ j (h1 : j < items.size) (h2 : j < items2.size), EqAt A.in1 s items[j] items2[j] (e j)) (hr : ∀ j (h1 : j < items.size) (h2 : j < items2.size), e j = false → RcLt A.in1 s items[j] items2[j] (r j))
    (h : Q (.bool (firstLt e r (decide (items.size < items2.size)) (List.range (min items.size items2.size)))) s) : wpAny (model prog w) A (call (.builtin "tuple.__lt__") [.ref l, .ref b]) Q E s := by
  obtain ⟨⟨cls, dd, data, sl⟩, ho, hc, n, hd⟩ := id hl
  obtain ⟨⟨cls2, dd2, data2, sl2⟩, ho2, hc2, n2, hd2⟩ := id hb
  simp only at hc hd hc2 hd2
  subst hc hd hc2 hd2
  exact call_meets F.slot_tuple_lt ⟨_, ho, rfl⟩ F.entry_tuple_lt (F.args_tuple_lt_2 _ _) (SeqAt.tuple_ltAt l b items items2 n n2 dd dd2 sl sl2 e r) ⟨ho, ho2, he, hr, h⟩
theorem oneLt_tup {xs ys : List PyData} {a b : Value} {as bs : List Addr} {Q : Bool → Shared → Prop} (ra : Reads s.heap a (.tuple xs) as) (rb : Reads s.heap b (.tuple ys) bs) (hal : alikeAll xs ys = true)
    (hu : A.units + min (PyData.tuple xs).depth (PyData.tuple ys).depth < cLine) (hq : Q (dataLt (.tuple xs) (.tuple ys)) s) : wpAny (model prog w) A (oneLt' true a b) Q E s := by
  cases ra with
  | @tuple l o vs n _ as₁ h1 h2 h3 h4 =>
    cases rb with
    | @tuple l' o' vs' n' _ bs₁ k1 k2 k3 k4 =>
      have n1 : vs.size = xs.length := by simpa using ReadsAll.length _ _ _ h4
      have n2 : vs'.size = ys.length := by simpa using ReadsAll.length _ _ _ k4
      rw [dataLt_tuple, ← firstLt_toks xs ys hal, ← n1, ← n2] at hq
      rw [oneLt'_eq]
      simp only [if_true]
      refine wpAny_bind (wpAny_cRoomFor (room_here hu) ?_)
      refine wpAny_bind (wpAny_callSpecialIfBound?_slot (T := "tuple") ⟨_, h1, h2⟩ F.slot_tuple_lt (call_tuple_lt (e := pairEq xs ys) (r := fun j => dataLt (xs.getD j .none) (ys.getD j .none)) ⟨_, h1, h2, _, h3⟩ ⟨_, k1, k2, _, k3⟩ (fun j j1 j2 => ?_) (fun j j1 j2 hj => ?_) ?_))
      · have := eqAt_alikeAll xs ys A.in1 s vs.toList vs'.toList _ _ h4 k4 hal (room_in hu) j (by simpa using j1) (by simpa using j2)
        simpa using this
      · have := rcLt_alikeAll xs ys A.in1 s vs.toList vs'.toList _ _ h4 k4 hal (room_in hu) j (by simpa using j1) (by simpa using j2) hj
        simpa using this
      · exact wpAny_truthy_bool hq
theorem first_tup {v : Value} {xs : List PyData} {as : List Addr} {Q : Option Value → Shared → Prop} (r : Reads s.heap v (.tuple xs) as) (h : ∀ x, (xs = [] → x = none) → Q x s) : wpAny (model prog w) A (firstOfTuple' v) Q E s := by
  cases r with
  | @tuple l o vs n _ as₁ h1 h2 h3 h4 =>
    rw [kas_first_eq]
    refine wpAny_bind (wpAny_typeOf (T := "tuple") ⟨_, h1, h2⟩ ?_)
    rw [if_neg (by simp)]
    refine wpAny_bind (listItems_at h1 h3 ?_)
    refine wpAny_pure (h _ fun e => ?_)
    subst e
    cases hv : vs.toList with
    | nil =>
      rw [← Array.getElem?_toList, hv] <;> rfl
    | cons x r =>
      rw [hv] at h4
      cases h4
theorem first_map : ∀ (l : List Value) {Q : List (Option Value) → Shared → Prop}, (∀ v ∈ l, ∃ xs as, Reads s.heap v (.tuple xs) as) → (∀ out : List (Option Value), (∀ v r as, l = v :: r → Reads s.heap v (.tuple []) as → ∃ o', out = none :: o') → Q out s) → wpAny (model prog w) A (l.mapM firstOfTuple') Q E s
  | [], Q, _, h => by
    rw [List.mapM_nil]
    exact wpAny_pure (h [] fun v r as e => nomatch e)
  | v :: l, Q, hl, h => by
    rw [List.mapM_cons]
    obtain ⟨xs, as, r⟩ := hl v (.head _)
    refine wpAny_bind (first_tup r fun x hx => ?_)
    refine wpAny_bind (first_map l (fun u hu => hl u (.tail _ hu)) fun out _ => ?_)
    refine wpAny_pure (h (x :: out) fun v' r' as' e r2 => ?_)
    obtain ⟨rfl, rfl⟩ := List.cons.inj e
    have ex : xs = [] := by
      have q := alike_unique (.tuple []) (.tuple xs) _ _ _ (by simp [alike, alikeAll]) r2 r
      injection q with q
      exact q.symm
    rw [hx ex]
    exact ⟨out, rfl⟩
/-- tuples, the first of which is empty -/
theorem SortsAt.data0 {vs : List Value} {ds : List PyData} (e : EachIs (fun v d => ∃ as, Reads s.heap v d as) vs (.tuple [] :: ds)) (hal : AllAlike (.tuple [] :: ds)) (ht : ∀ d ∈ ds, ∃ xs, d = .tuple xs) (hu : ∀ d, d ∈ PyData.tuple [] :: ds → A.units + d.depth < cLine) :
    SortsAt prog w A s (dataKind s.heap (.tuple [] :: ds)) vs := by
  have tup : ∀ d ∈ PyData.tuple [] :: ds, ∃ xs, d = .tuple xs := fun d hd => by
    rcases List.mem_cons.mp hd with z | z
    · exact ⟨[], z⟩
    · exact ht d z
  refine ⟨fun v hv => ?_, oneType', ?_, fun h2 E Q hq => ?_⟩
  · obtain ⟨d, hd, as, r⟩ := e.left v hv
    exact ⟨_, dataKind_some hal hd r⟩
  · intro E x y a b Q ha hb hq
    obtain ⟨d, as, hd, ra, rfl⟩ := dataKind_inv ha
    obtain ⟨d', as', hd', rb, rfl⟩ := dataKind_inv hb
    obtain ⟨xs, rfl⟩ := tup d hd
    obtain ⟨ys, rfl⟩ := tup d' hd'
    rw [keyLt'_oneType]
    exact oneLt_tup ra rb (by simpa [alike] using hal _ hd _ hd') (Nat.lt_of_le_of_lt (Nat.add_le_add_left (Nat.min_le_left _ _) _) (hu _ hd)) hq
  · have all : ∀ v ∈ vs, ∃ xs as, Reads s.heap v (.tuple xs) as := fun v hv => by
      obtain ⟨d, hd, as, r⟩ := e.left v hv
      obtain ⟨xs, rfl⟩ := tup d hd
      exact ⟨xs, as, r⟩
    cases e with
    | cons h0 er =>
      rename_i v₁ rest
      obtain ⟨as0, r0⟩ := h0
      rw [keyKind'_eq, List.mapM_toArray, map_eq_pure_bind]
      refine wpAny_bind (wpAny_bind (first_map _ all fun out ho => wpAny_pure ?_))
      obtain ⟨o', rfl⟩ := ho _ _ _ rfl r0
      rw [if_neg (by simp), if_neg (by simp)]
      rw [oneTypeOnly'_eq, List.mapM_toArray, map_eq_pure_bind]
      refine wpAny_bind (wpAny_bind (wpAny_bind (kas_mapM (r := Value.type "tuple") _ (fun v hv Q' hq => ?_) (wpAny_pure ?_))))
      · obtain ⟨xs, as, r⟩ := all v hv
        exact (looks_reads r).here hq
      · have hall : ((List.map (fun _ => Value.type "tuple") (v₁ :: rest)).toArray.all fun x => x == Value.type "tuple") = true := by
          simp only [List.all_toArray, List.all_map, List.all_eq_true]
          intro _ _
          exact beq_self_eq_true _
        have h0 : (List.map (fun _ => Value.type "tuple") (v₁ :: rest)).toArray[0]? = some (Value.type "tuple") := by simp
        rw [h0]
        simp only [hall, if_true]
        refine wpAny_pure ?_
        simp only [Option.isSome_some, if_true]
        exact wpAny_pure hq
end
end Hs
end
section
set_option Elab.async false
set_option linter.all false
set_option maxRecDepth 100000
set_option maxHeartbeats 4000000
namespace Hs
open PySem PySem.Spec PyProof.Rows L2 LamX
open PySem.W (AllAlike KeyPure alike_all_cons)
open Evl (Ex)
theorem extN_fz {H H' : Hp} (e : ExtN H H') : Fz H H' := fun a o h hl => e a o h fun ps z => by
  subst z
  cases hl
/-! data without lists -/
mutual
theorem Nk.reads0 {X : Cx} {pins : List (Addr × Obj)} {σ : L2.St} {H : Hp} {s : Shared} (I : Inv X pins σ H s) : ∀ (k : NestedKey) (v : V) (u : Value), Nk X.K H v k → RelV v u → Reads s.heap u k.data []
  | .none, _, _, h, r => by
    cases h
    cases r
    exact Reads.none
  | .num i, _, _, h, r => by
    cases h
    obtain ⟨t, rfl⟩ := r
    exact Reads.int i t
  | .text x, _, _, h, r => by
    cases h
    obtain ⟨t, rfl⟩ := r
    exact Reads.str x t
  | .tup ks, _, _, h, r => by
    cases h with
    | tup hs ha =>
      cases r
      obtain ⟨its, rv, ⟨o, ho, hc, n, hd⟩, _⟩ := I.tuple hs
      exact Reads.tuple ho hc hd (by simpa [NestedKey.data] using NkAll.reads0 I ks _ its ha rv)
theorem NkAll.reads0 {X : Cx} {pins : List (Addr × Obj)} {σ : L2.St} {H : Hp} {s : Shared} (I : Inv X pins σ H s) : ∀ (ks : List NestedKey) (vs : List V) (us : List Value), NkAll X.K H vs ks → Vals vs us → ReadsAll s.heap us (NestedKey.datas ks) []
  | [], _, _, h, r => by
    cases h
    cases r
    exact ReadsAll.nil
  | k :: ks, _, _, h, r => by
    cases h with
    | cons h1 h2 =>
      cases r with
      | cons r1 r2 => exact ReadsAll.cons (as := []) (bs := []) (Nk.reads0 I k _ _ h1 r1) (NkAll.reads0 I ks _ _ h2 r2)
end
/-- the items are tuples, ks their first items -/
inductive KeyFst (K : PySem.W.Frag) (H : Hp) : List V → List NestedKey → Prop
  | nil : KeyFst K H [] []
  | cons {t : Addr} {y : V} {r xs : List V} {k : NestedKey} {ks : List NestedKey} : SqT K H t (y :: r) → Nk K H y k → KeyFst K H xs ks → KeyFst K H (.ref t :: xs) (k :: ks)
theorem KeyFst.fz {K : PySem.W.Frag} {H H' : Hp} (e : Fz H H') : ∀ {xs : List V} {ks : List NestedKey}, KeyFst K H xs ks → KeyFst K H' xs ks
  | _, _, .nil => .nil
  | _, _, .cons h1 h2 h3 => .cons (fz_t e h1) (Nk.fz e _ _ h2) (KeyFst.fz e h3)
/-- what one item of the list is -/
def Ky (h : Heap) (v : Value) (b : V × NestedKey) : Prop := RelV b.1 v ∧ ∃ t items w, v = .ref t ∧ h.IsTuple t items ∧ items[0]? = some w ∧ Reads h w b.2.data []
theorem keyFst_each {X : Cx} {pins : List (Addr × Obj)} {σ : L2.St} {H : Hp} {s : Shared} (I : Inv X pins σ H s) : ∀ {xs : List V} {ks : List NestedKey} {us : List Value}, KeyFst X.K H xs ks → Vals xs us → PySem.W.EachIs (Ky s.heap) us (xs.zip ks)
  | _, _, _, .nil, .nil => .nil
  | _, _, _, .cons h1 h2 h3, .cons r t => by
    refine .cons ?_ (keyFst_each I h3 t)
    cases r
    obtain ⟨its, rv, ht, _⟩ := I.tuple h1
    cases rv with
    | cons r1 t1 => exact ⟨rfl, _, _, _, rfl, ht, by simp, Nk.reads0 I _ _ _ h2 r1⟩
theorem ky_fst : ∀ {vs : List Value} {bs : List (V × NestedKey)} {h : Heap}, PySem.W.EachIs (Ky h) vs bs → Vals (bs.map Prod.fst) vs
  | _, _, _, .nil => .nil
  | _, _, _, .cons r t => .cons r.1 (ky_fst t)
section
variable {P : Program} {w : World} {A : Around} {s : Shared}
/-- the call of lambda x: x[0] -/
theorem lam_turn {f c' t : Addr} {qual x : Str} {params : Arguments} {scope : Scope} {pm ctv y : Value} {cl : List (Str × Addr)} {p1 p2 p3 : Pos} {j : Nat} {items : Array Value} {k : PyData} (hroom : A.depth < recursionLimit)
    (hf : s.heap.get? f = some (PySem.W.kla_obj "<lambda>" qual params (.Subscript (.Name x p1) (.Constant (.int 0) j p2) p3) scope cl pm c' ctv)) (hcd : s.heap.CodeRec (.ref c') qual) (lim : s.heap.NoLimit)
    (hbind : bindArgs (PySem.W.kla_fn "<lambda>" qual params (.Subscript (.Name x p1) (.Constant (.int 0) j p2) p3) scope cl pm (.ref c') ctv) ⟨[.ref t], []⟩ = pure [(x, .ref t)]) (hloc : scope.names.lookup x = some .local)
    (hco : scope.isCoroutine = false) (hgen : scope.isGenerator = false) (hk : scope.kind = .function) (hcell : ∀ x ∈ scope.names, x.2 ≠ .cell) (hd : (x == ("__debug__" : Str)) = false)
    (ht : s.heap.IsTuple t items) (h0 : items[0]? = some y) (hr : Reads s.heap y k []) : wpAny (model P w) A (call (.ref f) [.ref t]) (KeyPure k s) (fun _ _ => False) s := by
  refine wpAny_call (PySem.W.kla_callFunE hroom hf rfl hco hgen rfl hcd ?_)
  rw [hbind]
  refine wpAny_pure (wpAny_newFunctionEnv hcell (fun z hz => ?_) (fun h₁ hns hsb => ⟨lim.fresh _ hsb, ?_⟩) hk)
  · rw [List.mem_singleton.mp hz]
    exact hloc
  show codeAny _ _ (.expr _ (PySem.W.envX qual scope s.heap.objs.size f (.ref c') cl)) _ _
  have kp : ∀ b o, s.heap.get? b = some o → h₁.get? b = some o := fun b o e => hsb.extBut b o (Nat.ne_of_lt (Heap.lt_size e)) (Heap.get?_push_of_some _ e)
  have ht1 : h₁.IsTuple t items := by
    obtain ⟨o, a, b⟩ := ht
    exact ⟨o, kp _ _ a, b⟩
  have hsz : 0 < items.size := by
    obtain ⟨hz, _⟩ := Array.getElem?_eq_some_iff.mp h0
    exact hz
  refine PySem.W.kla_codeExpr ?_
  refine Subscript_Constant ?_
  refine wpAny_Name (wpAny_loadName_local hk hloc hns (v := .ref t) (by simp [List.lookup]) ?_) hd
  refine wpAny_Constant_int ?_
  refine ⟨"tuple", _, slot_tuple_getitem.lookup, ht1.typeIs, ?_⟩
  refine getItem_tuple (j := 0) ht1 (by decide) (by decide) (by rw [seqIndex_of (by decide) (by omega)] <;> rfl) h0 ?_
  exact ⟨h₁, _, rfl, kp, PyProof.Rows.Reads.keeps kp hr⟩
end
section
variable {X : Cx}
/-- sorted(e, key=lambda x: x[0]), the items tuples that begin with tuples of ints, the first of them with () -/
def tSortKey (K : PySem.W.Frag) (T : List (Addr × Str)) (te : TE) : TE := fun σ H Q => te σ H fun v H1 => ∃ (l : Addr) (xs : List V) (fs : List (List Int)), v = .ref l ∧ SqL K H1 l xs ∧ KeyFst K H1 xs (NestedKey.tup [] :: fs.map fun ns => NestedKey.tup (ns.map NestedKey.num)) ∧ Tabs T H1 ∧
  ∀ (H2 : Hp) (ys : List V) (p : Addr), ExtN H1 H2 → Tabs T H2 → List.Perm ys xs → H2 p = none → Q (.ref p) (upd H2 p (.lst ys))
theorem datas_nums : ∀ ns : List Int, NestedKey.datas (ns.map NestedKey.num) = ns.map PyData.int
  | [] => rfl
  | n :: ns => by
    show NestedKey.datas (NestedKey.num n :: ns.map NestedKey.num) = _
    rw [NestedKey.datas, datas_nums ns] <;> rfl
theorem pe_sortKey {T : List (Addr × Str)} {e : Expr} {te : TE} {c P : Addr} {x : Str} {params : Arguments} {scope : Scope} {p p1 p2 p3 lpos kpos pos : Pos} {j : Nat} (he : PE X e te) (hc : X.calm = true) (hu : X.A.units + 64 < cLine) (hroom : X.A.depth + 3 < recursionLimit)
    (hg : Gl X "sorted") (hm : X.mg "sorted" = none) (TB : TabB X.base X.mg c P) (hcode : X.env.code = .ref c) (hmT : (P, X.env.qual ++ "<lambda>") ∈ T) (hT1 : ∀ p ∈ T, p.1 = P → p.2 = X.env.qual ++ "<lambda>")
    (hdef : defaultsOf params X.env = ([], [])) (hfree : ∀ y ∈ scope.names, y.2 ≠ .free) (hloc : scope.names.lookup x = some .local) (hcell : ∀ y ∈ scope.names, y.2 ≠ .cell) (hco : scope.isCoroutine = false) (hgen : scope.isGenerator = false) (hk : scope.kind = .function) (hd : (x == ("__debug__" : Str)) = false)
    (hbind : ∀ (q : Str) (cl : List (Str × Addr)) (pm cv ctv v : Value), bindArgs (PySem.W.kla_fn "<lambda>" q params (.Subscript (.Name x p1) (.Constant (.int 0) j p2) p3) scope cl pm cv ctv) ⟨[v], []⟩ = pure [(x, v)])
    (hs : backTo pos (starEach [e] X.env) = (false, eval e X.env) :: backTo pos (starEach [] X.env) := by rfl) (hpl : (backTo pos (starEach [e] X.env)).any (·.1) = false := by rfl) :
    PE X (.Call (.Name "sorted" p) [e] [⟨some "key", .Lambda params (.Subscript (.Name x p1) (.Constant (.int 0) j p2) p3) scope lpos, kpos⟩] pos) (tSortKey X.K T te) := by
  refine ⟨fun pins s σ H Q I h => ?_⟩
  refine wpAny_Call_Name_kw (ld_blt I hg hm PyProof.Rows.boot_sorted ?_ (by decide) (by decide))
  refine PyProof.Rows.callWith_kw ?_ hs hpl (by rfl) (by rfl)
  rw [hs]
  show wpAny _ _ (spliced ((false, eval e X.env) :: backTo pos (starEach [] X.env))) _ _ s
  refine Calls.spliced_cons (thn (he.run pins s σ H _ I h) fun u s1 ⟨v, H1, I1, r1, l, xs, fs, ev, hl, hkf, hT, q⟩ => ?_)
  subst ev
  obtain rfl : u = Value.ref l := r1
  refine Calls.spliced_nil ?_
  show wpAny _ _ (evalAll [do let v ← eval _ X.env; standAt pos; pure v]) _ _ s1
  refine wpAny_evalAll_cons (wpAny_bind (lam_make2 I1 TB hcode hmT hT1 hT hdef (fun y hy hf => absurd hf (hfree y hy)) fun f c' pm ctv H2 s2 I2 eN T2 hf hfn hfr hco2 => wpAny_bind (wpAny_standAt (wpAny_pure ?_))))
  refine wpAny_evalAll_nil ?_
  show wpAny _ _ (call (.builtin "sorted") [.ref l] [(Str.ofString "key", .ref f)]) _ _ s2
  have hl2 : SqL X.K H2 l xs := by
    rcases hl with (z | ⟨o, z⟩) | z
    · exact .inl (.inl (eN _ _ z fun ps y => nomatch y))
    · exact .inl (.inr ⟨o, eN _ _ z fun ps y => nomatch y⟩)
    · exact .inr z
  obtain ⟨its, rv, pl, hz⟩ := I2.list hl2
  have kf2 := hkf.fz (extN_fz eN)
  have e0 := keyFst_each I2 kf2 rv
  obtain ⟨oc, vsc, tc, hoc, hdc, hvc⟩ := (I2.hok c' _ hco2).1
  have hsl : xs.length = (NestedKey.tup [] :: fs.map fun ns => NestedKey.tup (ns.map NestedKey.num)).length := by
    have q1 := e0.length
    have q2 := rv.length
    have : ∀ {xs : List V} {ks : List NestedKey}, KeyFst X.K H2 xs ks → xs.length = ks.length := by
      intro xs ks h
      induction h with
      | nil => rfl
      | cons _ _ _ ih => rw [List.length_cons, List.length_cons, ih]
    exact this kf2
  have hmap : (xs.zip (NestedKey.tup [] :: fs.map fun ns => NestedKey.tup (ns.map NestedKey.num))).map (fun b => b.2.data) = PyData.tuple [] :: fs.map fun ns => PyData.tuple (ns.map PyData.int) := by
    have z := zip_snd hsl
    have z2 := congrArg (List.map NestedKey.data) z
    rw [List.map_map] at z2
    refine z2.trans ?_
    rw [List.map_cons, List.map_map]
    show PyData.tuple [] :: _ = PyData.tuple [] :: _
    congr 1
    refine List.map_congr_left fun ns _ => ?_
    show PyData.tuple (NestedKey.datas (ns.map NestedKey.num)) = _
    rw [datas_nums]
  have hal : AllAlike (PyData.tuple [] :: fs.map fun ns => PyData.tuple (ns.map PyData.int)) := by
    have one : ∀ d ∈ PyData.tuple [] :: fs.map (fun ns => PyData.tuple (ns.map PyData.int)), ∃ ns : List Int, d = .tuple (ns.map .int) := fun d hd => by
      rcases List.mem_cons.mp hd with z | z
      · exact ⟨[], z⟩
      · obtain ⟨ns, _, e⟩ := List.mem_map.mp z
        exact ⟨ns, e.symm⟩
    intro d hd d' hd'
    obtain ⟨ns, rfl⟩ := one d hd
    obtain ⟨ms, rfl⟩ := one d' hd'
    show PySem.W.alikeAll _ _ = true
    exact PySem.W.alike_ints ns ms
  have lim : s2.heap.NoLimit := I2.nolimit
  refine sorted_key_dataG (b := false) (R := Ky s2.heap) (bs := xs.zip (NestedKey.tup [] :: fs.map fun ns => NestedKey.tup (ns.map NestedKey.num))) (fun b => b.2.data) pl.isList e0 (by rw [hmap]; exact hal) (fun s3 ks ek => ?_) (by rw [← e0.length, ← rv.length]; exact hz)
    (ksk_s1 _ _) (fun _ => ksk_l1 _ _) (fun _ => ksk_t1 _ _) (fun v b hR hb g tk kp => ?_) fun out cc h' tk kp fresh hD hlen eo => ?_
  · rw [hmap] at ek ⊢
    refine SortsAt.data0 ek hal (fun d hd => ?_) fun d hd => ?_
    · obtain ⟨ns, _, e⟩ := List.mem_map.mp hd
      exact ⟨_, e.symm⟩
    · have hdd : d.depth ≤ 1 := by
        rcases List.mem_cons.mp hd with z | z
        · rw [z]; simp [PyData.depth, PyData.depthAll]
        · obtain ⟨ns, _, e⟩ := List.mem_map.mp z
          rw [← e]
          simp [PyData.depth, PySem.W.depth_ints]
      simp only [Around.in1_units]
      omega
  · obtain ⟨_, t, items, y, rfl, ht, h0, hr⟩ := hR
    refine lam_turn (s := { s2 with heap := g, toks := tk }) (by simp; omega) (kp _ _ hf) ⟨c', oc, vsc, tc, rfl, kp _ _ hoc, hdc, hvc⟩ (lim.keeps kp) (hbind _ _ _ _ _ _) hloc hco hgen hk hcell hd ?_ h0 (PyProof.Rows.Reads.keeps kp hr)
    obtain ⟨o, a, b⟩ := ht
    exact ⟨o, kp _ _ a, b⟩
  · have mp := List.mergeSort_perm (xs.zip (NestedKey.tup [] :: fs.map fun ns => NestedKey.tup (ns.map NestedKey.num))) (PySem.W.dataLe false fun b => b.2.data)
    generalize hM : (xs.zip (NestedKey.tup [] :: fs.map fun ns => NestedKey.tup (ns.map NestedKey.num))).mergeSort (PySem.W.dataLe false fun b => b.2.data) = M at eo mp
    have hv := ky_fst eo
    have pf : List.Perm (M.map Prod.fst) xs := by
      have z := mp.map Prod.fst
      rw [zip_fst hsl] at z
      exact z
    have hn0 : H2 (s2.heap.objs.size + 1) = none := I2.hok.fresh (Nat.le_succ _)
    refine ⟨.ref (s2.heap.objs.size + 1), upd H2 (s2.heap.objs.size + 1) (.lst (M.map Prod.fst)), I2.laid (t' := tk) kp (Nat.le_succ _) ⟨by rw [pf.length_eq]; exact hz, out, cc, hv, hD⟩, rfl, q _ _ _ eN T2 pf hn0⟩
end
end Hs
end
section
set_option Elab.async false
set_option linter.all false
set_option maxRecDepth 100000
set_option maxHeartbeats 4000000
namespace Hs
open PySem PySem.Spec PyProof.Rows L2
open PySem.SeqAt (EqAt)
section
variable {prog : Program} {w : World} {A : Around} {E : Value → Shared → Prop} {s : Shared}
/-- a dict is == to itself, whatever its values are -/
theorem samePairs_self {nm : String} {a : Addr} {xs : List NE} {Q : Bool → Shared → Prop} (ha : (a == sysModules) = false) (da : s.heap.DictOfH (nestedKind prog w) a (toE xs)) (hu : A.units + 8 < cLine) (h : Q true s) :
    wpAny (model prog w) A (Builtin.Dict.samePairs nm a a) Q E s := by
  obtain ⟨o, es, ep, ho, _, hd, he, his, hn⟩ := da
  have hl : es.size = (toE xs).length := size_of_entries he
  unfold Builtin.Dict.samePairs Builtin.Dict.showsAll
  rw [if_neg (show ¬ (a == sysModules) = true by rw [ha]; exact Bool.false_ne_true)]
  refine wpAny_bind (wpAny_pure (wpAny_bind (wpAny_pure ?_)))
  refine wpAny_bind (wpAny_dictEntries ho hd ?_)
  dsimp only
  refine wpAny_bind (wpAny_dictEntries ho hd ?_)
  rw [if_neg (by simp)]
  refine wpAny_bind (wpAny_dictEpoch ho hd ?_)
  refine wpAny_bind ?_
  rw [Std.Legacy.Range.forIn_eq_forIn_range']
  simp only [Std.Legacy.Range.size, Nat.sub_zero, Nat.add_sub_cancel, Nat.div_one]
  refine wpAny_forIn_list _
    (fun rest q s' => s' = s ∧ q = (none, ()) ∧ ∃ i, rest = List.range' i (es.size - i) ∧ i ≤ es.size)
    _ ?_ ?_ _ _ ⟨rfl, rfl, 0, by simp, Nat.zero_le _⟩
  · rintro x rest q s' ⟨rfl, rfl, i, hr, hi⟩
    have hlt : i < es.size := by
      rcases Nat.lt_or_ge i es.size with h | h
      · exact h
      · rw [Nat.sub_eq_zero_of_le h] at hr; simp at hr
    obtain ⟨rfl, hrest⟩ : x = i ∧ rest = List.range' (i + 1) (es.size - (i + 1)) := by
      have e : es.size - i = (es.size - (i + 1)) + 1 := by omega
      rw [e, List.range'_succ] at hr
      injection hr with h1 h2
      exact ⟨h1, h2⟩
    refine wpAny_bind (wpAny_dictEntries ho hd ?_)
    rw [Array.getElem?_eq_getElem hlt]
    have hlt' : x < (toE xs).length := by rw [← hl]; exact hlt
    obtain ⟨⟨k, ka, va⟩, hkv⟩ : ∃ p, (toE xs)[x]? = some p := ⟨_, List.getElem?_eq_getElem hlt'⟩
    have hent : es[x]? = some (entryOfKey (nestedKind prog w) (k, ka, va)) := by rw [entry_at he, hkv] <;> rfl
    have hex : es[x] = entryOfKey (nestedKind prog w) (k, ka, va) := by
      rw [Array.getElem?_eq_getElem hlt] at hent
      exact Option.some.inj hent
    obtain ⟨y, hy⟩ : ∃ y, va = Value.ref y := by
      have m := List.mem_of_getElem? hkv
      obtain ⟨z, _, e⟩ := List.mem_map.mp m
      exact ⟨z.2.2, (congrArg (fun p => p.2.2) e).symm⟩
    show wpAny _ _ (holding [es[x].key, es[x].val] _ >>= _) _ _ _
    rw [hex]
    have hkk := his _ (List.mem_of_getElem? hkv)
    refine wpAny_bind (wpAny_holding (wpAny_bind (wpAny_dictFind_heap (knd := nestedKind prog w) (show (nestedKind prog w).room _ from hu) hkk ho hd he his hn (fun z => ?_) fun j p hj => ?_)))
    · exact absurd hkv (z x (ka, va))
    · have ej : j = x := by
        have hjl : j < (toE xs).length := (List.getElem?_eq_some_iff.mp hj).1
        rcases Nat.lt_trichotomy j x with c | c | c
        · exfalso
          have a1 : ((toE xs).map (·.1))[j]? = some k := by rw [List.getElem?_map, hj] <;> rfl
          have a2 : ((toE xs).map (·.1))[x]? = some k := by rw [List.getElem?_map, hkv] <;> rfl
          obtain ⟨g1, e1⟩ := List.getElem?_eq_some_iff.mp a1
          obtain ⟨g2, e2⟩ := List.getElem?_eq_some_iff.mp a2
          exact absurd (e1.trans e2.symm) (List.pairwise_iff_getElem.mp hn j x g1 g2 c)
        · exact c
        · exfalso
          have a1 : ((toE xs).map (·.1))[j]? = some k := by rw [List.getElem?_map, hj] <;> rfl
          have a2 : ((toE xs).map (·.1))[x]? = some k := by rw [List.getElem?_map, hkv] <;> rfl
          obtain ⟨g1, e1⟩ := List.getElem?_eq_some_iff.mp a1
          obtain ⟨g2, e2⟩ := List.getElem?_eq_some_iff.mp a2
          exact absurd (e2.trans e1.symm) (List.pairwise_iff_getElem.mp hn x j g2 g1 c)
      subst ej
      refine wpAny_bind (wpAny_dictEntries ho hd ?_)
      rw [hent]
      subst hy
      refine wpAny_holding (EqAt.same (A := A) (s := s') (.ref y) _ _ _ _ ?_)
      show wpAny _ _ (if (!true) = true then _ else _) _ _ _
      rw [if_neg (by decide)]
      refine wpAny_bind (wpAny_dictEpoch ho hd ?_)
      rw [if_neg (by simp)]
      exact wpAny_pure ⟨rfl, rfl, j + 1, hrest, hlt⟩
  · rintro q s' ⟨rfl, rfl, i, hr, hi⟩
    exact wpAny_pure h
theorem rc_self {a : Addr} {xs : List NE} (ha : (a == sysModules) = false) (da : s.heap.DictOfH (nestedKind prog w) a (toE xs)) (hT : s.TypeIs (.ref a) "dict") (hu : A.units + 16 < cLine) (E Q : Value → Shared → Prop) (h : Q (.bool true) s) : wpAny (model prog w) A (richCompare .Eq (.ref a) (.ref a)) Q E s := by
  refine wpAny_richCompare_same_room (op := .Eq) hT hT PySem.F.slot_dict_eq (wpAny_call_entry PySem.F.slot_dict_eq hT PySem.F.entry_dict_eq ?_ (PySem.F.args_dict_eq_2 _ _)) (by omega)
  show wpAny _ _ (Builtin.Dict.dictSlotArgs "__eq__" ⟨[.ref a, .ref a], []⟩ >>= _) _ _ s
  refine wpAny_bind ?_
  unfold Builtin.Dict.dictSlotArgs
  refine wpAny_bind (wpAny_notOrdered_dict hT ?_)
  show wpAny _ _ (pure (Value.ref a, Value.ref a)) _ _ s
  refine wpAny_pure ?_
  refine wpAny_bind (wpAny_isInstance (T := "dict") hT PySem.F.sub_dict_dict ?_)
  simp only [Bool.not_true, Bool.false_eq_true, if_false]
  refine wpAny_bind (wpAny_pure (wpAny_bind (wpAny_pure ?_)))
  refine wpAny_bind (samePairs_self ha da (by simp only [Around.in1_units]; omega) ?_)
  refine wpAny_pure ⟨_, rfl, ?_, ?_⟩
  · exact fun x => nomatch x
  · simpa using h
end
section
variable {X : Cx}
/-- d == d -/
def rEqSelf (X : Cx) : R2 := fun x y H Q => ∃ d xs, x = .ref d ∧ y = .ref d ∧ H d = some (ND X.prog X.w d xs) ∧ KeyN X.K H xs ∧ Q (.bl true) H
theorem op_eqSelf (hu : X.A.units + 64 < cLine) : OpR X (compareOp .Eq) (rEqSelf X) := by
  intro pins s σ H x y v u Q I rx ry h
  obtain ⟨d, xs, rfl, rfl, hd, hk, q⟩ := h
  cases rx
  cases ry
  have R := nd_rd I (.inl hd)
  have D := nd_of I (.inl hd) hk
  obtain ⟨o, es, ep, ho, hx, _⟩ := id D
  exact rc_self R.sm D ⟨o, ho, hx.1⟩ (by omega) _ _ ⟨.bl _, H, I, rfl, q⟩
/-- {k: a} == {k: b} -/
def rEqOne (X : Cx) : R2 := fun x y H Q => ∃ (d e : Addr) (k : Key) (a b : V) (ka kb : NestedKey), x = .ref d ∧ y = .ref e ∧ H d = some (.dK [(k, a)]) ∧ H e = some (.dK [(k, b)]) ∧ Nk X.K H a ka ∧ Nk X.K H b kb ∧ ka.depth ≤ 8 ∧ Q (.bl (decide (ka = kb))) H
theorem op_eqOne (hu : X.A.units + 64 < cLine) : OpR X (compareOp .Eq) (rEqOne X) := by
  intro pins s σ H x y v u Q I rx ry h
  obtain ⟨d, e, k, a, b, ka, kb, rfl, rfl, hd, he, ha, hb, hdp, q⟩ := h
  cases rx
  cases ry
  obtain ⟨_, l1, vs, rk, hm⟩ := dk_of I.hok hd
  obtain ⟨_, l2, ws, rk2, hm2⟩ := dk_of I.hok he
  obtain ⟨ua, e1, r1⟩ := kv_get rk (i := 0) (by rfl)
  obtain ⟨ub, e2, r2⟩ := kv_get rk2 (i := 0) (by rfl)
  have hl1 := Paired.length rk
  have hl2 := Paired.length rk2
  have ev : vs = [(k, ua)] := by
    match vs, hl1, e1 with
    | [p], _, e1 => rw [show p = (k, ua) from Option.some.inj e1]
  have ew : ws = [(k, ub)] := by
    match ws, hl2, e2 with
    | [p], _, e2 => rw [show p = (k, ub) from Option.some.inj e2]
  subst ev ew
  have ia := Nk.is I ka a ua ha r1
  have ib := Nk.is I kb b ub hb r2
  have eqp : PySem.SeqAt.EqP X.prog X.w X.A.in1 s ua ub (NestedKey.beq ka kb) := (eqAt_key ka kb X.A.in1 s ua ub ia ib (by simp only [Around.in1_units]; omega)).eqP
  refine PySem.W.rcP_dicts (knd := mixKind X.prog X.w) (r := NestedKey.beq ka kb && true) l1 l2 hm hm2 (by omega) (fun _ => PySem.W.KeqHitsP.hit (y := ub) (by simp [valueAt]) eqp .nil) _ _ ⟨.bl _, H, I, rfl, ?_⟩
  rw [NestedKey.decide_eq] at q
  simpa using q
end
end Hs
end
section
set_option Elab.async false
set_option linter.all false
set_option maxRecDepth 100000
set_option maxHeartbeats 4000000
namespace Hs
open PySem
/-! ## the plain law: what the program computes, without the program -/
inductive Sta | absent | failed | half | left | ready | unpacked
  deriving DecidableEq
inductive Wd | clean | enter | leave | setup
  deriving DecidableEq
inductive Act | install | abortInstall | upgrade | failedUpgrade | abortUpgrade | configure | remove | abortRemove | purge
  deriving DecidableEq
structure St where
  a : Sta
  v : Int
  d : Int
  deriving DecidableEq
def St.none : St := ⟨.absent, 0, 0⟩
structure Ed where
  v : Int
  has : List Wd
  wants : List Int
  asks : List Int
  shuns : Bool
structure Cl where
  v : Int
  w : Wd
  act : Act
  n : Int
  deriving DecidableEq
/-- a script: version and word -/
abbrev Sc := Int × Wd
def Cl.sc (c : Cl) : Sc := (c.v, c.w)
inductive Dd
  | unpack (n : Bool) (v : Int)
  | setup (n : Bool)
  | remove (n : Bool)
  | purge (n : Bool)
/-! the programs that ask whether a call fails -/
inductive Pg (α : Type) where
  | ret (a : α)
  | ask (c : Cl) (k : Bool → Pg α)
namespace Pg
def bind {α β : Type} : Pg α → (α → Pg β) → Pg β
  | .ret a, f => f a
  | .ask c k, f => .ask c fun b => (k b).bind f
/-- run with what fails by number, from the number i on -/
def run {α : Type} : Pg α → (Nat → Bool) → Nat → α × List (Cl × Bool)
  | .ret a, _, _ => (a, [])
  | .ask c k, F, i => ((run (k (F i)) F (i + 1)).1, (c, F i) :: (run (k (F i)) F (i + 1)).2)
/-- run with what fails by script -/
def foll {α : Type} : Pg α → (Sc → Bool) → α × List (Cl × Bool)
  | .ret a, _ => (a, [])
  | .ask c k, P => ((foll (k (P c.sc)) P).1, (c, P c.sc) :: (foll (k (P c.sc)) P).2)
theorem run_bind {α β : Type} (f : α → Pg β) (F : Nat → Bool) : ∀ (p : Pg α) (i : Nat), run (p.bind f) F i = ((run (f (run p F i).1) F (i + (run p F i).2.length)).1, (run p F i).2 ++ (run (f (run p F i).1) F (i + (run p F i).2.length)).2)
  | .ret a, i => by simp [bind, run]
  | .ask c k, i => by
    have ih := run_bind f F (k (F i)) (i + 1)
    simp only [bind, run, List.length_cons, List.cons_append]
    rw [ih]
    have e : i + 1 + (run (k (F i)) F (i + 1)).2.length = i + ((run (k (F i)) F (i + 1)).2.length + 1) := by omega
    rw [e]
def All {α : Type} (Q : α → Prop) (C : Cl → Prop) : Pg α → Prop
  | .ret a => Q a
  | .ask c k => C c ∧ ∀ b, All Q C (k b)
theorem All.bind {α β : Type} {Q : α → Prop} {R : β → Prop} {C : Cl → Prop} {f : α → Pg β} (h : ∀ a, Q a → All R C (f a)) : ∀ {p : Pg α}, All Q C p → All R C (p.bind f)
  | .ret a, q => h a q
  | .ask c k, q => ⟨q.1, fun b => All.bind h (q.2 b)⟩
theorem All.run {α : Type} {Q : α → Prop} {C : Cl → Prop} (F : Nat → Bool) : ∀ {p : Pg α} (i : Nat), All Q C p → Q (p.run F i).1 ∧ ∀ x ∈ (p.run F i).2, C x.1
  | .ret a, i, q => ⟨q, fun x hx => by cases hx⟩
  | .ask c k, i, q => by
    obtain ⟨a, b⟩ := All.run F (i + 1) (q.2 (F i))
    refine ⟨a, fun x hx => ?_⟩
    rcases List.mem_cons.mp hx with e | hx
    · rw [e]; exact q.1
    · exact b x hx
theorem All.foll {α : Type} {Q : α → Prop} {C : Cl → Prop} (P : Sc → Bool) : ∀ {p : Pg α}, All Q C p → Q (p.foll P).1 ∧ ∀ x ∈ (p.foll P).2, C x.1
  | .ret a, q => ⟨q, fun x hx => by cases hx⟩
  | .ask c k, q => by
    obtain ⟨a, b⟩ := All.foll P (q.2 (P c.sc))
    refine ⟨a, fun x hx => ?_⟩
    rcases List.mem_cons.mp hx with e | hx
    · rw [e]; exact q.1
    · exact b x hx
def Dep {α : Type} : Nat → Pg α → Prop
  | _, .ret _ => True
  | 0, .ask _ _ => False
  | n + 1, .ask _ k => ∀ b, Dep n (k b)
theorem Dep.mono {α : Type} : ∀ {p : Pg α} {n m : Nat}, Dep n p → n ≤ m → Dep m p
  | .ret _, _, m, _, _ => by cases m <;> exact trivial
  | .ask _ _, 0, _, h, _ => h.elim
  | .ask _ _, _ + 1, 0, _, h => absurd h (by omega)
  | .ask _ k, n + 1, m + 1, h, hl => fun b => Dep.mono (h b) (by omega)
theorem Dep.bind {α β : Type} {f : α → Pg β} {m : Nat} (h : ∀ a, Dep m (f a)) : ∀ {p : Pg α} {n : Nat}, Dep n p → Dep (n + m) (p.bind f)
  | .ret a, n, _ => (h a).mono (by omega)
  | .ask _ _, 0, q => q.elim
  | .ask c k, n + 1, q => by
    have e : n + 1 + m = (n + m) + 1 := by omega
    rw [e]
    exact fun b => Dep.bind h (q b)
theorem Dep.run {α : Type} (F : Nat → Bool) : ∀ {p : Pg α} {n : Nat} (i : Nat), Dep n p → (p.run F i).2.length ≤ n
  | .ret _, _, _, _ => Nat.zero_le _
  | .ask _ _, 0, _, h => h.elim
  | .ask _ k, n + 1, i, h => Nat.succ_le_succ (Dep.run F (i + 1) (h (F i)))
theorem Dep.foll {α : Type} (P : Sc → Bool) : ∀ {p : Pg α} {n : Nat}, Dep n p → (p.foll P).2.length ≤ n
  | .ret _, _, _ => Nat.zero_le _
  | .ask _ _, 0, h => h.elim
  | .ask c k, n + 1, h => Nat.succ_le_succ (Dep.foll P (h (P c.sc)))
end Pg
/-- the numbers of those that failed, from i on -/
def fi : List (Cl × Bool) → Nat → List Nat
  | [], _ => []
  | (_, true) :: l, i => i :: fi l (i + 1)
  | (_, false) :: l, i => fi l (i + 1)
theorem fi_ge : ∀ (l : List (Cl × Bool)) (i : Nat), ∀ x ∈ fi l i, i ≤ x ∧ x < i + l.length
  | [], i, x, h => by cases h
  | (_, true) :: l, i, x, h => by
    rcases List.mem_cons.mp h with e | h
    · rw [e, List.length_cons]; omega
    · have := fi_ge l (i + 1) x h
      rw [List.length_cons]; omega
  | (_, false) :: l, i, x, h => by
    have := fi_ge l (i + 1) x h
    rw [List.length_cons]; omega
theorem fi_len : ∀ (l : List (Cl × Bool)) (i : Nat), (fi l i).length ≤ l.length
  | [], i => Nat.le_refl _
  | (_, true) :: l, i => Nat.succ_le_succ (fi_len l (i + 1))
  | (_, false) :: l, i => Nat.le_succ_of_le (fi_len l (i + 1))
theorem fi_up : ∀ (l : List (Cl × Bool)) (i : Nat), (fi l i).Pairwise (· < ·)
  | [], i => .nil
  | (_, true) :: l, i => .cons (fun x hx => (fi_ge l (i + 1) x hx).1) (fi_up l (i + 1))
  | (_, false) :: l, i => fi_up l (i + 1)
/-- the wrong ones: in P, not failed -/
def wr (P : Sc → Bool) (G : Nat → Bool) : List (Cl × Bool) → Nat → List Nat
  | [], _ => []
  | (c, _) :: l, i => if P c.sc = true ∧ G i = false then i :: wr P G l (i + 1) else wr P G l (i + 1)
/-- following the faulty scripts, a failure at a time -/
theorem follow_step {α : Type} (P : Sc → Bool) (G : Nat → Bool) : ∀ (p : Pg α) (i j : Nat), (∀ x, i ≤ x → (G x = true ↔ x ∈ (fi (p.foll P).2 i).take j)) →
    ((fi (p.foll P).2 i).length ≤ j → wr P G (p.run G i).2 i = [] ∧ p.run G i = p.foll P) ∧
    (∀ y, (fi (p.foll P).2 i)[j]? = some y → ∃ r, wr P G (p.run G i).2 i = y :: r)
  | .ret a, i, j, h => ⟨fun _ => ⟨rfl, rfl⟩, fun y hy => by simp [Pg.foll, fi] at hy⟩
  | .ask c k, i, j, h => by
    cases hp : P c.sc with
    | true =>
      have ef : fi ((Pg.ask c k).foll P).2 i = i :: fi ((k true).foll P).2 (i + 1) := by simp [Pg.foll, hp, fi]
      rw [ef] at h ⊢
      cases j with
      | zero =>
        have hG : G i = false := by
          cases g : G i with
          | false => rfl
          | true => have := (h i (Nat.le_refl _)).mp g; simp at this
        refine ⟨fun hl => by simp at hl, fun y hy => ?_⟩
        have ey : i = y := by simpa using hy
        subst ey
        refine ⟨wr P G ((k (G i)).run G (i + 1)).2 (i + 1), ?_⟩
        simp [Pg.run, wr, hp, hG]
      | succ j =>
        have hG : G i = true := (h i (Nat.le_refl _)).mpr (by simp)
        have h' : ∀ x, i + 1 ≤ x → (G x = true ↔ x ∈ (fi ((k true).foll P).2 (i + 1)).take j) := fun x hx => by
          rw [h x (by omega), List.take_succ_cons, List.mem_cons]
          exact ⟨fun z => z.resolve_left (by omega), .inr⟩
        obtain ⟨a, b⟩ := follow_step P G (k true) (i + 1) j h'
        refine ⟨fun hl => ?_, fun y hy => ?_⟩
        · obtain ⟨a1, a2⟩ := a (by simpa using hl)
          constructor
          · simp only [Pg.run, hG]
            simp [wr, hG, a1]
          · simp only [Pg.run, Pg.foll, hG, hp, a2]
        · obtain ⟨r, hr⟩ := b y (by simpa using hy)
          refine ⟨r, ?_⟩
          simp only [Pg.run, hG]
          simp [wr, hG, hr]
    | false =>
      have ef : fi ((Pg.ask c k).foll P).2 i = fi ((k false).foll P).2 (i + 1) := by simp [Pg.foll, hp, fi]
      rw [ef] at h ⊢
      have hG : G i = false := by
        cases g : G i with
        | false => rfl
        | true =>
          have := List.mem_of_mem_take ((h i (Nat.le_refl _)).mp g)
          have := (fi_ge _ _ _ this).1
          omega
      obtain ⟨a, b⟩ := follow_step P G (k false) (i + 1) j fun x hx => h x (by omega)
      refine ⟨fun hl => ?_, fun y hy => ?_⟩
      · obtain ⟨a1, a2⟩ := a hl
        constructor
        · simp only [Pg.run, hG]
          simp [wr, hp, a1]
        · simp only [Pg.run, Pg.foll, hG, hp, a2]
      · obtain ⟨r, hr⟩ := b y hy
        refine ⟨r, ?_⟩
        simp only [Pg.run, hG]
        simp [wr, hp, hr]
/-- with the first j failures of F: the run is F's, or it comes as far as the next failure -/
theorem run_step {α : Type} (F G : Nat → Bool) : ∀ (p : Pg α) (i j : Nat), (∀ x, i ≤ x → (G x = true ↔ x ∈ (fi (p.run F i).2 i).take j)) →
    ((fi (p.run F i).2 i).length ≤ j → p.run G i = p.run F i) ∧ (∀ y, (fi (p.run F i).2 i)[j]? = some y → y < i + (p.run G i).2.length)
  | .ret a, i, j, h => ⟨fun _ => rfl, fun y hy => by simp [Pg.run, fi] at hy⟩
  | .ask c k, i, j, h => by
    cases hp : F i with
    | true =>
      have ef : fi ((Pg.ask c k).run F i).2 i = i :: fi ((k true).run F (i + 1)).2 (i + 1) := by simp [Pg.run, hp, fi]
      rw [ef] at h ⊢
      cases j with
      | zero =>
        refine ⟨fun hl => by simp at hl, fun y hy => ?_⟩
        have ey : i = y := by simpa using hy
        subst ey
        simp only [Pg.run, List.length_cons]
        omega
      | succ j =>
        have hG : G i = true := (h i (Nat.le_refl _)).mpr (by simp)
        have h' : ∀ x, i + 1 ≤ x → (G x = true ↔ x ∈ (fi ((k true).run F (i + 1)).2 (i + 1)).take j) := fun x hx => by
          rw [h x (by omega), List.take_succ_cons, List.mem_cons]
          exact ⟨fun z => z.resolve_left (by omega), .inr⟩
        obtain ⟨a, b⟩ := run_step F G (k true) (i + 1) j h'
        refine ⟨fun hl => ?_, fun y hy => ?_⟩
        · have a2 := a (by simpa using hl)
          simp only [Pg.run, hG, hp, a2]
        · have := b y (by simpa using hy)
          simp only [Pg.run, hG, List.length_cons]
          omega
    | false =>
      have ef : fi ((Pg.ask c k).run F i).2 i = fi ((k false).run F (i + 1)).2 (i + 1) := by simp [Pg.run, hp, fi]
      rw [ef] at h ⊢
      have hG : G i = false := by
        cases g : G i with
        | false => rfl
        | true =>
          have := List.mem_of_mem_take ((h i (Nat.le_refl _)).mp g)
          have := (fi_ge _ _ _ this).1
          omega
      obtain ⟨a, b⟩ := run_step F G (k false) (i + 1) j fun x hx => h x (by omega)
      refine ⟨fun hl => ?_, fun y hy => ?_⟩
      · have a2 := a hl
        simp only [Pg.run, hG, hp, a2]
      · have := b y hy
        simp only [Pg.run, hG, List.length_cons]
        omega
/-- what follows the scripts is a run -/
theorem foll_run {α : Type} (P : Sc → Bool) (F : Nat → Bool) : ∀ (p : Pg α) (i : Nat), (∀ x, F x = decide (x ∈ fi (p.foll P).2 i)) → p.run F i = p.foll P := fun p i h =>
  ((follow_step P F p i (fi (p.foll P).2 i).length fun x _ => by rw [h, List.take_length, decide_eq_true_eq]).1 (Nat.le_refl _)).2
theorem foll_congr {α : Type} {P P' : Sc → Bool} : ∀ {p : Pg α}, (∀ x ∈ (p.foll P).2, P' x.1.sc = P x.1.sc) → p.foll P' = p.foll P
  | .ret _, _ => rfl
  | .ask c k, h => by
    have h0 : P' c.sc = P c.sc := h (c, P c.sc) (by simp [Pg.foll])
    have ih : (k (P c.sc)).foll P' = (k (P c.sc)).foll P := foll_congr fun x hx => h x (by simp [Pg.foll, hx])
    simp only [Pg.foll, h0, ih]
end Hs
end
section
set_option Elab.async false
set_option linter.all false
set_option maxRecDepth 100000
set_option maxHeartbeats 4000000
namespace Hs
open PySem
def Sta.there : Sta → Bool
  | .failed | .half | .ready | .unpacked => true
  | _ => false
def edAt (eds : List Ed) (v : Int) : Option Ed := eds.find? fun e => decide (e.v = v)
def verOk (eds : List Ed) (v : Int) : Bool := (edAt eds v).isSome
def hasAt (eds : List Ed) (v : Int) : List Wd := match edAt eds v with
  | some e => e.has
  | none => []
def wantsAt (eds : List Ed) (v : Int) : List Int := match edAt eds v with
  | some e => e.wants
  | none => []
def asksAt (eds : List Ed) (v : Int) : List Int := match edAt eds v with
  | some e => e.asks
  | none => []
def isDone (eds : List Ed) (v : Int) (w : Wd) (act : Act) (n : Int) : Pg Bool := if w ∈ hasAt eds v then .ask ⟨v, w, act, n⟩ fun b => .ret (!b) else .ret true
def putBack (eds : List Ed) (s : St) (new : Int) (a : Sta) : Pg St := (isDone eds s.v .setup .abortUpgrade new).bind fun d => .ret (if d = true then s else ⟨a, s.v, s.d⟩)
def givenUp (eds : List Ed) (s : St) (new : Int) : Pg St := (isDone eds new .clean .abortUpgrade s.v).bind fun d =>
  if d = true then (if s.a = .failed ∨ s.a = .ready then putBack eds s new .unpacked else .ret s) else .ret ⟨.half, s.v, s.d⟩
def isLeft (eds : List Ed) (old new : Int) : Pg Bool := (isDone eds old .leave .upgrade new).bind fun d => if d = true then .ret true else isDone eds new .leave .failedUpgrade old
def over2 (eds : List Ed) (s : St) (new : Int) : Pg St := (isDone eds new .enter .upgrade s.v).bind fun d1 => if d1 = true then
    (isDone eds s.v .clean .upgrade new).bind fun d2 => if d2 = true then .ret ⟨.unpacked, new, s.d⟩ else
      (isDone eds new .clean .failedUpgrade s.v).bind fun d3 => if d3 = true then .ret ⟨.unpacked, new, s.d⟩ else
        (isDone eds s.v .enter .abortUpgrade new).bind fun d4 => if d4 = true then givenUp eds s new else .ret ⟨.half, s.v, s.d⟩
  else givenUp eds s new
def unpackedOver (eds : List Ed) (s : St) (new : Int) : Pg St :=
  if s.a = .failed ∨ s.a = .ready then (isLeft eds s.v new).bind fun d => if d = true then over2 eds s new else putBack eds s new .failed else over2 eds s new
def unpackedNew (eds : List Ed) (s : St) (new : Int) : Pg St := (isDone eds new .enter .install s.v).bind fun d => if d = true then .ret ⟨.unpacked, new, s.d⟩ else
  (isDone eds new .clean .abortInstall s.v).bind fun d2 => .ret (if d2 = true then s else ⟨.half, new, s.d⟩)
def setUp (eds : List Ed) (s : St) : Pg St := (isDone eds s.v .setup .configure s.d).bind fun d => .ret (if d = true then ⟨.ready, s.v, s.v⟩ else ⟨.failed, s.v, s.d⟩)
def rem2 (eds : List Ed) (s : St) : Pg St := (isDone eds s.v .clean .remove 0).bind fun d => .ret ⟨if d = true then .left else .half, s.v, s.d⟩
def removed (eds : List Ed) (s : St) : Pg St :=
  if s.a = .failed ∨ s.a = .ready then (isDone eds s.v .leave .remove 0).bind fun d => if d = true then rem2 eds s else
    (isDone eds s.v .setup .abortRemove 0).bind fun d2 => .ret (if d2 = true then s else ⟨.failed, s.v, s.d⟩) else rem2 eds s
def purged (eds : List Ed) (s : St) : Pg St := (isDone eds s.v .clean .purge 0).bind fun d => .ret (if d = true then St.none else s)
def prog (eds : List Ed) (s : St) : Dd → Pg St
  | .unpack _ v => if s.a.there = false ∨ s.a = .half then unpackedNew eds s v else unpackedOver eds s v
  | .setup _ => setUp eds s
  | .remove _ => removed eds s
  | .purge _ => purged eds s
/-! refusals -/
def refu (eds : List Ed) (s : St) : Dd → Bool
  | .unpack n v => !(n && verOk eds v) || ((decide (s.a = .failed) || decide (s.a = .ready) || decide (s.a = .unpacked)) && decide (s.v = v)) || !(asksAt eds v).isEmpty
  | .setup n => !n || !(decide (s.a = .failed) || decide (s.a = .unpacked)) || !(wantsAt eds s.v).isEmpty
  | .remove n => !n || !s.a.there
  | .purge n => !n || !decide (s.a = .left)
/-! what holds of the states and the calls -/
structure StOk (eds : List Ed) (s : St) : Prop where
  ok : s = St.none ∨ (s.a ≠ .absent ∧ verOk eds s.v = true ∧ (s.d = 0 ∨ verOk eds s.d = true) ∧ (s.a = .ready → s.d = s.v))
theorem StOk.ver {eds : List Ed} {s : St} (h : StOk eds s) (ha : s.a ≠ .absent) : verOk eds s.v = true := by
  rcases h.ok with e | ⟨_, h, _⟩
  · exact absurd (by rw [e] <;> rfl) ha
  · exact h
theorem StOk.don {eds : List Ed} {s : St} (h : StOk eds s) : s.d = 0 ∨ verOk eds s.d = true := by
  rcases h.ok with e | ⟨_, _, h, _⟩
  · exact .inl (by rw [e] <;> rfl)
  · exact h
theorem StOk.mk' {eds : List Ed} {a : Sta} {v d : Int} (h1 : a ≠ .absent) (h2 : verOk eds v = true) (h3 : d = 0 ∨ verOk eds d = true) (h4 : a ≠ .ready) : StOk eds ⟨a, v, d⟩ := ⟨.inr ⟨h1, h2, h3, fun e => absurd e h4⟩⟩
def vers (eds : List Ed) : List Int := eds.map (·.v)
theorem verOk_mem {eds : List Ed} {v : Int} : verOk eds v = true ↔ v ∈ vers eds := by
  unfold verOk edAt vers
  rw [List.find?_isSome]
  constructor
  · rintro ⟨e, he, h⟩
    exact List.mem_map.mpr ⟨e, he, by simpa using h⟩
  · intro h
    obtain ⟨e, he, h⟩ := List.mem_map.mp h
    exact ⟨e, he, by simpa using h⟩
/-- all calls that can be made -/
def allCalls (vs : List Int) : List Cl := vs.flatMap fun v =>
  ((0 :: vs).flatMap fun n => [⟨v, .enter, .install, n⟩, ⟨v, .clean, .abortInstall, n⟩, ⟨v, .setup, .configure, n⟩]) ++
  [⟨v, .leave, .remove, 0⟩, ⟨v, .setup, .abortRemove, 0⟩, ⟨v, .clean, .remove, 0⟩, ⟨v, .clean, .purge, 0⟩] ++
  vs.flatMap fun u => [⟨v, .enter, .upgrade, u⟩, ⟨v, .clean, .upgrade, u⟩, ⟨v, .clean, .failedUpgrade, u⟩, ⟨v, .enter, .abortUpgrade, u⟩, ⟨v, .leave, .upgrade, u⟩, ⟨v, .leave, .failedUpgrade, u⟩, ⟨v, .clean, .abortUpgrade, u⟩, ⟨v, .setup, .abortUpgrade, u⟩]
theorem flat_len {α β : Type} (f : α → List β) (n : Nat) : ∀ l : List α, (∀ x ∈ l, (f x).length ≤ n) → (l.flatMap f).length ≤ l.length * n
  | [], _ => by simp
  | x :: l, h => by
    have ih := flat_len f n l fun y hy => h y (List.mem_cons_of_mem _ hy)
    have h1 := h x List.mem_cons_self
    rw [List.flatMap_cons, List.length_append, List.length_cons, Nat.succ_mul]
    omega
theorem allCalls_len {vs : List Int} (h : vs.length ≤ 2) : (allCalls vs).length ≤ 58 := by
  have a := flat_len (fun v : Int => ((0 :: vs).flatMap fun n => [(⟨v, .enter, .install, n⟩ : Cl), ⟨v, .clean, .abortInstall, n⟩, ⟨v, .setup, .configure, n⟩]) ++
    [⟨v, .leave, .remove, 0⟩, ⟨v, .setup, .abortRemove, 0⟩, ⟨v, .clean, .remove, 0⟩, ⟨v, .clean, .purge, 0⟩] ++
    vs.flatMap fun u => [⟨v, .enter, .upgrade, u⟩, ⟨v, .clean, .upgrade, u⟩, ⟨v, .clean, .failedUpgrade, u⟩, ⟨v, .enter, .abortUpgrade, u⟩, ⟨v, .leave, .upgrade, u⟩, ⟨v, .leave, .failedUpgrade, u⟩, ⟨v, .clean, .abortUpgrade, u⟩, ⟨v, .setup, .abortUpgrade, u⟩]) 29 vs (fun v _ => ?_)
  · show (allCalls vs).length ≤ 58
    have e : (allCalls vs).length ≤ vs.length * 29 := a
    omega
  · have b := flat_len (fun n : Int => [(⟨v, .enter, .install, n⟩ : Cl), ⟨v, .clean, .abortInstall, n⟩, ⟨v, .setup, .configure, n⟩]) 3 (0 :: vs) (fun _ _ => Nat.le_refl _)
    have c := flat_len (fun u : Int => [(⟨v, .enter, .upgrade, u⟩ : Cl), ⟨v, .clean, .upgrade, u⟩, ⟨v, .clean, .failedUpgrade, u⟩, ⟨v, .enter, .abortUpgrade, u⟩, ⟨v, .leave, .upgrade, u⟩, ⟨v, .leave, .failedUpgrade, u⟩, ⟨v, .clean, .abortUpgrade, u⟩, ⟨v, .setup, .abortUpgrade, u⟩]) 8 vs (fun _ _ => Nat.le_refl _)
    rw [List.length_cons] at b
    rw [List.length_append, List.length_append]
    simp only [List.length_cons, List.length_nil]
    omega
structure CallOk (eds : List Ed) (c : Cl) : Prop where
  mem : c ∈ allCalls (vers eds)
  ver : verOk eds c.v = true
  has : c.w ∈ hasAt eds c.v
theorem isDone_all {eds : List Ed} {v : Int} {w : Wd} {act : Act} {n : Int} (h : (⟨v, w, act, n⟩ : Cl) ∈ allCalls (vers eds)) (hv : verOk eds v = true) : (isDone eds v w act n).All (fun _ => True) (CallOk eds) := by
  unfold isDone
  by_cases c : w ∈ hasAt eds v
  · rw [if_pos c]
    exact ⟨⟨h, hv, c⟩, fun b => trivial⟩
  · rw [if_neg c]
    exact trivial
theorem call_one {vs : List Int} {v : Int} (hv : v ∈ vs) : (⟨v, .leave, .remove, 0⟩ : Cl) ∈ allCalls vs ∧ (⟨v, .setup, .abortRemove, 0⟩ : Cl) ∈ allCalls vs ∧ (⟨v, .clean, .remove, 0⟩ : Cl) ∈ allCalls vs ∧ (⟨v, .clean, .purge, 0⟩ : Cl) ∈ allCalls vs := by
  refine ⟨?_, ?_, ?_, ?_⟩ <;> exact List.mem_flatMap.mpr ⟨v, hv, List.mem_append_left _ (List.mem_append_right _ (by simp))⟩
theorem call_num {vs : List Int} {v n : Int} (hv : v ∈ vs) (hn : n ∈ 0 :: vs) : (⟨v, .enter, .install, n⟩ : Cl) ∈ allCalls vs ∧ (⟨v, .clean, .abortInstall, n⟩ : Cl) ∈ allCalls vs ∧ (⟨v, .setup, .configure, n⟩ : Cl) ∈ allCalls vs := by
  refine ⟨?_, ?_, ?_⟩ <;> exact List.mem_flatMap.mpr ⟨v, hv, List.mem_append_left _ (List.mem_append_left _ (List.mem_flatMap.mpr ⟨n, hn, by simp⟩))⟩
theorem call_two {vs : List Int} {v u : Int} (hv : v ∈ vs) (hu : u ∈ vs) : ∀ c ∈ [(⟨v, .enter, .upgrade, u⟩ : Cl), ⟨v, .clean, .upgrade, u⟩, ⟨v, .clean, .failedUpgrade, u⟩, ⟨v, .enter, .abortUpgrade, u⟩, ⟨v, .leave, .upgrade, u⟩, ⟨v, .leave, .failedUpgrade, u⟩, ⟨v, .clean, .abortUpgrade, u⟩, ⟨v, .setup, .abortUpgrade, u⟩], c ∈ allCalls vs :=
  fun c hc => List.mem_flatMap.mpr ⟨v, hv, List.mem_append_right _ (List.mem_flatMap.mpr ⟨u, hu, hc⟩)⟩
section
variable {eds : List Ed} {s : St} {new : Int}
open Pg
theorem putBack_all {a : Sta} (hs : StOk eds s) (ha : s.a ≠ .absent) (hn : verOk eds new = true) (h1 : a ≠ .absent) (h2 : a ≠ .ready) : (putBack eds s new a).All (StOk eds) (CallOk eds) := by
  have hv := hs.ver ha
  refine All.bind (fun d _ => ?_) (isDone_all (call_two (verOk_mem.mp hv) (verOk_mem.mp hn) _ (by simp)) hv)
  show StOk eds _
  by_cases c : d = true
  · rw [if_pos c]; exact hs
  · rw [if_neg c]; exact StOk.mk' h1 hv hs.don h2
theorem givenUp_all (hs : StOk eds s) (ha : s.a ≠ .absent) (hn : verOk eds new = true) : (givenUp eds s new).All (StOk eds) (CallOk eds) := by
  have hv := hs.ver ha
  refine All.bind (fun d _ => ?_) (isDone_all (call_two (verOk_mem.mp hn) (verOk_mem.mp hv) _ (by simp)) hn)
  by_cases c : d = true
  · rw [if_pos c]
    by_cases e : s.a = .failed ∨ s.a = .ready
    · rw [if_pos e]; exact putBack_all hs ha hn (by decide) (by decide)
    · rw [if_neg e]; exact hs
  · rw [if_neg c]; exact StOk.mk' (by decide) hv hs.don (by decide)
theorem isLeft_all {old : Int} (hv : verOk eds old = true) (hn : verOk eds new = true) : (isLeft eds old new).All (fun _ => True) (CallOk eds) := by
  refine All.bind (fun d _ => ?_) (isDone_all (call_two (verOk_mem.mp hv) (verOk_mem.mp hn) _ (by simp)) hv)
  by_cases c : d = true
  · rw [if_pos c]; exact trivial
  · rw [if_neg c]; exact isDone_all (call_two (verOk_mem.mp hn) (verOk_mem.mp hv) _ (by simp)) hn
theorem over2_all (hs : StOk eds s) (ha : s.a ≠ .absent) (hn : verOk eds new = true) : (over2 eds s new).All (StOk eds) (CallOk eds) := by
  have hv := hs.ver ha
  refine All.bind (fun d _ => ?_) (isDone_all (call_two (verOk_mem.mp hn) (verOk_mem.mp hv) _ (by simp)) hn)
  by_cases c : d = true
  · rw [if_pos c]
    refine All.bind (fun d _ => ?_) (isDone_all (call_two (verOk_mem.mp hv) (verOk_mem.mp hn) _ (by simp)) hv)
    by_cases c : d = true
    · rw [if_pos c]; exact StOk.mk' (by decide) hn hs.don (by decide)
    · rw [if_neg c]
      refine All.bind (fun d _ => ?_) (isDone_all (call_two (verOk_mem.mp hn) (verOk_mem.mp hv) _ (by simp)) hn)
      by_cases c : d = true
      · rw [if_pos c]; exact StOk.mk' (by decide) hn hs.don (by decide)
      · rw [if_neg c]
        refine All.bind (fun d _ => ?_) (isDone_all (call_two (verOk_mem.mp hv) (verOk_mem.mp hn) _ (by simp)) hv)
        by_cases c : d = true
        · rw [if_pos c]; exact givenUp_all hs ha hn
        · rw [if_neg c]; exact StOk.mk' (by decide) hv hs.don (by decide)
  · rw [if_neg c]; exact givenUp_all hs ha hn
theorem unpackedOver_all (hs : StOk eds s) (ha : s.a ≠ .absent) (hn : verOk eds new = true) : (unpackedOver eds s new).All (StOk eds) (CallOk eds) := by
  unfold unpackedOver
  by_cases e : s.a = .failed ∨ s.a = .ready
  · rw [if_pos e]
    refine All.bind (fun d _ => ?_) (isLeft_all (hs.ver ha) hn)
    by_cases c : d = true
    · rw [if_pos c]; exact over2_all hs ha hn
    · rw [if_neg c]; exact putBack_all hs ha hn (by decide) (by decide)
  · rw [if_neg e]; exact over2_all hs ha hn
theorem ver_zero (hs : StOk eds s) : s.v ∈ 0 :: vers eds := by
  rcases hs.ok with e | ⟨_, h, _⟩
  · rw [e]; exact List.mem_cons_self
  · exact List.mem_cons_of_mem _ (verOk_mem.mp h)
theorem don_zero (hs : StOk eds s) : s.d ∈ 0 :: vers eds := by
  rcases hs.don with e | h
  · rw [e]; exact List.mem_cons_self
  · exact List.mem_cons_of_mem _ (verOk_mem.mp h)
theorem unpackedNew_all (hs : StOk eds s) (hn : verOk eds new = true) : (unpackedNew eds s new).All (StOk eds) (CallOk eds) := by
  refine All.bind (fun d _ => ?_) (isDone_all (call_num (verOk_mem.mp hn) (ver_zero hs)).1 hn)
  by_cases c : d = true
  · rw [if_pos c]; exact StOk.mk' (by decide) hn hs.don (by decide)
  · rw [if_neg c]
    refine All.bind (fun d _ => ?_) (isDone_all (call_num (verOk_mem.mp hn) (ver_zero hs)).2.1 hn)
    show StOk eds _
    by_cases c : d = true
    · rw [if_pos c]; exact hs
    · rw [if_neg c]; exact StOk.mk' (by decide) hn hs.don (by decide)
theorem setUp_all (hs : StOk eds s) (ha : s.a ≠ .absent) : (setUp eds s).All (StOk eds) (CallOk eds) := by
  have hv := hs.ver ha
  refine All.bind (fun d _ => ?_) (isDone_all (call_num (verOk_mem.mp hv) (don_zero hs)).2.2 hv)
  show StOk eds _
  by_cases c : d = true
  · rw [if_pos c]; exact ⟨.inr ⟨by simp, hv, .inr hv, fun _ => rfl⟩⟩
  · rw [if_neg c]; exact StOk.mk' (by decide) hv hs.don (by decide)
theorem rem2_all (hs : StOk eds s) (ha : s.a ≠ .absent) : (rem2 eds s).All (StOk eds) (CallOk eds) := by
  have hv := hs.ver ha
  refine All.bind (fun d _ => ?_) (isDone_all (call_one (verOk_mem.mp hv)).2.2.1 hv)
  show StOk eds _
  refine StOk.mk' ?_ hv hs.don ?_ <;> cases d <;> simp
theorem removed_all (hs : StOk eds s) (ha : s.a ≠ .absent) : (removed eds s).All (StOk eds) (CallOk eds) := by
  have hv := hs.ver ha
  unfold removed
  by_cases e : s.a = .failed ∨ s.a = .ready
  · rw [if_pos e]
    refine All.bind (fun d _ => ?_) (isDone_all (call_one (verOk_mem.mp hv)).1 hv)
    by_cases c : d = true
    · rw [if_pos c]; exact rem2_all hs ha
    · rw [if_neg c]
      refine All.bind (fun d _ => ?_) (isDone_all (call_one (verOk_mem.mp hv)).2.1 hv)
      show StOk eds _
      by_cases c : d = true
      · rw [if_pos c]; exact hs
      · rw [if_neg c]; exact StOk.mk' (by decide) hv hs.don (by decide)
  · rw [if_neg e]; exact rem2_all hs ha
theorem purged_all (hs : StOk eds s) (ha : s.a ≠ .absent) : (purged eds s).All (StOk eds) (CallOk eds) := by
  have hv := hs.ver ha
  refine All.bind (fun d _ => ?_) (isDone_all (call_one (verOk_mem.mp hv)).2.2.2 hv)
  show StOk eds _
  by_cases c : d = true
  · rw [if_pos c]; exact ⟨.inl rfl⟩
  · rw [if_neg c]; exact hs
theorem prog_all {d : Dd} (hs : StOk eds s) (hr : refu eds s d = false) : (prog eds s d).All (StOk eds) (CallOk eds) := by
  cases d with
  | unpack n v =>
    simp only [refu, Bool.or_eq_false_iff, Bool.not_eq_false', Bool.and_eq_true] at hr
    show (if _ then _ else _ : Pg St).All _ _
    by_cases e : s.a.there = false ∨ s.a = .half
    · rw [if_pos e]; exact unpackedNew_all hs hr.1.1.2
    · rw [if_neg e]
      refine unpackedOver_all hs (fun z => e (.inl ?_)) hr.1.1.2
      rw [z] <;> rfl
  | setup n =>
    simp only [refu, Bool.or_eq_false_iff, Bool.not_eq_false', Bool.or_eq_true, decide_eq_true_eq] at hr
    exact setUp_all hs fun z => by
      rcases hr.1.2 with h | h <;> rw [z] at h <;> cases h
  | remove n =>
    simp only [refu, Bool.or_eq_false_iff, Bool.not_eq_false'] at hr
    exact removed_all hs fun z => by
      have h := hr.2
      rw [z] at h
      cases h
  | purge n =>
    simp only [refu, Bool.or_eq_false_iff, Bool.not_eq_false', decide_eq_true_eq] at hr
    exact purged_all hs fun z => by
      have h := hr.2
      rw [z] at h
      cases h
theorem isDone_dep {v : Int} {w : Wd} {act : Act} {n : Int} : Dep 1 (isDone eds v w act n) := by
  unfold isDone
  by_cases c : w ∈ hasAt eds v
  · rw [if_pos c]; exact fun b => trivial
  · rw [if_neg c]; exact trivial
theorem ret_dep {α : Type} {n : Nat} {a : α} : Dep n (.ret a) := by cases n <;> exact trivial
theorem putBack_dep {a : Sta} : Dep 1 (putBack eds s new a) := Dep.bind (n := 1) (m := 0) (fun _ => ret_dep) isDone_dep
theorem givenUp_dep : Dep 2 (givenUp eds s new) := Dep.bind (n := 1) (m := 1) (fun d => by
  by_cases c : d = true
  · rw [if_pos c]
    by_cases e : s.a = .failed ∨ s.a = .ready
    · rw [if_pos e]; exact putBack_dep
    · rw [if_neg e]; exact ret_dep
  · rw [if_neg c]; exact ret_dep) isDone_dep
theorem over2_dep : Dep 6 (over2 eds s new) := Dep.bind (n := 1) (m := 5) (fun d => by
  by_cases c : d = true
  · rw [if_pos c]
    refine Dep.bind (n := 1) (m := 4) (fun d => ?_) isDone_dep
    by_cases c : d = true
    · rw [if_pos c]; exact ret_dep
    · rw [if_neg c]
      refine Dep.bind (n := 1) (m := 3) (fun d => ?_) isDone_dep
      by_cases c : d = true
      · rw [if_pos c]; exact ret_dep
      · rw [if_neg c]
        refine Dep.bind (n := 1) (m := 2) (fun d => ?_) isDone_dep
        by_cases c : d = true
        · rw [if_pos c]; exact givenUp_dep
        · rw [if_neg c]; exact ret_dep
  · rw [if_neg c]; exact givenUp_dep.mono (by decide)) isDone_dep
theorem unpackedOver_dep : Dep 8 (unpackedOver eds s new) := by
  unfold unpackedOver
  by_cases e : s.a = .failed ∨ s.a = .ready
  · rw [if_pos e]
    refine Dep.bind (n := 2) (m := 6) (fun d => ?_) (Dep.bind (n := 1) (m := 1) (fun d => ?_) isDone_dep)
    · by_cases c : d = true
      · rw [if_pos c]; exact over2_dep
      · rw [if_neg c]; exact putBack_dep.mono (by decide)
    · by_cases c : d = true
      · rw [if_pos c]; exact ret_dep
      · rw [if_neg c]; exact isDone_dep
  · rw [if_neg e]; exact over2_dep.mono (by decide)
theorem rem2_dep : Dep 1 (rem2 eds s) := Dep.bind (n := 1) (m := 0) (fun _ => ret_dep) isDone_dep
theorem prog_dep {d : Dd} : Dep 8 (prog eds s d) := by
  cases d with
  | unpack n v =>
    show Dep 8 (if _ then _ else _ : Pg St)
    by_cases e : s.a.there = false ∨ s.a = .half
    · rw [if_pos e]
      refine (Dep.bind (n := 1) (m := 1) (fun d => ?_) isDone_dep : Dep 2 (unpackedNew eds s v)).mono (by decide)
      by_cases c : d = true
      · rw [if_pos c]; exact ret_dep
      · rw [if_neg c]; exact Dep.bind (n := 1) (m := 0) (fun _ => ret_dep) isDone_dep
    · rw [if_neg e]; exact unpackedOver_dep
  | setup n => exact (Dep.bind (n := 1) (m := 0) (fun _ => ret_dep) isDone_dep : Dep 1 (setUp eds s)).mono (by decide)
  | remove n =>
    show Dep 8 (removed eds s)
    unfold removed
    by_cases e : s.a = .failed ∨ s.a = .ready
    · rw [if_pos e]
      refine (Dep.bind (n := 1) (m := 1) (fun d => ?_) isDone_dep : Dep 2 _).mono (by decide)
      by_cases c : d = true
      · rw [if_pos c]; exact rem2_dep
      · rw [if_neg c]; exact Dep.bind (n := 1) (m := 0) (fun _ => ret_dep) isDone_dep
    · rw [if_neg e]; exact rem2_dep.mono (by decide)
  | purge n => exact (Dep.bind (n := 1) (m := 0) (fun _ => ret_dep) isDone_dep : Dep 1 (purged eds s)).mono (by decide)
end
end Hs
end
section
set_option Elab.async false
set_option linter.all false
set_option maxRecDepth 100000
set_option maxHeartbeats 4000000
namespace Hs
open PySem
/-! ### every run of a deed -/
abbrev runL (eds : List Ed) (s : St) (d : Dd) (f : List Nat) : St × List (Cl × Bool) := (prog eds s d).run (fun x => decide (x ∈ f)) 0
def begin (f : List Nat) : Nat := match f.getLast? with
  | some x => x + 1
  | none => 0
theorem begin_nil : begin [] = 0 := rfl
theorem begin_snoc (f : List Nat) (x : Nat) : begin (f ++ [x]) = x + 1 := by simp [begin]
/-- what is closed under one more failure holds every run -/
theorem closed_all {eds : List Ed} {s : St} {d : Dd} {S : List Nat → Prop} (h0 : S []) (hc : ∀ f k, S f → begin f ≤ k → k < (runL eds s d f).2.length → S (f ++ [k])) (F : Nat → Bool) : ∃ f, S f ∧ runL eds s d f = (prog eds s d).run F 0 := by
  have key : ∀ j, j ≤ (fi ((prog eds s d).run F 0).2 0).length → S ((fi ((prog eds s d).run F 0).2 0).take j) := by
    intro j
    induction j with
    | zero => intro _; exact h0
    | succ j ih =>
      intro hj
      have hlt : j < (fi ((prog eds s d).run F 0).2 0).length := hj
      have hg := List.getElem?_eq_getElem hlt
      have e : (fi ((prog eds s d).run F 0).2 0).take (j + 1) = (fi ((prog eds s d).run F 0).2 0).take j ++ [(fi ((prog eds s d).run F 0).2 0)[j]] := by
        rw [List.take_succ, hg] <;> rfl
      rw [e]
      refine hc _ _ (ih (Nat.le_of_lt hlt)) ?_ ?_
      · unfold begin
        cases hl : ((fi ((prog eds s d).run F 0).2 0).take j).getLast? with
        | none => exact Nat.zero_le _
        | some x =>
          obtain ⟨l, hl2⟩ := List.getLast?_eq_some_iff.mp hl
          have hx : x ∈ (fi ((prog eds s d).run F 0).2 0).take j := by rw [hl2]; simp
          obtain ⟨i, hi, ex⟩ := List.getElem_of_mem hx
          have hij : i < j := by
            rw [List.length_take] at hi
            omega
          rw [List.getElem_take] at ex
          have up := List.pairwise_iff_getElem.mp (fi_up ((prog eds s d).run F 0).2 0) i j (Nat.lt_trans hij hlt) hlt hij
          show x + 1 ≤ _
          omega
      · have := (run_step F (fun x => decide (x ∈ (fi ((prog eds s d).run F 0).2 0).take j)) (prog eds s d) 0 j (fun x _ => by rw [decide_eq_true_eq])).2 _ hg
        exact Nat.lt_of_lt_of_eq this (Nat.zero_add _)
  refine ⟨_, key _ (Nat.le_refl _), ?_⟩
  exact (run_step F (fun x => decide (x ∈ (fi ((prog eds s d).run F 0).2 0).take _)) (prog eds s d) 0 (fi ((prog eds s d).run F 0).2 0).length (fun x _ => by rw [decide_eq_true_eq])).1 (Nat.le_refl _)
/-- the stack's measure -/
def wt (f : List Nat) : Nat := 2 ^ (8 - begin f)
def mea (l : List (List Nat)) : Nat := (l.map wt).sum
theorem sum_up (n : Nat) : ∀ (k b : Nat), b + k = n → n ≤ 8 → ((List.range' b k).map fun x => 2 ^ (8 - (x + 1))).sum + 2 ^ (8 - n) ≤ 2 ^ (8 - b)
  | 0, b, h, h8 => by
    have e : b = n := by omega
    subst e
    simp
  | k + 1, b, h, h8 => by
    have ih := sum_up n k (b + 1) (by omega) h8
    rw [List.range'_succ, List.map_cons, List.sum_cons]
    have e : 8 - b = (8 - (b + 1)) + 1 := by omega
    rw [e, Nat.pow_succ]
    omega
theorem mea_step (l : List (List Nat)) (f : List Nat) (n : Nat) (h8 : n ≤ 8) : mea (l ++ (List.range' (begin f) (n - begin f)).map fun k => f ++ [k]) < mea (l ++ [f]) := by
  unfold mea
  rw [List.map_append, List.map_append, List.sum_append, List.sum_append, List.map_map]
  have e : ((List.range' (begin f) (n - begin f)).map (wt ∘ fun k => f ++ [k])) = (List.range' (begin f) (n - begin f)).map fun x => 2 ^ (8 - (x + 1)) := by
    refine List.map_congr_left fun x _ => ?_
    show wt (f ++ [x]) = _
    unfold wt
    rw [begin_snoc]
  rw [e]
  have hp : 0 < 2 ^ (8 - begin f) := Nat.pow_pos (by decide)
  rcases Nat.lt_or_ge n (begin f) with c | c
  · have z : n - begin f = 0 := by omega
    rw [z]
    simp [wt, hp]
  · have u := sum_up n (n - begin f) (begin f) (by omega) h8
    have hq : 0 < 2 ^ (8 - n) := Nat.pow_pos (by decide)
    have e2 : ([f].map wt).sum = 2 ^ (8 - begin f) := by simp [wt]
    rw [e2]
    omega
/-! ### steps, courses -/
/-- one of the states that a deed may lead to -/
def Nxt (eds : List Ed) (s : St) (d : Dd) (s' : St) : Prop := if refu eds s d = true then s' = s else ∃ F, s' = ((prog eds s d).run F 0).1
def Rch (eds : List Ed) : List Dd → St → St → Prop
  | [], s, s' => s' = s
  | d :: ds, s, s' => ∃ m, Nxt eds s d m ∧ Rch eds ds m s'
theorem rch_snoc {eds : List Ed} {d : Dd} : ∀ {ds : List Dd} {s s' : St}, Rch eds (ds ++ [d]) s s' ↔ ∃ m, Rch eds ds s m ∧ Nxt eds m d s'
  | [], s, s' => by
    constructor
    · rintro ⟨m, h, e⟩
      rw [show s' = m from e]
      exact ⟨s, rfl, h⟩
    · rintro ⟨m, e, h⟩
      rw [show m = s from e] at h
      exact ⟨s', h, rfl⟩
  | d' :: ds, s, s' => by
    constructor
    · rintro ⟨m, h, h2⟩
      obtain ⟨m2, a, b⟩ := rch_snoc.mp h2
      exact ⟨m2, ⟨m, h, a⟩, b⟩
    · rintro ⟨m2, ⟨m, h, a⟩, b⟩
      exact ⟨m, h, rch_snoc.mpr ⟨m2, a, b⟩⟩
theorem nxt_ok {eds : List Ed} {s s' : St} {d : Dd} (hs : StOk eds s) (h : Nxt eds s d s') : StOk eds s' := by
  unfold Nxt at h
  cases c : refu eds s d with
  | true => rw [c, if_pos rfl] at h; rw [h]; exact hs
  | false =>
    rw [c, if_neg (by decide)] at h
    obtain ⟨F, rfl⟩ := h
    exact ((prog_all hs c).run F 0).1
theorem rch_ok {eds : List Ed} : ∀ {ds : List Dd} {s s' : St}, StOk eds s → Rch eds ds s s' → StOk eds s'
  | [], s, s', hs, h => by rw [show s' = s from h]; exact hs
  | d :: ds, s, s', hs, ⟨m, h, h2⟩ => rch_ok (nxt_ok hs h) h2
/-- what is behind the deeds with these faulty scripts -/
def beh1 (eds : List Ed) (P : Sc → Bool) (s : St) (d : Dd) : St := if refu eds s d = true then s else ((prog eds s d).foll P).1
def behA (eds : List Ed) (P : Sc → Bool) (s : St) (ds : List Dd) : St := ds.foldl (beh1 eds P) s
theorem beh1_nxt {eds : List Ed} {P : Sc → Bool} {s : St} {d : Dd} : Nxt eds s d (beh1 eds P s d) := by
  unfold Nxt beh1
  cases c : refu eds s d with
  | true => rw [if_pos rfl, if_pos rfl]
  | false =>
    rw [if_neg (by decide), if_neg (by decide)]
    exact ⟨fun x => decide (x ∈ fi ((prog eds s d).foll P).2 0), by rw [foll_run P _ _ 0 fun x => rfl]⟩
theorem behA_rch {eds : List Ed} {P : Sc → Bool} : ∀ {ds : List Dd} {s : St}, Rch eds ds s (behA eds P s ds)
  | [], s => rfl
  | d :: ds, s => ⟨beh1 eds P s d, beh1_nxt, behA_rch (ds := ds)⟩
theorem behA_ok {eds : List Ed} {P : Sc → Bool} {ds : List Dd} {s : St} (hs : StOk eds s) : StOk eds (behA eds P s ds) := rch_ok hs behA_rch
/-- a call is made at some moment of a course -/
def Mom (eds : List Ed) (s : St) (ds : List Dd) (c : Cl) : Prop := ∃ i d m F x, ds[i]? = some d ∧ Rch eds (ds.take i) s m ∧ refu eds m d = false ∧ x ∈ ((prog eds m d).run F 0).2 ∧ x.1 = c
theorem mom_cons {eds : List Ed} {s m : St} {d : Dd} {ds : List Dd} {c : Cl} (h : Nxt eds s d m) (q : Mom eds m ds c) : Mom eds s (d :: ds) c := by
  obtain ⟨i, d', m', F, x, a1, a2, a3, a4, a5⟩ := q
  exact ⟨i + 1, d', m', F, x, a1, ⟨m, h, a2⟩, a3, a4, a5⟩
theorem mom_ok {eds : List Ed} {s : St} {ds : List Dd} {c : Cl} (hs : StOk eds s) (q : Mom eds s ds c) : CallOk eds c := by
  obtain ⟨i, d, m, F, x, a1, a2, a3, a4, rfl⟩ := q
  exact ((prog_all (rch_ok hs a2) a3).run F 0).2 x a4
theorem beh1_congr {eds : List Ed} {P P' : Sc → Bool} {s : St} {d : Dd} {ds : List Dd} (h : ∀ c, Mom eds s (d :: ds) c → P' c.sc = P c.sc) : beh1 eds P' s d = beh1 eds P s d := by
  unfold beh1
  cases c : refu eds s d with
  | true => rfl
  | false =>
    rw [if_neg (by decide), if_neg (by decide)]
    rw [foll_congr fun x hx => h x.1 ⟨0, d, s, fun y => decide (y ∈ fi ((prog eds s d).foll P).2 0), x, rfl, rfl, c, by rw [foll_run P _ _ 0 fun x => rfl]; exact hx, rfl⟩]
theorem behA_congr {eds : List Ed} {P P' : Sc → Bool} : ∀ {ds : List Dd} {s : St}, (∀ c, Mom eds s ds c → P' c.sc = P c.sc) → behA eds P' s ds = behA eds P s ds
  | [], s, _ => rfl
  | d :: ds, s, h => by
    show behA eds P' (beh1 eds P' s d) ds = behA eds P (beh1 eds P s d) ds
    rw [beh1_congr h]
    exact behA_congr fun c hc => h c (mom_cons beh1_nxt hc)
/-! ### sets of scripts -/
def setsOf {α : Type} : List α → Nat → List (List α)
  | _, 0 => [[]]
  | [], _ + 1 => []
  | x :: xs, n + 1 => (setsOf xs n).map (x :: ·) ++ setsOf xs (n + 1)
theorem setsOf_len {α : Type} : ∀ {xs : List α} {n : Nat} {y : List α}, y ∈ setsOf xs n → y.length = n
  | _, 0, y, h => by
    have : y = [] := by simpa [setsOf] using h
    rw [this] <;> rfl
  | [], n + 1, y, h => by simp [setsOf] at h
  | x :: xs, n + 1, y, h => by
    rcases List.mem_append.mp h with h | h
    · obtain ⟨z, hz, rfl⟩ := List.mem_map.mp h
      rw [List.length_cons, setsOf_len hz]
    · exact setsOf_len h
theorem setsOf_sub {α : Type} : ∀ {xs : List α} {n : Nat} {y : List α}, y ∈ setsOf xs n → y.Sublist xs
  | xs, 0, y, h => by
    have : y = [] := by simpa [setsOf] using h
    rw [this]
    exact List.nil_sublist _
  | [], n + 1, y, h => by simp [setsOf] at h
  | x :: xs, n + 1, y, h => by
    rcases List.mem_append.mp h with h | h
    · obtain ⟨z, hz, rfl⟩ := List.mem_map.mp h
      exact (setsOf_sub hz).cons_cons x
    · exact (setsOf_sub h).cons x
theorem setsOf_all {α : Type} : ∀ {xs y : List α}, y.Sublist xs → y ∈ setsOf xs y.length
  | xs, [], _ => by
    show [] ∈ setsOf xs 0
    simp [setsOf]
  | [], y :: ys, h => by cases h
  | x :: xs, y :: ys, h => by
    show (y :: ys) ∈ (setsOf xs ys.length).map (x :: ·) ++ setsOf xs (ys.length + 1)
    cases h with
    | cons _ h => exact List.mem_append_right _ (setsOf_all h)
    | cons_cons _ h => exact List.mem_append_left _ (List.mem_map.mpr ⟨ys, setsOf_all h, rfl⟩)
theorem setsOf_drop {α : Type} {xs : List α} {i n : Nat} {x : α} (h : xs[i]? = some x) : setsOf (xs.drop i) (n + 1) = (setsOf (xs.drop (i + 1)) n).map (x :: ·) ++ setsOf (xs.drop (i + 1)) (n + 1) := by
  obtain ⟨hi, rfl⟩ := List.getElem?_eq_some_iff.mp h
  rw [List.drop_eq_getElem_cons hi]
  rfl
theorem setsOf_few {α : Type} : ∀ {xs : List α} {n : Nat}, (setsOf xs n).length ≤ 2 ^ xs.length
  | xs, 0 => by
    have := Nat.one_le_two_pow (n := xs.length)
    simpa [setsOf] using this
  | [], n + 1 => by simp [setsOf]
  | x :: xs, n + 1 => by
    have a := setsOf_few (xs := xs) (n := n)
    have b := setsOf_few (xs := xs) (n := n + 1)
    show ((setsOf xs n).map (x :: ·) ++ setsOf xs (n + 1)).length ≤ 2 ^ (xs.length + 1)
    rw [List.length_append, List.length_map, Nat.pow_succ]
    omega
def isPart {α : Type} [DecidableEq α] (one other : List α) : Bool := one.all fun x => decide (x ∈ other)
/-! ### explanations -/
section
variable {α : Type} [DecidableEq α]
def exOne (good : List α → Bool) (found : List (List α)) (some : List α) : List (List α) :=
  if found.any (fun other => isPart other some) = true then found else if good some = true then found ++ [some] else found
def exSize (good : List α → Bool) (scs : List α) (found : List (List α)) (size : Nat) : List (List α) := (setsOf scs size).foldl (exOne good) found
def expl (good : List α → Bool) (scs : List α) : Nat → List (List α)
  | 0 => []
  | n + 1 => exSize good scs (expl good scs n) n
theorem exOne_pre {good : List α → Bool} {found : List (List α)} {x : List α} : ∃ m, exOne good found x = found ++ m ∧ ∀ y ∈ m, y = x ∧ good x = true := by
  unfold exOne
  split
  · exact ⟨[], by simp, fun y hy => by cases hy⟩
  · split
    · rename_i g
      exact ⟨[x], rfl, fun y hy => ⟨List.mem_singleton.mp hy, g⟩⟩
    · exact ⟨[], by simp, fun y hy => by cases hy⟩
theorem fold_pre {good : List α → Bool} : ∀ (l : List (List α)) (found : List (List α)), ∃ m, l.foldl (exOne good) found = found ++ m ∧ ∀ y ∈ m, y ∈ l ∧ good y = true
  | [], found => ⟨[], by simp, fun y hy => by cases hy⟩
  | x :: l, found => by
    obtain ⟨m1, e1, h1⟩ := exOne_pre (good := good) (found := found) (x := x)
    obtain ⟨m2, e2, h2⟩ := fold_pre l (exOne good found x)
    refine ⟨m1 ++ m2, by rw [List.foldl_cons, e2, e1, List.append_assoc], fun y hy => ?_⟩
    rcases List.mem_append.mp hy with hy | hy
    · obtain ⟨rfl, g⟩ := h1 y hy
      exact ⟨List.mem_cons_self, g⟩
    · exact ⟨List.mem_cons_of_mem _ (h2 y hy).1, (h2 y hy).2⟩
theorem expl_next {good : List α → Bool} {scs : List α} (n : Nat) : ∃ m, expl good scs (n + 1) = expl good scs n ++ m ∧ ∀ y ∈ m, y.length = n ∧ y.Sublist scs ∧ good y = true := by
  obtain ⟨m, e, h⟩ := fold_pre (good := good) (setsOf scs n) (expl good scs n)
  exact ⟨m, e, fun y hy => ⟨setsOf_len (h y hy).1, setsOf_sub (h y hy).1, (h y hy).2⟩⟩
theorem expl_good {good : List α → Bool} {scs : List α} : ∀ (n : Nat), ∀ y ∈ expl good scs n, y.length < n ∧ y.Sublist scs ∧ good y = true
  | 0, y, h => by cases h
  | n + 1, y, h => by
    obtain ⟨m, e, hm⟩ := expl_next (good := good) (scs := scs) n
    rw [e] at h
    rcases List.mem_append.mp h with h | h
    · have := expl_good n y h
      exact ⟨by omega, this.2⟩
    · have := hm y h
      exact ⟨by omega, this.2⟩
theorem isPart_self (x : List α) : isPart x x = true := by
  unfold isPart
  rw [List.all_eq_true]
  exact fun y hy => decide_eq_true hy
theorem isPart_iff {x y : List α} : isPart x y = true ↔ ∀ z ∈ x, z ∈ y := by
  unfold isPart
  rw [List.all_eq_true]
  exact ⟨fun h z hz => of_decide_eq_true (h z hz), fun h z hz => decide_eq_true (h z hz)⟩
theorem fold_meets {good : List α → Bool} {x : List α} (hg : good x = true) : ∀ (l : List (List α)) (found : List (List α)), x ∈ l → ∃ y ∈ l.foldl (exOne good) found, isPart y x = true
  | [], found, h => by cases h
  | z :: l, found, h => by
    rcases List.mem_cons.mp h with e | h
    · subst e
      obtain ⟨m, e, _⟩ := fold_pre (good := good) l (exOne good found x)
      rw [List.foldl_cons, e]
      have : ∃ y ∈ exOne good found x, isPart y x = true := by
        unfold exOne
        by_cases c : found.any (fun other => isPart other x) = true
        · rw [if_pos c]
          obtain ⟨y, hy, q⟩ := List.any_eq_true.mp c
          exact ⟨y, hy, q⟩
        · rw [if_neg c, if_pos hg]
          exact ⟨x, by simp, isPart_self x⟩
      obtain ⟨y, hy, q⟩ := this
      exact ⟨y, List.mem_append_left _ hy, q⟩
    · rw [List.foldl_cons]
      exact fold_meets hg l _ h
theorem expl_grow {good : List α → Bool} {scs : List α} {n : Nat} : ∀ (k : Nat), ∃ m, expl good scs (n + k) = expl good scs n ++ m
  | 0 => ⟨[], by simp⟩
  | k + 1 => by
    obtain ⟨m, e⟩ := expl_grow (good := good) (scs := scs) (n := n) k
    obtain ⟨m2, e2, _⟩ := expl_next (good := good) (scs := scs) (n + k)
    exact ⟨m ++ m2, by rw [← Nat.add_assoc, e2, e, List.append_assoc]⟩
theorem expl_meets {good : List α → Bool} {scs x : List α} {n : Nat} (hx : x.Sublist scs) (hn : x.length < n) (hg : good x = true) : ∃ y ∈ expl good scs n, isPart y x = true := by
  obtain ⟨y, hy, q⟩ := fold_meets hg (setsOf scs x.length) (expl good scs x.length) (setsOf_all hx)
  obtain ⟨k, rfl⟩ : ∃ k, n = x.length + 1 + k := ⟨n - (x.length + 1), by omega⟩
  obtain ⟨m, e⟩ := expl_grow (good := good) (scs := scs) (n := x.length + 1) k
  exact ⟨y, by rw [e]; exact List.mem_append_left _ hy, q⟩
theorem expl_nil {good : List α → Bool} {scs : List α} {n : Nat} (hn : 0 < n) : [] ∈ expl good scs n ↔ good [] = true := by
  constructor
  · exact fun h => (expl_good n _ h).2.2
  · intro h
    obtain ⟨y, hy, q⟩ := expl_meets (List.nil_sublist scs) hn h
    cases y with
    | nil => exact hy
    | cons z y =>
      have := isPart_iff.mp q z List.mem_cons_self
      cases this
theorem expl_count {good : List α → Bool} {scs : List α} : ∀ n, (expl good scs n).length ≤ n * 2 ^ scs.length
  | 0 => Nat.zero_le _
  | n + 1 => by
    have ih := expl_count (good := good) (scs := scs) n
    have step : ∀ (l found : List (List α)), (l.foldl (exOne good) found).length ≤ found.length + l.length := by
      intro l
      induction l with
      | nil => intro found; exact Nat.le_refl _
      | cons x l ih =>
        intro found
        rw [List.foldl_cons, List.length_cons]
        have a := ih (exOne good found x)
        have b : (exOne good found x).length ≤ found.length + 1 := by
          unfold exOne
          split
          · omega
          · split
            · simp
            · omega
        omega
    have a := step (setsOf scs n) (expl good scs n)
    have b := setsOf_few (xs := scs) (n := n)
    show (exSize good scs (expl good scs n) n).length ≤ _
    have e : (exSize good scs (expl good scs n) n).length = ((setsOf scs n).foldl (exOne good) (expl good scs n)).length := rfl
    rw [e, Nat.succ_mul]
    omega
end
end Hs
end
section
set_option Elab.async false
set_option linter.all false
set_option maxRecDepth 100000
set_option maxHeartbeats 4000000
namespace Hs
open PySem PySem.Spec PyProof.Rows L2
open C8 (Cal Met Mak InsC pe_c pe_mk pe_mt pe_mt0 pe_gc call_isC)
open Evl (Ex)
/-! ## the text by places -/
def top (i : Nat) : Stmt := PySem.Challenge.pw_halfsetup_k59_whole_faults_and_courses.main.body.getD i (.Pass ⟨0, 0, 0, 0⟩)

abbrev s_is_state : Stmt := top 21
abbrev s_edition_in : Stmt := top 23
abbrev s_is_there : Stmt := top 24
abbrev s_is_met : Stmt := top 25
abbrev s_lacking : Stmt := top 26
abbrev s_hostile : Stmt := top 27
abbrev s_unpack_refusal : Stmt := top 33
abbrev s_setup_refusal : Stmt := top 34
abbrev s_remove_refusal : Stmt := top 35
abbrev s_refusal : Stmt := top 36
abbrev s_all_deeds : Stmt := top 37
abbrev s_executed : Stmt := top 43
abbrev s_every_run : Stmt := top 44
abbrev s_steps : Stmt := top 46
abbrev s_ends : Stmt := top 48
abbrev s_need_store : Stmt := top 49
abbrev s_is_number : Stmt := top 55
abbrev s_is_word : Stmt := top 56
abbrev s_is_rising : Stmt := top 57
abbrev s_is_need : Stmt := top 59
abbrev s_calls_at : Stmt := top 61
abbrev s_moments : Stmt := top 62
abbrev s_calls_of : Stmt := top 63
abbrev s_is_script : Stmt := top 67
abbrev s_behind_one : Stmt := top 68
abbrev s_behind_all : Stmt := top 69
abbrev s_behind : Stmt := top 70
abbrev s_sets_of : Stmt := top 71
abbrev s_is_part : Stmt := top 72
abbrev s_explained : Stmt := top 73
abbrev s_need_sets : Stmt := top 74
abbrev s_are_unlike : Stmt := top 75
abbrev s_tells_apart : Stmt := top 76
abbrev s_telling_deeds : Stmt := top 77
abbrev s__law_taken : Stmt := top 83
abbrev s__law_store : Stmt := top 84
abbrev s__law_system : Stmt := top 85
abbrev s__law_deed : Stmt := top 86
abbrev s__law_scripts : Stmt := top 87
abbrev s__law_faulty : Stmt := top 88
abbrev s__law_are_told : Stmt := top 89
abbrev s_law : Stmt := top 90
abbrev s_System_init : Stmt := inClass (top 22) 0
abbrev s_System_store : Stmt := inClass (top 22) 1
abbrev s_System_states : Stmt := inClass (top 22) 2
abbrev s_System_getitem : Stmt := inClass (top 22) 3
abbrev s_System_iter : Stmt := inClass (top 22) 4
abbrev s_System_eq : Stmt := inClass (top 22) 5
abbrev s_System_with_state : Stmt := inClass (top 22) 6
abbrev s_System_line : Stmt := inClass (top 22) 7
abbrev s_Run_init : Stmt := inClass (top 42) 0
abbrev s_Run_is_done : Stmt := inClass (top 42) 1
abbrev s_Run_state_behind : Stmt := inClass (top 42) 2
abbrev s_Run_unpacked_new : Stmt := inClass (top 42) 3
abbrev s_Run_unpacked_over : Stmt := inClass (top 42) 4
abbrev s_Run_is_left : Stmt := inClass (top 42) 5
abbrev s_Run_given_up : Stmt := inClass (top 42) 6
abbrev s_Run_put_back : Stmt := inClass (top 42) 7
abbrev s_Run_set_up : Stmt := inClass (top 42) 8
abbrev s_Run_removed : Stmt := inClass (top 42) 9
abbrev s_Run_purged : Stmt := inClass (top 42) 10
abbrev s_Courses_init : Stmt := inClass (top 47) 0
abbrev s_Edition_init : Stmt := inClass (top 58) 0
abbrev s_Edition_name : Stmt := inClass (top 58) 1
abbrev s_Edition_version : Stmt := inClass (top 58) 2
abbrev s_Edition_scripts : Stmt := inClass (top 58) 3
abbrev s_Edition_needs : Stmt := inClass (top 58) 4
abbrev s_Edition_first : Stmt := inClass (top 58) 5
abbrev s_Edition_against : Stmt := inClass (top 58) 6
abbrev s_Edition_whole : Stmt := inClass (top 58) 7
abbrev s_Edition_eq : Stmt := inClass (top 58) 8
abbrev s_Store_init : Stmt := inClass (top 81) 0
abbrev s_Store_names : Stmt := inClass (top 81) 1
abbrev s_Store_versions : Stmt := inClass (top 81) 2
abbrev s_Store_len : Stmt := inClass (top 81) 3
abbrev s_Store_contains : Stmt := inClass (top 81) 4
abbrev s_Store_getitem : Stmt := inClass (top 81) 5
abbrev s_Store_iter : Stmt := inClass (top 81) 6
abbrev s_Store_eq : Stmt := inClass (top 81) 7

structure Ads where
  sy : Addr
  rn : Addr
  co : Addr
  ed : Addr
  st : Addr
/-- a def of the module -/
def DefF (K : PySem.W.Frag) (mg : Str → Option Value) (x : Str) (st : Stmt) : Prop := ∃ (f : Addr) (fd : FuncData), FunD K x x (defArgs st) (defBody st) (defScope st) [] [] f fd ∧ mg x = some (.ref f)
/-- a method -/
def MetF (K : PySem.W.Frag) (C : Addr) (m qual : Str) (st : Stmt) : Prop := ∃ (f : Addr) (fd : FuncData), FunD K m qual (defArgs st) (defBody st) (defScope st) [] [] f fd ∧ Meth K C m f
/-- a property -/
def PrpF (K : PySem.W.Frag) (C : Addr) (m qual : Str) (st : Stmt) : Prop := ∃ (p f : Addr) (fd : FuncData), FunD K m qual (defArgs st) (defBody st) (defScope st) [] [] f fd ∧ PropOf K C m p f
/-- a class's __init__ -/
def MakF (K : PySem.W.Frag) (C : Addr) (qual : Str) (st : Stmt) : Prop := ∃ (f : Addr) (fd : FuncData), FunD K "__init__" qual (defArgs st) (defBody st) (defScope st) [] [] f fd ∧ Mk K C f
def GStr (mg : Str → Option Value) (x z : Str) : Prop := ∃ u, mg x = some u ∧ RelV (.str z) u
def GInt (mg : Str → Option Value) (x : Str) (i : Int) : Prop := ∃ u, mg x = some u ∧ RelV (.int i) u
/-- a tuple of the text -/
def GTup (K : PySem.W.Frag) (mg : Str → Option Value) (x : Str) (xs : List V) : Prop := ∃ a : Addr, (∃ u, mg x = some u ∧ RelV (.ref a) u) ∧ ∀ H : Hp, SqT K H a xs
structure TX (K : PySem.W.Frag) (mg : Str → Option Value) (a : Ads) : Prop where
  d_is_state : DefF K mg "is_state" s_is_state
  d_edition_in : DefF K mg "edition_in" s_edition_in
  d_is_there : DefF K mg "is_there" s_is_there
  d_is_met : DefF K mg "is_met" s_is_met
  d_lacking : DefF K mg "lacking" s_lacking
  d_hostile : DefF K mg "hostile" s_hostile
  d_unpack_refusal : DefF K mg "unpack_refusal" s_unpack_refusal
  d_setup_refusal : DefF K mg "setup_refusal" s_setup_refusal
  d_remove_refusal : DefF K mg "remove_refusal" s_remove_refusal
  d_refusal : DefF K mg "refusal" s_refusal
  d_all_deeds : DefF K mg "all_deeds" s_all_deeds
  d_executed : DefF K mg "executed" s_executed
  d_every_run : DefF K mg "every_run" s_every_run
  d_steps : DefF K mg "steps" s_steps
  d_ends : DefF K mg "ends" s_ends
  d_need_store : DefF K mg "need_store" s_need_store
  d_is_number : DefF K mg "is_number" s_is_number
  d_is_word : DefF K mg "is_word" s_is_word
  d_is_rising : DefF K mg "is_rising" s_is_rising
  d_is_need : DefF K mg "is_need" s_is_need
  d_calls_at : DefF K mg "calls_at" s_calls_at
  d_moments : DefF K mg "moments" s_moments
  d_calls_of : DefF K mg "calls_of" s_calls_of
  d_is_script : DefF K mg "is_script" s_is_script
  d_behind_one : DefF K mg "behind_one" s_behind_one
  d_behind_all : DefF K mg "behind_all" s_behind_all
  d_behind : DefF K mg "behind" s_behind
  d_sets_of : DefF K mg "sets_of" s_sets_of
  d_is_part : DefF K mg "is_part" s_is_part
  d_explained : DefF K mg "explained" s_explained
  d_need_sets : DefF K mg "need_sets" s_need_sets
  d_are_unlike : DefF K mg "are_unlike" s_are_unlike
  d_tells_apart : DefF K mg "tells_apart" s_tells_apart
  d_telling_deeds : DefF K mg "telling_deeds" s_telling_deeds
  d__law_taken : DefF K mg "_law_taken" s__law_taken
  d__law_store : DefF K mg "_law_store" s__law_store
  d__law_system : DefF K mg "_law_system" s__law_system
  d__law_deed : DefF K mg "_law_deed" s__law_deed
  d__law_scripts : DefF K mg "_law_scripts" s__law_scripts
  d__law_faulty : DefF K mg "_law_faulty" s__law_faulty
  d__law_are_told : DefF K mg "_law_are_told" s__law_are_told
  cl_sy : Cls K a.sy
  mg_sy : mg "System" = some (.ref a.sy)
  no_sy_base : NoAttr K a.sy "base"
  no_sy_rows : NoAttr K a.sy "rows"
  m_sy_eq : MetF K a.sy "__eq__" "System.__eq__" s_System_eq
  m_sy_with_state : MetF K a.sy "with_state" "System.with_state" s_System_with_state
  p_sy_store : PrpF K a.sy "store" "System.store" s_System_store
  p_sy_line : PrpF K a.sy "line" "System.line" s_System_line
  k_sy : MakF K a.sy "System.__init__" s_System_init
  cl_rn : Cls K a.rn
  mg_rn : mg "Run" = some (.ref a.rn)
  no_rn_base : NoAttr K a.rn "base"
  no_rn_fails : NoAttr K a.rn "fails"
  no_rn_made : NoAttr K a.rn "made"
  m_rn_is_done : MetF K a.rn "is_done" "Run.is_done" s_Run_is_done
  m_rn_state_behind : MetF K a.rn "state_behind" "Run.state_behind" s_Run_state_behind
  m_rn_unpacked_new : MetF K a.rn "unpacked_new" "Run.unpacked_new" s_Run_unpacked_new
  m_rn_unpacked_over : MetF K a.rn "unpacked_over" "Run.unpacked_over" s_Run_unpacked_over
  m_rn_is_left : MetF K a.rn "is_left" "Run.is_left" s_Run_is_left
  m_rn_given_up : MetF K a.rn "given_up" "Run.given_up" s_Run_given_up
  m_rn_put_back : MetF K a.rn "put_back" "Run.put_back" s_Run_put_back
  m_rn_set_up : MetF K a.rn "set_up" "Run.set_up" s_Run_set_up
  m_rn_removed : MetF K a.rn "removed" "Run.removed" s_Run_removed
  m_rn_purged : MetF K a.rn "purged" "Run.purged" s_Run_purged
  k_rn : MakF K a.rn "Run.__init__" s_Run_init
  cl_co : Cls K a.co
  mg_co : mg "Courses" = some (.ref a.co)
  no_co_spots : NoAttr K a.co "spots"
  k_co : MakF K a.co "Courses.__init__" s_Courses_init
  cl_ed : Cls K a.ed
  mg_ed : mg "Edition" = some (.ref a.ed)
  no_ed_label : NoAttr K a.ed "label"
  no_ed_number : NoAttr K a.ed "number"
  no_ed_has : NoAttr K a.ed "has"
  no_ed_wants : NoAttr K a.ed "wants"
  no_ed_asks : NoAttr K a.ed "asks"
  no_ed_shuns : NoAttr K a.ed "shuns"
  p_ed_scripts : PrpF K a.ed "scripts" "Edition.scripts" s_Edition_scripts
  k_ed : MakF K a.ed "Edition.__init__" s_Edition_init
  cl_st : Cls K a.st
  mg_st : mg "Store" = some (.ref a.st)
  no_st_known : NoAttr K a.st "known"
  m_st_versions : MetF K a.st "versions" "Store.versions" s_Store_versions
  m_st_contains : MetF K a.st "__contains__" "Store.__contains__" s_Store_contains
  m_st_getitem : MetF K a.st "__getitem__" "Store.__getitem__" s_Store_getitem
  m_st_eq : MetF K a.st "__eq__" "Store.__eq__" s_Store_eq
  p_st_names : PrpF K a.st "names" "Store.names" s_Store_names
  k_st : MakF K a.st "Store.__init__" s_Store_init
  i_sy : InsC K a.sy
  i_st : InsC K a.st
  g_ABSENT : GStr mg "ABSENT" "absent"
  g_FAILED : GStr mg "FAILED" "failed"
  g_HALF : GStr mg "HALF" "half"
  g_LEFT : GStr mg "LEFT" "left"
  g_READY : GStr mg "READY" "ready"
  g_UNPACKED : GStr mg "UNPACKED" "unpacked"
  g_UNPACK : GStr mg "UNPACK" "unpack"
  g_SETUP : GStr mg "SETUP" "setup"
  g_REMOVE : GStr mg "REMOVE" "remove"
  g_PURGE : GStr mg "PURGE" "purge"
  g_CLEAN : GStr mg "CLEAN" "clean"
  g_ENTER : GStr mg "ENTER" "enter"
  g_LEAVE : GStr mg "LEAVE" "leave"
  g_LETTERS : GStr mg "LETTERS" "abcdefghijklmnopqrstuvwxyz"
  g_MOST_LETTERS : GInt mg "MOST_LETTERS" 8
  g_MOST_VERSION : GInt mg "MOST_VERSION" 99
  g_MOST_SCRIPTS : GInt mg "MOST_SCRIPTS" 3
  g_MOST_DEEDS : GInt mg "MOST_DEEDS" 3
  g_MOST_EDITIONS : GInt mg "MOST_EDITIONS" 12
  g_MOST_NAMES : GInt mg "MOST_NAMES" 4
  g_NOTHING : GTup K mg "NOTHING" [.str "absent", .int 0, .int 0]
  g_STATUSES : GTup K mg "STATUSES" [.str "absent", .str "failed", .str "half", .str "left", .str "ready", .str "unpacked"]
  g_THERE : GTup K mg "THERE" [.str "failed", .str "half", .str "ready", .str "unpacked"]
  g_SCRIPTS : GTup K mg "SCRIPTS" [.str "clean", .str "enter", .str "leave", .str "setup"]
  f_sorted : mg "sorted" = none
  f_set : mg "set" = none
  f_len : mg "len" = none
  f_min : mg "min" = none
  f_any : mg "any" = none
  f_all : mg "all" = none
  f_list : mg "list" = none
  f_tuple : mg "tuple" = none
  f_isinstance : mg "isinstance" = none
  f_range : mg "range" = none
  f_enumerate : mg "enumerate" = none
  f_int : mg "int" = none
  f_bool : mg "bool" = none
  ne_sy : PySem.W.findIn K (.ref a.sy) "__ne__" = some (some (.builtin "object.__ne__"))
  sub_sy : PySem.W.subIn K (.ref a.sy) (.type "object") = some true
  fn_st : ∀ f, PySem.W.findIn K (.ref a.st) "__getitem__" = some (some (.ref f)) → PySem.W.fnIn K f = true

section
variable {P : Program} {w : World} {K : PySem.W.Frag} {mg : Str → Option Value} {base : Heap}
abbrev BindsH (K : PySem.W.Frag) (x qual : Str) (st : Stmt) (ps : List Str) : Prop := ∀ (kV doc pm : Value) (an : Option Addr) (cdv ct : Value) (us : List Value), us.length = ps.length → bindArgs (PySem.W.fnOf x qual (defArgs st) (defBody st) (defScope st) .none kV doc pm an cdv ct) ⟨us, []⟩ = pure (ps.zip us)
abbrev BodyH (P : Program) (w : World) (K : PySem.W.Frag) (mg : Str → Option Value) (base : Heap) (qual : Str) (st : Stmt) (N : List Str) (k : Nat) (sp : Sp) : Prop :=
  ∀ (f : Addr) (cdv : Value) (A : Around) (outer : List Env) (s : Shared) (H : Hp) (vs : List V) (Q : VK) (E : XK), Room k (A.deeper (envOfC qual (defScope st) s.heap.objs.size f cdv)) → sp vs H Q E →
    ∃ t, PSs (cxOf CX0 P w K mg base N qual (defScope st) f cdv A outer s H E).nox (defBody st) t ∧ t { nx := fun _ H' => Q .non H', rt := Q } (start N vs) H
theorem calF {x : Str} {st : Stmt} {N ps : List Str} {k : Nat} {sp : Sp} (D : DefF K mg x st) (hb : BindsH K x x st ps) (S : FnScope N ps (defScope st)) (len : ∀ vs H Q E, sp vs H Q E → vs.length = ps.length) (body : BodyH P w K mg base x st N k sp) : Cal P w K mg base (k + 1) x sp [] := by
  obtain ⟨f, fd, F, hm⟩ := D
  exact ⟨f, fd, ps, [], F.ok S len fun cdv A outer s H vs Q E hr h => (body f cdv A outer s H vs Q E hr h).imp fun t ⟨a, b⟩ => ⟨a.nox, b⟩, hm, F.kp, F.bindsN hb, .nil⟩
theorem metF {C : Addr} {m qual : Str} {st : Stmt} {N ps : List Str} {k : Nat} {sp : Sp} (c : Cls K C) (D : MetF K C m qual st) (hb : BindsH K m qual st ps) (S : FnScope N ps (defScope st)) (len : ∀ vs H Q E, sp vs H Q E → vs.length = ps.length) (body : BodyH P w K mg base qual st N k sp) : Met P w K mg base (k + 1) C m sp [] := by
  obtain ⟨f, fd, F, hm⟩ := D
  exact ⟨f, fd, ps, [], c, hm, F.ok S len fun cdv A outer s H vs Q E hr h => (body f cdv A outer s H vs Q E hr h).imp fun t ⟨a, b⟩ => ⟨a.nox, b⟩, F.bindsN hb, .nil⟩
theorem makF {C : Addr} {x qual : Str} {st : Stmt} {N ps : List Str} {k : Nat} {sp : Sp} (D : MakF K C qual st) (hm : mg x = some (.ref C)) (hb : BindsH K "__init__" qual st ps) (S : FnScope N ps (defScope st)) (len : ∀ vs H Q E, sp vs H Q E → vs.length = ps.length) (body : BodyH P w K mg base qual st N k sp) : Mak P w K mg base (k + 1) x C sp [] := by
  obtain ⟨f, fd, F, M⟩ := D
  exact ⟨f, fd, ps, [], M, F.ok S len fun cdv A outer s H vs Q E hr h => (body f cdv A outer s H vs Q E hr h).imp fun t ⟨a, b⟩ => ⟨a.nox, b⟩, hm, F.bindsN hb, .nil⟩
/-- a property and its promise -/
structure Prp (P : Program) (w : World) (K : PySem.W.Frag) (mg : Str → Option Value) (base : Heap) (k : Nat) (C : Addr) (m : Str) (sp : Sp) : Prop where
  ex : ∃ (p g : Addr) (fd : FuncData) (ps : List Str), Cls K C ∧ PropOf K C m p g ∧ FnOk P w K mg base CX0 k g fd ps sp ∧ Binds K fd ps []
theorem prpF {C : Addr} {m qual : Str} {st : Stmt} {N ps : List Str} {k : Nat} {sp : Sp} (c : Cls K C) (D : PrpF K C m qual st) (hb : BindsH K m qual st ps) (S : FnScope N ps (defScope st)) (len : ∀ vs H Q E, sp vs H Q E → vs.length = ps.length) (body : BodyH P w K mg base qual st N k sp) : Prp P w K mg base (k + 1) C m sp := by
  obtain ⟨p, f, fd, F, hm⟩ := D
  exact ⟨p, f, fd, ps, c, hm, F.ok S len fun cdv A outer s H vs Q E hr h => (body f cdv A outer s H vs Q E hr h).imp fun t ⟨a, b⟩ => ⟨a.nox, b⟩, F.bindsN hb⟩
end
section
variable {X : Cx} {k j : Nat} {C : Addr} {m : Str} {sp : Sp} {e : Expr} {ta : TE} {pos : Pos}
theorem pe_pr (c : Prp X.prog X.w X.K X.mg X.base k C m sp) (hr : Room j X.A) (hk : k + 1 ≤ j) (he : PE X e ta) (hab : attributeBase e m X.env (eval e X.env) = eval e X.env := by rfl) : PE X (.Attribute e m pos) (tProp C sp [] E0 ta) := by
  obtain ⟨p, g, fd, ps, cl, hp, F, hb⟩ := c.ex
  exact pe_prop he cl hp F (hr.mono hk) hb .nil (fun _ _ _ _ _ _ _ h => h.elim) hab
/-- the comparisons and subscripts by a class's own methods -/
theorem op_inM (c : Met X.prog X.w X.K X.mg X.base k C "__contains__" sp []) (hr : Room j X.A) (hk : k ≤ j) : OpR X (compareOp .In) (rOwnIn C sp false) := by
  obtain ⟨f, fd, ps, ds, cl, me, F, hb, hd⟩ := c.ex
  cases hd
  exact op_inOwn F (hr.mono hk) hb ⟨me.at_, me.fn⟩
theorem op_ninM (c : Met X.prog X.w X.K X.mg X.base k C "__contains__" sp []) (hr : Room j X.A) (hk : k ≤ j) : OpR X (compareOp .NotIn) (rOwnIn C sp true) := by
  obtain ⟨f, fd, ps, ds, cl, me, F, hb, hd⟩ := c.ex
  cases hd
  exact op_ninOwn F (hr.mono hk) hb ⟨me.at_, me.fn⟩
theorem op_eqM (c : Met X.prog X.w X.K X.mg X.base k C "__eq__" sp []) (hr : Room j X.A) (hk : k ≤ j) : OpR X (compareOp .Eq) (rOwnEq C sp false) := by
  obtain ⟨f, fd, ps, ds, cl, me, F, hb, hd⟩ := c.ex
  cases hd
  exact op_eqOwn F (hr.mono hk) hb ⟨me.at_, me.fn⟩
theorem op_neM (c : Met X.prog X.w X.K X.mg X.base k C "__eq__" sp []) (hr : Room j X.A) (hk : k + 1 ≤ j) (hn : PySem.W.findIn X.K (.ref C) "__ne__" = some (some (.builtin "object.__ne__"))) (hob : PySem.W.subIn X.K (.ref C) (.type "object") = some true) : OpR X (compareOp .NotEq) (rOwnEq C sp true) := by
  obtain ⟨f, fd, ps, ds, cl, me, F, hb, hd⟩ := c.ex
  cases hd
  exact op_neOwn F (hr.mono hk) hb ⟨me.at_, me.fn⟩ hn hob
theorem pe_ixM {a b : Expr} {ta tb : TE} (c : Met X.prog X.w X.K X.mg X.base k C "__getitem__" sp []) (hr : Room j X.A) (hk : k + 1 ≤ j) (hfn : ∀ f, PySem.W.findIn X.K (.ref C) "__getitem__" = some (some (.ref f)) → PySem.W.fnIn X.K f = true) (ha : PE X a ta) (hi : PE X b tb)
    (hsl : ∀ v u, subscripted b true v u = runValue (.builtin "lifetime.subscript" ⟨[v, u], []⟩) := by intro _ _; with_unfolding_all rfl) : PE X (.Subscript a b pos) (tOp (rOwnIx C sp) ta tb) := by
  obtain ⟨f, fd, ps, ds, cl, me, F, hb, hd⟩ := c.ex
  cases hd
  exact pe_ixOwn F (hr.mono hk) hb ⟨me.at_, me.fn⟩ (hfn f me.at_) ha hi hsl
/-- what is never reached -/
theorem ps_dead {st : Stmt} : PS X st (fun _ _ _ => False) := ⟨fun _ _ _ _ _ _ h => h.elim⟩
theorem pss_dead {st : List Stmt} : PSs X st (fun _ _ _ => False) := ⟨fun _ _ _ _ _ _ h => h.elim⟩
theorem pe_dead {e : Expr} : PE X e (fun _ _ _ => False) := ⟨fun _ _ _ _ _ _ h => h.elim⟩
end
end Hs
end
section
set_option Elab.async false
set_option linter.all false
set_option maxRecDepth 100000
set_option maxHeartbeats 4000000
namespace Hs
open PySem PySem.Spec PyProof.Rows L2
open C8 (Cal Met Mak InsC pe_c pe_mk pe_mt pe_mt0 pe_gc call_isC)
open Evl (Ex)
/-! ## what stands in the heap -/
abbrev app : Str := "app"
abbrev web : Str := "web"
def nm : Bool → Str
  | true => "app"
  | false => "web"
def Sta.txt : Sta → Str
  | .absent => "absent"
  | .failed => "failed"
  | .half => "half"
  | .left => "left"
  | .ready => "ready"
  | .unpacked => "unpacked"
def Wd.txt : Wd → Str
  | .clean => "clean"
  | .enter => "enter"
  | .leave => "leave"
  | .setup => "setup"
def Act.txt : Act → Str
  | .install => "install"
  | .abortInstall => "abort-install"
  | .upgrade => "upgrade"
  | .failedUpgrade => "failed-upgrade"
  | .abortUpgrade => "abort-upgrade"
  | .configure => "configure"
  | .remove => "remove"
  | .abortRemove => "abort-remove"
  | .purge => "purge"
theorem sta_inj : ∀ a b : Sta, a.txt = b.txt → a = b := by
  intro a b
  cases a <;> cases b <;> first
    | exact fun _ => rfl
    | exact fun h => absurd h (by decide +kernel)
theorem wd_inj : ∀ a b : Wd, a.txt = b.txt → a = b := by
  intro a b
  cases a <;> cases b <;> first
    | exact fun _ => rfl
    | exact fun h => absurd h (by decide +kernel)
theorem act_inj : ∀ a b : Act, a.txt = b.txt → a = b := by
  intro a b
  cases a <;> cases b <;> first
    | exact fun _ => rfl
    | exact fun h => absurd h (by decide +kernel)
theorem sta_dec (a b : Sta) : decide (V.str a.txt = V.str b.txt) = decide (a = b) := by
  by_cases h : a = b
  · rw [h, decide_eq_true rfl, decide_eq_true rfl]
  · rw [decide_eq_false h, decide_eq_false fun z => h (sta_inj a b (by injection z))]
theorem sta_key (a b : Sta) : (NestedKey.text a.txt = NestedKey.text b.txt) ↔ a = b := ⟨fun z => sta_inj a b (by injection z), fun z => by rw [z]⟩
abbrev stV (s : St) : List V := [.str s.a.txt, .int s.v, .int s.d]
section
variable (K : PySem.W.Frag) (a : Ads) (H : Hp)
/-- needs: pairs (web, least) -/
inductive NdsAt : List Addr → List Int → Prop
  | nil : NdsAt [] []
  | cons {t : Addr} {l : Int} {ts : List Addr} {ls : List Int} : SqT K H t [.str web, .int l] → NdsAt ts ls → NdsAt (t :: ts) (l :: ls)
def NdT (p : Addr) (ls : List Int) : Prop := ∃ ts, SqT K H p (ts.map V.ref) ∧ NdsAt K H ts ls
def EdAt (e : Addr) (ed : Ed) : Prop := ∃ dx hs ws as sh, H e = some (.ins a.ed dx [("label", .str app), ("number", .int ed.v), ("has", .ref hs), ("wants", .ref ws), ("asks", .ref as), ("shuns", .ref sh)]) ∧
  SqT K H hs (ed.has.map fun w => .str w.txt) ∧ NdT K H ws ed.wants ∧ NdT K H as ed.asks ∧ SqT K H sh (if ed.shuns = true then [.str web] else [])
inductive EdsAt : List Addr → List Ed → Prop
  | nil : EdsAt [] []
  | cons {e : Addr} {ed : Ed} {es : List Addr} {eds : List Ed} : EdAt K a H e ed → EdsAt es eds → EdsAt (e :: es) (ed :: eds)
def kvsOf (es : List Addr) (eds : List Ed) : List (List Key × V) := (es.zip eds).map fun p => ([.inr app, .inl p.2.v], .ref p.1)
def StoreAt (st : Addr) (eds : List Ed) : Prop := ∃ dx d es, H st = some (.ins a.st dx [("known", .ref d)]) ∧ H d = some (.dT (kvsOf es eds)) ∧ EdsAt K a H es eds
def SysAt (st y : Addr) (s : St) : Prop := ∃ dx r t, H y = some (.ins a.sy dx [("base", .ref st), ("rows", .ref r)]) ∧ Rd H r (.dK [(.inr app, .ref t)]) ∧ SqT K H t (stV s)
/-- .. its dict not locked -/
def SysOp (st y : Addr) (s : St) : Prop := ∃ dx r t, H y = some (.ins a.sy dx [("base", .ref st), ("rows", .ref r)]) ∧ H r = some (.dK [(.inr app, .ref t)]) ∧ SqT K H t (stV s)
end
/-- what holds of the editions -/
structure EdsOk (eds : List Ed) : Prop where
  few : eds.length ≤ 2
  some : eds ≠ []
  nd : (vers eds).Nodup
  pos : ∀ v ∈ vers eds, 0 < v
  wants : ∀ ed ∈ eds, ed.wants.length ≤ 1
  asks : ∀ ed ∈ eds, ed.asks.length ≤ 1
section
variable {K : PySem.W.Frag} {a : Ads} {H H' : Hp}
theorem rd_fz {p : Addr} {o : HO} (e : Fz H H') (ho : isL o = false) (h : Rd H p o) : Rd H' p o := by
  rcases h with h | ⟨u, h⟩
  · exact .inl (e _ _ h ho)
  · exact .inr ⟨u, e _ _ h rfl⟩
theorem dget_k {d : Addr} {kvs : List (Key × V)} {k : Key} (e : Rd H d (.dK kvs)) : DGet H d (kV k) (valV kvs k) := .inl ⟨kvs, k, e, rfl, rfl⟩
theorem dget_t {d b : Addr} {kvs : List (List Key × V)} {k : List Key} (e : Rd H d (.dT kvs)) (eb : H b = some (.tup (k.map kV))) : DGet H d (.ref b) (valV kvs k) := .inr ⟨kvs, k, b, e, rfl, eb, rfl⟩
theorem NdsAt.fz (e : Fz H H') : ∀ {ts : List Addr} {ls : List Int}, NdsAt K H ts ls → NdsAt K H' ts ls
  | _, _, .nil => .nil
  | _, _, .cons h t => .cons (fz_t e h) (NdsAt.fz e t)
theorem NdT.fz {p : Addr} {ls : List Int} (e : Fz H H') (h : NdT K H p ls) : NdT K H' p ls := by
  obtain ⟨ts, h1, h2⟩ := h
  exact ⟨ts, fz_t e h1, h2.fz e⟩
theorem EdAt.fz {x : Addr} {ed : Ed} (e : Fz H H') (h : EdAt K a H x ed) : EdAt K a H' x ed := by
  obtain ⟨dx, hs, ws, as, sh, h1, h2, h3, h4, h5⟩ := h
  exact ⟨dx, hs, ws, as, sh, e _ _ h1 rfl, fz_t e h2, h3.fz e, h4.fz e, fz_t e h5⟩
theorem EdsAt.fz (e : Fz H H') : ∀ {es : List Addr} {eds : List Ed}, EdsAt K a H es eds → EdsAt K a H' es eds
  | _, _, .nil => .nil
  | _, _, .cons h t => .cons (h.fz e) (EdsAt.fz e t)
theorem StoreAt.fz {st : Addr} {eds : List Ed} (e : Fz H H') (h : StoreAt K a H st eds) : StoreAt K a H' st eds := by
  obtain ⟨dx, d, es, h1, h2, h3⟩ := h
  exact ⟨dx, d, es, e _ _ h1 rfl, e _ _ h2 rfl, h3.fz e⟩
theorem SysAt.fz {st y : Addr} {s : St} (e : Fz H H') (h : SysAt K a H st y s) : SysAt K a H' st y s := by
  obtain ⟨dx, r, t, h1, h2, h3⟩ := h
  exact ⟨dx, r, t, e _ _ h1 rfl, rd_fz e rfl h2, fz_t e h3⟩
theorem SysOp.fz {st y : Addr} {s : St} (e : Fz H H') (h : SysOp K a H st y s) : SysOp K a H' st y s := by
  obtain ⟨dx, r, t, h1, h2, h3⟩ := h
  exact ⟨dx, r, t, e _ _ h1 rfl, e _ _ h2 rfl, fz_t e h3⟩
theorem SysOp.at {st y : Addr} {s : St} (h : SysOp K a H st y s) : SysAt K a H st y s := by
  obtain ⟨dx, r, t, h1, h2, h3⟩ := h
  exact ⟨dx, r, t, h1, .inl h2, h3⟩
theorem EdsAt.at {es : List Addr} {eds : List Ed} (h : EdsAt K a H es eds) {v : Int} {ed : Ed} (hv : edAt eds v = some ed) : ∃ e, EdAt K a H e ed ∧ valV (kvsOf es eds) ([.inr app, .inl v] : List Key) = some (.ref e) := by
  induction h with
  | nil => cases hv
  | @cons e ed0 es eds h1 h2 ih =>
    unfold edAt at hv
    rw [List.find?_cons] at hv
    by_cases c : ed0.v = v
    · rw [decide_eq_true c] at hv
      cases hv
      refine ⟨e, h1, ?_⟩
      simp [valV, kvsOf, c]
    · rw [decide_eq_false c] at hv
      obtain ⟨e', h3, h4⟩ := ih hv
      refine ⟨e', h3, ?_⟩
      have c2 : ¬ (([.inr app, .inl ed0.v] : List Key) = [.inr app, .inl v]) := fun z => by
        injection z with _ z
        injection z with z
        injection z with z
        exact c z
      simp only [valV, kvsOf, List.zip_cons_cons, List.map_cons, List.find?_cons] at h4 ⊢
      rw [show decide (([.inr app, .inl ed0.v] : List Key) = [.inr app, .inl v]) = false from decide_eq_false c2]
      exact h4
theorem EdsAt.no {es : List Addr} {eds : List Ed} (h : EdsAt K a H es eds) {k : List Key} (hk : ∀ v, verOk eds v = true → k ≠ [.inr app, .inl v]) : valV (kvsOf es eds) k = none := by
  induction h with
  | nil => rfl
  | @cons e ed0 es eds h1 h2 ih =>
    have c2 : ¬ (([.inr app, .inl ed0.v] : List Key) = k) := fun z => hk ed0.v (by simp [verOk, edAt]) z.symm
    have h4 := ih fun v hv => hk v (by
      unfold verOk edAt at hv ⊢
      rw [List.find?_cons]
      split
      · rfl
      · exact hv)
    simp only [valV, kvsOf, List.zip_cons_cons, List.map_cons, List.find?_cons] at h4 ⊢
    rw [show decide (([.inr app, .inl ed0.v] : List Key) = k) = false from decide_eq_false c2]
    exact h4
end
/-- what a lock of a dict leaves -/
def NoFrz : HO → Prop
  | .frz _ _ => False
  | _ => True
structure Lk (H H' : Hp) : Prop where
  rd : ∀ b o, NoFrz o → Rd H b o → Rd H' b o
  ins : ∀ b C dx fs, H b = some (.ins C dx fs) → H' b = some (.ins C dx fs)
  dt : ∀ b kvs, H b = some (.dT kvs) → H' b = some (.dT kvs)
def IsDict : HO → Prop
  | .dK _ => True
  | _ => False
section
variable {K : PySem.W.Frag} {a : Ads} {H H' : Hp} {d : Addr} {u : HO}
theorem Lk.on {od : Obj} (h : H d = some u) (hu : IsDict u) : Lk H (upd H d (.frz od u)) where
  rd := fun b o ho r => by
    by_cases e : b = d
    · subst e
      rcases r with r | ⟨v, r⟩
      · rw [h] at r
        cases r
        exact .inr ⟨od, upd_same⟩
      · rw [h] at r
        cases r
        exact hu.elim
    · unfold Rd
      rw [upd_ne e]
      exact r
  ins := fun b C dx fs r => by
    rw [upd_ne ?_]
    · exact r
    · rintro rfl
      rw [h] at r
      cases r
      exact hu.elim
  dt := fun b kvs r => by
    rw [upd_ne ?_]
    · exact r
    · rintro rfl
      rw [h] at r
      cases r
      exact hu.elim
theorem Lk.off {od : Obj} (h : H d = some (.frz od u)) (hu : IsDict u) : Lk H (upd H d u) where
  rd := fun b o ho r => by
    by_cases e : b = d
    · subst e
      rcases r with r | ⟨v, r⟩
      · rw [h] at r
        cases r
        exact ho.elim
      · rw [h] at r
        cases r
        exact .inl upd_same
    · unfold Rd
      rw [upd_ne e]
      exact r
  ins := fun b C dx fs r => by
    rw [upd_ne ?_]
    · exact r
    · rintro rfl
      rw [h] at r
      cases r
  dt := fun b kvs r => by
    rw [upd_ne ?_]
    · exact r
    · rintro rfl
      rw [h] at r
      cases r
theorem Lk.t {p : Addr} {xs : List V} (l : Lk H H') (h : SqT K H p xs) : SqT K H' p xs := h.imp (l.rd _ _ trivial) id
theorem NdsAt.lk (l : Lk H H') : ∀ {ts : List Addr} {ls : List Int}, NdsAt K H ts ls → NdsAt K H' ts ls
  | _, _, .nil => .nil
  | _, _, .cons h t => .cons (l.t h) (NdsAt.lk l t)
theorem NdT.lk {p : Addr} {ls : List Int} (l : Lk H H') (h : NdT K H p ls) : NdT K H' p ls := by
  obtain ⟨ts, h1, h2⟩ := h
  exact ⟨ts, l.t h1, h2.lk l⟩
theorem EdAt.lk {x : Addr} {ed : Ed} (l : Lk H H') (h : EdAt K a H x ed) : EdAt K a H' x ed := by
  obtain ⟨dx, hs, ws, as, sh, h1, h2, h3, h4, h5⟩ := h
  exact ⟨dx, hs, ws, as, sh, l.ins _ _ _ _ h1, l.t h2, h3.lk l, h4.lk l, l.t h5⟩
theorem EdsAt.lk (l : Lk H H') : ∀ {es : List Addr} {eds : List Ed}, EdsAt K a H es eds → EdsAt K a H' es eds
  | _, _, .nil => .nil
  | _, _, .cons h t => .cons (h.lk l) (EdsAt.lk l t)
theorem StoreAt.lk {st : Addr} {eds : List Ed} (l : Lk H H') (h : StoreAt K a H st eds) : StoreAt K a H' st eds := by
  obtain ⟨dx, d, es, h1, h2, h3⟩ := h
  exact ⟨dx, d, es, l.ins _ _ _ _ h1, l.dt _ _ h2, h3.lk l⟩
theorem SysAt.lk {st y : Addr} {s : St} (l : Lk H H') (h : SysAt K a H st y s) : SysAt K a H' st y s := by
  obtain ⟨dx, r, t, h1, h2, h3⟩ := h
  exact ⟨dx, r, t, l.ins _ _ _ _ h1, l.rd _ _ trivial h2, l.t h3⟩
end
/-- all is kept behind a lock and what was done under it -/
theorem ex_lock {H H2 : Hp} {d : Addr} {u : HO} {od : Obj} (h : H d = some u) (e : Ex (upd H d (.frz od u)) H2) : Ex H (upd H2 d u) := fun b o hb => by
  by_cases c : b = d
  · subst c
    rw [h] at hb
    cases hb
    exact upd_same
  · rw [upd_ne c]
    exact e b o (by rw [upd_ne c]; exact hb)
theorem app_web : ¬ (app = web) := by decide +kernel
theorem val_app (x : V) : valV [((.inr app : Key), x)] (.inr app) = some x := by rfl
theorem val_web (x : V) : valV [((.inr app : Key), x)] (.inr web) = none := by
  simp [valV, app_web]
end Hs
end
section
set_option Elab.async false
set_option linter.all false
set_option maxRecDepth 100000
set_option maxHeartbeats 4000000
namespace Hs
open PySem PySem.Spec PyProof.Rows L2
section
variable {X : Cx}
/-- min(xs), xs a list of texts -/
def rMinX (K : PySem.W.Frag) : List V → Hp → VK → Prop := fun vs H Q => ∃ (a : Addr) (zs : List Str), vs = [V.ref a] ∧ SqL K H a (zs.map V.str) ∧ zs ≠ [] ∧ ∀ z, z ∈ zs → Q (.str z) H
theorem argBest_le (bt : Nat → Nat → Bool) : ∀ k, argBest bt k ≤ k
  | 0 => Nat.le_refl _
  | k + 1 => by
    unfold argBest
    split
    · exact Nat.le_refl _
    · exact Nat.le_succ_of_le (argBest_le bt k)
theorem cr_minX (hc : X.calm = true) (hu : X.A.units + 64 < cLine) : CallR X (.builtin "min") (rMinX X.K) := by
  intro pins s σ H vs us Q I r h
  obtain ⟨a, zs, rfl, hs, hne, q⟩ := h
  obtain ⟨its, rv, hl, _⟩ := I.list hs
  rw [Vals.ref1 r]
  have hlen := rv.length
  rw [List.length_map] at hlen
  have hpos : 0 < its.length := by rw [← hlen]; exact List.length_pos_iff.mpr hne
  have hval : ∀ (i : Nat) (v : Value), its.toArray[i]? = some v → ∃ t, v = Value.str (zs.getD i default) t := fun i v hv => by
    have hv2 : its[i]? = some v := by simpa using hv
    have hi : i < zs.length := by rw [hlen]; exact (List.getElem?_eq_some_iff.mp hv2).1
    obtain ⟨u, hu, r⟩ := Vals.get rv (i := i) (x := .str zs[i]) (by rw [List.getElem?_map, List.getElem?_eq_getElem hi] <;> rfl)
    rw [hv2] at hu
    cases hu
    obtain ⟨t, e⟩ := r
    refine ⟨t, ?_⟩
    rw [e, List.getD_eq_getElem?_getD, List.getElem?_eq_getElem hi] <;> rfl
  have hlt : a < s.heap.objs.size := by
    obtain ⟨o, ho, _⟩ := hl.isList
    exact Heap.lt_size ho
  refine call_min_walk (wpAny_pyIter_list hl.isList ?_)
  refine ⟨_, _, _, _, _, _, (fun i j => PySem.W.dataLt (.str (zs.getD i default)) (.str (zs.getD j default))), rfl, Walks.list (A := X.A.in1) (I.ok.hd hc) s.heap.objs.size a (Nat.ne_of_lt hlt) its.toArray, ⟨⟨_, Heap.get?_push_size _ rfl, rfl, rfl⟩, hl.isList.push _⟩, fun b hb => ?_, by rw [List.size_toArray]; exact hpos, ?_, fun v h' tk hP hk => ?_⟩
  · show b < (s.heap.push _).objs.size
    rw [Heap.size_push]
    rcases List.mem_cons.mp hb with e | hb
    · rw [e]
      exact Nat.lt_succ_self _
    · rw [List.mem_singleton.mp hb]
      exact Nat.lt_succ_of_lt hlt
  · intro i j vi vj s' Q' E' hi hj hq
    obtain ⟨t, rfl⟩ := hval i vi hi
    obtain ⟨u, rfl⟩ := hval j vj hj
    exact PySem.W.rcLt_alike (.str (zs.getD i default)) (.str (zs.getD j default)) X.A.in1 s' _ _ [] [] (.str _ _) (.str _ _) rfl (fun z => nomatch z) (by simp [PyData.depth, Around.in1_units]; omega) _ _ _ _ hq
  · obtain ⟨t, rfl⟩ := hval _ v hP
    have hb := argBest_le (fun i j => PySem.W.dataLt (.str (zs.getD i default)) (.str (zs.getD j default))) (its.toArray.size - 1)
    refine ⟨.str _, H, I.kept (t' := tk) fun b u e => hk b u (fun hmem => ?_) (Heap.get?_push_of_some _ e), ⟨t, rfl⟩, q _ ?_⟩
    · have e1 : b = s.heap.objs.size := List.mem_singleton.mp hmem
      have e2 := Heap.lt_size e
      rw [e1] at e2
      exact absurd e2 (Nat.lt_irrefl _)
    · have hb2 : argBest (fun i j => PySem.W.dataLt (.str (zs.getD i default)) (.str (zs.getD j default))) (its.toArray.size - 1) < zs.length := by
        rw [hlen]
        rw [List.size_toArray] at hb ⊢
        omega
      rw [List.getD_eq_getElem?_getD, List.getElem?_eq_getElem hb2]
      exact List.getElem_mem hb2
end
end Hs
end
section
set_option Elab.async false
set_option linter.all false
set_option maxRecDepth 100000
set_option maxHeartbeats 4000000
namespace Hs
open PySem PySem.Spec PyProof.Rows L2
open C8 (Cal Met Mak InsC pe_c pe_mk pe_mt pe_mt0 pe_gc call_isC)
open Evl (Ex)
section
variable {P : Program} {w : World} {K : PySem.W.Frag} {mg : Str → Option Value} {base : Heap} {a : Ads}
theorem nk_sta {H : Hp} (s : Sta) : Nk K H (.str s.txt) (.text s.txt) := .text _
/-! ### is_there -/
def spIsThere (K : PySem.W.Frag) (a : Ads) : Sp := fun vs H Q _ => ∃ y st s n, vs = [.ref y, .str (nm n)] ∧ SysAt K a H st y s ∧ Q (.bl (n && s.a.there)) H
theorem scIsThere : FnScope ["system", "name"] ["system", "name"] (defScope s_is_there) := ⟨rfl, rfl, rfl, by decide +kernel, rfl, by decide +kernel, by decide +kernel⟩
theorem there_in (s : Sta) : decide (NestedKey.text s.txt ∈ [NestedKey.text "failed", .text "half", .text "ready", .text "unpacked"]) = s.there := by cases s <;> decide +kernel
theorem c_is_there (T : TX K mg a) : Cal P w K mg base 1 "is_there" (spIsThere K a) [] := by
  refine calF T.d_is_there (fun _ _ _ _ _ _ us hl => match us, hl with | [_, _], _ => rfl) scIsThere (fun vs H Q E h => ?_) fun f cdv A outer s H vs Q E hr h => ?_
  · obtain ⟨y, st, s, n, rfl, _⟩ := h
    rfl
  · obtain ⟨y, st, s, n, rfl, ⟨dx, r, t, h1, h2, h3⟩, k⟩ := h
    obtain ⟨pT, gT, sT⟩ := T.g_THERE
    have hu := hu_of hr
    refine ⟨_, pss_one (ps_ret (pe_and (pe_cmp (pc_din hu (pv 1) (pe_fld (pv 0) rfl))) (pe_one (pe_cmpR (op_inN hr.units) (pe_ix ix_tup (pe_dget hu (pe_fld (pv 0) rfl) (pv 1) (fun _ _ => rfl)) pe_int (fun _ _ => rfl)) (pe_gc rfl gT) rfl)))), ?_⟩
    refine ⟨_, rfl, _, rfl, y, a.sy, dx, _, _, rfl, h1, T.cl_sy, T.no_sy_rows, rfl, r, _, rfl, dget_k (k := Sum.inr (nm n)) h2, _, rfl, ?_⟩
    cases n with
    | false =>
      refine iteF ?_
      exact k
    | true =>
      refine iteT ?_
      refine ⟨_, rfl, y, a.sy, dx, _, _, rfl, h1, T.cl_sy, T.no_sy_rows, rfl, _, rfl, r, _, rfl, dget_k (k := Sum.inr (nm true)) h2, ?_⟩
      refine ⟨t, _, 0, _, rfl, rfl, h3, rfl, _, pT, _, [.text "failed", .text "half", .text "ready", .text "unpacked"], rfl, .inr (sT H), nk_sta s.a, .cons (.text _) (.cons (.text _) (.cons (.text _) (.cons (.text _) .nil))), Nat.zero_le _, ?_⟩
      rw [there_in]
      exact k
/-! ### edition_in -/
def spEditionIn (K : PySem.W.Frag) (a : Ads) : Sp := fun vs H Q _ => ∃ y st s eds ed, vs = [.ref y, .str app] ∧ SysAt K a H st y s ∧ StoreAt K a H st eds ∧ edAt eds s.v = some ed ∧
  ∀ e H', EdAt K a H' e ed → Ex H H' → Q (.ref e) H'
theorem scEditionIn : FnScope ["system", "name"] ["system", "name"] (defScope s_edition_in) := ⟨rfl, rfl, rfl, by decide +kernel, rfl, by decide +kernel, by decide +kernel⟩
theorem c_edition_in (T : TX K mg a) : Cal P w K mg base 1 "edition_in" (spEditionIn K a) [] := by
  refine calF T.d_edition_in (fun _ _ _ _ _ _ us hl => match us, hl with | [_, _], _ => rfl) scEditionIn (fun vs H Q E h => ?_) fun f cdv A outer s H vs Q E hr h => ?_
  · obtain ⟨y, st, s, eds, ed, rfl, _⟩ := h
    rfl
  · obtain ⟨y, st, s, eds, ed, rfl, ⟨dx, r, t, h1, h2, h3⟩, ⟨dz, d, es, g1, g2, g3⟩, he, k⟩ := h
    have hu := hu_of hr
    obtain ⟨e, e1, e2⟩ := g3.at he
    refine ⟨_, pss_one (ps_ret (pe_dget hu (pe_fld (pe_fld (pv 0) rfl) rfl) (pe_tup (pa_cons (pv 1) (pa_cons (pe_ix ix_tup (pe_dget hu (pe_fld (pv 0) rfl) (pv 1) (fun _ _ => rfl)) pe_int (fun _ _ => rfl)) pa_nil))) (fun _ _ => rfl))), ?_⟩
    refine ⟨_, rfl, y, a.sy, dx, _, _, rfl, h1, T.cl_sy, T.no_sy_base, rfl, st, a.st, dz, _, _, rfl, g1, T.cl_st, T.no_st_known, rfl, _, rfl, _, rfl, y, a.sy, dx, _, _, rfl, h1, T.cl_sy, T.no_sy_rows, rfl, _, rfl, r, _, rfl, dget_k (k := Sum.inr app) h2,
      t, _, 1, _, rfl, rfl, h3, rfl, (by show 2 ≤ sizeLine; decide), fun p hp => ?_⟩
    refine ⟨d, .ref e, rfl, ?_, k e _ (e1.fz (Fz.new hp)) (Ex.new hp)⟩
    rw [← e2]
    exact dget_t (k := [.inr app, .inl s.v]) (.inl (by rw [upd_ne (ne_of_none g2 hp)]; exact g2)) upd_same
/-! ### is_met: a need of a package that isn't there -/
def spIsMet (K : PySem.W.Frag) (a : Ads) : Sp := fun vs H Q _ => ∃ y st s t l, vs = [.ref y, .ref t] ∧ SysAt K a H st y s ∧ SqT K H t [.str web, .int l] ∧ Q (.bl false) H
theorem scIsMet : FnScope ["system", "need", "name", "least"] ["system", "need"] (defScope s_is_met) := ⟨rfl, rfl, rfl, by decide +kernel, rfl, by decide +kernel, by decide +kernel⟩
theorem c_is_met (T : TX K mg a) : Cal P w K mg base 1 "is_met" (spIsMet K a) [] := by
  refine calF T.d_is_met (fun _ _ _ _ _ _ us hl => match us, hl with | [_, _], _ => rfl) scIsMet (fun vs H Q E h => ?_) fun f cdv A outer s H vs Q E hr h => ?_
  · obtain ⟨y, st, s, t, l, rfl, _⟩ := h
    rfl
  · obtain ⟨y, st, s, t, l, rfl, ⟨dx, r, t', h1, h2, h3⟩, hn, k⟩ := h
    have hu := hu_of hr
    refine ⟨_, pss_cons (ps_asg (pv 1) (pg_tup rfl (pgs_cons (pg_name (i := 2) scIsMet.nd rfl (Or.inl rfl)) (pgs_cons (pg_name (i := 3) scIsMet.nd rfl (Or.inl rfl)) pgs_nil))))
      (pss_one (ps_ret (pe_and (pe_cmp (pc_din hu (pv 2) (pe_fld (pv 0) rfl))) pe_dead))), ?_⟩
    refine ⟨_, rfl, t, _, rfl, hn, rfl, _, _, rfl, _, _, rfl, rfl, ?_⟩
    refine ⟨_, rfl, _, rfl, y, a.sy, dx, _, _, rfl, h1, T.cl_sy, T.no_sy_rows, rfl, r, _, rfl, dget_k (k := Sum.inr web) h2, _, rfl, ?_⟩
    exact iteF k
end
end Hs
end
section
set_option Elab.async false
set_option linter.all false
set_option maxRecDepth 100000
set_option maxHeartbeats 4000000
namespace Hs
open PySem PySem.Spec PyProof.Rows L2
open C8 (Cal Met Mak InsC pe_c pe_mk pe_mt pe_mt0 pe_gc call_isC)
open Evl (Ex)
theorem pw_dead {X : Cx} {e : Expr} : PW X e (fun _ _ _ => False) := ⟨fun _ _ _ _ _ _ _ h => h.elim⟩
theorem pt_dead {X : Cx} {e : Expr} : PT X e (fun _ _ _ => False) := ⟨fun _ _ _ _ _ _ h => h.elim⟩
theorem pe_deadE {X : Cx} {e : Expr} : PE X e (fun _ _ _ => False) := ⟨fun _ _ _ _ _ _ h => h.elim⟩
section
variable {P : Program} {w : World} {K : PySem.W.Frag} {mg : Str → Option Value} {base : Heap} {a : Ads}
theorem NdsAt.get {H : Hp} : ∀ {ts : List Addr} {ls : List Int} {i : Nat} {x : V}, NdsAt K H ts ls → (ts.map V.ref)[i]? = some x → ∃ t l, x = .ref t ∧ ls[i]? = some l ∧ SqT K H t [.str web, .int l]
  | _, _, i, x, .nil, h => by simp at h
  | _, _, 0, x, .cons (t := t) (l := l) h1 h2, h => ⟨t, l, (by simpa using h.symm), rfl, h1⟩
  | _, _, i + 1, x, .cons h1 h2, h => by
    obtain ⟨t, l, e1, e2, e3⟩ := NdsAt.get h2 (i := i) (by simpa using h)
    exact ⟨t, l, e1, (by simpa using e2), e3⟩
theorem NdsAt.len {H : Hp} : ∀ {ts : List Addr} {ls : List Int}, NdsAt K H ts ls → ts.length = ls.length
  | _, _, .nil => rfl
  | _, _, .cons _ h => congrArg Nat.succ (NdsAt.len h)
/-! ### lacking -/
def spLacking (K : PySem.W.Frag) (a : Ads) : Sp := fun vs H Q _ => ∃ y st s p ls, vs = [.ref y, .ref p] ∧ SysAt K a H st y s ∧ NdT K H p ls ∧ ls.length ≤ 100 ∧
  ∀ v H', Ex H H' → (if ls.isEmpty = true then v = .non else v = .str web) → Q v H'
theorem scLacking : FnScope ["system", "needs", "some", "need"] ["system", "needs"] (defScope s_lacking) := ⟨rfl, rfl, rfl, by decide +kernel, rfl, by decide +kernel, by decide +kernel⟩
theorem c_lacking (T : TX K mg a) : Cal P w K mg base 2 "lacking" (spLacking K a) [] := by
  refine calF T.d_lacking (fun _ _ _ _ _ _ us hl => match us, hl with | [_, _], _ => rfl) scLacking (fun vs H Q E h => ?_) fun f cdv A outer s H vs Q E hr h => ?_
  · obtain ⟨y, st, s, p, ls, rfl, _⟩ := h
    rfl
  · obtain ⟨y, st, s, p, ls, rfl, S, ⟨ts, h1, h2⟩, hlen, k⟩ := h
    have hu := hu_of hr
    have hm := c_is_met (P := P) (w := w) (base := base) T
    have hl := h2.len
    refine ⟨_, pss_cons (ps_setLc (i := 2) (own := [("need", 3)]) (g := gName 3) rfl scLacking.nd rfl rfl (sw_true rfl rfl rfl (by decide +kernel)) (pi_tup (pv 1)) (blkOk_by (N := ["system", "needs", "some", "need"]) (sc := defScope s_lacking) (by decide +kernel))
        (fun _ _ _ _ _ => pg_name (i := 3) scLacking.nd rfl (Or.inl rfl)) (fun _ _ _ _ _ => pts_one (pt_not (pt_val (pe_c hm hr (by decide) rfl (pa_cons (pv 0) (pa_cons (pv 3) pa_nil))))))
        (fun _ _ _ _ _ => pe_ix (r := rIxT K) ix_tup (pv 3) pe_int (fun _ _ => rfl)))
      (pss_one (ps_ret (pe_ifExp (pt_cmpR (op_neE hr.units) (pv 2) (pe_lst pa_nil) (nomark _)) (pe_callB (cr_minX rfl hr.units) rfl T.f_min (by decide +kernel) (pa_cons (pv 2) pa_nil)) pe_non))), ?_⟩
    refine ⟨_, rfl, p, rfl, ⟨_, h1⟩, fun D hD => lc_tup (xs := ts.map V.ref) (fun i H' => Ex H H' ∧ H' D = some (.lst (List.replicate i (.str web)))) ⟨Ex.new hD, upd_same⟩ (fun i H' _ q => fz_t (Fz.ex q.1) h1) ?_ ?_⟩
    · rintro i x H' hx ⟨e, hd⟩
      obtain ⟨t, l, rfl, _, ht⟩ := h2.get hx
      have hil : i < ts.length := by
        have := (List.getElem?_eq_some_iff.mp hx).1
        rwa [List.length_map] at this
      refine ⟨rfl, _, rfl, _, rfl, y, st, s, t, l, rfl, S.fz (Fz.ex e), fz_t (Fz.ex e) ht, _, rfl, ?_⟩
      refine iteT ?_
      refine ⟨_, rfl, t, _, 0, _, rfl, rfl, fz_t (Fz.ex e) ht, rfl, _, hd, (by rw [List.length_replicate, sizeLine_eq]; omega), e.mut hD, ?_⟩
      rw [upd_same, ← List.replicate_succ'] <;> rfl
    · rintro H' ⟨e, hd⟩
      refine ⟨_, rfl, (by show 0 ≤ sizeLine; decide), fun q hq => ?_⟩
      refine ⟨D, q, _, rfl, rfl, SqL.of (by rw [upd_ne (ne_of_none hd hq)]; exact hd), SqL.of upd_same, ?_⟩
      cases ls with
      | nil =>
        have z : ts = [] := List.eq_nil_of_length_eq_zero hl
        subst z
        exact ⟨_, rfl, iteF (k _ _ (e.trans (Ex.new hq)) (by simp))⟩
      | cons l ls =>
        obtain ⟨t, ts', rfl⟩ : ∃ t ts', ts = t :: ts' := by
          cases ts with
          | nil => cases hl
          | cons t ts' => exact ⟨t, ts', rfl⟩
        refine ⟨_, rfl, iteT ?_⟩
        refine ⟨_, rfl, D, List.replicate (ts'.length + 1) web, rfl, ?_, by simp, fun z hz => ?_⟩
        · refine SqL.of ?_
          rw [upd_ne (ne_of_none hd hq), List.map_replicate]
          simpa using hd
        · rw [(List.mem_replicate.mp hz).2]
          exact k _ _ (e.trans (Ex.new hq)) (by simp)
/-! ### hostile: the only package is the edition's own -/
def spHostile (K : PySem.W.Frag) (a : Ads) : Sp := fun vs H Q _ => ∃ y st s e ed, vs = [.ref y, .ref e] ∧ SysOp K a H st y s ∧ EdAt K a H e ed ∧ ∀ H', Ex H H' → Q .non H'
theorem scHostile : FnScope ["system", "edition", "found", "name"] ["system", "edition"] (defScope s_hostile) := ⟨rfl, rfl, rfl, by decide +kernel, rfl, by decide +kernel, by decide +kernel⟩
theorem c_hostile (T : TX K mg a) : Cal P w K mg base 1 "hostile" (spHostile K a) [] := by
  refine calF T.d_hostile (fun _ _ _ _ _ _ us hl => match us, hl with | [_, _], _ => rfl) scHostile (fun vs H Q E h => ?_) fun f cdv A outer s H vs Q E hr h => ?_
  · obtain ⟨y, st, s, e, ed, rfl, _⟩ := h
    rfl
  · obtain ⟨y, st, s, e, ed, rfl, ⟨dx, r, t, h1, h2, h3⟩, ⟨dz, hs, ws, as, sh, g1, _⟩, k⟩ := h
    have hu := hu_of hr
    refine ⟨_, pss_cons (ps_set (i := 2) scHostile.nd rfl (Or.inl rfl) (pe_lst pa_nil))
      (pss_cons (ps_lock (ps_for PassesOwn.never rfl (pi_keys (pe_fld (pv 0) rfl)) (pg_name (i := 3) scHostile.nd rfl (Or.inl rfl))
        (pss_one (ps_if (pw_and (pt_cmpR op_ne (pv 3) (pe_fld (pv 1) rfl) (nomark _)) pw_dead).pt pss_never pss_nil))))
      (pss_one (ps_ret (pe_ifExp (pt_cmpR (op_neE hr.units) (pv 2) (pe_lst pa_nil) (nomark _)) pe_dead pe_non)))), ?_⟩
    refine ⟨(by show 0 ≤ sizeLine; decide), fun l hl => ?_⟩
    have nr : r ≠ l := ne_of_none h2 hl
    refine ⟨r, .dK [(.inr app, .ref t)], (by rw [upd_ne nr]; exact h2), trivial, fun od => ?_⟩
    have kp : ∀ b C dx fs, H b = some (.ins C dx fs) → upd (upd H l (.lst [])) r (.frz od (.dK [(.inr app, .ref t)])) b = some (.ins C dx fs) := fun b C dx fs z => by
      rw [upd_ne, upd_ne (ne_of_none z hl)]
      · exact z
      · rintro rfl
        rw [h2] at z
        cases z
    refine ⟨_, rfl, y, a.sy, dx, _, _, rfl, kp _ _ _ _ h1, T.cl_sy, T.no_sy_rows, rfl, r, od, rfl, .inl ⟨_, upd_same, for_it walk_keys (fun _ σ H' => (∃ v, σ = [some (.ref y), some (.ref e), some (.ref l), v]) ∧ H' = upd (upd H l (.lst [])) r (.frz od (.dK [(.inr app, .ref t)])))
      ⟨⟨none, rfl⟩, rfl⟩ (fun i σ H' _ q => by rw [q.2]; exact upd_same) ?_ ?_⟩⟩
    · rintro i x σ H' H'' hi ⟨⟨v, rfl⟩, rfl⟩ ⟨rfl, k0, v0, hk, rfl⟩
      have hi0 : i = 0 := by
        simp only [List.length_cons, List.length_nil] at hi
        omega
      subst hi0
      obtain ⟨rfl, rfl⟩ : (.inr app : Key) = k0 ∧ V.ref t = v0 := by
        have z := Option.some.inj hk
        injection z with z1 z2
        exact ⟨z1, z2⟩
      refine ⟨_, rfl, _, rfl, e, a.ed, dz, _, _, rfl, kp _ _ _ _ g1, T.cl_ed, T.no_ed_label, rfl, rfl, _, rfl, iteNS rfl (iteF ⟨⟨_, rfl⟩, rfl⟩)⟩
    · rintro σ H' ⟨⟨v, rfl⟩, rfl⟩
      refine ⟨upd_same, ?_⟩
      have ex : Ex H (upd (upd (upd H l (.lst [])) r (.frz od (.dK [(.inr app, .ref t)]))) r (.dK [(.inr app, .ref t)])) := Ex.trans (Ex.new hl) (ex_lock (by rw [upd_ne nr]; exact h2) (Ex.refl _))
      refine ⟨_, rfl, (by show 0 ≤ sizeLine; decide), fun q hq => ?_⟩
      refine ⟨l, q, [], rfl, rfl, SqL.of ?_, SqL.of upd_same, _, rfl, iteF (k _ (ex.trans (Ex.new hq)))⟩
      rw [upd_ne ?_, upd_ne nr.symm, upd_ne nr.symm, upd_same]
      rintro rfl
      rw [upd_ne nr.symm, upd_ne nr.symm, upd_same] at hq
      cases hq
end
end Hs
end
section
set_option Elab.async false
set_option linter.all false
set_option maxRecDepth 100000
set_option maxHeartbeats 4000000
namespace Hs
open PySem PySem.Spec PyProof.Rows L2
open C8 (Cal Met Mak InsC pe_c pe_mk pe_mt pe_mt0 pe_gc call_isC)
open Evl (Ex)
theorem pe_gs {X : Cx} {x z : Str} {pos : Pos} (h : GStr X.mg x z) (hg : Gl X x := by rfl) (hd : (x == ("__debug__" : Str)) = false := by decide) : PE X (.Name x pos) (tC (.str z)) := pe_gc hg h hd
theorem pe_gi {X : Cx} {x : Str} {i : Int} {pos : Pos} (h : GInt X.mg x i) (hg : Gl X x := by rfl) (hd : (x == ("__debug__" : Str)) = false := by decide) : PE X (.Name x pos) (tC (.int i)) := pe_gc hg h hd
theorem pe_gt {X : Cx} {x : Str} {p : Addr} {pos : Pos} (h : ∃ u, X.mg x = some u ∧ RelV (.ref p) u) (hg : Gl X x := by rfl) (hd : (x == ("__debug__" : Str)) = false := by decide) : PE X (.Name x pos) (tC (.ref p)) := pe_gc hg h hd
theorem iteP {p A B : Prop} [Decidable p] (hp : p) (h : A) : if decide p = true then A else B := by
  rw [decide_eq_true hp]
  exact iteT h
theorem iteN {p A B : Prop} [Decidable p] (hp : ¬ p) (h : B) : if decide p = true then A else B := by
  rw [decide_eq_false hp]
  exact iteF h
theorem iteNN {p A B : Prop} [Decidable p] (hp : ¬ p) (h : A) : if (!decide p) = true then A else B := by
  rw [decide_eq_false hp]
  exact iteT h
theorem iteB {b : Bool} {A B : Prop} (h1 : b = true → A) (h2 : b = false → B) : if b = true then A else B := by
  cases b with
  | true => exact iteT (h1 rfl)
  | false => exact iteF (h2 rfl)
theorem strNe {x y : Str} (h : x ≠ y) : ¬ (V.str x = V.str y) := fun z => h (by injection z)
section
variable {P : Program} {w : World} {K : PySem.W.Frag} {mg : Str → Option Value} {base : Heap} {a : Ads}
/-! ### Store.__contains__ -/
def spContains (K : PySem.W.Frag) (a : Ads) : Sp := fun vs H Q _ => ∃ st eds k n v, vs = [.ref st, .ref k] ∧ StoreAt K a H st eds ∧ H k = some (.tup [.str (nm n), .int v]) ∧ Q (.bl (n && verOk eds v)) H
theorem scContains : FnScope ["self", "key"] ["self", "key"] (defScope s_Store_contains) := ⟨rfl, rfl, rfl, by decide +kernel, rfl, by decide +kernel, by decide +kernel⟩
theorem known_isSome {H : Hp} {es : List Addr} {eds : List Ed} (h : EdsAt K a H es eds) (n : Bool) (v : Int) : (valV (kvsOf es eds) ([.inr (nm n), .inl v] : List Key)).isSome = (n && verOk eds v) := by
  cases n with
  | false =>
    rw [h.no]
    · rfl
    · intro u _ z
      injection z with z _
      injection z with z
      exact app_web z.symm
  | true =>
    cases hv : edAt eds v with
    | some ed =>
      obtain ⟨e, _, e2⟩ := h.at hv
      have e3 : valV (kvsOf es eds) ([.inr (nm true), .inl v] : List Key) = some (.ref e) := e2
      rw [e3]
      simp [verOk, hv]
    | none =>
      rw [h.no]
      · simp [verOk, hv]
      · intro u hu z
        injection z with _ z
        injection z with z _
        injection z with z
        subst z
        simp [verOk, hv] at hu
theorem m_contains (T : TX K mg a) : Met P w K mg base 1 a.st "__contains__" (spContains K a) [] := by
  refine metF T.cl_st T.m_st_contains (fun _ _ _ _ _ _ us hl => match us, hl with | [_, _], _ => rfl) scContains (fun vs H Q E h => ?_) fun f cdv A outer s H vs Q E hr h => ?_
  · obtain ⟨st, eds, k, n, v, rfl, _⟩ := h
    rfl
  · obtain ⟨st, eds, k, n, v, rfl, ⟨dx, d, es, g1, g2, g3⟩, hk, q⟩ := h
    have hu := hu_of hr
    refine ⟨_, pss_one (ps_ret (pe_cmp (pc_din hu (pv 1) (pe_fld (pv 0) rfl)))), ?_⟩
    refine ⟨_, rfl, _, rfl, st, a.st, dx, _, _, rfl, g1, T.cl_st, T.no_st_known, rfl, d, _, rfl, dget_t (k := [.inr (nm n), .inl v]) (.inl g2) hk, ?_⟩
    rw [known_isSome g3]
    exact q
/-! ### is_state -/
def spIsState (K : PySem.W.Frag) (a : Ads) : Sp := fun vs H Q _ => ∃ st eds t s, vs = [.ref st, .str app, .ref t] ∧ StoreAt K a H st eds ∧ SqT K H t (stV s) ∧ StOk eds s ∧ ∀ H', Ex H H' → Q (.bl true) H'
theorem scIsState : FnScope ["store", "name", "state", "status", "version", "done"] ["store", "name", "state"] (defScope s_is_state) := ⟨rfl, rfl, rfl, by decide +kernel, rfl, by decide +kernel, by decide +kernel⟩
theorem statuses_in (s : Sta) : NestedKey.text s.txt ∈ [NestedKey.text "absent", .text "failed", .text "half", .text "left", .text "ready", .text "unpacked"] := by cases s <;> decide +kernel
theorem c_is_state (T : TX K mg a) : Cal P w K mg base 2 "is_state" (spIsState K a) [] := by
  refine calF T.d_is_state (fun _ _ _ _ _ _ us hl => match us, hl with | [_, _, _], _ => rfl) scIsState (fun vs H Q E h => ?_) fun f cdv A outer s H vs Q E hr h => ?_
  · obtain ⟨st, eds, t, s, rfl, _⟩ := h
    rfl
  · obtain ⟨st, eds, t, s, rfl, S, h3, hs, k⟩ := h
    obtain ⟨dx, d, es, g1, g2, g3⟩ := id S
    have hu := hu_of hr
    obtain ⟨pS, gS, sS⟩ := T.g_STATUSES
    obtain ⟨pN, gN, sN⟩ := T.g_NOTHING
    have hm := m_contains (P := P) (w := w) (base := base) T
    refine ⟨_, pss_cons (ps_asg (pv 2) (pg_tup rfl (pgs_cons (pg_name (i := 3) scIsState.nd rfl (Or.inl rfl)) (pgs_cons (pg_name (i := 4) scIsState.nd rfl (Or.inl rfl)) (pgs_cons (pg_name (i := 5) scIsState.nd rfl (Or.inl rfl)) pgs_nil)))))
      (pss_cons (ps_if (pt_cmpR op_eq (pv 3) (pe_gs T.g_ABSENT) (nomark _)) (pss_one (ps_ret (pe_cmpR (op_eqN hr.units) (pv 2) (pe_gt gN) (nomark _)))) pss_nil)
      (pss_cons (ps_if (pw_or (pt_cmpR (op_ninN hr.units) (pv 3) (pe_gt gS) rfl) (pw_or (pt_cmpR (op_ninM hm hr (by decide)) (pe_tup (pa_cons (pv 1) (pa_cons (pv 4) pa_nil))) (pv 0) rfl)
          (pw_or1 (pw_and (pt_cmpR op_ne (pv 5) pe_int (nomark _)) (pw_and1 (pt_cmpR (op_ninM hm hr (by decide)) (pe_tup (pa_cons (pv 1) (pa_cons (pv 5) pa_nil))) (pv 0) rfl))).pt))).pt pss_never pss_nil)
      (pss_one (ps_ret (pe_or (pe_cmpR op_ne (pv 3) (pe_gs T.g_READY) (nomark _)) (pe_one (pe_cmpR op_eq (pv 5) (pv 4) (nomark _)))))))), ?_⟩
    refine ⟨_, rfl, t, _, rfl, h3, rfl, _, _, rfl, _, _, rfl, _, _, rfl, rfl, ?_⟩
    refine ⟨_, rfl, rfl, _, rfl, ?_⟩
    rcases hs.ok with rfl | ⟨ha, hv, hd, hre⟩
    · refine iteP rfl ?_
      refine ⟨_, rfl, _, _, .tup h3 (.cons (.text _) (.cons (.num _) (.cons (.num _) .nil))), .tup (sN H) (.cons (.text _) (.cons (.num _) (.cons (.num _) .nil))), by decide, ?_⟩
      exact k H (Ex.refl _)
    · refine iteN (strNe fun z => ha (sta_inj _ .absent z)) ?_
      refine ⟨_, rfl, _, pS, _, [.text "absent", .text "failed", .text "half", .text "left", .text "ready", .text "unpacked"], rfl, .inr (sS H), nk_sta s.a, .cons (.text _) (.cons (.text _) (.cons (.text _) (.cons (.text _) (.cons (.text _) (.cons (.text _) .nil))))), Nat.zero_le _, ?_⟩
      refine ⟨_, rfl, iteNS (statuses_in s.a) ?_⟩
      refine ⟨_, rfl, _, rfl, (by show 2 ≤ sizeLine; decide), fun p hp => ?_⟩
      have e1 : Ex H (upd H p (.tup [.str app, .int s.v])) := Ex.new hp
      refine ⟨_, rfl, st, dx, _, rfl, e1 _ _ g1, st, eds, p, true, s.v, rfl, S.fz (Fz.ex e1), upd_same, _, rfl, ?_⟩
      rw [hv]
      refine ⟨_, rfl, iteF ?_⟩
      refine ⟨_, rfl, rfl, _, rfl, ?_⟩
      have e0 : Ex H (upd H p (.tup [.str app, .int s.v])) := e1
      generalize upd H p (.tup [.str app, .int s.v]) = H1 at e0 ⊢
      have last : ∀ H', Ex H H' → tRet (tOrV (tOp rNe (tVar 3) (tC (.str "ready"))) (tOp rEq (tVar 5) (tVar 4))) { nx := fun _ H' => Q .non H', rt := Q } [some (.ref st), some (.str app), some (.ref t), some (.str s.a.txt), some (.int s.v), some (.int s.d)] H' := fun H' e => by
        refine ⟨_, rfl, rfl, _, rfl, ?_⟩
        by_cases c : s.a = .ready
        · refine iteNS (by rw [c] <;> rfl) ?_
          refine ⟨_, rfl, _, rfl, rfl, ?_⟩
          rw [decide_eq_true (show V.int s.d = V.int s.v by rw [hre c])]
          exact k H' e
        · refine iteNN (strNe fun z => c (sta_inj _ .ready z)) ?_
          exact k H' e
      by_cases c : s.d = 0
      · refine iteNS (show V.int s.d = V.int 0 by rw [c]) ?_
        exact iteF (last H1 e0)
      · refine iteNN (fun z => c (by injection z)) ?_
        have hv2 : verOk eds s.d = true := hd.resolve_left c
        refine ⟨_, rfl, _, rfl, (by show 2 ≤ sizeLine; decide), fun q hq => ?_⟩
        have e2 : Ex H (upd H1 q (.tup [.str app, .int s.d])) := e0.trans (Ex.new hq)
        refine ⟨_, rfl, st, dx, _, rfl, e2 _ _ g1, st, eds, q, true, s.d, rfl, S.fz (Fz.ex e2), upd_same, _, rfl, ?_⟩
        rw [hv2]
        exact ⟨_, rfl, iteF (last _ e2)⟩
end
end Hs
end
section
set_option Elab.async false
set_option linter.all false
set_option maxRecDepth 100000
set_option maxHeartbeats 4000000
namespace Hs
open PySem PySem.Spec PyProof.Rows L2
open C8 (Cal Met Mak InsC pe_c pe_mk pe_mt pe_mt0 pe_gc call_isC)
open Evl (Ex)
/-- a refusal, or None -/
def RefV (b : Bool) (v : V) : Prop := if b = true then ∃ q, v = .ref q else v = .non
theorem edAt_mem {eds : List Ed} {v : Int} {ed : Ed} (h : edAt eds v = some ed) : ed ∈ eds ∧ ed.v = v := by
  unfold edAt at h
  exact ⟨List.mem_of_find?_eq_some h, by simpa using List.find?_some h⟩
theorem refV_t {b : Bool} {q : Addr} (h : b = true) : RefV b (.ref q) := by
  unfold RefV
  rw [if_pos h]
  exact ⟨q, rfl⟩
theorem refV_f {b : Bool} (h : b = false) : RefV b .non := by
  unfold RefV
  rw [h, if_neg (by decide)]
section
variable {P : Program} {w : World} {K : PySem.W.Frag} {mg : Str → Option Value} {base : Heap} {a : Ads}
/-! ### unpack_refusal -/
def spUnpackRefusal (K : PySem.W.Frag) (a : Ads) : Sp := fun vs H Q _ => ∃ y st s eds n v, vs = [.ref y, .str (nm n), .int v] ∧ SysOp K a H st y s ∧ StoreAt K a H st eds ∧ EdsOk eds ∧
  ∀ r H', Ex H H' → RefV (refu eds s (.unpack n v)) r → Q r H'
theorem scUnpackRefusal : FnScope ["system", "name", "version", "status", "old", "done", "edition", "other"] ["system", "name", "version"] (defScope s_unpack_refusal) := ⟨rfl, rfl, rfl, by decide +kernel, rfl, by decide +kernel, by decide +kernel⟩
theorem three_in (s : Sta) : decide (NestedKey.text s.txt ∈ [NestedKey.text "failed", .text "ready", .text "unpacked"]) = (decide (s = .failed) || decide (s = .ready) || decide (s = .unpacked)) := by cases s <;> decide +kernel
theorem c_unpack_refusal (T : TX K mg a) : Cal P w K mg base 3 "unpack_refusal" (spUnpackRefusal K a) [] := by
  refine calF T.d_unpack_refusal (fun _ _ _ _ _ _ us hl => match us, hl with | [_, _, _], _ => rfl) scUnpackRefusal (fun vs H Q E h => ?_) fun f cdv A outer s H vs Q E hr h => ?_
  · obtain ⟨y, st, s, eds, n, v, rfl, _⟩ := h
    rfl
  · obtain ⟨y, st, s, eds, n, v, rfl, Sy, S, ok, k⟩ := h
    obtain ⟨dx, r, t, h1, h2, h3⟩ := id Sy
    obtain ⟨dz, d, es, g1, g2, g3⟩ := id S
    have hu := hu_of hr
    have hm := m_contains (P := P) (w := w) (base := base) T
    have hl := c_lacking (P := P) (w := w) (base := base) T
    have hh := c_hostile (P := P) (w := w) (base := base) T
    refine ⟨_, pss_cons (ps_if (pt_cmpR (op_ninM hm hr (by decide)) (pe_tup (pa_cons (pv 1) (pa_cons (pv 2) pa_nil))) (pe_fld (pv 0) rfl) rfl) (pss_one (ps_ret (pe_tup (pa_cons pe_str pa_nil)))) pss_nil)
      (pss_cons (ps_asg (pe_dget hu (pe_fld (pv 0) rfl) (pv 1) (fun _ _ => rfl)) (pg_tup rfl (pgs_cons (pg_name (i := 3) scUnpackRefusal.nd rfl (Or.inl rfl)) (pgs_cons (pg_name (i := 4) scUnpackRefusal.nd rfl (Or.inl rfl)) (pgs_cons (pg_name (i := 5) scUnpackRefusal.nd rfl (Or.inl rfl)) pgs_nil)))))
      (Evl.pss_cut (ps_if (pw_and (pt_cmpR (op_inN hr.units) (pv 3) (pe_tup (pa_cons (pe_gs T.g_FAILED) (pa_cons (pe_gs T.g_READY) (pa_cons (pe_gs T.g_UNPACKED) pa_nil)))) rfl) (pw_and1 (pt_cmpR op_eq (pv 4) (pv 2) (nomark _)))).pt (pss_one (ps_ret (pe_tup (pa_cons pe_str pa_nil)))) pss_nil)
      (pss_cons (ps_set (i := 6) scUnpackRefusal.nd rfl (Or.inl rfl) (pe_dget hu (pe_fld (pe_fld (pv 0) rfl) rfl) (pe_tup (pa_cons (pv 1) (pa_cons (pv 2) pa_nil))) (fun _ _ => rfl)))
      (pss_cons (ps_if (pt_cmp (pc_notN (pe_c hl hr (by decide) rfl (pa_cons (pv 0) (pa_cons (pe_fld (pv 6) rfl) pa_nil))))) (pss_one (ps_ret (pe_tup (pa_cons pe_str (pa_cons (pe_c hl hr (by decide) rfl (pa_cons (pv 0) (pa_cons (pe_fld (pv 6) rfl) pa_nil))) pa_nil))))) pss_nil)
      (pss_cons (ps_set (i := 7) scUnpackRefusal.nd rfl (Or.inl rfl) (pe_c hh hr (by decide) rfl (pa_cons (pv 0) (pa_cons (pv 6) pa_nil))))
      (pss_one (ps_ret (pe_ifExp (pt_cmp (pc_notN (pv 7))) pe_dead pe_non)))))))), ?_⟩
    have two : ∀ p : Addr, (2 : Nat) ≤ sizeLine := fun _ => by decide
    refine ⟨_, rfl, _, rfl, (by show 2 ≤ sizeLine; decide), fun p hp => ?_⟩
    have e1 : Ex H (upd H p (.tup [.str (nm n), .int v])) := Ex.new hp
    refine ⟨_, rfl, y, a.sy, dx, _, _, rfl, e1 _ _ h1, T.cl_sy, T.no_sy_base, rfl, st, dz, _, rfl, e1 _ _ g1, st, eds, p, n, v, rfl, S.fz (Fz.ex e1), upd_same, _, rfl, _, rfl, ?_⟩
    generalize upd H p (.tup [.str (nm n), .int v]) = H1 at e1 ⊢
    refine iteB (fun c => ?_) fun c => ?_
    · have c2 : (n && verOk eds v) = false := by revert c; cases (n && verOk eds v) <;> simp
      exact ⟨(by show 1 ≤ sizeLine; decide), fun q hq => k _ _ (e1.trans (Ex.new hq)) (refV_t (by simp only [refu, c2]; rfl))⟩
    have c2 : (n && verOk eds v) = true := by revert c; cases (n && verOk eds v) <;> simp
    obtain ⟨rfl, hv⟩ := Bool.and_eq_true_iff.mp c2
    obtain ⟨ed, hed⟩ := Option.isSome_iff_exists.mp hv
    refine ⟨_, rfl, y, a.sy, dx, _, _, rfl, e1 _ _ h1, T.cl_sy, T.no_sy_rows, rfl, _, rfl, r, _, rfl, dget_k (k := Sum.inr app) (.inl (e1 _ _ h2)), ?_⟩
    refine ⟨t, _, rfl, fz_t (Fz.ex e1) h3, rfl, _, _, rfl, _, _, rfl, _, _, rfl, rfl, ?_⟩
    refine ⟨fun σ' H' => σ' = [some (.ref y), some (.str app), some (.int v), some (.str s.a.txt), some (.int s.v), some (.int s.d), none, none] ∧ Ex H H' ∧ ((decide (s.a = .failed) || decide (s.a = .ready) || decide (s.a = .unpacked)) && decide (s.v = v)) = false, ?_, ?_⟩
    · refine ⟨_, rfl, (by show 3 ≤ sizeLine; decide), fun q hq => ?_⟩
      have e2 : Ex H (upd H1 q (.tup [.str "failed", .str "ready", .str "unpacked"])) := e1.trans (Ex.new hq)
      refine ⟨_, q, _, [.text "failed", .text "ready", .text "unpacked"], rfl, .inr (.inl (.inl upd_same)), nk_sta s.a, .cons (.text _) (.cons (.text _) (.cons (.text _) .nil)), Nat.zero_le _, _, rfl, ?_⟩
      rw [if_neg (by decide), three_in]
      generalize upd H1 q (.tup [.str "failed", .str "ready", .str "unpacked"]) = H2 at e2 ⊢
      refine iteB (fun c3 => ?_) fun c3 => ?_
      · refine ⟨_, rfl, _, rfl, rfl, _, rfl, ?_⟩
        by_cases c4 : s.v = v
        · refine iteP (by rw [c4]) ?_
          exact ⟨(by show 1 ≤ sizeLine; decide), fun q hq => k _ _ (e2.trans (Ex.new hq)) (refV_t (by simp only [refu, c2, c3, c4]; simp))⟩
        · refine iteN (fun z => c4 (by injection z)) ?_
          exact ⟨rfl, e2, by rw [decide_eq_false c4, Bool.and_false]⟩
      · exact iteF ⟨rfl, e2, by rw [c3, Bool.false_and]⟩
    · rintro σ' H2 ⟨rfl, e2, same⟩
      refine ⟨_, rfl, y, a.sy, dx, _, _, rfl, e2 _ _ h1, T.cl_sy, T.no_sy_base, rfl, st, a.st, dz, _, _, rfl, e2 _ _ g1, T.cl_st, T.no_st_known, rfl, _, rfl, _, rfl, (by show 2 ≤ sizeLine; decide), fun p2 hp2 => ?_⟩
      have e3 : Ex H (upd H2 p2 (.tup [.str app, .int v])) := e2.trans (Ex.new hp2)
      obtain ⟨e, he, hval⟩ := (g3.fz (Fz.ex e3)).at hed
      refine ⟨d, .ref e, rfl, ?_, ?_⟩
      · rw [← hval]
        exact dget_t (k := [.inr app, .inl v]) (.inl (e3 _ _ g2)) upd_same
      generalize upd H2 p2 (.tup [.str app, .int v]) = H3 at e3 he ⊢
      obtain ⟨dw, hs, ws, as, sh, he1, he2, he3, he4, he5⟩ := id he
      have hln : ed.asks.length ≤ 100 := Nat.le_trans (ok.asks ed (edAt_mem hed).1) (by decide)
      refine ⟨_, rfl, _, rfl, e, a.ed, dw, _, _, rfl, he1, T.cl_ed, T.no_ed_asks, rfl, y, st, s, as, ed.asks, rfl, (Sy.fz (Fz.ex e3)).at, he4, hln, fun x H4 e4 hx => ?_⟩
      have ha : asksAt eds v = ed.asks := by simp [asksAt, hed]
      cases hz : ed.asks.isEmpty with
      | false =>
        rw [hz, if_neg (by decide)] at hx
        subst hx
        refine ⟨_, rfl, iteNN (fun z => nomatch z) ?_⟩
        refine ⟨_, rfl, _, rfl, e, a.ed, dw, _, _, rfl, e4 _ _ he1, T.cl_ed, T.no_ed_asks, rfl, y, st, s, as, ed.asks, rfl, (Sy.fz (Fz.ex (e3.trans e4))).at, he4.fz (Fz.ex e4), hln, fun x5 H5 e5 hx5 => ?_⟩
        exact ⟨(by show 2 ≤ sizeLine; decide), fun q hq => k _ _ (((e3.trans e4).trans e5).trans (Ex.new hq)) (refV_t (by simp only [refu, ha, hz]; simp))⟩
      | true =>
        rw [hz, if_pos rfl] at hx
        subst hx
        refine ⟨_, rfl, iteNS rfl ?_⟩
        refine ⟨_, rfl, _, rfl, y, st, s, e, ed, rfl, Sy.fz (Fz.ex (e3.trans e4)), he.fz (Fz.ex e4), fun H5 e5 => ?_⟩
        refine ⟨_, rfl, _, rfl, iteNS rfl ?_⟩
        exact k _ _ ((e3.trans e4).trans e5) (refV_f (by simp only [refu, c2, same, ha, hz]; rfl))
end
end Hs
end
section
set_option Elab.async false
set_option linter.all false
set_option maxRecDepth 100000
set_option maxHeartbeats 4000000
namespace Hs
open PySem PySem.Spec PyProof.Rows L2
open C8 (Cal Met Mak InsC pe_c pe_mk pe_mt pe_mt0 pe_gc call_isC)
open Evl (Ex)
theorem yes_ok {A B : Hp → Prop} {σ : L2.St} {H : Hp} (h : A H) : tYes σ H (fun b H3 => if b = true then A H3 else B H3) := by
  show if true = true then A H else B H
  rw [if_pos rfl]
  exact h
theorem pe_cc {X : Cx} {k j : Nat} {x : Str} {sp : Sp} {dvs : List V} {p pos : Pos} {e : Expr} {es : List Expr} {t : TA} (c : Cal X.prog X.w X.K X.mg X.base k x sp dvs) (hr : Room j X.A) (ha : PA X (e :: es) t) (hk : k ≤ j := by decide) (hg : Gl X x := by rfl)
    (hdb : (x == ("__debug__" : Str)) = false := by decide) (he : starEach (e :: es) X.env = (false, eval e X.env) :: starEach es X.env := by rfl) (hpl : (backTo pos (starEach es X.env)).any (·.1) = false := by rfl) :
    PE X (.Call (.Name x p) (e :: es) [] pos) (tCall sp dvs E0 t) := pe_c c hr hk hg ha hdb he hpl
theorem pe_fldK {X : Cx} (K : PySem.W.Frag) {e : Expr} {ta : TE} {f : Str} {pos : Pos} (hK : X.K = K) (he : PE X e ta) (hb : attributeBase e f X.env (eval e X.env) = eval e X.env) : PE X (.Attribute e f pos) (tFld K ta f) := hK ▸ pe_fld he hb
section
variable {P : Program} {w : World} {K : PySem.W.Frag} {mg : Str → Option Value} {base : Heap} {a : Ads}
theorem StOk.ed {eds : List Ed} {s : St} (h : StOk eds s) (ha : s.a ≠ .absent) : ∃ ed, edAt eds s.v = some ed := Option.isSome_iff_exists.mp (h.ver ha)
theorem two_in (s : Sta) : decide (NestedKey.text s.txt ∈ [NestedKey.text "failed", .text "unpacked"]) = (decide (s = .failed) || decide (s = .unpacked)) := by cases s <;> decide +kernel
/-! ### setup_refusal -/
def spSetupRefusal (K : PySem.W.Frag) (a : Ads) : Sp := fun vs H Q _ => ∃ y st s eds, vs = [.ref y, .str app] ∧ SysOp K a H st y s ∧ StoreAt K a H st eds ∧ EdsOk eds ∧ StOk eds s ∧
  ∀ r H', Ex H H' → RefV (refu eds s (.setup true)) r → Q r H'
theorem scSetupRefusal : FnScope ["system", "name", "other"] ["system", "name"] (defScope s_setup_refusal) := ⟨rfl, rfl, rfl, by decide +kernel, rfl, by decide +kernel, by decide +kernel⟩
theorem c_setup_refusal (T : TX K mg a) : Cal P w K mg base 3 "setup_refusal" (spSetupRefusal K a) [] := by
  refine calF T.d_setup_refusal (fun _ _ _ _ _ _ us hl => match us, hl with | [_, _], _ => rfl) scSetupRefusal (fun vs H Q E h => ?_) fun f cdv A outer s H vs Q E hr h => ?_
  · obtain ⟨y, st, s, eds, rfl, _⟩ := h
    rfl
  · obtain ⟨y, st, s, eds, rfl, Sy, S, ok, hs, k⟩ := h
    obtain ⟨dx, r, t, h1, h2, h3⟩ := id Sy
    have hu := hu_of hr
    have hl := c_lacking (P := P) (w := w) (base := base) T
    have he := c_edition_in (P := P) (w := w) (base := base) T
    refine ⟨_, pss_cons (ps_if (pt_cmpR (op_ninN hr.units) (pe_ix ix_tup (pe_dget hu (pe_fld (pv 0) rfl) (pv 1) (fun _ _ => rfl)) pe_int (fun _ _ => rfl)) (pe_tup (pa_cons (pe_gs T.g_FAILED) (pa_cons (pe_gs T.g_UNPACKED) pa_nil))) rfl) (pss_one (ps_ret (pe_tup (pa_cons pe_str pa_nil)))) pss_nil)
      (pss_cons (ps_set (i := 2) scSetupRefusal.nd rfl (Or.inl rfl) (pe_cc hl hr (pa_cons (pv 0) (pa_cons (pe_fld (pe_cc he hr (pa_cons (pv 0) (pa_cons (pv 1) pa_nil))) rfl) pa_nil))))
      (pss_one (ps_ret (pe_ifExp (pt_cmp (pc_notN (pv 2))) (pe_tup (pa_cons pe_str (pa_cons (pv 2) pa_nil))) pe_non)))), ?_⟩
    refine ⟨_, rfl, y, a.sy, dx, _, _, rfl, h1, T.cl_sy, T.no_sy_rows, rfl, _, rfl, r, _, rfl, dget_k (k := Sum.inr app) (.inl h2), t, _, 0, _, rfl, rfl, h3, rfl, (by show 2 ≤ sizeLine; decide), fun q hq => ?_⟩
    have e2 : Ex H (upd H q (.tup [.str "failed", .str "unpacked"])) := Ex.new hq
    refine ⟨_, q, _, [.text "failed", .text "unpacked"], rfl, .inr (.inl (.inl upd_same)), nk_sta s.a, .cons (.text _) (.cons (.text _) .nil), Nat.zero_le _, _, rfl, ?_⟩
    rw [if_pos rfl, two_in]
    generalize upd H q (.tup [.str "failed", .str "unpacked"]) = H2 at e2 ⊢
    refine iteB (fun c => ?_) fun c => ?_
    · exact ⟨(by show 1 ≤ sizeLine; decide), fun q hq => k _ _ (e2.trans (Ex.new hq)) (refV_t (by simp only [refu, c]; simp))⟩
    have c2 : (decide (s.a = .failed) || decide (s.a = .unpacked)) = true := by revert c; cases (decide (s.a = .failed) || decide (s.a = .unpacked)) <;> simp
    have hab : s.a ≠ .absent := fun z => by
      rw [z] at c2
      exact absurd c2 (by decide)
    obtain ⟨ed, hed⟩ := hs.ed hab
    refine ⟨_, rfl, _, rfl, _, rfl, y, st, s, eds, ed, rfl, (Sy.fz (Fz.ex e2)).at, S.fz (Fz.ex e2), hed, fun e H3 hE e3 => ?_⟩
    obtain ⟨dw, hs', ws, as, sh, he1, he2, he3, he4, he5⟩ := id hE
    have hln : ed.wants.length ≤ 100 := Nat.le_trans (ok.wants ed (edAt_mem hed).1) (by decide)
    refine ⟨e, a.ed, dw, _, _, rfl, he1, T.cl_ed, T.no_ed_wants, rfl, y, st, s, ws, ed.wants, rfl, (Sy.fz (Fz.ex (e2.trans e3))).at, he3, hln, fun x H4 e4 hx => ?_⟩
    have ha : wantsAt eds s.v = ed.wants := by simp [wantsAt, hed]
    cases hz : ed.wants.isEmpty with
    | false =>
      rw [hz, if_neg (by decide)] at hx
      subst hx
      refine ⟨_, rfl, _, rfl, iteNN (fun z => nomatch z) ?_⟩
      exact ⟨_, rfl, (by show 2 ≤ sizeLine; decide), fun q hq => k _ _ (((e2.trans e3).trans e4).trans (Ex.new hq)) (refV_t (by simp only [refu, ha, hz]; simp))⟩
    | true =>
      rw [hz, if_pos rfl] at hx
      subst hx
      refine ⟨_, rfl, _, rfl, iteNS rfl ?_⟩
      exact k _ _ ((e2.trans e3).trans e4) (refV_f (by simp only [refu, c2, ha, hz]; rfl))
/-! ### remove_refusal -/
def spRemoveRefusal (K : PySem.W.Frag) (a : Ads) : Sp := fun vs H Q _ => ∃ y st s eds, vs = [.ref y, .str app] ∧ SysOp K a H st y s ∧ StoreAt K a H st eds ∧ EdsOk eds ∧ StOk eds s ∧
  ∀ r H', Ex H H' → RefV (refu eds s (.remove true)) r → Q r H'
theorem scRemoveRefusal : FnScope ["system", "name", "other", "need"] ["system", "name"] (defScope s_remove_refusal) := ⟨rfl, rfl, rfl, by decide +kernel, rfl, by decide +kernel, by decide +kernel⟩
theorem c_remove_refusal (T : TX K mg a) : Cal P w K mg base 2 "remove_refusal" (spRemoveRefusal K a) [] := by
  refine calF T.d_remove_refusal (fun _ _ _ _ _ _ us hl => match us, hl with | [_, _], _ => rfl) scRemoveRefusal (fun vs H Q E h => ?_) fun f cdv A outer s H vs Q E hr h => ?_
  · obtain ⟨y, st, s, eds, rfl, _⟩ := h
    rfl
  · obtain ⟨y, st, s, eds, rfl, Sy, S, ok, hs, k⟩ := h
    obtain ⟨dx, r, t, h1, h2, h3⟩ := id Sy
    have hu := hu_of hr
    have ht := c_is_there (P := P) (w := w) (base := base) T
    have he := c_edition_in (P := P) (w := w) (base := base) T
    refine ⟨_, pss_cons (ps_if (pt_not (pt_val (pe_cc ht hr (pa_cons (pv 0) (pa_cons (pv 1) pa_nil))))) (pss_one (ps_ret (pe_tup (pa_cons pe_str pa_nil)))) pss_nil)
      (pss_cons (ps_lock (ps_for PassesOwn.never rfl (pi_keys (pe_fld (pv 0) rfl)) (pg_name (i := 2) scRemoveRefusal.nd rfl (Or.inl rfl))
        (pss_one (ps_if (pw_and (pt_cmpR op_eq (pe_ix ix_tup (pe_dget hu (pe_fld (pv 0) rfl) (pv 2) (fun _ _ => rfl)) pe_int (fun _ _ => rfl)) (pe_gs T.g_READY) (nomark _))
          (pw_and1 (pt_cmpR (op_inN hr.units) (pv 1) (pe_lc (own := [("need", 3)]) (g := gName 3) (tt := tYes) rfl scRemoveRefusal.nd (pi_tup (pe_fld (pe_cc he hr (pa_cons (pv 0) (pa_cons (pv 2) pa_nil))) rfl))
            (blkOk_by (N := ["system", "name", "other", "need"]) (sc := defScope s_remove_refusal) (by decide +kernel)) (fun _ _ _ _ _ => pg_name (i := 3) scRemoveRefusal.nd rfl (Or.inl rfl)) (fun _ _ _ _ _ => pts_nil)
            (fun _ _ _ _ _ => pe_ix (r := rIxT K) ix_tup (pv 3) pe_int (fun _ _ => rfl))) rfl))).pt pss_never pss_nil))))
      (pss_one (ps_ret pe_non))), ?_⟩
    refine ⟨_, rfl, _, rfl, y, st, s, true, rfl, Sy.at, _, rfl, ?_⟩
    have hc : (true && s.a.there) = s.a.there := rfl
    rw [hc]
    cases hth : s.a.there with
    | false => exact iteT ⟨(by show 1 ≤ sizeLine; decide), fun q hq => k _ _ (Ex.new hq) (refV_t (by simp only [refu, hth]; rfl))⟩
    | true =>
    refine iteF ?_
    have hab : s.a ≠ .absent := fun z => by
      rw [z] at hth
      cases hth
    obtain ⟨ed, hed⟩ := hs.ed hab
    refine ⟨r, .dK [(.inr app, .ref t)], h2, trivial, fun od => ?_⟩
    have lk : Lk H (upd H r (.frz od (.dK [(.inr app, .ref t)]))) := Lk.on h2 trivial
    have hex : ∀ H', Ex (upd H r (.frz od (.dK [(.inr app, .ref t)]))) H' → H' r = some (.frz od (.dK [(.inr app, .ref t)])) := fun H' e => e _ _ upd_same
    refine ⟨_, rfl, y, a.sy, dx, _, _, rfl, lk.ins _ _ _ _ h1, T.cl_sy, T.no_sy_rows, rfl, r, od, rfl, .inl ⟨_, upd_same, for_it walk_keys (fun _ σ H' => (∃ v, σ = [some (.ref y), some (.str app), v, none]) ∧ Ex (upd H r (.frz od (.dK [(.inr app, .ref t)]))) H')
      ⟨⟨none, rfl⟩, Ex.refl _⟩ (fun i σ H' _ q => hex _ q.2) ?_ ?_⟩⟩
    · rintro i x σ H' H'' hi ⟨⟨v, rfl⟩, e1⟩ ⟨rfl, k0, v0, hk, rfl⟩
      have hi0 : i = 0 := by
        simp only [List.length_cons, List.length_nil] at hi
        omega
      subst hi0
      obtain ⟨rfl, rfl⟩ : (.inr app : Key) = k0 ∧ V.ref t = v0 := by
        have z := Option.some.inj hk
        injection z with z1 z2
        exact ⟨z1, z2⟩
      have Sy1 : SysAt K a H'' st y s := (Sy.at.lk lk).fz (Fz.ex e1)
      have S1 : StoreAt K a H'' st eds := (S.lk lk).fz (Fz.ex e1)
      refine ⟨_, rfl, y, a.sy, dx, _, _, rfl, e1 _ _ (lk.ins _ _ _ _ h1), T.cl_sy, T.no_sy_rows, rfl, _, rfl, r, _, rfl, dget_k (k := Sum.inr app) (.inr ⟨od, hex _ e1⟩), t, _, 0, _, rfl, rfl, fz_t (Fz.ex e1) (lk.t h3), rfl, rfl, _, rfl, ?_⟩
      by_cases c : s.a = .ready
      · refine iteP (by rw [c] <;> rfl) ?_
        refine ⟨_, rfl, _, rfl, _, rfl, y, st, s, eds, ed, rfl, Sy1, S1, hed, fun e H3 hE e3 => ?_⟩
        obtain ⟨dw, hs', ws, as, sh, he1, he2, ⟨ts, hw1, hw2⟩, he4, he5⟩ := id hE
        refine ⟨e, a.ed, dw, _, _, rfl, he1, T.cl_ed, T.no_ed_wants, rfl, ws, rfl, ⟨_, hw1⟩, fun D hD => lc_tup (xs := ts.map V.ref) (fun i H' => Ex H3 H' ∧ H' D = some (.lst (List.replicate i (.str web)))) ⟨Ex.new hD, upd_same⟩ (fun i H' _ q => fz_t (Fz.ex q.1) hw1) ?_ ?_⟩
        · rintro i x H' hx ⟨e4, hd⟩
          obtain ⟨t', l, rfl, _, ht'⟩ := hw2.get hx
          have hil : i < ts.length := by
            have := (List.getElem?_eq_some_iff.mp hx).1
            rwa [List.length_map] at this
          have hlw : ts.length ≤ 1 := by rw [hw2.len]; exact ok.wants ed (edAt_mem hed).1
          refine ⟨rfl, yes_ok ?_⟩
          refine ⟨_, rfl, t', _, 0, _, rfl, rfl, fz_t (Fz.ex e4) ht', rfl, _, hd, (by rw [List.length_replicate, sizeLine_eq]; omega), e4.mut hD, ?_⟩
          rw [upd_same, ← List.replicate_succ'] <;> rfl
        · rintro H' ⟨e4, hd⟩
          refine ⟨_, D, _, List.replicate (ts.map V.ref).length (.text web), rfl, .inl (SqL.of hd), .text _, ?_, Nat.zero_le _, _, rfl, ?_⟩
          · generalize (ts.map V.ref).length = n
            induction n with
            | zero => exact .nil
            | succ n ih => exact .cons (.text _) ih
          · have hno : ¬ (NestedKey.text app ∈ List.replicate (ts.map V.ref).length (NestedKey.text web)) := fun z => by
              have z2 := (List.mem_replicate.mp z).2
              injection z2 with z2
              exact app_web z2
            rw [if_neg (by decide)]
            refine iteN hno ?_
            exact ⟨⟨_, rfl⟩, (e1.trans e3).trans e4⟩
      · refine iteN (strNe fun z => c (sta_inj _ .ready z)) ?_
        exact iteF ⟨⟨_, rfl⟩, e1⟩
    · rintro σ H' ⟨⟨v, rfl⟩, e1⟩
      exact ⟨hex _ e1, k _ _ (ex_lock h2 e1) (refV_f (by simp only [refu, hth]; rfl))⟩
end
end Hs
end
section
set_option Elab.async false
set_option linter.all false
set_option maxRecDepth 100000
set_option maxHeartbeats 4000000
namespace Hs
open PySem PySem.Spec PyProof.Rows L2
open C8 (Cal Met Mak InsC pe_c pe_mk pe_mt pe_mt0 pe_gc call_isC)
open Evl (Ex)
def Dd.word : Dd → Str
  | .unpack _ _ => "unpack"
  | .setup _ => "setup"
  | .remove _ => "remove"
  | .purge _ => "purge"
def Dd.name : Dd → Bool
  | .unpack n _ => n
  | .setup n => n
  | .remove n => n
  | .purge n => n
def ddV : Dd → List V
  | .unpack n v => [.str "unpack", .str (nm n), .int v]
  | .setup n => [.str "setup", .str (nm n)]
  | .remove n => [.str "remove", .str (nm n)]
  | .purge n => [.str "purge", .str (nm n)]
section
variable {P : Program} {w : World} {K : PySem.W.Frag} {mg : Str → Option Value} {base : Heap} {a : Ads}
theorem slice2 {H : Hp} {p : Addr} {d : Dd} {Q : VK} (h : SqT K H p (ddV d)) (k : ∀ q H', Ex H H' → SqT K H' q [.str d.word, .str (nm d.name)] → Q (.ref q) H') : rSlA K (.ref p) none (some 2) H Q := by
  refine ⟨p, _, rfl, h, fun c => ?_, fun c q hq => ?_⟩
  · cases d with
    | unpack n v => exact absurd c.2 (show ¬ HT.sIx 3 3 (some 2) = 3 by decide)
    | setup n => exact k p H (Ex.refl _) h
    | remove n => exact k p H (Ex.refl _) h
    | purge n => exact k p H (Ex.refl _) h
  · cases d with
    | unpack n v => exact k q _ (Ex.new hq) (.inl (.inl upd_same))
    | setup n => exact absurd ⟨rfl, rfl⟩ c
    | remove n => exact absurd ⟨rfl, rfl⟩ c
    | purge n => exact absurd ⟨rfl, rfl⟩ c
/-! ### refusal -/
def spRefusal (K : PySem.W.Frag) (a : Ads) : Sp := fun vs H Q _ => ∃ y st s eds p d, vs = [.ref y, .ref p] ∧ SysOp K a H st y s ∧ StoreAt K a H st eds ∧ EdsOk eds ∧ StOk eds s ∧ SqT K H p (ddV d) ∧
  ∀ r H', Ex H H' → RefV (refu eds s d) r → Q r H'
theorem scRefusal : FnScope ["system", "deed", "word", "name"] ["system", "deed"] (defScope s_refusal) := ⟨rfl, rfl, rfl, by decide +kernel, rfl, by decide +kernel, by decide +kernel⟩
theorem c_refusal (T : TX K mg a) : Cal P w K mg base 4 "refusal" (spRefusal K a) [] := by
  refine calF T.d_refusal (fun _ _ _ _ _ _ us hl => match us, hl with | [_, _], _ => rfl) scRefusal (fun vs H Q E h => ?_) fun f cdv A outer s H vs Q E hr h => ?_
  · obtain ⟨y, st, s, eds, p, d, rfl, _⟩ := h
    rfl
  · obtain ⟨y, st, s, eds, p, d, rfl, Sy, S, ok, hs, hp, k⟩ := h
    obtain ⟨dx, r, t, h1, h2, h3⟩ := id Sy
    have hu := hu_of hr
    have hU := c_unpack_refusal (P := P) (w := w) (base := base) T
    have hS := c_setup_refusal (P := P) (w := w) (base := base) T
    have hR := c_remove_refusal (P := P) (w := w) (base := base) T
    refine ⟨_, pss_cons (ps_asg (pe_slice sl_tupA (pv 1) po_none (po_some pe_int)) (pg_tup rfl (pgs_cons (pg_name (i := 2) scRefusal.nd rfl (Or.inl rfl)) (pgs_cons (pg_name (i := 3) scRefusal.nd rfl (Or.inl rfl)) pgs_nil))))
      (pss_cons (ps_if (pt_cmpR op_eq (pv 2) (pe_gs T.g_UNPACK) (nomark _)) (pss_one (ps_ret (pe_cc hU hr (pa_cons (pv 0) (pa_cons (pv 3) (pa_cons (pe_ix ix_tup (pv 1) pe_int (fun _ _ => rfl)) pa_nil)))))) pss_nil)
      (pss_cons (ps_if (pt_cmp (pc_dnotin hu (pv 3) (pe_fld (pv 0) rfl))) (pss_one (ps_ret (pe_tup (pa_cons pe_str pa_nil)))) pss_nil)
      (pss_cons (ps_if (pt_cmpR op_eq (pv 2) (pe_gs T.g_SETUP) (nomark _)) (pss_one (ps_ret (pe_cc hS hr (pa_cons (pv 0) (pa_cons (pv 3) pa_nil))))) pss_nil)
      (pss_cons (ps_if (pt_cmpR op_eq (pv 2) (pe_gs T.g_REMOVE) (nomark _)) (pss_one (ps_ret (pe_cc hR hr (pa_cons (pv 0) (pa_cons (pv 3) pa_nil))))) pss_nil)
      (pss_one (ps_ret (pe_ifExp (pt_cmpR op_ne (pe_ix ix_tup (pe_dget hu (pe_fld (pv 0) rfl) (pv 3) (fun _ _ => rfl)) pe_int (fun _ _ => rfl)) (pe_gs T.g_LEFT) (nomark _)) (pe_tup (pa_cons pe_str pa_nil)) pe_non))))))), ?_⟩
    refine ⟨_, rfl, _, rfl, slice2 hp fun q H1 e1 hq => ?_⟩
    refine ⟨q, _, rfl, hq, rfl, _, _, rfl, _, _, rfl, rfl, ?_⟩
    have Sy1 := Sy.fz (Fz.ex e1)
    have S1 := S.fz (Fz.ex e1)
    have hp1 := fz_t (Fz.ex e1) hp
    obtain ⟨dx, r, t, h1, h2, h3⟩ := id Sy1
    have k1 : ∀ r H', Ex H1 H' → RefV (refu eds s d) r → Q r H' := fun r H' e => k r H' (e1.trans e)
    have hno : ∀ n : Bool, (!(valV [((.inr app : Key), V.ref t)] (.inr (nm n))).isSome) = !n := fun n => by
      cases n with
      | false => rw [show nm false = web from rfl, val_web] <;> rfl
      | true => rfl
    refine ⟨_, rfl, rfl, _, rfl, ?_⟩
    cases d with
    | unpack n v =>
      refine iteP rfl ?_
      exact ⟨_, rfl, _, rfl, _, rfl, p, _, 2, _, rfl, rfl, hp1, rfl, y, st, s, eds, n, v, rfl, Sy1, S1, ok, k1⟩
    | setup n =>
      refine iteN (show ¬ (V.str "setup" = V.str "unpack") by decide +kernel) ?_
      refine ⟨_, rfl, _, rfl, y, a.sy, dx, _, _, rfl, h1, T.cl_sy, T.no_sy_rows, rfl, r, _, rfl, dget_k (k := Sum.inr (nm n)) (.inl h2), _, rfl, ?_⟩
      rw [hno]
      cases n with
      | false => exact iteT ⟨(by show 1 ≤ sizeLine; decide), fun q hq => k1 _ _ (Ex.new hq) (refV_t rfl)⟩
      | true =>
        refine iteF ?_
        refine ⟨_, rfl, rfl, _, rfl, iteP rfl ?_⟩
        exact ⟨_, rfl, _, rfl, y, st, s, eds, rfl, Sy1, S1, ok, hs, k1⟩
    | remove n =>
      refine iteN (show ¬ (V.str "remove" = V.str "unpack") by decide +kernel) ?_
      refine ⟨_, rfl, _, rfl, y, a.sy, dx, _, _, rfl, h1, T.cl_sy, T.no_sy_rows, rfl, r, _, rfl, dget_k (k := Sum.inr (nm n)) (.inl h2), _, rfl, ?_⟩
      rw [hno]
      cases n with
      | false => exact iteT ⟨(by show 1 ≤ sizeLine; decide), fun q hq => k1 _ _ (Ex.new hq) (refV_t rfl)⟩
      | true =>
        refine iteF ?_
        refine ⟨_, rfl, rfl, _, rfl, iteN (show ¬ (V.str "remove" = V.str "setup") by decide +kernel) ?_⟩
        refine ⟨_, rfl, rfl, _, rfl, iteP rfl ?_⟩
        exact ⟨_, rfl, _, rfl, y, st, s, eds, rfl, Sy1, S1, ok, hs, k1⟩
    | purge n =>
      refine iteN (show ¬ (V.str "purge" = V.str "unpack") by decide +kernel) ?_
      refine ⟨_, rfl, _, rfl, y, a.sy, dx, _, _, rfl, h1, T.cl_sy, T.no_sy_rows, rfl, r, _, rfl, dget_k (k := Sum.inr (nm n)) (.inl h2), _, rfl, ?_⟩
      rw [hno]
      cases n with
      | false => exact iteT ⟨(by show 1 ≤ sizeLine; decide), fun q hq => k1 _ _ (Ex.new hq) (refV_t rfl)⟩
      | true =>
        refine iteF ?_
        refine ⟨_, rfl, rfl, _, rfl, iteN (show ¬ (V.str "purge" = V.str "setup") by decide +kernel) ?_⟩
        refine ⟨_, rfl, rfl, _, rfl, iteN (show ¬ (V.str "purge" = V.str "remove") by decide +kernel) ?_⟩
        refine ⟨_, rfl, y, a.sy, dx, _, _, rfl, h1, T.cl_sy, T.no_sy_rows, rfl, _, rfl, r, _, rfl, dget_k (k := Sum.inr app) (.inl h2), t, _, 0, _, rfl, rfl, h3, rfl, rfl, _, rfl, ?_⟩
        by_cases c : s.a = .left
        · refine iteNS (by rw [c] <;> rfl) ?_
          exact k1 _ _ (Ex.refl _) (refV_f (by simp [refu, c]))
        · refine iteNN (strNe fun z => c (sta_inj _ .left z)) ?_
          exact ⟨(by show 1 ≤ sizeLine; decide), fun q hq => k1 _ _ (Ex.new hq) (refV_t (by simp [refu, c]))⟩
end
end Hs
end
section
set_option Elab.async false
set_option linter.all false
set_option maxRecDepth 100000
set_option maxHeartbeats 4000000
namespace Hs
open PySem PySem.Spec PyProof.Rows L2
open C8 (Cal Met Mak InsC pe_c pe_mk pe_mt pe_mt0 pe_gc call_isC)
open Evl (Ex)
/-! ### a run -/
abbrev clV (c : Cl) : List V := [.str app, .int c.v, .str c.w.txt, .str c.act.txt, .int c.n]
abbrev Fo (f : List Nat) : Nat → Bool := fun x => decide (x ∈ f)
section
variable (K : PySem.W.Frag) (a : Ads) (H : Hp)
inductive MdAt : List V → List (Cl × Bool) → Prop
  | nil : MdAt [] []
  | cons {p q : Addr} {c : Cl} {b : Bool} {ms : List V} {m : List (Cl × Bool)} : SqT K H p [.ref q, .bl b] → SqT K H q (clV c) → MdAt ms m → MdAt (.ref p :: ms) ((c, b) :: m)
/-- a Run stands at x -/
structure RunAt (x ml st : Addr) (eds : List Ed) (s : St) (f : List Nat) : Prop where
  ob : ∃ dx y fl, H x = some (.ins a.rn dx [("base", .ref y), ("fails", .ref fl), ("made", .ref ml)]) ∧ SysOp K a H st y s ∧ SqT K H fl (f.map fun (n : Nat) => V.int (n : Int))
  sto : StoreAt K a H st eds
end
section
variable {K : PySem.W.Frag} {a : Ads} {H H' : Hp}
theorem MdAt.fz (e : Fz H H') : ∀ {ms : List V} {m : List (Cl × Bool)}, MdAt K H ms m → MdAt K H' ms m
  | _, _, .nil => .nil
  | _, _, .cons h1 h2 h3 => .cons (fz_t e h1) (fz_t e h2) (MdAt.fz e h3)
theorem MdAt.app : ∀ {ms ms' : List V} {m m' : List (Cl × Bool)}, MdAt K H ms m → MdAt K H ms' m' → MdAt K H (ms ++ ms') (m ++ m')
  | _, _, _, _, .nil, h => h
  | _, _, _, _, .cons h1 h2 h3, h => .cons h1 h2 (MdAt.app h3 h)
theorem MdAt.len : ∀ {ms : List V} {m : List (Cl × Bool)}, MdAt K H ms m → ms.length = m.length
  | _, _, .nil => rfl
  | _, _, .cons _ _ h => congrArg Nat.succ (MdAt.len h)
theorem RunAt.fz {x ml st : Addr} {eds : List Ed} {s : St} {f : List Nat} (e : Fz H H') (h : RunAt K a H x ml st eds s f) : RunAt K a H' x ml st eds s f := by
  obtain ⟨dx, y, fl, h1, h2, h3⟩ := h.ob
  exact ⟨⟨dx, y, fl, e _ _ h1 rfl, h2.fz e, fz_t e h3⟩, h.sto.fz e⟩
end
/-- what a caller of a run's method wants -/
def KK {α : Type} (K : PySem.W.Frag) (ml : Addr) (H : Hp) (p : Pg α) (f : List Nat) (m : List (Cl × Bool)) (Rep : Hp → α → V → Prop) (Q : VK) : Prop :=
  ∀ v H' ms', ExB ml H H' → H' ml = some (.lst ms') → MdAt K H' ms' (m ++ (p.run (Fo f) m.length).2) → Rep H' (p.run (Fo f) m.length).1 v → Q v H'
theorem KK.next {α β : Type} {K : PySem.W.Frag} {ml : Addr} {H H1 : Hp} {p : Pg α} {g : α → Pg β} {f : List Nat} {m : List (Cl × Bool)} {Rep : Hp → β → V → Prop} {Q : VK} (k : KK K ml H (p.bind g) f m Rep Q) (e : ExB ml H H1) {b : α} {l : List (Cl × Bool)} (hp : p.run (Fo f) m.length = (b, l)) :
    KK K ml H1 (g b) f (m ++ l) Rep Q := fun v H' ms' e' hm hd hr => by
  refine k v H' ms' (e.trans e') hm ?_ ?_
  · rw [Pg.run_bind, hp]
    rw [List.length_append, List.append_assoc] at hd
    exact hd
  · rw [Pg.run_bind, hp]
    rw [List.length_append] at hr
    exact hr
theorem KK.mono {α : Type} {K : PySem.W.Frag} {ml : Addr} {H H1 : Hp} {p : Pg α} {f : List Nat} {m : List (Cl × Bool)} {Rep : Hp → α → V → Prop} {Q : VK} (k : KK K ml H p f m Rep Q) (e : ExB ml H H1) : KK K ml H1 p f m Rep Q :=
  fun v H' ms' e' => k v H' ms' (e.trans e')
theorem KK.ret {α : Type} {K : PySem.W.Frag} {ml : Addr} {H : Hp} {x : α} {f : List Nat} {m : List (Cl × Bool)} {Rep : Hp → α → V → Prop} {Q : VK} (k : KK K ml H (.ret x) f m Rep Q) {v : V} {H' : Hp} {ms : List V} (e : ExB ml H H') (hm : H' ml = some (.lst ms)) (hd : MdAt K H' ms m) (hr : Rep H' x v) : Q v H' :=
  k v H' ms e hm (by simpa [Pg.run] using hd) hr
abbrev RepB : Hp → Bool → V → Prop := fun _ b v => v = .bl b
def RepS (K : PySem.W.Frag) : Hp → St → V → Prop := fun H s v => ∃ t, v = .ref t ∧ SqT K H t (stV s)
theorem num_in (n : Nat) (f : List Nat) : decide (NestedKey.num (n : Int) ∈ f.map fun (x : Nat) => NestedKey.num (x : Int)) = Fo f n := by
  show _ = decide (n ∈ f)
  refine decide_eq_decide.mpr ⟨fun h => ?_, fun h => List.mem_map.mpr ⟨n, h, rfl⟩⟩
  obtain ⟨x, hx, e⟩ := List.mem_map.mp h
  injection e with e
  have : x = n := by omega
  rw [← this]
  exact hx
theorem nk_nums {K : PySem.W.Frag} {H : Hp} : ∀ f : List Nat, NkAll K H (f.map fun (n : Nat) => V.int (n : Int)) (f.map fun (n : Nat) => NestedKey.num (n : Int))
  | [] => .nil
  | n :: f => .cons (.num _) (nk_nums f)
theorem nk_wds {K : PySem.W.Frag} {H : Hp} : ∀ f : List Wd, NkAll K H (f.map fun n => V.str n.txt) (f.map fun n => NestedKey.text n.txt)
  | [] => .nil
  | n :: f => .cons (.text _) (nk_wds f)
theorem wd_in (w : Wd) (l : List Wd) : decide (NestedKey.text w.txt ∈ l.map fun x => NestedKey.text x.txt) = decide (w ∈ l) := by
  refine decide_eq_decide.mpr ⟨fun h => ?_, fun h => List.mem_map.mpr ⟨w, h, rfl⟩⟩
  obtain ⟨x, hx, e⟩ := List.mem_map.mp h
  injection e with e
  rw [← wd_inj _ _ e]
  exact hx
section
variable {P : Program} {w : World} {K : PySem.W.Frag} {mg : Str → Option Value} {base : Heap} {a : Ads}
/-! ### is_done -/
def spIsDone (K : PySem.W.Frag) (a : Ads) : Sp := fun vs H Q _ => ∃ x ml st eds s f v c wd act n ms m, vs = [.ref x, .str app, .int v, .ref c] ∧ RunAt K a H x ml st eds s f ∧ verOk eds v = true ∧ SqT K H c [.str (Wd.txt wd), .str (Act.txt act), .int n] ∧
  H ml = some (.lst ms) ∧ MdAt K H ms m ∧ m.length ≤ 1000 ∧ KK K ml H (isDone eds v wd act n) f m RepB Q
theorem scIsDone : FnScope ["self", "name", "version", "call", "has_failed"] ["self", "name", "version", "call"] (defScope s_Run_is_done) := ⟨rfl, rfl, rfl, by decide +kernel, rfl, by decide +kernel, by decide +kernel⟩
theorem m_is_done (T : TX K mg a) : Met P w K mg base 1 a.rn "is_done" (spIsDone K a) [] := by
  refine metF T.cl_rn T.m_rn_is_done (fun _ _ _ _ _ _ us hl => match us, hl with | [_, _, _, _], _ => rfl) scIsDone (fun vs H Q E h => ?_) fun fa cdv A outer s0 H vs Q E hr h => ?_
  · obtain ⟨x, ml, st, eds, s, f, v, c, wd, act, n, ms, m, rfl, _⟩ := h
    rfl
  · obtain ⟨x, ml, st, eds, s, f, v, c, wd, act, n, ms, m, rfl, R, hv, hc, hm, hd, hl, k⟩ := h
    obtain ⟨dx, y, fl, h1, Sy, h3⟩ := R.ob
    obtain ⟨dz, d, es, g1, g2, g3⟩ := id R.sto
    obtain ⟨dy, r, t, y1, y2, y3⟩ := id Sy
    obtain ⟨ed, hed⟩ := Option.isSome_iff_exists.mp hv
    have hu := hu_of hr
    refine ⟨_, pss_cons (ps_if (pt_cmpR (op_ninN hr.units) (pe_ix ix_tup (pv 3) pe_int (fun _ _ => rfl)) (pe_fld (pe_dget hu (pe_fld (pe_fld (pe_fld (pv 0) rfl) rfl) rfl) (pe_tup (pa_cons (pv 1) (pa_cons (pv 2) pa_nil))) (fun _ _ => rfl)) rfl) rfl) (pss_one (ps_ret pe_bl)) pss_nil)
      (pss_cons (ps_set (i := 4) scIsDone.nd rfl (Or.inl rfl) (pe_cmpR (op_inN hr.units) (pe_callB call_len_seq (by rfl) T.f_len PySem.boot_len (pa_cons (pe_fld (pv 0) rfl) pa_nil)) (pe_fld (pv 0) rfl) rfl))
      (pss_cons (ps_expr (pe_bm PySem.F.plainAttrs_list PySem.F.slot_list_append PySem.F.type_list_append mt_append (pe_fld (pv 0) rfl) (pa_cons (pe_tup (pa_cons (pe_tup (pa_cons (pv 1) (pa_cons (pv 2) (StX.pa_star (pv 3) pa_nil)))) (pa_cons (pv 4) pa_nil))) pa_nil)))
      (pss_one (ps_ret (pe_not (pv 4)))))), ?_⟩
    refine ⟨_, rfl, c, _, 0, _, rfl, rfl, hc, rfl, _, rfl, x, a.rn, dx, _, _, rfl, h1, T.cl_rn, T.no_rn_base, rfl, y, a.sy, dy, _, _, rfl, y1, T.cl_sy, T.no_sy_base, rfl, st, a.st, dz, _, _, rfl, g1, T.cl_st, T.no_st_known, rfl, _, rfl, _, rfl, (by show 2 ≤ sizeLine; decide), fun p hp => ?_⟩
    have e1 : Ex H (upd H p (.tup [.str app, .int v])) := Ex.new hp
    obtain ⟨e, he, hval⟩ := (g3.fz (Fz.ex e1)).at hed
    refine ⟨d, .ref e, rfl, ?_, ?_⟩
    · rw [← hval]
      exact dget_t (k := [.inr app, .inl v]) (.inl (e1 _ _ g2)) upd_same
    generalize upd H p (.tup [.str app, .int v]) = H1 at e1 he ⊢
    obtain ⟨dw, hs, ws, as, sh, he1, he2, he3, he4, he5⟩ := id he
    have hh : hasAt eds v = ed.has := by simp [hasAt, hed]
    refine ⟨e, a.ed, dw, _, _, rfl, he1, T.cl_ed, T.no_ed_has, rfl, _, hs, _, _, rfl, .inr he2, .text _, nk_wds ed.has, Nat.zero_le _, _, rfl, ?_⟩
    rw [if_pos rfl, wd_in]
    by_cases cw : wd ∈ ed.has
    · refine iteNS cw ?_
      refine ⟨_, rfl, x, a.rn, dx, _, _, rfl, e1 _ _ h1, T.cl_rn, T.no_rn_made, rfl, ml, ms, rfl, .inl (SqL.of (e1 _ _ hm)), ?_⟩
      refine ⟨_, rfl, x, a.rn, dx, _, _, rfl, e1 _ _ h1, T.cl_rn, T.no_rn_fails, rfl, _, fl, _, _, rfl, .inr (fz_t (Fz.ex e1) h3), .num _, nk_nums f, Nat.zero_le _, ?_⟩
      rw [if_neg (by decide), hd.len, num_in]
      refine ⟨_, rfl, x, a.rn, dx, _, _, rfl, e1 _ _ h1, T.cl_rn, T.no_rn_made, rfl, .inl ⟨rfl, _, SqL.of (e1 _ _ hm)⟩, ?_⟩
      refine ⟨_, rfl, _, rfl, _, rfl, c, _, rfl, .inl (fz_t (Fz.ex e1) hc), (by show 5 ≤ sizeLine; decide), fun q hq => ?_⟩
      refine ⟨_, rfl, (by show 2 ≤ sizeLine; decide), fun p2 hp2 => ?_⟩
      have e2 : Ex H1 (upd H1 q (.tup (clV ⟨v, wd, act, n⟩))) := Ex.new hq
      have e3 : Ex H1 (upd (upd H1 q (.tup (clV ⟨v, wd, act, n⟩))) p2 (.tup [.ref q, .bl (Fo f m.length)])) := e2.trans (Ex.new hp2)
      have nq : q ≠ p2 := fun z => by
        rw [← z, upd_same] at hp2
        cases hp2
      refine ⟨ml, ms, _, rfl, rfl, e3 _ _ (e1 _ _ hm), (by rw [hd.len, sizeLine_eq]; omega), ?_⟩
      refine ⟨_, rfl, _, rfl, ?_⟩
      have fz : Fz H (upd (upd (upd H1 q (.tup (clV ⟨v, wd, act, n⟩))) p2 (.tup [.ref q, .bl (Fo f m.length)])) ml (.lst (ms ++ [.ref p2]))) := (Fz.ex (e1.trans e3)).trans (Fz.put (e3 _ _ (e1 _ _ hm)) rfl)
      have hrun : (isDone eds v wd act n).run (Fo f) m.length = (!Fo f m.length, [(⟨v, wd, act, n⟩, Fo f m.length)]) := by
        unfold isDone
        rw [hh, if_pos cw] <;> rfl
      refine k _ _ _ ((ExB.ex (e1.trans e3)).trans ExB.put) upd_same ?_ (by rw [hrun])
      rw [hrun]
      have nm1 : p2 ≠ ml := fun z => by
        have z2 : (upd H1 q (.tup (clV ⟨v, wd, act, n⟩))) ml = none := by
          rw [← z]
          exact hp2
        rw [e2 _ _ (e1 _ _ hm)] at z2
        cases z2
      have nm2 : q ≠ ml := fun z => by
        rw [z, e1 _ _ hm] at hq
        cases hq
      refine (hd.fz fz).app (.cons (q := q) (.inl (.inl ?_)) (.inl (.inl ?_)) .nil)
      · rw [upd_ne nm1, upd_same]
      · rw [upd_ne nm2, upd_ne nq, upd_same]
    · refine iteNN cw ?_
      have hrun : (isDone eds v wd act n).run (Fo f) m.length = (true, []) := by
        unfold isDone
        rw [hh, if_neg cw] <;> rfl
      refine k _ _ ms (ExB.ex e1) (e1 _ _ hm) ?_ (by rw [hrun])
      rw [hrun, List.append_nil]
      exact hd.fz (Fz.ex e1)
end
end Hs
end
section
set_option Elab.async false
set_option linter.all false
set_option maxRecDepth 100000
set_option maxHeartbeats 4000000
namespace Hs
open PySem PySem.Spec PyProof.Rows L2
open C8 (Cal Met Mak InsC pe_c pe_mk pe_mt pe_mt0 pe_gc call_isC)
open Evl (Ex)
section
variable {P : Program} {w : World} {K : PySem.W.Frag} {mg : Str → Option Value} {base : Heap} {a : Ads}
/-- self.is_done(name, v, (word, action, n)), read -/
theorem done_call {x ml st : Addr} {eds : List Ed} {s : St} {f : List Nat} {H : Hp} {ms : List V} {m : List (Cl × Bool)} {v n : Int} {wd : Wd} {act : Act} {Q : VK} (R : RunAt K a H x ml st eds s f) (hm : H ml = some (.lst ms)) (hd : MdAt K H ms m) (hl : m.length ≤ 1000) (hv : verOk eds v = true)
    (k : ∀ b l H' ms', ExB ml H H' → H' ml = some (.lst ms') → MdAt K H' ms' (m ++ l) → (isDone eds v wd act n).run (Fo f) m.length = (b, l) → l.length ≤ 1 → Q (.bl b) H') (p : Addr) (hp : H p = none) :
    spIsDone K a [.ref x, .str app, .int v, .ref p] (upd H p (.tup [.str wd.txt, .str act.txt, .int n])) Q E0 := by
  have e : Ex H (upd H p (.tup [.str wd.txt, .str act.txt, .int n])) := Ex.new hp
  refine ⟨x, ml, st, eds, s, f, v, p, wd, act, n, ms, m, rfl, R.fz (Fz.ex e), hv, .inl (.inl upd_same), e _ _ hm, hd.fz (Fz.ex e), hl, ?_⟩
  intro u H' ms' e' hm' hd' hr
  have hr2 : u = .bl _ := hr
  rw [hr2]
  exact k _ _ H' ms' ((ExB.ex e).trans e') hm' hd' rfl (Pg.Dep.run _ _ isDone_dep)
/-! ### put_back -/
def spPutBack (K : PySem.W.Frag) (a : Ads) : Sp := fun vs H Q _ => ∃ x ml st eds s f new sta ms m, vs = [.ref x, .str app, .int new, .str (Sta.txt sta)] ∧ RunAt K a H x ml st eds s f ∧ verOk eds s.v = true ∧
  H ml = some (.lst ms) ∧ MdAt K H ms m ∧ m.length ≤ 999 ∧ KK K ml H (putBack eds s new sta) f m (RepS K) Q
theorem scPutBack : FnScope ["self", "name", "new", "status", "state"] ["self", "name", "new", "status"] (defScope s_Run_put_back) := ⟨rfl, rfl, rfl, by decide +kernel, rfl, by decide +kernel, by decide +kernel⟩
theorem m_put_back (T : TX K mg a) : Met P w K mg base 2 a.rn "put_back" (spPutBack K a) [] := by
  refine metF T.cl_rn T.m_rn_put_back (fun _ _ _ _ _ _ us hl => match us, hl with | [_, _, _, _], _ => rfl) scPutBack (fun vs H Q E h => ?_) fun fa cdv A outer s0 H vs Q E hr h => ?_
  · obtain ⟨x, ml, st, eds, s, f, new, sta, ms, m, rfl, _⟩ := h
    rfl
  · obtain ⟨x, ml, st, eds, s, f, new, sta, ms, m, rfl, R, hv, hm, hd, hl, k⟩ := h
    obtain ⟨dx, y, fl, h1, Sy, h3⟩ := R.ob
    obtain ⟨dy, r, t, y1, y2, y3⟩ := id Sy
    have hu := hu_of hr
    have hD := m_is_done (P := P) (w := w) (base := base) T
    refine ⟨_, pss_cons (ps_set (i := 4) scPutBack.nd rfl (Or.inl rfl) (pe_dget hu (pe_fld (pe_fld (pv 0) rfl) rfl) (pv 1) (fun _ _ => rfl)))
      (pss_cons (ps_if (pt_val (pe_mt hD hr (by decide) (pv 0) (pa_cons (pv 1) (pa_cons (pe_ix ix_tup (pv 4) pe_int (fun _ _ => rfl)) (pa_cons (pe_tup (pa_cons (pe_gs T.g_SETUP) (pa_cons pe_str (pa_cons (pv 2) pa_nil)))) pa_nil))))) (pss_one (ps_ret (pv 4))) pss_nil)
      (pss_one (ps_ret (pe_tup (pa_cons (pv 3) (pa_cons (pe_ix ix_tup (pv 4) pe_int (fun _ _ => rfl)) (pa_cons (pe_ix ix_tup (pv 4) pe_int (fun _ _ => rfl)) pa_nil))))))), ?_⟩
    refine ⟨_, rfl, x, a.rn, dx, _, _, rfl, h1, T.cl_rn, T.no_rn_base, rfl, y, a.sy, dy, _, _, rfl, y1, T.cl_sy, T.no_sy_rows, rfl, _, rfl, r, _, rfl, dget_k (k := Sum.inr app) (.inl y2), ?_⟩
    refine ⟨_, rfl, x, dx, _, rfl, h1, rfl, _, rfl, _, rfl, t, _, 1, _, rfl, rfl, y3, rfl, _, rfl, (by show 3 ≤ sizeLine; decide), done_call (wd := .setup) (act := .abortUpgrade) R hm hd (by omega) hv fun b l H1 ms1 e1 hm1 hd1 hrun hll => ?_⟩
    have y4 := fz_t (e1.fz hm rfl) y3
    have k1 := k.next e1 hrun
    refine ⟨_, rfl, iteB (fun c => ?_) fun c => ?_⟩
    · rw [c, if_pos rfl] at k1
      exact ⟨_, rfl, k1.ret ExB.rfl' hm1 hd1 ⟨t, rfl, y4⟩⟩
    · rw [c, if_neg (by decide)] at k1
      exact ⟨_, rfl, _, rfl, t, _, 1, _, rfl, rfl, y4, rfl, _, rfl, t, _, 2, _, rfl, rfl, y4, rfl, (by show 3 ≤ sizeLine; decide), fun q hq => k1.ret (ExB.ex (Ex.new hq)) (by rw [upd_ne (ne_of_none hm1 hq)]; exact hm1) (hd1.fz (Fz.new hq)) ⟨q, rfl, .inl (.inl upd_same)⟩⟩
end
end Hs
end
section
set_option Elab.async false
set_option linter.all false
set_option maxRecDepth 100000
set_option maxHeartbeats 4000000
namespace Hs
open PySem PySem.Spec PyProof.Rows L2
open C8 (Cal Met Mak InsC pe_c pe_mk pe_mt pe_mt0 pe_gc call_isC)
open Evl (Ex)
theorem fr_in (s : Sta) : decide (NestedKey.text s.txt ∈ [NestedKey.text "failed", .text "ready"]) = decide (s = .failed ∨ s = .ready) := by cases s <;> decide +kernel
section
variable {P : Program} {w : World} {K : PySem.W.Frag} {mg : Str → Option Value} {base : Heap} {a : Ads}
/-- a last call of is_done -/
theorem KK.last {ml : Addr} {H : Hp} {p : Pg Bool} {f : List Nat} {m : List (Cl × Bool)} {Q : VK} (k : KK K ml H p f m RepB Q) {b : Bool} {l : List (Cl × Bool)} {H' : Hp} {ms' : List V} (e : ExB ml H H') (hm : H' ml = some (.lst ms')) (hd : MdAt K H' ms' (m ++ l)) (hr : p.run (Fo f) m.length = (b, l)) : Q (.bl b) H' :=
  k _ H' ms' e hm (by rw [hr]; exact hd) (by rw [hr])
/-! ### is_left -/
def spIsLeft (K : PySem.W.Frag) (a : Ads) : Sp := fun vs H Q _ => ∃ x ml st eds s f old new ms m, vs = [.ref x, .str app, .int old, .int new] ∧ RunAt K a H x ml st eds s f ∧ verOk eds old = true ∧ verOk eds new = true ∧
  H ml = some (.lst ms) ∧ MdAt K H ms m ∧ m.length ≤ 990 ∧ KK K ml H (isLeft eds old new) f m RepB Q
theorem scIsLeft : FnScope ["self", "name", "old", "new"] ["self", "name", "old", "new"] (defScope s_Run_is_left) := ⟨rfl, rfl, rfl, by decide +kernel, rfl, by decide +kernel, by decide +kernel⟩
theorem m_is_left (T : TX K mg a) : Met P w K mg base 2 a.rn "is_left" (spIsLeft K a) [] := by
  refine metF T.cl_rn T.m_rn_is_left (fun _ _ _ _ _ _ us hl => match us, hl with | [_, _, _, _], _ => rfl) scIsLeft (fun vs H Q E h => ?_) fun fa cdv A outer s0 H vs Q E hr h => ?_
  · obtain ⟨x, ml, st, eds, s, f, old, new, ms, m, rfl, _⟩ := h
    rfl
  · obtain ⟨x, ml, st, eds, s, f, old, new, ms, m, rfl, R, hv, hn, hm, hd, hl, k⟩ := h
    obtain ⟨dx, y, fl, h1, Sy, h3⟩ := R.ob
    have hD := m_is_done (P := P) (w := w) (base := base) T
    refine ⟨_, pss_cons (ps_if (pt_val (pe_mt hD hr (by decide) (pv 0) (pa_cons (pv 1) (pa_cons (pv 2) (pa_cons (pe_tup (pa_cons (pe_gs T.g_LEAVE) (pa_cons pe_str (pa_cons (pv 3) pa_nil)))) pa_nil))))) (pss_one (ps_ret pe_bl)) pss_nil)
      (pss_one (ps_ret (pe_mt hD hr (by decide) (pv 0) (pa_cons (pv 1) (pa_cons (pv 3) (pa_cons (pe_tup (pa_cons (pe_gs T.g_LEAVE) (pa_cons pe_str (pa_cons (pv 2) pa_nil)))) pa_nil)))))), ?_⟩
    refine ⟨_, rfl, x, dx, _, rfl, h1, rfl, _, rfl, _, rfl, _, rfl, (by show 3 ≤ sizeLine; decide), done_call (wd := .leave) (act := .upgrade) R hm hd (by omega) hv fun b l H1 ms1 e1 hm1 hd1 hrun hll => ?_⟩
    have k1 := k.next e1 hrun
    have R1 := R.fz (e1.fz hm rfl)
    refine ⟨_, rfl, iteB (fun c => ?_) fun c => ?_⟩
    · rw [c, if_pos rfl] at k1
      exact k1.ret ExB.rfl' hm1 hd1 rfl
    · rw [c, if_neg (by decide)] at k1
      refine ⟨_, rfl, x, dx, _, rfl, e1 _ _ h1 (fun z => by rw [z, hm] at h1; cases h1), rfl, _, rfl, _, rfl, _, rfl, (by show 3 ≤ sizeLine; decide), done_call (wd := .leave) (act := .failedUpgrade) R1 hm1 hd1 (by rw [List.length_append]; omega) hn fun b2 l2 H2 ms2 e2 hm2 hd2 hrun2 _ => ?_⟩
      exact k1.last e2 hm2 hd2 hrun2
/-! ### given_up -/
def spGivenUp (K : PySem.W.Frag) (a : Ads) : Sp := fun vs H Q _ => ∃ x ml st eds s f new ms m, vs = [.ref x, .str app, .int new] ∧ RunAt K a H x ml st eds s f ∧ verOk eds s.v = true ∧ verOk eds new = true ∧
  H ml = some (.lst ms) ∧ MdAt K H ms m ∧ m.length ≤ 990 ∧ KK K ml H (givenUp eds s new) f m (RepS K) Q
theorem scGivenUp : FnScope ["self", "name", "new", "status", "old", "done"] ["self", "name", "new"] (defScope s_Run_given_up) := ⟨rfl, rfl, rfl, by decide +kernel, rfl, by decide +kernel, by decide +kernel⟩
theorem m_given_up (T : TX K mg a) : Met P w K mg base 3 a.rn "given_up" (spGivenUp K a) [] := by
  refine metF T.cl_rn T.m_rn_given_up (fun _ _ _ _ _ _ us hl => match us, hl with | [_, _, _], _ => rfl) scGivenUp (fun vs H Q E h => ?_) fun fa cdv A outer s0 H vs Q E hr h => ?_
  · obtain ⟨x, ml, st, eds, s, f, new, ms, m, rfl, _⟩ := h
    rfl
  · obtain ⟨x, ml, st, eds, s, f, new, ms, m, rfl, R, hv, hn, hm, hd, hl, k⟩ := h
    obtain ⟨dx, y, fl, h1, Sy, h3⟩ := R.ob
    obtain ⟨dy, r, t, y1, y2, y3⟩ := id Sy
    have hu := hu_of hr
    have hD := m_is_done (P := P) (w := w) (base := base) T
    have hP := m_put_back (P := P) (w := w) (base := base) T
    refine ⟨_, pss_cons (ps_asg (pe_dget hu (pe_fld (pe_fld (pv 0) rfl) rfl) (pv 1) (fun _ _ => rfl)) (pg_tup rfl (pgs_cons (pg_name (i := 3) scGivenUp.nd rfl (Or.inl rfl)) (pgs_cons (pg_name (i := 4) scGivenUp.nd rfl (Or.inl rfl)) (pgs_cons (pg_name (i := 5) scGivenUp.nd rfl (Or.inl rfl)) pgs_nil)))))
      (pss_cons (ps_if (pt_not (pt_val (pe_mt hD hr (by decide) (pv 0) (pa_cons (pv 1) (pa_cons (pv 2) (pa_cons (pe_tup (pa_cons (pe_gs T.g_CLEAN) (pa_cons pe_str (pa_cons (pv 4) pa_nil)))) pa_nil)))))) (pss_one (ps_ret (pe_tup (pa_cons (pe_gs T.g_HALF) (pa_cons (pv 4) (pa_cons (pv 5) pa_nil)))))) pss_nil)
      (pss_one (ps_ret (pe_ifExp (pt_cmpR (op_inN hr.units) (pv 3) (pe_tup (pa_cons (pe_gs T.g_FAILED) (pa_cons (pe_gs T.g_READY) pa_nil))) rfl)
        (pe_mt hP hr (by decide) (pv 0) (pa_cons (pv 1) (pa_cons (pv 2) (pa_cons (pe_gs T.g_UNPACKED) pa_nil)))) (pe_dget hu (pe_fld (pe_fld (pv 0) rfl) rfl) (pv 1) (fun _ _ => rfl)))))), ?_⟩
    refine ⟨_, rfl, x, a.rn, dx, _, _, rfl, h1, T.cl_rn, T.no_rn_base, rfl, y, a.sy, dy, _, _, rfl, y1, T.cl_sy, T.no_sy_rows, rfl, _, rfl, r, _, rfl, dget_k (k := Sum.inr app) (.inl y2), t, _, rfl, y3, rfl, _, _, rfl, _, _, rfl, _, _, rfl, rfl, ?_⟩
    refine ⟨_, rfl, x, dx, _, rfl, h1, rfl, _, rfl, _, rfl, _, rfl, (by show 3 ≤ sizeLine; decide), done_call (wd := .clean) (act := .abortUpgrade) R hm hd (by omega) hn fun b l H1 ms1 e1 hm1 hd1 hrun hll => ?_⟩
    have k1 := k.next e1 hrun
    have fz := e1.fz hm rfl
    have R1 := R.fz fz
    refine ⟨_, rfl, ?_⟩
    cases b with
    | false =>
      rw [if_neg (by decide)] at k1
      refine iteT ⟨_, rfl, _, rfl, (by show 3 ≤ sizeLine; decide), fun q hq => k1.ret (ExB.ex (Ex.new hq)) (by rw [upd_ne (ne_of_none hm1 hq)]; exact hm1) (hd1.fz (Fz.new hq)) ⟨q, rfl, .inl (.inl upd_same)⟩⟩
    | true =>
      rw [if_pos rfl] at k1
      refine iteF ?_
      refine ⟨_, rfl, (by show 2 ≤ sizeLine; decide), fun q hq => ?_⟩
      have e2 : Ex H1 (upd H1 q (.tup [.str "failed", .str "ready"])) := Ex.new hq
      refine ⟨_, q, _, [.text "failed", .text "ready"], rfl, .inr (.inl (.inl upd_same)), nk_sta s.a, .cons (.text _) (.cons (.text _) .nil), Nat.zero_le _, _, rfl, ?_⟩
      rw [if_neg (by decide), fr_in]
      generalize upd H1 q (.tup [.str "failed", .str "ready"]) = H2 at e2 ⊢
      have R2 := R1.fz (Fz.ex e2)
      obtain ⟨dx2, y', fl2, x1, Sy2, x3⟩ := R2.ob
      by_cases c : s.a = .failed ∨ s.a = .ready
      · refine iteP c ?_
        rw [if_pos c] at k1
        exact ⟨_, rfl, x, dx2, _, rfl, x1, rfl, _, rfl, _, rfl, x, ml, st, eds, s, f, new, .unpacked, ms1, _, rfl, R2, hv, e2 _ _ hm1, hd1.fz (Fz.ex e2), (by rw [List.length_append]; omega), k1.mono (ExB.ex e2)⟩
      · refine iteN c ?_
        rw [if_neg c] at k1
        obtain ⟨dy2, r2, t2, z1, z2, z3⟩ := id Sy2
        exact ⟨_, rfl, x, a.rn, dx2, _, _, rfl, x1, T.cl_rn, T.no_rn_base, rfl, y', a.sy, dy2, _, _, rfl, z1, T.cl_sy, T.no_sy_rows, rfl, _, rfl, r2, _, rfl, dget_k (k := Sum.inr app) (.inl z2), k1.ret (ExB.ex e2) (e2 _ _ hm1) (hd1.fz (Fz.ex e2)) ⟨t2, rfl, z3⟩⟩
end
end Hs
end
section
set_option Elab.async false
set_option linter.all false
set_option maxRecDepth 100000
set_option maxHeartbeats 4000000
namespace Hs
open PySem PySem.Spec PyProof.Rows L2
open C8 (Cal Met Mak InsC pe_c pe_mk pe_mt pe_mt0 pe_gc call_isC)
open Evl (Ex)
section
variable {P : Program} {w : World} {K : PySem.W.Frag} {mg : Str → Option Value} {base : Heap} {a : Ads}
/-! ### unpacked_over -/
def spOver (K : PySem.W.Frag) (a : Ads) : Sp := fun vs H Q _ => ∃ x ml st eds s f new ms m, vs = [.ref x, .str app, .int new] ∧ RunAt K a H x ml st eds s f ∧ verOk eds s.v = true ∧ verOk eds new = true ∧
  H ml = some (.lst ms) ∧ MdAt K H ms m ∧ m.length ≤ 900 ∧ KK K ml H (unpackedOver eds s new) f m (RepS K) Q
theorem scOver : FnScope ["self", "name", "new", "status", "old", "done"] ["self", "name", "new"] (defScope s_Run_unpacked_over) := ⟨rfl, rfl, rfl, by decide +kernel, rfl, by decide +kernel, by decide +kernel⟩
theorem m_over (T : TX K mg a) : Met P w K mg base 4 a.rn "unpacked_over" (spOver K a) [] := by
  refine metF T.cl_rn T.m_rn_unpacked_over (fun _ _ _ _ _ _ us hl => match us, hl with | [_, _, _], _ => rfl) scOver (fun vs H Q E h => ?_) fun fa cdv A outer s0 H vs Q E hr h => ?_
  · obtain ⟨x, ml, st, eds, s, f, new, ms, m, rfl, _⟩ := h
    rfl
  · obtain ⟨x, ml, st, eds, s, f, new, ms, m, rfl, R, hv, hn, hm, hd, hl, k⟩ := h
    obtain ⟨dx, y, fl, h1, Sy, h3⟩ := R.ob
    obtain ⟨dy, r, t, y1, y2, y3⟩ := id Sy
    have hu := hu_of hr
    have hD := m_is_done (P := P) (w := w) (base := base) T
    have hP := m_put_back (P := P) (w := w) (base := base) T
    have hL := m_is_left (P := P) (w := w) (base := base) T
    have hG := m_given_up (P := P) (w := w) (base := base) T
    refine ⟨_, pss_cons (ps_asg (pe_dget hu (pe_fld (pe_fld (pv 0) rfl) rfl) (pv 1) (fun _ _ => rfl)) (pg_tup rfl (pgs_cons (pg_name (i := 3) scOver.nd rfl (Or.inl rfl)) (pgs_cons (pg_name (i := 4) scOver.nd rfl (Or.inl rfl)) (pgs_cons (pg_name (i := 5) scOver.nd rfl (Or.inl rfl)) pgs_nil)))))
      (Evl.pss_cut (ps_if (pw_and (pt_cmpR (op_inN hr.units) (pv 3) (pe_tup (pa_cons (pe_gs T.g_FAILED) (pa_cons (pe_gs T.g_READY) pa_nil))) rfl)
          (pw_and1 (pt_not (pt_val (pe_mt hL hr (by decide) (pv 0) (pa_cons (pv 1) (pa_cons (pv 4) (pa_cons (pv 2) pa_nil)))))))).pt (pss_one (ps_ret (pe_mt hP hr (by decide) (pv 0) (pa_cons (pv 1) (pa_cons (pv 2) (pa_cons (pe_gs T.g_FAILED) pa_nil)))))) pss_nil)
      (pss_cons (ps_if (pt_not (pt_val (pe_mt hD hr (by decide) (pv 0) (pa_cons (pv 1) (pa_cons (pv 2) (pa_cons (pe_tup (pa_cons (pe_gs T.g_ENTER) (pa_cons pe_str (pa_cons (pv 4) pa_nil)))) pa_nil)))))) (pss_one (ps_ret (pe_mt hG hr (by decide) (pv 0) (pa_cons (pv 1) (pa_cons (pv 2) pa_nil))))) pss_nil)
      (pss_cons (ps_if (pt_val (pe_mt hD hr (by decide) (pv 0) (pa_cons (pv 1) (pa_cons (pv 4) (pa_cons (pe_tup (pa_cons (pe_gs T.g_CLEAN) (pa_cons pe_str (pa_cons (pv 2) pa_nil)))) pa_nil))))) (pss_one (ps_ret (pe_tup (pa_cons (pe_gs T.g_UNPACKED) (pa_cons (pv 2) (pa_cons (pv 5) pa_nil)))))) pss_nil)
      (pss_cons (ps_if (pt_val (pe_mt hD hr (by decide) (pv 0) (pa_cons (pv 1) (pa_cons (pv 2) (pa_cons (pe_tup (pa_cons (pe_gs T.g_CLEAN) (pa_cons pe_str (pa_cons (pv 4) pa_nil)))) pa_nil))))) (pss_one (ps_ret (pe_tup (pa_cons (pe_gs T.g_UNPACKED) (pa_cons (pv 2) (pa_cons (pv 5) pa_nil)))))) pss_nil)
      (pss_cons (ps_if (pt_not (pt_val (pe_mt hD hr (by decide) (pv 0) (pa_cons (pv 1) (pa_cons (pv 4) (pa_cons (pe_tup (pa_cons (pe_gs T.g_ENTER) (pa_cons pe_str (pa_cons (pv 2) pa_nil)))) pa_nil)))))) (pss_one (ps_ret (pe_tup (pa_cons (pe_gs T.g_HALF) (pa_cons (pv 4) (pa_cons (pv 5) pa_nil)))))) pss_nil)
      (pss_one (ps_ret (pe_mt hG hr (by decide) (pv 0) (pa_cons (pv 1) (pa_cons (pv 2) pa_nil)))))))))), ?_⟩
    refine ⟨_, rfl, x, a.rn, dx, _, _, rfl, h1, T.cl_rn, T.no_rn_base, rfl, y, a.sy, dy, _, _, rfl, y1, T.cl_sy, T.no_sy_rows, rfl, _, rfl, r, _, rfl, dget_k (k := Sum.inr app) (.inl y2), t, _, rfl, y3, rfl, _, _, rfl, _, _, rfl, _, _, rfl, rfl, ?_⟩
    refine ⟨fun σ' H' => σ' = [some (.ref x), some (.str app), some (.int new), some (.str s.a.txt), some (.int s.v), some (.int s.d)] ∧ ∃ ms' m', ExB ml H H' ∧ H' ml = some (.lst ms') ∧ MdAt K H' ms' m' ∧ m'.length ≤ 950 ∧ KK K ml H' (over2 eds s new) f m' (RepS K) Q, ?_, ?_⟩
    · refine ⟨_, rfl, (by show 2 ≤ sizeLine; decide), fun q hq => ?_⟩
      have e2 : Ex H (upd H q (.tup [.str "failed", .str "ready"])) := Ex.new hq
      refine ⟨_, q, _, [.text "failed", .text "ready"], rfl, .inr (.inl (.inl upd_same)), nk_sta s.a, .cons (.text _) (.cons (.text _) .nil), Nat.zero_le _, _, rfl, ?_⟩
      rw [if_neg (by decide), fr_in]
      generalize upd H q (.tup [.str "failed", .str "ready"]) = H2 at e2 ⊢
      have R2 := R.fz (Fz.ex e2)
      have k2 := k.mono (ExB.ex e2)
      unfold unpackedOver at k2
      by_cases c : s.a = .failed ∨ s.a = .ready
      · refine iteP c ?_
        rw [if_pos c] at k2
        refine ⟨_, rfl, x, dx, _, rfl, e2 _ _ h1, rfl, _, rfl, _, rfl, _, rfl, x, ml, st, eds, s, f, s.v, new, ms, m, rfl, R2, hv, hn, e2 _ _ hm, hd.fz (Fz.ex e2), (by omega), fun v H3 ms3 e3 hm3 hd3 hv3 => ?_⟩
        have hl3 : ((isLeft eds s.v new).run (Fo f) m.length).2.length ≤ 2 := Pg.Dep.run _ _ (Pg.Dep.bind (n := 1) (m := 1) (fun d => by
          by_cases c : d = true
          · rw [if_pos c]; exact ret_dep
          · rw [if_neg c]; exact isDone_dep) isDone_dep)
        generalize hrun : (isLeft eds s.v new).run (Fo f) m.length = bl at hd3 hv3 hl3
        obtain ⟨b, l⟩ := bl
        have k3 := k2.next e3 hrun
        have R3 := R2.fz (e3.fz (e2 _ _ hm) rfl)
        refine ⟨b, hv3, ?_⟩
        cases b with
        | true =>
          rw [if_pos rfl] at k3
          exact iteF ⟨rfl, ms3, _, (ExB.ex e2).trans e3, hm3, hd3, (by rw [List.length_append]; simp only at hl3 ⊢; omega), k3⟩
        | false =>
          rw [if_neg (by decide)] at k3
          refine iteT ?_
          obtain ⟨dx2, y', fl2, x1, Sy2, x3⟩ := R3.ob
          exact ⟨_, rfl, x, dx2, _, rfl, x1, rfl, _, rfl, _, rfl, x, ml, st, eds, s, f, new, .failed, ms3, _, rfl, R3, hv, hm3, hd3, (by rw [List.length_append]; simp only at hl3 ⊢; omega), k3⟩
      · refine iteN c ?_
        rw [if_neg c] at k2
        exact iteF ⟨rfl, ms, m, ExB.ex e2, e2 _ _ hm, hd.fz (Fz.ex e2), by omega, k2⟩
    · rintro σ' H2 ⟨rfl, ms2, m2, e2, hm2, hd2, hl2, k2⟩
      have R2 := R.fz (e2.fz hm rfl)
      obtain ⟨dx2, y', fl2, x1, Sy2, x3⟩ := R2.ob
      refine ⟨_, rfl, x, dx2, _, rfl, x1, rfl, _, rfl, _, rfl, _, rfl, (by show 3 ≤ sizeLine; decide), done_call (wd := .enter) (act := .upgrade) R2 hm2 hd2 (by omega) hn fun b l H3 ms3 e3 hm3 hd3 hrun hll => ?_⟩
      have k3 := k2.next e3 hrun
      have R3 := R2.fz (e3.fz hm2 rfl)
      have hl3 : (m2 ++ l).length ≤ 951 := by rw [List.length_append]; omega
      generalize m2 ++ l = m3 at k3 hd3 hl3
      obtain ⟨dx3, y3', fl3, x1, Sy3, x3⟩ := R3.ob
      refine ⟨_, rfl, ?_⟩
      cases b with
      | false =>
        rw [if_neg (by decide)] at k3
        refine iteT ?_
        exact ⟨_, rfl, x, dx3, _, rfl, x1, rfl, _, rfl, _, rfl, x, ml, st, eds, s, f, new, ms3, m3, rfl, R3, hv, hn, hm3, hd3, by omega, k3⟩
      | true =>
      rw [if_pos rfl] at k3
      refine iteF ?_
      refine ⟨_, rfl, x, dx3, _, rfl, x1, rfl, _, rfl, _, rfl, _, rfl, (by show 3 ≤ sizeLine; decide), done_call (wd := .clean) (act := .upgrade) R3 hm3 hd3 (by omega) hv fun b l H4 ms4 e4 hm4 hd4 hrun hll => ?_⟩
      have k4 := k3.next e4 hrun
      have R4 := R3.fz (e4.fz hm3 rfl)
      have hl4 : (m3 ++ l).length ≤ 952 := by rw [List.length_append]; omega
      generalize m3 ++ l = m4 at k4 hd4 hl4
      obtain ⟨dx4, y4', fl4, x1, Sy4, x3⟩ := R4.ob
      refine ⟨_, rfl, ?_⟩
      cases b with
      | true =>
        rw [if_pos rfl] at k4
        exact iteT ⟨_, rfl, _, rfl, (by show 3 ≤ sizeLine; decide), fun q hq => k4.ret (ExB.ex (Ex.new hq)) (by rw [upd_ne (ne_of_none hm4 hq)]; exact hm4) (hd4.fz (Fz.new hq)) ⟨q, rfl, .inl (.inl upd_same)⟩⟩
      | false =>
      rw [if_neg (by decide)] at k4
      refine iteF ?_
      refine ⟨_, rfl, x, dx4, _, rfl, x1, rfl, _, rfl, _, rfl, _, rfl, (by show 3 ≤ sizeLine; decide), done_call (wd := .clean) (act := .failedUpgrade) R4 hm4 hd4 (by omega) hn fun b l H5 ms5 e5 hm5 hd5 hrun hll => ?_⟩
      have k5 := k4.next e5 hrun
      have R5 := R4.fz (e5.fz hm4 rfl)
      have hl5 : (m4 ++ l).length ≤ 953 := by rw [List.length_append]; omega
      generalize m4 ++ l = m5 at k5 hd5 hl5
      obtain ⟨dx5, y5', fl5, x1, Sy5, x3⟩ := R5.ob
      refine ⟨_, rfl, ?_⟩
      cases b with
      | true =>
        rw [if_pos rfl] at k5
        exact iteT ⟨_, rfl, _, rfl, (by show 3 ≤ sizeLine; decide), fun q hq => k5.ret (ExB.ex (Ex.new hq)) (by rw [upd_ne (ne_of_none hm5 hq)]; exact hm5) (hd5.fz (Fz.new hq)) ⟨q, rfl, .inl (.inl upd_same)⟩⟩
      | false =>
      rw [if_neg (by decide)] at k5
      refine iteF ?_
      refine ⟨_, rfl, x, dx5, _, rfl, x1, rfl, _, rfl, _, rfl, _, rfl, (by show 3 ≤ sizeLine; decide), done_call (wd := .enter) (act := .abortUpgrade) R5 hm5 hd5 (by omega) hv fun b l H6 ms6 e6 hm6 hd6 hrun hll => ?_⟩
      have k6 := k5.next e6 hrun
      have R6 := R5.fz (e6.fz hm5 rfl)
      have hl6 : (m5 ++ l).length ≤ 954 := by rw [List.length_append]; omega
      generalize m5 ++ l = m6 at k6 hd6 hl6
      obtain ⟨dx6, y6', fl6, x1, Sy6, x3⟩ := R6.ob
      refine ⟨_, rfl, ?_⟩
      cases b with
      | false =>
        rw [if_neg (by decide)] at k6
        exact iteT ⟨_, rfl, _, rfl, (by show 3 ≤ sizeLine; decide), fun q hq => k6.ret (ExB.ex (Ex.new hq)) (by rw [upd_ne (ne_of_none hm6 hq)]; exact hm6) (hd6.fz (Fz.new hq)) ⟨q, rfl, .inl (.inl upd_same)⟩⟩
      | true =>
      rw [if_pos rfl] at k6
      refine iteF ?_
      exact ⟨_, rfl, x, dx6, _, rfl, x1, rfl, _, rfl, _, rfl, x, ml, st, eds, s, f, new, ms6, m6, rfl, R6, hv, hn, hm6, hd6, by omega, k6⟩
end
end Hs
end
section
set_option Elab.async false
set_option linter.all false
set_option maxRecDepth 100000
set_option maxHeartbeats 4000000
namespace Hs
open PySem PySem.Spec PyProof.Rows L2
open C8 (Cal Met Mak InsC pe_c pe_mk pe_mt pe_mt0 pe_gc call_isC)
open Evl (Ex)
section
variable {P : Program} {w : World} {K : PySem.W.Frag} {mg : Str → Option Value} {base : Heap} {a : Ads}
/-! ### unpacked_new -/
def spNew (K : PySem.W.Frag) (a : Ads) : Sp := fun vs H Q _ => ∃ x ml st eds s f new ms m, vs = [.ref x, .str app, .int new] ∧ RunAt K a H x ml st eds s f ∧ verOk eds new = true ∧
  H ml = some (.lst ms) ∧ MdAt K H ms m ∧ m.length ≤ 900 ∧ KK K ml H (unpackedNew eds s new) f m (RepS K) Q
theorem scNew : FnScope ["self", "name", "new", "state", "old", "done"] ["self", "name", "new"] (defScope s_Run_unpacked_new) := ⟨rfl, rfl, rfl, by decide +kernel, rfl, by decide +kernel, by decide +kernel⟩
theorem m_new (T : TX K mg a) : Met P w K mg base 2 a.rn "unpacked_new" (spNew K a) [] := by
  refine metF T.cl_rn T.m_rn_unpacked_new (fun _ _ _ _ _ _ us hl => match us, hl with | [_, _, _], _ => rfl) scNew (fun vs H Q E h => ?_) fun fa cdv A outer s0 H vs Q E hr h => ?_
  · obtain ⟨x, ml, st, eds, s, f, new, ms, m, rfl, _⟩ := h
    rfl
  · obtain ⟨x, ml, st, eds, s, f, new, ms, m, rfl, R, hn, hm, hd, hl, k⟩ := h
    obtain ⟨dx, y, fl, h1, Sy, h3⟩ := R.ob
    obtain ⟨dy, r, t, y1, y2, y3⟩ := id Sy
    have hu := hu_of hr
    have hD := m_is_done (P := P) (w := w) (base := base) T
    refine ⟨_, pss_cons (ps_set (i := 3) scNew.nd rfl (Or.inl rfl) (pe_dget hu (pe_fld (pe_fld (pv 0) rfl) rfl) (pv 1) (fun _ _ => rfl)))
      (pss_cons (ps_asg (pe_slice sl_tupA (pv 3) (po_some pe_int) po_none) (pg_tup rfl (pgs_cons (pg_name (i := 4) scNew.nd rfl (Or.inl rfl)) (pgs_cons (pg_name (i := 5) scNew.nd rfl (Or.inl rfl)) pgs_nil))))
      (pss_cons (ps_if (pt_val (pe_mt hD hr (by decide) (pv 0) (pa_cons (pv 1) (pa_cons (pv 2) (pa_cons (pe_tup (pa_cons (pe_gs T.g_ENTER) (pa_cons pe_str (pa_cons (pv 4) pa_nil)))) pa_nil))))) (pss_one (ps_ret (pe_tup (pa_cons (pe_gs T.g_UNPACKED) (pa_cons (pv 2) (pa_cons (pv 5) pa_nil)))))) pss_nil)
      (pss_one (ps_ret (pe_ifExp (pt_val (pe_mt hD hr (by decide) (pv 0) (pa_cons (pv 1) (pa_cons (pv 2) (pa_cons (pe_tup (pa_cons (pe_gs T.g_CLEAN) (pa_cons pe_str (pa_cons (pv 4) pa_nil)))) pa_nil))))) (pv 3) (pe_tup (pa_cons (pe_gs T.g_HALF) (pa_cons (pv 2) (pa_cons (pv 5) pa_nil))))))))), ?_⟩
    refine ⟨_, rfl, x, a.rn, dx, _, _, rfl, h1, T.cl_rn, T.no_rn_base, rfl, y, a.sy, dy, _, _, rfl, y1, T.cl_sy, T.no_sy_rows, rfl, _, rfl, r, _, rfl, dget_k (k := Sum.inr app) (.inl y2), ?_⟩
    refine ⟨_, rfl, _, rfl, t, _, rfl, y3, fun c => absurd c.1 (show ¬ HT.sIx 3 0 (some 1) = 0 by decide), fun _ q hq => ?_⟩
    refine ⟨q, [.int s.v, .int s.d], rfl, .inl (.inl upd_same), rfl, _, _, rfl, _, _, rfl, rfl, ?_⟩
    have e0 : Ex H (upd H q (.tup (cutV (stV s) (some 1) none))) := Ex.new hq
    generalize upd H q (.tup (cutV (stV s) (some 1) none)) = H0 at e0 ⊢
    have R0 := R.fz (Fz.ex e0)
    have k0 := k.mono (ExB.ex e0)
    refine ⟨_, rfl, x, dx, _, rfl, e0 _ _ h1, rfl, _, rfl, _, rfl, _, rfl, (by show 3 ≤ sizeLine; decide), done_call (wd := .enter) (act := .install) R0 (e0 _ _ hm) (hd.fz (Fz.ex e0)) (by omega) hn fun b l H1 ms1 e1 hm1 hd1 hrun hll => ?_⟩
    have k1 := k0.next e1 hrun
    have fz1 := (Fz.ex e0).trans (e1.fz (e0 _ _ hm) rfl)
    have R1 := R.fz fz1
    have hl1 : (m ++ l).length ≤ 901 := by rw [List.length_append]; omega
    generalize m ++ l = m1 at k1 hd1 hl1
    obtain ⟨dx1, y1', fl1, x1, Sy1, x3⟩ := R1.ob
    refine ⟨_, rfl, ?_⟩
    cases b with
    | true =>
      rw [if_pos rfl] at k1
      exact iteT ⟨_, rfl, _, rfl, (by show 3 ≤ sizeLine; decide), fun q hq => k1.ret (ExB.ex (Ex.new hq)) (by rw [upd_ne (ne_of_none hm1 hq)]; exact hm1) (hd1.fz (Fz.new hq)) ⟨q, rfl, .inl (.inl upd_same)⟩⟩
    | false =>
    rw [if_neg (by decide)] at k1
    refine iteF ?_
    refine ⟨_, rfl, x, dx1, _, rfl, x1, rfl, _, rfl, _, rfl, _, rfl, (by show 3 ≤ sizeLine; decide), done_call (wd := .clean) (act := .abortInstall) R1 hm1 hd1 (by omega) hn fun b l H2 ms2 e2 hm2 hd2 hrun hll => ?_⟩
    have k2 := k1.next e2 hrun
    refine ⟨_, rfl, ?_⟩
    cases b with
    | true =>
      rw [if_pos rfl] at k2
      exact iteT ⟨_, rfl, k2.ret ExB.rfl' hm2 hd2 ⟨t, rfl, fz_t (fz1.trans (e2.fz hm1 rfl)) y3⟩⟩
    | false =>
      rw [if_neg (by decide)] at k2
      exact iteF ⟨_, rfl, _, rfl, (by show 3 ≤ sizeLine; decide), fun q hq => k2.ret (ExB.ex (Ex.new hq)) (by rw [upd_ne (ne_of_none hm2 hq)]; exact hm2) (hd2.fz (Fz.new hq)) ⟨q, rfl, .inl (.inl upd_same)⟩⟩
/-! ### set_up -/
def spSetUp (K : PySem.W.Frag) (a : Ads) : Sp := fun vs H Q _ => ∃ x ml st eds s f ms m, vs = [.ref x, .str app] ∧ RunAt K a H x ml st eds s f ∧ verOk eds s.v = true ∧
  H ml = some (.lst ms) ∧ MdAt K H ms m ∧ m.length ≤ 900 ∧ KK K ml H (setUp eds s) f m (RepS K) Q
theorem scSetUp : FnScope ["self", "name", "status", "version", "done"] ["self", "name"] (defScope s_Run_set_up) := ⟨rfl, rfl, rfl, by decide +kernel, rfl, by decide +kernel, by decide +kernel⟩
theorem m_set_up (T : TX K mg a) : Met P w K mg base 2 a.rn "set_up" (spSetUp K a) [] := by
  refine metF T.cl_rn T.m_rn_set_up (fun _ _ _ _ _ _ us hl => match us, hl with | [_, _], _ => rfl) scSetUp (fun vs H Q E h => ?_) fun fa cdv A outer s0 H vs Q E hr h => ?_
  · obtain ⟨x, ml, st, eds, s, f, ms, m, rfl, _⟩ := h
    rfl
  · obtain ⟨x, ml, st, eds, s, f, ms, m, rfl, R, hv, hm, hd, hl, k⟩ := h
    obtain ⟨dx, y, fl, h1, Sy, h3⟩ := R.ob
    obtain ⟨dy, r, t, y1, y2, y3⟩ := id Sy
    have hu := hu_of hr
    have hD := m_is_done (P := P) (w := w) (base := base) T
    refine ⟨_, pss_cons (ps_asg (pe_dget hu (pe_fld (pe_fld (pv 0) rfl) rfl) (pv 1) (fun _ _ => rfl)) (pg_tup rfl (pgs_cons (pg_name (i := 2) scSetUp.nd rfl (Or.inl rfl)) (pgs_cons (pg_name (i := 3) scSetUp.nd rfl (Or.inl rfl)) (pgs_cons (pg_name (i := 4) scSetUp.nd rfl (Or.inl rfl)) pgs_nil)))))
      (pss_cons (ps_if (pt_val (pe_mt hD hr (by decide) (pv 0) (pa_cons (pv 1) (pa_cons (pv 3) (pa_cons (pe_tup (pa_cons (pe_gs T.g_SETUP) (pa_cons pe_str (pa_cons (pv 4) pa_nil)))) pa_nil))))) (pss_one (ps_ret (pe_tup (pa_cons (pe_gs T.g_READY) (pa_cons (pv 3) (pa_cons (pv 3) pa_nil)))))) pss_nil)
      (pss_one (ps_ret (pe_tup (pa_cons (pe_gs T.g_FAILED) (pa_cons (pv 3) (pa_cons (pv 4) pa_nil))))))), ?_⟩
    refine ⟨_, rfl, x, a.rn, dx, _, _, rfl, h1, T.cl_rn, T.no_rn_base, rfl, y, a.sy, dy, _, _, rfl, y1, T.cl_sy, T.no_sy_rows, rfl, _, rfl, r, _, rfl, dget_k (k := Sum.inr app) (.inl y2), t, _, rfl, y3, rfl, _, _, rfl, _, _, rfl, _, _, rfl, rfl, ?_⟩
    refine ⟨_, rfl, x, dx, _, rfl, h1, rfl, _, rfl, _, rfl, _, rfl, (by show 3 ≤ sizeLine; decide), done_call (wd := .setup) (act := .configure) R hm hd (by omega) hv fun b l H1 ms1 e1 hm1 hd1 hrun hll => ?_⟩
    have k1 := k.next e1 hrun
    refine ⟨_, rfl, ?_⟩
    cases b with
    | true =>
      rw [if_pos rfl] at k1
      exact iteT ⟨_, rfl, _, rfl, (by show 3 ≤ sizeLine; decide), fun q hq => k1.ret (ExB.ex (Ex.new hq)) (by rw [upd_ne (ne_of_none hm1 hq)]; exact hm1) (hd1.fz (Fz.new hq)) ⟨q, rfl, .inl (.inl upd_same)⟩⟩
    | false =>
      rw [if_neg (by decide)] at k1
      exact iteF ⟨_, rfl, _, rfl, (by show 3 ≤ sizeLine; decide), fun q hq => k1.ret (ExB.ex (Ex.new hq)) (by rw [upd_ne (ne_of_none hm1 hq)]; exact hm1) (hd1.fz (Fz.new hq)) ⟨q, rfl, .inl (.inl upd_same)⟩⟩
/-! ### purged -/
def spPurged (K : PySem.W.Frag) (a : Ads) : Sp := fun vs H Q _ => ∃ x ml st eds s f ms m, vs = [.ref x, .str app] ∧ RunAt K a H x ml st eds s f ∧ verOk eds s.v = true ∧
  H ml = some (.lst ms) ∧ MdAt K H ms m ∧ m.length ≤ 900 ∧ KK K ml H (purged eds s) f m (RepS K) Q
theorem scPurged : FnScope ["self", "name", "state"] ["self", "name"] (defScope s_Run_purged) := ⟨rfl, rfl, rfl, by decide +kernel, rfl, by decide +kernel, by decide +kernel⟩
theorem m_purged (T : TX K mg a) : Met P w K mg base 2 a.rn "purged" (spPurged K a) [] := by
  refine metF T.cl_rn T.m_rn_purged (fun _ _ _ _ _ _ us hl => match us, hl with | [_, _], _ => rfl) scPurged (fun vs H Q E h => ?_) fun fa cdv A outer s0 H vs Q E hr h => ?_
  · obtain ⟨x, ml, st, eds, s, f, ms, m, rfl, _⟩ := h
    rfl
  · obtain ⟨x, ml, st, eds, s, f, ms, m, rfl, R, hv, hm, hd, hl, k⟩ := h
    obtain ⟨dx, y, fl, h1, Sy, h3⟩ := R.ob
    obtain ⟨dy, r, t, y1, y2, y3⟩ := id Sy
    obtain ⟨pN, gN, sN⟩ := T.g_NOTHING
    have hu := hu_of hr
    have hD := m_is_done (P := P) (w := w) (base := base) T
    refine ⟨_, pss_cons (ps_set (i := 2) scPurged.nd rfl (Or.inl rfl) (pe_dget hu (pe_fld (pe_fld (pv 0) rfl) rfl) (pv 1) (fun _ _ => rfl)))
      (pss_one (ps_ret (pe_ifExp (pt_val (pe_mt hD hr (by decide) (pv 0) (pa_cons (pv 1) (pa_cons (pe_ix ix_tup (pv 2) pe_int (fun _ _ => rfl)) (pa_cons (pe_tup (pa_cons (pe_gs T.g_CLEAN) (pa_cons pe_str (pa_cons pe_int pa_nil)))) pa_nil))))) (pe_gt gN) (pv 2)))), ?_⟩
    refine ⟨_, rfl, x, a.rn, dx, _, _, rfl, h1, T.cl_rn, T.no_rn_base, rfl, y, a.sy, dy, _, _, rfl, y1, T.cl_sy, T.no_sy_rows, rfl, _, rfl, r, _, rfl, dget_k (k := Sum.inr app) (.inl y2), ?_⟩
    refine ⟨_, rfl, x, dx, _, rfl, h1, rfl, _, rfl, _, rfl, t, _, 1, _, rfl, rfl, y3, rfl, (by show 3 ≤ sizeLine; decide), done_call (wd := .clean) (act := .purge) R hm hd (by omega) hv fun b l H1 ms1 e1 hm1 hd1 hrun hll => ?_⟩
    have k1 := k.next e1 hrun
    refine ⟨_, rfl, ?_⟩
    cases b with
    | true =>
      rw [if_pos rfl] at k1
      exact iteT (k1.ret ExB.rfl' hm1 hd1 ⟨pN, rfl, sN _⟩)
    | false =>
      rw [if_neg (by decide)] at k1
      exact iteF ⟨_, rfl, k1.ret ExB.rfl' hm1 hd1 ⟨t, rfl, fz_t (e1.fz hm rfl) y3⟩⟩
/-! ### removed -/
def spRemoved (K : PySem.W.Frag) (a : Ads) : Sp := fun vs H Q _ => ∃ x ml st eds s f ms m, vs = [.ref x, .str app] ∧ RunAt K a H x ml st eds s f ∧ verOk eds s.v = true ∧
  H ml = some (.lst ms) ∧ MdAt K H ms m ∧ m.length ≤ 900 ∧ KK K ml H (removed eds s) f m (RepS K) Q
theorem scRemoved : FnScope ["self", "name", "status", "version", "done"] ["self", "name"] (defScope s_Run_removed) := ⟨rfl, rfl, rfl, by decide +kernel, rfl, by decide +kernel, by decide +kernel⟩
theorem m_removed (T : TX K mg a) : Met P w K mg base 2 a.rn "removed" (spRemoved K a) [] := by
  refine metF T.cl_rn T.m_rn_removed (fun _ _ _ _ _ _ us hl => match us, hl with | [_, _], _ => rfl) scRemoved (fun vs H Q E h => ?_) fun fa cdv A outer s0 H vs Q E hr h => ?_
  · obtain ⟨x, ml, st, eds, s, f, ms, m, rfl, _⟩ := h
    rfl
  · obtain ⟨x, ml, st, eds, s, f, ms, m, rfl, R, hv, hm, hd, hl, k⟩ := h
    obtain ⟨dx, y, fl, h1, Sy, h3⟩ := R.ob
    obtain ⟨dy, r, t, y1, y2, y3⟩ := id Sy
    have hu := hu_of hr
    have hD := m_is_done (P := P) (w := w) (base := base) T
    refine ⟨_, pss_cons (ps_asg (pe_dget hu (pe_fld (pe_fld (pv 0) rfl) rfl) (pv 1) (fun _ _ => rfl)) (pg_tup rfl (pgs_cons (pg_name (i := 2) scRemoved.nd rfl (Or.inl rfl)) (pgs_cons (pg_name (i := 3) scRemoved.nd rfl (Or.inl rfl)) (pgs_cons (pg_name (i := 4) scRemoved.nd rfl (Or.inl rfl)) pgs_nil)))))
      (Evl.pss_cut (ps_if (pw_and (pt_cmpR (op_inN hr.units) (pv 2) (pe_tup (pa_cons (pe_gs T.g_FAILED) (pa_cons (pe_gs T.g_READY) pa_nil))) rfl)
          (pw_and1 (pt_not (pt_val (pe_mt hD hr (by decide) (pv 0) (pa_cons (pv 1) (pa_cons (pv 3) (pa_cons (pe_tup (pa_cons (pe_gs T.g_LEAVE) (pa_cons pe_str (pa_cons pe_int pa_nil)))) pa_nil)))))))).pt
          (pss_cons (ps_if (pt_val (pe_mt hD hr (by decide) (pv 0) (pa_cons (pv 1) (pa_cons (pv 3) (pa_cons (pe_tup (pa_cons (pe_gs T.g_SETUP) (pa_cons pe_str (pa_cons pe_int pa_nil)))) pa_nil))))) (pss_one (ps_ret (pe_dget hu (pe_fld (pe_fld (pv 0) rfl) rfl) (pv 1) (fun _ _ => rfl)))) pss_nil)
          (pss_one (ps_ret (pe_tup (pa_cons (pe_gs T.g_FAILED) (pa_cons (pv 3) (pa_cons (pv 4) pa_nil))))))) pss_nil)
      (pss_one (ps_ret (pe_tup (pa_cons (pe_ifExp (pt_val (pe_mt hD hr (by decide) (pv 0) (pa_cons (pv 1) (pa_cons (pv 3) (pa_cons (pe_tup (pa_cons (pe_gs T.g_CLEAN) (pa_cons pe_str (pa_cons pe_int pa_nil)))) pa_nil))))) (pe_gs T.g_LEFT) (pe_gs T.g_HALF)) (pa_cons (pv 3) (pa_cons (pv 4) pa_nil))))))), ?_⟩
    refine ⟨_, rfl, x, a.rn, dx, _, _, rfl, h1, T.cl_rn, T.no_rn_base, rfl, y, a.sy, dy, _, _, rfl, y1, T.cl_sy, T.no_sy_rows, rfl, _, rfl, r, _, rfl, dget_k (k := Sum.inr app) (.inl y2), t, _, rfl, y3, rfl, _, _, rfl, _, _, rfl, _, _, rfl, rfl, ?_⟩
    refine ⟨fun σ' H' => σ' = [some (.ref x), some (.str app), some (.str s.a.txt), some (.int s.v), some (.int s.d)] ∧ ∃ ms' m', ExB ml H H' ∧ H' ml = some (.lst ms') ∧ MdAt K H' ms' m' ∧ m'.length ≤ 950 ∧ KK K ml H' (rem2 eds s) f m' (RepS K) Q, ?_, ?_⟩
    · refine ⟨_, rfl, (by show 2 ≤ sizeLine; decide), fun q hq => ?_⟩
      have e2 : Ex H (upd H q (.tup [.str "failed", .str "ready"])) := Ex.new hq
      refine ⟨_, q, _, [.text "failed", .text "ready"], rfl, .inr (.inl (.inl upd_same)), nk_sta s.a, .cons (.text _) (.cons (.text _) .nil), Nat.zero_le _, _, rfl, ?_⟩
      rw [if_neg (by decide), fr_in]
      generalize upd H q (.tup [.str "failed", .str "ready"]) = H2 at e2 ⊢
      have R2 := R.fz (Fz.ex e2)
      have k2 := k.mono (ExB.ex e2)
      unfold removed at k2
      by_cases c : s.a = .failed ∨ s.a = .ready
      · refine iteP c ?_
        rw [if_pos c] at k2
        refine ⟨_, rfl, x, dx, _, rfl, e2 _ _ h1, rfl, _, rfl, _, rfl, (by show 3 ≤ sizeLine; decide), done_call (wd := .leave) (act := .remove) R2 (e2 _ _ hm) (hd.fz (Fz.ex e2)) (by omega) hv fun b l H3 ms3 e3 hm3 hd3 hrun hll => ?_⟩
        have k3 := k2.next e3 hrun
        have R3 := R2.fz (e3.fz (e2 _ _ hm) rfl)
        have hl3 : (m ++ l).length ≤ 901 := by rw [List.length_append]; omega
        generalize m ++ l = m3 at k3 hd3 hl3
        refine ⟨_, rfl, ?_⟩
        cases b with
        | true =>
          rw [if_pos rfl] at k3
          exact iteF ⟨rfl, ms3, m3, (ExB.ex e2).trans e3, hm3, hd3, by omega, k3⟩
        | false =>
          rw [if_neg (by decide)] at k3
          refine iteT ?_
          obtain ⟨dx3, y3', fl3, x1, Sy3, x3⟩ := R3.ob
          refine ⟨_, rfl, x, dx3, _, rfl, x1, rfl, _, rfl, _, rfl, (by show 3 ≤ sizeLine; decide), done_call (wd := .setup) (act := .abortRemove) R3 hm3 hd3 (by omega) hv fun b l H4 ms4 e4 hm4 hd4 hrun hll => ?_⟩
          have k4 := k3.next e4 hrun
          have R4 := R3.fz (e4.fz hm3 rfl)
          obtain ⟨dx4, y4, fl4, x1, Sy4, x3⟩ := R4.ob
          obtain ⟨dy4, r4, t4, z1, z2, z3⟩ := id Sy4
          refine ⟨_, rfl, ?_⟩
          cases b with
          | true =>
            rw [if_pos rfl] at k4
            exact iteT ⟨_, rfl, x, a.rn, dx4, _, _, rfl, x1, T.cl_rn, T.no_rn_base, rfl, y4, a.sy, dy4, _, _, rfl, z1, T.cl_sy, T.no_sy_rows, rfl, _, rfl, r4, _, rfl, dget_k (k := Sum.inr app) (.inl z2), k4.ret ExB.rfl' hm4 hd4 ⟨t4, rfl, z3⟩⟩
          | false =>
            rw [if_neg (by decide)] at k4
            exact iteF ⟨_, rfl, _, rfl, (by show 3 ≤ sizeLine; decide), fun q hq => k4.ret (ExB.ex (Ex.new hq)) (by rw [upd_ne (ne_of_none hm4 hq)]; exact hm4) (hd4.fz (Fz.new hq)) ⟨q, rfl, .inl (.inl upd_same)⟩⟩
      · refine iteN c ?_
        rw [if_neg c] at k2
        exact iteF ⟨rfl, ms, m, ExB.ex e2, e2 _ _ hm, hd.fz (Fz.ex e2), by omega, k2⟩
    · rintro σ' H2 ⟨rfl, ms2, m2, e2, hm2, hd2, hl2, k2⟩
      have R2 := R.fz (e2.fz hm rfl)
      obtain ⟨dx2, y', fl2, x1, Sy2, x3⟩ := R2.ob
      refine ⟨_, rfl, x, dx2, _, rfl, x1, rfl, _, rfl, _, rfl, (by show 3 ≤ sizeLine; decide), done_call (wd := .clean) (act := .remove) R2 hm2 hd2 (by omega) hv fun b l H3 ms3 e3 hm3 hd3 hrun hll => ?_⟩
      have k3 := k2.next e3 hrun
      refine ⟨_, rfl, ?_⟩
      cases b with
      | true => exact iteT ⟨_, rfl, _, rfl, (by show 3 ≤ sizeLine; decide), fun q hq => k3.ret (ExB.ex (Ex.new hq)) (by rw [upd_ne (ne_of_none hm3 hq)]; exact hm3) (hd3.fz (Fz.new hq)) ⟨q, rfl, .inl (.inl upd_same)⟩⟩
      | false => exact iteF ⟨_, rfl, _, rfl, (by show 3 ≤ sizeLine; decide), fun q hq => k3.ret (ExB.ex (Ex.new hq)) (by rw [upd_ne (ne_of_none hm3 hq)]; exact hm3) (hd3.fz (Fz.new hq)) ⟨q, rfl, .inl (.inl upd_same)⟩⟩
end
end Hs
end
section
set_option Elab.async false
set_option linter.all false
set_option maxRecDepth 100000
set_option maxHeartbeats 4000000
namespace Hs
open PySem PySem.Spec PyProof.Rows L2
open C8 (Cal Met Mak InsC pe_c pe_mk pe_mt pe_mt0 pe_gc call_isC)
open PySem.W (AllAlike Sortable dataLe)
open Evl (Ex)
theorem alike_texts (ls : List Str) : AllAlike ((ls.map NestedKey.text).map NestedKey.data) := by
  intro d hd d' hd'
  obtain ⟨k, hk, rfl⟩ := List.mem_map.mp hd
  obtain ⟨k', hk', rfl⟩ := List.mem_map.mp hd'
  obtain ⟨x, _, rfl⟩ := List.mem_map.mp hk
  obtain ⟨x', _, rfl⟩ := List.mem_map.mp hk'
  rfl
theorem sortable_texts (ls : List Str) : Sortable ((ls.map NestedKey.text).map NestedKey.data) := .inr fun d hd => by
  obtain ⟨k, hk, rfl⟩ := List.mem_map.mp hd
  obtain ⟨x, _, rfl⟩ := List.mem_map.mp hk
  show PyData.str x ≠ .none ∧ ∀ xs, PyData.str x ≠ .tuple xs
  exact ⟨(fun z => by cases z), fun xs z => by cases z⟩
theorem nk_texts {K : PySem.W.Frag} {H : Hp} : ∀ ls : List Str, NkAll K H (ls.map V.str) (ls.map NestedKey.text)
  | [] => .nil
  | x :: ls => .cons (.text _) (nk_texts ls)
theorem depth_texts (ls : List Str) : ∀ k ∈ ls.map NestedKey.text, k.data.depth ≤ 8 := fun k hk => by
  obtain ⟨x, _, rfl⟩ := List.mem_map.mp hk
  exact Nat.zero_le _
theorem one_of {x : Str} {ls zs : List Str} (nd : ls.Nodup) (hm : ∀ z, z ∈ ls ↔ z ∈ zs) (hz : ∀ z ∈ zs, z = x) (hn : x ∈ zs) : ls = [x] := by
  have h1 : ∀ z ∈ ls, z = x := fun z h => hz z ((hm z).mp h)
  have h2 := (hm x).mpr hn
  match ls, nd, h1, h2 with
  | [y], _, h1, _ => rw [h1 y List.mem_cons_self]
  | y :: y' :: r, nd, h1, _ =>
    have e1 := h1 y List.mem_cons_self
    have e2 := h1 y' (List.mem_cons_of_mem _ List.mem_cons_self)
    have := (List.nodup_cons.mp nd).1
    rw [e1, e2] at this
    exact absurd List.mem_cons_self this
section
variable {P : Program} {w : World} {K : PySem.W.Frag} {mg : Str → Option Value} {base : Heap} {a : Ads}
theorem ex_lst {H H' : Hp} {D : Addr} {xs : List V} (e : Ex H H') (h : H D = none) : Ex H (upd H' D (.lst xs)) := e.mut h
theorem kvs_get {H : Hp} {es : List Addr} {eds : List Ed} (h : EdsAt K a H es eds) {i : Nat} {k : List Key} {v : V} (hi : (kvsOf es eds)[i]? = some (k, v)) : ∃ ed, ed ∈ eds ∧ eds[i]? = some ed ∧ k = [.inr app, .inl ed.v] := by
  unfold kvsOf at hi
  rw [List.getElem?_map] at hi
  cases hz : (es.zip eds)[i]? with
  | none => rw [hz] at hi; cases hi
  | some p =>
    rw [hz] at hi
    obtain ⟨e, ed⟩ := p
    have h2 := (List.getElem?_zip_eq_some.mp hz).2
    refine ⟨ed, List.mem_of_getElem? h2, h2, ?_⟩
    have z := Option.some.inj hi
    injection z with z _
    exact z.symm
theorem kvs_len {H : Hp} : ∀ {es : List Addr} {eds : List Ed}, EdsAt K a H es eds → (kvsOf es eds).length = eds.length
  | _, _, .nil => rfl
  | _, _, .cons _ h => congrArg Nat.succ (kvs_len h)
/-! ### Store.names -/
def spNames (K : PySem.W.Frag) (a : Ads) : Sp := fun vs H Q _ => ∃ st eds, vs = [.ref st] ∧ StoreAt K a H st eds ∧ EdsOk eds ∧ ∀ p H', Ex H H' → H' p = some (.tup [.str app]) → Q (.ref p) H'
theorem scNames : FnScope ["self", "name", "version"] ["self"] (defScope s_Store_names) := ⟨rfl, rfl, rfl, by decide +kernel, rfl, by decide +kernel, by decide +kernel⟩
theorem p_names (T : TX K mg a) : Prp P w K mg base 1 a.st "names" (spNames K a) := by
  refine prpF T.cl_st T.p_st_names (fun _ _ _ _ _ _ us hl => match us, hl with | [_], _ => rfl) scNames (fun vs H Q E h => ?_) fun fa cdv A outer s0 H vs Q E hr h => ?_
  · obtain ⟨st, eds, rfl, _⟩ := h
    rfl
  · obtain ⟨st, eds, rfl, ⟨dx, d, es, g1, g2, g3⟩, ok, k⟩ := h
    have hl := kvs_len g3
    refine ⟨_, pss_one (ps_ret (pe_callTy call_tuple_of (by rfl) T.f_tuple (by decide +kernel) (pa_cons (pe_callB (cr_sortedC rfl hr.units) (by rfl) T.f_sorted (by decide +kernel) (pa_cons (pe_callTy (cr_setXL rfl) (by rfl) T.f_set (by decide +kernel) (pa_cons
      (pe_lock (pe_lc (own := [("name", 1), ("version", 2)]) (g := gTup K 2 (gCons (gName 1) (gCons (gName 2) gNil))) (tt := tYes) rfl scNames.nd (pi_keys (pe_fld (pv 0) rfl)) (blkOk_by (N := ["self", "name", "version"]) (sc := defScope s_Store_names) (by decide +kernel))
        (fun _ _ _ _ _ => pg_tup rfl (pgs_cons (pg_name (i := 1) scNames.nd rfl (Or.inl rfl)) (pgs_cons (pg_name (i := 2) scNames.nd rfl (Or.inl rfl)) pgs_nil))) (fun _ _ _ _ _ => pts_nil) (fun _ _ _ _ _ => pv 1)))
      pa_nil)) pa_nil)) pa_nil))), ?_⟩
    refine ⟨d, .dT (kvsOf es eds), g2, trivial, fun od => ?_⟩
    have hfr : ∀ H', Ex (upd H d (.frz od (.dT (kvsOf es eds)))) H' → H' d = some (.frz od (.dT (kvsOf es eds))) := fun H' e => e _ _ upd_same
    refine ⟨_, rfl, st, a.st, dx, _, _, rfl, (by rw [upd_ne (ne_of g1 g2 (by intro z; cases z))]; exact g1), T.cl_st, T.no_st_known, rfl, d, od, rfl, .inr ⟨_, upd_same, fun D hD => lc_it walk_keysT (fun i H' => Ex (upd H d (.frz od (.dT (kvsOf es eds)))) H' ∧ H' D = some (.lst ((List.replicate i app).map V.str))) ⟨Ex.new hD, upd_same⟩ (fun i H' _ q => hfr _ q.1) ?_ ?_⟩⟩
    · rintro i x H' H'' hi ⟨e1, hd⟩ ⟨rfl, k0, v0, q, hk, rfl, hq⟩
      obtain ⟨ed, hm, _, rfl⟩ := kvs_get g3 hk
      refine ⟨q, [.str app, .int ed.v], rfl, .inl (.inl hq), rfl, _, _, rfl, _, _, rfl, rfl, rfl, yes_ok ?_⟩
      refine ⟨_, rfl, _, hd, ?_, e1.mut hD, ?_⟩
      · rw [List.length_map, List.length_replicate, sizeLine_eq]
        have := ok.few
        omega
      · rw [upd_same, List.replicate_succ', List.map_append] <;> rfl
    · rintro H' ⟨e1, hd⟩
      refine ⟨hfr _ e1, ?_⟩
      have e2 : Ex H (upd H' d (.dT (kvsOf es eds))) := ex_lock g2 e1
      have nD : D ≠ d := fun z => by
        rw [z, upd_same] at hD
        cases hD
      refine ⟨D, List.replicate (kvsOf es eds).length app, rfl, ?_, ?_, fun b ls hb nd hm hls => ?_⟩
      · rw [if_neg (by decide)]
        exact SqL.of (by rw [upd_ne nD]; exact hd)
      · rw [List.length_replicate, hl]
        have := ok.few
        omega
      · have e3 := e2.trans (Ex.new (o := SetX P w b ls) hb)
        have hone : ls = [app] := one_of nd hm (fun z hz => (List.mem_replicate.mp hz).2) (by
          rw [List.mem_replicate, hl]
          refine ⟨fun z => ok.some (List.eq_nil_of_length_eq_zero z), rfl⟩)
        subst hone
        refine ⟨b, _, _, rfl, col_setX upd_same hls, nk_texts _, (by show 1 ≤ sizeLine; decide), alike_texts _, sortable_texts _, depth_texts _, fun ys ls2 p pys pls hnk pw hp => ?_⟩
        have hys : ys = [.str app] := List.perm_singleton.mp pys
        subst hys
        refine ⟨p, _, rfl, .inl ⟨SqL.of upd_same, fun t ht => ?_⟩⟩
        exact k _ _ ((e3.trans (Ex.new hp)).trans (Ex.new ht)) upd_same
end
end Hs
end
section
set_option Elab.async false
set_option linter.all false
set_option maxRecDepth 100000
set_option maxHeartbeats 4000000
namespace Hs
open PySem PySem.Spec PyProof.Rows L2
open C8 (Cal Met Mak InsC pe_c pe_mk pe_mt pe_mt0 pe_gc call_isC)
open PySem.W (AllAlike Sortable dataLe)
open PySem.SeqAt (EqAt)
open Evl (Ex)
section
variable {prog : Program} {w : World} {A : Around} {E : Value → Shared → Prop} {s : Shared} {Ky : Type} [DecidableEq Ky] {knd : HeapKind prog w Ky}
theorem samePairs_selfG {nm : String} {a : Addr} {xs : List (Ky × Addr × Value)} {Q : Bool → Shared → Prop} (ha : (a == sysModules) = false) (da : s.heap.DictOfH knd a xs) (hu : knd.room A) (h : Q true s) :
    wpAny (model prog w) A (Builtin.Dict.samePairs nm a a) Q E s := by
  obtain ⟨o, es, ep, ho, _, hd, he, his, hn⟩ := da
  have hl : es.size = xs.length := size_of_entries he
  unfold Builtin.Dict.samePairs Builtin.Dict.showsAll
  rw [if_neg (show ¬ (a == sysModules) = true by rw [ha]; exact Bool.false_ne_true)]
  refine wpAny_bind (wpAny_pure (wpAny_bind (wpAny_pure ?_)))
  refine wpAny_bind (wpAny_dictEntries ho hd ?_)
  dsimp only
  refine wpAny_bind (wpAny_dictEntries ho hd ?_)
  rw [if_neg (by simp)]
  refine wpAny_bind (wpAny_dictEpoch ho hd ?_)
  refine wpAny_bind ?_
  rw [Std.Legacy.Range.forIn_eq_forIn_range']
  simp only [Std.Legacy.Range.size, Nat.sub_zero, Nat.add_sub_cancel, Nat.div_one]
  refine wpAny_forIn_list _
    (fun rest q s' => s' = s ∧ q = (none, ()) ∧ ∃ i, rest = List.range' i (es.size - i) ∧ i ≤ es.size)
    _ ?_ ?_ _ _ ⟨rfl, rfl, 0, by simp, Nat.zero_le _⟩
  · rintro x rest q s' ⟨rfl, rfl, i, hr, hi⟩
    have hlt : i < es.size := by
      rcases Nat.lt_or_ge i es.size with h | h
      · exact h
      · rw [Nat.sub_eq_zero_of_le h] at hr; simp at hr
    obtain ⟨rfl, hrest⟩ : x = i ∧ rest = List.range' (i + 1) (es.size - (i + 1)) := by
      have e : es.size - i = (es.size - (i + 1)) + 1 := by omega
      rw [e, List.range'_succ] at hr
      injection hr with h1 h2
      exact ⟨h1, h2⟩
    refine wpAny_bind (wpAny_dictEntries ho hd ?_)
    rw [Array.getElem?_eq_getElem hlt]
    have hlt' : x < xs.length := by rw [← hl]; exact hlt
    obtain ⟨⟨k, ka, va⟩, hkv⟩ : ∃ p, xs[x]? = some p := ⟨_, List.getElem?_eq_getElem hlt'⟩
    have hent : es[x]? = some (entryOfKey knd (k, ka, va)) := by rw [entry_at he, hkv] <;> rfl
    have hex : es[x] = entryOfKey knd (k, ka, va) := by
      rw [Array.getElem?_eq_getElem hlt] at hent
      exact Option.some.inj hent
    show wpAny _ _ (holding [es[x].key, es[x].val] _ >>= _) _ _ _
    rw [hex]
    have hkk := his _ (List.mem_of_getElem? hkv)
    refine wpAny_bind (wpAny_holding (wpAny_bind (wpAny_dictFind_heap (knd := knd) hu hkk ho hd he his hn (fun z => ?_) fun j p hj => ?_)))
    · exact absurd hkv (z x (ka, va))
    · have ej : j = x := by
        have a1 : (xs.map (·.1))[j]? = some k := by rw [List.getElem?_map, hj] <;> rfl
        have a2 : (xs.map (·.1))[x]? = some k := by rw [List.getElem?_map, hkv] <;> rfl
        obtain ⟨g1, e1⟩ := List.getElem?_eq_some_iff.mp a1
        obtain ⟨g2, e2⟩ := List.getElem?_eq_some_iff.mp a2
        rcases Nat.lt_trichotomy j x with c | c | c
        · exact absurd (e1.trans e2.symm) (List.pairwise_iff_getElem.mp hn j x g1 g2 c)
        · exact c
        · exact absurd (e2.trans e1.symm) (List.pairwise_iff_getElem.mp hn x j g2 g1 c)
      subst ej
      refine wpAny_bind (wpAny_dictEntries ho hd ?_)
      rw [hent]
      refine wpAny_holding (EqAt.same (A := A) (s := s') va _ _ _ _ ?_)
      show wpAny _ _ (if (!true) = true then _ else _) _ _ _
      rw [if_neg (by decide)]
      refine wpAny_bind (wpAny_dictEpoch ho hd ?_)
      rw [if_neg (by simp)]
      exact wpAny_pure ⟨rfl, rfl, j + 1, hrest, hlt⟩
  · rintro q s' ⟨rfl, rfl, i, hr, hi⟩
    exact wpAny_pure h
end
section
variable {X : Cx}
/-- d == d, keys tuples -/
def rEqSelfT : R2 := fun x y H Q => ∃ d kvs, x = .ref d ∧ y = .ref d ∧ H d = some (.dT kvs) ∧ Q (.bl true) H
theorem op_eqSelfT (hu : X.A.units + 64 < cLine) : OpR X (compareOp .Eq) rEqSelfT := by
  intro pins s σ H x y v u Q I rx ry h
  obtain ⟨d, kvs, rfl, rfl, hd, q⟩ := h
  cases rx
  cases ry
  obtain ⟨_, sm, xs, _, D⟩ := dt_rd I.hok (.inl hd)
  obtain ⟨o, es, ep, ho, hx, _⟩ := id D
  have hT : s.TypeIs (.ref d) "dict" := ⟨o, ho, hx.1⟩
  refine wpAny_richCompare_same_room (op := .Eq) hT hT PySem.F.slot_dict_eq (wpAny_call_entry PySem.F.slot_dict_eq hT PySem.F.entry_dict_eq ?_ (PySem.F.args_dict_eq_2 _ _)) (by omega)
  show wpAny _ _ (Builtin.Dict.dictSlotArgs "__eq__" ⟨[.ref d, .ref d], []⟩ >>= _) _ _ s
  refine wpAny_bind ?_
  unfold Builtin.Dict.dictSlotArgs
  refine wpAny_bind (wpAny_notOrdered_dict hT ?_)
  show wpAny _ _ (pure (Value.ref d, Value.ref d)) _ _ s
  refine wpAny_pure ?_
  refine wpAny_bind (wpAny_isInstance (T := "dict") hT PySem.F.sub_dict_dict ?_)
  simp only [Bool.not_true, Bool.false_eq_true, if_false]
  refine wpAny_bind (wpAny_pure (wpAny_bind (wpAny_pure ?_)))
  refine wpAny_bind (samePairs_selfG (knd := tupleKind (mixKind X.prog X.w)) sm D (tupleKind_room_in1 (by omega)) ?_)
  refine wpAny_pure ⟨_, rfl, ?_, ?_⟩
  · exact fun x => nomatch x
  · exact ⟨.bl true, H, I, rfl, q⟩
end
section
variable {P : Program} {w : World} {K : PySem.W.Frag} {mg : Str → Option Value} {base : Heap} {a : Ads}
theorem pe_gcl {X : Cx} {x : Str} {p : Addr} {pos : Pos} (h : X.mg x = some (.ref p)) (hg : Gl X x := by rfl) (hd : (x == ("__debug__" : Str)) = false := by decide) : PE X (.Name x pos) (tC (.ref p)) := pe_gc hg ⟨_, h, rfl⟩ hd
/-! ### Store.versions -/
def spVersions (K : PySem.W.Frag) (a : Ads) : Sp := fun vs H Q _ => ∃ st eds, vs = [.ref st, .str app] ∧ StoreAt K a H st eds ∧ EdsOk eds ∧ ∀ p ls H', Ex H H' → H' p = some (.tup (List.map V.int ls)) → ls.Perm (vers eds) → Q (.ref p) H'
theorem scVersions : FnScope ["self", "name", "other", "version"] ["self", "name"] (defScope s_Store_versions) := ⟨rfl, rfl, rfl, by decide +kernel, rfl, by decide +kernel, by decide +kernel⟩
theorem m_versions (T : TX K mg a) : Met P w K mg base 3 a.st "versions" (spVersions K a) [] := by
  refine metF T.cl_st T.m_st_versions (fun _ _ _ _ _ _ us hl => match us, hl with | [_, _], _ => rfl) scVersions (fun vs H Q E h => ?_) fun fa cdv A outer s0 H vs Q E hr h => ?_
  · obtain ⟨st, eds, rfl, _⟩ := h
    rfl
  · obtain ⟨st, eds, rfl, S, ok, k⟩ := h
    have hN := p_names (P := P) (w := w) (base := base) T
    obtain ⟨dx0, d0, es0, gg, _⟩ := id S
    refine ⟨_, pss_cons (ps_if (pt_cmpR (op_ninN hr.units) (pv 1) (pe_pr hN hr (by decide) (pv 0)) rfl) pss_never pss_nil)
      (pss_one (ps_ret (pe_callTy call_tuple_of (by rfl) T.f_tuple (by decide +kernel) (pa_cons (pe_callB cr_sorted (by rfl) T.f_sorted (by decide +kernel) (pa_cons
      (pe_lock (pe_lc (own := [("other", 2), ("version", 3)]) (g := gTup K 2 (gCons (gName 2) (gCons (gName 3) gNil))) (tt := tTest (tOp rEq (tVar 2) (tVar 1))) rfl scVersions.nd (pi_keys (pe_fld (pv 0) rfl)) (blkOk_by (N := ["self", "name", "other", "version"]) (sc := defScope s_Store_versions) (by decide +kernel))
        (fun _ _ _ _ _ => pg_tup rfl (pgs_cons (pg_name (i := 2) scVersions.nd rfl (Or.inl rfl)) (pgs_cons (pg_name (i := 3) scVersions.nd rfl (Or.inl rfl)) pgs_nil))) (fun _ _ _ _ _ => pts_one (pt_cmpR op_eq (pv 2) (pv 1) (nomark _))) (fun _ _ _ _ _ => pv 3)))
      pa_nil)) pa_nil)))), ?_⟩
    refine ⟨_, rfl, _, rfl, st, dx0, _, rfl, gg, st, eds, rfl, S, ok, fun p H1 e1 hp => ?_⟩
    refine ⟨_, p, _, [.text app], rfl, .inr (.inl (.inl hp)), .text _, .cons (.text _) .nil, Nat.zero_le _, _, rfl, ?_⟩
    rw [if_pos rfl]
    refine iteNS List.mem_cons_self ?_
    obtain ⟨dx, d, es, g1, g2, g3⟩ := S.fz (Fz.ex e1)
    have hl := kvs_len g3
    refine ⟨d, .dT (kvsOf es eds), g2, trivial, fun od => ?_⟩
    have hfr : ∀ H', Ex (upd H1 d (.frz od (.dT (kvsOf es eds)))) H' → H' d = some (.frz od (.dT (kvsOf es eds))) := fun H' e => e _ _ upd_same
    refine ⟨_, rfl, st, a.st, dx, _, _, rfl, (by rw [upd_ne (ne_of g1 g2 (by intro z; cases z))]; exact g1), T.cl_st, T.no_st_known, rfl, d, od, rfl, .inr ⟨_, upd_same, fun D hD => lc_it walk_keysT (fun i H' => Ex (upd H1 d (.frz od (.dT (kvsOf es eds)))) H' ∧ H' D = some (.lst (((vers eds).take i).map V.int))) ⟨Ex.new hD, upd_same⟩ (fun i H' _ q => hfr _ q.1) ?_ ?_⟩⟩
    · rintro i x H' H'' hi ⟨e2, hd⟩ ⟨rfl, k0, v0, q, hk, rfl, hq⟩
      obtain ⟨ed, hm, hed, rfl⟩ := kvs_get g3 hk
      refine ⟨q, [.str app, .int ed.v], rfl, .inl (.inl hq), rfl, _, _, rfl, _, _, rfl, rfl, rfl, _, rfl, _, rfl, rfl, _, rfl, iteP rfl ?_⟩
      refine ⟨_, rfl, _, hd, ?_, e2.mut hD, ?_⟩
      · rw [List.length_map, List.length_take, sizeLine_eq]
        have := ok.few
        unfold vers
        rw [List.length_map]
        omega
      · have hv : (vers eds)[i]? = some ed.v := by
          unfold vers
          rw [List.getElem?_map, hed] <;> rfl
        rw [upd_same, List.take_succ, hv, List.map_append] <;> rfl
    · rintro H' ⟨e2, hd⟩
      refine ⟨hfr _ e2, ?_⟩
      have e3 : Ex H1 (upd H' d (.dT (kvsOf es eds))) := ex_lock g2 e2
      have nD : D ≠ d := fun z => by
        rw [z, upd_same] at hD
        cases hD
      have hvl : (vers eds).length = (kvsOf es eds).length := by rw [hl]; simp [vers]
      refine ⟨D, vers eds, rfl, SqL.of (by rw [upd_ne nD, hd, ← hvl, List.take_length]), by rw [hvl, hl]; have := ok.few; omega, fun ns p2 hpm _ hp2 => ?_⟩
      refine ⟨p2, _, rfl, .inl ⟨SqL.of upd_same, fun t ht => ?_⟩⟩
      exact k _ ns _ (((e1.trans e3).trans (Ex.new hp2)).trans (Ex.new ht)) upd_same hpm
/-! ### Store.__getitem__ -/
def spGetItem (K : PySem.W.Frag) (a : Ads) : Sp := fun vs H Q _ => ∃ st eds k v ed, vs = [.ref st, .ref k] ∧ StoreAt K a H st eds ∧ H k = some (.tup [.str app, .int v]) ∧ edAt eds v = some ed ∧ ∀ e, EdAt K a H e ed → Q (.ref e) H
theorem scGetItem : FnScope ["self", "key"] ["self", "key"] (defScope s_Store_getitem) := ⟨rfl, rfl, rfl, by decide +kernel, rfl, by decide +kernel, by decide +kernel⟩
theorem m_getitem (T : TX K mg a) : Met P w K mg base 1 a.st "__getitem__" (spGetItem K a) [] := by
  refine metF T.cl_st T.m_st_getitem (fun _ _ _ _ _ _ us hl => match us, hl with | [_, _], _ => rfl) scGetItem (fun vs H Q E h => ?_) fun fa cdv A outer s0 H vs Q E hr h => ?_
  · obtain ⟨st, eds, k, v, ed, rfl, _⟩ := h
    rfl
  · obtain ⟨st, eds, k, v, ed, rfl, ⟨dx, d, es, g1, g2, g3⟩, hk, hed, q⟩ := h
    have hu := hu_of hr
    obtain ⟨e, he, hval⟩ := g3.at hed
    refine ⟨_, pss_cons (ps_if (pt_cmp (pc_dnotin hu (pv 1) (pe_fld (pv 0) rfl))) pss_never pss_nil) (pss_one (ps_ret (pe_dget hu (pe_fld (pv 0) rfl) (pv 1) (fun _ _ => rfl)))), ?_⟩
    refine ⟨_, rfl, _, rfl, st, a.st, dx, _, _, rfl, g1, T.cl_st, T.no_st_known, rfl, d, _, rfl, dget_t (k := [.inr app, .inl v]) (.inl g2) hk, _, rfl, ?_⟩
    rw [hval]
    refine iteF ?_
    refine ⟨_, rfl, st, a.st, dx, _, _, rfl, g1, T.cl_st, T.no_st_known, rfl, _, rfl, d, .ref e, rfl, ?_, q e he⟩
    rw [← hval]
    exact dget_t (k := [.inr app, .inl v]) (.inl g2) hk
/-! ### Store.__eq__: the same store -/
def spStEq (K : PySem.W.Frag) (a : Ads) : Sp := fun vs H Q _ => ∃ st eds, vs = [.ref st, .ref st] ∧ StoreAt K a H st eds ∧ Q (.bl true) H
theorem scStEq : FnScope ["self", "other"] ["self", "other"] (defScope s_Store_eq) := ⟨rfl, rfl, rfl, by decide +kernel, rfl, by decide +kernel, by decide +kernel⟩
theorem m_st_eq (T : TX K mg a) : Met P w K mg base 1 a.st "__eq__" (spStEq K a) [] := by
  refine metF T.cl_st T.m_st_eq (fun _ _ _ _ _ _ us hl => match us, hl with | [_, _], _ => rfl) scStEq (fun vs H Q E h => ?_) fun fa cdv A outer s0 H vs Q E hr h => ?_
  · obtain ⟨st, eds, rfl, _⟩ := h
    rfl
  · obtain ⟨st, eds, rfl, ⟨dx, d, es, g1, g2, g3⟩, q⟩ := h
    refine ⟨_, pss_one (ps_ret (pe_and (pe_callB (call_isC T.i_st) (by rfl) T.f_isinstance PyProof.Rows.boot_isinstance (pa_cons (pv 1) (pa_cons (pe_gcl T.mg_st) pa_nil))) (pe_one (pe_cmpR (op_eqSelfT hr.units) (pe_fld (pv 0) rfl) (pe_fld (pv 1) rfl) (nomark _))))), ?_⟩
    refine ⟨_, rfl, st, dx, _, rfl, g1, _, rfl, iteT ?_⟩
    exact ⟨_, rfl, st, a.st, dx, _, _, rfl, g1, T.cl_st, T.no_st_known, rfl, _, rfl, st, a.st, dx, _, _, rfl, g1, T.cl_st, T.no_st_known, rfl, d, _, rfl, rfl, g2, q⟩
end
end Hs
end
section
set_option Elab.async false
set_option linter.all false
set_option maxRecDepth 100000
set_option maxHeartbeats 4000000
namespace Hs
open PySem PySem.Spec PyProof.Rows L2
open C8 (Cal Met Mak InsC pe_c pe_mk pe_mt pe_mt0 pe_gc call_isC)
open Evl (Ex)
theorem refu_name {eds : List Ed} {s : St} {d : Dd} (h : refu eds s d = false) : d.name = true := by
  cases d with
  | unpack n v => cases n <;> simp [refu, Dd.name] at h ⊢
  | setup n => cases n <;> simp [refu, Dd.name] at h ⊢
  | remove n => cases n <;> simp [refu, Dd.name] at h ⊢
  | purge n => cases n <;> simp [refu, Dd.name] at h ⊢
section
variable {P : Program} {w : World} {K : PySem.W.Frag} {mg : Str → Option Value} {base : Heap} {a : Ads}
/-! ### state_behind -/
def spBehind (K : PySem.W.Frag) (a : Ads) : Sp := fun vs H Q _ => ∃ x ml st eds s f d p ms m, vs = [.ref x, .ref p] ∧ RunAt K a H x ml st eds s f ∧ StOk eds s ∧ SqT K H p (ddV d) ∧ refu eds s d = false ∧
  H ml = some (.lst ms) ∧ MdAt K H ms m ∧ m.length ≤ 900 ∧ KK K ml H (prog eds s d) f m (RepS K) Q
theorem scBehind : FnScope ["self", "deed", "word", "name", "state", "is_fresh"] ["self", "deed"] (defScope s_Run_state_behind) := ⟨rfl, rfl, rfl, by decide +kernel, rfl, by decide +kernel, by decide +kernel⟩
theorem m_behind (T : TX K mg a) : Met P w K mg base 5 a.rn "state_behind" (spBehind K a) [] := by
  refine metF T.cl_rn T.m_rn_state_behind (fun _ _ _ _ _ _ us hl => match us, hl with | [_, _], _ => rfl) scBehind (fun vs H Q E h => ?_) fun fa cdv A outer s0 H vs Q E hr h => ?_
  · obtain ⟨x, ml, st, eds, s, f, d, p, ms, m, rfl, _⟩ := h
    rfl
  · obtain ⟨x, ml, st, eds, s, f, d, p, ms, m, rfl, R, hs, hp, hrf, hm, hd, hl, k⟩ := h
    have hu := hu_of hr
    have hN := m_new (P := P) (w := w) (base := base) T
    have hO := m_over (P := P) (w := w) (base := base) T
    have hS := m_set_up (P := P) (w := w) (base := base) T
    have hR := m_removed (P := P) (w := w) (base := base) T
    have hP := m_purged (P := P) (w := w) (base := base) T
    obtain ⟨pT, gT, sT⟩ := T.g_THERE
    refine ⟨_, pss_cons (ps_asg (pe_slice sl_tupA (pv 1) po_none (po_some pe_int)) (pg_tup rfl (pgs_cons (pg_name (i := 2) scBehind.nd rfl (Or.inl rfl)) (pgs_cons (pg_name (i := 3) scBehind.nd rfl (Or.inl rfl)) pgs_nil))))
      (pss_cons (ps_set (i := 4) scBehind.nd rfl (Or.inl rfl) (pe_dget hu (pe_fld (pe_fld (pv 0) rfl) rfl) (pv 3) (fun _ _ => rfl)))
      (pss_cons (ps_if (pt_cmpR op_eq (pv 2) (pe_gs T.g_UNPACK) (nomark _))
        (pss_cons (ps_set (i := 5) scBehind.nd rfl (Or.inl rfl) (pe_or (pe_cmpR (op_ninN hr.units) (pe_ix ix_tup (pv 4) pe_int (fun _ _ => rfl)) (pe_gt gT) rfl) (pe_one (pe_cmpR op_eq (pe_ix ix_tup (pv 4) pe_int (fun _ _ => rfl)) (pe_gs T.g_HALF) (nomark _)))))
        (pss_one (ps_ret (pe_ifExp (pt_val (pv 5)) (pe_mt hN hr (by decide) (pv 0) (pa_cons (pv 3) (pa_cons (pe_ix ix_tup (pv 1) pe_int (fun _ _ => rfl)) pa_nil)))
          (pe_mt hO hr (by decide) (pv 0) (pa_cons (pv 3) (pa_cons (pe_ix ix_tup (pv 1) pe_int (fun _ _ => rfl)) pa_nil))))))) pss_nil)
      (pss_cons (ps_if (pt_cmpR op_eq (pv 2) (pe_gs T.g_SETUP) (nomark _)) (pss_one (ps_ret (pe_mt hS hr (by decide) (pv 0) (pa_cons (pv 3) pa_nil)))) pss_nil)
      (pss_one (ps_ret (pe_ifExp (pt_cmpR op_eq (pv 2) (pe_gs T.g_REMOVE) (nomark _)) (pe_mt hR hr (by decide) (pv 0) (pa_cons (pv 3) pa_nil)) (pe_mt hP hr (by decide) (pv 0) (pa_cons (pv 3) pa_nil)))))))), ?_⟩
    refine ⟨_, rfl, _, rfl, slice2 hp fun q H1 e1 hq => ?_⟩
    refine ⟨q, _, rfl, hq, rfl, _, _, rfl, _, _, rfl, rfl, ?_⟩
    rw [refu_name hrf]
    have R1 := R.fz (Fz.ex e1)
    have k1 := k.mono (ExB.ex e1)
    have hp1 := fz_t (Fz.ex e1) hp
    have hm1 := e1 _ _ hm
    have hd1 := hd.fz (Fz.ex e1)
    obtain ⟨dx, y, fl, h1, Sy, h3⟩ := R1.ob
    obtain ⟨dy, r, t, y1, y2, y3⟩ := id Sy
    refine ⟨_, rfl, x, a.rn, dx, _, _, rfl, h1, T.cl_rn, T.no_rn_base, rfl, y, a.sy, dy, _, _, rfl, y1, T.cl_sy, T.no_sy_rows, rfl, _, rfl, r, _, rfl, dget_k (k := Sum.inr app) (.inl y2), ?_⟩
    refine ⟨_, rfl, rfl, _, rfl, ?_⟩
    cases d with
    | unpack n v =>
      refine iteP rfl ?_
      have hv : verOk eds v = true := by
        revert hrf
        simp only [refu]
        cases n <;> cases verOk eds v <;> simp
      refine ⟨_, rfl, t, _, 0, _, rfl, rfl, y3, rfl, _, pT, _, [.text "failed", .text "half", .text "ready", .text "unpacked"], rfl, .inr (sT _), nk_sta s.a, .cons (.text _) (.cons (.text _) (.cons (.text _) (.cons (.text _) .nil))), Nat.zero_le _, ?_⟩
      rw [if_pos rfl, there_in]
      have hprog : prog eds s (.unpack n v) = if s.a.there = false ∨ s.a = .half then unpackedNew eds s v else unpackedOver eds s v := rfl
      rw [hprog] at k1
      cases hth : s.a.there with
      | true =>
        refine ⟨_, rfl, iteF ?_⟩
        refine ⟨_, rfl, t, _, 0, _, rfl, rfl, y3, rfl, rfl, ?_⟩
        by_cases c : s.a = .half
        · rw [if_pos (.inr c)] at k1
          rw [decide_eq_true (show V.str s.a.txt = V.str "half" by rw [c] <;> rfl)]
          exact ⟨_, rfl, _, rfl, iteT ⟨_, rfl, x, dx, _, rfl, h1, rfl, _, rfl, _, rfl, p, _, 2, _, rfl, rfl, hp1, rfl, x, ml, st, eds, s, f, v, ms, m, rfl, R1, hv, hm1, hd1, hl, k1⟩⟩
        · rw [if_neg (fun z => z.elim (fun z => by rw [hth] at z; cases z) c)] at k1
          rw [decide_eq_false (show ¬ (V.str s.a.txt = V.str "half") from strNe fun z => c (sta_inj _ .half z))]
          exact ⟨_, rfl, _, rfl, iteF ⟨_, rfl, x, dx, _, rfl, h1, rfl, _, rfl, _, rfl, p, _, 2, _, rfl, rfl, hp1, rfl, x, ml, st, eds, s, f, v, ms, m, rfl, R1, hs.ver (fun z => by rw [z] at hth; cases hth), hv, hm1, hd1, hl, k1⟩⟩
      | false =>
        rw [if_pos (.inl hth)] at k1
        refine ⟨_, rfl, iteT ?_⟩
        exact ⟨_, rfl, _, rfl, iteT ⟨_, rfl, x, dx, _, rfl, h1, rfl, _, rfl, _, rfl, p, _, 2, _, rfl, rfl, hp1, rfl, x, ml, st, eds, s, f, v, ms, m, rfl, R1, hv, hm1, hd1, hl, k1⟩⟩
    | setup n =>
      refine iteN (show ¬ (V.str "setup" = V.str "unpack") by decide +kernel) ?_
      refine ⟨_, rfl, rfl, _, rfl, iteP rfl ?_⟩
      refine ⟨_, rfl, x, dx, _, rfl, h1, rfl, _, rfl, x, ml, st, eds, s, f, ms, m, rfl, R1, hs.ver ?_, hm1, hd1, hl, k1⟩
      intro z
      rw [show refu eds s (.setup n) = (!n || !(decide (s.a = .failed) || decide (s.a = .unpacked)) || !(wantsAt eds s.v).isEmpty) from rfl, z] at hrf
      revert hrf
      cases n <;> simp
    | remove n =>
      refine iteN (show ¬ (V.str "remove" = V.str "unpack") by decide +kernel) ?_
      refine ⟨_, rfl, rfl, _, rfl, iteN (show ¬ (V.str "remove" = V.str "setup") by decide +kernel) ?_⟩
      refine ⟨_, rfl, rfl, _, rfl, iteP rfl ?_⟩
      refine ⟨_, rfl, x, dx, _, rfl, h1, rfl, _, rfl, x, ml, st, eds, s, f, ms, m, rfl, R1, hs.ver ?_, hm1, hd1, hl, k1⟩
      intro z
      rw [show refu eds s (.remove n) = (!n || !s.a.there) from rfl, z] at hrf
      revert hrf
      cases n <;> simp [Sta.there]
    | purge n =>
      refine iteN (show ¬ (V.str "purge" = V.str "unpack") by decide +kernel) ?_
      refine ⟨_, rfl, rfl, _, rfl, iteN (show ¬ (V.str "purge" = V.str "setup") by decide +kernel) ?_⟩
      refine ⟨_, rfl, rfl, _, rfl, iteN (show ¬ (V.str "purge" = V.str "remove") by decide +kernel) ?_⟩
      refine ⟨_, rfl, x, dx, _, rfl, h1, rfl, _, rfl, x, ml, st, eds, s, f, ms, m, rfl, R1, hs.ver ?_, hm1, hd1, hl, k1⟩
      intro z
      rw [show refu eds s (.purge n) = (!n || !decide (s.a = .left)) from rfl, z] at hrf
      revert hrf
      cases n <;> simp
end
end Hs
end
section
set_option Elab.async false
set_option linter.all false
set_option maxRecDepth 100000
set_option maxHeartbeats 4000000
namespace Hs
open PySem PySem.Spec PyProof.Rows L2
open C8 (Cal Met Mak InsC pe_c pe_mk pe_mt pe_mt0 pe_gc call_isC)
open Evl (Ex)
/-- all but what stands at x is kept -/
def ExO (x : Addr) (H H' : Hp) : Prop := ∀ b o, b ≠ x → H b = some o → H' b = some o
section
variable {P : Program} {w : World} {K : PySem.W.Frag} {mg : Str → Option Value} {base : Heap} {a : Ads}
/-! ### Run.__init__ -/
def spRunInit (a : Ads) : Sp := fun vs H Q _ => ∃ x dx y fl, vs = [.ref x, .ref y, .ref fl] ∧ H x = some (.ins a.rn dx []) ∧
  ∀ l H', H l = none → ExO x H H' → H' x = some (.ins a.rn dx [("base", .ref y), ("fails", .ref fl), ("made", .ref l)]) → H' l = some (.lst []) → Q .non H'
theorem scRunInit : FnScope ["self", "system", "fails"] ["self", "system", "fails"] (defScope s_Run_init) := ⟨rfl, rfl, rfl, by decide +kernel, rfl, by decide +kernel, by decide +kernel⟩
theorem k_run (T : TX K mg a) : Mak P w K mg base 1 "Run" a.rn (spRunInit a) [] := by
  refine makF T.k_rn T.mg_rn (fun _ _ _ _ _ _ us hl => match us, hl with | [_, _, _], _ => rfl) scRunInit (fun vs H Q E h => ?_) fun fa cdv A outer s0 H vs Q E hr h => ?_
  · obtain ⟨x, dx, y, fl, rfl, _⟩ := h
    rfl
  · obtain ⟨x, dx, y, fl, rfl, hx, k⟩ := h
    refine ⟨_, pss_cons (ps_fld (pv 0) (pv 1) rfl) (pss_cons (ps_fld (pv 0) (pv 2) rfl) (pss_one (ps_fld (pv 0) (pe_lst pa_nil) rfl))), ?_⟩
    refine ⟨_, rfl, _, rfl, x, a.rn, dx, _, rfl, hx, T.cl_rn, T.no_rn_base, (by decide), ?_⟩
    refine ⟨_, rfl, _, rfl, x, a.rn, dx, _, rfl, upd_same, T.cl_rn, T.no_rn_fails, (by show 1 < 1000; decide), ?_⟩
    refine ⟨(by show 0 ≤ sizeLine; decide), fun l hl => ?_⟩
    have nx : l ≠ x := fun z => by
      rw [z, upd_same] at hl
      cases hl
    refine ⟨_, rfl, x, a.rn, dx, _, rfl, by rw [upd_ne nx.symm, upd_same], T.cl_rn, T.no_rn_made, (by show 2 < 1000; decide), ?_⟩
    refine k l _ ?_ ?_ upd_same ?_
    · rw [upd_ne nx, upd_ne nx] at hl
      exact hl
    · intro b o hb hbo
      rw [upd_ne hb, upd_ne, upd_ne hb, upd_ne hb]
      · exact hbo
      · rintro rfl
        rw [upd_ne nx, upd_ne nx] at hl
        rw [hl] at hbo
        cases hbo
    · rw [upd_ne nx, upd_same]
/-! ### System.store -/
def spStore (K : PySem.W.Frag) (a : Ads) : Sp := fun vs H Q _ => ∃ y st s, vs = [.ref y] ∧ SysAt K a H st y s ∧ Q (.ref st) H
theorem scStore : FnScope ["self"] ["self"] (defScope s_System_store) := ⟨rfl, rfl, rfl, by decide +kernel, rfl, by decide +kernel, by decide +kernel⟩
theorem p_store (T : TX K mg a) : Prp P w K mg base 1 a.sy "store" (spStore K a) := by
  refine prpF T.cl_sy T.p_sy_store (fun _ _ _ _ _ _ us hl => match us, hl with | [_], _ => rfl) scStore (fun vs H Q E h => ?_) fun fa cdv A outer s0 H vs Q E hr h => ?_
  · obtain ⟨y, st, s, rfl, _⟩ := h
    rfl
  · obtain ⟨y, st, s, rfl, ⟨dx, r, t, h1, h2, h3⟩, k⟩ := h
    exact ⟨_, pss_one (ps_ret (pe_fld (pv 0) rfl)), _, rfl, y, a.sy, dx, _, _, rfl, h1, T.cl_sy, T.no_sy_base, rfl, k⟩
/-! ### System.line -/
def LnAt (K : PySem.W.Frag) (H : Hp) (p : Addr) (s : St) : Prop := ∃ t, SqT K H p [.ref t] ∧ SqT K H t (stV s)
def spLine (K : PySem.W.Frag) (a : Ads) : Sp := fun vs H Q _ => ∃ y st s, vs = [.ref y] ∧ SysOp K a H st y s ∧ ∀ p H', Ex H H' → LnAt K H' p s → Q (.ref p) H'
theorem scLine : FnScope ["self"] ["self"] (defScope s_System_line) := ⟨rfl, rfl, rfl, by decide +kernel, rfl, by decide +kernel, by decide +kernel⟩
theorem p_line (T : TX K mg a) : Prp P w K mg base 1 a.sy "line" (spLine K a) := by
  refine prpF T.cl_sy T.p_sy_line (fun _ _ _ _ _ _ us hl => match us, hl with | [_], _ => rfl) scLine (fun vs H Q E h => ?_) fun fa cdv A outer s0 H vs Q E hr h => ?_
  · obtain ⟨y, st, s, rfl, _⟩ := h
    rfl
  · obtain ⟨y, st, s, rfl, ⟨dx, r, t, h1, h2, h3⟩, k⟩ := h
    refine ⟨_, pss_one (ps_ret (pe_callTy (cr_tupVals rfl) (by rfl) T.f_tuple (by decide +kernel) (pa_cons (pe_vals (pe_fld (pv 0) rfl)) pa_nil))), ?_⟩
    refine ⟨_, rfl, y, a.sy, dx, _, _, rfl, h1, T.cl_sy, T.no_sy_rows, rfl, r, rfl, .inr ⟨_, h2⟩, fun p hp => ?_⟩
    have e1 : Ex H (upd H p (VW p r)) := Ex.new hp
    refine ⟨p, r, _, rfl, upd_same, e1 _ _ h2, fun l hl => ?_⟩
    have e2 := e1.trans (Ex.new (o := .tup [.ref t]) hl)
    exact k l _ e2 ⟨t, .inl (.inl upd_same), fz_t (Fz.ex e2) h3⟩
/-! ### System.__eq__ -/
theorem st_keys {H : Hp} {t : Addr} {s : St} (h : SqT K H t (stV s)) : Nk K H (.ref t) (.tup [.text s.a.txt, .num s.v, .num s.d]) := .tup h (.cons (.text _) (.cons (.num _) (.cons (.num _) .nil)))
theorem st_key_eq (s s' : St) : (NestedKey.tup [.text s.a.txt, .num s.v, .num s.d] = NestedKey.tup [.text s'.a.txt, .num s'.v, .num s'.d]) ↔ s = s' := by
  constructor
  · intro z
    injection z with z
    injection z with z1 z
    injection z with z2 z
    injection z with z3 _
    injection z1 with z1
    injection z2 with z2
    injection z3 with z3
    cases s
    cases s'
    simp only [St.mk.injEq]
    exact ⟨sta_inj _ _ z1, z2, z3⟩
  · rintro rfl
    rfl
def spSyEq (K : PySem.W.Frag) (a : Ads) : Sp := fun vs H Q _ => ∃ y y' st s s' eds, vs = [.ref y, .ref y'] ∧ SysOp K a H st y s ∧ SysOp K a H st y' s' ∧ StoreAt K a H st eds ∧ Q (.bl (decide (s = s'))) H
theorem scSyEq : FnScope ["self", "other"] ["self", "other"] (defScope s_System_eq) := ⟨rfl, rfl, rfl, by decide +kernel, rfl, by decide +kernel, by decide +kernel⟩
theorem m_sy_eq (T : TX K mg a) : Met P w K mg base 2 a.sy "__eq__" (spSyEq K a) [] := by
  refine metF T.cl_sy T.m_sy_eq (fun _ _ _ _ _ _ us hl => match us, hl with | [_, _], _ => rfl) scSyEq (fun vs H Q E h => ?_) fun fa cdv A outer s0 H vs Q E hr h => ?_
  · obtain ⟨y, y', st, s, s', eds, rfl, _⟩ := h
    rfl
  · obtain ⟨y, y', st, s, s', eds, rfl, ⟨dx, r, t, h1, h2, h3⟩, ⟨dx', r', t', h1', h2', h3'⟩, S, k⟩ := h
    obtain ⟨dz, d, es, g1, g2, g3⟩ := id S
    have hE := m_st_eq (P := P) (w := w) (base := base) T
    refine ⟨_, pss_one (ps_ret (pe_and (pe_callB (call_isC T.i_sy) (by rfl) T.f_isinstance PyProof.Rows.boot_isinstance (pa_cons (pv 1) (pa_cons (pe_gcl T.mg_sy) pa_nil)))
      (pe_and (pe_cmpR (op_eqM hE hr (by decide)) (pe_fld (pv 0) rfl) (pe_fld (pv 1) rfl) (nomark _)) (pe_one (pe_cmpR (op_eqOne hr.units) (pe_fld (pv 0) rfl) (pe_fld (pv 1) rfl) (nomark _)))))), ?_⟩
    refine ⟨_, rfl, y', dx', _, rfl, h1', _, rfl, iteT ?_⟩
    refine ⟨_, rfl, y, a.sy, dx, _, _, rfl, h1, T.cl_sy, T.no_sy_base, rfl, _, rfl, y', a.sy, dx', _, _, rfl, h1', T.cl_sy, T.no_sy_base, rfl, st, dz, _, st, dz, _, rfl, rfl, g1, g1, st, eds, rfl, S, _, rfl, ?_⟩
    rw [if_neg (by decide)]
    refine ⟨_, rfl, iteT ?_⟩
    refine ⟨_, rfl, y, a.sy, dx, _, _, rfl, h1, T.cl_sy, T.no_sy_rows, rfl, _, rfl, y', a.sy, dx', _, _, rfl, h1', T.cl_sy, T.no_sy_rows, rfl, r, r', .inr app, .ref t, .ref t', _, _, rfl, rfl, h2, h2', st_keys h3, st_keys h3', (by show 1 ≤ 8; decide), ?_⟩
    rw [decide_eq_decide.mpr (st_key_eq s s')]
    exact k
end
end Hs
end
section
set_option Elab.async false
set_option linter.all false
set_option maxRecDepth 100000
set_option maxHeartbeats 4000000
namespace Hs
open PySem PySem.Spec PyProof.Rows L2
open C8 (Cal Met Mak InsC pe_c pe_mk pe_mt pe_mt0 pe_gc call_isC)
open Evl (Ex)
theorem ExO.trans {x : Addr} {H H1 H2 : Hp} (a : ExO x H H1) (b : ExO x H1 H2) : ExO x H H2 := fun c o h e => b c o h (a c o h e)
theorem ExO.of {x : Addr} {H H1 : Hp} (a : Ex H H1) : ExO x H H1 := fun c o h e => a c o e
theorem ExO.upd {x : Addr} {H : Hp} {o : HO} : ExO x H (upd H x o) := fun b u h e => by rw [upd_ne h]; exact e
theorem ExO.ex {x : Addr} {H H1 : Hp} (a : ExO x H H1) (h : H x = none) : Ex H H1 := fun b o e => a b o (fun z => by rw [z, h] at e; cases e) e
section
variable {K : PySem.W.Frag} {a : Ads} {x : Addr} {H H' : Hp}
theorem ExO.t {p : Addr} {xs : List V} (e : ExO x H H') {C dx : Addr} {fs : List (Str × V)} (hx : H x = some (.ins C dx fs)) (h : SqT K H p xs) : SqT K H' p xs := by
  rcases h with (h | ⟨o, h⟩) | h
  · exact .inl (.inl (e _ _ (fun z => by rw [z, hx] at h; cases h) h))
  · exact .inl (.inr ⟨o, e _ _ (fun z => by rw [z, hx] at h; cases h) h⟩)
  · exact .inr h
theorem NdsAt.exo {C dx : Addr} {fs : List (Str × V)} (hx : H x = some (.ins C dx fs)) (e : ExO x H H') : ∀ {ts : List Addr} {ls : List Int}, NdsAt K H ts ls → NdsAt K H' ts ls
  | _, _, .nil => .nil
  | _, _, .cons h t => .cons (e.t hx h) (NdsAt.exo hx e t)
theorem NdT.exo {C dx : Addr} {fs : List (Str × V)} (hx : H x = some (.ins C dx fs)) (e : ExO x H H') {p : Addr} {ls : List Int} (h : NdT K H p ls) : NdT K H' p ls := by
  obtain ⟨ts, h1, h2⟩ := h
  exact ⟨ts, e.t hx h1, h2.exo hx e⟩
theorem EdAt.exo {C dx : Addr} (hx : H x = some (.ins C dx [])) (e : ExO x H H') {y : Addr} {ed : Ed} (h : EdAt K a H y ed) : EdAt K a H' y ed := by
  obtain ⟨dz, hs, ws, as, sh, h1, h2, h3, h4, h5⟩ := h
  exact ⟨dz, hs, ws, as, sh, e _ _ (fun z => by rw [z, hx] at h1; cases h1) h1, e.t hx h2, h3.exo hx e, h4.exo hx e, e.t hx h5⟩
theorem EdsAt.exo {C dx : Addr} (hx : H x = some (.ins C dx [])) (e : ExO x H H') : ∀ {es : List Addr} {eds : List Ed}, EdsAt K a H es eds → EdsAt K a H' es eds
  | _, _, .nil => .nil
  | _, _, .cons h t => .cons (h.exo hx e) (EdsAt.exo hx e t)
theorem StoreAt.exo {C dx : Addr} (hx : H x = some (.ins C dx [])) (e : ExO x H H') {st : Addr} {eds : List Ed} (h : StoreAt K a H st eds) : StoreAt K a H' st eds := by
  obtain ⟨dz, d, es, h1, h2, h3⟩ := h
  exact ⟨dz, d, es, e _ _ (fun z => by rw [z, hx] at h1; cases h1) h1, e _ _ (fun z => by rw [z, hx] at h2; cases h2) h2, h3.exo hx e⟩
end
/-- the states given to System: a state, or none -/
def SdAt (K : PySem.W.Frag) (H : Hp) (eds : List Ed) (sd : Addr) (s : St) : Prop := (H sd = some (.dK []) ∧ s = St.none) ∨ ∃ t, H sd = some (.dK [(.inr app, .ref t)]) ∧ SqT K H t (stV s) ∧ StOk eds s
section
variable {P : Program} {w : World} {K : PySem.W.Frag} {mg : Str → Option Value} {base : Heap} {a : Ads}
theorem SdAt.ex {H H' : Hp} {eds : List Ed} {sd : Addr} {s : St} (e : Ex H H') (h : SdAt K H eds sd s) : SdAt K H' eds sd s := by
  rcases h with ⟨h, z⟩ | ⟨t, h, h2, h3⟩
  · exact .inl ⟨e _ _ h, z⟩
  · exact .inr ⟨t, e _ _ h, fz_t (Fz.ex e) h2, h3⟩
/-! ### System.__init__ -/
def spSyInit (K : PySem.W.Frag) (a : Ads) : Sp := fun vs H Q _ => ∃ x dx st eds sd s, vs = [.ref x, .ref st, .ref sd] ∧ H x = some (.ins a.sy dx []) ∧ StoreAt K a H st eds ∧ EdsOk eds ∧ SdAt K H eds sd s ∧
  ∀ H', ExO x H H' → SysOp K a H' st x s → Q .non H'
theorem scSyInit : FnScope ["self", "store", "states", "name"] ["self", "store", "states"] (defScope s_System_init) := ⟨rfl, rfl, rfl, by decide +kernel, rfl, by decide +kernel, by decide +kernel⟩
theorem k_sys (T : TX K mg a) : Mak P w K mg base 4 "System" a.sy (spSyInit K a) [] := by
  refine makF T.k_sy T.mg_sy (fun _ _ _ _ _ _ us hl => match us, hl with | [_, _, _], _ => rfl) scSyInit (fun vs H Q E h => ?_) fun fa cdv A outer s0 H vs Q E hr h => ?_
  · obtain ⟨x, dx, st, eds, sd, s, rfl, _⟩ := h
    rfl
  · obtain ⟨x, dx, st, eds, sd, s, rfl, hx, S, ok, hsd, k⟩ := h
    have hu := hu_of hr
    have hN := p_names (P := P) (w := w) (base := base) T
    have hI := c_is_state (P := P) (w := w) (base := base) T
    obtain ⟨pN, gN, sN⟩ := T.g_NOTHING
    refine ⟨_, pss_cons (ps_for PassesOwn.never rfl (pi_list (pe_callB (cr_sortedC rfl hr.units) (by rfl) T.f_sorted (by decide +kernel) (pa_cons (pv 2) pa_nil))) (pg_name (i := 3) scSyInit.nd rfl (Or.inl rfl))
        (pss_one (ps_if (pw_or (pt_cmpR (op_ninN hr.units) (pv 3) (pe_pr hN hr (by decide) (pv 1)) rfl) (pw_or1 (pt_not (pt_val (pe_cc hI hr (pa_cons (pv 1) (pa_cons (pv 3) (pa_cons (pe_dget hu (pv 2) (pv 3) (fun _ _ => rfl)) pa_nil)))))))).pt pss_never pss_nil)))
      (pss_cons (ps_fld (pv 0) (pv 1) rfl)
      (pss_one (ps_fld (pv 0) (pe_dc (own := [("name", 3)]) (g := gName 3) (tt := tYes) rfl scSyInit.nd (pi_tup (pe_pr hN hr (by decide) (pv 1))) (blkOk_by (N := ["self", "store", "states", "name"]) (sc := defScope s_System_init) (by decide +kernel))
        (fun _ _ _ _ _ => pg_name (i := 3) scSyInit.nd rfl (Or.inl rfl)) (fun _ _ _ _ _ => pts_nil) (fun _ _ _ _ _ => pv 3) (fun _ _ _ _ _ => pe_dget2 hu (pv 2) (pv 3) (pe_gt gN) ⟨rfl, rfl, rfl, rfl⟩)) rfl))), ?_⟩
    have hkv : ∃ (kvs : List (Key × V)) (ns : List Str), H sd = some (.dK kvs) ∧ (kvs.map fun kv => kV kv.1) = ns.map V.str ∧ ns.length ≤ 1 ∧ ∀ n ∈ ns, n = app ∧ ∃ t, kvs = [(.inr app, .ref t)] ∧ SqT K H t (stV s) ∧ StOk eds s := by
      rcases hsd with ⟨h, _⟩ | ⟨t, h, h2, h3⟩
      · exact ⟨_, [], h, rfl, by simp, fun n hn => by cases hn⟩
      · exact ⟨_, [app], h, rfl, by simp, fun n hn => ⟨List.mem_singleton.mp hn, t, rfl, h2, h3⟩⟩
    obtain ⟨kvs, ns, hk, hns, hnl, hall⟩ := hkv
    refine ⟨_, rfl, sd, ns.map V.str, ns.map NestedKey.text, rfl, ?_, nk_texts ns, (by rw [List.length_map, sizeLine_eq]; omega), alike_texts ns, sortable_texts ns, depth_texts ns, fun ys ls p pys pls hnk pw hp => ?_⟩
    · rw [← hns]
      exact col_dk hk
    have e1 : Ex H (upd H p (.lst ys)) := Ex.new hp
    have hy : ∀ v ∈ ys, v = .str app ∧ ∃ t, kvs = [(.inr app, .ref t)] ∧ SqT K H t (stV s) ∧ StOk eds s := fun v hv => by
      obtain ⟨n, hn, rfl⟩ := List.mem_map.mp (pys.mem_iff.mp hv)
      obtain ⟨rfl, h⟩ := hall n hn
      exact ⟨rfl, h⟩
    refine ⟨p, rfl, ⟨ys, SqL.of upd_same⟩, for_it walk_list (fun _ σ H' => (∃ v, σ = [some (.ref x), some (.ref st), some (.ref sd), v]) ∧ Ex (upd H p (.lst ys)) H') ⟨⟨none, rfl⟩, Ex.refl _⟩ (fun i σ H' _ q => SqL.of (q.2 _ _ upd_same)) ?_ ?_⟩
    · rintro i z σ H' H'' hi ⟨⟨v, rfl⟩, e2⟩ ⟨rfl, hz⟩
      obtain ⟨rfl, t, rfl, h2, h3⟩ := hy z (List.mem_of_getElem? hz)
      have e3 := e1.trans e2
      obtain ⟨dx0, d0, es0, gg, _⟩ := id S
      refine ⟨_, rfl, _, rfl, st, dx0, _, rfl, e3 _ _ gg, st, eds, rfl, S.fz (Fz.ex e3), ok, fun p2 H3 e4 hp2 => ?_⟩
      refine ⟨_, p2, _, [.text app], rfl, .inr (.inl (.inl hp2)), .text _, .cons (.text _) .nil, Nat.zero_le _, _, rfl, ?_⟩
      rw [if_pos rfl]
      refine iteNS List.mem_cons_self ?_
      have e5 := e3.trans e4
      refine ⟨_, rfl, _, rfl, _, rfl, _, rfl, sd, _, rfl, dget_k (k := Sum.inr app) (.inl (e5 _ _ hk)), st, eds, t, s, rfl, S.fz (Fz.ex e5), fz_t (Fz.ex e5) h2, h3, fun H4 e6 => ?_⟩
      exact ⟨_, rfl, iteF ⟨⟨_, rfl⟩, (e2.trans e4).trans e6⟩⟩
    · rintro σ H' ⟨⟨v, rfl⟩, e2⟩
      have e3 := e1.trans e2
      refine ⟨_, rfl, _, rfl, x, a.sy, dx, _, rfl, e3 _ _ hx, T.cl_sy, T.no_sy_base, (by show 0 < 1000; decide), ?_⟩
      have e4 : ExO x H (upd H' x (.ins a.sy dx (putF "base" (.ref st) []))) := (ExO.of e3).trans ExO.upd
      have S4 := S.exo hx e4
      have hx4 : (upd H' x (.ins a.sy dx (putF "base" (.ref st) []))) x = some (.ins a.sy dx (putF "base" (.ref st) [])) := upd_same
      generalize upd H' x (.ins a.sy dx (putF "base" (.ref st) [])) = H4 at e4 S4 hx4 ⊢
      obtain ⟨dx0, d0, es0, gg, _⟩ := id S4
      obtain ⟨t, ht, hst⟩ : ∃ t, (valV kvs (Sum.inr app)).getD (.ref pN) = .ref t ∧ SqT K H t (stV s) := by
        rcases hsd with ⟨h, rfl⟩ | ⟨t, h, h2, h3⟩
        · rw [hk] at h
          cases h
          exact ⟨pN, rfl, sN H⟩
        · rw [hk] at h
          cases h
          exact ⟨t, rfl, h2⟩
      have hk4 := e4 _ _ (fun z => by rw [z, hx] at hk; cases hk) hk
      refine ⟨_, rfl, st, dx0, _, rfl, gg, st, eds, rfl, S4, ok, fun p2 H5 e5 hp2 => ?_⟩
      refine ⟨p2, rfl, ⟨_, .inl (.inl hp2)⟩, fun D hD => dc_tup (xs := [.str app]) (fun i H' => Ex H5 H' ∧ H' D = some (.dK (if i = 0 then [] else [(Sum.inr app, .ref t)]))) ⟨Ex.new hD, upd_same⟩ (fun i H' _ q => .inl (.inl (q.1 _ _ hp2))) ?_ ?_⟩
      · rintro i z H6 hz ⟨e6, hd⟩
        obtain rfl : i = 0 := by
          have := (List.getElem?_eq_some_iff.mp hz).1
          simp only [List.length_cons, List.length_nil] at this
          omega
        obtain rfl : V.str app = z := Option.some.inj hz
        refine ⟨rfl, yes_ok ?_⟩
        have hk6 := (e5.trans e6) _ _ hk4
        refine ⟨_, rfl, _, rfl, sd, rfl, .inl ⟨_, .inl hk6⟩, _, rfl, _, dget_k (k := Sum.inr app) (.inl hk6), [], Sum.inr app, rfl, hd, (by show 0 < sizeLine; decide), e6.mut hD, ?_⟩
        rw [ht, upd_same] <;> rfl
      · rintro H6 ⟨e6, hd⟩
        refine ⟨_, rfl, x, a.sy, dx, _, rfl, e6 _ _ (e5 _ _ hx4), T.cl_sy, T.no_sy_rows, (by show 1 < 1000; decide), ?_⟩
        have e7 : ExO x H (upd H6 x (.ins a.sy dx (putF "rows" (.ref D) (putF "base" (.ref st) [])))) := (e4.trans (ExO.of (e5.trans e6))).trans ExO.upd
        refine k _ e7 ⟨dx, D, t, upd_same, ?_, e7.t hx hst⟩
        rw [upd_ne (fun z => by rw [z, e6 _ _ (e5 _ _ hx4)] at hd; cases hd)]
        exact hd
end
end Hs
end
section
set_option Elab.async false
set_option linter.all false
set_option maxRecDepth 100000
set_option maxHeartbeats 4000000
namespace Hs
open PySem PySem.Spec PyProof.Rows L2
open C8 (Cal Met Mak InsC pe_c pe_mk pe_mt pe_mt0 pe_gc call_isC)
open Evl (Ex)
section
variable {P : Program} {w : World} {K : PySem.W.Frag} {mg : Str → Option Value} {base : Heap} {a : Ads}
/-- a new instance -/
theorem ex_make {H : Hp} {x dx : Addr} {C : Addr} (hx : H x = none) (hdx : H dx = none) (hne : dx ≠ x) : Ex H (upd (upd H dx (.own x)) x (.ins C dx [])) := (Ex.new hdx).trans (Ex.new (by rw [upd_ne hne.symm]; exact hx))
theorem ex_made {H H' : Hp} {x dx : Addr} {C : Addr} (hx : H x = none) (hdx : H dx = none) (hne : dx ≠ x) (e : ExO x (upd (upd H dx (.own x)) x (.ins C dx [])) H') : Ex H H' := fun b o h => e b o (fun z => by rw [z, hx] at h; cases h) (ex_make hx hdx hne b o h)
/-! ### with_state -/
def spWith (K : PySem.W.Frag) (a : Ads) : Sp := fun vs H Q _ => ∃ y st s0 s eds t, vs = [.ref y, .str app, .ref t] ∧ SysOp K a H st y s0 ∧ StoreAt K a H st eds ∧ EdsOk eds ∧ SqT K H t (stV s) ∧ StOk eds s ∧
  ∀ z H', Ex H H' → SysOp K a H' st z s → Q (.ref z) H'
theorem scWith : FnScope ["self", "name", "state"] ["self", "name", "state"] (defScope s_System_with_state) := ⟨rfl, rfl, rfl, by decide +kernel, rfl, by decide +kernel, by decide +kernel⟩
theorem m_with (T : TX K mg a) : Met P w K mg base 6 a.sy "with_state" (spWith K a) [] := by
  refine metF T.cl_sy T.m_sy_with_state (fun _ _ _ _ _ _ us hl => match us, hl with | [_, _, _], _ => rfl) scWith (fun vs H Q E h => ?_) fun fa cdv A outer s0 H vs Q E hr h => ?_
  · obtain ⟨y, st, s0, s, eds, t, rfl, _⟩ := h
    rfl
  · obtain ⟨y, st, s0, s, eds, t, rfl, ⟨dx, r, t0, h1, h2, h3⟩, S, ok, ht, hs, k⟩ := h
    have hu := hu_of hr
    have hK := k_sys (P := P) (w := w) (base := base) T
    refine ⟨_, pss_cons (ps_if (pt_cmp (pc_dnotin hu (pv 1) (pe_fld (pv 0) rfl))) pss_never pss_nil)
      (pss_one (ps_ret (pe_mk hK hr (by decide) rfl (pa_cons (pe_fld (pv 0) rfl) (pa_cons (pe_op op_orD (pe_fld (pv 0) rfl) (pe_disp (pps_cons (pv 1) (pv 2) pps_nil) rfl rfl (by simp) (by decide))) pa_nil))))), ?_⟩
    refine ⟨_, rfl, _, rfl, y, a.sy, dx, _, _, rfl, h1, T.cl_sy, T.no_sy_rows, rfl, r, _, rfl, dget_k (k := Sum.inr app) (.inl h2), _, rfl, ?_⟩
    refine iteF ?_
    refine ⟨_, rfl, y, a.sy, dx, _, _, rfl, h1, T.cl_sy, T.no_sy_base, rfl, _, rfl, y, a.sy, dx, _, _, rfl, h1, T.cl_sy, T.no_sy_rows, rfl, fun p hp => ?_⟩
    have e1 : Ex H (upd H p (.dK [])) := Ex.new hp
    refine ⟨_, rfl, _, rfl, upd_same, [(Sum.inr app, .ref t)], rfl, (by show 1 ≤ 15; decide), ?_⟩
    have e2 : Ex H (upd (upd H p (.dK [])) p (.dK (mergeK [] [(Sum.inr app, .ref t)]))) := e1.mut hp
    refine ⟨r, p, _, _, rfl, rfl, e2 _ _ h2, upd_same, (by show 2 ≤ 1000; decide), fun q hq => ?_⟩
    have e3 := e2.trans (Ex.new (o := .dK (mergeK [((.inr app : Key), V.ref t0)] (mergeK [] [(Sum.inr app, .ref t)]))) hq)
    have hqq : (upd (upd (upd H p (.dK [])) p (.dK (mergeK [] [(Sum.inr app, .ref t)]))) q (.dK (mergeK [((.inr app : Key), V.ref t0)] (mergeK [] [(Sum.inr app, .ref t)])))) q = some (.dK [((.inr app : Key), V.ref t)]) := upd_same
    generalize upd (upd (upd H p (.dK [])) p (.dK (mergeK [] [(Sum.inr app, .ref t)]))) q (.dK (mergeK [((.inr app : Key), V.ref t0)] (mergeK [] [(Sum.inr app, .ref t)]))) = H3 at e3 hqq ⊢
    intro x dx' hx hdx hne
    have e4 := ex_make (C := a.sy) hx hdx hne
    exact ⟨x, dx', st, eds, q, s, rfl, upd_same, S.fz (Fz.ex (e3.trans e4)), ok, .inr ⟨t, e4 _ _ hqq, fz_t (Fz.ex (e3.trans e4)) ht, hs⟩, fun H' e5 hz => ⟨rfl, k x H' (e3.trans (ex_made hx hdx hne e5)) hz⟩⟩
/-! ### executed -/
/-- what executed gives: (later, calls) -/
structure ExeAt (K : PySem.W.Frag) (a : Ads) (H : Hp) (st : Addr) (z ml : Addr) (r : St × List (Cl × Bool)) : Prop where
  sys : SysOp K a H st z r.1
  made : ∃ ms, H ml = some (.lst ms) ∧ MdAt K H ms r.2
def spExe (K : PySem.W.Frag) (a : Ads) : Sp := fun vs H Q _ => ∃ y st s eds p d fl f, vs = [.ref y, .ref p, .ref fl] ∧ SysOp K a H st y s ∧ StoreAt K a H st eds ∧ EdsOk eds ∧ StOk eds s ∧ SqT K H p (ddV d) ∧ refu eds s d = false ∧ SqT K H fl (f.map fun (n : Nat) => V.int (n : Int)) ∧
  ∀ q z ml H', Ex H H' → H' q = some (.tup [.ref z, .ref ml]) → H ml = none → ExeAt K a H' st z ml (runL eds s d f) → Q (.ref q) H'
theorem scExe : FnScope ["system", "deed", "fails", "one", "state"] ["system", "deed", "fails"] (defScope s_executed) := ⟨rfl, rfl, rfl, by decide +kernel, rfl, by decide +kernel, by decide +kernel⟩
theorem c_exe (T : TX K mg a) : Cal P w K mg base 7 "executed" (spExe K a) [] := by
  refine calF T.d_executed (fun _ _ _ _ _ _ us hl => match us, hl with | [_, _, _], _ => rfl) scExe (fun vs H Q E h => ?_) fun fa cdv A outer s0 H vs Q E hr h => ?_
  · obtain ⟨y, st, s, eds, p, d, fl, f, rfl, _⟩ := h
    rfl
  · obtain ⟨y, st, s, eds, p, d, fl, f, rfl, Sy, S, ok, hs, hp, hrf, hf, k⟩ := h
    have hu := hu_of hr
    have hK := k_run (P := P) (w := w) (base := base) T
    have hB := m_behind (P := P) (w := w) (base := base) T
    have hW := m_with (P := P) (w := w) (base := base) T
    refine ⟨_, pss_cons (ps_set (i := 3) scExe.nd rfl (Or.inl rfl) (pe_mk hK hr (by decide) rfl (pa_cons (pv 0) (pa_cons (pv 2) pa_nil))))
      (pss_cons (ps_set (i := 4) scExe.nd rfl (Or.inl rfl) (pe_mt hB hr (by decide) (pv 3) (pa_cons (pv 1) pa_nil)))
      (pss_one (ps_ret (pe_tup (pa_cons (pe_mt hW hr (by decide) (pv 0) (pa_cons (pe_ix ix_tup (pv 1) pe_int (fun _ _ => rfl)) (pa_cons (pv 4) pa_nil))) (pa_cons (pe_fld (pv 3) rfl) pa_nil)))))), ?_⟩
    refine ⟨_, rfl, _, rfl, ?_⟩
    intro x dx hx hdx hne
    have e0 := ex_make (C := a.rn) hx hdx hne
    refine ⟨x, dx, y, fl, rfl, upd_same, fun l H1 hl e1 hx1 hl1 => ⟨rfl, ?_⟩⟩
    have e2 : Ex H H1 := ex_made hx hdx hne e1
    have nl : H l = none := by
      cases h : H l with
      | none => rfl
      | some o =>
        have := e0 _ _ h
        rw [hl] at this
        cases this
    have Sy1 := Sy.fz (Fz.ex e2)
    have S1 := S.fz (Fz.ex e2)
    have hp1 := fz_t (Fz.ex e2) hp
    have R : RunAt K a H1 x l st eds s f := ⟨⟨dx, y, fl, hx1, Sy1, fz_t (Fz.ex e2) hf⟩, S1⟩
    refine ⟨_, rfl, x, dx, _, rfl, hx1, rfl, _, rfl, x, l, st, eds, s, f, d, p, [], [], rfl, R, hs, hp1, hrf, hl1, .nil, (by simp), ?_⟩
    intro v H2 ms e3 hm hd hrep
    obtain ⟨t, rfl, ht⟩ : RepS K H2 _ v := hrep
    have fz3 := e3.fz hl1 rfl
    have e4 : Ex H H2 := fun b o h => e3 b o (e2 b o h) (fun z => by rw [z, nl] at h; cases h)
    have Sy2 := Sy1.fz fz3
    have S2 := S1.fz fz3
    have hp2 := fz_t fz3 hp1
    obtain ⟨dy, r, t0, y1, y2, y3⟩ := id Sy2
    have hok : StOk eds ((prog eds s d).run (Fo f) 0).1 := ((prog_all hs hrf).run (Fo f) 0).1
    have hix : ∃ n : Bool, atI (ddV d) 1 = some (.str (nm n)) ∧ n = true := by
      have := refu_name hrf
      cases d <;> exact ⟨_, rfl, this⟩
    obtain ⟨_, hix, rfl⟩ := hix
    refine ⟨_, rfl, y, dy, _, rfl, y1, rfl, _, rfl, p, _, 1, _, rfl, rfl, hp2, hix, _, rfl, y, st, s, _, eds, t, rfl, Sy2, S2, ok, ht, hok, fun z H3 e5 hz => ?_⟩
    have hx2 := e3 _ _ hx1 (fun z => by rw [z, hl1] at hx1; cases hx1)
    refine ⟨_, rfl, x, a.rn, dx, _, _, rfl, e5 _ _ hx2, T.cl_rn, T.no_rn_made, rfl, (by show 2 ≤ sizeLine; decide), fun q hq => ?_⟩
    have e6 : Ex H3 (upd H3 q (.tup [.ref z, .ref l])) := Ex.new hq
    exact k q z l _ ((e4.trans e5).trans e6) upd_same nl ⟨hz.fz (Fz.ex e6), ms, e6 _ _ (e5 _ _ hm), hd.fz (Fz.ex (e5.trans e6))⟩
end
end Hs
end
section
set_option Elab.async false
set_option linter.all false
set_option maxRecDepth 100000
set_option maxHeartbeats 4000000
namespace Hs
open PySem PySem.Spec PyProof.Rows L2 LamX
open C8 (Cal Met Mak InsC pe_c pe_mk pe_mt pe_mt0 pe_gc call_isC)
open Evl (Ex)
/-! ## every run, in plain Lean -/
abbrev nRun (eds : List Ed) (s : St) (d : Dd) (f : List Nat) : Nat := (runL eds s d f).2.length
theorem nRun_le {eds : List Ed} {s : St} {d : Dd} {f : List Nat} : nRun eds s d f ≤ 8 := Pg.Dep.run _ _ prog_dep
abbrev moreOf (eds : List Ed) (s : St) (d : Dd) (f : List Nat) : List (List Nat) := (List.range' (begin f) (nRun eds s d f - begin f)).map fun k => f ++ [k]
structure ERun (eds : List Ed) (s : St) (d : Dd) (fs ws : List (List Nat)) : Prop where
  hd : (fs = [] ∧ ws = [[]]) ∨ ∃ r, fs = [] :: r
  cl : ∀ f ∈ fs, ∀ k, begin f ≤ k → k < nRun eds s d f → f ++ [k] ∈ fs ∨ f ++ [k] ∈ ws
  len : fs.length + mea ws ≤ 256
  sm : ∀ f ∈ ws, f.length ≤ begin f ∧ begin f ≤ 8
theorem ERun.start {eds : List Ed} {s : St} {d : Dd} : ERun eds s d [] [[]] := ⟨.inl ⟨rfl, rfl⟩, fun f h => (by cases h), by simp [mea, wt, begin_nil], fun f hf => by rw [List.mem_singleton.mp hf]; exact ⟨Nat.le_refl _, Nat.zero_le _⟩⟩
theorem mea_len : ∀ l : List (List Nat), l.length ≤ mea l
  | [] => Nat.zero_le _
  | f :: l => by
    have ih := mea_len l
    have h : 0 < wt f := Nat.pow_pos (by decide)
    unfold mea at ih ⊢
    rw [List.map_cons, List.sum_cons, List.length_cons]
    omega
theorem ERun.step {eds : List Ed} {s : St} {d : Dd} {fs l : List (List Nat)} {f : List Nat} (h : ERun eds s d fs (l ++ [f])) : ERun eds s d (fs ++ [f]) (l ++ moreOf eds s d f) := by
  have hm : mea (l ++ moreOf eds s d f) < mea (l ++ [f]) := mea_step l f (nRun eds s d f) nRun_le
  refine ⟨?_, ?_, ?_, ?_⟩
  · rcases h.hd with ⟨rfl, e⟩ | ⟨r, rfl⟩
    · have : l = [] ∧ f = [] := by
        cases l with
        | nil => exact ⟨rfl, by simpa using e⟩
        | cons x l =>
          have := congrArg List.length e
          simp at this
      exact .inr ⟨[], by rw [this.2] <;> rfl⟩
    · exact .inr ⟨r ++ [f], rfl⟩
  · intro g hg k hk hn
    rcases List.mem_append.mp hg with hg | hg
    · rcases h.cl g hg k hk hn with q | q
      · exact .inl (List.mem_append_left _ q)
      · rcases List.mem_append.mp q with q | q
        · exact .inr (List.mem_append_left _ q)
        · exact .inl (List.mem_append_right _ q)
    · rw [List.mem_singleton.mp hg] at hk hn ⊢
      refine .inr (List.mem_append_right _ (List.mem_map.mpr ⟨k, ?_, rfl⟩))
      rw [List.mem_range'_1]
      omega
  · have := h.len
    rw [List.length_append]
    simp only [List.length_cons, List.length_nil]
    omega
  · intro g hg
    rcases List.mem_append.mp hg with hg | hg
    · exact h.sm g (List.mem_append_left _ hg)
    · obtain ⟨k, hk, rfl⟩ := List.mem_map.mp hg
      have h1 := h.sm f (List.mem_append_right _ List.mem_cons_self)
      have h2 : nRun eds s d f ≤ 8 := nRun_le
      rw [List.mem_range'_1] at hk
      rw [begin_snoc, List.length_append]
      simp only [List.length_cons, List.length_nil]
      omega
theorem ERun.last {eds : List Ed} {s : St} {d : Dd} {fs : List (List Nat)} (h : ERun eds s d fs []) : (∃ r, fs = [] :: r) ∧ ∀ F : Nat → Bool, ∃ f ∈ fs, runL eds s d f = (prog eds s d).run F 0 := by
  have h0 : ∃ r, fs = [] :: r := h.hd.resolve_left (fun z => by cases z.2)
  refine ⟨h0, fun F => ?_⟩
  obtain ⟨r, rfl⟩ := h0
  exact closed_all (S := fun f => f ∈ ([] : List Nat) :: r) List.mem_cons_self (fun f k hf hk hn => (h.cl f hf k hk hn).resolve_right (fun z => by cases z)) F
/-! ## .. and in the heap -/
inductive All2 {α β : Type} (R : α → β → Prop) : List α → List β → Prop
  | nil : All2 R [] []
  | cons {v : α} {f : β} {vs : List α} {fs : List β} : R v f → All2 R vs fs → All2 R (v :: vs) (f :: fs)
namespace All2
variable {α β : Type} {R R' : α → β → Prop}
theorem imp (h : ∀ v f, R v f → R' v f) : ∀ {vs : List α} {fs : List β}, All2 R vs fs → All2 R' vs fs
  | _, _, .nil => .nil
  | _, _, .cons a t => .cons (h _ _ a) (imp h t)
theorem app : ∀ {vs vs' : List α} {fs fs' : List β}, All2 R vs fs → All2 R vs' fs' → All2 R (vs ++ vs') (fs ++ fs')
  | _, _, _, _, .nil, h => h
  | _, _, _, _, .cons h t, h' => .cons h (app t h')
theorem len : ∀ {vs : List α} {fs : List β}, All2 R vs fs → vs.length = fs.length
  | _, _, .nil => rfl
  | _, _, .cons _ t => congrArg Nat.succ (len t)
theorem get : ∀ {vs : List α} {fs : List β} {i : Nat} {v : α}, All2 R vs fs → vs[i]? = some v → ∃ f, fs[i]? = some f ∧ R v f
  | _, _, i, v, .nil, h => by simp at h
  | _, _, 0, v, .cons (f := f) h t, e => ⟨f, rfl, by
    cases (Option.some.inj e)
    exact h⟩
  | _, _, i + 1, v, .cons h t, e => by
    obtain ⟨f, e1, e2⟩ := get t (i := i) (by simpa using e)
    exact ⟨f, by simpa using e1, e2⟩
theorem mem : ∀ {vs : List α} {fs : List β}, All2 R vs fs → ∀ v ∈ vs, ∃ f ∈ fs, R v f
  | _, _, .nil, v, h => by cases h
  | _, _, .cons h t, v, hv => by
    rcases List.mem_cons.mp hv with rfl | hv
    · exact ⟨_, List.mem_cons_self, h⟩
    · obtain ⟨f, h1, h2⟩ := mem t v hv
      exact ⟨f, List.mem_cons_of_mem _ h1, h2⟩
theorem mem' : ∀ {vs : List α} {fs : List β}, All2 R vs fs → ∀ f ∈ fs, ∃ v ∈ vs, R v f
  | _, _, .nil, v, h => by cases h
  | _, _, .cons h t, v, hv => by
    rcases List.mem_cons.mp hv with rfl | hv
    · exact ⟨_, List.mem_cons_self, h⟩
    · obtain ⟨f, h1, h2⟩ := mem' t v hv
      exact ⟨f, List.mem_cons_of_mem _ h1, h2⟩
theorem perm {vs ws : List α} (p : List.Perm vs ws) : ∀ {fs : List β}, All2 R vs fs → ∃ gs, List.Perm fs gs ∧ All2 R ws gs := by
  induction p with
  | nil => intro fs h; exact ⟨fs, .refl _, h⟩
  | cons x _ ih =>
    intro fs h
    cases h with
    | cons h t =>
      obtain ⟨gs, p, q⟩ := ih t
      exact ⟨_ :: gs, p.cons _, .cons h q⟩
  | swap x y l =>
    intro fs h
    cases h with
    | cons h t =>
      cases t with
      | cons h2 t => exact ⟨_, .swap _ _ _, .cons h2 (.cons h t)⟩
  | trans _ _ ih1 ih2 =>
    intro fs h
    obtain ⟨gs, p1, q1⟩ := ih1 h
    obtain ⟨hs, p2, q2⟩ := ih2 q1
    exact ⟨hs, p1.trans p2, q2⟩
theorem map {γ : Type} {g : γ → β} : ∀ {vs : List α} {fs : List γ}, All2 (fun v c => R v (g c)) vs fs → All2 R vs (fs.map g)
  | _, _, .nil => .nil
  | _, _, .cons h t => .cons h (map t)
end All2
abbrev nats (f : List Nat) : List V := f.map fun (n : Nat) => V.int (n : Int)
section
variable (K : PySem.W.Frag) (a : Ads) (N H : Hp) (st : Addr) (eds : List Ed) (s : St) (d : Dd)
/-- a row (fails, later, calls); the calls' list is new since N -/
def RowV (v : V) (f : List Nat) : Prop := ∃ q t z ml, v = .ref q ∧ SqT K H q [.ref t, .ref z, .ref ml] ∧ SqT K H t (nats f) ∧ N ml = none ∧ ExeAt K a H st z ml (runL eds s d f)
abbrev RowsAt : List V → List (List Nat) → Prop := All2 (RowV K a N H st eds s d)
inductive WtsAt : List V → List (List Nat) → Prop
  | nil : WtsAt [] []
  | cons {t : Addr} {f : List Nat} {vs : List V} {fs : List (List Nat)} : SqT K H t (nats f) → WtsAt vs fs → WtsAt (.ref t :: vs) (f :: fs)
end
/-- the tables apart, all but the lists that stood at N stays -/
def KpN (N H H' : Hp) : Prop := ∀ b o, H b = some o → (isL o = false ∨ (N b = none ∧ ∃ xs, o = .lst xs)) → H' b = some o
section
variable {K : PySem.W.Frag} {a : Ads} {N H H' : Hp} {st : Addr} {eds : List Ed} {s : St} {d : Dd}
theorem KpN.fz (e : KpN N H H') : Fz H H' := fun b o h l => e b o h (.inl l)
theorem KpN.ex (e : Ex H H') : KpN N H H' := fun b o h _ => e b o h
theorem KpN.extN (e : ExtN H H') : KpN N H H' := fun b o h l => e b o h fun ps z => by
  rcases l with l | ⟨_, xs, l⟩
  · rw [z] at l; cases l
  · rw [z] at l; cases l
theorem KpN.trans {H1 : Hp} (e : KpN N H H1) (e' : KpN N H1 H') : KpN N H H' := fun b o h l => e' b o (e b o h l) l
theorem KpN.put {x : Addr} {xs ys : List V} {u : HO} (h : H x = some (.lst xs)) (hN : N x = some u) : KpN N H (upd H x (.lst ys)) := fun b o hb l => by
  rw [upd_ne ?_]
  · exact hb
  · rintro rfl
    rw [h] at hb
    cases hb
    rcases l with l | ⟨l, _⟩
    · cases l
    · rw [hN] at l
      cases l
theorem RowV.kp (e : KpN N H H') {v : V} {f : List Nat} (h : RowV K a N H st eds s d v f) : RowV K a N H' st eds s d v f := by
  obtain ⟨q, t, z, ml, h1, h2, h3, h4, h5, ms, h6, h7⟩ := h
  exact ⟨q, t, z, ml, h1, fz_t e.fz h2, fz_t e.fz h3, h4, h5.fz e.fz, ms, e _ _ h6 (.inr ⟨h4, _, rfl⟩), h7.fz e.fz⟩
theorem RowsAt.kp (e : KpN N H H') : ∀ {vs : List V} {fs : List (List Nat)}, RowsAt K a N H st eds s d vs fs → RowsAt K a N H' st eds s d vs fs
  | _, _, .nil => .nil
  | _, _, .cons h t => .cons (h.kp e) (RowsAt.kp e t)
theorem nkI_nats (f : List Nat) : NkAll K H (nats f) (f.map fun (n : Nat) => NestedKey.num (n : Int)) := nk_nums f
theorem RowsAt.keys : ∀ {vs : List V} {fs : List (List Nat)}, RowsAt K a N H st eds s d vs fs → KeyFst K H vs (fs.map fun f => NestedKey.tup (f.map fun (n : Nat) => NestedKey.num (n : Int)))
  | _, _, .nil => .nil
  | _, _, .cons ⟨q, t, z, ml, rfl, h2, h3, _⟩ r => .cons h2 (.tup h3 (nkI_nats _)) (RowsAt.keys r)
theorem WtsAt.fz (e : Fz H H') : ∀ {vs : List V} {fs : List (List Nat)}, WtsAt K H vs fs → WtsAt K H' vs fs
  | _, _, .nil => .nil
  | _, _, .cons h t => .cons (fz_t e h) (WtsAt.fz e t)
theorem WtsAt.app : ∀ {vs vs' : List V} {fs fs' : List (List Nat)}, WtsAt K H vs fs → WtsAt K H vs' fs' → WtsAt K H (vs ++ vs') (fs ++ fs')
  | _, _, _, _, .nil, h => h
  | _, _, _, _, .cons h t, h' => .cons h (WtsAt.app t h')
theorem WtsAt.len : ∀ {vs : List V} {fs : List (List Nat)}, WtsAt K H vs fs → vs.length = fs.length
  | _, _, .nil => rfl
  | _, _, .cons _ t => congrArg Nat.succ (WtsAt.len t)
theorem WtsAt.snoc : ∀ {l : List (List Nat)} {f : List Nat} {vs : List V}, WtsAt K H vs (l ++ [f]) → ∃ us t, vs = us ++ [.ref t] ∧ WtsAt K H us l ∧ SqT K H t (nats f) := by
  intro l f
  induction l with
  | nil =>
    intro vs h
    cases h with
    | cons h t =>
      cases t
      exact ⟨[], _, rfl, .nil, h⟩
  | cons g l ih =>
    intro vs h
    cases h with
    | cons h t =>
      obtain ⟨us, t', e, h1, h2⟩ := ih t
      exact ⟨_ :: us, t', by rw [e] <;> rfl, .cons h h1, h2⟩
end
theorem atI_last (f : List Nat) (x : Nat) : atI (nats (f ++ [x])) (-1) = some (.int (x : Int)) := by
  have : ixN (nats (f ++ [x])).length (-1) = some f.length := by
    unfold ixN
    rw [if_neg (by omega)]
    simp
    omega
  unfold atI
  rw [this]
  simp [nats]
end Hs
end
section
set_option Elab.async false
set_option linter.all false
set_option maxRecDepth 100000
set_option maxHeartbeats 4000000
namespace Hs
open PySem PySem.Spec PyProof.Rows L2
open C8 (Cal Met Mak InsC pe_c pe_mk pe_mt pe_mt0 pe_gc call_isC)
open LamX (TabB Tabs ExtN TabS)
open Evl (Ex)
/-- a def of the module whose code object is at c -/
def DefC (K : PySem.W.Frag) (mg : Str → Option Value) (x : Str) (st : Stmt) (c : Addr) : Prop := ∃ (f : Addr) (oc : Value) (od : Option Addr) (kV doc pm : Value) (an : Option Addr) (ct : Value) (osl : Array (Option Value)),
  K.lookup f = some ⟨oc, od, .func (PySem.W.fnOf x x (defArgs st) (defBody st) (defScope st) .none kV doc pm an (.ref c) ct), osl⟩ ∧ PySem.W.codeIn K (.ref c) x = true ∧ PySem.W.keepIn K (.ref f) = true ∧ mg x = some (.ref f)
section
variable {P : Program} {w : World} {K : PySem.W.Frag} {mg : Str → Option Value} {base : Heap} {a : Ads}
theorem calFC {x : Str} {st : Stmt} {N ps : List Str} {k : Nat} {sp : Sp} {c : Addr} (D : DefC K mg x st c) (hb : BindsH K x x st ps) (S : FnScope N ps (defScope st)) (len : ∀ vs H Q E, sp vs H Q E → vs.length = ps.length)
    (body : ∀ (f : Addr) (A : Around) (outer : List Env) (s : Shared) (H : Hp) (vs : List V) (Q : VK) (E : XK), Room k (A.deeper (envOfC x (defScope st) s.heap.objs.size f (.ref c))) → sp vs H Q E →
      ∃ t, PSs (cxOf CX0 P w K mg base N x (defScope st) f (.ref c) A outer s H E).nox (defBody st) t ∧ t { nx := fun _ H' => Q .non H', rt := Q } (start N vs) H) : Cal P w K mg base (k + 1) x sp [] := by
  obtain ⟨f, oc, od, kV, doc, pm, an, ct, osl, lk, hcd, kp, hm⟩ := D
  exact ⟨f, _, ps, [], fn_of lk hcd S len fun A outer s H vs Q E hr h => (body f A outer s H vs Q E hr h).imp fun t ⟨a, b⟩ => ⟨a.nox, b⟩, hm, kp, .all (hb kV doc pm an (.ref c) ct), .nil⟩
theorem pa_starK {X : Cx} (K : PySem.W.Frag) {e : Expr} {te : TE} {es : List Expr} {t : TA} {p : Pos} (hK : X.K = K) (he : PE X e te) (hr : PA X es t) (hs : starEach (.Starred e p :: es) X.env = (true, eval e X.env) :: starEach es X.env := by rfl) : PA X (.Starred e p :: es) (StX.tStar K te t) := hK ▸ StX.pa_star he hr hs
theorem ex_none {H H' : Hp} {b : Addr} (e : Ex H H') (h : H' b = none) : H b = none := by
  cases z : H b with
  | none => rfl
  | some o =>
    rw [e _ _ z] at h
    cases h
theorem upd_none {H : Hp} {x b : Addr} {o : HO} (h : (upd H x o) b = none) : H b = none := by
  by_cases c : b = x
  · rw [c, upd_same] at h
    cases h
  · rw [upd_ne c] at h
    exact h
theorem depth_nums : ∀ f : List Nat, NestedKey.depthAll (f.map fun (n : Nat) => NestedKey.num (n : Int)) = 0
  | [] => rfl
  | n :: f => by
    show max (NestedKey.depth (.num (n : Int))) (NestedKey.depthAll (f.map fun (n : Nat) => NestedKey.num (n : Int))) = 0
    rw [depth_nums f] <;> rfl
/-! ### every_run -/
def spEvery (K : PySem.W.Frag) (a : Ads) (Tt : List (Addr × Str)) : Sp := fun vs H Q _ => ∃ y st s eds p d, vs = [.ref y, .ref p] ∧ SysOp K a H st y s ∧ StoreAt K a H st eds ∧ EdsOk eds ∧ StOk eds s ∧ SqT K H p (ddV d) ∧ refu eds s d = false ∧ Tabs Tt H ∧
  ∀ l xs H', ExtN H H' → Tabs Tt H' → H' l = some (.lst xs) → (∀ zs, H l ≠ some (.lst zs)) → xs.length ≤ 256 → ∀ fs, RowsAt K a H H' st eds s d xs fs → (∀ F : Nat → Bool, ∃ f ∈ fs, runL eds s d f = (prog eds s d).run F 0) → Q (.ref l) H'
theorem scEvery : FnScope ["system", "deed", "found", "waiting", "fails", "later", "calls", "begin", "number"] ["system", "deed"] (defScope s_every_run) := ⟨rfl, rfl, rfl, by decide +kernel, rfl, by decide +kernel, by decide +kernel⟩
theorem RowV.entry {N N' H : Hp} {st : Addr} {eds : List Ed} {s : St} {d : Dd} {v : V} {f : List Nat} (e : Ex N N') (h : RowV K a N' H st eds s d v f) : RowV K a N H st eds s d v f := by
  obtain ⟨q, t, z, ml, h1, h2, h3, h4, h5⟩ := h
  refine ⟨q, t, z, ml, h1, h2, h3, ?_, h5⟩
  cases h : N ml with
  | none => rfl
  | some o =>
    rw [e _ _ h] at h4
    cases h4
theorem c_every {c Pt : Addr} (T : TX K mg a) (D : DefC K mg "every_run" s_every_run c) (B : TabB base mg c Pt) : Cal P w K mg base 8 "every_run" (spEvery K a [(Pt, "every_run.<locals>.<lambda>")]) [] := by
  refine calFC D (fun _ _ _ _ _ _ us hl => match us, hl with | [_, _], _ => rfl) scEvery (fun vs H Q E h => ?_) fun fa A outer s0 H vs Q E hr h => ?_
  · obtain ⟨y, st, s, eds, p, d, rfl, _⟩ := h
    rfl
  · obtain ⟨y, st, s, eds, p, d, rfl, Sy, S, ok, hs, hp, hrf, tabs, k⟩ := h
    have hu := hu_of hr
    have hX := c_exe (P := P) (w := w) (base := base) T
    refine ⟨_, pss_cons (ps_par (i := 2) (j := 3) rfl scEvery.nd rfl rfl (by decide) rfl rfl (pa_cons (pe_lst pa_nil) (pa_cons (pe_lst (pa_cons (pe_tup pa_nil) pa_nil)) pa_nil)) rfl)
      (pss_cons (ps_while PassesOwn.never (pt_cmpR (op_neE hr.units) (pv 3) (pe_lst pa_nil) (nomark _))
        (pss_cons (ps_set (i := 4) scEvery.nd rfl (Or.inr rfl) (pe_bm0 PySem.F.plainAttrs_list PySem.F.slot_list_pop PySem.F.type_list_pop mt_pop (pv 3)))
        (pss_cons (ps_asg (pe_cc hX hr (pa_cons (pv 0) (pa_cons (pv 1) (pa_cons (pv 4) pa_nil)))) (pg_tup rfl (pgs_cons (pg_name (i := 5) scEvery.nd rfl (Or.inl rfl)) (pgs_cons (pg_name (i := 6) scEvery.nd rfl (Or.inl rfl)) pgs_nil))))
        (pss_cons (ps_expr (pe_bm PySem.F.plainAttrs_list PySem.F.slot_list_append PySem.F.type_list_append mt_append (pv 2) (pa_cons (pe_tup (pa_cons (pv 4) (pa_cons (pv 5) (pa_cons (pv 6) pa_nil)))) pa_nil)))
        (Evl.pss_cut (ps_set (i := 7) scEvery.nd rfl (Or.inl rfl) (pe_ifExp (pt_cmpR (op_neN hr.units) (pv 4) (pe_tup pa_nil) (nomark _)) (pe_op op_add (pe_ix ix_tup (pv 4) (pe_un un_neg pe_int) (fun _ _ => rfl)) pe_int) pe_int))
        (pss_one (ps_expr (pe_bm PySem.F.plainAttrs_list PySem.F.slot_list_extend PySem.F.type_list_extend mt_extend (pv 3) (pa_cons
          (pe_lc (own := [("number", 8)]) (g := gName 8) (tt := tYes) rfl scEvery.nd (pi_range2 (by rfl) T.f_range (pa_cons (pv 7) (pa_cons (pe_callB call_len_seq (by rfl) T.f_len PySem.boot_len (pa_cons (pv 6) pa_nil)) pa_nil)))
            (blkOk_by (N := ["system", "deed", "found", "waiting", "fails", "later", "calls", "begin", "number"]) (sc := defScope s_every_run) (by decide +kernel)) (fun _ _ _ _ _ => pg_name (i := 8) scEvery.nd rfl (Or.inl rfl)) (fun _ _ _ _ _ => pts_nil)
            (fun _ _ _ _ _ => pe_tup (pa_starK K rfl (pv 4) (pa_cons (pv 8) pa_nil)))) pa_nil)))))))))
      (pss_one (ps_ret (pe_sortKey (T := [(Pt, "every_run.<locals>.<lambda>")]) (c := c) (P := Pt) (pv 2) rfl hr.units (show (A.deeper (envOfC "every_run" (defScope s_every_run) s0.heap.objs.size fa (.ref c))).depth + 3 < recursionLimit by have := hr.dp; omega) (by rfl) T.f_sorted B rfl (List.mem_singleton.mpr rfl) (fun p hp _ => by rw [List.mem_singleton.mp hp] <;> rfl)
        (by rfl) (by decide +kernel) (by rfl) (by decide +kernel) (by rfl) (by rfl) (by rfl) (by decide) (fun _ _ _ _ _ _ => by rfl))))), ?_⟩
    refine ⟨(by show 0 ≤ sizeLine; decide), fun F hF => ⟨(by show 0 ≤ sizeLine; decide), fun t ht => (?_ : _ ∧ _)⟩⟩
    refine ⟨(by show 1 ≤ sizeLine; decide), fun Wl hW => ⟨_, _, rfl, ?_⟩⟩
    have e1 : Ex H (upd (upd (upd H F (.lst [])) t (.tup [])) Wl (.lst [.ref t])) := ((Ex.new hF).trans (Ex.new ht)).trans (Ex.new hW)
    have nFt : F ≠ t := fun z => by rw [← z, upd_same] at ht; cases ht
    have nFW : F ≠ Wl := fun z => by rw [← z, upd_ne nFt, upd_same] at hW; cases hW
    have ntW : t ≠ Wl := fun z => by rw [← z, upd_same] at hW; cases hW
    have hF1 : (upd (upd (upd H F (.lst [])) t (.tup [])) Wl (.lst [.ref t])) F = some (.lst []) := by rw [upd_ne nFW, upd_ne nFt, upd_same]
    have hW1 : (upd (upd (upd H F (.lst [])) t (.tup [])) Wl (.lst [.ref t])) Wl = some (.lst [.ref t]) := upd_same
    have ht1 : SqT K (upd (upd (upd H F (.lst [])) t (.tup [])) Wl (.lst [.ref t])) t (nats []) := .inl (.inl (by rw [upd_ne ntW, upd_same] <;> rfl))
    have nH : ∀ b, H b = none ∨ (b ≠ F ∧ b ≠ Wl) := fun b => by
      by_cases c : b = F
      · rw [c]; exact .inl hF
      · by_cases c2 : b = Wl
        · refine .inl ?_
          cases h : H b with
          | none => rfl
          | some o =>
            have := ((Ex.new (o := .lst []) hF).trans (Ex.new (o := .tup []) ht)) _ _ h
            rw [c2, hW] at this
            cases this
        · exact .inr ⟨c, c2⟩
    generalize upd (upd (upd H F (.lst [])) t (.tup [])) Wl (.lst [.ref t]) = H1 at e1 hF1 hW1 ht1 ⊢
    refine ⟨fun m σ H' => ∃ fs ws fx wx v4 v5 v6 v7, σ = [some (.ref y), some (.ref p), some (.ref F), some (.ref Wl), v4, v5, v6, v7, none] ∧ m = mea ws ∧ ERun eds s d fs ws ∧ Ex H H' ∧ (∀ b, H' b = none → H1 b = none) ∧ H' F = some (.lst fx) ∧ H' Wl = some (.lst wx) ∧ RowsAt K a H1 H' st eds s d fx fs ∧ WtsAt K H' wx ws,
      ⟨_, [], [[]], [], [.ref t], none, none, none, none, rfl, rfl, ERun.start, e1, fun _ h => h, hF1, hW1, .nil, .cons ht1 .nil⟩, ?_⟩
    rintro m σ H' ⟨fs, ws, fx, wx, v4, v5, v6, v7, rfl, rfl, er, e2, dm, hF2, hW2, hrows, hwts⟩
    refine ⟨_, rfl, (by show 0 ≤ sizeLine; decide), fun q hq => ?_⟩
    have e3 : Ex H' (upd H' q (.lst [])) := Ex.new hq
    refine ⟨Wl, q, wx, rfl, rfl, SqL.of (e3 _ _ hW2), SqL.of upd_same, ?_⟩
    have hF3 := e3 _ _ hF2
    have hW3 := e3 _ _ hW2
    have hrows3 := hrows.kp (KpN.ex e3)
    have hwts3 := hwts.fz (Fz.ex e3)
    have e4 := e2.trans e3
    have dm3 : ∀ b, (upd H' q (.lst [])) b = none → H1 b = none := fun b h => dm b (ex_none e3 h)
    generalize upd H' q (.lst []) = H3 at dm3 e4 hF3 hW3 hrows3 hwts3 ⊢
    rcases List.eq_nil_or_concat ws with rfl | ⟨l, f, rfl⟩
    · -- the end
      have hwx : wx = [] := List.eq_nil_of_length_eq_zero hwts.len
      subst hwx
      refine ⟨_, rfl, iteF ?_⟩
      obtain ⟨⟨r, rfl⟩, hall⟩ := er.last
      have tabs3 : Tabs [(Pt, "every_run.<locals>.<lambda>")] H3 := fun p hp => (tabs p hp).ext e4
      have hkeys := hrows3.keys
      refine ⟨_, rfl, F, fx, r.map fun f => f.map fun (n : Nat) => (n : Int), rfl, SqL.of hF3, ?_, tabs3, fun H4 ys p2 eN tabs4 pys hp2 => ?_⟩
      · have : (r.map fun f => f.map fun (n : Nat) => (n : Int)).map (fun ns => NestedKey.tup (ns.map NestedKey.num)) = r.map fun f => NestedKey.tup (f.map fun (n : Nat) => NestedKey.num (n : Int)) := by
          rw [List.map_map]
          refine List.map_congr_left fun f _ => ?_
          show NestedKey.tup ((f.map fun (n : Nat) => (n : Int)).map NestedKey.num) = _
          rw [List.map_map] <;> rfl
        rw [this]
        exact hkeys
      · have e5 : ExtN H4 (upd H4 p2 (.lst ys)) := ExtN.of (Ex.new hp2)
        have rows5 := (hrows3.kp (KpN.extN eN)).kp (KpN.extN e5)
        have hl : fx.length ≤ 256 := by
          rw [hrows.len]
          have := er.len
          omega
        obtain ⟨gs, pg, rg⟩ := rows5.perm pys.symm
        refine k p2 ys _ (((ExtN.of e4).trans eN).trans e5) (fun p hp => (tabs4 p hp).ext (Ex.new hp2)) upd_same (fun zs z => by
          have := eN _ _ (e4 _ _ z) (fun _ w => nomatch w)
          rw [hp2] at this
          cases this) (by rw [pys.length_eq]; exact hl) gs (rg.imp fun v f h => h.entry e1) fun Fn => ?_
        obtain ⟨f, hf, hr2⟩ := hall Fn
        exact ⟨f, pg.mem_iff.mp hf, hr2⟩
    · -- a turn
      rw [List.concat_eq_append] at *
      obtain ⟨us, tf, rfl, hus, htf⟩ := hwts3.snoc
      refine ⟨_, rfl, ?_⟩
      rw [decide_eq_false (show ¬ (us ++ [V.ref tf] = []) by simp)]
      refine iteT ⟨fun σ' H' => ∃ m', m' < mea (l ++ [f]) ∧ ∃ fs ws fx wx v4 v5 v6 v7, σ' = [some (.ref y), some (.ref p), some (.ref F), some (.ref Wl), v4, v5, v6, v7, none] ∧ m' = mea ws ∧ ERun eds s d fs ws ∧ Ex H H' ∧ (∀ b, H' b = none → H1 b = none) ∧ H' F = some (.lst fx) ∧ H' Wl = some (.lst wx) ∧ RowsAt K a H1 H' st eds s d fx fs ∧ WtsAt K H' wx ws, fun _ _ h => h, ?_⟩
      have hsm := er.sm f (List.mem_append_right _ List.mem_cons_self)
      have hwl : us.length ≤ 256 := by
        have h1 := er.len
        have h2 := mea_len (l ++ [f])
        have h3 := hus.len
        rw [List.length_append] at h2
        omega
      have hfl : fx.length ≤ 256 := by
        rw [hrows3.len]
        have := er.len
        omega
      -- pop
      refine ⟨_, rfl, .inl ⟨rfl, _, SqL.of hW3⟩, Wl, us ++ [.ref tf], .ref tf, rfl, rfl, hW3, (by simp), ?_⟩
      rw [List.dropLast_concat]
      have k5 : KpN H1 H3 (upd H3 Wl (.lst us)) := KpN.put hW3 hW1
      have e5 : Ex H (upd H3 Wl (.lst us)) := fun b o h => by
        rw [upd_ne]
        · exact e4 _ _ h
        · rintro rfl
          rcases nH b with z | z
          · rw [z] at h; cases h
          · exact z.2 rfl
      have hF5 : (upd H3 Wl (.lst us)) F = some (.lst fx) := by rw [upd_ne nFW]; exact hF3
      have hW5 : (upd H3 Wl (.lst us)) Wl = some (.lst us) := upd_same
      have hrows5 := hrows3.kp k5
      have hwts5 := hus.fz k5.fz
      have htf5 := fz_t k5.fz htf
      have dm5 : ∀ b, (upd H3 Wl (.lst us)) b = none → H1 b = none := fun b h => dm3 b (upd_none h)
      generalize upd H3 Wl (.lst us) = H5 at dm5 e5 hF5 hW5 hrows5 hwts5 htf5 ⊢
      -- executed
      refine ⟨_, rfl, _, rfl, _, rfl, y, st, s, eds, p, d, tf, f, rfl, Sy.fz (Fz.ex e5), S.fz (Fz.ex e5), ok, hs, fz_t (Fz.ex e5) hp, hrf, htf5, fun q2 z ml H6 e6 hq2 hml hex => ?_⟩
      refine ⟨q2, _, rfl, .inl (.inl hq2), rfl, _, _, rfl, _, _, rfl, rfl, ?_⟩
      have hml1 : H1 ml = none := dm5 _ hml
      have hmlW : ml ≠ Wl := fun z => by rw [z, hW1] at hml1; cases hml1
      -- append
      refine ⟨_, rfl, .inl ⟨rfl, _, SqL.of (e6 _ _ hF5)⟩, _, rfl, _, rfl, _, rfl, (by show 3 ≤ sizeLine; decide), fun r hr3 => ?_⟩
      have e7 : Ex H6 (upd H6 r (.tup [.ref tf, .ref z, .ref ml])) := Ex.new hr3
      have hr7 : SqT K (upd H6 r (.tup [.ref tf, .ref z, .ref ml])) r [.ref tf, .ref z, .ref ml] := .inl (.inl upd_same)
      generalize upd H6 r (.tup [.ref tf, .ref z, .ref ml]) = H7 at e7 hr7 ⊢
      have e57 := e6.trans e7
      refine ⟨F, fx, _, rfl, rfl, e57 _ _ hF5, (by rw [sizeLine_eq]; omega), ?_⟩
      have k8 : KpN H1 H7 (upd H7 F (.lst (fx ++ [.ref r]))) := KpN.put (e57 _ _ hF5) hF1
      have e8 : Ex H (upd H7 F (.lst (fx ++ [.ref r]))) := fun b o h => by
        rw [upd_ne]
        · exact e57 _ _ (e5 _ _ h)
        · rintro rfl
          rcases nH b with z | z
          · rw [z] at h; cases h
          · exact z.1 rfl
      have hrow : RowV K a H1 H7 st eds s d (.ref r) f := ⟨r, tf, z, ml, rfl, hr7, fz_t (Fz.ex e57) htf5, hml1, hex.sys.fz (Fz.ex e7), hex.made.elim fun ms h => ⟨ms, e7 _ _ h.1, h.2.fz (Fz.ex e7)⟩⟩
      have hrows8 := RowsAt.kp k8 ((hrows5.kp (KpN.ex e57)).app (.cons hrow .nil))
      have hwts8 := hwts5.fz ((Fz.ex e57).trans k8.fz)
      have htf8 := fz_t ((Fz.ex e57).trans k8.fz) htf5
      have hF8 : (upd H7 F (.lst (fx ++ [.ref r]))) F = some (.lst (fx ++ [.ref r])) := upd_same
      have hW8 : (upd H7 F (.lst (fx ++ [.ref r]))) Wl = some (.lst us) := by rw [upd_ne nFW.symm]; exact e57 _ _ hW5
      obtain ⟨ms, hms, hmd⟩ := hex.made
      have hms8 : (upd H7 F (.lst (fx ++ [.ref r]))) ml = some (.lst ms) := by
        rw [upd_ne ?_]
        · exact e7 _ _ hms
        · rintro rfl
          rw [hF1] at hml1
          cases hml1
      have hmsl : ms.length = nRun eds s d f := hmd.len
      have dm8 : ∀ b, (upd H7 F (.lst (fx ++ [.ref r]))) b = none → H1 b = none := fun b h => dm5 b (ex_none e57 (upd_none h))
      generalize upd H7 F (.lst (fx ++ [.ref r])) = H8 at dm8 e8 hrows8 hwts8 htf8 hF8 hW8 hms8 ⊢
      -- begin
      refine ⟨fun σ' H' => σ' = [some (.ref y), some (.ref p), some (.ref F), some (.ref Wl), some (.ref tf), some (.ref z), some (.ref ml), some (.int (begin f : Nat)), none] ∧ Ex H8 H', ?_, ?_⟩
      · refine ⟨_, rfl, (by show 0 ≤ sizeLine; decide), fun q9 hq9 => ?_⟩
        have e9 : Ex H8 (upd H8 q9 (.tup [])) := Ex.new hq9
        refine ⟨_, [], .tup (fz_t (Fz.ex e9) htf8) (nkI_nats f), .tup (.inl (.inl upd_same)) .nil, (by rw [depth_nums]; exact Nat.zero_le _), ?_⟩
        rw [if_pos rfl]
        rcases List.eq_nil_or_concat f with rfl | ⟨f0, x, rfl⟩
        · exact ⟨_, rfl, iteNS rfl ⟨rfl, e9⟩⟩
        · rw [List.concat_eq_append] at *
          refine ⟨_, rfl, iteNN (by simp) ?_⟩
          refine ⟨_, rfl, 1, rfl, tf, _, -1, _, rfl, rfl, fz_t (Fz.ex e9) htf8, atI_last f0 x, _, _, rfl, rfl, ?_⟩
          rw [begin_snoc]
          exact ⟨rfl, e9⟩
      · rintro σ' H9 ⟨rfl, e9⟩
        have hb8 : begin f ≤ 8 := hsm.2
        have hfl8 : f.length ≤ 8 := Nat.le_trans hsm.1 hsm.2
        have hn8 : nRun eds s d f ≤ 8 := nRun_le
        have hn : ((nRun eds s d f : Int) - (begin f : Nat)).toNat = nRun eds s d f - begin f := by omega
        have hlen0 : (nats f).length = f.length := List.length_map _
        refine ⟨_, rfl, .inl ⟨rfl, _, SqL.of (e9 _ _ hW8)⟩, _, rfl, _, rfl, ml, ms, rfl, .inl (SqL.of (e9 _ _ hms8)), _, _, rfl, ?_, fun D hD => ?_⟩
        · rw [hmsl]
          omega
        rw [hmsl, hn]
        refine lc_range (fun i H' => Ex H9 H' ∧ ∃ zs, H' D = some (.lst zs) ∧ WtsAt K H' zs ((List.range' (begin f) i).map fun k => f ++ [k])) ⟨Ex.new hD, [], upd_same, .nil⟩ ?_ ?_
        · rintro i H' hi ⟨e10, zs, hd, hz⟩
          refine ⟨rfl, yes_ok ?_⟩
          refine ⟨_, rfl, tf, nats f, rfl, .inl (fz_t (Fz.ex (e9.trans e10)) htf8), _, rfl, ?_, fun q hq => ⟨zs, ?_, ?_, ?_, ?_⟩⟩
          · rw [List.length_append, hlen0, sizeLine_eq]
            simp only [List.length_cons, List.length_nil]
            omega
          · exact (Ex.new (o := .tup (nats f ++ [.int ((begin f : Nat) + (i : Nat))])) hq) _ _ hd
          · rw [hz.len, List.length_map, List.length_range', sizeLine_eq]
            omega
          · exact (e10.trans (Ex.new hq)).mut hD
          · refine ⟨_, upd_same, ?_⟩
            have e11 : Ex H' (upd H' q (.tup (nats f ++ [.int ((begin f : Nat) + (i : Nat))]))) := Ex.new hq
            have nq : q ≠ D := (ne_of_none hd hq).symm
            have hz2 := hz.fz ((Fz.ex e11).trans (Fz.put (u := .lst zs) (e11 _ _ hd) rfl (o := .lst (zs ++ [.ref q]))))
            rw [List.range'_concat, List.map_append]
            refine hz2.app (.cons (.inl (.inl ?_)) .nil)
            rw [upd_ne nq, upd_same]
            show some (HO.tup (nats f ++ [.int _])) = some (HO.tup (nats (f ++ [begin f + 1 * i])))
            rw [Nat.one_mul]
            simp [nats]
        · rintro H' ⟨e10, zs, hd, hz⟩
          have eA := e9.trans e10
          have hzl : zs.length ≤ 8 := by
            rw [hz.len, List.length_map, List.length_range']
            omega
          refine ⟨Wl, D, us, zs, rfl, rfl, eA _ _ hW8, hd, (by rw [sizeLine_eq]; omega), ?_⟩
          have k11 : KpN H1 H' (upd H' Wl (.lst (us ++ zs))) := KpN.put (eA _ _ hW8) hW1
          refine ⟨_, mea_step l f (nRun eds s d f) nRun_le, fs ++ [f], l ++ moreOf eds s d f, fx ++ [.ref r], us ++ zs, _, _, _, _, rfl, rfl, er.step, fun b o h => ?_, fun b h => dm8 b (ex_none eA (upd_none h)), ?_, upd_same, (hrows8.kp (KpN.ex eA)).kp k11, ?_⟩
          · rw [upd_ne]
            · exact eA _ _ (e8 _ _ h)
            · rintro rfl
              rcases nH b with z | z
              · rw [z] at h; cases h
              · exact z.2 rfl
          · rw [upd_ne nFW]
            exact eA _ _ hF8
          · exact (hwts8.fz ((Fz.ex eA).trans k11.fz)).app (hz.fz k11.fz)
end
end Hs
end
section
set_option Elab.async false
set_option linter.all false
set_option maxRecDepth 100000
set_option maxHeartbeats 4000000
namespace Hs
open PySem PySem.Spec PyProof.Rows L2
open C8 (Cal Met Mak InsC pe_c pe_mk pe_mt pe_mt0 pe_gc call_isC)
open LamX (TabB Tabs ExtN TabS)
open Evl (Ex)
abbrev TtOf (Pt : Addr) : List (Addr × Str) := [(Pt, "every_run.<locals>.<lambda>")]
theorem tabs_ex {T : List (Addr × Str)} {H H' : Hp} (e : Ex H H') (t : Tabs T H) : Tabs T H' := fun p hp => (t p hp).ext e
/-- one step: (failures, later) -/
def StepV (K : PySem.W.Frag) (a : Ads) (H : Hp) (st : Addr) (s : St) (v : V) : Prop := ∃ (q : Addr) (n : Int) (z : Addr), v = .ref q ∧ SqT K H q [.int n, .ref z] ∧ SysOp K a H st z s
theorem StepV.fz {K : PySem.W.Frag} {a : Ads} {H H' : Hp} {st : Addr} {s : St} {v : V} (e : Fz H H') (h : StepV K a H st s v) : StepV K a H' st s v := by
  obtain ⟨q, n, z, h1, h2, h3⟩ := h
  exact ⟨q, n, z, h1, fz_t e h2, h3.fz e⟩
theorem refN {b : Bool} {v : V} (h : RefV b v) : (b = true ∧ ∃ q, v = .ref q) ∨ (b = false ∧ v = .non) := by
  unfold RefV at h
  cases b with
  | true => rw [if_pos rfl] at h; exact .inl ⟨rfl, h⟩
  | false => rw [if_neg (by decide)] at h; exact .inr ⟨rfl, h⟩
section
variable {P : Program} {w : World} {K : PySem.W.Frag} {mg : Str → Option Value} {base : Heap} {a : Ads}
def rLen (K : PySem.W.Frag) : List V → Hp → VK → Prop := fun xs H Q => ∃ p ys, xs = [V.ref p] ∧ (SqL K H p ys ∨ SqT K H p ys) ∧ Q (V.int ys.length) H
theorem cr_lenK {X : Cx} (K : PySem.W.Frag) (hK : X.K = K) : CallR X (.builtin "len") (rLen K) := hK ▸ call_len_seq
/-! ### steps -/
def spSteps (K : PySem.W.Frag) (a : Ads) (Pt : Addr) : Sp := fun vs H Q _ => ∃ y st s eds p d, vs = [.ref y, .ref p] ∧ SysOp K a H st y s ∧ StoreAt K a H st eds ∧ EdsOk eds ∧ StOk eds s ∧ SqT K H p (ddV d) ∧ Tabs (TtOf Pt) H ∧
  ∀ l xs H', ExtN H H' → Tabs (TtOf Pt) H' → H' l = some (.lst xs) → xs.length ≤ 256 → ∀ ss, All2 (fun v s' => StepV K a H' st s' v) xs ss → (∀ s', s' ∈ ss ↔ Nxt eds s d s') → Q (.ref l) H'
theorem scSteps : FnScope ["system", "deed", "fails", "later", "calls"] ["system", "deed"] (defScope s_steps) := ⟨rfl, rfl, rfl, by decide +kernel, rfl, by decide +kernel, by decide +kernel⟩
theorem c_steps {c Pt : Addr} (T : TX K mg a) (D : DefC K mg "every_run" s_every_run c) (B : TabB base mg c Pt) : Cal P w K mg base 9 "steps" (spSteps K a Pt) [] := by
  refine calF T.d_steps (fun _ _ _ _ _ _ us hl => match us, hl with | [_, _], _ => rfl) scSteps (fun vs H Q E h => ?_) fun fa cdv A outer s0 H vs Q E hr h => ?_
  · obtain ⟨y, st, s, eds, p, d, rfl, _⟩ := h
    rfl
  · obtain ⟨y, st, s, eds, p, d, rfl, Sy, S, ok, hs, hp, tabs, k⟩ := h
    have hu := hu_of hr
    have hR := c_refusal (P := P) (w := w) (base := base) T
    have hE := c_every (P := P) (w := w) (base := base) T D B
    refine ⟨_, pss_cons (ps_if (pt_cmp (pc_notN (pe_cc hR hr (pa_cons (pv 0) (pa_cons (pv 1) pa_nil))))) (pss_one (ps_ret (pe_lst (pa_cons (pe_tup (pa_cons pe_int (pa_cons (pv 0) pa_nil))) pa_nil)))) pss_nil)
      (pss_one (ps_ret (pe_lc (own := [("fails", 2), ("later", 3), ("calls", 4)]) (g := gTup K 3 (gCons (gName 2) (gCons (gName 3) (gCons (gName 4) gNil)))) (tt := tYes) rfl scSteps.nd (pi_list (pe_cc hE hr (pa_cons (pv 0) (pa_cons (pv 1) pa_nil)))) (blkOk_by (N := ["system", "deed", "fails", "later", "calls"]) (sc := defScope s_steps) (by decide +kernel))
        (fun _ _ _ _ _ => pg_tup rfl (pgs_cons (pg_name (i := 2) scSteps.nd rfl (Or.inl rfl)) (pgs_cons (pg_name (i := 3) scSteps.nd rfl (Or.inl rfl)) (pgs_cons (pg_name (i := 4) scSteps.nd rfl (Or.inl rfl)) pgs_nil)))) (fun _ _ _ _ _ => pts_nil)
        (fun _ _ _ _ _ => pe_tup (pa_cons (pe_callB (cr_lenK K rfl) (by rfl) T.f_len PySem.boot_len (pa_cons (pv 2) pa_nil)) (pa_cons (pv 3) pa_nil)))))), ?_⟩
    refine ⟨_, rfl, _, rfl, y, st, s, eds, p, d, rfl, Sy, S, ok, hs, hp, fun r H1 e1 hrv => ?_⟩
    rcases refN hrv with ⟨hrf, q, rfl⟩ | ⟨hrf, rfl⟩
    · refine ⟨_, rfl, iteNN (fun z => nomatch z) ?_⟩
      refine ⟨_, rfl, (by show 2 ≤ sizeLine; decide), fun t ht => ⟨(by show 1 ≤ sizeLine; decide), fun l hl => ?_⟩⟩
      have e2 := (e1.trans (Ex.new (o := .tup [.int 0, .ref y]) ht)).trans (Ex.new (o := .lst [.ref t]) hl)
      have hv : StepV K a (upd (upd H1 t (.tup [.int 0, .ref y])) l (.lst [.ref t])) st s (.ref t) := ⟨t, 0, y, rfl, .inl (.inl (Ex.new hl _ _ upd_same)), Sy.fz (Fz.ex e2)⟩
      have hnx : ∀ s', Nxt eds s d s' ↔ s' = s := fun s' => by unfold Nxt; rw [if_pos hrf]
      exact k l _ _ (ExtN.of e2) (tabs_ex e2 tabs) upd_same (by simp) [s] (.cons hv .nil) fun s' => by rw [hnx, List.mem_singleton]
    · refine ⟨_, rfl, iteNS rfl ?_⟩
      refine ⟨_, rfl, _, rfl, y, st, s, eds, p, d, rfl, Sy.fz (Fz.ex e1), S.fz (Fz.ex e1), ok, hs, fz_t (Fz.ex e1) hp, hrf, tabs_ex e1 tabs, fun l xs H2 e2 tabs2 hl _ hlen fs hall hhit => ?_⟩
      have hnx : ∀ s', Nxt eds s d s' ↔ ∃ F, s' = ((prog eds s d).run F 0).1 := fun s' => by unfold Nxt; rw [if_neg (by rw [hrf]; decide)]
      have hxl := hall.len
      refine ⟨l, rfl, ⟨_, SqL.of hl⟩, fun D hD => lc_list (xs := xs) (fun i H' => Ex H2 H' ∧ ∃ zs, H' D = some (.lst zs) ∧ All2 (fun v f => StepV K a H' st (runL eds s d f).1 v) zs (fs.take i))
        ⟨Ex.new hD, [], upd_same, .nil⟩ (fun i H' _ q => SqL.of (q.1 _ _ hl)) ?_ ?_⟩
      · rintro i v H' hv ⟨e3, zs, hd, hz⟩
        have hil : i < xs.length := (List.getElem?_eq_some_iff.mp hv).1
        obtain ⟨f, hfi, q, t, z, ml, rfl, hq, ht, hml, hex⟩ := hall.get hv
        have hzl : zs.length ≤ 256 := by
          rw [hz.len, List.length_take]
          omega
        refine ⟨q, _, rfl, fz_t (Fz.ex e3) hq, rfl, _, _, rfl, _, _, rfl, _, _, rfl, rfl, rfl, yes_ok ?_⟩
        refine ⟨_, rfl, t, _, rfl, .inr (fz_t (Fz.ex e3) ht), _, rfl, (by show 2 ≤ sizeLine; decide), fun b hb => ⟨zs, ?_, ?_, ?_, ?_⟩⟩
        · exact (Ex.new hb) _ _ hd
        · rw [sizeLine_eq]
          omega
        · exact (e3.trans (Ex.new hb)).mut hD
        · have e4 : Ex H' (upd H' b (.tup [.int ((nats f).length : Nat), .ref z])) := Ex.new hb
          have nb : b ≠ D := (ne_of_none hd hb).symm
          have fz := (Fz.ex e4).trans (Fz.put (u := .lst zs) (e4 _ _ hd) rfl (o := .lst (zs ++ [.ref b])))
          refine ⟨_, upd_same, ?_⟩
          rw [List.take_succ, hfi]
          exact (hz.imp fun v f h => h.fz fz).app (.cons ⟨b, _, z, rfl, .inl (.inl (by rw [upd_ne nb, upd_same])), hex.sys.fz ((Fz.ex e3).trans fz)⟩ .nil)
      · rintro H' ⟨e3, zs, hd, hz⟩
        rw [hxl, List.take_length] at hz
        have hzl : zs.length ≤ 256 := by rw [hz.len]; omega
        refine k D zs H' ((((ExtN.of e1).trans e2)).trans (ExtN.of e3)) (tabs_ex e3 tabs2) hd hzl (fs.map fun f => (runL eds s d f).1) (All2.map hz) fun s' => ?_
        rw [hnx, List.mem_map]
        constructor
        · rintro ⟨f, hf, rfl⟩
          exact ⟨_, rfl⟩
        · rintro ⟨F, rfl⟩
          obtain ⟨f, hf, he⟩ := hhit F
          exact ⟨f, hf, by rw [he]⟩
end
end Hs
end
section
set_option Elab.async false
set_option linter.all false
set_option maxRecDepth 100000
set_option maxHeartbeats 4000000
namespace Hs
open PySem PySem.Spec PyProof.Rows L2
open C8 (Cal Met Mak InsC pe_c pe_mk pe_mt pe_mt0 pe_gc call_isC)
open LamX (TabB Tabs ExtN TabS)
open Evl (Ex)
theorem nodup_le {α : Type} [DecidableEq α] : ∀ {l D : List α}, l.Nodup → (∀ x ∈ l, x ∈ D) → l.length ≤ D.length
  | [], D, _, _ => Nat.zero_le _
  | x :: l, D, h, hs => by
    have hx := hs x List.mem_cons_self
    have hn := List.nodup_cons.mp h
    have ih := nodup_le (l := l) (D := D.erase x) hn.2 fun y hy => (List.mem_erase_of_ne (fun z => hn.1 (by rw [← z]; exact hy))).mpr (hs y (List.mem_cons_of_mem _ hy))
    have hl := List.length_erase_of_mem hx
    have hp : 0 < D.length := List.length_pos_of_mem hx
    rw [List.length_cons]
    omega
def allSt (vs : List Int) : List St := St.none :: [Sta.absent, .failed, .half, .left, .ready, .unpacked].flatMap fun a => vs.flatMap fun v => (0 :: vs).map fun d => ⟨a, v, d⟩
theorem allSt_len {vs : List Int} (h : vs.length ≤ 2) : (allSt vs).length ≤ 37 := by
  have b := fun a : Sta => flat_len (fun v : Int => (0 :: vs).map fun d => (⟨a, v, d⟩ : St)) 3 vs (fun v _ => by rw [List.length_map, List.length_cons]; omega)
  have c := flat_len (fun a : Sta => vs.flatMap fun v => (0 :: vs).map fun d => (⟨a, v, d⟩ : St)) 6 [Sta.absent, .failed, .half, .left, .ready, .unpacked] (fun a _ => Nat.le_trans (b a) (by omega))
  unfold allSt
  rw [List.length_cons]
  simp only [List.length_cons, List.length_nil] at c
  omega
theorem stOk_mem {eds : List Ed} {s : St} (h : StOk eds s) : s ∈ allSt (vers eds) := by
  unfold allSt
  rcases h.ok with rfl | ⟨_, hv, hd, _⟩
  · exact List.mem_cons_self
  · refine List.mem_cons_of_mem _ (List.mem_flatMap.mpr ⟨s.a, by cases s.a <;> simp, List.mem_flatMap.mpr ⟨s.v, verOk_mem.mp hv, List.mem_map.mpr ⟨s.d, ?_, rfl⟩⟩⟩)
    rcases hd with e | e
    · rw [e]; exact List.mem_cons_self
    · exact List.mem_cons_of_mem _ (verOk_mem.mp e)
theorem few_sts {eds : List Ed} (ok : EdsOk eds) {ss : List St} (nd : ss.Nodup) (h : ∀ s ∈ ss, StOk eds s) : ss.length ≤ 37 :=
  Nat.le_trans (nodup_le nd fun s hs => stOk_mem (h s hs)) (allSt_len (by have := ok.few; unfold vers; rw [List.length_map]; exact this))
def insN (s : St) (ss : List St) : List St := if s ∈ ss then ss else ss ++ [s]
theorem mem_insN {s s' : St} {ss : List St} : s' ∈ insN s ss ↔ s' ∈ ss ∨ s' = s := by
  unfold insN
  by_cases c : s ∈ ss
  · rw [if_pos c]
    exact ⟨.inl, fun h => h.elim id fun e => by rw [e]; exact c⟩
  · rw [if_neg c, List.mem_append, List.mem_singleton]
theorem nodup_insN {s : St} {ss : List St} (h : ss.Nodup) : (insN s ss).Nodup := by
  unfold insN
  by_cases c : s ∈ ss
  · rw [if_pos c]; exact h
  · rw [if_neg c]
    refine List.nodup_append.mpr ⟨h, by simp, fun x hx y hy z => ?_⟩
    rw [List.mem_singleton.mp hy] at z
    rw [z] at hx
    exact c hx
def lnKey (s : St) : NestedKey := .tup [.tup [.text s.a.txt, .num s.v, .num s.d]]
theorem lnKey_inj {s s' : St} : lnKey s = lnKey s' ↔ s = s' := by
  unfold lnKey
  constructor
  · intro z
    injection z with z
    injection z with z _
    exact (st_key_eq s s').mp z
  · rintro rfl
    rfl
theorem lnKey_depth (s : St) : (lnKey s).depth ≤ 8 := by
  show 2 ≤ 8
  decide
section
variable {K : PySem.W.Frag} {a : Ads} {H H' : Hp} {st : Addr}
theorem LnAt.nk {p : Addr} {s : St} (h : LnAt K H p s) : Nk K H (.ref p) (lnKey s) := by
  obtain ⟨t, h1, h2⟩ := h
  exact .tup h1 (.cons (st_keys h2) .nil)
theorem LnAt.fz {p : Addr} {s : St} (e : Fz H H') (h : LnAt K H p s) : LnAt K H' p s := by
  obtain ⟨t, h1, h2⟩ := h
  exact ⟨t, fz_t e h1, fz_t e h2⟩
end
/-- a row of spots -/
def SpV (K : PySem.W.Frag) (a : Ads) (H : Hp) (st b : Addr) (s : St) : Prop := ∃ (z : Addr) (c f : Int), SqT K H b [.ref z, .int c, .int f] ∧ SysOp K a H st z s
def SpotAt (K : PySem.W.Frag) (a : Ads) (H : Hp) (st : Addr) (x : NE) (s : St) : Prop := x.1 = lnKey s ∧ LnAt K H x.2.1 s ∧ SpV K a H st x.2.2 s
abbrev SpotsAt (K : PySem.W.Frag) (a : Ads) (H : Hp) (st : Addr) : List NE → List St → Prop := All2 (SpotAt K a H st)
theorem All2.mapL {α β γ : Type} {R : α → β → Prop} {R' : γ → β → Prop} {g : α → γ} (h : ∀ v f, R v f → R' (g v) f) : ∀ {vs : List α} {fs : List β}, All2 R vs fs → All2 R' (vs.map g) fs
  | _, _, .nil => .nil
  | _, _, .cons a t => .cons (h _ _ a) (All2.mapL h t)
section
variable {K : PySem.W.Frag} {a : Ads} {H H' : Hp} {st : Addr}
theorem SpV.fz {b : Addr} {s : St} (e : Fz H H') (h : SpV K a H st b s) : SpV K a H' st b s := by
  obtain ⟨z, c, f, h1, h2⟩ := h
  exact ⟨z, c, f, fz_t e h1, h2.fz e⟩
theorem SpotAt.fz {x : NE} {s : St} (e : Fz H H') (h : SpotAt K a H st x s) : SpotAt K a H' st x s := ⟨h.1, h.2.1.fz e, h.2.2.fz e⟩
theorem SpotsAt.fz (e : Fz H H') {xs : List NE} {ss : List St} (h : SpotsAt K a H st xs ss) : SpotsAt K a H' st xs ss := h.imp fun _ _ q => q.fz e
theorem SpotsAt.keys {xs : List NE} {ss : List St} (h : SpotsAt K a H st xs ss) : KeyN K H xs := fun x hx => by
  obtain ⟨s, _, h1, h2, _⟩ := h.mem x hx
  rw [h1]
  exact ⟨h2.nk, lnKey_depth s⟩
theorem SpotsAt.look : ∀ {xs : List NE} {ss : List St}, SpotsAt K a H st xs ss → ∀ s, (s ∈ ss → ∃ b, lookN xs (lnKey s) = some b ∧ SpV K a H st b s) ∧ (s ∉ ss → lookN xs (lnKey s) = none)
  | _, _, .nil, s => ⟨fun h => (by cases h), fun _ => rfl⟩
  | _, _, .cons (v := x) (f := s0) (vs := xs) h t, s => by
    obtain ⟨h1, h2⟩ := SpotsAt.look t s
    have e : lookN (x :: xs) (lnKey s) = if x.1 = lnKey s then some x.2.2 else lookN xs (lnKey s) := by
      unfold lookN
      rw [List.find?_cons]
      by_cases c : x.1 = lnKey s
      · rw [decide_eq_true c, if_pos c] <;> rfl
      · rw [decide_eq_false c, if_neg c]
    rw [e]
    by_cases c : s = s0
    · subst c
      rw [if_pos h.1]
      exact ⟨fun _ => ⟨_, rfl, h.2.2⟩, fun q => absurd List.mem_cons_self q⟩
    · rw [if_neg (fun z => c (lnKey_inj.mp (h.1.symm.trans z)).symm)]
      exact ⟨fun q => h1 ((List.mem_cons.mp q).resolve_left c), fun q => h2 fun z => q (List.mem_cons_of_mem _ z)⟩
theorem SpotsAt.put {xs : List NE} {ss : List St} {s : St} {ka b : Addr} (h : SpotsAt K a H st xs ss) (hk : LnAt K H ka s) (hb : SpV K a H st b s) : SpotsAt K a H st (storedN xs (lnKey s) ka b) (insN s ss) := by
  have hany : (xs.any fun x => decide (x.1 = lnKey s)) = true ↔ s ∈ ss := by
    rw [List.any_eq_true]
    constructor
    · rintro ⟨x, hx, e⟩
      obtain ⟨s', hs, h1, _⟩ := h.mem x hx
      rw [← lnKey_inj.mp (h1.symm.trans (of_decide_eq_true e))]
      exact hs
    · intro hs
      obtain ⟨x, hx, h1, _⟩ := h.mem' s hs
      exact ⟨x, hx, decide_eq_true h1⟩
  unfold storedN insN
  by_cases c : s ∈ ss
  · rw [if_pos (hany.mpr c), if_pos c]
    refine h.mapL fun x s' q => ?_
    by_cases e : x.1 = lnKey s
    · rw [if_pos e]
      have : s' = s := lnKey_inj.mp (q.1.symm.trans e)
      subst this
      exact ⟨q.1, q.2.1, hb⟩
    · rw [if_neg e]
      exact q
  · rw [if_neg (fun z => c (hany.mp z)), if_neg c]
    exact h.app (.cons ⟨rfl, hk, hb⟩ .nil)
end
end Hs
end
section
set_option Elab.async false
set_option linter.all false
set_option maxRecDepth 100000
set_option maxHeartbeats 4000000
namespace Hs
open PySem PySem.Spec PyProof.Rows L2
open C8 (Cal Met Mak InsC pe_c pe_mk pe_mt pe_mt0 pe_gc call_isC)
open LamX (TabB Tabs ExtN TabS)
open Evl (Ex)
theorem walk_valsN {P : Program} {w : World} {d : Addr} {o : Obj} {xs : List NE} : Walk (Itn P w d o xs) xs.length (fun H => H d = some (.frz o (ND P w d xs))) (fun i H x H' => H' = H ∧ ∃ y, xs[i]? = some y ∧ x = .ref y.2.2) :=
  ⟨fun _ _ hi q => ⟨q, hi⟩, fun _ q => ⟨q, Nat.le_refl _⟩, fun _ _ _ _ _ _ y => y⟩
section
variable {X : Cx} {K : PySem.W.Frag} {P : Program} {w : World}
abbrev IsX (X : Cx) (K : PySem.W.Frag) (P : Program) (w : World) : Prop := X.K = K ∧ X.prog = P ∧ X.w = w
theorem pe_disp1NK (hX : IsX X K P w) {k v : Expr} {pos : Pos} {tk tv : TE} (hu : X.A.units + 9 < cLine) (hk : PE X k tk) (hv : PE X v tv) : PE X (.Dict [some k] [v] pos) (tDisp1N K P w tk tv) := by
  obtain ⟨rfl, rfl, rfl⟩ := hX
  exact pe_disp1N hu hk hv
theorem pe_dnewNK (hX : IsX X K P w) {pos : Pos} : PE X (.Dict [] [] pos) (tDNewN P w) := by
  obtain ⟨rfl, rfl, rfl⟩ := hX
  exact pe_dnewN
theorem pi_valuesNK (hX : IsX X K P w) {tg e : Expr} {td : TE} {apos cpos : Pos} (he : PE X e td) (hbase : attributeBase e "values" X.env (eval e X.env) = eval e X.env := by rfl) (hline : (apos.endLine == cpos.line) = true := by rfl) : PI X tg (.Call (.Attribute e "values" apos) [] [] cpos) (iValsN P w td) := by
  obtain ⟨rfl, rfl, rfl⟩ := hX
  exact pi_valuesN he hbase hline
theorem pe_dget2NK (hX : IsX X K P w) {o e f : Expr} {apos cpos : Pos} {td ty tz : TE} (hu : X.A.units + 9 < cLine) (ho : PE X o td) (he : PE X e ty) (hf : PE X f tz) (m : M2 X o "get" apos e f cpos) : PE X (.Call (.Attribute o "get" apos) [e, f] [] cpos) (tGet2N K P w td ty tz) := by
  obtain ⟨rfl, rfl, rfl⟩ := hX
  exact pe_dget2N hu ho he hf m
theorem set_NK (hX : IsX X K P w) (hu : X.A.units + 9 < cLine) : PSet X (rSetN K P w) := by
  obtain ⟨rfl, rfl, rfl⟩ := hX
  exact set_N hu
theorem pe_dgetNK (hX : IsX X K P w) {a i : Expr} {ta ti : TE} {pos : Pos} (hu : X.A.units + 9 < cLine) (ha : PE X a ta) (hi : PE X i ti) (hs : NoSl i := by intro _ _; rfl) : PE X (.Subscript a i pos) (tOp (rGetN K P w) ta ti) := by
  obtain ⟨rfl, rfl, rfl⟩ := hX
  exact pe_dgetN hu ha hi hs
theorem pe_updNK (hX : IsX X K P w) {o e : Expr} {apos cpos : Pos} {td ty : TE} (hc : X.calm = true) (hu : X.A.units + 9 < cLine) (ho : PE X o td) (he : PE X e ty) (m : M1 X o "update" apos e cpos) : PE X (.Call (.Attribute o "update" apos) [e] [] cpos) (tUpdN K P w td ty) := by
  obtain ⟨rfl, rfl, rfl⟩ := hX
  exact pe_updN hc hu ho he m
theorem cr_listValsK (hX : IsX X K P w) (hc : X.calm = true) : CallR X (.type "list") (rListVals P w) := by
  obtain ⟨rfl, rfl, rfl⟩ := hX
  exact cr_listVals hc
theorem pe_valsK (hX : IsX X K P w) {e : Expr} {td : TE} {apos cpos : Pos} (he : PE X e td) (hbase : attributeBase e "values" X.env (eval e X.env) = eval e X.env := by rfl) (hline : (apos.endLine == cpos.line) = true := by rfl) : PE X (.Call (.Attribute e "values" apos) [] [] cpos) (tVals P w td) := by
  obtain ⟨rfl, rfl, rfl⟩ := hX
  exact pe_vals he hbase hline
end
/-- a dict is no code object -/
theorem nd_ne_code {P : Program} {w : World} {d c : Addr} {xs : List NE} {q : Str} : ND P w d xs ≠ LamX.CodeO c q := by
  intro z
  unfold ND LamX.CodeO at z
  injection z with z
  let o : Obj := { cls := .none, data := .fields #[.none, .str q 0] }
  have hall : ∀ b, (({ objs := Array.replicate (c + 1) o } : Heap).get? b) = if b < c + 1 then some o else none := fun b => by
    unfold Heap.get?
    by_cases hb : b < c + 1
    · rw [if_pos hb]
      show (match (Array.replicate (c + 1) o)[b]? with | some ⟨_, _, .freed, _⟩ => none | r => r) = some o
      rw [Array.getElem?_replicate, if_pos hb]
    · rw [if_neg hb]
      show (match (Array.replicate (c + 1) o)[b]? with | some ⟨_, _, .freed, _⟩ => none | r => r) = none
      rw [Array.getElem?_replicate, if_neg hb]
  have h2 := congrFun z { objs := Array.replicate (c + 1) o }
  have h3 : RawN P w { objs := Array.replicate (c + 1) o } d xs := by
    rw [h2]
    exact ⟨o, _, 0, by rw [hall, if_pos (Nat.lt_succ_self c)], rfl, rfl⟩
  obtain ⟨o', es, ep, h4, _, h5, _⟩ := h3.ex
  rw [hall] at h4
  by_cases hd : d < c + 1
  · rw [if_pos hd] at h4
    cases h4
    cases h5
  · rw [if_neg hd] at h4
    cases h4
theorem tabs_upd {T : List (Addr × Str)} {H : Hp} {b : Addr} {o : HO} (h1 : ∀ ps, H b ≠ some (.tbl ps)) (h2 : ∀ c q, H b ≠ some (LamX.CodeO c q)) (t : Tabs T H) : Tabs T (upd H b o) := fun p hp => by
  obtain ⟨ps, h3, h4, h5⟩ := t p hp
  refine ⟨ps, ?_, h4, fun pos cv hc => ?_⟩
  · rw [upd_ne (fun z => h1 ps (by rw [← z]; exact h3))]
    exact h3
  · obtain ⟨c, e, h6⟩ := h5 pos cv hc
    exact ⟨c, e, by rw [upd_ne (fun z => h2 c p.2 (by rw [← z]; exact h6))]; exact h6⟩
theorem tabs_nd {T : List (Addr × Str)} {P : Program} {w : World} {H : Hp} {b : Addr} {xs : List NE} {o : HO} (h : H b = some (ND P w b xs)) (t : Tabs T H) : Tabs T (upd H b o) :=
  tabs_upd (fun ps z => by rw [h] at z; cases z) (fun c q z => by rw [h] at z; exact nd_ne_code (Option.some.inj z)) t
theorem tabs_frz {T : List (Addr × Str)} {H : Hp} {b : Addr} {od : Obj} {u o : HO} (h : H b = some (.frz od u)) (t : Tabs T H) : Tabs T (upd H b o) :=
  tabs_upd (fun ps z => by rw [h] at z; cases z) (fun c q z => by rw [h] at z; cases z) t
theorem tabs_ins {T : List (Addr × Str)} {H : Hp} {b C dx : Addr} {fs : List (Str × V)} {o : HO} (h : H b = some (.ins C dx fs)) (t : Tabs T H) : Tabs T (upd H b o) :=
  tabs_upd (fun ps z => by rw [h] at z; cases z) (fun c q z => by rw [h] at z; cases z) t
theorem tabs_lst {T : List (Addr × Str)} {H : Hp} {b : Addr} {xs : List V} {o : HO} (h : H b = some (.lst xs)) (t : Tabs T H) : Tabs T (upd H b o) :=
  tabs_upd (fun ps z => by rw [h] at z; cases z) (fun c q z => by rw [h] at z; cases z) t
/-- but for x and the tables all is kept -/
def ExtO (x : Addr) (H H' : Hp) : Prop := ∀ b o, b ≠ x → H b = some o → (∀ ps, o ≠ .tbl ps) → H' b = some o
theorem ExtO.refl {x : Addr} {H : Hp} : ExtO x H H := fun _ _ _ h _ => h
theorem ExtO.trans {x : Addr} {H H1 H2 : Hp} (e : ExtO x H H1) (e' : ExtO x H1 H2) : ExtO x H H2 := fun b o n h l => e' b o n (e b o n h l) l
theorem ExtO.ofN {x : Addr} {H H1 : Hp} (e : ExtN H H1) : ExtO x H H1 := fun b o _ h l => e b o h l
theorem ExtO.of {x : Addr} {H H1 : Hp} (e : Ex H H1) : ExtO x H H1 := fun b o _ h _ => e b o h
theorem ExtO.put {x : Addr} {H : Hp} {o : HO} : ExtO x H (upd H x o) := fun b u n h _ => by rw [upd_ne n]; exact h
theorem ExtO.fz {x : Addr} {H H1 : Hp} {φ : Heap → Prop} (e : ExtO x H H1) (h : H x = some (.ext φ)) : Fz H H1 := fun b o hb l => e b o (fun z => by rw [z, h] at hb; cases hb; cases l) hb fun ps z => by rw [z] at l; cases l
/-- at x stands nothing that the stores and systems are made of -/
structure OffX (H : Hp) (x : Addr) : Prop where
  tup : ∀ xs, H x ≠ some (.tup xs)
  frz : ∀ o xs, H x ≠ some (.frz o (.tup xs))
  ins : ∀ C dx n v r, H x = some (.ins C dx ((n, v) :: r)) → n = "spots"
  dk : ∀ kvs, H x ≠ some (.dK kvs)
  dt : ∀ kvs, H x ≠ some (.dT kvs)
theorem OffX.ins0 {H : Hp} {x C dx : Addr} (h : H x = some (.ins C dx [])) : OffX H x where
  tup := fun _ z => by
    rw [h] at z
    cases z
  frz := fun _ _ z => by
    rw [h] at z
    cases z
  ins := fun _ _ _ _ _ z => by
    rw [h] at z
    cases z
  dk := fun _ z => by
    rw [h] at z
    cases z
  dt := fun _ z => by
    rw [h] at z
    cases z
theorem OffX.ins1 {H : Hp} {x C dx : Addr} {v : V} (h : H x = some (.ins C dx [("spots", v)])) : OffX H x where
  tup := fun _ z => by
    rw [h] at z
    cases z
  frz := fun _ _ z => by
    rw [h] at z
    cases z
  ins := fun _ _ _ _ _ z => by
    rw [h] at z
    cases z
    rfl
  dk := fun _ z => by
    rw [h] at z
    cases z
  dt := fun _ z => by
    rw [h] at z
    cases z
theorem OffX.frzE {H : Hp} {x : Addr} {o : Obj} {φ : Heap → Prop} (h : H x = some (.frz o (.ext φ))) : OffX H x where
  tup := fun _ z => by
    rw [h] at z
    cases z
  frz := fun _ _ z => by
    rw [h] at z
    cases z
  ins := fun _ _ _ _ _ z => by
    rw [h] at z
    cases z
  dk := fun _ z => by
    rw [h] at z
    cases z
  dt := fun _ z => by
    rw [h] at z
    cases z
def FzO (x : Addr) (H H' : Hp) : Prop := ∀ b o, b ≠ x → H b = some o → isL o = false → H' b = some o
theorem ExtO.fzO {x : Addr} {H H1 : Hp} (e : ExtO x H H1) : FzO x H H1 := fun b o n h l => e b o n h fun ps z => by rw [z] at l; cases l
theorem FzO.trans {x : Addr} {H H1 H2 : Hp} (e : FzO x H H1) (e' : FzO x H1 H2) : FzO x H H2 := fun b o n h l => e' b o n (e b o n h l) l
theorem FzO.of {x : Addr} {H H1 : Hp} (e : Fz H H1) : FzO x H H1 := fun b o n h l => e b o h l
section
variable {K : PySem.W.Frag} {a : Ads} {H H' : Hp} {x st : Addr}
theorem OffX.n1 (o : OffX H x) {b C dx : Addr} {v : V} {r : List (Str × V)} {n : Str} (h : H b = some (.ins C dx ((n, v) :: r))) (hn : n ≠ "spots") : b ≠ x := by
  rintro rfl
  exact hn (o.ins _ _ _ _ _ h)
theorem FzO.t (e : FzO x H H') (o : OffX H x) {p : Addr} {xs : List V} (h : SqT K H p xs) : SqT K H' p xs := by
  rcases h with (h | ⟨u, h⟩) | h
  · exact .inl (.inl (e _ _ (fun z => o.tup _ (by rw [← z]; exact h)) h rfl))
  · exact .inl (.inr ⟨u, e _ _ (fun z => o.frz _ _ (by rw [← z]; exact h)) h rfl⟩)
  · exact .inr h
theorem NdsAt.off (e : FzO x H H') (o : OffX H x) : ∀ {ts : List Addr} {ls : List Int}, NdsAt K H ts ls → NdsAt K H' ts ls
  | _, _, .nil => .nil
  | _, _, .cons h t => .cons (e.t o h) (NdsAt.off e o t)
theorem NdT.off (e : FzO x H H') (o : OffX H x) {p : Addr} {ls : List Int} (h : NdT K H p ls) : NdT K H' p ls := by
  obtain ⟨ts, h1, h2⟩ := h
  exact ⟨ts, e.t o h1, h2.off e o⟩
theorem EdAt.off (e : FzO x H H') (o : OffX H x) {y : Addr} {ed : Ed} (h : EdAt K a H y ed) : EdAt K a H' y ed := by
  obtain ⟨dz, hs, ws, as, sh, h1, h2, h3, h4, h5⟩ := h
  exact ⟨dz, hs, ws, as, sh, e _ _ (o.n1 h1 (by decide +kernel)) h1 rfl, e.t o h2, h3.off e o, h4.off e o, e.t o h5⟩
theorem EdsAt.off (e : FzO x H H') (o : OffX H x) : ∀ {es : List Addr} {eds : List Ed}, EdsAt K a H es eds → EdsAt K a H' es eds
  | _, _, .nil => .nil
  | _, _, .cons h t => .cons (h.off e o) (EdsAt.off e o t)
theorem StoreAt.off (e : FzO x H H') (o : OffX H x) {st : Addr} {eds : List Ed} (h : StoreAt K a H st eds) : StoreAt K a H' st eds := by
  obtain ⟨dz, d, es, h1, h2, h3⟩ := h
  exact ⟨dz, d, es, e _ _ (o.n1 h1 (by decide +kernel)) h1 rfl, e _ _ (fun z => o.dt _ (by rw [← z]; exact h2)) h2 rfl, h3.off e o⟩
theorem SysOp.off (e : FzO x H H') (o : OffX H x) {y : Addr} {s : St} (h : SysOp K a H st y s) : SysOp K a H' st y s := by
  obtain ⟨dx, r, t, h1, h2, h3⟩ := h
  exact ⟨dx, r, t, e _ _ (o.n1 h1 (by decide +kernel)) h1 rfl, e _ _ (fun z => o.dk _ (by rw [← z]; exact h2)) h2 rfl, e.t o h3⟩
theorem SpotsAt.off (e : FzO x H H') (o : OffX H x) {xs : List NE} {ss : List St} (h : SpotsAt K a H st xs ss) : SpotsAt K a H' st xs ss := h.imp fun y s ⟨h1, ⟨t, h2, h3⟩, z, c, f, h4, h5⟩ => ⟨h1, ⟨t, e.t o h2, e.t o h3⟩, z, c, f, e.t o h4, h5.off e o⟩
end
/-- a deed at v -/
def DdAt (K : PySem.W.Frag) (H : Hp) (v : V) (d : Dd) : Prop := ∃ p, v = .ref p ∧ SqT K H p (ddV d)
/-- a list of deeds -/
def DdsAt (K : PySem.W.Frag) (H : Hp) (dl : Addr) (ds : List Dd) : Prop := ∃ vs, SqL K H dl vs ∧ All2 (DdAt K H) vs ds
section
variable {K : PySem.W.Frag} {a : Ads} {H H' : Hp} {x st : Addr}
theorem ExtO.l {p : Addr} {xs : List V} (e : ExtO x H H') (h : SqL K H p xs) (n : p ≠ x) : SqL K H' p xs := by
  rcases h with (h | ⟨u, h⟩) | h
  · exact .inl (.inl (e _ _ n h (fun _ z => nomatch z)))
  · exact .inl (.inr ⟨u, e _ _ n h (fun _ z => nomatch z)⟩)
  · exact .inr h
theorem SqL.neIns {p C dx : Addr} {xs : List V} {fs : List (Str × V)} (hx : H x = some (.ins C dx fs)) (e : ExtO x H H') (h : SqL K H p xs) : SqL K H' p xs := by
  rcases h with (h | ⟨u, h⟩) | h
  · exact .inl (.inl (e _ _ (fun z => by rw [z, hx] at h; cases h) h (fun _ z => nomatch z)))
  · exact .inl (.inr ⟨u, e _ _ (fun z => by rw [z, hx] at h; cases h) h (fun _ z => nomatch z)⟩)
  · exact .inr h
theorem SqL.neExt {p : Addr} {xs : List V} {φ : Heap → Prop} (hx : H x = some (.ext φ)) (e : ExtO x H H') (h : SqL K H p xs) : SqL K H' p xs := by
  rcases h with (h | ⟨u, h⟩) | h
  · exact .inl (.inl (e _ _ (fun z => by rw [z, hx] at h; cases h) h (fun _ z => nomatch z)))
  · exact .inl (.inr ⟨u, e _ _ (fun z => by rw [z, hx] at h; cases h) h (fun _ z => nomatch z)⟩)
  · exact .inr h
end
section
variable {P : Program} {w : World} {K : PySem.W.Frag} {mg : Str → Option Value} {base : Heap} {a : Ads}
/-! ### Courses.__init__ -/
def spCoInit (K : PySem.W.Frag) (P : Program) (w : World) (a : Ads) (Pt : Addr) : Sp := fun vs H Q _ => ∃ x dx y dl st s eds ds, vs = [.ref x, .ref y, .ref dl] ∧ H x = some (.ins a.co dx []) ∧ SysOp K a H st y s ∧ StoreAt K a H st eds ∧ EdsOk eds ∧ StOk eds s ∧ DdsAt K H dl ds ∧ Tabs (TtOf Pt) H ∧
  ∀ H' D xs ss, ExtO x H H' → Tabs (TtOf Pt) H' → H' x = some (.ins a.co dx [("spots", .ref D)]) → H' D = some (ND P w D xs) → SpotsAt K a H' st xs ss → ss.Nodup → (∀ s', s' ∈ ss ↔ Rch eds ds s s') → Q .non H'
theorem scCoInit : FnScope ["self", "system", "deeds", "deed", "later", "here", "count", "fewest", "failures", "there", "old"] ["self", "system", "deeds"] (defScope s_Courses_init) := ⟨rfl, rfl, rfl, by decide +kernel, rfl, by decide +kernel, by decide +kernel⟩
theorem k_co {c Pt : Addr} (T : TX K mg a) (D : DefC K mg "every_run" s_every_run c) (B : TabB base mg c Pt) : Mak P w K mg base 10 "Courses" a.co (spCoInit K P w a Pt) [] := by
  refine makF T.k_co T.mg_co (fun _ _ _ _ _ _ us hl => match us, hl with | [_, _, _], _ => rfl) scCoInit (fun vs H Q E h => ?_) fun fa cdv A outer s0 H vs Q E hr h => ?_
  · obtain ⟨x, dx, y, dl, st, s, eds, ds, rfl, _⟩ := h
    rfl
  · obtain ⟨x, dx, y, dl, st, s, eds, ds, rfl, hx, Sy, S, ok, hs, ⟨dvs, hdl, hds⟩, tabs, k⟩ := h
    have hu := hu_of hr
    have hL := p_line (P := P) (w := w) (base := base) T
    have hS := c_steps (P := P) (w := w) (base := base) T D B
    have h9 : (A.deeper (envOfC "Courses.__init__" (defScope s_Courses_init) s0.heap.objs.size fa cdv)).units + 9 < cLine := Nat.lt_of_le_of_lt (Nat.add_le_add_left (by decide) _) hr.units
    refine ⟨_, pss_cons (ps_fld (pv 0) (pe_disp1NK (K := K) (P := P) (w := w) ⟨rfl, rfl, rfl⟩ h9 (pe_pr hL hr (by decide) (pv 1)) (pe_tup (pa_cons (pv 1) (pa_cons pe_int (pa_cons pe_int pa_nil))))) rfl)
      (pss_one (ps_for PassesOwn.never rfl (pi_list (pv 2)) (pg_name (i := 3) scCoInit.nd rfl (Or.inl rfl))
        (pss_cons (ps_set (i := 4) scCoInit.nd rfl (Or.inl rfl) (pe_dnewNK (K := K) (P := P) (w := w) ⟨rfl, rfl, rfl⟩))
        (pss_cons (ps_lock (ps_for PassesOwn.never rfl (pi_valuesNK (K := K) (P := P) (w := w) ⟨rfl, rfl, rfl⟩ (pe_fld (pv 0) rfl)) (pg_tup rfl (pgs_cons (pg_name (i := 5) scCoInit.nd rfl (Or.inl rfl)) (pgs_cons (pg_name (i := 6) scCoInit.nd rfl (Or.inl rfl)) (pgs_cons (pg_name (i := 7) scCoInit.nd rfl (Or.inl rfl)) pgs_nil))))
          (pss_one (ps_for PassesOwn.never rfl (pi_list (pe_cc hS hr (pa_cons (pv 5) (pa_cons (pv 3) pa_nil)))) (pg_tup rfl (pgs_cons (pg_name (i := 8) scCoInit.nd rfl (Or.inl rfl)) (pgs_cons (pg_name (i := 9) scCoInit.nd rfl (Or.inl rfl)) pgs_nil)))
            (pss_cons (ps_set (i := 10) scCoInit.nd rfl (Or.inl rfl) (pe_dget2NK (K := K) (P := P) (w := w) ⟨rfl, rfl, rfl⟩ h9 (pv 4) (pe_pr hL hr (by decide) (pv 9)) (pe_tup (pa_cons (pv 9) (pa_cons pe_int (pa_cons (pe_op op_add (pv 8) (pv 7)) pa_nil)))) ⟨rfl, rfl, rfl, rfl⟩))
            (pss_one (ps_asg (pe_tup (pa_cons (pv 9) (pa_cons (pe_op op_add (pe_ix ix_tup (pv 10) pe_int (fun _ _ => rfl)) (pv 6)) (pa_cons (pe_callB (call_min2 rfl) (by rfl) T.f_min (by decide +kernel) (pa_cons (pe_ix ix_tup (pv 10) pe_int (fun _ _ => rfl)) (pa_cons (pe_op op_add (pv 8) (pv 7)) pa_nil))) pa_nil))))
              (pg_sub (pv 4) (pe_pr hL hr (by decide) (pv 9)) (set_NK (K := K) (P := P) (w := w) ⟨rfl, rfl, rfl⟩ h9)))))))))
        (pss_one (ps_fld (pv 0) (pv 4) rfl)))))), ?_⟩
    have off : OffX H x := .ins0 hx
    obtain ⟨dy, r0, t0, y1, _, _⟩ := id Sy
    intro p hp
    have e1 : Ex H (upd H p (ND P w p [])) := Ex.new hp
    have hp1 : (upd H p (ND P w p [])) p = some (ND P w p []) := upd_same
    generalize upd H p (ND P w p []) = H1 at e1 hp1 ⊢
    refine ⟨_, rfl, y, dy, _, rfl, e1 _ _ y1, y, st, s, rfl, Sy.fz (Fz.ex e1), fun ka H2 e2 hka => ?_⟩
    refine ⟨_, rfl, (by show 3 ≤ sizeLine; decide), fun b hb => ⟨lnKey s, ka, b, rfl, rfl, (hka.fz (Fz.new hb)).nk, lnKey_depth s, Ex.new hb _ _ (e2 _ _ hp1), ?_⟩⟩
    have e3 : Ex H (upd H2 b (.tup [.ref y, .int 1, .int 0])) := (e1.trans e2).trans (Ex.new hb)
    have hb3 : (upd H2 b (.tup [.ref y, .int 1, .int 0])) b = some (.tup [.ref y, .int 1, .int 0]) := upd_same
    have hka3 : LnAt K (upd H2 b (.tup [.ref y, .int 1, .int 0])) ka s := hka.fz (Fz.new hb)
    have hp3 : (upd H2 b (.tup [.ref y, .int 1, .int 0])) p = some (ND P w p []) := Ex.new hb _ _ (e2 _ _ hp1)
    generalize upd H2 b (.tup [.ref y, .int 1, .int 0]) = H3 at e3 hb3 hka3 hp3 ⊢
    have e4 : Ex H (upd H3 p (ND P w p [(lnKey s, ka, b)])) := e3.mut hp
    have sp4 : SpotsAt K a (upd H3 p (ND P w p [(lnKey s, ka, b)])) st [(lnKey s, ka, b)] [s] := .cons ⟨rfl, hka3.fz (Fz.put hp3 rfl), y, 1, 0, .inl (.inl (by rw [upd_ne (show b ≠ p from fun z => by rw [z, hp3] at hb3; cases hb3)]; exact hb3)), Sy.fz (Fz.ex e4)⟩ .nil
    have hp4 : (upd H3 p (ND P w p [(lnKey s, ka, b)])) p = some (ND P w p [(lnKey s, ka, b)]) := upd_same
    have npx : p ≠ x := fun z => by rw [z, hx] at hp; cases hp
    generalize upd H3 p (ND P w p [(lnKey s, ka, b)]) = H4 at e4 sp4 hp4 ⊢
    refine ⟨_, rfl, x, a.co, dx, _, rfl, e4 _ _ hx, T.cl_co, T.no_co_spots, (by show 0 < 1000; decide), ?_⟩
    have off4 : OffX H4 x := .ins0 (e4 _ _ hx)
    have hlen : dvs.length = ds.length := hds.len
    refine ⟨_, rfl, dl, rfl, ⟨dvs, SqL.neIns hx ((ExtO.of e4).trans ExtO.put) hdl⟩, for_it walk_list (fun i σ H' => ∃ D xs ss v3 v4 v5 v6 v7 v8 v9 v10, σ = [some (.ref x), some (.ref y), some (.ref dl), v3, v4, v5, v6, v7, v8, v9, v10] ∧ ExtO x H H' ∧ Tabs (TtOf Pt) H' ∧ H' x = some (.ins a.co dx [("spots", .ref D)]) ∧ H' D = some (ND P w D xs) ∧ SpotsAt K a H' st xs ss ∧ ss.Nodup ∧ ∀ s', s' ∈ ss ↔ Rch eds (ds.take i) s s')
      ⟨p, _, [s], none, none, none, none, none, none, none, none, rfl, (ExtO.of e4).trans ExtO.put, tabs_ins (e4 _ _ hx) (tabs_ex e4 tabs), upd_same, by rw [upd_ne npx]; exact hp4, sp4.off ExtO.put.fzO off4, by simp, fun s' => by rw [List.mem_singleton] <;> rfl⟩
      (fun i σ H' _ ⟨_, _, _, _, _, _, _, _, _, _, _, _, e, _⟩ => SqL.neIns hx e hdl) ?_ ?_⟩
    · rintro i v σ H0 H' hi ⟨D1, xs, ss, v3, v4, v5, v6, v7, v8, v9, v10, rfl, eO, tabs1, hx1, hD1, sp1, nd1, mem1⟩ ⟨rfl, hv⟩
      obtain ⟨d, hdi, pd, rfl, hpd⟩ := hds.get hv
      have nDx : D1 ≠ x := fun z => by rw [z, hx1] at hD1; cases hD1
      -- later = {}
      intro L hL
      have nLx : L ≠ x := fun z => by rw [z, hx1] at hL; cases hL
      have nLD : L ≠ D1 := fun z => by rw [z, hD1] at hL; cases hL
      refine ⟨D1, ND P w D1 xs, Ex.new hL _ _ hD1, trivial, fun od => ?_⟩
      have fz6 : Fz H' (upd (upd H' L (ND P w L [])) D1 (.frz od (ND P w D1 xs))) := (Fz.new hL).trans (Fz.put (Ex.new hL _ _ hD1) rfl)
      have hx6 : (upd (upd H' L (ND P w L [])) D1 (.frz od (ND P w D1 xs))) x = some (.ins a.co dx [("spots", .ref D1)]) := by rw [upd_ne nDx.symm, upd_ne nLx.symm]; exact hx1
      have hD6 : (upd (upd H' L (ND P w L [])) D1 (.frz od (ND P w D1 xs))) D1 = some (.frz od (ND P w D1 xs)) := upd_same
      have hL6 : (upd (upd H' L (ND P w L [])) D1 (.frz od (ND P w D1 xs))) L = some (ND P w L []) := by rw [upd_ne nLD, upd_same]
      have tabs6 : Tabs (TtOf Pt) (upd (upd H' L (ND P w L [])) D1 (.frz od (ND P w D1 xs))) := tabs_nd (Ex.new hL _ _ hD1) (tabs_ex (Ex.new hL) tabs1)
      have k6 : ∀ b o, b ≠ D1 → H' b = some o → (upd (upd H' L (ND P w L [])) D1 (.frz od (ND P w D1 xs))) b = some o := fun b o n h => by rw [upd_ne n]; exact Ex.new hL _ _ h
      generalize upd (upd H' L (ND P w L [])) D1 (.frz od (ND P w D1 xs)) = H6 at fz6 hx6 hD6 hL6 tabs6 k6 ⊢
      have sp6 := sp1.fz fz6
      have S6 := (S.off eO.fzO off).fz fz6
      have hpd6 := fz_t fz6 (eO.fzO.t off hpd)
      have hss : ∀ m ∈ ss, StOk eds m := fun m hm => rch_ok hs ((mem1 m).mp hm)
      have hxl := sp1.len
      refine ⟨_, rfl, x, a.co, dx, _, _, rfl, hx6, T.cl_co, T.no_co_spots, rfl, D1, od, xs, rfl, hD6, for_it walk_valsN (fun j σ H'' => ∃ v5 v6 v7 v8 v9 v10 ys ts, σ = [some (.ref x), some (.ref y), some (.ref dl), some (.ref pd), some (.ref L), v5, v6, v7, v8, v9, v10] ∧ ExtO L H6 H'' ∧ Tabs (TtOf Pt) H'' ∧ H'' L = some (ND P w L ys) ∧ SpotsAt K a H'' st ys ts ∧ ts.Nodup ∧ ∀ s', s' ∈ ts ↔ ∃ m ∈ ss.take j, Nxt eds m d s')
        ⟨_, _, _, _, _, _, [], [], rfl, ExtO.refl, tabs6, hL6, .nil, .nil, fun s' => by simp⟩
        (fun j σ H'' _ ⟨_, _, _, _, _, _, _, _, _, e, _⟩ => e _ _ nLD.symm hD6 (fun _ z => nomatch z)) ?_ ?_⟩
      · rintro j v σ H0 H'' hj ⟨v5, v6, v7, v8, v9, v10, ys, ts, rfl, eL, tabs2, hL2, sp2, nd2, mem2⟩ ⟨rfl, y0, hy0, rfl⟩
        obtain ⟨m, hm, _, _, z, c, f, hz1, hz2⟩ := (sp6.fz (eL.fz hL6)).get hy0
        have fz2 := eL.fz hL6
        refine ⟨y0.2.2, _, rfl, hz1, rfl, _, _, rfl, _, _, rfl, _, _, rfl, rfl, ?_⟩
        refine ⟨_, rfl, _, rfl, z, st, m, eds, pd, d, rfl, hz2, S6.fz fz2, ok, hss m (List.mem_of_getElem? hm), fz_t fz2 hpd6, tabs2, fun l us H7 e7 tabs7 hl hul uss hus memu => ?_⟩
        have hulen := hus.len
        have hL7 := e7 _ _ hL2 (fun _ z => nomatch z)
        have fz7 := extN_fz e7
        refine ⟨l, rfl, ⟨us, SqL.of hl⟩, for_it walk_list (fun k σ H8 => ∃ v8 v9 v10 ys ts, σ = [some (.ref x), some (.ref y), some (.ref dl), some (.ref pd), some (.ref L), some (.ref z), some (.int c), some (.int f), v8, v9, v10] ∧ ExtO L H7 H8 ∧ Tabs (TtOf Pt) H8 ∧ H8 L = some (ND P w L ys) ∧ SpotsAt K a H8 st ys ts ∧ ts.Nodup ∧ ∀ s', s' ∈ ts ↔ (∃ m ∈ ss.take j, Nxt eds m d s') ∨ s' ∈ uss.take k)
          ⟨_, _, _, ys, ts, rfl, ExtO.refl, tabs7, hL7, sp2.fz fz7, nd2, fun s' => by rw [mem2]; simp⟩
          (fun k σ H8 _ ⟨_, _, _, _, _, _, e, _⟩ => SqL.neExt hL7 e (SqL.of hl)) ?_ ?_⟩
        · rintro k v σ H0 H8 hk ⟨v8, v9, v10, ys, ts, rfl, e8, tabs8, hL8, sp8, nd8, mem8⟩ ⟨rfl, hv⟩
          obtain ⟨s', hs', q, n, z', rfl, hq, hz'⟩ := hus.get hv
          have fz8 := e8.fz hL7
          have hs'ok : StOk eds s' := nxt_ok (hss m (List.mem_of_getElem? hm)) ((memu s').mp (List.mem_of_getElem? hs'))
          have hz8 := hz'.fz fz8
          obtain ⟨dz, rz, tz, z1, _, _⟩ := id hz8
          have htl : ts.length ≤ 37 := few_sts ok nd8 fun t ht => by
            rcases (mem8 t).mp ht with ⟨m', h1, h2⟩ | h
            · exact nxt_ok (hss m' (List.mem_of_mem_take h1)) h2
            · exact nxt_ok (hss m (List.mem_of_getElem? hm)) ((memu t).mp (List.mem_of_mem_take h))
          have hyl := sp8.len
          refine ⟨q, _, rfl, fz_t fz8 hq, rfl, _, _, rfl, _, _, rfl, rfl, ?_⟩
          refine ⟨_, rfl, L, ys, rfl, hL8, _, rfl, z', dz, _, rfl, z1, z', st, s', rfl, hz8, fun ka H9 e9 hka => ?_⟩
          refine ⟨_, rfl, _, rfl, _, rfl, _, _, rfl, rfl, (by show 3 ≤ sizeLine; decide), fun q1 hq1 => ?_⟩
          have e10 : Ex H8 (upd H9 q1 (.tup [.ref z', .int 0, .int (n + f)])) := e9.trans (Ex.new hq1)
          have hq10 : SqT K (upd H9 q1 (.tup [.ref z', .int 0, .int (n + f)])) q1 [.ref z', .int 0, .int (n + f)] := .inl (.inl upd_same)
          have hka10 := hka.fz (Fz.new (o := .tup [.ref z', .int 0, .int (n + f)]) hq1)
          generalize upd H9 q1 (.tup [.ref z', .int 0, .int (n + f)]) = H10 at e10 hq10 hka10 ⊢
          have sp10 := sp8.fz (Fz.ex e10)
          refine ⟨lnKey s', ka, rfl, e10 _ _ hL8, sp10.keys, hka10.nk, lnKey_depth s', ?_⟩
          have hold : ∃ (b : Addr) (z3 : Addr) (c3 f3 : Int), ((lookN ys (lnKey s')).map V.ref).getD (.ref q1) = .ref b ∧ SqT K H10 b [.ref z3, .int c3, .int f3] := by
            by_cases c : s' ∈ ts
            · obtain ⟨b, h1, z3, c3, f3, h2, _⟩ := (sp10.look s').1 c
              exact ⟨b, z3, c3, f3, by rw [h1] <;> rfl, h2⟩
            · rw [(sp10.look s').2 c]
              exact ⟨q1, _, _, _, rfl, hq10⟩
          obtain ⟨b, z3, c3, f3, hb, hb3⟩ := hold
          rw [hb]
          refine ⟨_, rfl, _, rfl, b, _, 1, _, rfl, rfl, hb3, rfl, _, rfl, _, _, rfl, rfl, _, rfl, b, _, 2, _, rfl, rfl, hb3, rfl, _, rfl, _, rfl, _, _, rfl, rfl, _, _, rfl, (by show 3 ≤ sizeLine; decide), fun b2 hb2 => ?_⟩
          have e11 : Ex H10 (upd H10 b2 (.tup [.ref z', .int (c3 + c), .int (if n + f < f3 then n + f else f3)])) := Ex.new hb2
          have hb11 : SqT K (upd H10 b2 (.tup [.ref z', .int (c3 + c), .int (if n + f < f3 then n + f else f3)])) b2 [.ref z', .int (c3 + c), .int (if n + f < f3 then n + f else f3)] := .inl (.inl upd_same)
          generalize upd H10 b2 (.tup [.ref z', .int (c3 + c), .int (if n + f < f3 then n + f else f3)]) = H11 at e11 hb11 ⊢
          have e8' := e10.trans e11
          refine ⟨_, rfl, _, rfl, z', dz, _, rfl, e8' _ _ z1, z', st, s', rfl, hz8.fz (Fz.ex e8'), fun ka2 H12 e12 hka2 => ?_⟩
          have e13 := e8'.trans e12
          have sp12 := sp8.fz (Fz.ex e13)
          have hL12 := e13 _ _ hL8
          refine ⟨L, lnKey s', ka2, b2, ys, rfl, rfl, rfl, hL12, sp12.keys, hka2.nk, lnKey_depth s', (by rw [hyl, sizeLine_eq]; omega), ?_⟩
          have fzL : Fz H12 (upd H12 L (ND P w L (storedN ys (lnKey s') ka2 b2))) := Fz.put hL12 rfl
          refine ⟨_, _, _, storedN ys (lnKey s') ka2 b2, insN s' ts, rfl, (e8.trans (ExtO.of e13)).trans ExtO.put, tabs_nd hL12 (tabs_ex e13 tabs8), upd_same, (sp12.put hka2 ⟨z', _, _, fz_t (Fz.ex e12) hb11, hz8.fz (Fz.ex e13)⟩).fz fzL, nodup_insN nd8, fun t => ?_⟩
          rw [mem_insN, mem8, List.take_succ, hs', List.mem_append]
          show _ ↔ _ ∨ _ ∨ t ∈ [s']
          rw [List.mem_singleton, or_assoc]
        · rintro σ H8 ⟨v8, v9, v10, ys, ts, rfl, e8, tabs8, hL8, sp8, nd8, mem8⟩
          refine ⟨_, _, _, _, _, _, ys, ts, rfl, (eL.trans (ExtO.ofN e7)).trans e8, tabs8, hL8, sp8, nd8, fun s' => ?_⟩
          rw [mem8, hulen, List.take_length, List.take_succ, hm]
          constructor
          · rintro (⟨m', h1, h2⟩ | h)
            · exact ⟨m', List.mem_append_left _ h1, h2⟩
            · exact ⟨m, List.mem_append_right _ List.mem_cons_self, (memu s').mp h⟩
          · rintro ⟨m', h1, h2⟩
            rcases List.mem_append.mp h1 with h1 | h1
            · exact .inl ⟨m', h1, h2⟩
            · rw [List.mem_singleton.mp h1] at h2
              exact .inr ((memu s').mpr h2)
      · rintro σ H'' ⟨v5, v6, v7, v8, v9, v10, ys, ts, rfl, eL, tabs2, hL2, sp2, nd2, mem2⟩
        have hD2 := eL _ _ nLD.symm hD6 (fun _ z => nomatch z)
        refine ⟨hD2, ?_⟩
        have hx2 := eL _ _ nLx.symm hx6 (fun _ z => nomatch z)
        have hxD : (upd H'' D1 (ND P w D1 xs)) x = some (.ins a.co dx [("spots", .ref D1)]) := by rw [upd_ne nDx.symm]; exact hx2
        refine ⟨_, rfl, _, rfl, x, a.co, dx, _, rfl, hxD, T.cl_co, T.no_co_spots, (by show 1 < 1000; decide), ?_⟩
        have offD : OffX (upd H'' D1 (ND P w D1 xs)) x := .ins1 hxD
        have offF : OffX H'' D1 := .frzE hD2
        have fzD : FzO D1 H'' (upd H'' D1 (ND P w D1 xs)) := fun b o n h l => by rw [upd_ne n]; exact h
        refine ⟨L, ys, ts, _, _, _, _, _, _, _, _, rfl, fun b o n h l => ?_, tabs_ins hxD (tabs_frz hD2 tabs2), upd_same, ?_, (sp2.off fzD offF).off ExtO.put.fzO offD, nd2, fun s' => ?_⟩
        · rw [upd_ne n]
          have h1 := eO b o n h l
          by_cases c : b = D1
          · subst c
            rw [upd_same]
            rw [hD1] at h1
            exact h1
          · rw [upd_ne c]
            exact eL _ _ (fun z => by rw [z, hL] at h1; cases h1) (k6 _ _ c h1) l
        · rw [upd_ne nLx, upd_ne nLD]
          exact hL2
        · rw [mem2, hxl, List.take_length, List.take_succ, hdi]
          refine (Iff.trans ?_ rch_snoc.symm)
          exact ⟨fun ⟨m, h1, h2⟩ => ⟨m, (mem1 m).mp h1, h2⟩, fun ⟨m, h1, h2⟩ => ⟨m, (mem1 m).mpr h1, h2⟩⟩
    · rintro σ H' ⟨D1, xs, ss, v3, v4, v5, v6, v7, v8, v9, v10, rfl, eO, tabs1, hx1, hD1, sp1, nd1, mem1⟩
      rw [hlen, List.take_length] at mem1
      exact k H' D1 xs ss eO tabs1 hx1 hD1 sp1 nd1 mem1
end
end Hs
end
section
set_option Elab.async false
set_option linter.all false
set_option maxRecDepth 100000
set_option maxHeartbeats 4000000
namespace Hs
open PySem PySem.Spec PyProof.Rows L2
open C8 (Cal Met Mak InsC pe_c pe_mk pe_mt pe_mt0 pe_gc call_isC)
open LamX (TabB Tabs ExtN TabS)
open PySem.W (AllAlike Sortable dataLe)
open Evl (Ex)
theorem alike_ln (ss : List St) : AllAlike ((ss.map lnKey).map NestedKey.data) := by
  intro d hd d' hd'
  obtain ⟨k, hk, rfl⟩ := List.mem_map.mp hd
  obtain ⟨k', hk', rfl⟩ := List.mem_map.mp hd'
  obtain ⟨x, _, rfl⟩ := List.mem_map.mp hk
  obtain ⟨x', _, rfl⟩ := List.mem_map.mp hk'
  rfl
theorem sortable_ln (ss : List St) : Sortable ((ss.map lnKey).map NestedKey.data) := .inl fun d hd => by
  obtain ⟨k, hk, rfl⟩ := List.mem_map.mp hd
  obtain ⟨x, _, rfl⟩ := List.mem_map.mp hk
  exact ⟨_, _, rfl⟩
theorem depth_ln (ss : List St) : ∀ k ∈ ss.map lnKey, k.data.depth ≤ 8 := fun k hk => by
  obtain ⟨x, _, rfl⟩ := List.mem_map.mp hk
  show 2 ≤ 8
  decide
/-- a system at v -/
def SyV (K : PySem.W.Frag) (a : Ads) (H : Hp) (st : Addr) (v : V) (s : St) : Prop := ∃ z, v = .ref z ∧ SysOp K a H st z s
section
variable {K : PySem.W.Frag} {a : Ads} {H H' : Hp} {x st : Addr}
theorem SyV.fz {v : V} {s : St} (e : Fz H H') (h : SyV K a H st v s) : SyV K a H' st v s := by
  obtain ⟨z, h1, h2⟩ := h
  exact ⟨z, h1, h2.fz e⟩
theorem sqL_extN {p : Addr} {xs : List V} (e : ExtN H H') (h : SqL K H p xs) : SqL K H' p xs := by
  rcases h with (h | ⟨u, h⟩) | h
  · exact .inl (.inl (e _ _ h (fun _ z => nomatch z)))
  · exact .inl (.inr ⟨u, e _ _ h (fun _ z => nomatch z)⟩)
  · exact .inr h
theorem DdAt.fz {v : V} {d : Dd} (e : Fz H H') (h : DdAt K H v d) : DdAt K H' v d := by
  obtain ⟨p, h1, h2⟩ := h
  exact ⟨p, h1, fz_t e h2⟩
theorem DdsAt.extN {dl : Addr} {ds : List Dd} (e : ExtN H H') (h : DdsAt K H dl ds) : DdsAt K H' dl ds := by
  obtain ⟨vs, h1, h2⟩ := h
  exact ⟨vs, sqL_extN e h1, h2.imp fun _ _ q => q.fz (extN_fz e)⟩
theorem extN_made {x dx C : Addr} (hx : H x = none) (hdx : H dx = none) (hne : dx ≠ x) (e : ExtO x (upd (upd H dx (.own x)) x (.ins C dx [])) H') : ExtN H H' := fun b o h l => e b o (fun z => by rw [z, hx] at h; cases h) (ex_make hx hdx hne b o h) l
end
section
variable {P : Program} {w : World} {K : PySem.W.Frag} {mg : Str → Option Value} {base : Heap} {a : Ads}
/-! ### ends -/
def spEnds (K : PySem.W.Frag) (a : Ads) (Pt : Addr) : Sp := fun vs H Q _ => ∃ y dl st s eds ds, vs = [.ref y, .ref dl] ∧ SysOp K a H st y s ∧ StoreAt K a H st eds ∧ EdsOk eds ∧ StOk eds s ∧ DdsAt K H dl ds ∧ Tabs (TtOf Pt) H ∧
  ∀ l xs ss H', ExtN H H' → Tabs (TtOf Pt) H' → H' l = some (.lst xs) → xs.length ≤ 37 → All2 (SyV K a H' st) xs ss → (∀ s', s' ∈ ss ↔ Rch eds ds s s') → Q (.ref l) H'
theorem scEnds : FnScope ["system", "deeds", "spots", "line"] ["system", "deeds"] (defScope s_ends) := ⟨rfl, rfl, rfl, by decide +kernel, rfl, by decide +kernel, by decide +kernel⟩
theorem c_ends {c Pt : Addr} (T : TX K mg a) (D : DefC K mg "every_run" s_every_run c) (B : TabB base mg c Pt) : Cal P w K mg base 12 "ends" (spEnds K a Pt) [] := by
  refine calF T.d_ends (fun _ _ _ _ _ _ us hl => match us, hl with | [_, _], _ => rfl) scEnds (fun vs H Q E h => ?_) fun fa cdv A outer s0 H vs Q E hr h => ?_
  · obtain ⟨y, dl, st, s, eds, ds, rfl, _⟩ := h
    rfl
  · obtain ⟨y, dl, st, s, eds, ds, rfl, Sy, S, ok, hs, hds, tabs, k⟩ := h
    have hu := hu_of hr
    have hC := k_co (P := P) (w := w) (base := base) T D B
    have h9 : (A.deeper (envOfC "ends" (defScope s_ends) s0.heap.objs.size fa cdv)).units + 9 < cLine := Nat.lt_of_le_of_lt (Nat.add_le_add_left (by decide) _) hr.units
    refine ⟨_, pss_cons (ps_set (i := 2) scEnds.nd rfl (Or.inr rfl) (pe_fld (pe_mk hC hr (by decide) rfl (pa_cons (pv 0) (pa_cons (pv 1) pa_nil))) rfl))
      (pss_one (ps_ret (pe_lc (own := [("line", 3)]) (g := gName 3) (tt := tYes) rfl scEnds.nd (pi_list (pe_callB (cr_sortedC rfl hr.units) (by rfl) T.f_sorted (by decide +kernel) (pa_cons (pv 2) pa_nil))) (blkOk_by (N := ["system", "deeds", "spots", "line"]) (sc := defScope s_ends) (by decide +kernel))
        (fun _ _ _ _ _ => pg_name (i := 3) scEnds.nd rfl (Or.inl rfl)) (fun _ _ _ _ _ => pts_nil) (fun _ _ _ _ _ => pe_ix (r := rIxT K) ix_tup (pe_dgetNK (K := K) (P := P) (w := w) ⟨rfl, rfl, rfl⟩ h9 (pv 2) (pv 3)) pe_int (fun _ _ => rfl))))), ?_⟩
    refine ⟨_, rfl, _, rfl, ?_⟩
    intro x dx hx hdx hne
    have e1 := ex_make (C := a.co) hx hdx hne
    refine ⟨x, dx, y, dl, st, s, eds, ds, rfl, upd_same, Sy.fz (Fz.ex e1), S.fz (Fz.ex e1), ok, hs, hds.extN (ExtN.of e1), tabs_ex e1 tabs, fun H1 D1 xs ss eO tabs1 hx1 hD1 sp1 nd1 mem1 => ⟨rfl, ?_⟩⟩
    have eN : ExtN H H1 := extN_made hx hdx hne eO
    have hln := few_sts ok nd1 fun t ht => rch_ok hs ((mem1 t).mp ht)
    have hxl := sp1.len
    refine ⟨x, a.co, dx, _, _, rfl, hx1, T.cl_co, T.no_co_spots, rfl, ?_⟩
    have hka : All2 (fun v s => ∃ ka, v = V.ref ka ∧ LnAt K H1 ka s) (xs.map fun y => V.ref y.2.1) ss := All2.mapL (fun v s h => ⟨_, rfl, h.2.1⟩) sp1
    have hnk : NkAll K H1 (xs.map fun y => V.ref y.2.1) (ss.map lnKey) := by
      have : ∀ {vs : List V} {ss : List St}, All2 (fun v s => ∃ ka, v = V.ref ka ∧ LnAt K H1 ka s) vs ss → NkAll K H1 vs (ss.map lnKey) := by
        intro vs ss h
        induction h with
        | nil => exact .nil
        | cons h _ ih =>
          obtain ⟨ka, rfl, h⟩ := h
          exact .cons h.nk ih
      exact this hka
    refine ⟨_, rfl, D1, _, ss.map lnKey, rfl, col_nd hD1, hnk, (by rw [List.length_map, sizeLine_eq]; omega), alike_ln ss, sortable_ln ss, depth_ln ss, fun ys ls p pys pls _ _ hp => ?_⟩
    obtain ⟨gs, pg, rg⟩ := hka.perm pys.symm
    have hyl := rg.len
    have e2 : Ex H1 (upd H1 p (.lst ys)) := Ex.new hp
    have hp2 : (upd H1 p (.lst ys)) p = some (.lst ys) := upd_same
    generalize upd H1 p (.lst ys) = H2 at e2 hp2 ⊢
    have hgl : gs.length ≤ 37 := by rw [← pg.length_eq]; exact hln
    refine ⟨p, rfl, ⟨_, SqL.of hp2⟩, fun DD hDD => lc_list (xs := ys) (fun i H' => Ex H2 H' ∧ ∃ zs, H' DD = some (.lst zs) ∧ All2 (SyV K a H' st) zs (gs.take i))
        ⟨Ex.new hDD, [], upd_same, .nil⟩ (fun i H' _ q => SqL.of (q.1 _ _ hp2)) ?_ ?_⟩
    · rintro i v H' hv ⟨e3, zs, hd, hz⟩
      obtain ⟨s', hs', ka, rfl, hln'⟩ := rg.get hv
      have e23 := e2.trans e3
      have sp3 := sp1.fz (Fz.ex e23)
      obtain ⟨b, hb, z, c2, f2, hz1, hz2⟩ := (sp3.look s').1 (pg.mem_iff.mpr (List.mem_of_getElem? hs'))
      have hzl := hz.len
      rw [List.length_take] at hzl
      refine ⟨rfl, yes_ok ?_⟩
      refine ⟨_, rfl, _, rfl, D1, lnKey s', ka, b, xs, rfl, rfl, e23 _ _ hD1, sp3.keys, (hln'.fz (Fz.ex e23)).nk, lnKey_depth s', hb, b, _, 0, _, rfl, rfl, hz1, rfl, zs, hd, (by rw [sizeLine_eq]; omega), e3.mut hDD, ?_⟩
      have fz : Fz H' (upd H' DD (.lst (zs ++ [.ref z]))) := Fz.put hd rfl
      refine ⟨_, upd_same, ?_⟩
      rw [List.take_succ, hs']
      exact (hz.imp fun v f h => h.fz fz).app (.cons ⟨z, rfl, hz2.fz fz⟩ .nil)
    · rintro H' ⟨e3, zs, hd, hz⟩
      rw [hyl, List.take_length] at hz
      have hzl := hz.len
      have e23 := e2.trans e3
      exact k DD zs gs H' (eN.trans (ExtN.of e23)) (tabs_ex e23 tabs1) hd (by omega) hz fun s' => by rw [← pg.mem_iff, mem1]
/-! ### need_store -/
def spNeedStore (K : PySem.W.Frag) (a : Ads) : Sp := fun vs H Q _ => ∃ y y' st s s' eds, vs = [.ref y, .ref y'] ∧ SysOp K a H st y s ∧ SysOp K a H st y' s' ∧ StoreAt K a H st eds ∧ Q .non H
theorem scNeedStore : FnScope ["system", "goal"] ["system", "goal"] (defScope s_need_store) := ⟨rfl, rfl, rfl, by decide +kernel, rfl, by decide +kernel, by decide +kernel⟩
theorem c_need_store (T : TX K mg a) : Cal P w K mg base 2 "need_store" (spNeedStore K a) [] := by
  refine calF T.d_need_store (fun _ _ _ _ _ _ us hl => match us, hl with | [_, _], _ => rfl) scNeedStore (fun vs H Q E h => ?_) fun fa cdv A outer s0 H vs Q E hr h => ?_
  · obtain ⟨y, y', st, s, s', eds, rfl, _⟩ := h
    rfl
  · obtain ⟨y, y', st, s, s', eds, rfl, ⟨dx, r, t, h1, h2, h3⟩, ⟨dx', r', t', h1', h2', h3'⟩, S, k⟩ := h
    obtain ⟨dz, d, es, g1, g2, g3⟩ := id S
    have hE := m_st_eq (P := P) (w := w) (base := base) T
    refine ⟨_, pss_one (ps_if (pt_not (pt_cmpR (op_eqM hE hr (by decide)) (pe_fld (pv 0) rfl) (pe_fld (pv 1) rfl) (nomark _))) pss_never pss_nil), ?_⟩
    refine ⟨_, rfl, y, a.sy, dx, _, _, rfl, h1, T.cl_sy, T.no_sy_base, rfl, _, rfl, y', a.sy, dx', _, _, rfl, h1', T.cl_sy, T.no_sy_base, rfl, st, dz, _, st, dz, _, rfl, rfl, g1, g1, st, eds, rfl, S, _, rfl, ?_⟩
    rw [if_neg (by decide)]
    exact ⟨_, rfl, iteF k⟩
/-! ### is_number -/
def spIsNumber : Sp := fun vs H Q _ => ∃ i lo hi : Int, vs = [.int i, .int lo, .int hi] ∧ Q (.bl (decide (lo ≤ i) && decide (i ≤ hi))) H
theorem scIsNumber : FnScope ["thing", "low", "high"] ["thing", "low", "high"] (defScope s_is_number) := ⟨rfl, rfl, rfl, by decide +kernel, rfl, by decide +kernel, by decide +kernel⟩
end
end Hs
end
section
set_option Elab.async false
set_option linter.all false
set_option maxRecDepth 100000
set_option maxHeartbeats 4000000
namespace Hs
open PySem PySem.Spec PyProof.Rows L2
open C8 (Cal Met Mak InsC pe_c pe_mk pe_mt pe_mt0 pe_gc call_isC)
open LamX (TabB Tabs ExtN TabS)
open Evl (Ex)
theorem kit_ib (K : PySem.W.Frag) : PySem.W.kitOne K (.type "int") (.type "bool") = some false := by
  have h1 : ((Value.type "int" == Value.type "bool") = true) = False := by
    have : (Value.type "int" == Value.type "bool") = false := by rfl
    rw [this]
    exact eq_false (by decide)
  have h2 : PySem.W.kitMeta "bool" = true := by decide +kernel
  have h3 : (fastBuiltinMro "int").map (fun l => l.contains (Value.type "bool")) = some false := by decide +kernel
  unfold PySem.W.kitOne PySem.W.kitCls PySem.W.subIn
  rw [if_neg (by rw [h1]; exact id)]
  show (if PySem.W.kitMeta "bool" = true then _ else _) = _
  rw [if_pos h2]
  exact h3
section
variable {P : Program} {w : World} {K : PySem.W.Frag} {mg : Str → Option Value} {base : Heap} {a : Ads}
theorem c_is_number (T : TX K mg a) : Cal P w K mg base 1 "is_number" spIsNumber [] := by
  refine calF T.d_is_number (fun _ _ _ _ _ _ us hl => match us, hl with | [_, _, _], _ => rfl) scIsNumber (fun vs H Q E h => ?_) fun fa cdv A outer s0 H vs Q E hr h => ?_
  · obtain ⟨i, lo, hi, rfl, _⟩ := h
    rfl
  · obtain ⟨i, lo, hi, rfl, k⟩ := h
    refine ⟨_, pss_one (ps_ret (pe_and (pe_callB call_isi (by rfl) T.f_isinstance PyProof.Rows.boot_isinstance (pa_cons (pv 0) (pa_cons (pe_bltn (v := .ty "int") (u := .type "int") (by rfl) T.f_int (by decide +kernel) rfl) pa_nil)))
      (pe_and (pe_not (pe_callB call_isi (by rfl) T.f_isinstance PyProof.Rows.boot_isinstance (pa_cons (pv 0) (pa_cons (pe_bltn (v := .ty "bool") (u := .type "bool") (by rfl) T.f_bool (by decide +kernel) rfl) pa_nil)))) (pe_one (pe_chain op_le op_le (pv 1) (pv 0) (pv 2)))))), ?_⟩
    refine ⟨_, rfl, .int i, .ty "int", .type "int", .type "int", true, rfl, .ty _, .base (.int i), rfl, _, rfl, iteT ?_⟩
    refine ⟨_, rfl, .int i, .ty "bool", .type "int", .type "bool", false, rfl, .ty _, .base (.int i), kit_ib K, _, rfl, _, rfl, iteT ?_⟩
    refine ⟨_, rfl, _, rfl, _, _, rfl, rfl, _, rfl, ?_⟩
    by_cases c : lo ≤ i
    · rw [decide_eq_true c] at k ⊢
      refine iteT ⟨_, rfl, _, _, rfl, rfl, k⟩
    · rw [decide_eq_false c] at k ⊢
      exact iteF k
end
end Hs
end
section
set_option Elab.async false
set_option linter.all false
set_option maxRecDepth 100000
set_option maxHeartbeats 4000000
namespace Hs
open PySem PySem.Spec PyProof.Rows L2
open C8 (Cal Met Mak InsC pe_c pe_mk pe_mt pe_mt0 pe_gc call_isC)
open LamX (TabB Tabs ExtN TabS)
open Evl (Ex)
/-- a call made, and the system it was made on -/
def CaV (K : PySem.W.Frag) (H : Hp) (v : V) (c : Cl) : Prop := ∃ (q p : Addr) (y : V), v = .ref q ∧ SqT K H q [.ref p, y] ∧ SqT K H p (clV c)
theorem CaV.fz {K : PySem.W.Frag} {H H' : Hp} {v : V} {c : Cl} (e : Fz H H') (h : CaV K H v c) : CaV K H' v c := by
  obtain ⟨q, p, y, h1, h2, h3⟩ := h
  exact ⟨q, p, y, h1, fz_t e h2, fz_t e h3⟩
/-- the calls that a deed makes on a state -/
def Made (eds : List Ed) (d : Dd) (s : St) (c : Cl) : Prop := refu eds s d = false ∧ ∃ F x, x ∈ ((prog eds s d).run F 0).2 ∧ x.1 = c
section
variable {K : PySem.W.Frag} {H : Hp}
theorem MdAt.get : ∀ {ms : List V} {m : List (Cl × Bool)} {i : Nat} {v : V}, MdAt K H ms m → ms[i]? = some v → ∃ p q c b, v = .ref p ∧ m[i]? = some (c, b) ∧ SqT K H p [.ref q, .bl b] ∧ SqT K H q (clV c)
  | _, _, i, v, .nil, h => by simp at h
  | _, _, 0, v, .cons h1 h2 t, e => ⟨_, _, _, _, (Option.some.inj e).symm, rfl, h1, h2⟩
  | _, _, i + 1, v, .cons h1 h2 t, e => by
    obtain ⟨p, q, c, b, e1, e2, e3⟩ := MdAt.get t (i := i) (by simpa using e)
    exact ⟨p, q, c, b, e1, by simpa using e2, e3⟩
end
theorem ExtO.fzL {x : Addr} {H H1 : Hp} {xs : List V} (e : ExtO x H H1) (h : H x = some (.lst xs)) : Fz H H1 := fun b o hb l => e b o (fun z => by rw [z, h] at hb; cases hb; cases l) hb fun ps z => by rw [z] at l; cases l
theorem SqL.neLst {H H' : Hp} {K : PySem.W.Frag} {x p : Addr} {xs : List V} (n : p ≠ x) (e : ExtO x H H') (h : SqL K H p xs) : SqL K H' p xs := e.l h n
section
variable {P : Program} {w : World} {K : PySem.W.Frag} {mg : Str → Option Value} {base : Heap} {a : Ads}
/-! ### calls_at -/
def spCallsAt (K : PySem.W.Frag) (a : Ads) (Pt : Addr) : Sp := fun vs H Q _ => ∃ sl p st eds d svs ss, vs = [.ref sl, .ref p] ∧ SqL K H sl svs ∧ All2 (SyV K a H st) svs ss ∧ StoreAt K a H st eds ∧ EdsOk eds ∧ (∀ s ∈ ss, StOk eds s) ∧ ss.length ≤ 37 ∧ SqT K H p (ddV d) ∧ Tabs (TtOf Pt) H ∧
  ∀ l xs cs H', ExtN H H' → Tabs (TtOf Pt) H' → H' l = some (.lst xs) → H l = none → xs.length ≤ ss.length * 2048 → All2 (CaV K H') xs cs → (∀ c, c ∈ cs ↔ ∃ s ∈ ss, Made eds d s c) → Q (.ref l) H'
theorem scCallsAt : FnScope ["systems", "deed", "found", "system", "fails", "later", "calls", "call", "has_failed"] ["systems", "deed"] (defScope s_calls_at) := ⟨rfl, rfl, rfl, by decide +kernel, rfl, by decide +kernel, by decide +kernel⟩
theorem c_calls_at {c Pt : Addr} (T : TX K mg a) (D : DefC K mg "every_run" s_every_run c) (B : TabB base mg c Pt) : Cal P w K mg base 9 "calls_at" (spCallsAt K a Pt) [] := by
  refine calF T.d_calls_at (fun _ _ _ _ _ _ us hl => match us, hl with | [_, _], _ => rfl) scCallsAt (fun vs H Q E h => ?_) fun fa cdv A outer s0 H vs Q E hr h => ?_
  · obtain ⟨sl, p, st, eds, d, svs, ss, rfl, _⟩ := h
    rfl
  · obtain ⟨sl, p, st, eds, d, svs, ss, rfl, hsl, hss, S, ok, hok, hn, hp, tabs, k⟩ := h
    have hu := hu_of hr
    have hR := c_refusal (P := P) (w := w) (base := base) T
    have hE := c_every (P := P) (w := w) (base := base) T D B
    refine ⟨_, pss_cons (ps_set (i := 2) scCallsAt.nd rfl (Or.inl rfl) (pe_lst pa_nil))
      (pss_cons (ps_for PassesOwn.never rfl (pi_list (pv 0)) (pg_name (i := 3) scCallsAt.nd rfl (Or.inr rfl))
        (pss_one (ps_if (pt_cmp (pc_isN (pe_cc hR hr (pa_cons (pv 3) (pa_cons (pv 1) pa_nil)))))
          (pss_one (ps_for PassesOwn.never rfl (pi_list (pe_cc hE hr (pa_cons (pv 3) (pa_cons (pv 1) pa_nil)))) (pg_tup rfl (pgs_cons (pg_name (i := 4) scCallsAt.nd rfl (Or.inl rfl)) (pgs_cons (pg_name (i := 5) scCallsAt.nd rfl (Or.inl rfl)) (pgs_cons (pg_name (i := 6) scCallsAt.nd rfl (Or.inl rfl)) pgs_nil))))
            (pss_one (ps_expr (pe_bm PySem.F.plainAttrs_list PySem.F.slot_list_extend PySem.F.type_list_extend mt_extend (pv 2) (pa_cons
              (pe_lc (own := [("call", 7), ("has_failed", 8)]) (g := gTup K 2 (gCons (gName 7) (gCons (gName 8) gNil))) (tt := tYes) rfl scCallsAt.nd (pi_list (pv 6))
                (blkOk_by (N := ["systems", "deed", "found", "system", "fails", "later", "calls", "call", "has_failed"]) (sc := defScope s_calls_at) (by decide +kernel)) (fun _ _ _ _ _ => pg_tup rfl (pgs_cons (pg_name (i := 7) scCallsAt.nd rfl (Or.inl rfl)) (pgs_cons (pg_name (i := 8) scCallsAt.nd rfl (Or.inl rfl)) pgs_nil))) (fun _ _ _ _ _ => pts_nil)
                (fun _ _ _ _ _ => pe_tup (pa_cons (pv 7) (pa_cons (pv 3) pa_nil)))) pa_nil)))))) pss_nil)))
      (pss_one (ps_ret (pv 2)))), ?_⟩
    refine ⟨(by show 0 ≤ sizeLine; decide), fun F hF => ?_⟩
    have e1 : Ex H (upd H F (.lst [])) := Ex.new hF
    have hF1 : (upd H F (.lst [])) F = some (.lst []) := upd_same
    have hNF : ∀ {q : Addr} {xs : List V}, SqL K H q xs → SqL K (upd H F (.lst [])) q xs := fun h => sqL_extN (ExtN.of e1) h
    have neF : ∀ {H' : Hp} {q : Addr} {xs : List V}, ExtO F (upd H F (.lst [])) H' → SqL K H q xs → SqL K H' q xs := fun {H' q xs} e h => by
      rcases h with (h | ⟨u, h⟩) | h
      · exact .inl (.inl (e _ _ (ne_of_none h hF) (e1 _ _ h) (fun _ z => nomatch z)))
      · exact .inl (.inr ⟨u, e _ _ (ne_of_none h hF) (e1 _ _ h) (fun _ z => nomatch z)⟩)
      · exact .inr h
    have backN : ∀ {H' : Hp}, ExtO F (upd H F (.lst [])) H' → ExtN H H' := fun {H'} e b o h l => e b o (ne_of_none h hF) (e1 _ _ h) l
    generalize upd H F (.lst []) = H1 at e1 hF1 hNF neF backN ⊢
    have hsl1 := hss.len
    refine ⟨_, rfl, sl, rfl, ⟨svs, hNF hsl⟩, for_it walk_list (fun i σ H' => ∃ v3 v4 v5 v6, σ = [some (.ref sl), some (.ref p), some (.ref F), v3, v4, v5, v6, none, none] ∧ ExtO F H1 H' ∧ Tabs (TtOf Pt) H' ∧ ∃ xs cs, H' F = some (.lst xs) ∧ All2 (CaV K H') xs cs ∧ xs.length ≤ i * 2048 ∧ ∀ c, c ∈ cs ↔ ∃ s ∈ ss.take i, Made eds d s c)
      ⟨_, _, _, _, rfl, ExtO.refl, tabs_ex e1 tabs, [], [], hF1, .nil, Nat.zero_le _, fun c => by simp⟩ (fun i σ H' _ ⟨_, _, _, _, _, e, _⟩ => neF e hsl) ?_ ?_⟩
    · rintro i v σ H0 H2 hi ⟨v3, v4, v5, v6, rfl, eF, tabs2, xs, cs, hF2, hxs, hxl, hcs⟩ ⟨rfl, hv⟩
      obtain ⟨s, hs', y, rfl, hy⟩ := hss.get hv
      have fz2 : Fz H H2 := (Fz.ex e1).trans (eF.fzL hF1)
      have hsok := hok s (List.mem_of_getElem? hs')
      have hi37 : i < 37 := by
        have := (List.getElem?_eq_some_iff.mp hs').1
        omega
      refine ⟨_, rfl, _, rfl, y, st, s, eds, p, d, rfl, hy.fz fz2, S.fz fz2, ok, hsok, fz_t fz2 hp, fun r H3 e3 hrv => ?_⟩
      have fz3 := fz2.trans (Fz.ex e3)
      rcases refN hrv with ⟨hrf, q, rfl⟩ | ⟨hrf, rfl⟩
      · refine ⟨_, rfl, iteF ?_⟩
        · refine ⟨_, _, _, _, rfl, eF.trans (ExtO.of e3), tabs_ex e3 tabs2, xs, cs, e3 _ _ hF2, hxs.imp (fun _ _ h => h.fz (Fz.ex e3)), by omega, fun c => ?_⟩
          rw [hcs, List.take_succ, hs']
          refine ⟨fun ⟨s', h1, h2⟩ => ⟨s', List.mem_append_left _ h1, h2⟩, fun ⟨s', h1, h2⟩ => ?_⟩
          rcases List.mem_append.mp h1 with h1 | h1
          · exact ⟨s', h1, h2⟩
          · rw [List.mem_singleton.mp h1] at h2
            rw [h2.1] at hrf
            cases hrf
      · refine ⟨_, rfl, iteT ?_⟩
        refine ⟨_, rfl, _, rfl, y, st, s, eds, p, d, rfl, hy.fz fz3, S.fz fz3, ok, hsok, fz_t fz3 hp, hrf, tabs_ex e3 tabs2, fun l rows H4 e4 tabs4 hl hnew hrl fs hall hhit => ?_⟩
        have hF3 := e3 _ _ hF2
        have hF4 := e4 _ _ hF3 (fun _ z => nomatch z)
        have fz4 := extN_fz e4
        have hfl := hall.len
        refine ⟨l, rfl, ⟨rows, SqL.of hl⟩, for_it walk_list (fun j σ H' => ∃ v4 v5 v6, σ = [some (.ref sl), some (.ref p), some (.ref F), some (.ref y), v4, v5, v6, none, none] ∧ ExtO F H4 H' ∧ Tabs (TtOf Pt) H' ∧ ∃ xs cs, H' F = some (.lst xs) ∧ All2 (CaV K H') xs cs ∧ xs.length ≤ i * 2048 + j * 8 ∧ ∀ c, c ∈ cs ↔ (∃ s ∈ ss.take i, Made eds d s c) ∨ ∃ f ∈ fs.take j, ∃ x ∈ (runL eds s d f).2, x.1 = c)
          ⟨_, _, _, rfl, ExtO.refl, tabs4, xs, cs, hF4, hxs.imp (fun _ _ h => (h.fz (Fz.ex e3)).fz fz4), by omega, fun c => by rw [hcs]; simp⟩
          (fun j σ H' _ ⟨_, _, _, _, e, _⟩ => SqL.neLst (fun z => by
            rw [z] at hnew
            exact hnew _ hF3) e (SqL.of hl)) ?_ ?_⟩
        · rintro j v σ H0 H5 hj ⟨v4, v5, v6, rfl, e5, tabs5, xs, cs, hF5, hxs, hxl, hcs⟩ ⟨rfl, hv⟩
          obtain ⟨f, hf, q, t, z, ml, rfl, hq, ht, hml, _, ms, hms, hmd⟩ := hall.get hv
          have fz5 := e5.fzL hF4
          have nml : ml ≠ F := fun z => by
            rw [z, e3 _ _ hF2] at hml
            cases hml
          have hms5 := e5 _ _ nml hms (fun _ z => nomatch z)
          have hmd5 := hmd.fz fz5
          have hmsl : ms.length ≤ 8 := by rw [hmd.len]; exact nRun_le
          refine ⟨q, _, rfl, fz_t fz5 hq, rfl, _, _, rfl, _, _, rfl, _, _, rfl, rfl, ?_⟩
          refine ⟨_, rfl, .inl ⟨rfl, _, SqL.of hF5⟩, _, rfl, ml, rfl, ⟨ms, SqL.of hms5⟩, fun DD hDD => lc_list (xs := ms) (fun k H' => Ex H5 H' ∧ ∃ zs, H' DD = some (.lst zs) ∧ All2 (CaV K H') zs (((runL eds s d f).2.take k).map (·.1)))
            ⟨Ex.new hDD, [], upd_same, .nil⟩ (fun k H' _ q => SqL.of (q.1 _ _ hms5)) ?_ ?_⟩
          · rintro k v H' hv ⟨e6, zs, hd, hz⟩
            obtain ⟨pp, qq, cc, bb, rfl, hm2, hp2, hc2⟩ := hmd5.get hv
            have hkl : k < ms.length := (List.getElem?_eq_some_iff.mp hv).1
            have hzl := hz.len
            rw [List.length_map, List.length_take] at hzl
            refine ⟨pp, _, rfl, fz_t (Fz.ex e6) hp2, rfl, _, _, rfl, _, _, rfl, rfl, rfl, yes_ok ?_⟩
            refine ⟨_, rfl, _, rfl, (by show 2 ≤ sizeLine; decide), fun b hb => ⟨zs, Ex.new hb _ _ hd, by rw [sizeLine_eq]; omega, (e6.trans (Ex.new hb)).mut hDD, _, upd_same, ?_⟩⟩
            have fz := (Fz.ex (Ex.new (o := .tup [.ref qq, .ref y]) hb)).trans (Fz.put (u := .lst zs) (o := .lst (zs ++ [.ref b])) (Ex.new hb _ _ hd) rfl)
            rw [List.take_succ, hm2, List.map_append]
            refine (hz.imp fun _ _ h => h.fz fz).app (.cons ⟨b, qq, .ref y, rfl, .inl (.inl ?_), fz_t ((Fz.ex e6).trans fz) hc2⟩ .nil)
            rw [upd_ne (ne_of_none hd hb).symm, upd_same]
          · rintro H' ⟨e6, zs, hd, hz⟩
            have hzl := hz.len
            rw [List.length_map, hmd.len, List.take_length] at hzl
            rw [hmd.len, List.take_length] at hz
            have h8 : (runL eds s d f).2.length ≤ 8 := nRun_le
            have hj256 : j < 256 := by omega
            refine ⟨F, DD, xs, zs, rfl, rfl, e6 _ _ hF5, hd, (by rw [sizeLine_eq]; omega), ?_⟩
            have fz : Fz H' (upd H' F (.lst (xs ++ zs))) := Fz.put (e6 _ _ hF5) rfl
            refine ⟨_, _, _, rfl, (e5.trans (ExtO.of e6)).trans ExtO.put, tabs_lst (e6 _ _ hF5) (tabs_ex e6 tabs5), xs ++ zs, cs ++ (runL eds s d f).2.map (·.1), upd_same, (hxs.imp fun _ _ h => (h.fz (Fz.ex e6)).fz fz).app (hz.imp fun _ _ h => h.fz fz), by rw [List.length_append]; omega, fun c => ?_⟩
            rw [List.mem_append, hcs, List.mem_map, List.take_succ, hf, or_assoc]
            refine or_congr Iff.rfl ⟨?_, ?_⟩
            · rintro (⟨g, h1, h2⟩ | ⟨x, h1, h2⟩)
              · exact ⟨g, List.mem_append_left _ h1, h2⟩
              · exact ⟨f, List.mem_append_right _ List.mem_cons_self, x, h1, h2⟩
            · rintro ⟨g, h1, x, h2, h3⟩
              rcases List.mem_append.mp h1 with h1 | h1
              · exact .inl ⟨g, h1, x, h2, h3⟩
              · rw [List.mem_singleton.mp h1] at h2
                exact .inr ⟨x, h2, h3⟩
        · rintro σ H' ⟨v4, v5, v6, rfl, e5, tabs5, xs, cs, hF5, hxs, hxl, hcs⟩
          refine ⟨_, _, _, _, rfl, ((eF.trans (ExtO.of e3)).trans (ExtO.ofN e4)).trans e5, tabs5, xs, cs, hF5, hxs, by omega, fun c => ?_⟩
          rw [hcs, hfl, List.take_length, List.take_succ, hs']
          constructor
          · rintro (⟨s', h1, h2⟩ | ⟨f, h1, x, h2, h3⟩)
            · exact ⟨s', List.mem_append_left _ h1, h2⟩
            · exact ⟨s, List.mem_append_right _ List.mem_cons_self, hrf, _, x, h2, h3⟩
          · rintro ⟨s', h1, h2⟩
            rcases List.mem_append.mp h1 with h1 | h1
            · exact .inl ⟨s', h1, h2⟩
            · rw [List.mem_singleton.mp h1] at h2
              obtain ⟨_, Fn, x, h3, h4⟩ := h2
              obtain ⟨f, hf, he⟩ := hhit Fn
              exact .inr ⟨f, hf, x, by rw [he]; exact h3, h4⟩
    · rintro σ H' ⟨v3, v4, v5, v6, rfl, eF, tabs2, xs, cs, hF2, hxs, hxl, hcs⟩
      rw [hsl1] at hxl
      rw [hsl1, List.take_length] at hcs
      exact ⟨_, rfl, k F xs cs H' (backN eF) tabs2 hF2 hF hxl hxs hcs⟩
end
end Hs
end
section
set_option Elab.async false
set_option linter.all false
set_option maxRecDepth 100000
set_option maxHeartbeats 4000000
namespace Hs
open PySem PySem.Spec PyProof.Rows L2
open C8 (Cal Met Mak InsC pe_c pe_mk pe_mt pe_mt0 pe_gc call_isC)
open LamX (TabB Tabs ExtN TabS)
open Evl (Ex)
/-- a row of a dict from lines to systems -/
def HrAt (K : PySem.W.Frag) (a : Ads) (H : Hp) (st : Addr) (x : NE) (s : St) : Prop := x.1 = lnKey s ∧ LnAt K H x.2.1 s ∧ SysOp K a H st x.2.2 s
abbrev HrsAt (K : PySem.W.Frag) (a : Ads) (H : Hp) (st : Addr) : List NE → List St → Prop := All2 (HrAt K a H st)
theorem mom_snoc {eds : List Ed} {s : St} {ds : List Dd} {d : Dd} {c : Cl} : Mom eds s (ds ++ [d]) c ↔ Mom eds s ds c ∨ ∃ m, Rch eds ds s m ∧ Made eds d m c := by
  constructor
  · rintro ⟨i, d', m, F, x, h1, h2, h3, h4, h5⟩
    by_cases hi : i < ds.length
    · rw [List.getElem?_append_left hi] at h1
      rw [List.take_append_of_le_length (Nat.le_of_lt hi)] at h2
      exact .inl ⟨i, d', m, F, x, h1, h2, h3, h4, h5⟩
    · have hi2 : i = ds.length := by
        have := (List.getElem?_eq_some_iff.mp h1).1
        rw [List.length_append] at this
        simp only [List.length_cons, List.length_nil] at this
        omega
      subst hi2
      have e : d' = d := by simpa using h1.symm
      subst e
      rw [List.take_left] at h2
      exact .inr ⟨m, h2, h3, F, x, h4, h5⟩
  · rintro (⟨i, d', m, F, x, h1, h2, h3, h4, h5⟩ | ⟨m, h2, h3, F, x, h4, h5⟩)
    · have hi := (List.getElem?_eq_some_iff.mp h1).1
      exact ⟨i, d', m, F, x, by rw [List.getElem?_append_left hi]; exact h1, by rw [List.take_append_of_le_length (Nat.le_of_lt hi)]; exact h2, h3, h4, h5⟩
    · exact ⟨ds.length, d, m, F, x, by simp, by rw [List.take_left]; exact h2, h3, h4, h5⟩
theorem mom_nil {eds : List Ed} {s : St} {c : Cl} : ¬ Mom eds s [] c := by
  rintro ⟨i, d', m, F, x, h1, _⟩
  simp at h1
def insAll (ss : List St) (us : List St) : List St := us.foldl (fun acc s => insN s acc) ss
theorem mem_insAll {s' : St} : ∀ {us ss : List St}, s' ∈ insAll ss us ↔ s' ∈ ss ∨ s' ∈ us
  | [], ss => by simp [insAll]
  | u :: us, ss => by
    show s' ∈ insAll (insN u ss) us ↔ _
    rw [mem_insAll, mem_insN, List.mem_cons, or_assoc]
theorem nodup_insAll : ∀ {us ss : List St}, ss.Nodup → (insAll ss us).Nodup
  | [], _, h => h
  | u :: us, ss, h => nodup_insAll (us := us) (nodup_insN h)
section
variable {K : PySem.W.Frag} {a : Ads} {H H' : Hp} {st : Addr}
theorem HrAt.fz {x : NE} {s : St} (e : Fz H H') (h : HrAt K a H st x s) : HrAt K a H' st x s := ⟨h.1, h.2.1.fz e, h.2.2.fz e⟩
theorem HrsAt.fz (e : Fz H H') {xs : List NE} {ss : List St} (h : HrsAt K a H st xs ss) : HrsAt K a H' st xs ss := h.imp fun _ _ q => q.fz e
theorem HrsAt.keys {xs : List NE} {ss : List St} (h : HrsAt K a H st xs ss) : KeyN K H xs := fun x hx => by
  obtain ⟨s, _, h1, h2, _⟩ := h.mem x hx
  rw [h1]
  exact ⟨h2.nk, lnKey_depth s⟩
theorem HrsAt.put {xs : List NE} {ss : List St} {x : NE} {s : St} (h : HrsAt K a H st xs ss) (hx : HrAt K a H st x s) : HrsAt K a H st (storedN xs x.1 x.2.1 x.2.2) (insN s ss) := by
  obtain ⟨k, ka, b⟩ := x
  obtain ⟨rfl, hk, hb⟩ := hx
  have hany : (xs.any fun x => decide (x.1 = lnKey s)) = true ↔ s ∈ ss := by
    rw [List.any_eq_true]
    constructor
    · rintro ⟨x, hx, e⟩
      obtain ⟨s', hs, h1, _⟩ := h.mem x hx
      rw [← lnKey_inj.mp (h1.symm.trans (of_decide_eq_true e))]
      exact hs
    · intro hs
      obtain ⟨x, hx, h1, _⟩ := h.mem' s hs
      exact ⟨x, hx, decide_eq_true h1⟩
  unfold storedN insN
  by_cases c : s ∈ ss
  · rw [if_pos (hany.mpr c), if_pos c]
    refine h.mapL fun x s' q => ?_
    by_cases e : x.1 = lnKey s
    · rw [if_pos e]
      have : s' = s := lnKey_inj.mp (q.1.symm.trans e)
      subst this
      exact ⟨q.1, q.2.1, hb⟩
    · rw [if_neg e]
      exact q
  · rw [if_neg (fun z => c (hany.mp z)), if_neg c]
    exact h.app (.cons ⟨rfl, hk, hb⟩ .nil)
theorem HrsAt.putAll : ∀ {ms : List NE} {us : List St} {xs : List NE} {ss : List St}, HrsAt K a H st ms us → HrsAt K a H st xs ss → HrsAt K a H st (storedNs xs ms) (insAll ss us)
  | _, _, _, _, .nil, h => h
  | _, _, _, _, .cons hm t, h => by
    have q := HrsAt.putAll t (HrsAt.put h hm)
    exact q
end
section
variable {K : PySem.W.Frag} {a : Ads} {H H' : Hp} {x st : Addr}
theorem CaV.off (e : FzO x H H') (o : OffX H x) {v : V} {c : Cl} (h : CaV K H v c) : CaV K H' v c := by
  obtain ⟨q, p, y, h1, h2, h3⟩ := h
  exact ⟨q, p, y, h1, e.t o h2, e.t o h3⟩
theorem HrsAt.off (e : FzO x H H') (o : OffX H x) {xs : List NE} {ss : List St} (h : HrsAt K a H st xs ss) : HrsAt K a H' st xs ss := h.imp fun y s ⟨h1, ⟨t, h2, h3⟩, h5⟩ => ⟨h1, ⟨t, e.t o h2, e.t o h3⟩, h5.off e o⟩
theorem PrN.fz (e : Fz H H') : ∀ {vs : List V} {ms : List NE}, PrN K H vs ms → PrN K H' vs ms
  | [], [], _ => trivial
  | v :: vs, m :: ms, h => ⟨h.1.elim fun t q => ⟨t, q.1, fz_t e q.2⟩, PrN.fz e h.2⟩
  | [], _ :: _, h => h.elim
  | _ :: _, [], h => h.elim
theorem PrN.snoc {t : Addr} {m : NE} (hm : SqT K H t [.ref m.2.1, .ref m.2.2]) : ∀ {vs : List V} {ms : List NE}, PrN K H vs ms → PrN K H (vs ++ [.ref t]) (ms ++ [m])
  | [], [], _ => ⟨⟨t, rfl, hm⟩, trivial⟩
  | v :: vs, m0 :: ms, h => ⟨h.1, PrN.snoc hm h.2⟩
  | [], _ :: _, h => h.elim
  | _ :: _, [], h => h.elim
end
section
variable {P : Program} {w : World} {K : PySem.W.Frag} {mg : Str → Option Value} {base : Heap} {a : Ads}
/-! ### moments -/
def spMoments (K : PySem.W.Frag) (a : Ads) (Pt : Addr) : Sp := fun vs H Q _ => ∃ y dl st s eds ds, vs = [.ref y, .ref dl] ∧ SysOp K a H st y s ∧ StoreAt K a H st eds ∧ EdsOk eds ∧ StOk eds s ∧ DdsAt K H dl ds ∧ ds.length ≤ 100 ∧ Tabs (TtOf Pt) H ∧
  ∀ l xs cs H', ExtN H H' → Tabs (TtOf Pt) H' → H' l = some (.lst xs) → xs.length ≤ ds.length * 75776 → All2 (CaV K H') xs cs → (∀ c, c ∈ cs ↔ Mom eds s ds c) → Q (.ref l) H'
theorem scMoments : FnScope ["system", "deeds", "found", "here", "deed", "later", "one", "failures", "there"] ["system", "deeds"] (defScope s_moments) := ⟨rfl, rfl, rfl, by decide +kernel, rfl, by decide +kernel, by decide +kernel⟩
theorem c_moments {c Pt : Addr} (T : TX K mg a) (D : DefC K mg "every_run" s_every_run c) (B : TabB base mg c Pt) : Cal P w K mg base 10 "moments" (spMoments K a Pt) [] := by
  refine calF T.d_moments (fun _ _ _ _ _ _ us hl => match us, hl with | [_, _], _ => rfl) scMoments (fun vs H Q E h => ?_) fun fa cdv A outer s0 H vs Q E hr h => ?_
  · obtain ⟨y, dl, st, s, eds, ds, rfl, _⟩ := h
    rfl
  · obtain ⟨y, dl, st, s, eds, ds, rfl, Sy, S, ok, hs, ⟨dvs, hdl, hds⟩, hdn, tabs, k⟩ := h
    have hu := hu_of hr
    have hL := p_line (P := P) (w := w) (base := base) T
    have hS := c_steps (P := P) (w := w) (base := base) T D B
    have hC := c_calls_at (P := P) (w := w) (base := base) T D B
    have h9 : (A.deeper (envOfC "moments" (defScope s_moments) s0.heap.objs.size fa cdv)).units + 9 < cLine := Nat.lt_of_le_of_lt (Nat.add_le_add_left (by decide) _) hr.units
    refine ⟨_, pss_cons (ps_par (i := 2) (j := 3) rfl scMoments.nd rfl rfl (by decide) rfl rfl (pa_cons (pe_lst pa_nil) (pa_cons (pe_disp1NK (K := K) (P := P) (w := w) ⟨rfl, rfl, rfl⟩ h9 (pe_pr hL hr (by decide) (pv 0)) (pv 0)) pa_nil)) rfl)
      (pss_cons (ps_for PassesOwn.never rfl (pi_list (pv 1)) (pg_name (i := 4) scMoments.nd rfl (Or.inl rfl))
        (pss_cons (ps_expr (pe_bm PySem.F.plainAttrs_list PySem.F.slot_list_extend PySem.F.type_list_extend mt_extend (pv 2) (pa_cons (pe_cc hC hr (pa_cons (pe_callTy (cr_listValsK (K := K) (P := P) (w := w) ⟨rfl, rfl, rfl⟩ rfl) (by rfl) T.f_list (by decide +kernel) (pa_cons (pe_valsK (K := K) (P := P) (w := w) ⟨rfl, rfl, rfl⟩ (pv 3)) pa_nil)) (pa_cons (pv 4) pa_nil))) pa_nil)))
        (pss_cons (ps_set (i := 5) scMoments.nd rfl (Or.inl rfl) (pe_dnewNK (K := K) (P := P) (w := w) ⟨rfl, rfl, rfl⟩))
        (pss_cons (ps_lock (ps_for PassesOwn.never rfl (pi_valuesNK (K := K) (P := P) (w := w) ⟨rfl, rfl, rfl⟩ (pv 3)) (pg_name (i := 6) scMoments.nd rfl (Or.inl rfl))
          (pss_one (ps_expr (pe_updNK (K := K) (P := P) (w := w) ⟨rfl, rfl, rfl⟩ rfl h9 (pv 5) (pe_lc (own := [("failures", 7), ("there", 8)]) (g := gTup K 2 (gCons (gName 7) (gCons (gName 8) gNil))) (tt := tYes) rfl scMoments.nd (pi_list (pe_cc hS hr (pa_cons (pv 6) (pa_cons (pv 4) pa_nil))))
            (blkOk_by (N := ["system", "deeds", "found", "here", "deed", "later", "one", "failures", "there"]) (sc := defScope s_moments) (by decide +kernel)) (fun _ _ _ _ _ => pg_tup rfl (pgs_cons (pg_name (i := 7) scMoments.nd rfl (Or.inl rfl)) (pgs_cons (pg_name (i := 8) scMoments.nd rfl (Or.inl rfl)) pgs_nil))) (fun _ _ _ _ _ => pts_nil)
            (fun _ _ _ _ _ => pe_tup (pa_cons (pe_pr hL hr (by decide) (pv 8)) (pa_cons (pv 8) pa_nil)))) ⟨rfl, rfl, rfl, rfl⟩)))))
        (pss_one (ps_set (i := 3) scMoments.nd rfl (Or.inl rfl) (pv 5)))))))
      (pss_one (ps_ret (pv 2)))), ?_⟩
    obtain ⟨dy, r0, t0, y1, _, _⟩ := id Sy
    refine ⟨(by show 0 ≤ sizeLine; decide), fun F hF => ?_⟩
    intro p hp
    have e1 : Ex H (upd (upd H F (.lst [])) p (ND P w p [])) := (Ex.new hF).trans (Ex.new hp)
    have nFp : F ≠ p := fun z => by rw [← z, upd_same] at hp; cases hp
    have hF1 : (upd (upd H F (.lst [])) p (ND P w p [])) F = some (.lst []) := by rw [upd_ne nFp, upd_same]
    have hp1 : (upd (upd H F (.lst [])) p (ND P w p [])) p = some (ND P w p []) := upd_same
    have hpH : H p = none := upd_none hp
    generalize upd (upd H F (.lst [])) p (ND P w p []) = H1 at e1 hF1 hp1 ⊢
    refine ⟨_, rfl, y, dy, _, rfl, e1 _ _ y1, y, st, s, rfl, Sy.fz (Fz.ex e1), fun ka H2 e2 hka => ?_⟩
    refine ⟨_, rfl, lnKey s, ka, y, rfl, rfl, hka.nk, lnKey_depth s, e2 _ _ hp1, _, _, rfl, ?_⟩
    have fz3 : Fz H2 (upd H2 p (ND P w p [(lnKey s, ka, y)])) := Fz.put (e2 _ _ hp1) rfl
    have e3 : Ex H (upd H2 p (ND P w p [(lnKey s, ka, y)])) := (e1.trans e2).mut hpH
    have hF3 : (upd H2 p (ND P w p [(lnKey s, ka, y)])) F = some (.lst []) := by rw [upd_ne nFp]; exact e2 _ _ hF1
    have hp3 : (upd H2 p (ND P w p [(lnKey s, ka, y)])) p = some (ND P w p [(lnKey s, ka, y)]) := upd_same
    have sp3 : HrsAt K a (upd H2 p (ND P w p [(lnKey s, ka, y)])) st [(lnKey s, ka, y)] [s] := .cons ⟨rfl, hka.fz fz3, Sy.fz (Fz.ex e3)⟩ .nil
    generalize upd H2 p (ND P w p [(lnKey s, ka, y)]) = H3 at e3 hF3 hp3 sp3 ⊢
    have neF : ∀ {H' : Hp} {q : Addr} {xs : List V}, ExtO F H3 H' → SqL K H q xs → SqL K H' q xs := fun {H' q xs} e h => by
      rcases h with (h | ⟨u, h⟩) | h
      · exact .inl (.inl (e _ _ (ne_of_none h hF) (e3 _ _ h) (fun _ z => nomatch z)))
      · exact .inl (.inr ⟨u, e _ _ (ne_of_none h hF) (e3 _ _ h) (fun _ z => nomatch z)⟩)
      · exact .inr h
    have hdl1 := hds.len
    refine ⟨_, rfl, dl, rfl, ⟨dvs, neF ExtO.refl hdl⟩, for_it walk_list (fun i σ H' => ∃ Hd xs ss v4 v5 v6 fx cs, σ = [some (.ref y), some (.ref dl), some (.ref F), some (.ref Hd), v4, v5, v6, none, none] ∧ ExtO F H3 H' ∧ Tabs (TtOf Pt) H' ∧ H' F = some (.lst fx) ∧ All2 (CaV K H') fx cs ∧ fx.length ≤ i * 75776 ∧ (∀ c, c ∈ cs ↔ Mom eds s (ds.take i) c) ∧ H' Hd = some (ND P w Hd xs) ∧ HrsAt K a H' st xs ss ∧ ss.Nodup ∧ ∀ s', s' ∈ ss ↔ Rch eds (ds.take i) s s')
      ⟨p, _, [s], none, none, none, [], [], rfl, ExtO.refl, tabs_ex e3 tabs, hF3, .nil, Nat.zero_le _, fun c => ⟨fun h => (by cases h), fun h => absurd h mom_nil⟩, hp3, sp3, by simp, fun s' => by rw [List.mem_singleton] <;> rfl⟩
      (fun i σ H' _ ⟨_, _, _, _, _, _, _, _, _, e, _⟩ => neF e hdl) ?_ ?_⟩
    · rintro i v σ H0 H' hi ⟨Hd, xs, ss, v4, v5, v6, fx, cs, rfl, eF, tabs1, hFx, hcv, hfl, hcs, hHd, hr1, nd1, mem1⟩ ⟨rfl, hv⟩
      obtain ⟨d, hdi, pd, rfl, hpd⟩ := hds.get hv
      have hss : ∀ m ∈ ss, StOk eds m := fun m hm => rch_ok hs ((mem1 m).mp hm)
      have hsn : ss.length ≤ 37 := few_sts ok nd1 hss
      have hxl := hr1.len
      have hi100 : i < 100 := by
        have := (List.getElem?_eq_some_iff.mp hdi).1
        omega
      have fz1 : Fz H H' := (Fz.ex e3).trans (eF.fzL hF3)
      -- found.extend(..)
      refine ⟨_, rfl, .inl ⟨rfl, _, SqL.of hFx⟩, _, rfl, Hd, rfl, .inl ⟨xs, hHd⟩, fun q hq => ?_⟩
      have e4 : Ex H' (upd H' q (VW q Hd)) := Ex.new hq
      refine ⟨q, Hd, xs, rfl, upd_same, e4 _ _ hHd, fun l1 hl1 => ?_⟩
      have e5 : Ex H' (upd (upd H' q (VW q Hd)) l1 (.lst (xs.map fun y => V.ref y.2.2))) := e4.trans (Ex.new hl1)
      have hl5 : (upd (upd H' q (VW q Hd)) l1 (.lst (xs.map fun y => V.ref y.2.2))) l1 = some (.lst (xs.map fun y => V.ref y.2.2)) := upd_same
      generalize upd (upd H' q (VW q Hd)) l1 (.lst (xs.map fun y => V.ref y.2.2)) = H5 at e5 hl5 ⊢
      have fz5 := fz1.trans (Fz.ex e5)
      have hr5 := hr1.fz (Fz.ex e5)
      refine ⟨_, rfl, l1, pd, st, eds, d, _, ss, rfl, SqL.of hl5, All2.mapL (fun v s h => ⟨_, rfl, h.2.2⟩) hr5, S.fz fz5, ok, hss, hsn, fz_t fz5 hpd, tabs_ex e5 tabs1, fun l2 xs2 cs2 H6 e6 tabs6 hl2 hl2n hlen2 hcv2 hcs2 => ?_⟩
      have fz6 := extN_fz e6
      have hF6 := e6 _ _ (e5 _ _ hFx) (fun _ z => nomatch z)
      refine ⟨F, l2, fx, xs2, rfl, rfl, hF6, hl2, (by rw [sizeLine_eq]; omega), ?_⟩
      have fz7 : Fz H6 (upd H6 F (.lst (fx ++ xs2))) := Fz.put hF6 rfl
      have eF7 : ExtO F H3 (upd H6 F (.lst (fx ++ xs2))) := ((eF.trans (ExtO.of e5)).trans (ExtO.ofN e6)).trans ExtO.put
      have tabs7 : Tabs (TtOf Pt) (upd H6 F (.lst (fx ++ xs2))) := tabs_lst hF6 tabs6
      have hF7 : (upd H6 F (.lst (fx ++ xs2))) F = some (.lst (fx ++ xs2)) := upd_same
      have nHF : Hd ≠ F := fun z => by rw [z, hFx] at hHd; cases hHd
      have hHd7 : (upd H6 F (.lst (fx ++ xs2))) Hd = some (ND P w Hd xs) := by rw [upd_ne nHF]; exact e6 _ _ (e5 _ _ hHd) (fun _ z => nomatch z)
      have hr7 := (hr5.fz fz6).fz fz7
      have hcv7 := (hcv.imp fun _ _ h => ((h.fz (Fz.ex e5)).fz fz6).fz fz7).app (hcv2.imp fun _ _ h => h.fz fz7)
      have hcs7 : ∀ c, c ∈ cs ++ cs2 ↔ Mom eds s (ds.take (i + 1)) c := fun c => by
        rw [List.take_succ, hdi]
        refine Iff.trans ?_ mom_snoc.symm
        rw [List.mem_append, hcs, hcs2]
        exact or_congr Iff.rfl ⟨fun ⟨m, h1, h2⟩ => ⟨m, (mem1 m).mp h1, h2⟩, fun ⟨m, h1, h2⟩ => ⟨m, (mem1 m).mpr h1, h2⟩⟩
      have hfl7 : (fx ++ xs2).length ≤ (i + 1) * 75776 := by
        rw [List.length_append]
        omega
      have fzA := (fz5.trans fz6).trans fz7
      generalize upd H6 F (.lst (fx ++ xs2)) = H7 at eF7 tabs7 hF7 hHd7 hr7 hcv7 fzA ⊢
      -- later = {}
      intro L hL
      have nLD : L ≠ Hd := fun z => by rw [z, hHd7] at hL; cases hL
      have nLF : L ≠ F := fun z => by rw [z, hF7] at hL; cases hL
      refine ⟨Hd, ND P w Hd xs, Ex.new hL _ _ hHd7, trivial, fun od => ?_⟩
      have fz8 : Fz H7 (upd (upd H7 L (ND P w L [])) Hd (.frz od (ND P w Hd xs))) := (Fz.new hL).trans (Fz.put (Ex.new hL _ _ hHd7) rfl)
      have hD8 : (upd (upd H7 L (ND P w L [])) Hd (.frz od (ND P w Hd xs))) Hd = some (.frz od (ND P w Hd xs)) := upd_same
      have hL8 : (upd (upd H7 L (ND P w L [])) Hd (.frz od (ND P w Hd xs))) L = some (ND P w L []) := by rw [upd_ne nLD, upd_same]
      have tabs8 : Tabs (TtOf Pt) (upd (upd H7 L (ND P w L [])) Hd (.frz od (ND P w Hd xs))) := tabs_nd (Ex.new hL _ _ hHd7) (tabs_ex (Ex.new hL) tabs7)
      have k8 : ∀ b o, b ≠ Hd → H7 b = some o → (upd (upd H7 L (ND P w L [])) Hd (.frz od (ND P w Hd xs))) b = some o := fun b o n h => by rw [upd_ne n]; exact Ex.new hL _ _ h
      generalize upd (upd H7 L (ND P w L [])) Hd (.frz od (ND P w Hd xs)) = H8 at fz8 hD8 hL8 tabs8 k8 ⊢
      have hr8 := hr7.fz fz8
      have fzB := fzA.trans fz8
      refine ⟨_, rfl, Hd, od, xs, rfl, hD8, for_it walk_valsN (fun j σ H'' => ∃ v6 ys ts, σ = [some (.ref y), some (.ref dl), some (.ref F), some (.ref Hd), some (.ref pd), some (.ref L), v6, none, none] ∧ ExtO L H8 H'' ∧ Tabs (TtOf Pt) H'' ∧ H'' L = some (ND P w L ys) ∧ HrsAt K a H'' st ys ts ∧ ts.Nodup ∧ ∀ s', s' ∈ ts ↔ ∃ m ∈ ss.take j, Nxt eds m d s')
        ⟨_, [], [], rfl, ExtO.refl, tabs8, hL8, .nil, .nil, fun s' => by simp⟩
        (fun j σ H'' _ ⟨_, _, _, _, e, _⟩ => e _ _ nLD.symm hD8 (fun _ z => nomatch z)) ?_ ?_⟩
      · rintro j v σ H0 H'' hj ⟨v6, ys, ts, rfl, eL, tabs2, hL2, sp2, nd2, mem2⟩ ⟨rfl, y0, hy0, rfl⟩
        obtain ⟨m, hm, _, _, hz⟩ := (hr8.fz (eL.fz hL8)).get hy0
        have fz2 := fzB.trans (eL.fz hL8)
        have hmok := hss m (List.mem_of_getElem? hm)
        refine ⟨_, rfl, L, ys, rfl, hL2, _, rfl, _, rfl, y0.2.2, st, m, eds, pd, d, rfl, hz, S.fz fz2, ok, hmok, fz_t fz2 hpd, tabs2, fun l us H9 e9 tabs9 hl hul uss hus memu => ?_⟩
        have hulen := hus.len
        have hL9 := e9 _ _ hL2 (fun _ z => nomatch z)
        have fz9 := extN_fz e9
        refine ⟨l, rfl, ⟨us, SqL.of hl⟩, fun DD hDD => lc_list (xs := us) (fun k H' => Ex H9 H' ∧ ∃ zs ms, H' DD = some (.lst zs) ∧ PrN K H' zs ms ∧ HrsAt K a H' st ms (uss.take k))
          ⟨Ex.new hDD, [], [], upd_same, trivial, .nil⟩ (fun k H' _ q => SqL.of (q.1 _ _ hl)) ?_ ?_⟩
        · rintro k v H' hv ⟨e10, zs, ms, hd, hpr, hrs⟩
          obtain ⟨s', hs', q, n, z', rfl, hq, hz'⟩ := hus.get hv
          have hz10 := hz'.fz (Fz.ex e10)
          obtain ⟨dz, rz, tz, z1, _, _⟩ := id hz10
          have hkl : k < us.length := (List.getElem?_eq_some_iff.mp hv).1
          have hzl := hpr.length
          have hml := hrs.len
          rw [List.length_take] at hml
          refine ⟨q, _, rfl, fz_t (Fz.ex e10) hq, rfl, _, _, rfl, _, _, rfl, rfl, rfl, yes_ok ?_⟩
          refine ⟨_, rfl, z', dz, _, rfl, z1, z', st, s', rfl, hz10, fun ka H11 e11 hka => ?_⟩
          refine ⟨_, rfl, (by show 2 ≤ sizeLine; decide), fun b hb => ?_⟩
          have e12 : Ex H' (upd H11 b (.tup [.ref ka, .ref z'])) := e11.trans (Ex.new hb)
          refine ⟨zs, e12 _ _ hd, by rw [sizeLine_eq]; omega, (e10.trans e12).mut hDD, _, ms ++ [(lnKey s', ka, z')], upd_same, ?_, ?_⟩
          · have fz := (Fz.ex e12).trans (Fz.put (u := .lst zs) (o := .lst (zs ++ [.ref b])) (e12 _ _ hd) rfl)
            refine PrN.snoc (m := (lnKey s', ka, z')) (.inl (.inl ?_)) (hpr.fz fz)
            rw [upd_ne (ne_of_none (e11 _ _ hd) hb).symm, upd_same]
          · have fz := (Fz.ex e12).trans (Fz.put (u := .lst zs) (o := .lst (zs ++ [.ref b])) (e12 _ _ hd) rfl)
            have fzb := (Fz.new (o := .tup [.ref ka, .ref z']) hb).trans (Fz.put (u := .lst zs) (o := .lst (zs ++ [.ref b])) (e12 _ _ hd) rfl)
            rw [List.take_succ, hs']
            exact (hrs.fz fz).app (.cons ⟨rfl, hka.fz fzb, hz10.fz fz⟩ .nil)
        · rintro H' ⟨e10, zs, ms, hd, hpr, hrs⟩
          rw [hulen, List.take_length] at hrs
          have hL10 := e10 _ _ hL9
          have sp10 := (sp2.fz fz9).fz (Fz.ex e10)
          have hyl := sp10.len
          have hml := hrs.len
          have htl : ts.length ≤ 37 := few_sts ok nd2 fun t ht => by
            obtain ⟨m', h1, h2⟩ := (mem2 t).mp ht
            exact nxt_ok (hss m' (List.mem_of_mem_take h1)) h2
          refine ⟨DD, zs, ms, rfl, hL10, SqL.of hd, hpr, sp10.keys, hrs.keys, (by rw [sizeLine_eq]; omega), ?_⟩
          have fzL : Fz H' (upd H' L (ND P w L (storedNs ys ms))) := Fz.put hL10 rfl
          refine ⟨_, storedNs ys ms, insAll ts uss, rfl, ((eL.trans (ExtO.ofN e9)).trans (ExtO.of e10)).trans ExtO.put, tabs_nd hL10 (tabs_ex e10 tabs9), upd_same, (HrsAt.putAll hrs sp10).fz fzL, nodup_insAll nd2, fun s' => ?_⟩
          rw [mem_insAll, mem2, memu, List.take_succ, hm]
          constructor
          · rintro (⟨m', h1, h2⟩ | h)
            · exact ⟨m', List.mem_append_left _ h1, h2⟩
            · exact ⟨m, List.mem_append_right _ List.mem_cons_self, h⟩
          · rintro ⟨m', h1, h2⟩
            rcases List.mem_append.mp h1 with h1 | h1
            · exact .inl ⟨m', h1, h2⟩
            · rw [List.mem_singleton.mp h1] at h2
              exact .inr h2
      · rintro σ H'' ⟨v6, ys, ts, rfl, eL, tabs2, hL2, sp2, nd2, mem2⟩
        have hD2 := eL _ _ nLD.symm hD8 (fun _ z => nomatch z)
        refine ⟨hD2, ?_⟩
        have offF : OffX H'' Hd := .frzE hD2
        have fzD : FzO Hd H'' (upd H'' Hd (ND P w Hd xs)) := fun b o n h l => by rw [upd_ne n]; exact h
        refine ⟨_, rfl, L, ys, ts, _, _, _, fx ++ xs2, cs ++ cs2, rfl, fun b o n h l => ?_, tabs_frz hD2 tabs2, ?_, (hcv7.imp fun _ _ h => ((h.fz fz8).fz (eL.fz hL8)).off fzD offF), hfl7, hcs7, ?_, sp2.off fzD offF, nd2, fun s' => ?_⟩
        · have h1 := eF7 b o n h l
          by_cases c : b = Hd
          · subst c
            rw [upd_same]
            rw [hHd7] at h1
            exact h1
          · rw [upd_ne c]
            exact eL _ _ (fun z => by rw [z, hL] at h1; cases h1) (k8 _ _ c h1) l
        · rw [upd_ne nHF.symm]
          exact eL _ _ nLF.symm (k8 _ _ nHF.symm hF7) (fun _ z => nomatch z)
        · rw [upd_ne nLD]
          exact hL2
        · rw [mem2, hxl, List.take_length, List.take_succ, hdi]
          refine (Iff.trans ?_ rch_snoc.symm)
          exact ⟨fun ⟨m, h1, h2⟩ => ⟨m, (mem1 m).mp h1, h2⟩, fun ⟨m, h1, h2⟩ => ⟨m, (mem1 m).mpr h1, h2⟩⟩
    · rintro σ H' ⟨Hd, xs, ss, v4, v5, v6, fx, cs, rfl, eF, tabs1, hFx, hcv, hfl, hcs, hHd, hr1, nd1, mem1⟩
      rw [hdl1] at hfl
      rw [hdl1, List.take_length] at hcs
      exact ⟨_, rfl, k F fx cs H' (fun b o h l => eF b o (ne_of_none h hF) (e3 _ _ h) l) tabs1 hFx hfl hcv hcs⟩
end
end Hs
end
section
set_option Elab.async false
set_option linter.all false
set_option maxRecDepth 100000
set_option maxHeartbeats 4000000
namespace Hs
open PySem PySem.Spec PyProof.Rows L2
open C8 (Cal Met Mak InsC pe_c pe_mk pe_mt pe_mt0 pe_gc call_isC)
open LamX (TabB Tabs ExtN TabS)
open Evl (Ex)
abbrev scV (c : Sc) : List V := [.str app, .int c.1, .str c.2.txt]
def scOk (eds : List Ed) (c : Sc) : Bool := verOk eds c.1 && decide (c.2 ∈ hasAt eds c.1)
section
variable {P : Program} {w : World} {K : PySem.W.Frag} {mg : Str → Option Value} {base : Heap} {a : Ads}
/-! ### Edition.scripts -/
def spScripts (K : PySem.W.Frag) (a : Ads) : Sp := fun vs H Q _ => ∃ e ed, vs = [.ref e] ∧ EdAt K a H e ed ∧ ∀ hs, SqT K H hs (ed.has.map fun w => .str w.txt) → Q (.ref hs) H
theorem scScripts : FnScope ["self"] ["self"] (defScope s_Edition_scripts) := ⟨rfl, rfl, rfl, by decide +kernel, rfl, by decide +kernel, by decide +kernel⟩
theorem p_scripts (T : TX K mg a) : Prp P w K mg base 1 a.ed "scripts" (spScripts K a) := by
  refine prpF T.cl_ed T.p_ed_scripts (fun _ _ _ _ _ _ us hl => match us, hl with | [_], _ => rfl) scScripts (fun vs H Q E h => ?_) fun fa cdv A outer s0 H vs Q E hr h => ?_
  · obtain ⟨e, ed, rfl, _⟩ := h
    rfl
  · obtain ⟨e, ed, rfl, ⟨dx, hs, ws, as, sh, h1, h2, _⟩, k⟩ := h
    exact ⟨_, pss_one (ps_ret (pe_fld (pv 0) rfl)), _, rfl, e, a.ed, dx, _, _, rfl, h1, T.cl_ed, T.no_ed_has, rfl, k hs h2⟩
/-! ### is_script -/
def spIsScript (K : PySem.W.Frag) (a : Ads) : Sp := fun vs H Q _ => ∃ st p eds c, vs = [.ref st, .ref p] ∧ StoreAt K a H st eds ∧ SqT K H p (scV c) ∧ ∀ H', Ex H H' → Q (.bl (scOk eds c)) H'
theorem scIsScript : FnScope ["store", "script", "name", "version", "word"] ["store", "script"] (defScope s_is_script) := ⟨rfl, rfl, rfl, by decide +kernel, rfl, by decide +kernel, by decide +kernel⟩
theorem c_is_script (T : TX K mg a) : Cal P w K mg base 3 "is_script" (spIsScript K a) [] := by
  refine calF T.d_is_script (fun _ _ _ _ _ _ us hl => match us, hl with | [_, _], _ => rfl) scIsScript (fun vs H Q E h => ?_) fun fa cdv A outer s0 H vs Q E hr h => ?_
  · obtain ⟨st, p, eds, c, rfl, _⟩ := h
    rfl
  · obtain ⟨st, p, eds, c, rfl, S, hp, k⟩ := h
    have hC := m_contains (P := P) (w := w) (base := base) T
    have hG := m_getitem (P := P) (w := w) (base := base) T
    have hP := p_scripts (P := P) (w := w) (base := base) T
    obtain ⟨dz, d0, es, g1, _, _⟩ := id S
    refine ⟨_, pss_cons (ps_asg (pv 1) (pg_tup rfl (pgs_cons (pg_name (i := 2) scIsScript.nd rfl (Or.inl rfl)) (pgs_cons (pg_name (i := 3) scIsScript.nd rfl (Or.inl rfl)) (pgs_cons (pg_name (i := 4) scIsScript.nd rfl (Or.inl rfl)) pgs_nil)))))
      (pss_one (ps_ret (pe_and (pe_cmpR (op_inM hC hr (by decide)) (pe_tup (pa_cons (pv 2) (pa_cons (pv 3) pa_nil))) (pv 0) rfl)
        (pe_one (pe_cmpR (op_inN hr.units) (pv 4) (pe_pr hP hr (by decide) (pe_ixM hG hr (by decide) T.fn_st (pv 0) (pe_tup (pa_cons (pv 2) (pa_cons (pv 3) pa_nil))))) rfl))))), ?_⟩
    refine ⟨_, rfl, p, _, rfl, hp, rfl, _, _, rfl, _, _, rfl, _, _, rfl, rfl, ?_⟩
    refine ⟨_, rfl, _, rfl, (by show 2 ≤ sizeLine; decide), fun q hq => ?_⟩
    have e1 : Ex H (upd H q (.tup [.str app, .int c.1])) := Ex.new hq
    have hq1 : (upd H q (.tup [.str app, .int c.1])) q = some (.tup [.str app, .int c.1]) := upd_same
    generalize upd H q (.tup [.str app, .int c.1]) = H1 at e1 hq1 ⊢
    refine ⟨_, rfl, st, dz, _, rfl, e1 _ _ g1, st, eds, q, true, c.1, rfl, S.fz (Fz.ex e1), hq1, _, rfl, ?_⟩
    rw [if_neg (by decide)]
    cases hv : verOk eds c.1 with
    | false =>
      refine ⟨_, rfl, iteF ?_⟩
      have z := k H1 e1
      unfold scOk at z
      rw [hv] at z
      exact z
    | true =>
      obtain ⟨ed, hed⟩ := Option.isSome_iff_exists.mp hv
      refine ⟨_, rfl, iteT ?_⟩
      refine ⟨_, rfl, _, rfl, _, rfl, _, rfl, (by show 2 ≤ sizeLine; decide), fun q2 hq2 => ?_⟩
      have e2 : Ex H1 (upd H1 q2 (.tup [.str app, .int c.1])) := Ex.new hq2
      have hq22 : (upd H1 q2 (.tup [.str app, .int c.1])) q2 = some (.tup [.str app, .int c.1]) := upd_same
      generalize upd H1 q2 (.tup [.str app, .int c.1]) = H2 at e2 hq22 ⊢
      have e12 := e1.trans e2
      refine ⟨st, dz, _, rfl, e12 _ _ g1, st, eds, q2, c.1, ed, rfl, S.fz (Fz.ex e12), hq22, hed, fun e he => ?_⟩
      obtain ⟨dw, hs, ws, as, sh, he1, he2, _⟩ := id he
      refine ⟨e, dw, _, rfl, he1, e, ed, rfl, he, fun hs' hhs => ?_⟩
      refine ⟨_, hs', _, _, rfl, .inr hhs, .text _, nk_wds ed.has, Nat.zero_le _, ?_⟩
      rw [if_neg (by decide), wd_in]
      have z := k H2 e12
      unfold scOk at z
      rw [hv] at z
      have hh : hasAt eds c.1 = ed.has := by simp [hasAt, hed]
      rw [hh] at z
      exact z
end
end Hs
end
section
set_option Elab.async false
set_option linter.all false
set_option maxRecDepth 100000
set_option maxHeartbeats 4000000
namespace Hs
open PySem PySem.Spec PyProof.Rows L2
open C8 (Cal Met Mak InsC pe_c pe_mk pe_mt pe_mt0 pe_gc call_isC)
open LamX (TabB Tabs ExtN TabS)
open Evl (Ex)
theorem sl_tupAK {X : Cx} (K : PySem.W.Frag) (hK : X.K = K) : SlR X (rSlA K) := hK ▸ sl_tupA
theorem op_inNK {X : Cx} (K : PySem.W.Frag) (hK : X.K = K) (hu : X.A.units + 64 < cLine) : OpR X (compareOp .In) (rInN K false) := hK ▸ op_inN hu
theorem op_ninNK {X : Cx} (K : PySem.W.Frag) (hK : X.K = K) (hu : X.A.units + 64 < cLine) : OpR X (compareOp .NotIn) (rInN K true) := hK ▸ op_ninN hu
/-- faulty scripts as a set -/
abbrev Pf (fl : List Sc) : Sc → Bool := fun c => decide (c ∈ fl)
/-- a tuple of scripts at p -/
def FaAt (K : PySem.W.Frag) (H : Hp) (p : Addr) (fl : List Sc) : Prop := ∃ vs, SqT K H p vs ∧ All2 (fun v c => ∃ q, v = .ref q ∧ SqT K H q (scV c)) vs fl
theorem FaAt.fz {K : PySem.W.Frag} {H H' : Hp} {p : Addr} {fl : List Sc} (e : Fz H H') (h : FaAt K H p fl) : FaAt K H' p fl := by
  obtain ⟨vs, h1, h2⟩ := h
  exact ⟨vs, fz_t e h1, h2.imp fun _ _ ⟨q, a, b⟩ => ⟨q, a, fz_t e b⟩⟩
theorem atI_zero {α : Type} (x : α) (xs : List α) : atI (x :: xs) 0 = some x := by
  unfold atI ixN
  rw [if_pos (by decide)]
  simp
theorem wr_len (P : Sc → Bool) (G : Nat → Bool) : ∀ (l : List (Cl × Bool)) (i : Nat), (wr P G l i).length ≤ l.length
  | [], i => Nat.le_refl _
  | (c, b) :: l, i => by
    have ih := wr_len P G l (i + 1)
    unfold wr
    split
    · rw [List.length_cons, List.length_cons]; omega
    · rw [List.length_cons]; omega
theorem wr_snoc (P : Sc → Bool) (G : Nat → Bool) (c : Cl) (b : Bool) : ∀ (l : List (Cl × Bool)) (i : Nat), wr P G (l ++ [(c, b)]) i = wr P G l i ++ if P c.sc = true ∧ G (i + l.length) = false then [i + l.length] else []
  | [], i => by
    simp only [List.nil_append, wr, List.length_nil, Nat.add_zero]
  | (c', b') :: l, i => by
    have ih := wr_snoc P G c b l (i + 1)
    have e : i + 1 + l.length = i + (l.length + 1) := by omega
    rw [e] at ih
    simp only [List.cons_append, wr, List.length_cons, ih]
    split <;> simp
def scKey (c : Sc) : NestedKey := .tup [.text app, .num c.1, .text c.2.txt]
theorem scKey_inj {c c' : Sc} : scKey c = scKey c' ↔ c = c' := by
  unfold scKey
  constructor
  · intro z
    injection z with z
    injection z with _ z
    injection z with z1 z
    injection z with z2 _
    injection z1 with z1
    injection z2 with z2
    exact Prod.ext z1 (wd_inj _ _ z2)
  · rintro rfl
    rfl
theorem sc_nk {K : PySem.W.Frag} {H : Hp} {p : Addr} {c : Sc} (h : SqT K H p (scV c)) : Nk K H (.ref p) (scKey c) := .tup h (.cons (.text _) (.cons (.num _) (.cons (.text _) .nil)))
theorem sc_nks {K : PySem.W.Frag} {H : Hp} {vs : List V} {fl : List Sc} (h : All2 (fun v c => ∃ q, v = .ref q ∧ SqT K H q (scV c)) vs fl) : NkAll K H vs (fl.map scKey) := by
  induction h with
  | nil => exact .nil
  | cons h _ ih =>
    obtain ⟨q, rfl, h⟩ := h
    exact .cons (sc_nk h) ih
theorem sc_in (c : Sc) (fl : List Sc) : decide (scKey c ∈ fl.map scKey) = decide (c ∈ fl) := by
  refine decide_eq_decide.mpr ⟨fun h => ?_, fun h => List.mem_map.mpr ⟨c, h, rfl⟩⟩
  obtain ⟨x, hx, e⟩ := List.mem_map.mp h
  rw [← scKey_inj.mp e]
  exact hx
section
variable {P : Program} {w : World} {K : PySem.W.Frag} {mg : Str → Option Value} {base : Heap} {a : Ads}
/-! ### behind_one -/
def spBeh1 (K : PySem.W.Frag) (a : Ads) : Sp := fun vs H Q _ => ∃ y p fp st s eds d fl, vs = [.ref y, .ref p, .ref fp] ∧ SysOp K a H st y s ∧ StoreAt K a H st eds ∧ EdsOk eds ∧ StOk eds s ∧ SqT K H p (ddV d) ∧ refu eds s d = false ∧ FaAt K H fp fl ∧
  ∀ z H', Ex H H' → SysOp K a H' st z ((prog eds s d).foll (Pf fl)).1 → Q (.ref z) H'
theorem scBeh1 : FnScope ["system", "deed", "faulty", "fails", "later", "calls", "wrong", "number", "row"] ["system", "deed", "faulty"] (defScope s_behind_one) := ⟨rfl, rfl, rfl, by decide +kernel, rfl, by decide +kernel, by decide +kernel⟩
theorem c_beh1 (T : TX K mg a) : Cal P w K mg base 8 "behind_one" (spBeh1 K a) [] := by
  refine calF T.d_behind_one (fun _ _ _ _ _ _ us hl => match us, hl with | [_, _, _], _ => rfl) scBeh1 (fun vs H Q E h => ?_) fun fa cdv A outer s0 H vs Q E hr h => ?_
  · obtain ⟨y, p, fp, st, s, eds, d, fl, rfl, _⟩ := h
    rfl
  · obtain ⟨y, p, fp, st, s, eds, d, fl, rfl, Sy, S, ok, hs, hp, hrf, hfa, k⟩ := h
    have hu := hu_of hr
    have hX := c_exe (P := P) (w := w) (base := base) T
    refine ⟨_, pss_cons (ps_set (i := 3) scBeh1.nd rfl (Or.inr rfl) (pe_tup pa_nil))
      (pss_one (ps_while PassesOwn.never (pt_val pe_bl)
        (pss_cons (ps_asg (pe_cc hX hr (pa_cons (pv 0) (pa_cons (pv 1) (pa_cons (pv 3) pa_nil)))) (pg_tup rfl (pgs_cons (pg_name (i := 4) scBeh1.nd rfl (Or.inl rfl)) (pgs_cons (pg_name (i := 5) scBeh1.nd rfl (Or.inl rfl)) pgs_nil))))
        (pss_cons (ps_setLc (i := 6) (own := [("number", 7), ("row", 8)]) (g := gTup K 2 (gCons (gName 7) (gCons (gName 8) gNil))) rfl scBeh1.nd rfl rfl (sw_true rfl rfl rfl (by decide +kernel)) (pi_enum (by rfl) T.f_enumerate (pa_cons (pv 5) pa_nil))
          (blkOk_by (N := ["system", "deed", "faulty", "fails", "later", "calls", "wrong", "number", "row"]) (sc := defScope s_behind_one) (by decide +kernel)) (fun _ _ _ _ _ => pg_tup rfl (pgs_cons (pg_name (i := 7) scBeh1.nd rfl (Or.inl rfl)) (pgs_cons (pg_name (i := 8) scBeh1.nd rfl (Or.inl rfl)) pgs_nil)))
          (fun _ _ _ _ _ => pts_one (pw_and (pt_cmpR (op_inNK K rfl hr.units) (pe_slice (sl_tupAK K rfl) (pe_ix (r := rIxT K) ix_tup (pv 8) pe_int (fun _ _ => rfl)) po_none (po_some pe_int)) (pv 2) rfl) (pw_and1 (pt_cmpR (op_ninNK K rfl hr.units) (pv 7) (pv 3) rfl))).pt)
          (fun _ _ _ _ _ => pv 7))
        (pss_cons (ps_if (pt_cmpR (op_eqE hr.units) (pv 6) (pe_lst pa_nil) (nomark _)) (pss_one (ps_ret (pv 4))) pss_nil)
        (pss_one (ps_set (i := 3) scBeh1.nd rfl (Or.inr rfl) (pe_tup (pa_starK K rfl (pv 3) (pa_cons (pe_ix ix_list (pv 6) pe_int (fun _ _ => rfl)) pa_nil)))))))))), ?_⟩
    obtain ⟨fvs, hfv, hfl⟩ := id hfa
    have h8 : ((prog eds s d).foll (Pf fl)).2.length ≤ 8 := Pg.Dep.foll _ prog_dep
    have hf8 := fi_len ((prog eds s d).foll (Pf fl)).2 0
    generalize hfis : fi ((prog eds s d).foll (Pf fl)).2 0 = fis at hf8
    refine ⟨(by show 0 ≤ sizeLine; decide), fun t ht => ?_⟩
    refine ⟨fun m σ H' => ∃ j tf v4 v5 v6, σ = [some (.ref y), some (.ref p), some (.ref fp), some (.ref tf), v4, v5, v6, none, none] ∧ j ≤ fis.length ∧ m = 9 - j ∧ Ex H H' ∧ SqT K H' tf (nats (fis.take j)), ⟨_, 0, t, none, none, none, rfl, Nat.zero_le _, rfl, Ex.new ht, .inl (.inl upd_same)⟩, ?_⟩
    rintro m σ H1 ⟨j, tf, v4, v5, v6, rfl, hj, rfl, e1, htf⟩
    refine ⟨true, rfl, iteT ⟨fun σ' H' => ∃ m', m' < 9 - j ∧ ∃ j tf v4 v5 v6, σ' = [some (.ref y), some (.ref p), some (.ref fp), some (.ref tf), v4, v5, v6, none, none] ∧ j ≤ fis.length ∧ m' = 9 - j ∧ Ex H H' ∧ SqT K H' tf (nats (fis.take j)), fun _ _ h => h, ?_⟩⟩
    have fz1 := Fz.ex e1
    refine ⟨_, rfl, _, rfl, _, rfl, y, st, s, eds, p, d, tf, fis.take j, rfl, Sy.fz fz1, S.fz fz1, ok, hs, fz_t fz1 hp, hrf, htf, fun q z ml H2 e2 hq2 hml hex => ?_⟩
    refine ⟨q, _, rfl, .inl (.inl hq2), rfl, _, _, rfl, _, _, rfl, rfl, ?_⟩
    obtain ⟨hz, ms, hms, hmd⟩ := id hex
    have htf2 := fz_t (Fz.ex e2) htf
    have hfv2 := fz_t (Fz.ex (e1.trans e2)) hfv
    have hml8 : ms.length ≤ 8 := by rw [hmd.len]; exact nRun_le
    have hstep := follow_step (Pf fl) (Fo (fis.take j)) (prog eds s d) 0 j (fun x _ => by rw [hfis, decide_eq_true_eq])
    rw [hfis] at hstep
    generalize hcl : (runL eds s d (fis.take j)).2 = cl at hmd
    refine ⟨_, rfl, ml, ms, rfl, SqL.of hms, fun DD hDD => lc_it walk_enum (fun i H' => Ex H2 H' ∧ H' DD = some (.lst (nats (wr (Pf fl) (Fo (fis.take j)) (cl.take i) 0)))) ⟨Ex.new hDD, upd_same⟩ (fun i H' _ q => SqL.of (q.1 _ _ hms)) ?_ ?_⟩
    · rintro i x H0 H' hi ⟨e3, hd⟩ ⟨T', x1, x2, rfl, hT, rfl, hx1, hx2⟩
      cases hx1
      obtain ⟨pp, qq, cc, bb, rfl, hm2, hp2, hc2⟩ := (hmd.fz (Fz.ex e3)).get hx2
      have e4 : Ex H2 (upd H0 T' (.tup [.int (i : Nat), .ref pp])) := e3.trans (Ex.new hT)
      have hTT : (upd H0 T' (.tup [.int (i : Nat), .ref pp])) T' = some (.tup [.int (i : Nat), .ref pp]) := upd_same
      have hd4 : (upd H0 T' (.tup [.int (i : Nat), .ref pp])) DD = some (.lst (nats (wr (Pf fl) (Fo (fis.take j)) (cl.take i) 0))) := Ex.new hT _ _ hd
      have hp4 := fz_t (Fz.new (o := .tup [.int (i : Nat), .ref pp]) hT) hp2
      have hc4 := fz_t (Fz.new (o := .tup [.int (i : Nat), .ref pp]) hT) hc2
      generalize upd H0 T' (.tup [.int (i : Nat), .ref pp]) = H4 at e4 hTT hd4 hp4 hc4 ⊢
      have hclen : cl.length = ms.length := hmd.len.symm
      have hil : (cl.take i).length = i := by rw [List.length_take]; omega
      have hsn := wr_snoc (Pf fl) (Fo (fis.take j)) cc bb (cl.take i) 0
      rw [hil, Nat.zero_add] at hsn
      have htk : cl.take (i + 1) = cl.take i ++ [(cc, bb)] := by rw [List.take_succ, hm2] <;> rfl
      have hgo : ∀ H5, Ex H4 H5 → H5 DD = some (.lst (nats (wr (Pf fl) (Fo (fis.take j)) (cl.take i) 0))) := fun H5 e => e _ _ hd4
      refine ⟨T', _, rfl, .inl (.inl hTT), rfl, _, _, rfl, _, _, rfl, rfl, rfl, ?_⟩
      refine ⟨_, rfl, pp, _, 0, _, rfl, rfl, hp4, rfl, _, rfl, qq, _, rfl, hc4, fun cnd => absurd cnd.2 (show ¬ HT.sIx 5 5 (some 3) = 5 by decide), fun _ r hr2 => ?_⟩
      have e5 : Ex H4 (upd H4 r (.tup (cutV (clV cc) none (some 3)))) := Ex.new hr2
      have hrr : SqT K (upd H4 r (.tup (cutV (clV cc) none (some 3)))) r (scV cc.sc) := .inl (.inl upd_same)
      generalize upd H4 r (.tup (cutV (clV cc) none (some 3))) = H5 at e5 hrr ⊢
      have e45 := e4.trans e5
      refine ⟨_, rfl, scKey cc.sc, fp, fvs, fl.map scKey, rfl, .inr (fz_t (Fz.ex e45) hfv2), sc_nk hrr, sc_nks (hfl.imp fun _ _ ⟨q, a, b⟩ => ⟨q, a, fz_t (((fz1.trans (Fz.ex e2)).trans (Fz.ex e45))) b⟩), (by show 1 ≤ 60; decide), _, rfl, ?_⟩
      rw [if_neg (by decide), sc_in]
      have hno : ¬ (Pf fl cc.sc = true ∧ Fo (fis.take j) i = false) → Ex H2 H5 ∧ H5 DD = some (.lst (nats (wr (Pf fl) (Fo (fis.take j)) (cl.take (i + 1)) 0))) := fun z => by
        refine ⟨e45, ?_⟩
        rw [htk, hsn, if_neg z, List.append_nil]
        exact e5 _ _ hd4
      by_cases c1 : cc.sc ∈ fl
      · refine iteP c1 ?_
        refine ⟨_, rfl, _, rfl, .num _, tf, _, _, rfl, .inr (fz_t (Fz.ex e45) htf2), .num _, nk_nums _, Nat.zero_le _, _, rfl, ?_⟩
        rw [if_pos rfl, num_in]
        cases hG : Fo (fis.take j) i with
        | true => exact iteF (hno fun z => by rw [hG] at z; cases z.2)
        | false =>
          refine iteT ?_
          refine ⟨_, rfl, _, e5 _ _ hd4, ?_, e45.mut hDD, ?_⟩
          · have := wr_len (Pf fl) (Fo (fis.take j)) (cl.take i) 0
            rw [List.length_map, sizeLine_eq]
            omega
          · rw [upd_same, htk, hsn, if_pos ⟨decide_eq_true c1, hG⟩]
            simp [nats]
      · exact iteN c1 (iteF (hno fun z => c1 (of_decide_eq_true z.1)))
    · rintro H' ⟨e3, hd⟩
      rw [hmd.len, List.take_length] at hd
      have e23 := (e1.trans e2).trans e3
      refine ⟨_, rfl, (by show 0 ≤ sizeLine; decide), fun q9 hq9 => ?_⟩
      have e9 : Ex H' (upd H' q9 (.lst [])) := Ex.new hq9
      refine ⟨DD, q9, _, rfl, rfl, SqL.of (e9 _ _ hd), SqL.of upd_same, ?_⟩
      have hd9 := e9 _ _ hd
      generalize upd H' q9 (.lst []) = H9 at e9 hd9 ⊢
      have e39 := e3.trans e9
      rw [if_neg (by decide)]
      have hrun : (prog eds s d).run (Fo (fis.take j)) 0 = runL eds s d (fis.take j) := rfl
      rw [hrun, hcl] at hstep
      rcases Nat.lt_or_ge j fis.length with hlt | hge
      · have hg := List.getElem?_eq_getElem hlt
        obtain ⟨r, hr2⟩ := hstep.2 _ hg
        rw [hr2] at hd9 ⊢
        refine ⟨_, rfl, iteN (by simp [nats]) ?_⟩
        refine ⟨_, rfl, tf, _, rfl, .inl (fz_t (Fz.ex ((e2.trans e3).trans e9)) htf), _, rfl, DD, _, 0, _, rfl, rfl, SqL.of hd9, atI_zero _ _, ?_, fun t2 ht2 => ?_⟩
        · rw [List.length_append, List.length_map, List.length_take, sizeLine_eq]
          simp only [List.length_cons, List.length_nil]
          omega
        · refine ⟨9 - (j + 1), by omega, j + 1, t2, _, _, _, rfl, hlt, rfl, (e23.trans e9).trans (Ex.new ht2), .inl (.inl ?_)⟩
          rw [upd_same, List.take_succ, hg]
          show some (HO.tup (nats (fis.take j) ++ [.int (fis[j] : Nat)])) = some (HO.tup (nats (fis.take j ++ [fis[j]])))
          rw [show nats (fis.take j ++ [fis[j]]) = nats (fis.take j) ++ [.int (fis[j] : Nat)] from List.map_append]
      · obtain ⟨hw, hfo⟩ := hstep.1 hge
        rw [hw] at hd9 ⊢
        refine ⟨_, rfl, iteP rfl ?_⟩
        refine ⟨_, rfl, k z H9 (e23.trans e9) ?_⟩
        have := hz.fz (Fz.ex e39)
        rw [← hfo]
        exact this
end
end Hs
end
section
set_option Elab.async false
set_option linter.all false
set_option maxRecDepth 100000
set_option maxHeartbeats 4000000
namespace Hs
open PySem PySem.Spec PyProof.Rows L2
open C8 (Cal Met Mak InsC pe_c pe_mk pe_mt pe_mt0 pe_gc call_isC)
open LamX (TabB Tabs ExtN TabS)
open Evl (Ex)
section
variable {P : Program} {w : World} {K : PySem.W.Frag} {mg : Str → Option Value} {base : Heap} {a : Ads}
/-! ### behind_all -/
def spBehA (K : PySem.W.Frag) (a : Ads) : Sp := fun vs H Q _ => ∃ y dl fp st s eds ds fl, vs = [.ref y, .ref dl, .ref fp] ∧ SysOp K a H st y s ∧ StoreAt K a H st eds ∧ EdsOk eds ∧ StOk eds s ∧ DdsAt K H dl ds ∧ FaAt K H fp fl ∧
  ∀ z H', Ex H H' → SysOp K a H' st z (behA eds (Pf fl) s ds) → Q (.ref z) H'
theorem scBehA : FnScope ["system", "deeds", "faulty", "deed"] ["system", "deeds", "faulty"] (defScope s_behind_all) := ⟨rfl, rfl, rfl, by decide +kernel, rfl, by decide +kernel, by decide +kernel⟩
theorem c_behA (T : TX K mg a) : Cal P w K mg base 9 "behind_all" (spBehA K a) [] := by
  refine calF T.d_behind_all (fun _ _ _ _ _ _ us hl => match us, hl with | [_, _, _], _ => rfl) scBehA (fun vs H Q E h => ?_) fun fa cdv A outer s0 H vs Q E hr h => ?_
  · obtain ⟨y, dl, fp, st, s, eds, ds, fl, rfl, _⟩ := h
    rfl
  · obtain ⟨y, dl, fp, st, s, eds, ds, fl, rfl, Sy, S, ok, hs, ⟨dvs, hdl, hds⟩, hfa, k⟩ := h
    have hu := hu_of hr
    have hR := c_refusal (P := P) (w := w) (base := base) T
    have hB := c_beh1 (P := P) (w := w) (base := base) T
    refine ⟨_, pss_cons (ps_for PassesOwn.never rfl (pi_list (pv 1)) (pg_name (i := 3) scBehA.nd rfl (Or.inl rfl))
        (pss_one (ps_if (pt_cmp (pc_isN (pe_cc hR hr (pa_cons (pv 0) (pa_cons (pv 3) pa_nil))))) (pss_one (ps_set (i := 0) scBehA.nd rfl (Or.inl rfl) (pe_cc hB hr (pa_cons (pv 0) (pa_cons (pv 3) (pa_cons (pv 2) pa_nil)))))) pss_nil)))
      (pss_one (ps_ret (pv 0))), ?_⟩
    have hdn := hds.len
    refine ⟨_, rfl, dl, rfl, ⟨dvs, hdl⟩, for_it walk_list (fun i σ H' => ∃ y' v, σ = [some (.ref y'), some (.ref dl), some (.ref fp), v] ∧ Ex H H' ∧ SysOp K a H' st y' (behA eds (Pf fl) s (ds.take i))) ⟨y, none, rfl, Ex.refl _, Sy⟩ (fun i σ H' _ ⟨_, _, _, e, _⟩ => sqL_extN (ExtN.of e) hdl) ?_ ?_⟩
    · rintro i v σ H0 H' hi ⟨y', v', rfl, e1, hy⟩ ⟨rfl, hv⟩
      obtain ⟨d, hdi, pd, rfl, hpd⟩ := hds.get hv
      have hb : behA eds (Pf fl) s (ds.take (i + 1)) = beh1 eds (Pf fl) (behA eds (Pf fl) s (ds.take i)) d := by
        rw [List.take_succ, hdi]
        exact List.foldl_append
      have hok : StOk eds (behA eds (Pf fl) s (ds.take i)) := behA_ok hs
      generalize behA eds (Pf fl) s (ds.take i) = s1 at hy hb hok
      refine ⟨_, rfl, _, rfl, y', st, s1, eds, pd, d, rfl, hy, S.fz (Fz.ex e1), ok, hok, fz_t (Fz.ex e1) hpd, fun r H2 e2 hrv => ?_⟩
      have e12 := e1.trans e2
      rcases refN hrv with ⟨hrf, q, rfl⟩ | ⟨hrf, rfl⟩
      · refine ⟨_, rfl, iteF ⟨y', _, rfl, e12, ?_⟩⟩
        rw [hb]
        unfold beh1
        rw [if_pos hrf]
        exact hy.fz (Fz.ex e2)
      · refine ⟨_, rfl, iteT ?_⟩
        refine ⟨_, rfl, _, rfl, _, rfl, y', pd, fp, st, s1, eds, d, fl, rfl, hy.fz (Fz.ex e2), S.fz (Fz.ex e12), ok, hok, fz_t (Fz.ex e12) hpd, hrf, hfa.fz (Fz.ex e12), fun z H3 e3 hz => ?_⟩
        refine ⟨z, _, rfl, e12.trans e3, ?_⟩
        rw [hb]
        unfold beh1
        rw [if_neg (by rw [hrf]; decide)]
        exact hz
    · rintro σ H' ⟨y', v', rfl, e1, hy⟩
      rw [hdn, List.take_length] at hy
      exact ⟨_, rfl, k y' H' e1 hy⟩
end
end Hs
end
section
set_option Elab.async false
set_option linter.all false
set_option maxRecDepth 100000
set_option maxHeartbeats 4000000
namespace Hs
open PySem PySem.Spec PyProof.Rows L2
/-! ### enumerate(a tuple) -/
theorem meets_enum1 {v : Value} {o : Obj} {H : Heap → Prop} (B : Begins v o H) :
    Meets (Builtin.«enumerate.__new__» ⟨[.type "enumerate", v], []⟩) (fun _ R s => H s.heap ∧
      R (.ok (.ret (.ref (s.heap.push o).objs.size))) { s with heap := (s.heap.push o).push { cls := .type "enumerate", data := .fields #[.none, .bool false, .ref s.heap.objs.size, rawInt 0, .none, .none] } }) :=
  .of_wp fun prog w A R s h => by
    obtain ⟨hp, g, d, tk, os⟩ := s; obtain ⟨h1, h⟩ := h
    have hsub := sub_enumerate
    have q1 : ∀ {A' : Around} {E : Value → Shared → Prop} {Q : Value → Shared → Prop}, Q (.ref hp.objs.size) ⟨hp.push o, g, d, tk, os⟩ → wpAny (model prog w) A' (pyIter v) Q E ⟨hp, g, d, tk, os⟩ :=
      fun q => B.iter prog w _ _ ⟨hp, g, d, tk, os⟩ _ h1 q
    wp_walk using q1
    refine wpAny_stack_any fun st => wpAny_pure ?_
    split
    · rename_i c _ _ _ _ _
      cases (c == Value.type "enumerate")
      · wp_walk using q1
        exact ⟨_, rfl, h⟩
      · wp_walk using q1
        exact ⟨_, rfl, h⟩
    · wp_walk using q1
      exact ⟨_, rfl, h⟩
theorem enum_begins1 {prog : Program} {w : World} {A : Around} {E : Value → Shared → Prop} {s : Shared} {v : Value} {o : Obj} {H : Heap → Prop} {Q : Value → Shared → Prop} (B : Begins v o H) (h1 : H s.heap)
    (h : ∀ h', IsEnum h' (s.heap.objs.size + 1) s.heap.objs.size 0 .none → h'.get? s.heap.objs.size = some o → h'.objs.size = s.heap.objs.size + 2 →
      (∀ b o, s.heap.get? b = some o → h'.get? b = some o) → Q (.ref (s.heap.objs.size + 1)) { s with heap := h' }) :
    wpAny (model prog w) A (call (.type "enumerate") [v]) Q E s := by
  refine callType_new F.called_enumerate (by decide) (F.typeCall_enumerate_1 _) (F.newCall_enumerate_1 _) (fun obj => F.args_object_init_2 obj _) F.entry_enumerate_new
    (meets_enum1 B) ⟨h1, ?_⟩
  have hz : (s.heap.push o).objs.size = s.heap.objs.size + 1 := Heap.size_push ..
  show _ ∧ _
  rw [hz]
  have he : IsEnum ((s.heap.push o).push { cls := .type "enumerate", data := .fields #[.none, .bool false, .ref s.heap.objs.size, rawInt 0, .none, .none] }) (s.heap.objs.size + 1) s.heap.objs.size 0 .none := by
    have := Heap.get?_push_size (s.heap.push o) (o := { cls := .type "enumerate", data := .fields #[.none, .bool false, .ref s.heap.objs.size, rawInt 0, .none, .none] }) rfl
    rw [hz] at this; exact this
  refine ⟨⟨_, he, rfl⟩, h _ he (Heap.get?_push_of_some _ (Heap.get?_push_size _ B.free)) (by rw [Heap.size_push, hz]) fun b o x => Heap.get?_push_of_some _ (Heap.get?_push_of_some _ x)⟩
/-- the tuple at a, each item in a new pair -/
def IteT (K : PySem.W.Frag) (a : Addr) : It :=
  ⟨fun i H => ∃ (xs : List V) (x : V), SqT K H a xs ∧ xs[i]? = some x, fun i H v H' => ∃ T x, v = .ref T ∧ H T = none ∧ H' = upd H T (.tup [.int (i : Nat), x]) ∧ ∀ xs, SqT K H a xs → xs[i]? = some x, fun i H => ∃ xs : List V, SqT K H a xs ∧ xs.length = i⟩
theorem turn_enumT {P : Program} {w : World} {K : PySem.W.Frag} {elts : List Expr} {kk : Nat} {tpos : Pos} (a e it : Addr) :
    Turn P w K (.Tuple elts kk tpos) (IteT K a) [e, it] e (fun i h => (∃ old, IsEnum h e it ((i : Nat) : Int) old) ∧ h.IsTupleIter it a i ∧ e ≠ it) where
  mem := by simp
  obj := fun i h st b hb => by
    obtain ⟨⟨old, he⟩, ⟨o, ho, hc, hd⟩, _⟩ := st
    have e' : b = e ∨ b = it := by simpa using hb
    rcases e' with z | z
    · rw [z]; exact ⟨_, he, fun v q => nomatch q⟩
    · rw [z]; exact ⟨o, ho, fun v q => by rw [hd] at q; cases q⟩
  keep := fun i h h' st k => let ⟨⟨old, he⟩, hi, hne⟩ := st; ⟨⟨old, k e (by simp) _ he⟩, hi.at fun o q => k it (by simp) o q, hne⟩
  item := by
    intro X hP hw hK hc i pins s σ H E I hf st hg
    subst hP hw hK
    obtain ⟨⟨old, he⟩, hit, hne⟩ := st
    obtain ⟨xs, x, hq, hx⟩ := hg
    obtain ⟨its, rv, p, hz⟩ := I.tuple hq
    obtain ⟨u, hu, ru⟩ := rv.get hx
    have p : s.heap.IsTuple a its.toArray := p
    have hel : e < s.heap.objs.size := Heap.lt_size he
    have hil : it < s.heap.objs.size := by obtain ⟨_, q, _⟩ := hit; exact Heap.lt_size q
    have nai : a ≠ it := fun z => by
      obtain ⟨o1, q1, c1, d1⟩ := hit
      obtain ⟨o2, q2, c2, n2, d2⟩ := p
      rw [z, q1] at q2
      cases q2
      rw [d1] at d2
      cases d2
    have nea : e ∉ [it, a] := fun z => by
      rcases List.mem_cons.mp z with z | z
      · exact hne z
      · rw [List.mem_singleton.mp z] at he
        obtain ⟨o2, q2, c2, n2, d2⟩ := p
        rw [he] at q2
        cases q2
        cases d2
    have D := Draws.tuple (prog := X.prog) (w := X.w) (A := X.A.in1) (I.ok.hd hc) it a nai its.toArray
    have hlt : i < its.toArray.size := by
      have := (List.getElem?_eq_some_iff.mp hu).1
      simpa using this
    refine wpAny_pyNext_enum_itemD D he ⟨hit, p⟩ hlt hne nea fun x' h' tk hx' ho hst hT hsz hk => ?_
    have hxu : x' = u := by
      have h1 : its[i]? = some x' := by simpa using hx'
      rw [hu] at h1
      exact (Option.some.inj h1).symm
    subst hxu
    refine ⟨_, rfl, wpAny_letOwnedTupleGo_enum (s := { s with heap := h', toks := tk + 1 }) ho fun h'' he' sb => ?_⟩
    have hT2 : h''.get? s.heap.objs.size = some { cls := .type "tuple", data := .seq #[.int i tk, x'] } := (sb.2 _ (Nat.ne_of_gt hel)).trans hT
    have new : ObjOk X.prog X.w (upd H s.heap.objs.size (.tup [.int (i : Nat), x])) h'' s.heap.objs.size (.tup [.int (i : Nat), x]) :=
      ⟨by show 2 ≤ sizeLine; decide, [.int i tk, x'], .cons ⟨_, rfl⟩ (.cons ru .nil), ⟨_, hT2, rfl, _, rfl⟩⟩
    have I1 : Inv X pins σ (upd H s.heap.objs.size (.tup [.int (i : Nat), x])) { s with heap := h'', toks := tk + 1 } :=
      I.turnedNew (ch := [e, it]) (fun b ob hb q => (sb.2 b (fun z => hb (by simp [z]))).trans (hk b ob (fun z => hb (by simp [z])) (fun z => hb (by simp [z])) q)) hf (Nat.le_refl _) new
    refine ⟨.ref s.heap.objs.size, _, I1, rfl, ⟨_, x, rfl, I.hok.fresh (Nat.le_refl _), rfl, fun ys hy => by rw [I.tuple_inj hy hq]; exact hx⟩, ⟨⟨x', ?_⟩, hst.1.at fun o q => (sb.2 it (Ne.symm hne)).trans q, hne⟩, fun b hb => ?_⟩
    · have e1 : ((i + 1 : Nat) : Int) = (i : Int) + 1 := by omega
      rw [e1]; exact he'
    · have hb' : b < s.heap.objs.size := by
        have e' : b = e ∨ b = it := by simpa using hb
        rcases e' with z | z
        · rw [z]; exact hel
        · rw [z]; exact hil
      rw [upd_ne (Nat.ne_of_lt hb')]
      exact (hf b hb).1
  done := by
    intro X hP hw hK hc i pins s σ H E I hf st hg
    subst hP hw hK
    obtain ⟨⟨old, he⟩, hit, hne⟩ := st
    obtain ⟨xs, hq, hx⟩ := hg
    obtain ⟨its, rv, p, hz⟩ := I.tuple hq
    have p : s.heap.IsTuple a its.toArray := p
    obtain ⟨f0, f1, f2, f3, f4, f5⟩ := hf it (by simp)
    have hl := rv.length
    have nai : a ≠ it := fun z => by
      obtain ⟨o1, q1, c1, d1⟩ := hit
      obtain ⟨o2, q2, c2, n2, d2⟩ := p
      rw [z, q1] at q2
      cases q2
      rw [d1] at d2
      cases d2
    have D := Draws.tuple (prog := X.prog) (w := X.w) (A := X.A.in1) (I.ok.hd hc) it a nai its.toArray
    have hi : i = its.toArray.size := by simp; omega
    exact wpAny_pyNext_enum_endD D he (by rw [← hi]; exact ⟨hit, p⟩) fun h' eb => ⟨rfl, I.turned (t' := s.toks) (fun b o hb q => eb b o hb q) f0 f1 f3 f4 f5⟩
  self := fun A i s Q E st h => let ⟨⟨_, he⟩, _⟩ := st; wpAny_pyIter_enum he h
def iEnumT (K : PySem.W.Frag) (ta : TA) : TI := fun σ H R => ta σ H fun vs H1 => ∃ a xs, vs = [.ref a] ∧ SqT K H1 a xs ∧ R (IteT K a) H1
theorem pi_enumT {X : Cx} {e : Expr} {ta : TA} {p pos tpos : Pos} {elts : List Expr} {kk : Nat} (hg : Gl X "enumerate") (hm : X.mg "enumerate" = none) (ha : PA X [e] ta) (hs : starEach [e] X.env = [(false, eval e X.env)] := by rfl) :
    PI X (.Tuple elts kk tpos) (.Call (.Name "enumerate" p) [e] [] pos) (iEnumT X.K ta) := by
  refine ⟨fun pins s σ H R I h => ?_⟩
  refine Call_ (ld_blt I hg hm boot_enumerate (PyProof.Rows.callWith_type1 (thn (ha.run pos pins s σ H _ I h) fun us s1 ⟨vs, H1, I1, r1, q1⟩ => ?_) hs rfl))
  obtain ⟨a, xs, ex, hq, q⟩ := q1
  subst ex
  cases r1 with
  | cons r rr =>
    cases rr
    cases r
    obtain ⟨its, rv, p', hz⟩ := I1.tuple hq
    refine enum_begins1 (begins_tuple a its.toArray) p' fun h' he hit hsz hk => wpAny_pyIter_enum he ?_
    have I2 : Inv X pins σ H1 { s1 with heap := h' } := I1.kept (t' := s1.toks) hk
    refine ⟨s1.heap.objs.size + 1, [s1.heap.objs.size + 1, s1.heap.objs.size], _, _, H1, rfl, I2, turn_enumT a (s1.heap.objs.size + 1) s1.heap.objs.size, ⟨⟨.none, he⟩, ⟨_, hit, rfl, rfl⟩, Nat.succ_ne_self _⟩, fun b hb => ?_, q⟩
    have e' : b = s1.heap.objs.size + 1 ∨ b = s1.heap.objs.size := by simpa using hb
    have hle : s1.heap.objs.size ≤ b := by
      rcases e' with z | z
      · rw [z]; exact Nat.le_add_right _ _
      · rw [z]; exact Nat.le_refl _
    exact I1.fpOk hle (I1.hok.fresh hle)
theorem walk_enumT {K : PySem.W.Frag} {a : Addr} {xs : List V} : Walk (IteT K a) xs.length (fun H => SqT K H a xs) (YPair (fun i => some (.int (i : Nat))) (fun i => xs[i]?)) := by
  refine ⟨fun i H hi q => ⟨xs, xs[i], q, by simp [hi]⟩, fun H q => ⟨xs, q, rfl⟩, fun i H x H' _ q y => ?_⟩
  obtain ⟨T, z, h1, h2, h3, h4⟩ := y
  exact ⟨T, .int (i : Nat), z, h1, h2, h3, rfl, h4 xs q⟩
end Hs
end
section
set_option Elab.async false
set_option linter.all false
set_option maxRecDepth 100000
set_option maxHeartbeats 4000000
namespace Hs
open PySem PySem.Spec PyProof.Rows L2
open C8 (Cal Met Mak InsC pe_c pe_mk pe_mt pe_mt0 pe_gc call_isC)
open LamX (TabB Tabs ExtN TabS)
open PySem.W (AllAlike Sortable dataLe)
open Evl (Ex)
section
variable {P : Program} {w : World} {K : PySem.W.Frag} {mg : Str → Option Value} {base : Heap} {a : Ads}
/-! ### System.store -/
/-! ### behind -/
def spBehF (K : PySem.W.Frag) (a : Ads) : Sp := fun vs H Q _ => ∃ y dl fp st s eds ds fl, vs = [.ref y, .ref dl, .ref fp] ∧ SysOp K a H st y s ∧ StoreAt K a H st eds ∧ EdsOk eds ∧ StOk eds s ∧ DdsAt K H dl ds ∧ FaAt K H fp fl ∧ (∀ c ∈ fl, scOk eds c = true) ∧
  ∀ z H', Ex H H' → SysOp K a H' st z (behA eds (Pf fl) s ds) → Q (.ref z) H'
theorem scBehF : FnScope ["system", "deeds", "faulty", "index", "script"] ["system", "deeds", "faulty"] (defScope s_behind) := ⟨rfl, rfl, rfl, by decide +kernel, rfl, by decide +kernel, by decide +kernel⟩
theorem c_behF (T : TX K mg a) : Cal P w K mg base 10 "behind" (spBehF K a) [] := by
  refine calF T.d_behind (fun _ _ _ _ _ _ us hl => match us, hl with | [_, _, _], _ => rfl) scBehF (fun vs H Q E h => ?_) fun fa cdv A outer s0 H vs Q E hr h => ?_
  · obtain ⟨y, dl, fp, st, s, eds, ds, fl, rfl, _⟩ := h
    rfl
  · obtain ⟨y, dl, fp, st, s, eds, ds, fl, rfl, Sy, S, ok, hs, hds, hfa, hsc, k⟩ := h
    have hu := hu_of hr
    have hI := c_is_script (P := P) (w := w) (base := base) T
    have hB := c_behA (P := P) (w := w) (base := base) T
    have hP := p_store (P := P) (w := w) (base := base) T
    refine ⟨_, pss_cons (ps_for PassesOwn.never rfl (pi_enumT (by rfl) T.f_enumerate (pa_cons (pv 2) pa_nil)) (pg_tup rfl (pgs_cons (pg_name (i := 3) scBehF.nd rfl (Or.inl rfl)) (pgs_cons (pg_name (i := 4) scBehF.nd rfl (Or.inl rfl)) pgs_nil)))
        (pss_one (ps_if (pt_not (pt_val (pe_cc hI hr (pa_cons (pe_pr hP hr (by decide) (pv 0)) (pa_cons (pv 4) pa_nil))))) pss_never pss_nil)))
      (pss_one (ps_ret (pe_cc hB hr (pa_cons (pv 0) (pa_cons (pv 1) (pa_cons (pv 2) pa_nil)))))), ?_⟩
    obtain ⟨fvs, hfv, hfl⟩ := id hfa
    obtain ⟨dy, ry, ty, y1, _, _⟩ := id Sy
    refine ⟨_, rfl, fp, fvs, rfl, hfv, for_it walk_enumT (fun i σ H' => ∃ v3 v4, σ = [some (.ref y), some (.ref dl), some (.ref fp), v3, v4] ∧ Ex H H') ⟨_, _, rfl, Ex.refl _⟩ (fun i σ H' _ ⟨_, _, _, e⟩ => fz_t (Fz.ex e) hfv) ?_ ?_⟩
    · rintro i x σ H0 H' hi ⟨v3, v4, rfl, e1⟩ ⟨T', x1, x2, rfl, hT, rfl, hx1, hx2⟩
      cases hx1
      obtain ⟨c, hc, q, rfl, hq⟩ := hfl.get hx2
      have e2 : Ex H (upd H0 T' (.tup [.int (i : Nat), .ref q])) := e1.trans (Ex.new hT)
      have hTT : (upd H0 T' (.tup [.int (i : Nat), .ref q])) T' = some (.tup [.int (i : Nat), .ref q]) := upd_same
      generalize upd H0 T' (.tup [.int (i : Nat), .ref q]) = H2 at e2 hTT ⊢
      refine ⟨T', _, rfl, .inl (.inl hTT), rfl, _, _, rfl, _, _, rfl, rfl, ?_⟩
      refine ⟨_, rfl, y, dy, _, rfl, e2 _ _ y1, y, st, s, rfl, (Sy.fz (Fz.ex e2)).at, _, rfl, st, q, eds, c, rfl, S.fz (Fz.ex e2), fz_t (Fz.ex e2) hq, fun H3 e3 => ?_⟩
      refine ⟨_, rfl, ?_⟩
      rw [hsc c (List.mem_of_getElem? hc)]
      exact iteF ⟨_, _, rfl, e2.trans e3⟩
    · rintro σ H' ⟨v3, v4, rfl, e1⟩
      refine ⟨_, rfl, _, rfl, _, rfl, y, dl, fp, st, s, eds, ds, fl, rfl, Sy.fz (Fz.ex e1), S.fz (Fz.ex e1), ok, hs, hds.extN (ExtN.of e1), hfa.fz (Fz.ex e1), fun z H3 e3 hz => ?_⟩
      exact k z H3 (e1.trans e3) hz
end
end Hs
end
section
set_option Elab.async false
set_option linter.all false
set_option maxRecDepth 100000
set_option maxHeartbeats 4000000
namespace Hs
open PySem PySem.Spec PyProof.Rows L2
open C8 (Cal Met Mak InsC pe_c pe_mk pe_mt pe_mt0 pe_gc call_isC)
open LamX (TabB Tabs ExtN TabS)
open PySem.W (AllAlike Sortable dataLe)
open Evl (Ex)
/-- a script at v -/
def ScV (K : PySem.W.Frag) (H : Hp) (v : V) (c : Sc) : Prop := ∃ q, v = .ref q ∧ SqT K H q (scV c)
theorem ScV.fz {K : PySem.W.Frag} {H H' : Hp} {v : V} {c : Sc} (e : Fz H H') (h : ScV K H v c) : ScV K H' v c := by
  obtain ⟨q, h1, h2⟩ := h
  exact ⟨q, h1, fz_t e h2⟩
/-- a tuple of scripts at v -/
def FaV (K : PySem.W.Frag) (H : Hp) (v : V) (fl : List Sc) : Prop := ∃ q, v = .ref q ∧ FaAt K H q fl
theorem FaV.fz {K : PySem.W.Frag} {H H' : Hp} {v : V} {c : List Sc} (e : Fz H H') (h : FaV K H v c) : FaV K H' v c := by
  obtain ⟨q, h1, h2⟩ := h
  exact ⟨q, h1, h2.fz e⟩
theorem FaAt.nks {K : PySem.W.Frag} {H : Hp} {p : Addr} {fl : List Sc} (h : FaAt K H p fl) : ∃ vs, SqT K H p vs ∧ All2 (ScV K H) vs fl ∧ NkAll K H vs (fl.map scKey) := by
  obtain ⟨vs, h1, h2⟩ := h
  exact ⟨vs, h1, h2, sc_nks h2⟩
section
variable {P : Program} {w : World} {K : PySem.W.Frag} {mg : Str → Option Value} {base : Heap} {a : Ads}
/-! ### is_part -/
def spIsPart (K : PySem.W.Frag) : Sp := fun vs H Q _ => ∃ p q fl gl, vs = [.ref p, .ref q] ∧ FaAt K H p fl ∧ FaAt K H q gl ∧ fl.length ≤ 1000 ∧ ∀ H', Ex H H' → Q (.bl (isPart fl gl)) H'
theorem scIsPart : FnScope ["one", "other", "script"] ["one", "other"] (defScope s_is_part) := ⟨rfl, rfl, rfl, by decide +kernel, rfl, by decide +kernel, by decide +kernel⟩
theorem c_is_part (T : TX K mg a) : Cal P w K mg base 1 "is_part" (spIsPart K) [] := by
  refine calF T.d_is_part (fun _ _ _ _ _ _ us hl => match us, hl with | [_, _], _ => rfl) scIsPart (fun vs H Q E h => ?_) fun fa cdv A outer s0 H vs Q E hr h => ?_
  · obtain ⟨p, q, fl, gl, rfl, _⟩ := h
    rfl
  · obtain ⟨p, q, fl, gl, rfl, hp, hq, hl, k⟩ := h
    have hu := hu_of hr
    refine ⟨_, pss_one (ps_ret (pe_callB (cr_all rfl) (by rfl) T.f_all PyProof.Rows.boot_all (pa_cons
      (pe_lc (own := [("script", 2)]) (g := gName 2) (tt := tYes) rfl scIsPart.nd (pi_tup (pv 0)) (blkOk_by (N := ["one", "other", "script"]) (sc := defScope s_is_part) (by decide +kernel))
        (fun _ _ _ _ _ => pg_name (i := 2) scIsPart.nd rfl (Or.inl rfl)) (fun _ _ _ _ _ => pts_nil) (fun _ _ _ _ _ => pe_cmpR (op_inNK K rfl hr.units) (pv 2) (pv 1) rfl)) pa_nil))), ?_⟩
    obtain ⟨vs, hv, hvl, _⟩ := hp.nks
    obtain ⟨ws, hw, hwl, hwk⟩ := hq.nks
    have hn := hvl.len
    refine ⟨_, rfl, p, rfl, ⟨vs, hv⟩, fun DD hDD => lc_it (walk_tup (xs := vs)) (fun i H' => Ex H H' ∧ H' DD = some (.lst (((fl.take i).map fun x => decide (x ∈ gl)).map V.bl))) ⟨Ex.new hDD, upd_same⟩ (fun i H' _ q => fz_t (Fz.ex q.1) hv) ?_ ?_⟩
    · rintro i x H0 H' hi ⟨e3, hd⟩ ⟨rfl, hx⟩
      obtain ⟨c, hc, qq, rfl, hqq⟩ := hvl.get hx
      refine ⟨rfl, yes_ok ?_⟩
      refine ⟨_, rfl, _, rfl, scKey c, q, ws, gl.map scKey, rfl, .inr (fz_t (Fz.ex e3) hw), sc_nk (fz_t (Fz.ex e3) hqq), hwk.fz (Fz.ex e3), (by show 1 ≤ 60; decide), _, hd, ?_, e3.mut hDD, ?_⟩
      · rw [List.length_map, List.length_map, List.length_take, sizeLine_eq]
        omega
      · rw [if_neg (by decide), sc_in, upd_same, List.take_succ, hc, List.map_append, List.map_append]
        rfl
    · rintro H' ⟨e3, hd⟩
      rw [hn, List.take_length] at hd
      refine ⟨DD, _, rfl, SqL.of hd, ?_⟩
      have z := k H' e3
      have e : (fl.map fun x => decide (x ∈ gl)).all id = isPart fl gl := by
        rw [List.all_map]
        unfold isPart
        refine congrArg (fun f => List.all fl f) (funext fun x => ?_)
        exact decide_eq_decide.mpr Iff.rfl
      rw [e]
      exact z
end
end Hs
end
section
set_option Elab.async false
set_option linter.all false
set_option maxRecDepth 100000
set_option maxHeartbeats 4000000
namespace Hs
open PySem PySem.Spec PyProof.Rows L2
open C8 (Cal Met Mak InsC pe_c pe_mk pe_mt pe_mt0 pe_gc call_isC)
open LamX (TabB Tabs ExtN TabS)
open PySem.W (AllAlike Sortable dataLe)
open Evl (Ex)
theorem cut_from {xs : List V} {k : Nat} : cutV xs (some (k : Int)) none = xs.drop k := by
  unfold cutV
  rw [HT.sIx_nat, HT.sIx_none]
  rcases Nat.le_total k xs.length with h | h
  · rw [Nat.min_eq_left h]
    exact List.take_of_length_le (by rw [List.length_drop]; exact Nat.le_refl _)
  · rw [Nat.min_eq_right h, Nat.sub_self, List.take_zero, List.drop_eq_nil_of_le h]
theorem cut_to {xs : List V} {k : Nat} : cutV xs none (some (k : Int)) = xs.take k := by
  unfold cutV
  rw [HT.sIx_nat, HT.sIx_none, List.drop_zero, Nat.sub_zero]
  rcases Nat.le_total k xs.length with h | h
  · rw [Nat.min_eq_left h]
  · rw [Nat.min_eq_right h, List.take_length, List.take_of_length_le h]
theorem cut_init {xs : List V} : cutV xs none (some (-1)) = xs.dropLast := by
  unfold cutV
  rw [HT.sIx_none, List.drop_zero, Nat.sub_zero, List.dropLast_eq_take]
  refine congrArg (fun n => xs.take n) ?_
  simp only [HT.sIx]
  rw [if_pos (by decide)]
  omega
theorem All2.drop {α β : Type} {R : α → β → Prop} : ∀ {vs : List α} {fs : List β} (n : Nat), All2 R vs fs → All2 R (vs.drop n) (fs.drop n)
  | _, _, 0, h => h
  | _, _, n + 1, .nil => .nil
  | _, _, n + 1, .cons _ t => All2.drop n t
theorem All2.take {α β : Type} {R : α → β → Prop} : ∀ {vs : List α} {fs : List β} (n : Nat), All2 R vs fs → All2 R (vs.take n) (fs.take n)
  | _, _, 0, h => .nil
  | _, _, n + 1, .nil => .nil
  | _, _, n + 1, .cons h t => .cons h (All2.take n t)
section
variable {P : Program} {w : World} {K : PySem.W.Frag} {mg : Str → Option Value} {base : Heap} {a : Ads}
/-! ### sets_of -/
def spSetsOf (K : PySem.W.Frag) (n : Nat) : Sp := fun vs H Q _ => ∃ (l : Addr) (size : Nat) (xs : List V) (scs : List Sc), vs = [.ref l, .int size] ∧ size ≤ n ∧ SqL K H l xs ∧ All2 (ScV K H) xs scs ∧ scs.length ≤ 8 ∧
  ∀ r zs H', Ex H H' → H r = none → H' r = some (.lst zs) → All2 (FaV K H') zs (setsOf scs size) → Q (.ref r) H'
theorem scSetsOf : FnScope ["scripts", "size", "found", "place", "script", "rest"] ["scripts", "size"] (defScope s_sets_of) := ⟨rfl, rfl, rfl, by decide +kernel, rfl, by decide +kernel, by decide +kernel⟩
theorem setsOf_256 {scs : List Sc} {n : Nat} (h : scs.length ≤ 8) : (setsOf scs n).length ≤ 256 :=
  Nat.le_trans setsOf_few (Nat.pow_le_pow_right (by decide) h)
theorem c_sets_of (T : TX K mg a) : ∀ n : Nat, Cal P w K mg base (n + 1) "sets_of" (spSetsOf K n) []
  | 0 => by
    refine calF T.d_sets_of (fun _ _ _ _ _ _ us hl => match us, hl with | [_, _], _ => rfl) scSetsOf (fun vs H Q E h => ?_) fun fa cdv A outer s0 H vs Q E hr h => ?_
    · obtain ⟨l, size, xs, scs, rfl, _⟩ := h
      rfl
    · obtain ⟨l, size, xs, scs, rfl, hn, hl, hx, h8, k⟩ := h
      obtain rfl : size = 0 := by omega
      refine ⟨_, pss_cons (ps_if (pt_cmpR op_eq (pv 1) pe_int (nomark _)) (pss_one (ps_ret (pe_lst (pa_cons (pe_tup pa_nil) pa_nil)))) pss_nil) pss_dead, ?_⟩
      refine ⟨_, rfl, rfl, _, rfl, iteP rfl ?_⟩
      refine ⟨(by show 0 ≤ sizeLine; decide), fun t ht => ⟨(by show 1 ≤ sizeLine; decide), fun r hr' => ?_⟩⟩
      have ntr : t ≠ r := fun z => by rw [← z, upd_same] at hr'; cases hr'
      refine k r _ _ ((Ex.new ht).trans (Ex.new hr')) (upd_none hr') upd_same ?_
      have e : setsOf scs 0 = [[]] := by cases scs <;> rfl
      rw [e]
      exact .cons ⟨t, rfl, [], .inl (.inl (by rw [upd_ne ntr, upd_same])), .nil⟩ .nil
  | n + 1 => by
    refine calF T.d_sets_of (fun _ _ _ _ _ _ us hl => match us, hl with | [_, _], _ => rfl) scSetsOf (fun vs H Q E h => ?_) fun fa cdv A outer s0 H vs Q E hr h => ?_
    · obtain ⟨l, size, xs, scs, rfl, _⟩ := h
      rfl
    · obtain ⟨l, size, xs, scs, rfl, hn, hl, hx, h8, k⟩ := h
      have hu := hu_of hr
      have hS := c_sets_of T n
      refine ⟨_, pss_cons (ps_if (pt_cmpR op_eq (pv 1) pe_int (nomark _)) (pss_one (ps_ret (pe_lst (pa_cons (pe_tup pa_nil) pa_nil)))) pss_nil)
        (pss_cons (ps_set (i := 2) scSetsOf.nd rfl (Or.inl rfl) (pe_lst pa_nil))
        (pss_cons (ps_for PassesOwn.never rfl (pi_enum (by rfl) T.f_enumerate (pa_cons (pv 0) pa_nil)) (pg_tup rfl (pgs_cons (pg_name (i := 3) scSetsOf.nd rfl (Or.inl rfl)) (pgs_cons (pg_name (i := 4) scSetsOf.nd rfl (Or.inr rfl)) pgs_nil)))
          (pss_one (ps_expr (pe_bm PySem.F.plainAttrs_list PySem.F.slot_list_extend PySem.F.type_list_extend mt_extend (pv 2) (pa_cons
            (pe_lc (own := [("rest", 5)]) (g := gName 5) (tt := tYes) rfl scSetsOf.nd (pi_list (pe_cc hS hr (pa_cons (pe_slice sl_list (pv 0) (po_some (pe_op op_add (pv 3) pe_int)) po_none) (pa_cons (pe_op op_sub (pv 1) pe_int) pa_nil)) (Nat.le_refl _)))
              (blkOk_by (N := ["scripts", "size", "found", "place", "script", "rest"]) (sc := defScope s_sets_of) (by decide +kernel)) (fun _ _ _ _ _ => pg_name (i := 5) scSetsOf.nd rfl (Or.inl rfl)) (fun _ _ _ _ _ => pts_nil)
              (fun _ _ _ _ _ => pe_tup (pa_cons (pv 4) (pa_starK K rfl (pv 5) pa_nil)))) pa_nil)))))
        (pss_one (ps_ret (pv 2))))), ?_⟩
      refine ⟨_, rfl, rfl, _, rfl, ?_⟩
      cases size with
      | zero =>
        refine iteP rfl ?_
        refine ⟨(by show 0 ≤ sizeLine; decide), fun t ht => ⟨(by show 1 ≤ sizeLine; decide), fun r hr' => ?_⟩⟩
        have ntr : t ≠ r := fun z => by rw [← z, upd_same] at hr'; cases hr'
        refine k r _ _ ((Ex.new ht).trans (Ex.new hr')) (upd_none hr') upd_same ?_
        have e : setsOf scs 0 = [[]] := by cases scs <;> rfl
        rw [e]
        exact .cons ⟨t, rfl, [], .inl (.inl (by rw [upd_ne ntr, upd_same])), .nil⟩ .nil
      | succ m =>
        refine iteN (fun z => by injection z with z; omega) ?_
        refine ⟨(by show 0 ≤ sizeLine; decide), fun F hF => ?_⟩
        have e1 : Ex H (upd H F (.lst [])) := Ex.new hF
        have hF1 : (upd H F (.lst [])) F = some (.lst []) := upd_same
        have hl1 : SqL K (upd H F (.lst [])) l xs := sqL_extN (ExtN.of e1) hl
        have hxl := hx.len
        generalize upd H F (.lst []) = H1 at e1 hF1 hl1 ⊢
        have neF : ∀ {H' : Hp} {q : Addr} {xs : List V}, ExtO F H1 H' → SqL K H q xs → SqL K H' q xs := fun {H' q xs} e h => by
          rcases h with (h | ⟨u, h⟩) | h
          · exact .inl (.inl (e _ _ (ne_of_none h hF) (e1 _ _ h) (fun _ z => nomatch z)))
          · exact .inl (.inr ⟨u, e _ _ (ne_of_none h hF) (e1 _ _ h) (fun _ z => nomatch z)⟩)
          · exact .inr h
        refine ⟨_, rfl, l, xs, rfl, hl1, for_it walk_enum (fun i σ H' => ∃ v3 v4, σ = [some (.ref l), some (.int ((m + 1 : Nat) : Int)), some (.ref F), v3, v4, none] ∧ ExB F H1 H' ∧ ∃ zs gs, H' F = some (.lst zs) ∧ All2 (FaV K H') zs gs ∧ gs ++ setsOf (scs.drop i) (m + 1) = setsOf scs (m + 1))
          ⟨none, none, rfl, ExB.rfl', [], [], hF1, .nil, by rw [List.drop_zero, List.nil_append]⟩ (fun i σ H' _ ⟨_, _, _, e, _⟩ => neF (fun b o n h _ => e b o h n) hl) ?_ ?_⟩
        · rintro i x σ H0 H' hi ⟨v3, v4, rfl, eF, zs, gs, hFz, hz, hgs⟩ ⟨T', x1, x2, rfl, hT, rfl, hx1, hx2⟩
          cases hx1
          obtain ⟨c, hc, q, rfl, hq⟩ := hx.get hx2
          have e2 : Ex H0 (upd H0 T' (.tup [.int (i : Nat), .ref q])) := Ex.new hT
          have hTT : (upd H0 T' (.tup [.int (i : Nat), .ref q])) T' = some (.tup [.int (i : Nat), .ref q]) := upd_same
          generalize upd H0 T' (.tup [.int (i : Nat), .ref q]) = H2 at e2 hTT ⊢
          have eF2 : ExB F H1 H2 := eF.trans (ExB.ex e2)
          have fzA : Fz H H2 := (Fz.ex e1).trans (eF2.fz hF1 rfl)
          have hF2 := e2 _ _ hFz
          have hz2 := hz.imp fun _ _ h => h.fz (Fz.ex e2)
          refine ⟨T', _, rfl, .inl (.inl hTT), rfl, _, _, rfl, _, _, rfl, rfl, ?_⟩
          refine ⟨_, rfl, .inl ⟨rfl, _, SqL.of hF2⟩, _, rfl, _, rfl, _, _, rfl, rfl, _, rfl, l, xs, rfl, neF (fun b o n h _ => eF2 b o h n) hl, fun r1 hr1 => ?_⟩
          have hcut : cutV xs (some ((i : Nat) + 1 : Int)) none = xs.drop (i + 1) := cut_from (k := i + 1)
          have hr1' : (upd H2 r1 (.lst (cutV xs (some ((i : Nat) + 1 : Int)) none))) r1 = some (.lst (xs.drop (i + 1))) := by rw [upd_same, hcut]
          have e3 : Ex H2 (upd H2 r1 (.lst (cutV xs (some ((i : Nat) + 1 : Int)) none))) := Ex.new hr1
          generalize upd H2 r1 (.lst (cutV xs (some ((i : Nat) + 1 : Int)) none)) = H3 at hr1' e3 ⊢
          have fzB := fzA.trans (Fz.ex e3)
          have hsz : ((m + 1 : Nat) : Int) - 1 = (m : Nat) := by omega
          refine ⟨_, rfl, _, _, rfl, rfl, r1, m, xs.drop (i + 1), scs.drop (i + 1), by show [V.ref r1, V.int (((m + 1 : Nat) : Int) - 1)] = _; rw [hsz], by omega, SqL.of hr1', (hx.imp fun _ _ h => h.fz fzB).drop (i + 1), by rw [List.length_drop]; omega, fun r2 ys H4 e4 hr2 hr2' hys => ?_⟩
          have e34 := e3.trans e4
          have hF4 := e34 _ _ hF2
          have hql : ys.length ≤ 256 := by
            rw [hys.len]
            exact setsOf_256 (by rw [List.length_drop]; omega)
          refine ⟨r2, rfl, ⟨ys, SqL.of hr2'⟩, fun DD hDD => lc_list (xs := ys) (fun k H' => Ex H4 H' ∧ ∃ us, H' DD = some (.lst us) ∧ All2 (FaV K H') us (((setsOf (scs.drop (i + 1)) m).take k).map (c :: ·)))
            ⟨Ex.new hDD, [], upd_same, .nil⟩ (fun k H' _ q => SqL.of (q.1 _ _ hr2')) ?_ ?_⟩
          · rintro j v H' hv ⟨e5, us, hd, hus⟩
            obtain ⟨fl, hfl, b, rfl, ws, hb, hws⟩ := hys.get hv
            have hul := hus.len
            rw [List.length_map, List.length_take] at hul
            have hjl := (List.getElem?_eq_some_iff.mp hfl).1
            have hm256 : (setsOf (scs.drop (i + 1)) m).length ≤ 256 := setsOf_256 (by rw [List.length_drop]; omega)
            have hwl : ws.length = m := by rw [hws.len]; exact setsOf_len (List.mem_of_getElem? hfl)
            have hm8 : m ≤ 8 := by
              have := (setsOf_sub (List.mem_of_getElem? hfl)).length_le
              rw [setsOf_len (List.mem_of_getElem? hfl), List.length_drop] at this
              omega
            refine ⟨rfl, yes_ok ?_⟩
            refine ⟨_, rfl, _, rfl, b, ws, rfl, .inl (fz_t (Fz.ex e5) hb), ?_, fun t ht => ⟨us, Ex.new ht _ _ hd, by rw [sizeLine_eq]; omega, (e5.trans (Ex.new ht)).mut hDD, _, upd_same, ?_⟩⟩
            · rw [List.length_cons, List.length_append, hwl, sizeLine_eq]
              simp only [List.length_nil]
              omega
            · have fzb := (Fz.new (o := .tup (.ref q :: (ws ++ []))) ht).trans (Fz.put (u := .lst us) (o := .lst (us ++ [.ref t])) (Ex.new ht _ _ hd) rfl)
              rw [List.take_succ, hfl, List.map_append]
              refine (hus.imp fun _ _ h => h.fz fzb).app (.cons ⟨t, rfl, .ref q :: ws, .inl (.inl ?_), .cons ⟨q, rfl, fz_t ((fzB.trans (Fz.ex e4)).trans ((Fz.ex e5).trans fzb)) hq⟩ (hws.imp fun _ _ h => ScV.fz ((Fz.ex e5).trans fzb) h)⟩ .nil)
              rw [upd_ne (ne_of_none hd ht).symm, upd_same, List.append_nil]
          · rintro H' ⟨e5, us, hd, hus⟩
            rw [hys.len, List.take_length] at hus
            have hF5 := e5 _ _ hF4
            have hul := hus.len
            rw [List.length_map] at hul
            have hm256 : (setsOf (scs.drop (i + 1)) m).length ≤ 256 := setsOf_256 (by rw [List.length_drop]; omega)
            have hg256 : gs.length ≤ 256 := by
              have := congrArg List.length hgs
              rw [List.length_append] at this
              have h256 : (setsOf scs (m + 1)).length ≤ 256 := setsOf_256 h8
              omega
            have hzl := hz.len
            refine ⟨F, DD, zs, us, rfl, rfl, hF5, hd, (by rw [sizeLine_eq]; omega), ?_⟩
            have fz : Fz H' (upd H' F (.lst (zs ++ us))) := Fz.put hF5 rfl
            refine ⟨_, _, rfl, (eF2.trans (ExB.ex (e34.trans e5))).trans ExB.put, zs ++ us, gs ++ (setsOf (scs.drop (i + 1)) m).map (c :: ·), upd_same, (hz2.imp fun _ _ h => (h.fz (Fz.ex (e34.trans e5))).fz fz).app (hus.imp fun _ _ h => h.fz fz), ?_⟩
            rw [← hgs, setsOf_drop hc, List.append_assoc]
        · rintro σ H' ⟨v3, v4, rfl, eF, zs, gs, hFz, hz, hgs⟩
          rw [hxl, List.drop_length] at hgs
          have e : setsOf ([] : List Sc) (m + 1) = [] := rfl
          rw [e, List.append_nil] at hgs
          subst hgs
          exact ⟨_, rfl, k F zs H' (ExB.back e1 hF eF) hF hFz hz⟩
end
end Hs
end
section
set_option Elab.async false
set_option linter.all false
set_option maxRecDepth 100000
set_option maxHeartbeats 4000000
namespace Hs
open PySem PySem.Spec PyProof.Rows L2
open C8 (Cal Met Mak InsC pe_c pe_mk pe_mt pe_mt0 pe_gc call_isC)
open LamX (TabB Tabs ExtN TabS)
open PySem.W (AllAlike Sortable dataLe)
open Evl (Ex)
/-! ### set(xs), xs a long list of few keys -/
theorem adds_keysD {P : Program} {w : World} {h0 : Heap} {S : Addr} (ks : List (Addr × NestedKey)) {items : Array Value} (hz : items.toList = ks.map fun p => Value.ref p.1) (hk : ∀ p ∈ ks, TupN h0 p.2 p.1) {u : Nat} (hu : u + 16 < cLine) {D : List NestedKey} (hfew : D.length < 63) (hD : ∀ p ∈ ks, p.2 ∈ D) :
    Adds P w h0 S items u fun i h => ∃ L es ep t, SetNR w h S L es ep t ∧ GotN ks i L := by
  intro A i v s E Q hA hv kp ⟨L, es, ep, t, R, g⟩ h
  obtain ⟨p, hp, rfl⟩ : ∃ p, ks[i]? = some p ∧ v = .ref p.1 := by
    have q : items.toList[i]? = some v := by rw [Array.getElem?_toList]; exact hv
    rw [hz, List.getElem?_map] at q
    cases hq : ks[i]? with
    | none => rw [hq] at q; cases q
    | some p =>
      rw [hq] at q
      exact ⟨p, rfl, (Option.some.inj q).symm⟩
  have hx : TupN s.heap p.2 p.1 := tupN_keep (hk p (List.mem_of_getElem? hp)) kp
  unfold setAdd
  refine wpAny_holding ?_
  refine wpAny_bind ((nestedKind P w).pyHash (show A.units + 8 < cLine by omega) hx ?_)
  have hl : L.length ≤ D.length := by
    have q := nodup_le R.nd fun k hk => by
      obtain ⟨p, hp, rfl⟩ := List.mem_map.mp hk
      exact hD p (List.mem_of_mem_take (g.sub p hp))
    rw [List.length_map] at q
    exact q
  refine add_atN (s := { s with toks := s.toks + p.2.draws }) R hx (by omega) (by omega) fun b h' L' es' ep' t' hsb hS2 c1 c2 => ?_
  refine h b h' _ (Nat.le_add_right _ _) hsb ⟨L', es', ep', t', hS2, ?_⟩
  · rcases Classical.em (p.2 ∈ L.map (·.2)) with c | c
    · rw [c1 c]; exact g.same hp c
    · exact g.more hp (c2 c)
section
variable {X : Cx}
def rSetOfD (K : PySem.W.Frag) (w : World) : List V → Hp → VK → Prop := fun xs H Q => ∃ (l : Addr) (ks : List (Addr × NestedKey)) (D : List NestedKey), xs = [V.ref l] ∧ SqL K H l (ks.map fun p => V.ref p.1) ∧ (∀ p ∈ ks, Nk K H (.ref p.1) p.2 ∧ p.2.depth ≤ 8) ∧ D.length < 63 ∧ (∀ p ∈ ks, p.2 ∈ D) ∧
  ∀ a L, H a = none → (∀ p ∈ L, p ∈ ks) → (∀ p ∈ ks, p.2 ∈ L.map (·.2)) → (L.map (·.2)).Nodup → L.length < 64 → Q (.ref a) (upd H a (SetN w a L))
theorem cr_setOfD (hc : X.calm = true) (hu : X.A.units + 64 < cLine) : CallR X (.type "set") (rSetOfD X.K X.w) := by
  intro pins s σ H xs us Q I r h
  obtain ⟨l, ks, D, rfl, hl, hk, hf, hD, q⟩ := h
  rw [Vals.ref1 r]
  obtain ⟨its, rv, pl, hz⟩ := I.list hl
  have hn : H s.heap.objs.size = none := I.hok.fresh (Nat.le_refl _)
  have hk2 : ∀ p ∈ ks, TupN s.heap p.2 p.1 := fun p hp => ⟨Nk.is I _ _ _ (hk p hp).1 rfl, (hk p hp).2⟩
  have hit : its = ks.map fun p => Value.ref p.1 := refs_valsN rv
  have hlen : its.toArray.size = ks.length := by rw [List.size_toArray, hit, List.length_map]
  refine call_set_list_gen (P := X.prog) (w := X.w) (fun i h => ∃ L es ep t, SetNR X.w h s.heap.objs.size L es ep t ∧ GotN ks i L) (I.ok.hd hc) pl.isList (fun h0 e _ => ⟨[], #[], 0, _, setNR_fresh e, GotN.zero ks⟩)
    (fun i h h' e kp ⟨L, es, ep, t, R, g⟩ => ⟨L, es, ep, t, R.keep e fun p hp => tupN_keep (hk2 p (List.mem_of_mem_take (g.sub p hp))) kp, g⟩)
    (adds_keysD ks (by simpa using hit) hk2 (by omega) hf hD) fun h' tk ⟨L, es, ep, t, R, g⟩ kp => ?_
  rw [hlen] at g
  refine ⟨.ref s.heap.objs.size, upd H s.heap.objs.size (SetN X.w s.heap.objs.size L), I.laid (t' := tk) kp (Nat.le_refl _) (setN_new R.n0), rfl, q _ L hn (fun p hp => ?_) (fun p hp => ?_) R.nd R.few⟩
  · exact List.mem_of_mem_take (g.sub p hp)
  · exact g.all p (by rw [List.take_length]; exact hp)
end
/-! ### the keys of a list -/
theorem All2.keyed {α : Type} {K : PySem.W.Frag} {H : Hp} {f : α → NestedKey} (hd : ∀ c, (f c).depth ≤ 8) : ∀ {vs : List V} {cs : List α}, All2 (fun v c => ∃ q, v = V.ref q ∧ Nk K H (.ref q) (f c)) vs cs →
    ∃ ks : List (Addr × NestedKey), vs = ks.map (fun p => V.ref p.1) ∧ ks.map (·.2) = cs.map f ∧ ∀ p ∈ ks, Nk K H (.ref p.1) p.2 ∧ p.2.depth ≤ 8
  | _, _, .nil => ⟨[], rfl, rfl, fun p hp => by cases hp⟩
  | _, _, .cons (f := c) ⟨q, e, h⟩ t => by
    obtain ⟨ks, h1, h2, h3⟩ := All2.keyed hd t
    refine ⟨(q, f c) :: ks, by rw [e, h1] <;> rfl, by rw [List.map_cons, h2] <;> rfl, fun p hp => ?_⟩
    rcases List.mem_cons.mp hp with z | z
    · rw [z]; exact ⟨h, hd c⟩
    · exact h3 p z
theorem map_of {α β : Type} {f : α → β} : ∀ {l : List β}, (∀ k ∈ l, ∃ c, k = f c) → ∃ cs : List α, l = cs.map f
  | [], _ => ⟨[], rfl⟩
  | k :: l, h => by
    obtain ⟨c, e⟩ := h k List.mem_cons_self
    obtain ⟨cs, e2⟩ := map_of (l := l) fun k hk => h k (List.mem_cons_of_mem _ hk)
    exact ⟨c :: cs, by rw [e, e2] <;> rfl⟩
theorem nodup_of_map {α β : Type} {f : α → β} : ∀ {l : List α}, (l.map f).Nodup → l.Nodup
  | [], _ => .nil
  | x :: l, h => by
    rw [List.map_cons, List.nodup_cons] at h
    exact List.nodup_cons.mpr ⟨fun z => h.1 (List.mem_map.mpr ⟨x, z, rfl⟩), nodup_of_map h.2⟩
theorem nkAll_map {α : Type} {K : PySem.W.Frag} {H : Hp} {f : α → NestedKey} {R : V → α → Prop} (h : ∀ v c, Nk K H v (f c) → R v c) : ∀ {cs : List α} {vs : List V}, NkAll K H vs (cs.map f) → All2 R vs cs
  | [], _, .nil => .nil
  | c :: cs, _, .cons h1 t => .cons (h _ _ h1) (nkAll_map h t)
theorem nkAll_refs {K : PySem.W.Frag} {H : Hp} : ∀ {ks : List (Addr × NestedKey)}, (∀ p ∈ ks, Nk K H (.ref p.1) p.2 ∧ p.2.depth ≤ 8) → NkAll K H (ks.map fun p => V.ref p.1) (ks.map (·.2))
  | [], _ => .nil
  | p :: ks, h => .cons (h p List.mem_cons_self).1 (nkAll_refs fun q hq => h q (List.mem_cons_of_mem _ hq))
/-! ### calls as keys -/
def clKey (c : Cl) : NestedKey := .tup [.text app, .num c.v, .text c.w.txt, .text c.act.txt, .num c.n]
theorem clKey_inj {c c' : Cl} (z : clKey c = clKey c') : c = c' := by
  obtain ⟨v, w, a, n⟩ := c
  obtain ⟨v', w', a', n'⟩ := c'
  unfold clKey at z
  injection z with z
  injection z with _ z
  injection z with z1 z
  injection z with z2 z
  injection z with z3 z
  injection z with z4 _
  injection z1 with z1
  injection z2 with z2
  injection z3 with z3
  injection z4 with z4
  have e1 : v = v' := z1
  have e2 : w = w' := wd_inj _ _ z2
  have e3 : a = a' := act_inj _ _ z3
  have e4 : n = n' := z4
  rw [e1, e2, e3, e4]
/-- a call's tuple at v -/
def ClV (K : PySem.W.Frag) (H : Hp) (v : V) (c : Cl) : Prop := ∃ q, v = .ref q ∧ SqT K H q (clV c)
section
variable {K : PySem.W.Frag} {H H' : Hp}
theorem ClV.fz {v : V} {c : Cl} (e : Fz H H') (h : ClV K H v c) : ClV K H' v c := by
  obtain ⟨q, h1, h2⟩ := h
  exact ⟨q, h1, fz_t e h2⟩
theorem cl_nk {p : Addr} {c : Cl} (h : SqT K H p (clV c)) : Nk K H (.ref p) (clKey c) := .tup h (.cons (.text _) (.cons (.num _) (.cons (.text _) (.cons (.text _) (.cons (.num _) .nil)))))
theorem nk_cl (v : V) (c : Cl) (h : Nk K H v (clKey c)) : ClV K H v c := by
  unfold clKey at h
  cases h with
  | tup h1 h2 =>
    cases h2 with | cons a1 h2 =>
    cases h2 with | cons a2 h2 =>
    cases h2 with | cons a3 h2 =>
    cases h2 with | cons a4 h2 =>
    cases h2 with | cons a5 h2 =>
    cases h2
    cases a1; cases a2; cases a3; cases a4; cases a5
    exact ⟨_, rfl, h1⟩
theorem nk_sc (v : V) (c : Sc) (h : Nk K H v (scKey c)) : ScV K H v c := by
  unfold scKey at h
  cases h with
  | tup h1 h2 =>
    cases h2 with | cons a1 h2 =>
    cases h2 with | cons a2 h2 =>
    cases h2 with | cons a3 h2 =>
    cases h2
    cases a1; cases a2; cases a3
    exact ⟨_, rfl, h1⟩
end
end Hs
end
section
set_option Elab.async false
set_option linter.all false
set_option maxRecDepth 100000
set_option maxHeartbeats 4000000
namespace Hs
open PySem PySem.Spec PyProof.Rows L2
open C8 (Cal Met Mak InsC pe_c pe_mk pe_mt pe_mt0 pe_gc call_isC)
open LamX (TabB Tabs ExtN TabS)
open PySem.W (AllAlike Sortable dataLe)
open Evl (Ex)
section
variable {α : Type} {f : α → NestedKey}
theorem alike_of (h : ∀ c c' : α, PySem.W.alike (f c).data (f c').data = true) (cs : List α) : AllAlike ((cs.map f).map NestedKey.data) := by
  intro d hd d' hd'
  obtain ⟨k, hk, rfl⟩ := List.mem_map.mp hd
  obtain ⟨k', hk', rfl⟩ := List.mem_map.mp hd'
  obtain ⟨x, _, rfl⟩ := List.mem_map.mp hk
  obtain ⟨x', _, rfl⟩ := List.mem_map.mp hk'
  exact h x x'
theorem sortable_of (h : ∀ c : α, ∃ x r, (f c).data = .tuple (x :: r)) (cs : List α) : Sortable ((cs.map f).map NestedKey.data) := .inl fun d hd => by
  obtain ⟨k, hk, rfl⟩ := List.mem_map.mp hd
  obtain ⟨x, _, rfl⟩ := List.mem_map.mp hk
  exact h x
theorem depth_of (h : ∀ c : α, (f c).data.depth ≤ 8) (cs : List α) : ∀ k ∈ cs.map f, k.data.depth ≤ 8 := fun k hk => by
  obtain ⟨x, _, rfl⟩ := List.mem_map.mp hk
  exact h x
end
theorem keys_set {α : Type} {f : α → NestedKey} (inj : ∀ c c', f c = f c' → c = c') {ks L : List (Addr × NestedKey)} {cs : List α} (h2 : ks.map (·.2) = cs.map f) (hL1 : ∀ p ∈ L, p ∈ ks) (hL2 : ∀ p ∈ ks, p.2 ∈ L.map (·.2)) :
    ∃ gs : List α, L.map (·.2) = gs.map f ∧ ∀ ls, List.Perm ls (gs.map f) → ∃ fs : List α, ls = fs.map f ∧ ∀ c, c ∈ fs ↔ c ∈ cs := by
  have ink : ∀ k, k ∈ L.map (·.2) ↔ k ∈ cs.map f := fun k => by
    rw [← h2]
    constructor
    · intro h
      obtain ⟨p, hp, e⟩ := List.mem_map.mp h
      exact List.mem_map.mpr ⟨p, hL1 p hp, e⟩
    · intro h
      obtain ⟨p, hp, e⟩ := List.mem_map.mp h
      rw [← e]
      exact hL2 p hp
  have inf : ∀ (l : List α) (c : α), c ∈ l ↔ f c ∈ l.map f := fun l c => ⟨fun h => List.mem_map.mpr ⟨c, h, rfl⟩, fun h => by
    obtain ⟨x, hx, e⟩ := List.mem_map.mp h
    rw [← inj _ _ e]; exact hx⟩
  obtain ⟨gs, hgs⟩ := map_of (f := f) (l := L.map (·.2)) fun k hk => by
    obtain ⟨c, _, e⟩ := List.mem_map.mp ((ink k).mp hk)
    exact ⟨c, e.symm⟩
  refine ⟨gs, hgs, fun ls pls => ?_⟩
  obtain ⟨fs, rfl⟩ := map_of (f := f) (l := ls) fun k hk => by
    obtain ⟨c, _, e⟩ := List.mem_map.mp (pls.mem_iff.mp hk)
    exact ⟨c, e.symm⟩
  exact ⟨fs, rfl, fun c => by rw [inf fs, inf cs, pls.mem_iff, ← hgs, ink]⟩
section
variable {P : Program} {w : World} {K : PySem.W.Frag} {mg : Str → Option Value} {base : Heap} {a : Ads}
/-! ### calls_of -/
def spCallsOf (K : PySem.W.Frag) (a : Ads) (Pt : Addr) : Sp := fun vs H Q _ => ∃ y dl st s eds ds, vs = [.ref y, .ref dl] ∧ SysOp K a H st y s ∧ StoreAt K a H st eds ∧ EdsOk eds ∧ StOk eds s ∧ DdsAt K H dl ds ∧ ds.length ≤ 100 ∧ Tabs (TtOf Pt) H ∧
  ∀ l xs cs H', ExtN H H' → Tabs (TtOf Pt) H' → H' l = some (.lst xs) → xs.length ≤ 58 → All2 (ClV K H') xs cs → (∀ c, c ∈ cs ↔ Mom eds s ds c) → Q (.ref l) H'
theorem scCallsOf : FnScope ["system", "deeds", "call", "here"] ["system", "deeds"] (defScope s_calls_of) := ⟨rfl, rfl, rfl, by decide +kernel, rfl, by decide +kernel, by decide +kernel⟩
theorem c_calls_of {c Pt : Addr} (T : TX K mg a) (D : DefC K mg "every_run" s_every_run c) (B : TabB base mg c Pt) : Cal P w K mg base 11 "calls_of" (spCallsOf K a Pt) [] := by
  refine calF T.d_calls_of (fun _ _ _ _ _ _ us hl => match us, hl with | [_, _], _ => rfl) scCallsOf (fun vs H Q E h => ?_) fun fa cdv A outer s0 H vs Q E hr h => ?_
  · obtain ⟨y, dl, st, s, eds, ds, rfl, _⟩ := h
    rfl
  · obtain ⟨y, dl, st, s, eds, ds, rfl, Sy, S, ok, hs, hds, hdn, tabs, k⟩ := h
    have hu := hu_of hr
    have hM := c_moments (P := P) (w := w) (base := base) T D B
    refine ⟨_, pss_one (ps_ret (pe_callB (cr_sortedC rfl hr.units) (by rfl) T.f_sorted (by decide +kernel) (pa_cons (pe_callTy (cr_setOfD rfl hr.units) (by rfl) T.f_set (by decide +kernel) (pa_cons
      (pe_lc (own := [("call", 2), ("here", 3)]) (g := gTup K 2 (gCons (gName 2) (gCons (gName 3) gNil))) (tt := tYes) rfl scCallsOf.nd (pi_list (pe_cc hM hr (pa_cons (pv 0) (pa_cons (pv 1) pa_nil)))) (blkOk_by (N := ["system", "deeds", "call", "here"]) (sc := defScope s_calls_of) (by decide +kernel))
        (fun _ _ _ _ _ => pg_tup rfl (pgs_cons (pg_name (i := 2) scCallsOf.nd rfl (Or.inl rfl)) (pgs_cons (pg_name (i := 3) scCallsOf.nd rfl (Or.inl rfl)) pgs_nil))) (fun _ _ _ _ _ => pts_nil) (fun _ _ _ _ _ => pv 2))
      pa_nil)) pa_nil))), ?_⟩
    refine ⟨_, rfl, _, rfl, y, dl, st, s, eds, ds, rfl, Sy, S, ok, hs, hds, hdn, tabs, fun l xs cs H1 e1 tabs1 hl hxl hcv hcs => ?_⟩
    have hcl := hcv.len
    refine ⟨l, rfl, ⟨xs, SqL.of hl⟩, fun DD hDD => lc_list (xs := xs) (fun i H' => Ex H1 H' ∧ ∃ zs, H' DD = some (.lst zs) ∧ All2 (ClV K H') zs (cs.take i)) ⟨Ex.new hDD, [], upd_same, .nil⟩ (fun i H' _ q => SqL.of (q.1 _ _ hl)) ?_ ?_⟩
    · rintro i v H' hv ⟨e3, zs, hd, hz⟩
      obtain ⟨c, hc, q, p, y', rfl, hq, hp⟩ := hcv.get hv
      have hzl := hz.len
      rw [List.length_take] at hzl
      have hil := (List.getElem?_eq_some_iff.mp hv).1
      refine ⟨q, _, rfl, fz_t (Fz.ex e3) hq, rfl, _, _, rfl, _, _, rfl, rfl, rfl, yes_ok ?_⟩
      refine ⟨_, rfl, zs, hd, by rw [sizeLine_eq]; omega, e3.mut hDD, _, upd_same, ?_⟩
      have fz : Fz H' (upd H' DD (.lst (zs ++ [.ref p]))) := Fz.put hd rfl
      rw [List.take_succ, hc]
      exact (hz.imp fun _ _ h => h.fz fz).app (.cons ⟨p, rfl, fz_t ((Fz.ex e3).trans fz) hp⟩ .nil)
    · rintro H' ⟨e3, zs, hd, hz⟩
      rw [hcl, List.take_length] at hz
      obtain ⟨ks, rfl, h2, h3⟩ := All2.keyed (f := clKey) (fun c => (by show 1 ≤ 8; decide)) (hz.imp fun v c ⟨q, e, h⟩ => ⟨q, e, cl_nk h⟩)
      refine ⟨DD, ks, (allCalls (vers eds)).map clKey, rfl, SqL.of hd, h3, ?_, fun p hp => ?_, fun sa L ha hL1 hL2 hnd hln => ?_⟩
      · rw [List.length_map]
        have := allCalls_len (vs := vers eds) (by unfold vers; rw [List.length_map]; exact ok.few)
        omega
      · have : p.2 ∈ ks.map (·.2) := List.mem_map.mpr ⟨p, hp, rfl⟩
        rw [h2] at this
        obtain ⟨c, hc, e⟩ := List.mem_map.mp this
        rw [← e]
        exact List.mem_map.mpr ⟨c, (mom_ok hs ((hcs c).mp hc)).mem, rfl⟩
      · obtain ⟨gs, hgs, hout⟩ := keys_set (fun _ _ => clKey_inj) h2 hL1 hL2
        have e4 : Ex H' (upd H' sa (SetN w sa L)) := Ex.new ha
        have hLk : ∀ p ∈ L, Nk K (upd H' sa (SetN w sa L)) (.ref p.1) p.2 ∧ p.2.depth ≤ 8 := fun p hp => ⟨Nk.fz (Fz.ex e4) _ _ (h3 p (hL1 p hp)).1, (h3 p (hL1 p hp)).2⟩
        have hnk := nkAll_refs hLk
        have hal := alike_of (f := clKey) (fun _ _ => rfl) gs
        have hso := sortable_of (f := clKey) (fun _ => ⟨_, _, rfl⟩) gs
        have hde := depth_of (f := clKey) (fun _ => (by show 1 ≤ 8; decide)) gs
        rw [← hgs] at hal hso hde
        refine ⟨sa, _, _, rfl, col_setN upd_same, hnk, (by rw [List.length_map, sizeLine_eq]; omega), hal, hso, hde, fun ys ls p pys pls hnk2 _ hp => ?_⟩
        rw [hgs] at pls
        obtain ⟨fs, rfl, hin⟩ := hout ls pls
        have hfs := nkAll_map (R := ClV K (upd H' sa (SetN w sa L))) (fun v c h => nk_cl v c h) hnk2
        have fz5 : Fz (upd H' sa (SetN w sa L)) (upd (upd H' sa (SetN w sa L)) p (.lst ys)) := Fz.new hp
        have hmem : ∀ c, c ∈ fs ↔ Mom eds s ds c := fun c => by rw [hin, hcs]
        have hyl : ys.length ≤ 58 := by
          have hnd2 : (fs.map clKey).Nodup := by
            refine pls.symm.nodup ?_
            rw [← hgs]
            exact hnd
          have := nodup_le (nodup_of_map hnd2) fun c hc => (mom_ok hs ((hmem c).mp hc)).mem
          have h58 := allCalls_len (vs := vers eds) (by unfold vers; rw [List.length_map]; exact ok.few)
          rw [hfs.len]
          omega
        exact k p ys fs _ (e1.trans (ExtN.of ((e3.trans e4).trans (Ex.new hp)))) (tabs_ex ((e3.trans e4).trans (Ex.new hp)) tabs1) upd_same hyl (hfs.imp fun _ _ h => h.fz fz5) hmem
end
end Hs
end
section
set_option Elab.async false
set_option linter.all false
set_option maxRecDepth 100000
set_option maxHeartbeats 4000000
namespace Hs
open PySem PySem.Spec PyProof.Rows L2
open C8 (Cal Met Mak InsC pe_c pe_mk pe_mt pe_mt0 pe_gc call_isC)
open LamX (TabB Tabs ExtN TabS)
open PySem.W (AllAlike Sortable dataLe)
open Evl (Ex)
/-! ### the scripts of a list of deeds, in order -/
structure ScsOk (eds : List Ed) (s : St) (ds : List Dd) (scs : List Sc) : Prop where
  mem : ∀ c, c ∈ scs ↔ ∃ cl, Mom eds s ds cl ∧ cl.sc = c
  nd : scs.Nodup
  up : (scs.map scKey).Pairwise fun a b => dataLe false NestedKey.data a b = true
theorem scKey_toks (c : Sc) : PySem.W.keyToks (scKey c).data = [.inl 1, .inr (app : Str).cps.toList, .inl 1, .inl c.1, .inl 1, .inr c.2.txt.cps.toList, .inl 0] := by
  show PySem.W.keyToks (.tuple [.str app, .int c.1, .str c.2.txt]) = _
  simp [PySem.W.keyToks, PySem.W.keyToksAll]
theorem sc_antisymm {c c' : Sc} (h : dataLe false NestedKey.data (scKey c) (scKey c') = true) (h' : dataLe false NestedKey.data (scKey c') (scKey c) = true) : c = c' := by
  have e1 : PySem.W.dataLt (scKey c').data (scKey c).data = false := by
    rw [PySem.W.dataLe_eq] at h
    simpa using h
  have e2 : PySem.W.dataLt (scKey c).data (scKey c').data = false := by
    rw [PySem.W.dataLe_eq] at h'
    simpa using h'
  have e := PyProof.Rows.lex_total _ _ e2 e1
  rw [scKey_toks, scKey_toks] at e
  injection e with _ e
  injection e with _ e
  injection e with _ e
  injection e with e3 e
  injection e with _ e
  injection e with e4 _
  injection e3 with e3
  injection e4 with e4
  exact Prod.ext e3 (wd_inj _ _ (PySem.W.str_of_cps e4))
theorem map_inj {α β : Type} {f : α → β} (h : ∀ a b, f a = f b → a = b) : ∀ {l l' : List α}, l.map f = l'.map f → l = l'
  | [], [], _ => rfl
  | [], _ :: _, e => by cases e
  | _ :: _, [], e => by cases e
  | a :: l, b :: l', e => by
    injection e with e1 e2
    rw [h _ _ e1, map_inj h e2]
theorem ScsOk.uniq {eds : List Ed} {s : St} {ds : List Dd} {l l' : List Sc} (h : ScsOk eds s ds l) (h' : ScsOk eds s ds l') : l = l' := by
  have p : l.Perm l' := (List.perm_ext_iff_of_nodup h.nd h'.nd).mpr fun c => by rw [h.mem, h'.mem]
  refine map_inj (f := scKey) (fun _ _ => scKey_inj.mp) (List.Perm.eq_of_pairwise (fun x y hx hy h1 h2 => ?_) h.up h'.up (p.map _))
  obtain ⟨c, _, rfl⟩ := List.mem_map.mp hx
  obtain ⟨c', _, rfl⟩ := List.mem_map.mp hy
  rw [sc_antisymm h1 h2]
def allScs (vs : List Int) : List Sc := vs.flatMap fun v => [(v, .clean), (v, .enter), (v, .leave), (v, .setup)]
theorem ScsOk.few {eds : List Ed} {s : St} {ds : List Dd} {l : List Sc} (ok : EdsOk eds) (hs : StOk eds s) (h : ScsOk eds s ds l) : l.length ≤ 8 := by
  have a := nodup_le (D := allScs (vers eds)) h.nd fun c hc => by
    obtain ⟨cl, hm, rfl⟩ := (h.mem c).mp hc
    have hv := verOk_mem.mp (mom_ok hs hm).ver
    refine List.mem_flatMap.mpr ⟨cl.v, hv, ?_⟩
    obtain ⟨v, w, a, n⟩ := cl
    show (v, w) ∈ _
    cases w <;> simp
  have b := flat_len (fun v : Int => [((v, .clean) : Sc), (v, .enter), (v, .leave), (v, .setup)]) 4 (vers eds) (fun _ _ => Nat.le_refl _)
  have c : (vers eds).length ≤ 2 := by unfold vers; rw [List.length_map]; exact ok.few
  have d : (allScs (vers eds)).length ≤ (vers eds).length * 4 := b
  omega
theorem ScsOk.ok {eds : List Ed} {s : St} {ds : List Dd} {l : List Sc} (hs : StOk eds s) (h : ScsOk eds s ds l) : ∀ c ∈ l, scOk eds c = true := fun c hc => by
  obtain ⟨cl, hm, rfl⟩ := (h.mem c).mp hc
  have q := mom_ok hs hm
  unfold scOk
  rw [Bool.and_eq_true]
  exact ⟨q.ver, decide_eq_true q.has⟩
theorem fold_len {α : Type} [DecidableEq α] {good : List α → Bool} : ∀ (l found : List (List α)), (l.foldl (exOne good) found).length ≤ found.length + l.length
  | [], found => Nat.le_refl _
  | x :: l, found => by
    rw [List.foldl_cons, List.length_cons]
    have a := fold_len (good := good) l (exOne good found x)
    have b : (exOne good found x).length ≤ found.length + 1 := by
      unfold exOne
      split
      · omega
      · split
        · simp
        · omega
    omega
theorem fold_small {good : List Sc → Bool} {scs : List Sc} {i : Nat} {l : List (List Sc)} (hl : ∀ x ∈ l, x ∈ setsOf scs i) : ∀ y ∈ l.foldl (exOne good) (expl good scs i), y.length ≤ i := fun y hy => by
  obtain ⟨m, e, h⟩ := fold_pre (good := good) l (expl good scs i)
  rw [e] at hy
  rcases List.mem_append.mp hy with hy | hy
  · exact Nat.le_of_lt (expl_good i y hy).1
  · exact Nat.le_of_eq (setsOf_len (hl y (h y hy).1))
abbrev goodS (eds : List Ed) (s : St) (ds : List Dd) (s' : St) : List Sc → Bool := fun fl => decide (behA eds (Pf fl) s ds = s')
end Hs
end
section
set_option Elab.async false
set_option linter.all false
set_option maxRecDepth 100000
set_option maxHeartbeats 4000000
namespace Hs
open PySem PySem.Spec PyProof.Rows L2
open C8 (Cal Met Mak InsC pe_c pe_mk pe_mt pe_mt0 pe_gc call_isC)
open LamX (TabB Tabs ExtN TabS)
open PySem.W (AllAlike Sortable dataLe)
open Evl (Ex)
theorem cr_setOfNK {X : Cx} (K : PySem.W.Frag) (w : World) (h : X.K = K ∧ X.w = w) (hc : X.calm = true) (hu : X.A.units + 64 < cLine) : CallR X (.type "set") (rSetOfN K w) := by
  obtain ⟨rfl, rfl⟩ := h
  exact cr_setOfN hc hu
section
variable {P : Program} {w : World} {K : PySem.W.Frag} {mg : Str → Option Value} {base : Heap} {a : Ads}
/-! ### explained -/
def spExpl (K : PySem.W.Frag) (a : Ads) (Pt : Addr) : Sp := fun vs H Q _ => ∃ (y dl z : Addr) (most : Nat) (st : Addr) (s s' : St) (eds : List Ed) (ds : List Dd), vs = [.ref y, .ref dl, .ref z, .int most] ∧ most ≤ 3 ∧ SysOp K a H st y s ∧ SysOp K a H st z s' ∧ StoreAt K a H st eds ∧ EdsOk eds ∧ StOk eds s ∧ DdsAt K H dl ds ∧ ds.length ≤ 100 ∧ Tabs (TtOf Pt) H ∧
  ∀ l xs scs H', ExtN H H' → Tabs (TtOf Pt) H' → H' l = some (.lst xs) → ScsOk eds s ds scs → All2 (FaV K H') xs (expl (goodS eds s ds s') scs (most + 1)) → Q (.ref l) H'
theorem scExpl : FnScope ["system", "deeds", "later", "most", "scripts", "found", "size", "some", "call", "other"] ["system", "deeds", "later", "most"] (defScope s_explained) := ⟨rfl, rfl, rfl, by decide +kernel, rfl, by decide +kernel, by decide +kernel⟩
theorem c_expl {c Pt : Addr} (T : TX K mg a) (D : DefC K mg "every_run" s_every_run c) (B : TabB base mg c Pt) : Cal P w K mg base 12 "explained" (spExpl K a Pt) [] := by
  refine calF T.d_explained (fun _ _ _ _ _ _ us hl => match us, hl with | [_, _, _, _], _ => rfl) scExpl (fun vs H Q E h => ?_) fun fa cdv A outer s0 H vs Q E hr h => ?_
  · obtain ⟨y, dl, z, most, st, s, s', eds, ds, rfl, _⟩ := h
    rfl
  · obtain ⟨y, dl, z, most, st, s, s', eds, ds, rfl, hm3, Sy, Sz, S, ok, hs, hds, hdn, tabs, k⟩ := h
    have hu := hu_of hr
    have hNS := c_need_store (P := P) (w := w) (base := base) T
    have hNum := c_is_number (P := P) (w := w) (base := base) T
    have hCa := c_calls_of (P := P) (w := w) (base := base) T D B
    have hSe := c_sets_of (P := P) (w := w) (base := base) T 3
    have hIP := c_is_part (P := P) (w := w) (base := base) T
    have hB := c_behA (P := P) (w := w) (base := base) T
    have hE := m_sy_eq (P := P) (w := w) (base := base) T
    refine ⟨_, pss_cons (ps_expr (pe_cc hNS hr (pa_cons (pv 0) (pa_cons (pv 2) pa_nil))))
      (pss_cons (ps_if (pt_not (pt_val (pe_cc hNum hr (pa_cons (pv 3) (pa_cons pe_int (pa_cons (pe_gi T.g_MOST_SCRIPTS) pa_nil)))))) pss_never pss_nil)
      (pss_cons (ps_set (i := 4) scExpl.nd rfl (Or.inl rfl) (pe_callB (cr_sortedC rfl hr.units) (by rfl) T.f_sorted (by decide +kernel) (pa_cons (pe_callTy (cr_setOfNK K w ⟨rfl, rfl⟩ rfl hr.units) (by rfl) T.f_set (by decide +kernel) (pa_cons
        (pe_lc (own := [("call", 8)]) (g := gName 8) (tt := tYes) rfl scExpl.nd (pi_list (pe_cc hCa hr (pa_cons (pv 0) (pa_cons (pv 1) pa_nil)))) (blkOk_by (N := ["system", "deeds", "later", "most", "scripts", "found", "size", "some", "call", "other"]) (sc := defScope s_explained) (by decide +kernel))
          (fun _ _ _ _ _ => pg_name (i := 8) scExpl.nd rfl (Or.inl rfl)) (fun _ _ _ _ _ => pts_nil) (fun _ _ _ _ _ => pe_slice (sl_tupAK K rfl) (pv 8) po_none (po_some pe_int)))
        pa_nil)) pa_nil)))
      (pss_cons (ps_set (i := 5) scExpl.nd rfl (Or.inl rfl) (pe_lst pa_nil))
      (pss_cons (ps_for PassesOwn.never rfl (pi_range1 (by rfl) T.f_range (pa_cons (pe_op op_add (pv 3) pe_int) pa_nil)) (pg_name (i := 6) scExpl.nd rfl (Or.inl rfl))
        (pss_one (ps_for PassesOwn.never rfl (pi_list (pe_cc hSe hr (pa_cons (pv 4) (pa_cons (pv 6) pa_nil)))) (pg_name (i := 7) scExpl.nd rfl (Or.inr rfl))
          (pss_one (ps_if (pt_not (pt_val (pe_callB (cr_any rfl) (by rfl) T.f_any PyProof.Rows.boot_any (pa_cons
              (pe_lc (own := [("other", 9)]) (g := gName 9) (tt := tYes) rfl scExpl.nd (pi_list (pv 5)) (blkOk_by (N := ["system", "deeds", "later", "most", "scripts", "found", "size", "some", "call", "other"]) (sc := defScope s_explained) (by decide +kernel))
                (fun _ _ _ _ _ => pg_name (i := 9) scExpl.nd rfl (Or.inl rfl)) (fun _ _ _ _ _ => pts_nil) (fun _ _ _ _ _ => pe_cc hIP hr (pa_cons (pv 9) (pa_cons (pv 7) pa_nil)))) pa_nil))))
            (pss_one (ps_if (pt_cmpR (op_eqM hE hr (by decide)) (pe_cc hB hr (pa_cons (pv 0) (pa_cons (pv 1) (pa_cons (pv 7) pa_nil)))) (pv 2) (nomark _))
              (pss_one (ps_expr (pe_bm PySem.F.plainAttrs_list PySem.F.slot_list_append PySem.F.type_list_append mt_append (pv 5) (pa_cons (pv 7) pa_nil)))) pss_nil)) pss_nil)))))
      (pss_one (ps_ret (pv 5))))))), ?_⟩
    refine ⟨_, rfl, _, rfl, y, z, st, s, s', eds, rfl, Sy, Sz, S, ?_⟩
    refine ⟨_, rfl, (most : Int), 0, 3, rfl, ?_⟩
    refine ⟨_, rfl, ?_⟩
    have e03 : (decide ((0 : Int) ≤ most) && decide ((most : Int) ≤ 3)) = true := by
      rw [Bool.and_eq_true]
      exact ⟨decide_eq_true (by omega), decide_eq_true (by omega)⟩
    rw [e03]
    refine iteF ?_
    refine ⟨_, rfl, _, rfl, y, dl, st, s, eds, ds, rfl, Sy, S, ok, hs, hds, hdn, tabs, fun l xs cs H1 e1 tabs1 hl hxl hcv hcs => ?_⟩
    have hcl := hcv.len
    refine ⟨l, rfl, ⟨xs, SqL.of hl⟩, fun DD hDD => lc_list (xs := xs) (fun i H' => Ex H1 H' ∧ ∃ zs, H' DD = some (.lst zs) ∧ All2 (ScV K H') zs ((cs.take i).map Cl.sc)) ⟨Ex.new hDD, [], upd_same, .nil⟩ (fun i H' _ q => SqL.of (q.1 _ _ hl)) ?_ ?_⟩
    · rintro i v H' hv ⟨e3, zs, hd, hz⟩
      obtain ⟨c, hc, q, rfl, hq⟩ := hcv.get hv
      have hzl := hz.len
      rw [List.length_map, List.length_take] at hzl
      have hil := (List.getElem?_eq_some_iff.mp hv).1
      refine ⟨rfl, yes_ok ?_⟩
      refine ⟨_, rfl, _, rfl, q, _, rfl, fz_t (Fz.ex e3) hq, fun cnd => absurd cnd.2 (show ¬ HT.sIx 5 5 (some 3) = 5 by decide), fun _ r hr2 => ?_⟩
      refine ⟨zs, Ex.new hr2 _ _ hd, by rw [sizeLine_eq]; omega, (e3.trans (Ex.new hr2)).mut hDD, _, upd_same, ?_⟩
      have fz := (Fz.new (o := .tup (cutV (clV c) none (some 3))) hr2).trans (Fz.put (u := .lst zs) (o := .lst (zs ++ [.ref r])) (Ex.new hr2 _ _ hd) rfl)
      rw [List.take_succ, hc, List.map_append]
      refine (hz.imp fun _ _ h => h.fz fz).app (.cons ⟨r, rfl, .inl (.inl ?_)⟩ .nil)
      rw [upd_ne (ne_of_none hd hr2).symm, upd_same] <;> rfl
    · rintro H2 ⟨e2, zs, hd, hz⟩
      rw [hcl, List.take_length] at hz
      obtain ⟨ks, rfl, h2, h3⟩ := All2.keyed (f := scKey) (fun c => (by show 1 ≤ 8; decide)) (hz.imp fun v c ⟨q, e, h⟩ => ⟨q, e, sc_nk h⟩)
      have hkl : ks.length = cs.length := by
        have := congrArg List.length h2
        rwa [List.length_map, List.length_map, List.length_map] at this
      refine ⟨DD, ks, rfl, SqL.of hd, h3, by omega, fun sa L ha hL1 hL2 hnd hln => ?_⟩
      obtain ⟨gs, hgs, hout⟩ := keys_set (f := scKey) (fun _ _ => scKey_inj.mp) h2 hL1 hL2
      have e4 : Ex H2 (upd H2 sa (SetN w sa L)) := Ex.new ha
      have hLk : ∀ p ∈ L, Nk K (upd H2 sa (SetN w sa L)) (.ref p.1) p.2 ∧ p.2.depth ≤ 8 := fun p hp => ⟨Nk.fz (Fz.ex e4) _ _ (h3 p (hL1 p hp)).1, (h3 p (hL1 p hp)).2⟩
      have hnk := nkAll_refs hLk
      have hal := alike_of (f := scKey) (fun _ _ => rfl) gs
      have hso := sortable_of (f := scKey) (fun _ => ⟨_, _, rfl⟩) gs
      have hde := depth_of (f := scKey) (fun _ => (by show 1 ≤ 8; decide)) gs
      rw [← hgs] at hal hso hde
      refine ⟨sa, _, _, rfl, col_setN upd_same, hnk, (by rw [List.length_map, sizeLine_eq]; omega), hal, hso, hde, fun ys ls p pys pls hnk2 pw hp => ?_⟩
      rw [hgs] at pls
      obtain ⟨scs, rfl, hin⟩ := hout ls pls
      have hscs := nkAll_map (R := ScV K (upd H2 sa (SetN w sa L))) (fun v c h => nk_sc v c h) hnk2
      have e5 : Ex H1 (upd (upd H2 sa (SetN w sa L)) p (.lst ys)) := (e2.trans e4).trans (Ex.new hp)
      have hys := hscs.imp fun _ _ h => h.fz (Fz.new (o := .lst ys) hp)
      have hp5 : (upd (upd H2 sa (SetN w sa L)) p (.lst ys)) p = some (.lst ys) := upd_same
      generalize upd (upd H2 sa (SetN w sa L)) p (.lst ys) = H5 at e5 hys hp5 ⊢
      have sok : ScsOk eds s ds scs := by
        refine ⟨fun c => ?_, ?_, pw⟩
        · rw [hin, List.mem_map]
          exact ⟨fun ⟨cl, h1, h2⟩ => ⟨cl, (hcs cl).mp h1, h2⟩, fun ⟨cl, h1, h2⟩ => ⟨cl, (hcs cl).mpr h1, h2⟩⟩
        · refine nodup_of_map (f := scKey) (pls.symm.nodup ?_)
          rw [← hgs]
          exact hnd
      have h8 := sok.few ok hs
      -- found = []
      refine ⟨(by show 0 ≤ sizeLine; decide), fun F hF => ?_⟩
      have nFp : F ≠ p := fun z => by rw [z, hp5] at hF; cases hF
      have eN6 : ExtN H (upd H5 F (.lst [])) := e1.trans (ExtN.of (e5.trans (Ex.new hF)))
      have tabs6 : Tabs (TtOf Pt) (upd H5 F (.lst [])) := tabs_ex (e5.trans (Ex.new hF)) tabs1
      have hys6 := hys.imp fun _ _ h => ScV.fz (Fz.new (o := .lst []) hF) h
      have hp6 : (upd H5 F (.lst [])) p = some (.lst ys) := Ex.new hF _ _ hp5
      have hF6 : (upd H5 F (.lst [])) F = some (.lst []) := upd_same
      have nH : ∀ b o, H b = some o → (∀ ps, o ≠ .tbl ps) → b ≠ F := fun b o h l z => by
        have := (e1.trans (ExtN.of e5)) b o h l
        rw [z, hF] at this
        cases this
      have hNF : ∀ {q : Addr} {xs : List V}, SqL K H q xs → SqL K (upd H5 F (.lst [])) q xs ∧ (∀ H', ExB F (upd H5 F (.lst [])) H' → SqL K H' q xs) := fun {q xs} h => by
        rcases h with (h | ⟨u, h⟩) | h
        · have h6 := eN6 _ _ h (fun _ z => nomatch z)
          exact ⟨.inl (.inl h6), fun H' e => .inl (.inl (e _ _ h6 (nH _ _ h fun _ z => nomatch z)))⟩
        · have h6 := eN6 _ _ h (fun _ z => nomatch z)
          exact ⟨.inl (.inr ⟨u, h6⟩), fun H' e => .inl (.inr ⟨u, e _ _ h6 (nH _ _ h fun _ z => nomatch z)⟩)⟩
        · exact ⟨.inr h, fun _ _ => .inr h⟩
      generalize upd H5 F (.lst []) = H6 at eN6 tabs6 hys6 hp6 hF6 hNF ⊢
      obtain ⟨dvs, hdl, hdd⟩ := hds
      have keepD : ∀ H', ExB F H6 H' → DdsAt K H' dl ds := fun H' e => ⟨dvs, (hNF hdl).2 H' e, hdd.imp fun _ _ q => q.fz ((extN_fz eN6).trans (e.fz hF6 rfl))⟩
      have keepT : ∀ H', ExB F H6 H' → Tabs (TtOf Pt) H' := fun H' e p hp => by
        obtain ⟨ps, h1, h2, h3⟩ := tabs6 p hp
        refine ⟨ps, e _ _ h1 (fun z => by rw [z, hF6] at h1; cases h1), h2, fun pos cv hc => ?_⟩
        obtain ⟨c, h4, h5⟩ := h3 pos cv hc
        exact ⟨c, h4, e _ _ h5 (fun z => by rw [z, hF6] at h5; cases h5)⟩
      have h1024 : ∀ n, n ≤ 4 → (expl (goodS eds s ds s') scs n).length ≤ 1024 := fun n hn => by
        have a1 := expl_count (good := goodS eds s ds s') (scs := scs) n
        have a2 : 2 ^ scs.length ≤ 2 ^ 8 := Nat.pow_le_pow_right (by decide) h8
        have a3 : n * 2 ^ scs.length ≤ 4 * 2 ^ 8 := Nat.mul_le_mul hn a2
        omega
      refine ⟨_, rfl, _, _, rfl, rfl, _, rfl, by show -(2 ^ 62) ≤ (most : Int) + 1; omega, by show (most : Int) + 1 < 2 ^ 62; omega, ?_⟩
      have hj : ((most : Int) + 1).toNat = most + 1 := by omega
      rw [hj]
      refine for_it walk_range (fun i σ H' => ∃ v6 v7, σ = [some (.ref y), some (.ref dl), some (.ref z), some (.int most), some (.ref p), some (.ref F), v6, v7, none, none] ∧ ExB F H6 H' ∧ ∃ zs, H' F = some (.lst zs) ∧ All2 (FaV K H') zs (expl (goodS eds s ds s') scs i))
        ⟨none, none, rfl, ExB.rfl', [], hF6, .nil⟩ (fun _ _ _ _ _ => trivial) ?_ ?_
      · rintro i x σ H0 H7 hi ⟨v6, v7, rfl, eF7, zs, hF7, hzs⟩ ⟨rfl, rfl⟩
        have hp7 := eF7 _ _ hp6 nFp.symm
        have fz67 := eF7.fz hF6 rfl
        have ei : ((0 : Int) + (i : Nat)) = (i : Nat) := by omega
        refine ⟨_, rfl, _, rfl, p, i, ys, scs, by show [V.ref p, V.int ((0 : Int) + (i : Nat))] = _; rw [ei], by omega, SqL.of hp7, hys6.imp fun _ _ h => h.fz fz67, h8, fun r us H8 e8 hr8 hr8' hus => ?_⟩
        have nrF : r ≠ F := fun z => by rw [z, hF7] at hr8; cases hr8
        have hF8 := e8 _ _ hF7
        have eF8 := eF7.trans (ExB.ex e8)
        have hul := hus.len
        have h256 : (setsOf scs i).length ≤ 256 := setsOf_256 h8
        refine ⟨r, rfl, ⟨us, SqL.of hr8'⟩, for_it walk_list (fun j σ H' => ∃ v7, σ = [some (.ref y), some (.ref dl), some (.ref z), some (.int most), some (.ref p), some (.ref F), some (.int ((0 : Int) + (i : Nat))), v7, none, none] ∧ ExB F H8 H' ∧ ∃ zs, H' F = some (.lst zs) ∧ All2 (FaV K H') zs (((setsOf scs i).take j).foldl (exOne (goodS eds s ds s')) (expl (goodS eds s ds s') scs i)))
          ⟨_, rfl, ExB.rfl', zs, hF8, hzs.imp fun _ _ h => h.fz (Fz.ex e8)⟩ (fun j σ H' _ ⟨_, _, e, _⟩ => SqL.of (e _ _ hr8' nrF)) ?_ ?_⟩
        · rintro j v σ H0 H9 hj9 ⟨v7, rfl, eF9, zs, hF9, hzs⟩ ⟨rfl, hv⟩
          obtain ⟨so, hso2, b, rfl, hb⟩ := hus.get hv
          have hb9 := hb.fz (eF9.fz hF8 rfl)
          have hstep : ((setsOf scs i).take (j + 1)).foldl (exOne (goodS eds s ds s')) (expl (goodS eds s ds s') scs i) = exOne (goodS eds s ds s') (((setsOf scs i).take j).foldl (exOne (goodS eds s ds s')) (expl (goodS eds s ds s') scs i)) so := by
            rw [List.take_succ, hso2]
            exact List.foldl_append
          have hsm := fold_small (good := goodS eds s ds s') (scs := scs) (i := i) (l := (setsOf scs i).take j) fun x hx => List.mem_of_mem_take hx
          have hcnt := fold_len (good := goodS eds s ds s') ((setsOf scs i).take j) (expl (goodS eds s ds s') scs i)
          rw [List.length_take] at hcnt
          have h1k := h1024 i (by omega)
          generalize hacc : ((setsOf scs i).take j).foldl (exOne (goodS eds s ds s')) (expl (goodS eds s ds s') scs i) = acc at hstep hsm hcnt hzs
          have hzl := hzs.len
          refine ⟨_, rfl, F, rfl, ⟨zs, SqL.of hF9⟩, fun D2 hD2 => lc_list (xs := zs) (fun k H' => Ex H9 H' ∧ H' D2 = some (.lst (((acc.take k).map fun o => isPart o so).map V.bl))) ⟨Ex.new hD2, upd_same⟩ (fun k H' _ q => SqL.of (q.1 _ _ hF9)) ?_ ?_⟩
          · rintro k v H' hv2 ⟨e10, hd10⟩
            obtain ⟨o, ho, b2, rfl, hb2⟩ := hzs.get hv2
            refine ⟨rfl, yes_ok ?_⟩
            refine ⟨_, rfl, _, rfl, b2, b, o, so, rfl, hb2.fz (Fz.ex e10), hb9.fz (Fz.ex e10), ?_, fun H11 e11 => ⟨_, e11 _ _ hd10, ?_, (e10.trans e11).mut hD2, ?_⟩⟩
            · have := hsm o (List.mem_of_getElem? ho)
              omega
            · rw [List.length_map, List.length_map, List.length_take, sizeLine_eq]
              omega
            · rw [upd_same, List.take_succ, ho, List.map_append, List.map_append] <;> rfl
          · rintro H10 ⟨e10, hd10⟩
            rw [hzl, List.take_length] at hd10
            have hF10 := e10 _ _ hF9
            have eF10 := eF9.trans (ExB.ex e10)
            refine ⟨D2, _, rfl, SqL.of hd10, ?_⟩
            refine ⟨_, rfl, ?_⟩
            have eany : (acc.map fun o => isPart o so).any id = acc.any fun o => isPart o so := by rw [List.any_map] <;> rfl
            rw [eany]
            cases hany : acc.any fun o => isPart o so with
            | true =>
              refine iteF ⟨_, rfl, eF10, zs, hF10, ?_⟩
              rw [hstep]
              unfold exOne
              rw [if_pos hany]
              exact hzs.imp fun _ _ h => h.fz (Fz.ex e10)
            | false =>
              refine iteT ?_
              have eFA := eF8.trans eF10
              have fzA := (extN_fz eN6).trans (eFA.fz hF6 rfl)
              refine ⟨_, rfl, _, rfl, _, rfl, y, dl, b, st, s, eds, ds, so, rfl, Sy.fz fzA, S.fz fzA, ok, hs, keepD _ eFA, hb9.fz (Fz.ex e10), fun z2 H11 e11 hz2 => ?_⟩
              have fzB := fzA.trans (Fz.ex e11)
              have Sz11 := Sz.fz fzB
              obtain ⟨d1, r1, t1, g1, _, _⟩ := id hz2
              obtain ⟨d2, r2, t2, g2, _, _⟩ := id Sz11
              have hF11 := e11 _ _ hF10
              have eF11 := eF10.trans (ExB.ex e11)
              refine ⟨_, rfl, z2, d1, _, z, d2, _, rfl, rfl, g1, g2, z2, z, st, _, s', eds, rfl, hz2, Sz11, S.fz fzB, _, rfl, _, rfl, ?_⟩
              rw [if_neg (by decide)]
              have hz11 := hzs.imp fun _ _ h => FaV.fz (Fz.ex (e10.trans e11)) h
              by_cases hg : behA eds (Pf so) s ds = s'
              · refine iteP hg ?_
                refine ⟨_, rfl, .inl ⟨rfl, _, SqL.of hF11⟩, _, rfl, F, zs, _, rfl, rfl, hF11, (by rw [sizeLine_eq]; omega), ?_⟩
                have fzC : Fz H11 (upd H11 F (.lst (zs ++ [.ref b]))) := Fz.put hF11 rfl
                refine ⟨_, rfl, eF11.trans ExB.put, _, upd_same, ?_⟩
                rw [hstep]
                unfold exOne
                rw [hany, if_neg (by decide), if_pos (decide_eq_true hg)]
                exact (hz11.imp fun _ _ h => h.fz fzC).app (.cons ⟨b, rfl, (hb9.fz (Fz.ex (e10.trans e11))).fz fzC⟩ .nil)
              · refine iteN hg ⟨_, rfl, eF11, zs, hF11, ?_⟩
                rw [hstep]
                unfold exOne
                rw [hany, if_neg (by decide), if_neg (fun z => hg (of_decide_eq_true z))]
                exact hz11
        · rintro σ H' ⟨v7, rfl, eF9, zs, hF9, hzs⟩
          rw [hul, List.take_length] at hzs
          exact ⟨_, _, rfl, eF8.trans eF9, zs, hF9, hzs⟩
      · rintro σ H' ⟨v6, v7, rfl, eF7, zs, hF7, hzs⟩
        refine ⟨_, rfl, k F zs scs H' (fun b o h l => eF7 _ _ (eN6 b o h l) (nH b o h l)) (keepT H' eF7) hF7 sok hzs⟩
end
end Hs
end
section
set_option Elab.async false
set_option linter.all false
set_option maxRecDepth 100000
set_option maxHeartbeats 4000000
namespace Hs
open PySem PySem.Spec PyProof.Rows L2
open C8 (Cal Met Mak InsC pe_c pe_mk pe_mt pe_mt0 pe_gc call_isC)
open LamX (TabB Tabs ExtN TabS)
open PySem.W (AllAlike Sortable dataLe)
open Evl (Ex)
section
variable {P : Program} {w : World} {K : PySem.W.Frag} {mg : Str → Option Value} {base : Heap} {a : Ads}
/-! ### need_sets -/
def spNeedSets (K : PySem.W.Frag) (a : Ads) : Sp := fun vs H Q _ => ∃ (y l st : Addr) (s : St) (eds : List Ed) (xs : List V) (fls : List (List Sc)), vs = [.ref y, .ref l] ∧ SysOp K a H st y s ∧ StoreAt K a H st eds ∧ SqL K H l xs ∧ All2 (FaV K H) xs fls ∧ (∀ fl ∈ fls, fl.length ≤ 1000 ∧ ∀ c ∈ fl, scOk eds c = true) ∧ ∀ H', Ex H H' → Q .non H'
theorem scNeedSets : FnScope ["system", "sets", "index", "faulty", "script"] ["system", "sets"] (defScope s_need_sets) := ⟨rfl, rfl, rfl, by decide +kernel, rfl, by decide +kernel, by decide +kernel⟩
theorem c_need_sets (T : TX K mg a) : Cal P w K mg base 4 "need_sets" (spNeedSets K a) [] := by
  refine calF T.d_need_sets (fun _ _ _ _ _ _ us hl => match us, hl with | [_, _], _ => rfl) scNeedSets (fun vs H Q E h => ?_) fun fa cdv A outer s0 H vs Q E hr h => ?_
  · obtain ⟨y, l, st, s, eds, xs, fls, rfl, _⟩ := h
    rfl
  · obtain ⟨y, l, st, s, eds, xs, fls, rfl, Sy, S, hl, hx, hok, k⟩ := h
    have hu := hu_of hr
    have hI := c_is_script (P := P) (w := w) (base := base) T
    have hP := p_store (P := P) (w := w) (base := base) T
    obtain ⟨dy, ry, ty, y1, _, _⟩ := id Sy
    refine ⟨_, pss_one (ps_for PassesOwn.never rfl (pi_enum (by rfl) T.f_enumerate (pa_cons (pv 1) pa_nil)) (pg_tup rfl (pgs_cons (pg_name (i := 2) scNeedSets.nd rfl (Or.inl rfl)) (pgs_cons (pg_name (i := 3) scNeedSets.nd rfl (Or.inl rfl)) pgs_nil)))
        (pss_one (ps_if (pt_not (pt_val (pe_callB (cr_all rfl) (by rfl) T.f_all PyProof.Rows.boot_all (pa_cons
          (pe_lc (own := [("script", 4)]) (g := gName 4) (tt := tYes) rfl scNeedSets.nd (pi_tup (pv 3)) (blkOk_by (N := ["system", "sets", "index", "faulty", "script"]) (sc := defScope s_need_sets) (by decide +kernel))
            (fun _ _ _ _ _ => pg_name (i := 4) scNeedSets.nd rfl (Or.inl rfl)) (fun _ _ _ _ _ => pts_nil) (fun _ _ _ _ _ => pe_cc hI hr (pa_cons (pe_pr hP hr (by decide) (pv 0)) (pa_cons (pv 4) pa_nil)))) pa_nil)))) pss_never pss_nil))), ?_⟩
    refine ⟨_, rfl, l, xs, rfl, hl, for_it walk_enum (fun i σ H' => ∃ v2 v3, σ = [some (.ref y), some (.ref l), v2, v3, none] ∧ Ex H H') ⟨_, _, rfl, Ex.refl _⟩ (fun i σ H' _ ⟨_, _, _, e⟩ => sqL_extN (ExtN.of e) hl) ?_ ?_⟩
    · rintro i x σ H0 H' hi ⟨v2, v3, rfl, e1⟩ ⟨T', x1, x2, rfl, hT, rfl, hx1, hx2⟩
      cases hx1
      obtain ⟨fl, hfl, q, rfl, vs, hq, hvs⟩ := hx.get hx2
      have e2 : Ex H (upd H0 T' (.tup [.int (i : Nat), .ref q])) := e1.trans (Ex.new hT)
      have hTT : (upd H0 T' (.tup [.int (i : Nat), .ref q])) T' = some (.tup [.int (i : Nat), .ref q]) := upd_same
      generalize upd H0 T' (.tup [.int (i : Nat), .ref q]) = H2 at e2 hTT ⊢
      obtain ⟨hf1, hf2⟩ := hok fl (List.mem_of_getElem? hfl)
      have hvl := hvs.len
      refine ⟨T', _, rfl, .inl (.inl hTT), rfl, _, _, rfl, _, _, rfl, rfl, ?_⟩
      refine ⟨_, rfl, q, rfl, ⟨vs, fz_t (Fz.ex e2) hq⟩, fun DD hDD => lc_it (walk_tup (xs := vs)) (fun j H' => Ex H2 H' ∧ H' DD = some (.lst ((List.replicate j true).map V.bl))) ⟨Ex.new hDD, upd_same⟩ (fun j H' _ q => fz_t (Fz.ex (e2.trans q.1)) hq) ?_ ?_⟩
      · rintro j x H3 H4 hj ⟨e3, hd⟩ ⟨rfl, hx⟩
        obtain ⟨c, hc, qq, rfl, hqq⟩ := hvs.get hx
        have e23 := e2.trans e3
        refine ⟨rfl, yes_ok ?_⟩
        refine ⟨_, rfl, y, dy, _, rfl, e23 _ _ y1, y, st, s, rfl, (Sy.fz (Fz.ex e23)).at, _, rfl, st, qq, eds, c, rfl, S.fz (Fz.ex e23), fz_t (Fz.ex e23) hqq, fun H5 e5 => ?_⟩
        refine ⟨_, e5 _ _ hd, ?_, (e3.trans e5).mut hDD, ?_⟩
        · rw [List.length_map, List.length_replicate, sizeLine_eq]
          omega
        · rw [upd_same, hf2 c (List.mem_of_getElem? hc), List.replicate_succ', List.map_append] <;> rfl
      · rintro H' ⟨e3, hd⟩
        refine ⟨DD, _, rfl, SqL.of hd, ?_⟩
        refine ⟨_, rfl, ?_⟩
        have e : (List.replicate vs.length true).all id = true := by
          rw [List.all_eq_true]
          intro x hx
          rw [List.eq_of_mem_replicate hx] <;> rfl
        rw [e]
        exact iteF ⟨_, _, rfl, e2.trans e3⟩
    · rintro σ H' ⟨v2, v3, rfl, e1⟩
      exact k H' e1
/-! ### are_unlike -/
def spUnlike (K : PySem.W.Frag) (a : Ads) : Sp := fun vs H Q _ => ∃ (y dl l st : Addr) (s : St) (eds : List Ed) (ds : List Dd) (v0 v1 : V) (f0 f1 : List Sc), vs = [.ref y, .ref dl, .ref l] ∧ SysOp K a H st y s ∧ StoreAt K a H st eds ∧ EdsOk eds ∧ StOk eds s ∧ DdsAt K H dl ds ∧ SqL K H l [v0, v1] ∧ FaV K H v0 f0 ∧ FaV K H v1 f1 ∧
  ∀ H', Ex H H' → Q (.bl (!decide (behA eds (Pf f0) s ds = behA eds (Pf f1) s ds))) H'
theorem scUnlike : FnScope ["system", "deeds", "sets", "lines", "faulty"] ["system", "deeds", "sets"] (defScope s_are_unlike) := ⟨rfl, rfl, rfl, by decide +kernel, rfl, by decide +kernel, by decide +kernel⟩
theorem two_keys {k0 k1 : NestedKey} {l : List NestedKey} (hs : ∀ k ∈ l, k = k0 ∨ k = k1) (h0 : k0 ∈ l) (h1 : k1 ∈ l) (nd : l.Nodup) : (l.length : Int) = 2 ↔ k0 ≠ k1 := by
  have a := nodup_le (D := [k0, k1]) nd fun k hk => by
    rcases hs k hk with e | e <;> rw [e] <;> simp
  simp only [List.length_cons, List.length_nil] at a
  constructor
  · intro e z
    subst z
    have b := nodup_le (D := [k0]) nd fun k hk => by
      rcases hs k hk with e | e <;> rw [e] <;> simp
    simp only [List.length_cons, List.length_nil] at b
    omega
  · intro z
    have b := nodup_le (l := [k0, k1]) (D := l) (by simp [z]) fun k hk => by
      rcases List.mem_cons.mp hk with e | e
      · rw [e]; exact h0
      · rw [List.mem_singleton.mp e]; exact h1
    simp only [List.length_cons, List.length_nil] at b
    omega
theorem c_unlike (T : TX K mg a) : Cal P w K mg base 10 "are_unlike" (spUnlike K a) [] := by
  refine calF T.d_are_unlike (fun _ _ _ _ _ _ us hl => match us, hl with | [_, _, _], _ => rfl) scUnlike (fun vs H Q E h => ?_) fun fa cdv A outer s0 H vs Q E hr h => ?_
  · obtain ⟨y, dl, l, st, s, eds, ds, v0, v1, f0, f1, rfl, _⟩ := h
    rfl
  · obtain ⟨y, dl, l, st, s, eds, ds, v0, v1, f0, f1, rfl, Sy, S, ok, hs, hds, hl, hf0, hf1, k⟩ := h
    have hu := hu_of hr
    have hL := p_line (P := P) (w := w) (base := base) T
    have hB := c_behA (P := P) (w := w) (base := base) T
    refine ⟨_, pss_cons (ps_setLc (i := 3) (own := [("faulty", 4)]) (g := gName 4) rfl scUnlike.nd rfl rfl (sw_true rfl rfl rfl (by decide +kernel)) (pi_list (pv 2)) (blkOk_by (N := ["system", "deeds", "sets", "lines", "faulty"]) (sc := defScope s_are_unlike) (by decide +kernel))
        (fun _ _ _ _ _ => pg_name (i := 4) scUnlike.nd rfl (Or.inl rfl)) (fun _ _ _ _ _ => pts_nil) (fun _ _ _ _ _ => pe_pr hL hr (by decide) (pe_cc hB hr (pa_cons (pv 0) (pa_cons (pv 1) (pa_cons (pv 4) pa_nil))))))
      (pss_one (ps_ret (pe_cmpR op_eq (pe_callB cr_lenSetN (by rfl) T.f_len PySem.boot_len (pa_cons (pe_callTy (cr_setOfNK K w ⟨rfl, rfl⟩ rfl hr.units) (by rfl) T.f_set (by decide +kernel) (pa_cons (pv 3) pa_nil)) pa_nil))
        (pe_callB call_len_seq (by rfl) T.f_len PySem.boot_len (pa_cons (pv 3) pa_nil)) rfl))), ?_⟩
    have hfs : All2 (FaV K H) [v0, v1] [f0, f1] := .cons hf0 (.cons hf1 .nil)
    refine ⟨_, rfl, l, rfl, ⟨_, hl⟩, fun DD hDD => lc_list (xs := [v0, v1]) (fun i H' => Ex H H' ∧ ∃ zs, H' DD = some (.lst zs) ∧ All2 (fun v s => ∃ q, v = V.ref q ∧ LnAt K H' q s) zs ((([f0, f1] : List (List Sc)).take i).map fun fl => behA eds (Pf fl) s ds)) ⟨Ex.new hDD, [], upd_same, .nil⟩ (fun i H' _ q => sqL_extN (ExtN.of q.1) hl) ?_ ?_⟩
    · rintro i v H' hv ⟨e3, zs, hd, hz⟩
      obtain ⟨fl, hfl, q, rfl, hq⟩ := hfs.get hv
      have hzl := hz.len
      rw [List.length_map, List.length_take] at hzl
      simp only [List.length_cons, List.length_nil] at hzl
      have fz := Fz.ex e3
      refine ⟨rfl, yes_ok ?_⟩
      refine ⟨_, rfl, _, rfl, _, rfl, y, dl, q, st, s, eds, ds, fl, rfl, Sy.fz fz, S.fz fz, ok, hs, hds.extN (ExtN.of e3), hq.fz fz, fun z H4 e4 hz4 => ?_⟩
      obtain ⟨dz, rz, tz, z1, _, _⟩ := id hz4
      refine ⟨z, dz, _, rfl, z1, z, st, _, rfl, hz4, fun ka H5 e5 hka => ?_⟩
      have e45 := e4.trans e5
      refine ⟨zs, e45 _ _ hd, by rw [sizeLine_eq]; omega, (e3.trans e45).mut hDD, _, upd_same, ?_⟩
      have fz5 : Fz H5 (upd H5 DD (.lst (zs ++ [.ref ka]))) := Fz.put (e45 _ _ hd) rfl
      rw [List.take_succ, hfl, List.map_append]
      exact (hz.imp fun _ _ ⟨q, e, h⟩ => ⟨q, e, (h.fz (Fz.ex e45)).fz fz5⟩).app (.cons ⟨ka, rfl, hka.fz fz5⟩ .nil)
    · rintro H' ⟨e3, zs, hd, hz⟩
      obtain ⟨ks, rfl, h2, h3⟩ := All2.keyed (f := lnKey) (fun c => lnKey_depth c) (hz.imp fun v c ⟨q, e, h⟩ => ⟨q, e, h.nk⟩)
      have h2' : ks.map (·.2) = [lnKey (behA eds (Pf f0) s ds), lnKey (behA eds (Pf f1) s ds)] := h2
      have hkl : ks.length = 2 := by
        have := congrArg List.length h2'
        rwa [List.length_map] at this
      refine ⟨_, rfl, DD, ks, rfl, SqL.of hd, h3, by omega, fun sa L ha hL1 hL2 hnd hln => ?_⟩
      have e4 : Ex H' (upd H' sa (SetN w sa L)) := Ex.new ha
      refine ⟨sa, L, rfl, upd_same, ?_⟩
      refine ⟨_, rfl, DD, _, rfl, .inl (SqL.of (e4 _ _ hd)), rfl, ?_⟩
      have hmem : ∀ k, k ∈ L.map (·.2) → k ∈ ks.map (·.2) := fun k hk => by
        obtain ⟨p, hp, rfl⟩ := List.mem_map.mp hk
        exact List.mem_map.mpr ⟨p, hL1 p hp, rfl⟩
      have hmem2 : ∀ k, k ∈ ks.map (·.2) → k ∈ L.map (·.2) := fun k hk => by
        obtain ⟨p, hp, rfl⟩ := List.mem_map.mp hk
        exact hL2 p hp
      rw [h2'] at hmem hmem2
      have tk := two_keys (l := L.map (·.2)) (fun k hk => by simpa using hmem k hk) (hmem2 _ (by simp)) (hmem2 _ (by simp)) hnd
      rw [List.length_map] at tk
      have kk := k _ (e3.trans e4)
      have hlen2 : ((ks.map fun p => V.ref p.1).length : Int) = 2 := by rw [List.length_map, hkl] <;> rfl
      rw [hlen2]
      have e : decide (V.int (L.length : Int) = V.int 2) = !decide (behA eds (Pf f0) s ds = behA eds (Pf f1) s ds) := by
        by_cases c : behA eds (Pf f0) s ds = behA eds (Pf f1) s ds
        · rw [decide_eq_true c, Bool.not_true]
          refine decide_eq_false fun z => ?_
          injection z with z
          exact tk.mp z (by rw [c])
        · rw [decide_eq_false c, Bool.not_false]
          refine decide_eq_true ?_
          rw [tk.mpr fun z => c (lnKey_inj.mp z)]
      rw [e]
      exact kk
/-! ### tells_apart -/
def spTells (K : PySem.W.Frag) (a : Ads) : Sp := fun vs H Q _ => ∃ (y dl l st : Addr) (s : St) (eds : List Ed) (ds : List Dd) (v0 v1 : V) (f0 f1 : List Sc), vs = [.ref y, .ref dl, .ref l] ∧ SysOp K a H st y s ∧ StoreAt K a H st eds ∧ EdsOk eds ∧ StOk eds s ∧ DdsAt K H dl ds ∧ SqL K H l [v0, v1] ∧ FaV K H v0 f0 ∧ FaV K H v1 f1 ∧ (∀ fl ∈ [f0, f1], fl.length ≤ 1000 ∧ ∀ c ∈ fl, scOk eds c = true) ∧
  ∀ H', Ex H H' → Q (.bl (!decide (behA eds (Pf f0) s ds = behA eds (Pf f1) s ds))) H'
theorem scTells : FnScope ["system", "deeds", "sets"] ["system", "deeds", "sets"] (defScope s_tells_apart) := ⟨rfl, rfl, rfl, by decide +kernel, rfl, by decide +kernel, by decide +kernel⟩
theorem c_tells (T : TX K mg a) : Cal P w K mg base 11 "tells_apart" (spTells K a) [] := by
  refine calF T.d_tells_apart (fun _ _ _ _ _ _ us hl => match us, hl with | [_, _, _], _ => rfl) scTells (fun vs H Q E h => ?_) fun fa cdv A outer s0 H vs Q E hr h => ?_
  · obtain ⟨y, dl, l, st, s, eds, ds, v0, v1, f0, f1, rfl, _⟩ := h
    rfl
  · obtain ⟨y, dl, l, st, s, eds, ds, v0, v1, f0, f1, rfl, Sy, S, ok, hs, hds, hl, hf0, hf1, hok, k⟩ := h
    have hu := hu_of hr
    have hN := c_need_sets (P := P) (w := w) (base := base) T
    have hU := c_unlike (P := P) (w := w) (base := base) T
    refine ⟨_, pss_cons (ps_expr (pe_cc hN hr (pa_cons (pv 0) (pa_cons (pv 2) pa_nil)))) (pss_one (ps_ret (pe_cc hU hr (pa_cons (pv 0) (pa_cons (pv 1) (pa_cons (pv 2) pa_nil)))))), ?_⟩
    refine ⟨_, rfl, _, rfl, y, l, st, s, eds, [v0, v1], [f0, f1], rfl, Sy, S, hl, .cons hf0 (.cons hf1 .nil), hok, fun H1 e1 => ?_⟩
    have fz := Fz.ex e1
    exact ⟨_, rfl, _, rfl, _, rfl, y, dl, l, st, s, eds, ds, v0, v1, f0, f1, rfl, Sy.fz fz, S.fz fz, ok, hs, hds.extN (ExtN.of e1), sqL_extN (ExtN.of e1) hl, hf0.fz fz, hf1.fz fz, fun H2 e2 => k H2 (e1.trans e2)⟩
end
end Hs
end
section
set_option Elab.async false
set_option linter.all false
set_option maxRecDepth 100000
set_option maxHeartbeats 4000000
namespace Hs
open PySem PySem.Spec PyProof.Rows L2
open C8 (Cal Met Mak InsC pe_c pe_mk pe_mt pe_mt0 pe_gc call_isC)
open LamX (TabB Tabs ExtN TabS)
open PySem.W (AllAlike Sortable dataLe)
open Evl (Ex)
def ddKey : Dd → NestedKey
  | .unpack n v => .tup [.text "unpack", .text (nm n), .num v]
  | .setup n => .tup [.text "setup", .text (nm n)]
  | .remove n => .tup [.text "remove", .text (nm n)]
  | .purge n => .tup [.text "purge", .text (nm n)]
theorem dd_nk {K : PySem.W.Frag} {H : Hp} {p : Addr} {d : Dd} (h : SqT K H p (ddV d)) : Nk K H (.ref p) (ddKey d) := by
  cases d with
  | unpack n v => exact .tup h (.cons (.text _) (.cons (.text _) (.cons (.num _) .nil)))
  | setup n => exact .tup h (.cons (.text _) (.cons (.text _) .nil))
  | remove n => exact .tup h (.cons (.text _) (.cons (.text _) .nil))
  | purge n => exact .tup h (.cons (.text _) (.cons (.text _) .nil))
theorem dd_nks {K : PySem.W.Frag} {H : Hp} : ∀ {vs : List V} {ds : List Dd}, All2 (DdAt K H) vs ds → NkAll K H vs (ds.map ddKey)
  | _, _, .nil => .nil
  | _, _, .cons ⟨p, e, h⟩ t => .cons (e ▸ dd_nk h) (dd_nks t)
theorem t_frzK {K : PySem.W.Frag} {H : Hp} {r : Addr} {od : Obj} {kvs : List (Key × V)} {o : HO} (h : H r = some (.frz od (.dK kvs))) {p : Addr} {xs : List V} (q : SqT K H p xs) : SqT K (upd H r o) p xs := by
  rcases q with (q | ⟨u, q⟩) | q
  · exact .inl (.inl (by rw [upd_ne (fun z => by rw [z, h] at q; cases q)]; exact q))
  · exact .inl (.inr ⟨u, by rw [upd_ne (fun z => by rw [z, h] at q; cases q)]; exact q⟩)
  · exact .inr q
section
variable {P : Program} {w : World} {K : PySem.W.Frag} {mg : Str → Option Value} {base : Heap} {a : Ads}
/-! ### all_deeds -/
def spAllDeeds (K : PySem.W.Frag) (a : Ads) : Sp := fun vs H Q _ => ∃ (y st : Addr) (s : St) (eds : List Ed), vs = [.ref y] ∧ SysOp K a H st y s ∧ StoreAt K a H st eds ∧ EdsOk eds ∧ StOk eds s ∧
  ∀ l xs ds H', Ex H H' → H l = none → H' l = some (.lst xs) → All2 (DdAt K H') xs ds → (∀ d ∈ ds, refu eds s d = false) → ds.length ≤ 5 → Q (.ref l) H'
theorem scAllDeeds : FnScope ["system", "found", "name", "version", "deed"] ["system"] (defScope s_all_deeds) := ⟨rfl, rfl, rfl, by decide +kernel, rfl, by decide +kernel, by decide +kernel⟩
theorem c_all_deeds (T : TX K mg a) : Cal P w K mg base 5 "all_deeds" (spAllDeeds K a) [] := by
  refine calF T.d_all_deeds (fun _ _ _ _ _ _ us hl => match us, hl with | [_], _ => rfl) scAllDeeds (fun vs H Q E h => ?_) fun fa cdv A outer s0 H vs Q E hr h => ?_
  · obtain ⟨y, st, s, eds, rfl, _⟩ := h
    rfl
  · obtain ⟨y, st, s, eds, rfl, Sy, S, ok, hs, k⟩ := h
    have hu := hu_of hr
    have hR := c_refusal (P := P) (w := w) (base := base) T
    have hV := m_versions (P := P) (w := w) (base := base) T
    refine ⟨_, pss_cons (ps_set (i := 1) scAllDeeds.nd rfl (Or.inl rfl) (pe_lst pa_nil))
      (pss_cons (ps_lock (ps_for PassesOwn.never rfl (pi_keys (pe_fld (pv 0) rfl)) (pg_name (i := 2) scAllDeeds.nd rfl (Or.inr rfl))
        (pss_cons (ps_expr (pe_bm PySem.F.plainAttrs_list PySem.F.slot_list_extend PySem.F.type_list_extend mt_extend (pv 1) (pa_cons (pe_lst (pa_cons (pe_tup (pa_cons (pe_gs T.g_PURGE) (pa_cons (pv 2) pa_nil))) (pa_cons (pe_tup (pa_cons (pe_gs T.g_REMOVE) (pa_cons (pv 2) pa_nil))) (pa_cons (pe_tup (pa_cons (pe_gs T.g_SETUP) (pa_cons (pv 2) pa_nil))) pa_nil)))) pa_nil)))
        (pss_one (ps_expr (pe_bm PySem.F.plainAttrs_list PySem.F.slot_list_extend PySem.F.type_list_extend mt_extend (pv 1) (pa_cons
          (pe_lc (own := [("version", 3)]) (g := gName 3) (tt := tYes) rfl scAllDeeds.nd (pi_tup (pe_mt hV hr (by decide) (pe_fld (pv 0) rfl) (pa_cons (pv 2) pa_nil))) (blkOk_by (N := ["system", "found", "name", "version", "deed"]) (sc := defScope s_all_deeds) (by decide +kernel))
            (fun _ _ _ _ _ => pg_name (i := 3) scAllDeeds.nd rfl (Or.inl rfl)) (fun _ _ _ _ _ => pts_nil) (fun _ _ _ _ _ => pe_tup (pa_cons (pe_gs T.g_UNPACK) (pa_cons (pv 2) (pa_cons (pv 3) pa_nil))))) pa_nil)))))))
      (pss_one (ps_ret (pe_lc (own := [("deed", 4)]) (g := gName 4) rfl scAllDeeds.nd (pi_list (pe_callB (cr_sortedC rfl hr.units) (by rfl) T.f_sorted (by decide +kernel) (pa_cons (pv 1) pa_nil))) (blkOk_by (N := ["system", "found", "name", "version", "deed"]) (sc := defScope s_all_deeds) (by decide +kernel))
        (fun _ _ _ _ _ => pg_name (i := 4) scAllDeeds.nd rfl (Or.inl rfl)) (fun _ _ _ _ _ => pts_one (pt_cmp (pc_isN (pe_cc hR hr (pa_cons (pv 0) (pa_cons (pv 4) pa_nil)))))) (fun _ _ _ _ _ => pv 4))))), ?_⟩
    obtain ⟨dx, r, t, h1, h2, h3⟩ := id Sy
    refine ⟨(by show 0 ≤ sizeLine; decide), fun F hF => ?_⟩
    have nrF : r ≠ F := fun z => by rw [z, hF] at h2; cases h2
    have e1 : Ex H (upd H F (.lst [])) := Ex.new hF
    have hF1 : (upd H F (.lst [])) F = some (.lst []) := upd_same
    generalize upd H F (.lst []) = H1 at e1 hF1 ⊢
    have h2' := e1 _ _ h2
    refine ⟨r, .dK [(.inr app, .ref t)], h2', trivial, fun od => ?_⟩
    have lk : Lk H1 (upd H1 r (.frz od (.dK [(.inr app, .ref t)]))) := Lk.on h2' trivial
    have hr2 : (upd H1 r (.frz od (.dK [(.inr app, .ref t)]))) r = some (.frz od (.dK [(.inr app, .ref t)])) := upd_same
    have hF2 : (upd H1 r (.frz od (.dK [(.inr app, .ref t)]))) F = some (.lst []) := by rw [upd_ne nrF.symm]; exact hF1
    have k12 : ∀ b o, b ≠ r → H1 b = some o → (upd H1 r (.frz od (.dK [(.inr app, .ref t)]))) b = some o := fun b o n h => by rw [upd_ne n]; exact h
    generalize upd H1 r (.frz od (.dK [(.inr app, .ref t)])) = H2 at lk hr2 hF2 k12 ⊢
    have Sy2 : SysAt K a H2 st y s := (Sy.fz (Fz.ex e1)).at.lk lk
    have S2 : StoreAt K a H2 st eds := (S.fz (Fz.ex e1)).lk lk
    have hy2 := lk.ins _ _ _ _ (e1 _ _ h1)
    refine ⟨_, rfl, y, a.sy, dx, _, _, rfl, hy2, T.cl_sy, T.no_sy_rows, rfl, r, od, rfl, .inl ⟨_, hr2, for_it walk_keys (fun i σ H' => ∃ v2, σ = [some (.ref y), some (.ref F), v2, none, none] ∧ ExB F H2 H' ∧ ∃ zs ds, H' F = some (.lst zs) ∧ All2 (DdAt K H') zs ds ∧ ds.length ≤ 5 * i)
      ⟨none, rfl, ExB.rfl', [], [], hF2, .nil, Nat.le_refl _⟩ (fun i σ H' _ ⟨_, _, e, _⟩ => e _ _ hr2 nrF) ?_ ?_⟩⟩
    · rintro i x σ H' H0 hi ⟨v2, rfl, eF, zs, ds, hFz, hz, hdl⟩ ⟨rfl, k0, v0, hk, rfl⟩
      have hi0 : i = 0 := by
        simp only [List.length_cons, List.length_nil] at hi
        omega
      subst hi0
      obtain ⟨rfl, rfl⟩ : (.inr app : Key) = k0 ∧ V.ref t = v0 := by
        have z := Option.some.inj hk
        injection z with z1 z2
        exact ⟨z1, z2⟩
      have hds0 : ds = [] := List.eq_nil_of_length_eq_zero (by omega)
      subst hds0
      have hzs0 : zs = [] := List.eq_nil_of_length_eq_zero hz.len
      subst hzs0
      have fz2 : Fz H2 H0 := eF.fz hF2 rfl
      -- the three
      refine ⟨_, rfl, .inl ⟨rfl, _, SqL.of hFz⟩, _, rfl, (by show 2 ≤ sizeLine; decide), fun p1 hp1 => ?_⟩
      refine ⟨_, rfl, (by show 2 ≤ sizeLine; decide), fun p2 hp2 => ?_⟩
      refine ⟨_, rfl, (by show 2 ≤ sizeLine; decide), fun p3 hp3 => ?_⟩
      refine ⟨(by show 3 ≤ sizeLine; decide), fun l3 hl3 => ?_⟩
      have e3 : Ex H0 (upd (upd (upd (upd H0 p1 (.tup [.str "purge", kV (Sum.inr app)])) p2 (.tup [.str "remove", kV (Sum.inr app)])) p3 (.tup [.str "setup", kV (Sum.inr app)])) l3 (.lst [.ref p1, .ref p2, .ref p3])) := (((Ex.new hp1).trans (Ex.new hp2)).trans (Ex.new hp3)).trans (Ex.new hl3)
      have g1 : (upd (upd (upd (upd H0 p1 (.tup [.str "purge", kV (Sum.inr app)])) p2 (.tup [.str "remove", kV (Sum.inr app)])) p3 (.tup [.str "setup", kV (Sum.inr app)])) l3 (.lst [.ref p1, .ref p2, .ref p3])) p1 = some (.tup [.str "purge", kV (Sum.inr app)]) := (((Ex.new hp2).trans (Ex.new hp3)).trans (Ex.new hl3)) _ _ upd_same
      have g2 : (upd (upd (upd (upd H0 p1 (.tup [.str "purge", kV (Sum.inr app)])) p2 (.tup [.str "remove", kV (Sum.inr app)])) p3 (.tup [.str "setup", kV (Sum.inr app)])) l3 (.lst [.ref p1, .ref p2, .ref p3])) p2 = some (.tup [.str "remove", kV (Sum.inr app)]) := ((Ex.new hp3).trans (Ex.new hl3)) _ _ upd_same
      have g3 : (upd (upd (upd (upd H0 p1 (.tup [.str "purge", kV (Sum.inr app)])) p2 (.tup [.str "remove", kV (Sum.inr app)])) p3 (.tup [.str "setup", kV (Sum.inr app)])) l3 (.lst [.ref p1, .ref p2, .ref p3])) p3 = some (.tup [.str "setup", kV (Sum.inr app)]) := (Ex.new hl3) _ _ upd_same
      have g4 : (upd (upd (upd (upd H0 p1 (.tup [.str "purge", kV (Sum.inr app)])) p2 (.tup [.str "remove", kV (Sum.inr app)])) p3 (.tup [.str "setup", kV (Sum.inr app)])) l3 (.lst [.ref p1, .ref p2, .ref p3])) l3 = some (.lst [.ref p1, .ref p2, .ref p3]) := upd_same
      generalize upd (upd (upd (upd H0 p1 (.tup [.str "purge", kV (Sum.inr app)])) p2 (.tup [.str "remove", kV (Sum.inr app)])) p3 (.tup [.str "setup", kV (Sum.inr app)])) l3 (.lst [.ref p1, .ref p2, .ref p3]) = H3 at e3 g1 g2 g3 g4 ⊢
      have hF3 := e3 _ _ hFz
      refine ⟨F, l3, _, _, rfl, rfl, hF3, g4, (by show 3 ≤ sizeLine; decide), ?_⟩
      have fz4 : Fz H3 (upd H3 F (.lst [.ref p1, .ref p2, .ref p3])) := Fz.put hF3 rfl
      have eF4 : ExB F H2 (upd H3 F (.lst [.ref p1, .ref p2, .ref p3])) := (eF.trans (ExB.ex e3)).trans ExB.put
      have hF4 : (upd H3 F (.lst [.ref p1, .ref p2, .ref p3])) F = some (.lst [.ref p1, .ref p2, .ref p3]) := upd_same
      have hz4 : All2 (DdAt K (upd H3 F (.lst [.ref p1, .ref p2, .ref p3]))) [.ref p1, .ref p2, .ref p3] [.purge true, .remove true, .setup true] :=
        .cons ⟨p1, rfl, .inl (.inl (fz4 _ _ g1 rfl))⟩ (.cons ⟨p2, rfl, .inl (.inl (fz4 _ _ g2 rfl))⟩ (.cons ⟨p3, rfl, .inl (.inl (fz4 _ _ g3 rfl))⟩ .nil))
      have eqn : ([] : List V) ++ [V.ref p1, V.ref p2, V.ref p3] = [V.ref p1, V.ref p2, V.ref p3] := rfl
      rw [eqn]
      generalize upd H3 F (.lst [.ref p1, .ref p2, .ref p3]) = H4 at eF4 hF4 hz4 ⊢
      have fzA := eF4.fz hF2 rfl
      -- the versions
      obtain ⟨ds1, dd1, es1, s1, _, _⟩ := id S2
      have y4 := eF4 _ _ hy2 (fun z => by rw [z, hF2] at hy2; cases hy2)
      have st4 := eF4 _ _ s1 (fun z => by rw [z, hF2] at s1; cases s1)
      refine ⟨_, rfl, .inl ⟨rfl, _, SqL.of hF4⟩, _, rfl, y, a.sy, dx, _, _, rfl, y4, T.cl_sy, T.no_sy_base, rfl, st, ds1, _, rfl, st4, rfl, _, rfl, st, eds, rfl, S2.fz fzA, ok, fun p5 ls H5 e5 hp5 hls => ?_⟩
      have hll : ls.length ≤ 2 := by
        rw [hls.length_eq]
        unfold vers
        rw [List.length_map]
        exact ok.few
      refine ⟨p5, rfl, ⟨_, .inl (.inl hp5)⟩, fun DD hDD => lc_tup (xs := ls.map V.int) (fun j H' => Ex H5 H' ∧ ∃ us, H' DD = some (.lst us) ∧ All2 (DdAt K H') us ((ls.take j).map fun v => Dd.unpack true v)) ⟨Ex.new hDD, [], upd_same, .nil⟩ (fun j H' _ q => .inl (.inl (q.1 _ _ hp5))) ?_ ?_⟩
      · rintro j v H' hv ⟨e6, us, hd, hus⟩
        rw [List.getElem?_map] at hv
        cases hvv : ls[j]? with
        | none => rw [hvv] at hv; cases hv
        | some u =>
          rw [hvv] at hv
          obtain rfl : V.int u = v := Option.some.inj hv
          have hul := hus.len
          rw [List.length_map, List.length_take] at hul
          refine ⟨rfl, yes_ok ?_⟩
          refine ⟨_, rfl, _, rfl, (by show 3 ≤ sizeLine; decide), fun b hb => ⟨us, Ex.new hb _ _ hd, by rw [sizeLine_eq]; omega, (e6.trans (Ex.new hb)).mut hDD, _, upd_same, ?_⟩⟩
          have fz := (Fz.new (o := .tup [.str "unpack", .str app, .int u]) hb).trans (Fz.put (u := .lst us) (o := .lst (us ++ [.ref b])) (Ex.new hb _ _ hd) rfl)
          rw [List.take_succ, hvv, List.map_append]
          refine (hus.imp fun _ _ h => h.fz fz).app (.cons ⟨b, rfl, .inl (.inl ?_)⟩ .nil)
          rw [upd_ne (ne_of_none hd hb).symm, upd_same] <;> rfl
      · rintro H' ⟨e6, us, hd, hus⟩
        rw [List.length_map, List.take_length] at hus
        have e56 := e5.trans e6
        have hF6 := e56 _ _ hF4
        have hul := hus.len
        rw [List.length_map] at hul
        refine ⟨F, DD, _, us, rfl, rfl, hF6, hd, (by rw [sizeLine_eq]; simp only [List.length_cons, List.length_nil]; omega), ?_⟩
        have fz7 : Fz H' (upd H' F (.lst ([.ref p1, .ref p2, .ref p3] ++ us))) := Fz.put hF6 rfl
        refine ⟨_, rfl, (eF4.trans (ExB.ex e56)).trans ExB.put, _, _, upd_same, (hz4.imp fun _ _ h => (h.fz (Fz.ex e56)).fz fz7).app (hus.imp fun _ _ h => h.fz fz7), ?_⟩
        rw [List.length_append, List.length_map]
        simp only [List.length_cons, List.length_nil]
        omega
    · rintro σ H3 ⟨v2, rfl, eF, zs, ds, hFz, hz, hdl⟩
      have hr3 := eF _ _ hr2 nrF
      refine ⟨hr3, ?_⟩
      simp only [List.length_cons, List.length_nil] at hdl
      have e4 : Ex H (upd H3 r (.dK [(.inr app, .ref t)])) := fun b o h => by
        by_cases c : b = r
        · subst c
          rw [h2] at h
          cases h
          exact upd_same
        · rw [upd_ne c]
          exact eF _ _ (k12 _ _ c (e1 _ _ h)) (ne_of_none h hF)
      have hF4 : (upd H3 r (.dK [(.inr app, .ref t)])) F = some (.lst zs) := by rw [upd_ne nrF.symm]; exact hFz
      have hz4 : All2 (DdAt K (upd H3 r (.dK [(.inr app, .ref t)]))) zs ds := hz.imp fun v d ⟨p, e, h⟩ => ⟨p, e, t_frzK hr3 h⟩
      generalize upd H3 r (.dK [(.inr app, .ref t)]) = H4 at e4 hF4 hz4 ⊢
      have hal := alike_of (f := ddKey) (fun c c' => by cases c <;> cases c' <;> rfl) ds
      have hso := sortable_of (f := ddKey) (fun c => by cases c <;> exact ⟨_, _, rfl⟩) ds
      have hde := depth_of (f := ddKey) (fun c => by cases c <;> (show 1 ≤ 8; decide)) ds
      have hzl := hz4.len
      refine ⟨_, rfl, F, zs, ds.map ddKey, rfl, col_list (SqL.of hF4), dd_nks hz4, by rw [sizeLine_eq]; omega, hal, hso, hde, fun ys ls p pys _ _ _ hp => ?_⟩
      obtain ⟨gs, pg, rg⟩ := hz4.perm pys.symm
      have e5 : Ex H4 (upd H4 p (.lst ys)) := Ex.new hp
      have hp5 : (upd H4 p (.lst ys)) p = some (.lst ys) := upd_same
      generalize upd H4 p (.lst ys) = H5 at e5 hp5 ⊢
      have hgl : gs.length ≤ 5 := by rw [← pg.length_eq]; omega
      have e45 := e4.trans e5
      refine ⟨p, rfl, ⟨_, SqL.of hp5⟩, fun DD hDD => lc_list (xs := ys) (fun i H' => Ex H5 H' ∧ ∃ us fs, H' DD = some (.lst us) ∧ All2 (DdAt K H') us fs ∧ (∀ d ∈ fs, refu eds s d = false) ∧ fs.length ≤ i)
        ⟨Ex.new hDD, [], [], upd_same, .nil, fun _ h => (by cases h), Nat.le_refl _⟩ (fun i H' _ q => SqL.of (q.1 _ _ hp5)) ?_ ?_⟩
      · rintro i v H' hv ⟨e6, us, fs, hd, hus, hfs, hfl⟩
        obtain ⟨d, hd2, b, rfl, hb⟩ := (rg.imp fun _ _ h => h.fz (Fz.ex e5)).get hv
        have hil := (List.getElem?_eq_some_iff.mp hd2).1
        have e46 := e45.trans e6
        have hul := hus.len
        refine ⟨rfl, ?_⟩
        refine ⟨_, rfl, _, rfl, y, st, s, eds, b, d, rfl, Sy.fz (Fz.ex e46), S.fz (Fz.ex e46), ok, hs, fz_t (Fz.ex e6) hb, fun rr H7 e7 hrv => ?_⟩
        have e67 := e6.trans e7
        rcases refN hrv with ⟨hrf, q, rfl⟩ | ⟨hrf, rfl⟩
        · exact ⟨_, rfl, iteF ⟨e67, us, fs, e7 _ _ hd, hus.imp fun _ _ h => h.fz (Fz.ex e7), hfs, by omega⟩⟩
        · refine ⟨_, rfl, iteT ?_⟩
          have hd7 := e7 _ _ hd
          have fz : Fz H7 (upd H7 DD (.lst (us ++ [.ref b]))) := Fz.put hd7 rfl
          refine ⟨_, rfl, us, hd7, by rw [sizeLine_eq]; omega, e67.mut hDD, us ++ [.ref b], fs ++ [d], upd_same, (hus.imp fun _ _ h => (h.fz (Fz.ex e7)).fz fz).app (.cons ⟨b, rfl, fz_t ((Fz.ex e67).trans fz) hb⟩ .nil), fun d' hd' => ?_, ?_⟩
          · rcases List.mem_append.mp hd' with z | z
            · exact hfs d' z
            · rw [List.mem_singleton.mp z]; exact hrf
          · rw [List.length_append]
            simp only [List.length_cons, List.length_nil]
            omega
      · rintro H' ⟨e6, us, fs, hd, hus, hfs, hfl⟩
        have hyl := rg.len
        have hH : H DD = none := by
          cases z : H DD with
          | none => rfl
          | some o =>
            have := e45 _ _ z
            rw [hDD] at this
            cases this
        exact k DD us fs H' (e45.trans e6) hH hd hus hfs (by omega)
end
end Hs
end
section
set_option Elab.async false
set_option linter.all false
set_option maxRecDepth 100000
set_option maxHeartbeats 4000000
namespace Hs
open PySem PySem.Spec PyProof.Rows L2
open C8 (Cal Met Mak InsC pe_c pe_mk pe_mt pe_mt0 pe_gc call_isC)
open LamX (TabB Tabs ExtN TabS)
open PySem.W (AllAlike Sortable dataLe)
open Evl (Ex)
section
variable (eds : List Ed) (s : St) (f0 f1 : List Sc)
/-- the two sets of faulty scripts are told apart -/
def Unl (ds : List Dd) : Prop := behA eds (Pf f0) s ds ≠ behA eds (Pf f1) s ds
def NoEarlier (ds : List Dd) : Prop := ds ≠ [] → ¬ Unl eds s f0 f1 ds.dropLast
end
/-- a pair of a list of deeds and the system behind it; the list is none of X -/
def LvV (K : PySem.W.Frag) (a : Ads) (H : Hp) (st : Addr) (X : Addr → Prop) (v : V) (x : List Dd × St) : Prop := ∃ (q dl z : Addr) (vs : List V), v = .ref q ∧ SqT K H q [.ref dl, .ref z] ∧ H dl = some (.lst vs) ∧ ¬ X dl ∧ All2 (DdAt K H) vs x.1 ∧ SysOp K a H st z x.2
section
variable {K : PySem.W.Frag} {a : Ads} {H H' : Hp} {st L : Addr} {X : Addr → Prop} {v : V} {x : List Dd × St}
theorem LvV.ex (e : Ex H H') (h : LvV K a H st X v x) : LvV K a H' st X v x := by
  obtain ⟨q, dl, z, vs, h1, h2, h3, h4, h5, h6⟩ := h
  exact ⟨q, dl, z, vs, h1, fz_t (Fz.ex e) h2, e _ _ h3, h4, h5.imp fun _ _ h => h.fz (Fz.ex e), h6.fz (Fz.ex e)⟩
theorem LvV.exb {xs : List V} (e : ExB L H H') (hL : H L = some (.lst xs)) (hX : X L) (h : LvV K a H st X v x) : LvV K a H' st X v x := by
  obtain ⟨q, dl, z, vs, h1, h2, h3, h4, h5, h6⟩ := h
  have fz := e.fz hL rfl
  exact ⟨q, dl, z, vs, h1, fz_t fz h2, e _ _ h3 (fun z => h4 (by rw [z]; exact hX)), h4, h5.imp fun _ _ h => h.fz fz, h6.fz fz⟩
theorem LvV.new {L' : Addr} (hL : H L' = none) (h : LvV K a H st X v x) : LvV K a H st (fun b => b = L') v x := by
  obtain ⟨q, dl, z, vs, h1, h2, h3, h4, h5, h6⟩ := h
  exact ⟨q, dl, z, vs, h1, h2, h3, fun z => (by rw [z, hL] at h3; cases h3), h5, h6⟩
theorem LvV.sub {X' : Addr → Prop} (hX : ∀ b, X' b → X b) (h : LvV K a H st X v x) : LvV K a H st X' v x := by
  obtain ⟨q, dl, z, vs, h1, h2, h3, h4, h5, h6⟩ := h
  exact ⟨q, dl, z, vs, h1, h2, h3, fun z => h4 (hX _ z), h5, h6⟩
end
/-- a list of deeds that tells the two apart, a list less does not -/
def GoodV (K : PySem.W.Frag) (eds : List Ed) (s : St) (f0 f1 : List Sc) (H : Hp) (v : V) : Prop := ∃ (dl : Addr) (ds : List Dd) (vs : List V), v = .ref dl ∧ H dl = some (.lst vs) ∧ All2 (DdAt K H) vs ds ∧ Unl eds s f0 f1 ds ∧ NoEarlier eds s f0 f1 ds
section
variable {P : Program} {w : World} {K : PySem.W.Frag} {mg : Str → Option Value} {base : Heap} {a : Ads}
/-! ### telling_deeds -/
def spTelling (K : PySem.W.Frag) (a : Ads) : Sp := fun vs H Q _ => ∃ (y l : Addr) (most : Nat) (st : Addr) (s : St) (eds : List Ed) (v0 v1 : V) (f0 f1 : List Sc), vs = [.ref y, .ref l, .int most] ∧ most ≤ 3 ∧ SysOp K a H st y s ∧ StoreAt K a H st eds ∧ EdsOk eds ∧ StOk eds s ∧ SqL K H l [v0, v1] ∧ FaV K H v0 f0 ∧ FaV K H v1 f1 ∧ (∀ fl ∈ [f0, f1], fl.length ≤ 1000 ∧ ∀ c ∈ fl, scOk eds c = true) ∧
  (∀ H', Ex H H' → Q .non H') ∧ ∀ v H', Ex H H' → GoodV K eds s f0 f1 H' v → Q v H'
theorem scTelling : FnScope ["system", "sets", "most", "level", "turn", "deeds", "here", "good", "later", "deed"] ["system", "sets", "most"] (defScope s_telling_deeds) := ⟨rfl, rfl, rfl, by decide +kernel, rfl, by decide +kernel, by decide +kernel⟩
theorem c_telling (T : TX K mg a) : Cal P w K mg base 11 "telling_deeds" (spTelling K a) [] := by
  refine calF T.d_telling_deeds (fun _ _ _ _ _ _ us hl => match us, hl with | [_, _, _], _ => rfl) scTelling (fun vs H Q E h => ?_) fun fa cdv A outer s0 H vs Q E hr h => ?_
  · obtain ⟨y, l, most, st, s, eds, v0, v1, f0, f1, rfl, _⟩ := h
    rfl
  · obtain ⟨y, l, most, st, s, eds, v0, v1, f0, f1, rfl, hm3, Sy, S, ok, hs, hl, hf0, hf1, hfok, kn, kg⟩ := h
    have hu := hu_of hr
    have hNS := c_need_sets (P := P) (w := w) (base := base) T
    have hNum := c_is_number (P := P) (w := w) (base := base) T
    have hU := c_unlike (P := P) (w := w) (base := base) T
    have hA := c_all_deeds (P := P) (w := w) (base := base) T
    have hX := c_exe (P := P) (w := w) (base := base) T
    refine ⟨_, pss_cons (ps_expr (pe_cc hNS hr (pa_cons (pv 0) (pa_cons (pv 1) pa_nil))))
      (pss_cons (ps_if (pt_not (pt_val (pe_cc hNum hr (pa_cons (pv 2) (pa_cons pe_int (pa_cons (pe_gi T.g_MOST_DEEDS) pa_nil)))))) pss_never pss_nil)
      (pss_cons (ps_set (i := 3) scTelling.nd rfl (Or.inl rfl) (pe_lst (pa_cons (pe_tup (pa_cons (pe_lst pa_nil) (pa_cons (pv 0) pa_nil))) pa_nil)))
      (pss_cons (ps_for PassesOwn.never rfl (pi_range1 (by rfl) T.f_range (pa_cons (pe_op op_add (pv 2) pe_int) pa_nil)) (pg_name (i := 4) scTelling.nd rfl (Or.inl rfl))
        (pss_cons (ps_setLc (i := 7) (own := [("deeds", 5), ("here", 6)]) (g := gTup K 2 (gCons (gName 5) (gCons (gName 6) gNil))) rfl scTelling.nd rfl rfl (sw_true rfl rfl rfl (by decide +kernel)) (pi_list (pv 3)) (blkOk_by (N := ["system", "sets", "most", "level", "turn", "deeds", "here", "good", "later", "deed"]) (sc := defScope s_telling_deeds) (by decide +kernel))
          (fun _ _ _ _ _ => pg_tup rfl (pgs_cons (pg_name (i := 5) scTelling.nd rfl (Or.inl rfl)) (pgs_cons (pg_name (i := 6) scTelling.nd rfl (Or.inl rfl)) pgs_nil)))
          (fun _ _ _ _ _ => pts_one (pt_val (pe_cc hU hr (pa_cons (pv 0) (pa_cons (pv 5) (pa_cons (pv 1) pa_nil)))))) (fun _ _ _ _ _ => pv 5))
        (pss_cons (ps_if (pt_cmpR (op_neE hr.units) (pv 7) (pe_lst pa_nil) (nomark _)) (pss_one (ps_ret (pe_ix ix_list (pv 7) pe_int (fun _ _ => rfl)))) pss_nil)
        (pss_cons (ps_set (i := 8) scTelling.nd rfl (Or.inl rfl) (pe_lst pa_nil))
        (pss_cons (ps_for PassesOwn.never rfl (pi_list (pv 3)) (pg_tup rfl (pgs_cons (pg_name (i := 5) scTelling.nd rfl (Or.inr rfl)) (pgs_cons (pg_name (i := 6) scTelling.nd rfl (Or.inr rfl)) pgs_nil)))
          (pss_one (ps_expr (pe_bm PySem.F.plainAttrs_list PySem.F.slot_list_extend PySem.F.type_list_extend mt_extend (pv 8) (pa_cons
            (pe_lc (own := [("deed", 9)]) (g := gName 9) (tt := tYes) rfl scTelling.nd (pi_list (pe_cc hA hr (pa_cons (pv 6) pa_nil))) (blkOk_by (N := ["system", "sets", "most", "level", "turn", "deeds", "here", "good", "later", "deed"]) (sc := defScope s_telling_deeds) (by decide +kernel))
              (fun _ _ _ _ _ => pg_name (i := 9) scTelling.nd rfl (Or.inl rfl)) (fun _ _ _ _ _ => pts_nil)
              (fun _ _ _ _ _ => pe_tup (pa_cons (pe_lst (pa_starK K rfl (pv 5) (pa_cons (pv 9) pa_nil))) (pa_cons (pe_ix (r := rIxT K) ix_tup (pe_cc hX hr (pa_cons (pv 6) (pa_cons (pv 9) (pa_cons (pe_tup pa_nil) pa_nil)))) pe_int (fun _ _ => rfl)) pa_nil)))) pa_nil)))))
        (pss_one (ps_set (i := 3) scTelling.nd rfl (Or.inl rfl) (pv 8))))))))
      (pss_one (ps_ret pe_non))))), ?_⟩
    refine ⟨_, rfl, _, rfl, y, l, st, s, eds, [v0, v1], [f0, f1], rfl, Sy, S, hl, .cons hf0 (.cons hf1 .nil), hfok, fun H1 e1 => ?_⟩
    refine ⟨_, rfl, (most : Int), 0, 3, rfl, ?_⟩
    refine ⟨_, rfl, ?_⟩
    have e03 : (decide ((0 : Int) ≤ most) && decide ((most : Int) ≤ 3)) = true := by
      rw [Bool.and_eq_true]
      exact ⟨decide_eq_true (by omega), decide_eq_true (by omega)⟩
    rw [e03]
    refine iteF ?_
    -- level
    refine ⟨(by show 0 ≤ sizeLine; decide), fun dl0 hd0 => ⟨_, rfl, (by show 2 ≤ sizeLine; decide), fun q0 hq0 => ⟨(by show 1 ≤ sizeLine; decide), fun lv0 hlv0 => ?_⟩⟩⟩
    have e2 : Ex H (upd (upd (upd H1 dl0 (.lst [])) q0 (.tup [.ref dl0, .ref y])) lv0 (.lst [.ref q0])) := ((e1.trans (Ex.new hd0)).trans (Ex.new hq0)).trans (Ex.new hlv0)
    have g1 : (upd (upd (upd H1 dl0 (.lst [])) q0 (.tup [.ref dl0, .ref y])) lv0 (.lst [.ref q0])) dl0 = some (.lst []) := ((Ex.new hq0).trans (Ex.new hlv0)) _ _ upd_same
    have g2 : (upd (upd (upd H1 dl0 (.lst [])) q0 (.tup [.ref dl0, .ref y])) lv0 (.lst [.ref q0])) q0 = some (.tup [.ref dl0, .ref y]) := (Ex.new hlv0) _ _ upd_same
    have g3 : (upd (upd (upd H1 dl0 (.lst [])) q0 (.tup [.ref dl0, .ref y])) lv0 (.lst [.ref q0])) lv0 = some (.lst [.ref q0]) := upd_same
    generalize upd (upd (upd H1 dl0 (.lst [])) q0 (.tup [.ref dl0, .ref y])) lv0 (.lst [.ref q0]) = H2 at e2 g1 g2 g3 ⊢
    have nd0 : dl0 ≠ lv0 := fun z => by rw [z, g3] at g1; cases g1
    refine ⟨_, rfl, _, _, rfl, rfl, _, rfl, by show -(2 ^ 62) ≤ (most : Int) + 1; omega, by show (most : Int) + 1 < 2 ^ 62; omega, ?_⟩
    have hj : ((most : Int) + 1).toNat = most + 1 := by omega
    rw [hj]
    refine for_it walk_range (fun t σ H' => ∃ lv v4 v5 v6 v7 v8 xs its L, σ = [some (.ref y), some (.ref l), some (.int most), some (.ref lv), v4, v5, v6, v7, v8, none] ∧ Ex H H' ∧ H' lv = some (.lst xs) ∧ All2 (LvV K a H' st fun b => b = L) xs its ∧ its.length ≤ 5 ^ t ∧ ∀ x ∈ its, StOk eds x.2 ∧ x.1.length ≤ t ∧ NoEarlier eds s f0 f1 x.1)
      ⟨lv0, none, none, none, none, none, _, [([], s)], lv0, rfl, e2, g3, .cons ⟨q0, dl0, y, [], rfl, .inl (.inl g2), g1, nd0, .nil, Sy.fz (Fz.ex e2)⟩ .nil, Nat.le_refl _, fun x hx => by
        rw [List.mem_singleton.mp hx]
        exact ⟨hs, Nat.le_refl _, fun z => absurd rfl z⟩⟩ (fun _ _ _ _ _ => trivial) ?_ ?_
    · rintro t x σ H0 H3 ht ⟨lv, v4, v5, v6, v7, v8, xs, its, L, rfl, e3, hlv, hxs, hil, hits⟩ ⟨rfl, rfl⟩
      have hxl := hxs.len
      have h625 : 5 ^ t ≤ 125 := Nat.pow_le_pow_right (n := 5) (i := t) (j := 3) (by decide) (by omega)
      -- good
      refine ⟨_, rfl, lv, rfl, ⟨xs, SqL.of hlv⟩, fun DD hDD => lc_list (xs := xs) (fun i H' => Ex H3 H' ∧ ∃ zs, H' DD = some (.lst zs) ∧ (∀ v ∈ zs, GoodV K eds s f0 f1 H3 v) ∧ (zs = [] → ∀ x ∈ its.take i, ¬ Unl eds s f0 f1 x.1) ∧ zs.length ≤ i)
        ⟨Ex.new hDD, [], upd_same, fun _ h => (by cases h), fun _ x hx => (by simp at hx), Nat.le_refl _⟩ (fun i H' _ q => SqL.of (q.1 _ _ hlv)) ?_ ?_⟩
      · rintro i v H' hv ⟨e4, zs, hd, hgood, hno, hzl⟩
        obtain ⟨x, hx, q, dl, z, vs, rfl, hq, hdl, hne, hvs, hz⟩ := hxs.get hv
        have hiv := (List.getElem?_eq_some_iff.mp hv).1
        have e34 := e3.trans e4
        refine ⟨q, _, rfl, fz_t (Fz.ex e4) hq, rfl, _, _, rfl, _, _, rfl, rfl, rfl, ?_⟩
        refine ⟨_, rfl, _, rfl, _, rfl, y, dl, l, st, s, eds, x.1, v0, v1, f0, f1, rfl, Sy.fz (Fz.ex e34), S.fz (Fz.ex e34), ok, hs, ⟨vs, SqL.of (e4 _ _ hdl), hvs.imp fun _ _ h => h.fz (Fz.ex e4)⟩, sqL_extN (ExtN.of e34) hl, hf0.fz (Fz.ex e34), hf1.fz (Fz.ex e34), fun H5 e5 => ?_⟩
        have hd5 := e5 _ _ hd
        refine ⟨_, rfl, ?_⟩
        by_cases hun : behA eds (Pf f0) s x.1 = behA eds (Pf f1) s x.1
        · rw [decide_eq_true hun]
          refine iteF ⟨e4.trans e5, zs, hd5, hgood, fun hz0 x' hx' => ?_, by omega⟩
          rw [List.take_succ, hx] at hx'
          rcases List.mem_append.mp hx' with h | h
          · exact hno hz0 x' h
          · have e : x' = x := List.mem_singleton.mp h
            rw [e]
            exact fun z => z hun
        · rw [decide_eq_false hun]
          refine iteT ⟨_, rfl, zs, hd5, by rw [sizeLine_eq]; omega, (e4.trans e5).mut hDD, _, upd_same, fun v hv2 => ?_, fun z => absurd z (by simp), ?_⟩
          · rcases List.mem_append.mp hv2 with h | h
            · exact hgood v h
            · rw [List.mem_singleton.mp h]
              exact ⟨dl, x.1, vs, rfl, hdl, hvs, hun, (hits x (List.mem_of_getElem? hx)).2.2⟩
          · rw [List.length_append]
            simp only [List.length_cons, List.length_nil]
            omega
      · rintro H4 ⟨e4, zs, hd, hgood, hno, hzl⟩
        rw [hxl, List.take_length] at hno
        refine ⟨_, rfl, (by show 0 ≤ sizeLine; decide), fun q9 hq9 => ?_⟩
        have e5 : Ex H4 (upd H4 q9 (.lst [])) := Ex.new hq9
        have hd5 := e5 _ _ hd
        have hq95 : (upd H4 q9 (.lst [])) q9 = some (.lst []) := upd_same
        generalize upd H4 q9 (.lst []) = H5 at e5 hd5 hq95 ⊢
        have e35 := (e4.trans e5)
        refine ⟨DD, q9, zs, rfl, rfl, SqL.of hd5, SqL.of hq95, ?_⟩
        rw [if_pos rfl]
        cases zs with
        | cons v zs =>
          refine ⟨_, rfl, ?_⟩
          rw [decide_eq_false (by simp)]
          refine iteT ?_
          refine ⟨_, rfl, DD, _, 0, _, rfl, rfl, SqL.of hd5, atI_zero _ _, ?_⟩
          refine kg v H5 (e3.trans e35) ?_
          obtain ⟨dl, ds, vs, h1, h2, h3, h4, h5⟩ := hgood v List.mem_cons_self
          exact ⟨dl, ds, vs, h1, e35 _ _ h2, h3.imp fun _ _ h => h.fz (Fz.ex e35), h4, h5⟩
        | nil =>
          have hno2 := hno rfl
          refine ⟨_, rfl, ?_⟩
          rw [decide_eq_true rfl]
          refine iteF ?_
          -- later
          refine ⟨(by show 0 ≤ sizeLine; decide), fun L2 hL2 => ?_⟩
          have e6 : Ex H3 (upd H5 L2 (.lst [])) := e35.trans (Ex.new hL2)
          have hL6 : (upd H5 L2 (.lst [])) L2 = some (.lst []) := upd_same
          have hlv6 := e6 _ _ hlv
          have nlv : lv ≠ L2 := fun z => by
            have := e35 _ _ hlv
            rw [z, hL2] at this
            cases this
          have hxs6 : All2 (LvV K a (upd H5 L2 (.lst [])) st fun b => b = L2) xs its := hxs.imp fun _ _ h => ((h.ex e35).new hL2).ex (Ex.new hL2)
          have hHL : ∀ b o, H b = some o → b ≠ L2 := fun b o h z => by
            have := (e3.trans e35) _ _ h
            rw [z, hL2] at this
            cases this
          have hS6 := S.fz (Fz.ex (e3.trans e6))
          have e36 := e3.trans e6
          generalize upd H5 L2 (.lst []) = H6 at e6 hL6 hlv6 hxs6 hS6 e36 ⊢
          refine ⟨_, rfl, lv, rfl, ⟨xs, SqL.of hlv6⟩, for_it walk_list (fun i σ H' => ∃ v5 v6, σ = [some (.ref y), some (.ref l), some (.int most), some (.ref lv), some (.int ((0 : Int) + (t : Nat))), v5, v6, some (.ref DD), some (.ref L2), none] ∧ ExB L2 H6 H' ∧ ∃ zs js, H' L2 = some (.lst zs) ∧ All2 (LvV K a H' st fun b => b = L2) zs js ∧ js.length ≤ 5 * i ∧ ∀ x ∈ js, StOk eds x.2 ∧ x.1.length ≤ t + 1 ∧ NoEarlier eds s f0 f1 x.1)
            ⟨_, _, rfl, ExB.rfl', [], [], hL6, .nil, Nat.le_refl _, fun _ h => (by cases h)⟩ (fun i σ H' _ ⟨_, _, _, e, _⟩ => SqL.of (e _ _ hlv6 nlv)) ?_ ?_⟩
          · rintro i v σ H0 H7 hi ⟨v5, v6, rfl, eL, zs, js, hL7, hzs, hjl, hjs⟩ ⟨rfl, hv⟩
            obtain ⟨x, hx, q, dl, z, vs, rfl, hq, hdl, hne, hvs, hz⟩ := (hxs6.imp fun _ _ h => LvV.exb (X := fun b => b = L2) eL hL6 rfl h).get hv
            have hxm := List.mem_of_getElem? hx
            obtain ⟨hxs', hxt, _⟩ := hits x hxm
            have fz67 := eL.fz hL6 rfl
            have S7 := hS6.fz fz67
            have hvl := hvs.len
            refine ⟨q, _, rfl, hq, rfl, _, _, rfl, _, _, rfl, rfl, ?_⟩
            refine ⟨_, rfl, .inl ⟨rfl, _, SqL.of hL7⟩, _, rfl, z, st, x.2, eds, rfl, hz, S7, ok, hxs', fun r us us' H8 e8 hr8 hr8' hus hrf hul => ?_⟩
            have hul2 := hus.len
            have hL8 := e8 _ _ hL7
            refine ⟨r, rfl, ⟨us, SqL.of hr8'⟩, fun D2 hD2 => lc_list (xs := us) (fun j H' => Ex H8 H' ∧ ∃ ws, H' D2 = some (.lst ws) ∧ All2 (LvV K a H' st fun b => b = L2 ∨ b = D2) ws ((us'.take j).map fun d => (x.1 ++ [d], (runL eds x.2 d []).1)))
              ⟨Ex.new hD2, [], upd_same, .nil⟩ (fun j H' _ q => SqL.of (q.1 _ _ hr8')) ?_ ?_⟩
            · rintro j v H' hv2 ⟨e9, ws, hd9, hws⟩
              obtain ⟨d, hdd, b, rfl, hb⟩ := hus.get hv2
              have hjv := (List.getElem?_eq_some_iff.mp hv2).1
              have hwl := hws.len
              rw [List.length_map, List.length_take] at hwl
              have e89 := e8.trans e9
              have hdl9 := e89 _ _ hdl
              refine ⟨rfl, yes_ok ?_⟩
              refine ⟨_, rfl, dl, vs, rfl, .inr (SqL.of hdl9), _, rfl, ?_, fun d2 hd2 => ?_⟩
              · rw [List.length_append, hvl, sizeLine_eq]
                simp only [List.length_cons, List.length_nil]
                omega
              have e10 : Ex H' (upd H' d2 (.lst (vs ++ [.ref b]))) := Ex.new hd2
              have hd210 : (upd H' d2 (.lst (vs ++ [.ref b]))) d2 = some (.lst (vs ++ [.ref b])) := upd_same
              have nd2L : d2 ≠ L2 := fun z => by rw [z, e9 _ _ hL8] at hd2; cases hd2
              have nd2D : d2 ≠ D2 := fun z => by rw [z, hd9] at hd2; cases hd2
              generalize upd H' d2 (.lst (vs ++ [.ref b])) = H10 at e10 hd210 ⊢
              have e8A := e89.trans e10
              refine ⟨_, rfl, _, rfl, (by show 0 ≤ sizeLine; decide), fun t0 ht0 => ?_⟩
              have e11 : Ex H10 (upd H10 t0 (.tup [])) := Ex.new ht0
              have ht11 : (upd H10 t0 (.tup [])) t0 = some (.tup []) := upd_same
              generalize upd H10 t0 (.tup []) = H11 at e11 ht11 ⊢
              have e8B := e8A.trans e11
              have hrfd := hrf d (List.mem_of_getElem? hdd)
              refine ⟨z, st, x.2, eds, b, d, t0, [], rfl, hz.fz (Fz.ex e8B), S7.fz (Fz.ex e8B), ok, hxs', fz_t (Fz.ex ((e9.trans e10).trans e11)) hb, hrfd, .inl (.inl ht11), fun q2 z2 ml H12 e12 hq2 hml hex => ?_⟩
              refine ⟨q2, _, 0, _, rfl, rfl, .inl (.inl hq2), rfl, (by show 2 ≤ sizeLine; decide), fun p2 hp2 => ?_⟩
              have e13 : Ex H12 (upd H12 p2 (.tup [.ref d2, .ref z2])) := Ex.new hp2
              have hp13 : (upd H12 p2 (.tup [.ref d2, .ref z2])) p2 = some (.tup [.ref d2, .ref z2]) := upd_same
              generalize upd H12 p2 (.tup [.ref d2, .ref z2]) = H13 at e13 hp13 ⊢
              have eA := ((e10.trans e11).trans e12).trans e13
              have hd13 := eA _ _ hd9
              refine ⟨ws, hd13, by rw [sizeLine_eq]; omega, (e9.trans eA).mut hD2, _, upd_same, ?_⟩
              have eD : ExB D2 H' (upd H13 D2 (.lst (ws ++ [.ref p2]))) := (ExB.ex eA).trans ExB.put
              have fz : Fz H13 (upd H13 D2 (.lst (ws ++ [.ref p2]))) := Fz.put hd13 rfl
              rw [List.take_succ, hdd, List.map_append]
              refine (hws.imp fun _ _ h => LvV.exb (X := fun b => b = L2 ∨ b = D2) eD hd9 (.inr rfl) h).app (.cons ⟨p2, d2, z2, vs ++ [.ref b], rfl, fz_t fz (.inl (.inl hp13)), ?_, fun z => z.elim nd2L nd2D, ?_, ?_⟩ .nil)
              · rw [upd_ne nd2D]
                exact ((e11.trans e12).trans e13) _ _ hd210
              · have fz0 : Fz H7 (upd H13 D2 (.lst (ws ++ [.ref p2]))) := (Fz.ex (e89.trans eA)).trans fz
                exact (hvs.imp fun _ _ h => h.fz fz0).app (.cons ⟨b, rfl, fz_t ((Fz.ex (e9.trans eA)).trans fz) hb⟩ .nil)
              · exact (hex.sys.fz (Fz.ex e13)).fz fz
            · rintro H9 ⟨e9, ws, hd9, hws⟩
              rw [hul2, List.take_length] at hws
              have e89 := e8.trans e9
              have hL9 := e89 _ _ hL7
              have hwl := hws.len
              rw [List.length_map] at hwl
              have hzl := hzs.len
              have hix : i < xs.length := hi
              refine ⟨L2, D2, zs, ws, rfl, rfl, hL9, hd9, (by rw [sizeLine_eq]; omega), ?_⟩
              have eB : ExB L2 H9 (upd H9 L2 (.lst (zs ++ ws))) := ExB.put
              refine ⟨_, _, rfl, (eL.trans (ExB.ex e89)).trans eB, zs ++ ws, js ++ us'.map fun d => (x.1 ++ [d], (runL eds x.2 d []).1), upd_same, (hzs.imp fun _ _ h => LvV.exb (X := fun b => b = L2) eB hL9 rfl (h.ex e89)).app (hws.imp fun _ _ h => LvV.exb (X := fun b => b = L2) eB hL9 rfl (h.sub fun b z => .inl z)), ?_, fun x' hx' => ?_⟩
              · rw [List.length_append, List.length_map]
                omega
              · rcases List.mem_append.mp hx' with h | h
                · exact hjs x' h
                · obtain ⟨d, hd, rfl⟩ := List.mem_map.mp h
                  refine ⟨((prog_all hxs' (hrf d hd)).run (Fo []) 0).1, ?_, fun _ => ?_⟩
                  · rw [List.length_append]
                    simp only [List.length_cons, List.length_nil]
                    omega
                  · rw [List.dropLast_concat]
                    exact hno2 x hxm
          · rintro σ H7 ⟨v5, v6, rfl, eL, zs, js, hL7, hzs, hjl, hjs⟩
            have e7 : Ex H H7 := fun b o h => eL _ _ (e36 _ _ h) (hHL b o h)
            refine ⟨_, rfl, L2, _, _, _, _, _, zs, js, L2, rfl, e7, hL7, hzs, ?_, hjs⟩
            rw [Nat.pow_succ]
            rw [hxl] at hjl
            omega
    · rintro σ H' ⟨lv, v4, v5, v6, v7, v8, xs, its, L, rfl, e3, _⟩
      exact kn H' e3
end
end Hs
end
section
set_option Elab.async false
set_option linter.all false
set_option maxRecDepth 100000
set_option maxHeartbeats 4000000
namespace Hs
open PySem PySem.Spec PyProof.Rows L2
open C8 (Cal Met Mak InsC pe_c pe_mk pe_mt pe_mt0 pe_gc call_isC)
open LamX (TabB Tabs ExtN TabS)
open PySem.W (AllAlike Sortable dataLe)
open Evl (Ex)
/-! ### texts that ascend -/
theorem depth_textsA : ∀ zs : List Str, NestedKey.depthAll (zs.map NestedKey.text) = 0
  | [] => rfl
  | z :: zs => by
    show max (NestedKey.depth (.text z)) (NestedKey.depthAll (zs.map NestedKey.text)) = 0
    rw [depth_textsA zs] <;> rfl
theorem text_antisymm {x y : Str} (h : dataLe false NestedKey.data (.text x) (.text y) = true) (h' : dataLe false NestedKey.data (.text y) (.text x) = true) : x = y := by
  have e1 : PySem.W.dataLt (.str y) (.str x) = false := by
    rw [PySem.W.dataLe_eq] at h
    simpa [NestedKey.data] using h
  have e2 : PySem.W.dataLt (.str x) (.str y) = false := by
    rw [PySem.W.dataLe_eq] at h'
    simpa [NestedKey.data] using h'
  have e := PyProof.Rows.lex_total _ _ e2 e1
  simp only [PySem.W.keyToks] at e
  injection e with e _
  injection e with e
  exact PySem.W.str_of_cps e
structure RiseT (zs : List Str) : Prop where
  up : (zs.map NestedKey.text).Pairwise fun a b => dataLe false NestedKey.data a b = true
  nd : zs.Nodup
theorem RiseT.eq {zs ls : List Str} {ks : List NestedKey} (h : RiseT zs) (nd : ls.Nodup) (hm : ∀ z, z ∈ ls ↔ z ∈ zs) (p : List.Perm ks (ls.map NestedKey.text)) (up : ks.Pairwise fun a b => dataLe false NestedKey.data a b = true) : ks = zs.map NestedKey.text := by
  have q : ls.Perm zs := (List.perm_ext_iff_of_nodup nd h.nd).mpr hm
  refine List.Perm.eq_of_pairwise (fun x y hx hy h1 h2 => ?_) up h.up (p.trans (q.map _))
  obtain ⟨a, _, rfl⟩ := List.mem_map.mp (p.mem_iff.mp hx)
  obtain ⟨b, _, rfl⟩ := List.mem_map.mp hy
  rw [text_antisymm h1 h2]
theorem RiseT.sub {zs ls : List Str} (h : RiseT zs) (s : ls.Sublist zs) : RiseT ls := ⟨h.up.sublist (s.map _), h.nd.sublist s⟩
def allWds : List Wd := [.clean, .enter, .leave, .setup]
theorem rise_all : RiseT (allWds.map Wd.txt) := ⟨by
  show List.Pairwise _ [NestedKey.text "clean", .text "enter", .text "leave", .text "setup"]
  have d : ∀ x y : Str, dataLe false NestedKey.data (.text x) (.text y) = (!decide (y.cps.toList < x.cps.toList)) := fun x y => by
    rw [PySem.W.dataLe_eq]
    show (!PySem.W.dataLt (.str y) (.str x)) = _
    rw [PySem.W.dataLt_str]
  have h : ∀ x ∈ ([("clean", ["enter", "leave", "setup"]), ("enter", ["leave", "setup"]), ("leave", ["setup"])] : List (Str × List Str)), ∀ y ∈ x.2, (!decide (y.cps.toList < x.1.cps.toList)) = true := by decide +kernel
  refine .cons (fun b hb => ?_) (.cons (fun b hb => ?_) (.cons (fun b hb => ?_) (.cons (fun b hb => (by cases hb)) .nil)))
  · obtain ⟨y, hy, rfl⟩ := List.mem_map.mp (show b ∈ (["enter", "leave", "setup"] : List Str).map NestedKey.text from hb)
    rw [d]
    exact h ("clean", ["enter", "leave", "setup"]) (by simp) y hy
  · obtain ⟨y, hy, rfl⟩ := List.mem_map.mp (show b ∈ (["leave", "setup"] : List Str).map NestedKey.text from hb)
    rw [d]
    exact h ("enter", ["leave", "setup"]) (by simp) y hy
  · obtain ⟨y, hy, rfl⟩ := List.mem_map.mp (show b ∈ (["setup"] : List Str).map NestedKey.text from hb)
    rw [d]
    exact h ("leave", ["setup"]) (by simp) y hy, by decide +kernel⟩
theorem rise_wds {ws : List Wd} (h : ws.Sublist allWds) : RiseT (ws.map Wd.txt) := rise_all.sub (h.map _)
theorem rise_webs {b : Bool} : RiseT (if b = true then [web] else []) := by
  cases b
  · exact ⟨.nil, .nil⟩
  · exact ⟨by simp, by simp⟩
section
variable {P : Program} {w : World} {K : PySem.W.Frag} {mg : Str → Option Value} {base : Heap} {a : Ads}
/-! ### is_word -/
def spIsWord : Sp := fun vs H Q _ => ∃ n : Bool, vs = [.str (nm n)] ∧ ∀ H', Ex H H' → Q (.bl true) H'
theorem scIsWord : FnScope ["thing", "letter"] ["thing"] (defScope s_is_word) := ⟨rfl, rfl, rfl, by decide +kernel, rfl, by decide +kernel, by decide +kernel⟩
theorem nm_letters : ∀ (n : Bool) (i c : Nat), (nm n).cps[i]? = some c → decide (c ∈ ("abcdefghijklmnopqrstuvwxyz" : Str).cps.toList) = true := by
  intro n i c h
  have hm : c ∈ (nm n).cps.toList := List.mem_of_getElem? (by rw [Array.getElem?_toList]; exact h)
  have all : ∀ n : Bool, ∀ c ∈ (nm n).cps.toList, decide (c ∈ ("abcdefghijklmnopqrstuvwxyz" : Str).cps.toList) = true := by decide +kernel
  exact all n c hm
theorem nm_len (n : Bool) : (nm n).length = 3 := by cases n <;> decide +kernel
theorem nm_size (n : Bool) : (nm n).cps.size = 3 := by cases n <;> decide +kernel
theorem c_is_word (T : TX K mg a) : Cal P w K mg base 1 "is_word" spIsWord [] := by
  refine calF T.d_is_word (fun _ _ _ _ _ _ us hl => match us, hl with | [_], _ => rfl) scIsWord (fun vs H Q E h => ?_) fun fa cdv A outer s0 H vs Q E hr h => ?_
  · obtain ⟨n, rfl, _⟩ := h
    rfl
  · obtain ⟨n, rfl, k⟩ := h
    have hu := hu_of hr
    refine ⟨_, pss_one (ps_ret (pe_and (pe_chain op_le op_le pe_int (pe_callB call_len_str (by rfl) T.f_len PySem.boot_len (pa_cons (pv 0) pa_nil)) (pe_gi T.g_MOST_LETTERS))
      (pe_one (pe_callB (cr_all rfl) (by rfl) T.f_all PyProof.Rows.boot_all (pa_cons (pe_lc (own := [("letter", 1)]) (g := gName 1) (tt := tYes) rfl scIsWord.nd (pi_str (pv 0)) (blkOk_by (N := ["thing", "letter"]) (sc := defScope s_is_word) (by decide +kernel))
        (fun _ _ _ _ _ => pg_name (i := 1) scIsWord.nd rfl (Or.inl rfl)) (fun _ _ _ _ _ => pts_nil) (fun _ _ _ _ _ => pe_cmpR op_in_sign (pv 1) (pe_gs T.g_LETTERS) rfl)) pa_nil))))), ?_⟩
    refine ⟨_, rfl, nm n, rfl, (by rw [nm_len, sizeLine_eq]; decide), _, _, rfl, rfl, _, rfl, ?_⟩
    rw [nm_len]
    refine ⟨_, _, rfl, rfl, _, rfl, ?_⟩
    refine iteT ?_
    refine ⟨_, rfl, nm n, rfl, fun DD hDD => lc_it walk_str (fun i H' => Ex H H' ∧ H' DD = some (.lst ((List.replicate i true).map V.bl))) ⟨Ex.new hDD, upd_same⟩ (fun _ _ _ _ => trivial) ?_ ?_⟩
    · rintro i x H1 H2 hi ⟨e3, hd⟩ ⟨rfl, c, hc, rfl⟩
      refine ⟨rfl, yes_ok ?_⟩
      refine ⟨_, rfl, c, _, rfl, rfl, _, hd, ?_, e3.mut hDD, ?_⟩
      · rw [List.length_map, List.length_replicate, sizeLine_eq]
        rw [nm_size] at hi
        omega
      · rw [upd_same, nm_letters n i c hc, List.replicate_succ', List.map_append] <;> rfl
    · rintro H' ⟨e3, hd⟩
      refine ⟨DD, _, rfl, SqL.of hd, ?_⟩
      have e : (List.replicate (nm n).cps.size true).all id = true := by
        rw [List.all_eq_true]
        intro x hx
        rw [List.eq_of_mem_replicate hx] <;> rfl
      rw [e]
      exact k H' e3
/-! ### is_need -/
def spIsNeed (K : PySem.W.Frag) : Sp := fun vs H Q _ => ∃ (t : Addr) (l : Int), vs = [.ref t, .str app] ∧ SqT K H t [.str web, .int l] ∧ 1 ≤ l ∧ l ≤ 99 ∧ ∀ H', Ex H H' → Q (.bl true) H'
theorem scIsNeed : FnScope ["one", "name", "other", "least"] ["one", "name"] (defScope s_is_need) := ⟨rfl, rfl, rfl, by decide +kernel, rfl, by decide +kernel, by decide +kernel⟩
theorem c_is_need (T : TX K mg a) : Cal P w K mg base 2 "is_need" (spIsNeed K) [] := by
  refine calF T.d_is_need (fun _ _ _ _ _ _ us hl => match us, hl with | [_, _], _ => rfl) scIsNeed (fun vs H Q E h => ?_) fun fa cdv A outer s0 H vs Q E hr h => ?_
  · obtain ⟨t, l, rfl, _⟩ := h
    rfl
  · obtain ⟨t, l, rfl, ht, h1, h99, k⟩ := h
    have hW := c_is_word (P := P) (w := w) (base := base) T
    have hN := c_is_number (P := P) (w := w) (base := base) T
    refine ⟨_, pss_cons (ps_asg (pv 0) (pg_tup rfl (pgs_cons (pg_name (i := 2) scIsNeed.nd rfl (Or.inl rfl)) (pgs_cons (pg_name (i := 3) scIsNeed.nd rfl (Or.inl rfl)) pgs_nil))))
      (pss_one (ps_ret (pe_and (pe_cc hW hr (pa_cons (pv 2) pa_nil)) (pe_and (pe_cmpR op_ne (pv 2) (pv 1) rfl) (pe_one (pe_cc hN hr (pa_cons (pv 3) (pa_cons pe_int (pa_cons (pe_gi T.g_MOST_VERSION) pa_nil))))))))), ?_⟩
    refine ⟨_, rfl, t, _, rfl, ht, rfl, _, _, rfl, _, _, rfl, rfl, ?_⟩
    refine ⟨_, rfl, false, rfl, fun H1 e1 => ⟨_, rfl, iteT ?_⟩⟩
    refine ⟨_, rfl, _, rfl, rfl, _, rfl, ?_⟩
    refine iteNN (fun z => app_web (by injection z with z; exact z.symm)) ?_
    refine ⟨_, rfl, l, 1, 99, rfl, ?_⟩
    rw [decide_eq_true h1, decide_eq_true h99]
    exact k H1 e1
/-! ### is_rising -/
def spIsRising (K : PySem.W.Frag) : Sp := fun vs H Q _ => ∃ (p : Addr) (zs : List Str), vs = [.ref p] ∧ (SqL K H p (zs.map V.str) ∨ SqT K H p (zs.map V.str)) ∧ zs.length < 64 ∧ RiseT zs ∧ ∀ H', Ex H H' → Q (.bl true) H'
theorem scIsRising : FnScope ["row"] ["row"] (defScope s_is_rising) := ⟨rfl, rfl, rfl, by decide +kernel, rfl, by decide +kernel, by decide +kernel⟩
theorem c_is_rising (T : TX K mg a) : Cal P w K mg base 1 "is_rising" (spIsRising K) [] := by
  refine calF T.d_is_rising (fun _ _ _ _ _ _ us hl => match us, hl with | [_], _ => rfl) scIsRising (fun vs H Q E h => ?_) fun fa cdv A outer s0 H vs Q E hr h => ?_
  · obtain ⟨p, zs, rfl, _⟩ := h
    rfl
  · obtain ⟨p, zs, rfl, hp, hl, hri, k⟩ := h
    have hu := hu_of hr
    refine ⟨_, pss_one (ps_ret (pe_cmpR (op_eqL hr.units) (pe_callTy call_list_of (by rfl) T.f_list (by decide +kernel) (pa_cons (pv 0) pa_nil))
      (pe_callB (cr_sortedC rfl hr.units) (by rfl) T.f_sorted (by decide +kernel) (pa_cons (pe_callTy ((cr_setXL rfl).or (cr_setXT rfl)) (by rfl) T.f_set (by decide +kernel) (pa_cons (pv 0) pa_nil)) pa_nil)) rfl)), ?_⟩
    refine ⟨_, rfl, p, _, rfl, hp, fun l1 hl1 => ?_⟩
    have e1 : Ex H (upd H l1 (.lst (zs.map V.str))) := Ex.new hl1
    have g1 : (upd H l1 (.lst (zs.map V.str))) l1 = some (.lst (zs.map V.str)) := upd_same
    generalize upd H l1 (.lst (zs.map V.str)) = H1 at e1 g1 ⊢
    refine ⟨_, rfl, ?_⟩
    rcases hp with hp | hp
    · refine .inl ⟨p, zs, rfl, ?_, hl, fun sa ls hs nd hm hll => ?_⟩
      · rw [if_neg (by decide)]
        exact sqL_extN (ExtN.of e1) hp
      · refine ⟨sa, _, _, rfl, col_setX upd_same hll, nk_texts _, (by rw [List.length_map, sizeLine_eq]; omega), alike_texts _, sortable_texts _, depth_texts _, fun ys ks q pys pks hnk pw hq => ?_⟩
        have e2 : Ex H1 (upd (upd H1 sa (SetX P w sa ls)) q (.lst ys)) := (Ex.new hs).trans (Ex.new hq)
        refine ⟨l1, q, _, ys, _, ks, rfl, rfl, SqL.of (e2 _ _ g1), SqL.of upd_same, nk_texts _, NkAll.fz (Fz.new hq) _ _ hnk, ?_, ?_⟩
        · rw [depth_textsA]
          decide
        · rw [if_neg (by decide), decide_eq_true (hri.eq nd hm pks pw).symm]
          exact k _ (e1.trans e2)
    · refine .inr ⟨p, zs, rfl, ?_, hl, fun sa ls hs nd hm hll => ?_⟩
      · rw [if_pos rfl]
        exact fz_t (Fz.ex e1) hp
      · refine ⟨sa, _, _, rfl, col_setX upd_same hll, nk_texts _, (by rw [List.length_map, sizeLine_eq]; omega), alike_texts _, sortable_texts _, depth_texts _, fun ys ks q pys pks hnk pw hq => ?_⟩
        have e2 : Ex H1 (upd (upd H1 sa (SetX P w sa ls)) q (.lst ys)) := (Ex.new hs).trans (Ex.new hq)
        refine ⟨l1, q, _, ys, _, ks, rfl, rfl, SqL.of (e2 _ _ g1), SqL.of upd_same, nk_texts _, NkAll.fz (Fz.new hq) _ _ hnk, ?_, ?_⟩
        · rw [depth_textsA]
          decide
        · rw [if_neg (by decide), decide_eq_true (hri.eq nd hm pks pw).symm]
          exact k _ (e1.trans e2)
end
end Hs
end
section
set_option Elab.async false
set_option linter.all false
set_option maxRecDepth 100000
set_option maxHeartbeats 4000000
namespace Hs
open PySem PySem.Spec PyProof.Rows L2
open C8 (Cal Met Mak InsC pe_c pe_mk pe_mt pe_mt0 pe_gc call_isC)
open LamX (TabB Tabs ExtN TabS)
open PySem.W (AllAlike Sortable dataLe)
open Evl (Ex)
theorem all_true (n : Nat) : (List.replicate n true).all id = true := by
  rw [List.all_eq_true]
  intro x hx
  rw [List.eq_of_mem_replicate hx] <;> rfl
theorem rep_snoc {n : Nat} : (List.replicate n true).map V.bl ++ [V.bl true] = (List.replicate (n + 1) true).map V.bl := by
  rw [List.replicate_succ', List.map_append] <;> rfl
theorem web_snoc {n : Nat} : (List.replicate n web).map V.str ++ [V.str web] = (List.replicate (n + 1) web).map V.str := by
  rw [List.replicate_succ', List.map_append] <;> rfl
theorem rise_rep {n : Nat} (h : n ≤ 1) : RiseT (List.replicate n web) := by
  match n, h with
  | 0, _ => exact ⟨.nil, .nil⟩
  | 1, _ => exact ⟨by simp, by simp⟩
/-- what is asked of an edition's data -/
structure EdDat (ed : Ed) : Prop where
  v1 : 1 ≤ ed.v
  v99 : ed.v ≤ 99
  has : ed.has.Sublist allWds
  wl : ed.wants.length ≤ 1
  w99 : ∀ l ∈ ed.wants, 1 ≤ l ∧ l ≤ 99
  al : ed.asks.length ≤ 1
  a99 : ∀ l ∈ ed.asks, 1 ≤ l ∧ l ≤ 99
section
variable {P : Program} {w : World} {K : PySem.W.Frag} {mg : Str → Option Value} {base : Heap} {a : Ads}
/-- a class's __init__ with keyword-only parameters, all of them given -/
structure MakK (P : Program) (w : World) (K : PySem.W.Frag) (mg : Str → Option Value) (base : Heap) (k : Nat) (x : Str) (C : Addr) (sp : Sp) (n : Nat) (ks : List Str) : Prop where
  ex : ∃ (f : Addr) (fd : FuncData) (ps : List Str), Mk K C f ∧ FnOk P w K mg base CX0 k f fd ps sp ∧ mg x = some (.ref C) ∧ KBn K fd ps (n + 1) ks (fun us ws => us ++ ws) (fun vs zs => vs ++ zs)
theorem pe_mkK {X : Cx} {k j n : Nat} {x : Str} {C : Addr} {sp : Sp} {ks : List Str} {e : Expr} {es : List Expr} {kws : List Keyword} {t tk : TA} {p pos : Pos} (c : MakK X.prog X.w X.K X.mg X.base k x C sp n ks) (hr : Room j X.A) (hk : k + 1 ≤ j) (hg : Gl X x) (ha : PA X (e :: es) t) (hkw : PK X kws tk)
    (hall : (backToKw pos (keywordEach kws X.env)).all (·.1.isSome) = true := by rfl) (hks : (backToKw pos (keywordEach kws X.env)).filterMap (·.1) = ks := by rfl) (hdb : (x == ("__debug__" : Str)) = false := by decide)
    (he : starEach (e :: es) X.env = (false, eval e X.env) :: starEach es X.env := by rfl) (hpl : ((backTo pos (starEach (e :: es) X.env)).any (·.1) || (backToKw pos (keywordEach kws X.env)).any (·.1.isNone)) = false := by rfl) :
    PE X (.Call (.Name x p) (e :: es) kws pos) (tMakeK C n ks.length sp (fun vs zs => vs ++ zs) E0 t tk) := by
  obtain ⟨f, fd, ps, M, F, hm, hb⟩ := c.ex
  exact pe_makeK M F (hr.mono hk) hg hm hb pass0 ha hkw hall hks hdb he hpl
/-! ### Edition.__init__ -/
def spEdInit (K : PySem.W.Frag) (a : Ads) : Sp := fun vs H Q _ => ∃ (x dx hs ws as sh : Addr) (ed : Ed), vs = [.ref x, .str app, .int ed.v, .ref hs, .ref ws, .ref as, .ref sh] ∧ H x = some (.ins a.ed dx []) ∧ EdDat ed ∧ SqT K H hs (ed.has.map fun w => .str w.txt) ∧ NdT K H ws ed.wants ∧ NdT K H as ed.asks ∧ SqT K H sh (if ed.shuns = true then [.str web] else []) ∧
  ∀ H', ExO x H H' → EdAt K a H' x ed → Q .non H'
theorem scEdInit : FnScope ["self", "name", "version", "scripts", "needs", "first", "against", "part", "some", "script", "other", "least", "one"] ["self", "name", "version", "scripts", "needs", "first", "against"] (defScope s_Edition_init) := ⟨rfl, rfl, rfl, by decide +kernel, rfl, by decide +kernel, by decide +kernel⟩
abbrev NEd : List Str := ["self", "name", "version", "scripts", "needs", "first", "against", "part", "some", "script", "other", "least", "one"]
theorem wd_scripts (x : Wd) : NestedKey.text x.txt ∈ (["clean", "enter", "leave", "setup"] : List Str).map NestedKey.text := by cases x <;> decide +kernel
/-- the length of a list of needs -/
theorem NdT.nds {H : Hp} {p : Addr} {ls : List Int} (h : NdT K H p ls) : ∃ ts : List Addr, SqT K H p (ts.map V.ref) ∧ NdsAt K H ts ls ∧ ts.length = ls.length := by
  obtain ⟨ts, h1, h2⟩ := h
  exact ⟨ts, h1, h2, h2.len⟩
theorem k_ed (T : TX K mg a) : MakK P w K mg base 3 "Edition" a.ed (spEdInit K a) 2 ["scripts", "needs", "first", "against"] := by
  obtain ⟨f, fd, F, M⟩ := T.k_ed
  refine ⟨f, fd, ["self", "name", "version", "scripts", "needs", "first", "against"], M, ?_, T.mg_ed, ?_⟩
  rotate_left
  · obtain ⟨oc, od, dV, kV, doc, pm, an, cdv, ct, osl, rfl, lk, hcd, hD, hK⟩ := F.ex
    rcases hD with ⟨_, rfl⟩ | ⟨e, _⟩
    · refine ⟨fun s us ws _ l1 l2 => .of_eq ?_, fun r1 r2 => r1.append r2⟩
      match us, ws, l1, l2 with
      | [_, _, _], [_, _, _, _], _, _ => rfl
    · exact absurd rfl e
  refine F.ok scEdInit (fun vs H Q E h => ?_) fun cdv A outer s0 H vs Q E hr h => ?_
  · obtain ⟨x, dx, hs, ws, as, sh, ed, rfl, _⟩ := h
    rfl
  · obtain ⟨x, dx, hs, ws, as, sh, ed, rfl, hx, dat, hhs, hws, has, hsh, k⟩ := h
    have hu := hu_of hr
    have hW := c_is_word (P := P) (w := w) (base := base) T
    have hN := c_is_number (P := P) (w := w) (base := base) T
    have hR := c_is_rising (P := P) (w := w) (base := base) T
    have hNd := c_is_need (P := P) (w := w) (base := base) T
    obtain ⟨pS, gS, sS⟩ := T.g_SCRIPTS
    refine ⟨_, PSs.nox (pss_cons (ps_if (pt_not (pt_val (pe_cc hW hr (pa_cons (pv 1) pa_nil)))) pss_never pss_nil)
      (pss_cons (ps_if (pt_not (pt_val (pe_cc hN hr (pa_cons (pv 2) (pa_cons pe_int (pa_cons (pe_gi T.g_MOST_VERSION) pa_nil)))))) pss_never pss_nil)
      (pss_cons (ps_if (pw_or (pt_not (pt_val (pe_cc hR hr (pa_cons (pv 3) pa_nil)))) (pw_or1 (pt_not (pt_val (pe_callB (cr_all rfl) (by rfl) T.f_all PyProof.Rows.boot_all (pa_cons
          (pe_lc (own := [("script", 9)]) (g := gName 9) (tt := tYes) rfl scEdInit.nd (pi_tup (pv 3)) (blkOk_by (N := NEd) (sc := defScope s_Edition_init) (by decide +kernel))
            (fun _ _ _ _ _ => pg_name (i := 9) scEdInit.nd rfl (Or.inl rfl)) (fun _ _ _ _ _ => pts_nil) (fun _ _ _ _ _ => pe_cmpR (op_inNK K rfl hr.units) (pv 9) (pe_gt gS) rfl)) pa_nil)))))).pt pss_never pss_nil)
      (pss_cons (ps_for PassesOwn.never rfl (pi_tup (pe_tup (pa_cons (pe_tup (pa_cons pe_str (pa_cons (pv 4) pa_nil))) (pa_cons (pe_tup (pa_cons pe_str (pa_cons (pv 5) pa_nil))) pa_nil)))) (pg_tup rfl (pgs_cons (pg_name (i := 7) scEdInit.nd rfl (Or.inl rfl)) (pgs_cons (pg_name (i := 8) scEdInit.nd rfl (Or.inl rfl)) pgs_nil)))
        (pss_one (ps_if (pw_or (pt_not (pt_val (pe_cc hR hr (pa_cons (pe_lc (own := [("other", 10), ("least", 11)]) (g := gTup K 2 (gCons (gName 10) (gCons (gName 11) gNil))) (tt := tYes) rfl scEdInit.nd (pi_tup (pv 8)) (blkOk_by (N := NEd) (sc := defScope s_Edition_init) (by decide +kernel))
            (fun _ _ _ _ _ => pg_tup rfl (pgs_cons (pg_name (i := 10) scEdInit.nd rfl (Or.inl rfl)) (pgs_cons (pg_name (i := 11) scEdInit.nd rfl (Or.inl rfl)) pgs_nil))) (fun _ _ _ _ _ => pts_nil) (fun _ _ _ _ _ => pv 10)) pa_nil))))
          (pw_or1 (pt_not (pt_val (pe_callB (cr_all rfl) (by rfl) T.f_all PyProof.Rows.boot_all (pa_cons (pe_lc (own := [("one", 12)]) (g := gName 12) (tt := tYes) rfl scEdInit.nd (pi_tup (pv 8)) (blkOk_by (N := NEd) (sc := defScope s_Edition_init) (by decide +kernel))
            (fun _ _ _ _ _ => pg_name (i := 12) scEdInit.nd rfl (Or.inl rfl)) (fun _ _ _ _ _ => pts_nil) (fun _ _ _ _ _ => pe_cc hNd hr (pa_cons (pv 12) (pa_cons (pv 1) pa_nil)))) pa_nil)))))).pt pss_never pss_nil)))
      (pss_cons (ps_if (pw_or (pt_not (pt_val (pe_cc hR hr (pa_cons (pv 6) pa_nil)))) (pw_or1 (pt_not (pt_val (pe_callB (cr_all rfl) (by rfl) T.f_all PyProof.Rows.boot_all (pa_cons
          (pe_lc (own := [("other", 10)]) (g := gName 10) (tt := tYes) rfl scEdInit.nd (pi_tup (pv 6)) (blkOk_by (N := NEd) (sc := defScope s_Edition_init) (by decide +kernel))
            (fun _ _ _ _ _ => pg_name (i := 10) scEdInit.nd rfl (Or.inl rfl)) (fun _ _ _ _ _ => pts_nil) (fun _ _ _ _ _ => pe_and (pe_cc hW hr (pa_cons (pv 10) pa_nil)) (pe_one (pe_cmpR op_ne (pv 10) (pv 1) rfl)))) pa_nil)))))).pt pss_never pss_nil)
      (pss_cons (ps_fld (pv 0) (pv 1) rfl) (pss_cons (ps_fld (pv 0) (pv 2) rfl) (pss_cons (ps_fld (pv 0) (pv 3) rfl) (pss_cons (ps_fld (pv 0) (pv 4) rfl) (pss_cons (ps_fld (pv 0) (pv 5) rfl) (pss_one (ps_fld (pv 0) (pv 6) rfl)))))))))))), ?_⟩
    -- the name, the version
    refine ⟨_, rfl, true, rfl, fun H1 e1 => ⟨_, rfl, iteF ?_⟩⟩
    refine ⟨_, rfl, ed.v, 1, 99, rfl, _, rfl, ?_⟩
    rw [decide_eq_true dat.v1, decide_eq_true dat.v99]
    refine iteF ?_
    -- the scripts
    have h4 : ed.has.length ≤ 4 := dat.has.length_le
    have hmap : (ed.has.map Wd.txt).map V.str = ed.has.map fun w => V.str w.txt := by rw [List.map_map] <;> rfl
    have hhs' : SqT K H hs ((ed.has.map Wd.txt).map V.str) := by rw [hmap]; exact hhs
    refine ⟨_, rfl, hs, ed.has.map Wd.txt, rfl, .inr (fz_t (Fz.ex e1) hhs'), by rw [List.length_map]; omega, rise_wds dat.has, fun H2 e2 => ⟨_, rfl, iteF ?_⟩⟩
    have e12 := e1.trans e2
    refine ⟨_, rfl, hs, rfl, ⟨_, fz_t (Fz.ex e12) hhs⟩, fun D hD => lc_tup (xs := ed.has.map fun w : Wd => V.str w.txt) (fun i H' => Ex H2 H' ∧ H' D = some (.lst ((List.replicate i true).map V.bl))) ⟨Ex.new hD, upd_same⟩ (fun i H' _ q => fz_t (Fz.ex (e12.trans q.1)) hhs) ?_ ?_⟩
    · rintro i v H' hv ⟨e3, hd⟩
      rw [List.getElem?_map] at hv
      cases hvv : ed.has[i]? with
      | none => rw [hvv] at hv; cases hv
      | some u =>
        rw [hvv] at hv
        obtain rfl : V.str u.txt = v := Option.some.inj hv
        have hil := (List.getElem?_eq_some_iff.mp hvv).1
        refine ⟨rfl, yes_ok ?_⟩
        refine ⟨_, rfl, _, pS, _, _, rfl, .inr (sS _), .text _, nk_texts ["clean", "enter", "leave", "setup"], Nat.zero_le _, _, hd, by rw [List.length_map, List.length_replicate, sizeLine_eq]; omega, e3.mut hD, ?_⟩
        rw [if_neg (by decide), decide_eq_true (wd_scripts u), upd_same, rep_snoc]
    rintro H3 ⟨e3, hd⟩
    refine ⟨D, _, rfl, SqL.of hd, _, rfl, ?_⟩
    rw [all_true]
    refine iteF ?_
    have e13 := e12.trans e3
    -- needs, first
    refine ⟨_, rfl, (by show 2 ≤ sizeLine; decide), fun t1 ht1 => ⟨_, rfl, (by show 2 ≤ sizeLine; decide), fun t2 ht2 => ⟨(by show 2 ≤ sizeLine; decide), fun t3 ht3 => ?_⟩⟩⟩
    have e4 : Ex H (upd (upd (upd H3 t1 (.tup [.str "needs", .ref ws])) t2 (.tup [.str "first", .ref as])) t3 (.tup [.ref t1, .ref t2])) := ((e13.trans (Ex.new ht1)).trans (Ex.new ht2)).trans (Ex.new ht3)
    have g1 : (upd (upd (upd H3 t1 (.tup [.str "needs", .ref ws])) t2 (.tup [.str "first", .ref as])) t3 (.tup [.ref t1, .ref t2])) t1 = some (.tup [.str "needs", .ref ws]) := ((Ex.new ht2).trans (Ex.new ht3)) _ _ upd_same
    have g2 : (upd (upd (upd H3 t1 (.tup [.str "needs", .ref ws])) t2 (.tup [.str "first", .ref as])) t3 (.tup [.ref t1, .ref t2])) t2 = some (.tup [.str "first", .ref as]) := (Ex.new ht3) _ _ upd_same
    have g3 : (upd (upd (upd H3 t1 (.tup [.str "needs", .ref ws])) t2 (.tup [.str "first", .ref as])) t3 (.tup [.ref t1, .ref t2])) t3 = some (.tup [.ref t1, .ref t2]) := upd_same
    generalize upd (upd (upd H3 t1 (.tup [.str "needs", .ref ws])) t2 (.tup [.str "first", .ref as])) t3 (.tup [.ref t1, .ref t2]) = H4 at e4 g1 g2 g3 ⊢
    refine ⟨t3, rfl, ⟨_, .inl (.inl g3)⟩, for_it (walk_tup (xs := [.ref t1, .ref t2])) (fun i σ H' => ∃ v7 v8, σ = [some (.ref x), some (.str app), some (.int ed.v), some (.ref hs), some (.ref ws), some (.ref as), some (.ref sh), v7, v8, none, none, none, none] ∧ Ex H4 H')
      ⟨_, _, rfl, Ex.refl _⟩ (fun i σ H' _ ⟨_, _, _, e⟩ => .inl (.inl (e _ _ g3))) ?_ ?_⟩
    · rintro i z σ H5 H6 hi ⟨v7, v8, rfl, e5⟩ ⟨rfl, hz⟩
      obtain ⟨t, part, p, ls, rfl, ht, hp, hl1, hl99⟩ : ∃ (t : Addr) (part : Str) (p : Addr) (ls : List Int), z = .ref t ∧ H4 t = some (.tup [.str part, .ref p]) ∧ NdT K H p ls ∧ ls.length ≤ 1 ∧ ∀ l ∈ ls, 1 ≤ l ∧ l ≤ 99 := by
        match i, hi, hz with
        | 0, _, hz => exact ⟨t1, _, ws, ed.wants, (Option.some.inj hz).symm, g1, hws, dat.wl, dat.w99⟩
        | 1, _, hz => exact ⟨t2, _, as, ed.asks, (Option.some.inj hz).symm, g2, has, dat.al, dat.a99⟩
        | n + 2, hi, _ => exact absurd hi (by simp only [List.length_cons, List.length_nil]; omega)
      obtain ⟨ts, hp1, hp2, hp3⟩ := hp.nds
      have e6 := e4.trans e5
      refine ⟨t, _, rfl, .inl (.inl (e5 _ _ ht)), rfl, _, _, rfl, _, _, rfl, rfl, ?_⟩
      refine ⟨_, rfl, p, rfl, ⟨_, fz_t (Fz.ex e6) hp1⟩, fun D hD => lc_tup (xs := ts.map V.ref) (fun j H' => Ex H6 H' ∧ H' D = some (.lst ((List.replicate j web).map V.str))) ⟨Ex.new hD, upd_same⟩ (fun j H' _ q => fz_t (Fz.ex (e6.trans q.1)) hp1) ?_ ?_⟩
      · rintro j v H' hv ⟨e7, hd⟩
        obtain ⟨t', l, rfl, _, ht'⟩ := hp2.get hv
        have hjl : j < ts.length := by
          have := (List.getElem?_eq_some_iff.mp hv).1
          rwa [List.length_map] at this
        refine ⟨t', _, rfl, fz_t (Fz.ex (e6.trans e7)) ht', rfl, _, _, rfl, _, _, rfl, rfl, rfl, yes_ok ?_⟩
        refine ⟨_, rfl, _, hd, by rw [List.length_map, List.length_replicate, sizeLine_eq]; omega, e7.mut hD, ?_⟩
        rw [upd_same, web_snoc]
      rintro H7 ⟨e7, hd⟩
      rw [List.length_map] at hd
      refine ⟨D, List.replicate ts.length web, rfl, .inl (SqL.of hd), by rw [List.length_replicate]; omega, rise_rep (by omega), fun H8 e8 => ⟨_, rfl, iteF ?_⟩⟩
      have e68 := e7.trans e8
      refine ⟨_, rfl, p, rfl, ⟨_, fz_t (Fz.ex (e6.trans e68)) hp1⟩, fun D2 hD2 => lc_tup (xs := ts.map V.ref) (fun j H' => Ex H8 H' ∧ H' D2 = some (.lst ((List.replicate j true).map V.bl))) ⟨Ex.new hD2, upd_same⟩ (fun j H' _ q => fz_t (Fz.ex ((e6.trans e68).trans q.1)) hp1) ?_ ?_⟩
      · rintro j v H' hv ⟨e9, hd9⟩
        obtain ⟨t', l, rfl, hl, ht'⟩ := hp2.get hv
        have hjl : j < ts.length := by
          have := (List.getElem?_eq_some_iff.mp hv).1
          rwa [List.length_map] at this
        have hll := hl99 l (List.mem_of_getElem? hl)
        refine ⟨rfl, yes_ok ?_⟩
        refine ⟨_, rfl, _, rfl, t', l, rfl, fz_t (Fz.ex ((e6.trans e68).trans e9)) ht', hll.1, hll.2, fun H10 e10 => ⟨_, e10 _ _ hd9, by rw [List.length_map, List.length_replicate, sizeLine_eq]; omega, (e9.trans e10).mut hD2, ?_⟩⟩
        rw [upd_same, rep_snoc]
      rintro H9 ⟨e9, hd9⟩
      refine ⟨D2, _, rfl, SqL.of hd9, _, rfl, ?_⟩
      rw [all_true]
      exact iteF ⟨_, _, rfl, e5.trans (e68.trans e9)⟩
    rintro σ H5 ⟨v7, v8, rfl, e5⟩
    have e6 := e4.trans e5
    -- against
    have hsh' : SqT K H sh ((if ed.shuns = true then [web] else []).map V.str) := by
      cases hb : ed.shuns with
      | true => rw [hb] at hsh; exact hsh
      | false => rw [hb] at hsh; exact hsh
    have hsl : (if ed.shuns = true then [web] else []).length ≤ 1 := by
      cases ed.shuns <;> simp
    have hsw : ∀ z ∈ (if ed.shuns = true then [web] else []), z = web := fun z hz => by
      cases hb : ed.shuns with
      | true => rw [hb] at hz; exact List.mem_singleton.mp hz
      | false => rw [hb] at hz; cases hz
    have hri := rise_webs (b := ed.shuns)
    generalize (if ed.shuns = true then [web] else []) = zs at hsh' hsl hsw hri
    refine ⟨_, rfl, sh, zs, rfl, .inr (fz_t (Fz.ex e6) hsh'), by omega, hri, fun H6 e66 => ⟨_, rfl, iteF ?_⟩⟩
    have e7 := e6.trans e66
    refine ⟨_, rfl, sh, rfl, ⟨_, fz_t (Fz.ex e7) hsh'⟩, fun D hD => lc_tup (xs := zs.map V.str) (fun j H' => Ex H6 H' ∧ H' D = some (.lst ((List.replicate j true).map V.bl))) ⟨Ex.new hD, upd_same⟩ (fun j H' _ q => fz_t (Fz.ex (e7.trans q.1)) hsh') ?_ ?_⟩
    · rintro j v H' hv ⟨e8, hd⟩
      rw [List.getElem?_map] at hv
      cases hvv : zs[j]? with
      | none => rw [hvv] at hv; cases hv
      | some u =>
        rw [hvv] at hv
        have hv2 : V.str u = v := Option.some.inj hv
        have hu2 := hsw u (List.mem_of_getElem? hvv)
        subst hu2
        subst hv2
        have hjl := (List.getElem?_eq_some_iff.mp hvv).1
        refine ⟨rfl, yes_ok ?_⟩
        refine ⟨_, rfl, false, rfl, fun H9 e9 => ⟨_, rfl, iteT ?_⟩⟩
        refine ⟨_, rfl, _, rfl, rfl, _, e9 _ _ hd, by rw [List.length_map, List.length_replicate, sizeLine_eq]; omega, (e8.trans e9).mut hD, ?_⟩
        rw [upd_same, decide_eq_false (fun z => app_web (by injection z with z; exact z.symm)), Bool.not_false, rep_snoc]
    rintro H7 ⟨e8, hd⟩
    refine ⟨D, _, rfl, SqL.of hd, _, rfl, ?_⟩
    rw [all_true]
    refine iteF ?_
    have e9 := e7.trans e8
    -- the fields
    have hx7 := e9 _ _ hx
    have hfin : ∀ H', ExO x H7 H' → H' x = some (.ins a.ed dx [("label", .str app), ("number", .int ed.v), ("has", .ref hs), ("wants", .ref ws), ("asks", .ref as), ("shuns", .ref sh)]) → Q .non H' := fun H' e h =>
      k H' ((ExO.of e9).trans e) ⟨dx, hs, ws, as, sh, h, ((ExO.of e9).trans e).t hx hhs, hws.exo hx ((ExO.of e9).trans e), has.exo hx ((ExO.of e9).trans e), ((ExO.of e9).trans e).t hx hsh⟩
    refine ⟨_, rfl, _, rfl, x, a.ed, dx, _, rfl, hx7, T.cl_ed, T.no_ed_label, (by show 0 < 1000; decide), ?_⟩
    refine ⟨_, rfl, _, rfl, x, a.ed, dx, _, rfl, upd_same, T.cl_ed, T.no_ed_number, (by show 1 < 1000; decide), ?_⟩
    refine ⟨_, rfl, _, rfl, x, a.ed, dx, _, rfl, upd_same, T.cl_ed, T.no_ed_has, (by show 2 < 1000; decide), ?_⟩
    refine ⟨_, rfl, _, rfl, x, a.ed, dx, _, rfl, upd_same, T.cl_ed, T.no_ed_wants, (by show 3 < 1000; decide), ?_⟩
    refine ⟨_, rfl, _, rfl, x, a.ed, dx, _, rfl, upd_same, T.cl_ed, T.no_ed_asks, (by show 4 < 1000; decide), ?_⟩
    refine ⟨_, rfl, _, rfl, x, a.ed, dx, _, rfl, upd_same, T.cl_ed, T.no_ed_shuns, (by show 5 < 1000; decide), ?_⟩
    exact hfin _ (((((ExO.upd.trans ExO.upd).trans ExO.upd).trans ExO.upd).trans ExO.upd).trans ExO.upd) upd_same
end
end Hs
end
section
set_option Elab.async false
set_option linter.all false
set_option maxRecDepth 100000
set_option maxHeartbeats 4000000
namespace Hs
open PySem PySem.Spec PyProof.Rows L2
section
variable {prog : Program} {w : World} {A : Around} {s : Shared}
theorem rc_dict_empty {a b : Addr} {oa ob : Obj} {es es' : Array DictEntry} {ep ep' : Nat} (ha : (a == sysModules) = false) (hb : (b == sysModules) = false) (hoa : s.heap.get? a = some oa) (hda : oa.data = .dict es ep) (hob : s.heap.get? b = some ob) (hdb : ob.data = .dict es' ep')
    (ta : s.TypeIs (.ref a) "dict") (tb : s.TypeIs (.ref b) "dict") (hsz : es.size ≠ es'.size) (hu : A.units < cLine) (E Q : Value → Shared → Prop) (h : Q (.bool false) s) : wpAny (model prog w) A (richCompare .Eq (.ref a) (.ref b)) Q E s := by
  refine wpAny_richCompare_same_room (op := .Eq) ta tb PySem.F.slot_dict_eq (wpAny_call_entry PySem.F.slot_dict_eq ta PySem.F.entry_dict_eq ?_ (PySem.F.args_dict_eq_2 _ _)) hu
  show wpAny _ _ (Builtin.Dict.dictSlotArgs "__eq__" ⟨[.ref a, .ref b], []⟩ >>= _) _ _ s
  refine wpAny_bind ?_
  unfold Builtin.Dict.dictSlotArgs
  refine wpAny_bind (wpAny_notOrdered_dict ta ?_)
  show wpAny _ _ (pure (Value.ref a, Value.ref b)) _ _ s
  refine wpAny_pure ?_
  refine wpAny_bind (wpAny_isInstance (T := "dict") tb PySem.F.sub_dict_dict ?_)
  simp only [Bool.not_true, Bool.false_eq_true, if_false]
  refine wpAny_bind (wpAny_pure (wpAny_bind (wpAny_pure ?_)))
  refine wpAny_bind ?_
  unfold Builtin.Dict.samePairs Builtin.Dict.showsAll
  rw [if_neg (show ¬ (a == sysModules) = true by rw [ha]; exact Bool.false_ne_true), if_neg (show ¬ (b == sysModules) = true by rw [hb]; exact Bool.false_ne_true)]
  refine wpAny_bind (wpAny_pure (wpAny_bind (wpAny_pure ?_)))
  refine wpAny_bind (wpAny_dictEntries hoa hda ?_)
  dsimp only
  refine wpAny_bind (wpAny_dictEntries hob hdb ?_)
  rw [if_pos (by simpa using hsz)]
  refine wpAny_bind (wpAny_rule (wpAny_pure ?_))
  refine wpAny_pure ⟨_, rfl, ?_, ?_⟩
  · exact fun x => nomatch x
  · simpa using h
end
section
variable {X : Cx}
/-- a dict of tuple keys, not empty, == {} -/
def rEqDE : R2 := fun x y H Q => ∃ (d e : Addr) (kvs : List (List Key × V)), x = .ref d ∧ y = .ref e ∧ H d = some (.dT kvs) ∧ kvs ≠ [] ∧ H e = some (.dK []) ∧ Q (.bl false) H
theorem op_eqDE (hu : X.A.units + 64 < cLine) : OpR X (compareOp .Eq) rEqDE := by
  intro pins s σ H x y v u Q I rx ry h
  obtain ⟨d, e, kvs, rfl, rfl, hd, hne, he, q⟩ := h
  cases rx
  cases ry
  obtain ⟨_, l1, xs, rk, o, es, ep, ho, hx, hda, hes, _⟩ := (show ObjOk X.prog X.w H s.heap d (.dT kvs) from I.hok d _ hd)
  obtain ⟨_, l2, vs, rk2, hm2⟩ := dk_of I.hok he
  have hv : vs = [] := List.eq_nil_of_length_eq_zero (Paired.length rk2).symm
  subst hv
  have ty := hm2.typeIs
  obtain ⟨ob, es', ep', hob, _, hdb, hkb, hpb, _⟩ := id hm2
  have hlb : ([] : List (Key × Value)).length = es'.size := by rw [← hpb.length]; exact Array.length_toList
  have hla := PySem.size_of_entries hes
  have hln := Paired.length rk
  refine rc_dict_empty l1 l2 ho hda hob hdb ⟨o, ho, hx.1⟩ ty ?_ (by omega) _ _ ⟨.bl _, H, I, rfl, q⟩
  rw [hla, ← hln, ← hlb]
  exact fun z => hne (List.eq_nil_of_length_eq_zero z)
end
end Hs
end
section
set_option Elab.async false
set_option linter.all false
set_option maxRecDepth 100000
set_option maxHeartbeats 4000000
namespace Hs
open PySem PySem.Spec PyProof.Rows L2
open C8 (Cal Met Mak InsC pe_c pe_mk pe_mt pe_mt0 pe_gc call_isC)
open LamX (TabB Tabs ExtN TabS)
open PySem.W (AllAlike Sortable dataLe)
open Evl (Ex)
section
variable {K : PySem.W.Frag} {a : Ads} {H H' : Hp}
theorem EdsAt.len : ∀ {es : List Addr} {eds : List Ed}, EdsAt K a H es eds → es.length = eds.length
  | _, _, .nil => rfl
  | _, _, .cons _ h => congrArg Nat.succ h.len
theorem EdsAt.get : ∀ {es : List Addr} {eds : List Ed} {i : Nat} {v : V}, EdsAt K a H es eds → (es.map V.ref)[i]? = some v → ∃ e ed, v = .ref e ∧ es[i]? = some e ∧ eds[i]? = some ed ∧ EdAt K a H e ed
  | _, _, i, v, .nil, h => by simp at h
  | _, _, 0, v, .cons h t, e => ⟨_, _, (Option.some.inj e).symm, rfl, rfl, h⟩
  | _, _, i + 1, v, .cons h t, e => by
    obtain ⟨e', ed, h1, h2, h3, h4⟩ := EdsAt.get t (i := i) (by simpa using e)
    exact ⟨e', ed, h1, by simpa using h2, by simpa using h3, h4⟩
theorem EdsAt.take : ∀ {es : List Addr} {eds : List Ed} (n : Nat), EdsAt K a H es eds → EdsAt K a H (es.take n) (eds.take n)
  | _, _, 0, h => .nil
  | _, _, n + 1, .nil => .nil
  | _, _, n + 1, .cons h t => .cons h (EdsAt.take n t)
theorem EdAt.out {x : Addr} {C dx : Addr} {fs : List (Str × V)} (hx : H x = some (.ins C dx fs)) (hC : C ≠ a.ed) (e : ExO x H H') {y : Addr} {ed : Ed} (h : EdAt K a H y ed) : EdAt K a H' y ed := by
  obtain ⟨dz, hs, ws, as, sh, h1, h2, h3, h4, h5⟩ := h
  exact ⟨dz, hs, ws, as, sh, e _ _ (fun z => by rw [z, hx] at h1; injection h1 with h1; injection h1 with h1; exact hC h1) h1, e.t hx h2, h3.exo hx e, h4.exo hx e, e.t hx h5⟩
end
theorem kvs_take {es : List Addr} {eds : List Ed} {i : Nat} {e : Addr} {ed : Ed} (he : es[i]? = some e) (hd : eds[i]? = some ed) : kvsOf (es.take (i + 1)) (eds.take (i + 1)) = kvsOf (es.take i) (eds.take i) ++ [([.inr app, .inl ed.v], .ref e)] := by
  unfold kvsOf
  rw [List.take_succ, List.take_succ, he, hd]
  have hl : (es.take i).length = (eds.take i).length := by
    have h1 := (List.getElem?_eq_some_iff.mp he).1
    have h2 := (List.getElem?_eq_some_iff.mp hd).1
    rw [List.length_take, List.length_take]
    omega
  show ((es.take i ++ [e]).zip (eds.take i ++ [ed])).map _ = _
  rw [List.zip_append hl, List.map_append] <;> rfl
theorem put_new {κ : Type} [DecidableEq κ] {kvs : List (κ × V)} {k : κ} {v : V} (h : valV kvs k = none) : putK kvs k v = kvs ++ [(k, v)] := by
  unfold putK
  rw [if_neg]
  intro z
  obtain ⟨p, hp, e⟩ := List.any_eq_true.mp z
  unfold valV at h
  rw [Option.map_eq_none_iff, List.find?_eq_none] at h
  exact h p hp e
theorem cr_setXLK {X : Cx} (K : PySem.W.Frag) (P : Program) (w : World) (h : X.K = K ∧ X.prog = P ∧ X.w = w) (hc : X.calm = true) : CallR X (.type "set") (rSetX K P w false) := by
  obtain ⟨rfl, rfl, rfl⟩ := h
  exact cr_setXL hc
section
variable {P : Program} {w : World} {K : PySem.W.Frag} {mg : Str → Option Value} {base : Heap} {a : Ads}
/-! ### Store.__init__ -/
def spStInit (K : PySem.W.Frag) (a : Ads) : Sp := fun vs H Q _ => ∃ (x dx ep : Addr) (es : List Addr) (eds : List Ed), vs = [.ref x, .ref ep] ∧ H x = some (.ins a.st dx []) ∧ SqT K H ep (es.map V.ref) ∧ EdsAt K a H es eds ∧ EdsOk eds ∧
  ∀ H', ExO x H H' → StoreAt K a H' x eds → Q .non H'
theorem scStInit : FnScope ["self", "editions", "index", "edition", "key", "names", "is_full", "name", "version"] ["self", "editions"] (defScope s_Store_init) := ⟨rfl, rfl, rfl, by decide +kernel, rfl, by decide +kernel, by decide +kernel⟩
theorem k_st (T : TX K mg a) : Mak P w K mg base 1 "Store" a.st (spStInit K a) [] := by
  refine makF T.k_st T.mg_st (fun _ _ _ _ _ _ us hl => match us, hl with | [_, _], _ => rfl) scStInit (fun vs H Q E h => ?_) fun fa cdv A outer s0 H vs Q E hr h => ?_
  · obtain ⟨x, dx, ep, es, eds, rfl, _⟩ := h
    rfl
  · obtain ⟨x, dx, ep, es, eds, rfl, hx, hep, hes, ok, k⟩ := h
    have hu := hu_of hr
    refine ⟨_, pss_cons (ps_fld (pv 0) pe_dnewT rfl)
      (pss_cons (ps_for PassesOwn.never rfl (pi_enumT (by rfl) T.f_enumerate (pa_cons (pv 1) pa_nil)) (pg_tup rfl (pgs_cons (pg_name (i := 2) scStInit.nd rfl (Or.inl rfl)) (pgs_cons (pg_name (i := 3) scStInit.nd rfl (Or.inl rfl)) pgs_nil)))
        (pss_cons (ps_set (i := 4) scStInit.nd rfl (Or.inl rfl) (pe_tup (pa_cons (pe_fld (pv 3) rfl) (pa_cons (pe_fld (pv 3) rfl) pa_nil))))
        (pss_cons (ps_set (i := 5) scStInit.nd rfl (Or.inl rfl) (pe_callTy (cr_setXLK K P w ⟨rfl, rfl, rfl⟩ rfl) (by rfl) T.f_set (by decide +kernel) (pa_cons
          (pe_lock (pe_lc (own := [("name", 7), ("version", 8)]) (g := gTup K 2 (gCons (gName 7) (gCons (gName 8) gNil))) (tt := tYes) rfl scStInit.nd (pi_keys (pe_fld (pv 0) rfl)) (blkOk_by (N := ["self", "editions", "index", "edition", "key", "names", "is_full", "name", "version"]) (sc := defScope s_Store_init) (by decide +kernel))
            (fun _ _ _ _ _ => pg_tup rfl (pgs_cons (pg_name (i := 7) scStInit.nd rfl (Or.inl rfl)) (pgs_cons (pg_name (i := 8) scStInit.nd rfl (Or.inl rfl)) pgs_nil))) (fun _ _ _ _ _ => pts_nil) (fun _ _ _ _ _ => pv 7))) pa_nil)))
        (Evl.pss_cut (ps_set (i := 6) scStInit.nd rfl (Or.inl rfl) (pe_and (pe_cmpR op_ninX (pe_fld (pv 3) rfl) (pv 5) rfl) (pe_one (pe_cmpR op_eq (pe_callB cr_lenSetX (by rfl) T.f_len PySem.boot_len (pa_cons (pv 5) pa_nil)) (pe_gi T.g_MOST_NAMES) rfl))))
        (pss_cons (ps_if (pw_or (pt_cmpR op_eq (pv 2) (pe_gi T.g_MOST_EDITIONS) (nomark _)) (pw_or (pt_cmp (pc_din hu (pv 4) (pe_fld (pv 0) rfl))) (pw_or1 (pt_val (pv 6))))).pt pss_never pss_nil)
        (pss_one (ps_dput hu (pe_fld (pv 0) rfl) (pv 4) (pv 3) rfl)))))))
      (pss_one (ps_if (pt_cmpR (op_eqDE hr.units) (pe_fld (pv 0) rfl) pe_dnewK (nomark _)) pss_never pss_nil))), ?_⟩
    have hn2 := ok.few
    have hel := hes.len
    -- self.known = {}
    intro d hd
    have e1 : Ex H (upd H d (.dT [])) := Ex.new hd
    have hd1 : (upd H d (.dT [])) d = some (.dT []) := upd_same
    have hdx : d ≠ x := fun z => by rw [z, hx] at hd; cases hd
    generalize upd H d (.dT []) = H1 at e1 hd1 ⊢
    refine ⟨_, rfl, x, a.st, dx, _, rfl, e1 _ _ hx, T.cl_st, T.no_st_known, (by show 0 < 1000; decide), ?_⟩
    have e2 : ExO x H (upd H1 x (.ins a.st dx (putF "known" (.ref d) []))) := (ExO.of e1).trans ExO.upd
    have hx2 : (upd H1 x (.ins a.st dx (putF "known" (.ref d) []))) x = some (.ins a.st dx [("known", .ref d)]) := upd_same
    have hd2 : (upd H1 x (.ins a.st dx (putF "known" (.ref d) []))) d = some (.dT []) := by rw [upd_ne hdx]; exact hd1
    generalize upd H1 x (.ins a.st dx (putF "known" (.ref d) [])) = H2 at e2 hx2 hd2 ⊢
    refine ⟨_, rfl, ep, es.map V.ref, rfl, e2.t hx hep, for_it walk_enumT (fun i σ H' => ∃ v2 v3 v4 v5 v6, σ = [some (.ref x), some (.ref ep), v2, v3, v4, v5, v6, none, none] ∧ ExO x H H' ∧ H' x = some (.ins a.st dx [("known", .ref d)]) ∧ H' d = some (.dT (kvsOf (es.take i) (eds.take i))))
      ⟨_, _, _, _, _, rfl, e2, hx2, hd2⟩ (fun i σ H' _ ⟨_, _, _, _, _, _, e, _⟩ => e.t hx hep) ?_ ?_⟩
    · rintro i z σ H3 H4 hi ⟨v2, v3, v4, v5, v6, rfl, e3, hx3, hd3⟩ ⟨T', x1, x2, rfl, hT, rfl, hx1, hx2'⟩
      cases hx1
      obtain ⟨e, ed, rfl, hei, hedi, hE⟩ := hes.get hx2'
      have eT : Ex H3 (upd H3 T' (.tup [.int (i : Nat), .ref e])) := Ex.new hT
      have hTT : (upd H3 T' (.tup [.int (i : Nat), .ref e])) T' = some (.tup [.int (i : Nat), .ref e]) := upd_same
      generalize upd H3 T' (.tup [.int (i : Nat), .ref e]) = H4 at eT hTT ⊢
      have e4 := e3.trans (ExO.of eT)
      have hx4 := eT _ _ hx3
      have hd4 := eT _ _ hd3
      obtain ⟨dw, hs, ws, as, sh, he1, _⟩ := id (hE.exo hx e4)
      refine ⟨T', _, rfl, .inl (.inl hTT), rfl, _, _, rfl, _, _, rfl, rfl, ?_⟩
      -- key
      refine ⟨_, rfl, e, a.ed, dw, _, _, rfl, he1, T.cl_ed, T.no_ed_label, rfl, _, rfl, e, a.ed, dw, _, _, rfl, he1, T.cl_ed, T.no_ed_number, rfl, (by show 2 ≤ sizeLine; decide), fun q hq => ?_⟩
      have eq5 : Ex H4 (upd H4 q (.tup [.str app, .int ed.v])) := Ex.new hq
      have hq5 : (upd H4 q (.tup [.str app, .int ed.v])) q = some (.tup [.str app, .int ed.v]) := upd_same
      generalize upd H4 q (.tup [.str app, .int ed.v]) = H5 at eq5 hq5 ⊢
      have hx5 := eq5 _ _ hx4
      have hd5 := eq5 _ _ hd4
      have he5 := eq5 _ _ he1
      have e5 := e4.trans (ExO.of eq5)
      have ht5 : EdsAt K a H5 (es.take i) (eds.take i) := (hes.exo hx e5).take i
      have hkl := kvs_len ht5
      have htl : (eds.take i).length ≤ 2 := by rw [List.length_take]; omega
      -- names
      refine ⟨d, .dT (kvsOf (es.take i) (eds.take i)), hd5, trivial, fun od => ?_⟩
      have hfr : ∀ H', Ex (upd H5 d (.frz od (.dT (kvsOf (es.take i) (eds.take i))))) H' → H' d = some (.frz od (.dT (kvsOf (es.take i) (eds.take i)))) := fun H' e => e _ _ upd_same
      refine ⟨_, rfl, x, a.st, dx, _, _, rfl, (by rw [upd_ne hdx.symm]; exact hx5), T.cl_st, T.no_st_known, rfl, d, od, rfl, .inr ⟨_, upd_same, fun D hD => lc_it walk_keysT (fun j H' => Ex (upd H5 d (.frz od (.dT (kvsOf (es.take i) (eds.take i))))) H' ∧ H' D = some (.lst ((List.replicate j app).map V.str))) ⟨Ex.new hD, upd_same⟩ (fun j H' _ q => hfr _ q.1) ?_ ?_⟩⟩
      · rintro j y H' H'' hj ⟨e6, hdd⟩ ⟨rfl, k0, v0, q0, hk, rfl, hq0⟩
        obtain ⟨ed', hm, _, rfl⟩ := kvs_get ht5 hk
        refine ⟨q0, [.str app, .int ed'.v], rfl, .inl (.inl hq0), rfl, _, _, rfl, _, _, rfl, rfl, rfl, yes_ok ?_⟩
        refine ⟨_, rfl, _, hdd, ?_, e6.mut hD, ?_⟩
        · rw [List.length_map, List.length_replicate, sizeLine_eq]
          omega
        · rw [upd_same, List.replicate_succ', List.map_append] <;> rfl
      · rintro H' ⟨e6, hdd⟩
        refine ⟨hfr _ e6, ?_⟩
        have e7 : Ex H5 (upd H' d (.dT (kvsOf (es.take i) (eds.take i)))) := ex_lock hd5 e6
        have nD : D ≠ d := fun z => by
          rw [z, upd_same] at hD
          cases hD
        have hdd7 : (upd H' d (.dT (kvsOf (es.take i) (eds.take i)))) D = some (.lst ((List.replicate (kvsOf (es.take i) (eds.take i)).length app).map V.str)) := by rw [upd_ne nD]; exact hdd
        generalize upd H' d (.dT (kvsOf (es.take i) (eds.take i))) = H7 at e7 hdd7 ⊢
        refine ⟨D, List.replicate (kvsOf (es.take i) (eds.take i)).length app, rfl, ?_, ?_, fun b ls hb nd hm hls => ?_⟩
        · rw [if_neg (by decide)]
          exact SqL.of hdd7
        · rw [List.length_replicate, hkl]
          omega
        · have e8 : Ex H5 (upd H7 b (SetX P w b ls)) := e7.trans (Ex.new hb)
          have hb8 : (upd H7 b (SetX P w b ls)) b = some (SetX P w b ls) := upd_same
          have hl1 : ls.length ≤ 1 := by
            have := nodup_le (D := [app]) nd fun z hz => by
              rw [(List.mem_replicate.mp ((hm z).mp hz)).2]
              exact List.mem_singleton.mpr rfl
            simpa using this
          have hx8 := e8 _ _ hx5
          have hd8 := e8 _ _ hd5
          have he8 := e8 _ _ he5
          have hq8 := e8 _ _ hq5
          have e08 := e5.trans (ExO.of e8)
          generalize upd H7 b (SetX P w b ls) = H8 at e8 hb8 hx8 hd8 he8 hq8 e08 ⊢
          -- is_full
          refine ⟨fun σ' H' => σ' = [some (.ref x), some (.ref ep), some (.int (i : Nat)), some (.ref e), some (.ref q), some (.ref b), some (.bl false), none, none] ∧ H' = H8, ?_, ?_⟩
          · refine ⟨_, rfl, e, a.ed, dw, _, _, rfl, he8, T.cl_ed, T.no_ed_label, rfl, _, rfl, app, b, ls, rfl, rfl, hb8, hls, _, rfl, ?_⟩
            rw [if_pos rfl]
            by_cases hmem : app ∈ ls
            · rw [decide_eq_true hmem]
              exact iteF ⟨rfl, rfl⟩
            · rw [decide_eq_false hmem]
              refine iteT ⟨_, rfl, b, ls, rfl, hb8, hls, rfl, ?_⟩
              refine ⟨?_, rfl⟩
              have : decide (V.int (ls.length : Int) = V.int 4) = false := decide_eq_false fun z => by
                injection z with z
                omega
              rw [this] <;> rfl
          rintro σ' H' ⟨rfl, rfl⟩
          have hil : i < 2 := by
            rw [List.length_map] at hi
            omega
          -- the tests
          refine ⟨_, rfl, rfl, _, rfl, ?_⟩
          refine iteN (fun z => by injection z with z; omega) ?_
          have hno : valV (kvsOf (es.take i) (eds.take i)) ([.inr app, .inl ed.v] : List Key) = none := EdsAt.no (K := K) (a := a) ht5 fun v hv z => by
            injection z with _ z
            injection z with z _
            injection z with z
            subst z
            have hm := verOk_mem.mp hv
            unfold vers at hm
            rw [List.map_take] at hm
            obtain ⟨j, hj, ej⟩ := List.getElem_of_mem hm
            have hvi : (vers eds)[i]? = some ed.v := by unfold vers; rw [List.getElem?_map, hedi] <;> rfl
            have hji : j < i := by
              rw [List.length_take] at hj
              omega
            have hvj : (vers eds)[j]? = some ed.v := by
              rw [List.getElem_take] at ej
              exact List.getElem?_eq_some_iff.mpr ⟨_, ej⟩
            obtain ⟨g1, p1⟩ := List.getElem?_eq_some_iff.mp hvi
            obtain ⟨g2, p2⟩ := List.getElem?_eq_some_iff.mp hvj
            exact absurd (p2.trans p1.symm) (List.pairwise_iff_getElem.mp ok.nd j i g2 g1 hji)
          refine ⟨_, rfl, _, rfl, x, a.st, dx, _, _, rfl, hx8, T.cl_st, T.no_st_known, rfl, d, _, rfl, dget_t (k := [.inr app, .inl ed.v]) (.inl hd8) hq8, ?_⟩
          rw [hno]
          refine ⟨_, rfl, iteF ?_⟩
          refine ⟨_, rfl, _, rfl, iteF ?_⟩
          -- known[key] = edition
          refine ⟨_, rfl, _, rfl, x, a.st, dx, _, _, rfl, hx8, T.cl_st, T.no_st_known, rfl, _, rfl, d, _, rfl, DPut.t (k := [.inr app, .inl ed.v]) hd8 hq8 (by rw [hkl, sizeLine_eq]; omega), ?_⟩
          rw [put_new hno, ← kvs_take hei hedi]
          refine ⟨_, _, _, _, _, rfl, fun c o n h => ?_, ?_, upd_same⟩
          · rw [upd_ne (fun z => by rw [z, hd] at h; cases h)]
            exact e08 c o n h
          · rw [upd_ne hdx.symm]
            exact hx8
    · rintro σ H3 ⟨v2, v3, v4, v5, v6, rfl, e3, hx3, hd3⟩
      rw [List.length_map] at hd3
      rw [List.take_length, hel, List.take_length] at hd3
      refine ⟨_, rfl, x, a.st, dx, _, _, rfl, hx3, T.cl_st, T.no_st_known, rfl, fun p hp => ?_⟩
      have e4 : Ex H3 (upd H3 p (.dK [])) := Ex.new hp
      have hkn : kvsOf es eds ≠ [] := fun z => by
        have := kvs_len hes
        rw [z] at this
        exact ok.some (List.eq_nil_of_length_eq_zero this.symm)
      refine ⟨d, p, _, rfl, rfl, e4 _ _ hd3, hkn, upd_same, _, rfl, iteF ?_⟩
      have e5 := e3.trans (ExO.of e4)
      exact k _ e5 ⟨dx, d, es, e4 _ _ hx3, e4 _ _ hd3, hes.exo hx e5⟩
end
end Hs
end
section
set_option Elab.async false
set_option linter.all false
set_option maxRecDepth 100000
set_option maxHeartbeats 4000000
namespace Hs
open PySem PySem.Spec PyProof.Rows L2
open C8 (Cal Met Mak InsC pe_c pe_mk pe_mt pe_mt0 pe_gc call_isC)
open LamX (TabB Tabs ExtN TabS)
open PySem.W (AllAlike Sortable dataLe)
open Evl (Ex)
/-- the script is not the row, or it is one of the text's objects -/
def OffR (K : PySem.W.Frag) (r sc : Addr) (ns : List Int) : Prop := sc ≠ r ∨ ∀ H : Hp, SqL K H sc (ns.map V.int)
/-- the law's row at r: the script at sc -/
def RowAt (K : PySem.W.Frag) (H : Hp) (r sc : Addr) (ns : List Int) : Prop := ∃ i b c : Int, H r = some (.lst [.ref sc, .int i, .int b, .int c]) ∧ SqL K H sc (ns.map V.int) ∧ OffR K r sc ns ∧ 0 ≤ i
theorem RowAt.at {K : PySem.W.Frag} {H : Hp} {r sc : Addr} {ns : List Int} (h : RowAt K H r sc ns) : ∃ xs, H r = some (.lst xs) := by
  obtain ⟨i, b, c, h, _⟩ := h
  exact ⟨_, h⟩
theorem sqL_exb {K : PySem.W.Frag} {H H' : Hp} {r p : Addr} {xs : List V} (e : ExB r H H') (n : p ≠ r) (h : SqL K H p xs) : SqL K H' p xs := by
  rcases h with (h | ⟨u, h⟩) | h
  · exact .inl (.inl (e _ _ h n))
  · exact .inl (.inr ⟨u, e _ _ h n⟩)
  · exact .inr h
theorem sqL_off {K : PySem.W.Frag} {H H' : Hp} {r sc : Addr} {ns : List Int} (e : ExB r H H') (o : OffR K r sc ns) (h : SqL K H sc (ns.map V.int)) : SqL K H' sc (ns.map V.int) := o.elim (fun n => sqL_exb e n h) fun z => z _
theorem RowAt.ex {K : PySem.W.Frag} {H H' : Hp} {r sc : Addr} {ns : List Int} (e : Ex H H') (h : RowAt K H r sc ns) : RowAt K H' r sc ns := by
  obtain ⟨i, b, c, h1, h2, h3, h4⟩ := h
  exact ⟨i, b, c, e _ _ h1, sqL_extN (ExtN.of e) h2, h3, h4⟩
theorem RowAt.extN {K : PySem.W.Frag} {H H' : Hp} {r sc : Addr} {ns : List Int} (e : ExtN H H') (h : RowAt K H r sc ns) : RowAt K H' r sc ns := by
  obtain ⟨i, b, c, h1, h2, h3, h4⟩ := h
  exact ⟨i, b, c, e _ _ h1 (fun _ z => nomatch z), sqL_extN e h2, h3, h4⟩
theorem RowAt.put {K : PySem.W.Frag} {H : Hp} {r sc : Addr} {ns : List Int} (h : RowAt K H r sc ns) {i b c : Int} (hi : 0 ≤ i) : RowAt K (upd H r (.lst [.ref sc, .int i, .int b, .int c])) r sc ns := by
  obtain ⟨i0, b0, c0, h1, h2, h3, h4⟩ := h
  exact ⟨i, b, c, upd_same, sqL_off ExB.put h3 h2, h3, hi⟩
section
variable {P : Program} {w : World} {K : PySem.W.Frag} {mg : Str → Option Value} {base : Heap} {a : Ads}
/-! ### _law_taken -/
def spTaken (K : PySem.W.Frag) : Sp := fun vs H Q _ => ∃ (r sc : Addr) (ns : List Int) (many : Int), vs = [.ref r, .int many] ∧ RowAt K H r sc ns ∧ 0 < many ∧ many < 1073741824 ∧ ∀ (n : Int) (H' : Hp), ExB r H H' → RowAt K H' r sc ns → 0 ≤ n → n < many → Q (.int n) H'
theorem scTaken : FnScope ["_law_row", "_law_many", "_law_found", "_law_cell"] ["_law_row", "_law_many"] (defScope s__law_taken) := ⟨rfl, rfl, rfl, by decide +kernel, rfl, by decide +kernel, by decide +kernel⟩
theorem c_taken (T : TX K mg a) : Cal P w K mg base 1 "_law_taken" (spTaken K) [] := by
  refine calF T.d__law_taken (fun _ _ _ _ _ _ us hl => match us, hl with | [_, _], _ => rfl) scTaken (fun vs H Q E h => ?_) fun fa cdv A outer s0 H vs Q E hr h => ?_
  · obtain ⟨r, sc, ns, many, rfl, _⟩ := h
    rfl
  · obtain ⟨r, sc, ns, many, rfl, hR, hm, hm2, k⟩ := h
    have hu := hu_of hr
    refine ⟨_, pss_cons (ps_if (pt_cmpR op_gt (pe_ix ix_list (pv 0) pe_int (fun _ _ => rfl)) pe_int (nomark _))
        (pss_cons (ps_set (i := 2) scTaken.nd rfl (Or.inl rfl) (pe_op op_mod (pe_callTy call_int1 (by rfl) T.f_int (by decide +kernel) (pa_cons (pe_ix ix_list (pv 0) pe_int (fun _ _ => rfl)) pa_nil)) (pv 1)))
        (pss_cons (ps_asg (pe_op op_fdiv (pe_ix ix_list (pv 0) pe_int (fun _ _ => rfl)) (pv 1)) (pg_sub (pv 0) pe_int set_list))
        (pss_one (ps_ret (pv 2))))) pss_nil)
      (pss_cons (ps_asg (pe_op op_add (pe_ix ix_list (pv 0) pe_int (fun _ _ => rfl)) pe_int) (pg_sub (pv 0) pe_int set_list))
      (pss_cons (ps_if (pt_cmpR op_gt (pe_ix ix_list (pv 0) pe_int (fun _ _ => rfl)) (pe_callB call_len_seq (by rfl) T.f_len PySem.boot_len (pa_cons (pe_ix ix_list (pv 0) pe_int (fun _ _ => rfl)) pa_nil)) (nomark _))
        (pss_cons (ps_asg (pe_op op_mod (pe_callTy call_int1 (by rfl) T.f_int (by decide +kernel) (pa_cons (pe_op op_add (pe_op op_mul (pe_ix ix_list (pv 0) pe_int (fun _ _ => rfl)) pe_int) pe_int) pa_nil)) pe_int) (pg_sub (pv 0) pe_int set_list))
        (pss_one (ps_ret (pe_op op_mod (pe_callTy call_int1 (by rfl) T.f_int (by decide +kernel) (pa_cons (pe_op op_fdiv (pe_ix ix_list (pv 0) pe_int (fun _ _ => rfl)) pe_int) pa_nil)) (pv 1))))) pss_nil)
      (pss_cons (ps_set (i := 3) scTaken.nd rfl (Or.inl rfl) (pe_ix ix_list (pe_ix ix_list (pv 0) pe_int (fun _ _ => rfl)) (pe_op op_sub (pe_ix ix_list (pv 0) pe_int (fun _ _ => rfl)) pe_int) (fun _ _ => rfl)))
      (pss_cons (ps_asg (pe_op op_mod (pe_callTy call_int1 (by rfl) T.f_int (by decide +kernel) (pa_cons (pe_op op_add (pe_op op_add (pe_op op_mul (pe_ix ix_list (pv 0) pe_int (fun _ _ => rfl)) pe_int) (pv 3)) pe_int) pa_nil)) pe_int) (pg_sub (pv 0) pe_int set_list))
      (pss_cons (ps_if (pt_cmpR op_ge (pv 3) (pe_op op_pow pe_int pe_int) (nomark _)) (pss_one (ps_asg (pe_op op_fdiv (pv 3) (pv 1)) (pg_sub (pv 0) pe_int set_list))) pss_nil)
      (pss_one (ps_ret (pe_op op_mod (pe_callTy call_int1 (by rfl) T.f_int (by decide +kernel) (pa_cons (pv 3) pa_nil)) (pv 1))))))))), ?_⟩
    have mods : ∀ x : Int, 0 ≤ x % many ∧ x % many < many := fun x => ⟨Int.emod_nonneg _ (by omega), Int.emod_lt_of_pos _ hm⟩
    obtain ⟨i, b, c, h1, h2, h3, h4⟩ := id hR
    refine ⟨_, rfl, r, _, 3, _, rfl, rfl, SqL.of h1, rfl, _, _, rfl, rfl, _, rfl, ?_⟩
    by_cases hc : 0 < c
    · refine iteP hc ?_
      refine ⟨_, rfl, r, _, 3, _, rfl, rfl, SqL.of h1, rfl, .inl ⟨_, rfl, _, rfl, _, _, rfl, rfl, hm, ?_⟩⟩
      refine ⟨_, rfl, r, _, 3, _, rfl, rfl, SqL.of h1, rfl, _, rfl, _, _, rfl, rfl, ⟨hm, hm2⟩, _, rfl, r, _, 3, 3, rfl, rfl, h1, rfl, ?_⟩
      refine ⟨_, rfl, k _ _ ExB.put (hR.put h4) (mods _).1 (mods _).2⟩
    · refine iteN hc ?_
      -- row[1] = row[1] + 1
      refine ⟨_, rfl, r, _, 1, _, rfl, rfl, SqL.of h1, rfl, _, _, rfl, rfl, _, rfl, r, _, 1, 1, rfl, rfl, h1, rfl, ?_⟩
      have hR1 : RowAt K (upd H r (.lst [.ref sc, .int (i + 1), .int b, .int c])) r sc ns := hR.put (by omega)
      have e1 : ExB r H (upd H r (.lst [.ref sc, .int (i + 1), .int b, .int c])) := ExB.put
      have g1 : (upd H r (.lst [.ref sc, .int (i + 1), .int b, .int c])) r = some (.lst [.ref sc, .int (i + 1), .int b, .int c]) := upd_same
      have g2 : SqL K (upd H r (.lst [.ref sc, .int (i + 1), .int b, .int c])) sc (ns.map V.int) := sqL_off ExB.put h3 h2
      refine ⟨_, rfl, r, [.ref sc, .int (i + 1), .int b, .int c], 1, _, rfl, rfl, SqL.of g1, rfl, _, rfl, r, [.ref sc, .int (i + 1), .int b, .int c], 0, _, rfl, rfl, SqL.of g1, rfl, sc, ns.map V.int, rfl, .inl g2, _, _, rfl, rfl, _, rfl, ?_⟩
      by_cases hl : (((ns.map V.int).length : Nat) : Int) < i + 1
      · refine iteP hl ?_
        refine ⟨_, rfl, r, [.ref sc, .int (i + 1), .int b, .int c], 2, _, rfl, rfl, SqL.of g1, rfl, _, _, rfl, rfl, .inr ⟨by decide, by decide⟩, _, _, rfl, rfl, .inl ⟨_, rfl, _, _, rfl, rfl, (by show (0 : Int) < 2147483647; decide), ?_⟩⟩
        have g3 : (upd (upd H r (.lst [.ref sc, .int (i + 1), .int b, .int c])) r (.lst [.ref sc, .int (i + 1), .int ((b * 48271 + 11) % 2147483647), .int c])) r = some (.lst [.ref sc, .int (i + 1), .int ((b * 48271 + 11) % 2147483647), .int c]) := upd_same
        refine ⟨_, rfl, r, [.ref sc, .int (i + 1), .int b, .int c], 2, 2, rfl, rfl, g1, rfl, ?_⟩
        refine ⟨_, rfl, r, [.ref sc, .int (i + 1), .int ((b * 48271 + 11) % 2147483647), .int c], 2, _, rfl, rfl, SqL.of g3, rfl, _, _, rfl, rfl, ⟨by decide, by decide⟩, .inl ⟨_, rfl, _, rfl, _, _, rfl, rfl, hm, ?_⟩⟩
        exact k _ _ (e1.trans ExB.put) (hR1.put (by omega)) (mods _).1 (mods _).2
      · refine iteN hl ?_
        have hix : ∃ cell : Int, atI (ns.map V.int) (i + 1 - 1) = some (.int cell) := by
          have hi : i.toNat < ns.length := by
            rw [List.length_map] at hl
            omega
          refine ⟨ns[i.toNat], ?_⟩
          unfold atI ixN
          rw [if_pos (by omega), if_pos (by rw [List.length_map] at hl ⊢; omega)]
          have e : (i + 1 - 1).toNat = i.toNat := by omega
          rw [e]
          show (ns.map V.int)[i.toNat]? = _
          rw [List.getElem?_map, List.getElem?_eq_getElem hi] <;> rfl
        obtain ⟨cell, hcell⟩ := hix
        refine ⟨_, rfl, r, [.ref sc, .int (i + 1), .int b, .int c], 0, _, rfl, rfl, SqL.of g1, rfl, _, rfl, r, [.ref sc, .int (i + 1), .int b, .int c], 1, _, rfl, rfl, SqL.of g1, rfl, _, _, rfl, rfl, sc, _, _, _, rfl, rfl, g2, hcell, ?_⟩
        refine ⟨_, rfl, r, [.ref sc, .int (i + 1), .int b, .int c], 2, _, rfl, rfl, SqL.of g1, rfl, _, _, rfl, rfl, .inr ⟨by decide, by decide⟩, _, rfl, _, _, rfl, rfl, _, _, rfl, rfl, .inl ⟨_, rfl, _, _, rfl, rfl, (by show (0 : Int) < 2147483647; decide), ?_⟩⟩
        refine ⟨_, rfl, r, [.ref sc, .int (i + 1), .int b, .int c], 2, 2, rfl, rfl, g1, rfl, ?_⟩
        have hR2 : RowAt K (upd (upd H r (.lst [.ref sc, .int (i + 1), .int b, .int c])) r (.lst [.ref sc, .int (i + 1), .int ((b * 48271 + cell + 11) % 2147483647), .int c])) r sc ns := hR1.put (by omega)
        have g3 : (upd (upd H r (.lst [.ref sc, .int (i + 1), .int b, .int c])) r (.lst [.ref sc, .int (i + 1), .int ((b * 48271 + cell + 11) % 2147483647), .int c])) r = some (.lst [.ref sc, .int (i + 1), .int ((b * 48271 + cell + 11) % 2147483647), .int c]) := upd_same
        refine ⟨_, rfl, _, _, rfl, rfl, ⟨by decide, by decide, by decide⟩, _, _, rfl, rfl, _, rfl, ?_⟩
        by_cases hb : (10 : Int) ^ (18 : Int).toNat ≤ cell
        · refine iteP hb ?_
          refine ⟨_, rfl, _, rfl, _, _, rfl, rfl, ⟨hm, hm2⟩, _, rfl, r, [.ref sc, .int (i + 1), .int ((b * 48271 + cell + 11) % 2147483647), .int c], 3, 3, rfl, rfl, g3, rfl, ?_⟩
          refine ⟨_, rfl, .inl ⟨_, rfl, _, rfl, _, _, rfl, rfl, hm, ?_⟩⟩
          exact k _ _ ((e1.trans ExB.put).trans ExB.put) (hR2.put (by omega)) (mods _).1 (mods _).2
        · refine iteN hb ?_
          refine ⟨_, rfl, .inl ⟨_, rfl, _, rfl, _, _, rfl, rfl, hm, ?_⟩⟩
          exact k _ _ (e1.trans ExB.put) hR2 (mods _).1 (mods _).2
end
end Hs
end
section
set_option Elab.async false
set_option linter.all false
set_option maxRecDepth 100000
set_option maxHeartbeats 4000000
namespace Hs
open PySem PySem.Spec PyProof.Rows L2
open C8 (Cal Met Mak InsC pe_c pe_mk pe_mt pe_mt0 pe_gc call_isC)
open LamX (TabB Tabs ExtN TabS)
open PySem.W (AllAlike Sortable dataLe)
open Evl (Ex)
/-! ### what stays but for some lists -/
theorem tabs_exb {T : List (Addr × Str)} {H H' : Hp} {r : Addr} {xs : List V} (e : ExB r H H') (hr : H r = some (.lst xs)) (t : Tabs T H) : Tabs T H' := fun p hp => by
  obtain ⟨ps, h1, h2, h3⟩ := t p hp
  refine ⟨ps, e _ _ h1 (fun z => by rw [z, hr] at h1; cases h1), h2, fun pos cv hc => ?_⟩
  obtain ⟨c, h4, h5⟩ := h3 pos cv hc
  exact ⟨c, h4, e _ _ h5 (fun z => by rw [z, hr] at h5; cases h5)⟩
theorem ExB.mut {r D : Addr} {H H' : Hp} {o : HO} (e : ExB r H H') (h : H D = none) : ExB r H (upd H' D o) := fun b u hb n => by
  rw [upd_ne (ne_of_none hb h)]
  exact e b u hb n
/-- the row's list, whatever the script -/
def RowI (H : Hp) (r sc : Addr) : Prop := ∃ i b c : Int, H r = some (.lst [.ref sc, .int i, .int b, .int c]) ∧ 0 ≤ i
theorem RowAt.i {K : PySem.W.Frag} {H : Hp} {r sc : Addr} {ns : List Int} (h : RowAt K H r sc ns) : RowI H r sc := by
  obtain ⟨i, b, c, h1, _, _, h4⟩ := h
  exact ⟨i, b, c, h1, h4⟩
theorem RowAt.of {K : PySem.W.Frag} {H H' : Hp} {r sc : Addr} {ns : List Int} (h : RowAt K H r sc ns) (e : ExB r H H') (hi : RowI H' r sc) : RowAt K H' r sc ns := by
  obtain ⟨_, _, _, _, h2, h3, _⟩ := h
  obtain ⟨i, b, c, g1, g4⟩ := hi
  exact ⟨i, b, c, g1, sqL_off e h3 h2, h3, g4⟩
theorem RowI.put {H : Hp} {r sc D : Addr} {o : HO} (h : RowI H r sc) (n : r ≠ D) : RowI (upd H D o) r sc := by
  obtain ⟨i, b, c, g1, g4⟩ := h
  exact ⟨i, b, c, by rw [upd_ne n]; exact g1, g4⟩
theorem RowI.ex {H H' : Hp} {r sc : Addr} (e : Ex H H') (h : RowI H r sc) : RowI H' r sc := by
  obtain ⟨i, b, c, g1, g4⟩ := h
  exact ⟨i, b, c, e _ _ g1, g4⟩
theorem RowI.ne {H : Hp} {r sc D : Addr} (h : RowI H r sc) (n : H D = none) : r ≠ D := fun z => by
  obtain ⟨i, b, c, g1, g4⟩ := h
  rw [z, n] at g1
  cases g1
theorem RowI.fz {H H' : Hp} {r sc : Addr} (h : RowI H r sc) (e : ExB r H H') : Fz H H' := by
  obtain ⟨i, b, c, g1, g4⟩ := h
  exact e.fz g1 rfl
theorem ExB.id {r : Addr} {H : Hp} : ExB r H H := ExB.rfl'
/-- a comprehension that draws: the list at D and the row are written, all else stays -/
structure DrawI (H H' : Hp) (r sc D : Addr) : Prop where
  ex : ExB r H H'
  row : RowI H' r sc
  nD : r ≠ D
theorem DrawI.start {H : Hp} {r sc D : Addr} {o : HO} (h : RowI H r sc) (hD : H D = none) : DrawI H (upd H D o) r sc D := ⟨ExB.ex (Ex.new hD), h.ex (Ex.new hD), h.ne hD⟩
/-- behind a draw -/
theorem DrawI.step {H H' H'' : Hp} {r sc D : Addr} (d : DrawI H H' r sc D) (e : ExB r H' H'') (hi : RowI H'' r sc) : DrawI H H'' r sc D := ⟨d.ex.trans e, hi, d.nD⟩
theorem DrawI.put {H H' : Hp} {r sc D : Addr} {o : HO} (d : DrawI H H' r sc D) (hD : H D = none) : DrawI H (upd H' D o) r sc D := ⟨d.ex.mut hD, d.row.put d.nD, d.nD⟩
theorem DrawI.new {H H' H'' : Hp} {r sc D : Addr} (d : DrawI H H' r sc D) (e : Ex H' H'') : DrawI H H'' r sc D := ⟨d.ex.trans (ExB.ex e), d.row.ex e, d.nD⟩
/-- all stays but for some addresses -/
def ExM (M : Addr → Prop) (H H' : Hp) : Prop := ∀ b o, H b = some o → ¬ M b → H' b = some o
theorem ExM.id {M : Addr → Prop} {H : Hp} : ExM M H H := fun _ _ h _ => h
theorem ExM.trans {M : Addr → Prop} {H H1 H2 : Hp} (a : ExM M H H1) (b : ExM M H1 H2) : ExM M H H2 := fun x o h n => b x o (a x o h n) n
theorem ExM.exb {M : Addr → Prop} {r : Addr} {H H1 : Hp} (a : ExB r H H1) (hr : M r) : ExM M H H1 := fun x o h n => a x o h fun z => n (by rw [z]; exact hr)
theorem ExM.ex {M : Addr → Prop} {H H1 : Hp} (a : Ex H H1) : ExM M H H1 := fun x o h _ => a x o h
theorem ExM.put {M : Addr → Prop} {D : Addr} {o : HO} {H : Hp} (hD : M D) : ExM M H (upd H D o) := fun x u h n => by
  rw [upd_ne (fun z => n (by rw [z]; exact hD))]
  exact h
theorem EdsAt.app {K : PySem.W.Frag} {a : Ads} {H : Hp} : ∀ {es es' : List Addr} {eds eds' : List Ed}, EdsAt K a H es eds → EdsAt K a H es' eds' → EdsAt K a H (es ++ es') (eds ++ eds')
  | _, _, _, _, .nil, h => h
  | _, _, _, _, .cons h t, h' => .cons h (EdsAt.app t h')
section
variable {P : Program} {w : World} {K : PySem.W.Frag} {mg : Str → Option Value} {base : Heap} {a : Ads}
/-! ### _law_store -/
def spLawStore (K : PySem.W.Frag) (a : Ads) : Sp := fun vs H Q _ => ∃ (r sc : Addr) (ns : List Int), vs = [.ref r, .int 1] ∧ RowAt K H r sc ns ∧ ∀ (st : Addr) (eds : List Ed) (H' : Hp), ExB r H H' → RowAt K H' r sc ns → StoreAt K a H' st eds → EdsOk eds → (∀ ed ∈ eds, EdDat ed) → Q (.ref st) H'
abbrev NLs : List Str := ["_law_row", "_law_most", "_law_names", "_law_found", "_law_name", "_law_others", "_law_number", "_law_own", "_law_wants", "_law_asks", "_law_shuns", "_law_other", "_law_word"]
theorem scLawStore : FnScope NLs ["_law_row", "_law_most"] (defScope s__law_store) := ⟨rfl, rfl, rfl, by decide +kernel, rfl, by decide +kernel, by decide +kernel⟩
theorem c_law_store (T : TX K mg a) : Cal P w K mg base 5 "_law_store" (spLawStore K a) [] := by
  refine calF T.d__law_store (fun _ _ _ _ _ _ us hl => match us, hl with | [_, _], _ => rfl) scLawStore (fun vs H Q E h => ?_) fun fa cdv A outer s0 H vs Q E hr h => ?_
  · obtain ⟨r, sc, ns, rfl, _⟩ := h
    rfl
  · obtain ⟨r, sc, ns, rfl, hR, k⟩ := h
    have hu := hu_of hr
    have hTk := c_taken (P := P) (w := w) (base := base) T
    have hEd := k_ed (P := P) (w := w) (base := base) T
    have hSt := k_st (P := P) (w := w) (base := base) T
    refine ⟨_, pss_cons (ps_par (i := 2) (j := 3) rfl scLawStore.nd rfl rfl (by decide) rfl rfl (pa_cons (pe_slice sl_list (pe_lst (pa_cons pe_str (pa_cons pe_str (pa_cons pe_str pa_nil)))) po_none (po_some (pe_op op_add pe_int (pe_cc hTk hr (pa_cons (pv 0) (pa_cons (pv 1) pa_nil)))))) (pa_cons (pe_lst pa_nil) pa_nil)) rfl)
      (pss_cons (ps_for PassesOwn.never rfl (pi_list (pv 2)) (pg_name (i := 4) scLawStore.nd rfl (Or.inr rfl))
        (pss_cons (ps_setLc (i := 5) (own := [("_law_other", 11)]) (g := gName 11) rfl scLawStore.nd rfl rfl (sw_true rfl rfl rfl (by decide +kernel)) (pi_list (pe_op op_cat (pv 2) (pe_lst (pa_cons pe_str pa_nil)))) (blkOk_by (N := NLs) (sc := defScope s__law_store) (by decide +kernel))
          (fun _ _ _ _ _ => pg_name (i := 11) scLawStore.nd rfl (Or.inl rfl)) (fun _ _ _ _ _ => pts_one (pt_cmpR op_ne (pv 11) (pv 4) (nomark _))) (fun _ _ _ _ _ => pv 11))
        (pss_one (ps_for PassesOwn.never rfl (pi_list (pe_ix ix_list (pe_lst (pa_cons (pe_lst (pa_cons pe_int pa_nil)) (pa_cons (pe_lst (pa_cons pe_int pa_nil)) (pa_cons (pe_lst (pa_cons pe_int (pa_cons pe_int pa_nil))) (pa_cons (pe_lst (pa_cons pe_int (pa_cons pe_int pa_nil))) pa_nil))))) (pe_cc hTk hr (pa_cons (pv 0) (pa_cons pe_int pa_nil))) (fun _ _ => rfl))) (pg_name (i := 6) scLawStore.nd rfl (Or.inl rfl))
          (pss_cons (ps_set (i := 7) scLawStore.nd rfl (Or.inl rfl) (pe_callTy call_tuple_of (by rfl) T.f_tuple (by decide +kernel) (pa_cons (pe_lc (own := [("_law_word", 12)]) (g := gName 12) rfl scLawStore.nd (pi_tup (pe_tup (pa_cons pe_str (pa_cons pe_str (pa_cons pe_str (pa_cons pe_str pa_nil)))))) (blkOk_by (N := NLs) (sc := defScope s__law_store) (by decide +kernel))
            (fun _ _ _ _ _ => pg_name (i := 12) scLawStore.nd rfl (Or.inl rfl)) (fun _ _ _ _ _ => pts_one (pt_cmpR op_gt (pe_cc hTk hr (pa_cons (pv 0) (pa_cons pe_int pa_nil))) pe_int (nomark _))) (fun _ _ _ _ _ => pv 12)) pa_nil)))
          (pss_cons (ps_set (i := 8) scLawStore.nd rfl (Or.inl rfl) (pe_callTy call_tuple_of (by rfl) T.f_tuple (by decide +kernel) (pa_cons (pe_lc (own := [("_law_other", 11)]) (g := gName 11) rfl scLawStore.nd (pi_list (pv 5)) (blkOk_by (N := NLs) (sc := defScope s__law_store) (by decide +kernel))
            (fun _ _ _ _ _ => pg_name (i := 11) scLawStore.nd rfl (Or.inl rfl)) (fun _ _ _ _ _ => pts_one (pt_cmpR op_eq (pe_cc hTk hr (pa_cons (pv 0) (pa_cons pe_int pa_nil))) pe_int (nomark _))) (fun _ _ _ _ _ => pe_tup (pa_cons (pv 11) (pa_cons (pe_op op_add pe_int (pe_cc hTk hr (pa_cons (pv 0) (pa_cons pe_int pa_nil)))) pa_nil)))) pa_nil)))
          (pss_cons (ps_set (i := 9) scLawStore.nd rfl (Or.inl rfl) (pe_callTy call_tuple_of (by rfl) T.f_tuple (by decide +kernel) (pa_cons (pe_lc (own := [("_law_other", 11)]) (g := gName 11) rfl scLawStore.nd (pi_list (pv 5)) (blkOk_by (N := NLs) (sc := defScope s__law_store) (by decide +kernel))
            (fun _ _ _ _ _ => pg_name (i := 11) scLawStore.nd rfl (Or.inl rfl)) (fun _ _ _ _ _ => pts_one (pt_cmpR op_eq (pe_cc hTk hr (pa_cons (pv 0) (pa_cons pe_int pa_nil))) pe_int (nomark _))) (fun _ _ _ _ _ => pe_tup (pa_cons (pv 11) (pa_cons pe_int pa_nil)))) pa_nil)))
          (pss_cons (ps_set (i := 10) scLawStore.nd rfl (Or.inl rfl) (pe_callTy call_tuple_of (by rfl) T.f_tuple (by decide +kernel) (pa_cons (pe_lc (own := [("_law_other", 11)]) (g := gName 11) rfl scLawStore.nd (pi_list (pv 5)) (blkOk_by (N := NLs) (sc := defScope s__law_store) (by decide +kernel))
            (fun _ _ _ _ _ => pg_name (i := 11) scLawStore.nd rfl (Or.inl rfl)) (fun _ _ _ _ _ => pts_one (pt_cmpR op_eq (pe_cc hTk hr (pa_cons (pv 0) (pa_cons pe_int pa_nil))) pe_int (nomark _))) (fun _ _ _ _ _ => pv 11)) pa_nil)))
          (pss_one (ps_expr (pe_bm PySem.F.plainAttrs_list PySem.F.slot_list_append PySem.F.type_list_append mt_append (pv 3) (pa_cons (pe_mkK hEd hr (by decide) (by rfl) (pa_cons (pv 4) (pa_cons (pv 6) pa_nil)) (pk_cons (pv 7) (pk_cons (pv 8) (pk_cons (pv 9) (pk_cons (pv 10) pk_nil))))) pa_nil))))))))))))
      (pss_one (ps_ret (pe_mk hSt hr (by decide) rfl (pa_cons (pe_callTy call_tuple_of (by rfl) T.f_tuple (by decide +kernel) (pa_cons (pv 3) pa_nil)) pa_nil))))), ?_⟩
    -- the names
    refine ⟨(by show 3 ≤ sizeLine; decide), fun l0 hl0 => ?_⟩
    have e1 : Ex H (upd H l0 (.lst [.str "app", .str "db", .str "lib"])) := Ex.new hl0
    have g1 : (upd H l0 (.lst [.str "app", .str "db", .str "lib"])) l0 = some (.lst [.str "app", .str "db", .str "lib"]) := upd_same
    generalize upd H l0 (.lst [.str "app", .str "db", .str "lib"]) = H1 at e1 g1 ⊢
    have hR1 := hR.ex e1
    have n1 : l0 ≠ r := fun z => (hR.i.ne hl0) z.symm
    refine ⟨_, rfl, _, rfl, r, sc, ns, 1, rfl, hR1, by decide, by decide, fun n H2 e2 hR2 h0 hn1 => ?_⟩
    obtain rfl : n = 0 := by omega
    have g2 := e2 _ _ g1 n1
    refine ⟨_, _, rfl, rfl, _, rfl, l0, _, rfl, SqL.of g2, fun N hN => ?_⟩
    have hcut : cutV ([.str "app", .str "db", .str "lib"] : List V) none (some (1 + 0)) = [.str app] := by rfl
    have e3 : Ex H2 (upd H2 N (.lst (cutV ([.str "app", .str "db", .str "lib"] : List V) none (some (1 + 0))))) := Ex.new hN
    have g3 : (upd H2 N (.lst (cutV ([.str "app", .str "db", .str "lib"] : List V) none (some (1 + 0))))) N = some (.lst [.str app]) := by rw [upd_same, hcut]
    have hN3 : N ≠ r := fun z => (hR2.i.ne hN) z.symm
    refine ⟨(by show 0 ≤ sizeLine; decide), fun F hF => ?_⟩
    generalize upd H2 N (.lst (cutV ([.str "app", .str "db", .str "lib"] : List V) none (some (1 + 0)))) = H3 at e3 g3 hF ⊢
    have hR3 := hR2.ex e3
    have nFr : r ≠ F := hR3.i.ne hF
    have e4 : Ex H3 (upd H3 F (.lst [])) := Ex.new hF
    have g4 : (upd H3 F (.lst [])) N = some (.lst [.str app]) := e4 _ _ g3
    have gF4 : (upd H3 F (.lst [])) F = some (.lst []) := upd_same
    have nNF : N ≠ F := fun z => by rw [z, hF] at g3; cases g3
    have hHF : ∀ b o, H b = some o → b ≠ r → b ≠ F := fun b o h n z => by
      have := e3 _ _ (e2 _ _ (e1 _ _ h) n)
      rw [z, hF] at this
      cases this
    have e04 : ExB r H (upd H3 F (.lst [])) := ((ExB.ex e1).trans e2).trans (ExB.ex (e3.trans e4))
    have hR4 := hR3.ex e4
    generalize upd H3 F (.lst []) = H4 at e4 g4 gF4 e04 hR4 ⊢
    have hMk : ∀ H', ExM (fun b => b = r ∨ b = F) H4 H' → RowI H' r sc → RowAt K H' r sc ns := fun H' e hi => by
      obtain ⟨_, _, _, _, h2, h3, _⟩ := hR
      obtain ⟨i, b, c, q1, q4⟩ := hi
      refine ⟨i, b, c, q1, ?_, h3, q4⟩
      rcases h3 with h3 | h3
      rotate_left
      · exact h3 _
      rcases h2 with (h | ⟨u, h⟩) | h
      · exact .inl (.inl (e _ _ (e04 _ _ h h3) (fun z => z.elim h3 (hHF _ _ h h3))))
      · exact .inl (.inr ⟨u, e _ _ (e04 _ _ h h3) (fun z => z.elim h3 (hHF _ _ h h3))⟩)
      · exact .inr h
    refine ⟨_, _, rfl, ?_⟩
    -- for name in names
    refine ⟨_, rfl, N, rfl, ⟨_, SqL.of g4⟩, for_it (walk_list (xs := [.str app])) (fun i σ H' => ∃ v4 v5 v6 v7 v8 v9 v10, σ = [some (.ref r), some (.int 1), some (.ref N), some (.ref F), v4, v5, v6, v7, v8, v9, v10, none, none] ∧ ExM (fun b => b = r ∨ b = F) H4 H' ∧ RowI H' r sc ∧ ∃ (es : List Addr) (eds : List Ed), H' F = some (.lst (es.map V.ref)) ∧ EdsAt K a H' es eds ∧ (i = 0 → eds = []) ∧ (i = 1 → EdsOk eds ∧ ∀ ed ∈ eds, EdDat ed))
      ⟨_, _, _, _, _, _, _, rfl, ExM.id, hR4.i, [], [], gF4, .nil, fun _ => rfl, fun z => (by cases z)⟩ (fun i σ H' _ ⟨_, _, _, _, _, _, _, _, e, _⟩ => SqL.of (e _ _ g4 (fun z => z.elim hN3 nNF))) ?_ ?_⟩
    · rintro i z σ H5 H6 hi ⟨v4, v5, v6, v7, v8, v9, v10, rfl, e5, hI5, es, eds, hF5, hes, hz0, _⟩ ⟨rfl, hz⟩
      have hi0 : i = 0 := by
        simp only [List.length_cons, List.length_nil] at hi
        omega
      subst hi0
      obtain rfl : V.str app = z := Option.some.inj hz
      obtain rfl : eds = [] := hz0 rfl
      have hes0 : es = [] := List.eq_nil_of_length_eq_zero hes.len
      subst hes0
      have g5 := e5 _ _ g4 (fun z => z.elim hN3 nNF)
      have hR5 : RowAt K H6 r sc ns := hMk _ e5 hI5
      -- others
      refine ⟨_, rfl, (by show 1 ≤ sizeLine; decide), fun l1 hl1 => ?_⟩
      have e6 : Ex H6 (upd H6 l1 (.lst [.str web])) := Ex.new hl1
      have g6 : (upd H6 l1 (.lst [.str web])) l1 = some (.lst [.str web]) := upd_same
      generalize upd H6 l1 (.lst [.str web]) = H7 at e6 g6 ⊢
      refine ⟨N, l1, _, _, rfl, rfl, e6 _ _ g5, g6, (by show 2 ≤ sizeLine; decide), fun l2 hl2 => ?_⟩
      have e7 : Ex H6 (upd H7 l2 (.lst ([.str app] ++ [.str web]))) := e6.trans (Ex.new hl2)
      have g7 : (upd H7 l2 (.lst ([.str app] ++ [.str web]))) l2 = some (.lst [.str app, .str web]) := upd_same
      generalize upd H7 l2 (.lst ([.str app] ++ [.str web])) = H8 at e7 g7 ⊢
      refine ⟨l2, rfl, ⟨_, SqL.of g7⟩, fun O hO => lc_list (xs := [.str app, .str web]) (fun j H' => Ex H8 H' ∧ H' O = some (.lst (if j ≤ 1 then [] else [.str web]))) ⟨Ex.new hO, upd_same⟩ (fun j H' _ q => SqL.of (q.1 _ _ g7)) ?_ ?_⟩
      · rintro j v H' hv ⟨e8, hd⟩
        refine ⟨rfl, ?_⟩
        match j, hv with
        | 0, hv =>
          obtain rfl : V.str app = v := Option.some.inj hv
          refine ⟨_, rfl, _, rfl, rfl, _, rfl, ?_⟩
          rw [decide_eq_true rfl]
          exact iteF ⟨e8, hd⟩
        | 1, hv =>
          obtain rfl : V.str web = v := Option.some.inj hv
          refine ⟨_, rfl, _, rfl, rfl, _, rfl, ?_⟩
          refine iteNN (fun z => app_web (by injection z with z; exact z.symm)) ?_
          exact ⟨_, rfl, _, hd, by show 0 < sizeLine; decide, e8.mut hO, upd_same⟩
        | j + 2, hv => simp at hv
      rintro H9 ⟨e8, hO9⟩
      have hO9' : H9 O = some (.lst [.str web]) := hO9
      have e9 := e7.trans e8
      -- the numbers
      refine ⟨(by show 1 ≤ sizeLine; decide), fun a1 ha1 => ⟨(by show 1 ≤ sizeLine; decide), fun a2 ha2 => ⟨(by show 2 ≤ sizeLine; decide), fun a3 ha3 => ⟨(by show 2 ≤ sizeLine; decide), fun a4 ha4 => ⟨(by show 4 ≤ sizeLine; decide), fun La hLa => ?_⟩⟩⟩⟩⟩
      have eA : Ex H9 (upd (upd (upd (upd (upd H9 a1 (.lst [.int 1])) a2 (.lst [.int 2])) a3 (.lst [.int 1, .int 2])) a4 (.lst [.int 1, .int 3])) La (.lst [.ref a1, .ref a2, .ref a3, .ref a4])) := ((((Ex.new ha1).trans (Ex.new ha2)).trans (Ex.new ha3)).trans (Ex.new ha4)).trans (Ex.new hLa)
      have q1 : (upd (upd (upd (upd (upd H9 a1 (.lst [.int 1])) a2 (.lst [.int 2])) a3 (.lst [.int 1, .int 2])) a4 (.lst [.int 1, .int 3])) La (.lst [.ref a1, .ref a2, .ref a3, .ref a4])) a1 = some (.lst (([1] : List Int).map V.int)) := ((((Ex.new ha2).trans (Ex.new ha3)).trans (Ex.new ha4)).trans (Ex.new hLa)) _ _ upd_same
      have q2 : (upd (upd (upd (upd (upd H9 a1 (.lst [.int 1])) a2 (.lst [.int 2])) a3 (.lst [.int 1, .int 2])) a4 (.lst [.int 1, .int 3])) La (.lst [.ref a1, .ref a2, .ref a3, .ref a4])) a2 = some (.lst (([2] : List Int).map V.int)) := (((Ex.new ha3).trans (Ex.new ha4)).trans (Ex.new hLa)) _ _ upd_same
      have q3 : (upd (upd (upd (upd (upd H9 a1 (.lst [.int 1])) a2 (.lst [.int 2])) a3 (.lst [.int 1, .int 2])) a4 (.lst [.int 1, .int 3])) La (.lst [.ref a1, .ref a2, .ref a3, .ref a4])) a3 = some (.lst (([1, 2] : List Int).map V.int)) := ((Ex.new ha4).trans (Ex.new hLa)) _ _ upd_same
      have q4 : (upd (upd (upd (upd (upd H9 a1 (.lst [.int 1])) a2 (.lst [.int 2])) a3 (.lst [.int 1, .int 2])) a4 (.lst [.int 1, .int 3])) La (.lst [.ref a1, .ref a2, .ref a3, .ref a4])) a4 = some (.lst (([1, 3] : List Int).map V.int)) := (Ex.new hLa) _ _ upd_same
      have q5 : (upd (upd (upd (upd (upd H9 a1 (.lst [.int 1])) a2 (.lst [.int 2])) a3 (.lst [.int 1, .int 2])) a4 (.lst [.int 1, .int 3])) La (.lst [.ref a1, .ref a2, .ref a3, .ref a4])) La = some (.lst [.ref a1, .ref a2, .ref a3, .ref a4]) := upd_same
      generalize upd (upd (upd (upd (upd H9 a1 (.lst [.int 1])) a2 (.lst [.int 2])) a3 (.lst [.int 1, .int 2])) a4 (.lst [.int 1, .int 3])) La (.lst [.ref a1, .ref a2, .ref a3, .ref a4]) = HA at eA q1 q2 q3 q4 q5 ⊢
      have e9A := e9.trans eA
      have hRA := hR5.ex e9A
      have nRr : ∀ b o, HA b = some o → (∀ x y z w, o ≠ .lst [x, y, z, w]) → b ≠ r := fun b o h n z => by
        obtain ⟨i, b', c, g, _⟩ := hRA.i
        rw [z, g] at h
        exact n _ _ _ _ (Option.some.inj h).symm
      have nLa : La ≠ r := fun z => by
        obtain ⟨i, b', c, g, _⟩ := hRA.i
        rw [z, g] at q5
        injection q5 with q5
        injection q5 with q5
        injection q5 with _ q5
        injection q5 with q5 _
        cases q5
      refine ⟨_, rfl, r, sc, ns, 4, rfl, hRA, by decide, by decide, fun n HB eB hRB hn0 hn4 => ?_⟩
      have hpick : ∃ (Ln : Addr) (vs : List Int), atI ([.ref a1, .ref a2, .ref a3, .ref a4] : List V) n = some (.ref Ln) ∧ HA Ln = some (.lst (vs.map V.int)) ∧ vs.length ≤ 2 ∧ vs ≠ [] ∧ vs.Nodup ∧ ∀ v ∈ vs, 1 ≤ v ∧ v ≤ 99 := by
        have h4 : n = 0 ∨ n = 1 ∨ n = 2 ∨ n = 3 := by omega
        rcases h4 with rfl | rfl | rfl | rfl
        · exact ⟨a1, [1], rfl, q1, by decide, by decide, by decide, by decide⟩
        · exact ⟨a2, [2], rfl, q2, by decide, by decide, by decide, by decide⟩
        · exact ⟨a3, [1, 2], rfl, q3, by decide, by decide, by decide, by decide⟩
        · exact ⟨a4, [1, 3], rfl, q4, by decide, by decide, by decide, by decide⟩
      obtain ⟨Ln, nums, hat, hLn, hv2, hv0, hvnd, hv99⟩ := hpick
      have nLr : Ln ≠ r := nRr _ _ hLn fun x y z w e => by
        injection e with e
        have := congrArg List.length e
        rw [List.length_map] at this
        simp only [List.length_cons, List.length_nil] at this
        omega
      have hLnB := eB _ _ hLn nLr
      have nOr : O ≠ r := nRr _ _ (eA _ _ hO9') fun x y z w e => by cases e
      have hOB := eB _ _ (eA _ _ hO9') nOr
      have hFB : HB F = some (.lst []) := eB _ _ (e9A _ _ hF5) nFr.symm
      have nLF : Ln ≠ F := fun z => by
        have := e9A _ _ hF5
        rw [z, this] at hLn
        injection hLn with hLn
        injection hLn with hLn
        exact hv0 (List.map_eq_nil_iff.mp hLn.symm)
      have nOF : O ≠ F := fun z => by
        have := eA _ _ hO9'
        rw [z, e9A _ _ hF5] at this
        cases this
      have e5B : ExM (fun b => b = r ∨ b = F) H4 HB := e5.trans ((ExM.ex e9A).trans (ExM.exb eB (.inl rfl)))
      refine ⟨La, _, n, _, rfl, rfl, SqL.of (eB _ _ q5 nLa), hat, Ln, rfl, ⟨_, SqL.of hLnB⟩, for_it (walk_list (xs := nums.map V.int)) (fun j σ H' => ∃ v6 v7 v8 v9 v10, σ = [some (.ref r), some (.int 1), some (.ref N), some (.ref F), some (.str app), some (.ref O), v6, v7, v8, v9, v10, none, none] ∧ ExM (fun b => b = r ∨ b = F) HB H' ∧ RowI H' r sc ∧ ∃ (es : List Addr) (eds : List Ed), H' F = some (.lst (es.map V.ref)) ∧ EdsAt K a H' es eds ∧ vers eds = nums.take j ∧ ∀ ed ∈ eds, EdDat ed)
        ⟨_, _, _, _, _, rfl, ExM.id, hRB.i, [], [], hFB, .nil, rfl, fun _ h => (by cases h)⟩ (fun j σ H' _ ⟨_, _, _, _, _, _, e, _⟩ => SqL.of (e _ _ hLnB (fun z => z.elim nLr nLF))) ?_ ?_⟩
      · rintro j v σ HC Hj hj ⟨v6, v7, v8, v9, v10, rfl, eC, hIC, es, eds, hFC, hes, hvers, hdat⟩ ⟨rfl, hv⟩
        have hRC : RowAt K Hj r sc ns := hMk _ (e5B.trans eC) hIC
        have hOC := eC _ _ hOB (fun z => z.elim nOr nOF)
        obtain ⟨ver, rfl, hver, hvm⟩ : ∃ ver : Int, v = .int ver ∧ nums[j]? = some ver ∧ ver ∈ nums := by
          rw [List.getElem?_map] at hv
          cases hvv : nums[j]? with
          | none => rw [hvv] at hv; cases hv
          | some u =>
            rw [hvv] at hv
            exact ⟨u, (Option.some.inj hv).symm, rfl, List.mem_of_getElem? hvv⟩
        -- own
        refine ⟨(by show 4 ≤ sizeLine; decide), fun tw htw => ?_⟩
        have eW : Ex Hj (upd Hj tw (.tup [.str "clean", .str "enter", .str "leave", .str "setup"])) := Ex.new htw
        have gW : (upd Hj tw (.tup [.str "clean", .str "enter", .str "leave", .str "setup"])) tw = some (.tup (allWds.map fun x : Wd => V.str x.txt)) := upd_same
        generalize upd Hj tw (.tup [.str "clean", .str "enter", .str "leave", .str "setup"]) = Ha at eW gW ⊢
        have hRa := hRC.ex eW
        have hIa := hRa.i
        refine ⟨tw, rfl, ⟨_, .inl (.inl gW)⟩, fun D hD => lc_tup (xs := allWds.map fun x : Wd => V.str x.txt) (fun i H' => DrawI Ha H' r sc D ∧ ∃ ws : List Wd, H' D = some (.lst (ws.map fun x : Wd => V.str x.txt)) ∧ ws.Sublist (allWds.take i)) ⟨DrawI.start hIa hD, [], upd_same, List.nil_sublist _⟩ (fun i H' _ q => fz_t (hIa.fz q.1.ex) (.inl (.inl gW))) ?_ ?_⟩
        · rintro i v H' hv ⟨dr, ws, hd, hws⟩
          rw [List.getElem?_map] at hv
          cases hvv : allWds[i]? with
          | none => rw [hvv] at hv; cases hv
          | some u =>
            rw [hvv] at hv
            obtain rfl : V.str u.txt = v := Option.some.inj hv
            refine ⟨rfl, ?_⟩
            refine ⟨_, rfl, r, sc, ns, 4, rfl, hRa.of dr.ex dr.row, by decide, by decide, fun n H'' eD hRD hn0 hn4 => ?_⟩
            have hd2 := eD _ _ hd dr.nD.symm
            have dr2 := dr.step eD hRD.i
            have htk : allWds.take (i + 1) = allWds.take i ++ [u] := by rw [List.take_succ, hvv] <;> rfl
            refine ⟨_, _, rfl, rfl, _, rfl, ?_⟩
            by_cases hn : 0 < n
            · refine iteP hn ⟨_, rfl, _, hd2, ?_, dr2.put hD, ws ++ [u], ?_, ?_⟩
              · have := hws.length_le
                rw [List.length_take] at this
                have : allWds.length = 4 := rfl
                rw [List.length_map, sizeLine_eq]
                omega
              · rw [upd_same, List.map_append] <;> rfl
              · rw [htk]
                exact hws.append (List.Sublist.refl _)
            · refine iteN hn ⟨dr2, ws, hd2, ?_⟩
              rw [htk]
              exact hws.trans (List.sublist_append_left _ _)
        rintro H1' ⟨dr1, ws, hd1, hws⟩
        refine ⟨D, _, rfl, .inl ⟨SqL.of hd1, fun t1 ht1 => ?_⟩⟩
        have hws' : ws.Sublist allWds := hws.trans (List.take_sublist _ _)
        have exb : ExB r Ha (upd H1' t1 (.tup (ws.map fun x : Wd => V.str x.txt))) := dr1.ex.trans (ExB.ex (Ex.new ht1))
        have hIb := dr1.row.ex (Ex.new (o := .tup (ws.map fun x : Wd => V.str x.txt)) ht1)
        have gh : (upd H1' t1 (.tup (ws.map fun x : Wd => V.str x.txt))) t1 = some (.tup (ws.map fun x : Wd => V.str x.txt)) := upd_same
        generalize upd H1' t1 (.tup (ws.map fun x : Wd => V.str x.txt)) = Hb at exb hIb gh ⊢
        have hRb := hRa.of exb hIb
        have hOb := exb _ _ (eW _ _ hOC) nOr
        -- wants
        refine ⟨_, rfl, O, rfl, ⟨_, SqL.of hOb⟩, fun D2 hD2 => lc_list (xs := [.str web]) (fun i H' => DrawI Hb H' r sc D2 ∧ ∃ (ts : List Addr) (ls : List Int), H' D2 = some (.lst (ts.map V.ref)) ∧ NdsAt K H' ts ls ∧ ls.length ≤ i ∧ ∀ l ∈ ls, 1 ≤ l ∧ l ≤ 99) ⟨DrawI.start hIb hD2, [], [], upd_same, .nil, Nat.le_refl _, fun _ h => (by cases h)⟩ (fun i H' _ q => SqL.of (q.1.ex _ _ hOb nOr)) ?_ ?_⟩
        · rintro i v H' hv ⟨dr, ts, ls, hd, hnd, hll, hl99⟩
          have hi0 : i = 0 := by
            have := (List.getElem?_eq_some_iff.mp hv).1
            simp only [List.length_cons, List.length_nil] at this
            omega
          subst hi0
          obtain rfl : V.str web = v := Option.some.inj hv
          obtain rfl : ls = [] := List.eq_nil_of_length_eq_zero (by omega)
          obtain rfl : ts = [] := List.eq_nil_of_length_eq_zero hnd.len
          refine ⟨rfl, ?_⟩
          refine ⟨_, rfl, r, sc, ns, 4, rfl, hRb.of dr.ex dr.row, by decide, by decide, fun n H'' eD hRD hn0 hn4 => ?_⟩
          have hd2 := eD _ _ hd dr.nD.symm
          have dr2 := dr.step eD hRD.i
          refine ⟨rfl, _, rfl, ?_⟩
          by_cases hn : V.int n = V.int 0
          · refine iteP hn ?_
            refine ⟨_, rfl, _, rfl, r, sc, ns, 2, rfl, hRD, by decide, by decide, fun m H3' eD3 hRD3 hm0 hm2 => ?_⟩
            have hd3 := eD3 _ _ hd2 dr.nD.symm
            have dr3 := dr2.step eD3 hRD3.i
            refine ⟨_, _, rfl, rfl, (by show 2 ≤ sizeLine; decide), fun t ht => ⟨_, Ex.new ht _ _ hd3, (by show 0 < sizeLine; decide), (dr3.new (Ex.new ht)).put hD2, [t], [1 + m], upd_same, .cons (.inl (.inl ?_)) .nil, Nat.le_refl _, fun l hl => ?_⟩⟩
            · rw [upd_ne (ne_of_none hd3 ht).symm, upd_same]
            · rw [List.mem_singleton.mp hl]
              omega
          · exact iteN hn ⟨dr2, [], [], hd2, .nil, Nat.zero_le _, fun _ h => (by cases h)⟩
        rintro H2' ⟨dr2, ts, wls, hd2, hnd, hwl, hw99⟩
        refine ⟨D2, _, rfl, .inl ⟨SqL.of hd2, fun t2 ht2 => ?_⟩⟩
        have exc : ExB r Hb (upd H2' t2 (.tup (ts.map V.ref))) := dr2.ex.trans (ExB.ex (Ex.new ht2))
        have hIc := dr2.row.ex (Ex.new (o := .tup (ts.map V.ref)) ht2)
        have gw : (upd H2' t2 (.tup (ts.map V.ref))) t2 = some (.tup (ts.map V.ref)) := upd_same
        have gwn : NdsAt K (upd H2' t2 (.tup (ts.map V.ref))) ts wls := hnd.fz (Fz.new ht2)
        generalize upd H2' t2 (.tup (ts.map V.ref)) = Hc at exc hIc gw gwn ⊢
        have hRc := hRb.of exc hIc
        have hOc := exc _ _ hOb nOr
        -- asks
        refine ⟨_, rfl, O, rfl, ⟨_, SqL.of hOc⟩, fun D3 hD3 => lc_list (xs := [.str web]) (fun i H' => DrawI Hc H' r sc D3 ∧ ∃ (ts : List Addr) (ls : List Int), H' D3 = some (.lst (ts.map V.ref)) ∧ NdsAt K H' ts ls ∧ ls.length ≤ i ∧ ∀ l ∈ ls, 1 ≤ l ∧ l ≤ 99) ⟨DrawI.start hIc hD3, [], [], upd_same, .nil, Nat.le_refl _, fun _ h => (by cases h)⟩ (fun i H' _ q => SqL.of (q.1.ex _ _ hOc nOr)) ?_ ?_⟩
        · rintro i v H' hv ⟨dr, ts, ls, hd, hnd, hll, hl99⟩
          have hi0 : i = 0 := by
            have := (List.getElem?_eq_some_iff.mp hv).1
            simp only [List.length_cons, List.length_nil] at this
            omega
          subst hi0
          obtain rfl : V.str web = v := Option.some.inj hv
          obtain rfl : ls = [] := List.eq_nil_of_length_eq_zero (by omega)
          obtain rfl : ts = [] := List.eq_nil_of_length_eq_zero hnd.len
          refine ⟨rfl, ?_⟩
          refine ⟨_, rfl, r, sc, ns, 9, rfl, hRc.of dr.ex dr.row, by decide, by decide, fun n H'' eD hRD hn0 hn4 => ?_⟩
          have hd2 := eD _ _ hd dr.nD.symm
          have dr2 := dr.step eD hRD.i
          refine ⟨rfl, _, rfl, ?_⟩
          by_cases hn : V.int n = V.int 0
          · refine iteP hn ?_
            refine ⟨_, rfl, (by show 2 ≤ sizeLine; decide), fun t ht => ⟨_, Ex.new ht _ _ hd2, (by show 0 < sizeLine; decide), (dr2.new (Ex.new ht)).put hD3, [t], [1], upd_same, .cons (.inl (.inl ?_)) .nil, Nat.le_refl _, fun l hl => ?_⟩⟩
            · rw [upd_ne (ne_of_none hd2 ht).symm, upd_same]
            · rw [List.mem_singleton.mp hl]
              omega
          · exact iteN hn ⟨dr2, [], [], hd2, .nil, Nat.zero_le _, fun _ h => (by cases h)⟩
        rintro H3' ⟨dr3, ts3, als, hd3, hnd3, hal, ha99⟩
        refine ⟨D3, _, rfl, .inl ⟨SqL.of hd3, fun t3 ht3 => ?_⟩⟩
        have exd : ExB r Hc (upd H3' t3 (.tup (ts3.map V.ref))) := dr3.ex.trans (ExB.ex (Ex.new ht3))
        have hId := dr3.row.ex (Ex.new (o := .tup (ts3.map V.ref)) ht3)
        have ga : (upd H3' t3 (.tup (ts3.map V.ref))) t3 = some (.tup (ts3.map V.ref)) := upd_same
        have gan : NdsAt K (upd H3' t3 (.tup (ts3.map V.ref))) ts3 als := hnd3.fz (Fz.new ht3)
        generalize upd H3' t3 (.tup (ts3.map V.ref)) = Hd at exd hId ga gan ⊢
        have hRd := hRc.of exd hId
        have hOd := exd _ _ hOc nOr
        -- shuns
        refine ⟨_, rfl, O, rfl, ⟨_, SqL.of hOd⟩, fun D4 hD4 => lc_list (xs := [.str web]) (fun i H' => DrawI Hd H' r sc D4 ∧ ∃ b : Bool, H' D4 = some (.lst (if b = true then [.str web] else [])) ∧ (i = 0 → b = false)) ⟨DrawI.start hId hD4, false, upd_same, fun _ => rfl⟩ (fun i H' _ q => SqL.of (q.1.ex _ _ hOd nOr)) ?_ ?_⟩
        · rintro i v H' hv ⟨dr, b, hd, hb0⟩
          have hi0 : i = 0 := by
            have := (List.getElem?_eq_some_iff.mp hv).1
            simp only [List.length_cons, List.length_nil] at this
            omega
          subst hi0
          obtain rfl : V.str web = v := Option.some.inj hv
          obtain rfl : b = false := hb0 rfl
          refine ⟨rfl, ?_⟩
          refine ⟨_, rfl, r, sc, ns, 9, rfl, hRd.of dr.ex dr.row, by decide, by decide, fun n H'' eD hRD hn0 hn4 => ?_⟩
          have hd2 := eD _ _ hd dr.nD.symm
          have dr2 := dr.step eD hRD.i
          refine ⟨rfl, _, rfl, ?_⟩
          by_cases hn : V.int n = V.int 0
          · exact iteP hn ⟨_, rfl, _, hd2, (by show 0 < sizeLine; decide), dr2.put hD4, true, upd_same, fun z => (by cases z)⟩
          · exact iteN hn ⟨dr2, false, hd2, fun z => (by cases z)⟩
        rintro H4' ⟨dr4, shb, hd4, _⟩
        refine ⟨D4, _, rfl, .inl ⟨SqL.of hd4, fun t4 ht4 => ?_⟩⟩
        have exe : ExB r Hd (upd H4' t4 (.tup (if shb = true then [.str web] else []))) := dr4.ex.trans (ExB.ex (Ex.new ht4))
        have hIe := dr4.row.ex (Ex.new (o := .tup (if shb = true then [.str web] else [])) ht4)
        have gs : (upd H4' t4 (.tup (if shb = true then [.str web] else []))) t4 = some (.tup (if shb = true then [.str web] else [])) := upd_same
        generalize upd H4' t4 (.tup (if shb = true then [.str web] else [])) = He at exe hIe gs ⊢
        -- found.append(Edition(..))
        have fzde := hId.fz exe
        have fzce := (hIc.fz exd).trans fzde
        have fzbe := (hIb.fz exc).trans fzce
        have exje : ExB r Hj He := (ExB.ex eW).trans (((exb.trans exc).trans exd).trans exe)
        have hFe := exje _ _ hFC nFr.symm
        have hese := hes.fz (hIC.fz exje)
        have hel := hes.len
        have hvl : eds.length ≤ 2 := by
          have h1 : (vers eds).length = (nums.take j).length := by rw [hvers]
          rw [List.length_take] at h1
          unfold vers at h1
          rw [List.length_map] at h1
          omega
        refine ⟨_, rfl, .inl ⟨rfl, _, SqL.of hFe⟩, _, rfl, _, rfl, _, rfl, _, rfl, _, rfl, _, rfl, rfl, rfl, fun x dx hx hdx hne => ?_⟩
        have eM := ex_make (C := a.ed) hx hdx hne
        have hv99' := hv99 ver hvm
        refine ⟨x, dx, t1, t2, t3, t4, ⟨ver, ws, wls, als, shb⟩, rfl, upd_same, ⟨hv99'.1, hv99'.2, hws', hwl, hw99, hal, ha99⟩, .inl (.inl (eM _ _ (fzbe _ _ gh rfl))), ⟨ts, .inl (.inl (eM _ _ (fzce _ _ gw rfl))), (gwn.fz fzce).fz (Fz.ex eM)⟩, ⟨ts3, .inl (.inl (eM _ _ (fzde _ _ ga rfl))), (gan.fz fzde).fz (Fz.ex eM)⟩, .inl (.inl (eM _ _ gs)), fun Hf eO hE => ⟨rfl, ?_⟩⟩
        have ef : Ex He Hf := ex_made hx hdx hne eO
        have hFf := ef _ _ hFe
        refine ⟨F, es.map V.ref, _, rfl, rfl, hFf, (by rw [List.length_map, sizeLine_eq]; omega), ?_⟩
        have fzp : Fz Hf (upd Hf F (.lst (es.map V.ref ++ [.ref x]))) := Fz.put hFf rfl
        refine ⟨_, _, _, _, _, rfl, ((eC.trans (ExM.exb exje (.inl rfl))).trans (ExM.ex ef)).trans (ExM.put (.inr rfl)), (hIe.ex ef).put nFr, es ++ [x], eds ++ [⟨ver, ws, wls, als, shb⟩], by rw [upd_same, List.map_append] <;> rfl, ((hese.fz (Fz.ex ef)).fz fzp).app (.cons (hE.fz fzp) .nil), ?_, fun ed' hed' => ?_⟩
        · unfold vers at hvers ⊢
          rw [List.map_append, hvers, List.take_succ, hver] <;> rfl
        · rcases List.mem_append.mp hed' with h | h
          · exact hdat ed' h
          · rw [List.mem_singleton.mp h]
            exact ⟨hv99'.1, hv99'.2, hws', hwl, hw99, hal, ha99⟩
      · rintro σ H' ⟨v6, v7, v8, v9, v10, rfl, eC, hIC, es, eds, hFC, hes, hvers, hdat⟩
        rw [List.length_map, List.take_length] at hvers
        refine ⟨_, _, _, _, _, _, _, rfl, e5B.trans eC, hIC, es, eds, hFC, hes, fun z => (by cases z), fun _ => ⟨?_, hdat⟩⟩
        have hl : eds.length = nums.length := by rw [← hvers]; unfold vers; rw [List.length_map]
        refine ⟨by omega, fun z => ?_, by rw [hvers]; exact hvnd, fun u hu2 => ?_, fun ed h => (hdat ed h).wl, fun ed h => (hdat ed h).al⟩
        · rw [z] at hl
          exact hv0 (List.eq_nil_of_length_eq_zero hl.symm)
        · rw [hvers] at hu2
          have := hv99 u hu2
          omega
    · rintro σ H5 ⟨v4, v5, v6, v7, v8, v9, v10, rfl, e5, hI5, es, eds, hF5, hes, _, hok⟩
      obtain ⟨ok, hdd⟩ := hok rfl
      refine ⟨_, rfl, F, _, rfl, .inl ⟨SqL.of hF5, fun tp htp => ?_⟩⟩
      have e6 : Ex H5 (upd H5 tp (.tup (es.map V.ref))) := Ex.new htp
      have g6 : (upd H5 tp (.tup (es.map V.ref))) tp = some (.tup (es.map V.ref)) := upd_same
      generalize upd H5 tp (.tup (es.map V.ref)) = H6 at e6 g6 ⊢
      intro x dx hx hdx hne
      have e7 := ex_make (C := a.st) hx hdx hne
      refine ⟨x, dx, tp, es, eds, rfl, upd_same, .inl (.inl (e7 _ _ g6)), (hes.fz (Fz.ex e6)).fz (Fz.ex e7), ok, fun H7 eO hS => ⟨rfl, ?_⟩⟩
      have e8 : Ex H6 H7 := ex_made hx hdx hne eO
      have eAll : ExB r H H7 := fun b o h n => (e6.trans e8) _ _ (e5 _ _ (e04 _ _ h n) (fun z => z.elim n (hHF _ _ h n)))
      exact k x eds H7 eAll (hR.of eAll (hI5.ex (e6.trans e8))) hS ok hdd
end
end Hs
end
section
set_option Elab.async false
set_option linter.all false
set_option maxRecDepth 100000
set_option maxHeartbeats 4000000
namespace Hs
open PySem PySem.Spec PyProof.Rows L2
open C8 (Cal Met Mak InsC pe_c pe_mk pe_mt pe_mt0 pe_gc call_isC)
open LamX (TabB Tabs ExtN TabS)
open PySem.W (AllAlike Sortable dataLe)
open Evl (Ex)
section
variable {P : Program} {w : World} {K : PySem.W.Frag} {mg : Str → Option Value} {base : Heap} {a : Ads}
/-! ### _law_system -/
def spLawSys (K : PySem.W.Frag) (a : Ads) : Sp := fun vs H Q _ => ∃ (r sc st : Addr) (ns : List Int) (eds : List Ed), vs = [.ref r, .ref st] ∧ RowAt K H r sc ns ∧ StoreAt K a H st eds ∧ EdsOk eds ∧ ∀ (y : Addr) (s : St) (H' : Hp), ExB r H H' → RowAt K H' r sc ns → SysOp K a H' st y s → StOk eds s → Q (.ref y) H'
theorem scLawSys : FnScope ["_law_row", "_law_store_here", "_law_found", "_law_name", "_law_status", "_law_some", "_law_number", "_law_late"] ["_law_row", "_law_store_here"] (defScope s__law_system) := ⟨rfl, rfl, rfl, by decide +kernel, rfl, by decide +kernel, by decide +kernel⟩
def staL : List Sta := [.absent, .failed, .half, .left, .ready, .unpacked, .ready, .unpacked]
theorem atI_nth {α : Type} {xs : List α} {n : Int} (h0 : 0 ≤ n) (h1 : n < (xs.length : Int)) : ∃ x, atI xs n = some x ∧ x ∈ xs := by
  have hl : n.toNat < xs.length := by omega
  refine ⟨xs[n.toNat], ?_, List.getElem_mem hl⟩
  unfold atI ixN
  rw [if_pos h0, if_pos h1]
  exact List.getElem?_eq_getElem hl
theorem c_law_sys (T : TX K mg a) : Cal P w K mg base 6 "_law_system" (spLawSys K a) [] := by
  refine calF T.d__law_system (fun _ _ _ _ _ _ us hl => match us, hl with | [_, _], _ => rfl) scLawSys (fun vs H Q E h => ?_) fun fa cdv A outer s0 H vs Q E hr h => ?_
  · obtain ⟨r, sc, st, ns, eds, rfl, _⟩ := h
    rfl
  · obtain ⟨r, sc, st, ns, eds, rfl, hR, S, ok, k⟩ := h
    have hu := hu_of hr
    have hTk := c_taken (P := P) (w := w) (base := base) T
    have hN := p_names (P := P) (w := w) (base := base) T
    have hV := m_versions (P := P) (w := w) (base := base) T
    have hSy := k_sys (P := P) (w := w) (base := base) T
    refine ⟨_, pss_cons (ps_set (i := 2) scLawSys.nd rfl (Or.inl rfl) pe_dnewK)
      (pss_cons (ps_for PassesOwn.never rfl (pi_tup (pe_pr hN hr (by decide) (pv 1))) (pg_name (i := 3) scLawSys.nd rfl (Or.inl rfl))
        (pss_cons (ps_set (i := 4) scLawSys.nd rfl (Or.inl rfl) (pe_ix ix_list (pe_lst (pa_cons pe_str (pa_cons pe_str (pa_cons pe_str (pa_cons pe_str (pa_cons pe_str (pa_cons pe_str (pa_cons pe_str (pa_cons pe_str pa_nil))))))))) (pe_cc hTk hr (pa_cons (pv 0) (pa_cons pe_int pa_nil))) (fun _ _ => rfl)))
        (pss_cons (ps_set (i := 5) scLawSys.nd rfl (Or.inl rfl) (pe_mt hV hr (by decide) (pv 1) (pa_cons (pv 3) pa_nil)))
        (pss_cons (ps_par (i := 6) (j := 7) rfl scLawSys.nd rfl rfl (by decide) rfl rfl (pa_cons (pe_ix ix_tup (pv 5) (pe_cc hTk hr (pa_cons (pv 0) (pa_cons (pe_callB call_len_seq (by rfl) T.f_len PySem.boot_len (pa_cons (pv 5) pa_nil)) pa_nil))) (fun _ _ => rfl))
          (pa_cons (pe_ix ix_tup (pe_op op_catT (pe_tup (pa_cons pe_int pa_nil)) (pv 5)) (pe_cc hTk hr (pa_cons (pv 0) (pa_cons (pe_op op_add (pe_callB call_len_seq (by rfl) T.f_len PySem.boot_len (pa_cons (pv 5) pa_nil)) pe_int) pa_nil))) (fun _ _ => rfl)) pa_nil)) rfl)
        (pss_one (ps_if (pt_cmpR op_ne (pv 4) pe_str (nomark _)) (pss_one (ps_dput hu (pv 2) (pv 3) (pe_tup (pa_cons (pv 4) (pa_cons (pv 6) (pa_cons (pe_ifExp (pt_cmpR op_eq (pv 4) pe_str (nomark _)) (pv 6) (pv 7)) pa_nil)))) rfl)) pss_nil))))))
      (pss_one (ps_ret (pe_mk hSy hr (by decide) rfl (pa_cons (pv 1) (pa_cons (pv 2) pa_nil)))))), ?_⟩
    intro d hd
    have e1 : Ex H (upd H d (.dK [])) := Ex.new hd
    have gd1 : (upd H d (.dK [])) d = some (.dK []) := upd_same
    have nrd : r ≠ d := hR.i.ne hd
    generalize upd H d (.dK []) = H1 at e1 gd1 ⊢
    obtain ⟨dx0, d0, es0, s1, _, _⟩ := id S
    refine ⟨_, rfl, st, dx0, _, rfl, e1 _ _ s1, st, eds, rfl, S.fz (Fz.ex e1), ok, fun pn H2 e2 hpn => ?_⟩
    have e12 := e1.trans e2
    have hR2 := hR.ex e12
    have gd2 := e2 _ _ gd1
    refine ⟨pn, rfl, ⟨_, .inl (.inl hpn)⟩, for_it (walk_tup (xs := [.str app])) (fun i σ H' => ∃ v3 v4 v5 v6 v7, σ = [some (.ref r), some (.ref st), some (.ref d), v3, v4, v5, v6, v7] ∧ ExM (fun b => b = r ∨ b = d) H2 H' ∧ RowI H' r sc ∧ ∃ s, SdAt K H' eds d s ∧ StOk eds s ∧ (i = 0 → H' = H2))
      ⟨_, _, _, _, _, rfl, ExM.id, hR2.i, St.none, .inl ⟨gd2, rfl⟩, ⟨.inl rfl⟩, fun _ => rfl⟩ (fun i σ H' _ ⟨_, _, _, _, _, _, e, _⟩ => .inl (.inl (e _ _ hpn (fun z => z.elim (fun z => by
        obtain ⟨i, b, c, g, _⟩ := hR2.i
        rw [z, g] at hpn
        cases hpn) (fun z => by
        rw [z, gd2] at hpn
        cases hpn))))) ?_ ?_⟩
    · rintro i z σ H3 H4 hi ⟨v3, v4, v5, v6, v7, rfl, _, _, _, _, _, h0⟩ ⟨rfl, hz⟩
      have hi0 : i = 0 := by
        simp only [List.length_cons, List.length_nil] at hi
        omega
      subst hi0
      obtain rfl : V.str app = z := Option.some.inj hz
      obtain rfl := h0 rfl
      -- status
      refine ⟨(by show 8 ≤ sizeLine; decide), fun l8 hl8 => ?_⟩
      have e8 : Ex H4 (upd H4 l8 (.lst [.str "absent", .str "failed", .str "half", .str "left", .str "ready", .str "unpacked", .str "ready", .str "unpacked"])) := Ex.new hl8
      have g8 : (upd H4 l8 (.lst [.str "absent", .str "failed", .str "half", .str "left", .str "ready", .str "unpacked", .str "ready", .str "unpacked"])) l8 = some (.lst (staL.map fun x : Sta => V.str x.txt)) := upd_same
      have n8 : l8 ≠ r := fun z => (hR2.i.ne hl8) z.symm
      generalize upd H4 l8 (.lst [.str "absent", .str "failed", .str "half", .str "left", .str "ready", .str "unpacked", .str "ready", .str "unpacked"]) = H5 at e8 g8 ⊢
      refine ⟨_, rfl, r, sc, ns, 8, rfl, hR2.ex e8, by decide, by decide, fun n H6 e6 hR6 hn0 hn8 => ?_⟩
      obtain ⟨sv, hat, hsv⟩ := atI_nth (xs := staL.map fun x : Sta => V.str x.txt) (n := n) hn0 hn8
      obtain ⟨sta, _, rfl⟩ := List.mem_map.mp hsv
      refine ⟨l8, _, n, _, rfl, rfl, SqL.of (e6 _ _ g8 n8), hat, ?_⟩
      have eB46 : ExB r H4 H6 := (ExB.ex e8).trans e6
      have hH6 : ∀ b o, H b = some o → b ≠ r → H6 b = some o := fun b o h n => eB46 _ _ (e12 _ _ h) n
      have nst : st ≠ r := fun z => by
        obtain ⟨i, b, c, g, _⟩ := hR.i
        rw [z, g] at s1
        cases s1
      -- the versions
      refine ⟨_, rfl, st, dx0, _, rfl, hH6 _ _ s1 nst, rfl, _, rfl, st, eds, rfl, S.fz (hR.i.fz hH6), ok, fun pw ls H7 e7 hp7 hperm => ?_⟩
      have hlen : ls.length = eds.length := by
        rw [hperm.length_eq]
        unfold vers
        rw [List.length_map]
      have hl2 := ok.few
      have hl0 : 0 < eds.length := List.length_pos_iff.mpr ok.some
      have hver : ∀ v ∈ ls, verOk eds v = true := fun v hv => verOk_mem.mpr (hperm.mem_iff.mp hv)
      have hR7 := hR6.ex e7
      have npr : pw ≠ r := fun z => by
        obtain ⟨i, b, c, g, _⟩ := hR7.i
        rw [z, g] at hp7
        cases hp7
      refine ⟨_, rfl, _, rfl, _, rfl, pw, _, rfl, .inr (.inl (.inl hp7)), r, sc, ns, _, rfl, hR7, by rw [List.length_map]; omega, by rw [List.length_map]; omega, fun n2 H8 e8' hR8 h20 h21 => ?_⟩
      obtain ⟨nv, hat2, hnv⟩ := atI_nth (xs := ls.map V.int) (n := n2) h20 h21
      obtain ⟨num, hnm, rfl⟩ := List.mem_map.mp hnv
      have hnum := hver num hnm
      have hp8 := e8' _ _ hp7 npr
      refine ⟨pw, _, n2, _, rfl, rfl, .inl (.inl hp8), hat2, ?_⟩
      refine ⟨(by show 1 ≤ sizeLine; decide), fun t0 ht0 => ?_⟩
      have e9 : Ex H8 (upd H8 t0 (.tup [.int 0])) := Ex.new ht0
      have g9 : (upd H8 t0 (.tup [.int 0])) t0 = some (.tup [.int 0]) := upd_same
      generalize upd H8 t0 (.tup [.int 0]) = H9 at e9 g9 ⊢
      refine ⟨_, rfl, t0, pw, [.int 0], ls.map V.int, rfl, rfl, .inl (.inl g9), .inl (.inl (e9 _ _ hp8)), by simp, (by rw [List.length_map, sizeLine_eq]; simp only [List.length_cons, List.length_nil]; omega), fun hys => ?_, fun _ p hp => ?_⟩
      · rw [List.map_eq_nil_iff] at hys
        rw [hys] at hlen
        simp only [List.length_nil] at hlen
        omega
      have eA : Ex H8 (upd H9 p (.tup ([.int 0] ++ ls.map V.int))) := e9.trans (Ex.new hp)
      have gA : (upd H9 p (.tup ([.int 0] ++ ls.map V.int))) p = some (.tup ((0 :: ls).map V.int)) := upd_same
      generalize upd H9 p (.tup ([.int 0] ++ ls.map V.int)) = HA at eA gA ⊢
      have hRA := hR8.ex eA
      have npA : p ≠ r := fun z => by
        obtain ⟨i, b, c, g, _⟩ := hRA.i
        rw [z, g] at gA
        cases gA
      refine ⟨_, rfl, _, rfl, pw, _, rfl, .inr (.inl (.inl (eA _ _ hp8))), _, _, rfl, rfl, r, sc, ns, _, rfl, hRA, by rw [List.length_map]; omega, by rw [List.length_map]; omega, fun n3 HB eB hRB h30 h31 => ?_⟩
      obtain ⟨lv, hat3, hlv⟩ := atI_nth (xs := (0 :: ls).map V.int) (n := n3) h30 (by
        rw [List.length_map] at h31 ⊢
        rw [List.length_cons]
        omega)
      obtain ⟨late, hlt, rfl⟩ := List.mem_map.mp hlv
      have hlate : late = 0 ∨ verOk eds late = true := by
        rcases List.mem_cons.mp hlt with h | h
        · exact .inl h
        · exact .inr (hver _ h)
      refine ⟨p, _, n3, _, rfl, rfl, .inl (.inl (eB _ _ gA npA)), hat3, ?_⟩
      refine ⟨_, _, rfl, ?_⟩
      have eB4B : ExB r H4 HB := eB46.trans ((ExB.ex e7).trans (e8'.trans ((ExB.ex eA).trans eB)))
      have eM4B : ExM (fun b => b = r ∨ b = d) H4 HB := ExM.exb eB4B (.inl rfl)
      have gdB := eB4B _ _ gd2 nrd.symm
      refine ⟨_, rfl, rfl, _, rfl, ?_⟩
      by_cases hab : sta = .absent
      · refine iteNS (by rw [hab] <;> rfl) ?_
        exact ⟨_, _, _, _, _, rfl, eM4B, hRB.i, St.none, .inl ⟨gdB, rfl⟩, ⟨.inl rfl⟩, fun z => (by cases z)⟩
      · refine iteNN (strNe fun z => hab (sta_inj sta .absent z)) ?_
        refine ⟨_, rfl, _, rfl, _, rfl, rfl, _, rfl, ?_⟩
        by_cases hrd : sta = .ready
        · refine iteP (by rw [hrd] <;> rfl) ?_
          refine ⟨_, rfl, (by show 3 ≤ sizeLine; decide), fun t ht => ?_⟩
          have eT := Ex.new (o := .tup [.str sta.txt, .int num, .int num]) ht
          refine ⟨_, rfl, _, rfl, d, _, rfl, DPut.k (k := Sum.inr app) (eT _ _ gdB) (by show 0 < sizeLine; decide), ?_⟩
          refine ⟨_, _, _, _, _, rfl, (eM4B.trans (ExM.ex eT)).trans (ExM.put (.inr rfl)), (hRB.i.ex eT).put nrd, ⟨sta, num, num⟩, .inr ⟨t, upd_same, .inl (.inl ?_), ?_⟩, ?_, fun z => (by cases z)⟩
          · rw [upd_ne (fun z => by rw [z, gdB] at ht; cases ht), upd_same] <;> rfl
          · exact ⟨.inr ⟨hab, hnum, .inr hnum, fun _ => rfl⟩⟩
          · exact ⟨.inr ⟨hab, hnum, .inr hnum, fun _ => rfl⟩⟩
        · refine iteN (strNe fun z => hrd (sta_inj sta .ready z)) ?_
          refine ⟨_, rfl, (by show 3 ≤ sizeLine; decide), fun t ht => ?_⟩
          have eT := Ex.new (o := .tup [.str sta.txt, .int num, .int late]) ht
          refine ⟨_, rfl, _, rfl, d, _, rfl, DPut.k (k := Sum.inr app) (eT _ _ gdB) (by show 0 < sizeLine; decide), ?_⟩
          refine ⟨_, _, _, _, _, rfl, (eM4B.trans (ExM.ex eT)).trans (ExM.put (.inr rfl)), (hRB.i.ex eT).put nrd, ⟨sta, num, late⟩, .inr ⟨t, upd_same, .inl (.inl ?_), ?_⟩, ?_, fun z => (by cases z)⟩
          · rw [upd_ne (fun z => by rw [z, gdB] at ht; cases ht), upd_same] <;> rfl
          · exact ⟨.inr ⟨hab, hnum, hlate, fun z => absurd z hrd⟩⟩
          · exact ⟨.inr ⟨hab, hnum, hlate, fun z => absurd z hrd⟩⟩
    · rintro σ H3 ⟨v3, v4, v5, v6, v7, rfl, e3, hI3, s, hsd, hs, _⟩
      have hH : ∀ b o, H b = some o → b ≠ r → H3 b = some o := fun b o h n => e3 _ _ (e12 _ _ h) (fun z => z.elim n (ne_of_none h hd))
      have S3 : StoreAt K a H3 st eds := S.fz (hR.i.fz hH)
      refine ⟨_, rfl, _, rfl, ?_⟩
      intro x dx hx hdx hne
      have eM := ex_make (C := a.sy) hx hdx hne
      refine ⟨x, dx, st, eds, d, s, rfl, upd_same, S3.fz (Fz.ex eM), ok, hsd.ex eM, fun H4 eO hy => ⟨rfl, ?_⟩⟩
      have e4 : Ex H3 H4 := ex_made hx hdx hne eO
      have eAll : ExB r H H4 := fun b o h n => e4 _ _ (hH b o h n)
      exact k x s H4 eAll (hR.of eAll (hI3.ex e4)) hy hs
end
end Hs
end
section
set_option Elab.async false
set_option linter.all false
set_option maxRecDepth 100000
set_option maxHeartbeats 4000000
namespace Hs
open PySem PySem.Spec PyProof.Rows L2
theorem tuple_mul1 (l : Addr) (items : Array Value) (n : Nat) (dd : Option Addr) (sl : Array (Option Value)) (u : Tok) :
    Meets (Builtin.«tuple.__mul__» ⟨[.ref l, .int 1 u], []⟩) (fun _ R s => s.heap.get? l = some { cls := .type "tuple", dict := dd, data := .seq items n, slots := sl } ∧ R (.ok (.ret (Value.ref l))) s) :=
  .of_wp fun prog w A R s h => by
    obtain ⟨hp, g, d, tk, os⟩ := s
    obtain ⟨hl, h⟩ := h
    have f1 := AutoSeq1.idx_int
    wp_walk using wpAny_loadPart' hl
    exact ⟨_, rfl, h⟩
theorem tuple_mul0 (l : Addr) (items : Array Value) (n : Nat) (dd : Option Addr) (sl : Array (Option Value)) (u : Tok) (c1 : items.isEmpty = false) :
    Meets (Builtin.«tuple.__mul__» ⟨[.ref l, .int 0 u], []⟩) (fun _ R s => s.heap.get? l = some { cls := .type "tuple", dict := dd, data := .seq items n, slots := sl } ∧ R (.ok (.ret (Value.ref s.heap.objs.size))) { s with heap := s.heap.push { cls := Value.type "tuple", data := Data.seq #[] }, toks := s.toks }) :=
  .of_wp fun prog w A R s h => by
    obtain ⟨hp, g, d, tk, os⟩ := s
    obtain ⟨hl, h⟩ := h
    have f1 := AutoSeq1.idx_int
    wp_walk using wpAny_loadPart' hl
    repeat (first
      | (refine wpAny_ite_false (decide_eq_false (by rw [c1]; decide)) ?_; wp_walk using wpAny_loadPart' hl)
      | (refine wpAny_ite_false (decide_eq_false (Nat.not_lt.mpr (by show 0 ≤ sizeLine; decide))) ?_; wp_walk using wpAny_loadPart' hl))
    exact ⟨_, rfl, h⟩
/-- t * 0, t * 1 -/
def rRep01 (K : PySem.W.Frag) : R2 := fun x y H Q => ∃ l k xs, x = .ref l ∧ y = .int k ∧ SqT K H l xs ∧ xs ≠ [] ∧ ((k = 1 ∧ Q (.ref l) H) ∨ (k = 0 ∧ ∀ p, H p = none → Q (.ref p) (upd H p (.tup []))))
section
variable {X : Cx}
theorem op_rep01 : OpR X (binaryOp .Mult) (rRep01 X.K) := by
  intro pins s σ H x y v u Q I rx ry h
  obtain ⟨l, k, xs, rfl, rfl, hT, hne, q⟩ := h
  cases rx
  obtain ⟨t, rfl⟩ := ry
  obtain ⟨its, r, ⟨⟨cls, dd, data, sl⟩, ho, hc, n, hd⟩, hs⟩ := I.tuple hT
  simp only at hc hd
  subst hc hd
  have hle : its.length = xs.length := r.length.symm
  have hn : its ≠ [] := fun e => hne (by
    rw [e] at hle
    exact List.eq_nil_of_length_eq_zero hle.symm)
  have hi : its.toArray.isEmpty = false := by
    cases its with
    | nil => exact absurd rfl hn
    | cons a b => rfl
  rcases q with ⟨rfl, q⟩ | ⟨rfl, q⟩
  · refine wpAny_binaryOp_repeat_ref (T := "tuple") (U := "int") (by decide) ⟨_, ho, rfl⟩ (fun s' => typeIs_int s' 1 t) noFill_tuple_mul F.fills_int_mul F.slot_int_rmul repeat_tuple F.slot_int_index.lookup
      (call_meets F.slot_int_rmul (typeIs_int s 1 t) F.entry_int_rmul (F.args_int_rmul_2 _ _) (int_rmul_tuple 1 t l its.toArray n dd sl)
        ⟨ho, rfl, ⟨_, ho, rfl⟩, call_meets F.slot_tuple_mul ⟨_, ho, rfl⟩ F.entry_tuple_mul (F.args_tuple_mul_2 _ _) (tuple_mul1 l its.toArray n dd sl t) ⟨ho, ?_⟩⟩)
    exact ⟨.ref l, H, I, rfl, q⟩
  · refine wpAny_binaryOp_repeat_ref (T := "tuple") (U := "int") (by decide) ⟨_, ho, rfl⟩ (fun s' => typeIs_int s' 0 t) noFill_tuple_mul F.fills_int_mul F.slot_int_rmul repeat_tuple F.slot_int_index.lookup
      (call_meets F.slot_int_rmul (typeIs_int s 0 t) F.entry_int_rmul (F.args_int_rmul_2 _ _) (int_rmul_tuple 0 t l its.toArray n dd sl)
        ⟨ho, rfl, ⟨_, ho, rfl⟩, call_meets F.slot_tuple_mul ⟨_, ho, rfl⟩ F.entry_tuple_mul (F.args_tuple_mul_2 _ _) (tuple_mul0 l its.toArray n dd sl t hi) ⟨ho, ?_⟩⟩)
    refine ⟨.ref s.heap.objs.size, _, I.laid (t' := s.toks) (o := .tup []) (fun b ob q => Heap.get?_push_of_some _ q) (Nat.le_refl _) ?_, rfl, q _ (I.hok.fresh (Nat.le_refl _))⟩
    exact ⟨Nat.zero_le _, [], .nil, IsTup.new _ _⟩
end
end Hs
end
section
set_option Elab.async false
set_option linter.all false
set_option maxRecDepth 100000
set_option maxHeartbeats 4000000
namespace Hs
open PySem PySem.Spec PyProof.Rows L2
open C8 (Cal Met Mak InsC pe_c pe_mk pe_mt pe_mt0 pe_gc call_isC)
open LamX (TabB Tabs ExtN TabS)
open PySem.W (AllAlike Sortable dataLe)
open Evl (Ex)
theorem RowI.neT {K : PySem.W.Frag} {H : Hp} {r sc p : Addr} {o : HO} (h : RowI H r sc) (hp : H p = some o) (hl : isL o = false) : p ≠ r := fun z => by
  obtain ⟨i, b, c, g, _⟩ := h
  rw [z, g] at hp
  cases hp
  cases hl
section
variable {P : Program} {w : World} {K : PySem.W.Frag} {mg : Str → Option Value} {base : Heap} {a : Ads}
/-! ### _law_deed -/
def spLawDeed (K : PySem.W.Frag) (a : Ads) : Sp := fun vs H Q _ => ∃ (r sc st : Addr) (ns : List Int) (eds : List Ed), vs = [.ref r, .ref st] ∧ RowAt K H r sc ns ∧ StoreAt K a H st eds ∧ EdsOk eds ∧ ∀ (p : Addr) (d : Dd) (H' : Hp), ExB r H H' → RowAt K H' r sc ns → SqT K H' p (ddV d) → Q (.ref p) H'
theorem scLawDeed : FnScope ["_law_row", "_law_store_here", "_law_names", "_law_name", "_law_pick"] ["_law_row", "_law_store_here"] (defScope s__law_deed) := ⟨rfl, rfl, rfl, by decide +kernel, rfl, by decide +kernel, by decide +kernel⟩
theorem c_law_deed (T : TX K mg a) : Cal P w K mg base 3 "_law_deed" (spLawDeed K a) [] := by
  refine calF T.d__law_deed (fun _ _ _ _ _ _ us hl => match us, hl with | [_, _], _ => rfl) scLawDeed (fun vs H Q E h => ?_) fun fa cdv A outer s0 H vs Q E hr h => ?_
  · obtain ⟨r, sc, st, ns, eds, rfl, _⟩ := h
    rfl
  · obtain ⟨r, sc, st, ns, eds, rfl, hR, S, ok, k⟩ := h
    have hu := hu_of hr
    have hTk := c_taken (P := P) (w := w) (base := base) T
    have hN := p_names (P := P) (w := w) (base := base) T
    refine ⟨_, Evl.pss_cut (ps_set (i := 2) scLawDeed.nd rfl (Or.inl rfl) (pe_op op_catA (pe_pr hN hr (by decide) (pv 1)) (pe_op op_rep01 (pe_tup (pa_cons pe_str pa_nil)) (pe_callTy call_int1 (by rfl) T.f_int (by decide +kernel) (pa_cons (pe_cmpR op_eq (pe_cc hTk hr (pa_cons (pv 0) (pa_cons pe_int pa_nil))) pe_int rfl) pa_nil)))))
      (pss_cons (ps_par (i := 3) (j := 4) rfl scLawDeed.nd rfl rfl (by decide) rfl rfl (pa_cons (pe_ix ix_tup (pv 2) (pe_cc hTk hr (pa_cons (pv 0) (pa_cons (pe_callB call_len_seq (by rfl) T.f_len PySem.boot_len (pa_cons (pv 2) pa_nil)) pa_nil))) (fun _ _ => rfl))
          (pa_cons (pe_cc hTk hr (pa_cons (pv 0) (pa_cons pe_int pa_nil))) pa_nil)) rfl)
      (pss_cons (ps_if (pt_cmpR op_lt (pv 4) pe_int (nomark _)) (pss_one (ps_ret (pe_tup (pa_cons pe_str (pa_cons (pv 3) (pa_cons (pe_ix ix_list (pe_lst (pa_cons pe_int (pa_cons pe_int (pa_cons pe_int (pa_cons pe_int pa_nil))))) (pe_cc hTk hr (pa_cons (pv 0) (pa_cons pe_int pa_nil))) (fun _ _ => rfl)) pa_nil)))))) pss_nil)
      (pss_one (ps_ret (pe_tup (pa_cons (pe_ix ix_list (pe_lst (pa_cons pe_str (pa_cons pe_str (pa_cons pe_str (pa_cons pe_str pa_nil))))) (pe_op op_sub (pv 4) pe_int) (fun _ _ => rfl)) (pa_cons (pv 3) pa_nil))))))), ?_⟩
    obtain ⟨dx0, d0, es0, s1, _, _⟩ := id S
    refine ⟨fun σ H' => ∃ (nt : Addr) (bs : List Bool), σ = [some (.ref r), some (.ref st), some (.ref nt), none, none] ∧ ExB r H H' ∧ RowAt K H' r sc ns ∧ H' nt = some (.tup (bs.map fun b => V.str (nm b))) ∧ bs ≠ [] ∧ bs.length ≤ 2, ?_, ?_⟩
    · refine ⟨_, rfl, st, dx0, _, rfl, s1, st, eds, rfl, S, ok, fun pn H1 e1 hpn => ?_⟩
      have hR1 := hR.ex e1
      -- ("web",) * int(..)
      refine ⟨(by show 1 ≤ sizeLine; decide), fun t0 ht0 => ?_⟩
      have e2 : Ex H1 (upd H1 t0 (.tup [.str web])) := Ex.new ht0
      have g2 : (upd H1 t0 (.tup [.str web])) t0 = some (.tup [.str web]) := upd_same
      generalize upd H1 t0 (.tup [.str web]) = H2 at e2 g2 ⊢
      have hR2 := hR1.ex e2
      refine ⟨_, rfl, r, sc, ns, 12, rfl, hR2, by decide, by decide, fun n H3 e3 hR3 _ _ => ?_⟩
      have g3 := e3 _ _ g2 (hR2.i.neT (K := K) g2 rfl)
      have hpn3 := e3 _ _ (e2 _ _ hpn) (hR2.i.neT (K := K) (e2 _ _ hpn) rfl)
      have e03 : ExB r H H3 := (ExB.ex (e1.trans e2)).trans e3
      refine ⟨rfl, .inr ⟨_, rfl, ?_⟩⟩
      by_cases hn : V.int n = V.int 0
      · rw [decide_eq_true hn]
        refine ⟨t0, _, [.str web], rfl, rfl, .inl (.inl g3), by simp, .inl ⟨rfl, ?_⟩⟩
        refine ⟨pn, t0, [.str app], [.str web], rfl, rfl, .inl (.inl hpn3), .inl (.inl g3), (by show 2 ≤ sizeLine; decide), fun z => absurd z (by simp), fun _ z => absurd z (by simp), fun _ _ p hp => ?_⟩
        exact ⟨p, [true, false], rfl, e03.trans (ExB.ex (Ex.new hp)), hR3.ex (Ex.new hp), upd_same, by simp, by simp⟩
      · rw [decide_eq_false hn]
        refine ⟨t0, _, [.str web], rfl, rfl, .inl (.inl g3), by simp, .inr ⟨rfl, fun p hp => ?_⟩⟩
        have e4 : Ex H3 (upd H3 p (.tup [])) := Ex.new hp
        refine ⟨pn, p, [.str app], [], rfl, rfl, .inl (.inl (e4 _ _ hpn3)), .inl (.inl upd_same), (by show 1 ≤ sizeLine; decide), fun z => absurd z (by simp), fun _ _ => ?_, fun _ z => absurd rfl z⟩
        exact ⟨pn, [true], rfl, e03.trans (ExB.ex e4), hR3.ex e4, e4 _ _ hpn3, by simp, by simp⟩
    rintro σ H3 ⟨nt, bs, rfl, e03, hR3, hnt, hb0, hb2⟩
    have hbl : 0 < bs.length := List.length_pos_iff.mpr hb0
    -- the name, the pick
    refine ⟨_, rfl, _, rfl, _, rfl, nt, _, rfl, .inr (.inl (.inl hnt)), r, sc, ns, _, rfl, hR3, by rw [List.length_map]; omega, by rw [List.length_map]; omega, fun n4 H4 e4 hR4 h40 h41 => ?_⟩
    have hnt4 := e4 _ _ hnt (hR3.i.neT (K := K) hnt rfl)
    obtain ⟨nv, hat, hnv⟩ := atI_nth (xs := bs.map fun b => V.str (nm b)) (n := n4) h40 h41
    obtain ⟨nb, _, rfl⟩ := List.mem_map.mp hnv
    refine ⟨nt, _, n4, _, rfl, rfl, .inl (.inl hnt4), hat, ?_⟩
    refine ⟨_, rfl, r, sc, ns, 7, rfl, hR4, by decide, by decide, fun n5 H5 e5 hR5 h50 h51 => ?_⟩
    refine ⟨_, _, rfl, ?_⟩
    have e05 := (e03.trans e4).trans e5
    refine ⟨_, rfl, _, _, rfl, rfl, _, rfl, ?_⟩
    by_cases hp3 : n5 < 3
    · refine iteP hp3 ?_
      refine ⟨_, rfl, (by show 4 ≤ sizeLine; decide), fun l hl => ?_⟩
      have e6 : Ex H5 (upd H5 l (.lst [.int 1, .int 2, .int 3, .int 1])) := Ex.new hl
      have g6 : (upd H5 l (.lst [.int 1, .int 2, .int 3, .int 1])) l = some (.lst (([1, 2, 3, 1] : List Int).map V.int)) := upd_same
      have nlr : l ≠ r := fun z => (hR5.i.ne hl) z.symm
      generalize upd H5 l (.lst [.int 1, .int 2, .int 3, .int 1]) = H6 at e6 g6 ⊢
      refine ⟨_, rfl, r, sc, ns, 4, rfl, hR5.ex e6, by decide, by decide, fun n7 H7 e7 hR7 h70 h71 => ?_⟩
      obtain ⟨nv, hat7, hnv7⟩ := atI_nth (xs := ([1, 2, 3, 1] : List Int).map V.int) (n := n7) h70 h71
      obtain ⟨ver, _, rfl⟩ := List.mem_map.mp hnv7
      refine ⟨l, _, n7, _, rfl, rfl, SqL.of (e7 _ _ g6 nlr), hat7, (by show 3 ≤ sizeLine; decide), fun t ht => ?_⟩
      refine k t (.unpack nb ver) _ ((e05.trans (ExB.ex e6)).trans (e7.trans (ExB.ex (Ex.new ht)))) (hR7.ex (Ex.new ht)) (.inl (.inl upd_same))
    · refine iteN hp3 ?_
      refine ⟨(by show 4 ≤ sizeLine; decide), fun l hl => ?_⟩
      have e6 : Ex H5 (upd H5 l (.lst [.str "setup", .str "setup", .str "remove", .str "purge"])) := Ex.new hl
      have g6 : (upd H5 l (.lst [.str "setup", .str "setup", .str "remove", .str "purge"])) l = some (.lst [.str "setup", .str "setup", .str "remove", .str "purge"]) := upd_same
      generalize upd H5 l (.lst [.str "setup", .str "setup", .str "remove", .str "purge"]) = H6 at e6 g6 ⊢
      have hw : ∃ d : Dd, (∃ wd : Str, atI ([.str "setup", .str "setup", .str "remove", .str "purge"] : List V) (n5 - 3) = some (.str wd) ∧ ddV d = [.str wd, .str (nm nb)]) := by
        have h4 : n5 = 3 ∨ n5 = 4 ∨ n5 = 5 ∨ n5 = 6 := by omega
        rcases h4 with rfl | rfl | rfl | rfl
        · exact ⟨.setup nb, _, rfl, rfl⟩
        · exact ⟨.setup nb, _, rfl, rfl⟩
        · exact ⟨.remove nb, _, rfl, rfl⟩
        · exact ⟨.purge nb, _, rfl, rfl⟩
      obtain ⟨d, wd, hat6, hd⟩ := hw
      refine ⟨_, rfl, _, _, rfl, rfl, l, _, _, _, rfl, rfl, SqL.of g6, hat6, _, rfl, (by show 2 ≤ sizeLine; decide), fun t ht => ?_⟩
      refine k t d _ ((e05.trans (ExB.ex e6)).trans (ExB.ex (Ex.new ht))) (hR5.ex (e6.trans (Ex.new ht))) ?_
      rw [hd]
      exact .inl (.inl upd_same)
end
end Hs
end
section
set_option Elab.async false
set_option linter.all false
set_option maxRecDepth 100000
set_option maxHeartbeats 4000000
namespace Hs
open PySem PySem.Spec PyProof.Rows L2
open C8 (Cal Met Mak InsC pe_c pe_mk pe_mt pe_mt0 pe_gc call_isC)
open LamX (TabB Tabs ExtN TabS)
open PySem.W (AllAlike Sortable dataLe)
open Evl (Ex)
section
variable {P : Program} {w : World} {K : PySem.W.Frag} {mg : Str → Option Value} {base : Heap} {a : Ads}
/-! ### _law_scripts -/
def spLawScr (K : PySem.W.Frag) (a : Ads) : Sp := fun vs H Q _ => ∃ (st : Addr) (eds : List Ed), vs = [.ref st] ∧ StoreAt K a H st eds ∧ EdsOk eds ∧ (∀ ed ∈ eds, EdDat ed) ∧ ∀ (l : Addr) (xs : List V) (cs : List Sc) (H' : Hp), Ex H H' → H' l = some (.lst xs) → All2 (ScV K H') xs cs → cs.length ≤ 8 → (∀ c ∈ cs, scOk eds c = true) → Q (.ref l) H'
theorem scLawScr : FnScope ["_law_store_here", "_law_found", "_law_name", "_law_number", "_law_word"] ["_law_store_here"] (defScope s__law_scripts) := ⟨rfl, rfl, rfl, by decide +kernel, rfl, by decide +kernel, by decide +kernel⟩
theorem c_law_scr (T : TX K mg a) : Cal P w K mg base 4 "_law_scripts" (spLawScr K a) [] := by
  refine calF T.d__law_scripts (fun _ _ _ _ _ _ us hl => match us, hl with | [_], _ => rfl) scLawScr (fun vs H Q E h => ?_) fun fa cdv A outer s0 H vs Q E hr h => ?_
  · obtain ⟨st, eds, rfl, _⟩ := h
    rfl
  · obtain ⟨st, eds, rfl, S, ok, hdat, k⟩ := h
    have hu := hu_of hr
    have hN := p_names (P := P) (w := w) (base := base) T
    have hV := m_versions (P := P) (w := w) (base := base) T
    have hG := m_getitem (P := P) (w := w) (base := base) T
    have hP := p_scripts (P := P) (w := w) (base := base) T
    refine ⟨_, pss_cons (ps_set (i := 1) scLawScr.nd rfl (Or.inl rfl) (pe_lst pa_nil))
      (pss_cons (ps_for PassesOwn.never rfl (pi_tup (pe_pr hN hr (by decide) (pv 0))) (pg_name (i := 2) scLawScr.nd rfl (Or.inr rfl))
        (pss_one (ps_for PassesOwn.never rfl (pi_tup (pe_mt hV hr (by decide) (pv 0) (pa_cons (pv 2) pa_nil))) (pg_name (i := 3) scLawScr.nd rfl (Or.inr rfl))
          (pss_one (ps_set (i := 1) scLawScr.nd rfl (Or.inl rfl) (pe_op op_cat (pv 1) (pe_lc (own := [("_law_word", 4)]) (g := gName 4) (tt := tYes) rfl scLawScr.nd (pi_tup (pe_pr hP hr (by decide) (pe_ixM hG hr (by decide) T.fn_st (pv 0) (pe_tup (pa_cons (pv 2) (pa_cons (pv 3) pa_nil))))))
            (blkOk_by (N := ["_law_store_here", "_law_found", "_law_name", "_law_number", "_law_word"]) (sc := defScope s__law_scripts) (by decide +kernel)) (fun _ _ _ _ _ => pg_name (i := 4) scLawScr.nd rfl (Or.inl rfl)) (fun _ _ _ _ _ => pts_nil) (fun _ _ _ _ _ => pe_tup (pa_cons (pv 2) (pa_cons (pv 3) (pa_cons (pv 4) pa_nil)))))))))))
      (pss_one (ps_ret (pv 1)))), ?_⟩
    obtain ⟨dx0, d0, es0, s1, _, _⟩ := id S
    have hl2 := ok.few
    refine ⟨(by show 0 ≤ sizeLine; decide), fun F hF => ?_⟩
    have e1 : Ex H (upd H F (.lst [])) := Ex.new hF
    have g1 : (upd H F (.lst [])) F = some (.lst []) := upd_same
    generalize upd H F (.lst []) = H1 at e1 g1 ⊢
    refine ⟨_, rfl, st, dx0, _, rfl, e1 _ _ s1, st, eds, rfl, S.fz (Fz.ex e1), ok, fun pn H2 e2 hpn => ?_⟩
    have e12 := e1.trans e2
    refine ⟨pn, rfl, ⟨_, .inl (.inl hpn)⟩, for_it (walk_tup (xs := [.str app])) (fun i σ H' => ∃ (F : Addr) (v2 v3 : Option V) (xs : List V) (cs : List Sc), σ = [some (.ref st), some (.ref F), v2, v3, none] ∧ Ex H2 H' ∧ H' F = some (.lst xs) ∧ All2 (ScV K H') xs cs ∧ (∀ c ∈ cs, scOk eds c = true) ∧ cs.length ≤ 8 * i)
      ⟨F, _, _, [], [], rfl, Ex.refl _, e2 _ _ g1, .nil, fun _ h => (by cases h), Nat.le_refl _⟩ (fun i σ H' _ ⟨_, _, _, _, _, _, e, _⟩ => .inl (.inl (e _ _ hpn))) ?_ ?_⟩
    · rintro i z σ H3 H4 hi ⟨F, v2, v3, xs, cs, rfl, e3, hF3, hxs, hcs, hcl⟩ ⟨rfl, hz⟩
      have hi0 : i = 0 := by
        simp only [List.length_cons, List.length_nil] at hi
        omega
      subst hi0
      obtain rfl : V.str app = z := Option.some.inj hz
      have e03 := e12.trans e3
      refine ⟨_, rfl, st, dx0, _, rfl, e03 _ _ s1, rfl, _, rfl, st, eds, rfl, S.fz (Fz.ex e03), ok, fun pw ls H5 e5 hp5 hperm => ?_⟩
      have e05 := e03.trans e5
      have hlen : ls.length = eds.length := by
        rw [hperm.length_eq]
        unfold vers
        rw [List.length_map]
      have hc0 : cs.length = 0 := by omega
      refine ⟨pw, rfl, ⟨_, .inl (.inl hp5)⟩, for_it (walk_tup (xs := ls.map V.int)) (fun j σ H' => ∃ (F : Addr) (v3 : Option V) (xs : List V) (cs : List Sc), σ = [some (.ref st), some (.ref F), some (.str app), v3, none] ∧ Ex H5 H' ∧ H' F = some (.lst xs) ∧ All2 (ScV K H') xs cs ∧ (∀ c ∈ cs, scOk eds c = true) ∧ cs.length ≤ 4 * j)
        ⟨F, _, xs, cs, rfl, Ex.refl _, e5 _ _ hF3, hxs.imp fun _ _ h => h.fz (Fz.ex e5), hcs, by omega⟩ (fun j σ H' _ ⟨_, _, _, _, _, e, _⟩ => .inl (.inl (e _ _ hp5))) ?_ ?_⟩
      · rintro j v σ H6 H7 hj ⟨F, v3, xs, cs, rfl, e7, hF7, hxs, hcs, hcl⟩ ⟨rfl, hv⟩
        rw [List.length_map] at hj
        obtain ⟨ver, rfl, hvm⟩ : ∃ ver : Int, v = .int ver ∧ ver ∈ ls := by
          rw [List.getElem?_map] at hv
          cases hvv : ls[j]? with
          | none => rw [hvv] at hv; cases hv
          | some u =>
            rw [hvv] at hv
            exact ⟨u, (Option.some.inj hv).symm, List.mem_of_getElem? hvv⟩
        have hver : verOk eds ver = true := verOk_mem.mpr (hperm.mem_iff.mp hvm)
        obtain ⟨ed, hed⟩ := Option.isSome_iff_exists.mp hver
        have hh4 := (hdat ed (edAt_mem hed).1).has.length_le
        have hh4' : ed.has.length ≤ 4 := hh4
        have e07 := e05.trans e7
        refine ⟨_, rfl, ?_⟩
        refine ⟨_, rfl, _, rfl, _, rfl, (by show 2 ≤ sizeLine; decide), fun q hq => ?_⟩
        have e8 : Ex H7 (upd H7 q (.tup [.str app, .int ver])) := Ex.new hq
        have g8 : (upd H7 q (.tup [.str app, .int ver])) q = some (.tup [.str app, .int ver]) := upd_same
        generalize upd H7 q (.tup [.str app, .int ver]) = H8 at e8 g8 ⊢
        have e08 := e07.trans e8
        refine ⟨st, dx0, _, rfl, e08 _ _ s1, st, eds, q, ver, ed, rfl, S.fz (Fz.ex e08), g8, hed, fun e he => ?_⟩
        obtain ⟨dw, hs, ws, as, sh, he1, he2, _⟩ := id he
        refine ⟨e, dw, _, rfl, he1, e, ed, rfl, he, fun hs' hhs => ?_⟩
        refine ⟨hs', rfl, ⟨_, hhs⟩, fun D hD => lc_tup (xs := ed.has.map fun w : Wd => V.str w.txt) (fun m H' => Ex H8 H' ∧ ∃ us, H' D = some (.lst us) ∧ All2 (ScV K H') us ((ed.has.take m).map fun w => (ver, w))) ⟨Ex.new hD, [], upd_same, .nil⟩ (fun m H' _ q => fz_t (Fz.ex q.1) hhs) ?_ ?_⟩
        · rintro m u H' hu2 ⟨e9, us, hd, hus⟩
          rw [List.getElem?_map] at hu2
          cases huu : ed.has[m]? with
          | none => rw [huu] at hu2; cases hu2
          | some wd =>
            rw [huu] at hu2
            obtain rfl : V.str wd.txt = u := Option.some.inj hu2
            have hul := hus.len
            rw [List.length_map, List.length_take] at hul
            refine ⟨rfl, yes_ok ?_⟩
            refine ⟨_, rfl, _, rfl, _, rfl, (by show 3 ≤ sizeLine; decide), fun b hb => ⟨us, Ex.new hb _ _ hd, by rw [sizeLine_eq]; omega, (e9.trans (Ex.new hb)).mut hD, _, upd_same, ?_⟩⟩
            have fz := (Fz.new (o := .tup [.str app, .int ver, .str wd.txt]) hb).trans (Fz.put (u := .lst us) (o := .lst (us ++ [.ref b])) (Ex.new hb _ _ hd) rfl)
            rw [List.take_succ, huu, List.map_append]
            refine (hus.imp fun _ _ h => h.fz fz).app (.cons ⟨b, rfl, .inl (.inl ?_)⟩ .nil)
            rw [upd_ne (ne_of_none hd hb).symm, upd_same]
        · rintro H9 ⟨e9, us, hd, hus⟩
          rw [List.length_map, List.take_length] at hus
          have hul := hus.len
          rw [List.length_map] at hul
          have hxl := hxs.len
          have e79 := e8.trans e9
          refine ⟨F, D, xs, us, rfl, rfl, e79 _ _ hF7, hd, by rw [sizeLine_eq]; omega, fun p hp => ?_⟩
          refine ⟨p, _, xs ++ us, cs ++ ed.has.map fun w => (ver, w), rfl, (e7.trans e79).trans (Ex.new hp), upd_same, (hxs.imp fun _ _ h => h.fz (Fz.ex (e79.trans (Ex.new hp)))).app (hus.imp fun _ _ h => h.fz (Fz.new hp)), fun c hc => ?_, ?_⟩
          · rcases List.mem_append.mp hc with h | h
            · exact hcs c h
            · obtain ⟨wd, hwd, rfl⟩ := List.mem_map.mp h
              unfold scOk
              rw [Bool.and_eq_true]
              refine ⟨hver, decide_eq_true ?_⟩
              show wd ∈ hasAt eds ver
              simp only [hasAt, hed]
              exact hwd
          · rw [List.length_append, List.length_map]
            omega
      · rintro σ H6 ⟨F, v3, xs, cs, rfl, e7, hF7, hxs, hcs, hcl⟩
        rw [List.length_map] at hcl
        exact ⟨F, _, _, xs, cs, rfl, (e3.trans e5).trans e7, hF7, hxs, hcs, by omega⟩
    · rintro σ H3 ⟨F, v2, v3, xs, cs, rfl, e3, hF3, hxs, hcs, hcl⟩
      exact ⟨_, rfl, k F xs cs H3 (e12.trans e3) hF3 hxs hcl hcs⟩
end
end Hs
end
section
set_option Elab.async false
set_option linter.all false
set_option maxRecDepth 100000
set_option maxHeartbeats 4000000
namespace Hs
open PySem PySem.Spec PyProof.Rows L2
open C8 (Cal Met Mak InsC pe_c pe_mk pe_mt pe_mt0 pe_gc call_isC)
open LamX (TabB Tabs ExtN TabS)
open PySem.W (AllAlike Sortable dataLe)
open Evl (Ex)
theorem All2.erase {α β : Type} {R : α → β → Prop} : ∀ {vs : List α} {fs : List β} (k : Nat), All2 R vs fs → All2 R (vs.eraseIdx k) (fs.eraseIdx k)
  | _, _, k, .nil => by simpa using All2.nil
  | _, _, 0, .cons h t => t
  | _, _, k + 1, .cons h t => .cons h (All2.erase k t)
section
variable {P : Program} {w : World} {K : PySem.W.Frag} {mg : Str → Option Value} {base : Heap} {a : Ads}
/-! ### _law_faulty -/
def spLawFau (K : PySem.W.Frag) : Sp := fun vs H Q _ => ∃ (r sc l : Addr) (ns : List Int) (xs : List V) (cs : List Sc) (good : Sc → Prop), vs = [.ref r, .ref l, .int 3] ∧ RowAt K H r sc ns ∧ H l = some (.lst xs) ∧ l ≠ r ∧ All2 (ScV K H) xs cs ∧ cs.length ≤ 8 ∧ (∀ c ∈ cs, good c) ∧
  ∀ (p : Addr) (fl : List Sc) (H' : Hp), ExB r H H' → RowAt K H' r sc ns → FaAt K H' p fl → fl.length ≤ 3 → (∀ c ∈ fl, good c) → Q (.ref p) H'
theorem scLawFau : FnScope ["_law_row", "_law_every_one", "_law_most", "_law_left", "_law_found", "_law_k"] ["_law_row", "_law_every_one", "_law_most"] (defScope s__law_faulty) := ⟨rfl, rfl, rfl, by decide +kernel, rfl, by decide +kernel, by decide +kernel⟩
theorem c_law_fau (T : TX K mg a) : Cal P w K mg base 2 "_law_faulty" (spLawFau K) [] := by
  refine calF T.d__law_faulty (fun _ _ _ _ _ _ us hl => match us, hl with | [_, _, _], _ => rfl) scLawFau (fun vs H Q E h => ?_) fun fa cdv A outer s0 H vs Q E hr h => ?_
  · obtain ⟨r, sc, l, ns, xs, cs, good, rfl, _⟩ := h
    rfl
  · obtain ⟨r, sc, l, ns, xs, cs, good, rfl, hR, hl, hlr, hxs, hc8, hgood, k⟩ := h
    have hu := hu_of hr
    have hTk := c_taken (P := P) (w := w) (base := base) T
    refine ⟨_, pss_cons (ps_par (i := 3) (j := 4) rfl scLawFau.nd rfl rfl (by decide) rfl rfl (pa_cons (pe_callTy call_list_of (by rfl) T.f_list (by decide +kernel) (pa_cons (pv 1) pa_nil)) (pa_cons (pe_lst pa_nil) pa_nil)) rfl)
      (pss_cons (ps_for PassesOwn.never rfl (pi_range1 (by rfl) T.f_range (pa_cons (pe_callB (call_min2 rfl) (by rfl) T.f_min (by decide +kernel) (pa_cons (pe_cc hTk hr (pa_cons (pv 0) (pa_cons (pe_op op_add (pv 2) pe_int) pa_nil))) (pa_cons (pe_callB call_len_seq (by rfl) T.f_len PySem.boot_len (pa_cons (pv 1) pa_nil)) pa_nil))) pa_nil)) (pg_name (i := 5) scLawFau.nd rfl (Or.inl rfl))
        (pss_one (ps_expr (pe_bm PySem.F.plainAttrs_list PySem.F.slot_list_append PySem.F.type_list_append mt_append (pv 4) (pa_cons (pe_bm PySem.F.plainAttrs_list PySem.F.slot_list_pop PySem.F.type_list_pop mt_popAt (pv 3) (pa_cons (pe_cc hTk hr (pa_cons (pv 0) (pa_cons (pe_callB call_len_seq (by rfl) T.f_len PySem.boot_len (pa_cons (pv 3) pa_nil)) pa_nil))) pa_nil)) pa_nil)))))
      (pss_one (ps_ret (pe_callTy call_tuple_of (by rfl) T.f_tuple (by decide +kernel) (pa_cons (pe_callB (cr_sortedC rfl hr.units) (by rfl) T.f_sorted (by decide +kernel) (pa_cons (pv 4) pa_nil)) pa_nil))))), ?_⟩
    have hxl := hxs.len
    refine ⟨_, rfl, l, xs, rfl, .inl (SqL.of hl), fun L hL => ?_⟩
    have e1 : Ex H (upd H L (.lst xs)) := Ex.new hL
    have g1 : (upd H L (.lst xs)) L = some (.lst xs) := upd_same
    have nrL := hR.i.ne hL
    have nlL : l ≠ L := fun z => by rw [z, hL] at hl; cases hl
    generalize upd H L (.lst xs) = H1 at e1 g1 ⊢
    refine ⟨(by show 0 ≤ sizeLine; decide), fun F hF => ?_⟩
    have e2 : Ex H1 (upd H1 F (.lst [])) := Ex.new hF
    have g2 : (upd H1 F (.lst [])) F = some (.lst []) := upd_same
    have nrF := (hR.ex e1).i.ne hF
    have nLF : L ≠ F := fun z => by rw [z, hF] at g1; cases g1
    have hHF : ∀ b o, H b = some o → b ≠ L ∧ b ≠ F := fun b o h => ⟨ne_of_none h hL, fun z => by
      have := e1 _ _ h
      rw [z, hF] at this
      cases this⟩
    generalize upd H1 F (.lst []) = H2 at e2 g2 ⊢
    have e12 := e1.trans e2
    have hR2 := hR.ex e12
    refine ⟨_, _, rfl, ?_⟩
    refine ⟨_, rfl, _, rfl, _, _, rfl, rfl, r, sc, ns, _, rfl, hR2, by decide, by decide, fun n H3 e3 hR3 hn0 hn4 => ?_⟩
    have hn4' : n < 4 := hn4
    have hl3 := e3 _ _ (e12 _ _ hl) hlr
    refine ⟨_, rfl, l, xs, rfl, .inl (SqL.of hl3), _, _, rfl, ?_⟩
    have hmn : ∃ m : Nat, (if (xs.length : Int) < n then (xs.length : Int) else n) = m ∧ m ≤ xs.length ∧ m ≤ 3 := by
      by_cases c : (xs.length : Int) < n
      · exact ⟨xs.length, by rw [if_pos c], Nat.le_refl _, by omega⟩
      · exact ⟨n.toNat, by rw [if_neg c]; omega, by omega, by omega⟩
    obtain ⟨m, hm, hmx, hm3⟩ := hmn
    rw [hm]
    refine ⟨_, rfl, by show -(2 ^ 62) ≤ (m : Int); omega, by show (m : Int) < 2 ^ 62; omega, ?_⟩
    have hj : ((m : Int)).toNat = m := by omega
    rw [hj]
    have eL3 := e3 _ _ (e2 _ _ g1) nrL.symm
    have eF3 := e3 _ _ g2 nrF.symm
    have fz03 : Fz H H3 := (Fz.ex e12).trans (hR2.i.fz e3)
    have hMk : ∀ H', ExM (fun b => b = r ∨ b = L ∨ b = F) H3 H' → RowI H' r sc → RowAt K H' r sc ns := fun H' e hi => by
      obtain ⟨_, _, _, _, h2, h3, _⟩ := hR
      obtain ⟨i, b, c, q1, q4⟩ := hi
      refine ⟨i, b, c, q1, ?_, h3, q4⟩
      rcases h3 with h3 | h3
      rotate_left
      · exact h3 _
      rcases h2 with (h | ⟨u, h⟩) | h
      · exact .inl (.inl (e _ _ (e3 _ _ (e12 _ _ h) h3) (fun z => z.elim h3 (fun z => z.elim (hHF _ _ h).1 (hHF _ _ h).2))))
      · exact .inl (.inr ⟨u, e _ _ (e3 _ _ (e12 _ _ h) h3) (fun z => z.elim h3 (fun z => z.elim (hHF _ _ h).1 (hHF _ _ h).2))⟩)
      · exact .inr h
    refine for_it walk_range (fun i σ H' => ∃ v5, σ = [some (.ref r), some (.ref l), some (.int 3), some (.ref L), some (.ref F), v5] ∧ ExM (fun b => b = r ∨ b = L ∨ b = F) H3 H' ∧ RowI H' r sc ∧ ∃ (ls fs : List V) (lc fc : List Sc), H' L = some (.lst ls) ∧ H' F = some (.lst fs) ∧ All2 (ScV K H') ls lc ∧ All2 (ScV K H') fs fc ∧ lc.length + i = xs.length ∧ fc.length = i ∧ (∀ c ∈ lc, good c) ∧ ∀ c ∈ fc, good c)
      ⟨none, rfl, ExM.id, hR3.i, xs, [], cs, [], eL3, eF3, hxs.imp fun _ _ h => h.fz fz03, .nil, by rw [hxl] <;> rfl, rfl, hgood, fun _ h => (by cases h)⟩ (fun _ _ _ _ _ => trivial) ?_ ?_
    · rintro i x σ H4 H5 hi ⟨v5, rfl, e5, hI5, ls, fs, lc, fc, hL5, hF5, hls, hfs, hll, hfl, hlg, hfg⟩ ⟨rfl, rfl⟩
      have hlsl := hls.len
      have hfsl := hfs.len
      refine ⟨_, rfl, .inl ⟨rfl, _, SqL.of hF5⟩, _, rfl, .inl ⟨rfl, _, SqL.of hL5⟩, _, rfl, _, rfl, L, ls, rfl, .inl (SqL.of hL5), r, sc, ns, _, rfl, hMk _ e5 hI5, by omega, by omega, fun n6 H6 e6 hR6 h60 h61 => ?_⟩
      have hL6 := e6 _ _ hL5 nrL.symm
      have hF6 := e6 _ _ hF5 nrF.symm
      have hsi : seqIndex? n6 ls.length = some n6.toNat := by
        rw [seqIndex_of (by omega) (by omega)]
      have hlt : n6.toNat < ls.length := by omega
      refine ⟨L, ls, n6, n6.toNat, _, rfl, rfl, hL6, by omega, by omega, hsi, List.getElem?_eq_getElem hlt, ?_⟩
      have fz6 : Fz H5 H6 := hI5.fz e6
      have hF7 : (upd H6 L (.lst (ls.eraseIdx n6.toNat))) F = some (.lst fs) := by rw [upd_ne nLF.symm]; exact hF6
      have hL7 : (upd H6 L (.lst (ls.eraseIdx n6.toNat))) L = some (.lst (ls.eraseIdx n6.toNat)) := upd_same
      have fz7 : Fz H6 (upd H6 L (.lst (ls.eraseIdx n6.toNat))) := Fz.put hL6 rfl
      have hI7 := (hR6.i).put (o := .lst (ls.eraseIdx n6.toNat)) nrL
      have eM7 : ExM (fun b => b = r ∨ b = L ∨ b = F) H3 (upd H6 L (.lst (ls.eraseIdx n6.toNat))) := (e5.trans (ExM.exb e6 (.inl rfl))).trans (ExM.put (.inr (.inl rfl)))
      generalize upd H6 L (.lst (ls.eraseIdx n6.toNat)) = H7 at hF7 hL7 fz7 hI7 eM7 ⊢
      have fz57 := fz6.trans fz7
      obtain ⟨c, hc, hcv⟩ := hls.get (List.getElem?_eq_getElem hlt)
      have hcl : n6.toNat < lc.length := by omega
      refine ⟨F, fs, _, rfl, rfl, hF7, by rw [sizeLine_eq]; omega, ?_⟩
      have fz8 : Fz H7 (upd H7 F (.lst (fs ++ [ls[n6.toNat]]))) := Fz.put hF7 rfl
      have fz58 := fz57.trans fz8
      refine ⟨_, rfl, eM7.trans (ExM.put (.inr (.inr rfl))), hI7.put nrF, ls.eraseIdx n6.toNat, fs ++ [ls[n6.toNat]], lc.eraseIdx n6.toNat, fc ++ [c], by rw [upd_ne nLF]; exact hL7, upd_same, (hls.erase _).imp fun _ _ h => h.fz fz58, (hfs.imp fun _ _ h => h.fz fz58).app (.cons (hcv.fz fz58) .nil), ?_, ?_, fun c' h => hlg c' (List.mem_of_mem_eraseIdx h), fun c' h => ?_⟩
      · rw [List.length_eraseIdx, if_pos hcl]
        omega
      · rw [List.length_append, hfl] <;> rfl
      · rcases List.mem_append.mp h with h | h
        · exact hfg c' h
        · rw [List.mem_singleton.mp h]
          exact hlg c (List.mem_of_getElem? hc)
    · rintro σ H5 ⟨v5, rfl, e5, hI5, ls, fs, lc, fc, hL5, hF5, hls, hfs, hll, hfl, hlg, hfg⟩
      have hfsl := hfs.len
      have hnk : NkAll K H5 fs (fc.map scKey) := sc_nks (hfs.imp fun _ _ ⟨q, e, h⟩ => ⟨q, e, h⟩)
      refine ⟨_, rfl, F, fs, fc.map scKey, rfl, col_list (SqL.of hF5), hnk, by rw [sizeLine_eq]; omega, alike_of (f := scKey) (fun _ _ => rfl) fc, sortable_of (f := scKey) (fun _ => ⟨_, _, rfl⟩) fc, depth_of (f := scKey) (fun _ => (by show 1 ≤ 8; decide)) fc, fun ys lk p pys _ _ _ hp => ?_⟩
      obtain ⟨gs, pg, rg⟩ := hfs.perm pys.symm
      have e6 : Ex H5 (upd H5 p (.lst ys)) := Ex.new hp
      have g6 : (upd H5 p (.lst ys)) p = some (.lst ys) := upd_same
      generalize upd H5 p (.lst ys) = H6 at e6 g6 ⊢
      refine ⟨p, ys, rfl, .inl ⟨SqL.of g6, fun t ht => ?_⟩⟩
      have e7 : Ex H5 (upd H6 t (.tup ys)) := e6.trans (Ex.new ht)
      have eM := e5.trans (ExM.ex (M := fun b => b = r ∨ b = L ∨ b = F) e7)
      have eAll : ExB r H (upd H6 t (.tup ys)) := fun b o h n => eM _ _ (e3 _ _ (e12 _ _ h) n) (fun z => z.elim n (fun z => z.elim (hHF _ _ h).1 (hHF _ _ h).2))
      refine k t gs _ eAll (hR.of eAll (hI5.ex e7)) ⟨ys, .inl (.inl upd_same), rg.imp fun _ _ h => ScV.fz (Fz.ex e7) h⟩ (by rw [← pg.length_eq, hfl]; exact hm3) fun c hc => hfg c (pg.mem_iff.mpr hc)
end
end Hs
end
section
set_option Elab.async false
set_option linter.all false
set_option maxRecDepth 100000
set_option maxHeartbeats 4000000
namespace Hs
open PySem PySem.Spec PyProof.Rows L2
open C8 (Cal Met Mak InsC pe_c pe_mk pe_mt pe_mt0 pe_gc call_isC)
open LamX (TabB Tabs ExtN TabS)
open PySem.W (AllAlike Sortable dataLe)
open Evl (Ex)
section
variable {P : Program} {w : World} {K : PySem.W.Frag} {mg : Str → Option Value} {base : Heap} {a : Ads}
/-! ### _law_are_told -/
def spLawTold (K : PySem.W.Frag) (a : Ads) : Sp := fun vs H Q _ => ∃ (y l st : Addr) (s : St) (eds : List Ed) (v0 v1 : V) (f1 : List Sc), vs = [.ref y, .ref l] ∧ SysOp K a H st y s ∧ StoreAt K a H st eds ∧ EdsOk eds ∧ StOk eds s ∧ SqL K H l [v0, v1] ∧ FaV K H v0 [] ∧ FaV K H v1 f1 ∧ f1.length ≤ 1000 ∧ (∀ c ∈ f1, scOk eds c = true) ∧
  ∀ H', Ex H H' → Q (.bl true) H'
theorem scLawTold : FnScope ["_law_system_here", "_law_sets", "_law_told"] ["_law_system_here", "_law_sets"] (defScope s__law_are_told) := ⟨rfl, rfl, rfl, by decide +kernel, rfl, by decide +kernel, by decide +kernel⟩
theorem c_law_told (T : TX K mg a) : Cal P w K mg base 12 "_law_are_told" (spLawTold K a) [] := by
  refine calF T.d__law_are_told (fun _ _ _ _ _ _ us hl => match us, hl with | [_, _], _ => rfl) scLawTold (fun vs H Q E h => ?_) fun fa cdv A outer s0 H vs Q E hr h => ?_
  · obtain ⟨y, l, st, s, eds, v0, v1, f1, rfl, _⟩ := h
    rfl
  · obtain ⟨y, l, st, s, eds, v0, v1, f1, rfl, Sy, S, ok, hs, hl, hf0, hf1, hfl, hfok, k⟩ := h
    have hu := hu_of hr
    have hT := c_telling (P := P) (w := w) (base := base) T
    have hA := c_tells (P := P) (w := w) (base := base) T
    refine ⟨_, pss_cons (ps_set (i := 2) scLawTold.nd rfl (Or.inl rfl) (pe_cc hT hr (pa_cons (pv 0) (pa_cons (pv 1) (pa_cons pe_int pa_nil)))))
      (pss_cons (ps_if (pt_cmpR op_notN (pv 2) pe_non (nomark _))
        (pss_one (ps_if (pw_or (pt_cmpR (op_eqN hr.units) (pe_ix ix_list (pv 1) pe_int (fun _ _ => rfl)) (pe_tup pa_nil) (nomark _)) (pw_or (pt_not (pt_val (pe_cc hA hr (pa_cons (pv 0) (pa_cons (pv 2) (pa_cons (pv 1) pa_nil)))))) (pw_or1 (pt_val (pe_cc hA hr (pa_cons (pv 0) (pa_cons (pe_slice sl_list (pv 2) po_none (po_some (pe_un un_neg pe_int))) (pa_cons (pv 1) pa_nil)))))))).pt
          (pss_one (ps_ret pe_bl)) pss_nil)) pss_nil)
      (pss_one (ps_ret pe_bl))), ?_⟩
    have hok : ∀ fl ∈ [([] : List Sc), f1], fl.length ≤ 1000 ∧ ∀ c ∈ fl, scOk eds c = true := fun fl h => by
      rcases List.mem_cons.mp h with e | e
      · rw [e]; exact ⟨Nat.zero_le _, fun _ h => (by cases h)⟩
      · rw [List.mem_singleton.mp e]; exact ⟨hfl, hfok⟩
    refine ⟨_, rfl, _, rfl, y, l, 2, st, s, eds, v0, v1, [], f1, rfl, by decide, Sy, S, ok, hs, hl, hf0, hf1, hok, fun H1 e1 => ?_, fun v H1 e1 hg => ?_⟩
    · refine ⟨_, rfl, rfl, _, rfl, ?_⟩
      rw [decide_eq_true rfl]
      refine iteF ?_
      exact k H1 e1
    · obtain ⟨dl, ds, vs, rfl, hdl, hvs, hun, hne⟩ := hg
      have hd0 : ds ≠ [] := fun z => hun (by rw [z] <;> rfl)
      have hf0' : f1 ≠ [] := fun z => hun (by rw [z])
      have hun2 : ¬ Unl eds s [] f1 ds.dropLast := hne hd0
      obtain ⟨q1, rfl, ws, hq1, hws⟩ := id hf1
      have hl1 := sqL_extN (ExtN.of e1) hl
      have fz1 := Fz.ex e1
      refine ⟨_, rfl, rfl, _, rfl, ?_⟩
      rw [decide_eq_false (fun z => by cases z)]
      refine iteT ?_
      -- sets[1] == ()
      refine ⟨_, rfl, l, _, 1, _, rfl, rfl, hl1, rfl, (by show 0 ≤ sizeLine; decide), fun t ht => ?_⟩
      have e2 : Ex H1 (upd H1 t (.tup [])) := Ex.new ht
      have g2 : (upd H1 t (.tup [])) t = some (.tup []) := upd_same
      generalize upd H1 t (.tup []) = H2 at e2 g2 ⊢
      have e12 := e1.trans e2
      have fz2 := Fz.ex e12
      refine ⟨f1.map scKey, [], .tup (fz_t fz2 hq1) (sc_nks (hws.imp fun _ _ ⟨q, e, h⟩ => ⟨q, e, fz_t fz2 h⟩)), .tup (.inl (.inl g2)) .nil, ?_, ?_⟩
      · have : ∀ fl : List Sc, NestedKey.depthAll (fl.map scKey) ≤ 1 := by
          intro fl
          induction fl with
          | nil => exact Nat.zero_le _
          | cons c fl ih =>
            show max (NestedKey.depth (scKey c)) (NestedKey.depthAll (fl.map scKey)) ≤ 1
            have : NestedKey.depth (scKey c) = 1 := rfl
            omega
        exact Nat.le_trans (this f1) (by decide)
      rw [if_neg (by decide)]
      refine ⟨_, rfl, iteN (fun z => hf0' (List.map_eq_nil_iff.mp z)) ?_⟩
      -- tells_apart(told)
      refine ⟨_, rfl, _, rfl, _, rfl, y, dl, l, st, s, eds, ds, v0, .ref q1, [], f1, rfl, Sy.fz fz2, S.fz fz2, ok, hs, ⟨vs, SqL.of (e2 _ _ hdl), hvs.imp fun _ _ h => h.fz (Fz.ex e2)⟩, sqL_extN (ExtN.of e12) hl, hf0.fz fz2, hf1.fz fz2, hok, fun H3 e3 => ?_⟩
      refine ⟨_, rfl, ?_⟩
      rw [decide_eq_false hun]
      refine iteF ?_
      -- tells_apart(told[:-1])
      have e13 := e12.trans e3
      have fz3 := Fz.ex e13
      refine ⟨_, rfl, _, rfl, _, rfl, _, rfl, dl, vs, rfl, SqL.of (e3 _ _ (e2 _ _ hdl)), fun p hp => ?_⟩
      have e4 : Ex H3 (upd H3 p (.lst (cutV vs none (some (-1))))) := Ex.new hp
      have g4 : (upd H3 p (.lst (cutV vs none (some (-1))))) p = some (.lst vs.dropLast) := by rw [upd_same, cut_init]
      generalize upd H3 p (.lst (cutV vs none (some (-1)))) = H4 at e4 g4 ⊢
      have e14 := e13.trans e4
      have fz4 := Fz.ex e14
      have hdrop : All2 (DdAt K H4) vs.dropLast ds.dropLast := by
        rw [List.dropLast_eq_take, List.dropLast_eq_take, ← hvs.len]
        exact (hvs.imp fun _ _ h => h.fz (Fz.ex ((e2.trans e3).trans e4))).take _
      refine ⟨_, rfl, y, p, l, st, s, eds, ds.dropLast, v0, .ref q1, [], f1, rfl, Sy.fz fz4, S.fz fz4, ok, hs, ⟨_, SqL.of g4, hdrop⟩, sqL_extN (ExtN.of e14) hl, hf0.fz fz4, hf1.fz fz4, hok, fun H5 e5 => ?_⟩
      have hno : behA eds (Pf []) s ds.dropLast = behA eds (Pf f1) s ds.dropLast := Classical.not_not.mp hun2
      refine ⟨_, rfl, ?_⟩
      rw [decide_eq_true hno]
      refine iteF ?_
      exact k H5 (e14.trans e5)
end
end Hs
end
section
set_option Elab.async false
set_option linter.all false
set_option maxRecDepth 100000
set_option maxHeartbeats 4000000
namespace Hs
open PySem PySem.Spec PyProof.Rows L2
open C8 (Cal Met Mak InsC pe_c pe_mk pe_mt pe_mt0 pe_gc call_isC)
open LamX (TabB Tabs ExtN TabS)
open PySem.W (AllAlike Sortable dataLe)
open Evl (Ex)
/-! ### the law's plain part -/
theorem scs_filter {eds : List Ed} {s : St} {ds : List Dd} {scs fl : List Sc} (h : ScsOk eds s ds scs) : behA eds (Pf (scs.filter fun c => decide (c ∈ fl))) s ds = behA eds (Pf fl) s ds :=
  behA_congr fun c hc => by
    have hm : c.sc ∈ scs := (h.mem _).mpr ⟨c, hc, rfl⟩
    refine decide_eq_decide.mpr ?_
    rw [List.mem_filter]
    exact ⟨fun z => of_decide_eq_true z.2, fun z => ⟨hm, decide_eq_true z⟩⟩
theorem scs_inner {eds : List Ed} {s : St} {ds : List Dd} {scs fl : List Sc} (h : ScsOk eds s ds scs) (hl : fl.length < 3) : ∃ y ∈ expl (goodS eds s ds (behA eds (Pf fl) s ds)) scs 3, ∀ c ∈ y, c ∈ fl := by
  have hlen : (scs.filter fun c => decide (c ∈ fl)).length ≤ fl.length := nodup_le (h.nd.filter _) fun c hc => of_decide_eq_true (List.mem_filter.mp hc).2
  obtain ⟨y, hy, hp⟩ := expl_meets (good := goodS eds s ds (behA eds (Pf fl) s ds)) (scs := scs) (x := scs.filter fun c => decide (c ∈ fl)) (n := 3) List.filter_sublist (by omega) (decide_eq_true (scs_filter h))
  exact ⟨y, hy, fun c hc => of_decide_eq_true (List.mem_filter.mp (isPart_iff.mp hp c hc)).2⟩
def faKey (fl : List Sc) : NestedKey := .tup (fl.map scKey)
theorem faKey_inj {f g : List Sc} (h : faKey f = faKey g) : f = g := by
  unfold faKey at h
  injection h with h
  exact map_inj (fun _ _ => scKey_inj.mp) h
theorem depth_scs : ∀ fl : List Sc, NestedKey.depthAll (fl.map scKey) ≤ 1
  | [] => Nat.zero_le _
  | c :: fl => by
    show max (NestedKey.depth (scKey c)) (NestedKey.depthAll (fl.map scKey)) ≤ 1
    have h1 : NestedKey.depth (scKey c) = 1 := rfl
    have h2 := depth_scs fl
    omega
theorem depth_fas : ∀ fs : List (List Sc), NestedKey.depthAll (fs.map faKey) ≤ 2
  | [] => Nat.zero_le _
  | f :: fs => by
    show max (NestedKey.depth (faKey f)) (NestedKey.depthAll (fs.map faKey)) ≤ 2
    have h1 : NestedKey.depth (faKey f) = NestedKey.depthAll (f.map scKey) + 1 := rfl
    have h2 := depth_scs f
    have h3 := depth_fas fs
    omega
theorem fa_nk {K : PySem.W.Frag} {H : Hp} {p : Addr} {fl : List Sc} (h : FaAt K H p fl) : Nk K H (.ref p) (faKey fl) := by
  obtain ⟨vs, h1, h2⟩ := h
  exact .tup h1 (sc_nks h2)
theorem fa_nks {K : PySem.W.Frag} {H : Hp} : ∀ {vs : List V} {fs : List (List Sc)}, All2 (FaV K H) vs fs → NkAll K H vs (fs.map faKey)
  | _, _, .nil => .nil
  | _, _, .cons ⟨p, e, h⟩ t => .cons (e ▸ fa_nk h) (fa_nks t)
theorem behA_split {eds : List Ed} {P : Sc → Bool} {s : St} {ds : List Dd} (n : Nat) : behA eds P (behA eds P s (ds.take n)) (ds.drop n) = behA eds P s ds := by
  unfold behA
  rw [← List.foldl_append, List.take_append_drop]
theorem nil_in {good : List Sc → Bool} {scs : List Sc} : decide (NestedKey.tup [] ∈ (expl good scs 3).map faKey) = good [] := by
  have h : NestedKey.tup [] ∈ (expl good scs 3).map faKey ↔ good [] = true := by
    rw [← expl_nil (good := good) (scs := scs) (n := 3) (by decide)]
    constructor
    · intro z
      obtain ⟨f, hf, e⟩ := List.mem_map.mp z
      have : f = [] := faKey_inj (g := []) e
      rw [← this]
      exact hf
    · intro z
      exact List.mem_map.mpr ⟨[], z, rfl⟩
  cases hg : good [] with
  | true => exact decide_eq_true (h.mpr hg)
  | false => exact decide_eq_false fun z => by rw [h.mp z] at hg; cases hg
end Hs
end
section
set_option Elab.async false
set_option linter.all false
set_option maxRecDepth 100000
set_option maxHeartbeats 4000000
namespace Hs
open PySem PySem.Spec PyProof.Rows L2
open C8 (Cal Met Mak InsC pe_c pe_mk pe_mt pe_mt0 pe_gc call_isC)
open LamX (TabB Tabs ExtN TabS)
open PySem.W (AllAlike Sortable dataLe)
open Evl (Ex)
abbrev NLaw : List Str := ["_law_script", "_law_row", "_law_turn", "_law_store_here", "_law_system_here", "_law_every_one", "_law_deeds", "_law_faulty_here", "_law_later", "_law_some", "_law_quiet", "_law_early", "_law_before", "_law_most", "_law_found", "_law_inner", "_law_sets", "_law_k", "_law_one", "_law_part"]
theorem scLaw : FnScope NLaw ["_law_script"] (defScope s_law) := ⟨rfl, rfl, rfl, by decide +kernel, rfl, by decide +kernel, by decide +kernel⟩
def spLaw (K : PySem.W.Frag) (Pt : Addr) : Sp := fun vs H Q _ => ∃ (p : Addr) (ns : List Int), vs = [.ref p] ∧ SqL K H p (ns.map V.int) ∧ ns.length ≤ 63 ∧ Tabs (TtOf Pt) H ∧ ∀ H', Q (.bl true) H'
theorem pi_tupK {X : Cx} (K : PySem.W.Frag) {tg l : Expr} {tl : TE} (hK : X.K = K) (hl : PE X l tl) : PI X tg l (iTup K tl) := hK ▸ pi_tup hl
theorem op_eqEK {X : Cx} (K : PySem.W.Frag) (hK : X.K = K) (hu : X.A.units + 64 < cLine) : OpR X (compareOp .Eq) (rEqE K false) := hK ▸ op_eqE hu
theorem iteEE {x y : V} {A B : Prop} [Decidable (x = y)] (h : x = y) (b : B) : if (!decide (x = y)) = true then A else B := by
  rw [decide_eq_true h]
  exact iteF b
structure TurnB (K : PySem.W.Frag) (a : Ads) (Pt r sc st y D pf : Addr) (ns : List Int) (eds : List Ed) (s : Hs.St) (ds : List Dd) (fl : List Sc) (H : Hp) : Prop where
  R : RowAt K H r sc ns
  S : StoreAt K a H st eds
  Sy : SysOp K a H st y s
  Ds : DdsAt K H D ds
  Fa : FaAt K H pf fl
  tb : Tabs (TtOf Pt) H
theorem TurnB.ext {K : PySem.W.Frag} {a : Ads} {Pt r sc st y D pf : Addr} {ns : List Int} {eds : List Ed} {s : Hs.St} {ds : List Dd} {fl : List Sc} {H H' : Hp} (h : TurnB K a Pt r sc st y D pf ns eds s ds fl H) (e : ExtN H H') (t : Tabs (TtOf Pt) H') : TurnB K a Pt r sc st y D pf ns eds s ds fl H' :=
  ⟨h.R.extN e, h.S.fz (extN_fz e), h.Sy.fz (extN_fz e), h.Ds.extN e, h.Fa.fz (extN_fz e), t⟩
theorem TurnB.ex {K : PySem.W.Frag} {a : Ads} {Pt r sc st y D pf : Addr} {ns : List Int} {eds : List Ed} {s : Hs.St} {ds : List Dd} {fl : List Sc} {H H' : Hp} (h : TurnB K a Pt r sc st y D pf ns eds s ds fl H) (e : Ex H H') : TurnB K a Pt r sc st y D pf ns eds s ds fl H' :=
  h.ext (ExtN.of e) (tabs_ex e h.tb)
section
variable {P : Program} {w : World} {K : PySem.W.Frag} {mg : Str → Option Value} {base : Heap} {a : Ads}
set_option maxHeartbeats 0 in
theorem law_ok {c Pt f : Addr} {fd : FuncData} (T : TX K mg a) (D : DefC K mg "every_run" s_every_run c) (B : TabB base mg c Pt)
    (F : FunD K "law" "law" (defArgs s_law) (defBody s_law) (defScope s_law) [] [] f fd) : FnOk P w K mg base CX0 20 f fd ["_law_script"] (spLaw K Pt) := by
  refine F.ok scLaw (fun vs H Q E h => ?_) fun cdv A outer s0 H vs Q E hr h => ?_
  · obtain ⟨p, ns, rfl, _⟩ := h
    rfl
  · obtain ⟨sc, ns, rfl, hsc, hns, tabs, k⟩ := h
    have hu := hu_of hr
    have hTk := c_taken (P := P) (w := w) (base := base) T
    have hSt := c_law_store (P := P) (w := w) (base := base) T
    have hSy := c_law_sys (P := P) (w := w) (base := base) T
    have hDe := c_law_deed (P := P) (w := w) (base := base) T
    have hSc := c_law_scr (P := P) (w := w) (base := base) T
    have hFa := c_law_fau (P := P) (w := w) (base := base) T
    have hTo := c_law_told (P := P) (w := w) (base := base) T
    have hB := c_behF (P := P) (w := w) (base := base) T
    have hEn := c_ends (P := P) (w := w) (base := base) T D B
    have hEx := c_expl (P := P) (w := w) (base := base) T D B
    have hTe := c_tells (P := P) (w := w) (base := base) T
    have hE := m_sy_eq (P := P) (w := w) (base := base) T
    refine ⟨_, PSs.nox (pss_cons (ps_set (i := 1) scLaw.nd rfl (Or.inr rfl) (pe_lst (pa_cons (pv 0) (pa_cons pe_int (pa_cons pe_int (pa_cons pe_int pa_nil))))))
      (pss_cons (ps_for PassesOwn.never rfl (pi_range1 (by rfl) T.f_range (pa_cons pe_int pa_nil)) (pg_name (i := 2) scLaw.nd rfl (Or.inl rfl))
        -- the draws
        (pss_cons (ps_set (i := 3) scLaw.nd rfl (Or.inr rfl) (pe_cc hSt hr (pa_cons (pv 1) (pa_cons pe_int pa_nil))))
        (pss_cons (ps_asg (pe_tup (pa_cons (pe_cc hSy hr (pa_cons (pv 1) (pa_cons (pv 3) pa_nil))) (pa_cons (pe_cc hSc hr (pa_cons (pv 3) pa_nil)) pa_nil))) (pg_tup rfl (pgs_cons (pg_name (i := 4) scLaw.nd rfl (Or.inr rfl)) (pgs_cons (pg_name (i := 5) scLaw.nd rfl (Or.inl rfl)) pgs_nil))))
        (pss_cons (ps_asg (pe_tup (pa_cons (pe_lc (own := [("_law_k", 17)]) (g := gName 17) (tt := tYes) rfl scLaw.nd (pi_range1 (by rfl) T.f_range (pa_cons (pe_op op_add pe_int (pe_cc hTk hr (pa_cons (pv 1) (pa_cons pe_int pa_nil)))) pa_nil)) (blkOk_by (N := NLaw) (sc := defScope s_law) (by decide +kernel))
            (fun _ _ _ _ _ => pg_name (i := 17) scLaw.nd rfl (Or.inl rfl)) (fun _ _ _ _ _ => pts_nil) (fun _ _ _ _ _ => pe_cc hDe hr (pa_cons (pv 1) (pa_cons (pv 3) pa_nil))))
          (pa_cons (pe_cc hFa hr (pa_cons (pv 1) (pa_cons (pv 5) (pa_cons pe_int pa_nil)))) pa_nil))) (pg_tup rfl (pgs_cons (pg_name (i := 6) scLaw.nd rfl (Or.inr rfl)) (pgs_cons (pg_name (i := 7) scLaw.nd rfl (Or.inr rfl)) pgs_nil))))
        -- behind, ends
        (pss_cons (ps_asg (pe_tup (pa_cons (pe_cc hB hr (pa_cons (pv 4) (pa_cons (pv 6) (pa_cons (pv 7) pa_nil)))) (pa_cons (pe_cc hEn hr (pa_cons (pv 4) (pa_cons (pv 6) pa_nil))) pa_nil))) (pg_tup rfl (pgs_cons (pg_name (i := 8) scLaw.nd rfl (Or.inr rfl)) (pgs_cons (pg_name (i := 9) scLaw.nd rfl (Or.inl rfl)) pgs_nil))))
        (pss_cons (ps_asg (pe_tup (pa_cons (pe_cc hB hr (pa_cons (pv 4) (pa_cons (pv 6) (pa_cons (pe_tup pa_nil) pa_nil)))) (pa_cons (pe_cc hB hr (pa_cons (pv 4) (pa_cons (pe_slice sl_list (pv 6) po_none (po_some pe_int)) (pa_cons (pv 7) pa_nil)))) pa_nil))) (pg_tup rfl (pgs_cons (pg_name (i := 10) scLaw.nd rfl (Or.inr rfl)) (pgs_cons (pg_name (i := 11) scLaw.nd rfl (Or.inl rfl)) pgs_nil))))
        -- among what can come out
        (pss_cons (ps_if (pw_or (pt_cmpR (op_eqE hr.units) (pe_lc (own := [("_law_one", 18)]) (g := gName 18) rfl scLaw.nd (pi_list (pv 9)) (blkOk_by (N := NLaw) (sc := defScope s_law) (by decide +kernel))
              (fun _ _ _ _ _ => pg_name (i := 18) scLaw.nd rfl (Or.inl rfl)) (fun _ _ _ _ _ => pts_one (pt_cmpR (op_eqM hE hr (by decide)) (pv 18) (pv 8) (nomark _))) (fun _ _ _ _ _ => pv 18)) (pe_lst pa_nil) (nomark _))
            (pw_or1 (pt_cmpR (op_eqE hr.units) (pe_lc (own := [("_law_one", 18)]) (g := gName 18) rfl scLaw.nd (pi_list (pv 9)) (blkOk_by (N := NLaw) (sc := defScope s_law) (by decide +kernel))
              (fun _ _ _ _ _ => pg_name (i := 18) scLaw.nd rfl (Or.inl rfl)) (fun _ _ _ _ _ => pts_one (pt_cmpR (op_eqM hE hr (by decide)) (pv 18) (pv 10) (nomark _))) (fun _ _ _ _ _ => pv 18)) (pe_lst pa_nil) (nomark _)))).pt (pss_one (ps_ret pe_bl)) pss_nil)
        (pss_cons (ps_if (pw_or (pt_cmpR (op_neM hE hr (by decide) T.ne_sy T.sub_sy) (pe_cc hB hr (pa_cons (pv 11) (pa_cons (pe_slice sl_list (pv 6) (po_some pe_int) po_none) (pa_cons (pv 7) pa_nil)))) (pv 8) (nomark _))
            (pw_or1 (pt_cmpR (op_neM hE hr (by decide) T.ne_sy T.sub_sy) (pe_cc hB hr (pa_cons (pv 4) (pa_cons (pe_lst pa_nil) (pa_cons (pv 7) pa_nil)))) (pv 4) (nomark _)))).pt (pss_one (ps_ret pe_bl)) pss_nil)
        -- explanations
        (pss_cons (ps_set (i := 12) scLaw.nd rfl (Or.inl rfl) (pe_lst pa_nil))
        (pss_cons (ps_for PassesOwn.never rfl (pi_range1 (by rfl) T.f_range (pa_cons pe_int pa_nil)) (pg_name (i := 13) scLaw.nd rfl (Or.inr rfl))
          (pss_cons (ps_set (i := 14) scLaw.nd rfl (Or.inl rfl) (pe_cc hEx hr (pa_cons (pv 4) (pa_cons (pv 6) (pa_cons (pv 8) (pa_cons (pv 13) pa_nil))))))
          (pss_cons (ps_if (pw_or (pt_cmpR (op_neL hr.units) (pe_slice sl_list (pv 14) po_none (po_some (pe_callB call_len_seq (by rfl) T.f_len PySem.boot_len (pa_cons (pv 12) pa_nil)))) (pv 12) (nomark _))
              (pw_or1 (pt_cmpR (op_neE hr.units) (pe_lc (own := [("_law_one", 18)]) (g := gName 18) rfl scLaw.nd (pi_list (pe_slice sl_list (pv 14) (po_some (pe_callB call_len_seq (by rfl) T.f_len PySem.boot_len (pa_cons (pv 12) pa_nil))) po_none)) (blkOk_by (N := NLaw) (sc := defScope s_law) (by decide +kernel))
                (fun _ _ _ _ _ => pg_name (i := 18) scLaw.nd rfl (Or.inl rfl)) (fun _ _ _ _ _ => pts_one (pt_cmpR op_ne (pe_callB (cr_lenK K rfl) (by rfl) T.f_len PySem.boot_len (pa_cons (pv 18) pa_nil)) (pv 13) (nomark _))) (fun _ _ _ _ _ => pv 18)) (pe_lst pa_nil) (nomark _)))).pt (pss_one (ps_ret pe_bl)) pss_nil)
          (pss_cons (ps_if (pt_cmpR (op_neE hr.units) (pe_lc (own := [("_law_one", 18)]) (g := gName 18) rfl scLaw.nd (pi_list (pv 14)) (blkOk_by (N := NLaw) (sc := defScope s_law) (by decide +kernel))
                (fun _ _ _ _ _ => pg_name (i := 18) scLaw.nd rfl (Or.inl rfl)) (fun _ _ _ _ _ => pts_one (pt_cmpR (op_neM hE hr (by decide) T.ne_sy T.sub_sy) (pe_cc hB hr (pa_cons (pv 4) (pa_cons (pv 6) (pa_cons (pv 18) pa_nil)))) (pv 8) (nomark _))) (fun _ _ _ _ _ => pv 18)) (pe_lst pa_nil) (nomark _)) (pss_one (ps_ret pe_bl)) pss_nil)
          (pss_one (ps_set (i := 12) scLaw.nd rfl (Or.inl rfl) (pv 14)))))))
        (pss_cons (ps_if (pt_cmpR op_ne (pe_cmpR (op_inN hr.units) (pe_tup pa_nil) (pv 12) rfl) (pe_cmpR (op_eqM hE hr (by decide)) (pv 10) (pv 8) rfl) (nomark _)) (pss_one (ps_ret pe_bl)) pss_nil)
        (pss_cons (ps_setLc (i := 15) (own := [("_law_one", 18)]) (g := gName 18) rfl scLaw.nd rfl rfl (sw_true rfl rfl rfl (by decide +kernel)) (pi_list (pv 12)) (blkOk_by (N := NLaw) (sc := defScope s_law) (by decide +kernel))
          (fun _ _ _ _ _ => pg_name (i := 18) scLaw.nd rfl (Or.inl rfl)) (fun _ _ _ _ _ => pts_one (pt_cmpR (op_eqEK K rfl hr.units) (pe_lc (own := [("_law_part", 19)]) (g := gName 19) rfl scLaw.nd (pi_tupK K rfl (pv 18)) (blkOk_by (by rfl))
            (fun _ _ _ _ _ => pg_name (i := 19) scLaw.nd rfl (Or.inl rfl)) (fun _ _ _ _ _ => pts_one (pt_cmpR (op_ninNK K rfl hr.units) (pv 19) (pv 7) rfl)) (fun _ _ _ _ _ => pv 19)) (pe_lst pa_nil) (nomark _))) (fun _ _ _ _ _ => pv 18))
        (pss_cons (ps_if (pw_and (pt_cmpR op_lt (pe_callB call_len_seq (by rfl) T.f_len PySem.boot_len (pa_cons (pv 7) pa_nil)) pe_int (nomark _)) (pw_and1 (pt_cmpR (op_eqE hr.units) (pv 15) (pe_lst pa_nil) (nomark _)))).pt (pss_one (ps_ret pe_bl)) pss_nil)
        -- told apart
        (pss_cons (ps_set (i := 16) scLaw.nd rfl (Or.inl rfl) (pe_lst (pa_cons (pe_tup pa_nil) (pa_cons (pv 7) pa_nil))))
        (pss_cons (ps_if (pt_cmpR op_ne (pe_cc hTe hr (pa_cons (pv 4) (pa_cons (pv 6) (pa_cons (pv 16) pa_nil)))) (pe_cmpR (op_neM hE hr (by decide) T.ne_sy T.sub_sy) (pv 8) (pv 10) rfl) (nomark _)) (pss_one (ps_ret pe_bl)) pss_nil)
        (pss_one (ps_if (pt_not (pt_val (pe_cc hTo hr (pa_cons (pv 4) (pa_cons (pv 16) pa_nil))))) (pss_one (ps_ret pe_bl)) pss_nil)))))))))))))))))
      (pss_one (ps_ret pe_bl)))), ?_⟩
    -- the row
    refine ⟨_, rfl, (by show 4 ≤ sizeLine; decide), fun r hr0 => ?_⟩
    have e1 : Ex H (upd H r (.lst [.ref sc, .int 0, .int 0, .int 0])) := Ex.new hr0
    have hR1 : RowAt K (upd H r (.lst [.ref sc, .int 0, .int 0, .int 0])) r sc ns := by
      refine ⟨0, 0, 0, upd_same, sqL_extN (ExtN.of e1) hsc, ?_, Int.le_refl _⟩
      rcases hsc with (h | ⟨u, h⟩) | h
      · exact .inl (ne_of_none h hr0)
      · exact .inl (ne_of_none h hr0)
      · exact .inr fun _ => .inr h
    have tabs1 := tabs_ex e1 tabs
    generalize upd H r (.lst [.ref sc, .int 0, .int 0, .int 0]) = H1 at hR1 tabs1 ⊢
    refine ⟨2, rfl, by decide, by decide, for_it walk_range (fun i σ H' => ∃ v2 v3 v4 v5 v6 v7 v8 v9 v10 v11 v12 v13 v14 v15 v16, σ = [some (.ref sc), some (.ref r), v2, v3, v4, v5, v6, v7, v8, v9, v10, v11, v12, v13, v14, v15, v16, none, none, none] ∧ RowAt K H' r sc ns ∧ Tabs (TtOf Pt) H')
      ⟨_, _, _, _, _, _, _, _, _, _, _, _, _, _, _, rfl, hR1, tabs1⟩ (fun _ _ _ _ _ => trivial) ?_ ?_⟩
    rotate_left
    · rintro σ H' _
      exact k H'
    rintro turn x σ H0' H2 hturn ⟨v2, v3, v4, v5, v6, v7, v8, v9, v10, v11, v12, v13, v14, v15, v16, rfl, hR2, tabs2⟩ ⟨rfl, rfl⟩
    -- the store, the system, the scripts
    refine ⟨_, rfl, r, sc, ns, rfl, hR2, fun st eds H3 e3 hR3 S3 ok dat => ?_⟩
    obtain ⟨xr2, hxr2⟩ := hR2.at
    have tabs3 := tabs_exb e3 hxr2 tabs2
    refine ⟨_, rfl, _, rfl, r, sc, st, ns, eds, rfl, hR3, S3, ok, fun y s H4 e4 hR4 Sy4 hs => ?_⟩
    obtain ⟨xr3, hxr3⟩ := hR3.at
    have tabs4 := tabs_exb e4 hxr3 tabs3
    have S4 := S3.fz (hR3.i.fz e4)
    refine ⟨_, rfl, st, eds, rfl, S4, ok, dat, fun l xs cs H5 e5 hl5 hxs hc8 hsok => ?_⟩
    refine ⟨(by show 2 ≤ sizeLine; decide), fun t1 ht1 => ?_⟩
    have e46 : Ex H4 (upd H5 t1 (.tup [.ref y, .ref l])) := e5.trans (Ex.new ht1)
    have gt1 : (upd H5 t1 (.tup [.ref y, .ref l])) t1 = some (.tup [.ref y, .ref l]) := upd_same
    have hl6 : (upd H5 t1 (.tup [.ref y, .ref l])) l = some (.lst xs) := Ex.new ht1 _ _ hl5
    have hxs6 := hxs.imp fun _ _ h => ScV.fz (Fz.new (o := .tup [.ref y, .ref l]) ht1) h
    generalize upd H5 t1 (.tup [.ref y, .ref l]) = H6 at e46 gt1 hl6 hxs6 ⊢
    have hR6 := hR4.ex e46
    have S6 := S4.fz (Fz.ex e46)
    have Sy6 := Sy4.fz (Fz.ex e46)
    have tabs6 := tabs_ex e46 tabs4
    refine ⟨t1, _, rfl, .inl (.inl gt1), rfl, _, _, rfl, _, _, rfl, rfl, ?_⟩
    have hlr : l ≠ r := by
      intro z0
      subst z0
      obtain ⟨i0, j0, m0, hrow, _⟩ := hR6
      rw [hl6] at hrow
      injection (Option.some.inj hrow) with e0
      rw [e0] at hxs6
      cases hxs6 with
      | cons _ t0 =>
        cases t0 with
        | cons h0 _ =>
          obtain ⟨q0, hq0, _⟩ := h0
          cases hq0
    -- the deeds
    refine ⟨_, rfl, r, sc, ns, 3, rfl, hR6, by decide, by decide, fun n H7 e7 hR7 hn0 hn3 => ?_⟩
    have hn3' : n < 3 := hn3
    refine ⟨_, _, rfl, rfl, _, rfl, by show -(2 ^ 62) ≤ (1 : Int) + n; omega, by show (1 : Int) + n < 2 ^ 62; omega, ?_⟩
    have fz67 := hR6.i.fz e7
    have S7 := S6.fz fz67
    refine fun D hD => lc_it walk_range (fun i H' => DrawI H7 H' r sc D ∧ ∃ us ds, H' D = some (.lst us) ∧ All2 (DdAt K H') us ds ∧ us.length ≤ i) ⟨DrawI.start hR7.i hD, [], [], upd_same, .nil, Nat.le_refl _⟩ (fun _ _ _ _ => trivial) ?_ ?_
    · rintro i x H' H'' hi ⟨dr, us, ds, hd, hus, hul⟩ ⟨rfl, rfl⟩
      have hi3 : i < 3 := by omega
      refine ⟨rfl, yes_ok ?_⟩
      refine ⟨_, rfl, _, rfl, r, sc, st, ns, eds, rfl, hR7.of dr.ex dr.row, S7.fz (hR7.i.fz dr.ex), ok, fun p d H9 e9 hR9 hp => ?_⟩
      have hd9 := e9 _ _ hd dr.nD.symm
      have fz9 := dr.row.fz e9
      have fzp : Fz H9 (upd H9 D (.lst (us ++ [.ref p]))) := Fz.put hd9 rfl
      refine ⟨us, hd9, by rw [sizeLine_eq]; omega, (dr.step e9 hR9.i).put hD, us ++ [.ref p], ds ++ [d], upd_same, (hus.imp fun _ _ h => (h.fz fz9).fz fzp).app (.cons ⟨p, rfl, fz_t fzp hp⟩ .nil), ?_⟩
      rw [List.length_append]
      simp only [List.length_cons, List.length_nil]
      omega
    rintro H8 ⟨dr, us, ds, hd8, hus, hul⟩
    have hR8 := hR7.of dr.ex dr.row
    have fz68 := fz67.trans (hR7.i.fz dr.ex)
    have hus3 : us.length ≤ 3 := by
      have : (1 + n).toNat ≤ 3 := by omega
      omega
    have hdl3 : ds.length ≤ 3 := by rw [← hus.len]; exact hus3
    -- the faulty scripts
    refine ⟨_, rfl, _, rfl, r, sc, l, ns, xs, cs, (fun c => scOk eds c = true), rfl, hR8, dr.ex _ _ (e7 _ _ hl6 hlr) hlr, hlr, hxs6.imp fun _ _ h => ScV.fz fz68 h, hc8, hsok, fun pf fl H9 e9 hR9 hfa9 hfl3 hfok => ?_⟩
    refine ⟨(by show 2 ≤ sizeLine; decide), fun t2 ht2 => ?_⟩
    have hd9 := e9 _ _ hd8 dr.nD.symm
    have fz69 := fz68.trans (hR8.i.fz e9)
    have tabs9 : Tabs (TtOf Pt) H9 := by
      obtain ⟨q6, hq6⟩ := hR6.at
      obtain ⟨q7, hq7⟩ := hR7.at
      obtain ⟨q8, hq8⟩ := hR8.at
      exact tabs_exb e9 hq8 (tabs_exb dr.ex hq7 (tabs_exb e7 hq6 tabs6))
    have e9A : Ex H9 (upd H9 t2 (.tup [.ref D, .ref pf])) := Ex.new ht2
    have gt2 : (upd H9 t2 (.tup [.ref D, .ref pf])) t2 = some (.tup [.ref D, .ref pf]) := upd_same
    generalize upd H9 t2 (.tup [.ref D, .ref pf]) = HA at e9A gt2 ⊢
    refine ⟨t2, _, rfl, .inl (.inl gt2), rfl, _, _, rfl, _, _, rfl, rfl, ?_⟩
    have fz6A := fz69.trans (Fz.ex e9A)
    have RA := hR9.ex e9A
    have SA := S6.fz fz6A
    have SyA := Sy6.fz fz6A
    have tabsA := tabs_ex e9A tabs9
    have hDA := e9A _ _ hd9
    have husA := hus.imp fun _ _ h => DdAt.fz ((hR8.i.fz e9).trans (Fz.ex e9A)) h
    have hfaA := hfa9.fz (Fz.ex e9A)
    have hdsA : DdsAt K HA D ds := ⟨us, SqL.of hDA, husA⟩
    clear dr hus hd8 hd9 hfa9 tabs9 fz69 fz68 fz67 gt2 e9A hR9 hR8 e9 hR7 e7 S7 hxs6 hl6 gt1 tabs6 Sy6 S6 hR6 e46 hxs hl5 e5 S4 tabs4 Sy4 hR4 e4 tabs3 S3 hR3 e3 hsok hc8 hD
    have BA : TurnB K a Pt r sc st y D pf ns eds s ds fl HA := ⟨RA, SA, SyA, hdsA, hfaA, tabsA⟩
    clear RA SA SyA hdsA hfaA tabsA hDA husA
    -- later, some
    refine ⟨_, rfl, _, rfl, _, rfl, y, D, pf, st, s, eds, ds, fl, rfl, BA.Sy, BA.S, ok, hs, BA.Ds, BA.Fa, hfok, fun z HB eB hz => ?_⟩
    have BB := BA.ex eB
    refine ⟨_, rfl, _, rfl, y, D, st, s, eds, ds, rfl, BB.Sy, BB.S, ok, hs, BB.Ds, BB.tb, fun ls ys ss HC nC tabsC hls hyl hys hmem => ?_⟩
    have BC := BB.ext nC tabsC
    have hzC := hz.fz (extN_fz nC)
    refine ⟨(by show 2 ≤ sizeLine; decide), fun t3 ht3 => ?_⟩
    have eC := Ex.new (o := .tup [.ref z, .ref ls]) ht3
    have BD := BC.ex eC
    have gt3 : (upd HC t3 (.tup [.ref z, .ref ls])) t3 = some (.tup [.ref z, .ref ls]) := upd_same
    have hzD := hzC.fz (Fz.ex eC)
    have hlsD := eC _ _ hls
    have hysD := hys.imp fun _ _ h => SyV.fz (Fz.ex eC) h
    generalize upd HC t3 (.tup [.ref z, .ref ls]) = HD at BD gt3 hzD hlsD hysD ⊢
    clear BA BB BC eB nC tabsC hls hys eC hzC hz
    refine ⟨t3, _, rfl, .inl (.inl gt3), rfl, _, _, rfl, _, _, rfl, rfl, ?_⟩
    -- quiet, early
    refine ⟨_, rfl, _, rfl, (by show 0 ≤ sizeLine; decide), fun t4 ht4 => ?_⟩
    have e4 := Ex.new (o := .tup []) ht4
    have B4 := BD.ex e4
    refine ⟨y, D, t4, st, s, eds, ds, [], rfl, B4.Sy, B4.S, ok, hs, B4.Ds, ⟨[], .inl (.inl upd_same), .nil⟩, fun _ h => (by cases h), fun q HE eE hq => ?_⟩
    have eDE := e4.trans eE
    have BE := BD.ex eDE
    have hzE := hzD.fz (Fz.ex eDE)
    have hlsE := eDE _ _ hlsD
    have hysE := hysD.imp fun _ _ h => SyV.fz (Fz.ex eDE) h
    obtain ⟨dvs, hdv, hdd⟩ := BE.Ds
    refine ⟨_, rfl, _, rfl, _, rfl, D, dvs, rfl, hdv, fun p5 hp5 => ?_⟩
    have hcut1 : cutV dvs none (some (1 : Int)) = dvs.take 1 := cut_to (k := 1)
    have e5 := Ex.new (o := .lst (cutV dvs none (some (1 : Int)))) hp5
    have g5 : (upd HE p5 (.lst (cutV dvs none (some (1 : Int))))) p5 = some (.lst (dvs.take 1)) := by rw [upd_same, hcut1]
    have B5 := BE.ex e5
    refine ⟨_, rfl, y, p5, pf, st, s, eds, ds.take 1, fl, rfl, B5.Sy, B5.S, ok, hs, ⟨_, SqL.of g5, (hdd.imp fun _ _ h => h.fz (Fz.ex e5)).take 1⟩, B5.Fa, hfok, fun ea HF eF hea => ?_⟩
    have eEF := e5.trans eF
    refine ⟨(by show 2 ≤ sizeLine; decide), fun t6 ht6 => ?_⟩
    have e6 := Ex.new (o := .tup [.ref q, .ref ea]) ht6
    have eEG := eEF.trans e6
    have BG := BE.ex eEG
    have hzG := hzE.fz (Fz.ex eEG)
    have hqG := hq.fz (Fz.ex eEG)
    have heaG := hea.fz (Fz.ex e6)
    have hlsG := eEG _ _ hlsE
    have hysG := hysE.imp fun _ _ h => SyV.fz (Fz.ex eEG) h
    have gt6 : (upd HF t6 (.tup [.ref q, .ref ea])) t6 = some (.tup [.ref q, .ref ea]) := upd_same
    generalize upd HF t6 (.tup [.ref q, .ref ea]) = HG at BG hzG hqG heaG hlsG hysG gt6 ⊢
    clear BD BE B4 B5 e4 e5 eE eDE eF eEF e6 eEG hzD hzE hq hea hlsD hlsE hysD hysE hdv hdd g5
    refine ⟨t6, _, rfl, .inl (.inl gt6), rfl, _, _, rfl, _, _, rfl, rfl, ?_⟩
    -- both can come out
    have hin1 : behA eds (Pf fl) s ds ∈ ss := (hmem _).mpr behA_rch
    have hin2 : behA eds (Pf []) s ds ∈ ss := (hmem _).mpr behA_rch
    generalize hsl : behA eds (Pf fl) s ds = sl at hzG hin1
    generalize hsq : behA eds (Pf []) s ds = sq at hqG hin2
    have hysl := hysG.len
    refine ⟨_, rfl, ls, rfl, ⟨ys, SqL.of hlsG⟩, fun DD hDD => lc_list (xs := ys) (fun i H' => Ex HG H' ∧ ∃ zs, H' DD = some (.lst zs) ∧ zs.length ≤ i ∧ (zs = [] → sl ∉ ss.take i)) ⟨Ex.new hDD, [], upd_same, Nat.le_refl _, fun _ => by simp⟩ (fun i H' _ q => SqL.of (q.1 _ _ hlsG)) ?_ ?_⟩
    · rintro i v H' hv ⟨e1, zs, hd, hzl, hno⟩
      obtain ⟨s2, hs2, z2, rfl, hz2⟩ := hysG.get hv
      have hz2 := hz2.fz (Fz.ex e1)
      have hzH := hzG.fz (Fz.ex e1)
      obtain ⟨d1, r1, t1, g1, _, _⟩ := id hz2
      obtain ⟨d2, r2, t2, g2, _, _⟩ := id hzH
      refine ⟨rfl, ?_⟩
      refine ⟨_, rfl, _, rfl, z2, d1, _, z, d2, _, rfl, rfl, g1, g2, z2, z, st, s2, sl, eds, rfl, hz2, hzH, (BG.ex e1).S, _, rfl, _, rfl, ?_⟩
      rw [if_neg (by decide)]
      by_cases c1 : s2 = sl
      · refine iteP c1 ⟨_, rfl, zs, hd, ?_, e1.mut hDD, _, upd_same, ?_, fun h => by simp at h⟩
        · have := (List.getElem?_eq_some_iff.mp hv).1
          rw [sizeLine_eq]
          omega
        · rw [List.length_append]; exact Nat.succ_le_succ hzl
      · refine iteN c1 ⟨e1, zs, hd, Nat.le_succ_of_le hzl, fun h => ?_⟩
        rw [List.take_succ, hs2]
        intro hm
        rcases List.mem_append.mp hm with hm | hm
        · exact hno h hm
        · exact c1 (List.mem_singleton.mp hm).symm
    rintro HI ⟨eI, zs, hdI, _, hnoI⟩
    refine ⟨(by show 0 ≤ sizeLine; decide), fun n1 hn1 => ?_⟩
    refine ⟨DD, n1, zs, rfl, rfl, SqL.of (Ex.new hn1 _ _ hdI), SqL.of upd_same, ?_⟩
    have hz0 : zs ≠ [] := fun h => hnoI h (by rw [hysl, List.take_length]; exact hin1)
    refine ⟨_, rfl, ?_⟩
    rw [if_neg (by decide)]
    refine iteN hz0 ?_
    have eI2 := eI.trans (Ex.new (o := .lst []) hn1)
    generalize upd HI n1 (.lst []) = HJ at eI2 ⊢
    have BJ := BG.ex eI2
    have hzJ := hzG.fz (Fz.ex eI2)
    have hqJ := hqG.fz (Fz.ex eI2)
    have heaJ := heaG.fz (Fz.ex eI2)
    have hlsJ := eI2 _ _ hlsG
    have hysJ := hysG.imp fun _ _ h => SyV.fz (Fz.ex eI2) h
    clear BG hzG hqG heaG hlsG hysG eI hnoI hz0 hdI hDD
    refine ⟨_, rfl, ls, rfl, ⟨ys, SqL.of hlsJ⟩, fun DD2 hDD2 => lc_list (xs := ys) (fun i H' => Ex HJ H' ∧ ∃ zs, H' DD2 = some (.lst zs) ∧ zs.length ≤ i ∧ (zs = [] → sq ∉ ss.take i)) ⟨Ex.new hDD2, [], upd_same, Nat.le_refl _, fun _ => by simp⟩ (fun i H' _ q => SqL.of (q.1 _ _ hlsJ)) ?_ ?_⟩
    · rintro i v H' hv ⟨e1, zs, hd, hzl, hno⟩
      obtain ⟨s2, hs2, z2, rfl, hz2⟩ := hysJ.get hv
      have hz2 := hz2.fz (Fz.ex e1)
      have hzH := hqJ.fz (Fz.ex e1)
      obtain ⟨d1, r1, t1, g1, _, _⟩ := id hz2
      obtain ⟨d2, r2, t2, g2, _, _⟩ := id hzH
      refine ⟨rfl, ?_⟩
      refine ⟨_, rfl, _, rfl, z2, d1, _, q, d2, _, rfl, rfl, g1, g2, z2, q, st, s2, sq, eds, rfl, hz2, hzH, (BJ.ex e1).S, _, rfl, _, rfl, ?_⟩
      rw [if_neg (by decide)]
      by_cases c1 : s2 = sq
      · refine iteP c1 ⟨_, rfl, zs, hd, ?_, e1.mut hDD2, _, upd_same, ?_, fun h => by simp at h⟩
        · have := (List.getElem?_eq_some_iff.mp hv).1
          rw [sizeLine_eq]
          omega
        · rw [List.length_append]; exact Nat.succ_le_succ hzl
      · refine iteN c1 ⟨e1, zs, hd, Nat.le_succ_of_le hzl, fun h => ?_⟩
        rw [List.take_succ, hs2]
        intro hm
        rcases List.mem_append.mp hm with hm | hm
        · exact hno h hm
        · exact c1 (List.mem_singleton.mp hm).symm
    rintro HK ⟨eK, zs2, hdK, _, hnoK⟩
    refine ⟨(by show 0 ≤ sizeLine; decide), fun n2 hn2 => ?_⟩
    refine ⟨DD2, n2, zs2, rfl, rfl, SqL.of (Ex.new hn2 _ _ hdK), SqL.of upd_same, ?_⟩
    have hz2 : zs2 ≠ [] := fun h => hnoK h (by rw [hysl, List.take_length]; exact hin2)
    refine ⟨_, rfl, ?_⟩
    rw [if_neg (by decide)]
    refine iteN hz2 ?_
    have eK2 := eK.trans (Ex.new (o := .lst []) hn2)
    generalize upd HK n2 (.lst []) = HL at eK2 ⊢
    have BL := BJ.ex eK2
    have hzL := hzJ.fz (Fz.ex eK2)
    have hqL := hqJ.fz (Fz.ex eK2)
    have heaL := heaJ.fz (Fz.ex eK2)
    clear BJ hzJ hqJ heaJ hlsJ hysJ eK hnoK hz2 hdK hDD2
    -- behind in two
    obtain ⟨dvs2, hdv2, hdd2⟩ := BL.Ds
    refine ⟨_, rfl, _, rfl, _, rfl, D, dvs2, rfl, hdv2, fun p7 hp7 => ?_⟩
    have hcut2 : cutV dvs2 (some (1 : Int)) none = dvs2.drop 1 := cut_from (k := 1)
    have e7 := Ex.new (o := .lst (cutV dvs2 (some (1 : Int)) none)) hp7
    have g7 : (upd HL p7 (.lst (cutV dvs2 (some (1 : Int)) none))) p7 = some (.lst (dvs2.drop 1)) := by rw [upd_same, hcut2]
    have B7 := BL.ex e7
    refine ⟨_, rfl, ea, p7, pf, st, behA eds (Pf fl) s (ds.take 1), eds, ds.drop 1, fl, rfl, heaL.fz (Fz.ex e7), B7.S, ok, ?_, ⟨_, SqL.of g7, (hdd2.imp fun _ _ h => h.fz (Fz.ex e7)).drop 1⟩, B7.Fa, hfok, fun ez HM eM hez => ?_⟩
    · exact behA_ok hs
    rw [behA_split 1, hsl] at hez
    have e7M := e7.trans eM
    have BM := BL.ex e7M
    have hzM := hzL.fz (Fz.ex e7M)
    obtain ⟨d1, r1, t1, g1, _, _⟩ := id hez
    obtain ⟨d2, r2, t2, g2, _, _⟩ := id hzM
    refine ⟨_, rfl, ez, d1, _, z, d2, _, rfl, rfl, g1, g2, ez, z, st, sl, sl, eds, rfl, hez, hzM, BM.S, _, rfl, _, rfl, ?_⟩
    rw [if_pos rfl, decide_eq_true rfl]
    refine iteF ?_
    refine ⟨_, rfl, (by show 0 ≤ sizeLine; decide), fun p8 hp8 => ?_⟩
    have e8 := Ex.new (o := .lst []) hp8
    have B8 := BM.ex e8
    refine ⟨_, rfl, y, p8, pf, st, s, eds, [], fl, rfl, B8.Sy, B8.S, ok, hs, ⟨[], SqL.of upd_same, .nil⟩, B8.Fa, hfok, fun ez2 HN eN hez2 => ?_⟩
    have eMN := e8.trans eN
    have BN := BM.ex eMN
    obtain ⟨d1, r1, t1, g1, _, _⟩ := id hez2
    obtain ⟨d2, r2, t2, g2, _, _⟩ := id BN.Sy
    refine ⟨_, rfl, ez2, d1, _, y, d2, _, rfl, rfl, g1, g2, ez2, y, st, s, s, eds, rfl, hez2, BN.Sy, BN.S, _, rfl, _, rfl, ?_⟩
    rw [if_pos rfl, decide_eq_true rfl]
    refine iteF ?_
    have eLN := e7M.trans eMN
    have hzN := hzL.fz (Fz.ex eLN)
    have hqN := hqL.fz (Fz.ex eLN)
    clear BL BM B7 B8 e7 e8 eM eN eMN e7M eLN hzL hqL heaL hdv2 hdd2 g7 hez hez2 hzM g1 g2
    -- the explanations
    refine ⟨(by show 0 ≤ sizeLine; decide), fun B0 hB0 => ?_⟩
    have eO := Ex.new (o := .lst []) hB0
    have BO := BN.ex eO
    have hzO := hzN.fz (Fz.ex eO)
    have hqO := hqN.fz (Fz.ex eO)
    have gB0 : (upd HN B0 (.lst [])) B0 = some (.lst []) := upd_same
    generalize upd HN B0 (.lst []) = HO at BO hzO hqO gB0 ⊢
    clear BN hzN hqN eO
    refine ⟨3, rfl, by decide, by decide, for_it walk_range (fun i σ H' => ∃ Bf v13 v14 bs fs, σ = [some (.ref sc), some (.ref r), some (.int ((0 : Int) + (turn : Nat))), some (.ref st), some (.ref y), some (.ref l), some (.ref D), some (.ref pf), some (.ref z), some (.ref ls), some (.ref q), some (.ref ea), some (.ref Bf), v13, v14, v15, v16, none, none, none] ∧ ExtN HO H' ∧ Tabs (TtOf Pt) H' ∧ H' Bf = some (.lst bs) ∧ All2 (FaV K H') bs fs ∧ fs.length ≤ 1024 ∧ (∀ scs, ScsOk eds s ds scs → fs = expl (goodS eds s ds sl) scs i) ∧ (0 < i → ∃ scs, ScsOk eds s ds scs))
      ⟨B0, _, _, [], [], rfl, ExtN.of (Ex.refl _), BO.tb, gB0, .nil, Nat.zero_le _, fun _ _ => rfl, fun h => absurd h (by decide)⟩ (fun _ _ _ _ _ => trivial) ?_ ?_⟩
    · rintro i x σ H0 H1 hi ⟨Bf, v13, v14, bs, fs, rfl, nE, tabs1, hBf, hbs, hfl24, huq, hex⟩ ⟨rfl, rfl⟩
      have B1 := BO.ext nE tabs1
      have hz1 := hzO.fz (extN_fz nE)
      have ei : ((0 : Int) + (i : Nat)) = (i : Nat) := by omega
      refine ⟨_, rfl, _, rfl, _, rfl, _, rfl, y, D, z, i, st, s, sl, eds, ds, (by show [V.ref y, V.ref D, V.ref z, V.int ((0 : Int) + (i : Nat))] = _; rw [ei]), by omega, B1.Sy, hz1, B1.S, ok, hs, B1.Ds, by omega, B1.tb, fun fo xs scs H2 nF tabs2 hfo sok hxs => ?_⟩
      have B2 := B1.ext nF tabs2
      have hz2 := hz1.fz (extN_fz nF)
      have hBf2 := nF _ _ hBf (fun _ z => nomatch z)
      have hbs2 := hbs.imp fun _ _ h => FaV.fz (extN_fz nF) h
      obtain rfl := huq scs sok
      obtain ⟨m, hm1, hm2⟩ := expl_next (good := goodS eds s ds sl) (scs := scs) i
      have h8 := sok.few ok hs
      have h1024 : (expl (goodS eds s ds sl) scs (i + 1)).length ≤ 1024 := by
        have a1 := expl_count (good := goodS eds s ds sl) (scs := scs) (i + 1)
        have a2 : 2 ^ scs.length ≤ 2 ^ 8 := Nat.pow_le_pow_right (by decide) h8
        have a3 : (i + 1) * 2 ^ scs.length ≤ 4 * 2 ^ 8 := Nat.mul_le_mul (by omega) a2
        omega
      have hbl := hbs.len
      have hxl := hxs.len
      -- found[:len(before)] != before
      refine ⟨_, rfl, _, rfl, Bf, bs, rfl, .inl (SqL.of hBf2), ?_⟩
      refine ⟨_, rfl, fo, xs, rfl, SqL.of hfo, fun p3 hp3 => ?_⟩
      have hcut3 : cutV xs none (some (bs.length : Int)) = xs.take bs.length := cut_to (k := bs.length)
      have e3 := Ex.new (o := .lst (cutV xs none (some (bs.length : Int)))) hp3
      have g3 : (upd H2 p3 (.lst (cutV xs none (some (bs.length : Int))))) p3 = some (.lst (xs.take bs.length)) := by rw [upd_same, hcut3]
      generalize upd H2 p3 (.lst (cutV xs none (some (bs.length : Int)))) = H3 at e3 g3 ⊢
      have hxs3 := hxs.imp fun _ _ h => FaV.fz (Fz.ex e3) h
      have hbs3 := hbs2.imp fun _ _ h => FaV.fz (Fz.ex e3) h
      have hBf3 := e3 _ _ hBf2
      have hfo3 := e3 _ _ hfo
      have htk : (expl (goodS eds s ds sl) scs (i + 1)).take bs.length = expl (goodS eds s ds sl) scs i := by
        rw [hm1, hbl, List.take_left']
        rfl
      have hdk : (expl (goodS eds s ds sl) scs (i + 1)).drop bs.length = m := by
        rw [hm1, hbl, List.drop_left']
        rfl
      refine ⟨_, rfl, p3, Bf, xs.take bs.length, bs, _, _, rfl, rfl, SqL.of g3, SqL.of hBf3, fa_nks (hxs3.take bs.length), fa_nks hbs3, ?_, ?_⟩
      · exact Nat.le_trans (depth_fas _) (by decide)
      refine ⟨_, rfl, ?_⟩
      rw [htk, if_pos rfl, decide_eq_true rfl]
      refine iteF ?_
      -- the rest have just that many
      refine ⟨_, rfl, _, rfl, Bf, bs, rfl, .inl (SqL.of hBf3), ?_⟩
      refine ⟨_, rfl, fo, xs, rfl, SqL.of hfo3, fun p4 hp4 => ?_⟩
      have hcut4 : cutV xs (some (bs.length : Int)) none = xs.drop bs.length := cut_from (k := bs.length)
      have e4 := Ex.new (o := .lst (cutV xs (some (bs.length : Int)) none)) hp4
      have g4 : (upd H3 p4 (.lst (cutV xs (some (bs.length : Int)) none))) p4 = some (.lst (xs.drop bs.length)) := by rw [upd_same, hcut4]
      generalize upd H3 p4 (.lst (cutV xs (some (bs.length : Int)) none)) = H4 at e4 g4 ⊢
      have hxs4 := hxs3.imp fun _ _ h => FaV.fz (Fz.ex e4) h
      have hdr4 := hxs4.drop bs.length
      rw [hdk] at hdr4
      refine ⟨p4, rfl, ⟨_, SqL.of g4⟩, fun DD hDD => lc_list (xs := xs.drop bs.length) (fun k H' => Ex H4 H' ∧ H' DD = some (.lst [])) ⟨Ex.new hDD, upd_same⟩ (fun k H' _ q => SqL.of (q.1 _ _ g4)) ?_ ?_⟩
      · rintro k v H' hv ⟨e1, hd⟩
        obtain ⟨f, hf, b, rfl, ws, hb, hws⟩ := hdr4.get hv
        obtain ⟨hfl, _, _⟩ := hm2 f (List.mem_of_getElem? hf)
        refine ⟨rfl, ?_⟩
        refine ⟨_, rfl, b, ws, rfl, .inr (fz_t (Fz.ex e1) hb), _, rfl, rfl, _, rfl, ?_⟩
        have ewl : V.int (ws.length : Int) = V.int ((0 : Int) + (i : Nat)) := by rw [hws.len, hfl, ei]
        rw [ewl, decide_eq_true rfl]
        exact iteF ⟨e1, hd⟩
      rintro H5 ⟨e5, hd5⟩
      refine ⟨(by show 0 ≤ sizeLine; decide), fun n2 hn2 => ?_⟩
      refine ⟨DD, n2, [], rfl, rfl, SqL.of (Ex.new hn2 _ _ hd5), SqL.of upd_same, ?_⟩
      refine ⟨_, rfl, ?_⟩
      rw [if_pos rfl, decide_eq_true rfl]
      refine iteF ?_
      have e45 := e4.trans (e5.trans (Ex.new (o := .lst []) hn2))
      generalize upd H5 n2 (.lst []) = H6 at e45 ⊢
      have e26 := e3.trans e45
      have B6 := B2.ex e26
      have hz6 := hz2.fz (Fz.ex e26)
      have hxs6 := hxs3.imp fun _ _ h => FaV.fz (Fz.ex e45) h
      have hfo6 := e45 _ _ hfo3
      have nE6 : ExtN HO H6 := (nE.trans nF).trans (ExtN.of e26)
      clear hdr4 hxs4 e4 g4 hfo3 hBf3 hxs3 hbs3 g3 e3 B2 hz2 hBf2 hbs2 hd5 e5 e45 e26 hxs hfo tabs2 nF B1 hz1 hbs hBf tabs1 nE
      -- each of them has the same outcome
      refine ⟨_, rfl, fo, rfl, ⟨xs, SqL.of hfo6⟩, fun DD3 hDD3 => lc_list (xs := xs) (fun k H' => Ex H6 H' ∧ H' DD3 = some (.lst [])) ⟨Ex.new hDD3, upd_same⟩ (fun k H' _ q => SqL.of (q.1 _ _ hfo6)) ?_ ?_⟩
      · rintro k v H' hv ⟨e1, hd⟩
        obtain ⟨f, hf, b, rfl, hb⟩ := hxs6.get hv
        obtain ⟨_, hsub, hgd⟩ := expl_good _ f (List.mem_of_getElem? hf)
        have BX := B6.ex e1
        refine ⟨rfl, ?_⟩
        refine ⟨_, rfl, _, rfl, _, rfl, y, D, b, st, s, eds, ds, f, rfl, BX.Sy, BX.S, ok, hs, BX.Ds, hb.fz (Fz.ex e1), fun c hc => sok.ok hs c (hsub.subset hc), fun u H7 e7 hu7 => ?_⟩
        have e17 := e1.trans e7
        rw [show behA eds (Pf f) s ds = sl from of_decide_eq_true hgd] at hu7
        have hz7 := hz6.fz (Fz.ex e17)
        obtain ⟨d1, r1, t1, g1, _, _⟩ := id hu7
        obtain ⟨d2, r2, t2, g2, _, _⟩ := id hz7
        refine ⟨_, rfl, u, d1, _, z, d2, _, rfl, rfl, g1, g2, u, z, st, sl, sl, eds, rfl, hu7, hz7, (BX.ex e7).S, _, rfl, _, rfl, ?_⟩
        rw [if_pos rfl, decide_eq_true rfl]
        exact iteF ⟨e17, e7 _ _ hd⟩
      rintro H7 ⟨e7, hd7⟩
      refine ⟨(by show 0 ≤ sizeLine; decide), fun n3 hn3 => ?_⟩
      refine ⟨DD3, n3, [], rfl, rfl, SqL.of (Ex.new hn3 _ _ hd7), SqL.of upd_same, ?_⟩
      refine ⟨_, rfl, ?_⟩
      rw [if_pos rfl, decide_eq_true rfl]
      refine iteF ?_
      have e67 := e7.trans (Ex.new (o := .lst []) hn3)
      exact ⟨_, rfl, fo, _, _, xs, _, rfl, nE6.trans (ExtN.of e67), tabs_ex e67 B6.tb, e67 _ _ hfo6, hxs6.imp fun _ _ h => FaV.fz (Fz.ex e67) h, h1024, fun scs' h' => by rw [sok.uniq h'], fun _ => ⟨scs, sok⟩⟩
    rintro σ H1 ⟨Bf, v13, v14, bs, fs, rfl, nE, tabs1, hBf, hbs, hfl24, huq, hex⟩
    obtain ⟨scs, sok⟩ := hex (by decide)
    obtain rfl := huq scs sok
    have hbs : All2 (FaV K H1) bs (expl (goodS eds s ds sl) scs 3) := hbs
    have hfl24 : (expl (goodS eds s ds sl) scs 3).length ≤ 1024 := hfl24
    have BP := BO.ext nE tabs1
    have hzP := hzO.fz (extN_fz nE)
    have hqP := hqO.fz (extN_fz nE)
    clear BO hzO hqO gB0 hB0 nE tabs1
    -- () among them
    refine ⟨(by show 0 ≤ sizeLine; decide), fun t1 ht1 => ?_⟩
    have e1 := Ex.new (o := .tup []) ht1
    have gt1 : (upd H1 t1 (.tup [])) t1 = some (.tup []) := upd_same
    have BQ := BP.ex e1
    have hzQ := hzP.fz (Fz.ex e1)
    have hqQ := hqP.fz (Fz.ex e1)
    have hBfQ := e1 _ _ hBf
    have hbsQ := hbs.imp fun _ _ h => FaV.fz (Fz.ex e1) h
    generalize upd H1 t1 (.tup []) = HQ at e1 gt1 BQ hzQ hqQ hBfQ hbsQ ⊢
    clear BP hzP hqP e1 hBf hbs
    obtain ⟨d1, r1, t11, g1, _, _⟩ := id hqQ
    obtain ⟨d2, r2, t22, g2, _, _⟩ := id hzQ
    refine ⟨_, rfl, .tup [], Bf, bs, _, rfl, .inl (SqL.of hBfQ), .tup (.inl (.inl gt1)) .nil, fa_nks hbsQ, (by show 1 ≤ 60; decide), ?_⟩
    refine ⟨_, rfl, _, rfl, q, d1, _, z, d2, _, rfl, rfl, g1, g2, q, z, st, sq, sl, eds, rfl, hqQ, hzQ, BQ.S, _, rfl, rfl, _, rfl, ?_⟩
    have hval : (V.bl (if false = true then !decide (NestedKey.tup [] ∈ (expl (goodS eds s ds sl) scs 3).map faKey) else decide (NestedKey.tup [] ∈ (expl (goodS eds s ds sl) scs 3).map faKey))) = V.bl (if false = true then !decide (sq = sl) else decide (sq = sl)) := by
      rw [if_neg (by decide), if_neg (by decide), nil_in]
      show V.bl (decide (behA eds (Pf []) s ds = sl)) = _
      rw [hsq]
    refine iteEE hval ?_
    -- inner
    obtain ⟨fvs, hfv, hfw⟩ := id BQ.Fa
    have hfvl := hfw.len
    refine ⟨_, rfl, Bf, rfl, ⟨bs, SqL.of hBfQ⟩, fun DD hDD => lc_list (xs := bs) (fun k H' => Ex HQ H' ∧ ∃ zs, H' DD = some (.lst zs) ∧ zs.length ≤ k ∧ (zs = [] → ∀ f ∈ (expl (goodS eds s ds sl) scs 3).take k, ¬ ∀ c ∈ f, c ∈ fl)) ⟨Ex.new hDD, [], upd_same, Nat.le_refl _, fun _ f hf => by simp at hf⟩ (fun k H' _ q => SqL.of (q.1 _ _ hBfQ)) ?_ ?_⟩
    · rintro k v H' hv ⟨e1, zs, hd, hzl, hno⟩
      obtain ⟨f, hf, b, rfl, ws, hb, hws⟩ := hbsQ.get hv
      obtain ⟨hf3, _, _⟩ := expl_good _ f (List.mem_of_getElem? hf)
      have hwl := hws.len
      refine ⟨rfl, ?_⟩
      refine ⟨_, rfl, b, rfl, ⟨ws, fz_t (Fz.ex e1) hb⟩, fun D2 hD2 => lc_it (walk_tup (xs := ws)) (fun j H2 => Ex H' H2 ∧ ∃ us, H2 D2 = some (.lst us) ∧ us.length ≤ j ∧ (us = [] ↔ ∀ c ∈ f.take j, c ∈ fl)) ⟨Ex.new hD2, [], upd_same, Nat.le_refl _, by simp⟩ (fun j H2 _ q => fz_t (Fz.ex (e1.trans q.1)) hb) ?_ ?_⟩
      · rintro j x H3 H4 hj ⟨e3, us, hd3, hul, hus⟩ ⟨rfl, hx⟩
        obtain ⟨c, hc, qq, rfl, hqq⟩ := hws.get hx
        have e13 := e1.trans e3
        refine ⟨rfl, ?_⟩
        refine ⟨_, rfl, _, rfl, scKey c, pf, fvs, fl.map scKey, rfl, .inr (fz_t (Fz.ex e13) hfv), sc_nk (fz_t (Fz.ex e13) hqq), sc_nks (hfw.imp fun _ _ ⟨q, a, b⟩ => ⟨q, a, fz_t (Fz.ex e13) b⟩), (by show 1 ≤ 60; decide), _, rfl, ?_⟩
        rw [if_pos rfl, sc_in]
        have htk : ∀ P : Sc → Prop, (∀ x ∈ f.take (j + 1), P x) ↔ (∀ x ∈ f.take j, P x) ∧ P c := fun P => by
          rw [List.take_succ, hc]
          constructor
          · intro h
            exact ⟨fun x hx => h x (List.mem_append.mpr (.inl hx)), h c (List.mem_append.mpr (.inr (List.mem_singleton.mpr rfl)))⟩
          · rintro ⟨h1, h2⟩ x hx
            rcases List.mem_append.mp hx with hx | hx
            · exact h1 x hx
            · rw [List.mem_singleton.mp hx]; exact h2
        by_cases c1 : c ∈ fl
        · rw [decide_eq_true c1]
          refine iteF ⟨e3, us, hd3, by omega, ?_⟩
          rw [htk, hus]
          exact ⟨fun h => ⟨h, c1⟩, fun h => h.1⟩
        · rw [decide_eq_false c1]
          refine iteT ⟨_, rfl, us, hd3, ?_, e3.mut hD2, _, upd_same, ?_, ?_⟩
          · rw [sizeLine_eq]
            omega
          · rw [List.length_append]; exact Nat.succ_le_succ hul
          · rw [htk]
            exact ⟨fun h => by simp at h, fun h => absurd h.2 c1⟩
      rintro H5 ⟨e5, us, hd5, _, hus⟩
      rw [hwl, List.take_length] at hus
      refine ⟨(by show 0 ≤ sizeLine; decide), fun n5 hn5 => ?_⟩
      have e6 := Ex.new (o := .lst []) hn5
      refine ⟨D2, n5, us, rfl, rfl, SqL.of (e6 _ _ hd5), SqL.of upd_same, ?_⟩
      refine ⟨_, rfl, ?_⟩
      rw [if_neg (by decide)]
      have e16 := e1.trans (e5.trans e6)
      have hd6 := (e5.trans e6) _ _ hd
      have hkl := (List.getElem?_eq_some_iff.mp hv).1
      have hbl := hbsQ.len
      by_cases c1 : us = []
      · refine iteP c1 ⟨_, rfl, zs, hd6, ?_, e16.mut hDD, _, upd_same, ?_, fun h => by simp at h⟩
        · rw [sizeLine_eq]
          omega
        · rw [List.length_append]; exact Nat.succ_le_succ hzl
      · refine iteN c1 ⟨e16, zs, hd6, Nat.le_succ_of_le hzl, fun h g hg => ?_⟩
        rw [List.take_succ, hf] at hg
        rcases List.mem_append.mp hg with hg | hg
        · exact hno h g hg
        · rw [List.mem_singleton.mp hg]
          exact fun h => c1 (hus.mpr h)
    rintro HR ⟨eR, zs3, hdR, _, hnoR⟩
    rw [hbsQ.len, List.take_length] at hnoR
    have BR := BQ.ex eR
    have hzR := hzQ.fz (Fz.ex eR)
    have hqR := hqQ.fz (Fz.ex eR)
    have hfvR := fz_t (Fz.ex eR) hfv
    clear BQ hzQ hqQ eR hBfQ hbsQ gt1 g1 g2 hfv hfw
    have hz3 : fl.length < 3 → zs3 ≠ [] := fun hl h => by
      have := scs_inner sok hl
      rw [hsl] at this
      obtain ⟨g, hg, hp⟩ := this
      exact hnoR h g hg hp
    refine ⟨_, rfl, pf, fvs, rfl, .inr hfvR, _, _, rfl, rfl, _, rfl, ?_⟩
    have hok : ∀ g ∈ [([] : List Sc), fl], g.length ≤ 1000 ∧ ∀ c ∈ g, scOk eds c = true := fun g h => by
      rcases List.mem_cons.mp h with e | e
      · rw [e]; exact ⟨Nat.zero_le _, fun _ h => (by cases h)⟩
      · rw [List.mem_singleton.mp e]; exact ⟨by omega, hfok⟩
    by_cases hlt : (fvs.length : Int) < 3
    · refine iteP hlt ?_
      refine ⟨_, rfl, (by show 0 ≤ sizeLine; decide), fun n6 hn6 => ?_⟩
      have eS := Ex.new (o := .lst []) hn6
      refine ⟨DD, n6, zs3, rfl, rfl, SqL.of (eS _ _ hdR), SqL.of upd_same, ?_⟩
      refine ⟨_, rfl, ?_⟩
      rw [if_neg (by decide)]
      refine iteN (hz3 (by omega)) ?_
      generalize upd HR n6 (.lst []) = HS at eS ⊢
      have BS := BR.ex eS
      have hzS := hzR.fz (Fz.ex eS)
      have hqS := hqR.fz (Fz.ex eS)
      -- sets
      refine ⟨(by show 0 ≤ sizeLine; decide), fun t5 ht5 => ⟨_, rfl, (by show 2 ≤ sizeLine; decide), fun S5 hS5 => ?_⟩⟩
      have e5 := Ex.new (o := .tup []) ht5
      have e6 := Ex.new (o := .lst [.ref t5, .ref pf]) hS5
      have e56 := e5.trans e6
      have gt5 := e6 _ _ (show (upd HS t5 (.tup [])) t5 = some (.tup []) from upd_same)
      have gS5 : (upd (upd HS t5 (.tup [])) S5 (.lst [.ref t5, .ref pf])) S5 = some (.lst [.ref t5, .ref pf]) := upd_same
      generalize upd (upd HS t5 (.tup [])) S5 (.lst [.ref t5, .ref pf]) = HT at e56 gt5 gS5 ⊢
      have BT := BS.ex e56
      have hzT := hzS.fz (Fz.ex e56)
      have hqT := hqS.fz (Fz.ex e56)
      have hf0 : FaV K HT (.ref t5) [] := ⟨t5, rfl, [], .inl (.inl gt5), .nil⟩
      -- tells_apart
      refine ⟨_, rfl, _, rfl, _, rfl, y, D, S5, st, s, eds, ds, .ref t5, .ref pf, [], fl, rfl, BT.Sy, BT.S, ok, hs, BT.Ds, SqL.of gS5, hf0, ⟨pf, rfl, BT.Fa⟩, hok, fun HU eU => ?_⟩
      have BU := BT.ex eU
      have hzU := hzT.fz (Fz.ex eU)
      have hqU := hqT.fz (Fz.ex eU)
      obtain ⟨d1, r1, t11, g1, _, _⟩ := id hzU
      obtain ⟨d2, r2, t22, g2, _, _⟩ := id hqU
      refine ⟨_, rfl, _, rfl, z, d1, _, q, d2, _, rfl, rfl, g1, g2, z, q, st, sl, sq, eds, rfl, hzU, hqU, BU.S, _, rfl, rfl, _, rfl, ?_⟩
      have hval2 : V.bl (!decide (behA eds (Pf []) s ds = behA eds (Pf fl) s ds)) = V.bl (if true = true then !decide (sl = sq) else decide (sl = sq)) := by
        rw [if_pos rfl, hsl, hsq]
        refine congrArg (fun b => V.bl (!b)) (decide_eq_decide.mpr ⟨fun h => h.symm, fun h => h.symm⟩)
      refine iteEE hval2 ?_
      -- told
      refine ⟨_, rfl, _, rfl, y, S5, st, s, eds, .ref t5, .ref pf, fl, rfl, BU.Sy, BU.S, ok, hs, SqL.of (eU _ _ gS5), hf0.fz (Fz.ex eU), ⟨pf, rfl, BU.Fa⟩, by omega, hfok, fun HV eV => ?_⟩
      refine ⟨_, rfl, ?_⟩
      refine iteF ?_
      have BV := BU.ex eV
      exact ⟨_, _, _, _, _, _, _, _, _, _, _, _, _, _, _, rfl, BV.R, BV.tb⟩
    · refine iteN hlt ?_
      obtain ⟨HS, rfl⟩ : ∃ HS, HS = HR := ⟨_, rfl⟩
      have eS := Ex.refl HS
      have BS := BR.ex eS
      have hzS := hzR.fz (Fz.ex eS)
      have hqS := hqR.fz (Fz.ex eS)
      -- sets
      refine ⟨(by show 0 ≤ sizeLine; decide), fun t5 ht5 => ⟨_, rfl, (by show 2 ≤ sizeLine; decide), fun S5 hS5 => ?_⟩⟩
      have e5 := Ex.new (o := .tup []) ht5
      have e6 := Ex.new (o := .lst [.ref t5, .ref pf]) hS5
      have e56 := e5.trans e6
      have gt5 := e6 _ _ (show (upd HS t5 (.tup [])) t5 = some (.tup []) from upd_same)
      have gS5 : (upd (upd HS t5 (.tup [])) S5 (.lst [.ref t5, .ref pf])) S5 = some (.lst [.ref t5, .ref pf]) := upd_same
      generalize upd (upd HS t5 (.tup [])) S5 (.lst [.ref t5, .ref pf]) = HT at e56 gt5 gS5 ⊢
      have BT := BS.ex e56
      have hzT := hzS.fz (Fz.ex e56)
      have hqT := hqS.fz (Fz.ex e56)
      have hf0 : FaV K HT (.ref t5) [] := ⟨t5, rfl, [], .inl (.inl gt5), .nil⟩
      -- tells_apart
      refine ⟨_, rfl, _, rfl, _, rfl, y, D, S5, st, s, eds, ds, .ref t5, .ref pf, [], fl, rfl, BT.Sy, BT.S, ok, hs, BT.Ds, SqL.of gS5, hf0, ⟨pf, rfl, BT.Fa⟩, hok, fun HU eU => ?_⟩
      have BU := BT.ex eU
      have hzU := hzT.fz (Fz.ex eU)
      have hqU := hqT.fz (Fz.ex eU)
      obtain ⟨d1, r1, t11, g1, _, _⟩ := id hzU
      obtain ⟨d2, r2, t22, g2, _, _⟩ := id hqU
      refine ⟨_, rfl, _, rfl, z, d1, _, q, d2, _, rfl, rfl, g1, g2, z, q, st, sl, sq, eds, rfl, hzU, hqU, BU.S, _, rfl, rfl, _, rfl, ?_⟩
      have hval2 : V.bl (!decide (behA eds (Pf []) s ds = behA eds (Pf fl) s ds)) = V.bl (if true = true then !decide (sl = sq) else decide (sl = sq)) := by
        rw [if_pos rfl, hsl, hsq]
        refine congrArg (fun b => V.bl (!b)) (decide_eq_decide.mpr ⟨fun h => h.symm, fun h => h.symm⟩)
      refine iteEE hval2 ?_
      -- told
      refine ⟨_, rfl, _, rfl, y, S5, st, s, eds, .ref t5, .ref pf, fl, rfl, BU.Sy, BU.S, ok, hs, SqL.of (eU _ _ gS5), hf0.fz (Fz.ex eU), ⟨pf, rfl, BU.Fa⟩, by omega, hfok, fun HV eV => ?_⟩
      refine ⟨_, rfl, ?_⟩
      refine iteF ?_
      have BV := BU.ex eV
      exact ⟨_, _, _, _, _, _, _, _, _, _, _, _, _, _, _, rfl, BV.R, BV.tb⟩
end
end Hs
end
section
set_option Elab.async false
set_option linter.all false
set_option maxRecDepth 100000
set_option maxHeartbeats 0
namespace Hs
open PySem PySem.Spec PyProof.Rows L2
open LamX (TabB Tabs TabS)
/-! ## the head: facts by names -/
/-- a property's object, its getter -/
def prP (C m : Str) (K : PySem.W.Frag) : Addr := He.ma K (He.ga K C) m
def prG (C m : Str) (K : PySem.W.Frag) : Addr := match PySem.W.recIn K (prP C m K) "property" with
  | some (.ref g :: _) => g
  | _ => 0
abbrev PrL : Type := Str × Str × He.DefD
def fnWa (K : PySem.W.Frag) (a : Addr) : He.FnW := match K.lookup a with
  | some ⟨_, _, .func fd, _⟩ => some (fd.name, fd.qualname, fd.params, fd.body, fd.scope, fd.globals, fd.closure, fd.builtins)
  | _ => none
def prOk (K : PySem.W.Frag) (q : PrL) : Bool := He.eqO (PySem.W.findIn K (.ref (He.ga K q.1)) q.2.1) (some (some (.ref (prP q.1 q.2.1 K)))) &&
  (He.eqO (PySem.W.specialIn K (.ref (prP q.1 q.2.1 K)) "__get__") (some (some (.builtin "property.__get__"))) &&
  (decide (PySem.W.takesIn K (.ref (prP q.1 q.2.1 K)) = some true) &&
  ((match PySem.W.recIn K (prP q.1 q.2.1 K) "property" with
    | some (.ref _ :: _) => true
    | _ => false) &&
  (PySem.W.keepIn K (.ref (prG q.1 q.2.1 K)) && (match K.lookup (prG q.1 q.2.1 K) with
    | some ⟨_, _, .func fd, _⟩ => PySem.W.codeIn K fd.code q.2.2.qual && (He.dflB K fd.defaults [] && He.kwdB K fd.kwdefaults [])
    | _ => false)))))
theorem prF_of {K : PySem.W.Frag} {C m : Str} {qual : Str} {st : Stmt} (h : prOk K (C, m, ⟨(C, some m), m, qual, defArgs st, defBody st, defScope st, [], []⟩) = true)
    (e : fnWa K (prG C m K) = some (m, qual, defArgs st, .stmts (defBody st), defScope st, mainGlobals, [], builtinsNs)) : PrpF K (He.ga K C) m qual st := by
  obtain ⟨h1, h⟩ := He.ba h
  obtain ⟨h2, h⟩ := He.ba h
  obtain ⟨h3, h⟩ := He.ba h
  obtain ⟨h4, h⟩ := He.ba h
  obtain ⟨h5, h6⟩ := He.ba h
  unfold fnWa at e
  cases q : K.lookup (prG C m K) with
  | none =>
    rw [q] at h6
    cases h6
  | some ob =>
    obtain ⟨oc, od, dt, osl⟩ := ob
    rw [q] at h6 e
    cases dt with
    | func fd =>
      obtain ⟨n1, n2, n3, n4, n5, n6, n7, n8, n9, n10, n11, n12, n13, n14, n15⟩ := fd
      have e2 : (some (n1, n2, n3, n4, n5, n6, n7, n15) : He.FnW) = some (m, qual, defArgs st, .stmts (defBody st), defScope st, mainGlobals, [], builtinsNs) := e
      simp only [Option.some.injEq, Prod.mk.injEq] at e2
      obtain ⟨g1, g2, g3, g4, g5, g6, g7, g8⟩ := e2
      subst g1 g2 g3 g4 g5 g6 g7 g8
      have c3 : (PySem.W.codeIn K n13 n2 && (He.dflB K n8 [] && He.kwdB K n9 [])) = true := h6
      obtain ⟨k1, k2⟩ := He.ba c3
      obtain ⟨k3, k4⟩ := He.ba k2
      refine ⟨prP C n1 K, prG C n1 K, _, ⟨⟨oc, od, n8, n9, n10, n11, n12, n13, n14, osl, rfl, q, k1, He.dflB_ok k3, He.kwdB_ok k4⟩, h5⟩, ⟨He.eqO_ok h1, He.eqO_ok h2, of_decide_eq_true h3, ?_⟩⟩
      have h4' : (match PySem.W.recIn K (prP C n1 K) "property" with
        | some (.ref _ :: _) => true
        | _ => false) = true := h4
      unfold prG
      split at h4'
      · rename_i g rest hr
        rw [hr]
        exact ⟨rest, rfl⟩
      · cases h4'
    | _ => cases h6
/-! ### the Hook: as HeadHook4's, by levels, and the getters -/
/-- what an object leads to: a class's namespace alone; a code object leads nowhere -/
def refsL (o : Obj) : List Addr := match o.data with
  | .cls cd => [cd.ns]
  | .fields vs => (match o.cls with
    | .type "code" => []
    | _ => vs.toList.flatMap He.refV)
  | .dict es _ => es.toList.flatMap fun e => He.refV e.val
  | .func fd => He.refV fd.code ++ He.refV fd.defaults
  | _ => []
def nextL (g : Addr → Option Obj) (as : List Addr) : List Addr := as.flatMap fun a => match g a with
  | some o => refsL o
  | none => []
def gaG (g : Addr → Option Obj) (x : Str) : Addr := He.ga (He.frG g [mainGlobals]) x
def asL (xs : List Str) (g : Addr → Option Obj) : List Addr :=
  let l0 := xs.map (gaG g)
  let l1 := nextL g l0
  let l2 := nextL g l1
  let l3 := nextL g l2
  let l4 := nextL g l3
  mainGlobals :: (l0 ++ (l1 ++ (l2 ++ (l3 ++ l4))))
abbrev AlP : Type := Bool × List He.FnW × List He.FnW
def obsK (fa : List He.Fa) (fn : List He.DefD) (tf : List He.Defn) (ex : PySem.W.Frag → Bool) (pr : List PrL) (g : Addr → Option Obj) (K : PySem.W.Frag) : AlP :=
  (((fa.all fun f => f.ok K) && fn.all fun d => d.ok K) && ((ex K && pr.all (prOk K)) && He.tabsB g tf K), fn.map (fun d => He.fnW K d.at_), pr.map fun q => fnWa K (prG q.1 q.2.1 K))
def obsP (xs : List Str) (fa : List He.Fa) (fn : List He.DefD) (tf : List He.Defn) (ex : PySem.W.Frag → Bool) (pr : List PrL) (g : Addr → Option Obj) : AlP := obsK fa fn tf ex pr g (He.frT g (asL xs g))
def valP (fn : List He.DefD) (pr : List PrL) : AlP := (true, fn.map He.DefD.val, pr.map fun q => q.2.2.val)
structure SaysP (fa : List He.Fa) (fn : List He.DefD) (tf : List He.Defn) (ex : PySem.W.Frag → Bool) (pr : List PrL) (h : Heap) (K : PySem.W.Frag) : Prop where
  d : He.SaysD fa fn K
  ex : ex K = true
  pk : pr.all (prOk K) = true
  p : (pr.map fun q => fnWa K (prG q.1 q.2.1 K)) = pr.map fun q => q.2.2.val
  hd : ∀ p ∈ tf, PySem.W.codeHdIn K (He.cT K p).1 (He.cT K p).2 = true
  out : ∀ p ∈ tf, K.lookup (He.cT K p).2 = none
  empty : ∀ p ∈ tf, h.get? (He.cT K p).2 = some { cls := .none, data := .fields #[] }
theorem saysP_of {fa : List He.Fa} {fn : List He.DefD} {tf : List He.Defn} {ex : PySem.W.Frag → Bool} {pr : List PrL} {h : Heap} {as : List Addr} (e : obsK fa fn tf ex pr h.get? (He.frT h.get? as) = valP fn pr) : SaysP fa fn tf ex pr h (He.frT h.get? as) := by
  have e1 := congrArg (fun z : AlP => z.1) e
  have e2 := congrArg (fun z : AlP => z.2.1) e
  have e3 := congrArg (fun z : AlP => z.2.2) e
  obtain ⟨h1, h2⟩ := He.ba (show (((fa.all fun f => f.ok (He.frT h.get? as)) && fn.all fun d => d.ok (He.frT h.get? as)) && ((ex (He.frT h.get? as) && pr.all (prOk (He.frT h.get? as))) && He.tabsB h.get? tf (He.frT h.get? as))) = true from e1)
  obtain ⟨h3, h4⟩ := He.ba h2
  obtain ⟨h5, h6⟩ := He.ba h3
  have key : ∀ p ∈ tf, PySem.W.codeHdIn (He.frT h.get? as) (He.cT (He.frT h.get? as) p).1 (He.cT (He.frT h.get? as) p).2 = true ∧ ∃ o, h.get? (He.cT (He.frT h.get? as) p).2 = some o ∧ He.emptyTab o = true := fun p hp => by
    obtain ⟨h7, h8⟩ := He.ba (List.all_eq_true.mp h4 p hp)
    refine ⟨h7, ?_⟩
    cases q : h.get? (He.cT (He.frT h.get? as) p).2 with
    | none =>
      rw [q] at h8
      cases h8
    | some o =>
      rw [q] at h8
      exact ⟨o, rfl, h8⟩
  refine ⟨Prod.ext h1 e2, h5, h6, e3, fun p hp => (key p hp).1, fun p hp => ?_, fun p hp => ?_⟩
  · obtain ⟨_, o, q, z⟩ := key p hp
    exact He.frT_none q z
  · obtain ⟨_, o, q, z⟩ := key p hp
    rw [q, He.emptyTab_eq z]
def hookP (xs : List Str) (fa : List He.Fa) (fn : List He.DefD) (tf : List He.Defn) (ex : PySem.W.Frag → Bool) (pr : List PrL) : PySem.W.Hook where
  α := AlP
  obs := fun s => obsP xs fa fn tf ex pr s.heap.get?
  val := fun _ => valP fn pr
  says := fun _ h => ∃ K : PySem.W.Frag, K.In h ∧ SaysP fa fn tf ex pr h K
  of := fun _ _ e => ⟨_, He.frT_in, saysP_of e⟩
  keeps := fun _ _ _ ⟨K, hK, c⟩ k => ⟨K, PySem.W.Frag.In.keeps hK k, ⟨c.d, c.ex, c.pk, c.p, c.hd, c.out, fun p hp => k _ _ (c.empty p hp)⟩⟩
theorem obsP_eq {xs : List Str} {fa : List He.Fa} {fn : List He.DefD} {tf : List He.Defn} {ex : PySem.W.Frag → Bool} {pr : List PrL} {g : Addr → Option Obj} {s : Shared} (h : ∀ a, g a = s.heap.get? a) : obsP xs fa fn tf ex pr g = (hookP xs fa fn tf ex pr).obs s := by
  have e : g = s.heap.get? := funext h
  rw [e] <;> rfl
theorem SaysP.pr_ {fa : List He.Fa} {fn : List He.DefD} {tf : List He.Defn} {ex : PySem.W.Frag → Bool} {pr : List PrL} {h : Heap} {K : PySem.W.Frag} (c : SaysP fa fn tf ex pr h K) (i : Nat) {C m qual : Str} {st : Stmt} (hi : pr[i]? = some (C, m, ⟨(C, some m), m, qual, defArgs st, defBody st, defScope st, [], []⟩)) : PrpF K (He.ga K C) m qual st := by
  have e2 : (pr.map fun q => fnWa K (prG q.1 q.2.1 K))[i]? = (pr.map fun q => q.2.2.val)[i]? := by rw [c.p]
  rw [List.getElem?_map, List.getElem?_map, hi] at e2
  exact prF_of (List.all_eq_true.mp c.pk _ (List.mem_of_getElem? hi)) (Option.some.inj e2)
/-! ### what is asked of this top -/
def fn0 : List He.DefD := [
  ⟨("is_state", none), "is_state", "is_state", defArgs s_is_state, defBody s_is_state, defScope s_is_state, [], []⟩,
  ⟨("edition_in", none), "edition_in", "edition_in", defArgs s_edition_in, defBody s_edition_in, defScope s_edition_in, [], []⟩,
  ⟨("is_there", none), "is_there", "is_there", defArgs s_is_there, defBody s_is_there, defScope s_is_there, [], []⟩,
  ⟨("is_met", none), "is_met", "is_met", defArgs s_is_met, defBody s_is_met, defScope s_is_met, [], []⟩,
  ⟨("lacking", none), "lacking", "lacking", defArgs s_lacking, defBody s_lacking, defScope s_lacking, [], []⟩,
  ⟨("hostile", none), "hostile", "hostile", defArgs s_hostile, defBody s_hostile, defScope s_hostile, [], []⟩,
  ⟨("unpack_refusal", none), "unpack_refusal", "unpack_refusal", defArgs s_unpack_refusal, defBody s_unpack_refusal, defScope s_unpack_refusal, [], []⟩,
  ⟨("setup_refusal", none), "setup_refusal", "setup_refusal", defArgs s_setup_refusal, defBody s_setup_refusal, defScope s_setup_refusal, [], []⟩,
  ⟨("remove_refusal", none), "remove_refusal", "remove_refusal", defArgs s_remove_refusal, defBody s_remove_refusal, defScope s_remove_refusal, [], []⟩,
  ⟨("refusal", none), "refusal", "refusal", defArgs s_refusal, defBody s_refusal, defScope s_refusal, [], []⟩,
  ⟨("all_deeds", none), "all_deeds", "all_deeds", defArgs s_all_deeds, defBody s_all_deeds, defScope s_all_deeds, [], []⟩,
  ⟨("executed", none), "executed", "executed", defArgs s_executed, defBody s_executed, defScope s_executed, [], []⟩,
  ⟨("every_run", none), "every_run", "every_run", defArgs s_every_run, defBody s_every_run, defScope s_every_run, [], []⟩,
  ⟨("steps", none), "steps", "steps", defArgs s_steps, defBody s_steps, defScope s_steps, [], []⟩,
  ⟨("ends", none), "ends", "ends", defArgs s_ends, defBody s_ends, defScope s_ends, [], []⟩,
  ⟨("need_store", none), "need_store", "need_store", defArgs s_need_store, defBody s_need_store, defScope s_need_store, [], []⟩,
  ⟨("is_number", none), "is_number", "is_number", defArgs s_is_number, defBody s_is_number, defScope s_is_number, [], []⟩,
  ⟨("is_word", none), "is_word", "is_word", defArgs s_is_word, defBody s_is_word, defScope s_is_word, [], []⟩,
  ⟨("is_rising", none), "is_rising", "is_rising", defArgs s_is_rising, defBody s_is_rising, defScope s_is_rising, [], []⟩,
  ⟨("is_need", none), "is_need", "is_need", defArgs s_is_need, defBody s_is_need, defScope s_is_need, [], []⟩,
  ⟨("calls_at", none), "calls_at", "calls_at", defArgs s_calls_at, defBody s_calls_at, defScope s_calls_at, [], []⟩,
  ⟨("moments", none), "moments", "moments", defArgs s_moments, defBody s_moments, defScope s_moments, [], []⟩,
  ⟨("calls_of", none), "calls_of", "calls_of", defArgs s_calls_of, defBody s_calls_of, defScope s_calls_of, [], []⟩,
  ⟨("is_script", none), "is_script", "is_script", defArgs s_is_script, defBody s_is_script, defScope s_is_script, [], []⟩,
  ⟨("behind_one", none), "behind_one", "behind_one", defArgs s_behind_one, defBody s_behind_one, defScope s_behind_one, [], []⟩,
  ⟨("behind_all", none), "behind_all", "behind_all", defArgs s_behind_all, defBody s_behind_all, defScope s_behind_all, [], []⟩,
  ⟨("behind", none), "behind", "behind", defArgs s_behind, defBody s_behind, defScope s_behind, [], []⟩,
  ⟨("sets_of", none), "sets_of", "sets_of", defArgs s_sets_of, defBody s_sets_of, defScope s_sets_of, [], []⟩,
  ⟨("is_part", none), "is_part", "is_part", defArgs s_is_part, defBody s_is_part, defScope s_is_part, [], []⟩,
  ⟨("explained", none), "explained", "explained", defArgs s_explained, defBody s_explained, defScope s_explained, [], []⟩]
def fn1 : List He.DefD := [
  ⟨("need_sets", none), "need_sets", "need_sets", defArgs s_need_sets, defBody s_need_sets, defScope s_need_sets, [], []⟩,
  ⟨("are_unlike", none), "are_unlike", "are_unlike", defArgs s_are_unlike, defBody s_are_unlike, defScope s_are_unlike, [], []⟩,
  ⟨("tells_apart", none), "tells_apart", "tells_apart", defArgs s_tells_apart, defBody s_tells_apart, defScope s_tells_apart, [], []⟩,
  ⟨("telling_deeds", none), "telling_deeds", "telling_deeds", defArgs s_telling_deeds, defBody s_telling_deeds, defScope s_telling_deeds, [], []⟩,
  ⟨("_law_taken", none), "_law_taken", "_law_taken", defArgs s__law_taken, defBody s__law_taken, defScope s__law_taken, [], []⟩,
  ⟨("_law_store", none), "_law_store", "_law_store", defArgs s__law_store, defBody s__law_store, defScope s__law_store, [], []⟩,
  ⟨("_law_system", none), "_law_system", "_law_system", defArgs s__law_system, defBody s__law_system, defScope s__law_system, [], []⟩,
  ⟨("_law_deed", none), "_law_deed", "_law_deed", defArgs s__law_deed, defBody s__law_deed, defScope s__law_deed, [], []⟩,
  ⟨("_law_scripts", none), "_law_scripts", "_law_scripts", defArgs s__law_scripts, defBody s__law_scripts, defScope s__law_scripts, [], []⟩,
  ⟨("_law_faulty", none), "_law_faulty", "_law_faulty", defArgs s__law_faulty, defBody s__law_faulty, defScope s__law_faulty, [], []⟩,
  ⟨("_law_are_told", none), "_law_are_told", "_law_are_told", defArgs s__law_are_told, defBody s__law_are_told, defScope s__law_are_told, [], []⟩,
  ⟨("law", none), "law", "law", defArgs s_law, defBody s_law, defScope s_law, [], []⟩,
  ⟨("System", some "__eq__"), "__eq__", "System.__eq__", defArgs s_System_eq, defBody s_System_eq, defScope s_System_eq, [], []⟩,
  ⟨("System", some "with_state"), "with_state", "System.with_state", defArgs s_System_with_state, defBody s_System_with_state, defScope s_System_with_state, [], []⟩,
  ⟨("System", some "__init__"), "__init__", "System.__init__", defArgs s_System_init, defBody s_System_init, defScope s_System_init, [], []⟩,
  ⟨("Run", some "is_done"), "is_done", "Run.is_done", defArgs s_Run_is_done, defBody s_Run_is_done, defScope s_Run_is_done, [], []⟩,
  ⟨("Run", some "state_behind"), "state_behind", "Run.state_behind", defArgs s_Run_state_behind, defBody s_Run_state_behind, defScope s_Run_state_behind, [], []⟩,
  ⟨("Run", some "unpacked_new"), "unpacked_new", "Run.unpacked_new", defArgs s_Run_unpacked_new, defBody s_Run_unpacked_new, defScope s_Run_unpacked_new, [], []⟩,
  ⟨("Run", some "unpacked_over"), "unpacked_over", "Run.unpacked_over", defArgs s_Run_unpacked_over, defBody s_Run_unpacked_over, defScope s_Run_unpacked_over, [], []⟩,
  ⟨("Run", some "is_left"), "is_left", "Run.is_left", defArgs s_Run_is_left, defBody s_Run_is_left, defScope s_Run_is_left, [], []⟩,
  ⟨("Run", some "given_up"), "given_up", "Run.given_up", defArgs s_Run_given_up, defBody s_Run_given_up, defScope s_Run_given_up, [], []⟩,
  ⟨("Run", some "put_back"), "put_back", "Run.put_back", defArgs s_Run_put_back, defBody s_Run_put_back, defScope s_Run_put_back, [], []⟩,
  ⟨("Run", some "set_up"), "set_up", "Run.set_up", defArgs s_Run_set_up, defBody s_Run_set_up, defScope s_Run_set_up, [], []⟩,
  ⟨("Run", some "removed"), "removed", "Run.removed", defArgs s_Run_removed, defBody s_Run_removed, defScope s_Run_removed, [], []⟩,
  ⟨("Run", some "purged"), "purged", "Run.purged", defArgs s_Run_purged, defBody s_Run_purged, defScope s_Run_purged, [], []⟩,
  ⟨("Run", some "__init__"), "__init__", "Run.__init__", defArgs s_Run_init, defBody s_Run_init, defScope s_Run_init, [], []⟩,
  ⟨("Courses", some "__init__"), "__init__", "Courses.__init__", defArgs s_Courses_init, defBody s_Courses_init, defScope s_Courses_init, [], []⟩,
  ⟨("Edition", some "__init__"), "__init__", "Edition.__init__", defArgs s_Edition_init, defBody s_Edition_init, defScope s_Edition_init, [], []⟩,
  ⟨("Store", some "versions"), "versions", "Store.versions", defArgs s_Store_versions, defBody s_Store_versions, defScope s_Store_versions, [], []⟩,
  ⟨("Store", some "__contains__"), "__contains__", "Store.__contains__", defArgs s_Store_contains, defBody s_Store_contains, defScope s_Store_contains, [], []⟩]
def fn2 : List He.DefD := [
  ⟨("Store", some "__getitem__"), "__getitem__", "Store.__getitem__", defArgs s_Store_getitem, defBody s_Store_getitem, defScope s_Store_getitem, [], []⟩,
  ⟨("Store", some "__eq__"), "__eq__", "Store.__eq__", defArgs s_Store_eq, defBody s_Store_eq, defScope s_Store_eq, [], []⟩,
  ⟨("Store", some "__init__"), "__init__", "Store.__init__", defArgs s_Store_init, defBody s_Store_init, defScope s_Store_init, [], []⟩]
def fn : List He.DefD := fn0 ++ (fn1 ++ (fn2))
def fa0 : List He.Fa := [
  .glo "is_state",
  .glo "edition_in",
  .glo "is_there",
  .glo "is_met",
  .glo "lacking",
  .glo "hostile",
  .glo "unpack_refusal",
  .glo "setup_refusal",
  .glo "remove_refusal",
  .glo "refusal",
  .glo "all_deeds",
  .glo "executed",
  .glo "every_run",
  .glo "steps",
  .glo "ends",
  .glo "need_store",
  .glo "is_number",
  .glo "is_word",
  .glo "is_rising",
  .glo "is_need",
  .glo "calls_at",
  .glo "moments",
  .glo "calls_of",
  .glo "is_script",
  .glo "behind_one",
  .glo "behind_all",
  .glo "behind",
  .glo "sets_of",
  .glo "is_part",
  .glo "explained"]
def fa1 : List He.Fa := [
  .glo "need_sets",
  .glo "are_unlike",
  .glo "tells_apart",
  .glo "telling_deeds",
  .glo "_law_taken",
  .glo "_law_store",
  .glo "_law_system",
  .glo "_law_deed",
  .glo "_law_scripts",
  .glo "_law_faulty",
  .glo "_law_are_told",
  .glo "law",
  .glo "System",
  .cls "System",
  .mkr "System",
  .noat "System" "base",
  .noat "System" "rows",
  .meth "System" "__eq__",
  .meth "System" "with_state",
  .glo "Run",
  .cls "Run",
  .mkr "Run",
  .noat "Run" "base",
  .noat "Run" "fails",
  .noat "Run" "made",
  .meth "Run" "is_done",
  .meth "Run" "state_behind",
  .meth "Run" "unpacked_new",
  .meth "Run" "unpacked_over",
  .meth "Run" "is_left"]
def fa2 : List He.Fa := [
  .meth "Run" "given_up",
  .meth "Run" "put_back",
  .meth "Run" "set_up",
  .meth "Run" "removed",
  .meth "Run" "purged",
  .glo "Courses",
  .cls "Courses",
  .mkr "Courses",
  .noat "Courses" "spots",
  .glo "Edition",
  .cls "Edition",
  .mkr "Edition",
  .noat "Edition" "label",
  .noat "Edition" "number",
  .noat "Edition" "has",
  .noat "Edition" "wants",
  .noat "Edition" "asks",
  .noat "Edition" "shuns",
  .glo "Store",
  .cls "Store",
  .mkr "Store",
  .noat "Store" "known",
  .meth "Store" "versions",
  .meth "Store" "__contains__",
  .meth "Store" "__getitem__",
  .meth "Store" "__eq__",
  .str "ABSENT" "absent",
  .str "FAILED" "failed",
  .str "HALF" "half",
  .str "LEFT" "left"]
def fa3 : List He.Fa := [
  .str "READY" "ready",
  .str "UNPACKED" "unpacked",
  .str "UNPACK" "unpack",
  .str "SETUP" "setup",
  .str "REMOVE" "remove",
  .str "PURGE" "purge",
  .str "CLEAN" "clean",
  .str "ENTER" "enter",
  .str "LEAVE" "leave",
  .str "LETTERS" "abcdefghijklmnopqrstuvwxyz",
  .int "MOST_LETTERS" 8,
  .int "MOST_VERSION" 99,
  .int "MOST_SCRIPTS" 3,
  .int "MOST_DEEDS" 3,
  .int "MOST_EDITIONS" 12,
  .int "MOST_NAMES" 4,
  .free "sorted",
  .free "set",
  .free "len",
  .free "min",
  .free "any",
  .free "all",
  .free "list",
  .free "tuple",
  .free "isinstance",
  .free "range",
  .free "enumerate",
  .free "int",
  .free "bool",
  .glo "NOTHING"]
def fa4 : List He.Fa := [
  .glo "STATUSES",
  .glo "THERE",
  .glo "SCRIPTS"]
def fa : List He.Fa := fa0 ++ (fa1 ++ (fa2 ++ (fa3 ++ (fa4))))
def pr0 : List PrL := [
  ("System", "store", ⟨("System", some "store"), "store", "System.store", defArgs s_System_store, defBody s_System_store, defScope s_System_store, [], []⟩),
  ("System", "line", ⟨("System", some "line"), "line", "System.line", defArgs s_System_line, defBody s_System_line, defScope s_System_line, [], []⟩),
  ("Edition", "scripts", ⟨("Edition", some "scripts"), "scripts", "Edition.scripts", defArgs s_Edition_scripts, defBody s_Edition_scripts, defScope s_Edition_scripts, [], []⟩),
  ("Store", "names", ⟨("Store", some "names"), "names", "Store.names", defArgs s_Store_names, defBody s_Store_names, defScope s_Store_names, [], []⟩)]
def pr : List PrL := pr0
/-- InsC's facts beside Cls -/
def insB (K : PySem.W.Frag) (C : Str) : Bool := He.eqO (PySem.W.findIn K (.ref (He.ga K C)) "__class__") (some (some (.builtin "object.__class__"))) &&
  (He.eqO (PySem.W.specialIn K (.builtin "object.__class__") "__get__") (some (some (.builtin "getset_descriptor.__get__"))) &&
  (decide (PySem.W.takesIn K (.builtin "object.__class__") = some true) && (decide (PySem.W.mroIn K (He.ga K C) (.type "object") = some true) && decide (PySem.W.kitOne K (.ref (He.ga K C)) (.ref (He.ga K C)) = some true))))
theorem insB_ok {K : PySem.W.Frag} {C : Str} (c : Cls K (He.ga K C)) (h : insB K C = true) : C8.InsC K (He.ga K C) := by
  obtain ⟨h1, h⟩ := He.ba h
  obtain ⟨h2, h⟩ := He.ba h
  obtain ⟨h3, h⟩ := He.ba h
  obtain ⟨h4, h5⟩ := He.ba h
  exact ⟨c, He.eqO_ok h1, He.eqO_ok h2, of_decide_eq_true h3, of_decide_eq_true h4, of_decide_eq_true h5⟩
def exL (K : PySem.W.Frag) : List Bool := [
  He.tupB K "NOTHING" [.str "absent", .int 0, .int 0],
  He.tupB K "STATUSES" [.str "absent", .str "failed", .str "half", .str "left", .str "ready", .str "unpacked"],
  He.tupB K "THERE" [.str "failed", .str "half", .str "ready", .str "unpacked"],
  He.tupB K "SCRIPTS" [.str "clean", .str "enter", .str "leave", .str "setup"],
  insB K "System",
  insB K "Store",
  He.eqO (PySem.W.findIn K (.ref (He.ga K "System")) "__ne__") (some (some (.builtin "object.__ne__"))),
  decide (PySem.W.subIn K (.ref (He.ga K "System")) (.type "object") = some true),
  PySem.W.fnIn K (He.ma K (He.ga K "Store") "__getitem__")]
def ex (K : PySem.W.Frag) : Bool := (exL K).all id
def xs0 : List Str := [
  "is_state",
  "edition_in",
  "is_there",
  "is_met",
  "lacking",
  "hostile",
  "unpack_refusal",
  "setup_refusal",
  "remove_refusal",
  "refusal",
  "all_deeds",
  "executed",
  "every_run",
  "steps",
  "ends",
  "need_store",
  "is_number",
  "is_word",
  "is_rising",
  "is_need",
  "calls_at",
  "moments",
  "calls_of",
  "is_script",
  "behind_one",
  "behind_all",
  "behind",
  "sets_of",
  "is_part",
  "explained"]
def xs1 : List Str := [
  "need_sets",
  "are_unlike",
  "tells_apart",
  "telling_deeds",
  "_law_taken",
  "_law_store",
  "_law_system",
  "_law_deed",
  "_law_scripts",
  "_law_faulty",
  "_law_are_told",
  "law",
  "System",
  "Run",
  "Courses",
  "Edition",
  "Store",
  "NOTHING",
  "STATUSES",
  "THERE",
  "SCRIPTS"]
def xs : List Str := xs0 ++ (xs1)
def tf : List He.Defn := [("every_run", none)]
abbrev R : PySem.W.OpenRow := PySem.W.OpenLaw.row PySem.Challenge.rw_halfsetup_k59_whole_faults_and_courses
abbrev hk : PySem.W.Hook := hookP xs fa fn tf ex pr
def ob (s : PySem.W.SharedT) : AlP := obsP xs fa fn tf ex pr (HandSHeadRun.getT s)
theorem ob_eq (s : PySem.W.SharedT) : ob s = hk.obs s.abs := obsP_eq (HandSHeadRun.getT_eq s)
def names : List Str := (PySem.Challenge.pw_halfsetup_k59_whole_faults_and_courses.main.scope.names.map (·.1)).filter (fun x => decide (x ≠ "law"))
theorem run (w : World) : HandSHeadRun.RunEq R (PySem.W.view R.prog [90]) hk ob 30000 names w := by
  intro os
  kernel_rfl
/-! ### the facts -/
abbrev Says (h : Heap) (K : PySem.W.Frag) : Prop := SaysP fa fn tf ex pr h K
section
variable {h : Heap} {K : PySem.W.Frag} {mg : Str → Option Value}
theorem Says.e (c : Says h K) (i : Nat) {b : Bool} (hi : (exL K)[i]? = some b) : b = true := List.all_eq_true.mp (show (exL K).all id = true from c.ex) b (List.mem_of_getElem? hi)
def adsOf (K : PySem.W.Frag) : Ads := ⟨He.ga K "System", He.ga K "Run", He.ga K "Courses", He.ga K "Edition", He.ga K "Store"⟩
theorem defF_of (X : K.In h) (G : h.Ns mainGlobals mg) (c : Says h K) {x : Str} {st : Stmt} (i j : Nat) (hi : fn[i]? = some ⟨(x, none), x, x, defArgs st, defBody st, defScope st, [], []⟩) (hj : fa[j]? = some (.glo x)) : DefF K mg x st := by
  obtain ⟨fd, F⟩ := c.d.def_ i hi
  exact ⟨_, fd, F, He.glo_ok X G (c.d.fact j hj)⟩
theorem metF_of (c : Says h K) {C m q : Str} {st : Stmt} (i j : Nat) (hi : fn[i]? = some ⟨(C, some m), m, q, defArgs st, defBody st, defScope st, [], []⟩) (hj : fa[j]? = some (.meth C m)) : MetF K (He.ga K C) m q st := by
  obtain ⟨fd, F⟩ := c.d.def_ i hi
  exact ⟨_, fd, F, He.meth_ok (c.d.fact j hj)⟩
theorem makF_of (c : Says h K) {C q : Str} {st : Stmt} (i j : Nat) (hi : fn[i]? = some ⟨(C, some "__init__"), "__init__", q, defArgs st, defBody st, defScope st, [], []⟩) (hj : fa[j]? = some (.mkr C)) : MakF K (He.ga K C) q st := by
  obtain ⟨fd, F⟩ := c.d.def_ i hi
  exact ⟨_, fd, F, He.mkr_ok (c.d.fact j hj)⟩
theorem str_of (X : K.In h) (G : h.Ns mainGlobals mg) (c : Says h K) {x z : Str} (j : Nat) (hj : fa[j]? = some (.str x z)) : GStr mg x z := by
  obtain ⟨t, e⟩ := He.str_ok X G (c.d.fact j hj)
  exact ⟨_, e, ⟨t, rfl⟩⟩
theorem int_of (X : K.In h) (G : h.Ns mainGlobals mg) (c : Says h K) {x : Str} {z : Int} (j : Nat) (hj : fa[j]? = some (.int x z)) : GInt mg x z := by
  obtain ⟨t, e⟩ := He.int_ok X G (c.d.fact j hj)
  exact ⟨_, e, ⟨t, rfl⟩⟩
theorem tup_of (X : K.In h) (G : h.Ns mainGlobals mg) (c : Says h K) {x : Str} {zs : List He.Dv} (i j : Nat) (hi : (exL K)[i]? = some (He.tupB K x zs)) (hj : fa[j]? = some (.glo x)) : GTup K mg x (zs.map (He.Dv.v K)) :=
  ⟨_, ⟨_, He.glo_ok X G (c.d.fact j hj), rfl⟩, He.tupB_ok (c.e i hi)⟩
theorem tx_of (X : K.In h) (G : h.Ns mainGlobals mg) (c : Says h K) : TX K mg (adsOf K) where
  d_is_state := defF_of X G c 0 0 rfl rfl
  d_edition_in := defF_of X G c 1 1 rfl rfl
  d_is_there := defF_of X G c 2 2 rfl rfl
  d_is_met := defF_of X G c 3 3 rfl rfl
  d_lacking := defF_of X G c 4 4 rfl rfl
  d_hostile := defF_of X G c 5 5 rfl rfl
  d_unpack_refusal := defF_of X G c 6 6 rfl rfl
  d_setup_refusal := defF_of X G c 7 7 rfl rfl
  d_remove_refusal := defF_of X G c 8 8 rfl rfl
  d_refusal := defF_of X G c 9 9 rfl rfl
  d_all_deeds := defF_of X G c 10 10 rfl rfl
  d_executed := defF_of X G c 11 11 rfl rfl
  d_every_run := defF_of X G c 12 12 rfl rfl
  d_steps := defF_of X G c 13 13 rfl rfl
  d_ends := defF_of X G c 14 14 rfl rfl
  d_need_store := defF_of X G c 15 15 rfl rfl
  d_is_number := defF_of X G c 16 16 rfl rfl
  d_is_word := defF_of X G c 17 17 rfl rfl
  d_is_rising := defF_of X G c 18 18 rfl rfl
  d_is_need := defF_of X G c 19 19 rfl rfl
  d_calls_at := defF_of X G c 20 20 rfl rfl
  d_moments := defF_of X G c 21 21 rfl rfl
  d_calls_of := defF_of X G c 22 22 rfl rfl
  d_is_script := defF_of X G c 23 23 rfl rfl
  d_behind_one := defF_of X G c 24 24 rfl rfl
  d_behind_all := defF_of X G c 25 25 rfl rfl
  d_behind := defF_of X G c 26 26 rfl rfl
  d_sets_of := defF_of X G c 27 27 rfl rfl
  d_is_part := defF_of X G c 28 28 rfl rfl
  d_explained := defF_of X G c 29 29 rfl rfl
  d_need_sets := defF_of X G c 30 30 rfl rfl
  d_are_unlike := defF_of X G c 31 31 rfl rfl
  d_tells_apart := defF_of X G c 32 32 rfl rfl
  d_telling_deeds := defF_of X G c 33 33 rfl rfl
  d__law_taken := defF_of X G c 34 34 rfl rfl
  d__law_store := defF_of X G c 35 35 rfl rfl
  d__law_system := defF_of X G c 36 36 rfl rfl
  d__law_deed := defF_of X G c 37 37 rfl rfl
  d__law_scripts := defF_of X G c 38 38 rfl rfl
  d__law_faulty := defF_of X G c 39 39 rfl rfl
  d__law_are_told := defF_of X G c 40 40 rfl rfl
  cl_sy := He.cls_ok (c.d.fact 43)
  mg_sy := He.glo_ok X G (c.d.fact 42)
  no_sy_base := He.noat_ok (c.d.fact 45)
  no_sy_rows := He.noat_ok (c.d.fact 46)
  m_sy_eq := metF_of c 42 47 rfl rfl
  m_sy_with_state := metF_of c 43 48 rfl rfl
  p_sy_store := c.pr_ 0 rfl
  p_sy_line := c.pr_ 1 rfl
  k_sy := makF_of c 44 44 rfl rfl
  cl_rn := He.cls_ok (c.d.fact 50)
  mg_rn := He.glo_ok X G (c.d.fact 49)
  no_rn_base := He.noat_ok (c.d.fact 52)
  no_rn_fails := He.noat_ok (c.d.fact 53)
  no_rn_made := He.noat_ok (c.d.fact 54)
  m_rn_is_done := metF_of c 45 55 rfl rfl
  m_rn_state_behind := metF_of c 46 56 rfl rfl
  m_rn_unpacked_new := metF_of c 47 57 rfl rfl
  m_rn_unpacked_over := metF_of c 48 58 rfl rfl
  m_rn_is_left := metF_of c 49 59 rfl rfl
  m_rn_given_up := metF_of c 50 60 rfl rfl
  m_rn_put_back := metF_of c 51 61 rfl rfl
  m_rn_set_up := metF_of c 52 62 rfl rfl
  m_rn_removed := metF_of c 53 63 rfl rfl
  m_rn_purged := metF_of c 54 64 rfl rfl
  k_rn := makF_of c 55 51 rfl rfl
  cl_co := He.cls_ok (c.d.fact 66)
  mg_co := He.glo_ok X G (c.d.fact 65)
  no_co_spots := He.noat_ok (c.d.fact 68)
  k_co := makF_of c 56 67 rfl rfl
  cl_ed := He.cls_ok (c.d.fact 70)
  mg_ed := He.glo_ok X G (c.d.fact 69)
  no_ed_label := He.noat_ok (c.d.fact 72)
  no_ed_number := He.noat_ok (c.d.fact 73)
  no_ed_has := He.noat_ok (c.d.fact 74)
  no_ed_wants := He.noat_ok (c.d.fact 75)
  no_ed_asks := He.noat_ok (c.d.fact 76)
  no_ed_shuns := He.noat_ok (c.d.fact 77)
  p_ed_scripts := c.pr_ 2 rfl
  k_ed := makF_of c 57 71 rfl rfl
  cl_st := He.cls_ok (c.d.fact 79)
  mg_st := He.glo_ok X G (c.d.fact 78)
  no_st_known := He.noat_ok (c.d.fact 81)
  m_st_versions := metF_of c 58 82 rfl rfl
  m_st_contains := metF_of c 59 83 rfl rfl
  m_st_getitem := metF_of c 60 84 rfl rfl
  m_st_eq := metF_of c 61 85 rfl rfl
  p_st_names := c.pr_ 3 rfl
  k_st := makF_of c 62 80 rfl rfl
  i_sy := insB_ok (He.cls_ok (c.d.fact 43)) (c.e 4 rfl)
  i_st := insB_ok (He.cls_ok (c.d.fact 79)) (c.e 5 rfl)
  g_ABSENT := str_of X G c 86 rfl
  g_FAILED := str_of X G c 87 rfl
  g_HALF := str_of X G c 88 rfl
  g_LEFT := str_of X G c 89 rfl
  g_READY := str_of X G c 90 rfl
  g_UNPACKED := str_of X G c 91 rfl
  g_UNPACK := str_of X G c 92 rfl
  g_SETUP := str_of X G c 93 rfl
  g_REMOVE := str_of X G c 94 rfl
  g_PURGE := str_of X G c 95 rfl
  g_CLEAN := str_of X G c 96 rfl
  g_ENTER := str_of X G c 97 rfl
  g_LEAVE := str_of X G c 98 rfl
  g_LETTERS := str_of X G c 99 rfl
  g_MOST_LETTERS := int_of X G c 100 rfl
  g_MOST_VERSION := int_of X G c 101 rfl
  g_MOST_SCRIPTS := int_of X G c 102 rfl
  g_MOST_DEEDS := int_of X G c 103 rfl
  g_MOST_EDITIONS := int_of X G c 104 rfl
  g_MOST_NAMES := int_of X G c 105 rfl
  g_NOTHING := tup_of X G c 0 119 rfl rfl
  g_STATUSES := tup_of X G c 1 120 rfl rfl
  g_THERE := tup_of X G c 2 121 rfl rfl
  g_SCRIPTS := tup_of X G c 3 122 rfl rfl
  f_sorted := He.free_ok X G (c.d.fact 106)
  f_set := He.free_ok X G (c.d.fact 107)
  f_len := He.free_ok X G (c.d.fact 108)
  f_min := He.free_ok X G (c.d.fact 109)
  f_any := He.free_ok X G (c.d.fact 110)
  f_all := He.free_ok X G (c.d.fact 111)
  f_list := He.free_ok X G (c.d.fact 112)
  f_tuple := He.free_ok X G (c.d.fact 113)
  f_isinstance := He.free_ok X G (c.d.fact 114)
  f_range := He.free_ok X G (c.d.fact 115)
  f_enumerate := He.free_ok X G (c.d.fact 116)
  f_int := He.free_ok X G (c.d.fact 117)
  f_bool := He.free_ok X G (c.d.fact 118)
  ne_sy := He.eqO_ok (c.e 6 rfl)
  sub_sy := of_decide_eq_true (c.e 7 rfl)
  fn_st := fun f hf => by
    have h1 := (He.meth_ok (c.d.fact 84 (f := .meth "Store" "__getitem__"))).at_
    have h2 : some (some (Value.ref f)) = some (some (Value.ref (He.ma K (He.ga K "Store") "__getitem__"))) := hf.symm.trans h1
    injection h2 with h2
    injection h2 with h2
    injection h2 with h2
    rw [h2]
    exact c.e 8 rfl
theorem defF_law (X : K.In h) (G : h.Ns mainGlobals mg) (c : Says h K) : DefF K mg "law" s_law := defF_of X G c 41 41 rfl rfl
theorem glo_every (X : K.In h) (G : h.Ns mainGlobals mg) (c : Says h K) : mg "every_run" = some (.ref (He.ga K "every_run")) := He.glo_ok X G (c.d.fact 12)
theorem fun_every (c : Says h K) : ∃ fd, FunD K "every_run" "every_run" (defArgs s_every_run) (defBody s_every_run) (defScope s_every_run) [] [] (He.fAd K ("every_run", none)) fd := c.d.def_ 12 rfl
end
end Hs
end
section
set_option Elab.async false
set_option linter.all false
set_option maxRecDepth 100000
set_option maxHeartbeats 4000000
namespace Hs
open PySem PySem.Spec PyProof.Rows L2
open LamX (TabB Tabs TabS)
section
variable {h : Heap} {K : PySem.W.Frag} {mg : Str → Option Value}
/-- every_run's code object -/
theorem defC_of (X : K.In h) (G : h.Ns mainGlobals mg) (c : Says h K) (hx : mg "every_run" = some (.ref (He.ga K "every_run"))) (F : ∃ fd, FunD K "every_run" "every_run" (defArgs s_every_run) (defBody s_every_run) (defScope s_every_run) [] [] (He.fAd K ("every_run", none)) fd) :
    DefC K mg "every_run" s_every_run (He.codeOf K ("every_run", none)) := by
  obtain ⟨fd, F⟩ := F
  obtain ⟨oc, od, dV, kV, doc, pm, an, cdv, ct, osl, rfl, lk, hcd, hd, hk⟩ := F.ex
  obtain ⟨c', rfl⟩ := He.codeIn_ref hcd
  have e := He.codeOf_eq lk rfl
  have hdv : dV = .none := by
    rcases hd with ⟨_, h⟩ | ⟨h, _⟩
    · exact h
    · exact absurd rfl h
  subst hdv
  rw [e]
  exact ⟨_, oc, od, kV, doc, pm, an, ct, osl, lk, hcd, F.kp, hx⟩
end
end Hs
open PySem PySem.W PySem.Calls PyProof.Rows
theorem PySem.Challenge.cw_halfsetup_k59_whole_faults_and_courses_holds : PySem.Challenge.rw_halfsetup_k59_whole_faults_and_courses.Holds := by
  w_on; o_law
  refine HandSHeadRun.head_any (r := OpenLaw.row PySem.Challenge.rw_halfsetup_k59_whole_faults_and_courses) (q := view (OpenLaw.row PySem.Challenge.rw_halfsetup_k59_whole_faults_and_courses).prog [90]) (H := Hs.hk) (ob := Hs.ob) (M := 30000) (loose := Hs.names) (d := HandSHeadRun.topDef (OpenLaw.row PySem.Challenge.rw_halfsetup_k59_whole_faults_and_courses).prog 90) (kwd := []) Hs.ob_eq
    (by kernel_rfl) (fun s => by kernel_rfl) Hs.run (by kernel_rfl) (by kernel_rfl) (by kernel_rfl) (by rfl) (by first | assumption | decide +kernel) (by decide +kernel) ⟨rfl, rfl, rfl, rfl, rfl, by decide +kernel⟩ ?hw ?hc
  case hw => w_witness2
  case hc =>
    refine LamX.walk_ofTsE (l := PySem.Challenge.rw_halfsetup_k59_whole_faults_and_courses) (n := 63) (k := 20) (x := "_law_script") (CX := fun _ => L2.CX0) rfl (by decide) (by kernel_rfl) ⟨rfl, by decide, by decide⟩ ?F (fun _ _ _ _ _ z => z)
    intro w mg fa h Y G hmg0
    obtain ⟨K, KX, c⟩ := Y
    have hmg : mg ("law" : PySem.Str) = some (.ref fa) := by
      have e : (HandSHeadRun.topDef (OpenLaw.row PySem.Challenge.rw_halfsetup_k59_whole_faults_and_courses).prog 90).name = ("law" : PySem.Str) := by kernel_rfl
      rw [← e]
      exact hmg0
    have T := Hs.tx_of KX G c
    obtain ⟨fl, fd, F, hl⟩ := Hs.defF_law KX G c
    have e := hmg.symm.trans hl
    cases e
    have D := Hs.defC_of KX G c (Hs.glo_every KX G c) (Hs.fun_every c)
    have b := L2.FunD.bindsA (ps := ["_law_script"]) F fun _ _ _ _ _ _ us hl => match us, hl with | [_], _ => rfl
    refine ⟨K, KX, fd, [He.cT K ("every_run", none)], Hs.spLaw K (He.cT K ("every_run", none)).2, fun p hp => ?_, fun p hp => ?_, fun p hp => ?_, fun s u => b s [u] rfl, fun H a ns hl _ hT hS => ⟨a, ns, rfl, hS, hl, fun p hp => ?_, fun _ => rfl⟩, fun base _ _ hB => Hs.law_ok T D (hB _ (List.mem_singleton.mpr rfl)) F⟩
    · rw [List.mem_singleton.mp hp]
      exact c.empty _ (List.mem_singleton.mpr rfl)
    · rw [List.mem_singleton.mp hp]
      exact c.out _ (List.mem_singleton.mpr rfl)
    · rw [List.mem_singleton.mp hp]
      exact codeHd_of_K KX (c.hd _ (List.mem_singleton.mpr rfl))
    · rw [List.mem_singleton.mp hp]
      exact LamX.TabS.nil (hT _ (List.mem_singleton.mpr rfl))
end
