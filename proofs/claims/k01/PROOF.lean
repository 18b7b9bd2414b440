import PyProof.Rows.All
import Wide.All
import OpenK.AllK
import Wide.FinOn
import HandS.ForMost
import HandS.Walk
import HandS.Exc
import HandS.ForExc
import HandS.CallSlots
import HandS.TupAny
import HandS.Flow
import HandS.Zip
import HandS.SortInts
import HandS.IsInst
import HandS.Style
import HandS.NoneIn
import HandS.Deep
import HandS.WideBits
import HandS.TupMul
import HandS.SortOrd
import HandS.SortRule
import KE.KSortTup
import KE.KeyNested
import KE.LtSeq
import PyProof.Rows.SortKeyStr
import HandS.Star
import PyProof.Draws
import PyProof.EnumMake
import KE.KExcLine
import HandS.ExcValue
import HandS.ExcIs
import HandS.ExcField
import KE.KExcIs
import HandS.Defaults
import HandS.Codes
import HandS.Ends
import HandS.Head0
import HandS.Head1
import HandS.Head2
import HandS.HeadEnd
import HandS.HeadHook1
import HandS.HeadHook2
import KE.KStateDown
import PySem.Challenge.RW_anyareas_k01_what_a_plan_tells
set_option Elab.async false
set_option linter.all false
set_option maxRecDepth 100000
namespace EV
open PySem PySem.Spec PyProof.Rows L2
variable {K : PySem.W.Frag}

/-- abstract values -/
inductive AV where
  | non | bl (b : Bool) | int (i : Int) | str (s : List Nat)
  | tup (l : List AV) | lst (l : List AV) | ref (n : Nat) | scr (l : List AV)
  | exc (x f : List Nat) (as : List AV)
  deriving Inhabited

/-- abstract mutable objects -/
inductive AObj where
  | lst (l : List AV)
  deriving Inhabited
abbrev AH := List AObj

abbrev mkS (s : List Nat) : Str := ⟨s.toArray⟩

/-- tracked mutable addresses, hidden addresses -/
structure Th (K : PySem.W.Frag) where
  th : List Addr
  hd : List Addr

def Th.off {K : PySem.W.Frag} (Θ : Th K) (a : Addr) : Prop := a ∉ Θ.th ∧ a ∉ Θ.hd

/-- a list of the written part -/
def KB (K : PySem.W.Frag) (a : Addr) (xs : List V) : Prop := ∃ (o : Obj) (its : Array Value) (n : Nat), K.lookup a = some o ∧ o.cls = .type "list" ∧ o.dict = none ∧ o.data = .seq its n ∧ its.size ≤ sizeLine ∧ Vals xs its.toList
/-- an exception object that is held: its class, its dict -/
def ExK (cls : Value) (dd : Option Addr) (a : Addr) : HO := .ext fun h => ∃ (oe : Obj) (vs : Array Value), h.get? a = some oe ∧ Zc cls dd oe ∧ oe.data = .fields vs
/-- the class of a name of the module -/
def clsAt (K : PySem.W.Frag) (x : List Nat) (C : Addr) : Prop := PySem.W.nsIn K mainGlobals (mkS x) = some (some (.ref C))
/-- the one field of an exception, or none -/
def DX {K : PySem.W.Frag} (Θ : Th K) (H : Hp) (d : Option Addr) (f : List Nat) (vs : List V) : Prop := (d = none ∧ vs = []) ∨ ∃ p v, d = some p ∧ vs = [v] ∧ H p = some (.xd [(mkS f, v)]) ∧ Θ.off p
theorem DX.of {K : PySem.W.Frag} {Θ Θ1 : Th K} {H H1 : Hp} {d : Option Addr} {f : List Nat} {vs : List V} (x : DX Θ H d f vs) (k : ∀ p o, H p = some o → Θ.off p → H1 p = some o ∧ Θ1.off p) : DX Θ1 H1 d f vs := by
  rcases x with x | ⟨p, v, e1, e2, e3, e4⟩
  · exact .inl x
  · exact .inr ⟨p, v, e1, e2, k p _ e3 e4⟩
mutual
inductive Rep {K : PySem.W.Frag} (Θ : Th K) (H : Hp) : AV → V → Prop
  | non : Rep Θ H .non .non
  | bl (b : Bool) : Rep Θ H (.bl b) (.bl b)
  | int (i : Int) : Rep Θ H (.int i) (.int i)
  | str (s : List Nat) : Rep Θ H (.str s) (.str (mkS s))
  | tup {a : Addr} {vs : List V} {xs : List AV} : H a = some (.tup vs) → Θ.off a → RepL Θ H xs vs → Rep Θ H (.tup xs) (.ref a)
  | lst {a : Addr} {vs : List V} {xs : List AV} : H a = some (.lst vs) → Θ.off a → RepL Θ H xs vs → Rep Θ H (.lst xs) (.ref a)
  | ref {n : Nat} {a : Addr} : Θ.th[n]? = some a → Rep Θ H (.ref n) (.ref a)
  | scr {a : Addr} {o : Obj} {vs : List V} {xs : List AV} : H a = some (.frz o (.lst vs)) → Θ.off a → RepL Θ H xs vs → Rep Θ H (.scr xs) (.ref a)
  | scrK {a : Addr} {vs : List V} {xs : List AV} : KB K a vs → RepL Θ H xs vs → Rep Θ H (.scr xs) (.ref a)
  | exc {a C : Addr} {d : Option Addr} {x f : List Nat} {vs : List V} {xs : List AV} : clsAt K x C → H a = some (ExK (.ref C) d a) → Θ.off a → DX Θ H d f vs → RepL Θ H xs vs → Rep Θ H (.exc x f xs) (.ref a)
inductive RepL {K : PySem.W.Frag} (Θ : Th K) (H : Hp) : List AV → List V → Prop
  | nil : RepL Θ H [] []
  | cons {x : AV} {v : V} {xs : List AV} {vs : List V} : Rep Θ H x v → RepL Θ H xs vs → RepL Θ H (x :: xs) (v :: vs)
end

def OR {K : PySem.W.Frag} (Θ : Th K) (H : Hp) (a : Addr) : AObj → Prop
  | .lst xs => ∃ vs, H a = some (.lst vs) ∧ RepL Θ H xs vs

structure HR {K : PySem.W.Frag} (Θ : Th K) (h : AH) (H : Hp) : Prop where
  len : Θ.th.length = h.length
  nd : Θ.th.Nodup
  dj : ∀ a ∈ Θ.th, a ∉ Θ.hd
  hid : ∀ a ∈ Θ.hd, H a ≠ none
  obj : ∀ (n : Nat) a o, Θ.th[n]? = some a → h[n]? = some o → OR Θ H a o

abbrev ASt := List (Option AV)
structure SR {K : PySem.W.Frag} (Θ : Th K) (H : Hp) (σa : ASt) (σ : L2.St) : Prop where
  len : σa.length = σ.length
  at_ : ∀ (i : Nat) v, σa[i]? = some (some v) → ∃ x, σ[i]? = some (some x) ∧ Rep Θ H v x

/-- a step of the run -/
structure Tr {K : PySem.W.Frag} (Θ : Th K) (H : Hp) (Θ' : Th K) (H' : Hp) : Prop where
  hd : Θ'.hd = Θ.hd
  th : ∃ more, Θ'.th = Θ.th ++ more ∧ ∀ a ∈ more, a ∈ Θ.th ∨ H a = none
  keep : ∀ a o, H a = some o → a ∉ Θ.th → H' a = some o

section
variable {K : PySem.W.Frag} {Θ Θ1 Θ2 : Th K} {H H1 H2 : Hp} {h h1 h2 : AH}
theorem Tr.refl : Tr Θ H Θ H := ⟨rfl, ⟨[], by simp, by simp⟩, fun _ _ e _ => e⟩
theorem Tr.trans (a : Tr Θ H Θ1 H1) (b : Tr Θ1 H1 Θ2 H2) : Tr Θ H Θ2 H2 := by
  obtain ⟨m1, e1, f1⟩ := a.th
  obtain ⟨m2, e2, f2⟩ := b.th
  refine ⟨b.hd.trans a.hd, ⟨m1 ++ m2, by rw [e2, e1, List.append_assoc], fun x hx => ?_⟩, fun x o e n => ?_⟩
  · rcases List.mem_append.mp hx with hx | hx
    · exact f1 x hx
    · by_cases ht : x ∈ Θ.th
      · exact .inl ht
      · refine .inr ?_
        cases q : H x with
        | none => rfl
        | some o =>
          have z := a.keep x o q ht
          rcases f2 x hx with y | y
          · rw [e1] at y
            rcases List.mem_append.mp y with y | y
            · exact absurd y ht
            · rcases f1 x y with w | w
              · exact absurd w ht
              · rw [q] at w; cases w
          · rw [y] at z; cases z
  · refine b.keep x o (a.keep x o e n) fun hx => ?_
    rw [e1] at hx
    rcases List.mem_append.mp hx with hx | hx
    · exact n hx
    · rcases f1 x hx with w | w
      · exact n w
      · rw [w] at e; cases e
theorem Tr.off (t : Tr Θ H Θ1 H1) {a : Addr} {o : HO} (e : H a = some o) (f : Θ.off a) : Θ1.off a := by
  obtain ⟨m, e1, f1⟩ := t.th
  refine ⟨fun hx => ?_, by rw [t.hd]; exact f.2⟩
  rw [e1] at hx
  rcases List.mem_append.mp hx with hx | hx
  · exact f.1 hx
  · rcases f1 a hx with w | w
    · exact f.1 w
    · rw [w] at e; cases e
theorem Tr.get (t : Tr Θ H Θ1 H1) {n : Nat} {a : Addr} (e : Θ.th[n]? = some a) : Θ1.th[n]? = some a := by
  obtain ⟨m, e1, _⟩ := t.th
  rw [e1, List.getElem?_append_left (List.getElem?_eq_some_iff.mp e).1]
  exact e
mutual
theorem Rep.mono (t : Tr Θ H Θ1 H1) : ∀ {x : AV} {v : V}, Rep Θ H x v → Rep Θ1 H1 x v
  | _, _, .non => .non
  | _, _, .bl b => .bl b
  | _, _, .int i => .int i
  | _, _, .str s => .str s
  | _, _, .tup r f l => .tup (t.keep _ _ r f.1) (t.off r f) (RepL.mono t l)
  | _, _, .lst r f l => .lst (t.keep _ _ r f.1) (t.off r f) (RepL.mono t l)
  | _, _, .ref e => .ref (t.get e)
  | _, _, .scr r f l => .scr (t.keep _ _ r f.1) (t.off r f) (RepL.mono t l)
  | _, _, .scrK k l => .scrK k (RepL.mono t l)
  | _, _, .exc c r f y l => .exc c (t.keep _ _ r f.1) (t.off r f) (y.of fun p o e g => ⟨t.keep _ _ e g.1, t.off e g⟩) (RepL.mono t l)
theorem RepL.mono (t : Tr Θ H Θ1 H1) : ∀ {x : List AV} {v : List V}, RepL Θ H x v → RepL Θ1 H1 x v
  | _, _, .nil => .nil
  | _, _, .cons a b => .cons (Rep.mono t a) (RepL.mono t b)
end
theorem SR.mono {σa : ASt} {σ : L2.St} (s : SR Θ H σa σ) (t : Tr Θ H Θ1 H1) : SR Θ1 H1 σa σ :=
  ⟨s.len, fun i v e => let ⟨x, e1, r⟩ := s.at_ i v e; ⟨x, e1, r.mono t⟩⟩

/-! ### lists of representations -/
theorem RepL.length : ∀ {xs : List AV} {vs : List V}, RepL Θ H xs vs → xs.length = vs.length
  | _, _, .nil => rfl
  | _, _, .cons _ b => by simp [RepL.length b]
theorem RepL.get : ∀ {xs : List AV} {vs : List V} {i : Nat} {x : AV}, RepL Θ H xs vs → xs[i]? = some x → ∃ v, vs[i]? = some v ∧ Rep Θ H x v
  | _, _, _, _, .nil, e => by simp at e
  | _, _, 0, _, .cons r _, e => by simp at e; subst e; exact ⟨_, rfl, r⟩
  | _, _, i + 1, x, .cons _ t, e => by
    obtain ⟨u, h1, h2⟩ := RepL.get (i := i) (x := x) t (by simpa using e)
    exact ⟨u, by simpa using h1, h2⟩
theorem RepL.getV : ∀ {xs : List AV} {vs : List V} {i : Nat} {v : V}, RepL Θ H xs vs → vs[i]? = some v → ∃ x, xs[i]? = some x ∧ Rep Θ H x v
  | _, _, _, _, .nil, e => by simp at e
  | _, _, 0, _, .cons r _, e => by simp at e; subst e; exact ⟨_, rfl, r⟩
  | _, _, i + 1, x, .cons _ t, e => by
    obtain ⟨u, h1, h2⟩ := RepL.getV (i := i) (v := x) t (by simpa using e)
    exact ⟨u, by simpa using h1, h2⟩
theorem RepL.append : ∀ {xs ys : List AV} {vs ws : List V}, RepL Θ H xs vs → RepL Θ H ys ws → RepL Θ H (xs ++ ys) (vs ++ ws)
  | _, _, _, _, .nil, s => s
  | _, _, _, _, .cons r t, s => .cons r (RepL.append t s)
theorem RepL.take : ∀ {xs : List AV} {vs : List V} (n : Nat), RepL Θ H xs vs → RepL Θ H (xs.take n) (vs.take n)
  | _, _, 0, _ => .nil
  | _, _, _ + 1, .nil => .nil
  | _, _, n + 1, .cons r t => .cons r (RepL.take n t)
theorem RepL.drop : ∀ {xs : List AV} {vs : List V} (n : Nat), RepL Θ H xs vs → RepL Θ H (xs.drop n) (vs.drop n)
  | _, _, 0, r => r
  | _, _, _ + 1, .nil => .nil
  | _, _, n + 1, .cons _ t => RepL.drop n t
theorem RepL.set {x : AV} {u : V} (r : Rep Θ H x u) : ∀ {xs : List AV} {us : List V} (i : Nat), RepL Θ H xs us → RepL Θ H (xs.set i x) (us.set i u)
  | _, _, _, .nil => .nil
  | _, _, 0, .cons _ t => .cons r t
  | _, _, i + 1, .cons q t => .cons q (RepL.set r i t)
theorem RepL.reverse {xs : List AV} {vs : List V} (r : RepL Θ H xs vs) : RepL Θ H xs.reverse vs.reverse := by
  have go : ∀ {xs : List AV} {vs : List V} {ys : List AV} {ws : List V}, RepL Θ H xs vs → RepL Θ H ys ws → RepL Θ H (xs.reverse ++ ys) (vs.reverse ++ ws) := by
    intro xs
    induction xs with
    | nil => intro vs ys ws a b; cases a; exact b
    | cons x xs ih =>
      intro vs ys ws a b
      cases a with
      | cons p q =>
        have := ih q (.cons p b)
        simpa using this
  have := go r .nil
  simpa using this
theorem RepL.eraseIdx : ∀ {xs : List AV} {us : List V} (i : Nat), RepL Θ H xs us → RepL Θ H (xs.eraseIdx i) (us.eraseIdx i)
  | _, _, _, .nil => .nil
  | _, _, 0, .cons _ t => t
  | _, _, i + 1, .cons r t => .cons r (RepL.eraseIdx i t)
theorem RepL.flat {xs : List AV} {vs : List V} (r : RepL Θ H xs vs) : ∀ k : Nat, RepL Θ H (List.replicate k xs).flatten (List.replicate k vs).flatten
  | 0 => .nil
  | k + 1 => by simpa [List.replicate_succ] using r.append (RepL.flat r k)

/-! ### storing a slot -/
theorem SR.set {σa : ASt} {σ : L2.St} (s : SR Θ H σa σ) {v : AV} {x : V} (r : Rep Θ H v x) (i : Nat) : SR Θ H (σa.set i (some v)) (σ.set i (some x)) := by
  refine ⟨by simpa using s.len, fun j w e => ?_⟩
  by_cases hj : i = j
  · subst hj
    by_cases hi : i < σa.length
    · rw [List.getElem?_set_self hi] at e
      cases e
      exact ⟨x, by rw [List.getElem?_set_self (by rw [← s.len]; exact hi)], r⟩
    · rw [List.getElem?_eq_none (by simpa using hi)] at e; cases e
  · rw [List.getElem?_set_ne hj] at e
    obtain ⟨y, e1, r1⟩ := s.at_ j w e
    exact ⟨y, by rw [List.getElem?_set_ne hj]; exact e1, r1⟩
theorem SR.wipe {σa : ASt} {σ : L2.St} (s : SR Θ H σa σ) (vs : List Nat) : SR Θ H (vs.foldr (fun v acc => acc.set v none) σa) (L2.wipe σ vs) := by
  induction vs with
  | nil => exact s
  | cons v vs ih =>
    show SR Θ H ((vs.foldr (fun v acc => acc.set v none) σa).set v none) ((L2.wipe σ vs).set v none)
    refine ⟨by simpa using ih.len, fun j w e => ?_⟩
    by_cases hj : v = j
    · subst hj
      by_cases hi : v < (vs.foldr (fun v acc => acc.set v none) σa).length
      · rw [List.getElem?_set_self hi] at e; cases e
      · rw [List.getElem?_eq_none (by simpa using hi)] at e; cases e
    · rw [List.getElem?_set_ne hj] at e
      obtain ⟨y, e1, r1⟩ := ih.at_ j w e
      exact ⟨y, by rw [List.getElem?_set_ne hj]; exact e1, r1⟩

/-! ### a new object, not tracked as mutable -/
theorem Tr.new {p : Addr} {o : HO} (n : H p = none) : Tr Θ H Θ (upd H p o) := by
  refine ⟨rfl, ⟨[], by simp, by simp⟩, fun a u e _ => ?_⟩
  rw [upd_ne (ne_of_none e n)]; exact e
theorem HR.th_some (r : HR Θ h H) {a : Addr} (m : a ∈ Θ.th) : H a ≠ none := by
  obtain ⟨n, hn, e⟩ := List.getElem_of_mem m
  have q : Θ.th[n]? = some a := by rw [List.getElem?_eq_getElem hn, e]
  have hn' : n < h.length := by rw [← r.len]; exact hn
  have z := r.obj n a h[n] q (List.getElem?_eq_getElem hn')
  cases hh : h[n] with
  | lst xs => rw [hh] at z; obtain ⟨vs, e, _⟩ := z; rw [e]; simp
theorem HR.off (r : HR Θ h H) {p : Addr} (n : H p = none) : Θ.off p := ⟨fun m => r.th_some m n, fun m => r.hid p m n⟩
theorem HR.keep (r : HR Θ h H) (t : Tr Θ H Θ H1) (same : ∀ a ∈ Θ.th, H1 a = H a) (hn : ∀ a ∈ Θ.hd, H1 a ≠ none) : HR Θ h H1 := by
  refine ⟨r.len, r.nd, r.dj, hn, fun n a o e1 e2 => ?_⟩
  have z := r.obj n a o e1 e2
  cases o with
  | lst xs =>
    obtain ⟨vs, e, l⟩ := z
    exact ⟨vs, by rw [same a (List.mem_of_getElem? e1)]; exact e, l.mono t⟩
theorem HR.new (r : HR Θ h H) {p : Addr} {o : HO} (n : H p = none) : HR Θ h (upd H p o) := by
  refine r.keep (Tr.new n) (fun a m => ?_) (fun a m => ?_)
  · exact upd_ne fun e => r.th_some m (e ▸ n)
  · by_cases e : a = p
    · subst e; rw [upd_same]; simp
    · rw [upd_ne e]; exact r.hid a m

/-! ### more hidden, less hidden -/
def Th.hide (Θ : Th K) (p : Addr) : Th K := ⟨Θ.th, p :: Θ.hd⟩
def Th.push (Θ : Th K) (p : Addr) : Th K := ⟨Θ.th ++ [p], Θ.hd⟩
theorem Th.hide_off {p a : Addr} (f : (Θ.hide p).off a) : Θ.off a := ⟨f.1, fun m => f.2 (List.mem_cons_of_mem _ m)⟩
theorem Th.push_off {p a : Addr} (f : (Θ.hide p).off a) : (Θ.push p).off a :=
  ⟨fun m => by rcases List.mem_append.mp m with m | m
               · exact f.1 m
               · exact f.2 (by rw [List.mem_singleton.mp m]; exact List.mem_cons_self), fun m => f.2 (List.mem_cons_of_mem _ m)⟩
theorem Th.off_hide {p a : Addr} {o : HO} (n : H p = none) (r : H a = some o) (f : Θ.off a) : (Θ.hide p).off a := ⟨f.1, fun m => by
    rcases List.mem_cons.mp m with m | m
    · subst m; rw [n] at r; cases r
    · exact f.2 m⟩
mutual
theorem Rep.unhide {p : Addr} : ∀ {x : AV} {v : V}, Rep (Θ.hide p) H x v → Rep Θ H x v
  | _, _, .non => .non
  | _, _, .bl b => .bl b
  | _, _, .int i => .int i
  | _, _, .str s => .str s
  | _, _, .tup r f l => .tup r (Th.hide_off f) (RepL.unhide l)
  | _, _, .lst r f l => .lst r (Th.hide_off f) (RepL.unhide l)
  | _, _, .scr r f l => .scr r (Th.hide_off f) (RepL.unhide l)
  | _, _, .scrK k l => .scrK k (RepL.unhide l)
  | _, _, .exc c r f y l => .exc c r (Th.hide_off f) (y.of fun p o e g => ⟨e, Th.hide_off g⟩) (RepL.unhide l)
  | _, _, .ref e => .ref e
theorem RepL.unhide {p : Addr} : ∀ {x : List AV} {v : List V}, RepL (Θ.hide p) H x v → RepL Θ H x v
  | _, _, .nil => .nil
  | _, _, .cons a b => .cons (Rep.unhide a) (RepL.unhide b)
end
mutual
theorem Rep.push {p : Addr} : ∀ {x : AV} {v : V}, Rep (Θ.hide p) H x v → Rep (Θ.push p) H x v
  | _, _, .non => .non
  | _, _, .bl b => .bl b
  | _, _, .int i => .int i
  | _, _, .str s => .str s
  | _, _, .tup r f l => .tup r (Th.push_off f) (RepL.push l)
  | _, _, .lst r f l => .lst r (Th.push_off f) (RepL.push l)
  | _, _, .scr r f l => .scr r (Th.push_off f) (RepL.push l)
  | _, _, .scrK k l => .scrK k (RepL.push l)
  | _, _, .exc c r f y l => .exc c r (Th.push_off f) (y.of fun p o e g => ⟨e, Th.push_off g⟩) (RepL.push l)
  | _, _, .ref e => .ref (by
      have e' : Θ.th[_]? = some _ := e
      show (Θ.th ++ [p])[_]? = _
      rw [List.getElem?_append_left (List.getElem?_eq_some_iff.mp e').1]; exact e')
theorem RepL.push {p : Addr} : ∀ {x : List AV} {v : List V}, RepL (Θ.hide p) H x v → RepL (Θ.push p) H x v
  | _, _, .nil => .nil
  | _, _, .cons a b => .cons (Rep.push a) (RepL.push b)
end
mutual
theorem Rep.hide {p : Addr} (n : H p = none) : ∀ {x : AV} {v : V}, Rep Θ H x v → Rep (Θ.hide p) H x v
  | _, _, .non => .non
  | _, _, .bl b => .bl b
  | _, _, .int i => .int i
  | _, _, .str s => .str s
  | _, _, .tup r f l => .tup r ⟨f.1, fun m => by
      rcases List.mem_cons.mp m with m | m
      · subst m; rw [n] at r; cases r
      · exact f.2 m⟩ (RepL.hide n l)
  | _, _, .scrK k l => .scrK k (RepL.hide n l)
  | _, _, .exc c r f y l => .exc c r (Th.off_hide n r f) (y.of fun p o e g => ⟨e, Th.off_hide n e g⟩) (RepL.hide n l)
  | _, _, .scr r f l => .scr r ⟨f.1, fun m => by
      rcases List.mem_cons.mp m with m | m
      · subst m; rw [n] at r; cases r
      · exact f.2 m⟩ (RepL.hide n l)
  | _, _, .lst r f l => .lst r ⟨f.1, fun m => by
      rcases List.mem_cons.mp m with m | m
      · subst m; rw [n] at r; cases r
      · exact f.2 m⟩ (RepL.hide n l)
  | _, _, .ref e => .ref e
theorem RepL.hide {p : Addr} (n : H p = none) : ∀ {x : List AV} {v : List V}, RepL Θ H x v → RepL (Θ.hide p) H x v
  | _, _, .nil => .nil
  | _, _, .cons a b => .cons (Rep.hide n a) (RepL.hide n b)
end
theorem HR.unhide {p : Addr} (r : HR (Θ.hide p) h H) : HR Θ h H :=
  ⟨r.len, r.nd, fun a m k => r.dj a m (List.mem_cons_of_mem _ k), fun a m => r.hid a (List.mem_cons_of_mem _ m), fun n a o e1 e2 => by
    have z := r.obj n a o e1 e2
    cases o with
    | lst xs => obtain ⟨vs, e, l⟩ := z; exact ⟨vs, e, l.unhide⟩⟩
theorem HR.pushed {p : Addr} {xs : List AV} {vs : List V} (r : HR (Θ.hide p) h H) (np' : p ∉ Θ.hd) (e : H p = some (.lst vs)) (l : RepL (Θ.hide p) H xs vs) : HR (Θ.push p) (h ++ [.lst xs]) H := by
  have np : p ∉ Θ.th := fun m => r.dj p m List.mem_cons_self
  refine ⟨by show (Θ.th ++ [p]).length = _; simp [show Θ.th.length = h.length from r.len], ?_, fun a m => ?_, fun a m => r.hid a (List.mem_cons_of_mem _ m), fun n a o e1 e2 => ?_⟩
  · show (Θ.th ++ [p]).Nodup
    rw [List.nodup_append]
    exact ⟨r.nd, by simp, fun a m b k => by rw [List.mem_singleton.mp k]; rintro rfl; exact np m⟩
  · rcases List.mem_append.mp (show a ∈ Θ.th ++ [p] from m) with m | m
    · exact fun k => r.dj a m (List.mem_cons_of_mem _ k)
    · rw [List.mem_singleton.mp m]; exact np'
  · have e1' : (Θ.th ++ [p])[n]? = some a := e1
    have hl : Θ.th.length = h.length := r.len
    by_cases hn : n < h.length
    · rw [List.getElem?_append_left (by omega)] at e1'
      rw [List.getElem?_append_left hn] at e2
      have z := r.obj n a o e1' e2
      cases o with
      | lst xs => obtain ⟨vs, e, l⟩ := z; exact ⟨vs, e, l.push⟩
    · have h1 := (List.getElem?_eq_some_iff.mp e2).1
      have : n = h.length := by simp at h1; omega
      subst this
      rw [List.getElem?_append_right (by omega)] at e1' e2
      simp [hl] at e1' e2
      subst e1' e2
      exact ⟨vs, e, l.push⟩
/-- a tracked list is written -/
theorem Tr.write {n : Nat} {p : Addr} {o : HO} (e : Θ.th[n]? = some p) : Tr Θ H Θ (upd H p o) := by
  refine ⟨rfl, ⟨[], by simp, by simp⟩, fun a u q m => ?_⟩
  rw [upd_ne fun z : a = p => m (by rw [z]; exact List.mem_of_getElem? e)]; exact q
theorem HR.write (r : HR Θ h H) {n : Nat} {p : Addr} {xs : List AV} {vs : List V} (e : Θ.th[n]? = some p) (l : RepL Θ H xs vs) : HR Θ (h.set n (.lst xs)) (upd H p (.lst vs)) := by
  have t : Tr Θ H Θ (upd H p (.lst vs)) := Tr.write e
  refine ⟨by simpa using r.len, r.nd, r.dj, fun a m => ?_, fun k a o e1 e2 => ?_⟩
  · by_cases z : a = p
    · subst z; rw [upd_same]; simp
    · rw [upd_ne z]; exact r.hid a m
  · by_cases hk : n = k
    · subst hk
      rw [e] at e1; cases e1
      have hn : n < h.length := by rw [← r.len]; exact (List.getElem?_eq_some_iff.mp e).1
      rw [List.getElem?_set_self hn] at e2; cases e2
      exact ⟨vs, upd_same, l.mono t⟩
    · rw [List.getElem?_set_ne hk] at e2
      have z := r.obj k a o e1 e2
      have ne : a ≠ p := by
        rintro rfl
        obtain ⟨h1, q1⟩ := List.getElem?_eq_some_iff.mp e
        obtain ⟨h2, q2⟩ := List.getElem?_eq_some_iff.mp e1
        exact hk ((List.getElem_inj r.nd).mp (q1.trans q2.symm))
      cases o with
      | lst ys => obtain ⟨ws, e3, l3⟩ := z; exact ⟨ws, by rw [upd_ne ne]; exact e3, l3.mono t⟩
theorem Tr.unhide {p : Addr} (t : Tr (Θ.hide p) H Θ1 H1) : ∃ Θ2 : Th K, Θ1 = Θ2.hide p ∧ Tr Θ H Θ2 H1 := by
  refine ⟨⟨Θ1.th, Θ.hd⟩, ?_, rfl, t.th, t.keep⟩
  cases Θ1
  have := t.hd
  simp only [Th.hide] at *
  subst this
  rfl
theorem HR.hideNew {p : Addr} {o : HO} (r : HR Θ h H) (n : H p = none) : HR (Θ.hide p) h (upd H p o) := by
  have r' := r.new (o := o) n
  have t : Tr Θ H Θ (upd H p o) := Tr.new n
  refine ⟨r'.len, r'.nd, fun a m k => ?_, fun a m => ?_, fun k a u e1 e2 => ?_⟩
  · rcases List.mem_cons.mp k with k | k
    · subst k; exact r.th_some m n
    · exact r.dj a m k
  · rcases List.mem_cons.mp m with m | m
    · subst m; rw [upd_same]; simp
    · exact r'.hid a m
  · have z := r.obj k a u e1 e2
    cases u with
    | lst xs =>
      obtain ⟨vs, e, l⟩ := z
      have ne : a ≠ p := fun z => by rw [z, n] at e; cases e
      refine ⟨vs, by rw [upd_ne ne]; exact e, ?_⟩
      have l2 := RepL.hide (p := p) n l
      refine l2.mono (Θ1 := Θ.hide p) ⟨rfl, ⟨[], by simp, by simp⟩, fun a u e _ => by rw [upd_ne (ne_of_none e n)]; exact e⟩
theorem Rep.hideNew {p : Addr} {o : HO} (n : H p = none) {x : AV} {v : V} (r : Rep Θ H x v) : Rep (Θ.hide p) (upd H p o) x v :=
  (Rep.hide n r).mono ⟨rfl, ⟨[], by simp, by simp⟩, fun a u e _ => by rw [upd_ne (ne_of_none e n)]; exact e⟩
theorem RepL.hideNew {p : Addr} {o : HO} (n : H p = none) {x : List AV} {v : List V} (r : RepL Θ H x v) : RepL (Θ.hide p) (upd H p o) x v :=
  (RepL.hide n r).mono ⟨rfl, ⟨[], by simp, by simp⟩, fun a u e _ => by rw [upd_ne (ne_of_none e n)]; exact e⟩
/-! ### a step that may hide new addresses -/
structure TrH {K : PySem.W.Frag} (Θ : Th K) (H : Hp) (Θ' : Th K) (H' : Hp) : Prop where
  hd : ∃ ex, Θ'.hd = ex ++ Θ.hd ∧ ∀ a ∈ ex, a ∈ Θ.th ∨ H a = none
  th : ∃ more, Θ'.th = Θ.th ++ more ∧ ∀ a ∈ more, a ∈ Θ.th ∨ H a = none
  keep : ∀ a o, H a = some o → a ∉ Θ.th → H' a = some o
theorem Tr.toH (t : Tr Θ H Θ1 H1) : TrH Θ H Θ1 H1 := ⟨⟨[], by simpa using t.hd, by simp⟩, t.th, t.keep⟩
theorem Tr.transH (a : Tr Θ H Θ1 H1) (b : TrH Θ1 H1 Θ2 H2) : TrH Θ H Θ2 H2 := by
  have q := a.trans (Θ2 := ⟨Θ2.th, Θ1.hd⟩) (H2 := H2) ⟨rfl, b.th, b.keep⟩
  refine ⟨?_, q.th, q.keep⟩
  obtain ⟨ex, e, f⟩ := b.hd
  obtain ⟨m1, e1, f1⟩ := a.th
  refine ⟨ex, by rw [e, a.hd], fun x hx => ?_⟩
  by_cases ht : x ∈ Θ.th
  · exact .inl ht
  · refine .inr ?_
    cases z : H x with
    | none => rfl
    | some o =>
      rcases f x hx with y | y
      · rw [e1] at y
        rcases List.mem_append.mp y with y | y
        · exact absurd y ht
        · rcases f1 x y with w | w
          · exact absurd w ht
          · rw [z] at w; cases w
      · have := a.keep x o z ht
        rw [y] at this; cases this
theorem TrH.off (t : TrH Θ H Θ1 H1) {a : Addr} {o : HO} (e : H a = some o) (f : Θ.off a) : Θ1.off a := by
  obtain ⟨m, e1, f1⟩ := t.th
  obtain ⟨ex, e2, f2⟩ := t.hd
  refine ⟨fun hx => ?_, fun hx => ?_⟩
  · rw [e1] at hx
    rcases List.mem_append.mp hx with hx | hx
    · exact f.1 hx
    · rcases f1 a hx with w | w
      · exact f.1 w
      · rw [w] at e; cases e
  · rw [e2] at hx
    rcases List.mem_append.mp hx with hx | hx
    · rcases f2 a hx with w | w
      · exact f.1 w
      · rw [w] at e; cases e
    · exact f.2 hx
theorem TrH.get (t : TrH Θ H Θ1 H1) {n : Nat} {a : Addr} (e : Θ.th[n]? = some a) : Θ1.th[n]? = some a := by
  obtain ⟨m, e1, _⟩ := t.th
  rw [e1, List.getElem?_append_left (List.getElem?_eq_some_iff.mp e).1]
  exact e
mutual
theorem Rep.monoH (t : TrH Θ H Θ1 H1) : ∀ {x : AV} {v : V}, Rep Θ H x v → Rep Θ1 H1 x v
  | _, _, .non => .non
  | _, _, .bl b => .bl b
  | _, _, .int i => .int i
  | _, _, .str s => .str s
  | _, _, .tup r f l => .tup (t.keep _ _ r f.1) (t.off r f) (RepL.monoH t l)
  | _, _, .lst r f l => .lst (t.keep _ _ r f.1) (t.off r f) (RepL.monoH t l)
  | _, _, .ref e => .ref (t.get e)
  | _, _, .scr r f l => .scr (t.keep _ _ r f.1) (t.off r f) (RepL.monoH t l)
  | _, _, .scrK k l => .scrK k (RepL.monoH t l)
  | _, _, .exc c r f y l => .exc c (t.keep _ _ r f.1) (t.off r f) (y.of fun p o e g => ⟨t.keep _ _ e g.1, t.off e g⟩) (RepL.monoH t l)
theorem RepL.monoH (t : TrH Θ H Θ1 H1) : ∀ {x : List AV} {v : List V}, RepL Θ H x v → RepL Θ1 H1 x v
  | _, _, .nil => .nil
  | _, _, .cons a b => .cons (Rep.monoH t a) (RepL.monoH t b)
end
theorem SR.monoH {σa : ASt} {σ : L2.St} (s : SR Θ H σa σ) (t : TrH Θ H Θ1 H1) : SR Θ1 H1 σa σ :=
  ⟨s.len, fun i v e => let ⟨x, e1, r⟩ := s.at_ i v e; ⟨x, e1, r.monoH t⟩⟩
/-- hiding a new address -/
theorem Tr.hideH {p : Addr} (t : Tr Θ H Θ1 H1) (n : H p = none) : TrH Θ H (Θ1.hide p) H1 :=
  ⟨⟨[p], by show p :: Θ1.hd = _; rw [t.hd]; rfl, fun a m => .inr (by rw [List.mem_singleton.mp m]; exact n)⟩, t.th, t.keep⟩
/-- a hidden object is written -/
theorem Rep.updHid {p : Addr} {o : HO} {x : AV} {v : V} (r : Rep (Θ.hide p) H x v) : Rep (Θ.hide p) (upd H p o) x v := by
  have key : (∀ {x : AV} {v : V}, Rep (Θ.hide p) H x v → Rep (Θ.hide p) (upd H p o) x v) ∧ True := by
    refine ⟨fun {x v} r => ?_, trivial⟩
    refine Rep.rec (motive_1 := fun x v _ => Rep (Θ.hide p) (upd H p o) x v) (motive_2 := fun x v _ => RepL (Θ.hide p) (upd H p o) x v) ?_ ?_ ?_ ?_ ?_ ?_ ?_ ?_ ?_ ?_ ?_ ?_ r
    · exact .non
    · exact fun b => .bl b
    · exact fun b => .int b
    · exact fun b => .str b
    · exact fun e f l ih => .tup (by rw [upd_ne fun z => f.2 (by rw [z]; exact List.mem_cons_self)]; exact e) f ih
    · exact fun e f l ih => .lst (by rw [upd_ne fun z => f.2 (by rw [z]; exact List.mem_cons_self)]; exact e) f ih
    · exact fun e => .ref e
    · exact fun e f l ih => .scr (by rw [upd_ne fun z => f.2 (by rw [z]; exact List.mem_cons_self)]; exact e) f ih
    · exact fun k l ih => .scrK k ih
    · exact fun c e f y l ih => .exc c (by rw [upd_ne fun z => f.2 (by rw [z]; exact List.mem_cons_self)]; exact e) f (y.of fun q o e g => ⟨by rw [upd_ne fun z => g.2 (by rw [z]; exact List.mem_cons_self)]; exact e, g⟩) ih
    · exact .nil
    · exact fun _ _ a b => .cons a b
  exact key.1 r
theorem RepL.updHid {p : Addr} {o : HO} : ∀ {x : List AV} {v : List V}, RepL (Θ.hide p) H x v → RepL (Θ.hide p) (upd H p o) x v
  | _, _, .nil => .nil
  | _, _, .cons a b => .cons a.updHid (RepL.updHid b)
theorem HR.updHid {p : Addr} {o : HO} (r : HR (Θ.hide p) h H) : HR (Θ.hide p) h (upd H p o) := by
  refine ⟨r.len, r.nd, r.dj, fun a m => ?_, fun n a u e1 e2 => ?_⟩
  · by_cases e : a = p
    · subst e; rw [upd_same]; simp
    · rw [upd_ne e]; exact r.hid a m
  · have z := r.obj n a u e1 e2
    have ne : a ≠ p := fun z => r.dj a (List.mem_of_getElem? e1) (by rw [z]; exact List.mem_cons_self)
    cases u with
    | lst xs => obtain ⟨vs, e, l⟩ := z; exact ⟨vs, by rw [upd_ne ne]; exact e, l.updHid⟩
end
end EV

set_option Elab.async false
set_option linter.all false
set_option maxRecDepth 100000
namespace EV
open PySem PySem.Spec PyProof.Rows L2
variable {K : PySem.W.Frag}

/-! ### the evaluator -/
inductive Rs (α : Type) where
  | ok (a : α) (h : AH)
  | ex (c : Nat) (as : List AV) (h : AH)
  | bad
def Rs.bind {α β : Type} (r : Rs α) (k : α → AH → Rs β) : Rs β := match r with
  | .ok a h => k a h
  | .ex c as h => .ex c as h
  | .bad => .bad
@[simp] theorem Rs.bind_ok {α β : Type} (a : α) (h : AH) (k : α → AH → Rs β) : (Rs.ok a h).bind k = k a h := rfl
@[simp] theorem Rs.bind_bad {α β : Type} (k : α → AH → Rs β) : (Rs.bad : Rs α).bind k = .bad := rfl
@[simp] theorem Rs.bind_ex {α β : Type} (c : Nat) (as : List AV) (h : AH) (k : α → AH → Rs β) : (Rs.ex c as h : Rs α).bind k = .ex c as h := rfl
/-- an exception is not served there -/
def Rs.nox {α : Type} : Rs α → Rs α
  | .ex _ _ _ => .bad
  | r => r
@[simp] theorem Rs.nox_ok {α : Type} (a : α) (h : AH) : (Rs.ok a h).nox = .ok a h := rfl
@[simp] theorem Rs.nox_bad {α : Type} : (Rs.bad : Rs α).nox = .bad := rfl
def cns (o : Option AV) (ys : List AV) : List AV := match o with
  | some y => y :: ys
  | none => ys
@[simp] theorem cns_some (y : AV) (ys : List AV) : cns (some y) ys = y :: ys := rfl
@[simp] theorem cns_none (ys : List AV) : cns none ys = ys := rfl
def ofO {α : Type} (o : Option α) (h : AH) : Rs α := match o with
  | some a => .ok a h
  | none => .bad
@[simp] theorem ofO_some {α : Type} (a : α) (h : AH) : ofO (some a) h = .ok a h := rfl
@[simp] theorem ofO_none {α : Type} (h : AH) : ofO (none : Option α) h = .bad := rfl

abbrev SZ : Nat := 16777216

/-- the items of a list or a tuple -/
def itemsOf (h : AH) : AV → Option (List AV)
  | .tup l => some l
  | .lst l => some l
  | .scr l => some l
  | .ref n => match h[n]? with
    | some (.lst l) => some l
    | none => none
  | _ => none
/-- the items of a list -/
def lstOf (h : AH) : AV → Option (List AV)
  | .lst l => some l
  | .ref n => match h[n]? with
    | some (.lst l) => some l
    | none => none
  | _ => none
def refIx : AV → Option Nat
  | .ref n => some n
  | _ => none

/-! values without refs -/
def mapO {α β : Type} (g : α → Option β) : List α → Option (List β)
  | [] => some []
  | x :: xs => match g x, mapO g xs with
    | some y, some ys => some (y :: ys)
    | _, _ => none
def res (h : AH) : Nat → AV → Option AV
  | _, .non => some .non
  | _, .bl b => some (.bl b)
  | _, .int i => some (.int i)
  | _, .str s => if s.all (· < 1114112) then some (.str s) else none
  | f + 1, .tup l => (mapO (res h f) l).map .tup
  | f + 1, .lst l => (mapO (res h f) l).map .lst
  | f + 1, .ref n => match h[n]? with
    | some (.lst l) => (mapO (res h f) l).map .lst
    | none => none
  | _, _ => none
termination_by structural f => f
/-! equality of values without refs -/
mutual
def aeq : AV → AV → Bool
  | .non, .non => true
  | .bl a, .bl b => a == b
  | .bl a, .int j => (if a then 1 else 0) == j
  | .int i, .bl b => i == (if b then 1 else 0)
  | .int i, .int j => i == j
  | .str s, .str t => s == t
  | .tup xs, .tup ys => aeqL xs ys
  | .lst xs, .lst ys => aeqL xs ys
  | _, _ => false
termination_by structural x => x
def aeqL : List AV → List AV → Bool
  | [], [] => true
  | x :: xs, y :: ys => aeq x y && aeqL xs ys
  | _, _ => false
termination_by structural x => x
end

/-- == -/
def eqO (h : AH) (a b : AV) : Option Bool := match a, b with
  | .int i, .int j => some (i == j)
  | .str s, .str t => some (s == t)
  | .bl x, .bl y => some (x == y)
  | .non, .non => some true
  | a, b => match res h 40 a, res h 40 b with
    | some x, some y => some (aeq x y)
    | _, _ => none
/-- member of a list of things -/
def memO (h : AH) (a : AV) (l : List AV) : Option Bool := match res h 40 a, mapO (res h 40) l with
  | some x, some ys => some (ys.any fun y => aeq y x)
  | _, _ => none

def strLt : List Nat → List Nat → Bool
  | [], [] => false
  | [], _ :: _ => true
  | _ :: _, [] => false
  | x :: xs, y :: ys => if x < y then true else if y < x then false else strLt xs ys
def intsOf : List AV → Option (List Int)
  | [] => some []
  | .int i :: r => (intsOf r).map (i :: ·)
  | _ => none
def strsOf : List AV → Option (List (List Nat))
  | [] => some []
  | .str s :: r => (strsOf r).map (s :: ·)
  | _ => none
def blsOf : List AV → Option (List Bool)
  | [] => some []
  | .bl b :: r => (blsOf r).map (b :: ·)
  | _ => none

inductive Bop where | add | sub | mul | fdiv | mod | pow
  deriving DecidableEq
inductive Cop where | eq | ne | lt | le | gt | ge | isn | ntn | inn | nin
  deriving DecidableEq

abbrev P64 : Int := 18446744073709551616
def BIG : Nat := 2 ^ 4096
def mulOk (i j : Int) : Bool := (decide (-P64 < i) && decide (i < P64)) || (decide (-P64 < j) && decide (j < P64)) || (decide (i.natAbs < BIG) && decide (j.natAbs < BIG))
/-- a list of items repeated -/
def repL (k : Int) (xs : List AV) : List AV := (List.replicate k.toNat xs).flatten

def catO (h : AH) (a b : AV) : Option AV := match lstOf h a, lstOf h b with
  | some x, some y => if x.length + y.length ≤ SZ then some (.lst (x ++ y)) else none
  | _, _ => none
def repO (h : AH) (a : AV) (k : Int) : Option AV := match lstOf h a with
  | some x => if x.length * k.toNat ≤ SZ && decide (-(2 ^ 63) ≤ k) && decide (k < 2 ^ 63) then some (.lst (repL k x)) else none
  | none => none
def binO (h : AH) : Bop → AV → AV → Option AV
  | .add, .int i, .int j => some (.int (i + j))
  | .add, .str s, .str t => if s.length + t.length ≤ SZ then some (.str (s ++ t)) else none
  | .add, .tup a, .tup b => if a.length + b.length ≤ SZ then some (.tup (a ++ b)) else none
  | .add, a, b => catO h a b
  | .sub, .int i, .int j => some (.int (i - j))
  | .mul, .int i, .int j => if mulOk i j then some (.int (i * j)) else none
  | .mul, .tup l, .int k => if !l.isEmpty && decide (2 ≤ k) && decide (k ≤ 1000) && decide (l.length ≤ 1000) then some (.tup (repL k l)) else none
  | .mul, a, .int k => repO h a k
  | .fdiv, .int i, .int j => if decide (0 < j) && decide (j < 1073741824) then some (.int (i / j)) else none
  | .mod, .int i, .int j => if 0 < j then some (.int (i % j)) else none
  | .pow, .int i, .int j => if decide (0 ≤ j) && decide (j ≤ 1000000) && decide (i.natAbs < 2 ^ 64) then some (.int (i ^ j.toNat)) else none
  | _, _, _ => none

def isNon : AV → Bool
  | .non => true
  | _ => false
def inO (h : AH) (a b : AV) : Option Bool := match a, b with
  | .str [c], .str z => some (z.contains c)
  | a, b => match itemsOf h b with
    | some l => memO h a l
    | none => none
def cmpO (h : AH) : Cop → AV → AV → Option Bool
  | .eq, a, b => eqO h a b
  | .ne, a, b => (eqO h a b).map (!·)
  | .lt, .int i, .int j => some (decide (i < j))
  | .le, .int i, .int j => some (decide (i ≤ j))
  | .gt, .int i, .int j => some (decide (j < i))
  | .ge, .int i, .int j => some (decide (j ≤ i))
  | .lt, .str s, .str t => some (strLt s t)
  | .gt, .str s, .str t => some (strLt t s)
  | .isn, a, .non => some (isNon a)
  | .ntn, a, .non => some (!isNon a)
  | .inn, a, b => inO h a b
  | .nin, a, b => (inO h a b).map (!·)
  | _, _, _ => none

/-- truth -/
def truO (h : AH) : AV → Option Bool
  | .non => some false
  | .bl b => some b
  | .int i => some (i != 0)
  | .str s => if s.length ≤ SZ then some (!s.isEmpty) else none
  | a => (itemsOf h a).map (!·.isEmpty)

/-- an index -/
def ixO (xs : List AV) (i : Int) : Option AV := atI xs i
def idxO (h : AH) (a : AV) (i : Int) : Option AV := match a with
  | .str s => if s.length ≤ SZ then (atI s i).map fun c => .str [c] else none
  | a => match itemsOf h a with
    | some l => atI l i
    | none => none
def cutL {α : Type} (xs : List α) (lo hi : Option Int) : List α := (xs.drop (HT.sIx xs.length 0 lo)).take (HT.sIx xs.length xs.length hi - HT.sIx xs.length 0 lo)
def slcO (h : AH) (a : AV) (lo hi : Option Int) : Option AV := match a with
  | .str s => if s.length ≤ SZ then some (.str (cutL s lo hi)) else none
  | .tup l => some (.tup (cutL l lo hi))
  | .scr l => some (.lst (cutL l lo hi))
  | a => match lstOf h a with
    | some l => some (.lst (cutL l lo hi))
    | none => none

/-! the order of ints, texts and tuples of such -/
def rk : AV → Nat
  | .int _ => 0
  | .str _ => 1
  | .tup _ => 2
  | _ => 3
def ordI (i j : Int) : Ordering := if i < j then .lt else if j < i then .gt else .eq
def ordN (i j : Nat) : Ordering := if i < j then .lt else if j < i then .gt else .eq
def ordS : List Nat → List Nat → Ordering
  | [], [] => .eq
  | [], _ :: _ => .lt
  | _ :: _, [] => .gt
  | x :: xs, y :: ys => match ordN x y with
    | .eq => ordS xs ys
    | o => o
mutual
def kC : AV → AV → Ordering
  | .int i, .int j => ordI i j
  | .str s, .str t => ordS s t
  | .tup xs, .tup ys => kCL xs ys
  | a, b => ordN (rk a) (rk b)
termination_by structural x => x
def kCL : List AV → List AV → Ordering
  | [], [] => .eq
  | [], _ :: _ => .lt
  | _ :: _, [] => .gt
  | x :: xs, y :: ys => match kC x y with
    | .eq => kCL xs ys
    | o => o
termination_by structural x => x
end
def isLt : Ordering → Bool
  | .lt => true
  | _ => false
def kLt (x y : AV) : Bool := isLt (kC x y)
/-! a < b is told -/
mutual
def cmpb : AV → AV → Bool
  | .int _, .int _ => true
  | .str _, .str _ => true
  | .tup xs, .tup ys => cmpL xs ys
  | _, _ => false
termination_by structural x => x
def cmpL : List AV → List AV → Bool
  | x :: xs, y :: ys => cmpb x y && cmpL xs ys
  | _, _ => true
termination_by structural x => x
end
/-- ints, texts, tuples of such to a depth -/
def skOk : Nat → AV → Bool
  | _, .int _ => true
  | _, .str _ => true
  | n + 1, .tup l => l.all (skOk n)
  | _, _ => false
termination_by structural n => n
def revO (h : AH) : AV → Option AV
  | .tup l => some (.tup l.reverse)
  | x => (lstOf h x).map fun l => .lst l.reverse
/-- sorting by insertion -/
def insBy {α : Type} (lt : α → α → Bool) (x : α) : List α → List α
  | [] => [x]
  | y :: ys => if lt y x then y :: insBy lt x ys else x :: y :: ys
def sortBy {α : Type} (lt : α → α → Bool) : List α → List α
  | [] => []
  | x :: xs => insBy lt x (sortBy lt xs)

inductive Bf where
  | len | abs | min | max | sum | all | any | sorted | tuple | list | int | set
  deriving DecidableEq
def minL : List Int → Option Int
  | [] => none
  | x :: xs => some (xs.foldl (fun m y => if y < m then y else m) x)
def maxL : List Int → Option Int
  | [] => none
  | x :: xs => some (xs.foldl (fun m y => if m < y then y else m) x)

def bfO (h : AH) : Bf → List AV → Option AV
  | .len, [.str s] => if s.length ≤ SZ then some (.int s.length) else none
  | .len, [a] => (itemsOf h a).map fun l => .int l.length
  | .abs, [.int i] => some (.int (if i < 0 then -i else i))
  | .min, [.int i, .int j] => some (.int (if j < i then j else i))
  | .max, [.int i, .int j] => some (.int (if j > i then j else i))
  | .min, [a] => match lstOf h a with
    | some l => (intsOf l).bind fun ns => (minL ns).map .int
    | none => none
  | .max, [a] => match lstOf h a with
    | some l => (intsOf l).bind fun ns => (maxL ns).map .int
    | none => none
  | .sum, [a] => match lstOf h a with
    | some l => (intsOf l).map fun ns => .int ns.sum
    | none => none
  | .all, [a] => match lstOf h a with
    | some l => (blsOf l).map fun bs => .bl (bs.all id)
    | none => none
  | .any, [a] => match lstOf h a with
    | some l => (blsOf l).map fun bs => .bl (bs.any id)
    | none => none
  | .sorted, [a] => match itemsOf h a with
    | some l => if l.all (skOk 30) && l.all (fun x => l.all (cmpb x)) then some (.lst (sortBy kLt l)) else none
    | none => none
  | .tuple, [.str s] => if s.length ≤ SZ then some (.tup (s.map fun c => .str [c])) else none
  | .tuple, [a] => (itemsOf h a).map .tup
  | .list, [a] => (itemsOf h a).map .lst
  | .int, [.int i] => some (.int i)
  | .int, [.bl b] => some (.int (if b then 1 else 0))
  | _, _ => none

/-- methods of one argument that change nothing -/
inductive Mt where | count | index
  deriving DecidableEq
def rcv : Mt → AV → Bool
  | _, .lst _ => true
  | _, .ref _ => true
  | _, _ => false
def ixEq (ds : List AV) (d : AV) : Option Nat := ds.findIdx? fun z => aeq z d
def mtAns : Mt → List AV → AV → Option AV
  | .count, ds, d => some (.int ((ds.countP fun z => aeq z d : Nat) : Int))
  | .index, ds, d => (ixEq ds d).map fun j => .int (j : Nat)
def mthO (h : AH) (m : Mt) (x y : AV) : Option AV := match lstOf h x with
  | some l => match res h 40 y, mapO (res h 40) l with
    | some d, some ds => mtAns m ds d
    | _, _ => none
  | none => none

/-- classes that isinstance asks of -/
inductive Ty where | int | bool | str | list | tuple | dict
  deriving DecidableEq
def isTy : AV → Ty → Bool
  | .int _, .int => true
  | .bl _, .int => true
  | .bl _, .bool => true
  | .str _, .str => true
  | .tup _, .tuple => true
  | .lst _, .list => true
  | .scr _, .list => true
  | .ref _, .list => true
  | _, _ => false

/-- targets -/
inductive Tg where
  | nm (i : Nat) | tp (s : Tg) | nil | cons (a b : Tg)
mutual
def asg (h : AH) : Tg → AV → ASt → Option ASt
  | .nm i, v, σ => some (σ.set i (some v))
  | .tp s, v, σ => match itemsOf h v with
    | some l => asgL h s l σ
    | none => none
  | _, _, _ => none
def asgL (h : AH) : Tg → List AV → ASt → Option ASt
  | .nil, [], σ => some σ
  | .cons a b, x :: xs, σ => (asg h a x σ).bind fun σ1 => asgL h b xs σ1
  | _, _, _ => none
end

/-- expressions; spines and iterables among them -/
inductive IE where
  | var (i : Nat) | cst (c : AV)
  | bin (o : Bop) (a b : IE) | neg (a : IE) | nt (a : IE)
  | cmp (o : Cop) (a b : IE) | chn (o p : Cop) (a b c : IE)
  | and (a b : IE) | or (a b : IE) | ife (c a b : IE)
  | nil | cons (a b : IE) | star (a b : IE)
  | tup (s : IE) | lst (s : IE)
  | idx (a i : IE) | slc (a lo hi : IE) | omit | rev (a : IE)
  | call (f : Nat) (s : IE) | callM (f : Nat) (s : IE)
  | blt (f : Bf) (s : IE)
  | mth (m : Mt) (o a : IE) | app (o a : IE) | popA (o a : IE) | ext (o a : IE) | pop (o : IE)
  | isi (a : IE) (ts : List Ty)
  | comp (own : List Nat) (tg : Tg) (it c e : IE)
  | mut (a : IE) | tst (a : IE) | som (a : IE)
  | atr (o : IE) (f : List Nat) (ys : List (List Nat)) | isx (a : IE) (yes no : List (List Nat)) | mkx (x f : List Nat) (s : IE) | perm (pi : List Nat) (s : IE)
  | iPl (a : IE) | iRg1 (s : IE) | iRg2 (s : IE) | iEn (s : IE) | iZp (s : IE) | iRv (s : IE)

/-- what is walked: items that stand, or a mutable list, or pairs of such -/
inductive D1 where
  | st (xs : List AV) | rf (n : Nat)
inductive Src where
  | st (xs : List AV) | rf (n : Nat) | zp (a b : D1) | en (a : D1)
def d1get (h : AH) : D1 → Option (List AV)
  | .st xs => some xs
  | .rf n => lstOf h (.ref n)
def pairAt (x y : Option AV) : Option AV := match x, y with
  | some a, some b => some (.tup [a, b])
  | _, _ => none
def srcGet (h : AH) : Src → Nat → Option (Option AV)
  | .st xs, i => some xs[i]?
  | .rf n, i => (lstOf h (.ref n)).map (·[i]?)
  | .zp a b, i => match d1get h a, d1get h b with
    | some l, some m => some (pairAt l[i]? m[i]?)
    | _, _ => none
  | .en a, i => (d1get h a).map fun l => pairAt (some (.int (i : Nat))) l[i]?
def srcLen (h : AH) : Src → Option Nat
  | .st xs => some xs.length
  | .rf n => (lstOf h (.ref n)).map (·.length)
  | .zp a b => match d1get h a, d1get h b with
    | some l, some m => some (min l.length m.length)
    | _, _ => none
  | .en a => (d1get h a).map (·.length)

/-- the loops -/
def compL (f : AV → AH → Rs (Option AV)) : List AV → AH → Rs (List AV)
  | [], h => .ok [] h
  | x :: xs, h => (f x h).bind fun o h1 => (compL f xs h1).bind fun ys h2 => .ok (cns o ys) h2
def compR (f : AV → AH → Rs (Option AV)) (sr : Src) : Nat → Nat → AH → Rs (List AV)
  | 0, _, _ => .bad
  | k + 1, i, h => match srcGet h sr i with
    | some (some x) => (f x h).bind fun o h1 => (compR f sr k (i + 1) h1).bind fun ys h2 => .ok (cns o ys) h2
    | some none => .ok [] h
    | none => .bad
def wipeA (σ : ASt) (vs : List Nat) : ASt := vs.foldr (fun v acc => acc.set v none) σ

def rangeL (lo : Int) : Nat → List AV
  | 0 => []
  | n + 1 => .int lo :: rangeL (lo + 1) n
def enumL (i : Int) : List AV → List AV
  | [] => []
  | x :: xs => .tup [.int i, x] :: enumL (i + 1) xs
def zipL : List AV → List AV → List AV
  | x :: xs, y :: ys => .tup [x, y] :: zipL xs ys
  | _, _ => []

/-! freezing what a call has left -/
def frz (b : Nat) (h : AH) : Nat → AV → Option AV
  | f + 1, .tup l => (mapO (frz b h f) l).map .tup
  | f + 1, .lst l => (mapO (frz b h f) l).map .lst
  | f + 1, .scr l => (mapO (frz b h f) l).map .scr
  | f + 1, .exc x n l => (mapO (frz b h f) l).map (.exc x n)
  | 0, .tup _ => none
  | 0, .lst _ => none
  | 0, .scr _ => none
  | 0, .exc _ _ _ => none
  | 0, .ref n => if n < b then some (.ref n) else none
  | f + 1, .ref n => if n < b then some (.ref n) else match h[n]? with
    | some (.lst l) => (mapO (frz b h f) l).map .lst
    | none => none
  | _, x => some x
termination_by structural f => f
def frzO (b : Nat) (h : AH) : AObj → Option AObj
  | .lst l => (mapO (frz b h 40) l).map .lst
def frzH (b : Nat) (h : AH) : List AObj → Option (List AObj)
  | [] => some []
  | o :: os => match frzO b h o, frzH b h os with
    | some p, some ps => some (p :: ps)
    | _, _ => none
/-- behind a call: what it made is frozen -/
def shut (b : Nat) (v : AV) (h : AH) : Rs AV := match frz b h 40 v, frzH b h (h.take b) with
  | some w, some g => .ok w g
  | _, _ => .bad
/-- behind a call that hands back a list to be changed -/
def shutM (b : Nat) (v : AV) (h : AH) : Rs AV := match v with
  | .ref n => if n < b then .bad else match h[n]? with
    | some (.lst l) => match mapO (frz b [] 40) l, frzH b [] (h.take b) with
      | some l', some g => .ok (.ref b) (g ++ [.lst l'])
      | _, _ => .bad
    | none => .bad
  | _ => .bad

abbrev Fns := Nat → List AV → AH → Rs AV

/-- isinstance of a thing that is no exception -/
def isiO (ts : List Ty) : AV → Option AV
  | .exc _ _ _ => none
  | x => some (.bl (ts.any (isTy x)))
/-- the field of an exception -/
def atrO (f : List Nat) (ys : List (List Nat)) : AV → Option AV
  | .exc y g [v] => if g = f ∧ y ∈ ys then some v else none
  | _ => none
/-- isinstance of an exception -/
def isxO (yes no : List (List Nat)) : AV → Option AV
  | .exc x _ _ => if yes.contains x then some (.bl true) else if no.contains x then some (.bl false) else none
  | _ => none
def mkxO (x f : List Nat) : List AV → Option AV
  | [v] => if f.isEmpty then none else some (.exc x f [v])
  | [] => if f.isEmpty then some (.exc x f []) else none
  | _ => none
/-- arguments in another order -/
def permO (pi : List Nat) (xs : List AV) : Option (List AV) := if pi.length = xs.length then mapO (fun i => xs[i]?) pi else none
def intO : AV → Option Int
  | .int i => some i
  | _ => none
def srcRg1 : List AV → Option (List AV)
  | [.int j] => if decide (-(2 ^ 62) ≤ j) && decide (j < 2 ^ 62) then some (rangeL 0 j.toNat) else none
  | _ => none
def srcRg2 : List AV → Option (List AV)
  | [.int i, .int j] => if decide (-(2 ^ 62) ≤ i) && decide (i < 2 ^ 62) && decide (-(2 ^ 62) ≤ j) && decide (j < 2 ^ 62) then some (rangeL i (j - i).toNat) else none
  | _ => none
def toD1 (h : AH) : AV → Option D1
  | .lst l => some (.st l)
  | .scr l => some (.st l)
  | .ref n => match h[n]? with
    | some (.lst _) => some (.rf n)
    | none => none
  | _ => none
def srcEn (h : AH) : List AV → Option Src
  | [.str s] => some (.st (enumL 0 (s.map fun c => .str [c])))
  | [a] => match toD1 h a with
    | some (.st l) => some (.st (enumL 0 l))
    | some d => some (.en d)
    | none => none
  | _ => none
def srcZp (h : AH) : List AV → Option Src
  | [.tup l, .tup m] => some (.st (zipL l m))
  | [a, b] => match toD1 h a, toD1 h b with
    | some (.st l), some (.st m) => some (.st (zipL l m))
    | some d, some e => some (.zp d e)
    | _, _ => none
  | _ => none
def srcPl (h : AH) : AV → Option Src
  | .tup l => some (.st l)
  | .lst l => some (.st l)
  | .scr l => some (.st l)
  | .str s => some (.st (s.map fun c => .str [c]))
  | .ref n => match h[n]? with
    | some (.lst _) => some (.rf n)
    | none => none
  | _ => none

def evC (f : AV → AH → Rs (Option AV)) : Src → AH → Rs (List AV)
  | .st xs, h => if xs.length ≤ SZ then compL f xs h else .bad
  | sr, h => match srcLen h sr with
    | some n => if n < SZ then compR f sr (n + 1) 0 h else .bad
    | none => .bad

mutual
/-- an expression -/
def evE (Φ : Fns) : IE → ASt → AH → Rs AV
  | .var i, σ, h => match σ[i]? with
    | some (some v) => .ok v h
    | _ => .bad
  | .cst c, _, h => .ok c h
  | .bin o a b, σ, h => (evE Φ a σ h).bind fun x h1 => (evE Φ b σ h1).bind fun y h2 => ofO (binO h2 o x y) h2
  | .neg a, σ, h => (evE Φ a σ h).bind fun x h1 => match x with
    | .int i => .ok (.int (-i)) h1
    | _ => .bad
  | .nt a, σ, h => (evE Φ a σ h).bind fun x h1 => ofO ((truO h1 x).map fun b => .bl (!b)) h1
  | .cmp o a b, σ, h => (evE Φ a σ h).bind fun x h1 => (evE Φ b σ h1).bind fun y h2 => ofO ((cmpO h2 o x y).map .bl) h2
  | .chn o p a b c, σ, h => (evE Φ a σ h).bind fun x h1 => (evE Φ b σ h1).bind fun y h2 => match cmpO h2 o x y with
    | some true => (evE Φ c σ h2).bind fun z h3 => ofO ((cmpO h3 p y z).map .bl) h3
    | some false => .ok (.bl false) h2
    | none => .bad
  | .and a b, σ, h => (evE Φ a σ h).bind fun x h1 => match truO h1 x with
    | some true => evE Φ b σ h1
    | some false => .ok x h1
    | none => .bad
  | .or a b, σ, h => (evE Φ a σ h).bind fun x h1 => match truO h1 x with
    | some true => .ok x h1
    | some false => evE Φ b σ h1
    | none => .bad
  | .ife c a b, σ, h => (evT Φ c σ h).bind fun k h1 => if k then evE Φ a σ h1 else evE Φ b σ h1
  | .tup s, σ, h => (evL Φ s σ h).bind fun xs h1 => if xs.length ≤ SZ then .ok (.tup xs) h1 else .bad
  | .lst s, σ, h => (evL Φ s σ h).bind fun xs h1 => if xs.length ≤ SZ then .ok (.lst xs) h1 else .bad
  | .idx a i, σ, h => (evE Φ a σ h).bind fun x h1 => (evE Φ i σ h1).bind fun y h2 => match intO y with
    | some k => ofO (idxO h2 x k) h2
    | none => .bad
  | .slc a lo hi, σ, h => (evE Φ a σ h).bind fun x h1 => (evO Φ lo σ h1).bind fun l h2 => (evO Φ hi σ h2).bind fun u h3 => ofO (slcO h3 x l u) h3
  | .rev a, σ, h => (evE Φ a σ h).bind fun x h1 => ofO (revO h1 x) h1
  | .call f s, σ, h => (evL Φ s σ h).bind fun xs h1 => (Φ f xs h1).bind fun v h2 => shut h1.length v h2
  | .callM f s, σ, h => (evL Φ s σ h).bind fun xs h1 => (Φ f xs h1).bind fun v h2 => shutM h1.length v h2
  | .blt f s, σ, h => (evL Φ s σ h).bind fun xs h1 => ofO (bfO h1 f xs) h1
  | .app o a, σ, h => (evE Φ o σ h).bind fun x h1 => match refIx x with
    | some n => (evE Φ a σ h1).bind fun y h2 => match lstOf h2 (.ref n) with
      | some l => if l.length < SZ then .ok .non (h2.set n (.lst (l ++ [y]))) else .bad
      | none => .bad
    | none => .bad
  | .ext o a, σ, h => (evE Φ o σ h).bind fun x h1 => match refIx x with
    | some n => (evE Φ a σ h1).bind fun y h2 => match lstOf h2 (.ref n), lstOf h2 y with
      | some l, some m => if l.length + m.length ≤ SZ then .ok .non (h2.set n (.lst (l ++ m))) else .bad
      | _, _ => .bad
    | none => .bad
  | .popA o a, σ, h => (evE Φ o σ h).bind fun x h1 => match refIx x with
    | some n => (evE Φ a σ h1).bind fun y h2 => match lstOf h2 (.ref n), intO y with
      | some l, some i => if decide (-(2 ^ 63) ≤ i) && decide (i < 2 ^ 63) then match ixN l.length i with
        | some k => match l[k]? with
          | some z => .ok z (h2.set n (.lst (l.eraseIdx k)))
          | none => .bad
        | none => .bad
        else .bad
      | _, _ => .bad
    | none => .bad
  | .mth m o a, σ, h => (evE Φ o σ h).bind fun x h1 => if rcv m x then (evE Φ a σ h1).bind fun y h2 => ofO (mthO h2 m x y) h2 else .bad
  | .pop o, σ, h => (evE Φ o σ h).bind fun x h1 => match refIx x with
    | some n => match lstOf h1 (.ref n) with
      | some l => match l[l.length - 1]? with
        | some z => .ok z (h1.set n (.lst l.dropLast))
        | none => .bad
      | none => .bad
    | none => .bad
  | .isi a ts, σ, h => (evE Φ a σ h).bind fun x h1 => ofO (isiO ts x) h1
  | .atr o f ys, σ, h => (evE Φ o σ h).bind fun x h1 => ofO (atrO f ys x) h1
  | .isx a yes no, σ, h => (evE Φ a σ h).bind fun x h1 => ofO (isxO yes no x) h1
  | .mkx x f s, σ, h => (evL Φ s σ h).bind fun xs h1 => ofO (mkxO x f xs) h1
  | .comp own tg it c e, σ, h => (evI Φ it σ h).bind fun sr h1 =>
    (evC (fun x h2 => (match asg h2 tg x (wipeA σ own) with
      | some σ1 => (evT Φ c σ1 h2).bind fun k h3 => if k then (evE Φ e σ1 h3).bind fun y h4 => .ok (some y) h4 else .ok none h3
      | none => .bad).nox) sr h1).bind fun ys h2 => .ok (.lst ys) h2
  | .mut a, σ, h => (evE Φ a σ h).bind fun x h1 => match x with
    | .lst l => .ok (.ref h1.length) (h1 ++ [.lst l])
    | _ => .bad
  | _, _, _ => .bad
termination_by structural e => e
/-- a test -/
def evT (Φ : Fns) : IE → ASt → AH → Rs Bool
  | .nt a, σ, h => (evT Φ a σ h).bind fun b h1 => .ok (!b) h1
  | .and a b, σ, h => (evT Φ a σ h).bind fun k h1 => if k then evT Φ b σ h1 else .ok false h1
  | .or a b, σ, h => (evT Φ a σ h).bind fun k h1 => if k then .ok true h1 else evT Φ b σ h1
  | .ife c a b, σ, h => (evT Φ c σ h).bind fun k h1 => if k then evT Φ a σ h1 else evT Φ b σ h1
  | .tst e, σ, h => (evE Φ e σ h).bind fun x h1 => ofO (truO h1 x) h1
  | _, _, _ => .bad
termination_by structural e => e
/-- a spine -/
def evL (Φ : Fns) : IE → ASt → AH → Rs (List AV)
  | .nil, _, h => .ok [] h
  | .cons a b, σ, h => (evE Φ a σ h).bind fun x h1 => (evL Φ b σ h1).bind fun xs h2 => .ok (x :: xs) h2
  | .star a b, σ, h => (evE Φ a σ h).bind fun x h1 => match itemsOf h1 x with
    | some l => (evL Φ b σ h1).bind fun xs h2 => .ok (l ++ xs) h2
    | none => .bad
  | .perm pi s, σ, h => (evL Φ s σ h).bind fun xs h1 => ofO (permO pi xs) h1
  | _, _, _ => .bad
termination_by structural e => e
/-- a part of a slice -/
def evO (Φ : Fns) : IE → ASt → AH → Rs (Option Int)
  | .omit, _, h => .ok none h
  | .som e, σ, h => (evE Φ e σ h).bind fun x h1 => match intO x with
    | some i => .ok (some i) h1
    | none => .bad
  | _, _, _ => .bad
termination_by structural e => e
/-- an iterable -/
def evI (Φ : Fns) : IE → ASt → AH → Rs Src
  | .iPl a, σ, h => (evE Φ a σ h).bind fun x h1 => ofO (srcPl h1 x) h1
  | .iRg1 s, σ, h => (evL Φ s σ h).bind fun xs h1 => ofO ((srcRg1 xs).map .st) h1
  | .iRg2 s, σ, h => (evL Φ s σ h).bind fun xs h1 => ofO ((srcRg2 xs).map .st) h1
  | .iEn s, σ, h => (evL Φ s σ h).bind fun xs h1 => ofO (srcEn h1 xs) h1
  | .iZp s, σ, h => (evL Φ s σ h).bind fun xs h1 => ofO (srcZp h1 xs) h1
  | _, _, _ => .bad
termination_by structural e => e
end
end EV

set_option Elab.async false
set_option linter.all false
set_option maxRecDepth 100000
namespace EV
open PySem PySem.Spec PyProof.Rows L2
variable {K : PySem.W.Frag}

abbrev XW (K : PySem.W.Frag) := Nat → List AV → Th K → Hp → Prop
def Post {K : PySem.W.Frag} {α β : Type} (R : Th K → Hp → α → β → Prop) (r : Rs α) (Θ : Th K) (H : Hp) (Q : β → Hp → Prop) (E : XW K) : Prop := match r with
  | .ok v h' => ∀ Θ' H' x, Tr Θ H Θ' H' → HR Θ' h' H' → R Θ' H' v x → Q x H'
  | .ex c as h' => ∀ Θ' H', Tr Θ H Θ' H' → HR Θ' h' H' → E c as Θ' H'
  | .bad => False
section
variable {K : PySem.W.Frag} {α β α' β' : Type} {R : Th K → Hp → α → β → Prop} {R' : Th K → Hp → α' → β' → Prop} {Θ Θ1 : Th K} {H H1 : Hp} {E : XW K}
theorem Post.start {r : Rs α} {Q : β → Hp → Prop} (p : Post R r Θ H Q E) (t : Tr Θ H Θ1 H1) : Post R r Θ1 H1 Q E := by
  cases r with
  | ok v h => exact fun Θ' H' x t' => p Θ' H' x (t.trans t')
  | ex c as h => exact fun Θ' H' t' => p Θ' H' (t.trans t')
  | bad => exact p
theorem Post.imp {r : Rs α} {Q Q' : β → Hp → Prop} (p : Post R r Θ H Q E) (f : ∀ x H1, Q x H1 → Q' x H1) : Post R r Θ H Q' E := by
  cases r with
  | ok v h => exact fun Θ' H' x t hr rr => f _ _ (p Θ' H' x t hr rr)
  | ex c as h => exact p
  | bad => exact p
theorem Post.bind {r : Rs α} {k : α → AH → Rs α'} {Q : β' → Hp → Prop} (p : Post R' (r.bind k) Θ H Q E) :
    Post R r Θ H (fun y H1 => ∃ Θ1 h1 a, Tr Θ H Θ1 H1 ∧ HR Θ1 h1 H1 ∧ R Θ1 H1 a y ∧ r = .ok a h1 ∧ Post R' (k a h1) Θ1 H1 Q E) E := by
  cases r with
  | ok v h => exact fun Θ' H' x t hr rr => ⟨Θ', h, v, t, hr, rr, rfl, Post.start p t⟩
  | ex c as h => exact p
  | bad => exact p
/-- a plain end -/
theorem Post.ofO {o : Option α} {h : AH} {Q : β → Hp → Prop} (p : Post R (EV.ofO o h) Θ H Q E) : ∃ v, o = some v ∧ ∀ Θ' H' x, Tr Θ H Θ' H' → HR Θ' h H' → R Θ' H' v x → Q x H' := by
  cases o with
  | none => exact p.elim
  | some v => exact ⟨v, rfl, p⟩
end

/-- what goes through a sequence -/
structure Bd {K : PySem.W.Frag} {α' : Type} (P : Rs α' → Th K → Hp → Prop) (E : XW K) : Prop where
  go : ∀ (α β : Type) (R : Th K → Hp → α → β → Prop) (r : Rs α) (k : α → AH → Rs α') (Θ : Th K) (H : Hp), P (r.bind k) Θ H →
    Post R r Θ H (fun y H1 => ∃ Θ1 h1 a, Tr Θ H Θ1 H1 ∧ HR Θ1 h1 H1 ∧ R Θ1 H1 a y ∧ r = .ok a h1 ∧ P (k a h1) Θ1 H1) E
theorem bdP {α' β' : Type} {R' : Th K → Hp → α' → β' → Prop} {Q : β' → Hp → Prop} {E : XW K} : Bd (fun r Θ H => Post R' r Θ H Q E) E := ⟨fun _ _ _ _ _ _ _ p => Post.bind p⟩
abbrev REq {K : PySem.W.Frag} {α : Type} : Th K → Hp → α → α → Prop := fun _ _ a b => a = b

/-- the wish of an exception, by the slots -/
abbrev AW (K : PySem.W.Frag) := L2.St → XW K
abbrev EW {K : PySem.W.Frag} (W : AW K) (σ : L2.St) : XW K := W σ

section
variable {K : PySem.W.Frag} (Φ : Fns) (W : AW K)
def tE (e : IE) : TE := fun σ H Q => ∃ (Θ : Th K) (h : AH) (σa : ASt), HR Θ h H ∧ SR Θ H σa σ ∧ Post Rep (evE Φ e σa h) Θ H Q (EW W σ)
def tT (e : IE) : TT := fun σ H Q => ∃ (Θ : Th K) (h : AH) (σa : ASt), HR Θ h H ∧ SR Θ H σa σ ∧ Post REq (evT Φ e σa h) Θ H Q (EW W σ)
def tL (e : IE) : TA := fun σ H Q => ∃ (Θ : Th K) (h : AH) (σa : ASt), HR Θ h H ∧ SR Θ H σa σ ∧ Post RepL (evL Φ e σa h) Θ H Q (EW W σ)
def tO (e : IE) : TO := fun σ H Q => ∃ (Θ : Th K) (h : AH) (σa : ASt), HR Θ h H ∧ SR Θ H σa σ ∧ Post REq (evO Φ e σa h) Θ H Q (EW W σ)
end

theorem _root_.L2.PE.wk {X : Cx} {e : Expr} {t t' : TE} (h : PE X e t) (f : ∀ σ H Q, t' σ H Q → t σ H Q) : PE X e t' := ⟨fun pins s σ H Q I q => h.run pins s σ H Q I (f _ _ _ q)⟩
theorem _root_.L2.PT.wk {X : Cx} {e : Expr} {t t' : TT} (h : PT X e t) (f : ∀ σ H Q, t' σ H Q → t σ H Q) : PT X e t' := ⟨fun pins s σ H Q I q => h.run pins s σ H Q I (f _ _ _ q)⟩
theorem _root_.L2.PA.wk {X : Cx} {e : List Expr} {t t' : TA} (h : PA X e t) (f : ∀ σ H Q, t' σ H Q → t σ H Q) : PA X e t' := ⟨fun pos pins s σ H Q I q => h.run pos pins s σ H Q I (f _ _ _ q)⟩
theorem _root_.L2.PO.wk {X : Cx} {e : Option Expr} {t t' : TO} (h : PO X e t) (f : ∀ σ H Q, t' σ H Q → t σ H Q) : PO X e t' := ⟨fun pins s σ H Q I q => h.run pins s σ H Q I (f _ _ _ q)⟩
theorem OpR.or {X : Cx} {f : Value → Value → Sem Value} {r r' : R2} (h : OpR X f r) (h' : OpR X f r') : OpR X f (fun x y H Q => r x y H Q ∨ r' x y H Q) := by
  intro pins s σ H x y v u Q I rx ry q
  rcases q with q | q
  · exact h pins s σ H x y v u Q I rx ry q
  · exact h' pins s σ H x y v u Q I rx ry q
theorem OpR.imp {X : Cx} {f : Value → Value → Sem Value} {r r' : R2} (h : OpR X f r) (i : ∀ x y H Q, r' x y H Q → r x y H Q) : OpR X f r' :=
  fun pins s σ H x y v u Q I rx ry q => h pins s σ H x y v u Q I rx ry (i _ _ _ _ q)
end EV

set_option Elab.async false
set_option linter.all false
set_option maxRecDepth 100000
set_option maxHeartbeats 1000000
namespace EV
open PySem PySem.Spec PyProof.Rows L2
variable {K : PySem.W.Frag}

/-- what is wanted of a value -/
def Fin {K : PySem.W.Frag} (Θ : Th K) (h : AH) (H : Hp) (v : AV) (Q : VK) : Prop := ∀ Θ' H' z, Tr Θ H Θ' H' → HR Θ' h H' → Rep Θ' H' v z → Q z H'
/-- what is wanted of a new list -/
def FinL {K : PySem.W.Frag} (Θ : Th K) (h : AH) (H : Hp) (xs : List AV) (Q : VK) : Prop := ∀ Θ' H' p vs, Tr Θ H Θ' H' → H p = none → Θ'.off p → HR (Θ'.hide p) h H' → H' p = some (.lst vs) → RepL (Θ'.hide p) H' xs vs → Q (.ref p) H'
def notLst : AV → Bool
  | .lst _ => false
  | _ => true
/-- .. where a list is a new one -/
def FinF {K : PySem.W.Frag} (Θ : Th K) (h : AH) (H : Hp) (v : AV) (Q : VK) : Prop := match v with
  | .lst xs => FinL Θ h H xs Q
  | v => Fin Θ h H v Q
section
variable {K : PySem.W.Frag} {Θ Θ1 : Th K} {h : AH} {H H1 : Hp} {v : AV} {Q : VK}
theorem FinF.of (k : Fin Θ h H v Q) : FinF Θ h H v Q := by
  cases v with
  | lst xs => exact fun Θ' H' p vs t _ f hr e l => k Θ' H' _ t hr.unhide (.lst e f l.unhide)
  | _ => exact k
theorem Fin.same (k : Fin Θ h H v Q) (hr : HR Θ h H) {z : V} (r : Rep Θ H v z) : Q z H := k Θ H z Tr.refl hr r
theorem FinF.same (k : FinF Θ h H v Q) (hr : HR Θ h H) {z : V} (r : Rep Θ H v z) (n : notLst v = true := by rfl) : Q z H := by
  cases v with
  | lst xs => cases n
  | _ => exact Fin.same k hr r
theorem FinF.newT {xs : List AV} {vs : List V} (k : FinF Θ h H (.tup xs) Q) (hr : HR Θ h H) (l : RepL Θ H xs vs) : ∀ p, H p = none → Q (.ref p) (upd H p (.tup vs)) := fun p n =>
  (show Fin Θ h H (.tup xs) Q from k) Θ _ _ (Tr.new n) (hr.new n) (.tup upd_same (hr.off n) (l.mono (Tr.new n)))
theorem FinF.newL {xs : List AV} {vs : List V} (k : FinF Θ h H (.lst xs) Q) (hr : HR Θ h H) (l : RepL Θ H xs vs) : ∀ p, H p = none → Q (.ref p) (upd H p (.lst vs)) := fun p n =>
  (show FinL Θ h H xs Q from k) Θ _ _ vs (Tr.new n) n (hr.off n) (hr.hideNew n) upd_same (l.hideNew n)
theorem FinF.start (k : FinF Θ h H v Q) (t : Tr Θ H Θ1 H1) : FinF Θ1 h H1 v Q := by
  cases v with
  | lst xs =>
    intro Θ' H' p vs t' n f
    refine k Θ' H' p vs (t.trans t') ?_ f
    cases z : H p with
    | none => rfl
    | some o =>
      have := t.keep p o z fun m => f.1 (by obtain ⟨m1, e1, _⟩ := (t.trans t').th; rw [e1]; exact List.mem_append_left _ m)
      rw [n] at this; cases this
  | _ => exact fun Θ' H' z t' => k Θ' H' z (t.trans t')
end

def PostF {K : PySem.W.Frag} (r : Rs AV) (Θ : Th K) (H : Hp) (Q : VK) (E : XW K) : Prop := match r with
  | .ok v h' => FinF Θ h' H v Q
  | .ex c as h' => ∀ Θ' H', Tr Θ H Θ' H' → HR Θ' h' H' → E c as Θ' H'
  | .bad => False
theorem PostF.of {r : Rs AV} {Θ : Th K} {H : Hp} {Q : VK} {E : XW K} (p : Post Rep r Θ H Q E) : PostF r Θ H Q E := by
  cases r with
  | ok v h => exact FinF.of p
  | ex c as h => exact p
  | bad => exact p
theorem bdF {Q : VK} {E : XW K} : Bd (fun r Θ H => PostF r Θ H Q E) E := by
  refine ⟨fun α β R r k Θ H p => ?_⟩
  cases r with
  | ok a h1 =>
    refine fun Θ1 H1 x t hr rr => ⟨Θ1, h1, a, t, hr, rr, rfl, ?_⟩
    have p : PostF (k a h1) Θ H Q E := p
    show PostF (k a h1) Θ1 H1 Q E
    cases e : k a h1 with
    | ok v h2 => rw [e] at p; exact FinF.start p t
    | ex c as h2 => rw [e] at p; exact fun Θ' H' t' => p Θ' H' (t.trans t')
    | bad => rw [e] at p; exact p
  | ex c as h1 => exact p
  | bad => exact p
theorem PostF.ofO {o : Option AV} {h : AH} {Θ : Th K} {H : Hp} {Q : VK} {E : XW K} (p : PostF (EV.ofO o h) Θ H Q E) : ∃ v, o = some v ∧ FinF Θ h H v Q := by
  cases o with
  | none => exact p.elim
  | some v => exact ⟨v, rfl, p⟩
def tF {K : PySem.W.Frag} (Φ : Fns) (W : AW K) (e : IE) : TE := fun σ H Q => ∃ (Θ : Th K) (h : AH) (σa : ASt), HR Θ h H ∧ SR Θ H σa σ ∧ PostF (evE Φ e σa h) Θ H Q (EW W σ)
theorem _root_.L2.PE.ofF {X : Cx} {e : Expr} {Φ : Fns} {W : AW X.K} {i : IE} (h : PE X e (tF Φ W i)) : PE X e (tE Φ W i) := h.wk fun σ H Q ⟨Θ, h, σa, hr, sr, p⟩ => ⟨Θ, h, σa, hr, sr, PostF.of p⟩

section
variable {K : PySem.W.Frag} {Θ : Th K} {h : AH} {H : Hp} {a : AV} {x : V} {l : List AV}
theorem ref_at (hr : HR Θ h H) {n : Nat} {p : Addr} (e : Θ.th[n]? = some p) : ∃ xs vs, h[n]? = some (.lst xs) ∧ H p = some (.lst vs) ∧ RepL Θ H xs vs := by
  have hn : n < h.length := by rw [← hr.len]; exact (List.getElem?_eq_some_iff.mp e).1
  have q : h[n]? = some h[n] := List.getElem?_eq_getElem hn
  have z := hr.obj n p h[n] e q
  cases o : h[n] with
  | lst xs => rw [o] at z q; obtain ⟨vs, e1, l⟩ := z; exact ⟨xs, vs, q, e1, l⟩
/-- a list -/
theorem lst_rep (hr : HR Θ h H) (r : Rep Θ H a x) (e : lstOf h a = some l) : ∃ p vs, x = .ref p ∧ H p = some (.lst vs) ∧ RepL Θ H l vs := by
  cases r with
  | lst e1 f q => cases e; exact ⟨_, _, rfl, e1, q⟩
  | ref e1 =>
    obtain ⟨xs, vs, q1, q2, q3⟩ := ref_at hr e1
    simp only [lstOf, q1] at e
    cases e
    exact ⟨_, vs, rfl, q2, q3⟩
  | _ => cases e
/-- a list or a tuple -/
theorem items_rep (hr : HR Θ h H) (r : Rep Θ H a x) (e : itemsOf h a = some l) : ∃ p vs, x = .ref p ∧ (SqL K H p vs ∨ SqT K H p vs) ∧ RepL Θ H l vs := by
  cases r with
  | lst e1 f q => cases e; exact ⟨_, _, rfl, .inl (SqL.of e1), q⟩
  | tup e1 f q => cases e; exact ⟨_, _, rfl, .inr (SqT.of e1), q⟩
  | scr e1 f q => cases e; exact ⟨_, _, rfl, .inl (.inl (.inr ⟨_, e1⟩)), q⟩
  | scrK k q => cases e; exact ⟨_, _, rfl, .inl (.inr k), q⟩
  | ref e1 =>
    obtain ⟨xs, vs, q1, q2, q3⟩ := ref_at hr e1
    simp only [itemsOf, q1] at e
    cases e
    exact ⟨_, vs, rfl, .inl (SqL.of q2), q3⟩
  | _ => cases e
end

/-! ### two-place operations -/
def rV2 (K : PySem.W.Frag) (f : AH → AV → AV → Option AV) : R2 := fun x y H Q => ∃ (Θ : Th K) (h : AH) (a b v : AV), HR Θ h H ∧ Rep Θ H a x ∧ Rep Θ H b y ∧ f h a b = some v ∧ FinF Θ h H v Q

theorem mulOk_of {i j : Int} (h : mulOk i j = true) : CMul i j ∨ CMulX i j := by
  unfold mulOk at h
  simp only [Bool.or_eq_true, Bool.and_eq_true, decide_eq_true_eq] at h
  rcases h with (h | h) | h
  · exact .inl (.inl ⟨by have := h.1; simp [P64] at this; omega, by have := h.2; simp [P64] at this; omega⟩)
  · exact .inl (.inr ⟨by have := h.1; simp [P64] at this; omega, by have := h.2; simp [P64] at this; omega⟩)
  · exact .inr (mulx_ok (a := 4096) (b := 4096) h.1 h.2 (by omega))
theorem SZ_eq : SZ = sizeLine := by rw [sizeLine_eq]

section
variable {X : Cx}
/-- .. of a subscript -/
def rV2x (K : PySem.W.Frag) (f : AH → AV → AV → Option AV) : R2 := fun x y H Q => ∃ (Θ : Th K) (h : AH) (a b v : AV), HR Θ h H ∧ Rep Θ H a x ∧ Rep Θ H b y ∧ f h a b = some v ∧ Fin Θ h H v Q
theorem vo_addL {Θ : Th X.K} {h : AH} {a b : AV} (pins : List (Addr × Obj)) (s : Shared) (σ : L2.St) (H : Hp) (x y : V) (v u : Value) (Q : VK) (I : Inv X pins σ H s) (rx : RelV x v) (ry : RelV y u) (hr : HR Θ h H) (ra : Rep Θ H a x) (rb : Rep Θ H b y)
    {l m : List AV} (e1 : lstOf h a = some l) (e2 : lstOf h b = some m) (hz : l.length + m.length ≤ SZ) (k : FinF Θ h H (.lst (l ++ m)) Q) : wpAny (model X.prog X.w) X.A (binaryOp .Add v u) (EP X pins σ Q) X.xe s := by
  obtain ⟨p, vs, rfl, hp, lp⟩ := lst_rep hr ra e1
  obtain ⟨q, ws, rfl, hq, lq⟩ := lst_rep hr rb e2
  exact op_cat pins s σ H _ _ v u Q I rx ry ⟨p, q, vs, ws, rfl, rfl, hp, hq, by rw [← lp.length, ← lq.length, ← SZ_eq]; exact hz, k.newL hr (lp.append lq)⟩
theorem vo_add : OpR X (binaryOp .Add) (rV2 X.K fun h a b => binO h .add a b) := by
  intro pins s σ H x y v u Q I rx ry ⟨Θ, h, a, b, w, hr, ra, rb, e, k⟩
  have lists : ∀ (a b : AV), Rep Θ H a x → Rep Θ H b y → catO h a b = some w → wpAny (model X.prog X.w) X.A (binaryOp .Add v u) (EP X pins σ Q) X.xe s := by
    intro a b ra rb e
    unfold catO at e
    cases e1 : lstOf h a with
    | none => rw [e1] at e; simp at e
    | some l =>
      cases e2 : lstOf h b with
      | none => rw [e1, e2] at e; simp at e
      | some m =>
        rw [e1, e2] at e
        by_cases hz : l.length + m.length ≤ SZ
        · simp only [if_pos hz] at e
          cases e
          exact vo_addL pins s σ H x y v u Q I rx ry hr ra rb e1 e2 hz k
        · simp only [if_neg hz] at e; cases e
  cases ra with
  | int i =>
    cases rb with
    | int j => cases e; exact op_add pins s σ H _ _ v u Q I rx ry ⟨i, j, rfl, rfl, k.same hr (.int _)⟩
    | _ => simp [binO, catO, repO, lstOf] at e
  | str i =>
    cases rb with
    | str j =>
      simp only [binO] at e
      by_cases hz : i.length + j.length ≤ SZ
      · rw [if_pos hz] at e
        cases e
        refine op_add_str pins s σ H _ _ v u Q I rx ry ⟨mkS i, mkS j, rfl, rfl, ?_, ?_⟩
        · have : (mkS i).length + (mkS j).length = i.length + j.length := by simp [Str.length]
          rw [this, ← SZ_eq]; exact hz
        · have : mkS i ++ mkS j = mkS (i ++ j) := by
            show (⟨i.toArray ++ j.toArray⟩ : Str) = ⟨(i ++ j).toArray⟩
            simp
          rw [this]
          exact k.same hr (.str _)
      · rw [if_neg hz] at e; cases e
    | _ => simp [binO, catO, repO, lstOf] at e
  | tup e1 f1 l1 =>
    cases rb with
    | tup e2 f2 l2 =>
      rename_i p vs xs q ws ys
      simp only [binO] at e
      by_cases hz : xs.length + ys.length ≤ SZ
      · rw [if_pos hz] at e
        cases e
        refine op_catA pins s σ H _ _ v u Q I rx ry ⟨p, q, vs, ws, rfl, rfl, SqT.of e1, SqT.of e2, by rw [← l1.length, ← l2.length, ← SZ_eq]; exact hz, fun z => ?_, fun _ z => ?_, fun _ _ => k.newT hr (l1.append l2)⟩
        · have : xs = [] := List.length_eq_zero_iff.mp (by rw [l1.length, z]; rfl)
          subst this
          exact k.same hr (.tup e2 f2 l2)
        · have : ys = [] := List.length_eq_zero_iff.mp (by rw [l2.length, z]; rfl)
          subst this
          exact k.same hr (by rw [List.append_nil]; exact .tup e1 f1 l1)
      · rw [if_neg hz] at e; cases e
    | _ => simp [binO, catO, repO, lstOf] at e
  | lst e1 f1 l1 => exact lists (.lst _) _ (.lst e1 f1 l1) rb (by simpa only [binO] using e)
  | ref e1 => exact lists (.ref _) _ (.ref e1) rb (by simpa only [binO] using e)
  | _ => cases rb <;> simp [binO, catO, repO, lstOf] at e
theorem vo_sub : OpR X (binaryOp .Sub) (rV2 X.K fun h a b => binO h .sub a b) := by
  intro pins s σ H x y v u Q I rx ry ⟨Θ, h, a, b, w, hr, ra, rb, e, k⟩
  cases ra with
  | int i =>
    cases rb with
    | int j => cases e; exact op_sub pins s σ H _ _ v u Q I rx ry ⟨i, j, rfl, rfl, k.same hr (.int _)⟩
    | _ => simp [binO] at e
  | _ => cases rb <;> simp [binO] at e
theorem vo_mul : OpR X (binaryOp .Mult) (rV2 X.K fun h a b => binO h .mul a b) := by
  intro pins s σ H x y v u Q I rx ry ⟨Θ, h, a, b, w, hr, ra, rb, e, k⟩
  have lists : ∀ (a : AV) (j : Int), Rep Θ H a x → y = .int j → repO h a j = some w → wpAny (model X.prog X.w) X.A (binaryOp .Mult v u) (EP X pins σ Q) X.xe s := by
    intro a j ra hy e
    unfold repO at e
    cases e1 : lstOf h a with
    | none => rw [e1] at e; simp at e
    | some l =>
      rw [e1] at e
      dsimp only at e
      split at e
      · rename_i hc
        simp only [Bool.and_eq_true, decide_eq_true_eq] at hc
        cases e
        obtain ⟨p, vs, rfl, hp, lp⟩ := lst_rep hr ra e1
        exact op_rep pins s σ H _ _ v u Q I rx ry ⟨p, j, vs, rfl, hy, hp, hc.1.2, hc.2, by rw [← lp.length, ← SZ_eq]; exact hc.1.1, k.newL hr (lp.flat _)⟩
      · cases e
  cases ra with
  | tup e1 f1 l1 =>
    cases rb with
    | int j =>
      simp only [binO] at e
      split at e
      · rename_i hc
        simp only [Bool.and_eq_true, decide_eq_true_eq, Bool.not_eq_true'] at hc
        cases e
        obtain ⟨⟨⟨h1, h2⟩, h3⟩, h4⟩ := hc
        refine op_repT pins s σ H _ _ v u Q I rx ry ⟨_, j, _, rfl, rfl, SqT.of e1, fun z => ?_, h2, h3, by rw [← l1.length]; exact h4, k.newT hr (l1.flat _)⟩
        have := l1.length
        rw [z] at this
        rw [List.eq_nil_of_length_eq_zero this] at h1
        cases h1
      · cases e
    | _ => simp [binO, repO, lstOf] at e
  | int i =>
    cases rb with
    | int j =>
      simp only [binO] at e
      split at e
      · rename_i hm
        cases e
        rcases mulOk_of hm with hm | hm
        · exact op_mul pins s σ H _ _ v u Q I rx ry ⟨i, j, rfl, rfl, hm, k.same hr (.int _)⟩
        · exact op_mulX pins s σ H _ _ v u Q I rx ry ⟨i, j, rfl, rfl, hm, k.same hr (.int _)⟩
      · cases e
    | _ => simp [binO] at e
  | lst e1 f1 l1 =>
    cases rb with
    | int j => exact lists (.lst _) j (.lst e1 f1 l1) rfl (by simpa only [binO] using e)
    | _ => simp [binO] at e
  | ref e1 =>
    cases rb with
    | int j => exact lists (.ref _) j (.ref e1) rfl (by simpa only [binO] using e)
    | _ => simp [binO] at e
  | _ => cases rb <;> simp [binO, catO, repO, lstOf] at e
theorem vo_fdiv : OpR X (binaryOp .FloorDiv) (rV2 X.K fun h a b => binO h .fdiv a b) := by
  intro pins s σ H x y v u Q I rx ry ⟨Θ, h, a, b, w, hr, ra, rb, e, k⟩
  cases ra with
  | int i =>
    cases rb with
    | int j =>
      simp only [binO] at e
      split at e
      · rename_i hm
        simp only [Bool.and_eq_true, decide_eq_true_eq] at hm
        cases e
        exact op_fdiv pins s σ H _ _ v u Q I rx ry ⟨i, j, rfl, rfl, hm, k.same hr (.int _)⟩
      · cases e
    | _ => simp [binO] at e
  | _ => cases rb <;> simp [binO] at e
theorem vo_mod : OpR X (binaryOp .Mod) (rV2 X.K fun h a b => binO h .mod a b) := by
  intro pins s σ H x y v u Q I rx ry ⟨Θ, h, a, b, w, hr, ra, rb, e, k⟩
  cases ra with
  | int i =>
    cases rb with
    | int j =>
      simp only [binO] at e
      split at e
      · rename_i hm
        cases e
        exact op_mod pins s σ H _ _ v u Q I rx ry ⟨i, j, rfl, rfl, hm, k.same hr (.int _)⟩
      · cases e
    | _ => simp [binO] at e
  | _ => cases rb <;> simp [binO] at e
theorem vo_pow : OpR X (binaryOp .Pow) (rV2 X.K fun h a b => binO h .pow a b) := by
  intro pins s σ H x y v u Q I rx ry ⟨Θ, h, a, b, w, hr, ra, rb, e, k⟩
  cases ra with
  | int i =>
    cases rb with
    | int j =>
      simp only [binO] at e
      split at e
      · rename_i hm
        simp only [Bool.and_eq_true, decide_eq_true_eq] at hm
        cases e
        exact op_pow pins s σ H _ _ v u Q I rx ry ⟨i, j, rfl, rfl, ⟨hm.1.1, hm.1.2, hm.2⟩, k.same hr (.int _)⟩
      · cases e
    | _ => simp [binO] at e
  | _ => cases rb <;> simp [binO] at e
end

/-- the operators that are served -/
def opOf : Operator → Option Bop
  | .Add => some .add | .Sub => some .sub | .Mult => some .mul | .FloorDiv => some .fdiv | .Mod => some .mod | .Pow => some .pow
  | _ => none
theorem vo_bin {X : Cx} {op : Operator} {o : Bop} (h : opOf op = some o) : OpR X (binaryOp op) (rV2 X.K fun h a b => binO h o a b) := by
  cases op <;> cases h
  · exact vo_add
  · exact vo_sub
  · exact vo_mul
  · exact vo_mod
  · exact vo_pow
  · exact vo_fdiv
end EV

set_option Elab.async false
set_option linter.all false
set_option maxRecDepth 100000
set_option maxHeartbeats 1000000
namespace EV
open PySem PySem.Spec PyProof.Rows L2
variable {K : PySem.W.Frag}

/-! ### values as data -/
mutual
def pd : AV → PyData
  | .non => .none
  | .bl b => .bool b
  | .int i => .int i
  | .str s => .str (mkS s)
  | .tup l => .tuple (pdL l)
  | .lst l => .list (pdL l)
  | .ref _ => .dict []
  | .scr _ => .dict []
  | .exc _ _ _ => .dict []
def pdL : List AV → List PyData
  | [] => []
  | x :: xs => pd x :: pdL xs
end
theorem mkS_beq (s t : List Nat) : (mkS s == mkS t) = (s == t) := by
  rw [Bool.eq_iff_iff]
  simp [mkS]
mutual
theorem aeq_pd : ∀ a b : AV, aeq a b = PyData.eqv (pd a) (pd b)
  | .non, b => by cases b <;> rfl
  | .bl x, b => by cases b <;> rfl
  | .int x, b => by cases b <;> rfl
  | .str x, b => by
    cases b <;> first | rfl | (simp only [aeq, pd, PyData.eqv]; exact (mkS_beq _ _).symm)
  | .tup x, b => by
    cases b <;> first | rfl | (simp only [aeq, pd, PyData.eqv]; exact aeq_pdL _ _)
  | .lst x, b => by
    cases b <;> first | rfl | (simp only [aeq, pd, PyData.eqv]; exact aeq_pdL _ _)
  | .ref x, b => by cases b <;> rfl
  | .scr x, b => by cases b <;> rfl
  | .exc x y z, b => by cases b <;> rfl
theorem aeq_pdL : ∀ a b : List AV, aeqL a b = PyData.eqvAll (pdL a) (pdL b)
  | [], [] => rfl
  | [], _ :: _ => rfl
  | _ :: _, [] => rfl
  | x :: xs, y :: ys => by
    simp only [aeqL, pdL, PyData.eqvAll]
    rw [aeq_pd x y, aeq_pdL xs ys]
end
theorem mapO_cons {α β : Type} {g : α → Option β} {x : α} {xs : List α} {r : List β} (h : mapO g (x :: xs) = some r) : ∃ y ys, r = y :: ys ∧ g x = some y ∧ mapO g xs = some ys := by
  simp only [mapO] at h
  cases e1 : g x with
  | none => rw [e1] at h; simp at h
  | some y =>
    cases e2 : mapO g xs with
    | none => rw [e1, e2] at h; simp at h
    | some ys => rw [e1, e2] at h; cases h; exact ⟨y, ys, rfl, rfl, rfl⟩
section
variable {K : PySem.W.Frag} {Θ : Th K} {h : AH} {H : Hp}
theorem resL_dp {f : Nat} (ih : ∀ {a b : AV} {x : V}, res h f a = some b → Rep Θ H a x → Dp K H x (pd b) ∧ (pd b).canLay0 = true ∧ (pd b).depth ≤ f) :
    ∀ {l m : List AV} {vs : List V}, mapO (res h f) l = some m → RepL Θ H l vs → DpAll K H vs (pdL m) ∧ PyData.canLayAll0 (pdL m) = true ∧ PyData.depthAll (pdL m) ≤ f := by
  intro l
  induction l with
  | nil =>
    intro m vs e r
    cases e
    cases r
    exact ⟨.nil, rfl, Nat.zero_le _⟩
  | cons x xs ihl =>
    intro m vs e r
    obtain ⟨y, ys, rfl, e1, e2⟩ := mapO_cons e
    cases r with
    | cons p q =>
      obtain ⟨a1, a2, a3⟩ := ih e1 p
      obtain ⟨b1, b2, b3⟩ := ihl e2 q
      refine ⟨.cons a1 b1, ?_, ?_⟩
      · simp only [pdL, PyData.canLayAll0, a2, b2, Bool.and_self]
      · simp only [pdL, PyData.depthAll]
        exact Nat.max_le.mpr ⟨a3, b3⟩
theorem res_dp (hr : HR Θ h H) : ∀ (f : Nat) {a b : AV} {x : V}, res h f a = some b → Rep Θ H a x → Dp K H x (pd b) ∧ (pd b).canLay0 = true ∧ (pd b).depth ≤ f := by
  intro f
  induction f with
  | zero =>
    intro a b x e r
    cases r with
    | non => cases e; exact ⟨.non, rfl, Nat.zero_le _⟩
    | bl k => cases e; exact ⟨.bl _, rfl, Nat.zero_le _⟩
    | int k => cases e; exact ⟨.int _, rfl, Nat.zero_le _⟩
    | str k =>
      simp only [res] at e
      split at e
      · rename_i hk
        cases e
        exact ⟨.str _, by simp only [pd, PyData.canLay0, PyData.strOk, mkS]; simpa using hk, Nat.zero_le _⟩
      · cases e
    | _ => simp [res] at e
  | succ f ih =>
    intro a b x e r
    cases r with
    | non => cases e; exact ⟨.non, rfl, Nat.zero_le _⟩
    | bl k => cases e; exact ⟨.bl _, rfl, Nat.zero_le _⟩
    | int k => cases e; exact ⟨.int _, rfl, Nat.zero_le _⟩
    | str k =>
      simp only [res] at e
      split at e
      · rename_i hk
        cases e
        exact ⟨.str _, by simp only [pd, PyData.canLay0, PyData.strOk, mkS]; simpa using hk, Nat.zero_le _⟩
      · cases e
    | tup e1 f1 l1 =>
      simp only [res, Option.map_eq_some_iff] at e
      obtain ⟨m, em, rfl⟩ := e
      obtain ⟨d1, d2, d3⟩ := resL_dp ih em l1
      exact ⟨.tup (SqT.of e1) d1, d2, by simp only [pd, PyData.depth]; omega⟩
    | lst e1 f1 l1 =>
      simp only [res, Option.map_eq_some_iff] at e
      obtain ⟨m, em, rfl⟩ := e
      obtain ⟨d1, d2, d3⟩ := resL_dp ih em l1
      exact ⟨.lst (SqL.of e1) d1, d2, by simp only [pd, PyData.depth]; omega⟩
    | ref e1 =>
      obtain ⟨xs, vs, q1, q2, q3⟩ := ref_at hr e1
      simp only [res, q1, Option.map_eq_some_iff] at e
      obtain ⟨m, em, rfl⟩ := e
      obtain ⟨d1, d2, d3⟩ := resL_dp ih em q3
      exact ⟨.lst (SqL.of q2) d1, d2, by simp only [pd, PyData.depth]; omega⟩
    | scr => simp [res] at e
    | scrK => simp [res] at e
    | exc => simp [res] at e
theorem res_shaped (hr : HR Θ h H) {a b : AV} {x : V} (e : res h 40 a = some b) (r : Rep Θ H a x) : Dp K H x (pd b) ∧ SeqAt.shaped (pd b) = true := by
  obtain ⟨h1, h2, h3⟩ := res_dp (K := K) hr 40 e r
  refine ⟨h1, ?_⟩
  unfold SeqAt.shaped
  rw [h2, decide_eq_true (by omega)]
  rfl
end

section
variable {X : Cx}
theorem vo_eq (hu : X.A.units + 64 < cLine) : OpR X (compareOp .Eq) (rV2 X.K fun h a b => (eqO h a b).map .bl) := by
  intro pins s σ H x y v u Q I rx ry ⟨Θ, h, a, b, w, hr, ra, rb, e, k⟩
  simp only [Option.map_eq_some_iff] at e
  obtain ⟨c, e, rfl⟩ := e
  have deep : (match res h 40 a, res h 40 b with
    | some x, some y => some (aeq x y)
    | _, _ => none) = some c → wpAny (model X.prog X.w) X.A (compareOp .Eq v u) (EP X pins σ Q) X.xe s := by
    intro e
    cases e1 : res h 40 a with
    | none => rw [e1] at e; simp at e
    | some a' =>
      cases e2 : res h 40 b with
      | none => rw [e1, e2] at e; simp at e
      | some b' =>
        rw [e1, e2] at e
        cases e
        obtain ⟨d1, s1⟩ := res_shaped (K := X.K) hr e1 ra
        obtain ⟨d2, s2⟩ := res_shaped (K := X.K) hr e2 rb
        exact op_eqD hu pins s σ H x y v u Q I rx ry ⟨_, _, d1, d2, s1, s2, by rw [← aeq_pd]; exact k.same hr (.bl _)⟩
  have flat : scal x y = true → c = decide (x = y) → wpAny (model X.prog X.w) X.A (compareOp .Eq v u) (EP X pins σ Q) X.xe s := fun hs hc =>
    op_eq pins s σ H x y v u Q I rx ry ⟨hs, by rw [← hc]; exact k.same hr (.bl _)⟩
  unfold eqO at e
  split at e
  · cases ra; cases rb; cases e
    exact flat rfl (by rw [dec_int])
  · cases ra; cases rb; cases e
    exact flat rfl (by rw [dec_str, mkS_beq])
  · cases ra; cases rb; cases e
    exact flat rfl (by rw [dec_bl])
  · cases ra; cases rb; cases e
    exact flat rfl (by simp)
  · exact deep e
theorem vo_ne (hu : X.A.units + 64 < cLine) : OpR X (compareOp .NotEq) (rV2 X.K fun h a b => ((eqO h a b).map (!·)).map .bl) := by
  intro pins s σ H x y v u Q I rx ry ⟨Θ, h, a, b, w, hr, ra, rb, e, k⟩
  simp only [Option.map_map, Option.map_eq_some_iff] at e
  obtain ⟨c, e, rfl⟩ := e
  have deep : (match res h 40 a, res h 40 b with
    | some x, some y => some (aeq x y)
    | _, _ => none) = some c → wpAny (model X.prog X.w) X.A (compareOp .NotEq v u) (EP X pins σ Q) X.xe s := by
    intro e
    cases e1 : res h 40 a with
    | none => rw [e1] at e; simp at e
    | some a' =>
      cases e2 : res h 40 b with
      | none => rw [e1, e2] at e; simp at e
      | some b' =>
        rw [e1, e2] at e
        cases e
        obtain ⟨d1, s1⟩ := res_shaped (K := X.K) hr e1 ra
        obtain ⟨d2, s2⟩ := res_shaped (K := X.K) hr e2 rb
        exact op_neD hu pins s σ H x y v u Q I rx ry ⟨_, _, d1, d2, s1, s2, by rw [← aeq_pd]; exact k.same hr (.bl _)⟩
  have flat : scal x y = true → c = decide (x = y) → wpAny (model X.prog X.w) X.A (compareOp .NotEq v u) (EP X pins σ Q) X.xe s := fun hs hc =>
    op_ne pins s σ H x y v u Q I rx ry ⟨hs, by rw [← hc]; exact k.same hr (.bl _)⟩
  unfold eqO at e
  split at e
  · cases ra; cases rb; cases e
    exact flat rfl (by rw [dec_int])
  · cases ra; cases rb; cases e
    exact flat rfl (by rw [dec_str, mkS_beq])
  · cases ra; cases rb; cases e
    exact flat rfl (by rw [dec_bl])
  · cases ra; cases rb; cases e
    exact flat rfl (by simp)
  · exact deep e

theorem pdL_any (ys : List AV) (x : AV) : (ys.any fun y => aeq y x) = (pdL ys).any fun z => PyData.eqv z (pd x) := by
  induction ys with
  | nil => rfl
  | cons y ys ih => rw [List.any_cons, ih]; simp only [pdL, List.any_cons, aeq_pd]
/-- in a list or a tuple -/
theorem in_seq (hu : X.A.units + 65 < cLine) {Θ : Th X.K} {h : AH} {a b : AV} {l : List AV} {c : Bool} {pins : List (Addr × Obj)} {s : Shared} {σ : L2.St} {H : Hp} {x y : V} {v u : Value} {Q : VK} (I : Inv X pins σ H s) (rx : RelV x v) (ry : RelV y u)
    (hr : HR Θ h H) (ra : Rep Θ H a x) (rb : Rep Θ H b y) (el : itemsOf h b = some l) (e : memO h a l = some c) :
    (Q (.bl c) H → wpAny (model X.prog X.w) X.A (compareOp .In v u) (EP X pins σ Q) X.xe s) ∧ (Q (.bl (!c)) H → wpAny (model X.prog X.w) X.A (compareOp .NotIn v u) (EP X pins σ Q) X.xe s) := by
  unfold memO at e
  cases e1 : res h 40 a with
  | none => rw [e1] at e; simp at e
  | some a' =>
    cases e2 : mapO (res h 40) l with
    | none => rw [e1, e2] at e; simp at e
    | some m =>
      rw [e1, e2] at e
      cases e
      rw [pdL_any]
      obtain ⟨d1, s1⟩ := res_shaped (K := X.K) hr e1 ra
      obtain ⟨p, vs, rfl, hq, rl⟩ := items_rep (K := X.K) hr rb el
      obtain ⟨da, dc, _⟩ := resL_dp (K := X.K) (fun e r => res_dp hr 40 e r) e2 rl
      obtain ⟨as, r1⟩ := Dp.reads I _ x v d1 rx
      have room := room_in_shaped (A := X.A) (xs := pdL m) s1 hu
      rcases hq with hq | hq
      · obtain ⟨bs, r2⟩ := Dp.reads I _ _ u (Dp.lst hq da) ry
        exact ⟨fun q => SeqAt.in_list_reads r2 r1 dc (SeqAt.canLay_of_shaped s1) room ⟨.bl _, H, I, rfl, q⟩, fun q => SeqAt.notIn_list_reads r2 r1 dc (SeqAt.canLay_of_shaped s1) room ⟨.bl _, H, I, rfl, q⟩⟩
      · obtain ⟨bs, r2⟩ := Dp.reads I _ _ u (Dp.tup hq da) ry
        exact ⟨fun q => SeqAt.in_tuple_reads r2 r1 dc (SeqAt.canLay_of_shaped s1) room ⟨.bl _, H, I, rfl, q⟩, fun q => SeqAt.notIn_tuple_reads r2 r1 dc (SeqAt.canLay_of_shaped s1) room ⟨.bl _, H, I, rfl, q⟩⟩
theorem vo_in (hu : X.A.units + 65 < cLine) : OpR X (compareOp .In) (rV2 X.K fun h a b => (inO h a b).map .bl) := by
  intro pins s σ H x y v u Q I rx ry ⟨Θ, h, a, b, w, hr, ra, rb, e, k⟩
  simp only [Option.map_eq_some_iff] at e
  obtain ⟨c, e, rfl⟩ := e
  unfold inO at e
  split at e
  · rename_i c0 z
    cases ra; cases rb; cases e
    refine op_in_sign pins s σ H _ _ v u Q I rx ry ⟨c0, mkS z, rfl, rfl, ?_⟩
    have : decide (c0 ∈ (mkS z).cps.toList) = z.contains c0 := by rw [Bool.eq_iff_iff]; simp [mkS]
    rw [this]
    exact k.same hr (.bl _)
  · cases el : itemsOf h b with
    | none => rw [el] at e; simp at e
    | some l => rw [el] at e; exact (in_seq hu I rx ry hr ra rb el e).1 (k.same hr (.bl _))
theorem vo_nin (hu : X.A.units + 65 < cLine) : OpR X (compareOp .NotIn) (rV2 X.K fun h a b => ((inO h a b).map (!·)).map .bl) := by
  intro pins s σ H x y v u Q I rx ry ⟨Θ, h, a, b, w, hr, ra, rb, e, k⟩
  simp only [Option.map_map, Option.map_eq_some_iff] at e
  obtain ⟨c, e, rfl⟩ := e
  unfold inO at e
  split at e
  · rename_i c0 z
    cases ra; cases rb; cases e
    refine op_notIn_sign pins s σ H _ _ v u Q I rx ry ⟨c0, mkS z, rfl, rfl, ?_⟩
    have : decide (c0 ∈ (mkS z).cps.toList) = z.contains c0 := by rw [Bool.eq_iff_iff]; simp [mkS]
    rw [this]
    exact k.same hr (.bl _)
  · cases el : itemsOf h b with
    | none => rw [el] at e; simp at e
    | some l => rw [el] at e; exact (in_seq hu I rx ry hr ra rb el e).2 (k.same hr (.bl _))

theorem strLt_eq : ∀ s t : List Nat, strLt s t = decide (s < t)
  | [], [] => by simp [strLt]
  | [], _ :: _ => by simp [strLt]
  | _ :: _, [] => by simp [strLt]
  | x :: xs, y :: ys => by
    simp only [strLt, List.cons_lt_cons_iff]
    have ih := strLt_eq xs ys
    by_cases h1 : x < y
    · simp [h1]
    · by_cases h2 : y < x
      · have : x ≠ y := by omega
        simp [h1, h2, this]
      · have : x = y := by omega
        subst this
        simp [ih]
theorem vo_ord {op : CmpOp} {o : Cop} (P : Int → Int → Bool) (S : List Nat → List Nat → Option Bool)
    (hf : ∀ h a b, cmpO h o a b = match a, b with
      | .int i, .int j => some (P i j)
      | .str s, .str t => S s t
      | _, _ => none)
    (ri : OpR X (compareOp op) (rI0 fun i j => .bl (P i j)))
    (rs : ∀ s t c, S s t = some c → OpR X (compareOp op) (fun x y H Q => x = .str (mkS s) ∧ y = .str (mkS t) ∧ Q (.bl c) H)) :
    OpR X (compareOp op) (rV2 X.K fun h a b => (cmpO h o a b).map .bl) := by
  intro pins s σ H x y v u Q I rx ry ⟨Θ, h, a, b, w, hr, ra, rb, e, k⟩
  simp only [Option.map_eq_some_iff, hf] at e
  obtain ⟨c, e, rfl⟩ := e
  cases ra with
  | int i =>
    cases rb with
    | int j => cases e; exact ri pins s σ H _ _ v u Q I rx ry ⟨i, j, rfl, rfl, k.same hr (.bl _)⟩
    | _ => simp at e
  | str i =>
    cases rb with
    | str j => exact rs i j c e pins s σ H _ _ v u Q I rx ry ⟨rfl, rfl, k.same hr (.bl _)⟩
    | _ => simp at e
  | _ => cases rb <;> simp at e
theorem vo_lt : OpR X (compareOp .Lt) (rV2 X.K fun h a b => (cmpO h .lt a b).map .bl) :=
  vo_ord (fun i j => decide (i < j)) (fun s t => some (strLt s t)) (fun h a b => by cases a <;> cases b <;> rfl) op_lt (fun s t c e => by
    cases e
    exact OpR.imp op_lt_str fun x y H Q ⟨e1, e2, q⟩ => ⟨mkS s, mkS t, e1, e2, by
      have : decide ((mkS s).cps.toList < (mkS t).cps.toList) = strLt s t := by rw [strLt_eq]
      rw [this]; exact q⟩)
theorem vo_gt : OpR X (compareOp .Gt) (rV2 X.K fun h a b => (cmpO h .gt a b).map .bl) :=
  vo_ord (fun i j => decide (j < i)) (fun s t => some (strLt t s)) (fun h a b => by cases a <;> cases b <;> rfl) op_gt (fun s t c e => by
    cases e
    exact OpR.imp op_gt_str fun x y H Q ⟨e1, e2, q⟩ => ⟨mkS s, mkS t, e1, e2, by
      have : decide ((mkS t).cps.toList < (mkS s).cps.toList) = strLt t s := by rw [strLt_eq]
      rw [this]; exact q⟩)
theorem vo_le : OpR X (compareOp .LtE) (rV2 X.K fun h a b => (cmpO h .le a b).map .bl) :=
  vo_ord (fun i j => decide (i ≤ j)) (fun s t => none) (fun h a b => by cases a <;> cases b <;> rfl) op_le (fun s t c e => by cases e)
theorem vo_ge : OpR X (compareOp .GtE) (rV2 X.K fun h a b => (cmpO h .ge a b).map .bl) :=
  vo_ord (fun i j => decide (j ≤ i)) (fun s t => none) (fun h a b => by cases a <;> cases b <;> rfl) op_ge (fun s t c e => by cases e)
end
/-- the comparisons that are served -/
def copOf : CmpOp → Option Cop
  | .Eq => some .eq | .NotEq => some .ne | .Lt => some .lt | .LtE => some .le | .Gt => some .gt | .GtE => some .ge | .In => some .inn | .NotIn => some .nin
  | _ => none
theorem vo_cmp {X : Cx} {op : CmpOp} {o : Cop} (hu : X.A.units + 65 < cLine) (h : copOf op = some o) : OpR X (compareOp op) (rV2 X.K fun h a b => (cmpO h o a b).map .bl) := by
  have hu' : X.A.units + 64 < cLine := by omega
  cases op <;> cases h
  · exact vo_eq hu'
  · exact vo_ne hu'
  · exact vo_lt
  · exact vo_le
  · exact vo_gt
  · exact vo_ge
  · exact vo_in hu
  · exact vo_nin hu
end EV

set_option Elab.async false
set_option linter.all false
set_option maxRecDepth 100000
set_option maxHeartbeats 1000000
namespace EV
open PySem PySem.Spec PyProof.Rows L2
variable {K : PySem.W.Frag}

/-! ### the order -/
def TR (o1 o2 o3 : Ordering) : Prop := (o1 = .eq → o3 = o2) ∧ (o2 = .eq → o3 = o1) ∧ (o1 = .lt → o2 = .lt → o3 = .lt) ∧ (o1 = .gt → o2 = .gt → o3 = .gt)
theorem ordI_swap (i j : Int) : ordI j i = (ordI i j).swap := by
  unfold ordI
  by_cases h : i < j
  · rw [if_neg (by omega), if_pos h, if_pos h]; rfl
  · by_cases h' : j < i
    · rw [if_pos h', if_neg h, if_pos h']; rfl
    · rw [if_neg h', if_neg h, if_neg h, if_neg h']; rfl
theorem ordN_swap (i j : Nat) : ordN j i = (ordN i j).swap := by
  unfold ordN
  by_cases h : i < j
  · rw [if_neg (by omega), if_pos h, if_pos h]; rfl
  · by_cases h' : j < i
    · rw [if_pos h', if_neg h, if_pos h']; rfl
    · rw [if_neg h', if_neg h, if_neg h, if_neg h']; rfl
theorem ordI_cases (i j : Int) : (ordI i j = .lt ∧ i < j) ∨ (ordI i j = .eq ∧ i = j) ∨ (ordI i j = .gt ∧ j < i) := by
  unfold ordI
  by_cases h : i < j
  · exact .inl ⟨if_pos h, h⟩
  · by_cases h' : j < i
    · exact .inr (.inr ⟨by rw [if_neg h, if_pos h'], h'⟩)
    · exact .inr (.inl ⟨by rw [if_neg h, if_neg h'], by omega⟩)
theorem ordN_cases (i j : Nat) : (ordN i j = .lt ∧ i < j) ∨ (ordN i j = .eq ∧ i = j) ∨ (ordN i j = .gt ∧ j < i) := by
  unfold ordN
  by_cases h : i < j
  · exact .inl ⟨if_pos h, h⟩
  · by_cases h' : j < i
    · exact .inr (.inr ⟨by rw [if_neg h, if_pos h'], h'⟩)
    · exact .inr (.inl ⟨by rw [if_neg h, if_neg h'], by omega⟩)
theorem ordI_tr (i j k : Int) : TR (ordI i j) (ordI j k) (ordI i k) := by
  rcases ordI_cases i j with ⟨e1, h1⟩ | ⟨e1, h1⟩ | ⟨e1, h1⟩ <;> rcases ordI_cases j k with ⟨e2, h2⟩ | ⟨e2, h2⟩ | ⟨e2, h2⟩ <;> rcases ordI_cases i k with ⟨e3, h3⟩ | ⟨e3, h3⟩ | ⟨e3, h3⟩ <;> rw [e1, e2, e3] <;> refine ⟨?_, ?_, ?_, ?_⟩ <;> intros <;> first | rfl | contradiction | (exfalso; omega)
theorem ordN_tr (i j k : Nat) : TR (ordN i j) (ordN j k) (ordN i k) := by
  rcases ordN_cases i j with ⟨e1, h1⟩ | ⟨e1, h1⟩ | ⟨e1, h1⟩ <;> rcases ordN_cases j k with ⟨e2, h2⟩ | ⟨e2, h2⟩ | ⟨e2, h2⟩ <;> rcases ordN_cases i k with ⟨e3, h3⟩ | ⟨e3, h3⟩ | ⟨e3, h3⟩ <;> rw [e1, e2, e3] <;> refine ⟨?_, ?_, ?_, ?_⟩ <;> intros <;> first | rfl | contradiction | (exfalso; omega)
/-- one place, then the rest -/
def lexO (a b : Ordering) : Ordering := match a with
  | .eq => b
  | o => o
theorem TR.lex {a1 a2 a3 b1 b2 b3 : Ordering} (h : TR a1 a2 a3) (k : TR b1 b2 b3) : TR (lexO a1 b1) (lexO a2 b2) (lexO a3 b3) := by
  obtain ⟨h1, h2, h3, h4⟩ := h
  obtain ⟨k1, k2, k3, k4⟩ := k
  cases a1 <;> cases a2 <;> simp at h1 h2 h3 h4 <;> first | (subst h1; exact ⟨k1, k2, k3, k4⟩) | skip
  all_goals (unfold lexO; refine ⟨?_, ?_, ?_, ?_⟩ <;> simp_all)
theorem TR.lt : TR .lt .lt .lt := ⟨fun h => (by cases h), fun h => (by cases h), fun _ _ => rfl, fun h => (by cases h)⟩
theorem ordS_cons (x y : Nat) (xs ys : List Nat) : ordS (x :: xs) (y :: ys) = lexO (ordN x y) (ordS xs ys) := by
  show (match ordN x y with | .eq => ordS xs ys | o => o) = _
  unfold lexO
  cases ordN x y <;> rfl
theorem kCL_cons (x y : AV) (xs ys : List AV) : kCL (x :: xs) (y :: ys) = lexO (kC x y) (kCL xs ys) := by
  simp only [kCL]
  unfold lexO
  cases kC x y <;> rfl
theorem lexO_swap (a b : Ordering) : (lexO a b).swap = lexO a.swap b.swap := by cases a <;> rfl
theorem ordS_swap : ∀ s t : List Nat, ordS t s = (ordS s t).swap
  | [], [] => rfl
  | [], _ :: _ => rfl
  | _ :: _, [] => rfl
  | x :: xs, y :: ys => by rw [ordS_cons, ordS_cons, lexO_swap, ordN_swap, ordS_swap]
theorem ordS_tr : ∀ s t u : List Nat, TR (ordS s t) (ordS t u) (ordS s u)
  | [], [], [] => ⟨fun _ => rfl, fun _ => rfl, fun h => (by cases h), fun h => (by cases h)⟩
  | [], [], _ :: _ => ⟨fun _ => rfl, fun h => (by cases h), fun h => (by cases h), fun h => (by cases h)⟩
  | [], _ :: _, [] => ⟨fun h => (by cases h), fun h => (by cases h), fun _ h => (by cases h), fun h => (by cases h)⟩
  | [], _ :: _, _ :: _ => ⟨fun h => (by cases h), fun _ => rfl, fun _ _ => rfl, fun h => (by cases h)⟩
  | _ :: _, [], [] => ⟨fun h => (by cases h), fun _ => rfl, fun h => (by cases h), fun _ h => (by cases h)⟩
  | _ :: _, [], _ :: _ => ⟨fun h => (by cases h), fun h => (by cases h), fun h => (by cases h), fun _ h => (by cases h)⟩
  | _ :: _, _ :: _, [] => ⟨fun _ => rfl, fun h => (by cases h), fun _ h => (by cases h), fun _ _ => rfl⟩
  | x :: xs, y :: ys, z :: zs => by rw [ordS_cons, ordS_cons, ordS_cons]; exact (ordN_tr x y z).lex (ordS_tr xs ys zs)
theorem kC_rk {a b : AV} (h : rk a ≠ rk b) : kC a b = ordN (rk a) (rk b) := by
  cases a <;> cases b <;> first | rfl | (exact absurd rfl h)
mutual
theorem kC_swap : ∀ a b : AV, kC b a = (kC a b).swap
  | .int i, b => by cases b <;> first | exact ordI_swap _ _ | (simp only [kC]; exact ordN_swap _ _)
  | .str i, b => by cases b <;> first | exact ordS_swap _ _ | (simp only [kC]; exact ordN_swap _ _)
  | .tup xs, b => by cases b with
    | tup ys => exact kCL_swap xs ys
    | _ => simp only [kC]; exact ordN_swap _ _
  | .non, b => by cases b <;> (simp only [kC]; exact ordN_swap _ _)
  | .bl _, b => by cases b <;> (simp only [kC]; exact ordN_swap _ _)
  | .lst _, b => by cases b <;> (simp only [kC]; exact ordN_swap _ _)
  | .ref _, b => by cases b <;> (simp only [kC]; exact ordN_swap _ _)
  | .scr _, b => by cases b <;> (simp only [kC]; exact ordN_swap _ _)
  | .exc _ _ _, b => by cases b <;> (simp only [kC]; exact ordN_swap _ _)
termination_by structural a => a
theorem kCL_swap : ∀ a b : List AV, kCL b a = (kCL a b).swap
  | [], b => by cases b <;> rfl
  | x :: xs, b => by cases b with
    | nil => rfl
    | cons y ys => rw [kCL_cons, kCL_cons, lexO_swap, kC_swap x y, kCL_swap xs ys]
termination_by structural a => a
end
theorem nil_tr (b c : List AV) : TR (kCL [] b) (kCL b c) (kCL [] c) := by
  cases b <;> cases c <;> first
    | exact ⟨fun _ => rfl, fun _ => rfl, fun h => (by cases h), fun h => (by cases h)⟩
    | exact ⟨fun _ => rfl, fun h => (by cases h), fun h => (by cases h), fun h => (by cases h)⟩
    | exact ⟨fun h => (by cases h), fun h => (by cases h), fun _ h => (by cases h), fun h => (by cases h)⟩
    | exact ⟨fun h => (by cases h), fun _ => rfl, fun _ _ => rfl, fun h => (by cases h)⟩
theorem ordN_ne {i j : Nat} (h : i ≠ j) : ordN i j ≠ .eq := by
  rcases ordN_cases i j with ⟨e, _⟩ | ⟨_, e⟩ | ⟨e, _⟩
  · rw [e]; simp
  · exact absurd e h
  · rw [e]; simp
theorem tr_apart {a b c : AV} (h : ¬ (rk a = rk b ∧ rk b = rk c)) : TR (kC a b) (kC b c) (kC a c) := by
  by_cases h1 : rk a = rk b
  · have h2 : rk b ≠ rk c := fun e => h ⟨h1, e⟩
    rw [kC_rk h2, kC_rk (a := a) (b := c) (by rw [h1]; exact h2), h1]
    have n := ordN_ne h2
    exact ⟨fun _ => rfl, fun e => absurd e n, fun _ e => e, fun _ e => e⟩
  · rw [kC_rk h1]
    by_cases h2 : rk b = rk c
    · rw [kC_rk (a := a) (b := c) (by rw [← h2]; exact h1), ← h2]
      have n := ordN_ne h1
      exact ⟨fun e => absurd e n, fun _ => rfl, fun e _ => e, fun e _ => e⟩
    · rw [kC_rk h2]
      by_cases h3 : rk a = rk c
      · refine ⟨fun e => absurd e (ordN_ne h1), fun e => absurd e (ordN_ne h2), fun e f => ?_, fun e f => ?_⟩
        · rcases ordN_cases (rk a) (rk b) with ⟨_, p⟩ | ⟨q, _⟩ | ⟨q, _⟩
          · rcases ordN_cases (rk b) (rk c) with ⟨_, p'⟩ | ⟨q, _⟩ | ⟨q, _⟩
            · omega
            · rw [q] at f; cases f
            · rw [q] at f; cases f
          · rw [q] at e; cases e
          · rw [q] at e; cases e
        · rcases ordN_cases (rk a) (rk b) with ⟨q, _⟩ | ⟨q, _⟩ | ⟨_, p⟩
          · rw [q] at e; cases e
          · rw [q] at e; cases e
          · rcases ordN_cases (rk b) (rk c) with ⟨q, _⟩ | ⟨q, _⟩ | ⟨_, p'⟩
            · rw [q] at f; cases f
            · rw [q] at f; cases f
            · omega
      · rw [kC_rk h3]; exact ordN_tr _ _ _
theorem tr_other {a b c : AV} (h1 : kC a b = .eq) (h2 : kC b c = .eq) (h3 : kC a c = .eq) : TR (kC a b) (kC b c) (kC a c) := by
  rw [h1, h2, h3]
  exact ⟨fun _ => rfl, fun _ => rfl, fun h => (by cases h), fun h => (by cases h)⟩
mutual
theorem kC_tr : ∀ a b c : AV, TR (kC a b) (kC b c) (kC a c)
  | .int i, b, c => by
    by_cases h : rk (.int i) = rk b ∧ rk b = rk c
    · cases b <;> cases c <;> first | exact ordI_tr _ _ _ | (exfalso; revert h; simp [rk]; done)
    · exact tr_apart h
  | .str i, b, c => by
    by_cases h : rk (.str i) = rk b ∧ rk b = rk c
    · cases b <;> cases c <;> first | exact ordS_tr _ _ _ | (exfalso; revert h; simp [rk]; done)
    · exact tr_apart h
  | .tup xs, b, c => by
    by_cases h : rk (.tup xs) = rk b ∧ rk b = rk c
    · cases b <;> cases c <;> first | exact kCL_tr xs _ _ | (exfalso; revert h; simp [rk]; done)
    · exact tr_apart h
  | .non, b, c => by
    by_cases h : rk .non = rk b ∧ rk b = rk c
    · cases b <;> cases c <;> first | exact tr_other rfl rfl rfl | (exfalso; revert h; simp [rk]; done)
    · exact tr_apart h
  | .bl x, b, c => by
    by_cases h : rk (.bl x) = rk b ∧ rk b = rk c
    · cases b <;> cases c <;> first | exact tr_other rfl rfl rfl | (exfalso; revert h; simp [rk]; done)
    · exact tr_apart h
  | .lst x, b, c => by
    by_cases h : rk (.lst x) = rk b ∧ rk b = rk c
    · cases b <;> cases c <;> first | exact tr_other rfl rfl rfl | (exfalso; revert h; simp [rk]; done)
    · exact tr_apart h
  | .ref x, b, c => by
    by_cases h : rk (.ref x) = rk b ∧ rk b = rk c
    · cases b <;> cases c <;> first | exact tr_other rfl rfl rfl | (exfalso; revert h; simp [rk]; done)
    · exact tr_apart h
  | .scr x, b, c => by
    by_cases h : rk (.scr x) = rk b ∧ rk b = rk c
    · cases b <;> cases c <;> first | exact tr_other rfl rfl rfl | (exfalso; revert h; simp [rk]; done)
    · exact tr_apart h
  | .exc x y z, b, c => by
    by_cases h : rk (.exc x y z) = rk b ∧ rk b = rk c
    · cases b <;> cases c <;> first | exact tr_other rfl rfl rfl | (exfalso; revert h; simp [rk]; done)
    · exact tr_apart h
termination_by structural a => a
theorem kCL_tr : ∀ a b c : List AV, TR (kCL a b) (kCL b c) (kCL a c)
  | [], b, c => nil_tr b c
  | x :: xs, b, c => by
    cases b with
    | nil => cases c with
      | nil => exact ⟨fun h => (by cases h), fun _ => rfl, fun h => (by cases h), fun _ h => (by cases h)⟩
      | cons z zs => exact ⟨fun h => (by cases h), fun h => (by cases h), fun h => (by cases h), fun _ h => (by cases h)⟩
    | cons y ys => cases c with
      | nil =>
        refine ⟨fun _ => rfl, fun h => (by cases h), fun _ h => (by cases h), fun _ _ => rfl⟩
      | cons z zs =>
        rw [kCL_cons, kCL_cons, kCL_cons]
        exact (kC_tr x y z).lex (kCL_tr xs ys zs)
termination_by structural a => a
end
theorem isLt_iff {o : Ordering} : isLt o = true ↔ o = .lt := by cases o <;> simp [isLt]
theorem isLt_no {o : Ordering} : isLt o = false ↔ o ≠ .lt := by cases o <;> simp [isLt]
theorem kLt_swo : SrtO.Swo kLt := by
  refine ⟨fun x y h => ?_, fun x y z h1 h2 => ?_⟩
  · have h := isLt_iff.mp h
    refine isLt_no.mpr ?_
    rw [kC_swap x y, h]; simp
  · have h1 := isLt_no.mp h1
    have h2 := isLt_no.mp h2
    refine isLt_no.mpr fun h3 => ?_
    -- z < x, not y < x, not z < y
    obtain ⟨t1, t2, t3, t4⟩ := kC_tr z y x
    have e1 : kC z y = .gt ∨ kC z y = .eq := by cases e : kC z y with
      | lt => exact absurd e h2
      | eq => exact .inr rfl
      | gt => exact .inl rfl
    have e2 : kC y x = .gt ∨ kC y x = .eq := by cases e : kC y x with
      | lt => exact absurd e h1
      | eq => exact .inr rfl
      | gt => exact .inl rfl
    rcases e1 with e1 | e1
    · rcases e2 with e2 | e2
      · have := t4 e1 e2; rw [this] at h3; cases h3
      · have := t2 e2; rw [this, e1] at h3; cases h3
    · have := t1 e1; rw [this] at h3
      rcases e2 with e2 | e2
      · rw [e2] at h3; cases h3
      · rw [e2] at h3; cases h3

/-! ### insertion is that sort -/
section
variable {α : Type} {lt : α → α → Bool}
theorem insBy_perm (x : α) : ∀ l : List α, (insBy lt x l).Perm (x :: l)
  | [] => List.Perm.refl _
  | y :: l => by
    unfold insBy
    split
    · exact (List.Perm.cons y (insBy_perm x l)).trans (List.Perm.swap x y l)
    · exact List.Perm.refl _
theorem insBy_srtd (O : SrtO.Swo lt) (x : α) : ∀ {l : List α}, SrtO.Srtd lt l → SrtO.Srtd lt (insBy lt x l)
  | [], _ => List.pairwise_singleton _ _
  | y :: l, h => by
    unfold insBy
    obtain ⟨h1, h2⟩ := List.pairwise_cons.mp h
    split
    · rename_i q
      refine List.pairwise_cons.mpr ⟨fun z hz => ?_, insBy_srtd O x h2⟩
      rcases List.mem_cons.mp ((insBy_perm x l).mem_iff.mp hz) with e | hz
      · rw [e]; exact O.asym _ _ q
      · exact h1 z hz
    · rename_i q
      have q : lt y x = false := by simpa using q
      refine List.pairwise_cons.mpr ⟨fun z hz => ?_, h⟩
      rcases List.mem_cons.mp hz with e | hz
      · rw [e]; exact q
      · exact O.tr x y z q (h1 z hz)
theorem insBy_cls (O : SrtO.Swo lt) (x z : α) : ∀ l : List α, (insBy lt x l).filter (SrtO.eqv lt z) = (x :: l).filter (SrtO.eqv lt z)
  | [] => rfl
  | y :: l => by
    unfold insBy
    split
    · rename_i q
      have ih := insBy_cls O x z l
      rw [List.filter_cons, ih]
      by_cases hy : SrtO.eqv lt z y = true
      · have hx : ¬ SrtO.eqv lt z x = true := fun hx => by
          obtain ⟨a1, a2⟩ := SrtO.eqv_iff.mp hx
          obtain ⟨b1, b2⟩ := SrtO.eqv_iff.mp hy
          have := O.tr x z y (by assumption) (by assumption)
          rw [q] at this; cases this
        rw [if_pos hy, List.filter_cons_of_neg hx, List.filter_cons_of_neg hx, List.filter_cons_of_pos hy]
      · rw [if_neg hy]
        by_cases hx : SrtO.eqv lt z x = true
        · rw [List.filter_cons_of_pos hx, List.filter_cons_of_pos hx, List.filter_cons_of_neg hy]
        · rw [List.filter_cons_of_neg hx, List.filter_cons_of_neg hx, List.filter_cons_of_neg hy]
    · rfl
theorem sortBy_srtd (O : SrtO.Swo lt) : ∀ l : List α, SrtO.Srtd lt (sortBy lt l)
  | [] => List.Pairwise.nil
  | x :: l => insBy_srtd O x (sortBy_srtd O l)
theorem sortBy_stb (O : SrtO.Swo lt) : ∀ l : List α, SrtO.Stb lt (sortBy lt l) l
  | [] => SrtO.Stb.refl _
  | x :: l => by
    have ih := sortBy_stb O l
    refine ⟨(insBy_perm x _).trans (List.Perm.cons x ih.perm), fun z => ?_⟩
    show (insBy lt x (sortBy lt l)).filter _ = _
    rw [insBy_cls O, List.filter_cons, List.filter_cons, ih.cls z]
theorem sort_uniq (O : SrtO.Swo lt) {l m : List α} (h1 : SrtO.Srtd lt m) (h2 : SrtO.Stb lt m l) : m = sortBy lt l :=
  SrtO.stb_uniq O h1 (sortBy_srtd O l) (h2.trans ⟨(sortBy_stb O l).perm.symm, fun x => ((sortBy_stb O l).cls x).symm⟩)
end
end EV

set_option Elab.async false
set_option linter.all false
set_option maxRecDepth 100000
set_option maxHeartbeats 1000000
namespace EV
open PySem PySem.Spec PyProof.Rows L2 PySem.SeqAt
variable {K : PySem.W.Frag}

/-! ### things that are sorted, in the heap -/
mutual
inductive SkIs (h : Heap) : AV → Value → Prop
  | int (i : Int) (t : Tok) : SkIs h (.int i) (.int i t)
  | str (s : List Nat) (t : Tok) : SkIs h (.str s) (.str (mkS s) t)
  | tup {a : Addr} {o : Obj} {vs : Array Value} {n : Nat} {xs : List AV} : h.get? a = some o → o.cls = .type "tuple" → o.data = .seq vs n → SkAll h xs vs.toList → SkIs h (.tup xs) (.ref a)
inductive SkAll (h : Heap) : List AV → List Value → Prop
  | nil : SkAll h [] []
  | cons {x : AV} {v : Value} {xs : List AV} {vs : List Value} : SkIs h x v → SkAll h xs vs → SkAll h (x :: xs) (v :: vs)
end
mutual
def nk : AV → NestedKey
  | .int i => .num i
  | .str s => .text (mkS s)
  | .tup l => .tup (nkL l)
  | _ => .none
termination_by structural x => x
def nkL : List AV → List NestedKey
  | [] => []
  | x :: xs => nk x :: nkL xs
termination_by structural x => x
end
mutual
theorem SkIs.nested {h : Heap} : ∀ {x : AV} {v : Value}, SkIs h x v → NestedIs h (nk x) v
  | _, _, .int i t => .int i t
  | _, _, .str s t => .text _ t
  | _, _, .tup e c d l => .tup e c d l.nested
termination_by structural x v r => r
theorem SkAll.nested {h : Heap} : ∀ {x : List AV} {v : List Value}, SkAll h x v → NestedAll h (nkL x) v
  | _, _, .nil => .nil
  | _, _, .cons r t => .cons r.nested t.nested
termination_by structural x v r => r
end
theorem SkAll.length {h : Heap} : ∀ {x : List AV} {v : List Value}, SkAll h x v → x.length = v.length
  | _, _, .nil => rfl
  | _, _, .cons _ t => congrArg (· + 1) t.length
theorem SkAll.get {h : Heap} : ∀ {xs : List AV} {vs : List Value} {i : Nat} {v : Value}, SkAll h xs vs → vs[i]? = some v → ∃ x, xs[i]? = some x ∧ SkIs h x v
  | _, _, _, _, .nil, e => by simp at e
  | _, _, 0, _, .cons r _, e => by simp at e; subst e; exact ⟨_, rfl, r⟩
  | _, _, i + 1, _, .cons _ t, e => by
    obtain ⟨x, e1, e2⟩ := t.get (i := i) (by simpa using e)
    exact ⟨x, by simpa using e1, e2⟩
mutual
theorem SkIs.keep {h h' : Heap} (k : ∀ a o vs n, h.get? a = some o → o.data = .seq vs n → o.cls = .type "tuple" → h'.get? a = some o) : ∀ {x : AV} {v : Value}, SkIs h x v → SkIs h' x v
  | _, _, .int i t => .int i t
  | _, _, .str s t => .str s t
  | _, _, .tup e c d l => .tup (k _ _ _ _ e d c) c d (l.keep k)
termination_by structural x v r => r
theorem SkAll.keep {h h' : Heap} (k : ∀ a o vs n, h.get? a = some o → o.data = .seq vs n → o.cls = .type "tuple" → h'.get? a = some o) : ∀ {x : List AV} {v : List Value}, SkAll h x v → SkAll h' x v
  | _, _, .nil => .nil
  | _, _, .cons r t => .cons (r.keep k) (t.keep k)
termination_by structural x v r => r
end
mutual
theorem SkIs.inj {h : Heap} : ∀ {x y : AV} {v : Value}, SkIs h x v → SkIs h y v → x = y
  | _, _, _, .int i t, q => by cases q; rfl
  | _, _, _, .str s t, q => by
    generalize e : Value.str (mkS s) t = u at q
    cases q with
    | str s' t' => injection e with e1 _; injection e1 with e2; rw [List.toArray_inj e2]
    | _ => cases e
  | _, _, _, .tup e c d l, q => by
    cases q with
    | tup e' c' d' l' =>
      rw [e] at e'; cases e'
      rw [d] at d'; cases d'
      rw [l.inj l']
termination_by structural x y v r => r
theorem SkAll.inj {h : Heap} : ∀ {x y : List AV} {v : List Value}, SkAll h x v → SkAll h y v → x = y
  | _, _, _, .nil, q => by cases q; rfl
  | _, _, _, .cons r t, q => by
    cases q with
    | cons r' t' => rw [r.inj r', t.inj t']
termination_by structural x y v r => r
end
/-! equality is that of the order -/
theorem ordN_eq {i j : Nat} : ordN i j = .eq ↔ i = j := by
  rcases ordN_cases i j with ⟨e, h⟩ | ⟨e, h⟩ | ⟨e, h⟩ <;> rw [e] <;> simp <;> omega
theorem ordI_eq {i j : Int} : ordI i j = .eq ↔ i = j := by
  rcases ordI_cases i j with ⟨e, h⟩ | ⟨e, h⟩ | ⟨e, h⟩ <;> rw [e] <;> simp <;> omega
theorem lexO_eq {a b : Ordering} : lexO a b = .eq ↔ a = .eq ∧ b = .eq := by cases a <;> simp [lexO]
theorem ordS_eq : ∀ {s t : List Nat}, ordS s t = .eq ↔ s = t
  | [], [] => by simp [ordS]
  | [], _ :: _ => by simp [ordS]
  | _ :: _, [] => by simp [ordS]
  | x :: xs, y :: ys => by rw [ordS_cons, lexO_eq, ordN_eq, ordS_eq]; simp
mutual
theorem kC_eq {h : Heap} : ∀ {x y : AV} {u v : Value}, SkIs h x u → SkIs h y v → (kC x y = .eq ↔ nk x = nk y)
  | _, _, _, _, .int i t, q => by
    cases q with
    | int j _ => simp only [kC, nk, ordI_eq]; simp
    | str _ _ => simp [kC, nk, rk, ordN]
    | tup _ _ _ _ => simp [kC, nk, rk, ordN]
  | _, _, _, _, .str s t, q => by
    cases q with
    | int j _ => simp [kC, nk, rk, ordN]
    | str s' _ => simp only [kC, nk, ordS_eq]; simp
    | tup _ _ _ _ => simp [kC, nk, rk, ordN]
  | _, _, _, _, .tup e c d l, q => by
    cases q with
    | int j _ => simp [kC, nk, rk, ordN]
    | str s' _ => simp [kC, nk, rk, ordN]
    | tup e' c' d' l' => simp only [kC, nk]; rw [kCL_eq l l']; simp
termination_by structural x y u v r => r
theorem kCL_eq {h : Heap} : ∀ {x y : List AV} {u v : List Value}, SkAll h x u → SkAll h y v → (kCL x y = .eq ↔ nkL x = nkL y)
  | _, _, _, _, .nil, q => by
    cases q with
    | nil => simp [kCL, nkL]
    | cons _ _ => simp [kCL, nkL]
  | _, _, _, _, .cons r t, q => by
    cases q with
    | nil => simp [kCL, nkL]
    | cons r' t' => rw [kCL_cons, lexO_eq, kC_eq r r', kCL_eq t t']; simp [nkL]
termination_by structural x y u v r => r
end
/-! depth -/
theorem nk_depth : ∀ (n : Nat) (x : AV), skOk n x = true → (nk x).depth ≤ n := by
  intro n
  induction n with
  | zero => intro x h; cases x <;> simp [skOk] at h <;> simp [nk, NestedKey.depth]
  | succ n ih =>
    intro x h
    cases x with
    | tup l =>
      simp only [skOk] at h
      have go : ∀ l : List AV, l.all (skOk n) = true → NestedKey.depthAll (nkL l) ≤ n := by
        intro l
        induction l with
        | nil => intro _; simp [nkL, NestedKey.depthAll]
        | cons y ys ihl =>
          intro h
          simp only [List.all_cons, Bool.and_eq_true] at h
          have h1 := ih y h.1
          have h2 := ihl h.2
          simp only [nkL, NestedKey.depthAll]
          omega
      have := go l h
      simp only [nk, NestedKey.depth]
      omega
    | int _ => simp [nk, NestedKey.depth]
    | str _ => simp [nk, NestedKey.depth]
    | _ => simp [skOk] at h
theorem eqAt_sk {A : Around} {s : Shared} {n : Nat} {x y : AV} {u v : Value} (hx : SkIs s.heap x u) (hy : SkIs s.heap y v) (ox : skOk n x = true) (hu : A.units + n < cLine) : EqAt A s u v (kC x y == .eq) := by
  refine (eqAt_key (nk x) (nk y) A s u v hx.nested hy.nested ?_).cast ?_
  · have := nk_depth n x ox
    omega
  · rw [← NestedKey.decide_eq]
    by_cases e : nk x = nk y
    · rw [decide_eq_true e, (kC_eq hx hy).mpr e]; rfl
    · rw [decide_eq_false e]
      have : ¬ kC x y = .eq := fun q => e ((kC_eq hx hy).mp q)
      cases q : kC x y with
      | eq => exact absurd q this
      | _ => rfl
end EV

set_option Elab.async false
set_option linter.all false
set_option maxRecDepth 100000
set_option maxHeartbeats 1000000
namespace EV
open PySem PySem.Spec PyProof.Rows L2 PySem.SeqAt
variable {K : PySem.W.Frag}

theorem ordS_lt : ∀ {s t : List Nat}, ordS s t = .lt ↔ s < t
  | [], [] => by simp [ordS]
  | [], _ :: _ => by simp [ordS]
  | _ :: _, [] => by simp [ordS]
  | x :: xs, y :: ys => by
    rw [ordS_cons, List.cons_lt_cons_iff, ← ordS_lt (s := xs) (t := ys)]
    rcases ordN_cases x y with ⟨e, h⟩ | ⟨e, h⟩ | ⟨e, h⟩ <;> rw [e] <;> simp [lexO] <;> first | omega | (intro q; omega) | (intro _ q; omega) | (subst h; simp)
theorem dec_str (s t : List Nat) : decide (s < t) = isLt (ordS s t) := by
  by_cases h : s < t
  · rw [decide_eq_true h, isLt_iff.mpr (ordS_lt.mpr h)]
  · rw [decide_eq_false h, isLt_no.mpr fun e => h (ordS_lt.mp e)]
theorem dec_int (i j : Int) : decide (i < j) = isLt (ordI i j) := by
  rcases ordI_cases i j with ⟨e, h⟩ | ⟨e, h⟩ | ⟨e, h⟩ <;> rw [e] <;> simp [isLt] <;> first | omega | skip
theorem firstLt_map (e r : Nat → Bool) (fin : Bool) : ∀ l : List Nat, firstLt e r fin (l.map Nat.succ) = firstLt (fun j => e (j + 1)) (fun j => r (j + 1)) fin l
  | [] => rfl
  | j :: l => by
    show (if e (j + 1) = true then firstLt e r fin (l.map Nat.succ) else r (j + 1)) = (if e (j + 1) = true then _ else r (j + 1))
    rw [firstLt_map e r fin l]
theorem firstLt_kC : ∀ xs ys : List AV, firstLt (fun j => kC (xs.getD j .non) (ys.getD j .non) == .eq) (fun j => isLt (kC (xs.getD j .non) (ys.getD j .non))) (decide (xs.length < ys.length)) (List.range (min xs.length ys.length)) = isLt (kCL xs ys)
  | [], [] => rfl
  | [], _ :: _ => by simp [firstLt, kCL, isLt]
  | _ :: _, [] => by simp [firstLt, kCL, isLt]
  | x :: xs, y :: ys => by
    have e : min (x :: xs).length (y :: ys).length = min xs.length ys.length + 1 := by simp only [List.length_cons]; omega
    rw [e, List.range_succ_eq_map, kCL_cons]
    have ih := firstLt_kC xs ys
    have d : decide ((x :: xs).length < (y :: ys).length) = decide (xs.length < ys.length) := by simp
    rw [d]
    show (if (kC x y == .eq) = true then firstLt _ _ _ ((List.range (min xs.length ys.length)).map Nat.succ) else isLt (kC x y)) = _
    rw [firstLt_map]
    have ih' : firstLt (fun j => kC ((x :: xs).getD (j + 1) .non) ((y :: ys).getD (j + 1) .non) == .eq) (fun j => isLt (kC ((x :: xs).getD (j + 1) .non) ((y :: ys).getD (j + 1) .non))) (decide (xs.length < ys.length)) (List.range (min xs.length ys.length)) = isLt (kCL xs ys) := ih
    rw [ih']
    cases kC x y <;> rfl
theorem cmpL_at : ∀ (xs ys : List AV), cmpL xs ys = true → ∀ j, j < xs.length → j < ys.length → cmpb (xs.getD j .non) (ys.getD j .non) = true
  | [], ys, _, j, h, _ => by simp at h
  | x :: xs, [], _, j, _, h => by simp at h
  | x :: xs, y :: ys, h, j, h1, h2 => by
    simp only [cmpL, Bool.and_eq_true] at h
    cases j with
    | zero => exact h.1
    | succ j => exact cmpL_at xs ys h.2 j (by simpa using h1) (by simpa using h2)

/-! a < b, as far as it is asked -/
section
variable {A : Around} {s : Shared}
theorem SkAll.getD {h : Heap} {xs : List AV} {vs : Array Value} (l : SkAll h xs vs.toList) {j : Nat} (hj : j < vs.size) : SkIs h (xs.getD j .non) vs[j] := by
  obtain ⟨x, e, r⟩ := l.get (i := j) (v := vs[j]) (by simp [hj])
  have : xs.getD j .non = x := by simp [List.getD, e]
  rw [this]; exact r
theorem all_getD {n : Nat} {xs : List AV} (h : xs.all (skOk n) = true) {j : Nat} (hj : j < xs.length) : skOk n (xs.getD j .non) = true := by
  have : xs.getD j .non ∈ xs := by simp [List.getD, hj]
  exact List.all_eq_true.mp h _ this
theorem rcLt_sk : ∀ (n : Nat) (A : Around) {s : Shared} {x y : AV} {u v : Value}, SkIs s.heap x u → SkIs s.heap y v → skOk n x = true → skOk n y = true → cmpb x y = true → A.units + n < cLine → RcLt A s u v (kLt x y) := by
  intro n
  induction n with
  | zero =>
    intro A s x y u v hx hy ox oy c hu
    cases hx with
    | int i t => cases hy with
      | int j t' => exact fun prog w E Q h => PyProof.Rows.lt_int (by rw [dec_int]; exact h)
      | _ => simp [cmpb] at c
    | str a t => cases hy with
      | str b t' => exact fun prog w E Q h => PyProof.Rows.lt_str (by rw [dec_str]; exact h)
      | _ => simp [cmpb] at c
    | tup e1 c1 d1 l1 => simp [skOk] at ox
  | succ n ih =>
    intro A s x y u v hx hy ox oy c hu
    cases hx with
    | int i t => cases hy with
      | int j t' => exact fun prog w E Q h => PyProof.Rows.lt_int (by rw [dec_int]; exact h)
      | _ => simp [cmpb] at c
    | str a t => cases hy with
      | str b t' => exact fun prog w E Q h => PyProof.Rows.lt_str (by rw [dec_str]; exact h)
      | _ => simp [cmpb] at c
    | tup e1 c1 d1 l1 => cases hy with
      | tup e2 c2 d2 l2 =>
        rename_i a o vs m xs a' o' vs' m' ys
        simp only [skOk] at ox oy
        simp only [cmpb] at c
        have z1 : xs.length = vs.size := by rw [l1.length]; simp
        have z2 : ys.length = vs'.size := by rw [l2.length]; simp
        have q := RcLt.tuples (A := A) (s := s) (e := fun j => kC (xs.getD j .non) (ys.getD j .non) == .eq) (r := fun j => isLt (kC (xs.getD j .non) (ys.getD j .non))) ⟨o, e1, c1, m, d1⟩ ⟨o', e2, c2, m', d2⟩ (by omega)
          (fun j h1 h2 => eqAt_sk (l1.getD h1) (l2.getD h2) (all_getD ox (by omega)) (by show A.units + 1 + n < _; omega))
          (fun j h1 h2 _ => ih A.in1 (l1.getD h1) (l2.getD h2) (all_getD ox (by omega)) (all_getD oy (by omega)) (cmpL_at xs ys c j (by omega) (by omega)) (by show A.units + 1 + n < _; omega))
        rw [← z1, ← z2, firstLt_kC] at q
        exact q
      | _ => simp [cmpb] at c
/-! ### what a sort asks -/
variable {prog : Program} {w : World} {E : Value → Shared → Prop}
theorem oneLt_sk {n : Nat} (c : Bool) {x y : AV} {u v : Value} {Q : Bool → Shared → Prop} (hx : SkIs s.heap x u) (hy : SkIs s.heap y v) (ox : skOk n x = true) (oy : skOk n y = true) (cb : cmpb x y = true) (hu : A.units + n < cLine) (h : Q (kLt x y) s) :
    wpAny (model prog w) A (oneLt' c u v) Q E s := by
  cases c with
  | false => exact PySem.W.kat_one _ _ (rcLt_sk n A hx hy ox oy cb hu prog w _ _ h)
  | true =>
    cases hx with
    | int i t => cases hy with
      | int j t' => exact oneLt_int (by rw [dec_int]; exact h)
      | _ => simp [cmpb] at cb
    | str a t => cases hy with
      | str b t' => exact oneLt_str (by rw [dec_str]; exact h)
      | _ => simp [cmpb] at cb
    | tup e1 c1 d1 l1 => cases hy with
      | tup e2 c2 d2 l2 =>
        rename_i a o vs m xs a' o' vs' m' ys
        cases n with
        | zero => simp [skOk] at ox
        | succ n =>
          simp only [skOk] at ox oy
          simp only [cmpb] at cb
          have z1 : xs.length = vs.size := by rw [l1.length]; simp
          have z2 : ys.length = vs'.size := by rw [l2.length]; simp
          rw [oneLt'_eq]
          simp only [if_true]
          refine wpAny_bind (wpAny_cRoomFor (by omega) ?_)
          obtain ⟨cls, dd, data, sl⟩ := o
          obtain ⟨cls2, dd2, data2, sl2⟩ := o'
          simp only at c1 d1 c2 d2
          subst c1 d1 c2 d2
          have fin : kLt (.tup xs) (.tup ys) = firstLt (fun j => kC (xs.getD j .non) (ys.getD j .non) == .eq) (fun j => isLt (kC (xs.getD j .non) (ys.getD j .non))) (decide (vs.size < vs'.size)) (List.range (min vs.size vs'.size)) := by
            rw [← z1, ← z2, firstLt_kC]; rfl
          refine wpAny_bind (wpAny_callSpecialIfBound?_slot (T := "tuple") ⟨_, e1, rfl⟩ F.slot_tuple_lt (call_meets F.slot_tuple_lt ⟨_, e1, rfl⟩ F.entry_tuple_lt (F.args_tuple_lt_2 _ _)
            (tuple_ltAt a a' vs vs' m m' dd dd2 sl sl2 (fun j => kC (xs.getD j .non) (ys.getD j .non) == .eq) (fun j => isLt (kC (xs.getD j .non) (ys.getD j .non)))) ⟨e1, e2,
              (fun j h1 h2 => eqAt_sk (l1.getD h1) (l2.getD h2) (all_getD ox (by omega)) (by show A.units + 1 + n < _; omega)),
              (fun j h1 h2 _ => rcLt_sk n A.in1 (l1.getD h1) (l2.getD h2) (all_getD ox (by omega)) (all_getD oy (by omega)) (cmpL_at xs ys cb j (by omega) (by omega)) (by show A.units + 1 + n < _; omega)), ?_⟩))
          rw [← fin]
          exact wpAny_truthy_bool h
      | _ => simp [cmpb] at cb
theorem katLex_sk {n : Nat} {b : Bool} {Q : Bool → Shared → Prop} : ∀ {xs ys : List AV} {us vs : List Value} (i : Nat), SkAll s.heap xs us → SkAll s.heap ys vs → xs.all (skOk n) = true → ys.all (skOk n) = true → cmpL xs ys = true → A.units + n < cLine → Q (isLt (kCL xs ys)) s →
    ∀ fin, (xs.length = 0 ∨ ys.length = 0 ∨ True) → fin = decide (us.length < vs.length) → PySem.W.KatLex prog w A b fin Q (us.zip vs) i s
  | _, _, _, _, i, .nil, .nil, _, _, _, _, h, fin, _, e => by subst e; exact PySem.W.kat_nil h
  | _, _, _, _, i, .nil, .cons _ _, _, _, _, _, h, fin, _, e => by subst e; exact PySem.W.kat_nil (by simpa [kCL, isLt] using h)
  | _, _, _, _, i, .cons _ _, .nil, _, _, _, _, h, fin, _, e => by subst e; exact PySem.W.kat_nil (by simpa [kCL, isLt] using h)
  | x :: xs, y :: ys, u :: us, v :: vs, i, .cons r1 t1, .cons r2 t2, o1, o2, c, hu, h, fin, _, e => by
    simp only [List.all_cons, Bool.and_eq_true] at o1 o2
    simp only [cmpL, Bool.and_eq_true] at c
    rw [kCL_cons] at h
    refine PySem.W.kat_cons (eqAt_sk r1 r2 o1.1 hu prog w _ _ ?_)
    refine PySem.W.kat_go (fun e1 => ?_) (fun e1 => ?_)
    · have e1 : kC x y = .eq := by cases q : kC x y <;> rw [q] at e1 <;> first | rfl | cases e1
      rw [e1] at h
      exact PySem.W.kat_yes (katLex_sk (i + 1) t1 t2 o1.2 o2.2 c.2 hu h fin (.inr (.inr trivial)) (by rw [e]; simp))
    · refine PySem.W.kat_no (oneLt_sk _ r1 r2 o1.1 o2.1 c.1 hu ?_)
      have e2 : isLt (lexO (kC x y) (kCL xs ys)) = kLt x y := by
        unfold kLt
        cases q : kC x y <;> rw [q] at e1 <;> first | rfl | cases e1
      rw [← e2]; exact h
theorem keyLt_sk {n : Nat} {κ : SortKind} (hκ : κ = oneType' ∨ κ = general' ∨ ∃ b, κ = tuples' b) {x y : AV} {u v : Value} {Q : Bool → Shared → Prop} (hx : SkIs s.heap x u) (hy : SkIs s.heap y v) (ht : (∃ b, κ = tuples' b) → ∃ l m, x = .tup l ∧ y = .tup m) (ox : skOk n x = true) (oy : skOk n y = true) (cb : cmpb x y = true) (hu : A.units + n < cLine) (h : Q (kLt x y) s) :
    wpAny (model prog w) A (keyLt' κ u v) Q E s := by
  rcases hκ with rfl | rfl | ⟨b, rfl⟩
  · exact oneLt_sk true hx hy ox oy cb hu h
  · exact oneLt_sk false hx hy ox oy cb hu h
  · obtain ⟨l, m, rfl, rfl⟩ := ht ⟨b, rfl⟩
    cases hx with
    | tup e1 c1 d1 l1 => cases hy with
      | tup e2 c2 d2 l2 =>
        cases n with
        | zero => simp [skOk] at ox
        | succ n =>
          simp only [skOk] at ox oy
          simp only [cmpb] at cb
          exact PySem.W.kat_lt e1 d1 e2 d2 (katLex_sk 0 l1 l2 ox oy cb (by omega) h _ (.inr (.inr trivial)) (by simp))
end
end EV

set_option Elab.async false
set_option linter.all false
set_option maxRecDepth 100000
set_option maxHeartbeats 1000000
namespace EV
open PySem PySem.Spec PyProof.Rows L2 PySem.SeqAt
variable {K : PySem.W.Frag}

section
variable {M : Model} {s : Shared}
theorem mapM_ex {β : Type} {f : Value → Sem β} {P : Value → β → Prop} : ∀ (vs : List Value), (∀ v ∈ vs, ∃ r, P v r ∧ ∀ (A : Around) (Q : β → Shared → Prop) (E : Value → Shared → Prop), Q r s → wpAny M A (f v) Q E s) →
    ∃ rs : List β, rs.length = vs.length ∧ (∀ r ∈ rs, ∃ v ∈ vs, P v r) ∧ ∀ (A : Around) (Q : List β → Shared → Prop) (E : Value → Shared → Prop), Q rs s → wpAny M A (vs.mapM f) Q E s
  | [], _ => ⟨[], rfl, fun r h => (by cases h), fun A Q E h => by rw [List.mapM_nil]; exact wpAny_pure h⟩
  | v :: vs, h => by
    obtain ⟨r, p, q⟩ := h v (List.mem_cons_self ..)
    obtain ⟨rs, l, ps, qs⟩ := mapM_ex vs fun u m => h u (List.mem_cons_of_mem _ m)
    refine ⟨r :: rs, by simp [l], fun r' m => ?_, fun A Q E hq => ?_⟩
    · rcases List.mem_cons.mp m with e | m
      · exact ⟨v, List.mem_cons_self .., e ▸ p⟩
      · obtain ⟨u, m', p'⟩ := ps r' m
        exact ⟨u, List.mem_cons_of_mem _ m', p'⟩
    · rw [List.mapM_cons]
      exact wpAny_bind (q A _ E (wpAny_bind (qs A (fun bs s' => wpAny M A (pure (r :: bs)) Q E s') E (wpAny_pure hq))))
theorem SkAll.mem {h : Heap} : ∀ {xs : List AV} {vs : List Value} {v : Value}, SkAll h xs vs → v ∈ vs → ∃ x ∈ xs, SkIs h x v
  | _, _, _, .nil, m => by cases m
  | _, _, _, .cons r t, m => by
    rcases List.mem_cons.mp m with e | m
    · exact ⟨_, List.mem_cons_self .., e ▸ r⟩
    · obtain ⟨x, m', q⟩ := t.mem m
      exact ⟨x, List.mem_cons_of_mem _ m', q⟩
theorem type_int (i : Int) (t : Tok) {h : Heap} : PySem.W.Looks M h (typeOf (.int i t)) (.type "int") := PySem.W.Looks.now
theorem type_str (x : Str) (t : Tok) {h : Heap} : PySem.W.Looks M h (typeOf (.str x t)) (.type "str") := PySem.W.Looks.now
theorem type_ref {a : Addr} {o : Obj} {h : Heap} (e : h.get? a = some o) : PySem.W.Looks M h (typeOf (.ref a)) o.cls := (PySem.W.Looks.ld e).andThen .now
/-- the type of such a thing -/
theorem SkIs.type {x : AV} {v : Value} (r : SkIs s.heap x v) : ∃ T, PySem.W.Looks M s.heap (typeOf v) T := by
  cases r with
  | int i t => exact ⟨_, type_int i t⟩
  | str i t => exact ⟨_, type_str _ t⟩
  | tup e c d l => exact ⟨_, type_ref e⟩
theorem oneType_ex (vs : List Value) (h : ∀ v ∈ vs, ∃ x, SkIs s.heap x v) : ∃ o : Option Value, ∀ (A : Around) (Q : Option Value → Shared → Prop) (E : Value → Shared → Prop), Q o s → wpAny M A (oneTypeOnly' vs.toArray) Q E s := by
  obtain ⟨ts, l, _, q⟩ := mapM_ex (M := M) (s := s) (f := typeOf) (P := fun _ _ => True) vs fun v m => by
    obtain ⟨x, r⟩ := h v m
    obtain ⟨T, hT⟩ := r.type (M := M)
    exact ⟨T, trivial, fun A Q E hq => hT.here hq⟩
  cases e0 : ts[0]? with
  | none =>
    refine ⟨none, fun A Q E hq => ?_⟩
    rw [oneTypeOnly'_eq, List.mapM_toArray, map_eq_pure_bind]
    refine wpAny_bind (wpAny_bind (q A _ E (wpAny_pure ?_)))
    have e0' : ts.toArray[0]? = none := by simpa using e0
    rw [e0']
    exact wpAny_pure hq
  | some t =>
    refine ⟨if ts.toArray.all (· == t) then some t else none, fun A Q E hq => ?_⟩
    rw [oneTypeOnly'_eq, List.mapM_toArray, map_eq_pure_bind]
    refine wpAny_bind (wpAny_bind (q A _ E (wpAny_pure ?_)))
    have e0' : ts.toArray[0]? = some t := by simpa using e0
    rw [e0']
    exact wpAny_pure hq
theorem kind_sk {xs : List AV} {vs : List Value} (l : SkAll s.heap xs vs) (c : ∀ x ∈ xs, ∀ y ∈ xs, cmpb x y = true) (h2 : 2 ≤ vs.length) :
    ∃ κ, (κ = oneType' ∨ κ = general' ∨ ∃ b, κ = tuples' b) ∧ ((∃ b, κ = tuples' b) → ∀ x ∈ xs, ∃ l, x = .tup l) ∧ ∀ (A : Around) (Q : SortKind → Shared → Prop) (E : Value → Shared → Prop), Q κ s → wpAny M A (keyKind' vs.toArray) Q E s := by
  match xs, vs, l, h2 with
  | [], [], .nil, h2 => simp at h2
  | x :: xs, v :: vs, .cons r t, h2 =>
    have all : ∀ u ∈ v :: vs, ∃ y, cmpb x y = true ∧ SkIs s.heap y u := fun u m => by
      obtain ⟨y, m', q⟩ := (SkAll.cons r t).mem m
      exact ⟨y, c x (List.mem_cons_self ..) y m', q⟩
    cases x with
    | int i =>
      refine ⟨oneType', .inl rfl, fun ⟨b, e⟩ => ?_, fun A Q E hq => PySem.W.kas_kind (T := .type "int") h2 (fun u m => ?_) (by first | decide +kernel | rfl | decide) (by first | decide +kernel | rfl | decide) hq⟩
      · exact absurd e (by intro z; cases z)
      · obtain ⟨y, c1, q⟩ := all u m
        cases q with
        | int j t => exact type_int j t
        | _ => simp [cmpb] at c1
    | str i =>
      refine ⟨oneType', .inl rfl, fun ⟨b, e⟩ => ?_, fun A Q E hq => PySem.W.kas_kind (T := .type "str") h2 (fun u m => ?_) (by first | decide +kernel | rfl | decide) (by first | decide +kernel | rfl | decide) hq⟩
      · exact absurd e (by intro z; cases z)
      · obtain ⟨y, c1, q⟩ := all u m
        cases q with
        | str j t => exact type_str _ t
        | _ => simp [cmpb] at c1
    | tup l0 =>
      have tups : ∀ y ∈ AV.tup l0 :: xs, ∃ l, y = .tup l := fun y m => by
        have := c _ (List.mem_cons_self ..) y m
        cases y with
        | tup l => exact ⟨l, rfl⟩
        | _ => simp [cmpb] at this
      obtain ⟨fs, lf, pf, qf⟩ := mapM_ex (M := M) (s := s) (f := firstOfTuple') (P := fun _ r => ∀ f, r = some f → ∃ y, SkIs s.heap y f) (v :: vs) fun u m => by
        obtain ⟨y, c1, q⟩ := all u m
        cases q with
        | tup e c d l =>
          rename_i a o ws n ys
          refine ⟨ws[0]?, fun f hf => ?_, fun A Q E hq => ?_⟩
          · obtain ⟨z, _, hz⟩ := l.get (i := 0) (v := f) (by simpa using hf)
            exact ⟨z, hz⟩
          · rw [PySem.W.kas_first_eq]
            refine wpAny_bind ((type_ref e).here ?_)
            rw [c, if_neg (by first | decide | simp)]
            exact wpAny_bind (listItems_at e d (wpAny_pure hq))
        | _ => simp [cmpb] at c1
      have start : ∀ (A : Around) (Q : SortKind → Shared → Prop) (E : Value → Shared → Prop), wpAny M A (do
          if fs.toArray.all (·.isSome) then
            rule "list.sort.keys-are-tuples"
            return tuples' ((← oneTypeOnly' (fs.toArray.filterMap id)).any (· != .type "tuple"))
          if (fs.toArray[0]?.bind id).isSome then return general'
          return if (← oneTypeOnly' (v :: vs).toArray).isSome then oneType' else general') Q E s → wpAny M A (keyKind' (v :: vs).toArray) Q E s := fun A Q E h => by
        rw [PyProof.Rows.kat_kind_eq, List.mapM_toArray, map_eq_pure_bind]
        exact wpAny_bind (wpAny_bind (qf A _ E (wpAny_pure h)))
      by_cases ha : fs.toArray.all (·.isSome) = true
      · have hv : ∀ u ∈ fs.filterMap id, ∃ y, SkIs s.heap y u := fun u m => by
          obtain ⟨o, mo, eo⟩ := List.mem_filterMap.mp m
          obtain ⟨_, _, p⟩ := pf o mo
          exact p u (by simpa using eo)
        obtain ⟨o, qo⟩ := oneType_ex (M := M) _ hv
        refine ⟨tuples' (o.any (· != .type "tuple")), .inr (.inr ⟨_, rfl⟩), fun _ => tups, fun A Q E hq => start A Q E ?_⟩
        rw [if_pos ha]
        refine wpAny_bind (wpAny_rule ?_)
        have e : fs.toArray.filterMap id = (fs.filterMap id).toArray := by simp
        rw [e]
        exact wpAny_bind (qo A _ E (wpAny_pure hq))
      · by_cases hb : (fs.toArray[0]?.bind id).isSome = true
        · refine ⟨general', .inr (.inl rfl), fun ⟨b, e⟩ => absurd e (by intro z; cases z), fun A Q E hq => start A Q E ?_⟩
          rw [if_neg ha, if_pos hb]
          exact wpAny_pure hq
        · obtain ⟨o, qo⟩ := oneType_ex (M := M) (s := s) (v :: vs) fun u m => by
            obtain ⟨y, _, q⟩ := all u m
            exact ⟨y, q⟩
          refine ⟨if o.isSome then oneType' else general', by cases o <;> simp, fun ⟨b, e⟩ => ?_, fun A Q E hq => start A Q E ?_⟩
          · cases o with
            | none => exact absurd e (by intro z; cases z)
            | some _ => exact absurd e (by intro z; cases z)
          · rw [if_neg ha, if_neg hb]
            exact wpAny_bind (qo A _ E (wpAny_pure hq))
    | _ => cases r
end
end EV

set_option Elab.async false
set_option linter.all false
set_option maxRecDepth 100000
set_option maxHeartbeats 1000000
namespace EV
open PySem PySem.Spec PyProof.Rows L2 PySem.SeqAt
variable {K : PySem.W.Frag}

section
variable {prog : Program} {w : World} {A : Around} {E : Value → Shared → Prop} {s : Shared}
/-- the heap behind a collection of items -/
abbrev gath (h : Heap) (us : List Value) : Heap := (h.push (seqObj "list" #[] 0)).update h.objs.size (Obj.mapSeq (· ++ us.toArray))
theorem gather_tup {a : Addr} {o : Obj} {us : List Value} {m : Nat} {R : List Value → Shared → Prop} (ho : s.heap.get? a = some o) (hc : o.cls = .type "tuple") (hd : o.data = .seq us.toArray m) (hz : us.length ≤ sizeLine)
    (k : R us { s with heap := gath s.heap us }) : wpAny (model prog w) A (collect (.ref a)) R E s := by
  have top : (s.heap.push (seqObj "list" #[] 0)).get? s.heap.objs.size = some (seqObj "list" #[] 0) := Heap.get?_push_size _ rfl
  have old : (s.heap.push (seqObj "list" #[] 0)).get? a = some o := Heap.get?_push_of_some _ ho
  unfold collect
  refine wpAny_bind ?_
  refine wpAny_runValue (codeAny_builtin entry_proto_collect' ?_)
  refine (show wpAny _ _ (newList [] >>= fun v => again (.builtin "list.__iadd__" ⟨[v, .ref a], []⟩)) _ _ s from ?_)
  refine wpAny_bind (wpAny_newList ?_)
  refine wpAny_pure ⟨Code.quiet_builtin _ (by decide +kernel), ?_⟩
  refine codeAny_builtin entry_list_iadd' ?_
  refine (show wpAny _ _ (Builtin.List.listExtendWith (.ref s.heap.objs.size) (.ref a) (.ref s.heap.objs.size)) _ _ { s with heap := s.heap.push (seqObj "list" #[] 0) } from ?_)
  unfold Builtin.List.listExtendWith
  refine wpAny_bind (wpAny_typeOf (T := "tuple") ⟨o, old, hc⟩ ?_)
  have tt : (Value.type "tuple" == Value.type "tuple") = true := by rfl
  rw [if_pos (by rw [tt]; simp)]
  refine wpAny_bind (listItems_at old hd ?_)
  refine wpAny_bind (listItems_at top rfl ?_)
  rw [if_neg (by simp)]
  have small : (#[] ++ us.toArray).size ≤ sizeLine + 1 := by
    simp only [Array.size_append, List.size_toArray, List.length_nil]; omega
  refine wpAny_bind (listUpdate_at top rfl ?_ (Nat.zero_le _) small)
  refine wpAny_pure ?_
  refine (show wpAny (model prog w) A (load s.heap.objs.size >>= fun q => (match q.data with
    | .seq ys _ => pure ys.toList
    | _ => unsupported "internal:collect")) R E { s with heap := gath s.heap us } from ?_)
  refine wpAny_bind (wpAny_load (get?_update_seq top _) ?_)
  refine (show wpAny (model prog w) A (pure ((#[] : Array Value) ++ us.toArray).toList) R E _ from ?_)
  have e : ((#[] : Array Value) ++ us.toArray).toList = us := by simp
  rw [e]
  exact wpAny_pure k
/-- sorted(x), x a list or a tuple -/
theorem sorted_gen {a : Addr} {us : List Value} {ltv : Value → Value → Bool} {R : Value → Shared → Prop} (O : SrtO.Swo ltv) (hz : us.length ≤ sizeLine)
    (hcol : ∀ (R' : List Value → Shared → Prop) E', R' us { s with heap := gath s.heap us } → wpAny (model prog w) A.in1 (collect (.ref a)) R' E' s)
    (hS : 2 ≤ us.length → ∀ (h₁ : Heap) (b : Addr), h₁.get? b = some (seqObj "list" us.toArray 0) → (∀ c o, s.heap.get? c = some o → c ≠ b ∧ h₁.get? c = some o) → SrtO.SortableO prog w A.in1.in1 { s with heap := h₁ } b us ltv)
    (k : ∀ out : List Value, SrtO.Srtd ltv out → SrtO.Stb ltv out us → R (.ref (s.heap.objs.size + 1)) { s with heap := sortedAll s.heap us out.toArray }) :
    wpAny (model prog w) A (call (.builtin "sorted") [.ref a]) R E s := by
  refine Calls.call_function_entry kind_sorted plain_sorted entry_sorted (args_sorted1 _) ?_
  unfold Builtin.«sorted»
  refine wpAny_bind (m := checkCount "sorted" 1 1 _) (wpAny_pure ?_)
  refine wpAny_bind (hcol _ _ ?_)
  refine wpAny_bind (wpAny_newList ?_ hz)
  have sz : (gath s.heap us).objs.size = s.heap.objs.size + 1 := by unfold gath; rw [Heap.size_update, size_push']
  have at1 : ((gath s.heap us).push (seqObj "list" us.toArray 0)).get? (s.heap.objs.size + 1) = some (seqObj "list" us.toArray 0) := by
    rw [← sz]; exact Heap.get?_push_size _ rfl
  have kp : ∀ c o, s.heap.get? c = some o → c ≠ s.heap.objs.size + 1 ∧ ((gath s.heap us).push (seqObj "list" us.toArray 0)).get? c = some o := fun c o q => by
    have lt := Heap.lt_size q
    refine ⟨Nat.ne_of_lt (Nat.lt_succ_of_lt lt), Heap.get?_push_of_some _ ?_⟩
    unfold gath
    rw [Heap.get?_update_ne _ _ _ _ (Nat.ne_of_lt lt)]
    exact Heap.get?_push_of_some _ q
  refine (show wpAny _ _ _ _ _ { s with heap := (gath s.heap us).push (seqObj "list" us.toArray 0) } from ?_)
  rw [sz]
  refine wpAny_bind (wpAny_holding ?_)
  refine wpAny_call_entry slot_list_sort ⟨_, at1, rfl⟩ entry_list_sort ?_ (args_list_sort _)
  refine SrtO.list_sort_ord O at1 hz (fun h2 => hS h2 _ _ at1 kp) fun out hs hb => ⟨_, rfl, ?_⟩
  exact wpAny_pure ⟨_, rfl, k out hs hb⟩
end
end EV

set_option Elab.async false
set_option linter.all false
set_option maxRecDepth 100000
set_option maxHeartbeats 1000000
namespace EV
open PySem PySem.Spec PyProof.Rows L2
variable {K : PySem.W.Frag}

section
variable {K : PySem.W.Frag} {Θ : Th K} {h : AH} {H : Hp}
theorem ints_rep : ∀ {l : List AV} {ns : List Int} {vs : List V}, intsOf l = some ns → RepL Θ H l vs → l = ns.map .int ∧ vs = ns.map V.int
  | [], ns, vs, e, r => by cases e; cases r; exact ⟨rfl, rfl⟩
  | x :: xs, ns, vs, e, r => by
    cases r with
    | cons p q =>
      cases p with
      | int i =>
        simp only [intsOf, Option.map_eq_some_iff] at e
        obtain ⟨ms, e, rfl⟩ := e
        obtain ⟨h1, h2⟩ := ints_rep e q
        subst h1 h2
        exact ⟨rfl, rfl⟩
      | _ => simp [intsOf] at e
theorem bls_rep : ∀ {l : List AV} {ns : List Bool} {vs : List V}, blsOf l = some ns → RepL Θ H l vs → vs = ns.map V.bl
  | [], ns, vs, e, r => by cases e; cases r; rfl
  | x :: xs, ns, vs, e, r => by
    cases r with
    | cons p q =>
      cases p with
      | bl i =>
        simp only [blsOf, Option.map_eq_some_iff] at e
        obtain ⟨ms, e, rfl⟩ := e
        rw [bls_rep e q]
        rfl
      | _ => simp [blsOf] at e
theorem repL_ints : ∀ (ns : List Int), RepL Θ H (ns.map .int) (ns.map V.int)
  | [] => .nil
  | n :: ns => .cons (.int n) (repL_ints ns)
end
theorem minL_spec : ∀ {ns : List Int} {m : Int}, minL ns = some m → m ∈ ns ∧ ∀ y ∈ ns, m ≤ y
  | x :: xs, m, e => by
    simp only [minL, Option.some.injEq] at e
    have go : ∀ (xs : List Int) (x : Int), let m := xs.foldl (fun m y => if y < m then y else m) x; (m = x ∨ m ∈ xs) ∧ m ≤ x ∧ ∀ y ∈ xs, m ≤ y := by
      intro xs
      induction xs with
      | nil => intro x; simp
      | cons z zs ih =>
        intro x
        simp only [List.foldl_cons]
        obtain ⟨h1, h2, h3⟩ := ih (if z < x then z else x)
        refine ⟨?_, ?_, ?_⟩
        · rcases h1 with h1 | h1
          · rw [h1]; split <;> simp
          · exact .inr (List.mem_cons_of_mem _ h1)
        · have : (if z < x then z else x) ≤ x := by split <;> omega
          exact Int.le_trans h2 this
        · intro y hy
          rcases List.mem_cons.mp hy with rfl | hy
          · have : (if y < x then y else x) ≤ y := by split <;> omega
            exact Int.le_trans h2 this
          · exact h3 y hy
    obtain ⟨h1, h2, h3⟩ := go xs x
    rw [e] at h1 h2 h3
    refine ⟨by rcases h1 with h1 | h1 <;> simp [h1], fun y hy => ?_⟩
    rcases List.mem_cons.mp hy with rfl | hy
    · exact h2
    · exact h3 y hy
theorem maxL_spec : ∀ {ns : List Int} {m : Int}, maxL ns = some m → m ∈ ns ∧ ∀ y ∈ ns, y ≤ m
  | x :: xs, m, e => by
    simp only [maxL, Option.some.injEq] at e
    have go : ∀ (xs : List Int) (x : Int), let m := xs.foldl (fun m y => if m < y then y else m) x; (m = x ∨ m ∈ xs) ∧ x ≤ m ∧ ∀ y ∈ xs, y ≤ m := by
      intro xs
      induction xs with
      | nil => intro x; simp
      | cons z zs ih =>
        intro x
        simp only [List.foldl_cons]
        obtain ⟨h1, h2, h3⟩ := ih (if x < z then z else x)
        refine ⟨?_, ?_, ?_⟩
        · rcases h1 with h1 | h1
          · rw [h1]; split <;> simp
          · exact .inr (List.mem_cons_of_mem _ h1)
        · have : x ≤ (if x < z then z else x) := by split <;> omega
          exact Int.le_trans this h2
        · intro y hy
          rcases List.mem_cons.mp hy with rfl | hy
          · have : y ≤ (if x < y then y else x) := by split <;> omega
            exact Int.le_trans this h2
          · exact h3 y hy
    obtain ⟨h1, h2, h3⟩ := go xs x
    rw [e] at h1 h2 h3
    refine ⟨by rcases h1 with h1 | h1 <;> simp [h1], fun y hy => ?_⟩
    rcases List.mem_cons.mp hy with rfl | hy
    · exact h2
    · exact h3 y hy
theorem minL_uniq {ns : List Int} {m m' : Int} (h : minL ns = some m) (h1 : m' ∈ ns) (h2 : ∀ y ∈ ns, m' ≤ y) : m' = m := by
  obtain ⟨a, b⟩ := minL_spec h
  have := b m' h1
  have := h2 m a
  omega
theorem maxL_uniq {ns : List Int} {m m' : Int} (h : maxL ns = some m) (h1 : m' ∈ ns) (h2 : ∀ y ∈ ns, y ≤ m') : m' = m := by
  obtain ⟨a, b⟩ := maxL_spec h
  have := b m' h1
  have := h2 m a
  omega
def rVn (K : PySem.W.Frag) (f : AH → List AV → Option AV) : List V → Hp → VK → Prop := fun xs H Q => ∃ (Θ : Th K) (h : AH) (as : List AV) (v : AV), HR Θ h H ∧ RepL Θ H as xs ∧ f h as = some v ∧ FinF Θ h H v Q
theorem repL1 {Θ : Th K} {H : Hp} {a : AV} {xs : List V} (r : RepL Θ H [a] xs) : ∃ x, xs = [x] ∧ Rep Θ H a x := by
  cases r with
  | cons p q => cases q; exact ⟨_, rfl, p⟩
theorem repL2 {Θ : Th K} {H : Hp} {a b : AV} {xs : List V} (r : RepL Θ H [a, b] xs) : ∃ x y, xs = [x, y] ∧ Rep Θ H a x ∧ Rep Θ H b y := by
  cases r with
  | cons p q => obtain ⟨y, rfl, q2⟩ := repL1 q; exact ⟨_, _, rfl, p, q2⟩

section
variable {X : Cx}
theorem vb_len : CallR X (.builtin "len") (rVn X.K fun h as => bfO h .len as) := by
  intro pins s σ H xs us Q I rv ⟨Θ, h, as, w, hr, ra, e, k⟩
  match as, ra, e with
  | [a], ra, e =>
    obtain ⟨x, rfl, r⟩ := repL1 ra
    by_cases hs : ∃ t, a = .str t
    · obtain ⟨t, rfl⟩ := hs
      simp only [bfO] at e
      split at e
      · rename_i hz
        cases e
        cases r
        refine call_len_str pins s σ H _ us Q I rv ⟨mkS t, rfl, ?_, ?_⟩
        · rw [← SZ_eq]; simpa [Str.length] using hz
        · have : ((mkS t).length : Int) = t.length := by simp [Str.length]
          rw [this]; exact k.same hr (.int _)
      · cases e
    · have e' : (itemsOf h a).map (fun l => AV.int l.length) = some w := by
        cases a <;> first | exact e | exact absurd ⟨_, rfl⟩ hs
      simp only [Option.map_eq_some_iff] at e'
      obtain ⟨l, el, rfl⟩ := e'
      obtain ⟨p, vs, rfl, hq, rl⟩ := items_rep (K := X.K) hr r el
      exact call_len_seq pins s σ H _ us Q I rv ⟨p, vs, rfl, hq, by rw [← rl.length]; exact k.same hr (.int _)⟩
  | [], _, e => cases e
  | _ :: _ :: _, _, e => simp [bfO] at e
theorem vb_abs : CallR X (.builtin "abs") (rVn X.K fun h as => bfO h .abs as) := by
  intro pins s σ H xs us Q I rv ⟨Θ, h, as, w, hr, ra, e, k⟩
  match as, ra, e with
  | [.int i], ra, e =>
    obtain ⟨x, rfl, r⟩ := repL1 ra
    cases r; cases e
    exact call_abs pins s σ H _ us Q I rv ⟨i, rfl, k.same hr (.int _)⟩
theorem lst_ints {K : PySem.W.Frag} {Θ : Th K} {h : AH} {H : Hp} {a : AV} {x : V} {l : List AV} {ns : List Int} (hr : HR Θ h H) (r : Rep Θ H a x) (e : lstOf h a = some l) (e2 : intsOf l = some ns) : ∃ p, x = .ref p ∧ SqL K H p (ns.map V.int) := by
  obtain ⟨p, vs, rfl, hp, rl⟩ := lst_rep hr r e
  obtain ⟨rfl, rfl⟩ := ints_rep e2 rl
  exact ⟨p, rfl, SqL.of hp⟩
theorem vb_min (hc : X.calm = true) : CallR X (.builtin "min") (rVn X.K fun h as => bfO h .min as) := by
  intro pins s σ H xs us Q I rv ⟨Θ, h, as, w, hr, ra, e, k⟩
  match as, ra, e with
  | [.int i, .int j], ra, e =>
    obtain ⟨x, y, rfl, r1, r2⟩ := repL2 ra
    cases r1; cases r2; cases e
    exact call_min2 hc pins s σ H _ us Q I rv ⟨i, j, rfl, k.same hr (.int _)⟩
  | [a], ra, e =>
    obtain ⟨x, rfl, r⟩ := repL1 ra
    simp only [bfO] at e
    cases el : lstOf h a with
    | none => rw [el] at e; simp at e
    | some l =>
      rw [el] at e
      dsimp only at e
      cases en : intsOf l with
      | none => rw [en] at e; simp at e
      | some ns =>
        rw [en] at e
        simp only [Option.bind_some, Option.map_eq_some_iff] at e
        obtain ⟨m, em, rfl⟩ := e
        obtain ⟨p, rfl, hq⟩ := lst_ints (K := X.K) hr r el en
        refine cr_min hc pins s σ H _ us Q I rv ⟨p, ns, rfl, hq, ?_, fun m' h1 h2 => ?_⟩
        · exact List.length_pos_of_mem (minL_spec em).1
        · rw [minL_uniq em h1 h2]; exact k.same hr (.int _)
theorem vb_max (hc : X.calm = true) : CallR X (.builtin "max") (rVn X.K fun h as => bfO h .max as) := by
  intro pins s σ H xs us Q I rv ⟨Θ, h, as, w, hr, ra, e, k⟩
  match as, ra, e with
  | [.int i, .int j], ra, e =>
    obtain ⟨x, y, rfl, r1, r2⟩ := repL2 ra
    cases r1; cases r2; cases e
    exact call_max2 hc pins s σ H _ us Q I rv ⟨i, j, rfl, k.same hr (.int _)⟩
  | [a], ra, e =>
    obtain ⟨x, rfl, r⟩ := repL1 ra
    simp only [bfO] at e
    cases el : lstOf h a with
    | none => rw [el] at e; simp at e
    | some l =>
      rw [el] at e
      dsimp only at e
      cases en : intsOf l with
      | none => rw [en] at e; simp at e
      | some ns =>
        rw [en] at e
        simp only [Option.bind_some, Option.map_eq_some_iff] at e
        obtain ⟨m, em, rfl⟩ := e
        obtain ⟨p, rfl, hq⟩ := lst_ints (K := X.K) hr r el en
        refine cr_max hc pins s σ H _ us Q I rv ⟨p, ns, rfl, hq, ?_, fun m' h1 h2 => ?_⟩
        · exact List.length_pos_of_mem (maxL_spec em).1
        · rw [maxL_uniq em h1 h2]; exact k.same hr (.int _)
theorem vb_sum (hc : X.calm = true) : CallR X (.builtin "sum") (rVn X.K fun h as => bfO h .sum as) := by
  intro pins s σ H xs us Q I rv ⟨Θ, h, as, w, hr, ra, e, k⟩
  match as, ra, e with
  | [a], ra, e =>
    obtain ⟨x, rfl, r⟩ := repL1 ra
    simp only [bfO] at e
    cases el : lstOf h a with
    | none => rw [el] at e; simp at e
    | some l =>
      rw [el] at e
      simp only [Option.map_eq_some_iff] at e
      obtain ⟨ns, en, rfl⟩ := e
      obtain ⟨p, rfl, hq⟩ := lst_ints (K := X.K) hr r el en
      exact cr_sum hc pins s σ H _ us Q I rv ⟨p, ns, rfl, hq, k.same hr (.int _)⟩
  | [], _, e => cases e
  | _ :: _ :: _, _, e => simp [bfO] at e
theorem vb_all (hc : X.calm = true) : CallR X (.builtin "all") (rVn X.K fun h as => bfO h .all as) := by
  intro pins s σ H xs us Q I rv ⟨Θ, h, as, w, hr, ra, e, k⟩
  match as, ra, e with
  | [a], ra, e =>
    obtain ⟨x, rfl, r⟩ := repL1 ra
    simp only [bfO] at e
    cases el : lstOf h a with
    | none => rw [el] at e; simp at e
    | some l =>
      rw [el] at e
      simp only [Option.map_eq_some_iff] at e
      obtain ⟨ns, en, rfl⟩ := e
      obtain ⟨p, vs, rfl, hp, rl⟩ := lst_rep hr r el
      have := bls_rep en rl
      subst this
      exact cr_all hc pins s σ H _ us Q I rv ⟨p, ns, rfl, SqL.of hp, k.same hr (.bl _)⟩
  | [], _, e => cases e
  | _ :: _ :: _, _, e => simp [bfO] at e
theorem vb_any (hc : X.calm = true) : CallR X (.builtin "any") (rVn X.K fun h as => bfO h .any as) := by
  intro pins s σ H xs us Q I rv ⟨Θ, h, as, w, hr, ra, e, k⟩
  match as, ra, e with
  | [a], ra, e =>
    obtain ⟨x, rfl, r⟩ := repL1 ra
    simp only [bfO] at e
    cases el : lstOf h a with
    | none => rw [el] at e; simp at e
    | some l =>
      rw [el] at e
      simp only [Option.map_eq_some_iff] at e
      obtain ⟨ns, en, rfl⟩ := e
      obtain ⟨p, vs, rfl, hp, rl⟩ := lst_rep hr r el
      have := bls_rep en rl
      subst this
      exact cr_any hc pins s σ H _ us Q I rv ⟨p, ns, rfl, SqL.of hp, k.same hr (.bl _)⟩
  | [], _, e => cases e
  | _ :: _ :: _, _, e => simp [bfO] at e
mutual
theorem sk_of {Θ : Th K} {H : Hp} {P : Program} {w : World} {h : Heap} (ok : HOk P w H h) : ∀ {x : AV} {v : V}, Rep Θ H x v → ∀ (n : Nat) (u : Value), skOk n x = true → RelV v u → SkIs h x u
  | _, _, .int i, n, u, _, rv => by obtain ⟨t, rfl⟩ := rv; exact .int i t
  | _, _, .str s, n, u, _, rv => by obtain ⟨t, rfl⟩ := rv; exact .str s t
  | _, _, .tup e f l, n, u, o, rv => by
    cases rv
    cases n with
    | zero => simp [skOk] at o
    | succ n =>
      simp only [skOk] at o
      obtain ⟨_, its, r, ob, ho, hc, m, hd⟩ := ok _ _ e
      exact .tup ho hc hd (by simpa using skL_of ok l n its o r)
  | _, _, .non, n, u, o, _ => by cases n <;> simp [skOk] at o
  | _, _, .bl _, n, u, o, _ => by cases n <;> simp [skOk] at o
  | _, _, .lst _ _ _, n, u, o, _ => by cases n <;> simp [skOk] at o
  | _, _, .ref _, n, u, o, _ => by cases n <;> simp [skOk] at o
  | _, _, .scr _ _ _, n, u, o, _ => by cases n <;> simp [skOk] at o
  | _, _, .scrK _ _, n, u, o, _ => by cases n <;> simp [skOk] at o
  | _, _, .exc _ _ _ _ _, n, u, o, _ => by cases n <;> simp [skOk] at o
termination_by structural x v r => r
theorem skL_of {Θ : Th K} {H : Hp} {P : Program} {w : World} {h : Heap} (ok : HOk P w H h) : ∀ {x : List AV} {v : List V}, RepL Θ H x v → ∀ (n : Nat) (u : List Value), x.all (skOk n) = true → Vals v u → SkAll h x u
  | _, _, .nil, n, u, _, rv => by cases rv; exact .nil
  | _, _, .cons r t, n, u, o, rv => by
    simp only [List.all_cons, Bool.and_eq_true] at o
    cases rv with
    | cons r1 r2 => exact .cons (sk_of ok r n _ o.1 r1) (skL_of ok t n _ o.2 r2)
termination_by structural x v r => r
end
open Classical in
noncomputable def bkA (h : Heap) (v : Value) : AV := if q : ∃ x, SkIs h x v then Classical.choose q else .non
theorem bkA_eq {h : Heap} {x : AV} {v : Value} (r : SkIs h x v) : bkA h v = x := by
  unfold bkA
  have q : ∃ x, SkIs h x v := ⟨x, r⟩
  rw [dif_pos q]
  exact (Classical.choose_spec q).inj r
theorem bkA_map {h : Heap} : ∀ {xs : List AV} {vs : List Value}, SkAll h xs vs → vs.map (bkA h) = xs
  | _, _, .nil => rfl
  | _, _, .cons r t => by rw [List.map_cons, bkA_eq r, bkA_map t]
theorem pick_of {Θ : Th K} {H : Hp} {P : Program} {w : World} {h : Heap} (ok : HOk P w H h) {n : Nat} : ∀ {l : List AV} {vs : List V} {us : List Value}, RepL Θ H l vs → Vals vs us → l.all (skOk n) = true → ∀ u ∈ us, ∃ v, RelV v u ∧ Rep Θ H (bkA h u) v
  | _, _, _, .nil, r, _, u, m => by cases r; cases m
  | _, _, _, .cons r t, rv, o, u, m => by
    simp only [List.all_cons, Bool.and_eq_true] at o
    cases rv with
    | cons r1 r2 =>
      rcases List.mem_cons.mp m with e | m
      · subst e
        exact ⟨_, r1, by rw [bkA_eq (sk_of ok r n _ o.1 r1)]; exact r⟩
      · exact pick_of ok t r2 o.2 u m
theorem picks {Θ : Th K} {H : Hp} {h : Heap} : ∀ {us : List Value}, (∀ u ∈ us, ∃ v, RelV v u ∧ Rep Θ H (bkA h u) v) → ∃ vs, Vals vs us ∧ RepL Θ H (us.map (bkA h)) vs
  | [], _ => ⟨[], .nil, .nil⟩
  | u :: us, q => by
    obtain ⟨v, h1, h2⟩ := q u (List.mem_cons_self ..)
    obtain ⟨vs, h3, h4⟩ := picks fun u m => q u (List.mem_cons_of_mem _ m)
    exact ⟨v :: vs, .cons h1 h3, .cons h2 h4⟩
theorem vb_sorted (hu : X.A.units + 65 < cLine) : CallR X (.builtin "sorted") (rVn X.K fun h as => bfO h .sorted as) := by
  intro pins s σ H xs us Q I rv ⟨Θ, h, as, w, hr, ra, e, k⟩
  match as, ra, e with
  | [a], ra, e =>
    obtain ⟨x, rfl, r⟩ := repL1 ra
    obtain ⟨u0, rfl, ru⟩ := vals1 rv
    simp only [bfO] at e
    cases el : itemsOf h a with
    | none => rw [el] at e; simp at e
    | some l =>
      rw [el] at e
      dsimp only at e
      split at e
      · rename_i hc
        cases e
        simp only [Bool.and_eq_true] at hc
        obtain ⟨hok, hcm⟩ := hc
        -- where the items stand
        have at_ : ∃ (p : Addr) (vs : List V) (its : List Value), x = .ref p ∧ RepL Θ H l vs ∧ Vals vs its ∧ its.length ≤ sizeLine ∧ ∀ (R' : List Value → Shared → Prop) (E' : Value → Shared → Prop), R' its { s with heap := gath s.heap its } → wpAny (model X.prog X.w) X.A.in1 (collect (.ref p)) R' E' s := by
          have lists : ∀ {p : Addr} {vs : List V}, SqL X.K H p vs → RepL Θ H l vs → x = .ref p → ∃ (p : Addr) (vs : List V) (its : List Value), x = .ref p ∧ RepL Θ H l vs ∧ Vals vs its ∧ its.length ≤ sizeLine ∧ ∀ (R' : List Value → Shared → Prop) (E' : Value → Shared → Prop), R' its { s with heap := gath s.heap its } → wpAny (model X.prog X.w) X.A.in1 (collect (.ref p)) R' E' s := fun {p vs} hq rl hx => by
            obtain ⟨its, r2, hl, hz⟩ := I.list hq
            have hz : its.length ≤ sizeLine := by rw [← r2.length]; exact hz
            exact ⟨p, vs, its, hx, rl, r2, hz, fun R' E' hq => collect_list hl.isList hq hz⟩
          cases r with
          | tup e1 f1 l1 =>
            cases el
            obtain ⟨hz, its, r2, o, ho, hc, m, hd⟩ := I.hok _ _ e1
            have hz : its.length ≤ sizeLine := by rw [← r2.length]; exact hz
            exact ⟨_, _, its, rfl, l1, r2, hz, fun R' E' hq => gather_tup ho hc (by simpa using hd) hz hq⟩
          | lst e1 f1 l1 => cases el; exact lists (SqL.of e1) l1 rfl
          | scr e1 f1 l1 => cases el; exact lists (.inl (.inr ⟨_, e1⟩)) l1 rfl
          | scrK k1 l1 => cases el; exact lists (.inr k1) l1 rfl
          | ref e1 =>
            obtain ⟨xs, vs', q1, q2, q3⟩ := ref_at hr e1
            simp only [itemsOf, q1] at el
            cases el
            exact lists (SqL.of q2) q3 rfl
          | _ => cases el
        obtain ⟨p, vs, its, rfl, rl, rv2, hz, hcol⟩ := at_
        cases ru
        have sk : SkAll s.heap l its := skL_of I.hok rl 30 its hok rv2
        have cm : ∀ x ∈ l, ∀ y ∈ l, cmpb x y = true := fun x hx y hy => List.all_eq_true.mp (List.all_eq_true.mp hcm x hx) y hy
        have hb := bkA_map sk
        refine sorted_gen (ltv := fun v u => kLt (bkA s.heap v) (bkA s.heap u)) ⟨fun x y => kLt_swo.asym _ _, fun x y z => kLt_swo.tr _ _ _⟩ hz hcol (fun h2 h₁ b hb1 kp h' kp' => ?_) fun out hs ht => ?_
        · have sk' : SkAll h' l its := sk.keep fun c o ws n q1 q2 q3 => by
            obtain ⟨ne, q4⟩ := kp c o q1
            exact kp' c o ne q4
          obtain ⟨κ, k1, k2, k3⟩ := kind_sk (M := model X.prog X.w) (s := { s with heap := h' }) sk' cm h2
          refine ⟨κ, fun Q E hq => k3 _ Q E hq, fun p q hp hq => ?_⟩
          obtain ⟨x, mx, rx⟩ := sk'.mem hp
          obtain ⟨y, my, ry⟩ := sk'.mem hq
          obtain ⟨x', mx', rx'⟩ := sk.mem hp
          obtain ⟨y', my', ry'⟩ := sk.mem hq
          have back : ∀ c o ws n, s.heap.get? c = some o → o.data = .seq ws n → o.cls = .type "tuple" → h'.get? c = some o := fun c o ws n q1 q2 q3 => by
            obtain ⟨ne, q4⟩ := kp c o q1
            exact kp' c o ne q4
          have ex : x = x' := rx.inj (rx'.keep back)
          have ey : y = y' := ry.inj (ry'.keep back)
          refine keyLt_sk (n := 30) k1 rx ry (fun q => ?_) (List.all_eq_true.mp hok x mx) (List.all_eq_true.mp hok y my) (cm x mx y my) (by show X.A.units + 1 + 1 + 30 < _; omega) ⟨rfl, ?_⟩
          · obtain ⟨l1, e1⟩ := k2 q x mx
            obtain ⟨l2, e2⟩ := k2 q y my
            exact ⟨l1, l2, e1, e2⟩
          · show kLt x y = kLt (bkA s.heap p.1) (bkA s.heap q.1)
            rw [bkA_eq rx', bkA_eq ry', ex, ey]
        · have hm : out.map (bkA s.heap) = sortBy kLt l := by
            refine sort_uniq kLt_swo (SrtO.srtd_map hs) ?_
            have := SrtO.Stb.map kLt_swo (bkA s.heap) ht
            rw [hb] at this
            exact this
          obtain ⟨ws, h3, h4⟩ := picks (Θ := Θ) (H := H) (h := s.heap) (us := out) fun u m => pick_of I.hok rl rv2 hok u (ht.perm.mem_iff.mp m)
          rw [hm] at h4
          obtain ⟨m, hat⟩ := sortedAll_at s.heap its out.toArray
          refine ⟨.ref (s.heap.objs.size + 1), upd H (s.heap.objs.size + 1) (.lst ws), I.laid (t' := s.toks) (fun b o q => sortedAll_old q) (Nat.le_succ _) ⟨?_, out, m, h3, hat⟩, rfl, k.newL hr h4 _ (I.hok.fresh (Nat.le_succ _))⟩
          rw [h3.length, ht.len]
          exact hz
      · cases e
  | [], _, e => cases e
  | _ :: _ :: _, _, e => simp [bfO] at e
theorem signs_rep {Θ : Th K} {H : Hp} : ∀ (l : List Nat) (us : List Value), us.length = l.length → (∀ (j : Nat) v, us[j]? = some v → ∃ c u, l[j]? = some c ∧ v = .str ⟨#[c]⟩ u) → ∃ vs, Vals vs us ∧ RepL Θ H (l.map fun c => .str [c]) vs
  | [], us, e, _ => by
    have := List.eq_nil_of_length_eq_zero e
    subst this
    exact ⟨[], .nil, .nil⟩
  | c :: l, [], e, _ => by cases e
  | c :: l, u :: us, e, h => by
    obtain ⟨vs, h1, h2⟩ := signs_rep l us (by simpa using e) fun j v hj => h (j + 1) v (by simpa using hj)
    obtain ⟨c', t, e1, e2⟩ := h 0 u rfl
    cases e1
    exact ⟨.str (mkS [c]) :: vs, .cons ⟨t, e2⟩ h1, .cons (.str [c]) h2⟩
theorem vb_tuple (hc : X.calm = true) : CallR X (.type "tuple") (rVn X.K fun h as => bfO h .tuple as) := by
  intro pins s σ H xs us Q I rv ⟨Θ, h, as, w, hr, ra, e, k⟩
  match as, ra, e with
  | [a], ra, e =>
    obtain ⟨x, rfl, r⟩ := repL1 ra
    have plain : (itemsOf h a).map AV.tup = some w → wpAny (model X.prog X.w) X.A (call (.type "tuple") us) (EP X pins σ Q) X.xe s := fun e => by
      simp only [Option.map_eq_some_iff] at e
      obtain ⟨l, el, rfl⟩ := e
      have go : ∀ {p : Addr} {vs : List V}, SqL X.K H p vs → RepL Θ H l vs → x = .ref p → wpAny (model X.prog X.w) X.A (call (.type "tuple") us) (EP X pins σ Q) X.xe s := by
        intro p vs hq rl hx
        subst hx
        exact call_tuple_of pins s σ H _ us Q I rv ⟨p, vs, rfl, .inl ⟨hq, k.newT hr rl⟩⟩
      cases r with
      | tup e1 f1 l1 => cases el; exact call_tuple_of pins s σ H _ us Q I rv ⟨_, _, rfl, .inr ⟨SqT.of e1, k.same hr (.tup e1 f1 l1)⟩⟩
      | lst e1 f1 l1 => cases el; exact go (SqL.of e1) l1 rfl
      | scr e1 f1 l1 => cases el; exact go (.inl (.inr ⟨_, e1⟩)) l1 rfl
      | scrK k1 l1 => cases el; exact go (.inr k1) l1 rfl
      | ref e1 =>
        obtain ⟨xs, vs', q1, q2, q3⟩ := ref_at hr e1
        simp only [itemsOf, q1] at el
        cases el
        exact go (SqL.of q2) q3 rfl
      | _ => cases el
    cases a with
    | str z =>
      simp only [bfO] at e
      split at e
      · rename_i hz
        cases e
        cases r
        obtain ⟨u, rfl, ru⟩ := vals1 rv
        obtain ⟨t, rfl⟩ := ru
        have sz : (mkS z).cps.size ≤ sizeLine := by rw [← SZ_eq]; simpa using hz
        refine call_tuple_str (I.ok.hd hc) (mkS z) t (fun h' tk acc keep it => ?_) sz
        obtain ⟨vs, h1, h2⟩ := signs_rep (Θ := Θ) (H := H) z acc.toList (by rw [Array.length_toList, it.1]; simp) fun j v hj => by
          obtain ⟨c, u, h3, h4⟩ := it.2 j v (by simpa using hj)
          exact ⟨c, u, by simpa using h3, h4⟩
        have I2 : L2.Inv X pins σ H { s with heap := h', toks := tk } := I.kept (t' := tk) keep
        refine ⟨.ref h'.objs.size, upd H h'.objs.size (.tup vs), I2.laid (t' := tk) (fun b o q => Heap.get?_push_of_some _ q) (Nat.le_refl _) ⟨?_, acc.toList, h1, ⟨_, Heap.get?_push_size _ rfl, rfl, 0, by simp⟩⟩, rfl, k.newT hr h2 _ (I2.hok.fresh (Nat.le_refl _))⟩
        rw [h1.length, Array.length_toList, it.1]; exact sz
      · cases e
    | _ => exact plain e
  | [], _, e => cases e
  | _ :: _ :: _, _, e => simp [bfO] at e
theorem vb_list : CallR X (.type "list") (rVn X.K fun h as => bfO h .list as) := by
  intro pins s σ H xs us Q I rv ⟨Θ, h, as, w, hr, ra, e, k⟩
  match as, ra, e with
  | [a], ra, e =>
    obtain ⟨x, rfl, r⟩ := repL1 ra
    simp only [bfO, Option.map_eq_some_iff] at e
    obtain ⟨l, el, rfl⟩ := e
    obtain ⟨p, vs, rfl, hq, rl⟩ := items_rep (K := X.K) hr r el
    exact call_list_of pins s σ H _ us Q I rv ⟨p, vs, rfl, hq, k.newL hr rl⟩
  | [], _, e => cases e
  | _ :: _ :: _, _, e => simp [bfO] at e
theorem vb_int : CallR X (.type "int") (rVn X.K fun h as => bfO h .int as) := by
  intro pins s σ H xs us Q I rv ⟨Θ, h, as, w, hr, ra, e, k⟩
  match as, ra, e with
  | [.int i], ra, e =>
    obtain ⟨x, rfl, r⟩ := repL1 ra
    cases r; cases e
    exact call_int1 pins s σ H _ us Q I rv (.inl ⟨i, rfl, k.same hr (.int _)⟩)
  | [.bl i], ra, e =>
    obtain ⟨x, rfl, r⟩ := repL1 ra
    cases r; cases e
    exact call_int1 pins s σ H _ us Q I rv (.inr ⟨i, rfl, k.same hr (.int _)⟩)

/-! ### subscripts -/
theorem vx_idx : IxR X (rV2x X.K fun h a b => (intO b).bind fun k => idxO h a k) := by
  intro value slice pins s σ H x y v u Q I rx ry ⟨Θ, h, a, b, w, hr, ra, rb, e, k⟩ hsub
  cases rb with
  | int i =>
    simp only [intO, Option.bind_some] at e
    by_cases hs : ∃ t, a = .str t
    · obtain ⟨t, rfl⟩ := hs
      cases ra
      simp only [idxO] at e
      split at e
      · rename_i hz
        simp only [Option.map_eq_some_iff] at e
        obtain ⟨c, ec, rfl⟩ := e
        refine ix_str value slice pins s σ H _ _ v u Q I rx ry ⟨mkS t, i, c, rfl, rfl, ?_, ?_, ?_⟩ hsub
        · rw [← SZ_eq]; simpa [Str.length] using hz
        · simpa [mkS] using ec
        · exact k.same hr (.str [c])
      · cases e
    · have e' : (match itemsOf h a with
        | some l => atI l i
        | none => none) = some w := by
        cases a <;> first | exact e | exact absurd ⟨_, rfl⟩ hs
      cases el : itemsOf h a with
      | none => rw [el] at e'; simp at e'
      | some l =>
        rw [el] at e'
        dsimp only at e'
        obtain ⟨p, vs, rfl, hq, rl⟩ := items_rep (K := X.K) hr ra el
        have q : ∃ z, atI vs i = some z ∧ Rep Θ H w z := by
          unfold atI at e' ⊢
          rw [← rl.length]
          cases ei : ixN l.length i with
          | none => rw [ei] at e'; simp at e'
          | some j =>
            rw [ei] at e'
            exact rl.get e'
        obtain ⟨z, ez, rz⟩ := q
        rcases hq with hq | hq
        · exact ix_list value slice pins s σ H _ _ v u Q I rx ry ⟨p, vs, i, z, rfl, rfl, hq, ez, k.same hr rz⟩ hsub
        · exact ix_tup value slice pins s σ H _ _ v u Q I rx ry ⟨p, vs, i, z, rfl, rfl, hq, ez, k.same hr rz⟩ hsub
  | _ => simp [intO] at e
def rVs (K : PySem.W.Frag) : V → Option Int → Option Int → Hp → VK → Prop := fun x lo hi H Q => ∃ (Θ : Th K) (h : AH) (a v : AV), HR Θ h H ∧ Rep Θ H a x ∧ slcO h a lo hi = some v ∧ FinF Θ h H v Q
theorem cut_rep {Θ : Th K} {H : Hp} {l : List AV} {vs : List V} (r : RepL Θ H l vs) (lo hi : Option Int) : RepL Θ H (cutL l lo hi) (cutV vs lo hi) := by
  unfold cutL cutV
  rw [r.length]
  exact (r.drop _).take _
theorem vx_slc : SlR X (rVs X.K) := by
  intro pins s σ H x v vl vu lo hi sl Q I rx hs pl pu ⟨Θ, h, a, w, hr, ra, e, k⟩
  have go : ∀ {p : Addr} {vs : List V} {l : List AV}, SqL X.K H p vs → RepL Θ H l vs → x = .ref p → FinF Θ h H (.lst (cutL l lo hi)) Q → ∃ T id,
    typeLookup (Value.type T) (Str.ofString "__getitem__") = pure (some (Value.builtin id)) ∧
      s.TypeIs v T ∧ wpAny (model X.prog X.w) X.A (getItem v (Value.ref sl)) (EP X pins σ Q) X.xe s := by
    intro p vs l hq rl hx k
    exact sl_list pins s σ H x v vl vu lo hi sl Q I rx hs pl pu ⟨p, vs, hx, hq, k.newL hr (cut_rep rl lo hi)⟩
  cases ra with
  | str t =>
    simp only [slcO] at e
    split at e
    · rename_i hz
      cases e
      refine sl_str pins s σ H _ v vl vu lo hi sl Q I rx hs pl pu ⟨mkS t, rfl, ?_, ?_⟩
      · rw [← SZ_eq]; simpa [Str.length] using hz
      · have : cutS (mkS t) lo hi = mkS (cutL t lo hi) := by
          unfold cutS cutL
          simp [mkS, Str.length]
        rw [this]
        exact k.same hr (.str _)
    · cases e
  | tup e1 f1 l1 =>
    simp only [slcO, Option.some.injEq] at e
    subst e
    refine sl_tupA pins s σ H _ v vl vu lo hi sl Q I rx hs pl pu ⟨_, _, rfl, SqT.of e1, fun hw => ?_, fun _ => k.newT hr (cut_rep l1 lo hi)⟩
    rename_i p vs xs
    have : cutL xs lo hi = xs := by
      unfold cutL
      rw [l1.length, hw.1, hw.2, ← l1.length]
      simp
    rw [this] at k
    exact k.same hr (.tup e1 f1 l1)
  | scr e1 f1 l1 =>
    simp only [slcO, Option.some.injEq] at e
    subst e
    exact go (.inl (.inr ⟨_, e1⟩)) l1 rfl k
  | scrK k1 l1 =>
    simp only [slcO, Option.some.injEq] at e
    subst e
    exact go (.inr k1) l1 rfl k
  | lst e1 f1 l1 =>
    simp only [slcO, lstOf, Option.some.injEq] at e
    subst e
    exact go (SqL.of e1) l1 rfl k
  | ref e1 =>
    obtain ⟨xs, vs', q1, q2, q3⟩ := ref_at hr e1
    simp only [slcO, lstOf, q1, Option.some.injEq] at e
    subst e
    exact go (SqL.of q2) q3 rfl k
  | _ => simp [slcO, lstOf] at e
/-! ### truth -/
theorem tru_rep {K : PySem.W.Frag} {Θ : Th K} {h : AH} {H : Hp} {a : AV} {x : V} {c : Bool} (hr : HR Θ h H) (r : Rep Θ H a x) (e : truO h a = some c) : TruV K x H c := by
  have seq : ∀ {l : List AV}, itemsOf h a = some l → c = !l.isEmpty → TruV K x H c := by
    intro l el hc
    obtain ⟨p, vs, rfl, hq, rl⟩ := items_rep (K := K) hr r el
    have : l.isEmpty = vs.isEmpty := by cases rl <;> rfl
    rw [this] at hc
    rcases hq with hq | hq
    · exact .inl ⟨vs, hq, hc⟩
    · exact .inr (.inl ⟨vs, hq, hc⟩)
  cases r with
  | non => cases e; rfl
  | bl b => cases e; rfl
  | int i => cases e; rfl
  | str t =>
    simp only [truO] at e
    split at e
    · rename_i hz
      cases e
      refine ⟨by rw [← SZ_eq]; simpa [Str.length] using hz, ?_⟩
      cases t <;> simp [mkS, Str.length]
      omega
    · cases e
  | tup e1 f1 l1 => exact seq rfl (by simpa [truO, itemsOf] using e.symm)
  | lst e1 f1 l1 => exact seq rfl (by simpa [truO, itemsOf] using e.symm)
  | scr e1 f1 l1 => exact seq rfl (by simpa [truO, itemsOf] using e.symm)
  | scrK k1 l1 => exact seq rfl (by simpa [truO, itemsOf] using e.symm)
  | exc => simp [truO, itemsOf] at e
  | ref e1 =>
    simp only [truO, Option.map_eq_some_iff] at e
    obtain ⟨l, el, rfl⟩ := e
    exact seq el rfl
end
end EV

set_option Elab.async false
set_option linter.all false
set_option maxRecDepth 100000
set_option maxHeartbeats 1000000
namespace EV
open PySem PySem.Spec PyProof.Rows L2 PySem.SeqAt HT

/-! ### t[::-1] of a tuple -/
section
variable {prog : Program} {w : World} {A : Around} {E : Value → Shared → Prop} {s : Shared}
theorem adj_back (n : Nat) : Builtin.Slice.sliceAdjust none none (-1) (n : Int) = ((n : Int) - 1, -1) := by
  unfold Builtin.Slice.sliceAdjust
  simp
theorem places_back (n : Nat) : Builtin.Slice.slicePlaces ((n : Int) - 1) (-1) (-1) = n := by
  unfold Builtin.Slice.slicePlaces
  simp
  try omega
theorem pick_back (xs : Array Value) : ((List.range xs.size).filterMap fun (m : Nat) => xs[(((xs.size : Int) - 1) + (m : Int) * (-1)).toNat]?) = xs.toList.reverse := by
  have e : ∀ m ∈ List.range xs.size, xs[(((xs.size : Int) - 1) + (m : Int) * (-1)).toNat]? = some (xs.toList.reverse.getD m .none) := fun m hm => by
    have hm := List.mem_range.mp hm
    have e1 : (((xs.size : Int) - 1) + (m : Int) * (-1)).toNat = xs.size - 1 - m := by omega
    rw [e1]
    have hl : m < xs.toList.reverse.length := by simpa using hm
    have e2 : xs.toList.reverse.getD m .none = xs.toList.reverse[m] := by rw [List.getD_eq_getElem?_getD, List.getElem?_eq_getElem hl]; rfl
    rw [e2, List.getElem_reverse]
    simp
  have go : ∀ (l : List Nat) (f : Nat → Option Value) (g : Nat → Value), (∀ m ∈ l, f m = some (g m)) → l.filterMap f = l.map g := by
    intro l f g
    induction l with
    | nil => intro _; rfl
    | cons a l ih =>
      intro h
      rw [List.filterMap_cons_some (h a (List.mem_cons_self ..)), List.map_cons, ih fun m hm => h m (List.mem_cons_of_mem _ hm)]
  rw [go _ _ _ e]
  refine List.ext_getElem (by simp) fun i h1 h2 => ?_
  rw [List.getElem_map, List.getElem_range, List.getD_eq_getElem?_getD, List.getElem?_eq_getElem h2]; rfl
theorem back_applied {sl : Addr} {vs : Value} {n : Nat} {R : Int × Int × Nat → Shared → Prop} (hs : s.heap.IsSliceOf sl .none .none vs) (ps : IsPart vs (some (-1))) (k : R ((n : Int) - 1, -1, n) s) :
    wpAny (model prog w) A (Builtin.Slice.sliceApplied (.ref sl) (pure (n : Int))) R E s := by
  obtain ⟨os, hos, hcs, hds⟩ := id hs
  unfold Builtin.Slice.sliceApplied Builtin.Slice.sliceFields
  refine wpAny_bind (wpAny_bind ?_)
  refine wpAny_field hos hds (x := .none) rfl ?_
  refine wpAny_bind (wpAny_field hos hds (x := .none) rfl ?_)
  refine wpAny_bind (wpAny_field hos hds (x := vs) rfl (wpAny_pure ?_))
  refine wpAny_bind (slicePart_ ps ?_)
  refine (show wpAny _ _ (if ((-1 : Int) == 0) = true then _ else _) _ _ s from ?_)
  rw [if_neg (by decide)]
  refine wpAny_bind (slicePart_none (wpAny_bind (slicePart_none (wpAny_bind (wpAny_pure ?_)))))
  refine (show wpAny _ _ (match Builtin.Slice.sliceAdjust none none (-1) (n : Int) with | (p, q) => pure (p, (-1 : Int), Builtin.Slice.slicePlaces p q (-1))) _ _ s from ?_)
  rw [adj_back]
  refine (show wpAny _ _ (pure ((n : Int) - 1, (-1 : Int), Builtin.Slice.slicePlaces ((n : Int) - 1) (-1) (-1))) _ _ s from ?_)
  rw [places_back]
  exact wpAny_pure k
theorem getItem_back {t sl : Addr} {items : Array Value} {vs : Value} {R : Value → Shared → Prop} (ht : IsTup s.heap t items) (hs : s.heap.IsSliceOf sl .none .none vs) (ps : IsPart vs (some (-1))) (hz : items.size ≤ sizeLine)
    (k : R (.ref s.heap.objs.size) { s with heap := s.heap.push { cls := .type "tuple", data := .seq items.toList.reverse.toArray } }) : wpAny (model prog w) A (getItem (.ref t) (.ref sl)) R E s := by
  obtain ⟨os, hos, hcs, hds⟩ := id hs
  have hT : s.TypeIs (.ref sl) "slice" := ⟨os, hos, hcs⟩
  have ok : sizeOk (.seq items.toList.reverse.toArray) := by
    show items.toList.reverse.toArray.size ≤ sizeLine
    simpa using hz
  unfold getItem
  try with_reducible refine wpAny_holding ?_
  try refine wpAny_bind (wpAny_pure ?_)
  refine wpAny_bind (wpAny_sequenceKey ht.typeIs (by decide) ?_)
  refine wpAny_bind (wpAny_callSpecial?_slot (name := Str.ofString "__getitem__") ht.typeIs PyProof.Rows.slot_tuple_getitem ?_)
  refine wpAny_call_entry PyProof.Rows.slot_tuple_getitem ht.typeIs entry_tuple_getitem ?_ (args_tuple_getitem _ _)
  refine (show wpAny _ _ (Builtin.Tuple.tupleItemsOf (.ref t) >>= _) _ _ s from ?_)
  refine wpAny_bind (tupleItemsOf_ ht (wpAny_bind (wpAny_typeOf hT ?_)))
  rw [if_pos (by decide)]
  refine wpAny_bind (back_applied hs ps ?_)
  have no : ¬ ((((items.size : Int) - 1) == 0 && (-1 : Int) == 1 && items.size == items.size) = true) := by simp
  refine (show wpAny _ _ (if (((items.size : Int) - 1) == 0 && (-1 : Int) == 1 && items.size == items.size) = true then _ else _) _ _ s from ?_)
  rw [if_neg no, pick_back items]
  first
    | exact wpAny_bind (m := Builtin.Tuple.tupleExact _) (wpAny_newObj_type (wpAny_pure ⟨_, rfl, wpAny_pure k⟩) ok)
    | exact wpAny_bind (m := Builtin.Tuple.tupleExact _) (wpAny_newObj_type (wpAny_bind (wpAny_pure (wpAny_pure ⟨_, rfl, wpAny_pure k⟩))) ok)
    | exact wpAny_bind (wpAny_bind (m := Builtin.Tuple.tupleExact _) (wpAny_newObj_type (wpAny_pure (wpAny_pure ⟨_, rfl, wpAny_pure k⟩)) ok))
end
section
variable {X : Cx}
def tRev2 (K : PySem.W.Frag) (te : TE) : TE := fun σ H Q => te σ H fun x H1 => ∃ a xs, x = .ref a ∧ SqT K H1 a xs ∧ ∀ p, H1 p = none → Q (.ref p) (upd H1 p (.tup xs.reverse))
theorem pe_rev2 {e : Expr} {te : TE} {k : Nat} {p1 p2 p3 pos : Pos} (he : PE X e te) : PE X (.Subscript e (.Slice none none (some (.UnaryOp .USub (.Constant (.int 1) k p1) p2)) p3) pos) (tRev2 X.K te) := by
  refine ⟨fun pins s σ H Q I h => Subscript_ (thn (he.run pins s σ H _ I h) fun v s1 ⟨x, H1, I1, r1, a, xs, ex, hx, q⟩ => ?_)⟩
  subst ex
  cases r1
  have st : PO X (some (.UnaryOp .USub (.Constant (.int 1) k p1) p2)) (tPart (tUn (rU fun i => .int (-i)) (tC (.int 1)))) := po_some (pe_un un_neg pe_int)
  refine wpAny_Slice ?_
  refine thn (po_none.run pins s1 σ H1 (fun o H2 => o = none ∧ H2 = H1) I1 ⟨rfl, rfl⟩) fun w1 s2 ⟨o1, G2, I2, q1, e1, e2⟩ => ?_
  subst e1 e2
  refine thn (po_none.run pins s2 σ G2 (fun o H3 => o = none ∧ H3 = G2) I2 ⟨rfl, rfl⟩) fun w2 s3 ⟨o2, G3, I3, q2, e1, e2⟩ => ?_
  subst e1 e2
  refine thn (st.run pins s3 σ G3 (fun o H4 => o = some (-1) ∧ H4 = G3) I3 ⟨1, rfl, -1, rfl, rfl, rfl⟩) fun w3 s4 ⟨o3, G4, I4, q3, e1, e2⟩ => ?_
  subst e1 e2
  have I5 : L2.Inv X pins σ G4 { s4 with heap := s4.heap.push { cls := .type "slice", data := .fields #[w1, w2, w3] } } := I4.kept (t' := s4.toks) fun b ob z => Heap.get?_push_of_some _ z
  obtain ⟨its, r, ht, hz⟩ := I5.tuple hx
  have n1 : w1 = .none := by cases w1 <;> first | rfl | cases q1
  have n2 : w2 = .none := by cases w2 <;> first | rfl | cases q2
  subst n1 n2
  refine (show wpAny (model X.prog X.w) X.A (subscriptTail e (.Slice none none (some (.UnaryOp .USub (.Constant (.int 1) k p1) p2)) p3) (.ref a) (.ref s4.heap.objs.size)) (EP X pins σ Q) X.xe { s4 with heap := s4.heap.push { cls := .type "slice", data := .fields #[.none, .none, w3] } } from ?_)
  refine tail_any (ops := [.ref a, .ref s4.heap.objs.size]) ht.typeIs (PyProof.Rows.slot_tuple_getitem.lookup) ?_ (by with_unfolding_all rfl)
  refine getItem_back ht (Heap.IsSliceOf.new _ _ _ _) q3 (by have := r.length; rw [List.size_toArray]; omega) ?_
  refine ⟨.ref _, _, I5.laid (t' := s4.toks) (o := .tup xs.reverse) (fun b ob z => Heap.get?_push_of_some _ z) (Nat.le_refl _) ?_, rfl, q _ (I5.hok.fresh (Nat.le_refl _))⟩
  exact ⟨by rw [List.length_reverse]; exact hz, its.reverse, r.reverse, ⟨_, Heap.get?_push_size _ rfl, rfl, 0, by simp⟩⟩
end
end EV

set_option Elab.async false
set_option linter.all false
set_option maxRecDepth 100000
set_option maxHeartbeats 1000000
namespace EV
open PySem PySem.Spec PyProof.Rows L2
variable {K : PySem.W.Frag}

def notSetE : Expr → Bool
  | .Set .. => false
  | _ => true
def notSliceE : Expr → Bool
  | .Slice .. => false
  | _ => true
structure CG (X : Cx) : Prop where
  calm : X.calm = true
  nd : X.N.Nodup
  kind : X.env.scope.kind = .function
  un : X.A.units + 65 < cLine
  dp : X.A.depth + 5 < recursionLimit
structure Bl (X : Cx) (x : Str) : Prop where
  gl : Gl X x
  mg : X.mg x = none

section
variable {X : Cx} {Φ : Fns} {W : AW X.K} {a b c : Expr} {ia ib ic : IE} {pos : Pos}

theorem postE_ok {α β : Type} {R : Th X.K → Hp → α → β → Prop} {v : α} {h : AH} {Θ : Th X.K} {H : Hp} {Q : β → Hp → Prop} {E : XW X.K} (p : Post R (.ok v h) Θ H Q E) (hr : HR Θ h H) {x : β} (r : R Θ H v x) : Q x H := p Θ H x Tr.refl hr r

theorem s_var {i : Nat} {x : Str} (hN : X.N[i]? = some x) (hv : Vis X.env.scope x) (hd : (x == ("__debug__" : Str)) = false) (hcd : (x == ("__classdict__" : Str)) = false) : PE X (.Name x pos) (tE Φ W (.var i)) := by
  refine (pe_var hN hv hd hcd).wk fun σ H Q ⟨Θ, h, σa, hr, sr, p⟩ => ?_
  simp only [evE] at p
  split at p
  · rename_i v e
    obtain ⟨y, e1, r⟩ := sr.at_ i v e
    exact ⟨y, e1, postE_ok p hr r⟩
  · exact p.elim
theorem s_cst {e : Expr} {v : V} {d : AV} (hp : PE X e (tC v)) (hd : ∀ (Θ : Th X.K) H, Rep Θ H d v) : PE X e (tE Φ W (.cst d)) :=
  hp.wk fun σ H Q ⟨Θ, h, σa, hr, sr, p⟩ => postE_ok p hr (hd Θ H)

/-- two parts in a row -/
theorem two {σ : L2.St} {H : Hp} {α : Type} {P : Rs α → Th X.K → Hp → Prop} (bd : Bd P (EW W σ)) {k : AV → AV → AH → Rs α} {T : V → V → Hp → Prop}
    {Θ : Th X.K} {h : AH} {σa : ASt} (hr : HR Θ h H) (sr : SR Θ H σa σ) (p : P ((evE Φ ia σa h).bind fun x h1 => (evE Φ ib σa h1).bind fun y h2 => k x y h2) Θ H)
    (f : ∀ Θ2 h2 H2 x y u v, Tr Θ H Θ2 H2 → HR Θ2 h2 H2 → SR Θ2 H2 σa σ → Rep Θ2 H2 x u → Rep Θ2 H2 y v → P (k x y h2) Θ2 H2 → T u v H2) :
    tE Φ W ia σ H fun u H1 => tE Φ W ib σ H1 fun v H2 => T u v H2 := by
  refine ⟨Θ, h, σa, hr, sr, (bd.go _ _ Rep _ _ _ _ p).imp fun u H1 ⟨Θ1, h1, x, t1, hr1, rx, _, p1⟩ => ?_⟩
  refine ⟨Θ1, h1, σa, hr1, sr.mono t1, (bd.go _ _ Rep _ _ _ _ p1).imp fun v H2 ⟨Θ2, h2, y, t2, hr2, ry, _, p2⟩ => ?_⟩
  exact f Θ2 h2 H2 x y u v (t1.trans t2) hr2 ((sr.mono t1).mono t2) (rx.mono t2) ry p2
theorem one {σ : L2.St} {H : Hp} {α : Type} {P : Rs α → Th X.K → Hp → Prop} (bd : Bd P (EW W σ)) {k : AV → AH → Rs α} {T : V → Hp → Prop}
    {Θ : Th X.K} {h : AH} {σa : ASt} (hr : HR Θ h H) (sr : SR Θ H σa σ) (p : P ((evE Φ ia σa h).bind k) Θ H)
    (f : ∀ Θ1 h1 H1 x u, Tr Θ H Θ1 H1 → HR Θ1 h1 H1 → SR Θ1 H1 σa σ → Rep Θ1 H1 x u → P (k x h1) Θ1 H1 → T u H1) :
    tE Φ W ia σ H fun u H1 => T u H1 :=
  ⟨Θ, h, σa, hr, sr, (bd.go _ _ Rep _ _ _ _ p).imp fun u H1 ⟨Θ1, h1, x, t1, hr1, rx, _, p1⟩ => f Θ1 h1 H1 x u t1 hr1 (sr.mono t1) rx p1⟩
theorem oneL {σ : L2.St} {H : Hp} {α : Type} {P : Rs α → Th X.K → Hp → Prop} (bd : Bd P (EW W σ)) {k : List AV → AH → Rs α} {T : List V → Hp → Prop}
    {Θ : Th X.K} {h : AH} {σa : ASt} (hr : HR Θ h H) (sr : SR Θ H σa σ) (p : P ((evL Φ ia σa h).bind k) Θ H)
    (f : ∀ Θ1 h1 H1 x u, Tr Θ H Θ1 H1 → HR Θ1 h1 H1 → SR Θ1 H1 σa σ → RepL Θ1 H1 x u → P (k x h1) Θ1 H1 → T u H1) :
    tL Φ W ia σ H fun u H1 => T u H1 :=
  ⟨Θ, h, σa, hr, sr, (bd.go _ _ RepL _ _ _ _ p).imp fun u H1 ⟨Θ1, h1, x, t1, hr1, rx, _, p1⟩ => f Θ1 h1 H1 x u t1 hr1 (sr.mono t1) rx p1⟩
theorem oneT {σ : L2.St} {H : Hp} {α : Type} {P : Rs α → Th X.K → Hp → Prop} (bd : Bd P (EW W σ)) {k : Bool → AH → Rs α} {T : Bool → Hp → Prop}
    {Θ : Th X.K} {h : AH} {σa : ASt} (hr : HR Θ h H) (sr : SR Θ H σa σ) (p : P ((evT Φ ia σa h).bind k) Θ H)
    (f : ∀ Θ1 h1 H1 x, Tr Θ H Θ1 H1 → HR Θ1 h1 H1 → SR Θ1 H1 σa σ → P (k x h1) Θ1 H1 → T x H1) :
    tT Φ W ia σ H fun u H1 => T u H1 :=
  ⟨Θ, h, σa, hr, sr, (bd.go _ _ REq _ _ _ _ p).imp fun u H1 ⟨Θ1, h1, x, t1, hr1, rx, _, p1⟩ => by
    cases rx
    exact f Θ1 h1 H1 _ t1 hr1 (sr.mono t1) p1⟩
theorem oneO {σ : L2.St} {H : Hp} {α : Type} {P : Rs α → Th X.K → Hp → Prop} (bd : Bd P (EW W σ)) {k : Option Int → AH → Rs α} {T : Option Int → Hp → Prop}
    {Θ : Th X.K} {h : AH} {σa : ASt} (hr : HR Θ h H) (sr : SR Θ H σa σ) (p : P ((evO Φ ia σa h).bind k) Θ H)
    (f : ∀ Θ1 h1 H1 x, Tr Θ H Θ1 H1 → HR Θ1 h1 H1 → SR Θ1 H1 σa σ → P (k x h1) Θ1 H1 → T x H1) :
    tO Φ W ia σ H fun u H1 => T u H1 :=
  ⟨Θ, h, σa, hr, sr, (bd.go _ _ REq _ _ _ _ p).imp fun u H1 ⟨Θ1, h1, x, t1, hr1, rx, _, p1⟩ => by
    cases rx
    exact f Θ1 h1 H1 _ t1 hr1 (sr.mono t1) p1⟩
theorem fin_of {v : AV} {h : AH} {Θ : Th X.K} {H : Hp} {Q : VK} {E : XW X.K} (p : Post Rep (.ok v h) Θ H Q E) : Fin Θ h H v Q := p
theorem rV2_of {f : AH → AV → AV → Option AV} {Θ : Th X.K} {h : AH} {H : Hp} {x y : AV} {u v : V} {Q : VK} {E : XW X.K} (hr : HR Θ h H) (rx : Rep Θ H x u) (ry : Rep Θ H y v) (p : PostF (ofO (f h x y) h) Θ H Q E) : rV2 X.K f u v H Q := by
  obtain ⟨w, e, p⟩ := p.ofO
  exact ⟨Θ, h, x, y, w, hr, rx, ry, e, p⟩

theorem s_bin {op : Operator} {o : Bop} (ho : opOf op = some o) (ha : PE X a (tE Φ W ia)) (hb : PE X b (tE Φ W ib)) : PE X (.BinOp a op b pos) (tF Φ W (.bin o ia ib)) :=
  (pe_op (vo_bin ho) ha hb).wk fun σ H Q ⟨Θ, h, σa, hr, sr, p⟩ => two bdF hr sr p fun _ _ _ _ _ _ _ _ hr2 _ rx ry p2 => rV2_of hr2 rx ry p2
theorem marks_of {op : CmpOp} (hb : notSetE b = true) : behindInMarks op b = false := by
  cases b <;> first | rfl | cases hb
theorem s_cmp {op : CmpOp} {o : Cop} (g : CG X) (ho : copOf op = some o) (hm : notSetE b = true) (ha : PE X a (tE Φ W ia)) (hb : PE X b (tE Φ W ib)) : PE X (.Compare a [op] [b] pos) (tE Φ W (.cmp o ia ib)) :=
  (pe_cmpR (vo_cmp g.un ho) ha hb (marks_of hm)).wk fun σ H Q ⟨Θ, h, σa, hr, sr, p⟩ => two bdP hr sr p fun _ _ _ _ _ _ _ _ hr2 _ rx ry p2 => rV2_of (f := fun h a b => (cmpO h o a b).map .bl) hr2 rx ry (PostF.of p2)
theorem cmp_bl {h : AH} {o : Cop} {x y : AV} {Θ : Th X.K} {H : Hp} {Q : Bool → Hp → Prop} {E : XW X.K} (p : Post REq ((ofO ((cmpO h o x y).map .bl) h).bind fun x h1 => ofO (truO h1 x) h1) Θ H Q E) : ∃ c, cmpO h o x y = some c ∧ ∀ Θ' H', Tr Θ H Θ' H' → HR Θ' h H' → Q c H' := by
  cases e : cmpO h o x y with
  | none => rw [e] at p; exact p.elim
  | some c =>
    rw [e] at p
    exact ⟨c, rfl, fun Θ' H' t hr => p Θ' H' c t hr rfl⟩
theorem s_cmpT {op : CmpOp} {o : Cop} (g : CG X) (ho : copOf op = some o) (hm : notSetE b = true) (ha : PE X a (tE Φ W ia)) (hb : PE X b (tE Φ W ib)) : PT X (.Compare a [op] [b] pos) (tT Φ W (.tst (.cmp o ia ib))) := by
  refine (pt_cmpR (vo_cmp g.un ho) ha hb (marks_of hm)).wk fun σ H Q ⟨Θ, h, σa, hr, sr, p⟩ => ?_
  simp only [evT, evE] at p
  have p' : Post REq ((evE Φ ia σa h).bind fun x h1 => (evE Φ ib σa h1).bind fun y h2 => (ofO ((cmpO h2 o x y).map .bl) h2).bind fun x h1 => ofO (truO h1 x) h1) Θ H Q (EW W σ) := by
    cases e1 : evE Φ ia σa h with
    | ok x h1 =>
      rw [e1] at p
      simp only [Rs.bind_ok] at p ⊢
      cases e2 : evE Φ ib σa h1 with
      | ok y h2 => rw [e2] at p; exact p
      | ex c as h2 => rw [e2] at p; exact p
      | bad => rw [e2] at p; exact p
    | ex c as h1 => rw [e1] at p; exact p
    | bad => rw [e1] at p; exact p
  refine two bdP hr sr p' fun Θ2 h2 H2 x y u v _ hr2 _ rx ry p2 => ?_
  obtain ⟨c, ec, q⟩ := cmp_bl p2
  exact ⟨Θ2, h2, x, y, .bl c, hr2, rx, ry, by show Option.map AV.bl (cmpO _ _ _ _) = _; rw [ec]; rfl, fun Θ' H' z t hr' rz => by cases rz; exact ⟨c, rfl, q Θ' H' t hr'⟩⟩
/-- is None -/
theorem isn_rep {Θ : Th X.K} {H : Hp} {x : AV} {u : V} (r : Rep Θ H x u) : isNon x = decide (u = .non) := by
  cases r <;> simp [isNon]
theorem s_isn {j : Nat} {pos' : Pos} (ha : PE X a (tE Φ W ia)) : PE X (.Compare a [.Is] [.Constant .none j pos'] pos) (tE Φ W (.cmp .isn ia (.cst .non))) :=
  (pe_cmp (pc_isN ha)).wk fun σ H Q ⟨Θ, h, σa, hr, sr, p⟩ => one bdP hr sr p fun Θ1 h1 H1 x u _ hr1 _ rx p1 => by
    have p1 : Post Rep (ofO ((cmpO h1 .isn x .non).map .bl) h1) Θ1 H1 Q (EW W σ) := p1
    simp only [cmpO, Option.map_some, ofO_some] at p1
    rw [← isn_rep rx]
    exact postE_ok p1 hr1 (.bl _)
theorem s_ntn {j : Nat} {pos' : Pos} (ha : PE X a (tE Φ W ia)) : PE X (.Compare a [.IsNot] [.Constant .none j pos'] pos) (tE Φ W (.cmp .ntn ia (.cst .non))) :=
  (pe_cmp (pc_notN ha)).wk fun σ H Q ⟨Θ, h, σa, hr, sr, p⟩ => one bdP hr sr p fun Θ1 h1 H1 x u _ hr1 _ rx p1 => by
    have p1 : Post Rep (ofO ((cmpO h1 .ntn x .non).map .bl) h1) Θ1 H1 Q (EW W σ) := p1
    simp only [cmpO, Option.map_some, ofO_some] at p1
    have e : (!isNon x) = !decide (u = .non) := by rw [← isn_rep rx]
    rw [← e]
    exact postE_ok p1 hr1 (.bl _)
theorem s_isnT {j : Nat} {pos' : Pos} (ha : PE X a (tE Φ W ia)) : PT X (.Compare a [.Is] [.Constant .none j pos'] pos) (tT Φ W (.tst (.cmp .isn ia (.cst .non)))) :=
  (pt_cmp (pc_isN ha)).wk fun σ H Q ⟨Θ, h, σa, hr, sr, p⟩ => by
    have p : Post REq ((evE Φ ia σa h).bind fun x h1 => .ok (isNon x) h1) Θ H Q (EW W σ) := by
      simp only [evT, evE] at p
      cases e1 : evE Φ ia σa h with
      | ok x h1 => rw [e1] at p; exact p
      | ex c as h1 => rw [e1] at p; exact p
      | bad => rw [e1] at p; exact p
    exact one bdP hr sr p fun Θ1 h1 H1 x u _ hr1 _ rx p1 => ⟨_, rfl, by rw [← isn_rep rx]; exact postE_ok p1 hr1 rfl⟩
theorem s_ntnT {j : Nat} {pos' : Pos} (ha : PE X a (tE Φ W ia)) : PT X (.Compare a [.IsNot] [.Constant .none j pos'] pos) (tT Φ W (.tst (.cmp .ntn ia (.cst .non)))) :=
  (pt_cmp (pc_notN ha)).wk fun σ H Q ⟨Θ, h, σa, hr, sr, p⟩ => by
    have p : Post REq ((evE Φ ia σa h).bind fun x h1 => .ok (!isNon x) h1) Θ H Q (EW W σ) := by
      simp only [evT, evE] at p
      cases e1 : evE Φ ia σa h with
      | ok x h1 => rw [e1] at p; exact p
      | ex c as h1 => rw [e1] at p; exact p
      | bad => rw [e1] at p; exact p
    exact one bdP hr sr p fun Θ1 h1 H1 x u _ hr1 _ rx p1 => ⟨_, rfl, by
      have e : (!isNon x) = !decide (u = .non) := by rw [← isn_rep rx]
      rw [← e]; exact postE_ok p1 hr1 rfl⟩
theorem s_chn {op op' : CmpOp} {o o' : Cop} (g : CG X) (ho : copOf op = some o) (ho' : copOf op' = some o') (hm : notSetE c = true) (ha : PE X a (tE Φ W ia)) (hb : PE X b (tE Φ W ib)) (hc : PE X c (tE Φ W ic)) :
    PE X (.Compare a [op, op'] [b, c] pos) (tE Φ W (.chn o o' ia ib ic)) := by
  refine (pe_chain (vo_cmp g.un ho) (vo_cmp g.un ho') ha hb hc (marks_of hm)).wk fun σ H Q ⟨Θ, h, σa, hr, sr, p⟩ => two bdP hr sr p fun Θ2 h2 H2 x y u v _ hr2 sr2 rx ry p2 => ?_
  cases e : cmpO h2 o x y with
  | none => rw [e] at p2; exact p2.elim
  | some k =>
    rw [e] at p2
    refine ⟨Θ2, h2, x, y, .bl k, hr2, rx, ry, by show Option.map AV.bl (cmpO _ _ _ _) = _; rw [e]; rfl, fun Θ3 H3 z t3 hr3 rz => ?_⟩
    cases rz
    refine ⟨k, rfl, ?_⟩
    cases k with
    | false => exact p2 Θ3 H3 _ t3 hr3 (.bl _)
    | true =>
      rw [if_pos rfl]
      exact one bdP hr3 (sr2.mono t3) (Post.start p2 t3) fun Θ4 h4 H4 z w t4 hr4 _ rz p4 => rV2_of (f := fun h a b => (cmpO h o' a b).map .bl) hr4 ((ry.mono t3).mono t4) rz (PostF.of p4)
theorem s_chnT {op op' : CmpOp} {o o' : Cop} (g : CG X) (ho : copOf op = some o) (ho' : copOf op' = some o') (hm : notSetE c = true) (ha : PE X a (tE Φ W ia)) (hb : PE X b (tE Φ W ib)) (hc : PE X c (tE Φ W ic)) :
    PT X (.Compare a [op, op'] [b, c] pos) (tT Φ W (.tst (.chn o o' ia ib ic))) := by
  refine (pt_chain (vo_cmp g.un ho) (vo_cmp g.un ho') ha hb hc (marks_of hm)).wk fun σ H Q ⟨Θ, h, σa, hr, sr, p⟩ => ?_
  have p' : Post Rep (evE Φ (.chn o o' ia ib ic) σa h) Θ H (fun x H' => ∃ k, x = .bl k ∧ Q k H') (EW W σ) := by
    simp only [evT] at p
    have key : ∀ r : Rs AV, (∀ v h', r = .ok v h' → ∃ k, v = .bl k) → Post REq (r.bind fun x h1 => ofO (truO h1 x) h1) Θ H Q (EW W σ) → Post Rep r Θ H (fun x H' => ∃ k, x = .bl k ∧ Q k H') (EW W σ) := by
      intro r hb p
      cases r with
      | ok v h' =>
        obtain ⟨k, rfl⟩ := hb v h' rfl
        exact fun Θ' H' x t hr rr => by cases rr; exact ⟨k, rfl, p Θ' H' k t hr rfl⟩
      | ex c as h' => exact p
      | bad => exact p
    refine key _ (fun v h' e => ?_) p
    simp only [evE] at e
    cases e1 : evE Φ ia σa h with
    | ok x h1 =>
      rw [e1] at e; simp only [Rs.bind_ok] at e
      cases e2 : evE Φ ib σa h1 with
      | ok y h2 =>
        rw [e2] at e; simp only [Rs.bind_ok] at e
        cases e3 : cmpO h2 o x y with
        | none => rw [e3] at e; cases e
        | some k =>
          rw [e3] at e
          cases k with
          | false => cases e; exact ⟨_, rfl⟩
          | true =>
            simp only at e
            cases e4 : evE Φ ic σa h2 with
            | ok z h3 =>
              rw [e4] at e; simp only [Rs.bind_ok] at e
              cases e5 : cmpO h3 o' y z with
              | none => rw [e5] at e; cases e
              | some k => rw [e5] at e; cases e; exact ⟨_, rfl⟩
            | ex => rw [e4] at e; cases e
            | bad => rw [e4] at e; cases e
      | ex => rw [e2] at e; cases e
      | bad => rw [e2] at e; cases e
    | ex => rw [e1] at e; cases e
    | bad => rw [e1] at e; cases e
  simp only [evE] at p'
  refine two bdP hr sr p' fun Θ2 h2 H2 x y u v _ hr2 sr2 rx ry p2 => ?_
  cases e : cmpO h2 o x y with
  | none => rw [e] at p2; exact p2.elim
  | some k =>
    rw [e] at p2
    refine ⟨Θ2, h2, x, y, .bl k, hr2, rx, ry, by show Option.map AV.bl (cmpO _ _ _ _) = _; rw [e]; rfl, fun Θ3 H3 z t3 hr3 rz => ?_⟩
    cases rz
    refine ⟨k, rfl, ?_⟩
    cases k with
    | false => exact p2 Θ3 H3 _ t3 hr3 (.bl _)
    | true =>
      rw [if_pos rfl]
      exact one bdP hr3 (sr2.mono t3) (Post.start p2 t3) fun Θ4 h4 H4 z w t4 hr4 _ rz p4 => rV2_of (f := fun h a b => (cmpO h o' a b).map .bl) hr4 ((ry.mono t3).mono t4) rz (PostF.of p4)

theorem s_neg (ha : PE X a (tE Φ W ia)) : PE X (.UnaryOp .USub a pos) (tE Φ W (.neg ia)) :=
  (pe_un un_neg ha).wk fun σ H Q ⟨Θ, h, σa, hr, sr, p⟩ => one bdP hr sr p fun Θ1 h1 H1 x u _ hr1 _ rx p1 => by
    cases rx with
    | int i => exact ⟨i, rfl, postE_ok p1 hr1 (.int _)⟩
    | _ => exact p1.elim
theorem s_nt (ha : PE X a (tE Φ W ia)) : PE X (.UnaryOp .Not a pos) (tE Φ W (.nt ia)) :=
  (pe_notT ha).wk fun σ H Q ⟨Θ, h, σa, hr, sr, p⟩ => one bdP hr sr p fun Θ1 h1 H1 x u _ hr1 _ rx p1 => by
    cases e : truO h1 x with
    | none => rw [e] at p1; exact p1.elim
    | some k => rw [e] at p1; exact ⟨k, tru_rep hr1 rx e, postE_ok p1 hr1 (.bl _)⟩
theorem s_and {rest : List Expr} (ha : PE X a (tE Φ W ia)) (hb : PE X (.BoolOp .And (b :: rest) pos) (tE Φ W ib)) : PE X (.BoolOp .And (a :: b :: rest) pos) (tE Φ W (.and ia ib)) :=
  (pe_andT ha hb).wk fun σ H Q ⟨Θ, h, σa, hr, sr, p⟩ => one bdP hr sr p fun Θ1 h1 H1 x u _ hr1 sr1 rx p1 => by
    cases e : truO h1 x with
    | none => rw [e] at p1; exact p1.elim
    | some k =>
      rw [e] at p1
      refine ⟨k, tru_rep hr1 rx e, ?_⟩
      cases k with
      | true => exact ⟨Θ1, h1, σa, hr1, sr1, p1⟩
      | false => exact postE_ok p1 hr1 rx
theorem s_or {rest : List Expr} (ha : PE X a (tE Φ W ia)) (hb : PE X (.BoolOp .Or (b :: rest) pos) (tE Φ W ib)) : PE X (.BoolOp .Or (a :: b :: rest) pos) (tE Φ W (.or ia ib)) :=
  (pe_orT ha hb).wk fun σ H Q ⟨Θ, h, σa, hr, sr, p⟩ => one bdP hr sr p fun Θ1 h1 H1 x u _ hr1 sr1 rx p1 => by
    cases e : truO h1 x with
    | none => rw [e] at p1; exact p1.elim
    | some k =>
      rw [e] at p1
      refine ⟨k, tru_rep hr1 rx e, ?_⟩
      cases k with
      | false => exact ⟨Θ1, h1, σa, hr1, sr1, p1⟩
      | true => exact postE_ok p1 hr1 rx
theorem s_ife (hc : PT X c (tT Φ W ic)) (ha : PE X a (tE Φ W ia)) (hb : PE X b (tE Φ W ib)) : PE X (.IfExp c a b pos) (tE Φ W (.ife ic ia ib)) :=
  (pe_ifExp hc ha hb).wk fun σ H Q ⟨Θ, h, σa, hr, sr, p⟩ => oneT bdP hr sr p fun Θ1 h1 H1 k _ hr1 sr1 p1 => by
    cases k with
    | true => exact ⟨Θ1, h1, σa, hr1, sr1, p1⟩
    | false => exact ⟨Θ1, h1, σa, hr1, sr1, p1⟩

theorem PostF.start {r : Rs AV} {Θ Θ1 : Th K} {H H1 : Hp} {Q : VK} {E : XW K} (p : PostF r Θ H Q E) (t : Tr Θ H Θ1 H1) : PostF r Θ1 H1 Q E := by
  cases r with
  | ok v h2 => exact FinF.start p t
  | ex c as h2 => exact fun Θ' H' t' => p Θ' H' (t.trans t')
  | bad => exact p
/-- x or y, where each makes a new list -/
theorem f_or (ha : PE X a (tF Φ W ia)) (hb : PE X b (tF Φ W ib)) : PE X (.BoolOp .Or [a, b] pos) (tF Φ W (.or ia ib)) :=
  (pe_orT ha (pe_one hb)).wk fun σ H Q ⟨Θ, h, σa, hr, sr, p⟩ => by
    have p : PostF ((evE Φ ia σa h).bind fun x h1 => match truO h1 x with
      | some true => .ok x h1
      | some false => evE Φ ib σa h1
      | none => .bad) Θ H Q (EW W σ) := p
    refine ⟨Θ, h, σa, hr, sr, ?_⟩
    cases e : evE Φ ia σa h with
    | bad => rw [e] at p; exact p
    | ex c as h1 => rw [e] at p; exact p
    | ok v h1 =>
      rw [e] at p
      simp only [Rs.bind_ok] at p
      have gen : ∀ Θ' H' z, Tr Θ H Θ' H' → HR Θ' h1 H' → Rep Θ' H' v z → (truO h1 v = some true → Q z H') → ∃ k, TruV X.K z H' k ∧ if k = true then Q z H' else tF Φ W ib σ H' Q := fun Θ' H' z t hr' r hq => by
        cases et : truO h1 v with
        | none => rw [et] at p; exact p.elim
        | some k =>
          rw [et] at p
          refine ⟨k, tru_rep hr' r et, ?_⟩
          cases k with
          | true => exact hq et
          | false => exact ⟨Θ', h1, σa, hr', sr.mono t, PostF.start p t⟩
      cases v with
      | lst xs =>
        intro Θ' H' q vs t nq f hr' eq rl
        refine gen Θ' H' _ t hr'.unhide (.lst eq f rl.unhide) fun et => ?_
        rw [et] at p
        exact p Θ' H' q vs t nq f hr' eq rl
      | _ =>
        intro Θ' H' z t hr' r
        refine gen Θ' H' z t hr' r fun et => ?_
        rw [et] at p
        exact p Θ' H' z t hr' r

/-! ### tests -/
theorem t_not (ha : PT X a (tT Φ W ia)) : PT X (.UnaryOp .Not a pos) (tT Φ W (.nt ia)) :=
  (pt_not ha).wk fun σ H Q ⟨Θ, h, σa, hr, sr, p⟩ => oneT bdP hr sr p fun Θ1 h1 H1 k _ hr1 sr1 p1 => postE_ok p1 hr1 rfl
theorem t_plain (ha : PE X a (tE Φ W ia)) (he : ∀ whole, isTrue a X.env whole = (do let v ← whole; standAt a.pos; holding [v] (truthy v))) : PT X a (tT Φ W (.tst ia)) :=
  (pt_truth ha he).wk fun σ H Q ⟨Θ, h, σa, hr, sr, p⟩ => one bdP hr sr p fun Θ1 h1 H1 x u _ hr1 sr1 rx p1 => by
    obtain ⟨k, e, q⟩ := p1.ofO
    exact ⟨k, tru_rep hr1 rx e, q Θ1 H1 k Tr.refl hr1 rfl⟩
theorem _root_.L2.PW.wk {e : Expr} {t t' : TT} (h : PW X e t) (f : ∀ σ H Q, t' σ H Q → t σ H Q) : PW X e t' := ⟨fun wh pins s σ H Q I q => h.run wh pins s σ H Q I (f _ _ _ q)⟩
theorem w_and {rest : List Expr} (ha : PT X a (tT Φ W ia)) (hb : PW X (.BoolOp .And (b :: rest) pos) (tT Φ W ib)) : PW X (.BoolOp .And (a :: b :: rest) pos) (tT Φ W (.and ia ib)) :=
  PW.wk (pw_and ha hb) fun σ H Q ⟨Θ, h, σa, hr, sr, p⟩ => oneT bdP hr sr p fun Θ1 h1 H1 k _ hr1 sr1 p1 => by
    cases k with
    | true => exact ⟨Θ1, h1, σa, hr1, sr1, p1⟩
    | false => exact postE_ok p1 hr1 rfl
theorem w_or {rest : List Expr} (ha : PT X a (tT Φ W ia)) (hb : PW X (.BoolOp .Or (b :: rest) pos) (tT Φ W ib)) : PW X (.BoolOp .Or (a :: b :: rest) pos) (tT Φ W (.or ia ib)) :=
  PW.wk (pw_or ha hb) fun σ H Q ⟨Θ, h, σa, hr, sr, p⟩ => oneT bdP hr sr p fun Θ1 h1 H1 k _ hr1 sr1 p1 => by
    cases k with
    | false => exact ⟨Θ1, h1, σa, hr1, sr1, p1⟩
    | true => exact postE_ok p1 hr1 rfl

/-! ### spines, displays -/
theorem l_nil : PA X [] (tL Φ W .nil) := pa_nil.wk fun σ H Q ⟨Θ, h, σa, hr, sr, p⟩ => postE_ok p hr .nil
def notStar : Expr → Bool
  | .Starred .. => false
  | _ => true
theorem star_of {e : Expr} {es : List Expr} {env : Env} (h : notStar e = true) : starEach (e :: es) env = (false, eval e env) :: starEach es env := by
  cases e <;> first | rfl | cases h
theorem l_cons {es : List Expr} (hn : notStar a = true) (ha : PE X a (tE Φ W ia)) (hs : PA X es (tL Φ W ib)) : PA X (a :: es) (tL Φ W (.cons ia ib)) :=
  (pa_cons ha hs (star_of hn)).wk fun σ H Q ⟨Θ, h, σa, hr, sr, p⟩ => one bdP hr sr p fun Θ1 h1 H1 x u _ hr1 sr1 rx p1 =>
    oneL bdP hr1 sr1 p1 fun Θ2 h2 H2 xs us t2 hr2 _ rxs p2 => postE_ok p2 hr2 (.cons (rx.mono t2) rxs)
theorem l_star {es : List Expr} {p0 : Pos} (ha : PE X a (tE Φ W ia)) (hs : PA X es (tL Φ W ib)) : PA X (.Starred a p0 :: es) (tL Φ W (.star ia ib)) :=
  (StX.pa_star ha hs).wk fun σ H Q ⟨Θ, h, σa, hr, sr, p⟩ => one bdP hr sr p fun Θ1 h1 H1 x u _ hr1 sr1 rx p1 => by
    cases e : itemsOf h1 x with
    | none => rw [e] at p1; exact p1.elim
    | some l =>
      rw [e] at p1
      obtain ⟨q, vs, rfl, hq, rl⟩ := items_rep (K := X.K) hr1 rx e
      exact ⟨q, vs, rfl, hq.symm, oneL bdP hr1 sr1 p1 fun Θ2 h2 H2 xs us t2 hr2 _ rxs p2 => postE_ok p2 hr2 ((rl.mono t2).append rxs)⟩
theorem s_tup {es : List Expr} {k : Nat} (hs : PA X es (tL Φ W ia)) : PE X (.Tuple es k pos) (tE Φ W (.tup ia)) :=
  (pe_tup hs).wk fun σ H Q ⟨Θ, h, σa, hr, sr, p⟩ => oneL bdP hr sr p fun Θ1 h1 H1 xs us _ hr1 _ rx p1 => by
    split at p1
    · rename_i hz
      exact ⟨by rw [← rx.length, ← SZ_eq]; exact hz, FinF.newT (FinF.of (fin_of p1)) hr1 rx⟩
    · exact p1.elim
theorem s_lst {es : List Expr} (hs : PA X es (tL Φ W ia)) : PE X (.List es pos) (tF Φ W (.lst ia)) :=
  (pe_lst hs).wk fun σ H Q ⟨Θ, h, σa, hr, sr, p⟩ => oneL bdF hr sr p fun Θ1 h1 H1 xs us _ hr1 _ rx p1 => by
    split at p1
    · rename_i hz
      exact ⟨by rw [← rx.length, ← SZ_eq]; exact hz, FinF.newL p1 hr1 rx⟩
    · exact p1.elim

/-! ### subscripts -/
theorem plainIx_of (hb : notSliceE b = true) : PlainIx b := by
  cases b <;> first | (intro o i; rfl) | cases hb
theorem s_idx (hm : notSliceE b = true) (ha : PE X a (tE Φ W ia)) (hb : PE X b (tE Φ W ib)) : PE X (.Subscript a b pos) (tE Φ W (.idx ia ib)) :=
  (pe_ix vx_idx ha hb (plainIx_of hm)).wk fun σ H Q ⟨Θ, h, σa, hr, sr, p⟩ => two bdP hr sr p fun Θ2 h2 H2 x y u v _ hr2 _ rx ry p2 => by
    cases e : intO y with
    | none => rw [e] at p2; exact p2.elim
    | some k =>
      rw [e] at p2
      obtain ⟨w, ew, q⟩ := p2.ofO
      exact ⟨Θ2, h2, x, y, w, hr2, rx, ry, by show (intO y).bind _ = _; rw [e]; exact ew, q⟩
theorem o_none : PO X none (tO Φ W .omit) := po_none.wk fun σ H Q ⟨Θ, h, σa, hr, sr, p⟩ => postE_ok p hr rfl
theorem o_some (ha : PE X a (tE Φ W ia)) : PO X (some a) (tO Φ W (.som ia)) :=
  (po_some ha).wk fun σ H Q ⟨Θ, h, σa, hr, sr, p⟩ => one bdP hr sr p fun Θ1 h1 H1 x u _ hr1 _ rx p1 => by
    cases rx with
    | int i => exact ⟨i, rfl, postE_ok p1 hr1 rfl⟩
    | _ => exact p1.elim
theorem s_slc {lo hi : Option Expr} {il iu : IE} {p2 : Pos} (ha : PE X a (tE Φ W ia)) (hl : PO X lo (tO Φ W il)) (hu : PO X hi (tO Φ W iu)) : PE X (.Subscript a (.Slice lo hi none p2) pos) (tF Φ W (.slc ia il iu)) :=
  (pe_slice vx_slc ha hl hu).wk fun σ H Q ⟨Θ, h, σa, hr, sr, p⟩ => one bdF hr sr p fun Θ1 h1 H1 x u t1 hr1 sr1 rx p1 =>
    oneO bdF hr1 sr1 p1 fun Θ2 h2 H2 l t2 hr2 sr2 p2 => oneO bdF hr2 sr2 p2 fun Θ3 h3 H3 m t3 hr3 sr3 p3 => by
      obtain ⟨w, ew, q⟩ := p3.ofO
      exact ⟨Θ3, h3, x, w, hr3, (rx.mono t2).mono t3, ew, q⟩
theorem _root_.L2.PE.orE {X : Cx} {e : Expr} {t t' : TE} (h : PE X e t) (h' : PE X e t') : PE X e (fun σ H Q => t σ H Q ∨ t' σ H Q) := ⟨fun pins s σ H Q I q => by
  rcases q with q | q
  · exact h.run pins s σ H Q I q
  · exact h'.run pins s σ H Q I q⟩
theorem s_rev {k : Nat} {p1 p2 p3 : Pos} (ha : PE X a (tE Φ W ia)) : PE X (.Subscript a (.Slice none none (some (.UnaryOp .USub (.Constant (.int 1) k p1) p2)) p3) pos) (tF Φ W (.rev ia)) :=
  ((pe_revL ha).orE (pe_rev2 ha)).wk fun σ H Q ⟨Θ, h, σa, hr, sr, p⟩ => by
    have p : PostF ((evE Φ ia σa h).bind fun x h1 => ofO (revO h1 x) h1) Θ H Q (EW W σ) := p
    by_cases ht : ∃ l h1, evE Φ ia σa h = .ok (.tup l) h1
    · obtain ⟨l, h1, el⟩ := ht
      refine .inr ⟨Θ, h, σa, hr, sr, (bdF.go _ _ Rep _ _ _ _ p).imp fun u H1 ⟨Θ1, h1, x, t1, hr1, rx, ex, p1⟩ => ?_⟩
      rw [el] at ex
      cases ex
      cases rx with
      | tup e1 f1 l1 => exact ⟨_, _, rfl, SqT.of e1, FinF.newT p1 hr1 l1.reverse⟩
    · refine .inl ⟨Θ, h, σa, hr, sr, (bdF.go _ _ Rep _ _ _ _ p).imp fun u H1 ⟨Θ1, h1, x, t1, hr1, rx, ex, p1⟩ => ?_⟩
      have p1 : PostF (ofO ((lstOf h1 x).map fun l => .lst l.reverse) h1) Θ1 H1 Q (EW W σ) := by
        cases x with
        | tup l => exact absurd ⟨l, h1, ex⟩ ht
        | _ => exact p1
      cases e : lstOf h1 x with
      | none => rw [e] at p1; exact p1.elim
      | some l =>
        rw [e] at p1
        obtain ⟨q, vs, rfl, hq, rl⟩ := lst_rep hr1 rx e
        exact ⟨q, vs, rfl, SqL.of hq, FinF.newL p1 hr1 rl.reverse⟩

/-! ### built-in calls -/
theorem rVn_of {f : AH → List AV → Option AV} {Θ : Th X.K} {h : AH} {H : Hp} {x : List AV} {u : List V} {Q : VK} {E : XW X.K} (hr : HR Θ h H) (rx : RepL Θ H x u) (p : PostF (ofO (f h x) h) Θ H Q E) : rVn X.K f u H Q := by
  obtain ⟨w, e, p⟩ := p.ofO
  exact ⟨Θ, h, x, w, hr, rx, e, p⟩
theorem noStar_of : ∀ {es : List Expr}, es.all notStar = true → ∀ (env : Env) (pos : Pos), (backTo pos (starEach es env)).any (·.1) = false
  | [], _, _, _ => rfl
  | e :: es, h, env, pos => by
    simp only [List.all_cons, Bool.and_eq_true] at h
    rw [star_of h.1]
    show (false || (backTo pos (starEach es env)).any (·.1)) = false
    rw [noStar_of h.2]
    rfl
theorem s_bltB {es : List Expr} {x : Str} {id : String} {f : Bf} {p0 : Pos} (hc : CallR X (.builtin id) (rVn X.K fun h as => bfO h f as)) (b : Bl X x) (hv : bootBuiltins x = some (.builtin id)) (hs : PA X (a :: es) (tL Φ W ia)) (hn : x ≠ "__name__") (hdb : (x == ("__debug__" : Str)) = false)
    (h1 : notStar a = true) (h2 : es.all notStar = true) : PE X (.Call (.Name x p0) (a :: es) [] pos) (tF Φ W (.blt f ia)) :=
  (pe_callB hc b.gl b.mg hv hs hn hdb (star_of h1) (noStar_of h2 _ _)).wk fun σ H Q ⟨Θ, h, σa, hr, sr, p⟩ => oneL bdF hr sr p fun Θ1 h1 H1 xs us _ hr1 _ rx p1 => rVn_of (f := fun h as => bfO h f as) hr1 rx p1
theorem s_bltT {es : List Expr} {x : Str} {id : String} {f : Bf} {p0 : Pos} (hc : CallR X (.type id) (rVn X.K fun h as => bfO h f as)) (b : Bl X x) (hv : bootBuiltins x = some (.type id)) (hs : PA X (a :: es) (tL Φ W ia)) (hn : x ≠ "__name__") (hdb : (x == ("__debug__" : Str)) = false)
    (h1 : notStar a = true) (h2 : es.all notStar = true) : PE X (.Call (.Name x p0) (a :: es) [] pos) (tF Φ W (.blt f ia)) :=
  (pe_callTy hc b.gl b.mg hv hs hn hdb (star_of h1) (noStar_of h2 _ _)).wk fun σ H Q ⟨Θ, h, σa, hr, sr, p⟩ => oneL bdF hr sr p fun Θ1 h1 H1 xs us _ hr1 _ rx p1 => rVn_of (f := fun h as => bfO h f as) hr1 rx p1
end
end EV

set_option Elab.async false
set_option linter.all false
set_option maxRecDepth 100000
set_option maxHeartbeats 1000000
namespace EV
open PySem PySem.Spec PyProof.Rows L2

/-! ### enumerate of a text -/
def ItEs (x : Str) : It :=
  ⟨fun i _ => i < x.cps.size, fun i H v H' => ∃ T c, v = .ref T ∧ H T = none ∧ H' = upd H T (.tup [.int (i : Nat), .str ⟨#[c]⟩]) ∧ x.cps[i]? = some c, fun i _ => x.cps.size ≤ i⟩
theorem draws_str {prog : Program} {w : World} {A : Around} (hh : A.handled = none) (it : Addr) (x : Str) (t : Tok) :
    Draws prog w A it [it] x.cps.size (SignAt x) (fun i h => h.IsStrIter it (strIterType x) x t i) := by
  unfold strIterType
  split
  · exact Draws.strAscii hh it x t
  · exact Draws.strWide hh it x t
theorem cast_succ (i : Nat) : ((i + 1 : Nat) : Int) = (i : Int) + 1 := by omega
theorem turn_es {P : Program} {w : World} {K : PySem.W.Frag} {elts : List Expr} {kk : Nat} {tpos : Pos} (x : Str) (t : Tok) (e it : Addr) :
    Turn P w K (.Tuple elts kk tpos) (ItEs x) [e, it] e (fun i h => (∃ old, IsEnum h e it ((i : Nat) : Int) old) ∧ h.IsStrIter it (strIterType x) x t i ∧ e ≠ it ∧ i ≤ x.cps.size) where
  mem := List.mem_cons_self ..
  obj := fun i h ⟨⟨old, he⟩, ⟨o, ho, hc, hd⟩, _⟩ b hb => by
    rcases List.mem_cons.mp hb with z | z
    · rw [z]; exact ⟨_, he, fun v q => nomatch q⟩
    · rw [List.mem_singleton.mp z]; exact ⟨o, ho, fun v q => by rw [hd] at q; cases q⟩
  keep := fun i h h' ⟨⟨old, he⟩, ⟨o, ho, hr⟩, hne⟩ k => ⟨⟨old, k e (by simp) _ he⟩, ⟨o, k it (by simp) o ho, hr⟩, hne⟩
  item := by
    intro X hP hw hK hc i pins s σ H E I hf st hg
    subst hP hw hK
    obtain ⟨⟨old, he⟩, hit, hne, hle⟩ := st
    have hel : e < s.heap.objs.size := Heap.lt_size he
    have hil : it < s.heap.objs.size := by obtain ⟨_, q, _⟩ := hit; exact Heap.lt_size q
    have D := draws_str (prog := X.prog) (w := X.w) (A := X.A.in1) (I.ok.hd hc) it x t
    refine wpAny_pyNext_enum_itemD D he hit hg hne (by simpa using hne) fun y h' tk hy ho hit' hT hsz hk => ?_
    obtain ⟨c, u, hcx, rfl⟩ := hy
    refine ⟨_, rfl, wpAny_letOwnedTupleGo_enum (s := { s with heap := h', toks := tk + 1 }) ho fun h'' he' sb => ?_⟩
    have hT2 : h''.get? s.heap.objs.size = some { cls := .type "tuple", data := .seq #[.int i tk, .str ⟨#[c]⟩ u] } := (sb.2 _ (Nat.ne_of_gt hel)).trans hT
    have rest : ∀ b ob, b ∉ [e, it] → s.heap.get? b = some ob → h''.get? b = some ob := fun b ob hb q => by
      have b1 : b ≠ e := fun z => hb (by simp [z])
      have b2 : b ≠ it := fun z => hb (by simp [z])
      exact (sb.2 b b1).trans (hk b ob b1 b2 q)
    have made : ObjOk X.prog X.w (upd H s.heap.objs.size (.tup [.int (i : Nat), .str ⟨#[c]⟩])) h'' s.heap.objs.size (.tup [.int (i : Nat), .str ⟨#[c]⟩]) :=
      ⟨by show 2 ≤ sizeLine; decide, [.int i tk, .str ⟨#[c]⟩ u], .cons ⟨_, rfl⟩ (.cons ⟨_, rfl⟩ .nil), ⟨_, hT2, rfl, _, rfl⟩⟩
    have I1 := I.turnedNew (t' := tk + 1) (ch := [e, it]) rest hf (Nat.le_refl _) made
    refine ⟨.ref s.heap.objs.size, _, I1, rfl, ⟨_, c, rfl, I.hok.fresh (Nat.le_refl _), rfl, hcx⟩, ⟨⟨.str ⟨#[c]⟩ u, by rw [cast_succ]; exact he'⟩, ?_, hne, hg⟩, fun b hb => ?_⟩
    · obtain ⟨o, ho, hr⟩ := hit'
      exact ⟨o, (sb.2 it (Ne.symm hne)).trans ho, hr⟩
    · have lt : b < s.heap.objs.size := by
        rcases List.mem_cons.mp hb with z | z
        · rw [z]; exact hel
        · rw [List.mem_singleton.mp z]; exact hil
      rw [upd_ne (Nat.ne_of_lt lt)]
      exact (hf b hb).1
  done := by
    intro X hP hw hK hc i pins s σ H E I hf st hg
    subst hP hw hK
    obtain ⟨⟨old, he⟩, hit, hne, hle⟩ := st
    have hg : i = x.cps.size := Nat.le_antisymm hle hg
    subst hg
    have D := draws_str (prog := X.prog) (w := X.w) (A := X.A.in1) (I.ok.hd hc) it x t
    obtain ⟨f0, f1, f2, f3, f4, f5⟩ := hf it (by simp)
    exact wpAny_pyNext_enum_endD D he hit fun h' eb => ⟨rfl, I.turned (t' := s.toks) (fun b o hb q => eb b o hb q) f0 f1 f3 f4 f5⟩
  self := fun A i s Q E ⟨⟨_, he⟩, _⟩ h => wpAny_pyIter_enum he h
/-- enumerate(l) of a list, enumerate(t) of a text -/
def iEnum2 (K : PySem.W.Frag) (ta : TA) : TI := fun σ H R => ta σ H fun vs H1 => (∃ a xs, vs = [.ref a] ∧ SqL K H1 a xs ∧ R (Ite K a) H1) ∨ ∃ z, vs = [.str z] ∧ R (ItEs z) H1
theorem pi_enum2 {X : Cx} {e : Expr} {ta : TA} {p pos tpos : Pos} {elts : List Expr} {kk : Nat} (hg : Gl X "enumerate") (hm : X.mg "enumerate" = none) (ha : PA X [e] ta) (hs : starEach [e] X.env = [(false, eval e X.env)] := by rfl) :
    PI X (.Tuple elts kk tpos) (.Call (.Name "enumerate" p) [e] [] pos) (iEnum2 X.K ta) := by
  refine ⟨fun pins s σ H R I h => Call_ (ld_blt I hg hm boot_enumerate (PyProof.Rows.callWith_type1 (thn (ha.run pos pins s σ H _ I h) fun us s1 ⟨vs, H1, I1, r1, q1⟩ => ?_) hs rfl))⟩
  have old : ∀ b ∈ [s1.heap.objs.size + 1, s1.heap.objs.size], FpOk X pins H1 b := fun b hb => by
    have le : s1.heap.objs.size ≤ b := by
      rcases List.mem_cons.mp hb with z | z
      · rw [z]; exact Nat.le_succ _
      · rw [List.mem_singleton.mp z]; exact Nat.le_refl _
    exact I1.fpOk le (I1.hok.fresh le)
  rcases q1 with ⟨a, xs, rfl, hq, q⟩ | ⟨z, rfl, q⟩
  · obtain ⟨u, rfl, ru⟩ := vals1 r1
    cases ru
    obtain ⟨its, rv, p', hz⟩ := I1.list hq
    refine call_enumerate_list p'.isList fun h' he hit hsz hk => wpAny_pyIter_enum he ?_
    exact ⟨_, _, _, _, H1, rfl, I1.kept (t' := s1.toks) hk, turn_enum a (s1.heap.objs.size + 1) s1.heap.objs.size, ⟨⟨.none, he⟩, hit, Nat.succ_ne_self _⟩, old, q⟩
  · obtain ⟨u, rfl, ru⟩ := vals1 r1
    obtain ⟨t, rfl⟩ := ru
    refine call_enumerate_str fun h' he hit hsz hk => wpAny_pyIter_enum he ?_
    exact ⟨_, _, _, _, H1, rfl, I1.kept (t' := s1.toks) hk, turn_es z t (s1.heap.objs.size + 1) s1.heap.objs.size, ⟨⟨.none, he⟩, hit, Nat.succ_ne_self _, Nat.zero_le _⟩, old, q⟩
end EV

set_option Elab.async false
set_option linter.all false
set_option maxRecDepth 100000
set_option maxHeartbeats 1000000
namespace EV
open PySem PySem.Spec PyProof.Rows L2
variable {K : PySem.W.Frag}

/-! ### targets -/
def tgs : Tg → List Nat
  | .nm i => [i]
  | .tp s => tgs s
  | .nil => []
  | .cons a b => tgs a ++ tgs b
/-- the slots off vs stay -/
structure OffS (vs : List Nat) (σ σ' : L2.St) : Prop where
  len : σ'.length = σ.length
  at_ : ∀ i, i ∉ vs → σ'[i]? = σ[i]?
theorem OffS.trans {vs ws : List Nat} {σ σ1 σ2 : L2.St} (a : OffS vs σ σ1) (b : OffS ws σ1 σ2) : OffS (vs ++ ws) σ σ2 :=
  ⟨b.len.trans a.len, fun i hi => (b.at_ i fun h => hi (List.mem_append_right _ h)).trans (a.at_ i fun h => hi (List.mem_append_left _ h))⟩
theorem OffS.wipe {vs ws : List Nat} {σ σ' : L2.St} (a : OffS vs σ σ') (hs : ∀ v ∈ vs, v ∈ ws) : L2.wipe σ' ws = L2.wipe σ ws := by
  have key : ∀ (ws : List Nat) (σ σ' : L2.St), σ'.length = σ.length → (∀ i, i ∉ ws → σ'[i]? = σ[i]?) → L2.wipe σ' ws = L2.wipe σ ws := by
    intro ws
    induction ws with
    | nil => intro σ σ' hl h; exact List.ext_getElem? fun i => h i (by simp)
    | cons w ws ih =>
      intro σ σ' hl h
      show (L2.wipe σ' ws).set w none = (L2.wipe σ ws).set w none
      refine List.ext_getElem? fun i => ?_
      by_cases hi : w = i
      · subst hi
        by_cases hw : w < σ.length
        · rw [List.getElem?_set_self (by rw [wipe_length, hl]; exact hw), List.getElem?_set_self (by rw [wipe_length]; exact hw)]
        · rw [List.getElem?_eq_none (by simp [wipe_length, hl]; omega), List.getElem?_eq_none (by simp [wipe_length]; omega)]
      · rw [List.getElem?_set_ne hi, List.getElem?_set_ne hi]
        by_cases hm : i ∈ ws
        · have z : ∀ (τ : L2.St) (ws : List Nat), i ∈ ws → (L2.wipe τ ws)[i]? = if i < τ.length then some none else none := by
            intro τ ws
            induction ws with
            | nil => intro h; cases h
            | cons v vs ih2 =>
              intro h
              show ((L2.wipe τ vs).set v none)[i]? = _
              by_cases hv : v = i
              · subst hv
                by_cases hl : v < τ.length
                · rw [List.getElem?_set_self (by rw [wipe_length]; exact hl), if_pos hl]
                · rw [List.getElem?_eq_none (by simp [wipe_length]; omega), if_neg hl]
              · rw [List.getElem?_set_ne hv]
                rcases List.mem_cons.mp h with h | h
                · exact absurd h.symm hv
                · exact ih2 h
          rw [z σ' ws hm, z σ ws hm, hl]
        · rw [wipe_out hm, wipe_out hm]
          exact h i (by simp [Ne.symm hi, hm])
  exact key ws σ σ' a.len fun i hi => a.at_ i fun h => hi (hs i h)
def tG (K : PySem.W.Frag) (tg : Tg) : TG := fun v σ H Q => ∃ (Θ : Th K) (h : AH) (σa : ASt) (av : AV) (σa' : ASt), HR Θ h H ∧ SR Θ H σa σ ∧ Rep Θ H av v ∧ asg h tg av σa = some σa' ∧ ∀ σ', SR Θ H σa' σ' → OffS (tgs tg) σ σ' → Q σ' H
def tGs (K : PySem.W.Frag) (tg : Tg) : TGs := fun vs σ H Q => ∃ (Θ : Th K) (h : AH) (σa : ASt) (av : List AV) (σa' : ASt), HR Θ h H ∧ SR Θ H σa σ ∧ RepL Θ H av vs ∧ asgL h tg av σa = some σa' ∧ ∀ σ', SR Θ H σa' σ' → OffS (tgs tg) σ σ' → Q σ' H
theorem _root_.L2.PG.wk {X : Cx} {e : Expr} {t t' : TG} (h : PG X e t) (f : ∀ v σ H Q, t' v σ H Q → t v σ H Q) : PG X e t' := ⟨fun pins s σ H v u Q I r q => h.run pins s σ H v u Q I r (f _ _ _ _ q)⟩
theorem _root_.L2.PGs.wk {X : Cx} {e : List Expr} {t t' : TGs} (h : PGs X e t) (f : ∀ v σ H Q, t' v σ H Q → t v σ H Q) : PGs X e t' := ⟨fun pins s σ H v u Q I r q => h.run pins s σ H v u Q I r (f _ _ _ _ q)⟩
theorem _root_.L2.PG.orE {X : Cx} {e : Expr} {t t' : TG} (h : PG X e t) (h' : PG X e t') : PG X e (fun v σ H Q => t v σ H Q ∨ t' v σ H Q) := ⟨fun pins s σ H v u Q I r q => by
  rcases q with q | q
  · exact h.run pins s σ H v u Q I r q
  · exact h'.run pins s σ H v u Q I r q⟩
section
variable {X : Cx} {pos : Pos}
theorem set_off {σ : L2.St} {i : Nat} {v : V} : OffS [i] σ (σ.set i (some v)) := ⟨by simp, fun j hj => List.getElem?_set_ne (by simpa using fun e : i = j => hj (by simp [e]))⟩
theorem g_name {i : Nat} {x : Str} (hN : X.N.Nodup) (hi : X.N[i]? = some x) (hx : Loc X.env.scope x) (hf : X.fn x = true ∨ X.env.scope.names.lookup x = some .local) : PG X (.Name x pos) (tG X.K (.nm i)) :=
  (pg_name hN hi hx hf).wk fun v σ H Q ⟨Θ, h, σa, av, σa', hr, sr, rv, e, q⟩ => by
    cases e
    exact q _ (sr.set rv i) set_off
theorem gs_nil : PGs X [] (tGs X.K .nil) :=
  pgs_nil.wk fun vs σ H Q ⟨Θ, h, σa, av, σa', hr, sr, rv, e, q⟩ => by
    cases rv with
    | nil => cases e; exact ⟨rfl, q σ sr ⟨rfl, fun _ _ => rfl⟩⟩
    | cons a b => cases e
theorem asgEach_of {e : Expr} {es : List Expr} {env : Env} (h : notStar e = true) : assignEach (e :: es) env = (false, assign e env) :: assignEach es env := by
  cases e <;> first | rfl | cases h
theorem gs_cons {e : Expr} {es : List Expr} {a b : Tg} (hn : notStar e = true) (h1 : PG X e (tG X.K a)) (h2 : PGs X es (tGs X.K b)) : PGs X (e :: es) (tGs X.K (.cons a b)) :=
  (pgs_cons h1 h2 (by rw [asgEach_of hn]; rfl)).wk fun vs σ H Q ⟨Θ, h, σa, av, σa', hr, sr, rv, e, q⟩ => by
    cases rv with
    | nil => cases e
    | cons p r =>
      simp only [asgL] at e
      cases e1 : asg h a _ σa with
      | none => rw [e1] at e; cases e
      | some σ1 =>
        rw [e1] at e
        refine ⟨_, _, rfl, Θ, h, σa, _, σ1, hr, sr, p, e1, fun σ' sr' o => ?_⟩
        exact ⟨Θ, h, σ1, _, σa', hr, sr', r, e, fun σ'' sr'' o' => q σ'' sr'' (o.trans o')⟩
theorem each_len : ∀ {es : List Expr} {env : Env}, es.all notStar = true → (assignEach es env).length = es.length ∧ (assignEach es env).findIdx? (·.1) = none
  | [], _, _ => ⟨rfl, rfl⟩
  | e :: es, env, h => by
    simp only [List.all_cons, Bool.and_eq_true] at h
    rw [asgEach_of h.1]
    obtain ⟨h1, h2⟩ := each_len (env := env) h.2
    exact ⟨by simp [h1], by simp only [List.findIdx?_cons, h2]; rfl⟩
theorem asgL_len {h : AH} : ∀ {tg : Tg} {l : List AV} {σ σ' : ASt} {es : Nat}, True → asgL h tg l σ = some σ' → True := fun _ _ => trivial
def tgLen : Tg → Nat
  | .cons _ b => tgLen b + 1
  | _ => 0
theorem asgL_length {h : AH} : ∀ (tg : Tg) (l : List AV) (σ σ' : ASt), asgL h tg l σ = some σ' → l.length = tgLen tg
  | .nil, [], _, _, _ => rfl
  | .cons a b, x :: xs, σ, σ', e => by
    simp only [asgL] at e
    cases e1 : asg h a x σ with
    | none => rw [e1] at e; cases e
    | some σ1 =>
      rw [e1] at e
      simp [tgLen, asgL_length b xs σ1 σ' e]
  | .nil, _ :: _, _, _, e => by cases e
  | .cons _ _, [], _, _, e => by cases e
  | .nm _, _, _, _, e => by simp [asgL] at e
  | .tp _, _, _, _, e => by simp [asgL] at e
theorem g_tup {es : List Expr} {k : Nat} {s : Tg} (g : CG X) (hn : es.all notStar = true) (hl : tgLen s = es.length) (h : PGs X es (tGs X.K s)) : PG X (.Tuple es k pos) (tG X.K (.tp s)) := by
  obtain ⟨e1, e2⟩ := each_len (env := X.env) hn
  refine ((pg_tup (k := k) (pos := pos) g.calm h e1 e2).orE (pg_unl (k := k) g.calm h e1 e2)).wk fun v σ H Q ⟨Θ, h, σa, av, σa', hr, sr, rv, e, q⟩ => ?_
  simp only [asg] at e
  cases ei : itemsOf h av with
  | none => rw [ei] at e; simp at e
  | some l =>
    rw [ei] at e
    dsimp only at e
    obtain ⟨p, vs, rfl, hq, rl⟩ := items_rep (K := X.K) hr rv ei
    have hlen : vs.length = es.length := by rw [← rl.length, asgL_length _ _ _ _ e, hl]
    rcases hq with hq | hq
    · exact .inr ⟨p, vs, rfl, hq, hlen, Θ, h, σa, l, σa', hr, sr, rl, e, q⟩
    · exact .inl ⟨p, vs, rfl, hq, hlen, Θ, h, σa, l, σa', hr, sr, rl, e, q⟩
end

/-! ### what is walked -/
def Wk {K : PySem.W.Frag} (Θ : Th K) (H : Hp) (sr : Src) (J : It) : Prop := ∀ Θ' h' H', TrH Θ H Θ' H' → HR Θ' h' H' → ∀ i,
  (∀ v, srcGet h' sr i = some (some v) → J.go i H' ∧ ∀ x H'', J.yld i H' x H'' → Tr Θ' H' Θ' H'' ∧ HR Θ' h' H'' ∧ Rep Θ' H'' v x) ∧ (srcGet h' sr i = some none → J.stop i H')
theorem Wk.start {Θ Θ1 : Th K} {H H1 : Hp} {sr : Src} {J : It} (w : Wk Θ H sr J) (t : Tr Θ H Θ1 H1) : Wk Θ1 H1 sr J := fun Θ' h' H' t' => w Θ' h' H' (t.transH t')
abbrev RSrc {K : PySem.W.Frag} : Th K → Hp → Src → It → Prop := fun Θ H s J => Wk Θ H s J
def tI {K : PySem.W.Frag} (Φ : Fns) (W : AW K) (e : IE) : TI := fun σ H R => ∃ (Θ : Th K) (h : AH) (σa : ASt), HR Θ h H ∧ SR Θ H σa σ ∧ Post RSrc (evI Φ e σa h) Θ H R (EW W σ)
theorem _root_.L2.PI.wk {X : Cx} {tg e : Expr} {t t' : TI} (h : PI X tg e t) (f : ∀ σ H Q, t' σ H Q → t σ H Q) : PI X tg e t' := ⟨fun pins s σ H R I q => h.run pins s σ H R I (f _ _ _ q)⟩

section
variable {K : PySem.W.Frag} {X : Cx} {Φ : Fns} {W : AW X.K} {a b : Expr} {ia ib : IE} {pos : Pos} {tg : Expr}
/-- a list, a tuple or a text is walked -/
def iAny (K : PySem.W.Frag) (te : TE) : TI := fun σ H R => te σ H fun x H1 => (∃ a vs, x = .ref a ∧ SqL K H1 a vs ∧ R (Itl K a) H1) ∨ (∃ a vs, x = .ref a ∧ SqT K H1 a vs ∧ R (Itt K a) H1) ∨ ∃ z, x = .str z ∧ R (Its z) H1
theorem pi_any {te : TE} (he : PE X a te) : PI X tg a (iAny X.K te) := by
  refine ⟨fun pins s σ H R I h => ?_⟩
  refine thn (he.run pins s σ H _ I h) fun v s1 ⟨y, H1, I1, r1, q⟩ => ?_
  rcases q with ⟨a, vs, rfl, hq, q⟩ | ⟨a, vs, rfl, hq, q⟩ | ⟨x, rfl, q⟩
  · cases r1
    obtain ⟨its, rv, p, hz⟩ := I1.list hq
    exact wpAny_pyIter_list p.isList (pi_one (tk := s1.toks) I1 _ (turn_list a _) ⟨_, Heap.get?_push_size _ rfl, rfl, rfl⟩ q)
  · cases r1
    obtain ⟨its, rv, p, hz⟩ := I1.tuple hq
    exact wpAny_pyIter_tuple (show s1.heap.IsTuple a its.toArray from p) (pi_one (tk := s1.toks) I1 _ (turn_tuple a _) ⟨_, Heap.get?_push_size _ rfl, rfl, rfl⟩ q)
  · obtain ⟨t, rfl⟩ := r1
    cases ha : x.cps.all (· < 128)
    · exact wpAny_pyIter_wide ha (pi_one (tk := s1.toks) I1 _ (turn_str _ x t "str_iterator" (.inr rfl)) ⟨_, Heap.get?_push_size _ rfl, rfl, rfl⟩ q)
    · exact wpAny_pyIter_ascii ha (pi_one (tk := s1.toks) I1 _ (turn_str _ x t "str_ascii_iterator" (.inl rfl)) ⟨_, Heap.get?_push_size _ rfl, rfl, rfl⟩ q)

/-- a list that stands -/
def Stands {K : PySem.W.Frag} (Θ : Th K) (H : Hp) (d : D1) (p : Addr) : Prop := ∀ Θ' h' H', TrH Θ H Θ' H' → HR Θ' h' H' → ∀ l, d1get h' d = some l → ∃ vs, SqL K H' p vs ∧ RepL Θ' H' l vs
theorem d1_rep {Θ : Th K} {h : AH} {H : Hp} {x : AV} {u : V} {d : D1} (hr : HR Θ h H) (r : Rep Θ H x u) (e : toD1 h x = some d) : ∃ p vs, u = .ref p ∧ SqL K H p vs ∧ Stands Θ H d p := by
  cases r with
  | lst e1 f l =>
    cases e
    exact ⟨_, _, rfl, SqL.of e1, fun Θ' h' H' t hr' l' el => by cases el; exact ⟨_, SqL.of (t.keep _ _ e1 f.1), l.monoH t⟩⟩
  | scr e1 f l =>
    cases e
    exact ⟨_, _, rfl, .inl (.inr ⟨_, e1⟩), fun Θ' h' H' t hr' l' el => by cases el; exact ⟨_, .inl (.inr ⟨_, t.keep _ _ e1 f.1⟩), l.monoH t⟩⟩
  | scrK k l =>
    cases e
    exact ⟨_, _, rfl, .inr k, fun Θ' h' H' t hr' l' el => by cases el; exact ⟨_, .inr k, l.monoH t⟩⟩
  | ref e1 =>
    obtain ⟨xs, vs, q1, q2, q3⟩ := ref_at hr e1
    simp only [toD1, q1] at e
    cases e
    refine ⟨_, vs, rfl, SqL.of q2, fun Θ' h' H' t hr' l' el => ?_⟩
    obtain ⟨ys, ws, z1, z2, z3⟩ := ref_at hr' (t.get e1)
    simp only [d1get, lstOf, z1] at el
    cases el
    exact ⟨ws, SqL.of z2, z3⟩
  | _ => cases e
theorem wk_list {Θ : Th K} {H : Hp} {d : D1} {p : Addr} {sr : Src} (st : Stands Θ H d p) (hs : ∀ h i, srcGet h sr i = (d1get h d).map (·[i]?)) : Wk Θ H sr (Itl K p) := by
  intro Θ' h' H' t hr i
  refine ⟨fun v e => ?_, fun e => ?_⟩
  · rw [hs, Option.map_eq_some_iff] at e
    obtain ⟨l, el, ev⟩ := e
    obtain ⟨vs, hq, rl⟩ := st Θ' h' H' t hr l el
    obtain ⟨u, eu, ru⟩ := rl.get ev
    refine ⟨⟨vs, u, hq, eu⟩, fun x H'' y => ?_⟩
    obtain ⟨rfl, y⟩ := y
    have := y vs hq
    rw [eu] at this; cases this
    exact ⟨Tr.refl, hr, ru⟩
  · rw [hs, Option.map_eq_some_iff] at e
    obtain ⟨l, el, ev⟩ := e
    obtain ⟨vs, hq, rl⟩ := st Θ' h' H' t hr l el
    exact ⟨vs, hq, by rw [← rl.length]; exact List.getElem?_eq_none_iff.mp ev⟩
theorem wk_tup {Θ : Th K} {H : Hp} {p : Addr} {xs : List AV} {vs : List V} (e1 : H p = some (.tup vs)) (f : Θ.off p) (l : RepL Θ H xs vs) : Wk Θ H (.st xs) (Itt K p) := by
  intro Θ' h' H' t hr i
  have q : SqT K H' p vs := SqT.of (t.keep _ _ e1 f.1)
  refine ⟨fun v e => ?_, fun e => ?_⟩
  · have ev : xs[i]? = some v := Option.some.inj e
    obtain ⟨u, eu, ru⟩ := (l.monoH t).get ev
    refine ⟨⟨vs, u, q, eu⟩, fun x H'' y => ?_⟩
    obtain ⟨rfl, y⟩ := y
    have := y vs q
    rw [eu] at this; cases this
    exact ⟨Tr.refl, hr, ru⟩
  · have ev : xs[i]? = none := Option.some.inj e
    exact ⟨vs, q, by rw [← l.length]; exact List.getElem?_eq_none_iff.mp ev⟩
theorem wk_str {Θ : Th K} {H : Hp} {s : List Nat} : Wk Θ H (.st (s.map fun c => .str [c])) (Its (mkS s)) := by
  intro Θ' h' H' t hr i
  refine ⟨fun v e => ?_, fun e => ?_⟩
  · have ev : (s.map fun c => AV.str [c])[i]? = some v := Option.some.inj e
    rw [List.getElem?_map, Option.map_eq_some_iff] at ev
    obtain ⟨c, ec, rfl⟩ := ev
    have hi : i < s.length := (List.getElem?_eq_some_iff.mp ec).1
    refine ⟨by simpa [Its, mkS] using hi, fun x H'' y => ?_⟩
    obtain ⟨rfl, c', ec', rfl⟩ := y
    have : s[i]? = some c' := by simpa [mkS] using ec'
    rw [ec] at this; cases this
    exact ⟨Tr.refl, hr, .str [c]⟩
  · have ev : (s.map fun c => AV.str [c])[i]? = none := Option.some.inj e
    have := List.getElem?_eq_none_iff.mp ev
    show (mkS s).cps.size ≤ i
    simpa [mkS] using this
theorem i_plain (ha : PE X a (tE Φ W ia)) : PI X tg a (tI Φ W (.iPl ia)) :=
  (pi_any ha).wk fun σ H R ⟨Θ, h, σa, hr, sr, p⟩ => one bdP hr sr p fun Θ1 h1 H1 x u t1 hr1 _ rx p1 => by
    obtain ⟨sr, es, q⟩ := p1.ofO
    have fin : ∀ J, Wk Θ1 H1 sr J → R J H1 := fun J w => q Θ1 H1 J Tr.refl hr1 w
    cases rx with
    | tup e1 f l => cases es; exact .inr (.inl ⟨_, _, rfl, SqT.of e1, fin _ (wk_tup e1 f l)⟩)
    | lst e1 f l =>
      cases es
      obtain ⟨p, vs, e, hq, st⟩ := d1_rep (K := X.K) (d := .st _) hr1 (.lst e1 f l) rfl
      exact .inl ⟨p, vs, e, hq, fin _ (wk_list st fun _ _ => rfl)⟩
    | scr e1 f l =>
      cases es
      obtain ⟨p, vs, e, hq, st⟩ := d1_rep (K := X.K) (d := .st _) hr1 (.scr e1 f l) rfl
      exact .inl ⟨p, vs, e, hq, fin _ (wk_list st fun _ _ => rfl)⟩
    | scrK k l =>
      cases es
      obtain ⟨p, vs, e, hq, st⟩ := d1_rep (K := X.K) (d := .st _) hr1 (.scrK k l) rfl
      exact .inl ⟨p, vs, e, hq, fin _ (wk_list st fun _ _ => rfl)⟩
    | str s => cases es; exact .inr (.inr ⟨_, rfl, fin _ wk_str⟩)
    | @ref n _ e1 =>
      obtain ⟨xs, vs', q1, q2, q3⟩ := ref_at hr1 e1
      simp only [srcPl, q1] at es
      cases es
      obtain ⟨p, vs, e, hq, st⟩ := d1_rep (K := X.K) (d := .rf n) hr1 (.ref e1) (by simp only [toD1, q1])
      exact .inl ⟨p, vs, e, hq, fin _ (wk_list st fun _ _ => rfl)⟩
    | _ => cases es
theorem rangeL_get : ∀ (n : Nat) (lo : Int) (i : Nat), (rangeL lo n)[i]? = if i < n then some (.int (lo + i)) else none
  | 0, lo, i => by simp [rangeL]
  | n + 1, lo, 0 => by simp [rangeL]
  | n + 1, lo, i + 1 => by
    simp only [rangeL, List.getElem?_cons_succ]
    rw [rangeL_get n (lo + 1) i]
    by_cases h : i < n
    · rw [if_pos h, if_pos (by omega)]; congr 2; omega
    · rw [if_neg h, if_neg (by omega)]
theorem wk_range {Θ : Th K} {H : Hp} {lo : Int} {n : Nat} : Wk Θ H (.st (rangeL lo n)) (Itr lo n) := by
  intro Θ' h' H' t hr i
  refine ⟨fun v e => ?_, fun e => ?_⟩
  · have ev : (rangeL lo n)[i]? = some v := Option.some.inj e
    rw [rangeL_get] at ev
    split at ev
    · rename_i hi
      cases ev
      refine ⟨hi, fun x H'' y => ?_⟩
      obtain ⟨rfl, rfl⟩ := y
      exact ⟨Tr.refl, hr, .int _⟩
    · cases ev
  · have ev : (rangeL lo n)[i]? = none := Option.some.inj e
    rw [rangeL_get] at ev
    split at ev
    · cases ev
    · rename_i hi; exact Nat.le_of_not_lt hi
theorem i_range1 {p0 : Pos} (bl : Bl X "range") (hn : notStar a = true) (hs : PA X [a] (tL Φ W ia)) : PI X tg (.Call (.Name "range" p0) [a] [] pos) (tI Φ W (.iRg1 ia)) :=
  (pi_range1 bl.gl bl.mg hs (star_of hn)).wk fun σ H R ⟨Θ, h, σa, hr, sr, p⟩ => oneL bdP hr sr p fun Θ1 h1 H1 xs us t1 hr1 _ rx p1 => by
    obtain ⟨sr, es, q⟩ := p1.ofO
    simp only [Option.map_eq_some_iff] at es
    obtain ⟨l, el, rfl⟩ := es
    unfold srcRg1 at el
    split at el
    · rename_i j
      obtain ⟨x, rfl, r⟩ := repL1 rx
      cases r
      split at el
      · rename_i hc
        simp only [Bool.and_eq_true, decide_eq_true_eq] at hc
        cases el
        exact ⟨j, rfl, hc.1, hc.2, q Θ1 H1 _ Tr.refl hr1 wk_range⟩
      · cases el
    · cases el
theorem i_range2 {p0 : Pos} (bl : Bl X "range") (hn : notStar a = true) (hn2 : notStar b = true) (hs : PA X [a, b] (tL Φ W ia)) : PI X tg (.Call (.Name "range" p0) [a, b] [] pos) (tI Φ W (.iRg2 ia)) :=
  (pi_range2 bl.gl bl.mg hs (by rw [star_of hn, star_of hn2]; rfl) (star_of hn2)).wk fun σ H R ⟨Θ, h, σa, hr, sr, p⟩ => oneL bdP hr sr p fun Θ1 h1 H1 xs us t1 hr1 _ rx p1 => by
    obtain ⟨sr, es, q⟩ := p1.ofO
    simp only [Option.map_eq_some_iff] at es
    obtain ⟨l, el, rfl⟩ := es
    unfold srcRg2 at el
    split at el
    · rename_i i j
      obtain ⟨x, y, rfl, r, r'⟩ := repL2 rx
      cases r; cases r'
      split at el
      · rename_i hc
        simp only [Bool.and_eq_true, decide_eq_true_eq] at hc
        cases el
        exact ⟨i, j, rfl, ⟨hc.1.1.1, hc.1.1.2, hc.1.2, hc.2⟩, q Θ1 H1 _ Tr.refl hr1 wk_range⟩
      · cases el
    · cases el
/-! pairs -/
theorem enumL_get : ∀ (l : List AV) (k : Int) (i : Nat), (enumL k l)[i]? = pairAt (some (.int (k + i))) l[i]?
  | [], k, i => by simp [enumL, pairAt]
  | x :: xs, k, 0 => by simp [enumL, pairAt]
  | x :: xs, k, i + 1 => by
    simp only [enumL, List.getElem?_cons_succ]
    rw [enumL_get xs (k + 1) i]
    congr 3
    omega
theorem zipL_get : ∀ (l m : List AV) (i : Nat), (zipL l m)[i]? = pairAt l[i]? m[i]?
  | [], m, i => by simp [zipL, pairAt]
  | x :: xs, [], i => by simp [zipL, pairAt]
  | x :: xs, y :: ys, 0 => by simp [zipL, pairAt]
  | x :: xs, y :: ys, i + 1 => by simp only [zipL, List.getElem?_cons_succ]; exact zipL_get xs ys i
theorem pairAt_some {x y : Option AV} {v : AV} (e : pairAt x y = some v) : ∃ a b, x = some a ∧ y = some b ∧ v = .tup [a, b] := by
  cases x with
  | none => simp [pairAt] at e
  | some a =>
    cases y with
    | none => simp [pairAt] at e
    | some b => cases e; exact ⟨a, b, rfl, rfl, rfl⟩
theorem pair_new {Θ : Th K} {h : AH} {H : Hp} {T : Addr} {x y : AV} {u v : V} (hr : HR Θ h H) (n : H T = none) (rx : Rep Θ H x u) (ry : Rep Θ H y v) :
    Tr Θ H Θ (upd H T (.tup [u, v])) ∧ HR Θ h (upd H T (.tup [u, v])) ∧ Rep Θ (upd H T (.tup [u, v])) (.tup [x, y]) (.ref T) :=
  ⟨Tr.new n, hr.new n, .tup upd_same (hr.off n) (.cons (rx.mono (Tr.new n)) (.cons (ry.mono (Tr.new n)) .nil))⟩
theorem wk_enum {Θ : Th K} {H : Hp} {d : D1} {p : Addr} {sr : Src} (st : Stands Θ H d p) (hs : ∀ h i, srcGet h sr i = (d1get h d).map fun l => pairAt (some (.int (i : Nat))) l[i]?) : Wk Θ H sr (Ite K p) := by
  intro Θ' h' H' t hr i
  refine ⟨fun v e => ?_, fun e => ?_⟩
  · rw [hs, Option.map_eq_some_iff] at e
    obtain ⟨l, el, ev⟩ := e
    obtain ⟨_, b, e1, e2, rfl⟩ := pairAt_some ev
    cases e1
    obtain ⟨vs, hq, rl⟩ := st Θ' h' H' t hr l el
    obtain ⟨u, eu, ru⟩ := rl.get e2
    refine ⟨⟨vs, u, hq, eu⟩, fun x H'' y => ?_⟩
    obtain ⟨T, x', rfl, nT, rfl, y⟩ := y
    have := y vs hq
    rw [eu] at this; cases this
    exact pair_new hr nT (.int _) ru
  · rw [hs, Option.map_eq_some_iff] at e
    obtain ⟨l, el, ev⟩ := e
    obtain ⟨vs, hq, rl⟩ := st Θ' h' H' t hr l el
    refine ⟨vs, hq, ?_⟩
    rw [← rl.length]
    cases q : l[i]? with
    | none => exact List.getElem?_eq_none_iff.mp q
    | some b => rw [q] at ev; cases ev
theorem wk_enumS {Θ : Th K} {H : Hp} {s : List Nat} : Wk Θ H (.st (enumL 0 (s.map fun c => .str [c]))) (ItEs (mkS s)) := by
  intro Θ' h' H' t hr i
  refine ⟨fun v e => ?_, fun e => ?_⟩
  · have ev : (enumL 0 (s.map fun c => AV.str [c]))[i]? = some v := Option.some.inj e
    rw [enumL_get] at ev
    obtain ⟨a, b, e1, e2, rfl⟩ := pairAt_some ev
    cases e1
    rw [List.getElem?_map, Option.map_eq_some_iff] at e2
    obtain ⟨c, ec, rfl⟩ := e2
    have hi : i < s.length := (List.getElem?_eq_some_iff.mp ec).1
    refine ⟨by simpa [ItEs, mkS] using hi, fun x H'' y => ?_⟩
    obtain ⟨T, c', rfl, nT, rfl, y⟩ := y
    have : s[i]? = some c' := by simpa [mkS] using y
    rw [ec] at this; cases this
    have e0 : (0 : Int) + (i : Int) = (i : Int) := by omega
    rw [e0]
    exact pair_new hr nT (.int _) (.str [c])
  · have ev : (enumL 0 (s.map fun c => AV.str [c]))[i]? = none := Option.some.inj e
    rw [enumL_get] at ev
    show (mkS s).cps.size ≤ i
    cases q : s[i]? with
    | none => simpa [mkS] using List.getElem?_eq_none_iff.mp q
    | some c => rw [List.getElem?_map, q] at ev; cases ev
theorem wk_zip {Θ : Th K} {H : Hp} {d e : D1} {p q : Addr} {sr : Src} (st : Stands Θ H d p) (su : Stands Θ H e q)
    (hs : ∀ h i o, srcGet h sr i = some o → ∃ l m, d1get h d = some l ∧ d1get h e = some m ∧ o = pairAt l[i]? m[i]?) : Wk Θ H sr (Itz K p q) := by
  intro Θ' h' H' t hr i
  refine ⟨fun v e => ?_, fun e => ?_⟩
  · obtain ⟨l, m, el, em, ev⟩ := hs _ _ _ e
    obtain ⟨a, b, e1, e2, rfl⟩ := pairAt_some ev.symm
    obtain ⟨vs, hq, rl⟩ := st Θ' h' H' t hr l el
    obtain ⟨ws, hq2, rm⟩ := su Θ' h' H' t hr m em
    obtain ⟨u, eu, ru⟩ := rl.get e1
    obtain ⟨w, ew, rw'⟩ := rm.get e2
    refine ⟨⟨vs, ws, u, w, hq, hq2, eu, ew⟩, fun x H'' y => ?_⟩
    obtain ⟨T, x', y', rfl, nT, rfl, y1, y2⟩ := y
    have z1 := y1 vs hq
    have z2 := y2 ws hq2
    rw [eu] at z1; cases z1
    rw [ew] at z2; cases z2
    exact pair_new hr nT ru rw'
  · obtain ⟨l, m, el, em, ev⟩ := hs _ _ _ e
    obtain ⟨vs, hq, rl⟩ := st Θ' h' H' t hr l el
    obtain ⟨ws, hq2, rm⟩ := su Θ' h' H' t hr m em
    refine ⟨vs, ws, hq, hq2, ?_⟩
    rw [← rl.length, ← rm.length]
    cases q : l[i]? with
    | none => exact .inl (List.getElem?_eq_none_iff.mp q)
    | some b =>
      cases q2 : m[i]? with
      | none => exact .inr (List.getElem?_eq_none_iff.mp q2)
      | some c => rw [q, q2] at ev; cases ev
theorem wk_zipT {Θ : Th K} {H : Hp} {p q : Addr} {l m : List AV} {vs ws : List V} (e1 : H p = some (.tup vs)) (f1 : Θ.off p) (l1 : RepL Θ H l vs) (e2 : H q = some (.tup ws)) (f2 : Θ.off q) (l2 : RepL Θ H m ws) :
    Wk Θ H (.st (zipL l m)) (RZ.ItzT K p q) := by
  intro Θ' h' H' t hr i
  have q1 : SqT K H' p vs := SqT.of (t.keep _ _ e1 f1.1)
  have q2 : SqT K H' q ws := SqT.of (t.keep _ _ e2 f2.1)
  refine ⟨fun v e => ?_, fun e => ?_⟩
  · have ev : (zipL l m)[i]? = some v := Option.some.inj e
    rw [zipL_get] at ev
    obtain ⟨a, b, e1, e2, rfl⟩ := pairAt_some ev
    obtain ⟨u, eu, ru⟩ := (l1.monoH t).get e1
    obtain ⟨w, ew, rw'⟩ := (l2.monoH t).get e2
    refine ⟨⟨vs, ws, u, w, q1, q2, eu, ew⟩, fun x H'' y => ?_⟩
    obtain ⟨T, x', y', rfl, nT, rfl, y1, y2⟩ := y
    have z1 := y1 vs q1
    have z2 := y2 ws q2
    rw [eu] at z1; cases z1
    rw [ew] at z2; cases z2
    exact pair_new hr nT ru rw'
  · have ev : (zipL l m)[i]? = none := Option.some.inj e
    rw [zipL_get] at ev
    refine ⟨vs, ws, q1, q2, ?_⟩
    rw [← l1.length, ← l2.length]
    cases q : l[i]? with
    | none => exact .inl (List.getElem?_eq_none_iff.mp q)
    | some b =>
      cases q2 : m[i]? with
      | none => exact .inr (List.getElem?_eq_none_iff.mp q2)
      | some c => rw [q, q2] at ev; cases ev
theorem i_enum {p0 tpos : Pos} {elts : List Expr} {kk : Nat} (bl : Bl X "enumerate") (hn : notStar a = true) (hs : PA X [a] (tL Φ W ia)) : PI X (.Tuple elts kk tpos) (.Call (.Name "enumerate" p0) [a] [] pos) (tI Φ W (.iEn ia)) :=
  (pi_enum2 bl.gl bl.mg hs (star_of hn)).wk fun σ H R ⟨Θ, h, σa, hr, sr, p⟩ => oneL bdP hr sr p fun Θ1 h1 H1 xs us t1 hr1 _ rx p1 => by
    obtain ⟨sr, es, q⟩ := p1.ofO
    unfold srcEn at es
    split at es
    · obtain ⟨x, rfl, r⟩ := repL1 rx
      cases es
      cases r
      exact .inr ⟨_, rfl, q Θ1 H1 _ Tr.refl hr1 wk_enumS⟩
    · rename_i av _
      obtain ⟨x, rfl, r⟩ := repL1 rx
      split at es
      · rename_i l ed
        cases es
        obtain ⟨p, vs, rfl, hq, st⟩ := d1_rep (K := X.K) hr1 r ed
        exact .inl ⟨p, vs, rfl, hq, q Θ1 H1 _ Tr.refl hr1 (wk_enum st fun h i => by simp [srcGet, d1get, enumL_get])⟩
      · rename_i d nd ed
        cases es
        obtain ⟨p, vs, rfl, hq, st⟩ := d1_rep (K := X.K) hr1 r ed
        exact .inl ⟨p, vs, rfl, hq, q Θ1 H1 _ Tr.refl hr1 (wk_enum st fun h i => rfl)⟩
      · cases es
    · cases es
theorem i_zip {p0 tpos : Pos} {elts : List Expr} {kk : Nat} (bl : Bl X "zip") (hn : notStar a = true) (hn2 : notStar b = true) (hs : PA X [a, b] (tL Φ W ia)) : PI X (.Tuple elts kk tpos) (.Call (.Name "zip" p0) [a, b] [] pos) (tI Φ W (.iZp ia)) :=
  (RZ.pi_zipA bl.gl bl.mg hs (star_of hn) (noStar_of (by simp [hn2]) _ _)).wk fun σ H R ⟨Θ, h, σa, hr, sr, p⟩ => oneL bdP hr sr p fun Θ1 h1 H1 xs us t1 hr1 _ rx p1 => by
    obtain ⟨sr, es, q⟩ := p1.ofO
    unfold srcZp at es
    split at es
    · rename_i l m
      obtain ⟨x, y, rfl, r, r'⟩ := repL2 rx
      cases es
      cases r with
      | tup e1 f1 l1 =>
        cases r' with
        | tup e2 f2 l2 => exact ⟨_, _, _, _, rfl, .inr ⟨SqT.of e1, SqT.of e2, q Θ1 H1 _ Tr.refl hr1 (wk_zipT e1 f1 l1 e2 f2 l2)⟩⟩
    · rename_i av bv nn
      obtain ⟨x, y, rfl, r, r'⟩ := repL2 rx
      split at es
      · rename_i l m ed ee
        cases es
        obtain ⟨p, vs, rfl, hq, st⟩ := d1_rep (K := X.K) hr1 r ed
        obtain ⟨p', ws, rfl, hq', st'⟩ := d1_rep (K := X.K) hr1 r' ee
        exact ⟨p, p', vs, ws, rfl, .inl ⟨hq, hq', q Θ1 H1 _ Tr.refl hr1 (wk_zip st st' fun h i o e => ⟨l, m, rfl, rfl, by rw [← zipL_get]; exact (Option.some.inj e).symm⟩)⟩⟩
      · rename_i d e nn2 ed ee
        cases es
        obtain ⟨p, vs, rfl, hq, st⟩ := d1_rep (K := X.K) hr1 r ed
        obtain ⟨p', ws, rfl, hq', st'⟩ := d1_rep (K := X.K) hr1 r' ee
        refine ⟨p, p', vs, ws, rfl, .inl ⟨hq, hq', q Θ1 H1 _ Tr.refl hr1 (wk_zip st st' fun h i o e => ?_)⟩⟩
        simp only [srcGet] at e
        split at e
        · rename_i l m h1 h2; cases e; exact ⟨l, m, h1, h2, rfl⟩
        · cases e
      · cases es
    · cases es
end
end EV

set_option Elab.async false
set_option linter.all false
set_option maxRecDepth 100000
set_option maxHeartbeats 1000000
namespace EV
open PySem PySem.Spec PyProof.Rows L2
variable {K : PySem.W.Frag}

/-- a loop by its turns -/
structure Lp (f : AV → AH → Rs (Option AV)) (sr : Src) (L : Nat → Nat → AH → Rs (List AV)) (Ok : Nat → Nat → Prop) : Prop where
  step : ∀ i m h, Ok i m → (srcGet h sr i = some none ∧ L i m h = .ok [] h) ∨
    (∃ x m', i < SZ ∧ m' < m ∧ Ok (i + 1) m' ∧ srcGet h sr i = some (some x) ∧ L i m h = (f x h).bind fun o h1 => (L (i + 1) m' h1).bind fun ys h2 => .ok (cns o ys) h2) ∨ L i m h = .bad
theorem lp_of (f : AV → AH → Rs (Option AV)) (sr : Src) (h : AH) (hb : evC f sr h ≠ .bad) : ∃ L Ok m, Lp f sr L Ok ∧ Ok 0 m ∧ L 0 m h = evC f sr h := by
  have dyn : ∀ n, srcLen h sr = some n → evC f sr h = (if n < SZ then compR f sr (n + 1) 0 h else .bad) → ∃ L Ok m, Lp f sr L Ok ∧ Ok 0 m ∧ L 0 m h = evC f sr h := by
    intro n en e
    by_cases hn : n < SZ
    · rw [if_pos hn] at e
      refine ⟨fun i m h => compR f sr m i h, fun i m => i + m ≤ SZ, n + 1, ⟨fun i m h ok => ?_⟩, by omega, e.symm⟩
      cases m with
      | zero => exact .inr (.inr rfl)
      | succ m =>
        simp only [compR]
        cases e1 : srcGet h sr i with
        | none => exact .inr (.inr rfl)
        | some o =>
          cases o with
          | none => exact .inl ⟨rfl, rfl⟩
          | some x => exact .inr (.inl ⟨x, m, by omega, by omega, by omega, rfl, rfl⟩)
    · rw [if_neg hn] at e; exact absurd e hb
  cases sr with
  | st xs =>
    have e : evC f (.st xs) h = if xs.length ≤ SZ then compL f xs h else .bad := rfl
    by_cases hn : xs.length ≤ SZ
    · rw [if_pos hn] at e
      refine ⟨fun i m h => compL f (xs.drop i) h, fun i m => i + m = xs.length, xs.length, ⟨fun i m h ok => ?_⟩, by omega, by rw [e]; rfl⟩
      by_cases hi : i < xs.length
      · refine .inr (.inl ⟨xs[i], m - 1, by omega, by omega, by omega, ?_, ?_⟩)
        · show some xs[i]? = _
          rw [List.getElem?_eq_getElem hi]
        · show compL f (xs.drop i) h = _
          rw [List.drop_eq_getElem_cons hi]
          rfl
      · refine .inl ⟨?_, ?_⟩
        · show some xs[i]? = _
          rw [List.getElem?_eq_none (by omega)]
        · show compL f (xs.drop i) h = _
          rw [List.drop_eq_nil_of_le (by omega)]
          rfl
    · rw [if_neg hn] at e; exact absurd e hb
  | rf n =>
    cases en : srcLen h (.rf n) with
    | none => exact absurd (by simp [evC, en]) hb
    | some k => exact dyn k en (by simp [evC, en])
  | zp a b =>
    cases en : srcLen h (.zp a b) with
    | none => exact absurd (by simp [evC, en]) hb
    | some k => exact dyn k en (by simp [evC, en])
  | en a =>
    cases en : srcLen h (.en a) with
    | none => exact absurd (by simp [evC, en]) hb
    | some k => exact dyn k en (by simp [evC, en])

/-- the wish of a block: no exception -/
abbrev W0 (K : PySem.W.Frag) : AW K := fun _ _ _ _ _ => False
/-- a block's turn -/
def turnF (Φ : Fns) (σ : ASt) (own : List Nat) (tg : Tg) (c e : IE) : AV → AH → Rs (Option AV) := fun x h2 => (match asg h2 tg x (wipeA σ own) with
  | some σ1 => (evT Φ c σ1 h2).bind fun k h3 => if k then (evE Φ e σ1 h3).bind fun y h4 => .ok (some y) h4 else .ok none h3
  | none => .bad).nox

section
variable {X : Cx} {Φ : Fns} {W : AW X.K} {elt tg iter : Expr} {ifs : List Expr} {scope : Scope} {own : List (Str × Nat)} {pos : Pos} {it ic ie : IE} {tgi : Tg}
theorem postNox {α β : Type} {R : Th K → Hp → α → β → Prop} {r : Rs α} {Θ : Th K} {H : Hp} {Q : β → Hp → Prop} {E E' : XW K} (p : Post R r Θ H Q E) (n : ∀ c as h, r ≠ .ex c as h) : Post R r Θ H Q E' := by
  cases r with
  | ok v h => exact p
  | ex c as h => exact absurd rfl (n c as h)
  | bad => exact p
theorem wipe_wipe (σ : L2.St) (vs : List Nat) : L2.wipe (L2.wipe σ vs) vs = L2.wipe σ vs := by
  have o : OffS vs σ (L2.wipe σ vs) := ⟨wipe_length σ vs, fun i hi => wipe_out hi⟩
  exact o.wipe fun v h => h
/-- the reading of a comprehension -/
theorem comp_reads {σ : L2.St} {H : Hp} {Q : VK} {Θ : Th X.K} {h : AH} {σa : ASt} (hr : HR Θ h H) (sr : SR Θ H σa σ) (hown : ∀ v ∈ tgs tgi, v ∈ own.map (·.2))
    (p : PostF ((evI Φ it σa h).bind fun s h1 => (evC (turnF Φ σa (own.map (·.2)) tgi ic ie) s h1).bind fun ys h2 => .ok (.lst ys) h2) Θ H Q (EW W σ)) :
    tLc (tI Φ W it) (tG X.K tgi) (tT Φ (W0 X.K) ic) (tE Φ (W0 X.K) ie) (own.map (·.2)) σ H Q := by
  refine ⟨Θ, h, σa, hr, sr, (bdF.go _ _ RSrc _ _ _ _ p).imp fun J H1 ⟨Θ1, h1, s1, t1, hr1, wk, _, p1⟩ => fun D nD => ?_⟩
  have sr1 := sr.mono t1
  generalize hvs : own.map (·.2) = vs at *
  have hb : evC (turnF Φ σa vs tgi ic ie) s1 h1 ≠ .bad := fun e => by rw [e] at p1; exact p1
  obtain ⟨L, Ok, m0, lp, ok0, e0⟩ := lp_of _ _ _ hb
  rw [← e0] at p1
  have tD : Tr Θ1 H1 Θ1 (upd H1 D (.lst [])) := Tr.new nD
  refine ⟨fun i m H' => ∃ Θ2 h' acc accV, Ok i m ∧ acc.length ≤ i ∧ Tr Θ1 H1 Θ2 H' ∧ Θ2.off D ∧ HR (Θ2.hide D) h' H' ∧ H' D = some (.lst accV) ∧ RepL (Θ2.hide D) H' acc accV ∧
      PostF ((L i m h').bind fun ys h2 => .ok (.lst (acc ++ ys)) h2) Θ1 H1 Q (EW W σ), ⟨m0, Θ1, h1, [], [], ok0, Nat.zero_le _, tD, hr1.off nD, hr1.hideNew nD, upd_same, .nil, p1⟩, ?_⟩
  rintro i m H' ⟨Θ2, h', acc, accV, ok, hlen, t2, oD, hr2, eD, rl, p2⟩
  have wk2 := wk (Θ2.hide D) h' H' (t2.hideH nD) hr2 i
  rcases lp.step i m h' ok with ⟨g, e⟩ | ⟨x, m', hi, hm, ok', g, e⟩ | e
  · refine .inl ⟨wk2.2 g, ?_⟩
    rw [e] at p2
    have p2 : FinL Θ1 h' H1 (acc ++ []) Q := p2
    rw [List.append_nil] at p2
    exact p2 Θ2 H' D accV t2 nD oD hr2 eD rl
  · obtain ⟨go, yl⟩ := wk2.1 x g
    rw [e] at p2
    refine .inr ⟨go, fun H'' => ∃ Θ2 h' acc accV, Ok (i + 1) m' ∧ acc.length ≤ i + 1 ∧ Tr Θ1 H1 Θ2 H'' ∧ Θ2.off D ∧ HR (Θ2.hide D) h' H'' ∧ H'' D = some (.lst accV) ∧ RepL (Θ2.hide D) H'' acc accV ∧
      PostF ((L (i + 1) m' h').bind fun ys h2 => .ok (.lst (acc ++ ys)) h2) Θ1 H1 Q (EW W σ), fun H'' hN => ⟨m', hm, hN⟩, fun u H3 y => ?_⟩
    obtain ⟨t3, hr3, rx⟩ := yl u H3 y
    have sr3 : SR (Θ2.hide D) H3 (wipeA σa vs) (L2.wipe σ vs) := ((sr1.monoH (t2.hideH nD)).mono t3).wipe vs
    have eD3 : H3 D = some (.lst accV) := t3.keep D _ eD oD.1
    have rl3 := rl.mono t3
    have t23 : Tr Θ1 H1 Θ2 H3 := t2.trans ⟨rfl, t3.th, t3.keep⟩
    have p3 := p2
    -- the turn
    have p3 : PostF (((turnF Φ σa vs tgi ic ie x h').bind fun o h1 => (L (i + 1) m' h1).bind fun ys h2 => .ok (.lst (acc ++ cns o ys)) h2)) Θ1 H1 Q (EW W σ) := by
      have e1 : ((turnF Φ σa vs tgi ic ie x h').bind fun o h1 => (L (i + 1) m' h1).bind fun ys h2 => Rs.ok (cns o ys) h2).bind (fun ys h2 => Rs.ok (AV.lst (acc ++ ys)) h2) = ((turnF Φ σa vs tgi ic ie x h').bind fun o h1 => (L (i + 1) m' h1).bind fun ys h2 => .ok (.lst (acc ++ cns o ys)) h2) := by
        cases turnF Φ σa vs tgi ic ie x h' with
        | ok o h1 =>
          simp only [Rs.bind_ok]
          cases L (i + 1) m' h1 <;> rfl
        | ex c as h1 => rfl
        | bad => rfl
      rw [← e1]
      exact p3
    cases ea : asg h' tgi x (wipeA σa vs) with
    | none =>
      have : turnF Φ σa vs tgi ic ie x h' = .bad := by simp only [turnF, ea]; rfl
      rw [this] at p3
      exact p3.elim
    | some σ1 =>
      have ef : turnF Φ σa vs tgi ic ie x h' = ((evT Φ ic σ1 h').bind fun k h3 => if k then (evE Φ ie σ1 h3).bind fun y h4 => .ok (some y) h4 else .ok none h3).nox := by simp only [turnF, ea]
      rw [ef] at p3
      refine ⟨Θ2.hide D, h', wipeA σa vs, x, σ1, hr3, sr3, rx, ea, fun σ' sr' off => ⟨by rw [off.wipe (fun v hv => hown v hv)]; exact wipe_wipe σ vs, ?_⟩⟩
      -- the test
      cases et : evT Φ ic σ1 h' with
      | bad => rw [et] at p3; exact p3.elim
      | ex c as h4 => rw [et] at p3; exact p3.elim
      | ok k h4 =>
        rw [et] at p3
        simp only [Rs.bind_ok] at p3
        refine ⟨Θ2.hide D, h', σ1, hr3, sr', ?_⟩
        rw [et]
        intro Θ4 H4 k' t4 hr4 ek
        cases ek
        obtain ⟨Θ5, rfl, t5⟩ := t4.unhide
        have eD4 : H4 D = some (.lst accV) := t4.keep D _ eD3 oD.1
        have oD5 : Θ5.off D := ⟨fun hm => hr4.dj D hm List.mem_cons_self, fun hm => by rw [t5.hd] at hm; exact oD.2 hm⟩
        have t15 := t23.trans t5
        have p4 := p3
        have sr4 := sr'.mono t4
        have rl4 := rl3.mono t4
        cases k with
        | false =>
          rw [if_neg Bool.false_ne_true]
          exact ⟨Θ5, h4, acc, accV, ok', by omega, t15, oD5, hr4, eD4, rl4, p4⟩
        | true =>
          rw [if_pos rfl]
          simp only [if_true] at p4
          refine ⟨Θ5.hide D, h4, σ1, hr4, sr4, ?_⟩
          cases ee : evE Φ ie σ1 h4 with
          | bad => rw [ee] at p4; exact p4.elim
          | ex c as h6 => rw [ee] at p4; exact p4.elim
          | ok y h6 =>
            rw [ee] at p4
            intro Θ6 H6 z t6 hr6 rz
            obtain ⟨Θ7, rfl, t7⟩ := t6.unhide
            have eD6 : H6 D = some (.lst accV) := t6.keep D _ eD4 oD5.1
            have oD7 : Θ7.off D := ⟨fun hm => hr6.dj D hm List.mem_cons_self, fun hm => by rw [t7.hd] at hm; exact oD5.2 hm⟩
            have rl6 := rl4.mono t6
            refine ⟨accV, eD6, by rw [← rl6.length, ← SZ_eq]; omega, Θ7, h6, acc ++ [y], accV ++ [z], ok', by simp; omega, ?_, oD7, hr6.updHid, upd_same, (rl6.append (.cons rz .nil)).updHid, ?_⟩
            · have t17 := t15.trans t7
              exact ⟨t17.hd, t17.th, fun a o e n => by rw [upd_ne (ne_of_none e nD)]; exact t17.keep a o e n⟩
            · simpa [List.append_assoc] using p4
  · rw [e] at p2; exact p2.elim
end
end EV

set_option Elab.async false
set_option linter.all false
set_option maxRecDepth 100000
set_option maxHeartbeats 1000000
namespace EV
open PySem PySem.Spec PyProof.Rows L2
variable {K : PySem.W.Frag}

section
variable {X : Cx} {Φ : Fns} {W : AW X.K} {a b : Expr} {ia ib : IE} {pos : Pos}
/-- a new list that will be changed -/
theorem s_mut (ha : PE X a (tF Φ W ia)) : PE X a (tE Φ W (.mut ia)) := ha.wk fun σ H Q ⟨Θ, h, σa, hr, sr, p⟩ => by
  refine ⟨Θ, h, σa, hr, sr, ?_⟩
  simp only [evE] at p
  cases e : evE Φ ia σa h with
  | bad => rw [e] at p; exact p.elim
  | ex c as h1 => rw [e] at p; exact p
  | ok v h1 =>
    rw [e] at p
    cases v with
    | lst xs =>
      intro Θ' H' q vs t nq f hr' eq rl
      have p : Fin Θ (h1 ++ [.lst xs]) H (.ref h1.length) Q := p
      have hl : Θ'.th.length = h1.length := hr'.len
      refine p (Θ'.push q) H' _ ⟨t.hd, ?_, t.keep⟩ (hr'.pushed f.2 eq rl) (.ref ?_)
      · obtain ⟨more, e1, e2⟩ := t.th
        refine ⟨more ++ [q], by show Θ'.th ++ [q] = _; rw [e1, List.append_assoc], fun a m => ?_⟩
        rcases List.mem_append.mp m with m | m
        · exact e2 a m
        · rw [List.mem_singleton.mp m]; exact .inr nq
      · show (Θ'.th ++ [q])[h1.length]? = some q
        rw [← hl]; simp
    | _ => exact p.elim

/-! ### methods that change a list -/
def notCall0 : Expr → Bool
  | .Call (.Name _ _) [] [] _ => false
  | _ => true
theorem base_of {o : Expr} {name : Str} {env : Env} {w : Sem Value} (h : notCall0 o = true) : attributeBase o name env w = w := by
  unfold attributeBase
  split
  · simp [notCall0] at h
  · rfl
theorem few_of {es : List Expr} {env : Env} {cpos : Pos} (h : es.all notStar = true) (hl : es.length < 30) : ((backTo cpos (starEach es env)).all (fun x => !x.1) && (backToKw cpos (keywordEach [] env)).all (fun x => x.1.isSome)
      && decide (es.length + ([] : List Keyword).length + (if ([] : List Keyword).isEmpty then 0 else 1) < 30)) = true := by
  have h1 : (backTo cpos (starEach es env)).all (fun x => !x.1) = true := by
    have := noStar_of h env cpos
    rw [List.any_eq_false] at this
    rw [List.all_eq_true]
    intro x hx
    have := this x hx
    simpa using this
  rw [h1]
  simp [keywordEach, backToKw]
  exact hl
theorem ty_list {Θ : Th K} {h : AH} {H : Hp} {x : AV} {u : V} {l : List AV} (hr : HR Θ h H) (r : Rep Θ H x u) (e : lstOf h x = some l) : tyV K "list" u H := by
  obtain ⟨p, vs, rfl, hp, _⟩ := lst_rep hr r e
  exact .inl ⟨rfl, vs, SqL.of hp⟩
theorem ref_write {Θ : Th K} {h : AH} {H : Hp} {n : Nat} {l l' : List AV} {vs' : List V} {p : Addr} {v : AV} {z : V} {Q : VK} {E : XW K} (hr : HR Θ h H) (e : Θ.th[n]? = some p) (rl : RepL Θ H l' vs') (rz : Rep Θ H v z)
    (q : Post Rep (.ok v (h.set n (.lst l'))) Θ H Q E) : Q z (upd H p (.lst vs')) :=
  q Θ _ z (Tr.write e) (hr.write e rl) (rz.mono (Tr.write e))
/-- the list behind a name is one of ours -/
theorem ref_of {Θ : Th K} {h : AH} {H : Hp} {x : AV} {u : V} {n : Nat} {l : List AV} (hr : HR Θ h H) (r : Rep Θ H x u) (e1 : refIx x = some n) (e2 : lstOf h x = some l) : ∃ p vs, u = .ref p ∧ Θ.th[n]? = some p ∧ H p = some (.lst vs) ∧ RepL Θ H l vs := by
  cases r with
  | ref e =>
    cases e1
    obtain ⟨xs, vs, q1, q2, q3⟩ := ref_at hr e
    simp only [lstOf, q1] at e2
    cases e2
    exact ⟨_, vs, rfl, e, q2, q3⟩
  | _ => cases e1
theorem tyl_of {Θ : Th K} {h : AH} {H : Hp} {x : AV} {u : V} {n : Nat} (hr : HR Θ h H) (r : Rep Θ H x u) (e1 : refIx x = some n) : tyV K "list" u H := by
  cases r with
  | ref e =>
    obtain ⟨xs, vs, q1, q2, q3⟩ := ref_at hr e
    exact .inl ⟨rfl, vs, SqL.of q2⟩
  | _ => cases e1
theorem oneA {σ : L2.St} {H : Hp} {α : Type} {P : Rs α → Th X.K → Hp → Prop} (bd : Bd P (EW W σ)) {k : AV → AH → Rs α} {T : List V → Hp → Prop}
    {Θ : Th X.K} {h : AH} {σa : ASt} (hr : HR Θ h H) (sr : SR Θ H σa σ) (p : P ((evE Φ ia σa h).bind k) Θ H)
    (f : ∀ Θ1 h1 H1 x u, Tr Θ H Θ1 H1 → HR Θ1 h1 H1 → SR Θ1 H1 σa σ → Rep Θ1 H1 x u → P (k x h1) Θ1 H1 → T [u] H1) :
    tL Φ W (.cons ia .nil) σ H fun us H1 => T us H1 := by
  refine ⟨Θ, h, σa, hr, sr, ?_⟩
  have q := bd.go _ _ Rep _ _ _ _ p
  simp only [evL]
  cases e : evE Φ ia σa h with
  | bad => rw [e] at q; exact q
  | ex c as h1 => rw [e] at q; exact q
  | ok x h1 =>
    rw [e] at q
    intro Θ1 H1 us t hr1 rl
    obtain ⟨u, rfl, r⟩ := repL1 rl
    obtain ⟨Θ2, h2, x2, t2, hr2, r2, e2, p2⟩ := q Θ1 H1 u t hr1 r
    cases e2
    exact f Θ2 h1 H1 x u t2 hr2 (sr.mono t2) r2 p2
theorem line_ok (apos : Pos) : True := trivial
theorem s_app {o : Expr} {io : IE} {apos : Pos} (hc : notCall0 o = true) (hn : notStar a = true) (hl : (apos.endLine == pos.line) = true) (ho : PE X o (tE Φ W io)) (hs : PA X [a] (tL Φ W (.cons ia .nil))) :
    PE X (.Call (.Attribute o "append" apos) [a] [] pos) (tE Φ W (.app io ia)) :=
  (pe_bm PySem.F.plainAttrs_list PySem.F.slot_list_append PySem.F.type_list_append mt_append ho hs (base_of hc) (few_of (by simp [hn]) (by simp)) hl (star_of hn) rfl).wk fun σ H Q ⟨Θ, h, σa, hr, sr, p⟩ => one bdP hr sr p fun Θ1 h1 H1 x u t1 hr1 sr1 rx p1 => by
    cases e1 : refIx x with
    | none => rw [e1] at p1; exact p1.elim
    | some n =>
      rw [e1] at p1
      refine ⟨tyl_of hr1 rx e1, oneA bdP hr1 sr1 p1 fun Θ2 h2 H2 y v t2 hr2 sr2 ry p2 => ?_⟩
      cases rx with
      | ref e =>
        cases e1
        obtain ⟨xs, vs, q1, q2, q3⟩ := ref_at hr2 (t2.get e)
        simp only [lstOf, q1] at p2
        split at p2
        · rename_i hz
          exact ⟨_, vs, v, rfl, rfl, q2, by rw [← q3.length, ← SZ_eq]; exact hz, ref_write (l := xs) hr2 (t2.get e) (q3.append (.cons ry .nil)) .non p2⟩
        · exact p2.elim
      | _ => cases e1
theorem s_ext {o : Expr} {io : IE} {apos : Pos} (hc : notCall0 o = true) (hn : notStar a = true) (hl : (apos.endLine == pos.line) = true) (ho : PE X o (tE Φ W io)) (hs : PA X [a] (tL Φ W (.cons ia .nil))) :
    PE X (.Call (.Attribute o "extend" apos) [a] [] pos) (tE Φ W (.ext io ia)) :=
  (pe_bm PySem.F.plainAttrs_list PySem.F.slot_list_extend PySem.F.type_list_extend mt_extend ho hs (base_of hc) (few_of (by simp [hn]) (by simp)) hl (star_of hn) rfl).wk fun σ H Q ⟨Θ, h, σa, hr, sr, p⟩ => one bdP hr sr p fun Θ1 h1 H1 x u t1 hr1 sr1 rx p1 => by
    cases e1 : refIx x with
    | none => rw [e1] at p1; exact p1.elim
    | some n =>
      rw [e1] at p1
      refine ⟨tyl_of hr1 rx e1, oneA bdP hr1 sr1 p1 fun Θ2 h2 H2 y v t2 hr2 sr2 ry p2 => ?_⟩
      cases rx with
      | ref e =>
        cases e1
        obtain ⟨xs, vs, q1, q2, q3⟩ := ref_at hr2 (t2.get e)
        have q1' : lstOf h2 (.ref n) = some xs := by simp only [lstOf, q1]
        rw [q1'] at p2
        cases e3 : lstOf h2 y with
        | none => rw [e3] at p2; exact p2.elim
        | some m =>
          rw [e3] at p2
          obtain ⟨p', ws, rfl, hp', rl'⟩ := lst_rep hr2 ry e3
          dsimp only at p2
          split at p2
          · rename_i hz
            exact ⟨_, p', vs, ws, rfl, rfl, q2, hp', by rw [← q3.length, ← rl'.length, ← SZ_eq]; exact hz, ref_write (l := xs) hr2 (t2.get e) (q3.append rl') .non p2⟩
          · exact p2.elim
      | _ => cases e1
theorem s_popA {o : Expr} {io : IE} {apos : Pos} (hc : notCall0 o = true) (hn : notStar a = true) (hl : (apos.endLine == pos.line) = true) (ho : PE X o (tE Φ W io)) (hs : PA X [a] (tL Φ W (.cons ia .nil))) :
    PE X (.Call (.Attribute o "pop" apos) [a] [] pos) (tE Φ W (.popA io ia)) :=
  (pe_bm PySem.F.plainAttrs_list PySem.F.slot_list_pop PySem.F.type_list_pop mt_popAt ho hs (base_of hc) (few_of (by simp [hn]) (by simp)) hl (star_of hn) rfl).wk fun σ H Q ⟨Θ, h, σa, hr, sr, p⟩ => one bdP hr sr p fun Θ1 h1 H1 x u t1 hr1 sr1 rx p1 => by
    cases e1 : refIx x with
    | none => rw [e1] at p1; exact p1.elim
    | some n =>
      rw [e1] at p1
      refine ⟨tyl_of hr1 rx e1, oneA bdP hr1 sr1 p1 fun Θ2 h2 H2 y v t2 hr2 sr2 ry p2 => ?_⟩
      cases rx with
      | ref e =>
        cases e1
        obtain ⟨xs, vs, q1, q2, q3⟩ := ref_at hr2 (t2.get e)
        have q1' : lstOf h2 (.ref n) = some xs := by simp only [lstOf, q1]
        rw [q1'] at p2
        cases ry with
        | int i =>
          simp only [intO] at p2
          split at p2
          · rename_i hb
            simp only [Bool.and_eq_true, decide_eq_true_eq] at hb
            cases e3 : ixN xs.length i with
            | none => rw [e3] at p2; exact p2.elim
            | some k =>
              rw [e3] at p2
              dsimp only at p2
              cases e4 : xs[k]? with
              | none => rw [e4] at p2; exact p2.elim
              | some z =>
                rw [e4] at p2
                obtain ⟨z', ez, rz⟩ := q3.get e4
                obtain ⟨s1, s2, s3, s4⟩ := ixN_seq e3
                rw [q3.length] at s1
                exact ⟨_, vs, i, k, z', rfl, rfl, q2, hb.1, hb.2, s1, ez, ref_write (l := xs) hr2 (t2.get e) (q3.eraseIdx k) rz p2⟩
          · exact p2.elim
        | _ => simp [intO] at p2; exact p2.elim
      | _ => cases e1
theorem s_pop {o : Expr} {io : IE} {apos : Pos} (hc : notCall0 o = true) (hl : (apos.endLine == pos.line) = true) (ho : PE X o (tE Φ W io)) :
    PE X (.Call (.Attribute o "pop" apos) [] [] pos) (tE Φ W (.pop io)) :=
  (pe_bm0 PySem.F.plainAttrs_list PySem.F.slot_list_pop PySem.F.type_list_pop mt_pop ho (base_of hc) hl).wk fun σ H Q ⟨Θ, h, σa, hr, sr, p⟩ => one bdP hr sr p fun Θ1 h1 H1 x u t1 hr1 sr1 rx p1 => by
    cases e1 : refIx x with
    | none => rw [e1] at p1; exact p1.elim
    | some n =>
      rw [e1] at p1
      refine ⟨tyl_of hr1 rx e1, ?_⟩
      cases rx with
      | ref e =>
        cases e1
        obtain ⟨xs, vs, q1, q2, q3⟩ := ref_at hr1 e
        have q1' : lstOf h1 (.ref n) = some xs := by simp only [lstOf, q1]
        dsimp only at p1
        rw [q1'] at p1
        dsimp only at p1
        cases e4 : xs[xs.length - 1]? with
        | none => rw [e4] at p1; exact p1.elim
        | some z =>
          rw [e4] at p1
          obtain ⟨z', ez, rz⟩ := q3.get e4
          have rd : RepL Θ1 H1 xs.dropLast vs.dropLast := by rw [List.dropLast_eq_take, List.dropLast_eq_take, q3.length]; exact q3.take _
          exact ⟨_, vs, z', rfl, rfl, q2, by rw [← q3.length]; exact ez, ref_write (l := xs) hr1 e rd rz p1⟩
      | _ => cases e1
end

/-! ### count, index of a list -/
section
variable {X : Cx} {Φ : Fns} {W : AW X.K} {a b c : Expr} {ia ib ic : IE} {pos : Pos}
theorem pdL_count (ys : List AV) (x : AV) : (ys.countP fun y => aeq y x) = (pdL ys).countP fun z => PyData.eqv z (pd x) := by
  induction ys with
  | nil => rfl
  | cons y ys ih => rw [List.countP_cons, ih]; simp only [pdL, List.countP_cons, aeq_pd]
theorem pdL_get : ∀ (ys : List AV) (j : Nat), (pdL ys)[j]? = ys[j]?.map pd
  | [], j => by simp [pdL]
  | y :: ys, 0 => by simp [pdL]
  | y :: ys, j + 1 => by simp only [pdL, List.getElem?_cons_succ]; exact pdL_get ys j
/-- l.count(x) -/
theorem cntD {pins : List (Addr × Obj)} {s : Shared} {σ : L2.St} {H : Hp} {p : Addr} {y : V} {uy : Value} {Q : VK} {d : PyData} {ds : List PyData} {vs : List V} (hu : X.A.units + 65 < cLine) (I : L2.Inv X pins σ H s) (hs : SqL X.K H p vs) (ha : DpAll X.K H vs ds) (hc0 : PyData.canLayAll0 ds = true) (hy : Dp X.K H y d) (sd : SeqAt.shaped d = true) (ry : RelV y uy)
    (q : Q (.int ((ds.countP fun z => PyData.eqv z d : Nat) : Int)) H) : wpAny (model X.prog X.w) X.A (call (.builtin "list.count") [.ref p, uy]) (EP X pins σ Q) X.xe s := by
  obtain ⟨bs, rd⟩ := Dp.reads I d y uy hy ry
  obtain ⟨its, rv, ⟨⟨c0, d0, dt, sl⟩, n, ho, hc, hdn, hdt⟩, hlen⟩ := I.list hs
  simp only at hc hdt
  subst hc hdt
  obtain ⟨as, ra⟩ := Dp.readsAll I ds _ its ha rv
  have em : its.map (SeqAt.readOf s.heap) = ds := SeqAt.readsAll_map ds its as hc0 ra
  have room : X.A.units + 1 + min (PyData.depthAll ds) d.depth < cLine := room_in_shaped sd hu
  refine call_meets PySem.F.slot_list_count ⟨_, ho, rfl⟩ PySem.F.entry_list_count (PySem.F.args_list_count_2 _ _) (SeqAt.list_countAt p its.toArray n d0 sl uy fun u => PyData.eqv (SeqAt.readOf s.heap u) d)
    ⟨ho, SeqAt.items_eqAt (vs := its.toArray) (by simpa using ra) rd hc0 (SeqAt.canLay_of_shaped sd) room, ?_⟩
  have en : its.toArray.toList.countP (fun u => PyData.eqv (SeqAt.readOf s.heap u) d) = ds.countP fun z => PyData.eqv z d := by
    rw [← em, List.countP_map]; rfl
  refine ⟨.int _, H, I.tok _, ⟨s.toks, ?_⟩, q⟩
  show Value.int _ _ = Value.int _ _
  rw [en]
/-- l.index(x), found -/
theorem idxD {pins : List (Addr × Obj)} {s : Shared} {σ : L2.St} {H : Hp} {p : Addr} {y : V} {uy : Value} {Q : VK} {d : PyData} {ds : List PyData} {vs : List V} {j : Nat} {z : PyData} (hu : X.A.units + 65 < cLine) (I : L2.Inv X pins σ H s) (hs : SqL X.K H p vs) (ha : DpAll X.K H vs ds) (hc0 : PyData.canLayAll0 ds = true) (hy : Dp X.K H y d) (sd : SeqAt.shaped d = true) (ry : RelV y uy)
    (hz : ds[j]? = some z) (hzj : PyData.eqv z d = true) (hno : ∀ m z', m < j → ds[m]? = some z' → PyData.eqv z' d = false) (q : Q (.int (j : Nat)) H) : wpAny (model X.prog X.w) X.A (call (.builtin "list.index") [.ref p, uy]) (EP X pins σ Q) X.xe s := by
  obtain ⟨bs, rd⟩ := Dp.reads I d y uy hy ry
  obtain ⟨its, rv, ⟨⟨c0, d0, dt, sl⟩, n, ho, hc, hdn, hdt⟩, hlen⟩ := I.list hs
  simp only at hc hdt
  subst hc hdt
  obtain ⟨as, ra⟩ := Dp.readsAll I ds _ its ha rv
  have em : its.map (SeqAt.readOf s.heap) = ds := SeqAt.readsAll_map ds its as hc0 ra
  have el : its.length = ds.length := by rw [← em]; simp
  have room : X.A.units + 1 + min (PyData.depthAll ds) d.depth < cLine := room_in_shaped sd hu
  have jl : j < ds.length := (List.getElem?_eq_some_iff.mp hz).1
  have js : j < its.toArray.size := by simpa [el] using jl
  have zl := sizeLine_eq
  have vl := rv.length
  have rd_at : ∀ m (hm : m < its.toArray.size), ds[m]? = some (SeqAt.readOf s.heap its.toArray[m]) := fun m hm => by
    have : m < its.length := by simpa using hm
    rw [← em, List.getElem?_map, List.getElem?_eq_getElem this]; simp
  refine call_meets PySem.F.slot_list_index ⟨_, ho, rfl⟩ PySem.F.entry_list_index (PySem.F.args_list_index_2 _ _) (SeqAt.list_indexAt p its.toArray n d0 sl uy (fun u => PyData.eqv (SeqAt.readOf s.heap u) d) j js (by omega) ?_ fun m hm mj => ?_)
    ⟨ho, SeqAt.items_eqAt (vs := its.toArray) (by simpa using ra) rd hc0 (SeqAt.canLay_of_shaped sd) room, ⟨.int (j : Nat), H, I.tok _, ⟨_, rfl⟩, q⟩⟩
  · have e := rd_at j js
    rw [hz] at e
    rw [← Option.some.inj e]; exact hzj
  · exact hno m _ mj (rd_at m hm)
theorem ixEq_spec {ds : List AV} {d : AV} {j : Nat} (h : ixEq ds d = some j) : ∃ z, ds[j]? = some z ∧ aeq z d = true ∧ ∀ m z', m < j → ds[m]? = some z' → aeq z' d = false := by
  unfold ixEq at h
  obtain ⟨hj, h1, h2⟩ := List.findIdx?_eq_some_iff_getElem.mp h
  refine ⟨ds[j], List.getElem?_eq_getElem hj, h1, fun m z' hm hz => ?_⟩
  obtain ⟨hl, e⟩ := List.getElem?_eq_some_iff.mp hz
  have := h2 m hm
  rw [e] at this
  simpa using this
def mtN : Mt → Str
  | .count => "count"
  | .index => "index"
theorem s_mth {m : Mt} {o : Expr} {io : IE} {apos : Pos} (hu : X.A.units + 65 < cLine) (hc : notCall0 o = true) (hn : notStar a = true) (hl : (apos.endLine == pos.line) = true) (ho : PE X o (tE Φ W io)) (hs : PA X [a] (tL Φ W (.cons ia .nil))) :
    PE X (.Call (.Attribute o (mtN m) apos) [a] [] pos) (tE Φ W (.mth m io ia)) := by
  have go : ∀ (id : String) (slot : Slot "list" (mtN m) id) (hty : typeOf (.builtin id) = pure (.type "method_descriptor")), MtR X id (fun x xs H Q => ∃ (Θ : Th X.K) (h : AH) (ax ay v : AV) (y : V), xs = [y] ∧ HR Θ h H ∧ Rep Θ H ax x ∧ Rep Θ H ay y ∧ mthO h m ax ay = some v ∧ Fin Θ h H v Q) →
      PE X (.Call (.Attribute o (mtN m) apos) [a] [] pos) (tE Φ W (.mth m io ia)) := fun id slot hty hm =>
    (pe_bm PySem.F.plainAttrs_list slot hty hm ho hs (base_of hc) (few_of (by simp [hn]) (by simp)) hl (star_of hn) rfl).wk fun σ H Q ⟨Θ, h, σa, hr, sr, p⟩ => one bdP hr sr p fun Θ1 h1 H1 x u t1 hr1 sr1 rx p1 => by
      split at p1
      · rename_i hrc
        refine ⟨?_, oneA bdP hr1 sr1 p1 fun Θ2 h2 H2 y v t2 hr2 sr2 ry p2 => ?_⟩
        · cases rx with
          | lst e1 f q1 => exact .inl ⟨rfl, _, SqL.of e1⟩
          | ref e1 =>
            obtain ⟨xs, vs, q1, q2, q3⟩ := ref_at hr1 e1
            exact .inl ⟨rfl, vs, SqL.of q2⟩
          | _ => cases m <;> cases hrc
        · obtain ⟨w, e, q⟩ := p2.ofO
          exact ⟨Θ2, h2, x, y, w, v, rfl, hr2, rx.mono t2, ry, e, q⟩
      · exact p1.elim
  have run : ∀ (id : String), (∀ {pins : List (Addr × Obj)} {s : Shared} {σ : L2.St} {H : Hp} {p : Addr} {y : V} {uy : Value} {Q : VK} {d : AV} {ds : List AV} {vs : List V} {v : AV}, L2.Inv X pins σ H s → SqL X.K H p vs → DpAll X.K H vs (pdL ds) → PyData.canLayAll0 (pdL ds) = true → Dp X.K H y (pd d) → SeqAt.shaped (pd d) = true → RelV y uy →
      mtAns m ds d = some v → (∀ i : Int, v = .int i → Q (.int i) H) → wpAny (model X.prog X.w) X.A (call (.builtin id) [.ref p, uy]) (EP X pins σ Q) X.xe s) →
      MtR X id (fun x xs H Q => ∃ (Θ : Th X.K) (h : AH) (ax ay v : AV) (y : V), xs = [y] ∧ HR Θ h H ∧ Rep Θ H ax x ∧ Rep Θ H ay y ∧ mthO h m ax ay = some v ∧ Fin Θ h H v Q) := fun id core => by
    intro pins s σ H x xs v us Q I rx rxs ⟨Θ, h, ax, ay, w, y, exs, hr, rax, ray, e, k⟩
    subst exs
    obtain ⟨uy, rfl, ry⟩ := vals1 rxs
    unfold mthO at e
    cases el : lstOf h ax with
    | none => rw [el] at e; cases e
    | some l =>
      rw [el] at e
      dsimp only at e
      cases e1 : res h 40 ay with
      | none => rw [e1] at e; simp at e
      | some d =>
        cases e2 : mapO (res h 40) l with
        | none => rw [e1, e2] at e; simp at e
        | some ds =>
          rw [e1, e2] at e
          dsimp only at e
          obtain ⟨p, vs, rfl, hp, rl⟩ := lst_rep hr rax el
          obtain ⟨d1, s1⟩ := res_shaped (K := X.K) hr e1 ray
          obtain ⟨da, dc, _⟩ := resL_dp (K := X.K) (fun e r => res_dp hr 40 e r) e2 rl
          cases rx
          refine core I (SqL.of hp) da dc d1 s1 ry e fun i hi => ?_
          subst hi
          exact k.same hr (.int i)
  cases m with
  | count =>
    refine go "list.count" PySem.F.slot_list_count PySem.F.type_list_count (run _ fun {pins s σ H p y uy Q d ds vs v} I hs ha hc0 hy sd ry e q => ?_)
    cases e
    exact cntD hu I hs ha hc0 hy sd ry (by rw [← pdL_count]; exact q _ rfl)
  | index =>
    refine go "list.index" PySem.F.slot_list_index PySem.F.type_list_index (run _ fun {pins s σ H p y uy Q d ds vs v} I hs ha hc0 hy sd ry e q => ?_)
    simp only [mtAns, Option.map_eq_some_iff] at e
    obtain ⟨j, ej, rfl⟩ := e
    obtain ⟨z, h1, h2, h3⟩ := ixEq_spec ej
    refine idxD hu I hs ha hc0 hy sd ry (j := j) (z := pd z) (by rw [pdL_get, h1]; rfl) (by rw [← aeq_pd]; exact h2) (fun m z' hm hz => ?_) (q _ rfl)
    rw [pdL_get, Option.map_eq_some_iff] at hz
    obtain ⟨z0, e0, rfl⟩ := hz
    rw [← aeq_pd]; exact h3 m z0 hm e0
end
end EV

set_option Elab.async false
set_option linter.all false
set_option maxRecDepth 100000
set_option maxHeartbeats 1000000
namespace EV
open PySem PySem.Spec PyProof.Rows L2
variable {K : PySem.W.Frag}

/-! ### isinstance -/
def Ty.name : Ty → String
  | .int => "int" | .bool => "bool" | .str => "str" | .list => "list" | .tuple => "tuple" | .dict => "dict"
def tyOf : AV → String
  | .non => "NoneType" | .bl _ => "bool" | .int _ => "int" | .str _ => "str" | .tup _ => "tuple" | .lst _ => "list" | .ref _ => "list" | .scr _ => "list" | .exc _ _ _ => "NoneType"
def notX : AV → Bool
  | .exc _ _ _ => false
  | _ => true
theorem isiO_some {ts : List Ty} {x v : AV} (e : isiO ts x = some v) : notX x = true ∧ v = .bl (ts.any (isTy x)) := by
  cases x <;> simp [isiO] at e <;> exact ⟨rfl, e.symm⟩
theorem ty_rep {Θ : Th K} {h : AH} {H : Hp} {a : AV} {x : V} (hr : HR Θ h H) (hx : notX a = true) (r : Rep Θ H a x) : TyX K H x (.type (tyOf a)) := by
  cases r with
  | non => exact .base .non
  | bl b => exact .base (.bl b)
  | int i => exact .base (.int i)
  | str s => exact .base (.str _)
  | tup e f l => exact .base (.tup e)
  | lst e f l => exact .base (.lst e)
  | scr e f l => exact .base (.frz e)
  | scrK k l => obtain ⟨o, its, n, h1, h2, _⟩ := k; exact .kList h1 h2
  | exc => cases hx
  | ref e =>
    obtain ⟨xs, vs, q1, q2, q3⟩ := ref_at hr e
    exact .base (.lst q2)
theorem kit_tab : ∀ t ∈ [Ty.int, .bool, .str, .list, .tuple, .dict], kitB "NoneType" t.name = some false ∧ kitB "bool" t.name = some (isTy (.bl true) t) ∧ kitB "int" t.name = some (isTy (.int 0) t) ∧ kitB "str" t.name = some (isTy (.str []) t) ∧
    kitB "tuple" t.name = some (isTy (.tup []) t) ∧ kitB "list" t.name = some (isTy (.lst []) t) := by decide +kernel
theorem kit_of_ty {K : PySem.W.Frag} (a : AV) (t : Ty) : PySem.W.kitOne K (.type (tyOf a)) (.type t.name) = some (isTy a t) := by
  have ht : t ∈ [Ty.int, .bool, .str, .list, .tuple, .dict] := by cases t <;> simp
  obtain ⟨h1, h2, h3, h4, h5, h6⟩ := kit_tab t ht
  apply kit_ty
  cases a with
  | non => cases t <;> exact h1
  | bl b => cases t <;> exact h2
  | int i => cases t <;> exact h3
  | str s => cases t <;> exact h4
  | tup l => cases t <;> exact h5
  | lst l => cases t <;> exact h6
  | ref n => cases t <;> exact h6
  | scr l => cases t <;> exact h6
  | exc => cases t <;> exact h1
theorem kit_any {K : PySem.W.Frag} (a : AV) : ∀ ts : List Ty, PySem.W.kitAny K (.type (tyOf a)) (ts.map fun t => Value.type t.name) = some (ts.any (isTy a))
  | [] => rfl
  | t :: ts => by
    refine kitAny_cons (kit_of_ty a t) (fun e => ?_) fun e => ?_
    · rw [kit_any a ts, List.any_cons, e]; rfl
    · rw [List.any_cons, e]; rfl
theorem boot_ty (t : Ty) : bootBuiltins (Str.ofString t.name) = some (.type t.name) := by cases t <;> decide +kernel
theorem ty_nm (t : Ty) : Str.ofString t.name ≠ "__name__" ∧ (Str.ofString t.name == ("__debug__" : Str)) = false := by cases t <;> exact ⟨by decide +kernel, by decide +kernel⟩

section
variable {X : Cx} {Φ : Fns} {W : AW X.K} {a b : Expr} {ia ib : IE} {pos : Pos}
theorem pe_ty {t : Ty} {p : Pos} (bl : Bl X (Str.ofString t.name)) : PE X (.Name (Str.ofString t.name) p) (tC (.ty t.name)) :=
  pe_bltn bl.gl bl.mg (boot_ty t) rfl (ty_nm t).1 (ty_nm t).2
theorem s_isi {t : Ty} {p0 p1 : Pos} (bi : Bl X "isinstance") (bl : Bl X (Str.ofString t.name)) (hn : notStar a = true) (ha : PE X a (tE Φ W ia)) :
    PE X (.Call (.Name "isinstance" p0) [a, .Name (Str.ofString t.name) p1] [] pos) (tE Φ W (.isi ia [t])) :=
  (pe_callB call_isi bi.gl bi.mg (by decide +kernel) (pa_cons ha (pa_cons (pe_ty bl) pa_nil (star_of rfl)) (star_of hn)) (by decide) (by decide) (star_of hn) (noStar_of rfl _ _)).wk fun σ H Q ⟨Θ, h, σa, hr, sr, p⟩ =>
    one bdP hr sr p fun Θ1 h1 H1 x u t1 hr1 sr1 rx p1 => by
      obtain ⟨v, ev, pv⟩ := Post.ofO p1
      obtain ⟨nx, rfl⟩ := isiO_some ev
      have e : [t].any (isTy x) = isTy x t := by simp
      rw [e] at pv
      exact ⟨u, .ty t.name, _, _, _, rfl, .ty _, ty_rep hr1 nx rx, kit_of_ty x t, pv Θ1 H1 _ Tr.refl hr1 (.bl _)⟩
theorem pa_tys : ∀ (ts : List (Ty × Pos)), (∀ t ∈ ts, Bl X (Str.ofString t.1.name)) → PA X (ts.map fun t => .Name (Str.ofString t.1.name) t.2) (fun _ H Q => Q (ts.map fun t => .ty t.1.name) H)
  | [], _ => pa_nil
  | t :: ts, h => (pa_cons (pe_ty (h t List.mem_cons_self)) (pa_tys ts fun x hx => h x (List.mem_cons_of_mem _ hx)) (star_of rfl)).wk fun σ H Q q => q
theorem clss : ∀ ts : List (Ty × Pos), Paired ClsV (ts.map fun t => V.ty t.1.name) ((ts.map (·.1)).map fun t => Value.type t.name)
  | [] => .nil
  | t :: ts => .cons (.ty _) (clss ts)
theorem s_isiT {ts : List (Ty × Pos)} {p0 p1 : Pos} {kk : Nat} (bi : Bl X "isinstance") (bl : ∀ t ∈ ts, Bl X (Str.ofString t.1.name)) (hs : ts.length ≤ 10) (hn : notStar a = true) (ha : PE X a (tE Φ W ia)) :
    PE X (.Call (.Name "isinstance" p0) [a, .Tuple (ts.map fun t => .Name (Str.ofString t.1.name) t.2) kk p1] [] pos) (tE Φ W (.isi ia (ts.map (·.1)))) :=
  (pe_callB call_isiT bi.gl bi.mg (by decide +kernel) (pa_cons ha (pa_cons (pe_tup (pa_tys ts bl)) pa_nil (star_of rfl)) (star_of hn)) (by decide) (by decide) (star_of hn) (noStar_of rfl _ _)).wk fun σ H Q ⟨Θ, h, σa, hr, sr, p⟩ =>
    one bdP hr sr p fun Θ1 h1 H1 x u t1 hr1 sr1 rx p1 => by
      obtain ⟨v, ev, pv⟩ := Post.ofO p1
      obtain ⟨nx, rfl⟩ := isiO_some ev
      refine ⟨by rw [List.length_map, sizeLine_eq]; omega, fun q nq => ?_⟩
      have tn : Tr Θ1 H1 Θ1 (upd H1 q (.tup (ts.map fun t => V.ty t.1.name))) := Tr.new nq
      refine ⟨u, q, _, _, (ts.map (·.1)).map fun t => Value.type t.name, _, rfl, upd_same, ?_, ty_rep (hr1.new nq) nx (rx.mono tn), kit_any x _, pv Θ1 _ _ tn (hr1.new nq) (.bl _)⟩
      exact clss ts
end

/-! ### behind a call -/
section
variable {K : PySem.W.Frag} {Θ Θ2 : Th K} {h2 : AH} {H2 : Hp}
/-- what is frozen at b -/
def Th.cut (Θ : Th K) (b : Nat) : Th K := ⟨Θ.th.take b, Θ.hd⟩
theorem cut_off {b : Nat} {a : Addr} (f : Θ2.off a) : (Θ2.cut b).off a := ⟨fun m => f.1 (List.mem_of_mem_take m), f.2⟩
theorem mapO_rep {g : AV → Option AV} {Θ Θ' : Th K} {H : Hp} (ih : ∀ {x y : AV} {v : V}, g x = some y → Rep Θ H x v → Rep Θ' H y v) : ∀ {l m : List AV} {vs : List V}, mapO g l = some m → RepL Θ H l vs → RepL Θ' H m vs := by
  intro l
  induction l with
  | nil => intro m vs e r; cases e; cases r; exact .nil
  | cons x xs ihl =>
    intro m vs e r
    obtain ⟨y, ys, rfl, e1, e2⟩ := mapO_cons e
    cases r with
    | cons p q => exact .cons (ih e1 p) (ihl e2 q)
theorem frz_rep {b : Nat} (hr : HR Θ2 h2 H2) : ∀ (f : Nat) {x y : AV} {v : V}, frz b h2 f x = some y → Rep Θ2 H2 x v → Rep (Θ2.cut b) H2 y v := by
  intro f
  have low : ∀ {n : Nat} {a : Addr}, Θ2.th[n]? = some a → n < b → (Θ2.cut b).th[n]? = some a := fun e hn => by
    show (Θ2.th.take b)[_]? = _
    rw [List.getElem?_take_of_lt hn]; exact e
  induction f with
  | zero =>
    intro x y v e r
    cases r with
    | ref e1 =>
      simp only [frz] at e
      split at e
      · rename_i hn; cases e; exact .ref (low e1 hn)
      · cases e
    | non => cases e; exact .non
    | bl k => cases e; exact .bl k
    | int k => cases e; exact .int k
    | str k => cases e; exact .str k
    | _ => simp [frz] at e
  | succ f ih =>
    intro x y v e r
    cases r with
    | non => cases e; exact .non
    | bl k => cases e; exact .bl k
    | int k => cases e; exact .int k
    | str k => cases e; exact .str k
    | tup e1 o l =>
      simp only [frz, Option.map_eq_some_iff] at e
      obtain ⟨m, em, rfl⟩ := e
      exact .tup e1 (cut_off o) (mapO_rep ih em l)
    | lst e1 o l =>
      simp only [frz, Option.map_eq_some_iff] at e
      obtain ⟨m, em, rfl⟩ := e
      exact .lst e1 (cut_off o) (mapO_rep ih em l)
    | scr e1 o l =>
      simp only [frz, Option.map_eq_some_iff] at e
      obtain ⟨m, em, rfl⟩ := e
      exact .scr e1 (cut_off o) (mapO_rep ih em l)
    | scrK k1 l =>
      simp only [frz, Option.map_eq_some_iff] at e
      obtain ⟨m, em, rfl⟩ := e
      exact .scrK k1 (mapO_rep ih em l)
    | exc c e1 o y l =>
      simp only [frz, Option.map_eq_some_iff] at e
      obtain ⟨m, em, rfl⟩ := e
      exact .exc c e1 (cut_off o) (y.of fun p o e g => ⟨e, cut_off g⟩) (mapO_rep ih em l)
    | @ref n a e1 =>
      simp only [frz] at e
      split at e
      · rename_i hn; cases e; exact .ref (low e1 hn)
      · rename_i hn
        obtain ⟨xs, vs, q1, q2, q3⟩ := ref_at hr e1
        rw [q1] at e
        simp only [Option.map_eq_some_iff] at e
        obtain ⟨m, em, rfl⟩ := e
        refine .lst q2 ⟨fun hm => ?_, hr.dj a (List.mem_of_getElem? e1)⟩ (mapO_rep ih em q3)
        obtain ⟨j, hj, ej⟩ := List.getElem_of_mem hm
        have hj2 : j < Θ2.th.length := by have : j < (Θ2.th.take b).length := hj; rw [List.length_take] at this; omega
        have hjb : j < b := by have : j < (Θ2.th.take b).length := hj; rw [List.length_take] at this; omega
        have ej2 : Θ2.th[j] = a := by rw [← ej]; exact (List.getElem_take).symm
        obtain ⟨hn2, en⟩ := List.getElem?_eq_some_iff.mp e1
        have := (List.getElem_inj hr.nd).mp (ej2.trans en.symm)
        omega
theorem frzH_get {b : Nat} : ∀ {os ps : List AObj}, frzH b h2 os = some ps → os.length = ps.length ∧ ∀ (n : Nat) p, ps[n]? = some p → ∃ o, os[n]? = some o ∧ frzO b h2 o = some p
  | [], ps, e => by cases e; exact ⟨rfl, by simp⟩
  | o :: os, ps, e => by
    simp only [frzH] at e
    cases e1 : frzO b h2 o with
    | none => rw [e1] at e; simp at e
    | some q =>
      cases e2 : frzH b h2 os with
      | none => rw [e1, e2] at e; simp at e
      | some qs =>
        rw [e1, e2] at e
        cases e
        obtain ⟨hl, hg⟩ := frzH_get e2
        refine ⟨by simp [hl], fun n p hp => ?_⟩
        cases n with
        | zero => simp at hp; subst hp; exact ⟨o, rfl, e1⟩
        | succ n => exact hg n p (by simpa using hp)
theorem frzH_rep {b : Nat} {g : AH} (hr : HR Θ2 h2 H2) (hb : b ≤ h2.length) (e : frzH b h2 (h2.take b) = some g) : HR (Θ2.cut b) g H2 := by
  obtain ⟨hl, hg⟩ := frzH_get e
  refine ⟨?_, ?_, ?_, hr.hid, fun n a o e1 e2 => ?_⟩
  · show (Θ2.th.take b).length = _
    rw [← hl, List.length_take, List.length_take, hr.len]
  · exact hr.nd.sublist (List.take_sublist _ _)
  · exact fun a m => hr.dj a (List.mem_of_mem_take m)
  · obtain ⟨o', e3, e4⟩ := hg n o e2
    have hn : n < b := by
      have := (List.getElem?_eq_some_iff.mp e3).1
      rw [List.length_take] at this; omega
    have e1' : Θ2.th[n]? = some a := by
      have : (Θ2.th.take b)[n]? = some a := e1
      rw [List.getElem?_take_of_lt hn] at this; exact this
    rw [List.getElem?_take_of_lt hn] at e3
    have z := hr.obj n a o' e1' e3
    cases o' with
    | lst xs =>
      obtain ⟨vs, ev, l⟩ := z
      simp only [frzO, Option.map_eq_some_iff] at e4
      obtain ⟨m, em, rfl⟩ := e4
      exact ⟨vs, ev, mapO_rep (fun e r => frz_rep hr 40 e r) em l⟩
end
theorem cut_eq {Θ1 Θ2 : Th K} {H1 H2 : Hp} {b : Nat} (t : Tr Θ1 H1 Θ2 H2) (hb : b = Θ1.th.length) : Θ2.cut b = Θ1 := by
  obtain ⟨more, e, _⟩ := t.th
  have : Θ2.th.take b = Θ1.th := by rw [e, hb, List.take_left]
  have h2 := t.hd
  cases Θ1
  cases Θ2
  simp only [Th.cut] at *
  rw [this, h2]
theorem Tr.back {Θ1 Θ2 : Th K} {H1 H2 : Hp} (t : Tr Θ1 H1 Θ2 H2) : Tr Θ1 H1 Θ1 H2 := ⟨rfl, ⟨[], by simp, by simp⟩, t.keep⟩
theorem shut_ok {Θ1 Θ2 : Th K} {H1 H2 : Hp} {h1 h2 : AH} {v : AV} {x : V} {Q : VK} {E : XW K} (hr1 : HR Θ1 h1 H1) (t : Tr Θ1 H1 Θ2 H2) (hr : HR Θ2 h2 H2) (r : Rep Θ2 H2 v x) (p : Post Rep (shut h1.length v h2) Θ1 H1 Q E) : Q x H2 := by
  have hb : h1.length = Θ1.th.length := hr1.len.symm
  have hle : h1.length ≤ h2.length := by
    obtain ⟨more, e, _⟩ := t.th
    rw [← hr.len, e, List.length_append]; omega
  unfold shut at p
  cases e1 : frz h1.length h2 40 v with
  | none => rw [e1] at p; exact p.elim
  | some w =>
    cases e2 : frzH h1.length h2 (h2.take h1.length) with
    | none => rw [e1, e2] at p; exact p.elim
    | some g =>
      rw [e1, e2] at p
      have c := cut_eq t hb
      have r' := frz_rep hr 40 e1 r
      have hr' := frzH_rep hr hle e2
      rw [c] at r' hr'
      exact p Θ1 H2 x t.back hr' r'
/-- a value that shares nothing with the call's own lists -/
theorem frzS_rep {Θ2 : Th K} {H2 : Hp} {b n : Nat} {a : Addr} (nd : Θ2.th.Nodup) (ea : Θ2.th[n]? = some a) (hnb : b ≤ n) : ∀ (f : Nat) {x y : AV} {v : V}, frz b [] f x = some y → Rep Θ2 H2 x v → Rep ((Θ2.cut b).hide a) H2 y v := by
  intro f
  have low : ∀ {n : Nat} {a : Addr}, Θ2.th[n]? = some a → n < b → (Θ2.cut b).th[n]? = some a := fun e hn => by
    show (Θ2.th.take b)[_]? = _
    rw [List.getElem?_take_of_lt hn]; exact e
  have off : ∀ {c : Addr}, Θ2.off c → ((Θ2.cut b).hide a).off c := fun {c} o => ⟨(cut_off o).1, fun m => by
    rcases List.mem_cons.mp m with m | m
    · rw [m] at o; exact o.1 (List.mem_of_getElem? ea)
    · exact o.2 m⟩
  induction f with
  | zero =>
    intro x y v e r
    cases r with
    | ref e1 =>
      simp only [frz] at e
      split at e
      · rename_i hn; cases e; exact .ref (low e1 hn)
      · cases e
    | non => cases e; exact .non
    | bl k => cases e; exact .bl k
    | int k => cases e; exact .int k
    | str k => cases e; exact .str k
    | _ => simp [frz] at e
  | succ f ih =>
    intro x y v e r
    cases r with
    | non => cases e; exact .non
    | bl k => cases e; exact .bl k
    | int k => cases e; exact .int k
    | str k => cases e; exact .str k
    | tup e1 o l =>
      simp only [frz, Option.map_eq_some_iff] at e
      obtain ⟨m, em, rfl⟩ := e
      exact .tup e1 (off o) (mapO_rep ih em l)
    | lst e1 o l =>
      simp only [frz, Option.map_eq_some_iff] at e
      obtain ⟨m, em, rfl⟩ := e
      exact .lst e1 (off o) (mapO_rep ih em l)
    | scr e1 o l =>
      simp only [frz, Option.map_eq_some_iff] at e
      obtain ⟨m, em, rfl⟩ := e
      exact .scr e1 (off o) (mapO_rep ih em l)
    | scrK k1 l =>
      simp only [frz, Option.map_eq_some_iff] at e
      obtain ⟨m, em, rfl⟩ := e
      exact .scrK k1 (mapO_rep ih em l)
    | exc c e1 o y l =>
      simp only [frz, Option.map_eq_some_iff] at e
      obtain ⟨m, em, rfl⟩ := e
      exact .exc c e1 (off o) (y.of fun p o e g => ⟨e, off g⟩) (mapO_rep ih em l)
    | @ref n a e1 =>
      simp only [frz] at e
      split at e
      · rename_i hn; cases e; exact .ref (low e1 hn)
      · simp at e
theorem cut_new {Θ2 : Th K} {b n : Nat} {a : Addr} (nd : Θ2.th.Nodup) (ea : Θ2.th[n]? = some a) (hnb : b ≤ n) : a ∉ (Θ2.cut b).th := fun hm => by
  obtain ⟨j, hj, ej⟩ := List.getElem_of_mem hm
  have hj2 : j < Θ2.th.length := by have : j < (Θ2.th.take b).length := hj; rw [List.length_take] at this; omega
  have hjb : j < b := by have : j < (Θ2.th.take b).length := hj; rw [List.length_take] at this; omega
  have ej2 : Θ2.th[j] = a := by rw [← ej]; exact (List.getElem_take).symm
  obtain ⟨hn2, en⟩ := List.getElem?_eq_some_iff.mp ea
  have := (List.getElem_inj nd).mp (ej2.trans en.symm)
  omega
theorem frzSH_rep {Θ2 : Th K} {h2 : AH} {H2 : Hp} {b n : Nat} {a : Addr} {g : AH} (hr : HR Θ2 h2 H2) (ea : Θ2.th[n]? = some a) (hnb : b ≤ n) (e : frzH b [] (h2.take b) = some g) : HR ((Θ2.cut b).hide a) g H2 := by
  obtain ⟨hl, hg⟩ := frzH_get e
  refine ⟨?_, ?_, ?_, ?_, fun m c o e1 e2 => ?_⟩
  · show (Θ2.th.take b).length = _
    rw [← hl, List.length_take, List.length_take, hr.len]
  · exact hr.nd.sublist (List.take_sublist _ _)
  · intro c m k
    rcases List.mem_cons.mp k with k | k
    · rw [k] at m; exact cut_new hr.nd ea hnb m
    · exact hr.dj c (List.mem_of_mem_take m) k
  · intro c m
    rcases List.mem_cons.mp m with m | m
    · rw [m]; exact hr.th_some (List.mem_of_getElem? ea)
    · exact hr.hid c m
  · obtain ⟨o', e3, e4⟩ := hg m o e2
    have hn : m < b := by
      have := (List.getElem?_eq_some_iff.mp e3).1
      rw [List.length_take] at this; omega
    have e1' : Θ2.th[m]? = some c := by
      have : (Θ2.th.take b)[m]? = some c := e1
      rw [List.getElem?_take_of_lt hn] at this; exact this
    rw [List.getElem?_take_of_lt hn] at e3
    have z := hr.obj m c o' e1' e3
    cases o' with
    | lst xs =>
      obtain ⟨vs, ev, l⟩ := z
      simp only [frzO, Option.map_eq_some_iff] at e4
      obtain ⟨m, em, rfl⟩ := e4
      exact ⟨vs, ev, mapO_rep (fun e r => frzS_rep hr.nd ea hnb 40 e r) em l⟩
theorem shutM_ok {Θ1 Θ2 : Th K} {H1 H2 : Hp} {h1 h2 : AH} {v : AV} {x : V} {Q : VK} {E : XW K} (hr1 : HR Θ1 h1 H1) (t : Tr Θ1 H1 Θ2 H2) (hr : HR Θ2 h2 H2) (r : Rep Θ2 H2 v x) (p : Post Rep (shutM h1.length v h2) Θ1 H1 Q E) : Q x H2 := by
  have hb : h1.length = Θ1.th.length := hr1.len.symm
  have c := cut_eq t hb
  cases r with
  | @ref n a e0 =>
    simp only [shutM] at p
    split at p
    · exact p.elim
    · rename_i hn
      obtain ⟨xs, vs, q1, q2, q3⟩ := ref_at hr e0
      rw [q1] at p
      dsimp only at p
      cases e1 : mapO (frz h1.length [] 40) xs with
      | none => rw [e1] at p; exact p.elim
      | some l' =>
        cases e2 : frzH h1.length [] (h2.take h1.length) with
        | none => rw [e1, e2] at p; exact p.elim
        | some g =>
          rw [e1, e2] at p
          have r' := mapO_rep (fun e r => frzS_rep hr.nd e0 (Nat.le_of_not_lt hn) 40 e r) e1 q3
          have hr' := frzSH_rep hr e0 (Nat.le_of_not_lt hn) e2
          have nt := cut_new hr.nd e0 (Nat.le_of_not_lt hn)
          rw [c] at r' hr' nt
          have nh : a ∉ Θ1.hd := by rw [← t.hd]; exact hr.dj a (List.mem_of_getElem? e0)
          refine p (Θ1.push a) H2 _ ⟨rfl, ⟨[a], rfl, fun y m => ?_⟩, t.keep⟩ (hr'.pushed nh q2 r') (.ref ?_)
          · rw [List.mem_singleton.mp m]
            obtain ⟨more, em, fm⟩ := t.th
            have : a ∈ more := by
              have := List.mem_of_getElem? e0
              rw [em] at this
              exact (List.mem_append.mp this).resolve_left nt
            exact fm a this
          · show (Θ1.th ++ [a])[h1.length]? = some a
            rw [hb]; simp
  | _ => exact p.elim
end EV

set_option Elab.async false
set_option linter.all false
set_option maxRecDepth 100000
set_option maxHeartbeats 1000000
namespace EV
open PySem PySem.Spec PyProof.Rows L2
variable {K : PySem.W.Frag}

/-! ### statements -/
inductive IS where
  | skip | seq (a b : IS) | set (i : Nat) (e : IE) | tset (tg : Tg) (e : IE) | par2 (i j : Nat) (s : IE) | par3 (i j k : Nat) (s : IE) | sub (o i e : IE) | expr (e : IE) | ret (e : IE) | retn
  | ife (c : IE) (a b : IS) | whl (c : IE) (b : IS) | for_ (tg : Tg) (it : IE) (b : IS) | brk | cnt | aug (i : Nat) (o : Bop) (e : IE)
  | rais (x f : List Nat) (s : IE) | tryk (b : IS) (x : List Nat) (no : List (List Nat)) (i j : Nat)
/-- how a statement ends -/
inductive Fl where
  | nx (σ : ASt) (h : AH) | rt (v : AV) (h : AH) | bk (σ : ASt) (h : AH) | ct (σ : ASt) (h : AH)
  | ex (c : Nat) (as : List AV) (σ : ASt) (h : AH) | bad
def Rs.fl {α : Type} (r : Rs α) (σ : ASt) (k : α → AH → Fl) : Fl := match r with
  | .ok a h => k a h
  | .ex c as h => .ex c as σ h
  | .bad => .bad
@[simp] theorem Rs.fl_ok {α : Type} (a : α) (h : AH) (σ : ASt) (k : α → AH → Fl) : (Rs.ok a h).fl σ k = k a h := rfl
@[simp] theorem Rs.fl_bad {α : Type} (σ : ASt) (k : α → AH → Fl) : (Rs.bad : Rs α).fl σ k = .bad := rfl
def Fl.then (r : Fl) (k : ASt → AH → Fl) : Fl := match r with
  | .nx σ h => k σ h
  | r => r
@[simp] theorem Fl.then_nx (σ : ASt) (h : AH) (k : ASt → AH → Fl) : (Fl.nx σ h).then k = k σ h := rfl
@[simp] theorem Fl.then_rt (v : AV) (h : AH) (k : ASt → AH → Fl) : (Fl.rt v h).then k = .rt v h := rfl
@[simp] theorem Fl.then_bad (k : ASt → AH → Fl) : Fl.bad.then k = .bad := rfl
/-- behind a turn -/
def Fl.turn (r : Fl) (k : ASt → AH → Fl) : Fl := match r with
  | .nx σ h => k σ h
  | .ct σ h => k σ h
  | .bk σ h => .nx σ h
  | r => r
@[simp] theorem Fl.turn_nx (σ : ASt) (h : AH) (k : ASt → AH → Fl) : (Fl.nx σ h).turn k = k σ h := rfl
@[simp] theorem Fl.turn_ct (σ : ASt) (h : AH) (k : ASt → AH → Fl) : (Fl.ct σ h).turn k = k σ h := rfl
@[simp] theorem Fl.turn_bk (σ : ASt) (h : AH) (k : ASt → AH → Fl) : (Fl.bk σ h).turn k = .nx σ h := rfl
@[simp] theorem Fl.turn_rt (v : AV) (h : AH) (k : ASt → AH → Fl) : (Fl.rt v h).turn k = .rt v h := rfl
@[simp] theorem Fl.turn_bad (k : ASt → AH → Fl) : Fl.bad.turn k = .bad := rfl
def ofOF {α : Type} (o : Option α) (k : α → Fl) : Fl := match o with
  | some a => k a
  | none => .bad
@[simp] theorem ofOF_some {α : Type} (a : α) (k : α → Fl) : ofOF (some a) k = k a := rfl
@[simp] theorem ofOF_none {α : Type} (k : α → Fl) : ofOF (none : Option α) k = .bad := rfl

def forL (f : AV → ASt → AH → Fl) : List AV → ASt → AH → Fl
  | [], σ, h => .nx σ h
  | x :: xs, σ, h => (f x σ h).turn fun σ1 h1 => forL f xs σ1 h1
def forR (f : AV → ASt → AH → Fl) (sr : Src) : Nat → Nat → ASt → AH → Fl
  | 0, _, _, _ => .bad
  | k + 1, i, σ, h => match srcGet h sr i with
    | some (some x) => (f x σ h).turn fun σ1 h1 => forR f sr k (i + 1) σ1 h1
    | some none => .nx σ h
    | none => .bad
def evF (f : AV → ASt → AH → Fl) : Src → ASt → AH → Fl
  | .st xs, σ, h => forL f xs σ h
  | sr, σ, h => match srcLen h sr with
    | some n => forR f sr (n + 1) 0 σ h
    | none => .bad
def whlF (c : ASt → AH → Rs Bool) (b : ASt → AH → Fl) : Nat → ASt → AH → Fl
  | 0, _, _ => .bad
  | n + 1, σ, h => (c σ h).fl σ fun k h1 => if k then (b σ h1).turn fun σ2 h2 => whlF c b n σ2 h2 else .nx σ h1
abbrev WF : Nat := 100000

def setL (h : AH) (o : AV) (i : AV) (v : AV) : Option AH := match o, i with
  | .ref n, .int k => match lstOf h (.ref n) with
    | some l => match ixN l.length k with
      | some j => some (h.set n (.lst (l.set j v)))
      | none => none
    | none => none
  | _, _ => none

/-- an exception is raised -/
def raisF (x f : List Nat) (σ : ASt) (xs : List AV) (h : AH) : Fl := match mkxO x f xs with
  | some e => .ex 0 [e] σ h
  | none => .bad
/-- an exception is caught and kept, or goes on -/
def keepF (x : List Nat) (no : List (List Nat)) (i j : Nat) : Fl → Fl
  | .ex c [.exc y f as] σ h => if y = x then .nx (((σ.set i (some (.exc y f as))).set j (some (.exc y f as))).set i none) h else if no.contains y then .ex c [.exc y f as] σ h else .bad
  | .ex _ _ _ _ => .bad
  | r => r
def evS (Φ : Fns) : IS → ASt → AH → Fl
  | .skip, σ, h => .nx σ h
  | .seq a b, σ, h => (evS Φ a σ h).then fun σ1 h1 => evS Φ b σ1 h1
  | .set i e, σ, h => (evE Φ e σ h).fl σ fun v h1 => .nx (σ.set i (some v)) h1
  | .tset tg e, σ, h => (evE Φ e σ h).fl σ fun v h1 => ofOF (asg h1 tg v σ) fun σ1 => .nx σ1 h1
  | .par2 i j s, σ, h => (evL Φ s σ h).fl σ fun xs h1 => match xs with
    | [v, w] => .nx ((σ.set i (some v)).set j (some w)) h1
    | _ => .bad
  | .par3 i j k s, σ, h => (evL Φ s σ h).fl σ fun xs h1 => match xs with
    | [u, v, w] => .nx (((σ.set i (some u)).set j (some v)).set k (some w)) h1
    | _ => .bad
  | .sub o i e, σ, h => (evE Φ e σ h).fl σ fun v h1 => (evE Φ o σ h1).fl σ fun x h2 => (evE Φ i σ h2).fl σ fun y h3 => ofOF (setL h3 x y v) fun h4 => .nx σ h4
  | .expr e, σ, h => (evE Φ e σ h).fl σ fun _ h1 => .nx σ h1
  | .ret e, σ, h => (evE Φ e σ h).fl σ fun v h1 => .rt v h1
  | .retn, _, h => .rt .non h
  | .ife c a b, σ, h => (evT Φ c σ h).fl σ fun k h1 => if k then evS Φ a σ h1 else evS Φ b σ h1
  | .whl c b, σ, h => whlF (evT Φ c) (evS Φ b) WF σ h
  | .for_ tg it b, σ, h => (evI Φ it σ h).fl σ fun sr h1 => evF (fun x σ1 h2 => ofOF (asg h2 tg x σ1) fun σ2 => evS Φ b σ2 h2) sr σ h1
  | .rais x f s, σ, h => (evL Φ s σ h).fl σ fun xs h1 => raisF x f σ xs h1
  | .tryk b x no i j, σ, h => keepF x no i j (evS Φ b σ h)
  | .brk, σ, h => .bk σ h
  | .cnt, σ, h => .ct σ h
  | .aug i o e, σ, h => match σ[i]? with
    | some (some x) => (evE Φ e σ h).fl σ fun y h1 => ofOF (binO h1 o x y) fun z => match z with
      | .int _ => .nx (σ.set i (some z)) h1
      | _ => .bad
    | _ => .bad
termination_by structural s => s

/-! ### what a statement is to reach -/
def PostS {K : PySem.W.Frag} (r : Fl) (Θ : Th K) (H : Hp) (D : Ends) (W : AW K) : Prop := match r with
  | .nx σa h => ∀ Θ' H' σ, Tr Θ H Θ' H' → HR Θ' h H' → SR Θ' H' σa σ → D.nx σ H'
  | .bk σa h => ∀ Θ' H' σ, Tr Θ H Θ' H' → HR Θ' h H' → SR Θ' H' σa σ → D.bk σ H'
  | .ct σa h => ∀ Θ' H' σ, Tr Θ H Θ' H' → HR Θ' h H' → SR Θ' H' σa σ → D.ct σ H'
  | .rt v h => ∀ Θ' H' x, Tr Θ H Θ' H' → HR Θ' h H' → Rep Θ' H' v x → D.rt x H'
  | .ex c as σa h => ∀ Θ' H' σ, Tr Θ H Θ' H' → HR Θ' h H' → SR Θ' H' σa σ → W σ c as Θ' H'
  | .bad => False
def tS {K : PySem.W.Frag} (Φ : Fns) (W : AW K) (s : IS) : TS := fun D σ H => ∃ (Θ : Th K) (h : AH) (σa : ASt), HR Θ h H ∧ SR Θ H σa σ ∧ PostS (evS Φ s σa h) Θ H D W
section
variable {K : PySem.W.Frag} {Θ Θ1 : Th K} {H H1 : Hp} {D D' : Ends} {W : AW K}
theorem PostS.start {r : Fl} (p : PostS r Θ H D W) (t : Tr Θ H Θ1 H1) : PostS r Θ1 H1 D W := by
  cases r with
  | nx σ h => exact fun Θ' H' x t' => p Θ' H' x (t.trans t')
  | bk σ h => exact fun Θ' H' x t' => p Θ' H' x (t.trans t')
  | ct σ h => exact fun Θ' H' x t' => p Θ' H' x (t.trans t')
  | rt σ h => exact fun Θ' H' x t' => p Θ' H' x (t.trans t')
  | ex c as σ h => exact fun Θ' H' x t' => p Θ' H' x (t.trans t')
  | bad => exact p
/-- an expression ahead -/
theorem PostS.fl {α β : Type} {R : Th K → Hp → α → β → Prop} {r : Rs α} {σa : ASt} {σ : L2.St} {k : α → AH → Fl} (sr : SR Θ H σa σ) (p : PostS (r.fl σa k) Θ H D W) :
    Post R r Θ H (fun y H1 => ∃ Θ1 h1 a, Tr Θ H Θ1 H1 ∧ HR Θ1 h1 H1 ∧ SR Θ1 H1 σa σ ∧ R Θ1 H1 a y ∧ PostS (k a h1) Θ1 H1 D W) (EW W σ) := by
  cases r with
  | ok a h1 => exact fun Θ1 H1 x t hr rr => ⟨Θ1, h1, a, t, hr, sr.mono t, rr, PostS.start p t⟩
  | ex c as h1 => exact fun Θ1 H1 t hr => p Θ1 H1 σ t hr (sr.mono t)
  | bad => exact p
end
theorem _root_.L2.PS.wk {X : Cx} {e : Stmt} {t t' : TS} (h : PS X e t) (f : ∀ D σ H, t' D σ H → t D σ H) : PS X e t' := ⟨fun pins s σ H D I q => h.run pins s σ H D I (f _ _ _ q)⟩
theorem _root_.L2.PSs.wk {X : Cx} {e : List Stmt} {t t' : TS} (h : PSs X e t) (f : ∀ D σ H, t' D σ H → t D σ H) : PSs X e t' := ⟨fun pins s σ H D I q => h.run pins s σ H D I (f _ _ _ q)⟩
/-- a block's reading may be weakened at its end -/
theorem PostS.imp {r : Fl} {Θ : Th K} {H : Hp} {D D' : Ends} {W : AW K} (p : PostS r Θ H D W) (nx : ∀ σ H, D.nx σ H → D'.nx σ H) (rt : ∀ v H, D.rt v H → D'.rt v H) (bk : ∀ σ H, D.bk σ H → D'.bk σ H) (ct : ∀ σ H, D.ct σ H → D'.ct σ H) : PostS r Θ H D' W := by
  cases r with
  | nx σ h => exact fun Θ' H' x t a b => nx _ _ (p Θ' H' x t a b)
  | bk σ h => exact fun Θ' H' x t a b => bk _ _ (p Θ' H' x t a b)
  | ct σ h => exact fun Θ' H' x t a b => ct _ _ (p Θ' H' x t a b)
  | rt σ h => exact fun Θ' H' x t a b => rt _ _ (p Θ' H' x t a b)
  | ex c as σ h => exact p
  | bad => exact p

section
variable {X : Cx} {Φ : Fns} {W : AW X.K} {a b c : Expr} {ia ib ic : IE} {pos : Pos} {st : Stmt} {rest : List Stmt} {is js : IS}
theorem ss_nil : PSs X [] (tS Φ W .skip) := pss_nil.wk fun D σ H ⟨Θ, h, σa, hr, sr, p⟩ => p Θ H σ Tr.refl hr sr
theorem ss_cons (h1 : PS X st (tS Φ W is)) (h2 : PSs X rest (tS Φ W js)) : PSs X (st :: rest) (tS Φ W (.seq is js)) :=
  (pss_cons h1 h2).wk fun D σ H ⟨Θ, h, σa, hr, sr, p⟩ => by
    refine ⟨Θ, h, σa, hr, sr, ?_⟩
    have p : PostS ((evS Φ is σa h).then fun σ1 h1 => evS Φ js σ1 h1) Θ H D W := p
    cases e : evS Φ is σa h with
    | nx σ1 h1 => rw [e] at p; exact fun Θ' H' σ' t hr' sr' => ⟨Θ', h1, σ1, hr', sr', PostS.start p t⟩
    | _ => rw [e] at p; exact p
theorem ss_one (h1 : PS X st (tS Φ W is)) : PSs X [st] (tS Φ W is) := pss_one h1
theorem ps_pass' : PS X (.Pass pos) (tS Φ W .skip) := ps_pass.wk fun D σ H ⟨Θ, h, σa, hr, sr, p⟩ => p Θ H σ Tr.refl hr sr
theorem ps_brk : PS X (.Break pos) (tS Φ W .brk) := ps_break.wk fun D σ H ⟨Θ, h, σa, hr, sr, p⟩ => p Θ H σ Tr.refl hr sr
theorem ps_cnt : PS X (.Continue pos) (tS Φ W .cnt) := ps_continue.wk fun D σ H ⟨Θ, h, σa, hr, sr, p⟩ => p Θ H σ Tr.refl hr sr
theorem ps_ret' (ha : PE X a (tE Φ W ia)) : PS X (.Return (some a) pos) (tS Φ W (.ret ia)) := (ps_ret ha).wk fun D σ H ⟨Θ, h, σa, hr, sr, p⟩ =>
  ⟨Θ, h, σa, hr, sr, (PostS.fl (R := Rep) sr p).imp fun x H1 ⟨Θ1, h1, v, t1, hr1, sr1, r, p1⟩ => p1 Θ1 H1 x Tr.refl hr1 r⟩
theorem ps_retn : PS X (.Return none pos) (tS Φ W .retn) := ps_retN.wk fun D σ H ⟨Θ, h, σa, hr, sr, p⟩ => p Θ H _ Tr.refl hr .non
theorem ps_expr' (ha : PE X a (tE Φ W ia)) (hs : swapsWith a none pos.line X.env = pure false) : PS X (.Expr a pos) (tS Φ W (.expr ia)) := (ps_expr ha hs).wk fun D σ H ⟨Θ, h, σa, hr, sr, p⟩ =>
  ⟨Θ, h, σa, hr, sr, (PostS.fl (R := Rep) sr p).imp fun x H1 ⟨Θ1, h1, v, t1, hr1, sr1, r, p1⟩ => p1 Θ1 H1 σ Tr.refl hr1 sr1⟩
theorem ps_ife {sa sb : List Stmt} (hc : PT X c (tT Φ W ic)) (ha : PSs X sa (tS Φ W is)) (hb : PSs X sb (tS Φ W js)) : PS X (.If c sa sb pos) (tS Φ W (.ife ic is js)) := (ps_if hc ha hb).wk fun D σ H ⟨Θ, h, σa, hr, sr, p⟩ =>
  ⟨Θ, h, σa, hr, sr, (PostS.fl (R := REq) sr p).imp fun x H1 ⟨Θ1, h1, v, t1, hr1, sr1, r, p1⟩ => by
    cases r
    cases x with
    | true => exact ⟨Θ1, h1, σa, hr1, sr1, p1⟩
    | false => exact ⟨Θ1, h1, σa, hr1, sr1, p1⟩⟩
theorem ps_set' {i : Nat} {x : Str} {pos' : Pos} (g : CG X) (hi : X.N[i]? = some x) (hx : Loc X.env.scope x) (ha : PE X a (tE Φ W ia)) (hs : swapsWith a (some (.Name x pos')) pos.line X.env = pure false) (hf : X.fn x = true ∨ X.env.scope.names.lookup x = some .local) :
    PS X (.Assign [.Name x pos'] a pos) (tS Φ W (.set i ia)) := (ps_set g.nd hi hx ha hs hf).wk fun D σ H ⟨Θ, h, σa, hr, sr, p⟩ =>
  ⟨Θ, h, σa, hr, sr, (PostS.fl (R := Rep) sr p).imp fun x H1 ⟨Θ1, h1, v, t1, hr1, sr1, r, p1⟩ => p1 Θ1 H1 _ Tr.refl hr1 (sr1.set r i)⟩
theorem ps_tset {tg : Expr} {tgi : Tg} (hg : PG X tg (tG X.K tgi)) (hn : notStar tg = true) (ha : PE X a (tE Φ W ia)) (hs : swapsWithSole [tg] a pos.line X.env = pure false) (hw : swappedStores [tg] a X.env = pure none) :
    PS X (.Assign [tg] a pos) (tS Φ W (.tset tgi ia)) := (ps_asg ha hg hs hw (by rw [asgEach_of hn]; rfl)).wk fun D σ H ⟨Θ, h, σa, hr, sr, p⟩ =>
  ⟨Θ, h, σa, hr, sr, (PostS.fl (R := Rep) sr p).imp fun x H1 ⟨Θ1, h1, v, t1, hr1, sr1, r, p1⟩ => by
    cases e : asg h1 tgi v σa with
    | none => rw [e] at p1; exact p1.elim
    | some σ1 => rw [e] at p1; exact ⟨Θ1, h1, σa, v, σ1, hr1, sr1, r, e, fun σ' sr' _ => p1 Θ1 H1 σ' Tr.refl hr1 sr'⟩⟩
theorem ps_par2 {i j : Nat} {x y : Str} {px py pt : Pos} {kt k2 pt2} (g : CG X) (hi : X.N[i]? = some x) (hj : X.N[j]? = some y) (hij : i ≠ j) (hx : X.env.scope.names.lookup x = some .local) (hy : X.env.scope.names.lookup y = some .local)
    (ha : PA X [a, b] (tL Φ W ia)) (hw : swappedStores [.Tuple [.Name x px, .Name y py] kt pt] (.Tuple [a, b] k2 pt2) X.env = pure (some [x, y])) :
    PS X (.Assign [.Tuple [.Name x px, .Name y py] kt pt] (.Tuple [a, b] k2 pt2) pos) (tS Φ W (.par2 i j ia)) := (ps_par g.calm g.nd hi hj hij hx hy ha hw rfl).wk fun D σ H ⟨Θ, h, σa, hr, sr, p⟩ =>
  ⟨Θ, h, σa, hr, sr, (PostS.fl (R := RepL) sr p).imp fun us H1 ⟨Θ1, h1, vs, t1, hr1, sr1, r, p1⟩ => by
    match vs, r, p1 with
    | [v, w], r, p1 =>
      obtain ⟨u1, u2, rfl, r1, r2⟩ := repL2 r
      exact ⟨u1, u2, rfl, p1 Θ1 H1 _ Tr.refl hr1 ((sr1.set r1 i).set r2 j)⟩
    | [], _, p1 => exact p1.elim
    | [_], _, p1 => exact p1.elim
    | _ :: _ :: _ :: _, _, p1 => exact p1.elim⟩
/-- o[i] = e -/
theorem set_ok : PSet X (fun o i v H Q => ∃ (Θ : Th X.K) (h : AH) (ao ai av : AV) (h' : AH), HR Θ h H ∧ Rep Θ H ao o ∧ Rep Θ H ai i ∧ Rep Θ H av v ∧ setL h ao ai av = some h' ∧ ∀ Θ' H', Tr Θ H Θ' H' → HR Θ' h' H' → Q H') := by
  intro pins s σ H o i v ov iv u Q I ro ri rv ⟨Θ, h, ao, ai, av, h', hr, rao, rai, rav, e, q⟩
  cases rao with
  | @ref n p e0 =>
    cases rai with
    | int k =>
      obtain ⟨xs, vs, q1, q2, q3⟩ := ref_at hr e0
      simp only [setL, lstOf, q1] at e
      cases e1 : ixN xs.length k with
      | none => rw [e1] at e; cases e
      | some j =>
        rw [e1] at e
        cases e
        exact set_list pins s σ H _ _ v ov iv u Q I ro ri rv ⟨p, vs, k, j, rfl, rfl, q2, by rw [← q3.length]; exact e1, q Θ _ (Tr.write e0) (hr.write e0 (q3.set rav j))⟩
    | _ => simp [setL] at e
  | _ => simp [setL] at e
theorem ps_sub {o i : Expr} {io ii : IE} {pos' : Pos} (hm : notSliceE i = true) (ho : PE X o (tE Φ W io)) (hi : PE X i (tE Φ W ii)) (ha : PE X a (tE Φ W ia)) (hs : swapsWithSole [.Subscript o i pos'] a pos.line X.env = pure false) (hw : swappedStores [.Subscript o i pos'] a X.env = pure none) :
    PS X (.Assign [.Subscript o i pos'] a pos) (tS Φ W (.sub io ii ia)) := by
  have hass : ∀ v, assign (.Subscript o i pos') X.env v = (do
      let ov ← holding [v] (eval o X.env)
      let iv ← holding [v, ov] (eval i X.env)
      standAt pos'
      holding [v, ov, iv] (setItem ov iv v)
      release [v, ov, iv] []) := by
    intro v
    cases i <;> first | rfl | cases hm
  refine (ps_asg ha (pg_sub ho hi set_ok hass) hs hw rfl).wk fun D σ H ⟨Θ, h, σa, hr, sr, p⟩ => ?_
  refine ⟨Θ, h, σa, hr, sr, (PostS.fl (R := Rep) sr p).imp fun x H1 ⟨Θ1, h1, v, t1, hr1, sr1, r, p1⟩ => ?_⟩
  refine ⟨Θ1, h1, σa, hr1, sr1, (PostS.fl (R := Rep) sr1 p1).imp fun y H2 ⟨Θ2, h2, w, t2, hr2, sr2, r2, p2⟩ => ?_⟩
  refine ⟨Θ2, h2, σa, hr2, sr2, (PostS.fl (R := Rep) sr2 p2).imp fun z H3 ⟨Θ3, h3, k, t3, hr3, sr3, r3, p3⟩ => ?_⟩
  cases e : setL h3 w k v with
  | none => rw [e] at p3; exact p3.elim
  | some h4 => rw [e] at p3; exact ⟨Θ3, h3, w, k, v, h4, hr3, r2.mono t3, r3, (r.mono t2).mono t3, e, fun Θ' H' t hr' => p3 Θ' H' σ t hr' (sr3.mono t)⟩

/-! ### loops -/
theorem ps_whl {body : List Stmt} (hp : PassesOwn (model X.prog X.w) X.A X.env X.xe) (hc : PT X c (tT Φ W ic)) (hb : PSs X body (tS Φ W is)) : PS X (.While c body [] pos) (tS Φ W (.whl ic is)) := by
  refine (ps_while hp hc hb).wk fun D σ H ⟨Θ, h, σa, hr, sr, p⟩ => ?_
  refine ⟨fun m σ H => ∃ (Θ : Th X.K) (h : AH) (σa : ASt), HR Θ h H ∧ SR Θ H σa σ ∧ PostS (whlF (evT Φ ic) (evS Φ is) m σa h) Θ H D W, ⟨WF, Θ, h, σa, hr, sr, p⟩, ?_⟩
  rintro m σ H ⟨Θ, h, σa, hr, sr, p⟩
  cases m with
  | zero => exact p.elim
  | succ m =>
    refine ⟨Θ, h, σa, hr, sr, (PostS.fl (R := REq) sr p).imp fun x H1 ⟨Θ1, h1, v, t1, hr1, sr1, r, p1⟩ => ?_⟩
    cases r
    cases x with
    | false => exact p1 Θ1 H1 σ Tr.refl hr1 sr1
    | true =>
      rw [if_pos rfl]
      refine ⟨fun σ H => ∃ (Θ : Th X.K) (h : AH) (σa : ASt), HR Θ h H ∧ SR Θ H σa σ ∧ PostS (whlF (evT Φ ic) (evS Φ is) m σa h) Θ H D W, fun σ' H' q => ⟨m, Nat.lt_succ_self m, q⟩, Θ1, h1, σa, hr1, sr1, ?_⟩
      have p1 : PostS ((evS Φ is σa h1).turn fun σ2 h2 => whlF (evT Φ ic) (evS Φ is) m σ2 h2) Θ1 H1 D W := p1
      cases e : evS Φ is σa h1 with
      | nx σ2 h2 => rw [e] at p1; exact fun Θ' H' σ' t hr' sr' => ⟨Θ', h2, σ2, hr', sr', PostS.start p1 t⟩
      | ct σ2 h2 => rw [e] at p1; exact fun Θ' H' σ' t hr' sr' => ⟨Θ', h2, σ2, hr', sr', PostS.start p1 t⟩
      | bk σ2 h2 => rw [e] at p1; exact p1
      | rt v h2 => rw [e] at p1; exact p1
      | ex cc as σ2 h2 => rw [e] at p1; exact p1
      | bad => rw [e] at p1; exact p1
structure LpS (f : AV → ASt → AH → Fl) (sr : Src) (L : Nat → Nat → ASt → AH → Fl) (Ok : Nat → Nat → Prop) : Prop where
  step : ∀ i m σ h, Ok i m → (srcGet h sr i = some none ∧ L i m σ h = .nx σ h) ∨
    (∃ x m', m' < m ∧ Ok (i + 1) m' ∧ srcGet h sr i = some (some x) ∧ L i m σ h = (f x σ h).turn fun σ1 h1 => L (i + 1) m' σ1 h1) ∨ L i m σ h = .bad
theorem lpS_of (f : AV → ASt → AH → Fl) (sr : Src) (σ : ASt) (h : AH) (hb : evF f sr σ h ≠ .bad) : ∃ L Ok m, LpS f sr L Ok ∧ Ok 0 m ∧ L 0 m σ h = evF f sr σ h := by
  have dyn : ∀ n, srcLen h sr = some n → evF f sr σ h = forR f sr (n + 1) 0 σ h → ∃ L Ok m, LpS f sr L Ok ∧ Ok 0 m ∧ L 0 m σ h = evF f sr σ h := by
    intro n en e
    refine ⟨fun i m σ h => forR f sr m i σ h, fun _ _ => True, n + 1, ⟨fun i m σ h ok => ?_⟩, trivial, e.symm⟩
    cases m with
    | zero => exact .inr (.inr rfl)
    | succ m =>
      simp only [forR]
      cases e1 : srcGet h sr i with
      | none => exact .inr (.inr rfl)
      | some o =>
        cases o with
        | none => exact .inl ⟨rfl, rfl⟩
        | some x => exact .inr (.inl ⟨x, m, by omega, trivial, rfl, rfl⟩)
  cases sr with
  | st xs =>
    refine ⟨fun i m σ h => forL f (xs.drop i) σ h, fun i m => i + m = xs.length, xs.length, ⟨fun i m σ h ok => ?_⟩, by omega, rfl⟩
    by_cases hi : i < xs.length
    · refine .inr (.inl ⟨xs[i], m - 1, by omega, by omega, ?_, ?_⟩)
      · show some xs[i]? = _
        rw [List.getElem?_eq_getElem hi]
      · show forL f (xs.drop i) σ h = _
        rw [List.drop_eq_getElem_cons hi]
        rfl
    · refine .inl ⟨?_, ?_⟩
      · show some xs[i]? = _
        rw [List.getElem?_eq_none (by omega)]
      · show forL f (xs.drop i) σ h = _
        rw [List.drop_eq_nil_of_le (by omega)]
        rfl
  | rf n =>
    cases en : srcLen h (.rf n) with
    | none => exact absurd (by simp [evF, en]) hb
    | some k => exact dyn k en (by simp [evF, en])
  | zp a b =>
    cases en : srcLen h (.zp a b) with
    | none => exact absurd (by simp [evF, en]) hb
    | some k => exact dyn k en (by simp [evF, en])
  | en a =>
    cases en : srcLen h (.en a) with
    | none => exact absurd (by simp [evF, en]) hb
    | some k => exact dyn k en (by simp [evF, en])
theorem ps_for' {tg iter : Expr} {body : List Stmt} {it : IE} {tgi : Tg} (hp : PassesOwn (model X.prog X.w) X.A X.env X.xe) (g : CG X) (hi : PI X tg iter (tI Φ W it)) (hg : PG X tg (tG X.K tgi)) (hb : PSs X body (tS Φ W is))
    (hs : ∀ x, foldedSetIterable iter X.env x = pure x) : PS X (.For tg iter body [] pos) (tS Φ W (.for_ tgi it is)) := by
  refine (ps_for hp g.calm hi hg hb hs).wk fun D σ H ⟨Θ, h, σa, hr, sr, p⟩ => ?_
  refine ⟨Θ, h, σa, hr, sr, (PostS.fl (R := RSrc) sr p).imp fun J H1 ⟨Θ1, h1, s1, t1, hr1, sr1, wk, p1⟩ => ?_⟩
  have hbd : evF (fun x σ1 h2 => ofOF (asg h2 tgi x σ1) fun σ2 => evS Φ is σ2 h2) s1 σa h1 ≠ .bad := fun e => by rw [e] at p1; exact p1
  obtain ⟨L, Ok, m0, lp, ok0, e0⟩ := lpS_of _ _ _ _ hbd
  rw [← e0] at p1
  refine ⟨fun i m σ H => ∃ (Θ2 : Th X.K) (h : AH) (σa : ASt), Ok i m ∧ Tr Θ1 H1 Θ2 H ∧ HR Θ2 h H ∧ SR Θ2 H σa σ ∧ PostS (L i m σa h) Θ2 H D W, ⟨m0, Θ1, h1, σa, ok0, Tr.refl, hr1, sr1, p1⟩, ?_⟩
  rintro i m σ2 H2 ⟨Θ2, h2, σ2a, ok, t2, hr2, sr2, p2⟩
  have wk2 := wk Θ2 h2 H2 t2.toH hr2 i
  rcases lp.step i m σ2a h2 ok with ⟨ge, e⟩ | ⟨x, m', hm, ok', ge, e⟩ | e
  · rw [e] at p2
    exact .inl ⟨wk2.2 ge, p2 Θ2 H2 σ2 Tr.refl hr2 sr2⟩
  · rw [e] at p2
    obtain ⟨go, yl⟩ := wk2.1 x ge
    refine .inr ⟨go, fun σ H => ∃ (Θ2 : Th X.K) (h : AH) (σa : ASt), Ok (i + 1) m' ∧ Tr Θ1 H1 Θ2 H ∧ HR Θ2 h H ∧ SR Θ2 H σa σ ∧ PostS (L (i + 1) m' σa h) Θ2 H D W, fun σ' H' q => ⟨m', hm, q⟩, fun u H3 y => ?_⟩
    obtain ⟨t3, hr3, rx⟩ := yl u H3 y
    have p3 := PostS.start p2 t3
    cases ea : asg h2 tgi x σ2a with
    | none => simp only [ea, ofOF_none, Fl.turn_bad] at p3; exact p3.elim
    | some σ3 =>
      simp only [ea, ofOF_some] at p3
      refine ⟨Θ2, h2, σ2a, x, σ3, hr3, sr2.mono t3, rx, ea, fun σ' sr' _ => ⟨Θ2, h2, σ3, hr3, sr', ?_⟩⟩
      cases e4 : evS Φ is σ3 h2 with
      | nx σ4 h4 => rw [e4] at p3; exact fun Θ' H' σ' t hr' sr' => ⟨Θ', h4, σ4, ok', (t2.trans t3).trans t, hr', sr', PostS.start p3 t⟩
      | ct σ4 h4 => rw [e4] at p3; exact fun Θ' H' σ' t hr' sr' => ⟨Θ', h4, σ4, ok', (t2.trans t3).trans t, hr', sr', PostS.start p3 t⟩
      | bk σ4 h4 => rw [e4] at p3; exact p3
      | rt v h4 => rw [e4] at p3; exact p3
      | ex cc as σ4 h4 => rw [e4] at p3; exact p3
      | bad => rw [e4] at p3; exact p3
  · rw [e] at p2; exact p2.elim
end
end EV

set_option Elab.async false
set_option linter.all false
set_option maxRecDepth 100000
set_option maxHeartbeats 2000000
namespace EV
open PySem PySem.W PySem.Calls PyProof.Rows PySem.Spec
/-! ### an own exception with one field: its __init__ -/
/-- super().__init__(f); self.f = f -/
def initBody (f : Str) (p0 p1 p2 p3 p4 p5 q0 q1 q2 q3 : Pos) : List Stmt :=
  [.Expr (.Call (.Attribute (.Call (.Name "super" p0) [] [] p1) "__init__" p2) [.Name f p3] [] p4) p5, .Assign [.Attribute (.Name "self" q0) f q1] (.Name f q2) q3]
/-- what the written part says of the class -/
structure XC (P : Program) (K : Frag) (C fI : Addr) (f : Str) (B newId i : String) (bmB : List Value) : Prop where
  fb : ExcBaseFacts B newId i bmB
  sf : StoreFacts B bmB "object.__setattr__" "object"
  kx : KxsFacts B i
  q : excInitIn K C bmB newId = true
  hi : findIn K (.ref C) "__init__" = some (some (.ref fI))
  hf : isFn K (.ref fI) = true
  sa : findIn K (.ref C) "__setattr__" = some (some (.builtin "object.__setattr__"))
  ov : excOver K C bmB = true
  tk : takerIn K C f = some none
  hd : hasDictIn K C = true
  fn : ∃ (oc : Value) (od : Option Addr) (osl : Array (Option Value)) (qual : Str) (params : Arguments) (scope : Scope) (dV kV doc pm : Value) (an : Option Addr) (cda : Addr) (ct : Value) (cc : Addr) (p0 p1 p2 p3 p4 p5 q0 q1 q2 q3 : Pos),
    K.lookup fI = some ⟨oc, od, .func (ksFn "__init__" qual params (initBody f p0 p1 p2 p3 p4 p5 q0 q1 q2 q3) scope dV kV doc pm an (.ref cda) ct cc), osl⟩ ∧ codeIn K (.ref cda) qual = true ∧
    (∃ ar, (params.posonlyargs ++ params.args).head? = some ar ∧ ar.arg = ("self" : Str)) ∧
    (∃ ccl cdd vs ccs file tf, K.lookup cda = some ⟨ccl, cdd, .fields vs, ccs⟩ ∧ vs[2]? = some (.str file tf) ∧ ((P.main.file : Str) == file) = true) ∧
    (∃ cl cld csl, K.lookup cc = some ⟨cl, cld, .cell (some (.ref C)), csl⟩) ∧
    scope.names.lookup ("super" : Str) = some .globalImplicit ∧ scope.names.lookup ("__class__" : Str) = some .free ∧ scope.names.lookup ("self" : Str) = some .local ∧ scope.names.lookup f = some .local ∧
    (∀ x ∈ scope.names, x.2 ≠ .cell) ∧ scope.isCoroutine = false ∧ scope.isGenerator = false ∧ scope.kind = .function ∧
    (∀ env : Env, ∃ pl : Sem Bool, eval (.Call (.Attribute (.Call (.Name "super" p0) [] [] p1) "__init__" p2) [.Name f p3] [] p4) env = (do
      let ov ← attributeBase (.Call (.Name "super" p0) [] [] p1) "__init__" env (eval (.Call (.Name "super" p0) [] [] p1) env)
      standAt p2.atName
      let (fx, first) ← holding [ov] (getMethod ov "__init__" pl)
      callWith p4 fx first (backTo p4 (starEach [.Name f p3] env)) [])) ∧
    ∀ (s : Shared) (a b : Value), BindsTo s (ksFn "__init__" qual params (initBody f p0 p1 p2 p3 p4 p5 q0 q1 q2 q3) scope dV kV doc pm an (.ref cda) ct cc) ⟨[a, b], []⟩ [("self", a), (f, b)]
  cd : (clsIn K C).isSome = true
  mr : mroIn K C (.ref C) = some true
  su : nsIn K mainGlobals "super" = some none
  tp : nsIn K cStatics "thirdparty.any" = some none
  si : ks_superIn K C C "__init__" = some (some (.builtin i))
  sb : subIn K (.ref C) (.type B) = some true
  top : (P.main.scope.names.lookup ("super" : Str)).isSome = false
  nf : f ≠ ("self" : Str)
  db : (f == ("__debug__" : Str)) = false
section
variable {P : Program} {w : World} {K : Frag} {C fI : Addr} {f : Str} {B newId i : String} {bmB : List Value} {mg : Str → Option Value} {base : Heap} {A : Around} {h : Heap} {g : Array GenState} {d : Drawn} {t : Nat} {os : OsState} {u : Value} {e t0 : Addr} {R : Result → Shared → Prop}
theorem boot_super : bootBuiltins "super" = some (.type "super") := by decide +kernel
theorem ldLoc {M : Model} {A : Around} {E : Value → Shared → Prop} {s : Shared} {env : Env} {m : Str → Option Value} {x : Str} {pos : Pos} {v : Value} {Q : Value → Shared → Prop} (hn : s.heap.Ns env.locals m) (hv : m x = some v) (h : Q v s) (hk : env.scope.kind = .function) (hl : env.kindOf x = some .local) (hd : (x == ("__debug__" : Str)) = false) :
    wpAny M A (eval (.Name x pos) env) Q E s := wpAny_Name (wpAny_loadName_local hk hl hn hv h) hd
theorem XC.init (x : XC P K C fI f B newId i bmB) (M : L2.Mod K mg base) (hroom : A.depth < recursionLimit) (kb : ∀ b o, base.get? b = some o → h.get? b = some o) (he : h.get? e = some (excObj C t0 none .none)) (hb : base.get? e = none)
    (hq : ∀ h' dx tk' t1, (∀ b o, b ≠ e → h.get? b = some o → h'.get? b = some o) → h.objs.size ≤ dx → h'.get? e = some (excObj C t1 (some dx) .none) → h'.Ns1 dx (fun y => if y = f then some u else none) → R (.ok (.ret .none)) ⟨h', g, d, tk', os⟩) :
    codeAny (model P w) A (.call (.ref fI) ⟨[.ref e, u], []⟩) R ⟨h, g, d, t, os⟩ := by
  obtain ⟨oc, od, osl, qual, params, scope, dV, kV, doc, pm, an, cda, ct, cc, p0, p1, p2, p3, p4, p5, q0, q1, q2, q3, ho, hcd, ⟨ar, har, hself⟩, ⟨ccl, cdd, vs, ccs, file, tf, hcode, hvs, hfile⟩, ⟨cl, cld, csl, hcell⟩, n1, n2, n3, n4, ncell, nco, ngen, nk, hev, bd⟩ := x.fn
  have X : K.In h := fun a o q => kb a o (M.kin a o q)
  -- the ground: all but the exception
  have ne : ∀ a o, K.lookup a = some o → a ≠ e := fun a o q z => by
    have := M.kin a o q
    rw [z, hb] at this; cases this
  have gk : ∀ b o, b ≠ e → h.get? b = some o → (hideAll h [e]).get? b = some o := fun b o n q => hideAll_get [e] q (by simpa using n)
  have X0 : K.In (hideAll h [e]) := fun a o q => gk a o (ne a o q) (X a o q)
  have G0 : (hideAll h [e]).Ns mainGlobals mg := by
    obtain ⟨o, es, ep, q, r⟩ := M.glob
    exact ⟨o, es, ep, gk _ _ (fun z => by rw [z, hb] at q; cases q) (kb _ _ q), r⟩
  obtain ⟨mb, Bt, hmb⟩ := M.blt
  have B0 : (hideAll h [e]).Ns builtinsNs mb := by
    obtain ⟨o, es, ep, q, r⟩ := Bt
    exact ⟨o, es, ep, gk _ _ (fun z => by rw [z, hb] at q; cases q) (kb _ _ q), r⟩
  have NL : h.NoLimit := M.nolimit.keeps kb
  refine ks_codeAny_call_defAt (s := ⟨h, g, d, t, os⟩) hroom (X _ _ ho) rfl NL (codeRec_of X hcd) rfl (bd _ _ _) ncell ?_ (fun h1 hns hk => ?_) nco ngen nk
  · intro z m
    simp only [List.mem_cons, List.not_mem_nil, or_false] at m
    rcases m with rfl | rfl
    · exact n3
    · exact n4
  have hsz := Heap.lt_size he
  have F1 : Fr (hideAll h [e]) h.objs.size h1 (fun y => [(("self" : Str), Value.ref e), (f, u)].reverse.lookup y) := ⟨hns, fun b o q => hk b o (of_hideAll _ q), Nat.le_of_eq (hideAll_size _ _)⟩
  have N1 : News (hideAll h [e]) h.objs.size h1 [(e, excObj C t0 none .none)] := fun p hp => by
    simp only [List.mem_singleton] at hp
    subst hp
    exact ⟨hk _ _ he, Nat.ne_of_lt hsz, hideAll_none [e] (by simp)⟩
  have mself : (fun y => [(("self" : Str), Value.ref e), (f, u)].reverse.lookup y) "self" = some (.ref e) := by
    have : (("self" : Str) == f) = false := by rw [beq_eq_false_iff_ne]; exact fun z => x.nf z.symm
    simp [List.lookup, this]
  have mf : (fun y => [(("self" : Str), Value.ref e), (f, u)].reverse.lookup y) f = some u := by simp [List.lookup]
  generalize (fun y => [(("self" : Str), Value.ref e), (f, u)].reverse.lookup y) = m at F1 mself mf
  obtain ⟨cd, hC⟩ := Option.isSome_iff_exists.mp x.cd
  obtain ⟨oD, hD1, hD2⟩ : ∃ oD, K.lookup C = some oD ∧ oD.data = .cls cd := by
    unfold clsIn at hC
    split at hC
    · rename_i c d cd' sl ho
      cases hC
      exact ⟨_, ho, rfl⟩
    · cases hC
  have I1 : InstAt h1 e (excObj C t0 none .none) C none := ⟨hk _ _ he, rfl, rfl, trivial⟩
  obtain ⟨pl, hev⟩ := hev (ksEnv qual scope h.objs.size fI (.ref cda) cc)
  refine ks_wpAt_execs_cons (ks_wpAt_Expr_any (hi := by show ((scope.kind == .module) && _) = _; rw [nk]; rfl) (ks_wpAt_MethodCall (pl := pl) ?_ hev))
  refine ks_wpAt_super_base (env := ksEnv qual scope h.objs.size fI (.ref cda) cc) n1 n2 (by decide) rfl (hk _ _ (X _ _ ho)) rfl har rfl (hk _ _ (X _ _ hcode)) rfl hvs hfile x.top ?_
  refine ks_loadName_global nk n1 (loadGlobal_builtin (env := ksEnv qual scope h.objs.size fI (.ref cda) cc) (G0.keeps F1.keep) (mg_none_of X0 G0 x.su) (B0.keeps F1.keep) ((hmb _ (by decide +kernel)).trans boot_super) ⟨rfl, ?_⟩)
  refine wpAny_loadName_free nk n2 rfl ⟨_, hk _ _ (X _ _ hcell), rfl⟩ ?_
  rw [hself]
  refine wpAny_loadName_local nk n3 F1.ns mself ?_
  refine ks_wpAny_isType_cls (hk _ _ (X _ _ hD1)) hD2 ⟨rfl, ?_⟩
  refine ks_wpAny_call_super (hk _ _ (X _ _ hD1)) hD2 I1.at_ I1.cls (fun c z => by cases z) (looks_mroIn (X0.keeps F1.keep) x.mr) (fun h2 hso k2 => ?_)
  obtain ⟨F2, N2, l2⟩ := ks_newsPush (s := ⟨h1, g, d, 0, os⟩) F1 N1 rfl hso k2
  have I2 : InstAt h2 e (excObj C t0 none .none) C none := ⟨k2 _ _ (hk _ _ he), rfl, rfl, trivial⟩
  have eo : e ≠ h1.objs.size := Nat.ne_of_lt (Heap.lt_size (hk _ _ he))
  refine kxs_method x.kx F2 X0 N2 (List.mem_cons_self ..) I2 x.tp x.si x.sb (by decide) fun q3 h3 F3 N3 l3 => ?_
  have eq3 : e ≠ q3 := Nat.ne_of_lt (l3 (e, excObj C t0 none .none) (by simp))
  have sq3 : h1.objs.size ≠ q3 := Nat.ne_of_lt (l3 (h1.objs.size, ks_superObj C e C) (by simp))
  refine kxs_callWith1 (i := i) (x := e) N3 (List.mem_cons_self ..) ?_ rfl rfl
  refine Calls.spliced_cons ?_
  refine ldLoc (env := ksEnv qual scope h.objs.size fI (.ref cda) cc) F3.ns mf ?_ nk n4 x.db
  refine Calls.spliced_nil ⟨(N3 _ (List.mem_cons_self ..)).1, ?_⟩
  have U : UpdF e (excObj C t0 none .none) ((q3, kxs_mw i e) :: (h1.objs.size, ks_superObj C e C) :: [(e, excObj C t0 none .none)]) (fun o' => (q3, kxs_mw i e) :: (h1.objs.size, ks_superObj C e C) :: [(e, o')]) := .tail (Ne.symm eq3) (.tail (Ne.symm eo) (.head (by simp)))
  refine kxs_call F3 X0 N3 x.fb x.q (List.mem_cons_self ..) U (by rw [sizeLine_eq]; simp) fun t4 h4 F4 N4 l4 => ?_
  show _root_.PySem.wpAt _ _ _ (execs _ _) _ _ _
  refine ks_wpAt_execs_cons (ks_wpAt_Assign_Attr (hs := rfl) (wpAt_of_wpAny ?_))
  refine ldLoc (env := ksEnv qual scope h.objs.size fI (.ref cda) cc) F4.ns mf ?_ nk n4 x.db
  refine ldLoc (env := ksEnv qual scope h.objs.size fI (.ref cda) cc) F4.ns mself ?_ nk n3 (by decide)
  have et4 : t4 ≠ e := Ne.symm (Nat.ne_of_lt (l4 (e, excObj C t0 none .none) (by simp)))
  have U4 : UpdF e (excObj C t4 none .none) ((t4, excTup [u]) :: (q3, kxs_mw i e) :: (h1.objs.size, ks_superObj C e C) :: [(e, excObj C t4 none .none)]) (fun o' => (t4, excTup [u]) :: (q3, kxs_mw i e) :: (h1.objs.size, ks_superObj C e C) :: [(e, o')]) := .tail et4 (.tail (Ne.symm eq3) (.tail (Ne.symm eo) (.head (by simp))))
  refine set_exc0 x.sf F4 X0 N4 (by simp) x.sa x.ov x.tk x.hd rfl U4 (by simp [putL]) fun dx h5 F5 N5 l5 => ?_
  refine wpAt_of_wpAny (wpAny_execs_nil ?_)
  refine hq h5 dx _ t4 (fun b o nb q => F5.keep b o (gk b o nb q)) ?_ (N5 (e, excObj C t4 (some dx) .none) (by simp)).1 ?_
  · have a1 := l5 (h1.objs.size, ks_superObj C e C) (by simp)
    obtain ⟨oL, _, _, hL, _⟩ := F1.ns
    have a2 := Heap.lt_size hL
    exact Nat.le_of_lt (Nat.lt_trans a2 a1)
  · have a3 := (N5 _ (List.mem_cons_self ..)).1
    refine ⟨_, _, _, a3, rfl, ?_, ?_, fun y => ?_⟩
    · intro en m
      simp only [putL, List.mem_toArray, List.mem_singleton] at m
      subst m
      exact ⟨_, _, rfl⟩
    · simp [UniqKeys, putL]
    · by_cases hy : y = f
      · subst hy
        simp [nsFind, findBy, putL, Value.isStr]
      · have hy' : ¬ f = y := fun z => hy z.symm
        simp [nsFind, findBy, putL, Value.isStr, hy, hy']
/-- C(u) -/
theorem XC.make (x : XC P K C fI f B newId i bmB) (M : L2.Mod K mg base) (hroom : (A.under (.builtin "type.__call__" ⟨[.ref C, u], []⟩)).depth < recursionLimit) (kb : ∀ b o, base.get? b = some o → h.get? b = some o) {Q : Value → Shared → Prop} {E : Value → Shared → Prop}
    (hq : ∀ h' e dx tk' t1, (∀ b o, h.get? b = some o → h'.get? b = some o) → h.objs.size ≤ e → h.objs.size ≤ dx → dx ≠ e → h'.get? e = some (excObj C t1 (some dx) .none) → h'.Ns1 dx (fun y => if y = f then some u else none) → Q (.ref e) ⟨h', g, d, tk', os⟩) :
    wpAny (model P w) A (call (.ref C) [u]) Q E ⟨h, g, d, t, os⟩ := by
  have X : K.In h := fun a o q => kb a o (M.kin a o q)
  obtain ⟨nm, N', qn, bs, bm, hdct, sn, sub, ab, col, dd, k0, k1, k2, k3, k5, hC, hT⟩ := excInit_of X x.q
  obtain ⟨oI, hoI, hcI⟩ : ∃ oI, h.get? fI = some oI ∧ oI.cls = .type "function" := by
    obtain ⟨o, ho, hc⟩ := Option.map_eq_some_iff.mp (show (K.lookup fI).map (·.cls) = some (.type "function") from beq_iff_eq.mp x.hf)
    exact ⟨o, X _ _ ho, hc⟩
  have kk : ∀ b o, h.get? b = some o → ((h.push (excTup [u])).push (excObj C h.objs.size none .none)).get? b = some o := fun b o q => Heap.get?_push_of_some _ (Heap.get?_push_of_some _ q)
  have he : ((h.push (excTup [u])).push (excObj C h.objs.size none .none)).get? (h.objs.size + 1) = some (excObj C h.objs.size none .none) := by heap_get
  have sz : ((h.push (excTup [u])).push (excObj C h.objs.size none .none)).objs.size = h.objs.size + 2 := by rw [Heap.size_push, Heap.size_push]
  have hb : base.get? (h.objs.size + 1) = none := by
    cases q : base.get? (h.objs.size + 1) with
    | none => rfl
    | some o => exact absurd (Heap.lt_size (kb _ _ q)) (Nat.not_lt.mpr (Nat.le_succ _))
  refine wpAny_call (PX.call_own x.fb hT hC (looks_findIn X x.hi) (fun self => exc_bind hoI hcI self) (by rw [sizeLine_eq]; simp) ?_)
  refine x.init M hroom (fun b o q => kk b o (kb b o q)) he hb fun h' dx tk' t1 k1 sz1 e1 n1 => ?_
  refine ⟨rfl, ?_⟩
  rw [sz] at sz1
  exact hq h' (h.objs.size + 1) dx tk' t1 (fun b o q => k1 b o (Nat.ne_of_lt (Nat.lt_trans (Heap.lt_size q) (Nat.lt_succ_self _))) (kk b o q)) (Nat.le_succ _) (by omega) (by omega) e1 n1
end
end EV

set_option Elab.async false
set_option linter.all false
set_option maxRecDepth 100000
set_option maxHeartbeats 2000000
namespace EV
open PySem PySem.Spec PyProof.Rows L2
/-! ### own exceptions over the layer -/
theorem exK_ok {P : Program} {w : World} {H : Hp} {h : Heap} {a : Addr} {cls : Value} {dd : Option Addr} {oe : Obj} {vs : Array Value} (e : h.get? a = some oe) (z : Zc cls dd oe) (hd : oe.data = .fields vs) : ObjOk P w H h a (ExK cls dd a) :=
  ⟨⟨oe, vs, e, z, hd⟩, ⟨oe, e⟩, fun _ _ ⟨o, v, q, r⟩ k => ⟨o, v, k o q, r⟩⟩
section
variable {X : Cx} {C fI : Addr} {f x : Str} {B newId i : String} {bmB : List Value}
theorem mk_xc (T : XC X.prog X.K C fI f B newId i bmB) (dp : X.A.depth + 5 < recursionLimit) {pins : List (Addr × Obj)} {s : Shared} {σ : L2.St} {H : Hp} {u : Value} {v : V} {Q : Value → Shared → Prop} {E : Value → Shared → Prop} (I : Inv X pins σ H s) (rv : RelV v u)
    (hq : ∀ (h' : Heap) (e dx : Addr) (tk : Nat) (oe : Obj) (vs : Array Value), (∀ b o, s.heap.get? b = some o → h'.get? b = some o) → s.heap.objs.size ≤ e → s.heap.objs.size ≤ dx → dx ≠ e → h'.get? e = some oe → Zc (.ref C) (some dx) oe → oe.data = .fields vs → vs[1]? = some .none →
      (∃ mA, h'.Ns1 dx mA ∧ ∀ g, RelO ([(f, v)].lookup g) (mA g)) → Q (.ref e) { s with heap := h', toks := tk }) : wpAny (model X.prog X.w) X.A (call (.ref C) [u]) Q E s := by
  obtain ⟨h, g, d, t, os⟩ := s
  refine T.make I.ok.mod (by rw [make_depth]; omega) I.bk fun h' e dx tk t1 k se sd ne he hn => ?_
  refine hq h' e dx tk _ _ k se sd ne he ⟨rfl, rfl⟩ rfl rfl ⟨_, hn, fun g => ?_⟩
  by_cases hg : g = f
  · subst hg
    rw [if_pos rfl, show [(g, v)].lookup g = some v by simp [List.lookup]]
    exact rv
  · have : (g == f) = false := by simpa using hg
    simp [List.lookup, this, hg]
    exact trivial
/-- C(e) up to the call itself -/
theorem front1 {e : Expr} {te : TE} {p pos : Pos} (glC : X.mg x = some (.ref C)) (kpC : PySem.W.keepIn X.K (.ref C) = true) (gl : Gl X x) (pe : PE X e te) (dbg : (x == ("__debug__" : Str)) = false) (one : starEach [e] X.env = (false, eval e X.env) :: starEach [] X.env)
    {pins : List (Addr × Obj)} {s : Shared} {σ : L2.St} {H : Hp} {Z : V → Hp → Prop} {R : Value → Shared → Prop} {E : Value → Shared → Prop} (I : Inv X pins σ H s) (hz : te σ H Z) (exE : E = X.xe)
    (go : ∀ u s1 v H1, Inv X pins σ H1 s1 → RelV v u → Z v H1 → wpAny (model X.prog X.w) X.A (call (.ref C) [u]) R E s1) : wpAny (model X.prog X.w) X.A (eval (.Call (.Name x p) [e] [] pos) X.env) R E s := by
  subst exE
  have arg : wpAny (model X.prog X.w) X.A (spliced (backTo pos (starEach [e] X.env))) (fun vs s₁ => X.K.In s₁.heap ∧ wpAny (model X.prog X.w) X.A (call (.ref C) ([] ++ vs)) R X.xe s₁) X.xe s := by
    rw [one]
    exact Calls.spliced_cons (thn (pe.run pins s σ H Z I hz) fun u s1 ⟨v, H1, I1, rv, zv⟩ => Calls.spliced_nil ⟨I1.kIn, go u s1 v H1 I1 rv zv⟩)
  exact wpAny_Call_Name_kw (ld_glob I gl glC (PySem.W.callWith_K (h₀ := X.base) I.mod.kin kpC arg one rfl) dbg)
/-- all but one object -/
theorem without (h : Heap) (a : Addr) : ∃ G : Heap, G.get? a = none ∧ (∀ b o, b ≠ a → h.get? b = some o → G.get? b = some o) ∧ ∀ b o, G.get? b = some o → h.get? b = some o := by
  obtain ⟨G, same, no⟩ := restrict h fun b => decide (b ≠ a)
  have na := no a (decide_eq_false fun z => z rfl)
  refine ⟨G, na, fun b o hb q => (same b (decide_eq_true hb)).trans q, fun b o q => ?_⟩
  by_cases hb : b = a
  · rw [hb, na] at q; cases q
  · exact (same b (decide_eq_true hb)).symm.trans q
/-- raise C(e) -/
theorem pmk_xc {e : Expr} {te : TE} {p pos : Pos} (T : XC X.prog X.K C fI f B newId i bmB) (dp : X.A.depth + 5 < recursionLimit) (rs : Raises X (.ref C)) (glC : X.mg x = some (.ref C)) (kpC : PySem.W.keepIn X.K (.ref C) = true) (gl : Gl X x) (pe : PE X e te) (dbg : (x == ("__debug__" : Str)) = false)
    (one : starEach [e] X.env = (false, eval e X.env) :: starEach [] X.env) :
    PMk X (.Call (.Name x p) [e] [] pos) (fun σ H Q => te σ H fun v H1 => ∀ dx, H1 dx = none → Q (.ref C) (some dx) (upd H1 dx (.xd [(f, v)]))) := by
  intro pins s σ H Q I h
  refine front1 glC kpC gl pe dbg one I h rfl fun u s1 v H1 I1 r1 q1 => ?_
  refine mk_xc T dp I1 r1 fun h' a dx tk oe vs k se sd ne ho hz hd hv hn => ?_
  obtain ⟨G, ga, gk, gs⟩ := without h' a
  have old : ∀ b o, s1.heap.get? b = some o → b ≠ a := fun b o q z => absurd (Heap.lt_size q) (by rw [z]; exact Nat.not_lt.mpr se)
  have nd : s1.heap.get? dx = none := Heap.get?_none_of_le sd
  have hn1 : H1 dx = none := I1.hok.gone nd
  have na1 : H1 a = none := I1.hok.gone (Heap.get?_none_of_le se)
  have new : ObjOk X.prog X.w (upd H1 dx (.xd [(f, v)])) G dx (.xd [(f, v)]) := by
    obtain ⟨mA, ⟨o, es, ep, q, r⟩, rr⟩ := hn
    exact ⟨mA, ⟨o, es, ep, gk _ _ ne q, r⟩, rr⟩
  have J := I1.laidN (t' := tk) (h' := G) (fun b o q => gk b o (old b o q) (k b o q)) nd hn1 new
  exact ⟨a, oe, vs, { s1 with heap := G, toks := tk }, upd H1 dx (.xd [(f, v)]), .ref C, some dx, rfl, J, gs, ga, ho, hz, hd, hv, by rw [upd_ne (Ne.symm ne)]; exact na1, rfl, I1.bare, rs, q1 dx hn1⟩
/-- C(e) as a value -/
theorem pe_xc {e : Expr} {te : TE} {p pos : Pos} (T : XC X.prog X.K C fI f B newId i bmB) (dp : X.A.depth + 5 < recursionLimit) (glC : X.mg x = some (.ref C)) (kpC : PySem.W.keepIn X.K (.ref C) = true) (gl : Gl X x) (pe : PE X e te) (dbg : (x == ("__debug__" : Str)) = false)
    (one : starEach [e] X.env = (false, eval e X.env) :: starEach [] X.env) :
    PE X (.Call (.Name x p) [e] [] pos) (fun σ H Q => te σ H fun v H1 => ∀ dx a, H1 dx = none → H1 a = none → dx ≠ a → Q (.ref a) (upd (upd H1 dx (.xd [(f, v)])) a (ExK (.ref C) (some dx) a))) := by
  refine ⟨fun pins s σ H Q I h => ?_⟩
  refine front1 glC kpC gl pe dbg one I h rfl fun u s1 v H1 I1 r1 q1 => ?_
  refine mk_xc T dp I1 r1 fun h' a dx tk oe vs k se sd ne ho hz hd hv hn => ?_
  obtain ⟨G, ga, gk, gs⟩ := without h' a
  have old : ∀ b o, s1.heap.get? b = some o → b ≠ a := fun b o q z => absurd (Heap.lt_size q) (by rw [z]; exact Nat.not_lt.mpr se)
  have nd : s1.heap.get? dx = none := Heap.get?_none_of_le sd
  have hn1 : H1 dx = none := I1.hok.gone nd
  have na1 : H1 a = none := I1.hok.gone (Heap.get?_none_of_le se)
  have new : ObjOk X.prog X.w (upd H1 dx (.xd [(f, v)])) G dx (.xd [(f, v)]) := by
    obtain ⟨mA, ⟨o, es, ep, q, r⟩, rr⟩ := hn
    exact ⟨mA, ⟨o, es, ep, gk _ _ ne q, r⟩, rr⟩
  have J := I1.laidN (t' := tk) (h' := G) (fun b o q => gk b o (old b o q) (k b o q)) nd hn1 new
  have na2 : (upd H1 dx (.xd [(f, v)])) a = none := by rw [upd_ne (Ne.symm ne)]; exact na1
  have J2 := J.laidN (t' := tk) (a := a) (h' := h') (o := ExK (.ref C) (some dx) a) gs ga na2 (exK_ok ho hz hd)
  exact ⟨.ref a, _, J2, rfl, q1 dx a hn1 na1 ne⟩
end
/-! ### a caught exception is kept -/
section
variable {X : Cx} {pins : List (Addr × Obj)} {σ : L2.St} {H : Hp} {s : Shared}
/-- an object that stands untracked is tracked from here on -/
theorem _root_.L2.Inv.track {a : Addr} {cls : Value} {d : Option Addr} {oe : Obj} {vs : Array Value} (I : Inv X pins σ H s) (ho : s.heap.get? a = some oe) (hz : Zc cls d oe) (hd : oe.data = .fields vs) (na : H a = none) (n0 : X.s_0.heap.get? a = none) (nL : a ≠ X.env.locals) (np : ∀ p ∈ X.pn ++ pins, p.1 ≠ a) :
    Inv X pins σ (upd H a (ExK cls d a)) s := by
  have hne : ∀ {b : Addr} {o : HO}, H b = some o → b ≠ a := fun {b o} q z => by rw [z, na] at q; cases q
  have up : ∀ {b : Addr}, b ≠ a → upd H a (ExK cls d a) b = H b := fun hb => upd_ne hb
  refine ⟨I.ok, I.os, I.bare, ⟨I.base.keep, I.base.slot, fun b o q n hx => ?_, I.base.there, fun b xs q => ?_, fun b o u q => ?_, fun b ps q => ?_⟩, I.loc, I.cell, ?_, fun y c q => ?_, fun p hp => ?_, fun b o q => ?_, I.len⟩
  · rw [up fun z => by rw [z, n0] at q; cases q]
    exact I.base.free b o q n hx
  · have z := I.base.tups b xs q
    rw [up (hne z)]; exact z
  · have z := I.base.frzs b o u q
    rw [up (hne z)]; exact z
  · obtain ⟨more, z⟩ := I.base.tbls b ps q
    exact ⟨more, by rw [up (hne z)]; exact z⟩
  · rw [up (Ne.symm nL)]; exact I.free
  · have nc : c ≠ a := fun z => by
      obtain ⟨v, o, e1, e2⟩ := I.cell y c q
      rw [z, ho] at e1; cases e1
      rw [hd] at e2; cases e2
    rw [up nc]; exact I.freeC y c q
  · obtain ⟨h1, h2, h3⟩ := I.pin p hp
    exact ⟨h1, by rw [up (np p hp)]; exact h2, h3⟩
  · by_cases hb : b = a
    · subst hb
      rw [upd_same] at q
      cases q
      exact exK_ok ho hz hd
    · rw [up hb] at q
      exact (I.hok b o q).stay (fun _ _ _ e => e) (fun c e => by rw [up (hne e)]; exact e) fun c xs e => by rw [up (hne e)]; exact e
/-- what 'except x as n: m = n' wishes of an exception of the body -/
def wKeep (K : PySem.W.Frag) (c : Value) (i j : Nat) (Wout : WX) (D : Ends) : WX := fun cls d σ H =>
  ∃ b, PySem.W.exmOne K cls c = some b ∧ (b = true → ∀ a, H a = none → D.nx (((σ.set i (some (.ref a))).set j (some (.ref a))).set i none) (upd H a (ExK cls d a))) ∧ (b = false → Wout cls d σ H)
theorem ps_try_keep {x n : Str} {c : Value} {i j : Nat} {body : List Stmt} {st : Stmt} {np hp pos : Pos} {tb : WX → TS} {Wout : WX} (stk : X.stack = X.env :: X.outer) (fr : X.env.frame = some X.env.locals) (hex : X.ex = []) (nd : X.N.Nodup) (ni : X.N[i]? = some n) (nl : X.env.kindOf n = some .local) (nm : Names X x c) (tk : Takes X Wout)
    (hb : ∀ (V : WX) (qs : List (Addr × Obj)) (ye : Value → Shared → Prop), Takes (X.tr qs ye) V → PassesOwn (model X.prog X.w) X.A X.env ye → PSs (X.tr qs ye) body (tb V))
    (hs : ∀ (a : Addr) (oe : Obj) (pn : List (Addr × Obj)), PSs (X.suite a ((a, oe) :: pn)) [st] (fun D σ H => ∃ v, σ[i]? = some (some v) ∧ D.nx (σ.set j (some v)) H)) :
    PS X (.Try body [.ExceptHandler (some (.Name x np)) (some n) [st] hp] [] [] pos) (fun D σ H => tb (wKeep X.K c i j Wout D) D σ H) := by
  refine ⟨fun pins s σ H D I h => ?_⟩
  have okX := I.ok
  have afr : X.A.frames = some (X.env :: X.outer) := okX.frames.trans (congrArg some stk)
  let hds : List ExceptHandler := [.ExceptHandler (some (.Name x np)) (some n) [st] hp]
  let xe' : Value → Shared → Prop := fun e s₁ => wpAny (model X.prog X.w) X.A (noteFrame e X.env) (fun _ s₂ => wpAny (model X.prog X.w) X.A (setFlight e none) (fun _ s₃ => wpAny (model X.prog X.w) X.A (handleBy e X.env hds) (SP X pins D) X.xe s₃) X.xe s₂) X.xe s₁
  have caught : Takes (X.tr (X.pn ++ pins) xe') (wKeep X.K c i j Wout D) := by
    intro u s' xx
    obtain ⟨a, B, sI, pins', τ, Hx, cls, d, rfl, Jt, grd, up, flt, naX, osX, gnX, b, hb1, yes, no⟩ := xx
    have J : Inv X pins τ Hx sI := Jt.ofTry okX
    refine Sky.land Zc.steady afr fr (show Sky B (X.env :: X.outer) a (Zc cls d) X.env.locals s'.heap by rw [← stk]; exact flt) fun hA airA uA => ?_
    have JA : Inv X pins τ Hx { s' with heap := hA } := J.landed grd airA.1 (up.trans uA) osX gnX
    obtain ⟨oA, vA, gA, zA, dA⟩ := airA.there
    have nofr : a ∉ frs (X.env :: X.outer) := fun hm => by
      obtain ⟨_, o', e', q⟩ := airA.2.2.1.mem hm
      rw [gA] at e'
      cases e'
      exact q _ dA
    have nLoc : a ≠ X.env.locals := fun z => nofr (List.mem_filterMap.mpr ⟨X.env, List.mem_cons_self, by rw [fr, z]⟩)
    have nOut : a ∉ X.fs := fun hm => by
      obtain ⟨v, hv, q⟩ := List.mem_filterMap.mp hm
      exact nofr (List.mem_filterMap.mpr ⟨v, List.mem_cons_of_mem _ hv, q⟩)
    have gI : sI.heap.get? a = none := by
      cases q : sI.heap.get? a with
      | none => rfl
      | some o =>
        have := grd a o q (by rw [stk]; exact nofr)
        rw [airA.2.1] at this; cases this
    have nIn : X.s_0.heap.get? a = none := by
      cases q : X.s_0.heap.get? a with
      | none => rfl
      | some o =>
        obtain ⟨o', z⟩ := J.base.there a o q (by rw [hex]; exact fun z => nomatch z)
        rw [gI] at z; cases z
    have pn : ∀ p ∈ X.pn ++ pins, p.1 ≠ a := fun p hm z => by
      have := (J.pin p hm).1
      rw [z, gI] at this; cases this
    have SA := JA.suite gA dA naX nLoc nOut
    refine wpAny_handleBy_cons (codeAny_handlers_test ?_) (fun q => by cases q)
    have ty : PySem.W.Looks (model X.prog X.w) hA (typeOf (.ref a)) cls := fun A Q E s k q => wpAny_typeOf_ref (k _ _ gA) (by rw [zA.1]; exact q)
    have mt := PySem.W.exm_one (M := model X.prog X.w) JA.kIn ty hb1
    have look : ∀ {Q : Value → Shared → Prop} {E : Value → Shared → Prop}, Q c { s' with heap := hA } → wpAny (model X.prog X.w) (X.A.mark (some (.ref a))) (eval (.Name x np) X.env) Q E { s' with heap := hA } := fun {Q E} q => by
      obtain ⟨g1, g2, m1 | ⟨m1, m2, m3⟩⟩ := nm
      · exact ld_glob (X := X.suite a ((a, oA) :: (X.pn ++ pins))) SA g1 m1 q g2
      · exact ld_blt (X := X.suite a ((a, oA) :: (X.pn ++ pins))) SA g1 m1 m2 q m3 g2
    refine look (mt.here ?_)
    cases b with
    | true =>
      refine codeAny_handlers_suite_as (HandSPX.lands_againZ airA fun hB airB uB => ?_)
      have JB : Inv X pins τ Hx { s' with heap := hB } := J.landed grd airB.1 ((up.trans uA).trans uB) osX gnX
      obtain ⟨oB, vB, gB, zB, dB⟩ := airB.there
      have SB := JB.suite gB dB naX nLoc nOut
      have len4 : i < τ.length := by rw [JB.len]; exact (List.getElem?_eq_some_iff.mp ni).1
      refine store_ok (X := X.suite a ((a, oB) :: (X.pn ++ pins))) (v := .ref a) SB nd ni (.inl nl) rfl (fun sC SC => ?_) (.inr nl)
      let D5 : Ends := { nx := fun τD HD => τD = (τ.set i (some (.ref a))).set j (some (.ref a)) ∧ HD = Hx, rt := fun _ _ => False, bk := fun _ _ => False, ct := fun _ _ => False }
      refine wpAny_mono ((hs a oB (X.pn ++ pins)).run [] sC _ Hx D5 SC ⟨.ref a, List.getElem?_set_self len4, rfl, rfl⟩) (fun fl sD e6 => ?_) fun _ _ z => z.elim
      cases fl with
      | next =>
        obtain ⟨τD, HD, SD, rfl, rfl⟩ := e6
        have pin := SD.pin (a, oB) (by simp)
        have JD : Inv X pins _ (upd HD a (ExK cls d a)) sD := (SD.unsuite okX).track pin.1 zB dB naX nIn nLoc pn
        exact gone_ok JD nd ni nl fun sE JE => ⟨_, _, JE, yes rfl a naX⟩
      | brk => obtain ⟨_, _, _, z⟩ := e6; exact z.elim
      | cont => obtain ⟨_, _, _, z⟩ := e6; exact z.elim
      | ret u => obtain ⟨_, _, _, _, _, z⟩ := e6; exact z.elim
    | false =>
      show wpAny _ _ (handleBy (.ref a) X.env []) _ _ _
      refine wpAny_handleBy_nil ?_
      obtain ⟨_, _, _, oq, vq, tr, _, _, gq, _, dq, fq, _⟩ := id airA
      unfold PySem.passOn
      refine wpAny_bind (wpAny_field gq dq fq ?_)
      rw [if_neg (show ¬ ((Value.ref tr == Value.none) = true) by simp)]
      have out : wpAny (model X.prog X.w) X.A (setFlight (.ref a) X.env.frame) (fun _ s4 => wpAny (model X.prog X.w) X.A (throw (.ref a) : Sem Flow) (SP X pins D) X.xe s4) X.xe { s' with heap := hA } := by
        rw [fr]
        exact HandSPX.setFlight_upZ airA fun hB airB uB => wpAny_throw (tk _ _ ⟨a, B, sI, pins, τ, Hx, cls, d, rfl, J, grd, (up.trans uA).trans uB, .inr (.inr (by rw [stk]; exact airB)), naX, osX, gnX, no rfl⟩)
      first
        | exact wpAny_bind (wpAny_pure (wpAny_bind out))
        | exact wpAny_bind out
  refine wpAny_Try_except (wpAny_mono ((hb (wKeep X.K c i j Wout D) (X.pn ++ pins) xe' caught PassesOwn.looking).run [] s σ H D (I.toTry _) h) (fun fl s1 e1 => ?_) fun _ _ z => z)
  cases fl with
  | next =>
    obtain ⟨τ, Hx, Jt, q⟩ := e1
    exact wpAny_execs_nil ⟨τ, Hx, Jt.ofTry okX, q⟩
  | brk =>
    obtain ⟨τ, Hx, Jt, q⟩ := e1
    exact ⟨τ, Hx, Jt.ofTry okX, q⟩
  | cont =>
    obtain ⟨τ, Hx, Jt, q⟩ := e1
    exact ⟨τ, Hx, Jt.ofTry okX, q⟩
  | ret u =>
    obtain ⟨v, τ, Hx, Jt, r, q⟩ := e1
    exact ⟨v, τ, Hx, Jt.ofTry okX, r, q⟩
end
end EV

set_option Elab.async false
set_option linter.all false
set_option maxRecDepth 100000
set_option maxHeartbeats 2000000
namespace EV
open PySem PySem.Spec PyProof.Rows L2
/-! ### what is asked of an exception that is held -/
/-- what the written part says of its class -/
structure XI (K : PySem.W.Frag) (C : Addr) : Prop where
  xf : XfC K C
  cl : (PySem.W.clsIn K C).isSome = true
  ca : PySem.W.findIn K (.ref C) "__class__" = some (some (.builtin "object.__class__"))
  cg : PySem.W.specialIn K (.builtin "object.__class__") "__get__" = some (some (.builtin "getset_descriptor.__get__"))
  ct : PySem.W.takesIn K (.builtin "object.__class__") = some true
  om : PySem.W.mroIn K C (.type "object") = some true
/-- its dict stands -/
def DictIn (H : Hp) (dd : Option Addr) : Prop := ∀ p, dd = some p → ∃ fs, H p = some (.xd fs)
theorem inst_of {P : Program} {w : World} {H : Hp} {h : Heap} {a C : Addr} {dd : Option Addr} (hok : HOk P w H h) (e : H a = some (ExK (.ref C) dd a)) (di : DictIn H dd) : ∃ oe od, PySem.W.InstAt h a oe C od := by
  obtain ⟨⟨oe, vs, ho, hz, hd⟩, _⟩ := (hok a _ e : ObjOk P w H h a (ExK (.ref C) dd a))
  have nc : PySem.W.notCls oe = true := by unfold PySem.W.notCls; rw [hd]
  cases dd with
  | none => exact ⟨oe, none, ho, hz.1, nc, by rw [hz.2]; trivial⟩
  | some p =>
    obtain ⟨fs, ep⟩ := di p rfl
    obtain ⟨mA, ⟨od, es, n, q, _⟩, _⟩ := (hok p _ ep : ObjOk P w H h p (.xd fs))
    exact ⟨oe, some od, ho, hz.1, nc, by rw [hz.2]; exact q⟩
section
variable {X : Cx}
/-- e.n -/
theorem pe_fieldK {e : Expr} {te : TE} {n : Str} {pos : Pos} (pe : PE X e te) (plain : attributeBase e n X.env (eval e X.env) = eval e X.env) :
    PE X (.Attribute e n pos) (fun σ H Q => te σ H fun y H1 => ∃ (a C dd : Addr) (fs : List (Str × V)) (v : V), y = .ref a ∧ XfC X.K C ∧ PySem.W.findIn X.K (.ref C) n = some none ∧ H1 a = some (ExK (.ref C) (some dd) a) ∧ H1 dd = some (.xd fs) ∧ fs.lookup n = some v ∧ Q v H1) := by
  refine ⟨fun pins s σ H Q I h => attr_of plain (thn (pe.run pins s σ H _ I h) fun u s1 hh => ?_)⟩
  obtain ⟨y, H1, I1, ry, a, C, dd, fs, v, rfl, T, nof, ea, ed, el, q⟩ := hh
  cases (show u = Value.ref a from ry)
  obtain ⟨⟨oe, vs, ho, hz, hd⟩, _⟩ := (I1.hok a _ ea : ObjOk X.prog X.w H1 s1.heap a (ExK (.ref C) (some dd) a))
  obtain ⟨mA, ns, rel⟩ := (I1.hok dd _ ed : ObjOk X.prog X.w H1 s1.heap dd (.xd fs))
  obtain ⟨od, hod, look⟩ := lookIn_ns ns
  obtain ⟨w, hw, rw⟩ := RelO.some_of (v := v) (o := mA n) (by rw [← el]; exact rel n)
  have J : PySem.W.InstAt s1.heap a oe C (some od) := ⟨ho, hz.1, by unfold PySem.W.notCls; rw [hd], by rw [hz.2]; exact hod⟩
  exact HandSPX.exc_get I1.kIn J T.ga T.gg T.exC (PySem.W.findObj_own T.hdC nof rfl (by rw [look, hw])) (handed_of rw) ⟨v, H1, I1.tok _, rw, q⟩
/-- isinstance(e, c) -/
def rIsX (K : PySem.W.Frag) : List V → Hp → VK → Prop := fun xs H Q => ∃ (a C : Addr) (dd : Option Addr) (c : V) (cv : Value) (b : Bool), xs = [.ref a, c] ∧ H a = some (ExK (.ref C) dd a) ∧ DictIn H dd ∧ XI K C ∧ ClsV c cv ∧ PySem.W.kitOne K (.ref C) cv = some b ∧ Q (.bl b) H
theorem call_isX : CallR X (.builtin "isinstance") (rIsX X.K) := by
  intro pins s σ H xs us Q I r h
  obtain ⟨a, C, dd, c, cv, b, rfl, ea, di, T, k, e, q⟩ := h
  obtain ⟨u1, u2, rfl, r1, r2⟩ := vals2 r
  cases (show u1 = Value.ref a from r1)
  cases k.eq r2
  obtain ⟨oe, od, J⟩ := inst_of I.hok ea di
  exact PySem.W.kia_one (PySem.W.kitx_exc T.cl T.xf.ga T.xf.gg T.xf.exC T.ca T.cg T.ct T.om) I.kIn J e (fun z => nomatch z) fun tk => ⟨.bl b, H, I.tok tk, rfl, q⟩
/-- isinstance(e, (c, ..)) -/
def rIsXT (K : PySem.W.Frag) : List V → Hp → VK → Prop := fun xs H Q => ∃ (a C tp : Addr) (dd : Option Addr) (cs : List V) (ws : List Value) (b : Bool), xs = [.ref a, .ref tp] ∧ H tp = some (.tup cs) ∧ Paired ClsV cs ws ∧ H a = some (ExK (.ref C) dd a) ∧ DictIn H dd ∧ XI K C ∧ PySem.W.kitAny K (.ref C) ws = some b ∧ Q (.bl b) H
theorem call_isXT : CallR X (.builtin "isinstance") (rIsXT X.K) := by
  intro pins s σ H xs us Q I r h
  obtain ⟨a, C, tp, dd, cs, ws, b, rfl, hT, k, ea, di, T, e, q⟩ := h
  obtain ⟨u1, u2, rfl, r1, r2⟩ := vals2 r
  cases (show u1 = Value.ref a from r1)
  cases (show u2 = Value.ref tp from r2)
  obtain ⟨oe, od, J⟩ := inst_of I.hok ea di
  obtain ⟨_, its, rv, o, h1, h2, n, h3⟩ := (I.hok tp _ hT : ObjOk X.prog X.w H s.heap tp (.tup cs))
  have e3 := ClsV.all k rv
  subst e3
  obtain ⟨oc, od', dt, sl⟩ := o
  simp only at h2 h3
  subst h2 h3
  exact PySem.W.kia_tup (PySem.W.kitx_exc T.cl T.xf.ga T.xf.gg T.xf.exC T.ca T.cg T.ct T.om) I.kIn J h1 e (fun z => nomatch z) fun tk => ⟨.bl b, H, I.tok tk, rfl, q⟩
/-! ### an own exception without a field -/
theorem front0 {x : Str} {C : Addr} {p pos : Pos} (glC : X.mg x = some (.ref C)) (kpC : PySem.W.keepIn X.K (.ref C) = true) (gl : Gl X x) (dbg : (x == ("__debug__" : Str)) = false)
    {pins : List (Addr × Obj)} {s : Shared} {σ : L2.St} {H : Hp} {R : Value → Shared → Prop} {E : Value → Shared → Prop} (I : Inv X pins σ H s) (go : wpAny (model X.prog X.w) X.A (call (.ref C) []) R E s) : wpAny (model X.prog X.w) X.A (eval (.Call (.Name x p) [] [] pos) X.env) R E s :=
  wpAny_Call_Name_kw (ld_glob I gl glC (PySem.W.callWith_K0 I.kIn kpC go) dbg)
theorem mk_x0 {C : Addr} {B newId initId : String} {bmB : List Value} (F : ExcBaseFacts B newId initId bmB) (q : PySem.W.excIn X.K C bmB newId = true) {pins : List (Addr × Obj)} {s : Shared} {σ : L2.St} {H : Hp} {R : Value → Shared → Prop} {E : Value → Shared → Prop} (I : Inv X pins σ H s)
    (hq : ∀ h' a, Heap.MadeExcOf s.heap h' a (.ref C) [] → R (.ref a) { s with heap := h' }) : wpAny (model X.prog X.w) X.A (call (.ref C) []) R E s := by
  obtain ⟨bm, N, nm, qn, bs, hdct, sn, sub, ab, col, dd, k0, k1, k2, k3, k5, mN, hC, hN, hni, T⟩ := exc_obj I.kIn q
  exact wpAny_call_exc_subT F T hC hN hni (fun h' a hm => hq h' a hm) (by show 0 ≤ sizeLine; exact Nat.zero_le _)
theorem pmk_x0 {x : Str} {C : Addr} {B newId initId : String} {bmB : List Value} {p pos : Pos} (F : ExcBaseFacts B newId initId bmB) (q : PySem.W.excIn X.K C bmB newId = true) (rs : Raises X (.ref C)) (glC : X.mg x = some (.ref C)) (kpC : PySem.W.keepIn X.K (.ref C) = true) (gl : Gl X x) (dbg : (x == ("__debug__" : Str)) = false) :
    PMk X (.Call (.Name x p) [] [] pos) (fun σ H Q => Q (.ref C) none H) := by
  intro pins s σ H Q I h
  exact front0 glC kpC gl dbg I (mk_x0 F q I fun h' a hm => mk_of I hm rs h (I.hok.gone hm.new))
theorem pe_x0 {x : Str} {C : Addr} {B newId initId : String} {bmB : List Value} {p pos : Pos} (F : ExcBaseFacts B newId initId bmB) (q : PySem.W.excIn X.K C bmB newId = true) (glC : X.mg x = some (.ref C)) (kpC : PySem.W.keepIn X.K (.ref C) = true) (gl : Gl X x) (dbg : (x == ("__debug__" : Str)) = false) :
    PE X (.Call (.Name x p) [] [] pos) (fun σ H Q => ∀ a, H a = none → Q (.ref a) (upd H a (ExK (.ref C) none a))) := by
  refine ⟨fun pins s σ H Q I h => front0 glC kpC gl dbg I (mk_x0 F q I fun h' a hm => ?_)⟩
  have na : H a = none := I.hok.gone hm.new
  obtain ⟨t, ht, _, _⟩ := hm.there
  have J := I.laidN (t' := s.toks) (a := a) (h' := h') (o := ExK (.ref C) none a) hm.keeps hm.new na (exK_ok ht ⟨rfl, rfl⟩ rfl)
  exact ⟨.ref a, _, J, rfl, h a na⟩
end
end EV

set_option Elab.async false
set_option linter.all false
set_option maxRecDepth 100000
set_option maxHeartbeats 1000000
namespace EV
open PySem PySem.Spec PyProof.Rows L2
variable {K : PySem.W.Frag}

/-! ### from the text -/
def code (x : Str) : Nat := x.cps.toList.foldl (fun a c => a * 1114112 + c + 1) 0
/-- a def of the text: its parameters; hands back a list to be changed; the numbers of places ahead of keywords -/
structure FI where
  ps : List Str
  rm : Bool
  kw : List Nat
  /-- keywords in another order: places ahead, names, for each parameter its place in the text -/
  ko : List (Nat × List Str × List Nat)
/-- an exception class of the text: its field, its built-in class -/
structure CI where
  fld : Option (List Nat)
  base : String
structure GEnv where
  consts : List (Str × AV)
  fns : List (Str × FI)
  cls : List (List Nat × CI)
def apS : IE → IE → IE
  | .nil, t => t
  | .cons a b, t => .cons a (apS b t)
  | s, _ => s
def mkCall (rm : Bool) (c : Nat) (s : IE) : IE := if rm then .callM c s else .call c s
/-- the built-in names that are served -/
def bfB : List (Str × (Bf × String)) := [("len", .len, "len"), ("abs", .abs, "abs"), ("min", .min, "min"), ("max", .max, "max"), ("sum", .sum, "sum"), ("all", .all, "all"), ("any", .any, "any"), ("sorted", .sorted, "sorted")]
def bfT : List (Str × (Bf × String)) := [("tuple", .tuple, "tuple"), ("list", .list, "list"), ("int", .int, "int")]
def tyB : List (Str × Ty) := [("int", .int), ("bool", .bool), ("str", .str), ("list", .list), ("tuple", .tuple), ("dict", .dict)]
/-- built-in classes that isinstance asks exceptions of -/
def xbB : List (Str × String) := [("LookupError", "LookupError"), ("ValueError", "ValueError"), ("KeyError", "KeyError"), ("IndexError", "IndexError")]
def BN : List Str := bfB.map (·.1) ++ bfT.map (·.1) ++ tyB.map (·.1) ++ (["isinstance", "range", "enumerate", "zip"] : List Str) ++ xbB.map (·.1)

abbrev NK := List (Str × NameKind)
def isGl (ns : NK) (x : Str) : Bool := decide (ns.lookup x = some .globalImplicit)
def isVis (ns : NK) (x : Str) : Bool := match ns.lookup x with
  | some .local => true
  | some .cell => true
  | some .free => true
  | _ => false
def notDbg (x : Str) : Bool := !(x == ("__debug__" : Str)) && !(x == ("__classdict__" : Str))
def ixOf (x : Str) : List Str → Option Nat
  | [] => none
  | y :: ys => if y = x then some 0 else (ixOf x ys).map (· + 1)
def cL (f : Expr → Option IE) : List Expr → Option IE
  | [] => some .nil
  | .Starred e _ :: es => match f e, cL f es with
    | some x, some y => some (.star x y)
    | _, _ => none
  | e :: es => match f e, cL f es with
    | some x, some y => some (.cons x y)
    | _, _ => none
def cB (f : Expr → Option IE) (mk : IE → IE → IE) : List Expr → Option IE
  | [] => none
  | [e] => f e
  | e :: es => match f e, cB f mk es with
    | some x, some y => some (mk x y)
    | _, _ => none
def cO (f : Expr → Option IE) : Option Expr → Option IE
  | none => some .omit
  | some e => (f e).map .som
def relN (outer ns : NK) : NK := ns.map fun (n, k) => if (k == .free && outer.lookup n == some .cell) then (n, .cell) else (n, k)
/-- targets; ok: the cells that may be stored -/
def cG (N : List Str) (ns : NK) (ok : Str → Bool) : Nat → Expr → Option Tg
  | 0, _ => none
  | n + 1, .Name x _ => match ns.lookup x with
    | some .local => (ixOf x N).map .nm
    | some .cell => if ok x then (ixOf x N).map .nm else none
    | _ => none
  | n + 1, .Tuple es _ _ => if es.all notStar then (cGs (cG N ns ok n) es).map .tp else none
  | _, _ => none
where cGs (f : Expr → Option Tg) : List Expr → Option Tg
  | [] => some .nil
  | e :: es => match f e, cGs f es with
    | some x, some y => some (.cons x y)
    | _, _ => none
def ownOf (N : List Str) : NK → List (Str × Nat)
  | [] => []
  | (x, k) :: r => match k, ixOf x N with
    | .local, some i => (x, i) :: ownOf N r
    | .cell, some i => (x, i) :: ownOf N r
    | _, _ => ownOf N r
def tysOf : List Expr → Option (List (Ty × Pos))
  | [] => some []
  | .Name x p :: es => match tyB.lookup x, tysOf es with
    | some t, some ts => some ((t, p) :: ts)
    | _, _ => none
  | _ => none
def isTupE : Expr → Bool
  | .Tuple .. => true
  | _ => false
def okCell (ns : NK) : Str → Bool := fun x => ns.lookup x == some .cell

def cIf (f : Expr → Option IE) : List Expr → Option IE
  | [] => some (.tst (.cst (.bl true)))
  | [c] => f c
  | _ => none

def cCmp (f : Expr → Option IE) (a : Expr) : List CmpOp → List Expr → Option IE
  | [.Is], [.Constant .none _ _] => (f a).map fun x => .cmp .isn x (.cst .non)
  | [.IsNot], [.Constant .none _ _] => (f a).map fun x => .cmp .ntn x (.cst .non)
  | [op], [b] => match copOf op, notSetE b, f a, f b with
    | some o, true, some x, some y => some (.cmp o x y)
    | _, _, _, _ => none
  | [op, op'], [b, c] => match copOf op, copOf op', notSetE c, f a, f b, f c with
    | some o, some o', true, some x, some y, some z => some (.chn o o' x y z)
    | _, _, _, _, _, _ => none
  | _, _ => none
/-- the classes of the text of some sort -/
def clsBy (Γ : GEnv) (q : CI → Bool) : List (List Nat) := (Γ.cls.map (·.1)).filter fun y => match Γ.cls.lookup y with
  | some ci => q ci
  | none => false
theorem mem_clsBy {Γ : GEnv} {q : CI → Bool} {y : List Nat} (h : y ∈ clsBy Γ q) : ∃ ci, Γ.cls.lookup y = some ci ∧ q ci = true := by
  obtain ⟨_, h2⟩ := List.mem_filter.mp h
  cases e : Γ.cls.lookup y with
  | none => rw [e] at h2; cases h2
  | some ci => rw [e] at h2; exact ⟨ci, rfl, h2⟩
def clsOver (Γ : GEnv) (bs : List String) : List (List Nat) := clsBy Γ fun ci => bs.contains ci.base
def clsNot (Γ : GEnv) (bs : List String) : List (List Nat) := clsBy Γ fun ci => !bs.contains ci.base
def clsElse (Γ : GEnv) (t : List Nat) : List (List Nat) := (clsBy Γ fun _ => true).filter fun y => decide (y ≠ t)
def xbsOf : List Expr → Option (List (String × Pos))
  | [] => some []
  | .Name x p :: es => match xbB.lookup x, xbsOf es with
    | some t, some ts => some ((t, p) :: ts)
    | _, _ => none
  | _ => none
/-- isinstance of an exception -/
def cIsx (Γ : GEnv) (ns : NK) (f : Expr → Option IE) (a : Expr) : Expr → Option IE
  | .Name t p => if isGl ns t && notDbg t then (match xbB.lookup t, Γ.cls.lookup t.cps.toList, f a with
    | some b, _, some x => some (.isx x (clsOver Γ [b]) (clsNot Γ [b]))
    | none, some _, some x => some (.isx x [t.cps.toList] (clsElse Γ t.cps.toList))
    | _, _, _ => none) else none
  | .Tuple ts _ _ => match xbsOf ts, f a with
    | some tys, some x => if tys.length ≤ 10 && tys.all (fun t => isGl ns (Str.ofString t.1)) then some (.isx x (clsOver Γ (tys.map (·.1))) (clsNot Γ (tys.map (·.1)))) else none
    | _, _ => none
  | _ => none
/-- an exception is made -/
def cMkx (Γ : GEnv) (f : Expr → Option IE) (x : Str) (as : List Expr) : Option IE := match Γ.cls.lookup x.cps.toList, as with
  | some ⟨some g, _⟩, [a] => if g.isEmpty then none else (f a).map fun i => .mkx x.cps.toList g (.cons i .nil)
  | some ⟨none, _⟩, [] => some (.mkx x.cps.toList [] .nil)
  | _, _ => none
/-- a field of an exception -/
def cAtr (Γ : GEnv) (f : Expr → Option IE) (o : Expr) (n : Str) : Option IE := if notCall0 o then (match f o with
  | some i => some (.atr i n.cps.toList (clsBy Γ fun ci => ci.fld == some n.cps.toList))
  | none => none) else none
def cIsi (ns : NK) (f : Expr → Option IE) (a : Expr) : Expr → Option IE
  | .Name t p => match tyB.lookup t, f a with
    | some ty, some x => if isGl ns t then some (.isi x [ty]) else none
    | _, _ => none
  | .Tuple ts _ _ => match tysOf ts, f a with
    | some tys, some x => if tys.length ≤ 10 && tys.all (fun t => isGl ns (Str.ofString t.1.name)) then some (.isi x (tys.map (·.1))) else none
    | _, _ => none
  | _ => none
def cOwn (Γ : GEnv) (f : Expr → Option IE) (x : Str) (as : List Expr) : Option IE := match Γ.fns.lookup x, cL f as with
  | some fi, some s => if fi.ps.length = as.length then some (mkCall fi.rm (code x) s) else none
  | _, _ => none
/-- f(e, .., k = e, ..) -/
def cKw (Γ : GEnv) (ns : NK) (f : Expr → Option IE) (fn : Expr) (as : List Expr) (kws : List Keyword) : Option IE := match fn with
  | .Name x _ => if isGl ns x && notDbg x && as.all notStar && (kws.map (·.value)).all notStar then (match Γ.fns.lookup x, cL f as, cL f (kws.map (·.value)) with
      | some fi, some s, some t => if fi.kw.contains as.length && decide (kws.map (·.arg) = (fi.ps.drop as.length).map some) && decide (fi.ps.length = as.length + kws.length) then some (mkCall fi.rm (code x) (apS s t)) else (match fi.ko.find? (fun q => decide (q.1 = as.length) && decide (kws.map (·.arg) = q.2.1.map some)) with
        | some q => if q.2.2.length = fi.ps.length then some (mkCall fi.rm (code x) (.perm q.2.2 (apS s t))) else none
        | none => none)
      | _, _, _ => none) else none
  | _ => none
def cMth (f : Expr → Option IE) (o : Expr) (m : Str) (apos pos : Pos) : List Expr → Option IE
  | [] => if m == ("pop" : Str) && notCall0 o && (apos.endLine == pos.line) then (f o).map .pop else none
  | [a] => if notCall0 o && notStar a && (apos.endLine == pos.line) then (match f o, f a with
      | some x, some y => if m == ("append" : Str) then some (.app x y) else if m == ("extend" : Str) then some (.ext x y) else if m == ("pop" : Str) then some (.popA x y) else if m == ("count" : Str) then some (.mth .count x y) else if m == ("index" : Str) then some (.mth .index x y) else none
      | _, _ => none) else none
  | _ => none
def cCall (Γ : GEnv) (ns : NK) (f : Expr → Option IE) (fn : Expr) (as : List Expr) (pos : Pos) : Option IE := match fn with
  | .Name x _ => if isGl ns x && notDbg x && as.all notStar then (if x == ("isinstance" : Str) then (match as with
      | [a, t] => (match cIsi ns f a t with
        | some i => some i
        | none => cIsx Γ ns f a t)
      | _ => none) else (match cOwn Γ f x as with
        | some i => some i
        | none => cMkx Γ f x as)) else none
  | .Attribute o m apos => cMth f o m apos pos as
  | _ => none

variable (Γ : GEnv) (N : List Str)
mutual
/-- an expression -/
def cE : Nat → NK → Expr → Option IE
  | 0, _, _ => none
  | n + 1, ns, e => match cF n ns e with
    | some i => some i
    | none => match e with
      | .Name x _ => if notDbg x then (if isVis ns x then (ixOf x N).map .var else if isGl ns x then (Γ.consts.lookup x).map .cst else none) else none
      | .Constant (.int i) _ _ => some (.cst (.int i))
      | .Constant (.bool b) _ _ => some (.cst (.bl b))
      | .Constant .none _ _ => some (.cst .non)
      | .Constant (.str s) _ _ => some (.cst (.str s.cps.toList))
      | .UnaryOp .USub a _ => (cE n ns a).map .neg
      | .UnaryOp .Not a _ => (cE n ns a).map .nt
      | .BoolOp .And vs _ => cB (cE n ns) .and vs
      | .BoolOp .Or vs _ => cB (cE n ns) .or vs
      | .Compare a ops bs _ => cCmp (cE n ns) a ops bs
      | .IfExp c a b _ => match cT n ns c, cE n ns a, cE n ns b with
        | some x, some y, some z => some (.ife x y z)
        | _, _, _ => none
      | .Tuple es _ _ => (cL (cE n ns) es).map .tup
      | .Subscript a i _ => match notSliceE i, cE n ns a, cE n ns i with
        | true, some x, some y => some (.idx x y)
        | _, _, _ => none
      | .Attribute o a _ => cAtr Γ (cE n ns) o a
      | .Call f as [] p => cCall Γ ns (cE n ns) f as p
      | .Call f as (k :: ks) p => cKw Γ ns (cE n ns) f as (k :: ks)
      | _ => none
/-- an expression that makes a new list -/
def cF : Nat → NK → Expr → Option IE
  | 0, _, _ => none
  | n + 1, ns, e => match e with
    | .BinOp a op b _ => match opOf op, cE n ns a, cE n ns b with
      | some o, some x, some y => some (.bin o x y)
      | _, _, _ => none
    | .List es _ => (cL (cE n ns) es).map .lst
    | .BoolOp .Or [a, b] _ => match cF n ns a, cF n ns b with
      | some x, some y => some (.or x y)
      | _, _ => none
    | .Subscript a (.Slice lo hi none _) _ => match cE n ns a, cO (cE n ns) lo, cO (cE n ns) hi with
      | some x, some y, some z => some (.slc x y z)
      | _, _, _ => none
    | .Subscript a (.Slice none none (some (.UnaryOp .USub (.Constant (.int i) _ _) _)) _) _ => if i = 1 then (cE n ns a).map .rev else none
    | .Call (.Name f _) (a :: as) [] _ => if isGl ns f && (a :: as).all notStar then (match bfB.lookup f, bfT.lookup f, cL (cE n ns) (a :: as) with
      | some (b, _), _, some s => some (.blt b s)
      | none, some (b, _), some s => some (.blt b s)
      | _, _, _ => none) else none
    | .ListComp elt [⟨tg, iter, ifs, 0⟩] scope _ =>
      let ns' := relN ns scope.names
      let own := ownOf N scope.names
      if blkC N ⟨.function, ns, false, false, []⟩ scope own && notSetE iter then
        match cI n ns tg iter, cG N ns' (okCell scope.names) n tg, cIf (cT n ns') ifs, cE n ns' elt with
        | some i, some g, some c, some e => if (tgs g).all (fun v => decide (v ∈ own.map (·.2))) then some (.comp (own.map (·.2)) g i c e) else none
        | _, _, _, _ => none
      else none
    | _ => none
/-- a test -/
def cT : Nat → NK → Expr → Option IE
  | 0, _, _ => none
  | n + 1, ns, e => match e with
    | .UnaryOp .Not a _ => (cT n ns a).map .nt
    | .BoolOp .And vs _ => cB (cT n ns) .and vs
    | .BoolOp .Or vs _ => cB (cT n ns) .or vs
    | .Compare .. => (cE n ns e).map .tst
    | .Name .. => (cE n ns e).map .tst
    | .Call .. => (cE n ns e).map .tst
    | .Subscript .. => (cE n ns e).map .tst
    | .Constant .. => (cE n ns e).map .tst
    | _ => none
/-- what is walked -/
def cI : Nat → NK → Expr → Expr → Option IE
  | 0, _, _, _ => none
  | n + 1, ns, tg, e => match e with
    | .Call (.Name f _) [a] [] _ => if f == ("range" : Str) && isGl ns f && notStar a then (cL (cE n ns) [a]).map .iRg1
      else if f == ("enumerate" : Str) && isGl ns f && notStar a && isTupE tg then (cL (cE n ns) [a]).map .iEn
      else (cE n ns e).map .iPl
    | .Call (.Name f _) [a, b] [] _ => if f == ("range" : Str) && isGl ns f && notStar a && notStar b then (cL (cE n ns) [a, b]).map .iRg2
      else if f == ("zip" : Str) && isGl ns f && notStar a && notStar b && isTupE tg then (cL (cE n ns) [a, b]).map .iZp
      else (cE n ns e).map .iPl
    | e => (cE n ns e).map .iPl
end
end EV

set_option Elab.async false
set_option linter.all false
set_option maxRecDepth 100000
set_option maxHeartbeats 2000000
namespace EV
open PySem PySem.Spec PyProof.Rows L2
variable {K : PySem.W.Frag}

/-- how an exception of ours stands -/
abbrev KX := Nat → Option (Addr × Option Str)
def ExR {K : PySem.W.Frag} (κ : KX) : Nat → List AV → Th K → Hp → Value → Option Addr → Prop := fun c as Θ H cv d => ∃ (x f : List Nat) (C : Addr) (us : List AV) (vs : List V), as = [.exc x f us] ∧ clsAt K x C ∧ cv = .ref C ∧ DX Θ H d f vs ∧ RepL Θ H us vs
def AWof (K : PySem.W.Frag) (κ : KX) (Wx : WX) : AW K := fun σ c as Θ H => ∀ cv d, ExR κ c as Θ H cv d → Wx cv d σ H
def spF (K : PySem.W.Frag) (κ : KX) (Φ : Fns) (c np : Nat) : Sp := fun vs H Q E => vs.length = np ∧ ∃ (Θ : Th K) (h : AH) (as : List AV), HR Θ h H ∧ RepL Θ H as vs ∧ Post Rep (Φ c as h) Θ H Q (fun c as Θ' H' => ∀ cv d, ExR κ c as Θ' H' cv d → E cv d H')
/-- how keywords bind behind n places -/
def KwB (K : PySem.W.Frag) (fd : FuncData) (ps : List Str) (n : Nat) : Prop := ∀ (s : Shared) (us ws : List Value), K.In s.heap → us.length = n → n + ws.length = ps.length → BindsTo s fd ⟨us, (ps.drop n).zip ws⟩ (ps.zip (us ++ ws))
/-- some of a list, by places -/
def permG {α : Type} (pi : List Nat) (l : List α) : Option (List α) := mapO (fun i => l[i]?) pi
/-- how keywords in another order bind -/
def KwP (K : PySem.W.Frag) (fd : FuncData) (ps : List Str) (q : Nat × List Str × List Nat) : Prop := ∀ (s : Shared) (us ws : List Value), K.In s.heap → us.length = q.1 → ws.length = q.2.1.length → ∃ zs, permG q.2.2 (us ++ ws) = some zs ∧ BindsTo s fd ⟨us, q.2.1.zip ws⟩ (ps.zip zs)
/-- a def of the table -/
def FO (κ : KX) (X : Cx) (Φ : Fns) (x : Str) (fi : FI) : Prop := ∃ (k : Nat) (fa : Addr) (fd : FuncData), FnOk X.prog X.w X.K X.mg X.base (L2.CX X.prog X.w) k fa fd fi.ps (spF X.K κ Φ (code x) fi.ps.length) ∧ Room k X.A ∧ X.mg x = some (.ref fa) ∧
  PySem.W.keepIn X.K (.ref fa) = true ∧ Binds X.K fd fi.ps [] ∧ (∀ n ∈ fi.kw, KwB X.K fd fi.ps n) ∧ ∀ q ∈ fi.ko, KwP X.K fd fi.ps q
/-- an exception class of the text -/
structure CK (X : Cx) (x : List Nat) (ci : CI) (C : Addr) : Prop where
  mg : X.mg (mkS x) = some (.ref C)
  at_ : clsAt X.K x C
  kp : PySem.W.keepIn X.K (.ref C) = true
  rs : Raises X (.ref C)
  xi : XI X.K C
  one : ∀ f, ci.fld = some f → (∃ fI B newId i bmB, XC X.prog X.K C fI (mkS f) B newId i bmB) ∧ PySem.W.findIn X.K (.ref C) (mkS f) = some none
  nil : ci.fld = none → ∃ B newId initId bmB, ExcBaseFacts B newId initId bmB ∧ PySem.W.excIn X.K C bmB newId = true
  kit : ∀ p ∈ xbB, PySem.W.kitOne X.K (.ref C) (.type p.2) = some (p.2 == ci.base)
structure CO (Γ : GEnv) (N : List Str) (κ : KX) (Φ : Fns) (ns : NK) (Wx : WX) (X : Cx) : Prop where
  cg : CG X
  hN : X.N = N
  hns : X.env.scope.names = ns
  blt : ∀ x ∈ BN, X.mg x = none
  cst : ∀ x av, Γ.consts.lookup x = some av → ∃ u v, X.mg x = some u ∧ RelV v u ∧ ∀ (Θ : Th X.K) H, Rep Θ H av v
  fns : ∀ x fi, Γ.fns.lookup x = some fi → FO κ X Φ x fi
  px : ∀ σ, PassesAt (L2.CX X.prog X.w) X σ (WE Wx σ)
  cls : ∀ x ci, Γ.cls.lookup x = some ci → ∃ C, CK X x ci C
  exm : ∀ x y cx cy C D, Γ.cls.lookup x = some cx → Γ.cls.lookup y = some cy → clsAt X.K x C → clsAt X.K y D → PySem.W.exmOne X.K (.ref D) (.ref C) = some (decide (y = x)) ∧ PySem.W.kitOne X.K (.ref D) (.ref C) = some (decide (y = x))
abbrev Wx0 : WX := fun _ _ _ _ => False

section
variable {Γ : GEnv} {N : List Str} {κ : KX} {Φ : Fns} {ns : NK} {Wx : WX} {X : Cx}
theorem ixOf_get {x : Str} : ∀ {N : List Str} {i : Nat}, ixOf x N = some i → N[i]? = some x
  | [], i, e => by cases e
  | y :: ys, i, e => by
    simp only [ixOf] at e
    split at e
    · rename_i h; cases e; simp [h]
    · simp only [Option.map_eq_some_iff] at e
      obtain ⟨j, ej, rfl⟩ := e
      simpa using ixOf_get ej
theorem CO.gl (C : CO Γ N κ Φ ns Wx X) {x : Str} (h : isGl ns x = true) : Gl X x := by
  have := of_decide_eq_true h
  show X.env.scope.names.lookup x = _
  rw [C.hns]; exact this
theorem CO.vis (C : CO Γ N κ Φ ns Wx X) {x : Str} (h : isVis ns x = true) : Vis X.env.scope x := by
  unfold isVis at h
  rw [← C.hns] at h
  split at h
  · exact .inl (by assumption)
  · exact .inr (.inl (by assumption))
  · exact .inr (.inr (by assumption))
  · cases h
theorem CO.bl (C : CO Γ N κ Φ ns Wx X) {x : Str} (h : isGl ns x = true) (m : x ∈ BN) : Bl X x := ⟨C.gl h, C.blt x m⟩
/-- a block -/
theorem CO.blk (C : CO Γ N κ Φ ns Wx X) {s : Shared} {H : Hp} {scope : Scope} {cl : List (Str × Addr)} {c : Addr} {fp : List Addr} (hk : scope.kind = .function) :
    CO Γ N κ Φ (relN ns scope.names) Wx0 (X.blk s H scope (compEnvC scope cl c X.env) fp) := by
  refine ⟨⟨C.cg.calm, C.cg.nd, hk, C.cg.un, C.cg.dp⟩, C.hN, ?_, C.blt, C.cst, C.fns, fun σ pins H s e s' I q => ?_, fun x ci e => let ⟨D, k⟩ := C.cls x ci e; ⟨D, ⟨k.mg, k.at_, k.kp, k.rs, k.xi, k.one, k.nil, k.kit⟩⟩, C.exm⟩
  · show (relabel scope X.env).names = _
    unfold relabel relN
    refine List.map_congr_left fun ⟨n, k⟩ _ => ?_
    have e1 : X.env.kindOf n = ns.lookup n := by show X.env.scope.names.lookup n = _; rw [C.hns]
    have e2 : (X.env.scope.kind == ScopeKind.function) = true := by rw [C.cg.kind]; rfl
    simp only [e1, e2, Bool.and_true]
  · obtain ⟨a, B, H', cls, d, h1, h2, h3, h4, h5, h6, h7, h8⟩ := q
    exact h8.elim
theorem wk0 {e : Expr} {i : IE} (h : PE X e (tE Φ (AWof X.K κ Wx0) i)) : PE X e (tE Φ (W0 X.K) i) := h.wk fun σ H Q ⟨Θ, h, σa, hr, sr, p⟩ => ⟨Θ, h, σa, hr, sr, by
  cases e : evE Φ i σa h with
  | ok v h1 => rw [e] at p; exact p
  | ex c as h1 => rw [e] at p; exact fun Θ' H' t hr' => (p Θ' H' t hr').elim
  | bad => rw [e] at p; exact p⟩
theorem wk0T {e : Expr} {i : IE} (h : PT X e (tT Φ (AWof X.K κ Wx0) i)) : PT X e (tT Φ (W0 X.K) i) := h.wk fun σ H Q ⟨Θ, h, σa, hr, sr, p⟩ => ⟨Θ, h, σa, hr, sr, by
  cases e : evT Φ i σa h with
  | ok v h1 => rw [e] at p; exact p
  | ex c as h1 => rw [e] at p; exact fun Θ' H' t hr' => (p Θ' H' t hr').elim
  | bad => rw [e] at p; exact p⟩
/-- targets -/
theorem cG_ok (C : CO Γ N κ Φ ns Wx X) {ok : Str → Bool} (hok : ∀ x, ok x = true → X.fn x = true) : ∀ (n : Nat) (e : Expr) (g : Tg), cG N ns ok n e = some g → PG X e (tG X.K g) ∧ True := by
  intro n
  induction n with
  | zero => intro e g h; simp [cG] at h
  | succ n ih =>
    intro e g h
    cases e with
    | Name x p =>
      simp only [cG] at h
      have hl : X.env.scope.names.lookup x = ns.lookup x := by rw [C.hns]
      split at h
      · rename_i hk
        simp only [Option.map_eq_some_iff] at h
        obtain ⟨i, ei, rfl⟩ := h
        exact ⟨g_name C.cg.nd (by rw [C.hN]; exact ixOf_get ei) (.inl (hl.trans hk)) (.inr (hl.trans hk)), trivial⟩
      · rename_i hk
        split at h
        · rename_i ho
          simp only [Option.map_eq_some_iff] at h
          obtain ⟨i, ei, rfl⟩ := h
          exact ⟨g_name C.cg.nd (by rw [C.hN]; exact ixOf_get ei) (.inr (hl.trans hk)) (.inl (hok x ho)), trivial⟩
        · cases h
      · cases h
    | Tuple es k p =>
      simp only [cG] at h
      split at h
      · rename_i hs
        simp only [Option.map_eq_some_iff] at h
        obtain ⟨s, es', rfl⟩ := h
        have go : ∀ (es : List Expr) (s : Tg), es.all notStar = true → cG.cGs (cG N ns ok n) es = some s → PGs X es (tGs X.K s) ∧ tgLen s = es.length := by
          intro es
          induction es with
          | nil => intro s _ h; cases h; exact ⟨gs_nil, rfl⟩
          | cons e es ihl =>
            intro s hn h
            simp only [List.all_cons, Bool.and_eq_true] at hn
            simp only [cG.cGs] at h
            cases e1 : cG N ns ok n e with
            | none => rw [e1] at h; simp at h
            | some x =>
              cases e2 : cG.cGs (cG N ns ok n) es with
              | none => rw [e1, e2] at h; simp at h
              | some y =>
                rw [e1, e2] at h
                cases h
                obtain ⟨h1, h2⟩ := ihl y hn.2 e2
                exact ⟨gs_cons hn.1 (ih e x e1).1 h1, by simp [tgLen, h2]⟩
        obtain ⟨h1, h2⟩ := go es s hs es'
        exact ⟨g_tup C.cg hs h2 h1, trivial⟩
      · cases h
    | _ => simp [cG] at h
/-- lists of expressions -/
theorem cL_ok {W : AW X.K} {f : Expr → Option IE} (ih : ∀ e i, f e = some i → PE X e (tE Φ W i)) : ∀ (es : List Expr) (s : IE), cL f es = some s → PA X es (tL Φ W s)
  | [], s, h => by cases h; exact l_nil
  | e :: es, s, h => by
    have plain : notStar e = true → (match f e, cL f es with
      | some x, some y => some (IE.cons x y)
      | _, _ => none) = some s → PA X (e :: es) (tL Φ W s) := fun hn h => by
      cases e1 : f e with
      | none => rw [e1] at h; simp at h
      | some x =>
        cases e2 : cL f es with
        | none => rw [e1, e2] at h; simp at h
        | some y => rw [e1, e2] at h; cases h; exact l_cons hn (ih e x e1) (cL_ok ih es y e2)
    cases e with
    | Starred e p =>
      simp only [cL] at h
      cases e1 : f e with
      | none => rw [e1] at h; simp at h
      | some x =>
        cases e2 : cL f es with
        | none => rw [e1, e2] at h; simp at h
        | some y => rw [e1, e2] at h; cases h; exact l_star (ih e x e1) (cL_ok ih es y e2)
    | _ => exact plain rfl h
theorem cB_and {W : AW X.K} {f : Expr → Option IE} (ih : ∀ e i, f e = some i → PE X e (tE Φ W i)) (pos : Pos) : ∀ (es : List Expr) (s : IE), cB f .and es = some s → PE X (.BoolOp .And es pos) (tE Φ W s)
  | [], s, h => by cases h
  | [e], s, h => pe_one (ih e s h)
  | e :: e' :: es, s, h => by
    simp only [cB] at h
    cases e1 : f e with
    | none => rw [e1] at h; simp at h
    | some x =>
      cases e2 : cB f .and (e' :: es) with
      | none => rw [e1, e2] at h; simp at h
      | some y => rw [e1, e2] at h; cases h; exact s_and (ih e x e1) (cB_and ih pos (e' :: es) y e2)
theorem cB_or {W : AW X.K} {f : Expr → Option IE} (ih : ∀ e i, f e = some i → PE X e (tE Φ W i)) (pos : Pos) : ∀ (es : List Expr) (s : IE), cB f .or es = some s → PE X (.BoolOp .Or es pos) (tE Φ W s)
  | [], s, h => by cases h
  | [e], s, h => pe_one (ih e s h)
  | e :: e' :: es, s, h => by
    simp only [cB] at h
    cases e1 : f e with
    | none => rw [e1] at h; simp at h
    | some x =>
      cases e2 : cB f .or (e' :: es) with
      | none => rw [e1, e2] at h; simp at h
      | some y => rw [e1, e2] at h; cases h; exact s_or (ih e x e1) (cB_or ih pos (e' :: es) y e2)
theorem cB_andT {W : AW X.K} {f : Expr → Option IE} (ih : ∀ e i, f e = some i → PT X e (tT Φ W i)) (pos : Pos) : ∀ (es : List Expr) (s : IE), cB f .and es = some s → PW X (.BoolOp .And es pos) (tT Φ W s)
  | [], s, h => by cases h
  | [e], s, h => pw_and1 (ih e s h)
  | e :: e' :: es, s, h => by
    simp only [cB] at h
    cases e1 : f e with
    | none => rw [e1] at h; simp at h
    | some x =>
      cases e2 : cB f .and (e' :: es) with
      | none => rw [e1, e2] at h; simp at h
      | some y => rw [e1, e2] at h; cases h; exact w_and (ih e x e1) (cB_andT ih pos (e' :: es) y e2)
theorem cB_orT {W : AW X.K} {f : Expr → Option IE} (ih : ∀ e i, f e = some i → PT X e (tT Φ W i)) (pos : Pos) : ∀ (es : List Expr) (s : IE), cB f .or es = some s → PW X (.BoolOp .Or es pos) (tT Φ W s)
  | [], s, h => by cases h
  | [e], s, h => pw_or1 (ih e s h)
  | e :: e' :: es, s, h => by
    simp only [cB] at h
    cases e1 : f e with
    | none => rw [e1] at h; simp at h
    | some x =>
      cases e2 : cB f .or (e' :: es) with
      | none => rw [e1, e2] at h; simp at h
      | some y => rw [e1, e2] at h; cases h; exact w_or (ih e x e1) (cB_orT ih pos (e' :: es) y e2)
theorem cO_ok {W : AW X.K} {f : Expr → Option IE} (ih : ∀ e i, f e = some i → PE X e (tE Φ W i)) : ∀ (o : Option Expr) (s : IE), cO f o = some s → PO X o (tO Φ W s)
  | none, s, h => by cases h; exact o_none
  | some e, s, h => by
    simp only [cO, Option.map_eq_some_iff] at h
    obtain ⟨x, ex, rfl⟩ := h
    exact o_some (ih e x ex)

/-! ### calls of the text's own defs -/
theorem call_reads {x : Str} {np : Nat} {σ : L2.St} {H : Hp} {Q : VK} {ia : IE} {Θ : Th X.K} {h : AH} {σa : ASt} (hr : HR Θ h H) (sr : SR Θ H σa σ) (hlen : ∀ xs h1, evL Φ ia σa h = .ok xs h1 → xs.length = np)
    (sh : Nat → AV → AH → Rs AV) (hsh : ∀ {Θ1 Θ2 : Th X.K} {H1 H2 : Hp} {h1 h2 : AH} {v : AV} {x : V} {Q : VK} {E : XW X.K}, HR Θ1 h1 H1 → Tr Θ1 H1 Θ2 H2 → HR Θ2 h2 H2 → Rep Θ2 H2 v x → Post Rep (sh h1.length v h2) Θ1 H1 Q E → Q x H2)
    (p : Post Rep ((evL Φ ia σa h).bind fun xs h1 => (Φ (code x) xs h1).bind fun v h2 => sh h1.length v h2) Θ H Q (EW (AWof X.K κ Wx) σ)) :
    tCallSD (spF X.K κ Φ (code x) np) [] (WE Wx) (tL Φ (AWof X.K κ Wx) ia) σ H Q := by
  refine ⟨Θ, h, σa, hr, sr, (Post.bind (R := RepL) p).imp fun us H1 ⟨Θ1, h1, xs, t1, hr1, rx, e, p1⟩ => ?_⟩
  rw [List.append_nil]
  refine ⟨by rw [← rx.length]; exact hlen xs h1 e, Θ1, h1, xs, hr1, rx, ?_⟩
  have q := Post.bind (R := Rep) p1
  cases e2 : Φ (code x) xs h1 with
  | bad => rw [e2] at q; exact q
  | ex c as h2 => rw [e2] at p1; exact p1
  | ok v h2 =>
    rw [e2] at p1
    exact fun Θ2 H2 y t hr2 r => hsh hr1 t hr2 r p1
end
end EV

set_option Elab.async false
set_option linter.all false
set_option maxRecDepth 100000
set_option maxHeartbeats 2000000
namespace EV
open PySem PySem.Spec PyProof.Rows L2
variable {Γ : GEnv} {N : List Str} {κ : KX} {Φ : Fns} {ns : NK} {Wx : WX} {X : Cx}
theorem clsAt.eq {K : PySem.W.Frag} {x : List Nat} {C D : Addr} (a : clsAt K x C) (b : clsAt K x D) : C = D := by
  unfold clsAt at a b
  rw [a] at b
  cases b; rfl
theorem DX.dict {K : PySem.W.Frag} {Θ : Th K} {H : Hp} {d : Option Addr} {f : List Nat} {vs : List V} (x : DX Θ H d f vs) : DictIn H d := by
  intro p e
  rcases x with ⟨e1, _⟩ | ⟨q, v, e1, _, e3, _⟩
  · rw [e1] at e; cases e
  · rw [e1] at e; cases e; exact ⟨_, e3⟩
section
variable {W : AW X.K} {a : Expr} {ia : IE} {pos : Pos}
/-- e.f -/
theorem s_atr (C : CO Γ N κ Φ ns Wx X) {n : Str} {f : List Nat} {ys : List (List Nat)} (hn : n = mkS f) (hy : ∀ y ∈ ys, ∃ ci, Γ.cls.lookup y = some ci ∧ ci.fld = some f) (plain : attributeBase a n X.env (eval a X.env) = eval a X.env) (ha : PE X a (tE Φ W ia)) :
    PE X (.Attribute a n pos) (tE Φ W (.atr ia f ys)) :=
  (pe_fieldK ha plain).wk fun σ H Q ⟨Θ, h, σa, hr, sr, p⟩ =>
    one bdP hr sr p fun Θ1 h1 H1 x u t1 hr1 sr1 rx p1 => by
      obtain ⟨v, ev, pv⟩ := Post.ofO p1
      cases x <;> simp [atrO] at ev
      rename_i y g as
      split at ev
      · rename_i z w hz
        split at ev
        · rename_i hc
          cases ev
          obtain ⟨rfl, hys⟩ := hc
          cases hz
          obtain ⟨ci, e1, e2⟩ := hy _ hys
          obtain ⟨D, k⟩ := C.cls _ _ e1
          cases rx with
          | exc c e o dx l =>
            cases c.eq k.at_
            cases l with
            | cons r0 l0 =>
              cases l0
              rcases dx with ⟨_, z⟩ | ⟨q, w, rfl, ew, e3, _⟩
              · cases z
              · cases ew
                exact ⟨_, _, q, _, _, rfl, k.xi.xf, by rw [hn]; exact (k.one _ e2).2, e, e3, by rw [hn]; simp [List.lookup], pv Θ1 H1 _ Tr.refl hr1 r0⟩
        · cases ev
      · cases ev
/-- isinstance(e, c) of an exception -/
theorem isx_rep {yes no : List (List Nat)} {x v : AV} (e : isxO yes no x = some v) : ∃ y g as b, x = .exc y g as ∧ v = .bl b ∧ ((b = true ∧ y ∈ yes) ∨ (b = false ∧ y ∈ no)) := by
  cases x <;> simp [isxO] at e
  rename_i y g as
  by_cases h1 : y ∈ yes
  · simp [h1] at e
    exact ⟨y, g, as, true, rfl, e.symm, .inl ⟨rfl, h1⟩⟩
  · by_cases h2 : y ∈ no
    · simp [h1, h2] at e
      exact ⟨y, g, as, false, rfl, e.symm, .inr ⟨rfl, h2⟩⟩
    · simp [h1, h2] at e
theorem s_isx {yes no : List (List Nat)} {T : Expr} {c : V} {cv : Value} {p0 : Pos} (bi : Bl X "isinstance") (hT : PE X T (tC c)) (hc : ClsV c cv) (nT : notStar T = true) (na : notStar a = true) (ha : PE X a (tE Φ W ia))
    (hy : ∀ y ∈ yes, ∃ D, clsAt X.K y D ∧ XI X.K D ∧ PySem.W.kitOne X.K (.ref D) cv = some true) (hno : ∀ y ∈ no, ∃ D, clsAt X.K y D ∧ XI X.K D ∧ PySem.W.kitOne X.K (.ref D) cv = some false) :
    PE X (.Call (.Name "isinstance" p0) [a, T] [] pos) (tE Φ W (.isx ia yes no)) :=
  (pe_callB call_isX bi.gl bi.mg (by decide +kernel) (pa_cons ha (pa_cons hT pa_nil (star_of nT)) (star_of na)) (by decide) (by decide) (star_of na) (noStar_of (by simp [nT]) _ _)).wk fun σ H Q ⟨Θ, h, σa, hr, sr, p⟩ =>
    one bdP hr sr p fun Θ1 h1 H1 x u t1 hr1 sr1 rx p1 => by
      obtain ⟨v, ev, pv⟩ := Post.ofO p1
      obtain ⟨y, g, as, b, rfl, rfl, hb⟩ := isx_rep ev
      have fact : ∃ D, clsAt X.K y D ∧ XI X.K D ∧ PySem.W.kitOne X.K (.ref D) cv = some b := by
        rcases hb with ⟨rfl, m⟩ | ⟨rfl, m⟩
        · exact hy y m
        · exact hno y m
      obtain ⟨D, d1, d2, d3⟩ := fact
      cases rx with
      | exc k e o dx l =>
        cases k.eq d1
        exact ⟨_, D, _, c, cv, b, rfl, e, dx.dict, d2, hc, d3, pv Θ1 H1 _ Tr.refl hr1 (.bl _)⟩
/-- isinstance(e, (c, ..)) of an exception -/
theorem s_isxT {yes no : List (List Nat)} {Ts : List Expr} {cs : List V} {ws : List Value} {p0 p1 : Pos} {kk : Nat} (bi : Bl X "isinstance") (hT : PA X Ts (fun _ H Q => Q cs H)) (hc : Paired ClsV cs ws) (hl : cs.length ≤ 10) (na : notStar a = true) (ha : PE X a (tE Φ W ia))
    (hy : ∀ y ∈ yes, ∃ D, clsAt X.K y D ∧ XI X.K D ∧ PySem.W.kitAny X.K (.ref D) ws = some true) (hno : ∀ y ∈ no, ∃ D, clsAt X.K y D ∧ XI X.K D ∧ PySem.W.kitAny X.K (.ref D) ws = some false) :
    PE X (.Call (.Name "isinstance" p0) [a, .Tuple Ts kk p1] [] pos) (tE Φ W (.isx ia yes no)) :=
  (pe_callB call_isXT bi.gl bi.mg (by decide +kernel) (pa_cons ha (pa_cons (pe_tup hT) pa_nil (star_of rfl)) (star_of na)) (by decide) (by decide) (star_of na) (noStar_of rfl _ _)).wk fun σ H Q ⟨Θ, h, σa, hr, sr, p⟩ =>
    one bdP hr sr p fun Θ1 h1 H1 x u t1 hr1 sr1 rx p1 => by
      obtain ⟨v, ev, pv⟩ := Post.ofO p1
      obtain ⟨y, g, as, b, rfl, rfl, hb⟩ := isx_rep ev
      have fact : ∃ D, clsAt X.K y D ∧ XI X.K D ∧ PySem.W.kitAny X.K (.ref D) ws = some b := by
        rcases hb with ⟨rfl, m⟩ | ⟨rfl, m⟩
        · exact hy y m
        · exact hno y m
      obtain ⟨D, d1, d2, d3⟩ := fact
      refine ⟨by rw [sizeLine_eq]; omega, fun q nq => ?_⟩
      have tn : Tr Θ1 H1 Θ1 (upd H1 q (.tup cs)) := Tr.new nq
      have rx' := rx.mono tn
      cases rx' with
      | exc k e o dx l =>
        cases k.eq d1
        exact ⟨_, D, q, _, cs, ws, b, rfl, upd_same, hc, e, dx.dict, d2, d3, pv Θ1 _ _ tn (hr1.new nq) (.bl _)⟩
/-- a new exception stands -/
theorem Tr.newX {K : PySem.W.Frag} {Θ : Th K} {H : Hp} {a : Addr} {o : HO} (n : H a = none) : Tr Θ H Θ (upd H a o) := ⟨rfl, ⟨[], by simp, by simp⟩, fun b u e _ => by rw [upd_ne fun z => by rw [z, n] at e; cases e]; exact e⟩
theorem HR.offN {K : PySem.W.Frag} {Θ : Th K} {h : AH} {H : Hp} {a : Addr} (hr : HR Θ h H) (n : H a = none) : Θ.off a := by
  refine ⟨fun m => ?_, fun m => hr.hid a m n⟩
  obtain ⟨i, e⟩ := List.mem_iff_getElem?.mp m
  have hi : i < h.length := by rw [← hr.len]; exact (List.getElem?_eq_some_iff.mp e).1
  have := hr.obj i a _ e (List.getElem?_eq_getElem hi)
  cases ho : h[i] with
  | lst xs =>
    rw [ho] at this
    obtain ⟨vs, z, _⟩ := this
    rw [n] at z; cases z
theorem HR.newX {K : PySem.W.Frag} {Θ : Th K} {h : AH} {H : Hp} {a : Addr} {o : HO} (hr : HR Θ h H) (n : H a = none) : HR Θ h (upd H a o) := by
  refine ⟨hr.len, hr.nd, hr.dj, fun b m => ?_, fun i b u e1 e2 => ?_⟩
  · by_cases hb : b = a
    · subst hb; rw [upd_same]; simp
    · rw [upd_ne hb]; exact hr.hid b m
  · have z := hr.obj i b u e1 e2
    have hb : b ≠ a := fun q => (hr.offN n).1 (by rw [← q]; exact List.mem_of_getElem? e1)
    cases u with
    | lst xs => obtain ⟨vs, e, l⟩ := z; exact ⟨vs, by rw [upd_ne hb]; exact e, l.mono (Tr.newX n)⟩
theorem s_mkx1 (C : CO Γ N κ Φ ns Wx X) {x f : List Nat} {ci : CI} {p : Pos} (hx : Γ.cls.lookup x = some ci) (hf : ci.fld = some f) (hf0 : f.isEmpty = false) (gl : Gl X (mkS x)) (dbg : (mkS x == ("__debug__" : Str)) = false) (na : notStar a = true) (ha : PE X a (tE Φ W ia)) :
    PE X (.Call (.Name (mkS x) p) [a] [] pos) (tE Φ W (.mkx x f (.cons ia .nil))) := by
  obtain ⟨D, k⟩ := C.cls _ _ hx
  obtain ⟨⟨fI, B, newId, i, bmB, T⟩, _⟩ := k.one f hf
  refine (pe_xc T C.cg.dp k.mg k.kp gl ha dbg (star_of na)).wk fun σ H Q ⟨Θ, h, σa, hr, sr, p⟩ => ?_
  have p : Post Rep ((evE Φ ia σa h).bind fun y h1 => ofO (mkxO x f [y]) h1) Θ H Q (EW W σ) := by
    have q : Post Rep (((evE Φ ia σa h).bind fun y h1 => (.ok [y] h1 : Rs (List AV))).bind fun xs h1 => ofO (mkxO x f xs) h1) Θ H Q (EW W σ) := p
    cases e : evE Φ ia σa h <;> rw [e] at q <;> exact q
  refine one bdP hr sr p fun Θ1 h1 H1 y u t1 hr1 sr1 ry p1 => fun dx b n1 n2 ne => ?_
  obtain ⟨v, ev, pv⟩ := Post.ofO p1
  simp [mkxO, hf0] at ev
  subst ev
  have ta : Tr Θ1 H1 Θ1 (upd H1 dx (.xd [(mkS f, u)])) := Tr.newX n1
  have nb : (upd H1 dx (.xd [(mkS f, u)])) b = none := by rw [upd_ne (Ne.symm ne)]; exact n2
  have tb := ta.trans (Tr.newX (o := ExK (.ref D) (some dx) b) nb)
  have hr2 := (hr1.newX n1 (o := .xd [(mkS f, u)])).newX nb (o := ExK (.ref D) (some dx) b)
  exact pv Θ1 _ _ tb hr2 (.exc k.at_ upd_same (hr1.offN n2) (.inr ⟨dx, u, rfl, rfl, by rw [upd_ne ne, upd_same], hr1.offN n1⟩) (.cons (ry.mono tb) .nil))
theorem s_mkx0 (C : CO Γ N κ Φ ns Wx X) {x : List Nat} {ci : CI} {p : Pos} (hx : Γ.cls.lookup x = some ci) (hf : ci.fld = none) (gl : Gl X (mkS x)) (dbg : (mkS x == ("__debug__" : Str)) = false) :
    PE X (.Call (.Name (mkS x) p) [] [] pos) (tE Φ W (.mkx x [] .nil)) := by
  obtain ⟨D, k⟩ := C.cls _ _ hx
  obtain ⟨B, newId, initId, bmB, F, q⟩ := k.nil hf
  refine (pe_x0 F q k.mg k.kp gl dbg).wk fun σ H Q ⟨Θ, h, σa, hr, sr, p⟩ b n => ?_
  have p : Post Rep (.ok (.exc x [] []) h) Θ H Q (EW W σ) := p
  exact p Θ _ _ (Tr.newX n) (hr.newX n) (.exc k.at_ upd_same (hr.offN n) (.inl ⟨rfl, rfl⟩) .nil)
end
end EV

set_option Elab.async false
set_option linter.all false
set_option maxRecDepth 100000
set_option maxHeartbeats 2000000
namespace EV
open PySem PySem.Spec PyProof.Rows L2
variable {Γ : GEnv} {N : List Str} {κ : KX} {Φ : Fns} {ns : NK} {Wx : WX} {X : Cx}
theorem mkS_cps (x : Str) : mkS x.cps.toList = x := by
  obtain ⟨a⟩ := x
  simp [mkS]
theorem dbgX {x : Str} (h : notDbg x = true) : (x == ("__debug__" : Str)) = false := by
  unfold notDbg at h
  simp only [Bool.and_eq_true, Bool.not_eq_true'] at h
  exact h.1
theorem boot_xb : ∀ p ∈ xbB, bootBuiltins p.1 = some (.type p.2) ∧ p.1 ≠ "__name__" ∧ (p.1 == ("__debug__" : Str)) = false ∧ p.1 ∈ BN ∧ p.1 = Str.ofString p.2 := by decide +kernel
theorem pe_xb (C : CO Γ N κ Φ ns Wx X) {p : Str × String} {q : Pos} (m : p ∈ xbB) (hg : isGl ns p.1 = true) : PE X (.Name p.1 q) (tC (.ty p.2)) := by
  obtain ⟨h1, h2, h3, h4, _⟩ := boot_xb p m
  exact pe_bltn (C.gl hg) (C.blt _ h4) h1 rfl h2 h3
theorem kitAny_cls (C : CO Γ N κ Φ ns Wx X) {y : List Nat} {ci : CI} {D : Addr} (k : CK X y ci D) : ∀ bs : List (Str × String), (∀ p ∈ bs, p ∈ xbB) → PySem.W.kitAny X.K (.ref D) (bs.map fun p => Value.type p.2) = some ((bs.map (·.2)).contains ci.base)
  | [], _ => rfl
  | p :: bs, h => by
    have h1 := k.kit p (h p (List.mem_cons_self ..))
    have ih := kitAny_cls C k bs fun q m => h q (List.mem_cons_of_mem _ m)
    simp only [List.map_cons, List.contains_cons]
    refine kitAny_cons h1 (fun e => ?_) fun e => ?_
    · rw [ih]
      have : (ci.base == p.2) = false := by rw [Bool.eq_false_iff] at e ⊢; intro z; exact e (by rw [beq_iff_eq] at z ⊢; exact z.symm)
      rw [this]; rfl
    · have : (ci.base == p.2) = true := by rw [beq_iff_eq] at e ⊢; exact e.symm
      rw [this]; rfl
theorem xbs_eq : ∀ {ts : List Expr} {tys : List (String × Pos)}, xbsOf ts = some tys → ts = tys.map (fun t => .Name (Str.ofString t.1) t.2) ∧ ∀ t ∈ tys, (Str.ofString t.1, t.1) ∈ xbB
  | [], tys, h => by cases h; exact ⟨rfl, by simp⟩
  | .Name x p :: es, tys, h => by
    simp only [xbsOf] at h
    split at h
    · rename_i t us e1 e2
      cases h
      have m := PySem.mem_of_lookup e1
      have ex := (boot_xb _ m).2.2.2.2
      obtain ⟨i1, i2⟩ := xbs_eq e2
      dsimp only at ex
      subst ex
      exact ⟨by rw [i1]; rfl, fun t' m' => by
        rcases List.mem_cons.mp m' with rfl | m'
        · exact m
        · exact i2 t' m'⟩
    · cases h
theorem isx_ok (C : CO Γ N κ Φ ns Wx X) {f : Expr → Option IE} (ih : ∀ e i, f e = some i → PE X e (tE Φ (AWof X.K κ Wx) i)) (a t : Expr) (p0 p : Pos) (i : IE) (hg : isGl ns "isinstance" = true) (hn : notStar a = true) (h : cIsx Γ ns f a t = some i) :
    PE X (.Call (.Name "isinstance" p0) [a, t] [] p) (tE Φ (AWof X.K κ Wx) i) := by
  have bi : Bl X "isinstance" := C.bl hg (by decide +kernel)
  unfold cIsx at h
  split at h
  · rename_i t' q
    split at h
    · rename_i hc
      simp only [Bool.and_eq_true] at hc
      split at h
      · rename_i b _ x e1 e3
        cases h
        have m := PySem.mem_of_lookup e1
        refine s_isx bi (pe_xb C m hc.1) (.ty _) rfl hn (ih _ _ e3) (fun y my => ?_) fun y my => ?_
        · obtain ⟨ci, l, q⟩ := mem_clsBy my
          obtain ⟨D, k⟩ := C.cls y ci l
          refine ⟨D, k.at_, k.xi, ?_⟩
          rw [k.kit _ m]
          simp at q
          simp [q]
        · obtain ⟨ci, l, q⟩ := mem_clsBy my
          obtain ⟨D, k⟩ := C.cls y ci l
          refine ⟨D, k.at_, k.xi, ?_⟩
          rw [k.kit _ m]
          simp at q
          simp
          exact fun z => q z.symm
      · rename_i ci x e1 e2 e3
        cases h
        obtain ⟨D, k⟩ := C.cls _ _ e2
        have hm : X.mg t' = some (.ref D) := by rw [← mkS_cps t']; exact k.mg
        refine s_isx bi (pe_glob (C.gl hc.1) hm (v := .ref D) rfl (dbgX hc.2)) (.own D) rfl hn (ih _ _ e3) (fun y my => ?_) fun y my => ?_
        · simp only [List.mem_singleton] at my
          subst my
          exact ⟨D, k.at_, k.xi, by rw [(C.exm _ _ _ _ _ _ e2 e2 k.at_ k.at_).2]; simp⟩
        · obtain ⟨m1, m2⟩ := List.mem_filter.mp my
          obtain ⟨cy, l, _⟩ := mem_clsBy m1
          obtain ⟨Dy, ky⟩ := C.cls y cy l
          refine ⟨Dy, ky.at_, ky.xi, ?_⟩
          rw [(C.exm _ _ _ _ _ _ e2 l k.at_ ky.at_).2]
          simpa using m2
      · cases h
    · cases h
  · rename_i ts kk q
    split at h
    · rename_i tys x e1 e2
      split at h
      · rename_i hc
        simp only [Bool.and_eq_true, decide_eq_true_eq] at hc
        cases h
        obtain ⟨et, mt⟩ := xbs_eq e1
        subst et
        have pas : ∀ us : List (String × Pos), (∀ u ∈ us, u ∈ tys) → PA X (us.map fun t => .Name (Str.ofString t.1) t.2) (fun _ H Q => Q (us.map fun t => .ty t.1) H) := by
          intro us
          induction us with
          | nil => intro _; exact pa_nil
          | cons u us ihu =>
            intro hu
            have mu := hu u (List.mem_cons_self ..)
            exact (pa_cons (pe_xb C (p := (Str.ofString u.1, u.1)) (mt u mu) (List.all_eq_true.mp hc.2 u mu)) (ihu fun v mv => hu v (List.mem_cons_of_mem _ mv)) (star_of rfl)).wk fun σ H Q q => q
        have cl : ∀ us : List (String × Pos), Paired ClsV (us.map fun t => V.ty t.1) ((us.map fun t => (Str.ofString t.1, t.1)).map fun p => Value.type p.2) := by
          intro us
          induction us with
          | nil => exact .nil
          | cons u us ihu => exact .cons (.ty _) ihu
        have inx : ∀ p ∈ tys.map (fun t => (Str.ofString t.1, t.1)), p ∈ xbB := fun p m => by
          obtain ⟨u, mu, rfl⟩ := List.mem_map.mp m
          exact mt u mu
        have fst : (tys.map (fun t => (Str.ofString t.1, t.1))).map (·.2) = tys.map (·.1) := by rw [List.map_map]; rfl
        refine s_isxT bi (pas tys fun u m => m) (cl tys) (by rw [List.length_map]; exact hc.1) hn (ih _ _ e2) (fun y my => ?_) fun y my => ?_
        · obtain ⟨ci, l, q⟩ := mem_clsBy my
          obtain ⟨D, k⟩ := C.cls y ci l
          exact ⟨D, k.at_, k.xi, by rw [kitAny_cls C k _ inx, fst, q]⟩
        · obtain ⟨ci, l, q⟩ := mem_clsBy my
          obtain ⟨D, k⟩ := C.cls y ci l
          refine ⟨D, k.at_, k.xi, ?_⟩
          rw [kitAny_cls C k _ inx, fst]
          simpa using q
      · cases h
    · cases h
  · cases h
theorem mkx_ok (C : CO Γ N κ Φ ns Wx X) {f : Expr → Option IE} (ih : ∀ e i, f e = some i → PE X e (tE Φ (AWof X.K κ Wx) i)) (x : Str) (as : List Expr) (p0 p : Pos) (i : IE) (hg : isGl ns x = true) (hd : notDbg x = true) (hn : as.all notStar = true) (h : cMkx Γ f x as = some i) :
    PE X (.Call (.Name x p0) as [] p) (tE Φ (AWof X.K κ Wx) i) := by
  unfold cMkx at h
  have ex := mkS_cps x
  split at h
  · rename_i g b a e1
    split at h
    · cases h
    · rename_i hg0
      simp only [Option.map_eq_some_iff] at h
      obtain ⟨j, ej, rfl⟩ := h
      simp only [List.all_cons, List.all_nil, Bool.and_true] at hn
      have := s_mkx1 (Φ := Φ) (W := AWof X.K κ Wx) C (p := p0) (pos := p) e1 rfl (by simpa using hg0) (by rw [ex]; exact C.gl hg) (by rw [ex]; exact (dbgX hd)) hn (ih _ _ ej)
      rw [ex] at this
      exact this
  · rename_i b e1
    cases h
    have := s_mkx0 (Φ := Φ) (W := AWof X.K κ Wx) C (p := p0) (pos := p) e1 rfl (by rw [ex]; exact C.gl hg) (by rw [ex]; exact (dbgX hd))
    rw [ex] at this
    exact this
  · cases h
theorem atr_ok (C : CO Γ N κ Φ ns Wx X) {f : Expr → Option IE} (ih : ∀ e i, f e = some i → PE X e (tE Φ (AWof X.K κ Wx) i)) (o : Expr) (n : Str) (p : Pos) (i : IE) (h : cAtr Γ f o n = some i) :
    PE X (.Attribute o n p) (tE Φ (AWof X.K κ Wx) i) := by
  unfold cAtr at h
  split at h
  · rename_i hc
    split at h
    · rename_i j ej
      cases h
      refine s_atr C (mkS_cps n).symm (fun y my => ?_) (base_of hc) (ih _ _ ej)
      obtain ⟨ci, l, q⟩ := mem_clsBy my
      exact ⟨ci, l, by simpa using q⟩
    · cases h
  · cases h
end EV

set_option Elab.async false
set_option linter.all false
set_option maxRecDepth 100000
set_option maxHeartbeats 4000000
namespace EV
open PySem PySem.Spec PyProof.Rows L2
variable {K : PySem.W.Frag}

section
variable {Γ : GEnv} {N : List Str} {κ : KX} {Φ : Fns}
theorem evL_len {f : Expr → Option IE} : ∀ (es : List Expr) (s : IE), cL f es = some s → es.all notStar = true → ∀ σ h xs h1, evL Φ s σ h = .ok xs h1 → xs.length = es.length
  | [], s, e, _, σ, h, xs, h1, ev => by cases e; cases ev; rfl
  | e :: es, s, he, hn, σ, h, xs, h1, ev => by
    simp only [List.all_cons, Bool.and_eq_true] at hn
    have he' : (match f e, cL f es with
      | some x, some y => some (IE.cons x y)
      | _, _ => none) = some s := by
      cases e <;> first | exact he | cases hn.1
    cases e1 : f e with
    | none => rw [e1] at he'; simp at he'
    | some x =>
      cases e2 : cL f es with
      | none => rw [e1, e2] at he'; simp at he'
      | some y =>
        rw [e1, e2] at he'
        cases he'
        simp only [evL] at ev
        cases e3 : evE Φ x σ h with
        | ok v h2 =>
          rw [e3] at ev
          simp only [Rs.bind_ok] at ev
          cases e4 : evL Φ y σ h2 with
          | ok vs h3 =>
            rw [e4] at ev
            simp only [Rs.bind_ok] at ev
            cases ev
            simp [evL_len es y e2 hn.2 σ h2 vs h1 e4]
          | ex => rw [e4] at ev; cases ev
          | bad => rw [e4] at ev; cases ev
        | ex => rw [e3] at ev; cases ev
        | bad => rw [e3] at ev; cases ev
theorem beqS {x y : Str} (h : (x == y) = true) : x = y := beq_iff_eq.mp h
theorem ty_name {x : Str} {t : Ty} (h : tyB.lookup x = some t) : x = Str.ofString t.name := by
  unfold tyB at h
  simp only [List.lookup] at h
  repeat (split at h; · rename_i e; cases h; exact beqS e)
  cases h
theorem tys_eq : ∀ {es : List Expr} {ts : List (Ty × Pos)}, tysOf es = some ts → es = ts.map fun t => .Name (Str.ofString t.1.name) t.2
  | [], ts, h => by cases h; rfl
  | e :: es, ts, h => by
    cases e with
    | Name x p =>
      simp only [tysOf] at h
      cases e1 : tyB.lookup x with
      | none => rw [e1] at h; simp at h
      | some t =>
        cases e2 : tysOf es with
        | none => rw [e1, e2] at h; simp at h
        | some us =>
          rw [e1, e2] at h
          cases h
          rw [ty_name e1, tys_eq e2]
          rfl
    | _ => simp [tysOf] at h
theorem ty_in (t : Ty) : Str.ofString t.name ∈ BN := by
  cases t <;> decide +kernel
/-- the built-in functions -/
theorem bfB_ok {X : Cx} (g : CG X) {x : Str} {b : Bf} {id : String} (h : bfB.lookup x = some (b, id)) : CallR X (.builtin id) (rVn X.K fun h as => bfO h b as) ∧ bootBuiltins x = some (.builtin id) ∧ x ∈ BN ∧ x ≠ "__name__" ∧ (x == ("__debug__" : Str)) = false := by
  unfold bfB at h
  simp only [List.lookup] at h
  split at h
  · rename_i e; cases h; rw [beqS e]; exact ⟨vb_len, by decide +kernel, by decide +kernel, by decide +kernel, by decide +kernel⟩
  split at h
  · rename_i e; cases h; rw [beqS e]; exact ⟨vb_abs, by decide +kernel, by decide +kernel, by decide +kernel, by decide +kernel⟩
  split at h
  · rename_i e; cases h; rw [beqS e]; exact ⟨vb_min g.calm, by decide +kernel, by decide +kernel, by decide +kernel, by decide +kernel⟩
  split at h
  · rename_i e; cases h; rw [beqS e]; exact ⟨vb_max g.calm, by decide +kernel, by decide +kernel, by decide +kernel, by decide +kernel⟩
  split at h
  · rename_i e; cases h; rw [beqS e]; exact ⟨vb_sum g.calm, by decide +kernel, by decide +kernel, by decide +kernel, by decide +kernel⟩
  split at h
  · rename_i e; cases h; rw [beqS e]; exact ⟨vb_all g.calm, by decide +kernel, by decide +kernel, by decide +kernel, by decide +kernel⟩
  split at h
  · rename_i e; cases h; rw [beqS e]; exact ⟨vb_any g.calm, by decide +kernel, by decide +kernel, by decide +kernel, by decide +kernel⟩
  split at h
  · rename_i e; cases h; rw [beqS e]; exact ⟨vb_sorted g.un, by decide +kernel, by decide +kernel, by decide +kernel, by decide +kernel⟩
  cases h
theorem bfT_ok {X : Cx} (g : CG X) {x : Str} {b : Bf} {id : String} (h : bfT.lookup x = some (b, id)) : CallR X (.type id) (rVn X.K fun h as => bfO h b as) ∧ bootBuiltins x = some (.type id) ∧ x ∈ BN ∧ x ≠ "__name__" ∧ (x == ("__debug__" : Str)) = false := by
  unfold bfT at h
  simp only [List.lookup] at h
  split at h
  · rename_i e; cases h; rw [beqS e]; exact ⟨vb_tuple g.calm, by decide +kernel, by decide +kernel, by decide +kernel, by decide +kernel⟩
  split at h
  · rename_i e; cases h; rw [beqS e]; exact ⟨vb_list, by decide +kernel, by decide +kernel, by decide +kernel, by decide +kernel⟩
  split at h
  · rename_i e; cases h; rw [beqS e]; exact ⟨vb_int, by decide +kernel, by decide +kernel, by decide +kernel, by decide +kernel⟩
  cases h
theorem dbg {x : Str} (h : notDbg x = true) : (x == ("__debug__" : Str)) = false ∧ (x == ("__classdict__" : Str)) = false := by
  unfold notDbg at h
  simp only [Bool.and_eq_true, Bool.not_eq_true'] at h
  exact h

def isCmp : Expr → Bool
  | .Compare .. => true
  | _ => false
/-- one more level -/
structure Snd (Γ : GEnv) (N : List Str) (κ : KX) (Φ : Fns) (n : Nat) : Prop where
  E : ∀ (ns : NK) (Wx : WX) (X : Cx), CO Γ N κ Φ ns Wx X → ∀ e i, cE Γ N n ns e = some i → PE X e (tE Φ (AWof X.K κ Wx) i)
  F : ∀ (ns : NK) (Wx : WX) (X : Cx), CO Γ N κ Φ ns Wx X → ∀ e i, cF Γ N n ns e = some i → PE X e (tF Φ (AWof X.K κ Wx) i)
  T : ∀ (ns : NK) (Wx : WX) (X : Cx), CO Γ N κ Φ ns Wx X → ∀ e i, cT Γ N n ns e = some i → PT X e (tT Φ (AWof X.K κ Wx) i)
  I : ∀ (ns : NK) (Wx : WX) (X : Cx), CO Γ N κ Φ ns Wx X → ∀ tg e i, cI Γ N n ns tg e = some i → PI X tg e (tI Φ (AWof X.K κ Wx) i)
  C : ∀ (ns : NK) (Wx : WX) (X : Cx), CO Γ N κ Φ ns Wx X → ∀ e i, isCmp e = true → cE Γ N n ns e = some i → PT X e (tT Φ (AWof X.K κ Wx) (.tst i))
theorem snd_T {n : Nat} (ih : Snd Γ N κ Φ n) (ns : NK) (Wx : WX) (X : Cx) (C : CO Γ N κ Φ ns Wx X) (e : Expr) (i : IE) (h : cT Γ N (n + 1) ns e = some i) : PT X e (tT Φ (AWof X.K κ Wx) i) := by
  have plain : (∀ whole, isTrue e X.env whole = (do let v ← whole; standAt e.pos; holding [v] (truthy v))) → (cE Γ N n ns e).map IE.tst = some i → PT X e (tT Φ (AWof X.K κ Wx) i) := fun hw h => by
    simp only [Option.map_eq_some_iff] at h
    obtain ⟨x, ex, rfl⟩ := h
    exact t_plain (ih.E ns Wx X C e x ex) hw
  cases e with
  | UnaryOp op a p =>
    cases op with
    | Not =>
      simp only [cT, Option.map_eq_some_iff] at h
      obtain ⟨x, ex, rfl⟩ := h
      exact t_not (ih.T ns Wx X C a x ex)
    | _ => simp [cT] at h
  | BoolOp op vs p =>
    cases op with
    | And => exact (cB_andT (fun e i he => ih.T ns Wx X C e i he) p vs i (by simpa only [cT] using h)).pt
    | Or => exact (cB_orT (fun e i he => ih.T ns Wx X C e i he) p vs i (by simpa only [cT] using h)).pt
  | Name x p => exact plain (fun _ => rfl) (by simpa only [cT] using h)
  | Call f a k p => exact plain (fun _ => rfl) (by simpa only [cT] using h)
  | Subscript a s p => exact plain (fun _ => rfl) (by simpa only [cT] using h)
  | Constant c k p => exact plain (fun _ => rfl) (by simpa only [cT] using h)
  | Compare a ops bs p =>
    simp only [cT, Option.map_eq_some_iff] at h
    obtain ⟨x, ex, rfl⟩ := h
    exact ih.C ns Wx X C _ x rfl ex
  | _ => simp [cT] at h
theorem snd_I {n : Nat} (ih : Snd Γ N κ Φ n) (ns : NK) (Wx : WX) (X : Cx) (C : CO Γ N κ Φ ns Wx X) (tg e : Expr) (i : IE) (h : cI Γ N (n + 1) ns tg e = some i) : PI X tg e (tI Φ (AWof X.K κ Wx) i) := by
  have plain : (cE Γ N n ns e).map IE.iPl = some i → PI X tg e (tI Φ (AWof X.K κ Wx) i) := fun h => by
    simp only [Option.map_eq_some_iff] at h
    obtain ⟨x, ex, rfl⟩ := h
    exact i_plain (ih.E ns Wx X C e x ex)
  unfold cI at h
  split at h
  · rename_i f p0 a p
    split at h
    · rename_i hc
      simp only [Bool.and_eq_true] at hc
      simp only [Option.map_eq_some_iff] at h
      obtain ⟨x, ex, rfl⟩ := h
      have hf := beqS hc.1.1
      subst hf
      exact i_range1 (C.bl hc.1.2 (by decide +kernel)) hc.2 (cL_ok (fun e i he => ih.E ns Wx X C e i he) _ _ ex)
    · split at h
      · rename_i hc
        simp only [Bool.and_eq_true] at hc
        simp only [Option.map_eq_some_iff] at h
        obtain ⟨x, ex, rfl⟩ := h
        have hf := beqS hc.1.1.1
        subst hf
        cases tg with
        | Tuple es k q => exact i_enum (C.bl hc.1.1.2 (by decide +kernel)) hc.1.2 (cL_ok (fun e i he => ih.E ns Wx X C e i he) _ _ ex)
        | _ => cases hc.2
      · exact plain h
  · rename_i f p0 a b p
    split at h
    · rename_i hc
      simp only [Bool.and_eq_true] at hc
      simp only [Option.map_eq_some_iff] at h
      obtain ⟨x, ex, rfl⟩ := h
      have hf := beqS hc.1.1.1
      subst hf
      exact i_range2 (C.bl hc.1.1.2 (by decide +kernel)) hc.1.2 hc.2 (cL_ok (fun e i he => ih.E ns Wx X C e i he) _ _ ex)
    · split at h
      · rename_i hc
        simp only [Bool.and_eq_true] at hc
        simp only [Option.map_eq_some_iff] at h
        obtain ⟨x, ex, rfl⟩ := h
        have hf := beqS hc.1.1.1.1
        subst hf
        cases tg with
        | Tuple es k q => exact i_zip (C.bl hc.1.1.1.2 (by decide +kernel)) hc.1.1.2 hc.1.2 (cL_ok (fun e i he => ih.E ns Wx X C e i he) _ _ ex)
        | _ => cases hc.2
      · exact plain h
  · exact plain h
/-- the parts of a comprehension -/
theorem comp_inv {n : Nat} (ih : Snd Γ N κ Φ n) (ns : NK) (Wx : WX) (X : Cx) (C : CO Γ N κ Φ ns Wx X) (elt tg iter : Expr) (ifs : List Expr) (scope : Scope) (p : Pos) (i : IE)
    (h : (if blkC N ⟨.function, ns, false, false, []⟩ scope (ownOf N scope.names) && notSetE iter then
        match cI Γ N n ns tg iter, cG N (relN ns scope.names) (okCell scope.names) n tg, cIf (cT Γ N n (relN ns scope.names)) ifs, cE Γ N n (relN ns scope.names) elt with
        | some i, some g, some c, some e => if (tgs g).all (fun v => decide (v ∈ (ownOf N scope.names).map (·.2))) then some (.comp ((ownOf N scope.names).map (·.2)) g i c e) else none
        | _, _, _, _ => none
      else none) = some i) :
    ∃ (own : List (Str × Nat)) (g : Tg) (j c e : IE), i = .comp (own.map (·.2)) g j c e ∧ PI X tg iter (tI Φ (AWof X.K κ Wx) j) ∧ BlkOk X.N X.env.scope scope own ∧
      (∀ (s : Shared) (H : Hp) (C : Addr) (cl : List (Str × Addr)) (fp : List Addr), PG (X.blk s H scope (compEnvC scope cl C X.env) fp) tg (tG X.K g)) ∧
      (∀ (s : Shared) (H : Hp) (C : Addr) (cl : List (Str × Addr)) (fp : List Addr), PTs (X.blk s H scope (compEnvC scope cl C X.env) fp) ifs (tT Φ (W0 X.K) c)) ∧
      (∀ (s : Shared) (H : Hp) (C : Addr) (cl : List (Str × Addr)) (fp : List Addr), PE (X.blk s H scope (compEnvC scope cl C X.env) fp) elt (tE Φ (W0 X.K) e)) ∧ (∀ x, foldedSetIterable iter X.env x = pure x) ∧ ∀ v ∈ tgs g, v ∈ own.map (·.2) := by
  split at h
  · rename_i hc
    simp only [Bool.and_eq_true] at hc
    cases e1 : cI Γ N n ns tg iter with
    | none => rw [e1] at h; simp at h
    | some j =>
      cases e2 : cG N (relN ns scope.names) (okCell scope.names) n tg with
      | none => rw [e1, e2] at h; simp at h
      | some g =>
        cases e3 : cIf (cT Γ N n (relN ns scope.names)) ifs with
        | none => rw [e1, e2, e3] at h; simp at h
        | some c =>
          cases e4 : cE Γ N n (relN ns scope.names) elt with
          | none => rw [e1, e2, e3, e4] at h; simp at h
          | some e =>
            rw [e1, e2, e3, e4] at h
            dsimp only at h
            split at h
            · rename_i ho
              cases h
              have bk : BlkOk X.N X.env.scope scope (ownOf N scope.names) := by
                have q := blkOk_by hc.1
                rw [C.hN]
                refine ⟨q.kind, q.uniq, q.ix, fun y hy e => ?_, q.own⟩
                have := q.free y hy e
                rw [C.hns]
                exact this
              have blkC' := fun (s : Shared) (H : Hp) (c : Addr) (cl : List (Str × Addr)) (fp : List Addr) => C.blk (s := s) (H := H) (cl := cl) (c := c) (fp := fp) bk.kind
              refine ⟨ownOf N scope.names, g, j, c, e, rfl, ih.I ns Wx X C tg iter j e1, bk, fun s H c cl fp => (cG_ok (blkC' s H c cl fp) (fun x hx => hx) n tg g e2).1, fun s H c cl fp => ?_,
                fun s H c cl fp => wk0 (ih.E _ _ _ (blkC' s H c cl fp) elt e e4), fun x => ?_, fun v hv => of_decide_eq_true (List.all_eq_true.mp ho v hv)⟩
              · unfold cIf at e3
                split at e3
                · cases e3
                  exact ⟨fun pins s σ H Q I q => pts_nil.run pins s σ H Q I (by obtain ⟨Θ, h, σa, hr, sr, p⟩ := q; exact p Θ H true Tr.refl hr rfl)⟩
                · exact pts_one (wk0T (ih.T _ _ _ (blkC' s H c cl fp) _ _ e3))
                · cases e3
              · cases iter <;> first | rfl | cases hc.2
            · cases h
  · cases h
theorem snd_F {n : Nat} (ih : Snd Γ N κ Φ n) (ns : NK) (Wx : WX) (X : Cx) (C : CO Γ N κ Φ ns Wx X) (e : Expr) (i : IE) (h : cF Γ N (n + 1) ns e = some i) : PE X e (tF Φ (AWof X.K κ Wx) i) := by
  have ihE := fun e i he => ih.E ns Wx X C e i he
  unfold cF at h
  split at h
  · -- BinOp
    rename_i a op b p
    cases e1 : opOf op with
    | none => rw [e1] at h; simp at h
    | some o =>
      cases e2 : cE Γ N n ns a with
      | none => rw [e1, e2] at h; simp at h
      | some x =>
        cases e3 : cE Γ N n ns b with
        | none => rw [e1, e2, e3] at h; simp at h
        | some y => rw [e1, e2, e3] at h; cases h; exact s_bin e1 (ihE _ _ e2) (ihE _ _ e3)
  · -- List
    simp only [Option.map_eq_some_iff] at h
    obtain ⟨x, ex, rfl⟩ := h
    exact s_lst (cL_ok ihE _ _ ex)
  · -- or
    split at h
    · rename_i x y e1 e2
      cases h
      exact f_or (ih.F ns Wx X C _ _ e1) (ih.F ns Wx X C _ _ e2)
    · cases h
  · -- slice
    rename_i a lo hi p1 p2
    cases e1 : cE Γ N n ns a with
    | none => rw [e1] at h; simp at h
    | some x =>
      cases e2 : cO (cE Γ N n ns) lo with
      | none => rw [e1, e2] at h; simp at h
      | some y =>
        cases e3 : cO (cE Γ N n ns) hi with
        | none => rw [e1, e2, e3] at h; simp at h
        | some z => rw [e1, e2, e3] at h; cases h; exact s_slc (ihE _ _ e1) (cO_ok ihE _ _ e2) (cO_ok ihE _ _ e3)
  · -- rev
    split at h
    · rename_i hi
      subst hi
      simp only [Option.map_eq_some_iff] at h
      obtain ⟨x, ex, rfl⟩ := h
      exact s_rev (ihE _ _ ex)
    · cases h
  · -- built-in
    rename_i f p0 a as p
    split at h
    · rename_i hc
      simp only [Bool.and_eq_true, List.all_cons] at hc
      cases e3 : cL (cE Γ N n ns) (a :: as) with
      | none =>
        rw [e3] at h
        cases e1 : bfB.lookup f with
        | none => rw [e1] at h; cases e2 : bfT.lookup f <;> rw [e2] at h <;> simp at h
        | some b => rw [e1] at h; simp at h
      | some s =>
        rw [e3] at h
        cases e1 : bfB.lookup f with
        | some b =>
          rw [e1] at h
          obtain ⟨b, id⟩ := b
          cases h
          obtain ⟨h1, h2, h3, h4, h5⟩ := bfB_ok C.cg e1
          exact s_bltB h1 (C.bl hc.1 h3) h2 (cL_ok ihE _ _ e3) h4 h5 hc.2.1 hc.2.2
        | none =>
          rw [e1] at h
          cases e2 : bfT.lookup f with
          | none => rw [e2] at h; simp at h
          | some b =>
            rw [e2] at h
            obtain ⟨b, id⟩ := b
            cases h
            obtain ⟨h1, h2, h3, h4, h5⟩ := bfT_ok (X := X) C.cg e2
            exact s_bltT h1 (C.bl hc.1 h3) h2 (cL_ok ihE _ _ e3) h4 h5 hc.2.1 hc.2.2
    · cases h
  · -- comprehension
    rename_i elt tg iter ifs scope p
    obtain ⟨own, g, j, c, e, rfl, hi, bk, hg, ht, he, hs, hown⟩ := comp_inv ih ns Wx X C elt tg iter ifs scope p i h
    exact (pe_lc (g := tG X.K g) (tt := tT Φ (W0 X.K) c) (te := tE Φ (W0 X.K) e) C.cg.calm C.cg.nd hi bk hg ht he hs).wk fun σ H Q ⟨Θ, h, σa, hr, sr, p⟩ => comp_reads hr sr hown p
  · cases h
section
variable {ns : NK} {Wx : WX} {X : Cx}
/-- a comparison -/
theorem cmp_ok (C : CO Γ N κ Φ ns Wx X) {f : Expr → Option IE} (ih : ∀ e i, f e = some i → PE X e (tE Φ (AWof X.K κ Wx) i)) (a : Expr) (ops : List CmpOp) (bs : List Expr) (p : Pos) (i : IE) (h : cCmp f a ops bs = some i) :
    PE X (.Compare a ops bs p) (tE Φ (AWof X.K κ Wx) i) ∧ PT X (.Compare a ops bs p) (tT Φ (AWof X.K κ Wx) (.tst i)) := by
  unfold cCmp at h
  split at h
  · simp only [Option.map_eq_some_iff] at h
    obtain ⟨x, ex, rfl⟩ := h
    exact ⟨s_isn (ih _ _ ex), s_isnT (ih _ _ ex)⟩
  · simp only [Option.map_eq_some_iff] at h
    obtain ⟨x, ex, rfl⟩ := h
    exact ⟨s_ntn (ih _ _ ex), s_ntnT (ih _ _ ex)⟩
  · rename_i op b _ _
    split at h
    · rename_i o x y e1 e2 e3 e4
      cases h
      exact ⟨s_cmp C.cg e1 e2 (ih _ _ e3) (ih _ _ e4), s_cmpT C.cg e1 e2 (ih _ _ e3) (ih _ _ e4)⟩
    · cases h
  · split at h
    · rename_i o o' x y z e1 e2 e3 e4 e5 e6
      cases h
      exact ⟨s_chn C.cg e1 e2 e3 (ih _ _ e4) (ih _ _ e5) (ih _ _ e6), s_chnT C.cg e1 e2 e3 (ih _ _ e4) (ih _ _ e5) (ih _ _ e6)⟩
    · cases h
  · cases h
theorem isi_ok (C : CO Γ N κ Φ ns Wx X) {f : Expr → Option IE} (ih : ∀ e i, f e = some i → PE X e (tE Φ (AWof X.K κ Wx) i)) (a t : Expr) (p0 p : Pos) (i : IE) (hg : isGl ns "isinstance" = true) (hn : notStar a = true) (h : cIsi ns f a t = some i) :
    PE X (.Call (.Name "isinstance" p0) [a, t] [] p) (tE Φ (AWof X.K κ Wx) i) := by
  have bi : Bl X "isinstance" := C.bl hg (by decide +kernel)
  unfold cIsi at h
  split at h
  · split at h
    · rename_i ty x e1 e2
      split at h
      · rename_i hgl
        cases h
        have := ty_name e1
        subst this
        exact s_isi bi (C.bl hgl (ty_in _)) hn (ih _ _ e2)
      · cases h
    · cases h
  · split at h
    · rename_i tys x e1 e2
      split at h
      · rename_i hgl
        simp only [Bool.and_eq_true, decide_eq_true_eq] at hgl
        cases h
        have := tys_eq e1
        subst this
        exact s_isiT bi (fun t ht => C.bl (List.all_eq_true.mp hgl.2 t ht) (ty_in _)) hgl.1 hn (ih _ _ e2)
      · cases h
    · cases h
  · cases h
theorem mk_of_both {e : Expr} {c : Nat} {s : IE} {W : AW X.K} {rm : Bool} (h : PE X e (tE Φ W (.call c s)) ∧ PE X e (tE Φ W (.callM c s))) : PE X e (tE Φ W (mkCall rm c s)) := by
  cases rm with
  | false => exact h.1
  | true => exact h.2
theorem own_ok (C : CO Γ N κ Φ ns Wx X) {f : Expr → Option IE} (ih : ∀ e i, f e = some i → PE X e (tE Φ (AWof X.K κ Wx) i)) (x : Str) (as : List Expr) (p0 p : Pos) (s : IE) (fi : FI) (hg : isGl ns x = true) (hd : notDbg x = true) (hn : as.all notStar = true)
    (e1 : Γ.fns.lookup x = some fi) (e2 : cL f as = some s) (e3 : fi.ps.length = as.length) : PE X (.Call (.Name x p0) as [] p) (tE Φ (AWof X.K κ Wx) (.call (code x) s)) ∧ PE X (.Call (.Name x p0) as [] p) (tE Φ (AWof X.K κ Wx) (.callM (code x) s)) := by
  obtain ⟨k, fa, fd, F, hr, hm, hk, hb, _⟩ := C.fns x fi e1
  have hx : ∀ σ, PassesAt (L2.CX X.prog X.w) X σ (WE Wx σ) := C.px
  have base : PE X (.Call (.Name x p0) as [] p) (tCallSD (spF X.K κ Φ (code x) fi.ps.length) [] (WE Wx) (tL Φ (AWof X.K κ Wx) s)) := by
    cases as with
    | nil =>
      cases e2
      refine ⟨fun pins s σ H Q I h => ?_⟩
      refine wpAny_Call_Name_kw (ld_glob I (C.gl hg) hm ?_ (dbg hd).1)
      refine PySem.W.callWith_K0 I.kIn hk ?_
      obtain ⟨Θ, h0, σa, hr0, sr0, q⟩ := h
      exact run_fnSD (us := []) F hr hb .nil (hx σ) I .nil (q Θ H [] Tr.refl hr0 .nil)
    | cons a as =>
      simp only [List.all_cons, Bool.and_eq_true] at hn
      exact pe_callSD F hr (C.gl hg) hm hk hb .nil hx (cL_ok ih _ _ e2) (dbg hd).1 (star_of hn.1) (noStar_of hn.2 _ _)
  refine ⟨base.wk fun σ H Q ⟨Θ, h, σa, hr, sr, q⟩ => ?_, base.wk fun σ H Q ⟨Θ, h, σa, hr, sr, q⟩ => ?_⟩
  · exact call_reads hr sr (fun xs h1 e => by rw [e3]; exact evL_len as s e2 hn _ _ _ _ e) shut (fun h1 h2 h3 h4 h5 => shut_ok h1 h2 h3 h4 h5) q
  · exact call_reads hr sr (fun xs h1 e => by rw [e3]; exact evL_len as s e2 hn _ _ _ _ e) shutM (fun h1 h2 h3 h4 h5 => shutM_ok h1 h2 h3 h4 h5) q
theorem mth_ok (C : CO Γ N κ Φ ns Wx X) {f : Expr → Option IE} (ih : ∀ e i, f e = some i → PE X e (tE Φ (AWof X.K κ Wx) i)) (o : Expr) (m : Str) (apos p : Pos) (as : List Expr) (i : IE) (h : cMth f o m apos p as = some i) :
    PE X (.Call (.Attribute o m apos) as [] p) (tE Φ (AWof X.K κ Wx) i) := by
  unfold cMth at h
  split at h
  · split at h
    · rename_i hc
      simp only [Bool.and_eq_true] at hc
      simp only [Option.map_eq_some_iff] at h
      obtain ⟨x, ex, rfl⟩ := h
      have := beqS hc.1.1
      subst this
      exact s_pop hc.1.2 hc.2 (ih _ _ ex)
    · cases h
  · rename_i a
    split at h
    · rename_i hc
      simp only [Bool.and_eq_true] at hc
      split at h
      · rename_i x y e1 e2
        have pa : PA X [a] (tL Φ (AWof X.K κ Wx) (.cons y .nil)) := l_cons hc.1.2 (ih _ _ e2) l_nil
        split at h
        · rename_i hm
          cases h
          have := beqS hm
          subst this
          exact s_app hc.1.1 hc.1.2 hc.2 (ih _ _ e1) pa
        · split at h
          · rename_i hm
            cases h
            have := beqS hm
            subst this
            exact s_ext hc.1.1 hc.1.2 hc.2 (ih _ _ e1) pa
          · split at h
            · rename_i hm
              cases h
              have := beqS hm
              subst this
              exact s_popA hc.1.1 hc.1.2 hc.2 (ih _ _ e1) pa
            · split at h
              · rename_i hm
                cases h
                have := beqS hm
                subst this
                exact s_mth (m := .count) C.cg.un hc.1.1 hc.1.2 hc.2 (ih _ _ e1) pa
              · split at h
                · rename_i hm
                  cases h
                  have := beqS hm
                  subst this
                  exact s_mth (m := .index) C.cg.un hc.1.1 hc.1.2 hc.2 (ih _ _ e1) pa
                · cases h
      · cases h
    · cases h
  · cases h
theorem Rs.bind_assoc {α β γ : Type} (r : Rs α) (f : α → AH → Rs β) (g : β → AH → Rs γ) : (r.bind f).bind g = r.bind fun a h => (f a h).bind g := by cases r <;> rfl
theorem evL_ap {f : Expr → Option IE} {t : IE} : ∀ (as : List Expr) (s : IE), cL f as = some s → as.all notStar = true → ∀ σ h, evL Φ (apS s t) σ h = (evL Φ s σ h).bind fun xs h1 => (evL Φ t σ h1).bind fun ys h2 => .ok (xs ++ ys) h2
  | [], s, e, _, σ, h => by
    cases e
    show evL Φ t σ h = ((evL Φ t σ h).bind fun ys h2 => .ok ys h2)
    cases evL Φ t σ h <;> rfl
  | e :: es, s, he, hn, σ, h => by
    simp only [List.all_cons, Bool.and_eq_true] at hn
    have he' : (match f e, cL f es with
      | some x, some y => some (IE.cons x y)
      | _, _ => none) = some s := by
      have hn1 := hn.1
      cases e <;> first | exact he | cases hn1
    cases e1 : f e with
    | none => rw [e1] at he'; simp at he'
    | some x =>
      cases e2 : cL f es with
      | none => rw [e1, e2] at he'; simp at he'
      | some y =>
        rw [e1, e2] at he'
        cases he'
        simp only [apS, evL, Rs.bind_assoc]
        congr 1
        funext v h1
        rw [evL_ap es y e2 hn.2 σ h1, Rs.bind_assoc]
        congr 1
        funext xs h2
        rw [Rs.bind_assoc]
        simp only [Rs.bind_ok, Rs.bind_assoc]
        congr 1
/-- keywords' values -/
theorem _root_.L2.PK.wk {X : Cx} {kws : List Keyword} {t t' : TA} (h : PK X kws t) (f : ∀ σ H Q, t' σ H Q → t σ H Q) : PK X kws t' := ⟨fun pos pins s σ H Q I q => h.run pos pins s σ H Q I (f _ _ _ q)⟩
theorem pk_ok {W : AW X.K} {f : Expr → Option IE} (ih : ∀ e i, f e = some i → PE X e (tE Φ W i)) : ∀ (kws : List Keyword) (s : IE), cL f (kws.map (·.value)) = some s → (kws.map (·.value)).all notStar = true → PK X kws (tL Φ W s)
  | [], s, h, _ => by cases h; exact pk_nil.wk fun σ H Q ⟨Θ, h, σa, hr, sr, p⟩ => postE_ok p hr .nil
  | ⟨nm, e, kp⟩ :: kws, s, h, hn => by
    simp only [List.map_cons, List.all_cons, Bool.and_eq_true] at hn
    have h' : (match f e, cL f (kws.map (·.value)) with
      | some x, some y => some (IE.cons x y)
      | _, _ => none) = some s := by
      have hn1 := hn.1
      cases e <;> first | exact h | cases hn1
    cases e1 : f e with
    | none => rw [e1] at h'; simp at h'
    | some x =>
      cases e2 : cL f (kws.map (·.value)) with
      | none => rw [e1, e2] at h'; simp at h'
      | some y =>
        rw [e1, e2] at h'
        cases h'
        exact (pk_cons (ih e x e1) (pk_ok ih kws y e2 hn.2)).wk fun σ H Q ⟨Θ, h, σa, hr, sr, p⟩ => one bdP hr sr p fun Θ1 h1 H1 x u _ hr1 sr1 rx p1 =>
          oneL bdP hr1 sr1 p1 fun Θ2 h2 H2 xs us t2 hr2 _ rxs p2 => postE_ok p2 hr2 (.cons (rx.mono t2) rxs)
def tCallSK (sp : Sp) (n : Nat) (E : L2.St → XK) (t tk : TA) : TE := fun σ H Q => t σ H fun vs H1 => tk σ H1 fun zs H2 => vs.length = n ∧ sp (vs ++ zs) H2 Q (E σ)
theorem kwE_of : ∀ {kws : List Keyword} {env : Env} {pos : Pos} {ks : List Str}, kws.map (·.arg) = ks.map some → (backToKw pos (keywordEach kws env)).all (·.1.isSome) = true ∧ (backToKw pos (keywordEach kws env)).filterMap (·.1) = ks ∧ (backToKw pos (keywordEach kws env)).any (·.1.isNone) = false
  | [], env, pos, ks, e => by cases ks with
    | nil => exact ⟨rfl, rfl, rfl⟩
    | cons _ _ => cases e
  | ⟨nm, v, kp⟩ :: kws, env, pos, ks, e => by cases ks with
    | nil => cases e
    | cons k ks =>
      simp only [List.map_cons, List.cons.injEq] at e
      obtain ⟨rfl, e⟩ := e
      obtain ⟨h1, h2, h3⟩ := kwE_of (env := env) (pos := pos) e
      refine ⟨?_, ?_, ?_⟩
      · show (true && _) = true
        rw [Bool.true_and]; exact h1
      · show k :: _ = _
        rw [← h2]; rfl
      · show (false || _) = false
        rw [Bool.false_or]; exact h3
theorem callK_reads {f : Expr → Option IE} {x : Str} {np : Nat} {σ : L2.St} {H : Hp} {Q : VK} {Θ : Th X.K} {h : AH} {σa : ASt} (hr : HR Θ h H) (sr : SR Θ H σa σ) (as : List Expr) (s t : IE) (e2 : cL f as = some s) (hn : as.all notStar = true) (hlen : ∀ ys σ h h1, evL Φ t σ h = .ok ys h1 → np = as.length + ys.length)
    (sh : Nat → AV → AH → Rs AV) (hsh : ∀ {Θ1 Θ2 : Th X.K} {H1 H2 : Hp} {h1 h2 : AH} {v : AV} {x : V} {Q : VK} {E : XW X.K}, HR Θ1 h1 H1 → Tr Θ1 H1 Θ2 H2 → HR Θ2 h2 H2 → Rep Θ2 H2 v x → Post Rep (sh h1.length v h2) Θ1 H1 Q E → Q x H2)
    (p : Post Rep ((evL Φ (apS s t) σa h).bind fun xs h1 => (Φ (code x) xs h1).bind fun v h2 => sh h1.length v h2) Θ H Q (EW (AWof X.K κ Wx) σ)) :
    tCallSK (spF X.K κ Φ (code x) np) as.length (WE Wx) (tL Φ (AWof X.K κ Wx) s) (tL Φ (AWof X.K κ Wx) t) σ H Q := by
  rw [evL_ap as s e2 hn, Rs.bind_assoc] at p
  refine ⟨Θ, h, σa, hr, sr, (Post.bind (R := RepL) p).imp fun us H1 ⟨Θ1, h1, xs, t1, hr1, rx, e, p1⟩ => ?_⟩
  rw [Rs.bind_assoc] at p1
  refine ⟨Θ1, h1, σa, hr1, sr.mono t1, (Post.bind (R := RepL) p1).imp fun ws H2 ⟨Θ2, h2, ys, t2, hr2, ry, e', p2⟩ => ?_⟩
  have l1 : xs.length = as.length := evL_len as s e2 hn _ _ _ _ e
  refine ⟨by rw [← rx.length]; exact l1, ?_, Θ2, h2, xs ++ ys, hr2, (rx.mono t2).append ry, ?_⟩
  · rw [List.length_append, ← rx.length, ← ry.length, l1]; exact (hlen _ _ _ _ e').symm
  · simp only [Rs.bind_ok] at p2
    have q := Post.bind (R := Rep) p2
    cases e3 : Φ (code x) (xs ++ ys) h2 with
    | bad => rw [e3] at q; exact q
    | ex c as h2 => rw [e3] at p2; exact p2
    | ok v h3 =>
      rw [e3] at p2
      exact fun Θ3 H3 y t hr3 r => hsh hr2 t hr3 r p2
/-- a relation of the members is one of the permuted -/
theorem mapO_rel {α β : Type} {R : α → β → Prop} {xs : List α} {us : List β} (g : ∀ (i : Nat) x, xs[i]? = some x → ∃ u, us[i]? = some u ∧ R x u) : ∀ (pi : List Nat) (as : List α), mapO (fun i => xs[i]?) pi = some as → ∃ vs, mapO (fun i => us[i]?) pi = some vs ∧ Paired R as vs
  | [], as, e => by cases e; exact ⟨[], rfl, .nil⟩
  | i :: pi, as, e => by
    simp only [mapO] at e
    cases e1 : xs[i]? with
    | none => rw [e1] at e; simp at e
    | some x =>
      cases e2 : mapO (fun i => xs[i]?) pi with
      | none => rw [e1, e2] at e; simp at e
      | some as' =>
        rw [e1, e2] at e
        simp at e
        subst e
        obtain ⟨u, h1, h2⟩ := g i x e1
        obtain ⟨vs, h3, h4⟩ := mapO_rel g pi as' e2
        exact ⟨u :: vs, by simp only [mapO]; rw [h1, h3], .cons h2 h4⟩
theorem vals_get {vs : List V} {us : List Value} (r : Vals vs us) : ∀ (i : Nat) x, vs[i]? = some x → ∃ u, us[i]? = some u ∧ RelV x u := by
  induction r with
  | nil => intro i x e; simp at e
  | cons h _ ih =>
    intro i x e
    cases i with
    | zero => simp at e; subst e; exact ⟨_, rfl, h⟩
    | succ i => simpa using ih i x (by simpa using e)
theorem paired_vals {vs : List V} {us : List Value} (r : Paired RelV vs us) : Vals vs us := by
  induction r with
  | nil => exact .nil
  | cons h _ ih => exact .cons h ih
theorem paired_rep {Θ : Th K} {H : Hp} {vs : List AV} {us : List V} (r : Paired (Rep Θ H) vs us) : RepL Θ H vs us := by
  induction r with
  | nil => exact .nil
  | cons h _ ih => exact .cons h ih
theorem mapO_length {α β : Type} {f : α → Option β} : ∀ {l : List α} {r : List β}, mapO f l = some r → r.length = l.length
  | [], r, e => by cases e; rfl
  | a :: l, r, e => by
    simp only [mapO] at e
    cases e1 : f a with
    | none => rw [e1] at e; simp at e
    | some x =>
      cases e2 : mapO f l with
      | none => rw [e1, e2] at e; simp at e
      | some y => rw [e1, e2] at e; simp at e; subst e; simp [mapO_length e2]
def spP (pi : List Nat) (sp : Sp) : Sp := fun vs H Q E => ∃ zs, permG pi vs = some zs ∧ sp zs H Q E
def tCallSP (sp : Sp) (n nk : Nat) (E : L2.St → XK) (t tk : TA) : TE := fun σ H Q => t σ H fun vs H1 => tk σ H1 fun zs H2 => (vs.length = n ∧ zs.length = nk) ∧ sp (vs ++ zs) H2 Q (E σ)
theorem callP_reads {f : Expr → Option IE} {x : Str} {np : Nat} {pi : List Nat} {σ : L2.St} {H : Hp} {Q : VK} {Θ : Th X.K} {h : AH} {σa : ASt} (hr : HR Θ h H) (sr : SR Θ H σa σ) (as : List Expr) (s t : IE) (e2 : cL f as = some s) (hn : as.all notStar = true) (hpi : pi.length = np) {nk : Nat} (hlen : ∀ ys σ h h1, evL Φ t σ h = .ok ys h1 → ys.length = nk)
    (sh : Nat → AV → AH → Rs AV) (hsh : ∀ {Θ1 Θ2 : Th X.K} {H1 H2 : Hp} {h1 h2 : AH} {v : AV} {x : V} {Q : VK} {E : XW X.K}, HR Θ1 h1 H1 → Tr Θ1 H1 Θ2 H2 → HR Θ2 h2 H2 → Rep Θ2 H2 v x → Post Rep (sh h1.length v h2) Θ1 H1 Q E → Q x H2)
    (p : Post Rep ((evL Φ (.perm pi (apS s t)) σa h).bind fun xs h1 => (Φ (code x) xs h1).bind fun v h2 => sh h1.length v h2) Θ H Q (EW (AWof X.K κ Wx) σ)) :
    tCallSP (spP pi (spF X.K κ Φ (code x) np)) as.length nk (WE Wx) (tL Φ (AWof X.K κ Wx) s) (tL Φ (AWof X.K κ Wx) t) σ H Q := by
  have p : Post Rep (((evL Φ (apS s t) σa h).bind fun xs h1 => ofO (permO pi xs) h1).bind fun xs h1 => (Φ (code x) xs h1).bind fun v h2 => sh h1.length v h2) Θ H Q (EW (AWof X.K κ Wx) σ) := p
  rw [Rs.bind_assoc, evL_ap as s e2 hn, Rs.bind_assoc] at p
  refine ⟨Θ, h, σa, hr, sr, (Post.bind (R := RepL) p).imp fun us H1 ⟨Θ1, h1, xs, t1, hr1, rx, e, p1⟩ => ?_⟩
  rw [Rs.bind_assoc] at p1
  refine ⟨Θ1, h1, σa, hr1, sr.mono t1, (Post.bind (R := RepL) p1).imp fun ws H2 ⟨Θ2, h2, ys, t2, hr2, ry, e', p2⟩ => ?_⟩
  have l1 : xs.length = as.length := evL_len as s e2 hn _ _ _ _ e
  refine ⟨⟨by rw [← rx.length]; exact l1, by rw [← ry.length]; exact hlen _ _ _ _ e'⟩, ?_⟩
  simp only [Rs.bind_ok] at p2
  cases e4 : permO pi (xs ++ ys) with
  | none => rw [e4] at p2; exact p2.elim
  | some zs =>
    rw [e4] at p2
    have p2 : Post Rep ((Φ (code x) zs h2).bind fun v h3 => sh h2.length v h3) Θ2 H2 Q (EW (AWof X.K κ Wx) σ) := p2
    have e5 : mapO (fun i => (xs ++ ys)[i]?) pi = some zs := by
      unfold permO at e4
      split at e4
      · exact e4
      · cases e4
    obtain ⟨vs, e6, pr⟩ := mapO_rel (R := Rep Θ2 H2) (fun i x e => ((rx.mono t2).append ry).get e) pi zs e5
    refine ⟨vs, e6, by rw [mapO_length e6]; exact hpi, Θ2, h2, zs, hr2, paired_rep pr, ?_⟩
    have q := Post.bind (R := Rep) p2
    cases e3 : Φ (code x) zs h2 with
    | bad => rw [e3] at q; exact q
    | ex c as h2 => rw [e3] at p2; exact p2
    | ok v h3 =>
      rw [e3] at p2
      exact fun Θ3 H3 y t hr3 r => hsh hr2 t hr3 r p2
theorem kwp_ok (C : CO Γ N κ Φ ns Wx X) {f : Expr → Option IE} (ih : ∀ e i, f e = some i → PE X e (tE Φ (AWof X.K κ Wx) i)) {x : Str} {p0 : Pos} (as : List Expr) (kws : List Keyword) (p : Pos) {fi : FI} {s t : IE} {q : Nat × List Str × List Nat} (hg : isGl ns x = true) (hd : notDbg x = true) (hn : as.all notStar = true) (hn2 : (kws.map (·.value)).all notStar = true)
    (e1 : Γ.fns.lookup x = some fi) (e2 : cL f as = some s) (e3 : cL f (kws.map (·.value)) = some t) (hq : q ∈ fi.ko) (hk1 : q.1 = as.length) (hk2 : kws.map (·.arg) = q.2.1.map some) (hk3 : q.2.2.length = fi.ps.length) :
    PE X (.Call (.Name x p0) as kws p) (tE Φ (AWof X.K κ Wx) (mkCall fi.rm (code x) (.perm q.2.2 (apS s t)))) := by
  obtain ⟨k, fa, fd, F, hr, hm, hk, hb, hkw⟩ := C.fns x fi e1
  have hx : ∀ σ, PassesAt (L2.CX X.prog X.w) X σ (WE Wx σ) := C.px
  have KB := hkw.2 q hq
  obtain ⟨q1, q2, q3⟩ := kwE_of (env := X.env) (pos := p) hk2
  have pk := pk_ok ih kws t e3 hn2
  have fin : ∀ {pins : List (Addr × Obj)} {σ : L2.St} {H : Hp} {s : Shared} {Q : VK} {us ws : List Value} {vs zs : List V}, L2.Inv X pins σ H s → Vals vs us → Vals zs ws → vs.length = as.length → ws.length = q.2.1.length → spP q.2.2 (spF X.K κ Φ (code x) fi.ps.length) (vs ++ zs) H Q (WE Wx σ) →
      wpAny (model X.prog X.w) X.A (call (.ref fa) us (q.2.1.zip ws)) (EP X pins σ Q) X.xe s := fun {pins σ H s Q us ws vs zs} I r rz hl hlw h => by
    have l1 : us.length = q.1 := by rw [← r.length, hk1]; exact hl
    obtain ⟨ys, ey, h⟩ := h
    obtain ⟨bs, eb, B⟩ := KB s us ws I.kIn l1 hlw
    obtain ⟨bs', eb', pr⟩ := mapO_rel (R := RelV) (vals_get (r.append rz)) _ _ ey
    have : bs = bs' := Option.some.inj ((show mapO (fun i => (us ++ ws)[i]?) q.2.2 = some bs from eb).symm.trans eb')
    subst this
    refine wpAny_call (codeAny_mono (F.run X.A X.stack s H ⟨us, q.2.1.zip ws⟩ bs ys Q (WE Wx σ) hr I.env0 B (paired_vals pr) h) fun r s' hq => ?_)
    cases r with
    | error e => exact hx σ pins H s e s' I hq
    | ok fl => cases fl with
      | ret u => exact I.after hq
      | _ => exact hq.elim
  have kl : q.2.1.length = kws.length := by
    have := congrArg List.length hk2
    simp only [List.length_map] at this
    omega
  have base : PE X (.Call (.Name x p0) as kws p) (tCallSP (spP q.2.2 (spF X.K κ Φ (code x) fi.ps.length)) as.length kws.length (WE Wx) (tL Φ (AWof X.K κ Wx) s) (tL Φ (AWof X.K κ Wx) t)) := by
    refine ⟨fun pins s σ H Q I h => ?_⟩
    refine wpAny_Call_Name_kw (ld_glob I (C.gl hg) hm ?_ (dbg hd).1)
    cases as with
    | nil =>
      cases e2
      obtain ⟨Θ, h0, σa, hr0, sr0, q⟩ := h
      refine PySem.W.callWith_KW0 (h₀ := X.base) I.ok.mod.kin hk q1 ?_ (by rw [q3]; rfl)
      have q := q Θ H [] Tr.refl hr0 .nil
      refine thn (pk.run p pins s σ H _ I q) fun ws s2 ⟨zs, H2, I2, rz, l, q2'⟩ => ⟨I2.kIn, ?_⟩
      rw [q2]
      exact fin (us := []) I2 .nil rz l.1 (by rw [← rz.length, l.2, kl]) q2'
    | cons a as =>
      have hn' := hn
      simp only [List.all_cons, Bool.and_eq_true] at hn'
      refine PySem.W.callWith_KW (h₀ := X.base) I.ok.mod.kin hk q1 (thn ((cL_ok ih _ _ e2).run p pins s σ H _ I h) fun us s1 ⟨vs, H1, I1, r, q⟩ => ?_) ?_ (star_of hn'.1)
      · refine thn (pk.run p pins s1 σ H1 _ I1 q) fun ws s2 ⟨zs, H2, I2, rz, l, q2'⟩ => ⟨I2.kIn, ?_⟩
        rw [q2]
        exact fin I2 r rz l.1 (by rw [← rz.length, l.2, kl]) q2'
      · rw [q3, Bool.or_false]
        exact noStar_of hn _ _
  refine mk_of_both ⟨base.wk fun σ H Q ⟨Θ, h, σa, hr, sr, q⟩ => ?_, base.wk fun σ H Q ⟨Θ, h, σa, hr, sr, q⟩ => ?_⟩
  · exact callP_reads hr sr as s t e2 hn hk3 (fun ys σ h h1 e => by rw [evL_len _ t e3 hn2 _ _ _ _ e]; simp) shut (fun h1 h2 h3 h4 h5 => shut_ok h1 h2 h3 h4 h5) q
  · exact callP_reads hr sr as s t e2 hn hk3 (fun ys σ h h1 e => by rw [evL_len _ t e3 hn2 _ _ _ _ e]; simp) shutM (fun h1 h2 h3 h4 h5 => shutM_ok h1 h2 h3 h4 h5) q
theorem kw_ok (C : CO Γ N κ Φ ns Wx X) {f : Expr → Option IE} (ih : ∀ e i, f e = some i → PE X e (tE Φ (AWof X.K κ Wx) i)) (fn : Expr) (as : List Expr) (kws : List Keyword) (p : Pos) (i : IE) (h : cKw Γ ns f fn as kws = some i) :
    PE X (.Call fn as kws p) (tE Φ (AWof X.K κ Wx) i) := by
  unfold cKw at h
  split at h
  · rename_i x p0
    split at h
    · rename_i hc
      simp only [Bool.and_eq_true] at hc
      obtain ⟨⟨⟨hg, hd⟩, hn⟩, hn2⟩ := hc
      split at h
      · rename_i fi s t e1 e2 e3
        split at h
        · rename_i hc
          simp only [Bool.and_eq_true, decide_eq_true_eq] at hc
          obtain ⟨⟨hk1, hk2⟩, hk3⟩ := hc
          cases h
          obtain ⟨k, fa, fd, F, hr, hm, hk, hb, hkw⟩ := C.fns x fi e1
          have hx : ∀ σ, PassesAt (L2.CX X.prog X.w) X σ (WE Wx σ) := C.px
          have KB := hkw.1 as.length (by simpa using hk1)
          obtain ⟨q1, q2, q3⟩ := kwE_of (env := X.env) (pos := p) hk2
          have pk := pk_ok ih kws t e3 hn2
          have fin : ∀ {pins : List (Addr × Obj)} {σ : L2.St} {H : Hp} {s : Shared} {Q : VK} {us ws : List Value} {vs zs : List V}, L2.Inv X pins σ H s → Vals vs us → Vals zs ws → vs.length = as.length → spF X.K κ Φ (code x) fi.ps.length (vs ++ zs) H Q (WE Wx σ) →
              wpAny (model X.prog X.w) X.A (call (.ref fa) us ((fi.ps.drop as.length).zip ws)) (EP X pins σ Q) X.xe s := fun {pins σ H s Q us ws vs zs} I r rz hl h => by
            have l1 : us.length = as.length := by rw [← r.length]; exact hl
            have l2 : as.length + ws.length = fi.ps.length := by
              have := h.1
              rw [List.length_append, r.length, rz.length, l1] at this
              exact this
            refine wpAny_call (codeAny_mono (F.run X.A X.stack s H ⟨us, (fi.ps.drop as.length).zip ws⟩ (us ++ ws) (vs ++ zs) Q (WE Wx σ) hr I.env0 (KB s us ws I.kIn l1 l2) (r.append rz) h) fun r s' hq => ?_)
            cases r with
            | error e => exact hx σ pins H s e s' I hq
            | ok fl => cases fl with
              | ret u => exact I.after hq
              | _ => exact hq.elim
          have base : PE X (.Call (.Name x p0) as kws p) (tCallSK (spF X.K κ Φ (code x) fi.ps.length) as.length (WE Wx) (tL Φ (AWof X.K κ Wx) s) (tL Φ (AWof X.K κ Wx) t)) := by
            refine ⟨fun pins s σ H Q I h => ?_⟩
            refine wpAny_Call_Name_kw (ld_glob I (C.gl hg) hm ?_ (dbg hd).1)
            cases as with
            | nil =>
              cases e2
              obtain ⟨Θ, h0, σa, hr0, sr0, q⟩ := h
              refine PySem.W.callWith_KW0 (h₀ := X.base) I.ok.mod.kin hk q1 ?_ (by rw [q3]; rfl)
              have q := q Θ H [] Tr.refl hr0 .nil
              refine thn (pk.run p pins s σ H _ I q) fun ws s2 ⟨zs, H2, I2, rz, l, q2'⟩ => ⟨I2.kIn, ?_⟩
              rw [q2]
              exact fin (us := []) I2 .nil rz l q2'
            | cons a as =>
              have hn' := hn
              simp only [List.all_cons, Bool.and_eq_true] at hn'
              refine PySem.W.callWith_KW (h₀ := X.base) I.ok.mod.kin hk q1 (thn ((cL_ok ih _ _ e2).run p pins s σ H _ I h) fun us s1 ⟨vs, H1, I1, r, q⟩ => ?_) ?_ (star_of hn'.1)
              · refine thn (pk.run p pins s1 σ H1 _ I1 q) fun ws s2 ⟨zs, H2, I2, rz, l, q2'⟩ => ⟨I2.kIn, ?_⟩
                rw [q2]
                exact fin I2 r rz l q2'
              · rw [q3, Bool.or_false]
                exact noStar_of hn _ _
          refine mk_of_both ⟨base.wk fun σ H Q ⟨Θ, h, σa, hr, sr, q⟩ => ?_, base.wk fun σ H Q ⟨Θ, h, σa, hr, sr, q⟩ => ?_⟩
          · exact callK_reads hr sr as s t e2 hn (fun ys σ h h1 e => by rw [hk3, evL_len _ t e3 hn2 _ _ _ _ e]; simp) shut (fun h1 h2 h3 h4 h5 => shut_ok h1 h2 h3 h4 h5) q
          · exact callK_reads hr sr as s t e2 hn (fun ys σ h h1 e => by rw [hk3, evL_len _ t e3 hn2 _ _ _ _ e]; simp) shutM (fun h1 h2 h3 h4 h5 => shutM_ok h1 h2 h3 h4 h5) q
        · split at h
          · rename_i q eq
            split at h
            · rename_i hl
              cases h
              have hq := List.find?_some eq
              simp only [Bool.and_eq_true, decide_eq_true_eq] at hq
              exact kwp_ok C ih as kws p hg hd hn hn2 e1 e2 e3 (List.mem_of_find?_eq_some eq) hq.1 hq.2 hl
            · cases h
          · cases h
      · cases h
    · cases h
  · cases h
theorem call_ok (C : CO Γ N κ Φ ns Wx X) {f : Expr → Option IE} (ih : ∀ e i, f e = some i → PE X e (tE Φ (AWof X.K κ Wx) i)) (fn : Expr) (as : List Expr) (p : Pos) (i : IE) (h : cCall Γ ns f fn as p = some i) :
    PE X (.Call fn as [] p) (tE Φ (AWof X.K κ Wx) i) := by
  unfold cCall at h
  split at h
  · split at h
    · rename_i hc
      simp only [Bool.and_eq_true] at hc
      split at h
      · rename_i hi
        have := beqS hi
        subst this
        split at h
        · rename_i a t
          have hn := hc.2
          simp only [List.all_cons, Bool.and_eq_true] at hn
          split at h
          · rename_i j ej
            cases h
            exact isi_ok C ih a t _ p i hc.1.1 hn.1 ej
          · exact isx_ok C ih a t _ p i hc.1.1 hn.1 h
        · cases h
      · split at h
        · rename_i j ej
          cases h
          unfold cOwn at ej
          split at ej
          · rename_i np s e1 e2
            split at ej
            · rename_i e3
              cases ej
              exact mk_of_both (own_ok C ih _ as _ p s np hc.1.1 hc.1.2 hc.2 e1 e2 e3)
            · cases ej
          · cases ej
        · exact mkx_ok C ih _ as _ p i hc.1.1 hc.1.2 hc.2 h
    · cases h
  · exact mth_ok C ih _ _ _ _ _ _ h
  · cases h
end
theorem snd_E {n : Nat} (ih : Snd Γ N κ Φ n) (ns : NK) (Wx : WX) (X : Cx) (C : CO Γ N κ Φ ns Wx X) (e : Expr) (i : IE) (h : cE Γ N (n + 1) ns e = some i) : PE X e (tE Φ (AWof X.K κ Wx) i) := by
  have ihE := fun e i he => ih.E ns Wx X C e i he
  unfold cE at h
  cases e0 : cF Γ N n ns e with
  | some j => rw [e0] at h; cases h; exact (ih.F ns Wx X C e i e0).ofF
  | none =>
    rw [e0] at h
    dsimp only at h
    split at h
    · -- Name
      rename_i x p
      split at h
      · rename_i hd
        split at h
        · rename_i hv
          simp only [Option.map_eq_some_iff] at h
          obtain ⟨j, ej, rfl⟩ := h
          exact s_var (by rw [C.hN]; exact ixOf_get ej) (C.vis hv) (dbg hd).1 (dbg hd).2
        · split at h
          · rename_i hg
            simp only [Option.map_eq_some_iff] at h
            obtain ⟨d, ed, rfl⟩ := h
            obtain ⟨u, v, hm, r, rp⟩ := C.cst x d ed
            exact s_cst (pe_glob (C.gl hg) hm r (dbg hd).1) rp
          · cases h
      · cases h
    · cases h; exact s_cst pe_int fun _ _ => .int _
    · cases h; exact s_cst pe_bl fun _ _ => .bl _
    · cases h; exact s_cst pe_non fun _ _ => .non
    · cases h
      rename_i s _ _
      refine s_cst (v := .str (mkS s.cps.toList)) ?_ fun _ _ => .str _
      have : mkS s.cps.toList = s := by cases s; simp [mkS]
      rw [this]
      exact pe_str
    · simp only [Option.map_eq_some_iff] at h
      obtain ⟨x, ex, rfl⟩ := h
      exact s_neg (ihE _ _ ex)
    · simp only [Option.map_eq_some_iff] at h
      obtain ⟨x, ex, rfl⟩ := h
      exact s_nt (ihE _ _ ex)
    · exact cB_and ihE _ _ _ h
    · exact cB_or ihE _ _ _ h
    · exact (cmp_ok C ihE _ _ _ _ _ h).1
    · split at h
      · rename_i x y z e1 e2 e3
        cases h
        exact s_ife (ih.T ns Wx X C _ _ e1) (ihE _ _ e2) (ihE _ _ e3)
      · cases h
    · simp only [Option.map_eq_some_iff] at h
      obtain ⟨x, ex, rfl⟩ := h
      exact s_tup (cL_ok ihE _ _ ex)
    · split at h
      · rename_i x y e1 e2 e3
        cases h
        exact s_idx e1 (ihE _ _ e2) (ihE _ _ e3)
      · cases h
    · exact atr_ok C ihE _ _ _ _ h
    · exact call_ok C ihE _ _ _ _ h
    · exact kw_ok C ihE _ _ _ _ _ h
    · cases h
theorem snd_C {n : Nat} (ih : Snd Γ N κ Φ n) (ns : NK) (Wx : WX) (X : Cx) (C : CO Γ N κ Φ ns Wx X) (e : Expr) (i : IE) (hc : isCmp e = true) (h : cE Γ N (n + 1) ns e = some i) : PT X e (tT Φ (AWof X.K κ Wx) (.tst i)) := by
  have ihE := fun e i he => ih.E ns Wx X C e i he
  cases e with
  | Compare a ops bs p =>
    unfold cE at h
    have e0 : cF Γ N n ns (.Compare a ops bs p) = none := by cases n <;> rfl
    rw [e0] at h
    exact (cmp_ok C ihE _ _ _ _ _ h).2
  | _ => cases hc
theorem snd : ∀ n, Snd Γ N κ Φ n
  | 0 => ⟨fun _ _ _ _ _ _ h => by simp [cE] at h, fun _ _ _ _ _ _ h => by simp [cF] at h, fun _ _ _ _ _ _ h => by simp [cT] at h, fun _ _ _ _ _ _ _ h => by simp [cI] at h, fun _ _ _ _ _ _ _ h => by simp [cE] at h⟩
  | n + 1 => ⟨snd_E (snd n), snd_F (snd n), snd_T (snd n), snd_I (snd n), snd_C (snd n)⟩
end
end EV

set_option Elab.async false
set_option linter.all false
set_option maxRecDepth 100000
set_option maxHeartbeats 4000000
namespace EV
open PySem PySem.Spec PyProof.Rows L2
variable {K : PySem.W.Frag}

/-! ### statements of the text -/
def isStarE : Expr → Bool
  | .Starred .. => true
  | _ => false
/-- the names that a pair or triple is stored to -/
def nmsOf (ns : NK) (line : Nat) (ts : List Expr) : List Str := ts.filterMap fun
  | .Name id pos => if ns.lookup id == some .local && pos.line == line then some id else none
  | _ => none
/-- how a, b = x, y stores: none: not told by the model; some none: as a tuple; some (some names): swapped -/
def swS (ns : NK) (ts vs : List Expr) : Option (Option (List Str)) :=
  if !(ts.length == 2 || ts.length == 3) || vs.length != ts.length then some none
  else if vs.any isStarE then some none
  else
    let names := nmsOf ns ((ts.head?.map (·.pos.line)).getD 0) ts
    if names.length != ts.length || names.eraseDups.length != names.length then some none
    else if vs.all (foldedForSure 8) then some none
    else if vs.all (constantsAlone 8) then none
    else some (some names)
theorem swS_ok {ns : NK} {ts vs : List Expr} {env : Env} {r : Option (List Str)} {k k2 : Nat} {p p2 : Pos} (hk : env.scope.kind = .function) (hn : env.scope.names = ns) (h : swS ns ts vs = some r) : swappedStores [.Tuple ts k p] (.Tuple vs k2 p2) env = pure r := by
  have hb : env.blockKind = .function := by unfold Env.blockKind; rw [hk]; rfl
  unfold swS at h
  unfold swappedStores
  simp only [hb]
  dsimp only at h
  generalize hA : List.filterMap _ ts = names
  generalize hB : List.any vs _ = bb
  have eA : names = nmsOf ns ((ts.head?.map (·.pos.line)).getD 0) ts := by
    rw [← hA]
    unfold nmsOf
    congr 1
    funext x
    cases x with
    | Name id pos => show (if env.scope.names.lookup _ == _ && _ then _ else _) = _; rw [hn]
    | _ => rfl
  have eB : bb = vs.any isStarE := by
    rw [← hB]
    try (congr 1; done)
    try (congr 1; funext x; cases x <;> rfl)
  rw [← eA, ← eB] at h
  have e0 : (ScopeKind.function != ScopeKind.function) = false := rfl
  rw [e0, Bool.or_false]
  by_cases h1 : (!(ts.length == 2 || ts.length == 3) || vs.length != ts.length) = true
  · rw [if_pos h1] at h ⊢; cases h; rfl
  · rw [if_neg h1] at h ⊢
    by_cases h2 : bb = true
    · rw [if_pos h2] at h ⊢; cases h; rfl
    · rw [if_neg h2] at h ⊢
      by_cases h3 : (names.length != ts.length || names.eraseDups.length != names.length) = true
      · rw [if_pos h3] at h ⊢; cases h; rfl
      · rw [if_neg h3] at h ⊢
        by_cases h4 : vs.all (foldedForSure 8) = true
        · rw [if_pos h4] at h ⊢; cases h; rfl
        · rw [if_neg h4] at h ⊢
          by_cases h5 : vs.all (constantsAlone 8) = true
          · rw [if_pos h5] at h; cases h
          · rw [if_neg h5] at h ⊢; cases h; rfl
theorem sws_plain {tg value : Expr} {env : Env} (h : (match tg, value with | .Tuple .., .Tuple .. => false | .List .., .Tuple .. => false | _, _ => true) = true) : swappedStores [tg] value env = pure none := by
  cases tg <;> first | rfl | (cases value <;> first | rfl | cases h)
def isLC : Expr → Bool
  | .ListComp .. => true
  | .SetComp .. => true
  | .DictComp .. => true
  | _ => false
theorem sw_no {value : Expr} {target : Option Expr} {l : Nat} {env : Env} (h : isLC value = false) : swapsWith value target l env = pure false := by
  cases value <;> first | rfl | cases h

/-- an expression whose list will be changed -/
def cM (Γ : GEnv) (N : List Str) (n : Nat) (ns : NK) (mu : Bool) (e : Expr) : Option IE := if mu then (match cF Γ N n ns e with
    | some i => some (.mut i)
    | none => match cE Γ N n ns e with
      | some (.call f s) => (match e with
        | .Call (.Name _ _) _ [] _ => some (.callM f s)
        | _ => none)
      | r => r) else cE Γ N n ns e
def cLM (Γ : GEnv) (N : List Str) (n : Nat) (ns : NK) (mu : List Str) : List Str → List Expr → Option IE
  | x :: xs, e :: es => match notStar e, cM Γ N n ns (mu.contains x) e, cLM Γ N n ns mu xs es with
    | true, some i, some s => some (.cons i s)
    | _, _, _ => none
  | [], [] => some .nil
  | _, _ => none

variable (Γ : GEnv) (N : List Str) (ns : NK) (mu : List Str)
/-- name = e -/
def cSet (n : Nat) (x : Str) (py : Pos) (e : Expr) (pos : Pos) : Option IS := match cG N ns (fun _ => true) 1 (.Name x py), cM Γ N n ns (mu.contains x) e with
  | some (.nm i), some v => if isLC e then (match e with
      | .ListComp _ _ scope lp => if decide (ns.lookup x = some .local) && (py.line == lp.line) && !(scope.names.any fun (n, k) => n == x && (k == .local || k == .cell)) then some (.set i v)
        else if decide (ns.lookup x = some .cell) then some (.set i v) else none
      | _ => none) else some (.set i v)
  | _, _ => none
/-- a, b = x, y -/
def cPar (n : Nat) (ts : List Expr) (k : Nat) (p : Pos) (vs : List Expr) (k2 : Nat) (p2 : Pos) : Option IS := match swS ns ts vs with
  | none => none
  | some none => match cG N ns (fun _ => true) 4 (.Tuple ts k p), cE Γ N n ns (.Tuple vs k2 p2) with
    | some g, some v => some (.tset g v)
    | _, _ => none
  | some (some names) => match ts, names, cLM Γ N n ns mu names vs with
    | [.Name x _, .Name y _], [x', y'], some s => if x = x' ∧ y = y' then (match ixOf x N, ixOf y N with
        | some i, some j => if i ≠ j ∧ ns.lookup x = some .local ∧ ns.lookup y = some .local then some (.par2 i j s) else none
        | _, _ => none) else none
    | [.Name x _, .Name y _, .Name z _], [x', y', z'], some s => if x = x' ∧ y = y' ∧ z = z' then (match ixOf x N, ixOf y N, ixOf z N with
        | some i, some j, some l => if i ≠ j ∧ i ≠ l ∧ j ≠ l ∧ ns.lookup x = some .local ∧ ns.lookup y = some .local ∧ ns.lookup z = some .local then some (.par3 i j l s) else none
        | _, _, _ => none) else none
    | _, _, _ => none
def cSs (f : Stmt → Option IS) : List Stmt → Option IS
  | [] => some .skip
  | [s] => f s
  | s :: r => match f s, cSs f r with
    | some x, some y => some (.seq x y)
    | _, _ => none
def notTupE : Expr → Bool
  | .Tuple .. => false
  | .List .. => false
  | _ => true
/-- raise x(..) -/
def cRais (n : Nat) : Expr → Option IS
  | .Call (.Name x _) as [] _ => if isGl ns x && notDbg x && as.all notStar then (match Γ.cls.lookup x.cps.toList, as with
    | some ⟨some g, _⟩, [a] => if g.isEmpty then none else (cE Γ N n ns a).map fun i => .rais x.cps.toList g (.cons i .nil)
    | some ⟨none, _⟩, [] => some (.rais x.cps.toList [] .nil)
    | _, _ => none) else none
  | _ => none
/-- try: .. except x as n: m = n -/
def cTry (f : Stmt → Option IS) (body : List Stmt) : List ExceptHandler → Option IS
  | [.ExceptHandler (some (.Name x _)) (some n) [.Assign [.Name m _] (.Name n' _) _] _] =>
    if decide (n' = n) && decide (ns.lookup n = some .local) && decide (ns.lookup m = some .local) && isGl ns x && notDbg x && notDbg n then (match ixOf n N, ixOf m N, Γ.cls.lookup x.cps.toList, cSs f body with
      | some i, some j, some _, some b => some (.tryk b x.cps.toList (clsElse Γ x.cps.toList) i j)
      | _, _, _, _ => none) else none
  | _ => none
def cS : Nat → Stmt → Option IS
  | 0, _ => none
  | n + 1, s => match s with
    | .Assign [.Name x py] e pos => cSet Γ N ns mu n x py e pos
    | .Assign [.Tuple ts k p] (.Tuple vs k2 p2) _ => cPar Γ N ns mu n ts k p vs k2 p2
    | .Assign [.Tuple ts k p] e _ => match notTupE e, isLC e, cG N ns (fun _ => true) 4 (.Tuple ts k p), cE Γ N n ns e with
      | true, false, some g, some v => some (.tset g v)
      | _, _, _, _ => none
    | .Assign [.Subscript o i _] e _ => match notSliceE i, isLC e, cE Γ N n ns o, cE Γ N n ns i, cE Γ N n ns e with
      | true, false, some x, some y, some z => some (.sub x y z)
      | _, _, _, _, _ => none
    | .Expr e _ => match isLC e, cE Γ N n ns e with
      | false, some v => some (.expr v)
      | _, _ => none
    | .Return (some e) _ => (cM Γ N n ns (mu.contains ("return" : Str)) e).map .ret
    | .Return none _ => some .retn
    | .If c a b _ => match cT Γ N n ns c, cSs (cS n) a, cSs (cS n) b with
      | some x, some y, some z => some (.ife x y z)
      | _, _, _ => none
    | .While c a [] _ => match cT Γ N n ns c, cSs (cS n) a with
      | some x, some y => some (.whl x y)
      | _, _ => none
    | .For tg it a [] _ => match notSetE it, cI Γ N n ns tg it, cG N ns (fun _ => true) 4 tg, cSs (cS n) a with
      | true, some i, some g, some y => some (.for_ g i y)
      | _, _, _, _ => none
    | .Raise (some e) none _ => cRais Γ N ns n e
    | .Try body hs [] [] _ => cTry Γ N ns (cS n) body hs
    | .Pass _ => some .skip
    | .Break _ => some .brk
    | .Continue _ => some .cnt
    | _ => none
end EV

set_option Elab.async false
set_option linter.all false
set_option maxRecDepth 100000
set_option maxHeartbeats 4000000
namespace EV
open PySem PySem.Spec PyProof.Rows L2
variable {K : PySem.W.Frag}

section
variable {Γ : GEnv} {N : List Str} {κ : KX} {Φ : Fns} {ns : NK} {Wx : WX} {X : Cx}
structure CS (Γ : GEnv) (N : List Str) (κ : KX) (Φ : Fns) (ns : NK) (Wx : WX) (X : Cx) : Prop where
  co : CO Γ N κ Φ ns Wx X
  fn : ∀ x, X.fn x = true
  po : PassesOwn (model X.prog X.w) X.A X.env X.xe
  tk : Takes X Wx
  stk : X.stack = X.env :: X.outer
  fr : X.env.frame = some X.env.locals
  hex : X.ex = []
theorem postF_mut {ia : IE} {σa : ASt} {h : AH} {Θ : Th X.K} {H : Hp} {Q : VK} {E : XW X.K} (p : Post Rep (evE Φ (.mut ia) σa h) Θ H Q E) : PostF (evE Φ ia σa h) Θ H Q E := by
  simp only [evE] at p
  cases e : evE Φ ia σa h with
  | bad => rw [e] at p; exact p.elim
  | ex c as h1 => rw [e] at p; exact p
  | ok v h1 =>
    rw [e] at p
    cases v with
    | lst xs =>
      intro Θ' H' q vs t nq f hr' eq rl
      have p : Fin Θ (h1 ++ [.lst xs]) H (.ref h1.length) Q := p
      have hl : Θ'.th.length = h1.length := hr'.len
      refine p (Θ'.push q) H' _ ⟨t.hd, ?_, t.keep⟩ (hr'.pushed f.2 eq rl) (.ref ?_)
      · obtain ⟨more, e1, e2⟩ := t.th
        refine ⟨more ++ [q], by show Θ'.th ++ [q] = _; rw [e1, List.append_assoc], fun a m => ?_⟩
        rcases List.mem_append.mp m with m | m
        · exact e2 a m
        · rw [List.mem_singleton.mp m]; exact .inr nq
      · show (Θ'.th ++ [q])[h1.length]? = some q
        rw [← hl]; simp
    | _ => exact p.elim
theorem cIsi_nc {f : Expr → Option IE} {a t : Expr} {i : IE} (h : cIsi ns f a t = some i) (c : Nat) (s : IE) : i ≠ .call c s := by
  unfold cIsi at h
  split at h
  · split at h
    · split at h <;> cases h; exact fun z => by cases z
    · cases h
  · split at h
    · split at h <;> cases h; exact fun z => by cases z
    · cases h
  · cases h
theorem cIsx_nc {f : Expr → Option IE} {a t : Expr} {i : IE} (h : cIsx Γ ns f a t = some i) (c : Nat) (s : IE) : i ≠ .call c s := by
  unfold cIsx at h
  split at h
  · split at h
    · split at h <;> cases h <;> exact fun z => by cases z
    · cases h
  · split at h
    · split at h <;> cases h; exact fun z => by cases z
    · cases h
  · cases h
theorem cMkx_nc {f : Expr → Option IE} {x : Str} {as : List Expr} {i : IE} (h : cMkx Γ f x as = some i) (c : Nat) (s : IE) : i ≠ .call c s := by
  unfold cMkx at h
  split at h
  · split at h
    · cases h
    · simp only [Option.map_eq_some_iff] at h
      obtain ⟨j, _, rfl⟩ := h
      exact fun z => by cases z
  · cases h; exact fun z => by cases z
  · cases h
/-- f(..) kept as a list to be changed -/
theorem callM_ok {n : Nat} (C : CO Γ N κ Φ ns Wx X) {x : Str} {p0 p : Pos} {as : List Expr} {f : Nat} {s : IE} (hF : cF Γ N n ns (.Call (.Name x p0) as [] p) = none) (h : cE Γ N n ns (.Call (.Name x p0) as [] p) = some (.call f s)) :
    PE X (.Call (.Name x p0) as [] p) (tE Φ (AWof X.K κ Wx) (.callM f s)) := by
  cases n with
  | zero => simp [cE] at h
  | succ n =>
    unfold cE at h
    cases e0 : cF Γ N n ns (.Call (.Name x p0) as [] p) with
    | some j =>
      rw [e0] at h
      cases h
      cases n with
      | zero => simp [cF] at e0
      | succ n =>
        cases as with
        | nil => simp [cF] at e0
        | cons a as =>
          simp only [cF] at e0
          split at e0
          · split at e0 <;> cases e0
          · cases e0
    | none =>
      rw [e0] at h
      dsimp only at h
      have ihE := fun e i he => (snd (Γ := Γ) (N := N) (κ := κ) (Φ := Φ) n).E ns Wx X C e i he
      unfold cCall at h
      dsimp only at h
      split at h
      · rename_i hc
        simp only [Bool.and_eq_true] at hc
        split at h
        · split at h
          · split at h
            · rename_i j ej
              cases h
              exact absurd rfl (cIsi_nc ej f s)
            · exact absurd rfl (cIsx_nc h f s)
          · cases h
        · split at h
          · rename_i j ej
            cases h
            unfold cOwn at ej
            split at ej
            · rename_i np s' e1 e2
              split at ej
              · rename_i e3
                have q := (own_ok C ihE x as p0 p s' np hc.1.1 hc.1.2 hc.2 e1 e2 e3).2
                unfold mkCall at ej
                split at ej
                · cases ej
                · cases ej; exact q
              · cases ej
            · cases ej
          · exact absurd rfl (cMkx_nc h f s)
      · cases h
theorem cM_ok (C : CO Γ N κ Φ ns Wx X) {n : Nat} {mu : Bool} {e : Expr} {i : IE} (h : cM Γ N n ns mu e = some i) : PE X e (tE Φ (AWof X.K κ Wx) i) := by
  have S := snd (Γ := Γ) (N := N) (κ := κ) (Φ := Φ) n
  unfold cM at h
  split at h
  · cases e0 : cF Γ N n ns e with
    | some j => rw [e0] at h; cases h; exact s_mut (S.F ns Wx X C e j e0)
    | none =>
      rw [e0] at h
      dsimp only at h
      split at h
      · rename_i f s e1
        split at h
        · cases h; exact callM_ok C e0 e1
        · cases h
      · exact S.E ns Wx X C e i h
  · exact S.E ns Wx X C e i h
theorem cLM_ok (C : CO Γ N κ Φ ns Wx X) {n : Nat} {mu : List Str} : ∀ (xs : List Str) (es : List Expr) (s : IE), cLM Γ N n ns mu xs es = some s → PA X es (tL Φ (AWof X.K κ Wx) s)
  | [], [], s, h => by cases h; exact l_nil
  | [], _ :: _, s, h => by cases h
  | _ :: _, [], s, h => by cases h
  | x :: xs, e :: es, s, h => by
    simp only [cLM] at h
    split at h
    · rename_i i s' h1 h2 h3
      cases h
      exact l_cons h1 (cM_ok C h2) (cLM_ok C xs es s' h3)
    · cases h
theorem fn_of_all (C : CS Γ N κ Φ ns Wx X) {x : Str} : X.fn x = true ∨ X.env.scope.names.lookup x = some .local := .inl (C.fn x)
theorem swaps_cell {elt : Expr} {gs : List Comprehension} {scope : Scope} {lp py : Pos} {x : Str} {l : Nat} {env : Env} (h : env.scope.names.lookup x = some .cell) : swapsWith (.ListComp elt gs scope lp) (some (.Name x py)) l env = pure false := by
  have ky : env.kindOf x = some .cell := h
  have hb : (some NameKind.cell == some NameKind.local) = false := rfl
  unfold swapsWith
  simp only [ky, hb, Bool.and_false, Bool.false_and]
theorem cSet_ok (C : CS Γ N κ Φ ns Wx X) {n : Nat} {mu : List Str} {x : Str} {py pos : Pos} {e : Expr} {s : IS} (h : cSet Γ N ns mu n x py e pos = some s) : PS X (.Assign [.Name x py] e pos) (tS Φ (AWof X.K κ Wx) s) := by
  have Co := C.co
  unfold cSet at h
  split at h
  · rename_i i v e1 e2
    have hv := cM_ok Co e2
    have hl : X.env.scope.names.lookup x = ns.lookup x := by rw [Co.hns]
    have hi : X.N[i]? = some x ∧ Loc X.env.scope x := by
      simp only [cG] at e1
      split at e1
      · rename_i hk
        simp only [Option.map_eq_some_iff] at e1
        obtain ⟨j, ej, e1⟩ := e1
        cases e1
        exact ⟨by rw [Co.hN]; exact ixOf_get ej, .inl (hl.trans hk)⟩
      · rename_i hk
        simp only [if_true, Option.map_eq_some_iff] at e1
        obtain ⟨j, ej, e1⟩ := e1
        cases e1
        exact ⟨by rw [Co.hN]; exact ixOf_get ej, .inr (hl.trans hk)⟩
      · cases e1
    by_cases hlc : isLC e = true
    · rw [if_pos hlc] at h
      cases e with
      | ListComp elt gs scope lp =>
        dsimp only at h
        split at h
        · rename_i hc
          simp only [Bool.and_eq_true, decide_eq_true_eq, Bool.not_eq_true'] at hc
          cases h
          have hx : X.env.scope.names.lookup x = some .local := hl.trans hc.1.1
          -- the parts of the comprehension
          have parts : ∃ ic, (v = ic ∨ v = .mut ic) ∧ cF Γ N n ns (.ListComp elt gs scope lp) = some ic ∨ (∃ n', n = n' + 1 ∧ v = ic ∧ cF Γ N n' ns (.ListComp elt gs scope lp) = some ic) := by
            unfold cM at e2
            split at e2
            · cases e0 : cF Γ N n ns (.ListComp elt gs scope lp) with
              | some j => rw [e0] at e2; cases e2; exact ⟨j, .inl ⟨.inr rfl, rfl⟩⟩
              | none =>
                rw [e0] at e2
                dsimp only at e2
                split at e2
                · cases e2
                · cases n with
                  | zero => simp [cE] at e2
                  | succ n =>
                    unfold cE at e2
                    cases e5 : cF Γ N n ns (.ListComp elt gs scope lp) with
                    | some j => rw [e5] at e2; cases e2; exact ⟨_, .inr ⟨n, rfl, rfl, e5⟩⟩
                    | none => rw [e5] at e2; simp at e2
            · cases n with
              | zero => simp [cE] at e2
              | succ n =>
                unfold cE at e2
                cases e5 : cF Γ N n ns (.ListComp elt gs scope lp) with
                | some j => rw [e5] at e2; cases e2; exact ⟨_, .inr ⟨n, rfl, rfl, e5⟩⟩
                | none => rw [e5] at e2; simp at e2
          have main : ∀ (m : Nat) (ic : IE), cF Γ N m ns (.ListComp elt gs scope lp) = some ic → (v = ic ∨ v = .mut ic) → PS X (.Assign [.Name x py] (.ListComp elt gs scope lp) pos) (tS Φ (AWof X.K κ Wx) (.set i v)) := by
            intro m ic hm hvv
            cases m with
            | zero => simp [cF] at hm
            | succ m =>
              match gs with
              | [⟨tg, iter, ifs, 0⟩] =>
                have hm' := hm
                unfold cF at hm'
                dsimp only at hm'
                obtain ⟨own, g, j, c, e, rfl, hI, bk, hg, ht, he, hs, hown⟩ := comp_inv (snd m) ns Wx X Co elt tg iter ifs scope lp ic hm'
                refine (ps_setLc (i := i) (g := tG X.K g) (tt := tT Φ (W0 X.K) c) (te := tE Φ (W0 X.K) e) Co.cg.calm Co.cg.nd hi.1 hx (sw_true Co.cg.kind hx hc.1.2 hc.2) hI bk hg ht he hs).wk fun D σ H ⟨Θ, h, σa, hr, sr, p⟩ => ?_
                have p1 := (PostS.fl (R := Rep) sr p).imp (Q' := fun y H1 => D.nx (σ.set i (some y)) H1) fun y H1 ⟨Θ1, h1, a, t1, hr1, sr1, r, p1⟩ => p1 Θ1 H1 _ Tr.refl hr1 (sr1.set r i)
                rcases hvv with rfl | rfl
                · exact comp_reads (W := AWof X.K κ Wx) hr sr hown (PostF.of p1)
                · exact comp_reads (W := AWof X.K κ Wx) hr sr hown (postF_mut p1)
              | [] => simp [cF] at hm
              | [⟨tg, iter, ifs, .ofNat (k + 1)⟩] => cases (show (none : Option IE) = some ic from hm)
              | [⟨tg, iter, ifs, .negSucc k⟩] => simp [cF] at hm
              | _ :: _ :: _ => simp [cF] at hm
          obtain ⟨ic, q⟩ := parts
          rcases q with ⟨q1, q2⟩ | ⟨n', _, q1, q2⟩
          · exact main n ic q2 q1
          · exact main n' ic q2 (.inl q1)
        · split at h
          · rename_i hk
            cases h
            exact ps_set' Co.cg hi.1 hi.2 hv (swaps_cell (hl.trans (of_decide_eq_true hk))) (fn_of_all C)
          · cases h
      | _ => first | cases h | cases hlc
    · rw [if_neg hlc] at h
      cases h
      exact ps_set' Co.cg hi.1 hi.2 hv (sw_no (by simpa using hlc)) (fn_of_all C)
  · cases h
theorem ps_par3' {i j l : Nat} {x y z : Str} {a b c : Expr} {ia : IE} {px py pz pt pos : Pos} {kt k2 pt2} (g : CG X) (hi : X.N[i]? = some x) (hj : X.N[j]? = some y) (hl : X.N[l]? = some z) (hij : i ≠ j) (hil : i ≠ l) (hjl : j ≠ l)
    (hx : X.env.scope.names.lookup x = some .local) (hy : X.env.scope.names.lookup y = some .local) (hz : X.env.scope.names.lookup z = some .local)
    (ha : PA X [a, b, c] (tL Φ (AWof X.K κ Wx) ia)) (hw : swappedStores [.Tuple [.Name x px, .Name y py, .Name z pz] kt pt] (.Tuple [a, b, c] k2 pt2) X.env = pure (some [x, y, z])) :
    PS X (.Assign [.Tuple [.Name x px, .Name y py, .Name z pz] kt pt] (.Tuple [a, b, c] k2 pt2) pos) (tS Φ (AWof X.K κ Wx) (.par3 i j l ia)) := by
  refine (ps_par3 g.calm g.nd hi hj hl hij hil hjl hx hy hz ha hw rfl).wk fun D σ H ⟨Θ, h, σa, hr, sr, p⟩ => ?_
  refine ⟨Θ, h, σa, hr, sr, (PostS.fl (R := RepL) sr p).imp fun us H1 ⟨Θ1, h1, vs, t1, hr1, sr1, r, p1⟩ => ?_⟩
  match vs, r, p1 with
  | [u, v, w], r, p1 =>
    cases r with
    | cons r1 r' =>
      obtain ⟨u2, u3, rfl, r2, r3⟩ := repL2 r'
      exact ⟨_, u2, u3, rfl, p1 Θ1 H1 _ Tr.refl hr1 (((sr1.set r1 i).set r2 j).set r3 l)⟩
  | [], _, p1 => exact p1.elim
  | [_], _, p1 => exact p1.elim
  | [_, _], _, p1 => exact p1.elim
  | _ :: _ :: _ :: _ :: _, _, p1 => exact p1.elim
theorem sole_no {tg value : Expr} {l : Nat} {env : Env} (h : isLC value = false) : swapsWithSole [tg] value l env = pure false := sw_no h
theorem plainT {ts : List Expr} {k : Nat} {p : Pos} {e : Expr} {env : Env} (h : notTupE e = true) : swappedStores [.Tuple ts k p] e env = pure none := by
  cases e <;> first | rfl | cases h
theorem folded_of {it : Expr} {env : Env} (h : notSetE it = true) (x : Value) : foldedSetIterable it env x = pure x := by
  cases it <;> first | rfl | cases h
theorem cPar_ok (C : CS Γ N κ Φ ns Wx X) {n : Nat} {mu : List Str} {ts vs : List Expr} {k k2 : Nat} {p p2 pos : Pos} {s : IS} (h : cPar Γ N ns mu n ts k p vs k2 p2 = some s) : PS X (.Assign [.Tuple ts k p] (.Tuple vs k2 p2) pos) (tS Φ (AWof X.K κ Wx) s) := by
  have Co := C.co
  have S := snd (Γ := Γ) (N := N) (κ := κ) (Φ := Φ) n
  have hl : ∀ x, X.env.scope.names.lookup x = ns.lookup x := fun x => by rw [Co.hns]
  unfold cPar at h
  split at h
  · cases h
  · rename_i hsw
    split at h
    · rename_i g v e1 e2
      cases h
      exact ps_tset (cG_ok Co (fun x _ => C.fn x) 4 _ g e1).1 rfl (S.E ns Wx X Co _ _ e2) (sole_no rfl) (swS_ok Co.cg.kind Co.hns hsw)
    · cases h
  · rename_i names hsw
    have hw := fun pp => swS_ok (k := k) (k2 := k2) (p := p) (p2 := pp) Co.cg.kind Co.hns hsw
    split at h
    · rename_i x px y py x' y' s' e1
      split at h
      · rename_i hxy
        obtain ⟨rfl, rfl⟩ := hxy
        split at h
        · rename_i i j e2 e3
          split at h
          · rename_i hc
            cases h
            have hpa := cLM_ok Co _ _ _ e1
            match vs, e1, hpa, hw with
            | [a, b], e1, hpa, hw => exact ps_par2 Co.cg (by rw [Co.hN]; exact ixOf_get e2) (by rw [Co.hN]; exact ixOf_get e3) hc.1 ((hl _).trans hc.2.1) ((hl _).trans hc.2.2) hpa (hw p2)
            | [], e1, _, _ => simp [cLM] at e1
            | [_], e1, _, _ => simp [cLM] at e1
            | _ :: _ :: _ :: _, e1, _, _ => simp [cLM] at e1
          · cases h
        · cases h
      · cases h
    · rename_i x px y py z pz x' y' z' s' e1
      split at h
      · rename_i hxy
        obtain ⟨rfl, rfl, rfl⟩ := hxy
        split at h
        · rename_i i j l e2 e3 e4
          split at h
          · rename_i hc
            cases h
            have hpa := cLM_ok Co _ _ _ e1
            match vs, e1, hpa, hw with
            | [a, b, c], e1, hpa, hw => exact ps_par3' Co.cg (by rw [Co.hN]; exact ixOf_get e2) (by rw [Co.hN]; exact ixOf_get e3) (by rw [Co.hN]; exact ixOf_get e4) hc.1 hc.2.1 hc.2.2.1 ((hl _).trans hc.2.2.2.1) ((hl _).trans hc.2.2.2.2.1) ((hl _).trans hc.2.2.2.2.2) hpa (hw p2)
            | [], e1, _, _ => simp [cLM] at e1
            | [_], e1, _, _ => simp [cLM] at e1
            | [_, _], e1, _, _ => simp [cLM] at e1
            | _ :: _ :: _ :: _ :: _, e1, _, _ => simp [cLM] at e1
          · cases h
        · cases h
      · cases h
    · cases h
theorem cSs_ok {f : Stmt → Option IS} (ih : ∀ s i, f s = some i → PS X s (tS Φ (AWof X.K κ Wx) i)) : ∀ (ss : List Stmt) (i : IS), cSs f ss = some i → PSs X ss (tS Φ (AWof X.K κ Wx) i)
  | [], i, h => by cases h; exact ss_nil
  | [s], i, h => ss_one (ih s i h)
  | s :: s' :: r, i, h => by
    simp only [cSs] at h
    split at h
    · rename_i x y e1 e2
      cases h
      exact ss_cons (ih s x e1) (cSs_ok ih (s' :: r) y e2)
    · cases h
/-! ### exceptions -/
theorem _root_.EV.SR.unset {K : PySem.W.Frag} {Θ : Th K} {H : Hp} {σa : ASt} {σ : L2.St} (s : SR Θ H σa σ) (i : Nat) : SR Θ H (σa.set i none) (σ.set i none) := by
  refine ⟨by simpa using s.len, fun j w e => ?_⟩
  by_cases hj : i = j
  · subst hj
    by_cases hi : i < σa.length
    · rw [List.getElem?_set_self hi] at e; cases e
    · rw [List.getElem?_eq_none (by simpa using hi)] at e; cases e
  · rw [List.getElem?_set_ne hj] at e
    obtain ⟨x, e1, r⟩ := s.at_ j w e
    exact ⟨x, by rw [List.getElem?_set_ne hj]; exact e1, r⟩
theorem rais_ok (C : CS Γ N κ Φ ns Wx X) {n : Nat} {e : Expr} {pos : Pos} {s : IS} (h : cRais Γ N ns n e = some s) : PS X (.Raise (some e) none pos) (tS Φ (AWof X.K κ Wx) s) := by
  have Co := C.co
  have S := snd (Γ := Γ) (N := N) (κ := κ) (Φ := Φ) n
  unfold cRais at h
  split at h
  · rename_i x p0 as p1
    split at h
    · rename_i hc
      simp only [Bool.and_eq_true] at hc
      have ex := mkS_cps x
      split at h
      · rename_i g b a e1
        split at h
        · cases h
        · rename_i hg0
          simp only [Option.map_eq_some_iff] at h
          obtain ⟨i, ei, rfl⟩ := h
          obtain ⟨D, k⟩ := Co.cls _ _ e1
          obtain ⟨⟨fI, B, newId, ii, bmB, T⟩, _⟩ := k.one g rfl
          have na : notStar a = true := by simpa using hc.2
          refine (ps_raise Co.cg.calm C.tk (pmk_xc T Co.cg.dp k.rs (by rw [← ex]; exact k.mg) k.kp (Co.gl hc.1.1) (S.E ns Wx X Co _ _ ei) (dbgX hc.1.2) (star_of na))).wk fun D0 σ H ⟨Θ, h, σa, hr, sr, p⟩ => ?_
          have p : PostS ((evE Φ i σa h).fl σa fun y h1 => raisF x.cps.toList g σa [y] h1) Θ H D0 (AWof X.K κ Wx) := by
            have q : PostS (((evE Φ i σa h).bind fun y h1 => (.ok [y] h1 : Rs (List AV))).fl σa fun xs h1 => raisF x.cps.toList g σa xs h1) Θ H D0 (AWof X.K κ Wx) := p
            cases e : evE Φ i σa h <;> rw [e] at q <;> exact q
          refine ⟨Θ, h, σa, hr, sr, (PostS.fl (R := Rep) sr p).imp fun u H1 ⟨Θ1, h1, v, t1, hr1, sr1, r, p1⟩ dx n1 => ?_⟩
          have g0 : g.isEmpty = false := by simpa using hg0
          have p1 : PostS (.ex 0 [.exc x.cps.toList g [v]] σa h1) Θ1 H1 D0 (AWof X.K κ Wx) := by
            simp only [raisF, mkxO, g0] at p1
            exact p1
          have ta : Tr Θ1 H1 Θ1 (upd H1 dx (.xd [(mkS g, u)])) := Tr.newX n1
          exact p1 Θ1 _ σ ta (hr1.newX n1) (sr1.mono ta) _ _ ⟨_, g, D, [v], [u], rfl, k.at_, rfl, .inr ⟨dx, u, rfl, rfl, upd_same, hr1.offN n1⟩, .cons (r.mono ta) .nil⟩
      · rename_i b e1
        cases h
        obtain ⟨D, k⟩ := Co.cls _ _ e1
        obtain ⟨B, newId, initId, bmB, F, q⟩ := k.nil rfl
        refine (ps_raise Co.cg.calm C.tk (pmk_x0 F q k.rs (by rw [← ex]; exact k.mg) k.kp (Co.gl hc.1.1) (dbgX hc.1.2))).wk fun D0 σ H ⟨Θ, h, σa, hr, sr, p⟩ => ?_
        have p : PostS (.ex 0 [.exc x.cps.toList [] []] σa h) Θ H D0 (AWof X.K κ Wx) := p
        exact p Θ H σ Tr.refl hr sr _ _ ⟨_, [], D, [], [], rfl, k.at_, rfl, .inl ⟨rfl, rfl⟩, .nil⟩
      · cases h
    · cases h
  · cases h
/-- in a try's body -/
theorem CS.tr (C : CS Γ N κ Φ ns Wx X) {V : WX} {qs : List (Addr × Obj)} {ye : Value → Shared → Prop} (tk : Takes (X.tr qs ye) V) (po : PassesOwn (model X.prog X.w) X.A X.env ye) : CS Γ N κ Φ ns V (X.tr qs ye) := by
  have Co := C.co
  exact ⟨⟨⟨Co.cg.calm, Co.cg.nd, Co.cg.kind, Co.cg.un, Co.cg.dp⟩, Co.hN, Co.hns, Co.blt, Co.cst, Co.fns, fun σ => passAt tk σ, fun x ci e => let ⟨D, k⟩ := Co.cls x ci e; ⟨D, ⟨k.mg, k.at_, k.kp, k.rs, k.xi, k.one, k.nil, k.kit⟩⟩, Co.exm⟩, C.fn, po, tk, C.stk, C.fr, C.hex⟩
theorem keep_post {x : List Nat} {no : List (List Nat)} {i j : Nat} {cx : CI} {C : Addr} (Co : CO Γ N κ Φ ns Wx X) (hx : Γ.cls.lookup x = some cx) (hC : clsAt X.K x C) (hno : ∀ y ∈ no, y ≠ x ∧ ∃ cy, Γ.cls.lookup y = some cy) {r : Fl} {Θ : Th X.K} {H : Hp} {D : Ends}
    (p : PostS (keepF x no i j r) Θ H D (AWof X.K κ Wx)) : PostS r Θ H D (AWof X.K κ (wKeep X.K (.ref C) i j Wx D)) := by
  cases r with
  | nx σ h => exact p
  | rt v h => exact p
  | bk σ h => exact p
  | ct σ h => exact p
  | bad => exact p
  | ex c as σa h1 =>
    intro Θ' H' σ t hr sr cv d er
    obtain ⟨y, f, D', us, vs, rfl, hD, rfl, dx, rl⟩ := er
    simp only [keepF] at p
    by_cases hy : y = x
    · subst hy
      rw [if_pos rfl] at p
      cases hD.eq hC
      refine ⟨true, by rw [(Co.exm _ _ _ _ _ _ hx hx hC hC).1]; simp, fun _ a na => ?_, fun z => by cases z⟩
      have ta : Tr Θ' H' Θ' (upd H' a (ExK (.ref C) d a)) := Tr.newX na
      have re : Rep Θ' (upd H' a (ExK (.ref C) d a)) (.exc y f us) (.ref a) := .exc hC upd_same (hr.offN na) (dx.of fun p o e g => ⟨ta.keep _ _ e g.1, ta.off e g⟩) (rl.mono ta)
      exact p Θ' _ _ (t.trans ta) (hr.newX na) ((((sr.mono ta).set re i).set re j).unset i)
    · rw [if_neg hy] at p
      by_cases hn : no.contains y = true
      · rw [if_pos hn] at p
        obtain ⟨_, cy, ey⟩ := hno y (by simpa using hn)
        refine ⟨false, by rw [(Co.exm _ _ _ _ _ _ hx ey hC hD).1]; simp [hy], fun z => (by cases z), fun _ => ?_⟩
        exact p Θ' H' σ t hr sr _ _ ⟨y, f, D', us, vs, rfl, hD, rfl, dx, rl⟩
      · rw [if_neg hn] at p; exact p.elim
theorem try_ok (C : CS Γ N κ Φ ns Wx X) {f : Stmt → Option IS} (ih : ∀ (V : WX) (Y : Cx), CS Γ N κ Φ ns V Y → ∀ s i, f s = some i → PS Y s (tS Φ (AWof Y.K κ V) i)) {body : List Stmt} {hs : List ExceptHandler} {pos : Pos} {s : IS} (h : cTry Γ N ns f body hs = some s) : PS X (.Try body hs [] [] pos) (tS Φ (AWof X.K κ Wx) s) := by
  have Co := C.co
  unfold cTry at h
  split at h
  · rename_i x np n m mp n' np' ap hp
    split at h
    · rename_i hc
      simp only [Bool.and_eq_true, decide_eq_true_eq] at hc
      obtain ⟨⟨⟨⟨⟨rfl, hn⟩, hm⟩, hg⟩, hd⟩, hdn⟩ := hc
      split at h
      · rename_i i j cx b e1 e2 e3 e4
        cases h
        obtain ⟨D, k⟩ := Co.cls _ _ e3
        have ex := mkS_cps x
        have hl : ∀ z, X.env.scope.names.lookup z = ns.lookup z := fun z => by rw [Co.hns]
        have ni : X.N[i]? = some n' := by rw [Co.hN]; exact ixOf_get e1
        have nj : X.N[j]? = some m := by rw [Co.hN]; exact ixOf_get e2
        have hmg : X.mg x = some (.ref D) := by rw [← ex]; exact k.mg
        have dn : (n' == ("__debug__" : Str)) = false ∧ (n' == ("__classdict__" : Str)) = false := by
          unfold notDbg at hdn
          simpa only [Bool.and_eq_true, Bool.not_eq_true'] using hdn
        refine (ps_try_keep (c := .ref D) (i := i) (j := j) (tb := fun V => tS Φ (AWof X.K κ V) b) (Wout := Wx) C.stk C.fr C.hex Co.cg.nd ni ((hl _).trans hn) ⟨Co.gl hg, dbgX hd, .inl hmg⟩ C.tk (fun V qs ye tk po => cSs_ok (ih V (X.tr qs ye) (C.tr tk po)) body b e4) fun a oe pn => ?_).wk fun D0 σ H ⟨Θ, h, σa, hr, sr, p⟩ => ⟨Θ, h, σa, hr, sr, keep_post Co e3 k.at_ (fun y my => ?_) p⟩
        · exact pss_one ((ps_set (X := X.suite a ((a, oe) :: pn)) Co.cg.nd nj (.inl ((hl _).trans hm)) (pe_var ni (.inl ((hl _).trans hn)) dn.1 dn.2) (sw_no rfl) (.inr ((hl _).trans hm))).wk fun D σ H ⟨v, e, q⟩ => ⟨v, e, q⟩)
        · obtain ⟨m1, m2⟩ := List.mem_filter.mp my
          obtain ⟨cy, l, _⟩ := mem_clsBy m1
          exact ⟨by simpa using m2, cy, l⟩
      · cases h
    · cases h
  · cases h
theorem cS_okA (mu : List Str) : ∀ (n : Nat) (Wx : WX) (X : Cx), CS Γ N κ Φ ns Wx X → ∀ (s : Stmt) (i : IS), cS Γ N ns mu n s = some i → PS X s (tS Φ (AWof X.K κ Wx) i) := by
  intro n
  induction n with
  | zero => intro Wx X C s i h; simp [cS] at h
  | succ n ihA =>
    intro Wx X C s i h
    have Co := C.co
    have ih := ihA Wx X C
    have S := snd (Γ := Γ) (N := N) (κ := κ) (Φ := Φ) n
    unfold cS at h
    split at h
    · exact cSet_ok C h
    · exact cPar_ok C h
    · split at h
      · rename_i g v e1 e2 e3 e4
        cases h
        exact ps_tset (cG_ok Co (fun x _ => C.fn x) 4 _ g e3).1 rfl (S.E ns Wx X Co _ _ e4) (sole_no e2) (plainT e1)
      · cases h
    · split at h
      · rename_i x y z e1 e2 e3 e4 e5
        cases h
        exact ps_sub e1 (S.E ns Wx X Co _ _ e3) (S.E ns Wx X Co _ _ e4) (S.E ns Wx X Co _ _ e5) (sole_no e2) (sws_plain rfl)
      · cases h
    · split at h
      · rename_i v e1 e2
        cases h
        exact ps_expr' (S.E ns Wx X Co _ _ e2) (sw_no e1)
      · cases h
    · simp only [Option.map_eq_some_iff] at h
      obtain ⟨x, ex, rfl⟩ := h
      exact ps_ret' (cM_ok Co ex)
    · cases h; exact ps_retn
    · split at h
      · rename_i x y z e1 e2 e3
        cases h
        exact ps_ife (S.T ns Wx X Co _ _ e1) (cSs_ok ih _ _ e2) (cSs_ok ih _ _ e3)
      · cases h
    · split at h
      · rename_i x y e1 e2
        cases h
        exact ps_whl C.po (S.T ns Wx X Co _ _ e1) (cSs_ok ih _ _ e2)
      · cases h
    · split at h
      · rename_i j g y e1 e2 e3 e4
        cases h
        exact ps_for' C.po Co.cg (S.I ns Wx X Co _ _ _ e2) (cG_ok Co (fun x _ => C.fn x) 4 _ g e3).1 (cSs_ok ih _ _ e4) fun x => folded_of e1 x
      · cases h
    · exact rais_ok C h
    · exact try_ok C ihA h
    · cases h; exact ps_pass'
    · cases h; exact ps_brk
    · cases h; exact ps_cnt
    · cases h
theorem cS_ok (C : CS Γ N κ Φ ns Wx X) (mu : List Str) (n : Nat) (s : Stmt) (i : IS) (h : cS Γ N ns mu n s = some i) : PS X s (tS Φ (AWof X.K κ Wx) i) := cS_okA mu n Wx X C s i h
end
end EV

set_option Elab.async false
set_option linter.all false
set_option maxRecDepth 100000
set_option maxHeartbeats 4000000
namespace EV
open PySem PySem.Spec PyProof.Rows L2
variable {K : PySem.W.Frag}

/-! ### defs -/
structure IFn where
  np : Nat
  ns : Nat
  body : IS
/-- a def of the text with what the compiler is told of it -/
structure DF where
  x : Str
  args : Arguments
  body : List Stmt
  scope : Scope
  N : List Str
  ps : List Str
  mu : List Str
  kw : List Nat
  ko : List (Nat × List Str × List Nat)
def startA (n : Nat) (as : List AV) : ASt := as.map some ++ List.replicate (n - as.length) none
def Fl.res : Fl → Rs AV
  | .nx _ h => .ok .non h
  | .rt v h => .ok v h
  | .ex c as _ h => .ex c as h
  | _ => .bad
def runFn (Φ : Fns) (f : IFn) (as : List AV) (h : AH) : Rs AV := (evS Φ f.body (startA f.ns as) h).res
abbrev Tab := List (Nat × IFn)
def callN (T : Tab) : Nat → Fns
  | 0 => fun _ _ _ => .bad
  | n + 1 => fun c as h => match T.lookup c with
    | some f => runFn (callN T n) f as h
    | none => .bad
abbrev FUEL : Nat := 60
structure DF.Ok (Γ : GEnv) (d : DF) (f : IFn) : Prop where
  body : cSs (cS Γ d.N d.scope.names d.mu FUEL) d.body = some f.body
  sc : C8.scC d.N d.ps d.scope = true
  np : f.np = d.ps.length
  ns : f.ns = d.N.length
/-- the def stands in K -/
structure DF.In (K : PySem.W.Frag) (mg : Str → Option Value) (d : DF) (fa : Addr) (fd : FuncData) : Prop where
  fn : FunD K d.x d.x d.args d.body d.scope [] [] fa fd
  mg : mg d.x = some (.ref fa)
  bd : Binds K fd d.ps []
  kb : ∀ n ∈ d.kw, KwB K fd d.ps n
  kp : ∀ q ∈ d.ko, KwP K fd d.ps q
theorem SR.start {Θ : Th K} {H : Hp} : ∀ {as : List AV} {vs : List V} {n : Nat}, RepL Θ H as vs → SR Θ H (as.map some ++ List.replicate n none) (vs.map some ++ List.replicate n none)
  | as, vs, n, r => by
    refine ⟨by simp [r.length], fun i v e => ?_⟩
    by_cases hi : i < as.length
    · rw [List.getElem?_append_left (by simpa using hi), List.getElem?_map] at e
      cases e1 : as[i]? with
      | none => rw [e1] at e; cases e
      | some a =>
        rw [e1] at e; cases e
        obtain ⟨u, h1, h2⟩ := r.get e1
        have hi' : i < vs.length := by rw [← r.length]; exact hi
        exact ⟨u, by rw [List.getElem?_append_left (by simpa using hi'), List.getElem?_map, h1]; rfl, h2⟩
    · rw [List.getElem?_append_right (by simpa using hi), List.getElem?_replicate] at e
      split at e <;> cases e
/-- an exception class of the text, by the module alone -/
structure CKm (P : Program) (K : PySem.W.Frag) (mg : Str → Option Value) (x : List Nat) (ci : CI) (C : Addr) : Prop where
  mg : mg (mkS x) = some (.ref C)
  at_ : clsAt K x C
  kp : PySem.W.keepIn K (.ref C) = true
  sb : PySem.W.subIn K (.ref C) (.type "BaseException") = some true
  ty : PySem.W.typeIn K (.ref C) = some (.type "type")
  xi : XI K C
  one : ∀ f, ci.fld = some f → (∃ fI B newId i bmB, XC P K C fI (mkS f) B newId i bmB) ∧ PySem.W.findIn K (.ref C) (mkS f) = some none
  nil : ci.fld = none → ∃ B newId initId bmB, ExcBaseFacts B newId initId bmB ∧ PySem.W.excIn K C bmB newId = true
  kit : ∀ p ∈ xbB, PySem.W.kitOne K (.ref C) (.type p.2) = some (p.2 == ci.base)
structure TabOk (P : Program) (w : World) (K : PySem.W.Frag) (mg : Str → Option Value) (Γ : GEnv) (T : Tab) (D : List DF) : Prop where
  gfn : ∀ x fi, Γ.fns.lookup x = some fi → ∃ d ∈ D, d.x = x ∧ d.ps = fi.ps ∧ d.kw = fi.kw ∧ d.ko = fi.ko
  ir : ∀ d ∈ D, ∃ f, T.lookup (code d.x) = some f ∧ d.Ok Γ f
  blt : ∀ x ∈ BN, mg x = none
  cst : ∀ x av, Γ.consts.lookup x = some av → ∃ u v, mg x = some u ∧ RelV v u ∧ ∀ (Θ : Th K) H, Rep Θ H av v
  ins : ∀ d ∈ D, ∃ fa fd, d.In K mg fa fd
  cls : ∀ x ci, Γ.cls.lookup x = some ci → ∃ C, CKm P K mg x ci C
  exm : ∀ x y cx cy C D, Γ.cls.lookup x = some cx → Γ.cls.lookup y = some cy → clsAt K x C → clsAt K y D → PySem.W.exmOne K (.ref D) (.ref C) = some (decide (y = x)) ∧ PySem.W.kitOne K (.ref D) (.ref C) = some (decide (y = x))
theorem TabOk.ok {P : Program} {w : World} {mg : Str → Option Value} {Γ : GEnv} {T : Tab} {D : List DF} (t : TabOk P w K mg Γ T D) (κ : KX) (base : Heap) :
    ∀ n, ∀ d ∈ D, ∀ fa fd, d.In K mg fa fd → FnOk P w K mg base (L2.CX P w) n fa fd d.ps (spF K κ (callN T n) (code d.x) d.ps.length) := by
  intro n
  induction n with
  | zero =>
    intro d hd fa fd hi
    refine ⟨fun vs H Q E h => h.1, fun A outer s H args us vs Q E _ _ _ _ h => ?_⟩
    obtain ⟨_, Θ, h, as, _, _, p⟩ := h
    exact p.elim
  | succ n ih =>
    intro d hd fa fd hi
    obtain ⟨f, ef, ok⟩ := t.ir d hd
    have S := C8.fnScope_by ok.sc
    refine hi.fn.ok S (fun vs H Q E h => h.1) fun cdv A outer s H vs Q E hr h => ?_
    obtain ⟨hl, Θ, h, as, hh, rl, p⟩ := h
    refine ⟨tS (callN T n) (AWof K κ (fun cls d _ H => E cls d H)) f.body, ?_, Θ, h, startA f.ns as, hh, ?_, ?_⟩
    · refine cSs_ok (fun s i hs => cS_ok (Γ := Γ) (N := d.N) (ns := d.scope.names) ⟨⟨⟨rfl, S.nd, S.kind, by have := hr.un; show (A.deeper _).units + 65 < _; omega, by have := hr.dp; show (A.deeper _).depth + 5 < _; omega⟩, rfl, rfl, t.blt, t.cst, fun x fi hx => ?_, fun σ => passAt (takes_of rfl rfl rfl rfl) σ, fun x ci e => let ⟨D, k⟩ := t.cls x ci e; ⟨D, ⟨k.mg, k.at_, k.kp, raises_own k.sb k.ty, k.xi, k.one, k.nil, k.kit⟩⟩, t.exm⟩, fun _ => rfl, passes_of rfl, takes_of rfl rfl rfl rfl, rfl, rfl, rfl⟩ d.mu FUEL s i hs) d.body f.body ok.body
      obtain ⟨d', hd', rfl, e1, e2, e3⟩ := t.gfn x fi hx
      obtain ⟨fa', fd', hi'⟩ := t.ins d' hd'
      exact ⟨n, fa', fd', by rw [← e1]; exact ih d' hd' fa' fd' hi', hr, hi'.mg, hi'.fn.kp, by rw [← e1]; exact hi'.bd, by rw [← e1, ← e2]; exact hi'.kb, by rw [← e1, ← e3]; exact hi'.kp⟩
    · have : as.length = vs.length := rl.length
      unfold startA L2.start
      rw [ok.ns, this]
      exact SR.start rl
    · have p : Post Rep (match T.lookup (code d.x) with
        | some f => runFn (callN T n) f as h
        | none => .bad) Θ H Q _ := p
      rw [ef] at p
      have p : Post Rep (evS (callN T n) f.body (startA f.ns as) h).res Θ H Q _ := p
      cases e : evS (callN T n) f.body (startA f.ns as) h with
      | nx σ h1 => rw [e] at p; exact fun Θ' H' σ t hr sr => p Θ' H' .non t hr .non
      | rt v h1 => rw [e] at p; exact p
      | ex c as σ h1 => rw [e] at p; exact fun Θ' H' σ t hr sr => p Θ' H' t hr
      | bk σ h => rw [e] at p; exact p.elim
      | ct σ h => rw [e] at p; exact p.elim
      | bad => rw [e] at p; exact p.elim
/-! ### a law's end -/
theorem rep_script {H : Hp} {a : Addr} {ns : List Int} (h : SqL K H a (ns.map V.int)) (o : Only H) : Rep (⟨[], []⟩ : Th K) H (.scr (ns.map .int)) (.ref a) := by
  have off : (⟨[], []⟩ : Th K).off a := ⟨by simp, by simp⟩
  rcases h with (h | ⟨o', h⟩) | ⟨o', its, n, h⟩
  · rcases o a with z | ⟨_, _, z⟩
    · rw [z] at h; cases h
    · rw [z] at h; cases h
  · exact .scr h off (repL_ints ns)
  · exact .scrK ⟨o', its, n, h⟩ (repL_ints ns)
theorem law_sp {κ : KX} {Φ : Fns} {c : Nat} {H : Hp} {a : Addr} {ns : List Int} {h : AH} (hS : SqL K H a (ns.map V.int)) (o : Only H) (e : Φ c [.scr (ns.map .int)] [] = .ok (.bl true) h) : spF K κ Φ c 1 [.ref a] H (fun v _ => v = .bl true) fun _ _ _ => False := by
  refine ⟨rfl, ⟨[], []⟩, [], [.scr (ns.map .int)], ⟨rfl, List.nodup_nil, fun _ h => (by cases h), fun _ h => (by cases h), fun n a o e => (by simp at e)⟩, .cons (rep_script hS o) .nil, ?_⟩
  rw [e]
  intro Θ' H' x _ _ r
  cases r
  rfl
end EV

set_option Elab.async false
set_option linter.all false
set_option maxRecDepth 100000
set_option maxHeartbeats 4000000
namespace EV
open PySem PySem.Spec PyProof.Rows L2
/-! ### the exception classes of the text, read off the module -/
/-- a class of the text: its name, its field, its base, its __init__ -/
structure XD where
  x : List Nat
  fld : Option (List Nat)
  base : String
  args : Arguments
  body : List Stmt
  scope : Scope
def XD.ci (d : XD) : CI := ⟨d.fld, d.base⟩
def XD.pair (d : XD) : List Nat × CI := (d.x, d.ci)
def XD.qual (d : XD) : Str := ⟨(d.x ++ [46, 95, 95, 105, 110, 105, 116, 95, 95]).toArray⟩
/-- a base: what it hands on -/
structure BaseX where
  nam : String
  nw : String
  ini : String
  bm : List Value
def bLook : BaseX := ⟨"LookupError", "LookupError.__new__", "LookupError.__init__", [.type "LookupError", .type "Exception", .type "BaseException", .type "object"]⟩
def bVal : BaseX := ⟨"ValueError", "ValueError.__new__", "ValueError.__init__", [.type "ValueError", .type "Exception", .type "BaseException", .type "object"]⟩
def XD.bx (d : XD) : BaseX := if d.base = "LookupError" then bLook else bVal
structure BaseOk (b : BaseX) : Prop where
  fb : ExcBaseFacts b.nam b.nw b.ini b.bm
  sf : StoreFacts b.nam b.bm "object.__setattr__" "object"
  kx : PySem.W.KxsFacts b.nam b.ini
theorem bLook_ok : BaseOk bLook := ⟨PySem.F.excBase_LookupError, PySem.F.store_LookupError, PySem.W.kxs_LookupError⟩
theorem bVal_ok : BaseOk bVal := ⟨PySem.F.excBase_ValueError, PySem.F.store_ValueError, PySem.W.kxs_ValueError⟩
theorem XD.bok (d : XD) : BaseOk d.bx := by
  unfold XD.bx
  split
  · exact bLook_ok
  · exact bVal_ok
/-- its __init__ is of the shape that is served -/
structure XDok (d : XD) (f : List Nat) : Prop where
  body : ∃ p0 p1 p2 p3 p4 p5 q0 q1 q2 q3, d.body = initBody (mkS f) p0 p1 p2 p3 p4 p5 q0 q1 q2 q3 ∧ ∀ env : Env, ∃ pl : Sem Bool, eval (.Call (.Attribute (.Call (.Name "super" p0) [] [] p1) "__init__" p2) [.Name (mkS f) p3] [] p4) env = (do
      let ov ← attributeBase (.Call (.Name "super" p0) [] [] p1) "__init__" env (eval (.Call (.Name "super" p0) [] [] p1) env)
      standAt p2.atName
      let (fx, first) ← holding [ov] (getMethod ov "__init__" pl)
      callWith p4 fx first (backTo p4 (starEach [.Name (mkS f) p3] env)) [])
  head : ∃ ar, (d.args.posonlyargs ++ d.args.args).head? = some ar ∧ ar.arg = ("self" : Str)
  n1 : d.scope.names.lookup ("super" : Str) = some .globalImplicit
  n2 : d.scope.names.lookup ("__class__" : Str) = some .free
  n3 : d.scope.names.lookup ("self" : Str) = some .local
  n4 : d.scope.names.lookup (mkS f) = some .local
  nc : ∀ x ∈ d.scope.names, x.2 ≠ .cell
  co : d.scope.isCoroutine = false
  ge : d.scope.isGenerator = false
  kd : d.scope.kind = .function
  bind : ∀ (kV doc pm : Value) (an : Option Addr) (cdv ct : Value) (cc : Addr) (a b : Value), bindArgs (PySem.W.ksFn "__init__" d.qual d.args d.body d.scope .none kV doc pm an cdv ct cc) ⟨[a, b], []⟩ = pure [(("self" : Str), a), (mkS f, b)]
  nf : mkS f ≠ ("self" : Str)
  db : (mkS f == ("__debug__" : Str)) = false
/-- what is seen of its __init__ -/
abbrev FnX : Type := Option (Str × Str × Arguments × FuncBody × Scope × Addr × Addr)
def fnX' (K : PySem.W.Frag) (a : Addr) : FnX := match K.lookup a with
  | some ⟨_, _, .func fd, _⟩ => some (fd.name, fd.qualname, fd.params, fd.body, fd.scope, fd.globals, fd.builtins)
  | _ => none
def fileB (K : PySem.W.Frag) (file : Str) (c : Value) : Bool := match c with
  | .ref a => (match K.lookup a with
    | some ⟨_, _, .fields vs, _⟩ => (match (vs[2]? : Option Value) with
      | some (.str z _) => decide (z = file)
      | _ => false)
    | _ => false)
  | _ => false
theorem fileB_ok {K : PySem.W.Frag} {file : Str} {c : Value} (h : fileB K file c = true) : ∃ a, c = .ref a ∧ ∃ ccl cdd vs ccs tf, K.lookup a = some ⟨ccl, cdd, .fields vs, ccs⟩ ∧ vs[2]? = some (.str file tf) := by
  unfold fileB at h
  split at h
  · rename_i a
    split at h
    · rename_i ccl cdd vs ccs e
      split at h
      · rename_i z tf e2
        have := of_decide_eq_true h
        subst this
        exact ⟨a, rfl, ccl, cdd, vs, ccs, tf, e, e2⟩
      · cases h
    · cases h
  · cases h
def cellB (K : PySem.W.Frag) (C : Addr) (cl : List (Str × Addr)) : Bool := match cl with
  | [(n, cc)] => decide (n = ("__class__" : Str)) && (match K.lookup cc with
    | some ⟨_, _, .cell (some (.ref c)), _⟩ => decide (c = C)
    | _ => false)
  | _ => false
theorem cellB_ok {K : PySem.W.Frag} {C : Addr} {cl : List (Str × Addr)} (h : cellB K C cl = true) : ∃ cc, cl = [(("__class__" : Str), cc)] ∧ ∃ a b c, K.lookup cc = some ⟨a, b, .cell (some (.ref C)), c⟩ := by
  unfold cellB at h
  split at h
  · rename_i n cc
    obtain ⟨h1, h2⟩ := He.ba h
    have e1 := of_decide_eq_true h1
    split at h2
    · rename_i a b c sl e
      have e2 := of_decide_eq_true h2
      subst e1 e2
      exact ⟨cc, rfl, a, b, sl, e⟩
    · cases h2
  · cases h
def noneB : Value → Bool
  | .none => true
  | _ => false
theorem noneB_ok {v : Value} (h : noneB v = true) : v = .none := by cases v <;> first | rfl | cases h
def initB (K : PySem.W.Frag) (file : Str) (d : XD) (C a : Addr) : Bool := match K.lookup a with
  | some ⟨_, _, .func fd, _⟩ => PySem.W.codeIn K fd.code d.qual && (fileB K file fd.code && (cellB K C fd.closure && noneB fd.defaults))
  | _ => false
def optB (a : Option Bool) (b : Bool) : Bool := decide (a = some b)
def oneB (K : PySem.W.Frag) (file : Str) (d : XD) (C fI : Addr) (f : List Nat) : Bool :=
  PySem.W.excInitIn K C d.bx.bm d.bx.nw && (He.eqO (PySem.W.findIn K (.ref C) "__init__") (some (some (.ref fI))) && (PySem.W.isFn K (.ref fI) && (He.eqO (PySem.W.findIn K (.ref C) "__setattr__") (some (some (.builtin "object.__setattr__"))) &&
  (PySem.W.excOver K C d.bx.bm && (He.eqO (PySem.W.takerIn K C (mkS f)) (some none) && (optB (PySem.W.mroIn K C (.ref C)) true && (He.eqO (PySem.W.nsIn K mainGlobals "super") (some none) && (He.eqO (PySem.W.nsIn K cStatics "thirdparty.any") (some none) &&
  (He.eqO (PySem.W.ks_superIn K C C "__init__") (some (some (.builtin d.bx.ini))) && (optB (PySem.W.subIn K (.ref C) (.type d.bx.nam)) true && (He.eqO (PySem.W.findIn K (.ref C) (mkS f)) (some none) && initB K file d C fI)))))))))))
def anyB (K : PySem.W.Frag) (d : XD) (C : Addr) : Bool :=
  He.eqO (PySem.W.nsIn K mainGlobals (mkS d.x)) (some (some (.ref C))) && (PySem.W.keepIn K (.ref C) && (optB (PySem.W.subIn K (.ref C) (.type "BaseException")) true && (decide (PySem.W.typeIn K (.ref C) = some (.type "type")) && (xfB K C && ((PySem.W.clsIn K C).isSome &&
  (He.eqO (PySem.W.findIn K (.ref C) "__class__") (some (some (.builtin "object.__class__"))) && (He.eqO (PySem.W.specialIn K (.builtin "object.__class__") "__get__") (some (some (.builtin "getset_descriptor.__get__"))) &&
  (optB (PySem.W.takesIn K (.builtin "object.__class__")) true && (optB (PySem.W.mroIn K C (.type "object")) true && xbB.all fun p => optB (PySem.W.kitOne K (.ref C) (.type p.2)) (p.2 == d.base))))))))))
def XD.C (K : PySem.W.Frag) (d : XD) : Addr := He.ga K (mkS d.x)
def XD.fI (K : PySem.W.Frag) (d : XD) : Addr := He.ma K (d.C K) "__init__"
def XD.ok (K : PySem.W.Frag) (file : Str) (d : XD) : Bool := anyB K d (d.C K) && (match d.fld with
  | some f => oneB K file d (d.C K) (d.fI K) f
  | none => PySem.W.excIn K (d.C K) d.bx.bm d.bx.nw)
def exmB (K : PySem.W.Frag) (xs : List XD) : Bool := xs.all fun d => xs.all fun e => optB (PySem.W.exmOne K (.ref (e.C K)) (.ref (d.C K))) (decide (e.x = d.x)) && optB (PySem.W.kitOne K (.ref (e.C K)) (.ref (d.C K))) (decide (e.x = d.x))
def XD.see (K : PySem.W.Frag) (d : XD) : FnX := match d.fld with
  | some _ => fnX' K (d.fI K)
  | none => none
def XD.val (d : XD) : FnX := match d.fld with
  | some _ => some ("__init__", d.qual, d.args, .stmts d.body, d.scope, mainGlobals, builtinsNs)
  | none => none
abbrev AlX : Type := Bool × List FnX
def obsX (file : Str) (xs : List XD) (K : PySem.W.Frag) : AlX := ((xs.all fun d => d.ok K file) && exmB K xs, xs.map (XD.see K))
def SaysX (file : Str) (xs : List XD) (K : PySem.W.Frag) : Prop := obsX file xs K = (true, xs.map XD.val)
structure PFile (P : Program) (file : Str) : Prop where
  fl : ((P.main.file : Str) == file) = true
  top : (P.main.scope.names.lookup ("super" : Str)).isSome = false
theorem SaysX.cls {file : Str} {xs : List XD} {K : PySem.W.Frag} {h : Heap} {mg : Str → Option Value} {P : Program} (s : SaysX file xs K) (X : K.In h) (G : h.Ns mainGlobals mg) (hP : PFile P file) {d : XD} (m : d ∈ xs) (hd : ∀ f, d.fld = some f → XDok d f) : CKm P K mg d.x d.ci (d.C K) := by
  have s1 := He.ba (show ((xs.all fun d => d.ok K file) && exmB K xs) = true from congrArg (fun z : AlX => z.1) s)
  have o := List.all_eq_true.mp s1.1 d m
  obtain ⟨o1, o2⟩ := He.ba o
  obtain ⟨a1, a⟩ := He.ba o1
  obtain ⟨a2, a⟩ := He.ba a
  obtain ⟨a3, a⟩ := He.ba a
  obtain ⟨a4, a⟩ := He.ba a
  obtain ⟨a5, a⟩ := He.ba a
  obtain ⟨a6, a⟩ := He.ba a
  obtain ⟨a7, a⟩ := He.ba a
  obtain ⟨a8, a⟩ := He.ba a
  obtain ⟨a9, a⟩ := He.ba a
  obtain ⟨a10, a11⟩ := He.ba a
  refine ⟨PySem.W.mg_of X G (He.eqO_ok a1), He.eqO_ok a1, a2, of_decide_eq_true a3, of_decide_eq_true a4, ⟨xfB_ok a5, a6, He.eqO_ok a7, He.eqO_ok a8, of_decide_eq_true a9, of_decide_eq_true a10⟩, fun f hf => ?_, fun hn => ?_, fun p mp => of_decide_eq_true (List.all_eq_true.mp a11 p mp)⟩
  · have hf : d.fld = some f := hf
    rw [hf] at o2
    obtain ⟨b1, b⟩ := He.ba o2
    obtain ⟨b2, b⟩ := He.ba b
    obtain ⟨b3, b⟩ := He.ba b
    obtain ⟨b4, b⟩ := He.ba b
    obtain ⟨b5, b⟩ := He.ba b
    obtain ⟨b6, b⟩ := He.ba b
    obtain ⟨b7, b⟩ := He.ba b
    obtain ⟨b8, b⟩ := He.ba b
    obtain ⟨b9, b⟩ := He.ba b
    obtain ⟨b10, b⟩ := He.ba b
    obtain ⟨b11, b⟩ := He.ba b
    obtain ⟨b12, b13⟩ := He.ba b
    have q := hd f hf
    have eo := d.bok
    refine ⟨⟨d.fI K, d.bx.nam, d.bx.nw, d.bx.ini, d.bx.bm, ⟨eo.fb, eo.sf, eo.kx, b1, He.eqO_ok b2, b3, He.eqO_ok b4, b5, He.eqO_ok b6, (xfB_ok a5).hdC, ?_, a6, of_decide_eq_true b7, He.eqO_ok b8, He.eqO_ok b9, He.eqO_ok b10, of_decide_eq_true b11, hP.top, q.nf, q.db⟩⟩, He.eqO_ok b12⟩
    have e : xs.map (XD.see K) = xs.map XD.val := congrArg (fun z : AlX => z.2) s
    have e1 : d.see K = d.val := by
      obtain ⟨i, hi⟩ := List.mem_iff_getElem?.mp m
      have e2 : (xs.map (XD.see K))[i]? = (xs.map XD.val)[i]? := by rw [e]
      rw [List.getElem?_map, List.getElem?_map, hi] at e2
      exact Option.some.inj e2
    unfold XD.see XD.val at e1
    rw [hf] at e1
    dsimp only at e1
    unfold fnX' at e1
    unfold initB at b13
    cases k : K.lookup (d.fI K) with
    | none => rw [k] at b13; cases b13
    | some ob =>
      obtain ⟨oc, od, dt, osl⟩ := ob
      rw [k] at b13 e1
      cases dt with
      | func fd =>
        obtain ⟨n1, n2, n3, n4, n5, n6, n7, n8, n9, n10, n11, n12, n13, n14, n15⟩ := fd
        dsimp only at b13 e1
        simp only [Option.some.injEq, Prod.mk.injEq] at e1
        obtain ⟨h1, h2, h3, h4, h5, h6, h7⟩ := e1
        subst h1 h2 h3 h4 h5 h6 h7
        obtain ⟨c1, c⟩ := He.ba b13
        obtain ⟨c2, c⟩ := He.ba c
        obtain ⟨c3, c4⟩ := He.ba c
        obtain ⟨cda, rfl, ccl, cdd, vs, ccs, tf, l1, l2⟩ := fileB_ok c2
        obtain ⟨cc, rfl, ca, cb, c5, l3⟩ := cellB_ok c3
        cases noneB_ok c4
        obtain ⟨p0, p1, p2, p3, p4, p5, q0, q1, q2, q3, eb, ev⟩ := q.body
        have qb := q.bind
        rw [eb] at qb
        exact ⟨oc, od, osl, d.qual, d.args, d.scope, .none, n9, n10, n11, n12, cda, n14, cc, p0, p1, p2, p3, p4, p5, q0, q1, q2, q3, (by rw [eb]), c1, q.head, ⟨ccl, cdd, vs, ccs, file, tf, l1, l2, hP.fl⟩, ⟨ca, cb, c5, l3⟩, q.n1, q.n2, q.n3, q.n4, q.nc, q.co, q.ge, q.kd, ev, fun s a b => .of_eq (qb _ _ _ _ _ _ _ a b)⟩
      | _ => cases b13
  · have hn : d.fld = none := hn
    rw [hn] at o2
    exact ⟨_, _, _, _, d.bok.fb, o2⟩
theorem clsAt.ga {K : PySem.W.Frag} {x : List Nat} {C : Addr} (h : clsAt K x C) : C = He.ga K (mkS x) := by
  unfold clsAt at h
  unfold He.ga
  rw [h]
theorem SaysX.exm {file : Str} {xs : List XD} {K : PySem.W.Frag} (s : SaysX file xs K) {d e : XD} (m : d ∈ xs) (me : e ∈ xs) : PySem.W.exmOne K (.ref (e.C K)) (.ref (d.C K)) = some (decide (e.x = d.x)) ∧ PySem.W.kitOne K (.ref (e.C K)) (.ref (d.C K)) = some (decide (e.x = d.x)) := by
  have s1 := (He.ba (show ((xs.all fun d => d.ok K file) && exmB K xs) = true from congrArg (fun z : AlX => z.1) s)).2
  obtain ⟨z1, z2⟩ := He.ba (List.all_eq_true.mp (List.all_eq_true.mp s1 d m) e me)
  exact ⟨of_decide_eq_true z1, of_decide_eq_true z2⟩
/-! ### the Hook -/
def asX (g : Addr → Option Obj) (n : Nat) : List Addr := cStatics :: He.asD g n
abbrev AlT : Type := He.AlD × AlX
def obsT (n : Nat) (fa : List He.Fa) (fn : List He.DefD) (file : Str) (xs : List XD) (g : Addr → Option Obj) : AlT := (He.obsD fa fn (He.frG g (asX g n)), obsX file xs (He.frG g (asX g n)))
def hookT (n : Nat) (fa : List He.Fa) (fn : List He.DefD) (file : Str) (xs : List XD) : PySem.W.Hook where
  α := AlT
  obs := fun s => obsT n fa fn file xs s.heap.get?
  val := fun _ => (He.valD fn, (true, xs.map XD.val))
  says := fun _ h => ∃ K : PySem.W.Frag, K.In h ∧ He.SaysD fa fn K ∧ SaysX file xs K
  of := fun _ _ e => ⟨_, He.frG_in, congrArg (fun z : AlT => z.1) e, congrArg (fun z : AlT => z.2) e⟩
  keeps := fun _ _ _ ⟨K, hK, c⟩ k => ⟨K, PySem.W.Frag.In.keeps hK k, c⟩
theorem obsT_eq {n : Nat} {fa : List He.Fa} {fn : List He.DefD} {file : Str} {xs : List XD} {g : Addr → Option Obj} {s : Shared} (h : ∀ a, g a = s.heap.get? a) : obsT n fa fn file xs g = (hookT n fa fn file xs).obs s := by
  have e : g = s.heap.get? := funext h
  rw [e] <;> rfl
end EV

set_option Elab.async false
set_option linter.all false
set_option maxRecDepth 100000
set_option maxHeartbeats 4000000
namespace EV
open PySem PySem.Spec PyProof.Rows L2

/-- a constant of the module -/
def cstFa : Str × AV → List He.Fa
  | (x, .int i) => [.int x i]
  | (x, .str s) => [.str x (mkS s)]
  | _ => []
def faOf (Γ : GEnv) (D : List DF) : List He.Fa := D.map (fun d => .glo d.x) ++ (BN.map .free ++ (Γ.consts.map cstFa).flatten)
def mkD (d : DF) : He.DefD := ⟨(d.x, none), d.x, d.x, d.args, d.body, d.scope, [], []⟩
def fnOf (D : List DF) : List He.DefD := D.map mkD
def cstOk : Str × AV → Bool
  | (_, .int _) => true
  | (_, .str _) => true
  | _ => false
theorem mem_lookX {x : List Nat} {ci : CI} : ∀ {l : List (List Nat × CI)}, l.lookup x = some ci → (x, ci) ∈ l
  | [], e => by cases e
  | (y, c) :: l, e => by
    rw [List.lookup_cons] at e
    split at e
    · rename_i h
      cases e
      rw [beq_iff_eq.mp h]
      exact List.mem_cons_self ..
    · exact List.mem_cons_of_mem _ (mem_lookX e)
/-- how a def binds -/
structure BindOk (d : DF) : Prop where
  pos : ∀ (kV doc pm : Value) (an : Option Addr) (cdv ct : Value) (us : List Value), us.length = d.ps.length → bindArgs (PySem.W.fnOf d.x d.x d.args d.body d.scope .none kV doc pm an cdv ct) ⟨us, []⟩ = pure (d.ps.zip us)
  kw : ∀ n ∈ d.kw, ∀ (kV doc pm : Value) (an : Option Addr) (cdv ct : Value) (us ws : List Value), us.length = n → n + ws.length = d.ps.length → bindArgs (PySem.W.fnOf d.x d.x d.args d.body d.scope .none kV doc pm an cdv ct) ⟨us, (d.ps.drop n).zip ws⟩ = pure (d.ps.zip (us ++ ws))
  ko : ∀ q ∈ d.ko, ∀ (kV doc pm : Value) (an : Option Addr) (cdv ct : Value) (us ws : List Value), us.length = q.1 → ws.length = q.2.1.length → ∃ zs, permG q.2.2 (us ++ ws) = some zs ∧ bindArgs (PySem.W.fnOf d.x d.x d.args d.body d.scope .none kV doc pm an cdv ct) ⟨us, q.2.1.zip ws⟩ = pure (d.ps.zip zs)
theorem BindOk.in_ {d : DF} (b : BindOk d) {K : PySem.W.Frag} {mg : Str → Option Value} {fa : Addr} {fd : FuncData} (F : FunD K d.x d.x d.args d.body d.scope [] [] fa fd) (h : mg d.x = some (.ref fa)) : d.In K mg fa fd := by
  refine ⟨F, h, F.bindsN b.pos, fun n hn s us ws X h1 h2 => ?_, fun q hq s us ws X h1 h2 => ?_⟩
  · obtain ⟨oc, od, dV, kV, doc, pm, an, cdv, ct, osl, rfl, lk, hcd, hD, hK⟩ := F.ex
    rcases hD with ⟨_, rfl⟩ | ⟨e, _⟩
    · exact .of_eq (b.kw n hn kV doc pm an cdv ct us ws h1 h2)
    · exact absurd rfl e
  · obtain ⟨oc, od, dV, kV, doc, pm, an, cdv, ct, osl, rfl, lk, hcd, hD, hK⟩ := F.ex
    rcases hD with ⟨_, rfl⟩ | ⟨e, _⟩
    · obtain ⟨zs, e1, e2⟩ := b.ko q hq kV doc pm an cdv ct us ws h1 h2
      exact ⟨zs, e1, .of_eq e2⟩
    · exact absurd rfl e
structure Static (Γ : GEnv) (T : Tab) (D : List DF) (xs : List XD) : Prop where
  gfn : ∀ x fi, Γ.fns.lookup x = some fi → ∃ d ∈ D, d.x = x ∧ d.ps = fi.ps ∧ d.kw = fi.kw ∧ d.ko = fi.ko
  ir : ∀ d ∈ D, ∃ f, T.lookup (code d.x) = some f ∧ d.Ok Γ f
  cs : Γ.consts.all cstOk = true
  bd : ∀ d ∈ D, BindOk d
  hx : Γ.cls = xs.map XD.pair
  xk : ∀ d ∈ xs, ∀ f, d.fld = some f → XDok d f
theorem Static.ok {Γ : GEnv} {T : Tab} {D : List DF} {xs : List XD} {file : Str} (S : Static Γ T D xs) {P : Program} {w : World} {K : PySem.W.Frag} {h : Heap} {mg : Str → Option Value} (X : K.In h) (G : h.Ns mainGlobals mg) (c : He.SaysD (faOf Γ D) (fnOf D) K) (cx : SaysX file xs K) (hP : PFile P file) : TabOk P w K mg Γ T D := by
  have fact : ∀ f ∈ faOf Γ D, f.ok K = true := fun f m => by
    obtain ⟨i, e⟩ := List.mem_iff_getElem?.mp m
    exact c.fact i e
  have mem : ∀ x ci, Γ.cls.lookup x = some ci → ∃ d ∈ xs, d.x = x ∧ d.ci = ci := fun x ci e => by
    rw [S.hx] at e
    obtain ⟨d, m, e1⟩ := List.mem_map.mp (mem_lookX e)
    simp only [XD.pair, Prod.mk.injEq] at e1
    exact ⟨d, m, e1⟩
  refine ⟨S.gfn, S.ir, fun x m => ?_, fun x av e => ?_, fun d m => ?_, fun x ci e => ?_, fun x y cx0 cy C D0 e1 e2 h1 h2 => ?_⟩
  · exact He.free_ok X G (fact (.free x) (by unfold faOf; exact List.mem_append_right _ (List.mem_append_left _ (List.mem_map_of_mem m))))
  · have m := PySem.mem_of_lookup e
    have o := List.all_eq_true.mp S.cs _ m
    have mm : ∀ f ∈ cstFa (x, av), f.ok K = true := fun f hf => fact f (by
      unfold faOf
      exact List.mem_append_right _ (List.mem_append_right _ (List.mem_flatten.mpr ⟨_, List.mem_map_of_mem m, hf⟩)))
    cases av with
    | int i =>
      obtain ⟨t, ht⟩ := He.int_ok X G (mm (.int x i) (by simp [cstFa]))
      exact ⟨_, .int i, ht, ⟨t, rfl⟩, fun _ _ => .int i⟩
    | str s =>
      obtain ⟨t, ht⟩ := He.str_ok X G (mm (.str x (mkS s)) (by simp [cstFa]))
      exact ⟨_, .str (mkS s), ht, ⟨t, rfl⟩, fun _ _ => .str s⟩
    | _ => cases o
  · obtain ⟨i, e⟩ := List.mem_iff_getElem?.mp m
    obtain ⟨fd, F⟩ := c.def_ i (d := mkD d) (by unfold fnOf; rw [List.getElem?_map, e]; rfl)
    have g := He.glo_ok X G (fact (.glo d.x) (by unfold faOf; exact List.mem_append_left _ (List.mem_map_of_mem m)))
    exact ⟨_, fd, (S.bd d m).in_ F g⟩
  · obtain ⟨d, m, rfl, rfl⟩ := mem x ci e
    exact ⟨_, cx.cls X G hP m (S.xk d m)⟩
  · obtain ⟨d, m, rfl, _⟩ := mem x cx0 e1
    obtain ⟨d', m', rfl, _⟩ := mem y cy e2
    rw [h1.ga, h2.ga]
    exact cx.exm m m'
/-- a law's def -/
theorem Static.law {Γ : GEnv} {T : Tab} {D : List DF} {xs : List XD} {file : Str} (S : Static Γ T D xs) {P : Program} {w : World} {K : PySem.W.Frag} {h : Heap} {mg : Str → Option Value} {f : Addr} {d : DF} {x : Str} (X : K.In h) (G : h.Ns mainGlobals mg) (c : He.SaysD (faOf Γ D) (fnOf D) K) (cx : SaysX file xs K) (hP : PFile P file) (m : d ∈ D) (hp : d.ps = [x])
    (hf : mg d.x = some (.ref f)) (n : Nat) : ∃ fd : FuncData, (∀ (s : Shared) (v : Value), BindsTo s fd ⟨[v], []⟩ [(x, v)]) ∧ ∀ base : Heap, K.In base → base.Ns mainGlobals mg → FnOk P w K mg base (L2.CX P w) n f fd [x] (spF K (fun _ => none) (callN T n) (code d.x) 1) := by
  have t := S.ok (P := P) (w := w) X G c cx hP
  obtain ⟨fa, fd, hi⟩ := t.ins d m
  have e := hf.symm.trans hi.mg
  cases e
  refine ⟨fd, fun s v => ?_, fun base _ _ => ?_⟩
  · have b := FunD.bindsA (ps := d.ps) hi.fn (S.bd d m).pos s [v] (by rw [hp]; rfl)
    rw [hp] at b
    exact b
  · have := t.ok (fun _ => none) base n d m _ fd hi
    rw [hp] at this
    exact this
/-- the table that the compiler makes -/
def tabOf (Γ : GEnv) (d : DF) : Nat × IFn := (code d.x, ⟨d.ps.length, d.N.length, (cSs (cS Γ d.N d.scope.names d.mu FUEL) d.body).getD .brk⟩)
def mkT (Γ : GEnv) (D : List DF) : Tab := D.map (tabOf Γ)
def okD (Γ : GEnv) (d : DF) : Bool := (cSs (cS Γ d.N d.scope.names d.mu FUEL) d.body).isSome && C8.scC d.N d.ps d.scope
def okG (Γ : GEnv) (D : List DF) : Bool := Γ.fns.all fun p => D.any fun d => decide (d.x = p.1) && decide (d.ps = p.2.ps) && decide (d.kw = p.2.kw) && decide (d.ko = p.2.ko)
theorem lookup_tab {Γ : GEnv} : ∀ {D : List DF} {d : DF}, (D.map fun d => code d.x).Nodup → d ∈ D → (mkT Γ D).lookup (code d.x) = some (tabOf Γ d).2
  | [], d, _, m => by cases m
  | e :: D, d, nd, m => by
    rw [List.map_cons, List.nodup_cons] at nd
    show List.lookup (code d.x) (tabOf Γ e :: mkT Γ D) = _
    rw [show tabOf Γ e = (code e.x, (tabOf Γ e).2) from rfl, List.lookup_cons]
    rcases List.mem_cons.mp m with h | h
    · subst h; simp
    · have ne : (code d.x == code e.x) = false := by
        rw [beq_eq_false_iff_ne]
        exact fun z => nd.1 (z ▸ List.mem_map_of_mem (f := fun d : DF => code d.x) h)
      rw [ne]
      exact lookup_tab nd.2 h
theorem Static.mkS {Γ : GEnv} {D : List DF} {xs : List XD} (h1 : okG Γ D = true) (h2 : D.all (okD Γ) = true) (h3 : (D.map fun d => code d.x).Nodup) (h4 : Γ.consts.all cstOk = true) (h5 : ∀ d ∈ D, BindOk d) (h6 : Γ.cls = xs.map XD.pair) (h7 : ∀ d ∈ xs, ∀ f, d.fld = some f → XDok d f) : Static Γ (mkT Γ D) D xs := by
  refine ⟨fun x fi e => ?_, fun d m => ?_, h4, h5, h6, h7⟩
  · have q := List.all_eq_true.mp h1 _ (PySem.mem_of_lookup e)
    obtain ⟨d, m, q⟩ := List.any_eq_true.mp q
    simp only [Bool.and_eq_true, decide_eq_true_eq] at q
    exact ⟨d, m, q.1.1.1, q.1.1.2, q.1.2, q.2⟩
  · have q := List.all_eq_true.mp h2 d m
    unfold okD at q
    simp only [Bool.and_eq_true] at q
    refine ⟨_, lookup_tab h3 m, ?_, q.2, rfl, rfl⟩
    obtain ⟨b, e⟩ := Option.isSome_iff_exists.mp q.1
    show _ = some ((cSs (cS Γ d.N d.scope.names d.mu FUEL) d.body).getD .brk)
    rw [e]; rfl
theorem fnOk_cx {P : Program} {w : World} {K : PySem.W.Frag} {mg : Str → Option Value} {base : Heap} {CX CX' : CXT} {k : Nat} {f : Addr} {fd : FuncData} {ps : List Str} {sp : Sp} (F : FnOk P w K mg base CX k f fd ps sp) (h : ∀ outer H s E e s', CX outer H s E e s' → CX' outer H s E e s') : FnOk P w K mg base CX' k f fd ps sp :=
  ⟨F.len, fun A outer s H args us vs Q E hr he hb hv hs => codeAny_mono (F.run A outer s H args us vs Q E hr he hb hv hs) fun r s' q => by
    cases r with
    | ok fl => cases fl <;> exact q
    | error e => exact h _ _ _ _ _ _ q⟩
/-- what leaves, in whatever world -/
def CXw (P : Program) : CXT := fun outer H s E e s' => ∃ w, L2.CX P w outer H s E e s'
theorem CXw.no {P : Program} {H : Hp} {s : Shared} {e : Value} {s' : Shared} (h : CXw P [] H s (fun _ _ _ => False) e s') : False := by
  obtain ⟨w, a, B, H', cls, d, _, _, _, _, _, _, _, z⟩ := h
  exact z
/-- the end of a law -/
theorem Static.fin {Γ : GEnv} {D : List DF} {xs : List XD} {file : Str} (S : Static Γ (mkT Γ D) D xs) {P : Program} {w : World} {K : PySem.W.Frag} {h : Heap} {mg : Str → Option Value} {f : Addr} {d : DF} {x : Str} (X : K.In h) (G : h.Ns mainGlobals mg) (c : He.SaysD (faOf Γ D) (fnOf D) K) (cx : SaysX file xs K) (hP : PFile P file) (m : d ∈ D) (hp : d.ps = [x])
    (hf : mg d.x = some (.ref f)) (n : Nat) (sem : ∀ ns : List Int, ns.length ≤ 63 → ∃ h, callN (mkT Γ D) n (EV.code d.x) [.scr (ns.map .int)] [] = .ok (.bl true) h) :
    ∃ (K : PySem.W.Frag) (fd : FuncData) (sp : Sp), K.In h ∧ (∀ (s : Shared) (u : Value), BindsTo s fd ⟨[u], []⟩ [(x, u)]) ∧
      (∀ (H : Hp) (a : Addr) (ns : List Int), ns.length ≤ 63 → Only H → SqL K H a (ns.map V.int) → sp [.ref a] H (fun v _ => v = .bl true) fun _ _ _ => False) ∧
      ∀ base : Heap, K.In base → base.Ns mainGlobals mg → FnOk P w K mg base (CXw P) n f fd [x] sp := by
  obtain ⟨fd, hb, hF⟩ := S.law (P := P) (w := w) X G c cx hP m hp hf n
  refine ⟨K, fd, _, X, hb, fun H a ns hl hO hS => ?_, fun base h1 h2 => fnOk_cx (hF base h1 h2) fun _ _ _ _ _ _ z => ⟨w, z⟩⟩
  obtain ⟨h, e⟩ := sem ns hl
  exact law_sp hS hO e
end EV

set_option Elab.async false
set_option linter.all false
set_option maxRecDepth 100000
namespace EV

/-! ### values without refs -/
def pv : Nat → AV → Bool
  | _, .non => true
  | _, .bl _ => true
  | _, .int _ => true
  | _, .str _ => true
  | n + 1, .tup l => l.all (pv n)
  | n + 1, .lst l => l.all (pv n)
  | n + 1, .scr l => l.all (pv n)
  | _, _ => false
termination_by structural n => n
theorem mapO_id {f : AV → Option AV} : ∀ {l : List AV}, (∀ x ∈ l, f x = some x) → mapO f l = some l
  | [], _ => rfl
  | x :: l, h => by
    unfold mapO
    rw [h x (List.mem_cons_self ..), mapO_id fun y m => h y (List.mem_cons_of_mem _ m)]
theorem frz_pv {b : Nat} {h : AH} : ∀ (n : Nat) (v : AV), pv n v = true → ∀ f, n ≤ f → frz b h f v = some v := by
  intro n
  induction n with
  | zero => intro v e f hf; cases v <;> simp [pv] at e <;> cases f <;> rfl
  | succ n ih =>
    intro v e f hf
    obtain ⟨f, rfl⟩ : ∃ g, f = g + 1 := ⟨f - 1, by omega⟩
    have go : ∀ l : List AV, l.all (pv n) = true → mapO (frz b h f) l = some l := fun l hl => mapO_id fun x m => ih x (List.all_eq_true.mp hl x m) f (by omega)
    cases v with
    | tup l => simp only [pv] at e; simp only [frz, go l e, Option.map_some]
    | lst l => simp only [pv] at e; simp only [frz, go l e, Option.map_some]
    | scr l => simp only [pv] at e; simp only [frz, go l e, Option.map_some]
    | ref n => simp [pv] at e
    | exc => simp [pv] at e
    | _ => rfl
/-- a heap of lists of such -/
def okO : AObj → Bool
  | .lst l => l.all (pv 38)
def hOk (h : AH) : Prop := ∀ o ∈ h, okO o = true
theorem frzO_pv {b : Nat} {h : AH} {o : AObj} (e : okO o = true) : frzO b h o = some o := by
  cases o with
  | lst l =>
    simp only [okO] at e
    simp only [frzO, mapO_id fun x m => frz_pv 38 x (List.all_eq_true.mp e x m) 40 (by omega), Option.map_some]
theorem frzH_pv {b : Nat} {h : AH} : ∀ {l : List AObj}, (∀ o ∈ l, okO o = true) → frzH b h l = some l
  | [], _ => rfl
  | o :: l, e => by
    unfold frzH
    rw [frzO_pv (e o (List.mem_cons_self ..)), frzH_pv fun p m => e p (List.mem_cons_of_mem _ m)]
theorem shut_pv {h ex : AH} {v : AV} (hh : hOk h) (hv : pv 40 v = true) : shut h.length v (h ++ ex) = .ok v h := by
  unfold shut
  rw [frz_pv 40 v hv 40 (by omega), List.take_left, frzH_pv hh]
/-- .. where the call changed the heap -/
theorem shut_ch {h h' ex : AH} {v : AV} (hl : h'.length = h.length) (hh : hOk h') (hv : pv 40 v = true) : shut h.length v (h' ++ ex) = .ok v h' := by
  rw [← hl]; exact shut_pv hh hv
/-- a call as its caller sees it -/
def callV (Φ : Fns) (c : Nat) (xs : List AV) (h : AH) : Rs AV := (Φ c xs h).bind fun v h2 => shut h.length v h2
theorem evE_call (Φ : Fns) (f : Nat) (s : IE) (σ : ASt) (h : AH) : evE Φ (.call f s) σ h = (evL Φ s σ h).bind fun xs h1 => callV Φ f xs h1 := rfl
theorem callV_of {Φ : Fns} {c : Nat} {xs : List AV} {h ex : AH} {v : AV} (hh : hOk h) (hv : pv 40 v = true) (e : Φ c xs h = .ok v (h ++ ex)) : callV Φ c xs h = .ok v h := by
  unfold callV
  rw [e]
  exact shut_pv hh hv
theorem callN_of {T : Tab} {m : Nat} (hm : 1 ≤ m) {c : Nat} {f : IFn} (hl : T.lookup c = some f) (as : List AV) (h : AH) : callN T m c as h = runFn (callN T (m - 1)) f as h := by
  obtain ⟨k, rfl⟩ : ∃ k, m = k + 1 := ⟨m - 1, by omega⟩
  show (match T.lookup c with
    | some f => runFn (callN T k) f as h
    | none => .bad) = _
  rw [hl]; rfl
/-! loops -/
theorem compL_map {α : Type} {f : AV → AH → Rs (Option AV)} {e : α → AV} {g : α → AV} {h : AH} : ∀ {xs : List α}, (∀ x ∈ xs, f (e x) h = .ok (some (g x)) h) → compL f (xs.map e) h = .ok (xs.map g) h
  | [], _ => rfl
  | x :: xs, hf => by
    simp only [List.map_cons, compL, hf x (List.mem_cons_self ..), Rs.bind_ok, compL_map fun y m => hf y (List.mem_cons_of_mem _ m), cns_some]
theorem compL_filter {α : Type} {f : AV → AH → Rs (Option AV)} {e : α → AV} {g : α → AV} {c : α → Bool} {h : AH} : ∀ {xs : List α}, (∀ x ∈ xs, f (e x) h = .ok (if c x then some (g x) else none) h) → compL f (xs.map e) h = .ok ((xs.filter c).map g) h
  | [], _ => rfl
  | x :: xs, hf => by
    simp only [List.map_cons, compL, hf x (List.mem_cons_self ..), Rs.bind_ok, compL_filter fun y m => hf y (List.mem_cons_of_mem _ m)]
    cases q : c x
    · rw [List.filter_cons_of_neg (by simp [q])]; rfl
    · rw [List.filter_cons_of_pos q]; rfl
end EV

set_option Elab.async false
set_option linter.all false
set_option maxRecDepth 100000
namespace EV

/-- what follows, hidden: rewriting does not enter it -/
inductive Hid {α : Type _} (a : α) : Type
  | mk : Hid a
/-! ### what a run is to reach -/
def wp {α : Type} (r : Rs α) (P : α → AH → Prop) (t : Hid P := Hid.mk) : Prop := match r with
  | .ok a h => P a h
  | _ => False
@[simp] theorem wp_ok {α : Type} (a : α) (h : AH) (P : α → AH → Prop) : wp (.ok a h) P = P a h := (rfl)
@[simp] theorem wp_bad {α : Type} (P : α → AH → Prop) : wp (.bad : Rs α) P = False := (rfl)
@[simp] theorem wp_bind {α β : Type} (r : Rs α) (k : α → AH → Rs β) (P : β → AH → Prop) : wp (r.bind k) P = wp r fun a h => wp (k a h) P := by cases r <;> rfl
@[simp] theorem wp_ofO {α : Type} (o : Option α) (h : AH) (P : α → AH → Prop) : wp (ofO o h) P = ∃ a, o = some a ∧ P a h := by
  cases o <;> simp [ofO]
theorem wp_mono {α : Type} {r : Rs α} {P Q : α → AH → Prop} (w : wp r P) (f : ∀ a h, P a h → Q a h) : wp r Q := by
  cases r <;> first | exact f _ _ w | exact w
theorem wp_iff {α : Type} {r : Rs α} {P : α → AH → Prop} : wp r P ↔ ∃ a h, r = .ok a h ∧ P a h := by
  constructor
  · intro w; cases r <;> first | exact ⟨_, _, rfl, w⟩ | exact w.elim
  · rintro ⟨a, h, rfl, p⟩; exact p
@[simp] theorem wp_nox {α : Type} (r : Rs α) (P : α → AH → Prop) : wp r.nox P = wp r P := by cases r <;> rfl
def Rs.bnd {α β : Type} (r : Rs α) (k : α → AH → Rs β) (t : Hid k := Hid.mk) : Rs β := r.bind k
def Rs.fln {α : Type} (r : Rs α) (σ : ASt) (k : α → AH → Fl) (t : Hid k := Hid.mk) : Fl := r.fl σ k
def Fl.thn (r : Fl) (k : ASt → AH → Fl) (t : Hid k := Hid.mk) : Fl := r.then k
def Fl.trn (r : Fl) (k : ASt → AH → Fl) (t : Hid k := Hid.mk) : Fl := r.turn k
def ofOH {α : Type} (o : Option α) (k : α → Fl) (t : Hid k := Hid.mk) : Fl := ofOF o k
@[simp] theorem bnd_ok {α β : Type} (a : α) (h : AH) (k : α → AH → Rs β) : (Rs.ok a h).bnd k = k a h := (rfl)
@[simp] theorem bnd_bad {α β : Type} (k : α → AH → Rs β) : (Rs.bad : Rs α).bnd k = .bad := (rfl)
@[simp] theorem fln_ok {α : Type} (a : α) (h : AH) (σ : ASt) (k : α → AH → Fl) : (Rs.ok a h).fln σ k = k a h := (rfl)
@[simp] theorem fln_bad {α : Type} (σ : ASt) (k : α → AH → Fl) : (Rs.bad : Rs α).fln σ k = .bad := (rfl)
@[simp] theorem thn_nx (σ : ASt) (h : AH) (k : ASt → AH → Fl) : (Fl.nx σ h).thn k = k σ h := (rfl)
@[simp] theorem thn_rt (v : AV) (h : AH) (k : ASt → AH → Fl) : (Fl.rt v h).thn k = .rt v h := (rfl)
@[simp] theorem thn_bad (k : ASt → AH → Fl) : Fl.bad.thn k = .bad := (rfl)
@[simp] theorem trn_nx (σ : ASt) (h : AH) (k : ASt → AH → Fl) : (Fl.nx σ h).trn k = k σ h := (rfl)
@[simp] theorem trn_ct (σ : ASt) (h : AH) (k : ASt → AH → Fl) : (Fl.ct σ h).trn k = k σ h := (rfl)
@[simp] theorem trn_bk (σ : ASt) (h : AH) (k : ASt → AH → Fl) : (Fl.bk σ h).trn k = .nx σ h := (rfl)
@[simp] theorem trn_rt (v : AV) (h : AH) (k : ASt → AH → Fl) : (Fl.rt v h).trn k = .rt v h := (rfl)
@[simp] theorem trn_bad (k : ASt → AH → Fl) : Fl.bad.trn k = .bad := (rfl)
@[simp] theorem ofOH_some {α : Type} (a : α) (k : α → Fl) : ofOH (some a) k = k a := (rfl)
@[simp] theorem ofOH_none {α : Type} (k : α → Fl) : ofOH (none : Option α) k = .bad := (rfl)
@[simp] theorem wp_bnd {α β : Type} (r : Rs α) (k : α → AH → Rs β) (P : β → AH → Prop) : wp (r.bnd k) P = wp r fun a h => wp (k a h) P := by cases r <;> rfl
/-- of a statement -/
def wf (r : Fl) (N : ASt → AH → Prop) (R : AV → AH → Prop) (t : Hid N := Hid.mk) (u : Hid R := Hid.mk) : Prop := match r with
  | .nx σ h => N σ h
  | .rt v h => R v h
  | _ => False
@[simp] theorem wf_nx (σ : ASt) (h : AH) (N : ASt → AH → Prop) (R : AV → AH → Prop) : wf (.nx σ h) N R = N σ h := (rfl)
@[simp] theorem wf_rt (v : AV) (h : AH) (N : ASt → AH → Prop) (R : AV → AH → Prop) : wf (.rt v h) N R = R v h := (rfl)
@[simp] theorem wf_bad (N : ASt → AH → Prop) (R : AV → AH → Prop) : wf .bad N R = False := (rfl)
@[simp] theorem wf_then (r : Fl) (k : ASt → AH → Fl) (N : ASt → AH → Prop) (R : AV → AH → Prop) : wf (r.then k) N R = wf r (fun σ h => wf (k σ h) N R) R := by cases r <;> rfl
@[simp] theorem wf_fl {α : Type} (r : Rs α) (σ : ASt) (k : α → AH → Fl) (N : ASt → AH → Prop) (R : AV → AH → Prop) : wf (r.fl σ k) N R = wp r fun a h => wf (k a h) N R := by cases r <;> rfl
@[simp] theorem wf_thn (r : Fl) (k : ASt → AH → Fl) (N : ASt → AH → Prop) (R : AV → AH → Prop) : wf (r.thn k) N R = wf r (fun σ h => wf (k σ h) N R) R := by cases r <;> rfl
@[simp] theorem wf_fln {α : Type} (r : Rs α) (σ : ASt) (k : α → AH → Fl) (N : ASt → AH → Prop) (R : AV → AH → Prop) : wf (r.fln σ k) N R = wp r fun a h => wf (k a h) N R := by cases r <;> rfl
@[simp] theorem wf_ofOH {α : Type} (o : Option α) (k : α → Fl) (N : ASt → AH → Prop) (R : AV → AH → Prop) : wf (ofOH o k) N R = ∃ a, o = some a ∧ wf (k a) N R := by cases o <;> simp [ofOH, ofOF]
@[simp] theorem wf_ofOF {α : Type} (o : Option α) (k : α → Fl) (N : ASt → AH → Prop) (R : AV → AH → Prop) : wf (ofOF o k) N R = ∃ a, o = some a ∧ wf (k a) N R := by cases o <;> simp [ofOF]
theorem wf_mono {r : Fl} {N N' : ASt → AH → Prop} {R R' : AV → AH → Prop} (w : wf r N R) (f : ∀ σ h, N σ h → N' σ h) (g : ∀ v h, R v h → R' v h) : wf r N' R' := by
  cases r <;> first | exact f _ _ w | exact g _ _ w | exact w
@[simp] theorem wp_res (r : Fl) (P : AV → AH → Prop) : wp r.res P = wf r (fun _ h => P .non h) P := by cases r <;> rfl
theorem wf_ite {c : Prop} [Decidable c] {a b : Fl} {N : ASt → AH → Prop} {R : AV → AH → Prop} : wf (if c then a else b) N R = if c then wf a N R else wf b N R := by split <;> rfl
theorem wp_ite {α : Type} {c : Prop} [Decidable c] {a b : Rs α} {P : α → AH → Prop} : wp (if c then a else b) P = if c then wp a P else wp b P := by split <;> rfl
/-- a for loop, by an invariant over what is left -/
theorem wf_forL {f : AV → ASt → AH → Fl} {N : ASt → AH → Prop} {R : AV → AH → Prop} (I : List AV → ASt → AH → Prop) :
    ∀ {xs : List AV} {σ : ASt} {h : AH}, I xs σ h → (∀ x r σ h, I (x :: r) σ h → wf (f x σ h) (I r) R) → (∀ σ h, I [] σ h → N σ h) → wf (forL f xs σ h) N R
  | [], σ, h, i, _, e => e σ h i
  | x :: xs, σ, h, i, s, e => by
    have w := s x xs σ h i
    unfold forL
    cases q : f x σ h with
    | nx σ1 h1 => rw [q] at w; exact wf_forL I w s e
    | rt v h1 => rw [q] at w; exact w
    | _ => rw [q] at w; exact w.elim
/-- .. over coded items, with a count -/
theorem wf_forM {α : Type} {f : AV → ASt → AH → Fl} {N : ASt → AH → Prop} {R : AV → AH → Prop} (e : α → AV) (I : List α → ASt → AH → Prop) :
    ∀ {xs : List α} {σ : ASt} {h : AH}, I xs σ h → (∀ x r σ h, I (x :: r) σ h → wf (f (e x) σ h) (I r) R) → (∀ σ h, I [] σ h → N σ h) → wf (forL f (xs.map e) σ h) N R
  | [], σ, h, i, _, e => e σ h i
  | x :: xs, σ, h, i, s, g => by
    have w := s x xs σ h i
    simp only [List.map_cons, forL]
    cases q : f (e x) σ h with
    | nx σ1 h1 => rw [q] at w; exact wf_forM e I w s g
    | rt v h1 => rw [q] at w; exact w
    | _ => rw [q] at w; exact w.elim
/-- a comprehension, by an invariant -/
theorem wp_compL {f : AV → AH → Rs (Option AV)} {P : List AV → AH → Prop} (I : List AV → List AV → AH → Prop) :
    ∀ {xs ys : List AV} {h : AH}, I xs ys h → (∀ x r ys h, I (x :: r) ys h → wp (f x h) fun o h1 => I r (ys ++ cns o []) h1) → (∀ ys' h, I [] (ys ++ ys') h → P ys' h) → wp (compL f xs h) P
  | [], ys, h, i, _, e => e [] h (by simpa using i)
  | x :: xs, ys, h, i, s, e => by
    have w := s x xs ys h i
    unfold compL
    rw [wp_bind]
    refine wp_mono w fun o h1 i1 => ?_
    rw [wp_bind]
    refine wp_compL (ys := ys ++ cns o []) I i1 s fun ys' h2 i2 => ?_
    simp only [wp_ok]
    refine e _ _ ?_
    cases o with
    | none => simpa using i2
    | some y => simpa using i2

/-! ### the box of draws -/
def bxL (a b c : Int) : AObj := .lst [.int a, .int b, .int c]
/-- at n there lies a box of which at most k draws were mixed -/
def BoxAt (n : Nat) (k : Int) (h : AH) : Prop := hOk h ∧ ∃ a b c, h[n]? = some (bxL a b c) ∧ 0 ≤ a ∧ 0 ≤ b ∧ b < 9223372036854775808 ∧ 0 ≤ c ∧ c ≤ k
/-- the rest of the heap is as before -/
def SameH (n : Nat) (h h' : AH) : Prop := ∃ o, h' = h.set n o ∧ okO o = true
theorem SameH.len {n : Nat} {h h' : AH} (s : SameH n h h') : h'.length = h.length := by obtain ⟨o, rfl, _⟩ := s; simp
theorem SameH.trans {n : Nat} {h h1 h2 : AH} (s : SameH n h h1) (t : SameH n h1 h2) : SameH n h h2 := by
  obtain ⟨o, rfl, _⟩ := s; obtain ⟨p, rfl, q⟩ := t; exact ⟨p, by simp, q⟩
theorem hOk_set {n : Nat} {h : AH} {o : AObj} (hh : hOk h) (ho : okO o = true) : hOk (h.set n o) := by
  intro p m
  rcases List.mem_or_eq_of_mem_set m with m | rfl
  · exact hh p m
  · exact ho
theorem hOk_app {h g : AH} (a : hOk h) (b : hOk g) : hOk (h ++ g) := fun o m => by
  rcases List.mem_append.mp m with m | m
  · exact a o m
  · exact b o m
theorem hOk_one {o : AObj} (a : okO o = true) : hOk [o] := fun p m => by
  simp only [List.mem_singleton] at m; subst m; exact a
theorem hOk_nil : hOk [] := fun p m => by cases m
end EV

set_option Elab.async false
set_option linter.all false
set_option maxRecDepth 100000
namespace EV
open L2

/-! ### running by rewriting: what follows is left alone until what stands ahead has run -/
def getv (σ : ASt) (i : Nat) : Option AV := match σ[i]? with
  | some (some v) => some v
  | _ => none
@[simp] theorem getv_zero (v : AV) (σ : ASt) : getv (some v :: σ) 0 = some v := (rfl)
@[simp] theorem getv_succ (v : Option AV) (σ : ASt) (n : Nat) : getv (v :: σ) (n + 1) = getv σ n := (rfl)
@[simp] theorem SZ_lit : SZ = 16777216 := (rfl)
variable (Φ : Fns) (σ : ASt) (h : AH)
@[simp] theorem evE_var (i : Nat) : evE Φ (.var i) σ h = ofO (getv σ i) h := by
  show (match σ[i]? with | some (some v) => .ok v h | _ => .bad) = ofO (match σ[i]? with | some (some v) => some v | _ => none) h
  split <;> rfl
@[simp] theorem evE_cst (c : AV) : evE Φ (.cst c) σ h = .ok c h := (rfl)
@[simp] theorem evE_bin (o : Bop) (a b : IE) : evE Φ (.bin o a b) σ h = (evE Φ a σ h).bnd fun x h1 => (evE Φ b σ h1).bnd fun y h2 => ofO (binO h2 o x y) h2 := (rfl)
def negO : AV → Option AV
  | .int i => some (.int (-i))
  | _ => none
@[simp] theorem negO_int (i : Int) : negO (.int i) = some (.int (-i)) := (rfl)
@[simp] theorem evE_neg (a : IE) : evE Φ (.neg a) σ h = (evE Φ a σ h).bnd fun x h1 => ofO (negO x) h1 := by
  show (evE Φ a σ h).bind _ = _
  congr 1; funext x h1; cases x <;> rfl
@[simp] theorem evE_nt (a : IE) : evE Φ (.nt a) σ h = (evE Φ a σ h).bnd fun x h1 => ofO ((truO h1 x).map fun b => .bl (!b)) h1 := (rfl)
@[simp] theorem evE_cmp (o : Cop) (a b : IE) : evE Φ (.cmp o a b) σ h = (evE Φ a σ h).bnd fun x h1 => (evE Φ b σ h1).bnd fun y h2 => ofO ((cmpO h2 o x y).map .bl) h2 := (rfl)
@[simp] theorem evE_chn (o p : Cop) (a b c : IE) : evE Φ (.chn o p a b c) σ h = (evE Φ a σ h).bnd fun x h1 => (evE Φ b σ h1).bnd fun y h2 => (ofO (cmpO h2 o x y) h2).bnd fun k _ => if k then (evE Φ c σ h2).bnd fun z h3 => ofO ((cmpO h3 p y z).map .bl) h3 else .ok (.bl false) h2 := by
  show (evE Φ a σ h).bind _ = _
  congr 1; funext x h1; congr 1; funext y h2
  cases cmpO h2 o x y with
  | none => rfl
  | some b => cases b <;> rfl
@[simp] theorem evE_and (a b : IE) : evE Φ (.and a b) σ h = (evE Φ a σ h).bnd fun x h1 => (ofO (truO h1 x) h1).bnd fun k _ => if k then evE Φ b σ h1 else .ok x h1 := by
  show (evE Φ a σ h).bind _ = _
  congr 1; funext x h1
  cases truO h1 x with
  | none => rfl
  | some b => cases b <;> rfl
@[simp] theorem evE_or (a b : IE) : evE Φ (.or a b) σ h = (evE Φ a σ h).bnd fun x h1 => (ofO (truO h1 x) h1).bnd fun k _ => if k then .ok x h1 else evE Φ b σ h1 := by
  show (evE Φ a σ h).bind _ = _
  congr 1; funext x h1
  cases truO h1 x with
  | none => rfl
  | some b => cases b <;> rfl
@[simp] theorem evE_ife (c a b : IE) : evE Φ (.ife c a b) σ h = (evT Φ c σ h).bnd fun k h1 => if k then evE Φ a σ h1 else evE Φ b σ h1 := (rfl)
@[simp] theorem evE_tup (s : IE) : evE Φ (.tup s) σ h = (evL Φ s σ h).bnd fun xs h1 => if xs.length ≤ SZ then .ok (.tup xs) h1 else .bad := (rfl)
@[simp] theorem evE_lst (s : IE) : evE Φ (.lst s) σ h = (evL Φ s σ h).bnd fun xs h1 => if xs.length ≤ SZ then .ok (.lst xs) h1 else .bad := (rfl)
def idxV (h : AH) (x y : AV) : Option AV := match intO y with
  | some k => idxO h x k
  | none => none
@[simp] theorem idxV_int (x : AV) (k : Int) : idxV h x (.int k) = idxO h x k := (rfl)
@[simp] theorem evE_idx (a i : IE) : evE Φ (.idx a i) σ h = (evE Φ a σ h).bnd fun x h1 => (evE Φ i σ h1).bnd fun y h2 => ofO (idxV h2 x y) h2 := by
  show (evE Φ a σ h).bind _ = _
  congr 1; funext x h1; congr 1; funext y h2
  unfold idxV
  cases intO y <;> rfl
@[simp] theorem evE_slc (a lo hi : IE) : evE Φ (.slc a lo hi) σ h = (evE Φ a σ h).bnd fun x h1 => (evO Φ lo σ h1).bnd fun l h2 => (evO Φ hi σ h2).bnd fun u h3 => ofO (slcO h3 x l u) h3 := (rfl)
@[simp] theorem evE_rev (a : IE) : evE Φ (.rev a) σ h = (evE Φ a σ h).bnd fun x h1 => ofO (revO h1 x) h1 := (rfl)
@[simp] theorem evE_cl (f : Nat) (s : IE) : evE Φ (.call f s) σ h = (evL Φ s σ h).bnd fun xs h1 => callV Φ f xs h1 := (rfl)
def callMV (Φ : Fns) (c : Nat) (xs : List AV) (h : AH) : Rs AV := (Φ c xs h).bind fun v h2 => shutM h.length v h2
@[simp] theorem evE_clM (f : Nat) (s : IE) : evE Φ (.callM f s) σ h = (evL Φ s σ h).bnd fun xs h1 => callMV Φ f xs h1 := (rfl)
@[simp] theorem evE_blt (f : Bf) (s : IE) : evE Φ (.blt f s) σ h = (evL Φ s σ h).bnd fun xs h1 => ofO (bfO h1 f xs) h1 := (rfl)
/-- a list of the heap is changed -/
def chg (h : AH) (x : AV) (f : Nat → List AV → Rs AV) : Rs AV := match x with
  | .ref n => match h[n]? with
    | some (.lst l) => f n l
    | none => .bad
  | _ => .bad
def appK (h : AH) (y : AV) (n : Nat) (l : List AV) : Rs AV := if l.length < SZ then .ok .non (h.set n (.lst (l ++ [y]))) else .bad
@[simp] theorem evE_app (n : Nat) (o a : IE) (e : evE Φ o σ h = .ok (.ref n) h) : evE Φ (.app o a) σ h = (evE Φ a σ h).bnd fun y h2 => match lstOf h2 (.ref n) with
      | some l => if l.length < SZ then .ok .non (h2.set n (.lst (l ++ [y]))) else .bad
      | none => .bad := by
  show (evE Φ o σ h).bind _ = _
  rw [e]; rfl
@[simp] theorem evE_mth (m : Mt) (o a : IE) : evE Φ (.mth m o a) σ h = (evE Φ o σ h).bnd fun x h1 => if rcv m x then (evE Φ a σ h1).bnd fun y h2 => ofO (mthO h2 m x y) h2 else .bad := (rfl)
@[simp] theorem evE_isi (a : IE) (ts : List Ty) : evE Φ (.isi a ts) σ h = (evE Φ a σ h).bnd fun x h1 => ofO (isiO ts x) h1 := (rfl)
@[simp] theorem isiO_non (ts : List Ty) : isiO ts .non = some (.bl (ts.any (isTy .non))) := rfl
@[simp] theorem isiO_bl (ts : List Ty) (b : Bool) : isiO ts (.bl b) = some (.bl (ts.any (isTy (.bl b)))) := rfl
@[simp] theorem isiO_int (ts : List Ty) (b : Int) : isiO ts (.int b) = some (.bl (ts.any (isTy (.int b)))) := rfl
@[simp] theorem isiO_str (ts : List Ty) (b : List Nat) : isiO ts (.str b) = some (.bl (ts.any (isTy (.str b)))) := rfl
@[simp] theorem isiO_tup (ts : List Ty) (b : List AV) : isiO ts (.tup b) = some (.bl (ts.any (isTy (.tup b)))) := rfl
@[simp] theorem isiO_lst (ts : List Ty) (b : List AV) : isiO ts (.lst b) = some (.bl (ts.any (isTy (.lst b)))) := rfl
@[simp] theorem isiO_ref (ts : List Ty) (b : Nat) : isiO ts (.ref b) = some (.bl (ts.any (isTy (.ref b)))) := rfl
@[simp] theorem isiO_scr (ts : List Ty) (b : List AV) : isiO ts (.scr b) = some (.bl (ts.any (isTy (.scr b)))) := rfl
@[simp] theorem evE_atr (o : IE) (f : List Nat) (ys : List (List Nat)) : evE Φ (.atr o f ys) σ h = (evE Φ o σ h).bnd fun x h1 => ofO (atrO f ys x) h1 := (rfl)
@[simp] theorem evE_isx (a : IE) (yes no : List (List Nat)) : evE Φ (.isx a yes no) σ h = (evE Φ a σ h).bnd fun x h1 => ofO (isxO yes no x) h1 := (rfl)
@[simp] theorem evE_mkx (x f : List Nat) (s : IE) : evE Φ (.mkx x f s) σ h = (evL Φ s σ h).bnd fun xs h1 => ofO (mkxO x f xs) h1 := (rfl)
@[simp] theorem evL_perm (pi : List Nat) (s : IE) : evL Φ (.perm pi s) σ h = (evL Φ s σ h).bnd fun xs h1 => ofO (permO pi xs) h1 := (rfl)
/-- the body of a comprehension -/
def cBody (Φ : Fns) (own : List Nat) (tg : Tg) (c e : IE) (σ : ASt) (x : AV) (h2 : AH) : Rs (Option AV) := (ofO (asg h2 tg x (wipeA σ own)) h2).bnd fun σ1 _ => (evT Φ c σ1 h2).bnd fun k h3 => if k then (evE Φ e σ1 h3).bnd fun y h4 => .ok (some y) h4 else .ok none h3
@[simp] theorem evE_comp (own : List Nat) (tg : Tg) (it c e : IE) : evE Φ (.comp own tg it c e) σ h = (evI Φ it σ h).bnd fun sr h1 => (evC (fun x h2 => (cBody Φ own tg c e σ x h2).nox) sr h1).bnd fun ys h2 => .ok (.lst ys) h2 := by
  show (evI Φ it σ h).bind _ = _
  congr 1; funext sr h1; congr 1; congr 1; funext x h2
  unfold cBody
  cases asg h2 tg x (wipeA σ own) <;> rfl
def mutK (h : AH) : AV → Rs AV
  | .lst l => .ok (.ref h.length) (h ++ [.lst l])
  | _ => .bad
@[simp] theorem mutK_lst (l : List AV) : mutK h (.lst l) = .ok (.ref h.length) (h ++ [.lst l]) := (rfl)
@[simp] theorem evE_mut (a : IE) : evE Φ (.mut a) σ h = (evE Φ a σ h).bnd fun x h1 => mutK h1 x := (rfl)
def popK (h : AH) (n : Nat) (y : AV) : Rs AV := match lstOf h (.ref n), intO y with
  | some l, some i => if decide (-(2 ^ 63) ≤ i) && decide (i < 2 ^ 63) then match ixN l.length i with
    | some k => match l[k]? with
      | some z => .ok z (h.set n (.lst (l.eraseIdx k)))
      | none => .bad
    | none => .bad
    else .bad
  | _, _ => .bad
def refK (x : AV) : Option Nat := match x with
  | .ref n => some n
  | _ => none
@[simp] theorem refK_ref (n : Nat) : refK (.ref n) = some n := (rfl)
@[simp] theorem evE_popA (o a : IE) : evE Φ (.popA o a) σ h = (evE Φ o σ h).bnd fun x h1 => (ofO (refK x) h1).bnd fun n _ => (evE Φ a σ h1).bnd fun y h2 => popK h2 n y := by
  show (evE Φ o σ h).bind _ = _
  congr 1; funext x h1; cases x <;> rfl
@[simp] theorem evT_nt (a : IE) : evT Φ (.nt a) σ h = (evT Φ a σ h).bnd fun b h1 => .ok (!b) h1 := (rfl)
@[simp] theorem evT_and (a b : IE) : evT Φ (.and a b) σ h = (evT Φ a σ h).bnd fun k h1 => if k then evT Φ b σ h1 else .ok false h1 := (rfl)
@[simp] theorem evT_or (a b : IE) : evT Φ (.or a b) σ h = (evT Φ a σ h).bnd fun k h1 => if k then .ok true h1 else evT Φ b σ h1 := (rfl)
@[simp] theorem evT_ife (c a b : IE) : evT Φ (.ife c a b) σ h = (evT Φ c σ h).bnd fun k h1 => if k then evT Φ a σ h1 else evT Φ b σ h1 := (rfl)
@[simp] theorem evT_tst (e : IE) : evT Φ (.tst e) σ h = (evE Φ e σ h).bnd fun x h1 => ofO (truO h1 x) h1 := (rfl)
@[simp] theorem evL_nil : evL Φ .nil σ h = .ok [] h := (rfl)
@[simp] theorem evL_cons (a b : IE) : evL Φ (.cons a b) σ h = (evE Φ a σ h).bnd fun x h1 => (evL Φ b σ h1).bnd fun xs h2 => .ok (x :: xs) h2 := (rfl)
@[simp] theorem evL_star (a b : IE) : evL Φ (.star a b) σ h = (evE Φ a σ h).bnd fun x h1 => (ofO (itemsOf h1 x) h1).bnd fun l _ => (evL Φ b σ h1).bnd fun xs h2 => .ok (l ++ xs) h2 := by
  show (evE Φ a σ h).bind _ = _
  congr 1; funext x h1
  cases itemsOf h1 x <;> rfl
@[simp] theorem evO_omit : evO Φ .omit σ h = .ok none h := (rfl)
@[simp] theorem evO_som (e : IE) : evO Φ (.som e) σ h = (evE Φ e σ h).bnd fun x h1 => (ofO (intO x) h1).bnd fun i _ => .ok (some i) h1 := by
  show (evE Φ e σ h).bind _ = _
  congr 1; funext x h1
  cases intO x <;> rfl
@[simp] theorem evI_pl (a : IE) : evI Φ (.iPl a) σ h = (evE Φ a σ h).bnd fun x h1 => ofO (srcPl h1 x) h1 := (rfl)
@[simp] theorem evI_rg1 (s : IE) : evI Φ (.iRg1 s) σ h = (evL Φ s σ h).bnd fun xs h1 => ofO ((srcRg1 xs).map .st) h1 := (rfl)
@[simp] theorem evI_rg2 (s : IE) : evI Φ (.iRg2 s) σ h = (evL Φ s σ h).bnd fun xs h1 => ofO ((srcRg2 xs).map .st) h1 := (rfl)
@[simp] theorem evI_en (s : IE) : evI Φ (.iEn s) σ h = (evL Φ s σ h).bnd fun xs h1 => ofO (srcEn h1 xs) h1 := (rfl)
@[simp] theorem evI_zp (s : IE) : evI Φ (.iZp s) σ h = (evL Φ s σ h).bnd fun xs h1 => ofO (srcZp h1 xs) h1 := (rfl)
@[simp] theorem evS_skip : evS Φ .skip σ h = .nx σ h := (rfl)
@[simp] theorem evS_seq (a b : IS) : evS Φ (.seq a b) σ h = (evS Φ a σ h).thn fun σ1 h1 => evS Φ b σ1 h1 := (rfl)
@[simp] theorem evS_set (i : Nat) (e : IE) : evS Φ (.set i e) σ h = (evE Φ e σ h).fln σ fun v h1 => .nx (σ.set i (some v)) h1 := (rfl)
@[simp] theorem evS_tset (tg : Tg) (e : IE) : evS Φ (.tset tg e) σ h = (evE Φ e σ h).fln σ fun v h1 => ofOH (asg h1 tg v σ) fun σ1 => .nx σ1 h1 := (rfl)
def par2K (σ : ASt) (i j : Nat) (xs : List AV) (h : AH) : Fl := match xs with
  | [v, w] => .nx ((σ.set i (some v)).set j (some w)) h
  | _ => .bad
@[simp] theorem par2K_two (i j : Nat) (v w : AV) : par2K σ i j [v, w] h = .nx ((σ.set i (some v)).set j (some w)) h := (rfl)
@[simp] theorem evS_par2 (i j : Nat) (s : IE) : evS Φ (.par2 i j s) σ h = (evL Φ s σ h).fln σ fun xs h1 => par2K σ i j xs h1 := (rfl)
def par3K (σ : ASt) (i j k : Nat) (xs : List AV) (h : AH) : Fl := match xs with
  | [u, v, w] => .nx (((σ.set i (some u)).set j (some v)).set k (some w)) h
  | _ => .bad
@[simp] theorem par3K_three (i j k : Nat) (u v w : AV) : par3K σ i j k [u, v, w] h = .nx (((σ.set i (some u)).set j (some v)).set k (some w)) h := (rfl)
@[simp] theorem evS_par3 (i j k : Nat) (s : IE) : evS Φ (.par3 i j k s) σ h = (evL Φ s σ h).fln σ fun xs h1 => par3K σ i j k xs h1 := (rfl)
@[simp] theorem evS_sub (o i e : IE) : evS Φ (.sub o i e) σ h = (evE Φ e σ h).fln σ fun v h1 => (evE Φ o σ h1).fln σ fun x h2 => (evE Φ i σ h2).fln σ fun y h3 => ofOH (setL h3 x y v) fun h4 => .nx σ h4 := (rfl)
@[simp] theorem evS_expr (e : IE) : evS Φ (.expr e) σ h = (evE Φ e σ h).fln σ fun _ h1 => .nx σ h1 := (rfl)
@[simp] theorem evS_ret (e : IE) : evS Φ (.ret e) σ h = (evE Φ e σ h).fln σ fun v h1 => .rt v h1 := (rfl)
@[simp] theorem evS_retn : evS Φ .retn σ h = .rt .non h := (rfl)
@[simp] theorem evS_ife (c : IE) (a b : IS) : evS Φ (.ife c a b) σ h = (evT Φ c σ h).fln σ fun k h1 => if k then evS Φ a σ h1 else evS Φ b σ h1 := (rfl)
def forB (Φ : Fns) (tg : Tg) (b : IS) (x : AV) (σ : ASt) (h : AH) : Fl := ofOF (asg h tg x σ) fun σ2 => evS Φ b σ2 h
@[simp] theorem forB_eq (tg : Tg) (b : IS) (x : AV) : forB Φ tg b x σ h = ofOH (asg h tg x σ) fun σ2 => evS Φ b σ2 h := (rfl)
@[simp] theorem evS_for (tg : Tg) (it : IE) (b : IS) : evS Φ (.for_ tg it b) σ h = (evI Φ it σ h).fln σ fun sr h1 => evF (forB Φ tg b) sr σ h1 := (rfl)
@[simp] theorem forL_nil (f : AV → ASt → AH → Fl) : forL f [] σ h = .nx σ h := (rfl)
theorem forL_cons (f : AV → ASt → AH → Fl) (x : AV) (xs : List AV) : forL f (x :: xs) σ h = (f x σ h).trn fun σ1 h1 => forL f xs σ1 h1 := rfl
@[simp] theorem evS_whl (c : IE) (b : IS) : evS Φ (.whl c b) σ h = whlF (evT Φ c) (evS Φ b) WF σ h := (rfl)
@[simp] theorem evF_st (f : AV → ASt → AH → Fl) (xs : List AV) : evF f (.st xs) σ h = forL f xs σ h := (rfl)
@[simp] theorem evC_st (f : AV → AH → Rs (Option AV)) (xs : List AV) : evC f (.st xs) h = if xs.length ≤ SZ then compL f xs h else .bad := (rfl)
@[simp] theorem asg_nm (i : Nat) (v : AV) : asg h (.nm i) v σ = some (σ.set i (some v)) := (rfl)
@[simp] theorem asg_tp (s : Tg) (v : AV) : asg h (.tp s) v σ = (itemsOf h v).bind fun l => asgL h s l σ := by
  show (match itemsOf h v with | some l => asgL h s l σ | none => none) = _
  cases itemsOf h v <;> rfl
@[simp] theorem asgL_nil : asgL h .nil [] σ = some σ := (rfl)
@[simp] theorem asgL_cons (a b : Tg) (x : AV) (xs : List AV) : asgL h (.cons a b) (x :: xs) σ = (asg h a x σ).bind fun σ1 => asgL h b xs σ1 := (rfl)
@[simp] theorem wipeA_nil : wipeA σ [] = σ := (rfl)
@[simp] theorem wipeA_cons (v : Nat) (vs : List Nat) : wipeA σ (v :: vs) = (wipeA σ vs).set v none := (rfl)
@[simp] theorem startA_eq (n : Nat) (as : List AV) : startA n as = as.map some ++ List.replicate (n - as.length) none := (rfl)
@[simp] theorem itemsOf_tup (l : List AV) : itemsOf h (.tup l) = some l := (rfl)
@[simp] theorem itemsOf_lst (l : List AV) : itemsOf h (.lst l) = some l := (rfl)
@[simp] theorem itemsOf_scr (l : List AV) : itemsOf h (.scr l) = some l := (rfl)
@[simp] theorem lstOf_lst (l : List AV) : lstOf h (.lst l) = some l := (rfl)
theorem lstOf_ref {n : Nat} {l : List AV} (e : h[n]? = some (.lst l)) : lstOf h (.ref n) = some l := by simp [lstOf, e]
theorem itemsOf_ref {n : Nat} {l : List AV} (e : h[n]? = some (.lst l)) : itemsOf h (.ref n) = some l := by simp [itemsOf, e]
@[simp] theorem intO_int (i : Int) : intO (.int i) = some i := (rfl)
@[simp] theorem idxO_tup (l : List AV) (i : Int) : idxO h (.tup l) i = atI l i := (rfl)
@[simp] theorem idxO_lst (l : List AV) (i : Int) : idxO h (.lst l) i = atI l i := (rfl)
@[simp] theorem idxO_scr (l : List AV) (i : Int) : idxO h (.scr l) i = atI l i := (rfl)
@[simp] theorem truO_bl (b : Bool) : truO h (.bl b) = some b := (rfl)
@[simp] theorem truO_int (i : Int) : truO h (.int i) = some (i != 0) := (rfl)
@[simp] theorem srcPl_tup (l : List AV) : srcPl h (.tup l) = some (.st l) := (rfl)
@[simp] theorem srcPl_lst (l : List AV) : srcPl h (.lst l) = some (.st l) := (rfl)
@[simp] theorem srcPl_scr (l : List AV) : srcPl h (.scr l) = some (.st l) := (rfl)
@[simp] theorem srcPl_str (s : List Nat) : srcPl h (.str s) = some (.st (s.map fun c => .str [c])) := (rfl)
@[simp] theorem binO_add (i j : Int) : binO h .add (.int i) (.int j) = some (.int (i + j)) := (rfl)
@[simp] theorem binO_sub (i j : Int) : binO h .sub (.int i) (.int j) = some (.int (i - j)) := (rfl)
@[simp] theorem cmp_lt (i j : Int) : cmpO h .lt (.int i) (.int j) = some (decide (i < j)) := (rfl)
@[simp] theorem cmp_le (i j : Int) : cmpO h .le (.int i) (.int j) = some (decide (i ≤ j)) := (rfl)
@[simp] theorem cmp_gt (i j : Int) : cmpO h .gt (.int i) (.int j) = some (decide (j < i)) := (rfl)
@[simp] theorem cmp_ge (i j : Int) : cmpO h .ge (.int i) (.int j) = some (decide (j ≤ i)) := (rfl)
@[simp] theorem cmp_eq (a b : AV) : cmpO h .eq a b = eqO h a b := by cases a <;> rfl
@[simp] theorem cmp_ne (a b : AV) : cmpO h .ne a b = (eqO h a b).map (!·) := by cases a <;> rfl
@[simp] theorem eqO_int (i j : Int) : eqO h (.int i) (.int j) = some (i == j) := (rfl)
@[simp] theorem eqO_str (i j : List Nat) : eqO h (.str i) (.str j) = some (i == j) := (rfl)
@[simp] theorem eqO_bl (i j : Bool) : eqO h (.bl i) (.bl j) = some (i == j) := (rfl)
@[simp] theorem bf_int_int (i : Int) : bfO h .int [.int i] = some (.int i) := (rfl)
@[simp] theorem bf_int_bl (b : Bool) : bfO h .int [.bl b] = some (.int (if b then 1 else 0)) := (rfl)
@[simp] theorem bf_abs (i : Int) : bfO h .abs [.int i] = some (.int (if i < 0 then -i else i)) := (rfl)
@[simp] theorem bf_len_tup (l : List AV) : bfO h .len [.tup l] = some (.int l.length) := (rfl)
@[simp] theorem bf_len_lst (l : List AV) : bfO h .len [.lst l] = some (.int l.length) := (rfl)
@[simp] theorem bf_len_scr (l : List AV) : bfO h .len [.scr l] = some (.int l.length) := (rfl)
@[simp] theorem bf_tuple_lst (l : List AV) : bfO h .tuple [.lst l] = some (.tup l) := (rfl)
@[simp] theorem bf_tuple_tup (l : List AV) : bfO h .tuple [.tup l] = some (.tup l) := (rfl)
@[simp] theorem bf_list_tup (l : List AV) : bfO h .list [.tup l] = some (.lst l) := (rfl)
@[simp] theorem bf_list_lst (l : List AV) : bfO h .list [.lst l] = some (.lst l) := (rfl)
@[simp] theorem bf_list_scr (l : List AV) : bfO h .list [.scr l] = some (.lst l) := (rfl)
@[simp] theorem bf_all (l : List AV) : bfO h .all [.lst l] = (blsOf l).map fun bs => .bl (bs.all id) := (rfl)
@[simp] theorem bf_any (l : List AV) : bfO h .any [.lst l] = (blsOf l).map fun bs => .bl (bs.any id) := (rfl)
@[simp] theorem bf_sum (l : List AV) : bfO h .sum [.lst l] = (intsOf l).map fun ns => .int ns.sum := (rfl)
@[simp] theorem bf_min1 (l : List AV) : bfO h .min [.lst l] = (intsOf l).bind fun ns => (minL ns).map .int := (rfl)
@[simp] theorem bf_max1 (l : List AV) : bfO h .max [.lst l] = (intsOf l).bind fun ns => (maxL ns).map .int := (rfl)
@[simp] theorem srcZp_tup (l m : List AV) : srcZp h [.tup l, .tup m] = some (.st (zipL l m)) := (rfl)
@[simp] theorem srcZp_lst (l m : List AV) : srcZp h [.lst l, .lst m] = some (.st (zipL l m)) := (rfl)
@[simp] theorem srcEn_lst (l : List AV) : srcEn h [.lst l] = some (.st (enumL 0 l)) := (rfl)
@[simp] theorem srcEn_str (s : List Nat) : srcEn h [.str s] = some (.st (enumL 0 (s.map fun c => .str [c]))) := (rfl)
@[simp] theorem cmp_isn (a : AV) : cmpO h .isn a .non = some (isNon a) := by cases a <;> rfl
@[simp] theorem cmp_ntn (a : AV) : cmpO h .ntn a .non = some (!isNon a) := by cases a <;> rfl
@[simp] theorem bf_max2 (i j : Int) : bfO h .max [.int i, .int j] = some (.int (if j > i then j else i)) := (rfl)
@[simp] theorem bf_min2 (i j : Int) : bfO h .min [.int i, .int j] = some (.int (if j < i then j else i)) := (rfl)
@[simp] theorem bin_addtup (a b : List AV) : binO h .add (.tup a) (.tup b) = if a.length + b.length ≤ SZ then some (.tup (a ++ b)) else none := (rfl)
@[simp] theorem bin_mul (i j : Int) : binO h .mul (.int i) (.int j) = if mulOk i j then some (.int (i * j)) else none := (rfl)
theorem bin_mod {i j : Int} (e : 0 < j) : binO h .mod (.int i) (.int j) = some (.int (i % j)) := by
  show (if 0 < j then some _ else none) = _; rw [if_pos e]
theorem bin_fdiv {i j : Int} (e : 0 < j) (e2 : j < 1073741824) : binO h .fdiv (.int i) (.int j) = some (.int (i / j)) := by
  show (if (decide (0 < j) && decide (j < 1073741824)) = true then some _ else none) = _; rw [if_pos (by simp [e, e2])]
@[simp] theorem atI_zero {α : Type} (x : α) (l : List α) : atI (x :: l) 0 = some x := by simp [atI, ixN]
theorem atI_nat {α : Type} {l : List α} {i : Nat} {x : α} (e : l[i]? = some x) : atI l (i : Int) = some x := by
  have hi := (List.getElem?_eq_some_iff.mp e).1
  unfold atI ixN
  rw [if_pos (by omega), if_pos (by omega)]
  simpa using e
theorem atI_int {α : Type} {l : List α} {i : Int} (h0 : 0 ≤ i) : atI l i = l[i.toNat]? := by
  unfold atI ixN
  rw [if_pos h0]
  by_cases h : i < l.length
  · rw [if_pos h]; rfl
  · rw [if_neg h, List.getElem?_eq_none (by omega)]; rfl
end EV

set_option Elab.async false
set_option linter.all false
set_option maxRecDepth 100000
namespace EV
variable {Φ : Fns} {σ : ASt} {h : AH}
@[simp] theorem evS_rais (x f : List Nat) (s : IE) : evS Φ (.rais x f s) σ h = (evL Φ s σ h).fln σ fun xs h1 => raisF x f σ xs h1 := (rfl)
/-- no exception: try says nothing -/
theorem wf_tryk_ok {b : IS} {x : List Nat} {no : List (List Nat)} {i j : Nat} {N : ASt → AH → Prop} {R : AV → AH → Prop} (w : wf (evS Φ b σ h) N R) : wf (evS Φ (.tryk b x no i j) σ h) N R := by
  show wf (keepF x no i j (evS Φ b σ h)) N R
  cases e : evS Φ b σ h <;> rw [e] at w <;> first | exact w | exact w.elim
/-- an exception of the class: kept -/
theorem wf_tryk_ex {b : IS} {x f : List Nat} {as : List AV} {no : List (List Nat)} {c i j : Nat} {σ' : ASt} {h' : AH} {N : ASt → AH → Prop} {R : AV → AH → Prop} (e : evS Φ b σ h = .ex c [.exc x f as] σ' h') (w : N (((σ'.set i (some (.exc x f as))).set j (some (.exc x f as))).set i none) h') : wf (evS Φ (.tryk b x no i j) σ h) N R := by
  show wf (keepF x no i j (evS Φ b σ h)) N R
  rw [e]
  simp only [keepF, if_true]
  exact w
end EV

set_option linter.all false
set_option maxRecDepth 100000
namespace IR
open EV
def c_frame : Nat := 158691281745446541256949862
def c_rooms_at : Nat := 245019237502842802409910378007283053203947637
def c_corner_rooms : Nat := 328259881672593985984660792502076487001602404314600588380286214865012
def c_side_rooms : Nat := 306773621633056191163170506960223412608568152380488417396
def c_made : Nat := 152117643305916104806
def c_mirrored : Nat := 234366225014830265868487905300686143024922725
def c_transposed : Nat := 309418241013989492471213253474566824943514799998826315877
def c_turned : Nat := 200830890934525940892071419576421
def c__law_box : Nat := 204537827913381305132362133525962440618016889
def c__law_take : Nat := 227878048532233072623626241306901958582533010227302
def c__law_cells : Nat := 253881668406343253006853478954888963147134299551102206068
def c__law_of : Nat := 183588210084247638596803672813845086311
def c__law_pick : Nat := 227878048532233072623626241306896427046220647891052
def c__law_lists : Nat := 253881668406343253006853478954902829367271877141292449908
def c__law_same : Nat := 227878048532233072623626241306900575695972433002598
def c__law_split : Nat := 253881668406343253006853478954913614210534536444841164917
def c__law_no_cross : Nat := 351089547216621179453437955663848282497258130803327049116399174929209360500
def c__law_flat : Nat := 227878048532233072623626241306882598184338587779189
def c__law_sides : Nat := 253881668406343253006853478954913614200854320590816149620
def c__law_case_right : Nat := 435788337622959544284930857384614222466877965245577274043668795294646530737925695012981
def c__law_hand_right : Nat := 435788337622959544284930857384627445456964926668989252341727052201346511531640882790517
def c__law_right : Nat := 253881668406343253006853478954912073510342544019095617653
def c_law : Nat := 135295873974392
def i_frame : IFn := ⟨1, 4, (.seq (.par2 1 2 (.cons (.blt .min (.cons (.comp [3] (.nm 3) (.iPl (.var 0)) (.tst (.cst (.bl true))) (.idx (.var 3) (.cst (.int 1)))) .nil)) (.cons (.blt .min (.cons (.comp [3] (.nm 3) (.iPl (.var 0)) (.tst (.cst (.bl true))) (.idx (.var 3) (.cst (.int 2)))) .nil)) .nil)))
    (.ret (.tup (.cons (.var 1) (.cons (.var 2) (.cons (.blt .max (.cons (.comp [3] (.nm 3) (.iPl (.var 0)) (.tst (.cst (.bl true))) (.idx (.var 3) (.cst (.int 3)))) .nil)) (.cons (.blt .max (.cons (.comp [3] (.nm 3) (.iPl (.var 0)) (.tst (.cst (.bl true))) (.idx (.var 3) (.cst (.int 4)))) .nil)) .nil)))))))⟩
def i_rooms_at : IFn := ⟨3, 4, (.ret (.blt .tuple (.cons (.comp [3] (.nm 3) (.iPl (.var 0)) (.and (.tst (.chn .le .le (.idx (.var 3) (.cst (.int 1))) (.var 1) (.idx (.var 3) (.cst (.int 3))))) (.tst (.chn .le .le (.idx (.var 3) (.cst (.int 2))) (.var 2) (.idx (.var 3) (.cst (.int 4)))))) (.idx (.var 3) (.cst (.int 0)))) .nil)))⟩
def i_corner_rooms : IFn := ⟨1, 8, (.seq (.tset (.tp (.cons (.nm 2) (.cons (.nm 3) (.cons (.nm 4) (.cons (.nm 5) .nil))))) (.call c_frame (.cons (.var 0) .nil)))
    (.seq (.set 1 (.tup (.cons (.tup (.cons (.var 2) (.cons (.var 3) .nil))) (.cons (.tup (.cons (.var 4) (.cons (.var 3) .nil))) (.cons (.tup (.cons (.var 4) (.cons (.var 5) .nil))) (.cons (.tup (.cons (.var 2) (.cons (.var 5) .nil))) .nil))))))
    (.ret (.blt .tuple (.cons (.comp [6, 7] (.tp (.cons (.nm 6) (.cons (.nm 7) .nil))) (.iPl (.var 1)) (.tst (.cst (.bl true))) (.idx (.call c_rooms_at (.cons (.var 0) (.cons (.var 6) (.cons (.var 7) .nil)))) (.cst (.int 0)))) .nil)))))⟩
def i_side_rooms : IFn := ⟨1, 9, (.seq (.set 1 (.call c_frame (.cons (.var 0) .nil)))
    (.seq (.set 2 (.mut (.lst .nil)))
    (.seq (.for_ (.nm 3) (.iRg1 (.cons (.cst (.int 4)) .nil)) (.seq (.set 4 (.comp [6] (.nm 6) (.iPl (.var 0)) (.tst (.cmp .eq (.idx (.var 6) (.bin .add (.cst (.int 1)) (.var 3))) (.idx (.var 1) (.var 3)))) (.var 6)))
    (.seq (.set 5 (.blt .sorted (.cons (.comp [6] (.nm 6) (.iPl (.var 4)) (.tst (.cst (.bl true))) (.tup (.cons (.idx (.var 6) (.bin .sub (.cst (.int 2)) (.bin .mod (.var 3) (.cst (.int 2))))) (.cons (.idx (.var 6) (.cst (.int 0))) .nil)))) .nil)))
    (.expr (.app (.var 2) (.blt .tuple (.cons (.comp [7, 8] (.tp (.cons (.nm 7) (.cons (.nm 8) .nil))) (.iPl (.var 5)) (.tst (.cst (.bl true))) (.var 8)) .nil)))))))
    (.ret (.blt .tuple (.cons (.var 2) .nil))))))⟩
def i_made : IFn := ⟨1, 1, (.ret (.blt .tuple (.cons (.blt .sorted (.cons (.var 0) .nil)) .nil)))⟩
def i_mirrored : IFn := ⟨1, 6, (.ret (.call c_made (.cons (.comp [1, 2, 3, 4, 5] (.tp (.cons (.nm 1) (.cons (.nm 2) (.cons (.nm 3) (.cons (.nm 4) (.cons (.nm 5) .nil)))))) (.iPl (.var 0)) (.tst (.cst (.bl true))) (.tup (.cons (.var 1) (.cons (.neg (.var 4)) (.cons (.var 3) (.cons (.neg (.var 2)) (.cons (.var 5) .nil))))))) .nil)))⟩
def i_transposed : IFn := ⟨1, 6, (.ret (.call c_made (.cons (.comp [1, 2, 3, 4, 5] (.tp (.cons (.nm 1) (.cons (.nm 2) (.cons (.nm 3) (.cons (.nm 4) (.cons (.nm 5) .nil)))))) (.iPl (.var 0)) (.tst (.cst (.bl true))) (.tup (.cons (.var 1) (.cons (.var 3) (.cons (.var 2) (.cons (.var 5) (.cons (.var 4) .nil))))))) .nil)))⟩
def i_turned : IFn := ⟨1, 6, (.ret (.call c_made (.cons (.comp [1, 2, 3, 4, 5] (.tp (.cons (.nm 1) (.cons (.nm 2) (.cons (.nm 3) (.cons (.nm 4) (.cons (.nm 5) .nil)))))) (.iPl (.var 0)) (.tst (.cst (.bl true))) (.tup (.cons (.var 1) (.cons (.neg (.var 5)) (.cons (.var 2) (.cons (.neg (.var 3)) (.cons (.var 4) .nil))))))) .nil)))⟩
def i__law_box : IFn := ⟨2, 3, (.seq (.set 2 (.ife (.tst (.cmp .lt (.var 1) (.blt .len (.cons (.var 0) .nil)))) (.idx (.var 0) (.var 1)) (.cst (.int 0))))
    (.ret (.mut (.lst (.cons (.bin .mul (.blt .abs (.cons (.var 2) .nil)) (.blt .int (.cons (.cmp .ge (.blt .abs (.cons (.var 2) .nil)) (.bin .pow (.cst (.int 10)) (.cst (.int 18)))) .nil))) (.cons (.bin .add (.bin .add (.bin .mod (.blt .int (.cons (.var 2) .nil)) (.cst (.int 2305843009213693951))) (.bin .mul (.cst (.int 39373)) (.var 1))) (.cst (.int 877))) (.cons (.cst (.int 0)) .nil)))))))⟩
def i__law_take : IFn := ⟨2, 6, (.seq (.ife (.tst (.cmp .gt (.idx (.var 0) (.cst (.int 0))) (.cst (.int 0)))) (.seq (.set 5 (.bin .mod (.blt .int (.cons (.idx (.var 0) (.cst (.int 0))) .nil)) (.var 1)))
    (.seq (.sub (.var 0) (.cst (.int 0)) (.bin .fdiv (.idx (.var 0) (.cst (.int 0))) (.var 1)))
    (.ret (.var 5)))) .skip)
    (.seq (.sub (.var 0) (.cst (.int 2)) (.bin .add (.idx (.var 0) (.cst (.int 2))) (.cst (.int 1))))
    (.seq (.set 2 (.bin .mod (.blt .int (.cons (.bin .mul (.bin .add (.idx (.var 0) (.cst (.int 1))) (.bin .mul (.cst (.int 48271)) (.idx (.var 0) (.cst (.int 2))))) (.bin .add (.cst (.int 39373)) (.idx (.var 0) (.cst (.int 2))))) .nil)) (.cst (.int 2147483647))))
    (.seq (.set 3 (.bin .add (.bin .mod (.blt .int (.cons (.var 2) .nil)) (.cst (.int 40009))) (.cst (.int 7))))
    (.seq (.set 4 (.bin .mod (.blt .int (.cons (.bin .mul (.bin .add (.bin .add (.var 2) (.idx (.var 0) (.cst (.int 2)))) (.bin .fdiv (.idx (.var 0) (.cst (.int 1))) (.cst (.int 1000003)))) (.var 3)) .nil)) (.cst (.int 2147483629))))
    (.ret (.bin .mod (.blt .int (.cons (.bin .fdiv (.bin .mod (.blt .int (.cons (.bin .add (.bin .mul (.var 4) (.cst (.int 48271))) (.var 2)) .nil)) (.cst (.int 2147483587))) (.cst (.int 64))) .nil)) (.var 1))))))))⟩
def i__law_cells : IFn := ⟨2, 6, (.seq (.set 2 (.mut (.or (.blt .list (.cons (.slc (.var 0) .omit (.som (.var 1))) .nil)) (.lst (.cons (.cst (.int 0)) .nil)))))
    (.seq (.for_ (.tp (.cons (.nm 3) (.cons (.nm 4) .nil))) (.iEn (.cons (.slc (.var 0) (.som (.var 1)) (.som (.cst (.int 63)))) .nil)) (.seq (.set 5 (.bin .mod (.blt .int (.cons (.var 3) .nil)) (.var 1)))
    (.sub (.var 2) (.var 5) (.bin .add (.idx (.var 2) (.var 5)) (.bin .mul (.var 4) (.bin .add (.var 3) (.cst (.int 2))))))))
    (.ret (.var 2))))⟩
def i__law_of : IFn := ⟨2, 2, (.ret (.idx (.var 1) (.call c__law_take (.cons (.var 0) (.cons (.blt .len (.cons (.var 1) .nil)) .nil)))))⟩
def i__law_pick : IFn := ⟨3, 6, (.seq (.par2 4 5 (.cons (.mut (.blt .list (.cons (.var 1) .nil))) (.cons (.mut (.lst .nil)) .nil)))
    (.seq (.for_ (.nm 3) (.iRg1 (.cons (.blt .min (.cons (.var 2) (.cons (.blt .len (.cons (.var 4) .nil)) .nil))) .nil)) (.expr (.app (.var 5) (.popA (.var 4) (.call c__law_take (.cons (.var 0) (.cons (.blt .len (.cons (.var 4) .nil)) .nil)))))))
    (.ret (.var 5))))⟩
def i__law_lists : IFn := ⟨1, 2, (.ret (.ife (.tst (.isi (.var 0) [.list, .tuple])) (.comp [1] (.nm 1) (.iPl (.var 0)) (.tst (.cst (.bl true))) (.call c__law_lists (.cons (.var 1) .nil))) (.var 0)))⟩
def i__law_same : IFn := ⟨2, 5, (.seq (.ife (.tst (.isi (.var 1) [.list, .tuple])) (.seq (.ife (.or (.tst (.cmp .ne (.isi (.var 0) [.list]) (.isi (.var 1) [.list]))) (.tst (.cmp .ne (.isi (.var 0) [.tuple]) (.isi (.var 1) [.tuple])))) (.ret (.cst (.bl false))) .skip)
    (.ret (.and (.cmp .eq (.blt .len (.cons (.var 0) .nil)) (.blt .len (.cons (.var 1) .nil))) (.blt .all (.cons (.comp [3, 4] (.tp (.cons (.nm 3) (.cons (.nm 4) .nil))) (.iZp (.cons (.var 0) (.cons (.var 1) .nil))) (.tst (.cst (.bl true))) (.call c__law_same (.cons (.var 3) (.cons (.var 4) .nil)))) .nil))))) .skip)
    (.seq (.ife (.tst (.isi (.var 1) [.dict])) (.seq (.ife (.or (.nt (.tst (.isi (.var 0) [.dict]))) (.tst (.cmp .ne (.blt .sorted (.cons (.var 0) .nil)) (.blt .sorted (.cons (.var 1) .nil))))) (.ret (.cst (.bl false))) .skip)
    (.ret (.blt .all (.cons (.comp [2] (.nm 2) (.iPl (.var 1)) (.tst (.cst (.bl true))) (.call c__law_same (.cons (.idx (.var 0) (.var 2)) (.cons (.idx (.var 1) (.var 2)) .nil)))) .nil)))) .skip)
    (.seq (.ife (.or (.tst (.cmp .isn (.var 1) (.cst .non))) (.tst (.isi (.var 1) [.bool, .str]))) (.ret (.and (.cmp .eq (.var 0) (.var 1)) (.and (.cmp .eq (.isi (.var 0) [.bool]) (.isi (.var 1) [.bool])) (.cmp .eq (.cmp .isn (.var 0) (.cst .non)) (.cmp .isn (.var 1) (.cst .non)))))) .skip)
    (.ret (.and (.isi (.var 0) [.int]) (.and (.nt (.isi (.var 0) [.bool])) (.cmp .eq (.var 0) (.var 1))))))))⟩
def i__law_split : IFn := ⟨5, 7, (.seq (.set 5 (.mut (.lst .nil)))
    (.seq (.for_ (.nm 6) (.iPl (.var 0)) (.ife (.tst (.cmp .ne (.idx (.var 6) (.cst (.int 0))) (.var 1))) (.expr (.app (.var 5) (.var 6))) (.ife (.tst (.cmp .eq (.var 2) (.cst (.str [108, 101, 118, 101, 108])))) (.set 5 (.mut (.bin .add (.var 5) (.lst (.cons (.bin .add (.slc (.var 6) .omit (.som (.cst (.int 4)))) (.tup (.cons (.var 3) .nil))) (.cons (.bin .add (.tup (.cons (.var 4) (.cons (.idx (.var 6) (.cst (.int 1))) (.cons (.var 3) .nil)))) (.slc (.var 6) (.som (.cst (.int 3))) .omit)) .nil)))))) (.set 5 (.mut (.bin .add (.var 5) (.lst (.cons (.bin .add (.bin .add (.slc (.var 6) .omit (.som (.cst (.int 3)))) (.tup (.cons (.var 3) .nil))) (.slc (.var 6) (.som (.cst (.int 4))) .omit)) (.cons (.bin .add (.tup (.cons (.var 4) (.cons (.var 3) .nil))) (.slc (.var 6) (.som (.cst (.int 2))) .omit)) .nil)))))))))
    (.ret (.blt .tuple (.cons (.blt .sorted (.cons (.var 5) .nil)) .nil)))))⟩
def i__law_no_cross : IFn := ⟨1, 3, (.seq (.set 1 (.lst .nil))
    (.seq (.for_ (.nm 2) (.iPl (.var 0)) (.set 1 (.bin .add (.var 1) (.lst (.cons (.tup (.cons (.idx (.var 2) (.cst (.int 1))) (.cons (.idx (.var 2) (.cst (.int 2))) .nil))) (.cons (.tup (.cons (.idx (.var 2) (.cst (.int 3))) (.cons (.idx (.var 2) (.cst (.int 2))) .nil))) (.cons (.tup (.cons (.idx (.var 2) (.cst (.int 1))) (.cons (.idx (.var 2) (.cst (.int 4))) .nil))) (.cons (.tup (.cons (.idx (.var 2) (.cst (.int 3))) (.cons (.idx (.var 2) (.cst (.int 4))) .nil))) .nil))))))))
    (.ret (.cmp .eq (.comp [2] (.nm 2) (.iPl (.var 1)) (.tst (.cmp .gt (.mth .count (.var 1) (.var 2)) (.cst (.int 3)))) (.var 2)) (.lst .nil)))))⟩
def i__law_flat : IFn := ⟨3, 14, (.seq (.set 3 (.call c__law_pick (.cons (.var 0) (.cons (.lst (.cons (.cst (.str [97])) (.cons (.cst (.str [98])) (.cons (.cst (.str [99])) (.cons (.cst (.str [100])) (.cons (.cst (.str [101])) (.cons (.cst (.str [102])) (.cons (.cst (.str [103])) (.cons (.cst (.str [104])) (.cons (.cst (.str [120])) (.cons (.cst (.str [121, 121])) (.cons (.cst (.str [97, 98, 99, 100, 101, 102, 103, 104])) .nil)))))))))))) (.cons (.bin .add (.cst (.int 1)) (.call c__law_take (.cons (.var 0) (.cons (.var 1) .nil)))) .nil)))))
    (.seq (.set 4 (.tup (.cons (.tup (.cons (.idx (.var 3) (.cst (.int 0))) (.cons (.cst (.int 0)) (.cons (.cst (.int 0)) (.cons (.bin .mul (.cst (.int 4)) (.var 2)) (.cons (.bin .mul (.cst (.int 4)) (.var 2)) .nil)))))) .nil)))
    (.seq (.ife (.and (.tst (.cmp .gt (.blt .len (.cons (.var 3) .nil)) (.cst (.int 4)))) (.tst (.cmp .eq (.call c__law_take (.cons (.var 0) (.cons (.cst (.int 3)) .nil))) (.cst (.int 0))))) (.seq (.set 6 (.var 2))
    (.seq (.set 4 (.tup (.cons (.tup (.cons (.idx (.var 3) (.cst (.int 0))) (.cons (.cst (.int 0)) (.cons (.cst (.int 0)) (.cons (.bin .mul (.cst (.int 3)) (.var 6)) (.cons (.var 6) .nil)))))) (.cons (.tup (.cons (.idx (.var 3) (.cst (.int 1))) (.cons (.bin .mul (.cst (.int 3)) (.var 6)) (.cons (.cst (.int 0)) (.cons (.bin .mul (.cst (.int 4)) (.var 6)) (.cons (.bin .mul (.cst (.int 3)) (.var 6)) .nil)))))) (.cons (.tup (.cons (.idx (.var 3) (.cst (.int 2))) (.cons (.var 6) (.cons (.bin .mul (.cst (.int 3)) (.var 6)) (.cons (.bin .mul (.cst (.int 4)) (.var 6)) (.cons (.bin .mul (.cst (.int 4)) (.var 6)) .nil)))))) .nil)))))
    (.set 4 (.blt .tuple (.cons (.blt .sorted (.cons (.bin .add (.var 4) (.tup (.cons (.tup (.cons (.idx (.var 3) (.cst (.int 3))) (.cons (.cst (.int 0)) (.cons (.var 6) (.cons (.var 6) (.cons (.bin .mul (.cst (.int 4)) (.var 6)) .nil)))))) (.cons (.tup (.cons (.idx (.var 3) (.cst (.int 4))) (.cons (.var 6) (.cons (.var 6) (.cons (.bin .mul (.cst (.int 3)) (.var 6)) (.cons (.bin .mul (.cst (.int 3)) (.var 6)) .nil)))))) .nil)))) .nil)) .nil))))) .skip)
    (.seq (.for_ (.nm 5) (.iPl (.slc (.var 3) (.som (.blt .len (.cons (.var 4) .nil))) .omit)) (.for_ (.nm 7) (.iRg1 (.cons (.cst (.int 6)) .nil)) (.seq (.par2 8 9 (.cons (.call c__law_of (.cons (.var 0) (.cons (.var 4) .nil))) (.cons (.call c__law_of (.cons (.var 0) (.cons (.lst (.cons (.cst (.str [108, 101, 118, 101, 108])) (.cons (.cst (.str [117, 112, 114, 105, 103, 104, 116])) .nil))) .nil))) .nil)))
    (.seq (.tset (.tp (.cons (.nm 10) (.cons (.nm 11) .nil))) (.ife (.tst (.cmp .eq (.var 9) (.cst (.str [108, 101, 118, 101, 108])))) (.tup (.cons (.idx (.var 8) (.cst (.int 2))) (.cons (.idx (.var 8) (.cst (.int 4))) .nil))) (.tup (.cons (.idx (.var 8) (.cst (.int 1))) (.cons (.idx (.var 8) (.cst (.int 3))) .nil)))))
    (.ife (.and (.tst (.cmp .gt (.bin .sub (.var 11) (.var 10)) (.cst (.int 1)))) (.tst (.cmp .nin (.var 5) (.comp [13] (.nm 13) (.iPl (.var 4)) (.tst (.cst (.bl true))) (.idx (.var 13) (.cst (.int 0))))))) (.seq (.set 12 (.call c__law_split (.cons (.var 4) (.cons (.idx (.var 8) (.cst (.int 0))) (.cons (.var 9) (.cons (.bin .add (.bin .add (.var 10) (.cst (.int 1))) (.call c__law_take (.cons (.var 0) (.cons (.bin .sub (.bin .sub (.var 11) (.var 10)) (.cst (.int 1))) .nil)))) (.cons (.var 5) .nil)))))))
    (.set 4 (.ife (.tst (.call c__law_no_cross (.cons (.var 12) .nil))) (.var 12) (.var 4)))) .skip)))))
    (.ret (.var 4))))))⟩
def i__law_sides : IFn := ⟨1, 7, (.seq (.set 1 (.lst (.cons (.blt .min (.cons (.comp [6] (.nm 6) (.iPl (.var 0)) (.tst (.cst (.bl true))) (.idx (.var 6) (.cst (.int 1)))) .nil)) (.cons (.blt .min (.cons (.comp [6] (.nm 6) (.iPl (.var 0)) (.tst (.cst (.bl true))) (.idx (.var 6) (.cst (.int 2)))) .nil)) .nil))))
    (.seq (.set 1 (.bin .add (.var 1) (.lst (.cons (.blt .max (.cons (.comp [6] (.nm 6) (.iPl (.var 0)) (.tst (.cst (.bl true))) (.idx (.var 6) (.cst (.int 3)))) .nil)) (.cons (.blt .max (.cons (.comp [6] (.nm 6) (.iPl (.var 0)) (.tst (.cst (.bl true))) (.idx (.var 6) (.cst (.int 4)))) .nil)) .nil)))))
    (.seq (.set 2 (.mut (.lst .nil)))
    (.seq (.for_ (.nm 3) (.iRg1 (.cons (.cst (.int 4)) .nil)) (.seq (.set 4 (.comp [6] (.nm 6) (.iPl (.var 0)) (.tst (.cmp .eq (.idx (.var 6) (.bin .add (.var 3) (.cst (.int 1)))) (.idx (.var 1) (.var 3)))) (.var 6)))
    (.seq (.set 5 (.blt .sorted (.cons (.comp [6] (.nm 6) (.iPl (.var 4)) (.tst (.cst (.bl true))) (.tup (.cons (.ife (.tst (.cmp .inn (.var 3) (.tup (.cons (.cst (.int 0)) (.cons (.cst (.int 2)) .nil))))) (.idx (.var 6) (.cst (.int 2))) (.idx (.var 6) (.cst (.int 1)))) (.cons (.idx (.var 6) (.cst (.int 0))) .nil)))) .nil)))
    (.expr (.app (.var 2) (.blt .tuple (.cons (.comp [6] (.nm 6) (.iPl (.var 5)) (.tst (.cst (.bl true))) (.idx (.var 6) (.cst (.int 1)))) .nil)))))))
    (.ret (.blt .tuple (.cons (.var 2) .nil)))))))⟩
def i__law_case_right : IFn := ⟨1, 4, (.seq (.set 1 (.call c__law_sides (.cons (.var 0) .nil)))
    (.seq (.set 2 (.mut (.lst (.cons (.var 1) (.cons (.tup (.cons (.idx (.idx (.var 1) (.cst (.int 1))) (.cst (.int 0))) (.cons (.idx (.idx (.var 1) (.cst (.int 1))) (.neg (.cst (.int 1)))) (.cons (.idx (.idx (.var 1) (.cst (.int 3))) (.neg (.cst (.int 1)))) (.cons (.idx (.idx (.var 1) (.cst (.int 3))) (.cst (.int 0))) .nil))))) .nil)))))
    (.seq (.set 3 (.mut (.lst (.cons (.call c_side_rooms (.cons (.var 0) .nil)) (.cons (.call c_corner_rooms (.cons (.var 0) .nil)) .nil)))))
    (.seq (.set 3 (.mut (.bin .add (.var 3) (.lst (.cons (.call c_side_rooms (.cons (.call c_mirrored (.cons (.var 0) .nil)) .nil)) (.cons (.call c_side_rooms (.cons (.call c_transposed (.cons (.var 0) .nil)) .nil)) (.cons (.call c_side_rooms (.cons (.call c_turned (.cons (.var 0) .nil)) .nil)) .nil)))))))
    (.seq (.expr (.app (.var 2) (.tup (.cons (.idx (.var 1) (.cst (.int 2))) (.cons (.rev (.idx (.var 1) (.cst (.int 1)))) (.cons (.idx (.var 1) (.cst (.int 0))) (.cons (.rev (.idx (.var 1) (.cst (.int 3)))) .nil)))))))
    (.seq (.expr (.app (.var 2) (.tup (.cons (.idx (.var 1) (.cst (.int 1))) (.cons (.idx (.var 1) (.cst (.int 0))) (.cons (.idx (.var 1) (.cst (.int 3))) (.cons (.idx (.var 1) (.cst (.int 2))) .nil)))))))
    (.seq (.expr (.app (.var 2) (.tup (.cons (.idx (.var 1) (.cst (.int 3))) (.cons (.rev (.idx (.var 1) (.cst (.int 0)))) (.cons (.idx (.var 1) (.cst (.int 1))) (.cons (.rev (.idx (.var 1) (.cst (.int 2)))) .nil)))))))
    (.seq (.set 3 (.mut (.bin .add (.var 3) (.lst (.cons (.call c_corner_rooms (.cons (.call c_turned (.cons (.var 0) .nil)) .nil)) (.cons (.call c_side_rooms (.cons (.call c__law_lists (.cons (.var 0) .nil)) .nil)) .nil))))))
    (.seq (.expr (.app (.var 3) (.call c_corner_rooms (.cons (.call c__law_lists (.cons (.var 0) .nil)) .nil))))
    (.ret (.call c__law_same (.cons (.var 3) (.cons (.bin .add (.var 2) (.lst (.cons (.bin .add (.slc (.idx (.var 2) (.cst (.int 1))) (.som (.cst (.int 3))) .omit) (.slc (.idx (.var 2) (.cst (.int 1))) .omit (.som (.cst (.int 3))))) (.cons (.idx (.var 2) (.cst (.int 0))) (.cons (.idx (.var 2) (.cst (.int 1))) .nil))))) .nil)))))))))))))⟩
def i__law_hand_right : IFn := ⟨0, 7, (.seq (.set 0 (.tup (.cons (.tup (.cons (.cst (.str [97])) (.cons (.cst (.int 0)) (.cons (.cst (.int 0)) (.cons (.cst (.int 2)) (.cons (.cst (.int 1)) .nil)))))) (.cons (.tup (.cons (.cst (.str [98])) (.cons (.cst (.int 2)) (.cons (.cst (.int 0)) (.cons (.cst (.int 3)) (.cons (.cst (.int 1)) .nil)))))) (.cons (.tup (.cons (.cst (.str [99])) (.cons (.cst (.int 0)) (.cons (.cst (.int 1)) (.cons (.cst (.int 1)) (.cons (.cst (.int 2)) .nil)))))) (.cons (.tup (.cons (.cst (.str [100])) (.cons (.cst (.int 1)) (.cons (.cst (.int 1)) (.cons (.cst (.int 3)) (.cons (.cst (.int 2)) .nil)))))) .nil))))))
    (.seq (.set 1 (.tup (.cons (.tup (.cons (.cst (.str [97])) (.cons (.cst (.int 0)) (.cons (.cst (.int 0)) (.cons (.cst (.int 3)) (.cons (.cst (.int 1)) .nil)))))) (.cons (.tup (.cons (.cst (.str [98])) (.cons (.cst (.int 3)) (.cons (.cst (.int 0)) (.cons (.cst (.int 4)) (.cons (.cst (.int 3)) .nil)))))) (.cons (.tup (.cons (.cst (.str [99])) (.cons (.cst (.int 1)) (.cons (.cst (.int 3)) (.cons (.cst (.int 4)) (.cons (.cst (.int 4)) .nil)))))) (.cons (.tup (.cons (.cst (.str [100])) (.cons (.cst (.int 0)) (.cons (.cst (.int 1)) (.cons (.cst (.int 1)) (.cons (.cst (.int 4)) .nil)))))) (.cons (.tup (.cons (.cst (.str [101])) (.cons (.cst (.int 1)) (.cons (.cst (.int 1)) (.cons (.cst (.int 3)) (.cons (.cst (.int 3)) .nil)))))) .nil)))))))
    (.seq (.set 2 (.mut (.lst (.cons (.call c_corner_rooms (.cons (.var 0) .nil)) (.cons (.call c_side_rooms (.cons (.var 0) .nil)) (.cons (.call c_corner_rooms (.cons (.var 1) .nil)) (.cons (.call c_side_rooms (.cons (.var 1) .nil)) .nil)))))))
    (.seq (.expr (.app (.var 2) (.call c_corner_rooms (.cons (.tup (.cons (.tup (.cons (.cst (.str [120])) (.cons (.cst (.int 0)) (.cons (.cst (.int 0)) (.cons (.cst (.int 1)) (.cons (.cst (.int 1)) .nil)))))) .nil)) .nil))))
    (.seq (.set 3 (.lst (.cons (.tup (.cons (.cst (.str [97])) (.cons (.cst (.str [98])) (.cons (.cst (.str [100])) (.cons (.cst (.str [99])) .nil))))) (.cons (.tup (.cons (.tup (.cons (.cst (.str [97])) (.cons (.cst (.str [99])) .nil))) (.cons (.tup (.cons (.cst (.str [97])) (.cons (.cst (.str [98])) .nil))) (.cons (.tup (.cons (.cst (.str [98])) (.cons (.cst (.str [100])) .nil))) (.cons (.tup (.cons (.cst (.str [99])) (.cons (.cst (.str [100])) .nil))) .nil))))) (.cons (.tup (.cons (.cst (.str [97])) (.cons (.cst (.str [98])) (.cons (.cst (.str [99])) (.cons (.cst (.str [100])) .nil))))) .nil)))))
    (.seq (.set 3 (.bin .add (.var 3) (.lst (.cons (.tup (.cons (.tup (.cons (.cst (.str [97])) (.cons (.cst (.str [100])) .nil))) (.cons (.tup (.cons (.cst (.str [97])) (.cons (.cst (.str [98])) .nil))) (.cons (.tup (.cons (.cst (.str [98])) (.cons (.cst (.str [99])) .nil))) (.cons (.tup (.cons (.cst (.str [100])) (.cons (.cst (.str [99])) .nil))) .nil))))) (.cons (.tup (.cons (.cst (.str [120])) (.cons (.cst (.str [120])) (.cons (.cst (.str [120])) (.cons (.cst (.str [120])) .nil))))) .nil)))))
    (.seq (.set 2 (.mut (.bin .add (.var 2) (.lst (.cons (.call c_side_rooms (.cons (.tup (.cons (.tup (.cons (.cst (.str [120])) (.cons (.cst (.int 0)) (.cons (.cst (.int 0)) (.cons (.cst (.int 1)) (.cons (.cst (.int 1)) .nil)))))) .nil)) .nil)) (.cons (.call c_side_rooms (.cons (.rev (.tup (.cons (.tup (.cons (.cst (.str [122])) (.cons (.cst (.int 0)) (.cons (.cst (.int 0)) (.cons (.cst (.int 1)) (.cons (.cst (.int 5)) .nil)))))) (.cons (.tup (.cons (.cst (.str [121])) (.cons (.cst (.int 1)) (.cons (.cst (.int 0)) (.cons (.cst (.int 2)) (.cons (.cst (.int 5)) .nil)))))) .nil)))) .nil)) .nil))))))
    (.seq (.set 3 (.bin .add (.var 3) (.lst (.cons (.bin .mul (.tup (.cons (.tup (.cons (.cst (.str [120])) .nil)) .nil)) (.cst (.int 4))) (.cons (.tup (.cons (.tup (.cons (.cst (.str [122])) .nil)) (.cons (.tup (.cons (.cst (.str [122])) (.cons (.cst (.str [121])) .nil))) (.cons (.tup (.cons (.cst (.str [121])) .nil)) (.cons (.tup (.cons (.cst (.str [122])) (.cons (.cst (.str [121])) .nil))) .nil))))) .nil)))))
    (.seq (.set 4 (.blt .tuple (.cons (.comp [5, 6] (.tp (.cons (.nm 5) (.cons (.nm 6) .nil))) (.iEn (.cons (.cst (.str [97, 98, 99, 100, 101, 102, 103, 104, 105, 106])) .nil)) (.tst (.cst (.bl true))) (.tup (.cons (.var 6) (.cons (.cst (.int 0)) (.cons (.var 5) (.cons (.cst (.int 1)) (.cons (.bin .add (.var 5) (.cst (.int 1))) .nil))))))) .nil)))
    (.seq (.set 2 (.mut (.bin .add (.var 2) (.lst (.cons (.idx (.call c_side_rooms (.cons (.var 4) .nil)) (.cst (.int 0))) (.cons (.call c_corner_rooms (.cons (.var 4) .nil)) .nil))))))
    (.seq (.ife (.nt (.tst (.call c__law_same (.cons (.var 2) (.cons (.bin .add (.var 3) (.lst (.cons (.blt .tuple (.cons (.cst (.str [97, 98, 99, 100, 101, 102, 103, 104, 105, 106])) .nil)) (.cons (.tup (.cons (.cst (.str [97])) (.cons (.cst (.str [97])) (.cons (.cst (.str [106])) (.cons (.cst (.str [106])) .nil))))) .nil)))) .nil))))) (.ret (.cst (.bl false))) .skip)
    (.ret (.and (.call c__law_case_right (.cons (.var 0) .nil)) (.and (.call c__law_case_right (.cons (.var 1) .nil)) (.call c__law_case_right (.cons (.var 4) .nil))))))))))))))))⟩
def i__law_right : IFn := ⟨1, 2, (.ret (.blt .all (.cons (.comp [1] (.nm 1) (.iRg1 (.cons (.cst (.int 12)) .nil)) (.tst (.cst (.bl true))) (.call c__law_case_right (.cons (.call c__law_flat (.cons (.var 0) (.cons (.cst (.int 9)) (.cons (.cst (.int 4)) .nil)))) .nil))) .nil)))⟩
def i_law : IFn := ⟨1, 3, (.seq (.ife (.nt (.tst (.call c__law_hand_right .nil))) (.ret (.cst (.bl false))) .skip)
    (.seq (.set 1 (.call c__law_cells (.cons (.var 0) (.cons (.cst (.int 3)) .nil))))
    (.ret (.blt .all (.cons (.comp [2] (.nm 2) (.iRg1 (.cons (.blt .len (.cons (.var 1) .nil)) .nil)) (.tst (.cst (.bl true))) (.call c__law_right (.cons (.callM c__law_box (.cons (.var 1) (.cons (.var 2) .nil))) .nil))) .nil)))))⟩
end IR

set_option Elab.async false
set_option linter.all false
set_option maxRecDepth 100000
namespace EV
open IR L2
theorem runFn_wp {Φ : Fns} {f : IFn} {as : List AV} {h : AH} {P : AV → AH → Prop} (w : wf (evS Φ f.body (startA f.ns as) h) (fun _ h => P .non h) P) : wp (runFn Φ f as h) P := by
  unfold runFn; rw [wp_res]; exact w
/-- a call: its def is run -/
theorem callV_wp {T : Tab} {m : Nat} {c : Nat} {f : IFn} {as : List AV} {h : AH} {P : AV → AH → Prop} (hm : 1 ≤ m) (hl : T.lookup c = some f)
    (w : wf (evS (callN T (m - 1)) f.body (startA f.ns as) h) (fun _ h1 => wp (shut h.length .non h1) P) (fun v h1 => wp (shut h.length v h1) P)) : wp (callV (callN T m) c as h) P := by
  unfold callV
  rw [callN_of hm hl, wp_bind]
  exact runFn_wp w
theorem take_wp {T : Tab} (hT : T.lookup c__law_take = some i__law_take) {m n : Nat} {k top : Int} {h : AH} {P : AV → AH → Prop} (hm : 1 ≤ m) (hk : k < 1000000000) (hb : BoxAt n k h) (ht : 0 < top) (ht2 : top < 1073741824)
    (w : ∀ d h', 0 ≤ d → d < top → SameH n h h' → BoxAt n (k + 1) h' → P (.int d) h') : wp (callV (callN T m) c__law_take [.ref n, .int top] h) P := by
  obtain ⟨hh, a, b, c, e, ha, hb0, hb1, hc0, hc1⟩ := hb
  have hn : n < h.length := (List.getElem?_eq_some_iff.mp e).1
  refine callV_wp hm hT ?_
  have so : ∀ a c : Int, okO (.lst [.int a, .int b, .int c]) = true := fun a c => by simp [okO, pv]
  have fin : ∀ (d : Int) (a' c' : Int), 0 ≤ d → d < top → 0 ≤ a' → 0 ≤ c' → c' ≤ k + 1 → wp (shut h.length (.int d) (h.set n (.lst [.int a', .int b, .int c']))) P := fun d a' c' h1 h2 h3 h4 h5 => by
    have hk' : hOk (h.set n (.lst [.int a', .int b, .int c'])) := hOk_set hh (so a' c')
    have := shut_ch (h := h) (h' := h.set n (.lst [.int a', .int b, .int c'])) (ex := []) (v := .int d) (by simp) hk' rfl
    rw [List.append_nil] at this
    rw [this, wp_ok]
    exact w d _ h1 h2 ⟨_, rfl, so a' c'⟩ ⟨hk', a', b, c', by rw [List.getElem?_set_self hn]; rfl, h3, hb0, hb1, h4, h5⟩
  by_cases ha1 : 0 < a
  · simp [i__law_take, lstOf_ref _ e, itemsOf_ref _ e, idxO, atI_int, setL, ixN, ha1, hn, bin_mod _ ht, bin_fdiv _ ht ht2]
    exact fin _ _ _ (Int.emod_nonneg _ (by omega)) (Int.emod_lt_of_pos _ ht) (Int.ediv_nonneg ha (by omega)) hc0 (by omega)
  · have e2 : (h.set n (.lst [.int a, .int b, .int (c + 1)]))[n]? = some (.lst [.int a, .int b, .int (c + 1)]) := List.getElem?_set_self hn
    have m1 : mulOk 48271 (c + 1) = true := by simp only [mulOk, P64, Bool.or_eq_true, Bool.and_eq_true, decide_eq_true_eq]; omega
    have m2 : mulOk (b + 48271 * (c + 1)) (39373 + (c + 1)) = true := by simp only [mulOk, P64, Bool.or_eq_true, Bool.and_eq_true, decide_eq_true_eq]; omega
    have m3 : ∀ x y : Int, mulOk x (y % 40009 + 7) = true := fun x y => by simp only [mulOk, P64, Bool.or_eq_true, Bool.and_eq_true, decide_eq_true_eq]; omega
    have m4 : ∀ x : Int, mulOk x 48271 = true := fun x => by simp only [mulOk, P64, Bool.or_eq_true, Bool.and_eq_true, decide_eq_true_eq]; omega
    simp [i__law_take, lstOf_ref _ e, itemsOf_ref _ e, lstOf_ref _ e2, itemsOf_ref _ e2, idxO, atI_int, setL, ixN, ha1, hn, bin_mod, bin_fdiv, ht, m1, m2, m3, m4]
    exact fin _ _ _ (Int.emod_nonneg _ (by omega)) (Int.emod_lt_of_pos _ ht) ha (by omega) (by omega)
end EV

set_option Elab.async false
set_option linter.all false
set_option maxRecDepth 100000
namespace EV
open IR L2
/-! ### what is drawn -/
theorem BoxAt.lt {n : Nat} {k : Int} {h : AH} (b : BoxAt n k h) : n < h.length := by
  obtain ⟨_, a, _, _, e, _⟩ := b
  exact (List.getElem?_eq_some_iff.mp e).1
theorem BoxAt.ok {n : Nat} {k : Int} {h : AH} (b : BoxAt n k h) : hOk h := b.1
theorem BoxAt.le {n : Nat} {k k' : Int} {h : AH} (b : BoxAt n k h) (l : k ≤ k') : BoxAt n k' h := by
  obtain ⟨o, a, b, c, e, h1, h2, h3, h4, h5⟩ := b
  exact ⟨o, a, b, c, e, h1, h2, h3, h4, by omega⟩
theorem BoxAt.app {n : Nat} {k : Int} {h ex : AH} (b : BoxAt n k h) (e : hOk ex) : BoxAt n k (h ++ ex) := by
  have hn := b.lt
  obtain ⟨o, a, b, c, e1, r⟩ := b
  exact ⟨hOk_app o e, a, b, c, by rw [List.getElem?_append_left hn]; exact e1, r⟩
theorem BoxAt.unapp {n : Nat} {k : Int} {h ex : AH} (b : BoxAt n k (h ++ ex)) (hn : n < h.length) : BoxAt n k h := by
  obtain ⟨o, a, b, c, e1, r⟩ := b
  exact ⟨fun p m => o p (List.mem_append_left _ m), a, b, c, by rw [List.getElem?_append_left hn] at e1; exact e1, r⟩
theorem SameH.app {n : Nat} {h ex h' : AH} (s : SameH n (h ++ ex) h') (hn : n < h.length) : ∃ h1, h' = h1 ++ ex ∧ SameH n h h1 := by
  obtain ⟨o, rfl, ho⟩ := s
  exact ⟨h.set n o, by rw [List.set_append_left _ _ hn], o, rfl, ho⟩
theorem SameH.refl {n : Nat} {k : Int} {h : AH} (b : BoxAt n k h) : SameH n h h := by
  have hn := b.lt
  obtain ⟨o, a, b, c, e1, r⟩ := b
  refine ⟨bxL a b c, ?_, by simp [bxL, okO, pv]⟩
  have := (List.getElem?_eq_some_iff.mp e1).2
  rw [← this]; simp
theorem shut_box {n : Nat} {k : Int} {h h1 : AH} {v : AV} (s : SameH n h h1) (b : BoxAt n k h1) (hv : pv 40 v = true) : shut h.length v h1 = .ok v h1 := by
  have := shut_ch (h := h) (h' := h1) (ex := []) (v := v) s.len b.ok hv
  rwa [List.append_nil] at this
theorem shut_boxA {n : Nat} {k : Int} {h h1 ex : AH} {v : AV} (s : SameH n h h1) (b : BoxAt n k h1) (hv : pv 40 v = true) : shut h.length v (h1 ++ ex) = .ok v h1 := shut_ch s.len b.ok hv
theorem shut_same {h : AH} {v : AV} (b : hOk h) (hv : pv 40 v = true) : shut h.length v h = .ok v h := by
  have := shut_ch (h := h) (h' := h) (ex := []) (v := v) rfl b hv
  rwa [List.append_nil] at this
theorem shut_ref {h h' ex : AH} {n : Nat} {l : List AV} (hl : h'.length = h.length) (hh : hOk h') (hn : h.length ≤ n) (e : (h' ++ ex)[n]? = some (.lst l)) (hv : l.all (pv 38) = true) : shut h.length (.ref n) (h' ++ ex) = .ok (.lst l) h' := by
  have e1 : frz h.length (h' ++ ex) 40 (.ref n) = some (.lst l) := by
    simp only [frz]
    rw [if_neg (by omega), e]
    simp only [mapO_id fun x m => frz_pv (b := h.length) (h := h' ++ ex) 38 x (List.all_eq_true.mp hv x m) 39 (by omega), Option.map_some]
  unfold shut
  rw [e1, ← hl, List.take_left, frzH_pv hh]
theorem pv_mono : ∀ {n : Nat} {v : AV}, pv n v = true → ∀ {m}, n ≤ m → pv m v = true := by
  intro n
  induction n with
  | zero => intro v e m hm; cases v <;> simp [pv] at e <;> cases m <;> simp [pv]
  | succ n ih =>
    intro v e m hm
    obtain ⟨m, rfl⟩ : ∃ j, m = j + 1 := ⟨m - 1, by omega⟩
    cases v <;> simp [pv] at e ⊢ <;> exact fun x hx => ih (e x hx) (by omega)
/-- one of some things -/
def sqv (b : Bool) (l : List AV) : AV := if b then .lst l else .tup l
theorem of_wp {T : Tab} (hT : T.lookup c__law_take = some i__law_take) (hO : T.lookup c__law_of = some i__law_of) {m n : Nat} {k : Int} {h : AH} {P : AV → AH → Prop} {v : AV} {l : List AV} (hv : v = .tup l ∨ v = .lst l) (hm : 2 ≤ m) (hk : k < 1000000000) (hb : BoxAt n k h) (hl : l ≠ []) (hl2 : l.length < 1073741824) (hp : l.all (pv 40) = true)
    (w : ∀ x h', x ∈ l → SameH n h h' → BoxAt n (k + 1) h' → P x h') : wp (callV (callN T m) c__law_of [.ref n, v] h) P := by
  have hl1 : 0 < l.length := by cases l with | nil => exact absurd rfl hl | cons => simp
  refine callV_wp (by omega) hO ?_
  have go : ∀ d h', 0 ≤ d → d < (l.length : Int) → SameH n h h' → BoxAt n (k + 1) h' → ∃ x, atI l d = some x ∧ wp (shut h.length x h') P := fun d h' h1 h2 s b => by
    rw [atI_int h1]
    have h3 : d.toNat < l.length := by omega
    refine ⟨l[d.toNat], List.getElem?_eq_getElem h3, ?_⟩
    have hx : l[d.toNat] ∈ l := List.getElem_mem h3
    rw [shut_box s b (List.all_eq_true.mp hp _ hx), wp_ok]
    exact w _ _ hx s b
  rcases hv with rfl | rfl
  · simp [i__law_of]
    refine take_wp hT (by omega) hk hb (by omega) (by omega) fun d h' h1 h2 s b => ?_
    simpa using go d h' h1 h2 s b
  · simp [i__law_of]
    refine take_wp hT (by omega) hk hb (by omega) (by omega) fun d h' h1 h2 s b => ?_
    simpa using go d h' h1 h2 s b
theorem srcRg1_int (j : Int) : srcRg1 [.int j] = if decide (-(2 ^ 62) ≤ j) && decide (j < 2 ^ 62) then some (rangeL 0 j.toNat) else none := rfl
theorem srcRg1_nat {n : Nat} (h : n ≤ 1000000000) : srcRg1 [.int (n : Int)] = some (rangeL 0 n) := by
  rw [srcRg1_int, if_pos, Int.toNat_natCast]
  simp; omega
theorem okO_lst {l : List AV} (h : l.all (pv 38) = true) : okO (.lst l) = true := h
theorem hOk_two {a b : List AV} (h1 : a.all (pv 38) = true) (h2 : b.all (pv 38) = true) : hOk [.lst a, .lst b] := fun o m => by
  simp only [List.mem_cons, List.not_mem_nil, or_false] at m
  rcases m with rfl | rfl <;> assumption
theorem era {α : Type} : ∀ {l : List α} {i : Nat} (h : i < l.length), (l.eraseIdx i ++ [l[i]]).Perm l
  | x :: l, 0, h => by simp
  | x :: l, i + 1, h => by
    have := era (l := l) (i := i) (by simpa using h)
    simpa using this
/-- some of a pool -/
theorem pick_wp {T : Tab} (hT : T.lookup c__law_take = some i__law_take) (hO : T.lookup c__law_pick = some i__law_pick) {m n : Nat} {k size : Int} {h : AH} {P : AV → AH → Prop} {pool : List AV} (hm : 2 ≤ m) (hk : k + pool.length < 1000000000) (hb : BoxAt n k h) (hs : 0 ≤ size) (hl2 : pool.length < 1000) (hp : pool.all (pv 38) = true)
    (w : ∀ some_ rest h', (rest ++ some_).Perm pool → some_.length = min size.toNat pool.length → SameH n h h' → BoxAt n (k + pool.length) h' → P (.lst some_) h') : wp (callV (callN T m) c__law_pick [.ref n, .lst pool, .int size] h) P := by
  have hn := hb.lt
  refine callV_wp (by omega) hO ?_
  have e4 : (h ++ [AObj.lst pool, .lst []])[h.length]? = some (.lst pool) := by simp
  have rg : ∀ j : Int, j ≤ pool.length → 0 ≤ j → (decide (-(2 ^ 62) ≤ j) && decide (j < 2 ^ 62)) = true := fun j a b => by
    simp only [Bool.and_eq_true, decide_eq_true_eq]; omega
  have bl : bfO (h ++ [AObj.lst pool, .lst []]) .len [.ref h.length] = some (.int pool.length) := by
    show (itemsOf _ _).map _ = _
    rw [itemsOf_ref _ e4]; rfl
  simp [i__law_pick, bl, srcRg1_int]
  generalize hj : (if (pool.length : Int) < size then (pool.length : Int) else size) = j
  have hj1 : j ≤ pool.length := by split at hj <;> omega
  have hj0 : 0 ≤ j := by split at hj <;> omega
  have hj2 : j.toNat = min size.toNat pool.length := by split at hj <;> omega
  refine ⟨_, ⟨⟨by omega, by omega⟩, rfl⟩, ?_⟩
  simp only [evF_st]
  refine wf_forL (fun xs σ h' => ∃ (h1 : AH) (rest some_ : List AV) (v : Option AV), h' = h1 ++ [.lst rest, .lst some_] ∧ (rest ++ some_).Perm pool ∧ some_.length + xs.length = j.toNat ∧ SameH n h h1 ∧ BoxAt n (k + some_.length) h1 ∧ σ = [some (.ref n), some (.lst pool), some (.int size), v, some (.ref h.length), some (.ref (h.length + 1))]) ?_ ?_ ?_
  · refine ⟨h, pool, [], none, rfl, by simp, ?_, SameH.refl hb, by simpa using hb, rfl⟩
    have : ∀ (i : Int) (t : Nat), (rangeL i t).length = t := fun i t => by
      induction t generalizing i with
      | zero => rfl
      | succ t ih => simp [rangeL, ih]
    simp [this]
  · rintro x r σ h' ⟨h1, rest, some_, v, rfl, pm, hlen, s, b, rfl⟩
    have hpl := pm.length_eq
    simp only [List.length_append, List.length_cons] at hpl hlen
    have hr : 0 < rest.length := by omega
    have allp : ∀ y, y ∈ rest ∨ y ∈ some_ → pv 38 y = true := fun y hy => List.all_eq_true.mp hp y (pm.mem_iff.mp (List.mem_append.mpr hy))
    have ho : hOk [AObj.lst rest, .lst some_] := hOk_two (List.all_eq_true.mpr fun y hy => allp y (.inl hy)) (List.all_eq_true.mpr fun y hy => allp y (.inr hy))
    have hb1 := b.app ho
    have l1 : (h1 ++ [AObj.lst rest, .lst some_])[h.length]? = some (.lst rest) := by rw [← s.len]; simp
    have l2 : bfO (h1 ++ [AObj.lst rest, .lst some_]) .len [.ref h.length] = some (.int rest.length) := by
      show (itemsOf _ _).map _ = _
      rw [itemsOf_ref _ l1]; rfl
    simp [l2]
    refine take_wp hT (by omega) (by omega) hb1 (by omega) (by omega) fun d h2 d0 d1 s2 b2 => ?_
    obtain ⟨h3, rfl, s3⟩ := s2.app b.lt
    have b3 := b2.unapp (by rw [s3.len]; exact b.lt)
    have hd : d.toNat < rest.length := by omega
    have e5 : h3.length = h.length := by rw [s3.len, s.len]
    have l3 : (h3 ++ [AObj.lst rest, .lst some_])[h.length]? = some (.lst rest) := by rw [← e5]; simp
    have ix : ixN rest.length d = some d.toNat := by unfold ixN; rw [if_pos d0, if_pos d1]
    have l4 : (h3 ++ [AObj.lst rest, .lst some_]).set h.length (.lst (rest.eraseIdx d.toNat)) = h3 ++ [AObj.lst (rest.eraseIdx d.toNat), .lst some_] := by rw [← e5]; simp
    have l5 : lstOf (h3 ++ [AObj.lst (rest.eraseIdx d.toNat), .lst some_]) (.ref (h.length + 1)) = some some_ := lstOf_ref _ (by rw [← e5]; simp)
    have l6 : some_.length < SZ := by show _ < 16777216; omega
    have cond : -9223372036854775808 ≤ d ∧ d < 9223372036854775808 := ⟨by omega, by omega⟩
    simp [popK, lstOf_ref _ l3, ix, cond, List.getElem?_eq_getElem hd, l4, l5, l6]
    refine ⟨h3, rest.eraseIdx d.toNat, some_ ++ [rest[d.toNat]], by rw [← e5]; simp, ?_, by simp; omega, s.trans s3, ?_⟩
    · refine List.Perm.trans ?_ pm
      have : (rest.eraseIdx d.toNat ++ [rest[d.toNat]]).Perm rest := era hd
      calc (rest.eraseIdx d.toNat ++ (some_ ++ [rest[d.toNat]])).Perm (rest.eraseIdx d.toNat ++ ([rest[d.toNat]] ++ some_)) := List.Perm.append_left _ List.perm_append_comm
        _ = ((rest.eraseIdx d.toNat ++ [rest[d.toNat]]) ++ some_) := by simp
        _ |>.Perm _ := List.Perm.append_right _ this
    · rw [List.length_append]; simpa [Int.add_assoc] using b3
  · rintro σ h' ⟨h1, rest, some_, v, rfl, pm, hlen, s, b, rfl⟩
    simp only [List.length_nil, Nat.add_zero] at hlen
    have hpl := pm.length_eq
    simp only [List.length_append] at hpl
    have l5 : (h1 ++ [AObj.lst rest, .lst some_])[h.length + 1]? = some (.lst some_) := by rw [← s.len]; simp
    have hv : pv 40 (.lst some_) = true := by
      simp only [pv]
      refine List.all_eq_true.mpr fun y hy => pv_mono (List.all_eq_true.mp hp y (pm.mem_iff.mp (List.mem_append_right _ hy))) (by omega)
    simp only [evS_ret, evE_var, getv_zero, getv_succ, ofO_some, fln_ok, wf_rt, wf_fln, wp_ok]
    rw [shut_ref s.len b.ok (by omega) l5 (List.all_eq_true.mpr fun y hy => List.all_eq_true.mp hp y (pm.mem_iff.mp (List.mem_append_right _ hy))), wp_ok]
    exact w _ _ _ pm (by omega) s (b.le (by omega))
end EV

set_option Elab.async false
set_option linter.all false
set_option maxRecDepth 100000
namespace EV
open IR L2
theorem callV_eq {T : Tab} {m c : Nat} {f : IFn} {as : List AV} {h h1 : AH} {v : AV} (hm : 1 ≤ m) (hl : T.lookup c = some f) (e : evS (callN T (m - 1)) f.body (startA f.ns as) h = .rt v h1) : callV (callN T m) c as h = shut h.length v h1 := by
  unfold callV
  rw [callN_of hm hl]
  unfold runFn
  rw [e]; rfl
/-- plain values of bounded lengths -/
def gv : Nat → AV → Bool
  | _, .non => true
  | _, .bl _ => true
  | _, .int _ => true
  | _, .str _ => true
  | n + 1, .tup l => decide (l.length ≤ 1000000) && l.all (gv n)
  | n + 1, .lst l => decide (l.length ≤ 1000000) && l.all (gv n)
  | _, _ => false
termination_by structural n => n
theorem gv_pv : ∀ {n : Nat} {v : AV}, gv n v = true → pv n v = true := by
  intro n
  induction n with
  | zero => intro v e; cases v <;> simp [gv] at e <;> simp [pv]
  | succ n ih =>
    intro v e
    cases v <;> simp [gv] at e <;> simp [pv]
    · exact fun x hx => ih (e.2 x hx)
    · exact fun x hx => ih (e.2 x hx)
theorem gv_pv' {n m : Nat} {v : AV} (e : gv n v = true) (h : n ≤ m) : pv m v = true := pv_mono (gv_pv e) h
/-- lists in the place of tuples -/
def lsN : Nat → AV → AV
  | n + 1, .tup l => .lst (l.map (lsN n))
  | n + 1, .lst l => .lst (l.map (lsN n))
  | _, v => v
termination_by structural n => n
theorem lsN_gv : ∀ {n : Nat} {v : AV}, gv n v = true → gv n (lsN n v) = true := by
  intro n
  induction n with
  | zero => intro v e; cases v <;> simp [gv] at e <;> simp [lsN, gv]
  | succ n ih =>
    intro v e
    cases v <;> simp [gv] at e <;> simp [lsN, gv]
    · exact ⟨e.1, fun x hx => ih (e.2 x hx)⟩
    · exact ⟨e.1, fun x hx => ih (e.2 x hx)⟩
theorem lists_ok {T : Tab} (hT : T.lookup c__law_lists = some i__law_lists) {h : AH} (hh : hOk h) : ∀ (d : Nat) (v : AV), d ≤ 40 → gv d v = true → ∀ m, d + 1 ≤ m → callV (callN T m) c__law_lists [v] h = .ok (lsN d v) h := by
  intro d
  induction d with
  | zero =>
    intro v hd e m hm
    have hs : shut h.length v h = .ok v h := shut_same hh (gv_pv' e (by omega))
    rw [callV_eq hm hT (v := v) (h1 := h), hs]
    · cases v <;> simp [gv] at e <;> simp [lsN]
    · cases v <;> simp [gv] at e <;> simp [i__law_lists, isTy]
  | succ d ih =>
    intro v hd e m hm
    have hs : shut h.length (lsN (d + 1) v) h = .ok (lsN (d + 1) v) h := shut_same hh (gv_pv' (lsN_gv e) (by omega))
    rw [callV_eq (by omega) hT (v := lsN (d + 1) v) (h1 := h), hs]
    have go : ∀ l : List AV, (∀ x ∈ l, gv d x = true) → compL (fun x h2 => (cBody (callN T (m - 1)) [1] (.nm 1) (.tst (.cst (.bl true))) (.call c__law_lists (.cons (.var 1) .nil)) [some v, none] x h2).nox) l h = .ok (l.map (lsN d)) h := fun l hl => by
      have := compL_map (f := fun x h2 => (cBody (callN T (m - 1)) [1] (.nm 1) (.tst (.cst (.bl true))) (.call c__law_lists (.cons (.var 1) .nil)) [some v, none] x h2).nox) (e := id) (g := lsN d) (h := h) (xs := l) fun x hx => by
        simp [cBody, ih x (by omega) (hl x hx) (m - 1) (by omega)]
      simpa using this
    cases v with
    | tup l => simp [gv] at e; have := go l e.2; have hz : l.length ≤ SZ := by (show l.length ≤ 16777216); omega
               simp [i__law_lists, isTy, this, lsN, hz]
    | lst l => simp [gv] at e; have := go l e.2; have hz : l.length ≤ SZ := by (show l.length ≤ 16777216); omega
               simp [i__law_lists, isTy, this, lsN, hz]
    | _ => simp [gv] at e <;> simp [i__law_lists, isTy, lsN]
theorem zipL_self : ∀ l : List AV, zipL l l = l.map fun x => .tup [x, x]
  | [] => rfl
  | x :: l => by simp [zipL, zipL_self l]
theorem blsOf_true {α : Type} : ∀ l : List α, blsOf (l.map fun _ => .bl true) = some (l.map fun _ => true)
  | [] => rfl
  | x :: l => by simp [blsOf, blsOf_true l]
/-- a thing is the same as itself -/
theorem same_ok {T : Tab} (hT : T.lookup c__law_same = some i__law_same) {h : AH} (hh : hOk h) : ∀ (d : Nat) (v : AV), d ≤ 40 → gv d v = true → ∀ m, d + 1 ≤ m → callV (callN T m) c__law_same [v, v] h = .ok (.bl true) h := by
  intro d
  induction d with
  | zero =>
    intro v hd e m hm
    rw [callV_eq hm hT (v := .bl true) (h1 := h), shut_same hh rfl]
    cases v <;> simp [gv] at e <;> simp [i__law_same, isTy, isNon, eqO]
  | succ d ih =>
    intro v hd e m hm
    rw [callV_eq (by omega) hT (v := .bl true) (h1 := h), shut_same hh rfl]
    have go : ∀ l : List AV, (∀ x ∈ l, gv d x = true) → compL (fun x h2 => (cBody (callN T (m - 1)) [3, 4] (.tp (.cons (.nm 3) (.cons (.nm 4) .nil))) (.tst (.cst (.bl true))) (.call c__law_same (.cons (.var 3) (.cons (.var 4) .nil))) [some v, some v, none, none, none] x h2).nox) (l.map fun x => .tup [x, x]) h = .ok (l.map fun _ => .bl true) h := fun l hl => by
      refine compL_map (f := fun x h2 => (cBody (callN T (m - 1)) [3, 4] (.tp (.cons (.nm 3) (.cons (.nm 4) .nil))) (.tst (.cst (.bl true))) (.call c__law_same (.cons (.var 3) (.cons (.var 4) .nil))) [some v, some v, none, none, none] x h2).nox) (e := fun x => .tup [x, x]) (g := fun _ => .bl true) (h := h) (xs := l) fun x hx => by
        simp [cBody, ih x (by omega) (hl x hx) (m - 1) (by omega)]
    cases v with
    | tup l => simp [gv] at e; have := go l e.2; have hz : l.length ≤ SZ := by (show l.length ≤ 16777216); omega
               simp [i__law_same, isTy, zipL_self, this, blsOf_true, hz]
    | lst l => simp [gv] at e; have := go l e.2; have hz : l.length ≤ SZ := by (show l.length ≤ 16777216); omega
               simp [i__law_same, isTy, zipL_self, this, blsOf_true, hz]
    | _ => simp [gv] at e <;> simp [i__law_same, isTy, isNon, eqO]
end EV

set_option Elab.async false
set_option linter.all false
set_option maxRecDepth 100000
namespace EV
open IR L2
theorem enumL_cons (i : Int) (x : AV) (l : List AV) : enumL i (x :: l) = .tup [.int i, x] :: enumL (i + 1) l := rfl
theorem cutL_map {α β : Type} (f : α → β) (l : List α) (a b : Option Int) : cutL (l.map f) a b = (cutL l a b).map f := by
  unfold cutL; simp
theorem cutL_len {α : Type} (l : List α) (a b : Option Int) : (cutL l a b).length ≤ l.length := by
  unfold cutL; simp; omega
theorem cutL_pre {α : Type} (l : List α) {N : Int} (h : 0 ≤ N) : cutL l none (some N) = l.take N.toNat := by
  unfold cutL
  simp only [HT.sIx]
  rw [if_neg (by omega)]
  simp only [List.drop_zero, Nat.sub_zero]
  by_cases q : N.toNat ≤ l.length
  · rw [Nat.min_eq_left q]
  · rw [Nat.min_eq_right (by omega), List.take_of_length_le (Nat.le_refl _), List.take_of_length_le (by omega)]
theorem cutL_suf {α : Type} (l : List α) {N : Int} (h : 0 ≤ N) : cutL l (some N) none = l.drop N.toNat := by
  unfold cutL
  simp only [HT.sIx]
  rw [if_neg (by omega)]
  by_cases q : N.toNat ≤ l.length
  · rw [Nat.min_eq_left q, List.take_of_length_le (by simp)]
  · rw [Nat.min_eq_right (by omega), List.drop_eq_nil_of_le (Nat.le_refl _), List.drop_eq_nil_of_le (by omega)]; simp
theorem cutL_mid {α : Type} (l : List α) {N M : Int} (h : 0 ≤ N) (h' : 0 ≤ M) : cutL l (some N) (some M) = (l.take M.toNat).drop N.toNat := by
  unfold cutL
  simp only [HT.sIx]
  rw [if_neg (by omega), if_neg (by omega), List.drop_take]
  by_cases q : N.toNat ≤ l.length
  · rw [Nat.min_eq_left q]
    by_cases q2 : M.toNat ≤ l.length
    · rw [Nat.min_eq_left q2]
    · rw [Nat.min_eq_right (by omega), List.take_of_length_le (by simp), List.take_of_length_le (by simp; omega)]
  · rw [Nat.min_eq_right (by omega : l.length ≤ N.toNat), List.drop_eq_nil_of_le (Nat.le_refl _), List.drop_eq_nil_of_le (by omega)]; simp
theorem all_ints (l : List Int) (n : Nat) : (l.map AV.int).all (pv n) = true := by
  simp; intro x _; cases n <;> rfl
@[simp] theorem slc_scr (h : AH) (l : List AV) (a b : Option Int) : slcO h (.scr l) a b = some (.lst (cutL l a b)) := rfl
@[simp] theorem slc_lst (h : AH) (l : List AV) (a b : Option Int) : slcO h (.lst l) a b = some (.lst (cutL l a b)) := rfl
@[simp] theorem slc_tup (h : AH) (l : List AV) (a b : Option Int) : slcO h (.tup l) a b = some (.tup (cutL l a b)) := rfl
@[simp] theorem truO_lst (h : AH) (l : List AV) : truO h (.lst l) = some (!l.isEmpty) := rfl
@[simp] theorem truO_tup (h : AH) (l : List AV) : truO h (.tup l) = some (!l.isEmpty) := rfl
theorem lookup_app {h : AH} {o : AObj} : (h ++ [o])[h.length]? = some o := by simp
theorem cells_wp {T : Tab} (hT : T.lookup c__law_cells = some i__law_cells) {m : Nat} {N : Int} {ns : List Int} {h : AH} {P : AV → AH → Prop} (hm : 1 ≤ m) (hh : hOk h) (hN : 1 ≤ N) (hN2 : N ≤ 60) (hl : ns.length ≤ 63)
    (w : ∀ cs : List Int, 1 ≤ cs.length → cs.length ≤ N → P (.lst (cs.map .int)) h) : wp (callV (callN T m) c__law_cells [.scr (ns.map .int), .int N] h) P := by
  refine callV_wp hm hT ?_
  have start : ∃ cs : List Int, 1 ≤ cs.length ∧ cs.length ≤ N ∧ (cs.length < N → cutL ns (some N) (some 63) = []) ∧ evE (callN T (m - 1)) (.mut (.or (.blt .list (.cons (.slc (.var 0) .omit (.som (.var 1))) .nil)) (.lst (.cons (.cst (.int 0)) .nil)))) [some (.scr (ns.map .int)), some (.int N), none, none, none, none] h = .ok (.ref h.length) (h ++ [.lst (cs.map .int)]) := by
    have hp := cutL_pre ns (show 0 ≤ N by omega)
    by_cases h0 : cutL ns none (some N) = []
    · have e0 : ns = [] := by
        rw [hp] at h0
        have := congrArg List.length h0
        simp at this
        rcases this with h | h
        · omega
        · exact h
      subst e0
      refine ⟨[0], by simp, by simpa using hN, fun _ => by simp [cutL], ?_⟩
      simp [cutL]
    · refine ⟨cutL ns none (some N), ?_, ?_, ?_, ?_⟩
      · cases q : cutL ns none (some N) with
        | nil => exact absurd q h0
        | cons => simp
      · rw [hp]; simp; omega
      · intro hlt
        rw [hp] at hlt
        simp only [List.length_take] at hlt
        rw [cutL_mid ns (by omega) (by omega)]
        exact List.drop_eq_nil_of_le (by simp; omega)
      · simp [cutL_map, h0]
  obtain ⟨cs0, c1, c2, c3, est⟩ := start
  simp only [i__law_cells, startA_eq, evS_seq, evS_set]
  rw [show (List.map some [AV.scr (ns.map .int), .int N] ++ List.replicate (6 - [AV.scr (ns.map .int), .int N].length) none) = [some (.scr (ns.map .int)), some (.int N), none, none, none, none] from rfl, est]
  simp [cutL_map]
  generalize hr : cutL ns (some N) (some 63) = rs at c3
  have hrs : rs.length ≤ 63 := by rw [← hr]; exact Nat.le_trans (cutL_len _ _ _) hl
  obtain ⟨I, hI⟩ : ∃ I : List AV → ASt → AH → Prop, I = fun xs σ h' => ∃ (j : Int) (r : List Int) (cs : List Int) (a b c : Option AV), 0 ≤ j ∧ j + r.length ≤ 63 ∧ xs = enumL j (r.map .int) ∧ cs.length = cs0.length ∧ (cs0.length < N → r = []) ∧ h' = h ++ [.lst (cs.map .int)] ∧ σ = [some (.scr (ns.map .int)), some (.int N), some (.ref h.length), a, b, c] := ⟨_, rfl⟩
  refine wf_forL I ?_ ?_ ?_
  · rw [hI]; exact ⟨0, rs, cs0, none, none, none, by omega, by omega, rfl, rfl, c3, rfl, rfl⟩
  · intro x r σ h' i
    rw [hI] at i
    obtain ⟨j, r', cs, a, b, c, j0, j1, e, hcs, hc, rfl, rfl⟩ := i
    cases r' with
    | nil => simp [enumL] at e
    | cons y r' =>
      rw [List.map_cons, enumL_cons] at e
      obtain ⟨rfl, rfl⟩ := List.cons.inj e
      have full : (cs.length : Int) = N := by
        rw [hcs]
        by_cases q : (cs0.length : Int) < N
        · exact absurd (hc q) (by simp)
        · omega
      have mo : 0 ≤ j % N ∧ j % N < cs.length := ⟨Int.emod_nonneg _ (by omega), by rw [full]; exact Int.emod_lt_of_pos _ (by omega)⟩
      have e1 := lookup_app (h := h) (o := .lst (cs.map .int))
      have ge : (cs.map AV.int)[(j % N).toNat]? = some (.int (cs[(j % N).toNat]'(by omega))) := by
        rw [List.getElem?_map, List.getElem?_eq_getElem (by omega)]; rfl
      have mk : mulOk y (j + 2) = true := by
        simp only [List.length_cons] at j1
        simp only [mulOk, P64, Bool.or_eq_true, Bool.and_eq_true, decide_eq_true_eq]; omega
      have ix : ixN cs.length (j % N) = some (j % N).toNat := by unfold ixN; rw [if_pos mo.1, if_pos mo.2]
      simp [bin_mod _ (show 0 < N by omega), idxO, itemsOf_ref _ e1, lstOf_ref _ e1, atI_int mo.1, ge, mk, setL, ix]
      rw [hI]
      refine ⟨j + 1, r', cs.set (j % N).toNat (cs[(j % N).toNat]'(by omega) + y * (j + 2)), _, _, _, by omega, by simp at j1; omega, rfl, by simpa using hcs, fun q => absurd (hc q) (by simp), by simp [List.map_set], rfl⟩
  · intro σ h' i
    rw [hI] at i
    obtain ⟨j, r', cs, a, b, c, j0, j1, e, hcs, hc, rfl, rfl⟩ := i
    simp only [evS_ret, evE_var, getv_zero, getv_succ, ofO_some, fln_ok, wf_rt, wf_fln, wp_ok]
    rw [shut_ref rfl hh (Nat.le_refl _) lookup_app (all_ints cs 38), wp_ok]
    exact w cs (by omega) (by omega)
end EV

set_option Elab.async false
set_option linter.all false
set_option maxRecDepth 100000
namespace EV
open IR L2
def iBox (q : Int) : IFn := ⟨2, 3, (.seq (.set 2 (.ife (.tst (.cmp .lt (.var 1) (.blt .len (.cons (.var 0) .nil)))) (.idx (.var 0) (.var 1)) (.cst (.int 0))))
    (.ret (.mut (.lst (.cons (.bin .mul (.blt .abs (.cons (.var 2) .nil)) (.blt .int (.cons (.cmp .ge (.blt .abs (.cons (.var 2) .nil)) (.bin .pow (.cst (.int 10)) (.cst (.int 18)))) .nil))) (.cons (.bin .add (.bin .add (.bin .mod (.blt .int (.cons (.var 2) .nil)) (.cst (.int 2305843009213693951))) (.bin .mul (.cst (.int 39373)) (.var 1))) (.cst (.int q))) (.cons (.cst (.int 0)) .nil)))))))⟩
def iLaw (hand : Nat) (N : Int) : IFn := ⟨1, 3, (.seq (.ife (.nt (.tst (.call hand .nil))) (.ret (.cst (.bl false))) .skip)
    (.seq (.set 1 (.call c__law_cells (.cons (.var 0) (.cons (.cst (.int N)) .nil))))
    (.ret (.blt .all (.cons (.comp [2] (.nm 2) (.iRg1 (.cons (.blt .len (.cons (.var 1) .nil)) .nil)) (.tst (.cst (.bl true))) (.call c__law_right (.cons (.callM c__law_box (.cons (.var 1) (.cons (.var 2) .nil))) .nil))) .nil)))))⟩
theorem callMV_wp {T : Tab} {m : Nat} {c : Nat} {f : IFn} {as : List AV} {h : AH} {P : AV → AH → Prop} (hm : 1 ≤ m) (hl : T.lookup c = some f)
    (w : wf (evS (callN T (m - 1)) f.body (startA f.ns as) h) (fun _ h1 => wp (shutM h.length .non h1) P) (fun v h1 => wp (shutM h.length v h1) P)) : wp (callMV (callN T m) c as h) P := by
  unfold callMV
  rw [callN_of hm hl, wp_bind]
  exact runFn_wp w
theorem shutM_new {h h' : AH} {l : List AV} {ex : AH} (hl : h'.length = h.length) (hh : hOk h') (hp : l.all (pv 38) = true) : shutM h.length (.ref h.length) (h' ++ .lst l :: ex) = .ok (.ref h.length) (h' ++ [.lst l]) := by
  unfold shutM
  simp only [Nat.lt_irrefl, if_false]
  have e : (h' ++ AObj.lst l :: ex)[h.length]? = some (.lst l) := by rw [← hl]; simp
  rw [e]
  simp only
  rw [mapO_id fun x m => frz_pv (b := h.length) (h := []) 38 x (List.all_eq_true.mp hp x m) 40 (by omega)]
  rw [← hl, List.take_left, frzH_pv hh]
theorem mulOk_bit (x : Int) (b : Bool) : mulOk x (if b then 1 else 0) = true := by cases b <;> simp [mulOk, P64]
theorem box_wp {T : Tab} {q : Int} (hT : T.lookup c__law_box = some (iBox q)) {m : Nat} {cs : List Int} {k : Int} {h : AH} {P : AV → AH → Prop} (hm : 1 ≤ m) (hh : hOk h) (h0 : 0 ≤ k) (h1 : k < cs.length) (h2 : cs.length ≤ 60) (hq : 0 ≤ q ∧ q < 1000000)
    (w : ∀ h', h'.length = h.length + 1 → BoxAt h.length 0 h' → (∃ o, h' = h ++ [o]) → P (.ref h.length) h') : wp (callMV (callN T m) c__law_box [.lst (cs.map .int), .int k] h) P := by
  refine callMV_wp hm hT ?_
  have ge : (cs.map AV.int)[k.toNat]? = some (.int (cs[k.toNat]'(by omega))) := by
    rw [List.getElem?_map, List.getElem?_eq_getElem (by omega)]; rfl
  generalize cs[k.toNat]'(by omega) = g at ge
  have mk : mulOk 39373 k = true := by
    simp only [mulOk, P64, Bool.or_eq_true, Bool.and_eq_true, decide_eq_true_eq]; omega
  have pw : binO h .pow (.int 10) (.int 18) = some (.int 1000000000000000000) := rfl
  generalize hA : (if g < 0 then -g else g) = A
  have hA0 : 0 ≤ A := by split at hA <;> omega
  have mb := mulOk_bit A (decide (1000000000000000000 ≤ A))
  simp only [decide_eq_true_eq] at mb
  simp [iBox, h1, atI_int h0, ge, hA, pw, mb, mk, bin_mod]
  have go : ∀ a : Int, 0 ≤ a → wp (shutM h.length (.ref h.length) (h ++ [.lst [.int a, .int (g % 2305843009213693951 + 39373 * k + q), .int 0]])) P := fun a ha => by
    have hp : ([AV.int a, .int (g % 2305843009213693951 + 39373 * k + q), .int 0] : List AV).all (pv 38) = true := by simp [pv]
    rw [shutM_new (h := h) (h' := h) (ex := []) rfl hh hp, wp_ok]
    have e1 := Int.emod_nonneg g (show (2305843009213693951 : Int) ≠ 0 by omega)
    have e2 := Int.emod_lt_of_pos g (show (0 : Int) < 2305843009213693951 by omega)
    exact w _ (by simp) ⟨hOk_app hh (hOk_one hp), a, _, 0, by rw [lookup_app]; rfl, ha, by omega, by omega, by omega, by omega⟩ ⟨_, rfl⟩
  by_cases hc : 1000000000000000000 ≤ A
  · simp [hc, mb]
    have := go A hA0
    simpa [hc] using this
  · simp [hc]
    have := go 0 (by omega)
    simpa [hc] using this
theorem rangeL_len : ∀ (i : Int) (t : Nat), (rangeL i t).length = t
  | _, 0 => rfl
  | i, t + 1 => by simp [rangeL, rangeL_len (i + 1) t]
theorem blsOf_rep : ∀ n : Nat, blsOf (List.replicate n (.bl true)) = some (List.replicate n true)
  | 0 => rfl
  | n + 1 => by simp [List.replicate_succ, blsOf, blsOf_rep n]
theorem all_rep (n : Nat) : (List.replicate n true).all id = true := by simp
/-- a law: by hand, then from each of the first numbers -/
theorem law_frame {T : Tab} {q N : Int} {hand M : Nat} (hL : T.lookup c_law = some (iLaw hand N)) (hC : T.lookup c__law_cells = some i__law_cells) (hB : T.lookup c__law_box = some (iBox q)) (hq : 0 ≤ q ∧ q < 1000000) (hN : 1 ≤ N ∧ N ≤ 60) (hM : 3 ≤ M)
    (hh : callV (callN T (M - 1)) hand [] [] = .ok (.bl true) [])
    (hr : ∀ (h : AH) (n : Nat), BoxAt n 0 h → wp (callV (callN T (M - 1)) c__law_right [.ref n] h) fun v h' => v = .bl true ∧ hOk h') (ns : List Int) (hl : ns.length ≤ 63) :
    ∃ h, callN T M c_law [.scr (ns.map .int)] [] = .ok (.bl true) h := by
  have w : wp (callN T M c_law [.scr (ns.map .int)] []) fun v _ => v = .bl true := by
    rw [callN_of (by omega) hL]
    refine runFn_wp ?_
    simp [iLaw, hh]
    refine cells_wp hC (by omega) hOk_nil hN.1 hN.2 hl fun cs c1 c2 => ?_
    have e1 : cs.length ≤ 16777216 := by omega
    simp [srcRg1_nat (show cs.length ≤ 1000000000 by omega), rangeL_len, e1]
    obtain ⟨I, hI⟩ : ∃ I : List AV → List AV → AH → Prop, I = fun xs ys h => ∃ (i : Int) (t n : Nat), xs = rangeL i t ∧ 0 ≤ i ∧ i + t = cs.length ∧ ys = List.replicate n (.bl true) ∧ hOk h := ⟨_, rfl⟩
    refine wp_compL I (ys := []) (by rw [hI]; exact ⟨0, cs.length, 0, rfl, by omega, by omega, rfl, hOk_nil⟩) ?_ ?_
    · intro x r ys h i
      rw [hI] at i
      obtain ⟨i, t, n, e, i0, i1, rfl, ho⟩ := i
      cases t with
      | zero => simp [rangeL] at e
      | succ t =>
        obtain ⟨rfl, rfl⟩ := List.cons.inj e
        simp [cBody]
        refine box_wp hB (by omega) ho i0 (by omega) (by omega) hq fun h' l' b' _ => ?_
        simp
        refine wp_mono (hr h' h.length b') fun v h2 ⟨hv, ho2⟩ => ?_
        subst hv
        simp
        rw [hI]
        exact ⟨i + 1, t, n + 1, rfl, by omega, by omega, by simp [List.replicate_succ'], ho2⟩
    · intro ys h i
      rw [hI] at i
      obtain ⟨i, t, n, e, i0, i1, e2, ho⟩ := i
      simp only [List.nil_append] at e2
      subst e2
      simp [blsOf_rep]
  obtain ⟨v, h, e, rfl⟩ := wp_iff.mp w
  exact ⟨h, e⟩
end EV

set_option Elab.async false
set_option linter.all false
set_option maxRecDepth 100000
namespace EV
open IR L2
/-! ### rooms -/
structure Rm where
  n : List Nat
  a : Int
  b : Int
  c : Int
  d : Int
  deriving DecidableEq
def sq (q : Bool) (l : List AV) : AV := if q then .lst l else .tup l
def Rm.q (q : Bool) (r : Rm) : AV := sq q [.str r.n, .int r.a, .int r.b, .int r.c, .int r.d]
abbrev Rm.v (r : Rm) : AV := .tup [.str r.n, .int r.a, .int r.b, .int r.c, .int r.d]
def planQ (q : Bool) (p : List Rm) : AV := sq q (p.map (Rm.q q))
def planV (p : List Rm) : AV := .tup (p.map Rm.v)
theorem Rm.q_false : Rm.q false = Rm.v := rfl
theorem planQ_false (p : List Rm) : planQ false p = planV p := rfl
@[simp] theorem itemsOf_sq (h : AH) (q : Bool) (l : List AV) : itemsOf h (sq q l) = some l := by cases q <;> rfl
@[simp] theorem idxO_sq (h : AH) (q : Bool) (l : List AV) (i : Int) : idxO h (sq q l) i = atI l i := by cases q <;> rfl
@[simp] theorem srcPl_sq (h : AH) (q : Bool) (l : List AV) : srcPl h (sq q l) = some (.st l) := by cases q <;> rfl
@[simp] theorem atI_0 {α : Type} (u : α) (l : List α) : atI (u :: l) 0 = some u := by simp
@[simp] theorem atI_1 {α : Type} (u v : α) (l : List α) : atI (u :: v :: l) 1 = some v := by rw [atI_int (by omega)]; rfl
@[simp] theorem atI_2 {α : Type} (u v w : α) (l : List α) : atI (u :: v :: w :: l) 2 = some w := by rw [atI_int (by omega)]; rfl
@[simp] theorem atI_3 {α : Type} (u v w x : α) (l : List α) : atI (u :: v :: w :: x :: l) 3 = some x := by rw [atI_int (by omega)]; rfl
@[simp] theorem atI_4 {α : Type} (u v w x y : α) (l : List α) : atI (u :: v :: w :: x :: y :: l) 4 = some y := by rw [atI_int (by omega)]; rfl
/-! sorting -/
theorem insBy_map {α β : Type} (lt : β → β → Bool) (f : α → β) (x : α) : ∀ l : List α, insBy lt (f x) (l.map f) = (insBy (fun x y => lt (f x) (f y)) x l).map f
  | [] => rfl
  | y :: l => by
    simp only [List.map_cons, insBy]
    split
    · rw [insBy_map lt f x l]; rfl
    · rfl
theorem sortBy_map {α β : Type} (lt : β → β → Bool) (f : α → β) : ∀ l : List α, sortBy lt (l.map f) = (sortBy (fun x y => lt (f x) (f y)) l).map f
  | [] => rfl
  | x :: l => by simp only [List.map_cons, sortBy, sortBy_map lt f l, insBy_map]
theorem insBy_prm {α : Type} (lt : α → α → Bool) (x : α) : ∀ l : List α, (insBy lt x l).Perm (x :: l)
  | [] => .refl _
  | y :: l => by
    simp only [insBy]
    split
    · exact ((insBy_prm lt x l).cons y).trans (.swap x y l)
    · exact .refl _
theorem sortBy_prm {α : Type} (lt : α → α → Bool) : ∀ l : List α, (sortBy lt l).Perm l
  | [] => .refl _
  | x :: l => (insBy_prm lt x _).trans ((sortBy_prm lt l).cons x)
def rlt (r s : Rm) : Bool := kLt r.v s.v
def sortR (p : List Rm) : List Rm := sortBy rlt p
theorem sortR_perm (p : List Rm) : (sortR p).Perm p := sortBy_prm _ p
theorem bf_sorted {l : List AV} (h : AH) (h1 : ∀ x ∈ l, skOk 30 x = true) (h2 : ∀ x ∈ l, ∀ y ∈ l, cmpb x y = true) : bfO h .sorted [.lst l] = some (.lst (sortBy kLt l)) := by
  show (if (l.all (skOk 30) && l.all fun x => l.all (cmpb x)) = true then _ else _) = _
  rw [if_pos]
  simp only [Bool.and_eq_true, List.all_eq_true]
  exact ⟨h1, h2⟩
theorem bf_sorted_ref {l : List AV} {n : Nat} (h : AH) (e : h[n]? = some (.lst l)) (h1 : ∀ x ∈ l, skOk 30 x = true) (h2 : ∀ x ∈ l, ∀ y ∈ l, cmpb x y = true) : bfO h .sorted [.ref n] = some (.lst (sortBy kLt l)) := by
  show (match itemsOf h (.ref n) with | some l => if (l.all (skOk 30) && l.all fun x => l.all (cmpb x)) = true then some (AV.lst (sortBy kLt l)) else none | none => none) = _
  rw [itemsOf_ref h e]
  show (if (l.all (skOk 30) && l.all fun x => l.all (cmpb x)) = true then _ else _) = _
  rw [if_pos]
  simp only [Bool.and_eq_true, List.all_eq_true]
  exact ⟨h1, h2⟩
theorem sk_rooms (p : List Rm) : ∀ x ∈ p.map Rm.v, skOk 30 x = true := by
  intro x m
  obtain ⟨r, _, rfl⟩ := List.mem_map.mp m
  simp [skOk]
theorem cmpb_rooms (p : List Rm) : ∀ x ∈ p.map Rm.v, ∀ y ∈ p.map Rm.v, cmpb x y = true := by
  intro x m y m'
  obtain ⟨r, _, rfl⟩ := List.mem_map.mp m
  obtain ⟨s, _, rfl⟩ := List.mem_map.mp m'
  simp [cmpb, cmpL]
theorem sorted_rooms (h : AH) (p : List Rm) : bfO h .sorted [.lst (p.map Rm.v)] = some (.lst ((sortR p).map Rm.v)) := by
  rw [bf_sorted h (sk_rooms p) (cmpb_rooms p), sortBy_map]; rfl
/-! a room is split -/
def splitR (r : Rm) (t : List Nat) (lev : Bool) (s : Int) (u : List Nat) : List Rm := if r.n = t then (if lev then [⟨r.n, r.a, r.b, r.c, s⟩, ⟨u, r.a, s, r.c, r.d⟩] else [⟨r.n, r.a, r.b, s, r.d⟩, ⟨u, s, r.b, r.c, r.d⟩]) else [r]
def splitM (p : List Rm) (t : List Nat) (lev : Bool) (s : Int) (u : List Nat) : List Rm := p.flatMap fun r => splitR r t lev s u
theorem splitR_len (r : Rm) (t : List Nat) (lev : Bool) (s : Int) (u : List Nat) : (splitR r t lev s u).length ≤ 2 := by
  unfold splitR; split <;> (try split) <;> simp
theorem splitM_len (p : List Rm) (t : List Nat) (lev : Bool) (s : Int) (u : List Nat) : (splitM p t lev s u).length ≤ 2 * p.length := by
  induction p with
  | nil => simp [splitM]
  | cons r p ih =>
    have := splitR_len r t lev s u
    simp only [splitM, List.flatMap_cons, List.length_append, List.length_cons] at ih ⊢
    omega
abbrev LEVELs : List Nat := [108, 101, 118, 101, 108]
abbrev UPRIGHTs : List Nat := [117, 112, 114, 105, 103, 104, 116]
def wayS (lev : Bool) : List Nat := if lev then LEVELs else UPRIGHTs
theorem rooms_pv (p : List Rm) (n : Nat) : (p.map Rm.v).all (pv (n + 1)) = true := by
  simp [pv]
theorem planV_pv (p : List Rm) : pv 40 (planV p) = true := by
  show (p.map Rm.v).all (pv 39) = true
  exact rooms_pv p 38
theorem split_ok {T : Tab} (hT : T.lookup c__law_split = some i__law_split) {h : AH} (hh : hOk h) {m : Nat} (hm : 1 ≤ m) (p : List Rm) (t : List Nat) (lev : Bool) (s : Int) (u : List Nat) (hl : p.length ≤ 1000) :
    callV (callN T m) c__law_split [planV p, .str t, .str (wayS lev), .int s, .str u] h = .ok (planV (sortR (splitM p t lev s u))) h := by
  have w : wp (callV (callN T m) c__law_split [planV p, .str t, .str (wayS lev), .int s, .str u] h) fun v h' => v = planV (sortR (splitM p t lev s u)) ∧ h' = h := by
    refine callV_wp hm hT ?_
    simp [i__law_split, planV]
    obtain ⟨I, hI⟩ : ∃ I : List Rm → ASt → AH → Prop, I = fun r σ h' => ∃ (q : List Rm) (ex : AH) (x : Option AV) (n : Nat), p = q ++ r ∧ h' = h ++ ex ∧ h.length ≤ n ∧ h'[n]? = some (.lst ((splitM q t lev s u).map Rm.v)) ∧ σ = [some (planV p), some (.str t), some (.str (wayS lev)), some (.int s), some (.str u), some (.ref n), x] := ⟨_, rfl⟩
    refine wf_forM Rm.v I (by rw [hI]; exact ⟨[], _, _, h.length, rfl, rfl, Nat.le_refl _, by simp [splitM], rfl⟩) ?_ ?_
    · intro r rs σ h' i
      rw [hI] at i
      obtain ⟨q, ex, x, n, hp, rfl, hn, e, rfl⟩ := i
      have hlen := splitM_len q t lev s u
      have hq : q.length ≤ 1000 := by rw [hp] at hl; simp at hl; omega
      have hs : splitM (q ++ [r]) t lev s u = splitM q t lev s u ++ splitM [r] t lev s u := by simp [splitM]
      have next : ∀ (ex' : AH) (n' : Nat), h.length ≤ n' → (h ++ ex')[n']? = some (.lst ((splitM q t lev s u ++ splitM [r] t lev s u).map Rm.v)) → I rs [some (planV p), some (.str t), some (.str (wayS lev)), some (.int s), some (.str u), some (.ref n'), some r.v] (h ++ ex') := fun ex' n' hn' e' => by
        rw [hI]
        exact ⟨q ++ [r], ex', _, n', by simp [hp], rfl, hn', by rw [hs]; exact e', rfl⟩
      have hnl : n < (h ++ ex).length := (List.getElem?_eq_some_iff.mp e).1
      by_cases ht : r.n = t
      · have one : splitM [r] t lev s u = (if lev then [⟨r.n, r.a, r.b, r.c, s⟩, ⟨u, r.a, s, r.c, r.d⟩] else [⟨r.n, r.a, r.b, s, r.d⟩, ⟨u, s, r.b, r.c, r.d⟩]) := by simp [splitM, splitR, ht]
        have c1 : (splitM q t lev s u).length + 2 ≤ 16777216 := by omega
        have ext : h ++ ex ++ [AObj.lst ((splitM q t lev s u ++ splitM [r] t lev s u).map Rm.v)] = h ++ (ex ++ [AObj.lst ((splitM q t lev s u ++ splitM [r] t lev s u).map Rm.v)]) := by simp
        have nx := next (ex ++ [AObj.lst ((splitM q t lev s u ++ splitM [r] t lev s u).map Rm.v)]) (h ++ ex).length (by simp) (by rw [← ext]; exact lookup_app)
        rw [← ext, one] at nx
        cases lev with
        | true =>
          simp [ht, wayS, cutL, HT.sIx, binO, catO, lstOf_ref _ e, c1]
          simpa [wayS, planV, ht] using nx
        | false =>
          simp [ht, wayS, cutL, HT.sIx, binO, catO, lstOf_ref _ e, c1]
          simpa [wayS, planV, ht] using nx
      · have one : splitM [r] t lev s u = [r] := by simp [splitM, splitR, ht]
        have c1 : (splitM q t lev s u).length < 16777216 := by omega
        have ap : (h ++ ex).set n (AObj.lst ((splitM q t lev s u ++ [r]).map Rm.v)) = h ++ ex.set (n - h.length) (AObj.lst ((splitM q t lev s u ++ [r]).map Rm.v)) := by
          rw [List.set_append_right _ _ hn]
        have nx := next (ex.set (n - h.length) (AObj.lst ((splitM q t lev s u ++ [r]).map Rm.v))) n hn (by rw [← ap, one, List.getElem?_set_self hnl])
        rw [← ap] at nx
        simp [ht, lstOf_ref _ e, c1]
        simpa [planV] using nx
    · intro σ h' i
      rw [hI] at i
      obtain ⟨q, ex, x, n, hp, rfl, hn, e, rfl⟩ := i
      simp only [List.append_nil] at hp
      subst hp
      simp [bf_sorted_ref _ e (sk_rooms _) (cmpb_rooms _), sortBy_map]
      have hv := planV_pv (sortR (splitM p t lev s u))
      rw [show AV.tup ((sortBy (fun x y => kLt x.v y.v) (splitM p t lev s u)).map Rm.v) = planV (sortR (splitM p t lev s u)) from rfl, shut_ch rfl hh hv, wp_ok]
      exact ⟨rfl, rfl⟩
  obtain ⟨v, h1, e, rfl, rfl⟩ := wp_iff.mp w
  exact e
end EV

set_option Elab.async false
set_option linter.all false
set_option maxRecDepth 100000
namespace EV
open IR L2
/-! ### no four rooms meet -/
def Rm.cor (r : Rm) : List (Int × Int) := [(r.a, r.b), (r.c, r.b), (r.a, r.d), (r.c, r.d)]
def cors (p : List Rm) : List (Int × Int) := p.flatMap Rm.cor
def ptV (x : Int × Int) : AV := .tup [.int x.1, .int x.2]
def ncB (p : List Rm) : Bool := (cors p).all fun x => decide ((cors p).count x ≤ 3)
def NC (p : List Rm) : Prop := ∀ x, (cors p).count x ≤ 3
theorem ncB_iff {p : List Rm} : ncB p = true ↔ NC p := by
  unfold ncB NC
  rw [List.all_eq_true]
  constructor
  · intro h x
    by_cases m : x ∈ cors p
    · exact of_decide_eq_true (h x m)
    · rw [List.count_eq_zero_of_not_mem m]; omega
  · exact fun h x _ => decide_eq_true (h x)
theorem NC.perm {p q : List Rm} (e : p.Perm q) (h : NC p) : NC q := fun x => by
  have : (cors p).Perm (cors q) := List.Perm.flatMap_right _ e
  rw [← this.count_eq]; exact h x
theorem res_pt (h : AH) (x : Int × Int) : res h 40 (ptV x) = some (ptV x) := rfl
theorem mapO_res_pts (h : AH) (l : List (Int × Int)) : mapO (res h 40) (l.map ptV) = some (l.map ptV) := mapO_id fun y m => by
  obtain ⟨x, _, rfl⟩ := List.mem_map.mp m
  exact res_pt h x
theorem aeq_pt (x y : Int × Int) : aeq (ptV x) (ptV y) = (x == y) := by
  obtain ⟨a, b⟩ := x; obtain ⟨c, d⟩ := y
  simp [ptV, aeq, aeqL]
  rfl
theorem count_pts (l : List (Int × Int)) (x : Int × Int) : (l.map ptV).countP (fun z => aeq z (ptV x)) = l.count x := by
  rw [List.countP_map]
  unfold List.count
  congr 1
  funext z
  exact aeq_pt z x
theorem mth_count_pts (h : AH) (l : List (Int × Int)) (x : Int × Int) : mthO h .count (.lst (l.map ptV)) (ptV x) = some (.int (l.count x)) := by
  simp only [mthO, lstOf_lst, res_pt, mapO_res_pts, mtAns, count_pts]
theorem pts_pv (l : List (Int × Int)) (n : Nat) : (l.map ptV).all (pv (n + 1)) = true := by
  simp [pv, ptV]
theorem cors_len : ∀ q : List Rm, (cors q).length = 4 * q.length
  | [] => rfl
  | y :: q => by
    have ih := cors_len q
    simp only [cors, List.flatMap_cons, List.length_append, List.length_cons] at ih ⊢; rw [ih]; simp [Rm.cor]; omega
theorem wp_comp_filter {α : Type} {f : AV → AH → Rs (Option AV)} {P : List AV → AH → Prop} (e : α → AV) (g : α → AV) (c : α → Bool) {h : AH} {xs : List α} (hf : ∀ x ∈ xs, f (e x) h = .ok (if c x then some (g x) else none) h) (w : P ((xs.filter c).map g) h) : wp (compL f (xs.map e) h) P := by
  rw [compL_filter hf]; exact w
theorem wp_comp_map {α : Type} {f : AV → AH → Rs (Option AV)} {P : List AV → AH → Prop} (e : α → AV) (g : α → AV) {h : AH} {xs : List α} (hf : ∀ x ∈ xs, f (e x) h = .ok (some (g x)) h) (w : P (xs.map g) h) : wp (compL f (xs.map e) h) P := by
  rw [compL_map hf]; exact w
theorem eqO_nil {h : AH} {l l' : List AV} (e : mapO (res h 39) l = some l') : eqO h (.lst l) (.lst []) = some l'.isEmpty := by
  show (match res h 40 (.lst l), res h 40 (.lst []) with | some x, some y => some (aeq x y) | _, _ => none) = _
  simp only [res, e, mapO, Option.map_some]
  cases l' <;> simp [aeq, aeqL]
theorem no_cross_ok {T : Tab} (hT : T.lookup c__law_no_cross = some i__law_no_cross) {h : AH} (hh : hOk h) {m : Nat} (hm : 1 ≤ m) (p : List Rm) (hl : p.length ≤ 1000) :
    callV (callN T m) c__law_no_cross [planV p] h = .ok (.bl (ncB p)) h := by
  have w : wp (callV (callN T m) c__law_no_cross [planV p] h) fun v h' => v = .bl (ncB p) ∧ h' = h := by
    refine callV_wp hm hT ?_
    simp [i__law_no_cross, planV]
    obtain ⟨I, hI⟩ : ∃ I : List Rm → ASt → AH → Prop, I = fun r σ h' => ∃ (q : List Rm) (x : Option AV), p = q ++ r ∧ h' = h ∧ σ = [some (planV p), some (.lst ((cors q).map ptV)), x] := ⟨_, rfl⟩
    refine wf_forM Rm.v I (by rw [hI]; exact ⟨[], _, rfl, rfl, rfl⟩) ?_ ?_
    · intro r rs σ h' i
      rw [hI] at i
      obtain ⟨q, x, hp, rfl, rfl⟩ := i
      have hq := cors_len q
      have hq2 : q.length ≤ 1000 := by rw [hp] at hl; simp at hl; omega
      have c1 : (cors q).length + 4 ≤ 16777216 := by omega
      have nx : I rs [some (planV p), some (.lst ((cors (q ++ [r])).map ptV)), some r.v] h' := by
        rw [hI]; exact ⟨q ++ [r], _, by simp [hp], rfl, rfl⟩
      simp [binO, catO, c1]
      simpa [cors, Rm.cor, ptV, planV] using nx
    · intro σ h' i
      rw [hI] at i
      obtain ⟨q, x, hp, rfl, rfl⟩ := i
      simp only [List.append_nil] at hp
      subst hp
      have hq : (cors p).length ≤ 16777216 := by rw [cors_len]; omega
      simp [hq]
      refine wp_comp_filter ptV ptV (fun x => decide (3 < (cors p).count x)) (fun y hy => ?_) ?_
      · simp [cBody, rcv, mth_count_pts]
        by_cases z : 3 < (cors p).count y
        · rw [if_pos (by omega), if_pos z]; rfl
        · rw [if_neg (by omega), if_neg z]; rfl
      · have e1 : ∀ l : List (Int × Int), mapO (res h' 39) (l.map ptV) = some (l.map ptV) := fun l => mapO_id fun y m => by
          obtain ⟨x, _, rfl⟩ := List.mem_map.mp m
          rfl
        have e2 : (List.map ptV (List.filter (fun x => decide (3 < (cors p).count x)) (cors p))).isEmpty = ncB p := by
          unfold ncB
          rw [List.isEmpty_map]
          rw [Bool.eq_iff_iff, List.isEmpty_iff, List.filter_eq_nil_iff, List.all_eq_true]
          constructor
          · intro z x hx; have := z x hx; simp at this ⊢; omega
          · intro z x hx; have := z x hx; simp at this ⊢; omega
        simp [eqO_nil (e1 _), e2]
        rw [shut_same hh rfl, wp_ok]; exact ⟨rfl, rfl⟩
  obtain ⟨v, h1, e, rfl, rfl⟩ := wp_iff.mp w
  exact e
end EV

set_option Elab.async false
set_option linter.all false
set_option maxRecDepth 100000
namespace EV
open IR L2
/-! ### rooms that fill a square -/
def Apart (r s : Rm) : Prop := r.c ≤ s.a ∨ s.c ≤ r.a ∨ r.d ≤ s.b ∨ s.d ≤ r.b
theorem Apart.symm {r s : Rm} (h : Apart r s) : Apart s r := by unfold Apart at *; omega
def Rm.ar (r : Rm) : Int := (r.c - r.a) * (r.d - r.b)
abbrev POOL : List (List Nat) := [[97], [98], [99], [100], [101], [102], [103], [104], [120], [121, 121], [97, 98, 99, 100, 101, 102, 103, 104]]
structure Tile (w : Int) (p : List Rm) : Prop where
  nd : (p.map Rm.n).Nodup
  nm : ∀ r ∈ p, r.n ∈ POOL
  rng : ∀ r ∈ p, 0 ≤ r.a ∧ r.a < r.c ∧ r.c ≤ w ∧ 0 ≤ r.b ∧ r.b < r.d ∧ r.d ≤ w
  dj : p.Pairwise Apart
  ul : ∃ r ∈ p, r.a = 0 ∧ r.b = 0
  ur : ∃ r ∈ p, r.c = w ∧ r.b = 0
  lr : ∃ r ∈ p, r.c = w ∧ r.d = w
  ll : ∃ r ∈ p, r.a = 0 ∧ r.d = w
  area : (p.map Rm.ar).sum = w * w
theorem sum_perm {l m : List Int} (h : l.Perm m) : l.sum = m.sum := by
  induction h with
  | nil => rfl
  | cons x _ ih => simp [ih]
  | swap x y l => simp; omega
  | trans _ _ a b => exact a.trans b
theorem Tile.perm {w : Int} {p q : List Rm} (e : p.Perm q) (t : Tile w p) : Tile w q where
  nd := (e.map Rm.n).nodup_iff.mp t.nd
  nm := fun r m => t.nm r (e.mem_iff.mpr m)
  rng := fun r m => t.rng r (e.mem_iff.mpr m)
  dj := (e.pairwise_iff fun h => Apart.symm h).mp t.dj
  ul := let ⟨r, m, h⟩ := t.ul; ⟨r, e.mem_iff.mp m, h⟩
  ur := let ⟨r, m, h⟩ := t.ur; ⟨r, e.mem_iff.mp m, h⟩
  lr := let ⟨r, m, h⟩ := t.lr; ⟨r, e.mem_iff.mp m, h⟩
  ll := let ⟨r, m, h⟩ := t.ll; ⟨r, e.mem_iff.mp m, h⟩
  area := by rw [← sum_perm (e.map Rm.ar)]; exact t.area
/-- a room in two -/
theorem Tile.cut {w s : Int} {r r1 r2 : Rm} {q : List Rm} (t : Tile w (r :: q)) (hn : r1.n = r.n) (hu : r2.n ∈ POOL) (hu2 : r2.n ≠ r.n) (hu3 : ∀ s ∈ q, s.n ≠ r2.n)
    (g : (r.b < s ∧ s < r.d ∧ r1.a = r.a ∧ r1.b = r.b ∧ r1.c = r.c ∧ r1.d = s ∧ r2.a = r.a ∧ r2.b = s ∧ r2.c = r.c ∧ r2.d = r.d) ∨ (r.a < s ∧ s < r.c ∧ r1.a = r.a ∧ r1.b = r.b ∧ r1.c = s ∧ r1.d = r.d ∧ r2.a = s ∧ r2.b = r.b ∧ r2.c = r.c ∧ r2.d = r.d)) : Tile w (r1 :: r2 :: q) := by
  have rr := t.rng r (List.mem_cons_self ..)
  have nd := t.nd
  rw [List.map_cons, List.nodup_cons] at nd
  have dj := List.pairwise_cons.mp t.dj
  have cor : ∀ {P : Rm → Prop}, (∃ s ∈ r :: q, P s) → (P r → P r1 ∨ P r2) → ∃ s ∈ r1 :: r2 :: q, P s := fun {P} ⟨s, m, h⟩ f => by
    rcases List.mem_cons.mp m with rfl | m
    · rcases f h with h | h
      · exact ⟨r1, by simp, h⟩
      · exact ⟨r2, by simp, h⟩
    · exact ⟨s, by simp [m], h⟩
  refine ⟨?_, ?_, ?_, ?_, ?_, ?_, ?_, ?_, ?_⟩
  · simp only [List.map_cons, List.nodup_cons, List.mem_cons, not_or, hn]
    refine ⟨⟨fun z => hu2 z.symm, nd.1⟩, ?_, nd.2⟩
    intro z
    obtain ⟨s, m, e⟩ := List.mem_map.mp z
    exact hu3 s m e
  · intro x m
    simp only [List.mem_cons] at m
    rcases m with rfl | rfl | m
    · rw [hn]; exact t.nm r (List.mem_cons_self ..)
    · exact hu
    · exact t.nm x (List.mem_cons_of_mem _ m)
  · intro x m
    simp only [List.mem_cons] at m
    rcases m with rfl | rfl | m
    · omega
    · omega
    · exact t.rng x (List.mem_cons_of_mem _ m)
  · refine List.pairwise_cons.mpr ⟨fun x m => ?_, List.pairwise_cons.mpr ⟨fun x m => ?_, dj.2⟩⟩
    · rcases List.mem_cons.mp m with rfl | m
      · unfold Apart; omega
      · have := dj.1 x m; unfold Apart at *; omega
    · have := dj.1 x m; unfold Apart at *; omega
  · exact cor t.ul (by omega)
  · exact cor t.ur (by omega)
  · exact cor t.lr (by omega)
  · exact cor t.ll (by omega)
  · have ar := t.area
    simp only [List.map_cons, List.sum_cons] at ar ⊢
    have : r1.ar + r2.ar = r.ar := by
      unfold Rm.ar
      rcases g with ⟨_, _, e1, e2, e3, e4, e5, e6, e7, e8⟩ | ⟨_, _, e1, e2, e3, e4, e5, e6, e7, e8⟩
      · rw [e1, e2, e3, e4, e5, e6, e7, e8, ← Int.mul_add]; congr 1; omega
      · rw [e1, e2, e3, e4, e5, e6, e7, e8, ← Int.add_mul]; congr 1; omega
    omega
theorem splitM_of {l1 l2 : List Rm} {r : Rm} {t u : List Nat} {lev : Bool} {s : Int} (ht : t = r.n) (nd : ((l1 ++ r :: l2).map Rm.n).Nodup) : splitM (l1 ++ r :: l2) t lev s u = l1 ++ (splitR r t lev s u ++ l2) := by
  have other : ∀ l : List Rm, (∀ x ∈ l, x.n ≠ t) → splitM l t lev s u = l := fun l hl => by
    induction l with
    | nil => rfl
    | cons x l ih =>
      have : splitR x t lev s u = [x] := by unfold splitR; rw [if_neg (hl x (List.mem_cons_self ..))]
      simp only [splitM, List.flatMap_cons, this] at ih ⊢
      rw [ih fun y m => hl y (List.mem_cons_of_mem _ m)]; rfl
  subst ht
  simp only [List.map_append, List.map_cons, List.nodup_append, List.nodup_cons] at nd
  have a1 := other l1 fun x m e => nd.2.2 x.n (List.mem_map_of_mem m) r.n (by simp) e
  have a2 := other l2 fun x m e => nd.2.1.1 (e ▸ List.mem_map_of_mem m)
  have : splitM (l1 ++ r :: l2) r.n lev s u = splitM l1 r.n lev s u ++ (splitR r r.n lev s u ++ splitM l2 r.n lev s u) := by simp [splitM]
  rw [this, a1, a2]
theorem Tile.split {w : Int} {p : List Rm} {r : Rm} {u : List Nat} {lev : Bool} {s : Int} (t : Tile w p) (m : r ∈ p) (hu : u ∈ POOL) (hu2 : u ∉ p.map Rm.n) (g : if lev then r.b < s ∧ s < r.d else r.a < s ∧ s < r.c) : Tile w (splitM p r.n lev s u) := by
  obtain ⟨l1, l2, rfl⟩ := List.append_of_mem m
  rw [splitM_of rfl t.nd]
  have t' : Tile w (r :: (l1 ++ l2)) := t.perm List.perm_middle
  have ne : u ≠ r.n := fun z => hu2 (by simp [z])
  have ne2 : ∀ x ∈ l1 ++ l2, x.n ≠ u := fun x mx z => hu2 (by
    rw [← z]
    refine List.mem_map_of_mem ?_
    rcases List.mem_append.mp mx with q | q <;> simp [q])
  cases lev with
  | true =>
    simp only [if_true] at g
    have := t'.cut (r1 := ⟨r.n, r.a, r.b, r.c, s⟩) (r2 := ⟨u, r.a, s, r.c, r.d⟩) rfl hu ne ne2 (.inl ⟨g.1, g.2, rfl, rfl, rfl, rfl, rfl, rfl, rfl, rfl⟩)
    refine this.perm ?_
    simp only [splitR, if_true]
    exact (List.perm_append_comm_assoc _ _ _ : ([_, _] ++ (l1 ++ l2)).Perm (l1 ++ ([_, _] ++ l2)))
  | false =>
    simp only [if_false, Bool.false_eq_true] at g
    have := t'.cut (r1 := ⟨r.n, r.a, r.b, s, r.d⟩) (r2 := ⟨u, s, r.b, r.c, r.d⟩) rfl hu ne ne2 (.inr ⟨g.1, g.2, rfl, rfl, rfl, rfl, rfl, rfl, rfl, rfl⟩)
    refine this.perm ?_
    simp only [splitR, if_true, Bool.false_eq_true, if_false]
    exact (List.perm_append_comm_assoc _ _ _ : ([_, _] ++ (l1 ++ l2)).Perm (l1 ++ ([_, _] ++ l2)))
theorem nodup_len {l m : List (List Nat)} (nd : l.Nodup) (h : ∀ x ∈ l, x ∈ m) : l.length ≤ m.length := by
  induction l generalizing m with
  | nil => simp
  | cons x l ih =>
    rw [List.nodup_cons] at nd
    have hx := h x (List.mem_cons_self ..)
    have := ih (m := m.erase x) nd.2 fun y my => (List.mem_erase_of_ne (show y ≠ x from fun z => nd.1 (by rw [← z]; exact my))).mpr (h y (List.mem_cons_of_mem _ my))
    rw [List.length_erase_of_mem hx] at this
    have : 0 < m.length := List.length_pos_of_mem hx
    simp only [List.length_cons]; omega
theorem Tile.len {w : Int} {p : List Rm} (t : Tile w p) : p.length ≤ 11 := by
  have := nodup_len (m := POOL) t.nd fun x m => by
    obtain ⟨r, mr, rfl⟩ := List.mem_map.mp m
    exact t.nm r mr
  simpa using this
structure Good (w : Int) (p : List Rm) : Prop extends Tile w p where
  nc : NC p
  ord : ∃ q, p = sortR q
theorem NC.one (r : Rm) (h1 : r.a < r.c) (h2 : r.b < r.d) : NC [r] := by
  rw [← ncB_iff]
  unfold ncB
  rw [List.all_eq_true]
  intro x hx
  have : (cors [r]).Nodup := by
    simp only [cors, List.flatMap_cons, List.flatMap_nil, List.append_nil, Rm.cor]
    simp; omega
  rw [List.Nodup.count this, if_pos hx]; rfl
end EV

set_option Elab.async false
set_option linter.all false
set_option maxRecDepth 100000
set_option maxHeartbeats 1000000
namespace EV
open IR L2
structure HasFlat (T : Tab) : Prop where
  take : T.lookup c__law_take = some i__law_take
  of : T.lookup c__law_of = some i__law_of
  pick : T.lookup c__law_pick = some i__law_pick
  split : T.lookup c__law_split = some i__law_split
  nc : T.lookup c__law_no_cross = some i__law_no_cross
  flat : T.lookup c__law_flat = some i__law_flat
theorem mem_names {h : AH} {t : List Nat} {ns : List (List Nat)} (ht : t.all (· < 1114112) = true) (hn : ∀ x ∈ ns, x.all (· < 1114112) = true) : inO h (.str t) (.lst (ns.map .str)) = some (ns.contains t) := by
  have e1 : inO h (.str t) (.lst (ns.map .str)) = memO h (.str t) (ns.map .str) := by
    cases t with
    | nil => rfl
    | cons a t => cases t <;> rfl
  have e2 : mapO (res h 40) (ns.map AV.str) = some (ns.map AV.str) := mapO_id fun y m => by
    obtain ⟨x, mx, rfl⟩ := List.mem_map.mp m
    show (if x.all (· < 1114112) = true then some (AV.str x) else none) = _
    rw [if_pos (hn x mx)]
  have e3 : res h 40 (.str t) = some (.str t) := by
    show (if t.all (· < 1114112) = true then some (AV.str t) else none) = _
    rw [if_pos ht]
  rw [e1]
  unfold memO
  rw [e2, e3]
  simp only [List.any_map]
  congr 1
  rw [List.contains_eq_any_beq]
  congr 1
  funext y
  simp only [Function.comp, aeq]
  rw [Bool.eq_iff_iff, beq_iff_eq, beq_iff_eq]
  exact eq_comm
theorem pool_ok : ∀ x ∈ POOL, x.all (· < 1114112) = true := by decide +kernel
@[simp] theorem cmp_nin (h : AH) (a b : AV) : cmpO h .nin a b = (inO h a b).map (!·) := by cases a <;> cases b <;> rfl
@[simp] theorem cmp_inn (h : AH) (a b : AV) : cmpO h .inn a b = inO h a b := by cases a <;> cases b <;> rfl
theorem Tile.one {w : Int} (hw : 0 < w) {t : List Nat} (ht : t ∈ POOL) : Tile w [⟨t, 0, 0, w, w⟩] where
  nd := by simp
  nm := by simpa using ht
  rng := by simp; omega
  dj := by simp
  ul := ⟨_, List.mem_cons_self .., rfl, rfl⟩
  ur := ⟨_, List.mem_cons_self .., rfl, rfl⟩
  lr := ⟨_, List.mem_cons_self .., rfl, rfl⟩
  ll := ⟨_, List.mem_cons_self .., rfl, rfl⟩
  area := by simp [Rm.ar]
def wheelR (w : Int) (t0 t1 t2 t3 t4 : List Nat) : List Rm := [⟨t0, 0, 0, 3 * w, w⟩, ⟨t1, 3 * w, 0, 4 * w, 3 * w⟩, ⟨t2, w, 3 * w, 4 * w, 4 * w⟩, ⟨t3, 0, w, w, 4 * w⟩, ⟨t4, w, w, 3 * w, 3 * w⟩]
theorem Tile.wheel {w : Int} (hw : 0 < w) {t0 t1 t2 t3 t4 : List Nat} (nd : [t0, t1, t2, t3, t4].Nodup) (ht : ∀ t ∈ [t0, t1, t2, t3, t4], t ∈ POOL) : Tile (4 * w) (wheelR w t0 t1 t2 t3 t4) where
  nd := nd
  nm := by
    intro r m
    simp only [wheelR, List.mem_cons, List.not_mem_nil, or_false] at m
    rcases m with rfl | rfl | rfl | rfl | rfl <;> exact ht _ (by simp)
  rng := by
    intro r m
    simp only [wheelR, List.mem_cons, List.not_mem_nil, or_false] at m
    rcases m with rfl | rfl | rfl | rfl | rfl <;> dsimp only <;> omega
  dj := by
    simp only [wheelR, List.pairwise_cons, List.mem_cons, List.not_mem_nil, or_false, Apart, false_imp_iff, implies_true, List.Pairwise.nil, and_true]
    refine ⟨?_, ?_, ?_, ?_⟩
    · intro r m; rcases m with rfl | rfl | rfl | rfl <;> dsimp only <;> omega
    · intro r m; rcases m with rfl | rfl | rfl <;> dsimp only <;> omega
    · intro r m; rcases m with rfl | rfl <;> dsimp only <;> omega
    · intro r m; subst m; dsimp only; omega
  ul := ⟨_, by simp [wheelR]; exact .inl rfl, rfl, rfl⟩
  ur := ⟨_, by simp [wheelR]; exact .inr (.inl rfl), rfl, rfl⟩
  lr := ⟨_, by simp [wheelR]; exact .inr (.inr (.inl rfl)), rfl, rfl⟩
  ll := ⟨_, by simp [wheelR]; exact .inr (.inr (.inr (.inl rfl))), rfl, rfl⟩
  area := by
    simp only [wheelR, List.map_cons, List.map_nil, List.sum_cons, List.sum_nil, Rm.ar]
    have e1 : (3 * w - 0) * (w - 0) = 3 * (w * w) := by rw [Int.sub_zero, Int.sub_zero, Int.mul_assoc]
    have e2 : (4 * w - 3 * w) * (3 * w - 0) = 3 * (w * w) := by rw [Int.sub_zero, show 4 * w - 3 * w = w by omega, Int.mul_left_comm]
    have e3 : (4 * w - w) * (4 * w - 3 * w) = 3 * (w * w) := by rw [show 4 * w - 3 * w = w by omega, show 4 * w - w = 3 * w by omega, Int.mul_assoc]
    have e4 : (w - 0) * (4 * w - w) = 3 * (w * w) := by rw [Int.sub_zero, show 4 * w - w = 3 * w by omega, Int.mul_left_comm]
    have e5 : (3 * w - w) * (3 * w - w) = 4 * (w * w) := by rw [show 3 * w - w = 2 * w by omega, show 2 * w * (2 * w) = 4 * (w * w) by rw [Int.mul_assoc, Int.mul_left_comm w 2 w, ← Int.mul_assoc 2 2]; rfl]
    have e6 : 4 * w * (4 * w) = 16 * (w * w) := by rw [Int.mul_assoc, Int.mul_left_comm w 4 w, ← Int.mul_assoc 4 4]; rfl
    rw [e1, e2, e3, e4, e5, e6]; omega
theorem NC.wheel {w : Int} (hw : w = 2 ∨ w = 3 ∨ w = 4 ∨ w = 5) {t0 t1 t2 t3 t4 : List Nat} : NC (wheelR w t0 t1 t2 t3 t4) := by
  have e : cors (wheelR w t0 t1 t2 t3 t4) = cors (wheelR w [] [] [] [] []) := rfl
  unfold NC
  rw [e]
  show NC (wheelR w [] [] [] [] [])
  rw [← ncB_iff]
  rcases hw with rfl | rfl | rfl | rfl <;> decide +kernel
end EV

set_option Elab.async false
set_option linter.all false
set_option maxRecDepth 100000
set_option maxHeartbeats 1000000
namespace EV
open IR L2
def strOf : AV → List Nat
  | .str s => s
  | _ => []
theorem strs_of {l : List AV} (h : ∀ x ∈ l, ∃ s, x = .str s) : l = (l.map strOf).map .str := by
  induction l with
  | nil => rfl
  | cons x l ih =>
    obtain ⟨s, rfl⟩ := h x (List.mem_cons_self ..)
    simp only [List.map_cons, strOf]
    rw [← ih fun y m => h y (List.mem_cons_of_mem _ m)]
theorem pick_strs {some_ rest : List AV} {ts : List (List Nat)} (h : (rest ++ some_).Perm (ts.map .str)) (nd : ts.Nodup) : ∃ us : List (List Nat), some_ = us.map .str ∧ us.Nodup ∧ (∀ u ∈ us, u ∈ ts) ∧ us.length = some_.length := by
  have e := strs_of (l := some_) fun x m => by
    have := h.mem_iff.mp (List.mem_append_right _ m)
    obtain ⟨s, _, rfl⟩ := List.mem_map.mp this
    exact ⟨s, rfl⟩
  refine ⟨some_.map strOf, e, ?_, fun u m => ?_, by simp⟩
  · have h2 := (h.map strOf)
    have e2 : (ts.map AV.str).map strOf = ts := by rw [List.map_map, show strOf ∘ AV.str = id from rfl, List.map_id]
    rw [e2, List.map_append] at h2
    exact (List.nodup_append.mp (h2.nodup_iff.mpr nd)).2.1
  · obtain ⟨x, mx, rfl⟩ := List.mem_map.mp m
    have := h.mem_iff.mp (List.mem_append_right _ mx)
    obtain ⟨s, ms, rfl⟩ := List.mem_map.mp this
    exact ms
theorem pool_nd : POOL.Nodup := by decide +kernel
theorem strs_pv (l : List (List Nat)) (n : Nat) : (l.map AV.str).all (pv n) = true := by
  simp; intro x _; cases n <;> rfl
def ifeB : IS := (.ife (.and (.tst (.cmp .gt (.bin .sub (.var 11) (.var 10)) (.cst (.int 1)))) (.tst (.cmp .nin (.var 5) (.comp [13] (.nm 13) (.iPl (.var 4)) (.tst (.cst (.bl true))) (.idx (.var 13) (.cst (.int 0))))))) (.seq (.set 12 (.call c__law_split (.cons (.var 4) (.cons (.idx (.var 8) (.cst (.int 0))) (.cons (.var 9) (.cons (.bin .add (.bin .add (.var 10) (.cst (.int 1))) (.call c__law_take (.cons (.var 0) (.cons (.bin .sub (.bin .sub (.var 11) (.var 10)) (.cst (.int 1))) .nil)))) (.cons (.var 5) .nil)))))))
    (.set 4 (.ife (.tst (.call c__law_no_cross (.cons (.var 12) .nil))) (.var 12) (.var 4)))) .skip)
def innerB : IS := (.seq (.par2 8 9 (.cons (.call c__law_of (.cons (.var 0) (.cons (.var 4) .nil))) (.cons (.call c__law_of (.cons (.var 0) (.cons (.lst (.cons (.cst (.str [108, 101, 118, 101, 108])) (.cons (.cst (.str [117, 112, 114, 105, 103, 104, 116])) .nil))) .nil))) .nil)))
    (.seq (.tset (.tp (.cons (.nm 10) (.cons (.nm 11) .nil))) (.ife (.tst (.cmp .eq (.var 9) (.cst (.str [108, 101, 118, 101, 108])))) (.tup (.cons (.idx (.var 8) (.cst (.int 2))) (.cons (.idx (.var 8) (.cst (.int 4))) .nil))) (.tup (.cons (.idx (.var 8) (.cst (.int 1))) (.cons (.idx (.var 8) (.cst (.int 3))) .nil)))))
    ifeB))
/-- one try to split a room -/
theorem inner_wf {T : Tab} (F : HasFlat T) {m n : Nat} {k w most : Int} {h : AH} {u : List Nat} {p : List Rm} {tags : AV} {x6 x7 x8 x9 x10 x11 x12 x13 : Option AV} {N : ASt → AH → Prop} {R : AV → AH → Prop} (hm : 3 ≤ m) (hk : k + 3 < 1000000000) (hb : BoxAt n k h) (hw : 0 < w ∧ w < 1000) (g : Good w p) (hu : u ∈ POOL)
    (next : ∀ (q : List Rm) (h' : AH) (y8 y9 y10 y11 y12 y13 : Option AV), Good w q → (∀ r ∈ q, r.n = u ∨ ∃ s ∈ p, s.n = r.n) → SameH n h h' → BoxAt n (k + 3) h' → N [some (.ref n), some (.int most), some (.int wx), some tags, some (planV q), some (.str u), x6, x7, y8, y9, y10, y11, y12, y13] h') :
    wf (evS (callN T m) innerB [some (.ref n), some (.int most), some (.int wx), some tags, some (planV p), some (.str u), x6, x7, x8, x9, x10, x11, x12, x13] h) N R := by
  have hp1 : p.length ≤ 11 := g.toTile.len
  have pne : p.map Rm.v ≠ [] := by
    obtain ⟨r, mr, _⟩ := g.ul
    intro z
    rw [List.map_eq_nil_iff.mp z] at mr; cases mr
  simp [innerB]
  refine of_wp F.take F.of (.inl rfl) (by omega) (by omega) hb pne (by simp; omega) (rooms_pv p 39) fun x h1 mx s1 b1 => ?_
  obtain ⟨r, mr, rfl⟩ := List.mem_map.mp mx
  have rr := g.rng r mr
  simp
  refine of_wp F.take F.of (.inr rfl) (by omega) (by omega) b1 (by simp) (by simp) (by rfl) fun y h2 my s2 b2 => ?_
  have wy : ∃ lev, y = .str (wayS lev) := by
    simp at my
    rcases my with rfl | rfl
    · exact ⟨true, rfl⟩
    · exact ⟨false, rfl⟩
  obtain ⟨lev, rfl⟩ := wy
  have sn := s1.trans s2
  have hz : p.length ≤ 16777216 := by omega
  have srcV : ∀ h' : AH, srcPl h' (planV p) = some (.st (p.map Rm.v)) := fun h' => rfl
  have mem : ∀ h' : AH, inO h' (.str u) (.lst (p.map fun r => .str r.n)) = some ((p.map Rm.n).contains u) := fun h' => by
    have := mem_names (h := h') (pool_ok u hu) (ns := p.map Rm.n) fun x mx => by
      obtain ⟨r', m', rfl⟩ := List.mem_map.mp mx
      exact pool_ok _ (g.nm r' m')
    rw [List.map_map] at this
    exact this
  have stay : ∀ y12 y13, N [some (.ref n), some (.int most), some (.int wx), some tags, some (planV p), some (.str u), x6, x7, some r.v, some (.str (wayS lev)), some (.int (if lev then r.b else r.a)), some (.int (if lev then r.d else r.c)), y12, y13] h2 := fun y12 y13 => next p h2 _ _ _ _ _ _ g (fun r m => .inr ⟨r, m, rfl⟩) sn (b2.le (by omega))
  have lev_eq : (wayS lev == [108, 101, 118, 101, 108]) = lev := by cases lev <;> rfl
  have A : wf (evS (callN T m) ifeB [some (.ref n), some (.int most), some (.int wx), some tags, some (planV p), some (.str u), x6, x7, some r.v, some (.str (wayS lev)), some (.int (if lev then r.b else r.a)), some (.int (if lev then r.d else r.c)), x12, x13] h2) N R := by
    generalize hlo : (if lev then r.b else r.a) = lo at *
    generalize hhi : (if lev then r.d else r.c) = hi at *
    have hl0 : 0 ≤ lo ∧ lo < hi ∧ hi ≤ w := by cases lev <;> simp at hlo hhi <;> omega
    by_cases c1 : 1 < hi - lo
    · simp [ifeB, c1, srcV, hz]
      refine wp_comp_map Rm.v (fun r => .str r.n) (fun x _ => by simp [cBody]) ?_
      generalize hcu : (p.map Rm.n).contains u = cu at mem
      cases cu with
      | true =>
        simp [mem]
        exact stay _ _
      | false =>
        simp [mem]
        refine take_wp F.take (by omega) (by omega) b2 (by omega) (by omega) fun d h3 d0 d1 s3 b3 => ?_
        have sp := split_ok F.split b3.ok (m := m) (by omega) p r.n lev (lo + 1 + d) u (by omega)
        have hsl := splitM_len p r.n lev (lo + 1 + d) u
        have hsl2 : (sortR (splitM p r.n lev (lo + 1 + d) u)).length ≤ 1000 := by rw [(sortR_perm _).length_eq]; omega
        have nco := no_cross_ok F.nc b3.ok (m := m) (by omega) (sortR (splitM p r.n lev (lo + 1 + d) u)) hsl2
        simp [sp, nco]
        by_cases c4 : ncB (sortR (splitM p r.n lev (lo + 1 + d) u)) = true
        · simp [c4]
          refine next _ _ _ _ _ _ _ _ ⟨(g.toTile.split mr hu (by simpa using hcu) ?_).perm (sortR_perm _).symm, ncB_iff.mp c4, _, rfl⟩ ?_ (sn.trans s3) (b3.le (by omega))
          · cases lev <;> simp at hlo hhi ⊢ <;> omega
          · intro x mx
            have mx := (sortR_perm _).mem_iff.mp mx
            unfold splitM at mx
            obtain ⟨s, ms, mx⟩ := List.mem_flatMap.mp mx
            unfold splitR at mx
            split at mx
            · split at mx <;> simp at mx <;> rcases mx with rfl | rfl <;> first | exact .inr ⟨s, ms, rfl⟩ | exact .inl rfl
            · simp at mx; subst mx; exact .inr ⟨_, ms, rfl⟩
        · simp [c4]
          exact next p h3 _ _ _ _ _ _ g (fun r m => .inr ⟨r, m, rfl⟩) (sn.trans s3) (b3.le (by omega))
    · simp [ifeB, c1]
      exact stay _ _
  cases lev with
  | true => simp [wayS]; simpa [wayS] using A
  | false => simp [wayS]; simpa [wayS] using A
end EV

set_option Elab.async false
set_option linter.all false
set_option maxRecDepth 100000
set_option maxHeartbeats 1000000
namespace EV
open IR L2
def loopB : IS := .for_ (.nm 5) (.iPl (.slc (.var 3) (.som (.blt .len (.cons (.var 4) .nil))) .omit)) (.for_ (.nm 7) (.iRg1 (.cons (.cst (.int 6)) .nil)) innerB)
theorem loop_wf {T : Tab} (F : HasFlat T) {m n : Nat} {k w most wx : Int} {h : AH} {p : List Rm} {ts : List (List Nat)} {x5 x6 x7 x8 x9 x10 x11 x12 x13 : Option AV} {N : ASt → AH → Prop} {R : AV → AH → Prop} (hm : 3 ≤ m) (hk : k + 200 < 1000000000) (hb : BoxAt n k h) (hw : 0 < w ∧ w < 1000) (g : Good w p) (hts : ∀ t ∈ ts, t ∈ POOL) (hnd : ts.Nodup) (hpt : ∀ r ∈ p, r.n ∈ ts)
    (next : ∀ (q : List Rm) (h' : AH) (y5 y7 y8 y9 y10 y11 y12 y13 : Option AV), Good w q → (∀ r ∈ q, r.n ∈ ts) → SameH n h h' → BoxAt n (k + 200) h' → N [some (.ref n), some (.int most), some (.int wx), some (.lst (ts.map .str)), some (planV q), y5, x6, y7, y8, y9, y10, y11, y12, y13] h') :
    wf (evS (callN T m) loopB [some (.ref n), some (.int most), some (.int wx), some (.lst (ts.map .str)), some (planV p), x5, x6, x7, x8, x9, x10, x11, x12, x13] h) N R := by
  have tl : ts.length ≤ 11 := nodup_len (m := POOL) hnd hts
  have e1 : bfO h .len [planV p] = some (.int p.length) := by simp [planV]
  simp [loopB, e1, cutL_map, cutL_suf _ (show (0 : Int) ≤ p.length by omega)]
  obtain ⟨I, hI⟩ : ∃ I : List (List Nat) → ASt → AH → Prop, I = fun us σ h' => ∃ (q : List Rm) (k' : Int) (y5 y7 y8 y9 y10 y11 y12 y13 : Option AV), (∀ u ∈ us, u ∈ ts) ∧ Good w q ∧ (∀ r ∈ q, r.n ∈ ts) ∧ SameH n h h' ∧ BoxAt n k' h' ∧ k' + 18 * us.length ≤ k + 200 ∧ σ = [some (.ref n), some (.int most), some (.int wx), some (.lst (ts.map .str)), some (planV q), y5, x6, y7, y8, y9, y10, y11, y12, y13] := ⟨_, rfl⟩
  rw [← List.map_drop]
  refine wf_forM AV.str I (by rw [hI]; exact ⟨p, k, _, _, _, _, _, _, _, _, fun u m => List.mem_of_mem_drop m, g, hpt, SameH.refl hb, hb, by simp; omega, rfl⟩) ?_ ?_
  · intro u us σ h1 i
    rw [hI] at i
    obtain ⟨q, k1, y5, y7, y8, y9, y10, y11, y12, y13, hus, gq, hq, s1, b1, hk1, rfl⟩ := i
    simp only [List.length_cons] at hk1
    simp [srcRg1_int]
    obtain ⟨J, hJ⟩ : ∃ J : List AV → ASt → AH → Prop, J = fun xs σ h' => ∃ (q : List Rm) (k' : Int) (y7 y8 y9 y10 y11 y12 y13 : Option AV), Good w q ∧ (∀ r ∈ q, r.n ∈ ts) ∧ SameH n h h' ∧ BoxAt n k' h' ∧ k' + 3 * xs.length ≤ k1 + 18 ∧ σ = [some (.ref n), some (.int most), some (.int wx), some (.lst (ts.map .str)), some (planV q), some (.str u), x6, y7, y8, y9, y10, y11, y12, y13] := ⟨_, rfl⟩
    refine wf_forL J (by rw [hJ]; exact ⟨q, k1, _, _, _, _, _, _, _, gq, hq, s1, b1, by rw [rangeL_len]; omega, rfl⟩) ?_ ?_
    · intro x xs σ h2 i
      rw [hJ] at i
      obtain ⟨q, k2, y7, y8, y9, y10, y11, y12, y13, gq, hq, s2, b2, hk2, rfl⟩ := i
      simp only [List.length_cons] at hk2
      simp
      refine inner_wf F hm (by omega) b2 hw gq (hts u (hus u (List.mem_cons_self ..))) fun q' h3 z8 z9 z10 z11 z12 z13 gq' hq' s3 b3 => ?_
      rw [hJ]
      refine ⟨q', k2 + 3, _, _, _, _, _, _, _, gq', fun r mr => ?_, s2.trans s3, b3, by omega, rfl⟩
      rcases hq' r mr with e | ⟨s, ms, e⟩
      · rw [e]; exact hus u (List.mem_cons_self ..)
      · rw [← e]; exact hq s ms
    · intro σ h2 i
      rw [hJ] at i
      obtain ⟨q, k2, y7, y8, y9, y10, y11, y12, y13, gq, hq, s2, b2, hk2, rfl⟩ := i
      rw [hI]
      exact ⟨q, k2, _, _, _, _, _, _, _, _, fun v m => hus v (List.mem_cons_of_mem _ m), gq, hq, s2, b2, by simp at hk2; omega, rfl⟩
  · intro σ h1 i
    rw [hI] at i
    obtain ⟨q, k1, y5, y7, y8, y9, y10, y11, y12, y13, hus, gq, hq, s1, b1, hk1, rfl⟩ := i
    exact next q h1 _ _ _ _ _ _ _ _ gq hq s1 (b1.le (by simp at hk1; omega))
def wheelB : IS := (.seq (.set 6 (.var 2))
    (.seq (.set 4 (.tup (.cons (.tup (.cons (.idx (.var 3) (.cst (.int 0))) (.cons (.cst (.int 0)) (.cons (.cst (.int 0)) (.cons (.bin .mul (.cst (.int 3)) (.var 6)) (.cons (.var 6) .nil)))))) (.cons (.tup (.cons (.idx (.var 3) (.cst (.int 1))) (.cons (.bin .mul (.cst (.int 3)) (.var 6)) (.cons (.cst (.int 0)) (.cons (.bin .mul (.cst (.int 4)) (.var 6)) (.cons (.bin .mul (.cst (.int 3)) (.var 6)) .nil)))))) (.cons (.tup (.cons (.idx (.var 3) (.cst (.int 2))) (.cons (.var 6) (.cons (.bin .mul (.cst (.int 3)) (.var 6)) (.cons (.bin .mul (.cst (.int 4)) (.var 6)) (.cons (.bin .mul (.cst (.int 4)) (.var 6)) .nil)))))) .nil)))))
    (.set 4 (.blt .tuple (.cons (.blt .sorted (.cons (.bin .add (.var 4) (.tup (.cons (.tup (.cons (.idx (.var 3) (.cst (.int 3))) (.cons (.cst (.int 0)) (.cons (.var 6) (.cons (.var 6) (.cons (.bin .mul (.cst (.int 4)) (.var 6)) .nil)))))) (.cons (.tup (.cons (.idx (.var 3) (.cst (.int 4))) (.cons (.var 6) (.cons (.var 6) (.cons (.bin .mul (.cst (.int 3)) (.var 6)) (.cons (.bin .mul (.cst (.int 3)) (.var 6)) .nil)))))) .nil)))) .nil)) .nil)))))
def poolE : IE := (.lst (.cons (.cst (.str [97])) (.cons (.cst (.str [98])) (.cons (.cst (.str [99])) (.cons (.cst (.str [100])) (.cons (.cst (.str [101])) (.cons (.cst (.str [102])) (.cons (.cst (.str [103])) (.cons (.cst (.str [104])) (.cons (.cst (.str [120])) (.cons (.cst (.str [121, 121])) (.cons (.cst (.str [97, 98, 99, 100, 101, 102, 103, 104])) .nil))))))))))))
theorem flat_body : i__law_flat = ⟨3, 14, .seq (.set 3 (.call c__law_pick (.cons (.var 0) (.cons poolE (.cons (.bin .add (.cst (.int 1)) (.call c__law_take (.cons (.var 0) (.cons (.var 1) .nil)))) .nil)))))
    (.seq (.set 4 (.tup (.cons (.tup (.cons (.idx (.var 3) (.cst (.int 0))) (.cons (.cst (.int 0)) (.cons (.cst (.int 0)) (.cons (.bin .mul (.cst (.int 4)) (.var 2)) (.cons (.bin .mul (.cst (.int 4)) (.var 2)) .nil)))))) .nil)))
    (.seq (.ife (.and (.tst (.cmp .gt (.blt .len (.cons (.var 3) .nil)) (.cst (.int 4)))) (.tst (.cmp .eq (.call c__law_take (.cons (.var 0) (.cons (.cst (.int 3)) .nil))) (.cst (.int 0))))) wheelB .skip)
    (.seq loopB (.ret (.var 4)))))⟩ := rfl
theorem pool_ev (Φ : Fns) (σ : ASt) (h : AH) : evE Φ poolE σ h = .ok (.lst (POOL.map .str)) h := rfl
theorem mul4 {w : Int} (hw : w = 2 ∨ w = 3 ∨ w = 4 ∨ w = 5) (a : Int) (ha : 0 ≤ a ∧ a < 10) : mulOk a w = true := by
  simp only [mulOk, P64, Bool.or_eq_true, Bool.and_eq_true, decide_eq_true_eq]; omega
theorem flat_wp {T : Tab} (F : HasFlat T) {m n : Nat} {k w most : Int} {h : AH} {P : AV → AH → Prop} (hm : 4 ≤ m) (hk : k + 300 < 1000000000) (hb : BoxAt n k h) (hw : w = 2 ∨ w = 3 ∨ w = 4 ∨ w = 5) (hmost : 1 ≤ most ∧ most ≤ 11)
    (next : ∀ (p : List Rm) (h' : AH), Good (4 * w) p → (p.length : Int) ≤ most → SameH n h h' → BoxAt n (k + 300) h' → P (planV p) h') : wp (callV (callN T m) c__law_flat [.ref n, .int most, .int w] h) P := by
  refine callV_wp (by omega) F.flat ?_
  rw [flat_body]
  simp [pool_ev]
  refine take_wp F.take (by omega) (by omega) hb hmost.1 (by omega) fun d h1 d0 d1 s1 b1 => ?_
  simp
  rw [show ([AV.str [97], .str [98], .str [99], .str [100], .str [101], .str [102], .str [103], .str [104], .str [120], .str [121, 121], .str [97, 98, 99, 100, 101, 102, 103, 104]] : List AV) = POOL.map .str from rfl]
  have pl : ((POOL.map AV.str).length : Int) = 11 := rfl
  refine pick_wp F.take F.pick (by omega) (by rw [pl]; omega) b1 (by omega) (by simp) (strs_pv POOL 38) fun some_ rest h2 pm sl s2 b2 => ?_
  obtain ⟨ts, rfl, nd, hts, tl⟩ := pick_strs pm pool_nd
  rw [← tl] at sl
  have pl2 : (POOL.map AV.str).length = 11 := rfl
  rw [pl2] at sl
  have tl1 : 1 ≤ ts.length ∧ (ts.length : Int) ≤ most := by omega
  have m3 := mul4 hw 3 (by omega)
  have m4 := mul4 hw 4 (by omega)
  have s12 := s1.trans s2
  have done : ∀ (x6 : Option AV) (q : List Rm) (h3 : AH) (k3 : Int), k3 ≤ k + 100 → SameH n h h3 → BoxAt n k3 h3 → Good (4 * w) q → (∀ r ∈ q, r.n ∈ ts) → wf (evS (callN T (m - 1)) loopB [some (.ref n), some (.int most), some (.int w), some (.lst (ts.map .str)), some (planV q), none, x6, none, none, none, none, none, none, none] h3) (fun σ h4 => wf (evS (callN T (m - 1)) (.ret (.var 4)) σ h4) (fun _ h1 => wp (shut h.length .non h1) P) (fun v h1 => wp (shut h.length v h1) P)) (fun v h1 => wp (shut h.length v h1) P) := fun x6 q h3 k3 hk3 s3 b3 gq hq => by
    refine loop_wf F (by omega) (by omega) b3 (by omega) gq hts nd hq fun q' h4 y5 y7 y8 y9 y10 y11 y12 y13 gq' hq' s4 b4 => ?_
    simp
    rw [shut_box (s3.trans s4) b4 (planV_pv q'), wp_ok]
    refine next q' h4 gq' ?_ (s3.trans s4) (b4.le (by omega))
    have := nodup_len gq'.nd fun x mx => by
      obtain ⟨r, mr, rfl⟩ := List.mem_map.mp mx
      exact hq' r mr
    rw [List.length_map] at this
    omega
  obtain ⟨t0, tr, rfl⟩ : ∃ t0 tr, ts = t0 :: tr := by
    cases ts with
    | nil => simp at tl1
    | cons a b => exact ⟨a, b, rfl⟩
  have oneG : Good (4 * w) [⟨t0, 0, 0, 4 * w, 4 * w⟩] := ⟨Tile.one (by omega) (hts t0 (List.mem_cons_self ..)), NC.one _ (by simp; omega) (by simp; omega), [⟨t0, 0, 0, 4 * w, 4 * w⟩], rfl⟩
  have oneV : AV.tup [.tup [.str t0, .int 0, .int 0, .int (4 * w), .int (4 * w)]] = planV [⟨t0, 0, 0, 4 * w, 4 * w⟩] := rfl
  by_cases c5 : 4 < (t0 :: tr).length
  · obtain ⟨t1, t2, t3, t4, tt, rfl⟩ : ∃ t1 t2 t3 t4 tt, tr = t1 :: t2 :: t3 :: t4 :: tt := by
      match tr, c5 with
      | a :: b :: c :: d :: e, _ => exact ⟨a, b, c, d, e, rfl⟩
    have c5' : (4 : Int) < (tt.length : Int) + 1 + 1 + 1 + 1 + 1 := by omega
    simp [m4, c5']
    refine take_wp F.take (by omega) (by omega) b2 (by omega) (by omega) fun e h3 e0 e1 s3 b3 => ?_
    have b3' := b3.le (k' := k + 100) (by rw [pl]; omega)
    by_cases c6 : e = 0
    · subst c6
      simp [wheelB, m3, m4]
      have nd5 : [t0, t1, t2, t3, t4].Nodup := List.Nodup.sublist (by simp) nd
      have tw : Good (4 * w) (sortR (wheelR w t0 t1 t2 t3 t4)) := ⟨(Tile.wheel (by omega) nd5 fun t mt => hts t (by simp only [List.mem_cons, List.not_mem_nil, or_false] at mt ⊢; rcases mt with h | h | h | h | h <;> simp [h])).perm (sortR_perm _).symm, (NC.wheel hw).perm (sortR_perm _).symm, _, rfl⟩
      have sw : bfO h3 .sorted [planV (wheelR w t0 t1 t2 t3 t4)] = _ := sorted_rooms h3 (wheelR w t0 t1 t2 t3 t4)
      have D := done (some (.int w)) (sortR (wheelR w t0 t1 t2 t3 t4)) h3 _ (Int.le_refl _) (s12.trans s3) b3' tw fun r mr => by
        have mr := (sortR_perm _).mem_iff.mp mr
        simp only [wheelR, List.mem_cons, List.not_mem_nil, or_false] at mr
        rcases mr with rfl | rfl | rfl | rfl | rfl <;> simp
      refine ⟨_, sw, planV (sortR (wheelR w t0 t1 t2 t3 t4)), rfl, ?_⟩
      simpa using D
    · simp [c6]
      rw [oneV]
      have D := done none _ h3 _ (Int.le_refl _) (s12.trans s3) b3' oneG (by simp)
      simpa using D
  · have c5' : ¬ (4 : Int) < (tr.length : Int) + 1 := by simp at c5; omega
    simp [m4, c5']
    rw [oneV]
    have D := done none _ h2 _ (by rw [pl]; omega : _ ≤ k + 100) s12 b2 oneG (by simp)
    simpa using D
end EV

set_option Elab.async false
set_option linter.all false
set_option maxRecDepth 100000
set_option maxHeartbeats 1000000
namespace EV
open IR L2
/-! ### what the program tells of a plan -/
theorem intsOf_map {α : Type} (f : α → Int) : ∀ l : List α, intsOf (l.map fun x => .int (f x)) = some (l.map f)
  | [] => rfl
  | x :: l => by simp [intsOf, intsOf_map f l]
theorem rows_q (q : Bool) (p : List Rm) : planQ q p = sq q (p.map (Rm.q q)) := rfl
@[simp] theorem idx_q0 (h : AH) (q : Bool) (r : Rm) : idxO h (r.q q) 0 = some (.str r.n) := by simp [Rm.q]
@[simp] theorem idx_q1 (h : AH) (q : Bool) (r : Rm) : idxO h (r.q q) 1 = some (.int r.a) := by simp [Rm.q]
@[simp] theorem idx_q2 (h : AH) (q : Bool) (r : Rm) : idxO h (r.q q) 2 = some (.int r.b) := by simp [Rm.q]
@[simp] theorem idx_q3 (h : AH) (q : Bool) (r : Rm) : idxO h (r.q q) 3 = some (.int r.c) := by simp [Rm.q]
@[simp] theorem idx_q4 (h : AH) (q : Bool) (r : Rm) : idxO h (r.q q) 4 = some (.int r.d) := by simp [Rm.q]
@[simp] theorem items_q (h : AH) (q : Bool) (r : Rm) : itemsOf h (r.q q) = some [.str r.n, .int r.a, .int r.b, .int r.c, .int r.d] := by simp [Rm.q]
@[simp] theorem src_q (h : AH) (q : Bool) (p : List Rm) : srcPl h (planQ q p) = some (.st (p.map (Rm.q q))) := by simp [planQ]
theorem frame_ok {T : Tab} (hT : T.lookup c_frame = some i_frame) {h : AH} (hh : hOk h) {m : Nat} (hm : 1 ≤ m) (q : Bool) {p : List Rm} {l t r b : Int} (hl : p.length ≤ 1000) (h1 : minL (p.map Rm.a) = some l) (h2 : minL (p.map Rm.b) = some t) (h3 : maxL (p.map Rm.c) = some r) (h4 : maxL (p.map Rm.d) = some b) :
    callV (callN T m) c_frame [planQ q p] h = .ok (.tup [.int l, .int t, .int r, .int b]) h := by
  have w : wp (callV (callN T m) c_frame [planQ q p] h) fun v h' => v = .tup [.int l, .int t, .int r, .int b] ∧ h' = h := by
    have hz : p.length ≤ 16777216 := by omega
    refine callV_wp hm hT ?_
    simp [i_frame, hz]
    refine wp_comp_map (Rm.q q) (fun r => .int r.a) (fun x _ => by simp [cBody]) ?_
    simp [intsOf_map, h1, hz]
    refine wp_comp_map (Rm.q q) (fun r => .int r.b) (fun x _ => by simp [cBody]) ?_
    simp [intsOf_map, h2, hz]
    refine wp_comp_map (Rm.q q) (fun r => .int r.c) (fun x _ => by simp [cBody]) ?_
    simp [intsOf_map, h3, hz]
    refine wp_comp_map (Rm.q q) (fun r => .int r.d) (fun x _ => by simp [cBody]) ?_
    simp [intsOf_map, h4, hz]
    rw [shut_same hh rfl]; exact ⟨rfl, rfl⟩
  obtain ⟨v, h1, e, rfl, rfl⟩ := wp_iff.mp w
  exact e
def Rm.has (r : Rm) (x y : Int) : Bool := decide (r.a ≤ x) && decide (x ≤ r.c) && (decide (r.b ≤ y) && decide (y ≤ r.d))
def roomsAt (p : List Rm) (x y : Int) : List (List Nat) := (p.filter fun r => r.has x y).map Rm.n
theorem tup_strs_pv (l : List (List Nat)) : pv 40 (.tup (l.map .str)) = true := strs_pv l 39
theorem rooms_at_ok {T : Tab} (hT : T.lookup c_rooms_at = some i_rooms_at) {h : AH} (hh : hOk h) {m : Nat} (hm : 1 ≤ m) (q : Bool) {p : List Rm} (x y : Int) (hl : p.length ≤ 1000) :
    callV (callN T m) c_rooms_at [planQ q p, .int x, .int y] h = .ok (.tup ((roomsAt p x y).map .str)) h := by
  have w : wp (callV (callN T m) c_rooms_at [planQ q p, .int x, .int y] h) fun v h' => v = .tup ((roomsAt p x y).map .str) ∧ h' = h := by
    have hz : p.length ≤ 16777216 := by omega
    refine callV_wp hm hT ?_
    simp [i_rooms_at, hz]
    refine wp_comp_filter (Rm.q q) (fun r => .str r.n) (fun r => r.has x y) (fun r _ => ?_) ?_
    · by_cases a1 : r.a ≤ x <;> by_cases a2 : x ≤ r.c <;> by_cases a3 : r.b ≤ y <;> by_cases a4 : y ≤ r.d <;> simp [cBody, Rm.has, a1, a2, a3, a4]
    · have e : (p.filter fun r => r.has x y).map (fun r => AV.str r.n) = (roomsAt p x y).map .str := by unfold roomsAt; rw [List.map_map]; rfl
      rw [e]
      simp
      rw [shut_same hh (tup_strs_pv _)]; exact ⟨rfl, rfl⟩
  obtain ⟨v, h1, e, rfl, rfl⟩ := wp_iff.mp w
  exact e
theorem corner_ok {T : Tab} (hF : T.lookup c_frame = some i_frame) (hR : T.lookup c_rooms_at = some i_rooms_at) (hT : T.lookup c_corner_rooms = some i_corner_rooms) {h : AH} (hh : hOk h) {m : Nat} (hm : 2 ≤ m) (q : Bool) {p : List Rm} {l t r b : Int} {n0 n1 n2 n3 : List Nat} (hl : p.length ≤ 1000) (h1 : minL (p.map Rm.a) = some l) (h2 : minL (p.map Rm.b) = some t) (h3 : maxL (p.map Rm.c) = some r) (h4 : maxL (p.map Rm.d) = some b)
    (k0 : (roomsAt p l t).head? = some n0) (k1 : (roomsAt p r t).head? = some n1) (k2 : (roomsAt p r b).head? = some n2) (k3 : (roomsAt p l b).head? = some n3) :
    callV (callN T m) c_corner_rooms [planQ q p] h = .ok (.tup [.str n0, .str n1, .str n2, .str n3]) h := by
  have hd : ∀ {l : List (List Nat)} {n : List Nat}, l.head? = some n → atI (l.map AV.str) 0 = some (.str n) := fun {l n} e => by
    cases l with
    | nil => cases e
    | cons a l => cases e; simp
  have w : wp (callV (callN T m) c_corner_rooms [planQ q p] h) fun v h' => v = .tup [.str n0, .str n1, .str n2, .str n3] ∧ h' = h := by
    refine callV_wp (by omega) hT ?_
    simp [i_corner_rooms, frame_ok hF hh (show 1 ≤ m - 1 by omega) q hl h1 h2 h3 h4, compL, cBody, rooms_at_ok hR hh (show 1 ≤ m - 1 by omega) q _ _ hl, hd k0, hd k1, hd k2, hd k3]
    rw [shut_same hh rfl]; exact ⟨rfl, rfl⟩
  obtain ⟨v, h1, e, rfl, rfl⟩ := wp_iff.mp w
  exact e
end EV

set_option Elab.async false
set_option linter.all false
set_option maxRecDepth 100000
set_option maxHeartbeats 1000000
namespace EV
open IR L2
/-! ### along a side -/
def Rm.at (r : Rm) : Nat → Int
  | 0 => r.a
  | 1 => r.b
  | 2 => r.c
  | _ => r.d
def Rm.key (r : Rm) : Nat → Int
  | 0 => r.b
  | 1 => r.a
  | 2 => r.b
  | _ => r.a
def prV (x : Int × List Nat) : AV := .tup [.int x.1, .str x.2]
def plt (x y : Int × List Nat) : Bool := kLt (prV x) (prV y)
def sideM (p : List Rm) (k : Nat) (v : Int) : List (List Nat) := (sortBy plt ((p.filter fun r => r.at k == v).map fun r => (r.key k, r.n))).map (·.2)
theorem sk_prs (l : List (Int × List Nat)) : ∀ x ∈ l.map prV, skOk 30 x = true := by
  intro x m
  obtain ⟨r, _, rfl⟩ := List.mem_map.mp m
  simp [skOk, prV]
theorem cmpb_prs (l : List (Int × List Nat)) : ∀ x ∈ l.map prV, ∀ y ∈ l.map prV, cmpb x y = true := by
  intro x m y m'
  obtain ⟨r, _, rfl⟩ := List.mem_map.mp m
  obtain ⟨s, _, rfl⟩ := List.mem_map.mp m'
  simp [cmpb, cmpL, prV]
theorem sorted_prs (h : AH) (l : List (Int × List Nat)) : bfO h .sorted [.lst (l.map prV)] = some (.lst ((sortBy plt l).map prV)) := by
  rw [bf_sorted h (sk_prs l) (cmpb_prs l), sortBy_map]; rfl
theorem sortBy_len {α : Type} (lt : α → α → Bool) (l : List α) : (sortBy lt l).length = l.length := (sortBy_prm lt l).length_eq
def sideBody : IS := (.seq (.set 4 (.comp [6] (.nm 6) (.iPl (.var 0)) (.tst (.cmp .eq (.idx (.var 6) (.bin .add (.cst (.int 1)) (.var 3))) (.idx (.var 1) (.var 3)))) (.var 6)))
    (.seq (.set 5 (.blt .sorted (.cons (.comp [6] (.nm 6) (.iPl (.var 4)) (.tst (.cst (.bl true))) (.tup (.cons (.idx (.var 6) (.bin .sub (.cst (.int 2)) (.bin .mod (.var 3) (.cst (.int 2))))) (.cons (.idx (.var 6) (.cst (.int 0))) .nil)))) .nil)))
    (.expr (.app (.var 2) (.blt .tuple (.cons (.comp [7, 8] (.tp (.cons (.nm 7) (.cons (.nm 8) .nil))) (.iPl (.var 5)) (.tst (.cst (.bl true))) (.var 8)) .nil))))))
theorem side_body : i_side_rooms = ⟨1, 9, (.seq (.set 1 (.call c_frame (.cons (.var 0) .nil)))
    (.seq (.set 2 (.mut (.lst .nil)))
    (.seq (.for_ (.nm 3) (.iRg1 (.cons (.cst (.int 4)) .nil)) sideBody)
    (.ret (.blt .tuple (.cons (.var 2) .nil))))))⟩ := rfl
def frAt (l t r b : Int) : Nat → Int
  | 0 => l
  | 1 => t
  | 2 => r
  | _ => b
def namesV (l : List (List Nat)) : AV := .tup (l.map .str)
theorem side_step {Φ : Fns} {h : AH} (q : Bool) {p : List Rm} {l t r b : Int} {k : Nat} {fs : List AV} {x4 x5 x6 x7 x8 : Option AV} {N : ASt → AH → Prop} {R : AV → AH → Prop} (hk : k < 4) (hl : p.length ≤ 1000) (hf : fs.length ≤ 10)
    (next : ∀ y4 y5 y6 y7 y8, N [some (planQ q p), some (.tup [.int l, .int t, .int r, .int b]), some (.ref h.length), some (.int k), y4, y5, y6, y7, y8] (h ++ [.lst (fs ++ [namesV (sideM p k (frAt l t r b k))])])) :
    wf (evS Φ sideBody [some (planQ q p), some (.tup [.int l, .int t, .int r, .int b]), some (.ref h.length), some (.int k), x4, x5, x6, x7, x8] (h ++ [.lst fs])) N R := by
  have hz : p.length ≤ 16777216 := by omega
  have e0 := lookup_app (h := h) (o := .lst fs)
  have hf2 : fs.length < 16777216 := by omega
  simp [sideBody, hz]
  refine wp_comp_filter (Rm.q q) (Rm.q q) (fun r' => r'.at k == frAt l t r b k) (fun r' _ => ?_) ?_
  · match k, hk with
    | 0, _ => by_cases c : r'.a = l <;> simp [cBody, Rm.at, frAt, c]
    | 1, _ => by_cases c : r'.b = t <;> simp [cBody, Rm.at, frAt, c]
    | 2, _ => by_cases c : r'.c = r <;> simp [cBody, Rm.at, frAt, c]
    | 3, _ => by_cases c : r'.d = b <;> simp [cBody, Rm.at, frAt, c]
  · have hz2 : (p.filter fun r' => r'.at k == frAt l t r b k).length ≤ 16777216 := Nat.le_trans (List.length_filter_le _ _) hz
    simp [hz2]
    refine wp_comp_map (Rm.q q) (fun r' => prV (r'.key k, r'.n)) (fun r' _ => ?_) ?_
    · match k, hk with
      | 0, _ => simp [cBody, Rm.key, prV, bin_mod]
      | 1, _ => simp [cBody, Rm.key, prV, bin_mod]
      | 2, _ => simp [cBody, Rm.key, prV, bin_mod]
      | 3, _ => simp [cBody, Rm.key, prV, bin_mod]
    · have so := sorted_prs (h ++ [.lst fs]) ((p.filter fun r' => r'.at k == frAt l t r b k).map fun r' => (r'.key k, r'.n))
      rw [List.map_map] at so
      have so' : bfO (h ++ [.lst fs]) .sorted [.lst ((p.filter fun r' => r'.at k == frAt l t r b k).map fun r' => prV (r'.key k, r'.n))] = _ := so
      have hz3 : (sortBy plt ((p.filter fun r' => r'.at k == frAt l t r b k).map fun r' => (r'.key k, r'.n))).length ≤ 16777216 := by rw [sortBy_len, List.length_map]; exact hz2
      simp [so', hz3]
      refine wp_comp_map prV (fun x => .str x.2) (fun x _ => by simp [cBody, prV]) ?_
      have nv : AV.tup ((sortBy plt ((p.filter fun r' => r'.at k == frAt l t r b k).map fun r' => (r'.key k, r'.n))).map fun x => .str x.2) = namesV (sideM p k (frAt l t r b k)) := by
        unfold namesV sideM; rw [List.map_map]; rfl
      simp [lstOf_ref _ e0, hf2, nv]
      exact next _ _ _ _ _
theorem names_pv (l : List (List Nat)) (n : Nat) : pv (n + 1) (namesV l) = true := strs_pv l n
theorem wf_turn_of {r : Fl} {k : ASt → AH → Fl} {N : ASt → AH → Prop} {R : AV → AH → Prop} (w : wf r (fun σ h => wf (k σ h) N R) R) : wf (r.trn k) N R := by
  cases r <;> first | exact w | exact w.elim
theorem side_ok {T : Tab} (hF : T.lookup c_frame = some i_frame) (hT : T.lookup c_side_rooms = some i_side_rooms) {h : AH} (hh : hOk h) {m : Nat} (hm : 2 ≤ m) (q : Bool) {p : List Rm} {l t r b : Int} (hl : p.length ≤ 1000) (h1 : minL (p.map Rm.a) = some l) (h2 : minL (p.map Rm.b) = some t) (h3 : maxL (p.map Rm.c) = some r) (h4 : maxL (p.map Rm.d) = some b) :
    callV (callN T m) c_side_rooms [planQ q p] h = .ok (.tup [namesV (sideM p 0 l), namesV (sideM p 1 t), namesV (sideM p 2 r), namesV (sideM p 3 b)]) h := by
  have w : wp (callV (callN T m) c_side_rooms [planQ q p] h) fun v h' => v = .tup [namesV (sideM p 0 l), namesV (sideM p 1 t), namesV (sideM p 2 r), namesV (sideM p 3 b)] ∧ h' = h := by
    refine callV_wp (by omega) hT ?_
    rw [side_body]
    simp [frame_ok hF hh (show 1 ≤ m - 1 by omega) q hl h1 h2 h3 h4, srcRg1_int, rangeL, forL_cons]
    refine wf_turn_of (side_step q (k := 0) (fs := []) (by omega) hl (by simp) fun y4 y5 y6 y7 y8 => ?_)
    simp
    refine wf_turn_of (side_step q (k := 1) (by omega) hl (by simp) fun y4 y5 y6 y7 y8 => ?_)
    simp
    refine wf_turn_of (side_step q (k := 2) (by omega) hl (by simp) fun y4 y5 y6 y7 y8 => ?_)
    simp
    refine wf_turn_of (side_step q (k := 3) (by omega) hl (by simp) fun y4 y5 y6 y7 y8 => ?_)
    simp [bfO, itemsOf_ref _ lookup_app, frAt]
    rw [shut_ch rfl hh (by simp [pv, names_pv])]
    simp
  obtain ⟨v, h1, e, rfl, rfl⟩ := wp_iff.mp w
  exact e
end EV

set_option Elab.async false
set_option linter.all false
set_option maxRecDepth 100000
set_option maxHeartbeats 1000000
namespace EV
open IR L2
/-! ### the law's own look along the frame -/
def lawSideBody : IS := (.seq (.set 4 (.comp [6] (.nm 6) (.iPl (.var 0)) (.tst (.cmp .eq (.idx (.var 6) (.bin .add (.var 3) (.cst (.int 1)))) (.idx (.var 1) (.var 3)))) (.var 6)))
    (.seq (.set 5 (.blt .sorted (.cons (.comp [6] (.nm 6) (.iPl (.var 4)) (.tst (.cst (.bl true))) (.tup (.cons (.ife (.tst (.cmp .inn (.var 3) (.tup (.cons (.cst (.int 0)) (.cons (.cst (.int 2)) .nil))))) (.idx (.var 6) (.cst (.int 2))) (.idx (.var 6) (.cst (.int 1)))) (.cons (.idx (.var 6) (.cst (.int 0))) .nil)))) .nil)))
    (.expr (.app (.var 2) (.blt .tuple (.cons (.comp [6] (.nm 6) (.iPl (.var 5)) (.tst (.cst (.bl true))) (.idx (.var 6) (.cst (.int 1)))) .nil))))))
def lawSideHead (rest : IS) : IS := (.seq (.set 1 (.lst (.cons (.blt .min (.cons (.comp [6] (.nm 6) (.iPl (.var 0)) (.tst (.cst (.bl true))) (.idx (.var 6) (.cst (.int 1)))) .nil)) (.cons (.blt .min (.cons (.comp [6] (.nm 6) (.iPl (.var 0)) (.tst (.cst (.bl true))) (.idx (.var 6) (.cst (.int 2)))) .nil)) .nil))))
    (.seq (.set 1 (.bin .add (.var 1) (.lst (.cons (.blt .max (.cons (.comp [6] (.nm 6) (.iPl (.var 0)) (.tst (.cst (.bl true))) (.idx (.var 6) (.cst (.int 3)))) .nil)) (.cons (.blt .max (.cons (.comp [6] (.nm 6) (.iPl (.var 0)) (.tst (.cst (.bl true))) (.idx (.var 6) (.cst (.int 4)))) .nil)) .nil))))) rest))
theorem law_side_body : i__law_sides = ⟨1, 7, lawSideHead (.seq (.set 2 (.mut (.lst .nil)))
    (.seq (.for_ (.nm 3) (.iRg1 (.cons (.cst (.int 4)) .nil)) lawSideBody)
    (.ret (.blt .tuple (.cons (.var 2) .nil)))))⟩ := rfl
theorem in02 (h : AH) (i : Int) : inO h (.int i) (.tup [.int 0, .int 2]) = some (decide (i = 0 ∨ i = 2)) := by
  show memO h (.int i) [.int 0, .int 2] = _
  simp [memO, res, mapO, aeq]
  by_cases h0 : i = 0
  · simp [h0]
  · by_cases h2 : i = 2
    · simp [h2]
    · have h0' : ¬ 0 = i := fun z => h0 z.symm
      have h2' : ¬ 2 = i := fun z => h2 z.symm
      simp [h0, h2, h0', h2']
theorem lawSide_step {Φ : Fns} {h : AH} {p : List Rm} {l t r b : Int} {k : Nat} {fs : List AV} {x4 x5 x6 : Option AV} {N : ASt → AH → Prop} {R : AV → AH → Prop} (hk : k < 4) (hl : p.length ≤ 1000) (hf : fs.length ≤ 10)
    (next : ∀ y4 y5 y6, N [some (planQ false p), some (.lst [.int l, .int t, .int r, .int b]), some (.ref h.length), some (.int k), y4, y5, y6] (h ++ [.lst (fs ++ [namesV (sideM p k (frAt l t r b k))])])) :
    wf (evS Φ lawSideBody [some (planQ false p), some (.lst [.int l, .int t, .int r, .int b]), some (.ref h.length), some (.int k), x4, x5, x6] (h ++ [.lst fs])) N R := by
  have hz : p.length ≤ 16777216 := by omega
  have e0 := lookup_app (h := h) (o := .lst fs)
  have hf2 : fs.length < 16777216 := by omega
  simp [lawSideBody, hz]
  refine wp_comp_filter (Rm.q false) (Rm.q false) (fun r' => r'.at k == frAt l t r b k) (fun r' _ => ?_) ?_
  · match k, hk with
    | 0, _ => by_cases c : r'.a = l <;> simp [cBody, Rm.at, frAt, c]
    | 1, _ => by_cases c : r'.b = t <;> simp [cBody, Rm.at, frAt, c]
    | 2, _ => by_cases c : r'.c = r <;> simp [cBody, Rm.at, frAt, c]
    | 3, _ => by_cases c : r'.d = b <;> simp [cBody, Rm.at, frAt, c]
  · have hz2 : (p.filter fun r' => r'.at k == frAt l t r b k).length ≤ 16777216 := Nat.le_trans (List.length_filter_le _ _) hz
    simp [hz2]
    refine wp_comp_map (Rm.q false) (fun r' => prV (r'.key k, r'.n)) (fun r' _ => ?_) ?_
    · match k, hk with
      | 0, _ => simp [cBody, Rm.key, prV, in02]
      | 1, _ => simp [cBody, Rm.key, prV, in02]
      | 2, _ => simp [cBody, Rm.key, prV, in02]
      | 3, _ => simp [cBody, Rm.key, prV, in02]
    · have so := sorted_prs (h ++ [.lst fs]) ((p.filter fun r' => r'.at k == frAt l t r b k).map fun r' => (r'.key k, r'.n))
      rw [List.map_map] at so
      have so' : bfO (h ++ [.lst fs]) .sorted [.lst ((p.filter fun r' => r'.at k == frAt l t r b k).map fun r' => prV (r'.key k, r'.n))] = _ := so
      have hz3 : (sortBy plt ((p.filter fun r' => r'.at k == frAt l t r b k).map fun r' => (r'.key k, r'.n))).length ≤ 16777216 := by rw [sortBy_len, List.length_map]; exact hz2
      simp [so', hz3]
      refine wp_comp_map prV (fun x => .str x.2) (fun x _ => by simp [cBody, prV]) ?_
      have nv : AV.tup ((sortBy plt ((p.filter fun r' => r'.at k == frAt l t r b k).map fun r' => (r'.key k, r'.n))).map fun x => .str x.2) = namesV (sideM p k (frAt l t r b k)) := by
        unfold namesV sideM; rw [List.map_map]; rfl
      simp [lstOf_ref _ e0, hf2, nv]
      exact next _ _ _
theorem lawSide_ok {T : Tab} (hT : T.lookup c__law_sides = some i__law_sides) {h : AH} (hh : hOk h) {m : Nat} (hm : 1 ≤ m) {p : List Rm} {l t r b : Int} (hl : p.length ≤ 1000) (h1 : minL (p.map Rm.a) = some l) (h2 : minL (p.map Rm.b) = some t) (h3 : maxL (p.map Rm.c) = some r) (h4 : maxL (p.map Rm.d) = some b) :
    callV (callN T m) c__law_sides [planV p] h = .ok (.tup [namesV (sideM p 0 l), namesV (sideM p 1 t), namesV (sideM p 2 r), namesV (sideM p 3 b)]) h := by
  rw [← planQ_false]
  have w : wp (callV (callN T m) c__law_sides [planQ false p] h) fun v h' => v = .tup [namesV (sideM p 0 l), namesV (sideM p 1 t), namesV (sideM p 2 r), namesV (sideM p 3 b)] ∧ h' = h := by
    have hz : p.length ≤ 16777216 := by omega
    refine callV_wp (by omega) hT ?_
    rw [law_side_body]
    simp [lawSideHead, hz]
    refine wp_comp_map (Rm.q false) (fun r => .int r.a) (fun x _ => by simp [cBody]) ?_
    simp [intsOf_map, h1, hz]
    refine wp_comp_map (Rm.q false) (fun r => .int r.b) (fun x _ => by simp [cBody]) ?_
    simp [intsOf_map, h2, hz]
    refine wp_comp_map (Rm.q false) (fun r => .int r.c) (fun x _ => by simp [cBody]) ?_
    simp [intsOf_map, h3, hz]
    refine wp_comp_map (Rm.q false) (fun r => .int r.d) (fun x _ => by simp [cBody]) ?_
    simp [intsOf_map, h4, hz, binO, catO, srcRg1_int, rangeL, forL_cons]
    refine wf_turn_of (lawSide_step (k := 0) (fs := []) (by omega) hl (by simp) fun y4 y5 y6 => ?_)
    simp
    refine wf_turn_of (lawSide_step (k := 1) (by omega) hl (by simp) fun y4 y5 y6 => ?_)
    simp
    refine wf_turn_of (lawSide_step (k := 2) (by omega) hl (by simp) fun y4 y5 y6 => ?_)
    simp
    refine wf_turn_of (lawSide_step (k := 3) (by omega) hl (by simp) fun y4 y5 y6 => ?_)
    simp [bfO, itemsOf_ref _ lookup_app, frAt]
    rw [shut_ch rfl hh (by simp [pv, names_pv])]
    simp
  obtain ⟨v, h1, e, rfl, rfl⟩ := wp_iff.mp w
  exact e
/-! plans that are changed -/
def mirR (r : Rm) : Rm := ⟨r.n, -r.c, r.b, -r.a, r.d⟩
def trnR (r : Rm) : Rm := ⟨r.n, r.b, r.a, r.d, r.c⟩
def turR (r : Rm) : Rm := ⟨r.n, -r.d, r.a, -r.b, r.c⟩
theorem made_ok {T : Tab} (hT : T.lookup c_made = some i_made) {h : AH} (hh : hOk h) {m : Nat} (hm : 1 ≤ m) (p : List Rm) : callV (callN T m) c_made [.lst (p.map Rm.v)] h = .ok (planV (sortR p)) h := by
  have w : wp (callV (callN T m) c_made [.lst (p.map Rm.v)] h) fun v h' => v = planV (sortR p) ∧ h' = h := by
    refine callV_wp hm hT ?_
    simp [i_made, sorted_rooms]
    rw [show AV.tup ((sortR p).map Rm.v) = planV (sortR p) from rfl, shut_same hh (planV_pv _)]; exact ⟨rfl, rfl⟩
  obtain ⟨v, h1, e, rfl, rfl⟩ := wp_iff.mp w
  exact e
theorem mirrored_ok {T : Tab} (hM : T.lookup c_made = some i_made) (hT : T.lookup c_mirrored = some i_mirrored) {h : AH} (hh : hOk h) {m : Nat} (hm : 2 ≤ m) (q : Bool) (p : List Rm) (hl : p.length ≤ 1000) : callV (callN T m) c_mirrored [planQ q p] h = .ok (planV (sortR (p.map mirR))) h := by
  have w : wp (callV (callN T m) c_mirrored [planQ q p] h) fun v h' => v = planV (sortR (p.map mirR)) ∧ h' = h := by
    have hz : p.length ≤ 16777216 := by omega
    refine callV_wp (by omega) hT ?_
    simp [i_mirrored, hz]
    refine wp_comp_map (Rm.q q) (fun r => (mirR r).v) (fun x _ => by simp [cBody, mirR]) ?_
    have e := made_ok hM hh (m := m - 1) (by omega) (p.map mirR)
    rw [List.map_map] at e
    have e' : callV (callN T (m - 1)) c_made [.lst (p.map fun r => (mirR r).v)] h = _ := e
    simp [e']
    rw [shut_same hh (planV_pv _)]; exact ⟨rfl, rfl⟩
  obtain ⟨v, h1, e, rfl, rfl⟩ := wp_iff.mp w
  exact e
theorem transposed_ok {T : Tab} (hM : T.lookup c_made = some i_made) (hT : T.lookup c_transposed = some i_transposed) {h : AH} (hh : hOk h) {m : Nat} (hm : 2 ≤ m) (q : Bool) (p : List Rm) (hl : p.length ≤ 1000) : callV (callN T m) c_transposed [planQ q p] h = .ok (planV (sortR (p.map trnR))) h := by
  have w : wp (callV (callN T m) c_transposed [planQ q p] h) fun v h' => v = planV (sortR (p.map trnR)) ∧ h' = h := by
    have hz : p.length ≤ 16777216 := by omega
    refine callV_wp (by omega) hT ?_
    simp [i_transposed, hz]
    refine wp_comp_map (Rm.q q) (fun r => (trnR r).v) (fun x _ => by simp [cBody, trnR]) ?_
    have e := made_ok hM hh (m := m - 1) (by omega) (p.map trnR)
    rw [List.map_map] at e
    have e' : callV (callN T (m - 1)) c_made [.lst (p.map fun r => (trnR r).v)] h = _ := e
    simp [e']
    rw [shut_same hh (planV_pv _)]; exact ⟨rfl, rfl⟩
  obtain ⟨v, h1, e, rfl, rfl⟩ := wp_iff.mp w
  exact e
theorem turned_ok {T : Tab} (hM : T.lookup c_made = some i_made) (hT : T.lookup c_turned = some i_turned) {h : AH} (hh : hOk h) {m : Nat} (hm : 2 ≤ m) (q : Bool) (p : List Rm) (hl : p.length ≤ 1000) : callV (callN T m) c_turned [planQ q p] h = .ok (planV (sortR (p.map turR))) h := by
  have w : wp (callV (callN T m) c_turned [planQ q p] h) fun v h' => v = planV (sortR (p.map turR)) ∧ h' = h := by
    have hz : p.length ≤ 16777216 := by omega
    refine callV_wp (by omega) hT ?_
    simp [i_turned, hz]
    refine wp_comp_map (Rm.q q) (fun r => (turR r).v) (fun x _ => by simp [cBody, turR]) ?_
    have e := made_ok hM hh (m := m - 1) (by omega) (p.map turR)
    rw [List.map_map] at e
    have e' : callV (callN T (m - 1)) c_made [.lst (p.map fun r => (turR r).v)] h = _ := e
    simp [e']
    rw [shut_same hh (planV_pv _)]; exact ⟨rfl, rfl⟩
  obtain ⟨v, h1, e, rfl, rfl⟩ := wp_iff.mp w
  exact e
end EV

set_option Elab.async false
set_option linter.all false
set_option maxRecDepth 100000
set_option maxHeartbeats 1000000
namespace EV
open IR L2
theorem fold_min : ∀ (l : List Int) (x : Int), (∀ y ∈ l, l.foldl (fun m y => if y < m then y else m) x ≤ y) ∧ l.foldl (fun m y => if y < m then y else m) x ≤ x ∧ (l.foldl (fun m y => if y < m then y else m) x = x ∨ l.foldl (fun m y => if y < m then y else m) x ∈ l)
  | [], x => by simp
  | z :: l, x => by
    have ih := fold_min l (if z < x then z else x)
    simp only [List.foldl_cons]
    obtain ⟨h1, h2, h3⟩ := ih
    refine ⟨fun y m => ?_, ?_, ?_⟩
    · rcases List.mem_cons.mp m with rfl | m
      · refine Int.le_trans h2 ?_; split <;> omega
      · exact h1 y m
    · refine Int.le_trans h2 ?_; split <;> omega
    · rcases h3 with h3 | h3
      · rw [h3]; split <;> simp
      · exact .inr (List.mem_cons_of_mem _ h3)
theorem fold_max : ∀ (l : List Int) (x : Int), (∀ y ∈ l, y ≤ l.foldl (fun m y => if m < y then y else m) x) ∧ x ≤ l.foldl (fun m y => if m < y then y else m) x ∧ (l.foldl (fun m y => if m < y then y else m) x = x ∨ l.foldl (fun m y => if m < y then y else m) x ∈ l)
  | [], x => by simp
  | z :: l, x => by
    have ih := fold_max l (if x < z then z else x)
    simp only [List.foldl_cons]
    obtain ⟨h1, h2, h3⟩ := ih
    refine ⟨fun y m => ?_, ?_, ?_⟩
    · rcases List.mem_cons.mp m with rfl | m
      · refine Int.le_trans ?_ h2; split <;> omega
      · exact h1 y m
    · refine Int.le_trans ?_ h2; split <;> omega
    · rcases h3 with h3 | h3
      · rw [h3]; split <;> simp
      · exact .inr (List.mem_cons_of_mem _ h3)
theorem minL_of {l : List Int} {v : Int} (m : v ∈ l) (h : ∀ x ∈ l, v ≤ x) : minL l = some v := by
  cases l with
  | nil => cases m
  | cons x l =>
    obtain ⟨h1, h2, h3⟩ := fold_min l x
    show some _ = some v
    congr 1
    have a1 : l.foldl (fun m y => if y < m then y else m) x ≤ v := by
      rcases List.mem_cons.mp m with rfl | m
      · exact h2
      · exact h1 v m
    have a2 : v ≤ l.foldl (fun m y => if y < m then y else m) x := by
      rcases h3 with h3 | h3
      · rw [h3]; exact h x (List.mem_cons_self ..)
      · exact h _ (List.mem_cons_of_mem _ h3)
    omega
theorem maxL_of {l : List Int} {v : Int} (m : v ∈ l) (h : ∀ x ∈ l, x ≤ v) : maxL l = some v := by
  cases l with
  | nil => cases m
  | cons x l =>
    obtain ⟨h1, h2, h3⟩ := fold_max l x
    show some _ = some v
    congr 1
    have a1 : v ≤ l.foldl (fun m y => if m < y then y else m) x := by
      rcases List.mem_cons.mp m with rfl | m
      · exact h2
      · exact h1 v m
    have a2 : l.foldl (fun m y => if m < y then y else m) x ≤ v := by
      rcases h3 with h3 | h3
      · rw [h3]; exact h x (List.mem_cons_self ..)
      · exact h _ (List.mem_cons_of_mem _ h3)
    omega
/-- the rooms of a plan seen otherwise -/
theorem minL_map {p : List Rm} {f : Rm → Rm} {g : Rm → Int} {v : Int} (m : ∃ r ∈ p, g (f r) = v) (h : ∀ r ∈ p, v ≤ g (f r)) : minL ((sortR (p.map f)).map g) = some v := by
  have pm := sortR_perm (p.map f)
  refine minL_of ?_ fun x mx => ?_
  · obtain ⟨r, mr, e⟩ := m
    exact List.mem_map.mpr ⟨f r, pm.mem_iff.mpr (List.mem_map_of_mem mr), e⟩
  · obtain ⟨s, ms, rfl⟩ := List.mem_map.mp mx
    obtain ⟨r, mr, rfl⟩ := List.mem_map.mp (pm.mem_iff.mp ms)
    exact h r mr
theorem maxL_map {p : List Rm} {f : Rm → Rm} {g : Rm → Int} {v : Int} (m : ∃ r ∈ p, g (f r) = v) (h : ∀ r ∈ p, g (f r) ≤ v) : maxL ((sortR (p.map f)).map g) = some v := by
  have pm := sortR_perm (p.map f)
  refine maxL_of ?_ fun x mx => ?_
  · obtain ⟨r, mr, e⟩ := m
    exact List.mem_map.mpr ⟨f r, pm.mem_iff.mpr (List.mem_map_of_mem mr), e⟩
  · obtain ⟨s, ms, rfl⟩ := List.mem_map.mp mx
    obtain ⟨r, mr, rfl⟩ := List.mem_map.mp (pm.mem_iff.mp ms)
    exact h r mr
theorem plt_lt {x y : Int × List Nat} (h : x.1 < y.1) : plt x y = true := by
  unfold plt kLt prV
  simp [kC, kCL, ordI, h, isLt]
theorem plt_gt {x y : Int × List Nat} (h : y.1 < x.1) : plt x y = false := by
  unfold plt kLt prV
  have h' : ¬ x.1 < y.1 := by omega
  simp [kC, kCL, ordI, h, h', isLt]
theorem insBy_mid {x : Int × List Nat} : ∀ {A B : List (Int × List Nat)}, (∀ y ∈ A, y.1 < x.1) → (∀ y ∈ B, x.1 < y.1) → insBy plt x (A ++ B) = A ++ x :: B
  | [], [], _, _ => rfl
  | [], y :: B, _, h => by
    simp only [List.nil_append, insBy]
    rw [if_neg]
    rw [plt_gt (h y (List.mem_cons_self ..))]; simp
  | y :: A, B, h, h' => by
    simp only [List.cons_append, insBy]
    rw [if_pos (plt_lt (h y (List.mem_cons_self ..))), insBy_mid (fun z m => h z (List.mem_cons_of_mem _ m)) h']
theorem sort_chain : ∀ {l L : List (Int × List Nat)}, l.Perm L → L.Pairwise (fun x y => x.1 < y.1) → sortBy plt l = L
  | [], L, hp, _ => by rw [List.nil_perm.mp hp]; rfl
  | x :: l, L, hp, hs => by
    obtain ⟨A, B, rfl⟩ := List.append_of_mem (hp.mem_iff.mp (List.mem_cons_self ..))
    have hp2 : l.Perm (A ++ B) := (List.perm_cons x).mp (hp.trans List.perm_middle)
    rw [List.pairwise_append, List.pairwise_cons] at hs
    have hs2 : (A ++ B).Pairwise (fun x y => x.1 < y.1) := List.pairwise_append.mpr ⟨hs.1, hs.2.1.2, fun a ma b mb => hs.2.2 a ma b (List.mem_cons_of_mem _ mb)⟩
    show insBy plt x (sortBy plt l) = _
    rw [sort_chain hp2 hs2]
    exact insBy_mid (fun y m => hs.2.2 y m x (List.mem_cons_self ..)) hs.2.1.1
theorem sideM_of {p : List Rm} {k : Nat} {v : Int} {L : List Rm} (hp : (p.filter fun r => r.at k == v).Perm L) (hs : L.Pairwise fun r s => r.key k < s.key k) : sideM p k v = L.map Rm.n := by
  unfold sideM
  rw [sort_chain (hp.map fun r => (r.key k, r.n)) (List.pairwise_map.mpr hs), List.map_map]
  rfl
theorem sideM_map {p : List Rm} {f : Rm → Rm} {c : Rm → Bool} {k : Nat} {v : Int} {L : List Rm} (hc : ∀ r, ((f r).at k == v) = c r) (hn : ∀ r, (f r).n = r.n) (hL : L.Perm (p.filter c)) (hs : L.Pairwise fun r s => (f r).key k < (f s).key k) : sideM (sortR (p.map f)) k v = L.map Rm.n := by
  have e : ((sortR (p.map f)).filter fun r => r.at k == v).Perm (L.map f) := by
    refine ((sortR_perm (p.map f)).filter _).trans ?_
    rw [List.filter_map]
    refine List.Perm.map f ?_
    rw [show ((fun r : Rm => r.at k == v) ∘ f) = c from funext hc]
    exact hL.symm
  rw [sideM_of e (List.pairwise_map.mpr hs), List.map_map]
  congr 1
  funext r
  exact hn r
/-! chains -/
def insR (R : Rm → Rm → Prop) [DecidableRel R] (x : Rm) : List Rm → List Rm
  | [] => [x]
  | y :: l => if R x y then x :: y :: l else y :: insR R x l
theorem insR_perm (R : Rm → Rm → Prop) [DecidableRel R] (x : Rm) : ∀ l, (insR R x l).Perm (x :: l)
  | [] => .refl _
  | y :: l => by
    unfold insR
    split
    · exact .refl _
    · exact ((insR_perm R x l).cons y).trans (.swap x y l)
theorem chain_of (R : Rm → Rm → Prop) [DecidableRel R] : ∀ (F : List Rm), (∀ x y z, y ∈ F → R x y → R y z → R x z) → F.Pairwise (fun x y => R x y ∨ R y x) → ∃ L : List Rm, L.Perm F ∧ L.Pairwise R
  | [], _, _ => ⟨[], .refl _, .nil⟩
  | x :: F, tr, tot => by
    obtain ⟨t1, t2⟩ := List.pairwise_cons.mp tot
    obtain ⟨L, hp, hs⟩ := chain_of R F (fun a b c m => tr a b c (List.mem_cons_of_mem _ m)) t2
    refine ⟨insR R x L, (insR_perm R x L).trans (hp.cons x), ?_⟩
    have key : ∀ L : List Rm, (∀ y ∈ L, y ∈ F) → L.Pairwise R → (insR R x L).Pairwise R := by
      intro L
      induction L with
      | nil => intro _ _; simp [insR]
      | cons y l ih =>
        intro hm hs
        obtain ⟨s1, s2⟩ := List.pairwise_cons.mp hs
        unfold insR
        split
        · rename_i c
          refine List.pairwise_cons.mpr ⟨fun z mz => ?_, hs⟩
          rcases List.mem_cons.mp mz with rfl | mz
          · exact c
          · exact tr x y z (List.mem_cons_of_mem _ (hm y (List.mem_cons_self ..))) c (s1 z mz)
        · rename_i c
          refine List.pairwise_cons.mpr ⟨fun z mz => ?_, ih (fun z m => hm z (List.mem_cons_of_mem _ m)) s2⟩
          rcases List.mem_cons.mp ((insR_perm R x l).mem_iff.mp mz) with rfl | mz
          · rcases t1 y (hm y (List.mem_cons_self ..)) with q | q
            · exact absurd q c
            · exact q
          · exact s1 z mz
    exact key L (fun y m => hp.mem_iff.mp m) hs
def Xc (r s : Rm) : Prop := r.c ≤ s.a
def Yc (r s : Rm) : Prop := r.d ≤ s.b
instance : DecidableRel Xc := fun r s => inferInstanceAs (Decidable (r.c ≤ s.a))
instance : DecidableRel Yc := fun r s => inferInstanceAs (Decidable (r.d ≤ s.b))
theorem Tile.chainX {w : Int} {p : List Rm} (t : Tile w p) (c : Rm → Bool) (hc : ∀ r ∈ p, ∀ s ∈ p, c r = true → c s = true → ¬ r.d ≤ s.b) : ∃ L : List Rm, L.Perm (p.filter c) ∧ L.Pairwise Xc := by
  refine chain_of Xc (p.filter c) (fun x y z m h1 h2 => ?_) ?_
  · have := t.rng y (List.mem_filter.mp m).1
    unfold Xc at *; omega
  · refine List.Pairwise.imp_of_mem ?_ (t.dj.filter c)
    intro r s mr ms ap
    obtain ⟨m1, c1⟩ := List.mem_filter.mp mr
    obtain ⟨m2, c2⟩ := List.mem_filter.mp ms
    have a1 := hc r m1 s m2 c1 c2
    have a2 := hc s m2 r m1 c2 c1
    unfold Apart at ap; unfold Xc; omega
theorem Tile.chainY {w : Int} {p : List Rm} (t : Tile w p) (c : Rm → Bool) (hc : ∀ r ∈ p, ∀ s ∈ p, c r = true → c s = true → ¬ r.c ≤ s.a) : ∃ L : List Rm, L.Perm (p.filter c) ∧ L.Pairwise Yc := by
  refine chain_of Yc (p.filter c) (fun x y z m h1 h2 => ?_) ?_
  · have := t.rng y (List.mem_filter.mp m).1
    unfold Yc at *; omega
  · refine List.Pairwise.imp_of_mem ?_ (t.dj.filter c)
    intro r s mr ms ap
    obtain ⟨m1, c1⟩ := List.mem_filter.mp mr
    obtain ⟨m2, c2⟩ := List.mem_filter.mp ms
    have a1 := hc r m1 s m2 c1 c2
    have a2 := hc s m2 r m1 c2 c1
    unfold Apart at ap; unfold Yc; omega
theorem Tile.apart {w : Int} {p : List Rm} (t : Tile w p) {r s : Rm} (mr : r ∈ p) (ms : s ∈ p) (ne : r ≠ s) : Apart r s := by
  have dj := t.dj
  clear t
  induction p with
  | nil => cases mr
  | cons x p ih =>
    obtain ⟨d1, d2⟩ := List.pairwise_cons.mp dj
    rcases List.mem_cons.mp mr with rfl | h'
    · rcases List.mem_cons.mp ms with rfl | ms
      · exact absurd rfl ne
      · exact d1 s ms
    · rcases List.mem_cons.mp ms with rfl | ms
      · exact (d1 r h').symm
      · exact ih h' ms d2
theorem head_of {p : List Rm} {x y : Int} {u : Rm} (mu : u ∈ p) (hu : u.has x y = true) (uq : ∀ r ∈ p, r.has x y = true → r.n = u.n) : (roomsAt p x y).head? = some u.n := by
  unfold roomsAt
  cases e : p.filter (fun r => r.has x y) with
  | nil =>
    have : u ∈ p.filter (fun r => r.has x y) := List.mem_filter.mpr ⟨mu, hu⟩
    rw [e] at this; cases this
  | cons a l =>
    have : a ∈ p.filter (fun r => r.has x y) := by rw [e]; exact List.mem_cons_self ..
    obtain ⟨m, c⟩ := List.mem_filter.mp this
    simp [uq a m c]
theorem head_map {p : List Rm} {f : Rm → Rm} {x y : Int} {u : Rm} (mu : u ∈ p) (hn : ∀ r, (f r).n = r.n) (hu : (f u).has x y = true) (uq : ∀ r ∈ p, (f r).has x y = true → r = u) : (roomsAt (sortR (p.map f)) x y).head? = some u.n := by
  have pm := sortR_perm (p.map f)
  rw [← hn u]
  refine head_of (pm.mem_iff.mpr (List.mem_map_of_mem mu)) hu fun r mr hr => ?_
  obtain ⟨s, ms, rfl⟩ := List.mem_map.mp (pm.mem_iff.mp mr)
  rw [uq s ms hr]
/-- first and last of a chain -/
theorem chain_first {R : Rm → Rm → Prop} {L : List Rm} {u : Rm} (hs : L.Pairwise R) (m : u ∈ L) (no : ∀ r ∈ L, ¬ R r u) : (L.map Rm.n).head? = some u.n := by
  cases L with
  | nil => cases m
  | cons a l =>
    rcases List.mem_cons.mp m with rfl | m
    · rfl
    · exact absurd ((List.pairwise_cons.mp hs).1 u m) (no a (List.mem_cons_self ..))
theorem chain_last {R : Rm → Rm → Prop} {L : List Rm} {u : Rm} (hs : L.Pairwise R) (m : u ∈ L) (no : ∀ r ∈ L, ¬ R u r) : (L.map Rm.n).getLast? = some u.n := by
  obtain ⟨A, B, rfl⟩ := List.append_of_mem m
  cases B with
  | nil => simp
  | cons b B =>
    have := (List.pairwise_cons.mp (List.pairwise_append.mp hs).2.1).1 b (List.mem_cons_self ..)
    exact absurd this (no b (by simp))
theorem atI_last {α : Type} {l : List α} {x : α} (e : l.getLast? = some x) : atI l (-1) = some x := by
  have hl : l ≠ [] := by rintro rfl; cases e
  have : 0 < l.length := List.length_pos_iff.mpr hl
  unfold atI ixN
  rw [if_neg (by omega), if_pos (by omega)]
  rw [List.getLast?_eq_getElem?] at e
  simp only [Option.bind_some]
  rw [show (-1 + (l.length : Int)).toNat = l.length - 1 by omega]
  exact e
theorem atI_head {α : Type} {l : List α} {x : α} (e : l.head? = some x) : atI l 0 = some x := by
  cases l with
  | nil => cases e
  | cons a l => cases e; simp
end EV

set_option Elab.async false
set_option linter.all false
set_option maxRecDepth 100000
set_option maxHeartbeats 1000000
namespace EV
open IR L2
theorem at0 (r : Rm) : r.at 0 = r.a := rfl
theorem at1 (r : Rm) : r.at 1 = r.b := rfl
theorem at2 (r : Rm) : r.at 2 = r.c := rfl
theorem at3 (r : Rm) : r.at 3 = r.d := rfl
theorem negbeq (x y : Int) : (-x == -y) = (x == y) := by rw [Bool.eq_iff_iff, beq_iff_eq, beq_iff_eq]; omega
theorem negbeq0 (x : Int) : (-x == 0) = (x == 0) := by rw [Bool.eq_iff_iff, beq_iff_eq, beq_iff_eq]; omega
structure SideFacts (w : Int) (p : List Rm) (S0 S1 S2 S3 : List (List Nat)) (n0 n1 n2 n3 : List Nat) : Prop where
  f1 : minL (p.map Rm.a) = some 0
  f2 : minL (p.map Rm.b) = some 0
  f3 : maxL (p.map Rm.c) = some w
  f4 : maxL (p.map Rm.d) = some w
  s0 : sideM p 0 0 = S0
  s1 : sideM p 1 0 = S1
  s2 : sideM p 2 w = S2
  s3 : sideM p 3 w = S3
  h0 : S1.head? = some n0
  h1 : S1.getLast? = some n1
  h2 : S3.getLast? = some n2
  h3 : S3.head? = some n3
  c0 : (roomsAt p 0 0).head? = some n0
  c1 : (roomsAt p w 0).head? = some n1
  c2 : (roomsAt p w w).head? = some n2
  c3 : (roomsAt p 0 w).head? = some n3
  m1 : minL ((sortR (p.map mirR)).map Rm.a) = some (-w)
  m2 : minL ((sortR (p.map mirR)).map Rm.b) = some 0
  m3 : maxL ((sortR (p.map mirR)).map Rm.c) = some 0
  m4 : maxL ((sortR (p.map mirR)).map Rm.d) = some w
  ms0 : sideM (sortR (p.map mirR)) 0 (-w) = S2
  ms1 : sideM (sortR (p.map mirR)) 1 0 = S1.reverse
  ms2 : sideM (sortR (p.map mirR)) 2 0 = S0
  ms3 : sideM (sortR (p.map mirR)) 3 w = S3.reverse
  t1 : minL ((sortR (p.map trnR)).map Rm.a) = some 0
  t2 : minL ((sortR (p.map trnR)).map Rm.b) = some 0
  t3 : maxL ((sortR (p.map trnR)).map Rm.c) = some w
  t4 : maxL ((sortR (p.map trnR)).map Rm.d) = some w
  ts0 : sideM (sortR (p.map trnR)) 0 0 = S1
  ts1 : sideM (sortR (p.map trnR)) 1 0 = S0
  ts2 : sideM (sortR (p.map trnR)) 2 w = S3
  ts3 : sideM (sortR (p.map trnR)) 3 w = S2
  u1 : minL ((sortR (p.map turR)).map Rm.a) = some (-w)
  u2 : minL ((sortR (p.map turR)).map Rm.b) = some 0
  u3 : maxL ((sortR (p.map turR)).map Rm.c) = some 0
  u4 : maxL ((sortR (p.map turR)).map Rm.d) = some w
  us0 : sideM (sortR (p.map turR)) 0 (-w) = S3
  us1 : sideM (sortR (p.map turR)) 1 0 = S0.reverse
  us2 : sideM (sortR (p.map turR)) 2 0 = S1
  us3 : sideM (sortR (p.map turR)) 3 w = S2.reverse
  uc0 : (roomsAt (sortR (p.map turR)) (-w) 0).head? = some n3
  uc1 : (roomsAt (sortR (p.map turR)) 0 0).head? = some n0
  uc2 : (roomsAt (sortR (p.map turR)) 0 w).head? = some n1
  uc3 : (roomsAt (sortR (p.map turR)) (-w) w).head? = some n2
theorem Tile.sides {w : Int} {p : List Rm} (t : Tile w p) : ∃ S0 S1 S2 S3 n0 n1 n2 n3, SideFacts w p S0 S1 S2 S3 n0 n1 n2 n3 := by
  obtain ⟨a, ma, a1, a2⟩ := t.ul
  obtain ⟨b, mb, b1, b2⟩ := t.ur
  obtain ⟨c, mc, c1, c2⟩ := t.lr
  obtain ⟨d, md, d1, d2⟩ := t.ll
  have ra := t.rng a ma
  have rb := t.rng b mb
  have rc := t.rng c mc
  have rd := t.rng d md
  obtain ⟨L0, p0, q0⟩ := t.chainY (fun r => r.a == 0) (fun r mr s ms h1 h2 => by have := t.rng r mr; have := t.rng s ms; simp at h1 h2; omega)
  obtain ⟨L1, p1, q1⟩ := t.chainX (fun r => r.b == 0) (fun r mr s ms h1 h2 => by have := t.rng r mr; have := t.rng s ms; simp at h1 h2; omega)
  obtain ⟨L2, p2, q2⟩ := t.chainY (fun r => r.c == w) (fun r mr s ms h1 h2 => by have := t.rng r mr; have := t.rng s ms; simp at h1 h2; omega)
  obtain ⟨L3, p3, q3⟩ := t.chainX (fun r => r.d == w) (fun r mr s ms h1 h2 => by have := t.rng r mr; have := t.rng s ms; simp at h1 h2; omega)
  have i0 : ∀ r ∈ L0, r ∈ p ∧ r.a = 0 := fun r m => by have := List.mem_filter.mp (p0.mem_iff.mp m); simpa using this
  have i1 : ∀ r ∈ L1, r ∈ p ∧ r.b = 0 := fun r m => by have := List.mem_filter.mp (p1.mem_iff.mp m); simpa using this
  have i2 : ∀ r ∈ L2, r ∈ p ∧ r.c = w := fun r m => by have := List.mem_filter.mp (p2.mem_iff.mp m); simpa using this
  have i3 : ∀ r ∈ L3, r ∈ p ∧ r.d = w := fun r m => by have := List.mem_filter.mp (p3.mem_iff.mp m); simpa using this
  have ia : a ∈ L1 := p1.mem_iff.mpr (List.mem_filter.mpr ⟨ma, by simp [a2]⟩)
  have ib : b ∈ L1 := p1.mem_iff.mpr (List.mem_filter.mpr ⟨mb, by simp [b2]⟩)
  have ic : c ∈ L3 := p3.mem_iff.mpr (List.mem_filter.mpr ⟨mc, by simp [c2]⟩)
  have id : d ∈ L3 := p3.mem_iff.mpr (List.mem_filter.mpr ⟨md, by simp [d2]⟩)
  -- strict keys along the chains
  have y0 : ∀ {L : List Rm}, (∀ r ∈ L, r ∈ p) → L.Pairwise Yc → L.Pairwise fun r s => r.b < s.b ∧ r.d < s.d := fun {L} hm h => h.imp_of_mem fun {r s} mr ms q => by
    have := t.rng r (hm r mr); have := t.rng s (hm s ms); unfold Yc at q; omega
  have x0 : ∀ {L : List Rm}, (∀ r ∈ L, r ∈ p) → L.Pairwise Xc → L.Pairwise fun r s => r.a < s.a ∧ r.c < s.c := fun {L} hm h => h.imp_of_mem fun {r s} mr ms q => by
    have := t.rng r (hm r mr); have := t.rng s (hm s ms); unfold Xc at q; omega
  have k0 := y0 (fun r m => (i0 r m).1) q0
  have k1 := x0 (fun r m => (i1 r m).1) q1
  have k2 := y0 (fun r m => (i2 r m).1) q2
  have k3 := x0 (fun r m => (i3 r m).1) q3
  have un : ∀ {r u : Rm}, r ∈ p → u ∈ p → (¬ Apart r u) → r = u := fun {r u} mr mu na => by
    by_cases e : r = u
    · exact e
    · exact absurd (t.apart mr mu e) na
  have up : ∀ {α : Type} {L : List Rm} {R : Rm → Rm → Prop}, L.Pairwise R → L.reverse.Pairwise fun r s => R s r := fun h => List.pairwise_reverse.mpr h
  refine ⟨L0.map Rm.n, L1.map Rm.n, L2.map Rm.n, L3.map Rm.n, a.n, b.n, c.n, d.n, ?_⟩
  constructor
  · exact minL_of (List.mem_map.mpr ⟨a, ma, a1⟩) fun x m => by obtain ⟨r, mr, rfl⟩ := List.mem_map.mp m; have := t.rng r mr; omega
  · exact minL_of (List.mem_map.mpr ⟨a, ma, a2⟩) fun x m => by obtain ⟨r, mr, rfl⟩ := List.mem_map.mp m; have := t.rng r mr; omega
  · exact maxL_of (List.mem_map.mpr ⟨c, mc, c1⟩) fun x m => by obtain ⟨r, mr, rfl⟩ := List.mem_map.mp m; have := t.rng r mr; omega
  · exact maxL_of (List.mem_map.mpr ⟨c, mc, c2⟩) fun x m => by obtain ⟨r, mr, rfl⟩ := List.mem_map.mp m; have := t.rng r mr; omega
  · exact sideM_of p0.symm (k0.imp fun h => h.1)
  · exact sideM_of p1.symm (k1.imp fun h => h.1)
  · exact sideM_of p2.symm (k2.imp fun h => h.1)
  · exact sideM_of p3.symm (k3.imp fun h => h.1)
  · exact chain_first q1 ia fun r mr q => by have := t.rng r (i1 r mr).1; unfold Xc at q; omega
  · exact chain_last q1 ib fun r mr q => by have := t.rng r (i1 r mr).1; unfold Xc at q; omega
  · exact chain_last q3 ic fun r mr q => by have := t.rng r (i3 r mr).1; unfold Xc at q; omega
  · exact chain_first q3 id fun r mr q => by have := t.rng r (i3 r mr).1; unfold Xc at q; omega
  · exact head_of ma (by simp [Rm.has]; omega) fun r mr hr => by have := t.rng r mr; simp [Rm.has] at hr; rw [un mr ma (by unfold Apart; omega)]
  · exact head_of mb (by simp [Rm.has]; omega) fun r mr hr => by have := t.rng r mr; simp [Rm.has] at hr; rw [un mr mb (by unfold Apart; omega)]
  · exact head_of mc (by simp [Rm.has]; omega) fun r mr hr => by have := t.rng r mr; simp [Rm.has] at hr; rw [un mr mc (by unfold Apart; omega)]
  · exact head_of md (by simp [Rm.has]; omega) fun r mr hr => by have := t.rng r mr; simp [Rm.has] at hr; rw [un mr md (by unfold Apart; omega)]
  · exact minL_map ⟨b, mb, by simp [mirR]; omega⟩ fun r mr => by have := t.rng r mr; simp [mirR]; omega
  · exact minL_map ⟨b, mb, by simp [mirR]; omega⟩ fun r mr => by have := t.rng r mr; simp [mirR]; omega
  · exact maxL_map ⟨a, ma, by simp [mirR]; omega⟩ fun r mr => by have := t.rng r mr; simp [mirR]; omega
  · exact maxL_map ⟨d, md, by simp [mirR]; omega⟩ fun r mr => by have := t.rng r mr; simp [mirR]; omega
  · exact sideM_map (c := fun r => r.c == w) (fun r => by simp [at0, mirR, negbeq, negbeq0]) (fun r => rfl) p2 (k2.imp fun h => h.1)
  · rw [← List.map_reverse]
    exact sideM_map (c := fun r => r.b == 0) (fun r => by simp [at1, mirR, negbeq, negbeq0]) (fun r => rfl) (L1.reverse_perm.trans p1) ((List.pairwise_reverse.mpr k1).imp fun h => by simp [Rm.key, mirR]; omega)
  · exact sideM_map (c := fun r => r.a == 0) (fun r => by simp [at2, mirR, negbeq, negbeq0]) (fun r => rfl) p0 (k0.imp fun h => h.1)
  · rw [← List.map_reverse]
    exact sideM_map (c := fun r => r.d == w) (fun r => by simp [at3, mirR, negbeq, negbeq0]) (fun r => rfl) (L3.reverse_perm.trans p3) ((List.pairwise_reverse.mpr k3).imp fun h => by simp [Rm.key, mirR]; omega)
  · exact minL_map ⟨a, ma, by simp [trnR]; omega⟩ fun r mr => by have := t.rng r mr; simp [trnR]; omega
  · exact minL_map ⟨a, ma, by simp [trnR]; omega⟩ fun r mr => by have := t.rng r mr; simp [trnR]; omega
  · exact maxL_map ⟨c, mc, by simp [trnR]; omega⟩ fun r mr => by have := t.rng r mr; simp [trnR]; omega
  · exact maxL_map ⟨c, mc, by simp [trnR]; omega⟩ fun r mr => by have := t.rng r mr; simp [trnR]; omega
  · exact sideM_map (c := fun r => r.b == 0) (fun r => by simp [at0, trnR, negbeq, negbeq0]) (fun r => rfl) p1 (k1.imp fun h => h.1)
  · exact sideM_map (c := fun r => r.a == 0) (fun r => by simp [at1, trnR, negbeq, negbeq0]) (fun r => rfl) p0 (k0.imp fun h => h.1)
  · exact sideM_map (c := fun r => r.d == w) (fun r => by simp [at2, trnR, negbeq, negbeq0]) (fun r => rfl) p3 (k3.imp fun h => h.1)
  · exact sideM_map (c := fun r => r.c == w) (fun r => by simp [at3, trnR, negbeq, negbeq0]) (fun r => rfl) p2 (k2.imp fun h => h.1)
  · exact minL_map ⟨c, mc, by simp [turR]; omega⟩ fun r mr => by have := t.rng r mr; simp [turR]; omega
  · exact minL_map ⟨a, ma, by simp [turR]; omega⟩ fun r mr => by have := t.rng r mr; simp [turR]; omega
  · exact maxL_map ⟨a, ma, by simp [turR]; omega⟩ fun r mr => by have := t.rng r mr; simp [turR]; omega
  · exact maxL_map ⟨c, mc, by simp [turR]; omega⟩ fun r mr => by have := t.rng r mr; simp [turR]; omega
  · exact sideM_map (c := fun r => r.d == w) (fun r => by simp [at0, turR, negbeq, negbeq0]) (fun r => rfl) p3 (k3.imp fun h => h.1)
  · rw [← List.map_reverse]
    exact sideM_map (c := fun r => r.a == 0) (fun r => by simp [at1, turR, negbeq, negbeq0]) (fun r => rfl) (L0.reverse_perm.trans p0) ((List.pairwise_reverse.mpr k0).imp fun h => by simp [Rm.key, turR]; omega)
  · exact sideM_map (c := fun r => r.b == 0) (fun r => by simp [at2, turR, negbeq, negbeq0]) (fun r => rfl) p1 (k1.imp fun h => h.1)
  · rw [← List.map_reverse]
    exact sideM_map (c := fun r => r.c == w) (fun r => by simp [at3, turR, negbeq, negbeq0]) (fun r => rfl) (L2.reverse_perm.trans p2) ((List.pairwise_reverse.mpr k2).imp fun h => by simp [Rm.key, turR]; omega)
  · exact head_map md (fun r => rfl) (by simp only [Rm.has, Bool.and_eq_true, decide_eq_true_eq]; simp only [turR]; omega) fun r mr hr => by have := t.rng r mr; simp only [Rm.has, Bool.and_eq_true, decide_eq_true_eq] at hr; simp only [turR] at hr; exact un mr md (by unfold Apart; omega)
  · exact head_map ma (fun r => rfl) (by simp only [Rm.has, Bool.and_eq_true, decide_eq_true_eq]; simp only [turR]; omega) fun r mr hr => by have := t.rng r mr; simp only [Rm.has, Bool.and_eq_true, decide_eq_true_eq] at hr; simp only [turR] at hr; exact un mr ma (by unfold Apart; omega)
  · exact head_map mb (fun r => rfl) (by simp only [Rm.has, Bool.and_eq_true, decide_eq_true_eq]; simp only [turR]; omega) fun r mr hr => by have := t.rng r mr; simp only [Rm.has, Bool.and_eq_true, decide_eq_true_eq] at hr; simp only [turR] at hr; exact un mr mb (by unfold Apart; omega)
  · exact head_map mc (fun r => rfl) (by simp only [Rm.has, Bool.and_eq_true, decide_eq_true_eq]; simp only [turR]; omega) fun r mr hr => by have := t.rng r mr; simp only [Rm.has, Bool.and_eq_true, decide_eq_true_eq] at hr; simp only [turR] at hr; exact un mr mc (by unfold Apart; omega)
end EV

set_option Elab.async false
set_option linter.all false
set_option maxRecDepth 100000
set_option maxHeartbeats 1000000
namespace EV
open IR L2
/-! ### walking a list of the heap that stays -/
theorem compR_map {f : AV → AH → Rs (Option AV)} {sr : Src} {h : AH} {xs : List AV} {g : AV → AV} (hs : ∀ i, srcGet h sr i = some xs[i]?) (hf : ∀ x ∈ xs, f x h = .ok (some (g x)) h) :
    ∀ (k i : Nat), xs.length < k + i → 0 < k → compR f sr k i h = .ok ((xs.drop i).map g) h
  | 0, i, _, hk => by omega
  | k + 1, i, hl, _ => by
    unfold compR
    rw [hs i]
    cases e : xs[i]? with
    | none =>
      have : xs.length ≤ i := List.getElem?_eq_none_iff.mp e
      simp [List.drop_eq_nil_of_le this]
    | some x =>
      obtain ⟨hi, hx⟩ := List.getElem?_eq_some_iff.mp e
      have ih := compR_map hs hf k (i + 1) (by omega) (by omega)
      simp only [hf x (hx ▸ List.getElem_mem hi), Rs.bind_ok, ih, cns_some]
      rw [List.drop_eq_getElem_cons hi, List.map_cons, hx]
theorem evC_map {f : AV → AH → Rs (Option AV)} {sr : Src} {h : AH} {xs : List AV} {g : AV → AV} (hst : ∀ ys, sr ≠ .st ys) (hs : ∀ i, srcGet h sr i = some xs[i]?) (hl : srcLen h sr = some xs.length) (hz : xs.length < 16777216) (hf : ∀ x ∈ xs, f x h = .ok (some (g x)) h) : evC f sr h = .ok (xs.map g) h := by
  have e : evC f sr h = (match srcLen h sr with | some n => if n < SZ then compR f sr (n + 1) 0 h else .bad | none => .bad) := by
    cases sr with
    | st ys => exact absurd rfl (hst ys)
    | _ => rfl
  rw [e, hl]
  simp only
  rw [if_pos hz, compR_map hs hf _ 0 (by omega) (by omega)]
  rfl
/-- a list of the heap is the same as what it holds -/
theorem same_ref {T : Tab} (hT : T.lookup c__law_same = some i__law_same) {h : AH} (hh : hOk h) {n : Nat} {l : List AV} (e : h[n]? = some (.lst l)) {d m : Nat} (hd : d ≤ 40) (hl : l.length ≤ 1000000) (hg : ∀ x ∈ l, gv d x = true) (hm : d + 2 ≤ m) : callV (callN T m) c__law_same [.ref n, .lst l] h = .ok (.bl true) h := by
  have bl : bfO h .len [.ref n] = some (.int l.length) := by
    show (itemsOf h (.ref n)).map _ = _
    rw [itemsOf_ref h e]; rfl
  have zp : srcZp h [.ref n, .lst l] = some (.zp (.rf n) (.st l)) := by
    simp [srcZp, toD1, e]
  have ev := evC_map (f := fun x h2 => (cBody (callN T (m - 1)) [3, 4] (.tp (.cons (.nm 3) (.cons (.nm 4) .nil))) (.tst (.cst (.bl true))) (.call c__law_same (.cons (.var 3) (.cons (.var 4) .nil))) [some (.ref n), some (.lst l), none, none, none] x h2).nox) (sr := .zp (.rf n) (.st l)) (h := h) (xs := zipL l l) (g := fun _ => .bl true) (fun ys z => by cases z) (fun i => by
      simp only [srcGet, d1get, lstOf_ref h e, zipL_get]) (by
      simp [srcLen, d1get, lstOf_ref h e, zipL_self]) (by rw [zipL_self]; simp; omega) fun x hx => by
    rw [zipL_self] at hx
    obtain ⟨y, my, rfl⟩ := List.mem_map.mp hx
    simp [cBody, same_ok hT hh d y hd (hg y my) (m - 1) (by omega)]
  have zz : (zipL l l).map (fun _ => AV.bl true) = l.map fun _ => .bl true := by rw [zipL_self, List.map_map]; rfl
  rw [zz] at ev
  rw [callV_eq (by omega) hT (v := .bl true) (h1 := h), shut_same hh rfl]
  simp [i__law_same, isTy, bl, zp, ev, blsOf_true]
theorem hOk_app_iff {h g : AH} : hOk (h ++ g) ↔ hOk h ∧ hOk g := ⟨fun x => ⟨fun o m => x o (List.mem_append_left _ m), fun o m => x o (List.mem_append_right _ m)⟩, fun ⟨a, b⟩ => hOk_app a b⟩
theorem hOk_cons_iff {o : AObj} {g : AH} : hOk (o :: g) ↔ okO o = true ∧ hOk g := by simp [hOk]
theorem lst_app0 (h g : AH) (l : List AV) : lstOf (h ++ .lst l :: g) (.ref h.length) = some l := lstOf_ref _ (by simp)
theorem lst_app1 (h g : AH) (o : AObj) (l : List AV) : lstOf (h ++ o :: .lst l :: g) (.ref (h.length + 1)) = some l := lstOf_ref _ (by simp)
theorem lst_app2 (h g : AH) (o o2 : AObj) (l : List AV) : lstOf (h ++ o :: o2 :: .lst l :: g) (.ref (h.length + 2)) = some l := lstOf_ref _ (by simp)
theorem lst_app3 (h g : AH) (o o2 o3 : AObj) (l : List AV) : lstOf (h ++ o :: o2 :: o3 :: .lst l :: g) (.ref (h.length + 3)) = some l := lstOf_ref _ (by simp)
theorem set_app0 (h g : AH) (o x : AObj) : (h ++ o :: g).set h.length x = h ++ x :: g := by simp
theorem set_app1 (h g : AH) (o o2 x : AObj) : (h ++ o :: o2 :: g).set (h.length + 1) x = h ++ o :: x :: g := by simp
theorem set_app2 (h g : AH) (o o2 o3 x : AObj) : (h ++ o :: o2 :: o3 :: g).set (h.length + 2) x = h ++ o :: o2 :: x :: g := by simp
theorem set_app3 (h g : AH) (o o2 o3 o4 x : AObj) : (h ++ o :: o2 :: o3 :: o4 :: g).set (h.length + 3) x = h ++ o :: o2 :: o3 :: x :: g := by simp
theorem bin_add_ref (h : AH) (n : Nat) (b : AV) : binO h .add (.ref n) b = catO h (.ref n) b := by cases b <;> rfl
theorem bin_add_lst (h : AH) (l : List AV) (b : AV) : binO h .add (.lst l) b = catO h (.lst l) b := by cases b <;> rfl
theorem idx_ref {h : AH} {n : Nat} {l : List AV} (e : lstOf h (.ref n) = some l) (i : Int) : idxO h (.ref n) i = atI l i := by
  have : itemsOf h (.ref n) = lstOf h (.ref n) := rfl
  show (match itemsOf h (.ref n) with | some l => atI l i | none => none) = _
  rw [this, e]
theorem idx_app0 (h g : AH) (l : List AV) (i : Int) : idxO (h ++ .lst l :: g) (.ref h.length) i = atI l i := idx_ref (lst_app0 h g l) i
theorem lst_ref3 (h g : AH) (o o2 o3 : AObj) (l : List AV) : (h ++ o :: o2 :: o3 :: .lst l :: g)[h.length + 3]? = some (.lst l) := by simp
theorem sideM_len (p : List Rm) (k : Nat) (v : Int) : (sideM p k v).length ≤ p.length := by
  unfold sideM
  rw [List.length_map, sortBy_len, List.length_map]
  exact List.length_filter_le _ _
structure HasCase (T : Tab) : Prop where
  frame : T.lookup c_frame = some i_frame
  at_ : T.lookup c_rooms_at = some i_rooms_at
  corner : T.lookup c_corner_rooms = some i_corner_rooms
  side : T.lookup c_side_rooms = some i_side_rooms
  made : T.lookup c_made = some i_made
  mir : T.lookup c_mirrored = some i_mirrored
  trn : T.lookup c_transposed = some i_transposed
  tur : T.lookup c_turned = some i_turned
  lists : T.lookup c__law_lists = some i__law_lists
  same : T.lookup c__law_same = some i__law_same
  sides : T.lookup c__law_sides = some i__law_sides
  case : T.lookup c__law_case_right = some i__law_case_right
theorem lists_plan {T : Tab} (hT : T.lookup c__law_lists = some i__law_lists) {h : AH} (hh : hOk h) {m : Nat} (hm : 3 ≤ m) (p : List Rm) (hl : p.length ≤ 1000) : callV (callN T m) c__law_lists [planV p] h = .ok (planQ true p) h := by
  have hz : p.length ≤ 1000000 := by omega
  rw [lists_ok hT hh 2 (planV p) (by omega) (by simp [planV, gv, hz]) m (by omega)]
  simp [planV, planQ, lsN, sq, Rm.q, Function.comp]
theorem case_ok {T : Tab} (C : HasCase T) {h : AH} (hh : hOk h) {m : Nat} (hm : 8 ≤ m) {w : Int} {p : List Rm} (t : Tile w p) : callV (callN T m) c__law_case_right [planV p] h = .ok (.bl true) h := by
  have hl : p.length ≤ 1000 := Nat.le_trans t.len (by omega)
  have hpl : ∀ f : Rm → Rm, (sortR (p.map f)).length ≤ 1000 := fun f => by rw [(sortR_perm _).length_eq, List.length_map]; exact hl
  obtain ⟨S0, S1, S2, S3, n0, n1, n2, n3, F⟩ := t.sides
  have e1 : ∀ g, hOk g → callV (callN T (m - 1)) c__law_sides [planV p] g = .ok (.tup [namesV S0, namesV S1, namesV S2, namesV S3]) g := fun g hg => by
    rw [lawSide_ok C.sides hg (by omega) hl F.f1 F.f2 F.f3 F.f4, F.s0, F.s1, F.s2, F.s3]
  have e2 : ∀ q g, hOk g → callV (callN T (m - 1)) c_side_rooms [planQ q p] g = .ok (.tup [namesV S0, namesV S1, namesV S2, namesV S3]) g := fun q g hg => by
    rw [side_ok C.frame C.side hg (by omega) q hl F.f1 F.f2 F.f3 F.f4, F.s0, F.s1, F.s2, F.s3]
  have e3 : ∀ q g, hOk g → callV (callN T (m - 1)) c_corner_rooms [planQ q p] g = .ok (.tup [.str n0, .str n1, .str n2, .str n3]) g := fun q g hg => corner_ok C.frame C.at_ C.corner hg (by omega) q hl F.f1 F.f2 F.f3 F.f4 F.c0 F.c1 F.c2 F.c3
  have e4 : ∀ g, hOk g → callV (callN T (m - 1)) c_side_rooms [planV (sortR (p.map mirR))] g = .ok (.tup [namesV S2, namesV S1.reverse, namesV S0, namesV S3.reverse]) g := fun g hg => by
    rw [← planQ_false, side_ok C.frame C.side hg (by omega) false (hpl _) F.m1 F.m2 F.m3 F.m4, F.ms0, F.ms1, F.ms2, F.ms3]
  have e5 : ∀ g, hOk g → callV (callN T (m - 1)) c_side_rooms [planV (sortR (p.map trnR))] g = .ok (.tup [namesV S1, namesV S0, namesV S3, namesV S2]) g := fun g hg => by
    rw [← planQ_false, side_ok C.frame C.side hg (by omega) false (hpl _) F.t1 F.t2 F.t3 F.t4, F.ts0, F.ts1, F.ts2, F.ts3]
  have e6 : ∀ g, hOk g → callV (callN T (m - 1)) c_side_rooms [planV (sortR (p.map turR))] g = .ok (.tup [namesV S3, namesV S0.reverse, namesV S1, namesV S2.reverse]) g := fun g hg => by
    rw [← planQ_false, side_ok C.frame C.side hg (by omega) false (hpl _) F.u1 F.u2 F.u3 F.u4, F.us0, F.us1, F.us2, F.us3]
  have e7 : ∀ g, hOk g → callV (callN T (m - 1)) c_corner_rooms [planV (sortR (p.map turR))] g = .ok (.tup [.str n3, .str n0, .str n1, .str n2]) g := fun g hg => by
    rw [← planQ_false]
    exact corner_ok C.frame C.at_ C.corner hg (by omega) false (hpl _) F.u1 F.u2 F.u3 F.u4 F.uc0 F.uc1 F.uc2 F.uc3
  have e8 : ∀ g, hOk g → callV (callN T (m - 1)) c_mirrored [planV p] g = .ok (planV (sortR (p.map mirR))) g := fun g hg => mirrored_ok C.made C.mir hg (by omega) false p hl
  have e9 : ∀ g, hOk g → callV (callN T (m - 1)) c_transposed [planV p] g = .ok (planV (sortR (p.map trnR))) g := fun g hg => transposed_ok C.made C.trn hg (by omega) false p hl
  have e10 : ∀ g, hOk g → callV (callN T (m - 1)) c_turned [planV p] g = .ok (planV (sortR (p.map turR))) g := fun g hg => turned_ok C.made C.tur hg (by omega) false p hl
  have e11 : ∀ g, hOk g → callV (callN T (m - 1)) c__law_lists [planV p] g = .ok (planQ true p) g := fun g hg => lists_plan C.lists hg (by omega) p hl
  have e2' := e2 false
  have e3' := e3 false
  rw [planQ_false] at e2' e3'
  have a1 : atI (S1.map AV.str) 0 = some (.str n0) := atI_head (by rw [List.head?_map, F.h0]; rfl)
  have a2 : atI (S1.map AV.str) (-1) = some (.str n1) := atI_last (by rw [List.getLast?_map, F.h1]; rfl)
  have a3 : atI (S3.map AV.str) (-1) = some (.str n2) := atI_last (by rw [List.getLast?_map, F.h2]; rfl)
  have a4 : atI (S3.map AV.str) 0 = some (.str n3) := atI_head (by rw [List.head?_map, F.h3]; rfl)
  have w : wp (callV (callN T m) c__law_case_right [planV p] h) fun v h' => v = .bl true ∧ h' = h := by
    refine callV_wp (by omega) C.case ?_
    simp [i__law_case_right, e1, e2, e2', e3, e3', e4, e5, e6, e7, e8, e9, e10, e11, hh, hOk_app_iff, hOk_cons_iff, hOk_nil, okO, pv, a1, a2, a3, a4, namesV, lst_app0, lst_app1, lst_app2, lst_app3, set_app0, set_app1, set_app2, set_app3, bin_add_ref, bin_add_lst, catO, revO, cutL, HT.sIx, idx_app0]
    refine wp_mono (P := fun v h' => v = .bl true ∧ ∃ ex, h' = h ++ ex) ?_ fun v h' ⟨hv, ex, e⟩ => ?_
    · rw [same_ref C.same (d := 3) (hOk_app hh ?_) (lst_ref3 _ _ _ _ _ _) (by omega) (by simp) ?_ (by omega), wp_ok]
      · exact ⟨rfl, _, rfl⟩
      · simp [hOk_cons_iff, hOk_nil, okO, pv]
      · have l0 : S0.length ≤ 1000000 := by rw [← F.s0]; exact Nat.le_trans (sideM_len _ _ _) (by omega)
        have l1 : S1.length ≤ 1000000 := by rw [← F.s1]; exact Nat.le_trans (sideM_len _ _ _) (by omega)
        have l2 : S2.length ≤ 1000000 := by rw [← F.s2]; exact Nat.le_trans (sideM_len _ _ _) (by omega)
        have l3 : S3.length ≤ 1000000 := by rw [← F.s3]; exact Nat.le_trans (sideM_len _ _ _) (by omega)
        simp [gv, l0, l1, l2, l3]
    · subst hv e
      rw [wf_rt, shut_ch rfl hh rfl]
      exact ⟨rfl, rfl⟩
  obtain ⟨v, h1, e, rfl, rfl⟩ := wp_iff.mp w
  exact e
end EV

set_option linter.all false
set_option maxRecDepth 100000
namespace IR1
open EV IR
def c_tupled : Nat := 200830890934523175116467769573477
def c_size : Nat := 160414972599381721190
def c_names : Nat := 171016782330632270028079220
def c_check_names : Nat := 294638116318566626781720401392457461021137810274518512733388916
def c_room_of : Nat := 219923344782968680357011099736446337127
def c_areas_of : Nat := 208799039793146107479980291226961296728522855
def c__law_area : Nat := 227878048532233072623626241306875683758983168262242
def c__law_heard : Nat := 253881668406343253006853478954896666599693187374710456421
def i_tupled : IFn := ⟨1, 2, (.ret (.ife (.tst (.isi (.var 0) [.list, .tuple])) (.blt .tuple (.cons (.comp [1] (.nm 1) (.iPl (.var 0)) (.tst (.cst (.bl true))) (.call c_tupled (.cons (.var 1) .nil))) .nil)) (.var 0)))⟩
def i_size : IFn := ⟨1, 1, (.ret (.bin .mul (.bin .sub (.idx (.var 0) (.cst (.int 3))) (.idx (.var 0) (.cst (.int 1)))) (.bin .sub (.idx (.var 0) (.cst (.int 4))) (.idx (.var 0) (.cst (.int 2))))))⟩
def i_names : IFn := ⟨1, 2, (.ret (.blt .tuple (.cons (.comp [1] (.nm 1) (.iPl (.var 0)) (.tst (.cst (.bl true))) (.idx (.var 1) (.cst (.int 0)))) .nil)))⟩
def i_check_names : IFn := ⟨2, 4, (.seq (.set 2 (.call c_names (.cons (.var 0) .nil)))
    (.for_ (.nm 3) (.iPl (.var 1)) (.ife (.tst (.cmp .nin (.var 3) (.var 2))) (.rais [78, 111, 78, 97, 109, 101] [110, 97, 109, 101] (.cons (.var 3) .nil)) .skip)))⟩
def i_room_of : IFn := ⟨2, 3, (.seq (.expr (.call c_check_names (.cons (.var 0) (.cons (.tup (.cons (.var 1) .nil)) .nil))))
    (.ret (.call c_tupled (.cons (.idx (.comp [2] (.nm 2) (.iPl (.var 0)) (.tst (.cmp .eq (.idx (.var 2) (.cst (.int 0))) (.var 1))) (.var 2)) (.cst (.int 0))) .nil))))⟩
def i_areas_of : IFn := ⟨1, 2, (.ret (.blt .tuple (.cons (.comp [1] (.nm 1) (.iPl (.var 0)) (.tst (.cst (.bl true))) (.tup (.cons (.idx (.var 1) (.cst (.int 0))) (.cons (.call c_size (.cons (.var 1) .nil)) .nil)))) .nil)))⟩
def i__law_area : IFn := ⟨1, 1, (.ret (.bin .mul (.bin .sub (.idx (.var 0) (.cst (.int 3))) (.idx (.var 0) (.cst (.int 1)))) (.bin .sub (.idx (.var 0) (.cst (.int 4))) (.idx (.var 0) (.cst (.int 2))))))⟩
def i__law_heard : IFn := ⟨2, 5, (.seq (.tset (.tp (.cons (.nm 2) (.cons (.nm 3) .nil))) (.tup (.cons (.cst .non) (.cons (.cst .non) .nil))))
    (.seq (.tryk (.set 3 (.call c_room_of (.perm [1, 0] (.cons (.var 1) (.cons (.var 0) .nil))))) [78, 111, 78, 97, 109, 101] [] 4 2)
    (.seq (.ife (.tst (.cmp .isn (.var 2) (.cst .non))) (.ret (.var 3)) .skip)
    (.ret (.lst (.cons (.cst (.str [110, 111, 110, 101])) (.cons (.atr (.var 2) [110, 97, 109, 101] [[78, 111, 78, 97, 109, 101]]) (.cons (.isx (.var 2) [[78, 111, 78, 97, 109, 101]] []) (.cons (.isx (.var 2) [] [[78, 111, 78, 97, 109, 101]]) .nil)))))))))⟩
def i__law_right : IFn := ⟨1, 13, (.seq (.for_ (.nm 1) (.iRg1 (.cons (.cst (.int 10)) .nil)) (.seq (.set 2 (.call c__law_flat (.cons (.var 0) (.cons (.cst (.int 9)) (.cons (.cst (.int 4)) .nil)))))
    (.seq (.tset (.tp (.cons (.nm 7) (.cons (.nm 8) .nil))) (.tup (.cons (.call c__law_lists (.cons (.var 2) .nil)) (.cons (.comp [11] (.nm 11) (.iPl (.var 2)) (.tst (.cst (.bl true))) (.idx (.var 11) (.cst (.int 0)))) .nil))))
    (.seq (.set 3 (.lst (.cons (.blt .max (.cons (.comp [11] (.nm 11) (.iPl (.var 2)) (.tst (.cst (.bl true))) (.idx (.var 11) (.cst (.int 3)))) .nil)) (.cons (.blt .max (.cons (.comp [11] (.nm 11) (.iPl (.var 2)) (.tst (.cst (.bl true))) (.idx (.var 11) (.cst (.int 4)))) .nil)) .nil))))
    (.seq (.set 4 (.mut (.lst (.cons (.call c_frame (.cons (.var 2) .nil)) (.cons (.call c_names (.cons (.var 7) .nil)) (.cons (.call c_areas_of (.cons (.var 2) .nil)) (.cons (.comp [12] (.nm 12) (.iPl (.var 8)) (.tst (.cst (.bl true))) (.call c_room_of (.cons (.var 7) (.cons (.var 12) .nil)))) (.cons (.call c__law_heard (.cons (.var 2) (.cons (.cst (.str [113, 113])) .nil))) .nil))))))))
    (.seq (.set 5 (.mut (.lst (.cons (.bin .add (.tup (.cons (.cst (.int 0)) (.cons (.cst (.int 0)) .nil))) (.blt .tuple (.cons (.var 3) .nil))) (.cons (.blt .tuple (.cons (.var 8) .nil)) (.cons (.blt .tuple (.cons (.comp [11] (.nm 11) (.iPl (.var 2)) (.tst (.cst (.bl true))) (.tup (.cons (.idx (.var 11) (.cst (.int 0))) (.cons (.call c__law_area (.cons (.var 11) .nil)) .nil)))) .nil)) (.cons (.blt .list (.cons (.var 2) .nil)) .nil)))))))
    (.seq (.expr (.app (.var 5) (.lst (.cons (.cst (.str [110, 111, 110, 101])) (.cons (.cst (.str [113, 113])) (.cons (.cst (.bl true)) (.cons (.cst (.bl false)) .nil)))))))
    (.seq (.for_ (.nm 6) (.iRg1 (.cons (.cst (.int 8)) .nil)) (.seq (.tset (.tp (.cons (.nm 9) (.cons (.nm 10) .nil))) (.tup (.cons (.bin .sub (.call c__law_take (.cons (.var 0) (.cons (.bin .add (.idx (.var 3) (.cst (.int 0))) (.cst (.int 3))) .nil))) (.cst (.int 1))) (.cons (.bin .sub (.call c__law_take (.cons (.var 0) (.cons (.bin .add (.idx (.var 3) (.cst (.int 1))) (.cst (.int 3))) .nil))) (.cst (.int 1))) .nil))))
    (.seq (.expr (.app (.var 4) (.call c_rooms_at (.cons (.var 2) (.cons (.var 9) (.cons (.var 10) .nil))))))
    (.expr (.app (.var 5) (.blt .tuple (.cons (.comp [11] (.nm 11) (.iPl (.var 2)) (.and (.tst (.chn .le .le (.idx (.var 11) (.cst (.int 1))) (.var 9) (.idx (.var 11) (.cst (.int 3))))) (.tst (.chn .le .le (.idx (.var 11) (.cst (.int 2))) (.var 10) (.idx (.var 11) (.cst (.int 4)))))) (.idx (.var 11) (.cst (.int 0)))) .nil)))))))
    (.ife (.nt (.tst (.call c__law_same (.cons (.bin .add (.var 4) (.lst (.cons (.var 7) .nil))) (.cons (.bin .add (.var 5) (.lst (.cons (.call c__law_lists (.cons (.var 2) .nil)) .nil))) .nil))))) (.ret (.cst (.bl false))) .skip)))))))))
    (.ret (.cst (.bl true))))⟩
end IR1

set_option Elab.async false
set_option linter.all false
set_option maxRecDepth 100000
set_option maxHeartbeats 1000000
namespace EV
open IR L2
structure Has01 (T : Tab) : Prop where
  tupled : T.lookup IR1.c_tupled = some IR1.i_tupled
  size : T.lookup IR1.c_size = some IR1.i_size
  names : T.lookup IR1.c_names = some IR1.i_names
  check : T.lookup IR1.c_check_names = some IR1.i_check_names
  room : T.lookup IR1.c_room_of = some IR1.i_room_of
  areas : T.lookup IR1.c_areas_of = some IR1.i_areas_of
  area : T.lookup IR1.c__law_area = some IR1.i__law_area
  heard : T.lookup IR1.c__law_heard = some IR1.i__law_heard
  frame : T.lookup c_frame = some i_frame
  at_ : T.lookup c_rooms_at = some i_rooms_at
  same : T.lookup c__law_same = some i__law_same
  lists : T.lookup c__law_lists = some i__law_lists
section
variable {T : Tab} {h : AH} {m : Nat}
theorem size_ok (C : Has01 T) (hh : hOk h) (hm : 1 ≤ m) (q : Bool) (r : Rm) (hb : mulOk (r.c - r.a) (r.d - r.b) = true) : callV (callN T m) IR1.c_size [r.q q] h = .ok (.int ((r.c - r.a) * (r.d - r.b))) h := by
  have w : wp (callV (callN T m) IR1.c_size [r.q q] h) fun v h' => v = .int ((r.c - r.a) * (r.d - r.b)) ∧ h' = h := by
    refine callV_wp hm C.size ?_
    simp [IR1.i_size, hb]
    rw [shut_same hh rfl]; exact ⟨rfl, rfl⟩
  obtain ⟨v, h1, e, rfl, rfl⟩ := wp_iff.mp w
  exact e
theorem area_ok (C : Has01 T) (hh : hOk h) (hm : 1 ≤ m) (q : Bool) (r : Rm) (hb : mulOk (r.c - r.a) (r.d - r.b) = true) : callV (callN T m) IR1.c__law_area [r.q q] h = .ok (.int ((r.c - r.a) * (r.d - r.b))) h := by
  have w : wp (callV (callN T m) IR1.c__law_area [r.q q] h) fun v h' => v = .int ((r.c - r.a) * (r.d - r.b)) ∧ h' = h := by
    refine callV_wp hm C.area ?_
    simp [IR1.i__law_area, hb]
    rw [shut_same hh rfl]; exact ⟨rfl, rfl⟩
  obtain ⟨v, h1, e, rfl, rfl⟩ := wp_iff.mp w
  exact e
theorem names_ok (C : Has01 T) (hh : hOk h) (hm : 1 ≤ m) (q : Bool) {p : List Rm} (hl : p.length ≤ 1000) : callV (callN T m) IR1.c_names [planQ q p] h = .ok (namesV (p.map Rm.n)) h := by
  have w : wp (callV (callN T m) IR1.c_names [planQ q p] h) fun v h' => v = namesV (p.map Rm.n) ∧ h' = h := by
    have hz : p.length ≤ 16777216 := by omega
    refine callV_wp hm C.names ?_
    simp [IR1.i_names, hz]
    refine wp_comp_map (Rm.q q) (fun r => .str r.n) (fun x _ => by simp [cBody]) ?_
    have e : p.map (fun r => AV.str r.n) = (p.map Rm.n).map .str := by rw [List.map_map]; rfl
    have e2 : AV.tup (p.map (AV.str ∘ Rm.n)) = namesV (p.map Rm.n) := by unfold namesV; rw [List.map_map]
    simp [e]
    rw [e2, shut_same hh (names_pv _ 39)]; exact ⟨rfl, rfl⟩
  obtain ⟨v, h1, e, rfl, rfl⟩ := wp_iff.mp w
  exact e
theorem tupled_atom (C : Has01 T) (hh : hOk h) (hm : 1 ≤ m) {v : AV} (hv : gv 0 v = true) : callV (callN T m) IR1.c_tupled [v] h = .ok v h := by
  rw [callV_eq hm C.tupled (v := v) (h1 := h), shut_same hh (gv_pv' hv (by omega))]
  cases v <;> simp [gv] at hv <;> simp [IR1.i_tupled, isTy]
theorem tupled_ok (C : Has01 T) (hh : hOk h) (hm : 2 ≤ m) (q : Bool) (r : Rm) : callV (callN T m) IR1.c_tupled [r.q q] h = .ok r.v h := by
  have w : wp (callV (callN T m) IR1.c_tupled [r.q q] h) fun v h' => v = r.v ∧ h' = h := by
    refine callV_wp (by omega) C.tupled ?_
    have e : ∀ v, gv 0 v = true → callV (callN T (m - 1)) IR1.c_tupled [v] h = .ok v h := fun v hv => tupled_atom C hh (by omega) hv
    cases q <;> simp [IR1.i_tupled, isTy, Rm.q, sq, compL, cBody, e (.str r.n) rfl, e (.int r.a) rfl, e (.int r.b) rfl, e (.int r.c) rfl, e (.int r.d) rfl] <;> (rw [shut_same hh rfl]; exact ⟨rfl, rfl⟩)
  obtain ⟨v, h1, e, rfl, rfl⟩ := wp_iff.mp w
  exact e
theorem areas_ok (C : Has01 T) (hh : hOk h) (hm : 2 ≤ m) (q : Bool) {p : List Rm} (hl : p.length ≤ 1000) (hb : ∀ r ∈ p, mulOk (r.c - r.a) (r.d - r.b) = true) : callV (callN T m) IR1.c_areas_of [planQ q p] h = .ok (.tup (p.map fun r => .tup [.str r.n, .int ((r.c - r.a) * (r.d - r.b))])) h := by
  have w : wp (callV (callN T m) IR1.c_areas_of [planQ q p] h) fun v h' => v = .tup (p.map fun r => .tup [.str r.n, .int ((r.c - r.a) * (r.d - r.b))]) ∧ h' = h := by
    have hz : p.length ≤ 16777216 := by omega
    refine callV_wp (by omega) C.areas ?_
    simp [IR1.i_areas_of, hz]
    refine wp_comp_map (Rm.q q) (fun r => .tup [.str r.n, .int ((r.c - r.a) * (r.d - r.b))]) (fun x hx => by simp [cBody, size_ok C hh (show 1 ≤ m - 1 by omega) q x (hb x hx)]) ?_
    simp
    rw [shut_same hh (by simp [pv])]; exact ⟨rfl, rfl⟩
  obtain ⟨v, h1, e, rfl, rfl⟩ := wp_iff.mp w
  exact e
theorem inO_names {h : AH} {t : List Nat} {l : List (List Nat)} (ht : t.all (· < 1114112) = true) (hn : ∀ x ∈ l, x.all (· < 1114112) = true) : inO h (.str t) (namesV l) = some (l.contains t) := by
  rw [← mem_names (h := h) ht hn]
  unfold namesV
  cases t with
  | nil => rfl
  | cons a t => cases t <;> rfl
theorem check_ok (C : Has01 T) (hh : hOk h) (hm : 2 ≤ m) (q : Bool) {p : List Rm} (hl : p.length ≤ 1000) (hc : ∀ x ∈ p.map Rm.n, x.all (· < 1114112) = true) {t : List Nat} (ht : t ∈ p.map Rm.n) : callV (callN T m) IR1.c_check_names [planQ q p, .tup [.str t]] h = .ok .non h := by
  have w : wp (callV (callN T m) IR1.c_check_names [planQ q p, .tup [.str t]] h) fun v h' => v = .non ∧ h' = h := by
    have hin : inO h (.str t) (namesV (p.map Rm.n)) = some true := by rw [inO_names (hc t ht) hc, List.contains_iff_mem.mpr ht]
    refine callV_wp (by omega) C.check ?_
    simp [IR1.i_check_names, names_ok C hh (show 1 ≤ m - 1 by omega) q hl, forL, hin]
    rw [shut_same hh rfl]; exact ⟨rfl, rfl⟩
  obtain ⟨v, h1, e, rfl, rfl⟩ := wp_iff.mp w
  exact e
theorem filter_name {p : List Rm} (nd : (p.map Rm.n).Nodup) {r : Rm} (hr : r ∈ p) : p.filter (fun s => s.n == r.n) = [r] := by
  induction p with
  | nil => cases hr
  | cons x p ih =>
    rw [List.map_cons, List.nodup_cons] at nd
    rcases List.mem_cons.mp hr with rfl | hr
    · have : p.filter (fun s => s.n == r.n) = [] := by
        rw [List.filter_eq_nil_iff]
        intro s hs c
        exact nd.1 (by rw [← beq_iff_eq.mp c]; exact List.mem_map_of_mem hs)
      simp [this]
    · have ne : (x.n == r.n) = false := by
        rw [beq_eq_false_iff_ne]
        exact fun z => nd.1 (z ▸ List.mem_map_of_mem hr)
      rw [List.filter_cons, ne]
      exact ih nd.2 hr
/-- a name that is not there -/
theorem check_no (C : Has01 T) (hh : hOk h) (hm : 2 ≤ m) (q : Bool) {p : List Rm} (hl : p.length ≤ 1000) (hc : ∀ x ∈ p.map Rm.n, x.all (· < 1114112) = true) {t : List Nat} (htc : t.all (· < 1114112) = true) (ht : t ∉ p.map Rm.n) : callV (callN T m) IR1.c_check_names [planQ q p, .tup [.str t]] h = .ex 0 [.exc [78, 111, 78, 97, 109, 101] [110, 97, 109, 101] [.str t]] h := by
  have hin : inO h (.str t) (namesV (p.map Rm.n)) = some false := by
    rw [inO_names htc hc]
    have : (p.map Rm.n).contains t = false := by rw [Bool.eq_false_iff]; exact fun z => ht (List.contains_iff_mem.mp z)
    rw [this]
  unfold callV
  rw [callN_of (by omega) C.check]
  unfold runFn
  simp [IR1.i_check_names, names_ok C hh (show 1 ≤ m - 1 by omega) q hl, forL, hin, raisF, mkxO]
  rfl
theorem room_ok (C : Has01 T) (hh : hOk h) (hm : 3 ≤ m) (q : Bool) {p : List Rm} (hl : p.length ≤ 1000) (hc : ∀ x ∈ p.map Rm.n, x.all (· < 1114112) = true) (nd : (p.map Rm.n).Nodup) {r : Rm} (hr : r ∈ p) : callV (callN T m) IR1.c_room_of [planQ q p, .str r.n] h = .ok r.v h := by
  have w : wp (callV (callN T m) IR1.c_room_of [planQ q p, .str r.n] h) fun v h' => v = r.v ∧ h' = h := by
    refine callV_wp (by omega) C.room ?_
    have hz : p.length ≤ 16777216 := by omega
    have ht : r.n ∈ p.map Rm.n := List.mem_map_of_mem hr
    have hf : p.filter (fun s => s.n == r.n) = [r] := filter_name nd hr
    simp [IR1.i_room_of, check_ok C hh (show 2 ≤ m - 1 by omega) q hl hc ht, hz]
    refine wp_comp_filter (Rm.q q) (Rm.q q) (fun s => s.n == r.n) (fun s _ => ?_) ?_
    · by_cases c : s.n = r.n <;> simp [cBody, eqO, c]
    · rw [hf]
      simp [tupled_ok C hh (show 2 ≤ m - 1 by omega) q r]
      rw [shut_same hh rfl]; exact ⟨rfl, rfl⟩
  obtain ⟨v, h1, e, rfl, rfl⟩ := wp_iff.mp w
  exact e
theorem room_no (C : Has01 T) (hh : hOk h) (hm : 3 ≤ m) (q : Bool) {p : List Rm} (hl : p.length ≤ 1000) (hc : ∀ x ∈ p.map Rm.n, x.all (· < 1114112) = true) {t : List Nat} (htc : t.all (· < 1114112) = true) (ht : t ∉ p.map Rm.n) : callV (callN T m) IR1.c_room_of [planQ q p, .str t] h = .ex 0 [.exc [78, 111, 78, 97, 109, 101] [110, 97, 109, 101] [.str t]] h := by
  have e := check_no C hh (show 2 ≤ m - 1 by omega) q hl hc htc ht
  unfold callV
  rw [callN_of (by omega) C.room]
  unfold runFn
  simp [IR1.i_room_of, e]
  rfl
theorem heard_no (C : Has01 T) (hh : hOk h) (hm : 4 ≤ m) (q : Bool) {p : List Rm} (hl : p.length ≤ 1000) (hc : ∀ x ∈ p.map Rm.n, x.all (· < 1114112) = true) {t : List Nat} (htc : t.all (· < 1114112) = true) (ht : t ∉ p.map Rm.n) :
    callV (callN T m) IR1.c__law_heard [planQ q p, .str t] h = .ok (.lst [.str [110, 111, 110, 101], .str t, .bl true, .bl false]) h := by
  have w : wp (callV (callN T m) IR1.c__law_heard [planQ q p, .str t] h) fun v h' => v = .lst [.str [110, 111, 110, 101], .str t, .bl true, .bl false] ∧ h' = h := by
    refine callV_wp (by omega) C.heard ?_
    have e := room_no C hh (show 3 ≤ m - 1 by omega) q hl hc htc ht
    simp [IR1.i__law_heard]
    refine wf_tryk_ex (c := 0) (f := [110, 97, 109, 101]) (as := [.str t]) (σ' := [some (planQ q p), some (.str t), some .non, some .non, none]) (h' := h) (by simp [permO, mapO, e]; rfl) ?_
    simp [isNon, atrO, isxO]
    rw [shut_same hh rfl]; exact ⟨rfl, rfl⟩
  obtain ⟨v, h1, e, rfl, rfl⟩ := wp_iff.mp w
  exact e
end
end EV

set_option Elab.async false
set_option linter.all false
set_option maxRecDepth 100000
set_option maxHeartbeats 1000000
namespace EV
open IR L2
theorem gv_pv38 {d : Nat} {v : AV} (h : gv d v = true) (hd : d ≤ 30 := by omega) : pv 38 v = true := gv_pv' h (by omega)
theorem pool_chars : ∀ x ∈ POOL, x.all (· < 1114112) = true := by decide
theorem pool_qq : ∀ x ∈ POOL, x ≠ ([113, 113] : List Nat) := by decide
theorem right01 {T : Tab} (F : HasFlat T) (C : Has01 T) (hR : T.lookup c__law_right = some IR1.i__law_right) {m : Nat} (hm : 12 ≤ m) (h : AH) (n : Nat) (hb : BoxAt n 0 h) : wp (callV (callN T m) c__law_right [.ref n] h) fun v h' => v = .bl true ∧ hOk h' := by
  refine callV_wp (by omega) hR ?_
  simp [IR1.i__law_right, srcRg1_int]
  refine wf_forL (fun xs σ h' => ∃ (k : Int) (v1 v2 v3 v4 v5 v6 v7 v8 v9 v10 v11 v12 : Option AV) (h1 ex : AH), k + 400 * xs.length ≤ 4000 ∧ h' = h1 ++ ex ∧ SameH n h h1 ∧ BoxAt n k h' ∧ σ = [some (.ref n), v1, v2, v3, v4, v5, v6, v7, v8, v9, v10, v11, v12]) ?_ ?_ ?_
  · exact ⟨0, none, none, none, none, none, none, none, none, none, none, none, none, h, [], by rw [rangeL_len]; omega, by simp, SameH.refl hb, hb, rfl⟩
  · rintro x r σ h' ⟨k, v1, v2, v3, v4, v5, v6, v7, v8, v9, v10, v11, v12, h1, ex, hk, rfl, s1, b1, rfl⟩
    simp only [List.length_cons] at hk
    simp
    refine flat_wp F (by omega) (by omega) b1 (by omega) (by omega) fun p h2 g hp s2 b2 => ?_
    rw [← planQ_false]
    have t := g.toTile
    have hl : p.length ≤ 1000 := Nat.le_trans t.len (by omega)
    have hz : p.length ≤ 16777216 := by omega
    have le : ∀ g, hOk g → callV (callN T (m - 1)) c__law_lists [planQ false p] g = .ok (planQ true p) g := fun g hg => by rw [planQ_false]; exact lists_plan C.lists hg (by omega) p hl
    obtain ⟨S0, S1, S2, S3, n0, n1, n2, n3, SF⟩ := t.sides
    simp [le _ b2.ok, hz]
    refine wp_comp_map (Rm.q false) (fun r => .str r.n) (fun x _ => by simp [cBody]) ?_
    simp [hz]
    refine wp_comp_map (Rm.q false) (fun r => .int r.c) (fun x _ => by simp [cBody]) ?_
    simp [intsOf_map, SF.f3, hz]
    refine wp_comp_map (Rm.q false) (fun r => .int r.d) (fun x _ => by simp [cBody]) ?_
    simp [intsOf_map, SF.f4, hz]
    have hc : ∀ x ∈ p.map Rm.n, x.all (· < 1114112) = true := fun x hx => by
      obtain ⟨r, hr, rfl⟩ := List.mem_map.mp hx
      exact pool_chars _ (t.nm r hr)
    have hqq : ([113, 113] : List Nat) ∉ p.map Rm.n := fun hx => by
      obtain ⟨r, hr, e⟩ := List.mem_map.mp hx
      exact pool_qq _ (t.nm r hr) e
    have hmu : ∀ r ∈ p, mulOk (r.c - r.a) (r.d - r.b) = true := fun r hr => by
      have := t.rng r hr
      simp only [mulOk, P64, Bool.or_eq_true, Bool.and_eq_true, decide_eq_true_eq]; omega
    have fr := fun g (hg : hOk g) => frame_ok C.frame hg (show 1 ≤ m - 1 by omega) false hl SF.f1 SF.f2 SF.f3 SF.f4
    have nm := fun g (hg : hOk g) => names_ok C hg (show 1 ≤ m - 1 by omega) true hl
    have ar := fun g (hg : hOk g) => areas_ok C hg (show 2 ≤ m - 1 by omega) false hl hmu
    have hd := fun g (hg : hOk g) => heard_no C hg (show 4 ≤ m - 1 by omega) false hl hc (t := [113, 113]) (by decide) hqq
    simp [fr _ b2.ok, nm _ b2.ok, ar _ b2.ok, hz]
    refine wp_comp_map (fun r => .str r.n) Rm.v (fun r hr => ?_) ?_
    · simp [cBody, room_ok C b2.ok (show 3 ≤ m - 1 by omega) true hl hc t.nd hr]
    simp [hd _ b2.ok, hz]
    obtain ⟨A, hA⟩ : ∃ A : List AV, A = [.tup [.int 0, .int 0, .int 16, .int 16], namesV (p.map Rm.n), .tup (p.map fun r => .tup [.str r.n, .int ((r.c - r.a) * (r.d - r.b))]), .lst (p.map Rm.v), .lst [.str [110, 111, 110, 101], .str [113, 113], .bl true, .bl false]] := ⟨_, rfl⟩
    have oA : hOk [AObj.lst A] := by
      have hz2 : p.length ≤ 1000000 := by omega
      intro o ho
      simp only [List.mem_singleton] at ho
      subst ho
      refine okO_lst (List.all_eq_true.mpr fun x hx => gv_pv38 (d := 3) ?_)
      rw [hA] at hx
      simp only [List.mem_cons, List.not_mem_nil, or_false] at hx
      rcases hx with rfl | rfl | rfl | rfl | rfl <;> simp [gv, namesV, hz2]
    have b3 := b2.app oA
    have ae := fun g (hg : hOk g) r (hr : r ∈ p) => area_ok C hg (show 1 ≤ m - 1 by omega) false r (hmu r hr)
    rw [← hA]
    refine wp_comp_map (Rm.q false) (fun r => .tup [.str r.n, .int ((r.c - r.a) * (r.d - r.b))]) (fun r hr => ?_) ?_
    · simp [cBody, ae _ b3.ok r hr]
    have bl : ∀ g, bfO g .list [planQ false p] = some (.lst (p.map Rm.v)) := fun g => rfl
    have en : AV.tup (p.map fun r => AV.str r.n) = namesV (p.map Rm.n) := by unfold namesV; rw [List.map_map]; rfl
    have la : ∀ l, lstOf (h2 ++ [AObj.lst A, AObj.lst l]) (.ref (h2.length + 1)) = some l := fun l => lst_app1 h2 [] _ l
    simp [hz, bl, en, la]
    rw [← hA]
    simp [srcRg1_int]
    have gA : ∀ x ∈ A, gv 3 x = true := by
      have hz2 : p.length ≤ 1000000 := by omega
      rw [hA]; intro x hx
      simp only [List.mem_cons, List.not_mem_nil, or_false] at hx
      rcases hx with rfl | rfl | rfl | rfl | rfl <;> simp [gv, namesV, hz2]
    have oB : ∀ B : List AV, (∀ x ∈ B, gv 3 x = true) → okO (.lst B) = true := fun B hB => okO_lst (List.all_eq_true.mpr fun x hx => gv_pv38 (hB x hx))
    have oBB : ∀ B B' : List AV, (∀ x ∈ B, gv 3 x = true) → (∀ x ∈ B', gv 3 x = true) → hOk [AObj.lst B, .lst B'] := fun B B' h1 h2 o ho => by
      simp only [List.mem_cons, List.not_mem_nil, or_false] at ho
      rcases ho with rfl | rfl
      · exact oB B h1
      · exact oB B' h2
    refine wf_forL (fun xs σ h' => ∃ (k' : Int) (h3 : AH) (B : List AV) (w6 w9 w10 w11 w12 : Option AV), k' + 2 * xs.length ≤ k + 300 + 16 ∧ h' = h3 ++ [.lst B, .lst B] ∧ SameH n h2 h3 ∧ BoxAt n k' h3 ∧ B.length + xs.length ≤ 13 ∧ (∀ x ∈ B, gv 3 x = true) ∧
      σ = [some (.ref n), some x, some (planQ false p), some (.lst [.int 16, .int 16]), some (.ref h2.length), some (.ref (h2.length + 1)), w6, some (planQ true p), some (.lst (p.map fun r => .str r.n)), w9, w10, w11, w12]) ?_ ?_ ?_
    · exact ⟨k + 300, h2, A, v6, v9, v10, v11, v12, by rw [rangeL_len]; omega, rfl, SameH.refl b2, b2, by rw [rangeL_len, hA]; simp, gA, rfl⟩
    · rintro y rr σ h' ⟨k', h3, B, w6, w9, w10, w11, w12, hk', rfl, s3, b3, hB, gB, rfl⟩
      simp only [List.length_cons] at hk' hB
      simp
      refine take_wp F.take (by omega) (by omega) (b3.app (oBB B B gB gB)) (by omega) (by omega) fun d1 h4 d10 d11 s4 b4 => ?_
      obtain ⟨h5, rfl, s5⟩ := s4.app b3.lt
      simp
      refine take_wp F.take (by omega) (by omega) b4 (by omega) (by omega) fun d2 h6 d20 d21 s6 b6 => ?_
      obtain ⟨h7, rfl, s7⟩ := s6.app (by rw [s5.len]; exact b3.lt)
      have e5 : h7.length = h2.length := by rw [s7.len, s5.len, s3.len]
      have b7 := b6.unapp (show n < h7.length by rw [e5]; exact b2.lt)
      have ra := rooms_at_ok C.at_ b6.ok (show 1 ≤ m - 1 by omega) false (d1 - 1) (d2 - 1) hl
      have q0 : ∀ l l' : List AV, lstOf (h7 ++ [AObj.lst l, .lst l']) (.ref h2.length) = some l := fun l l' => by rw [← e5]; exact lst_app0 h7 _ l
      have q1 : ∀ l l' : List AV, lstOf (h7 ++ [AObj.lst l, .lst l']) (.ref (h2.length + 1)) = some l' := fun l l' => by rw [← e5]; exact lst_app1 h7 _ _ l'
      have q2 : ∀ l l' z : List AV, (h7 ++ [AObj.lst l, .lst l']).set h2.length (.lst z) = h7 ++ [AObj.lst z, .lst l'] := fun l l' z => by rw [← e5]; simp
      have q3 : ∀ l l' z : List AV, (h7 ++ [AObj.lst l, .lst l']).set (h2.length + 1) (.lst z) = h7 ++ [AObj.lst l, .lst z] := fun l l' z => by rw [← e5]; simp
      have hB2 : B.length < 16777216 := by omega
      simp [ra, q0, q2, hB2, hz]
      refine wp_comp_filter (Rm.q false) (fun r => .str r.n) (fun r => r.has (d1 - 1) (d2 - 1)) (fun r _ => ?_) ?_
      · by_cases a1 : r.a ≤ d1 - 1 <;> by_cases a2 : d1 - 1 ≤ r.c <;> by_cases a3 : r.b ≤ d2 - 1 <;> by_cases a4 : d2 - 1 ≤ r.d <;> simp [cBody, Rm.has, a1, a2, a3, a4]
      have e : (p.filter fun r => r.has (d1 - 1) (d2 - 1)).map (fun r => AV.str r.n) = (roomsAt p (d1 - 1) (d2 - 1)).map .str := by unfold roomsAt; rw [List.map_map]; rfl
      rw [e]
      simp [q1, q3, hB2]
      have rl : (roomsAt p (d1 - 1) (d2 - 1)).length ≤ 1000000 := by
        unfold roomsAt
        rw [List.length_map]
        exact Nat.le_trans (List.length_filter_le _ _) (by omega)
      refine ⟨k' + 1 + 1, by omega, h7, B ++ [.tup ((roomsAt p (d1 - 1) (d2 - 1)).map .str)], by simp, (s3.trans s5).trans s7, b7, by simp; omega, fun z hz => ?_⟩
      rcases List.mem_append.mp hz with hz | hz
      · exact gB z hz
      · simp only [List.mem_singleton] at hz
        subst hz
        simp [gv, rl]
    · rintro σ h' ⟨k', h3, B, w6, w9, w10, w11, w12, hk', rfl, s3, b3, hB, gB, rfl⟩
      have e5 : h3.length = h2.length := s3.len
      have b4 := b3.app (oBB B B gB gB)
      have q0 : lstOf (h3 ++ [AObj.lst B, .lst B]) (.ref h2.length) = some B := by rw [← e5]; exact lst_app0 h3 _ B
      have q1 : lstOf (h3 ++ [AObj.lst B, .lst B]) (.ref (h2.length + 1)) = some B := by rw [← e5]; exact lst_app1 h3 _ _ B
      simp only [List.length_nil] at hB hk'
      have hB2 : B.length + 1 ≤ 16777216 := by omega
      have hB3 : B.length < 16777216 := by omega
      have hz2 : p.length ≤ 1000000 := by omega
      have sm := same_ok C.same b4.ok 4 (.lst (B ++ [planQ true p])) (by omega) (by
        simp only [gv, Bool.and_eq_true, decide_eq_true_eq, List.length_append, List.length_singleton, List.all_append]
        refine ⟨by omega, List.all_eq_true.mpr fun z hz => gB z hz, ?_⟩
        simp [planQ, sq, Rm.q, gv, hz2]) (m - 1) (by omega)
      simp [q0, q1, catO, binO, le _ b4.ok, hB2, hB3, sm]
      have hn1 : n < h1.length := by rw [s1.len]; exact hb.lt
      obtain ⟨h8, e8, s8⟩ := s2.app hn1
      obtain ⟨h9, e9, s9⟩ := (e8 ▸ s3 : SameH n (h8 ++ ex) h3).app (by rw [s8.len]; exact hn1)
      exact ⟨k', by omega, _, _, _, _, _, _, _, _, _, _, _, _, h9, ⟨ex ++ [.lst B, .lst B], by rw [e9, List.append_assoc]⟩, (s1.trans s8).trans s9, b4, rfl, rfl, rfl, rfl, rfl, rfl, rfl, rfl, rfl, rfl, rfl, rfl⟩
  · rintro σ h' ⟨k, v1, v2, v3, v4, v5, v6, v7, v8, v9, v10, v11, v12, h1, ex, hk, rfl, s1, b1, rfl⟩
    have b0 : BoxAt n k h1 := b1.unapp (by rw [s1.len]; exact hb.lt)
    simp
    rw [shut_boxA s1 b0 rfl]
    exact ⟨rfl, b0.ok⟩
end EV

set_option Elab.async false
set_option linter.all false
set_option maxRecDepth 100000
set_option maxHeartbeats 0
namespace LK
open EV PySem L2
def P : PySem.Program := PySem.Challenge.pw_anyareas_k01_what_a_plan_tells
def top (i : Nat) : PySem.Stmt := P.main.body.getD i (.Pass ⟨0, 0, 0, 0⟩)
def Γc : List (PySem.Str × AV) := []
def Γf : List (PySem.Str × FI) := [
  ((("tupled" : PySem.Str), (⟨(["thing"] : List PySem.Str), false, [], []⟩ : FI)) : PySem.Str × FI),
  ((("frame" : PySem.Str), (⟨(["plan"] : List PySem.Str), false, [0], []⟩ : FI)) : PySem.Str × FI),
  ((("size" : PySem.Str), (⟨(["room"] : List PySem.Str), false, [], []⟩ : FI)) : PySem.Str × FI),
  ((("names" : PySem.Str), (⟨(["plan"] : List PySem.Str), false, [0], []⟩ : FI)) : PySem.Str × FI),
  ((("check_names" : PySem.Str), (⟨(["plan", "some"] : List PySem.Str), false, [], []⟩ : FI)) : PySem.Str × FI),
  ((("room_of" : PySem.Str), (⟨(["plan", "name"] : List PySem.Str), false, [], [(0, (["name", "plan"] : List PySem.Str), [1, 0])]⟩ : FI)) : PySem.Str × FI),
  ((("rooms_at" : PySem.Str), (⟨(["plan", "across", "down"] : List PySem.Str), false, [], [(0, (["down", "across", "plan"] : List PySem.Str), [2, 1, 0])]⟩ : FI)) : PySem.Str × FI),
  ((("areas_of" : PySem.Str), (⟨(["plan"] : List PySem.Str), false, [0], []⟩ : FI)) : PySem.Str × FI),
  ((("_law_box" : PySem.Str), (⟨(["_law_script", "_law_k"] : List PySem.Str), true, [], []⟩ : FI)) : PySem.Str × FI),
  ((("_law_take" : PySem.Str), (⟨(["_law_box_here", "_law_top_so"] : List PySem.Str), false, [], []⟩ : FI)) : PySem.Str × FI),
  ((("_law_cells" : PySem.Str), (⟨(["_law_script", "_law_most"] : List PySem.Str), false, [], []⟩ : FI)) : PySem.Str × FI),
  ((("_law_of" : PySem.Str), (⟨(["_law_box_here", "_law_some"] : List PySem.Str), false, [], []⟩ : FI)) : PySem.Str × FI),
  ((("_law_pick" : PySem.Str), (⟨(["_law_box_here", "_law_pool", "_law_size_so"] : List PySem.Str), false, [], []⟩ : FI)) : PySem.Str × FI),
  ((("_law_lists" : PySem.Str), (⟨(["_law_matter"] : List PySem.Str), false, [], []⟩ : FI)) : PySem.Str × FI),
  ((("_law_same" : PySem.Str), (⟨(["_law_got", "_law_due"] : List PySem.Str), false, [], []⟩ : FI)) : PySem.Str × FI),
  ((("_law_split" : PySem.Str), (⟨(["_law_flat_here", "_law_tag", "_law_way_so", "_law_spot", "_law_news"] : List PySem.Str), false, [], []⟩ : FI)) : PySem.Str × FI),
  ((("_law_no_cross" : PySem.Str), (⟨(["_law_flat_here"] : List PySem.Str), false, [], []⟩ : FI)) : PySem.Str × FI),
  ((("_law_flat" : PySem.Str), (⟨(["_law_box_here", "_law_most", "_law_wide_so"] : List PySem.Str), false, [], []⟩ : FI)) : PySem.Str × FI),
  ((("_law_area" : PySem.Str), (⟨(["_law_own"] : List PySem.Str), false, [], []⟩ : FI)) : PySem.Str × FI),
  ((("_law_heard" : PySem.Str), (⟨(["_law_flat_here", "_law_tag"] : List PySem.Str), false, [], []⟩ : FI)) : PySem.Str × FI),
  ((("_law_hand_right" : PySem.Str), (⟨([] : List PySem.Str), false, [], []⟩ : FI)) : PySem.Str × FI),
  ((("_law_right" : PySem.Str), (⟨(["_law_box_here"] : List PySem.Str), false, [], []⟩ : FI)) : PySem.Str × FI),
  ((("law" : PySem.Str), (⟨(["_law_script"] : List PySem.Str), false, [], []⟩ : FI)) : PySem.Str × FI)]
def ini (s : PySem.Stmt) : PySem.Stmt := match s with
  | .ClassDef _ _ _ b _ _ _ _ _ _ _ => b.getD 0 (.Pass ⟨0, 0, 0, 0⟩)
  | s => s
def x1 : XD := ⟨[78, 111, 78, 97, 109, 101], some [110, 97, 109, 101], "LookupError", L2.defArgs (ini (top 1)), L2.defBody (ini (top 1)), L2.defScope (ini (top 1))⟩
def xs : List XD := [x1]
def Γk : List (List Nat × CI) := [([78, 111, 78, 97, 109, 101], ⟨some [110, 97, 109, 101], "LookupError"⟩)]
def Γ : GEnv := ⟨Γc, Γf, Γk⟩
def d3 : DF := ⟨"tupled", L2.defArgs (top 3), L2.defBody (top 3), L2.defScope (top 3), (["thing", "part"] : List PySem.Str), (["thing"] : List PySem.Str), ([] : List PySem.Str), [], []⟩
def d5 : DF := ⟨"frame", L2.defArgs (top 5), L2.defBody (top 5), L2.defScope (top 5), (["plan", "left", "top", "room"] : List PySem.Str), (["plan"] : List PySem.Str), ([] : List PySem.Str), [0], []⟩
def d6 : DF := ⟨"size", L2.defArgs (top 6), L2.defBody (top 6), L2.defScope (top 6), (["room"] : List PySem.Str), (["room"] : List PySem.Str), ([] : List PySem.Str), [], []⟩
def d7 : DF := ⟨"names", L2.defArgs (top 7), L2.defBody (top 7), L2.defScope (top 7), (["plan", "room"] : List PySem.Str), (["plan"] : List PySem.Str), ([] : List PySem.Str), [0], []⟩
def d8 : DF := ⟨"check_names", L2.defArgs (top 8), L2.defBody (top 8), L2.defScope (top 8), (["plan", "some", "here", "name"] : List PySem.Str), (["plan", "some"] : List PySem.Str), ([] : List PySem.Str), [], []⟩
def d9 : DF := ⟨"room_of", L2.defArgs (top 9), L2.defBody (top 9), L2.defScope (top 9), (["plan", "name", "room"] : List PySem.Str), (["plan", "name"] : List PySem.Str), ([] : List PySem.Str), [], [(0, (["name", "plan"] : List PySem.Str), [1, 0])]⟩
def d10 : DF := ⟨"rooms_at", L2.defArgs (top 10), L2.defBody (top 10), L2.defScope (top 10), (["plan", "across", "down", "room"] : List PySem.Str), (["plan", "across", "down"] : List PySem.Str), ([] : List PySem.Str), [], [(0, (["down", "across", "plan"] : List PySem.Str), [2, 1, 0])]⟩
def d11 : DF := ⟨"areas_of", L2.defArgs (top 11), L2.defBody (top 11), L2.defScope (top 11), (["plan", "room"] : List PySem.Str), (["plan"] : List PySem.Str), ([] : List PySem.Str), [0], []⟩
def d13 : DF := ⟨"_law_box", L2.defArgs (top 13), L2.defBody (top 13), L2.defScope (top 13), (["_law_script", "_law_k", "_law_great_so"] : List PySem.Str), (["_law_script", "_law_k"] : List PySem.Str), (["return"] : List PySem.Str), [], []⟩
def d14 : DF := ⟨"_law_take", L2.defArgs (top 14), L2.defBody (top 14), L2.defScope (top 14), (["_law_box_here", "_law_top_so", "_law_once", "_law_far", "_law_twice", "_law_digit_so"] : List PySem.Str), (["_law_box_here", "_law_top_so"] : List PySem.Str), (["_law_box_here"] : List PySem.Str), [], []⟩
def d15 : DF := ⟨"_law_cells", L2.defArgs (top 15), L2.defBody (top 15), L2.defScope (top 15), (["_law_script", "_law_most", "_law_cells_here", "_law_k", "_law_great_so", "_law_at_so"] : List PySem.Str), (["_law_script", "_law_most"] : List PySem.Str), (["_law_cells_here"] : List PySem.Str), [], []⟩
def d16 : DF := ⟨"_law_of", L2.defArgs (top 16), L2.defBody (top 16), L2.defScope (top 16), (["_law_box_here", "_law_some"] : List PySem.Str), (["_law_box_here", "_law_some"] : List PySem.Str), ([] : List PySem.Str), [], []⟩
def d17 : DF := ⟨"_law_pick", L2.defArgs (top 17), L2.defBody (top 17), L2.defScope (top 17), (["_law_box_here", "_law_pool", "_law_size_so", "_law_turn", "_law_rest", "_law_some"] : List PySem.Str), (["_law_box_here", "_law_pool", "_law_size_so"] : List PySem.Str), (["_law_some", "_law_rest"] : List PySem.Str), [], []⟩
def d18 : DF := ⟨"_law_lists", L2.defArgs (top 18), L2.defBody (top 18), L2.defScope (top 18), (["_law_matter", "_law_bit"] : List PySem.Str), (["_law_matter"] : List PySem.Str), ([] : List PySem.Str), [], []⟩
def d19 : DF := ⟨"_law_same", L2.defArgs (top 19), L2.defBody (top 19), L2.defScope (top 19), (["_law_got", "_law_due", "_law_own", "_law_mine", "_law_its"] : List PySem.Str), (["_law_got", "_law_due"] : List PySem.Str), ([] : List PySem.Str), [], []⟩
def d20 : DF := ⟨"_law_split", L2.defArgs (top 20), L2.defBody (top 20), L2.defScope (top 20), (["_law_flat_here", "_law_tag", "_law_way_so", "_law_spot", "_law_news", "_law_found", "_law_own"] : List PySem.Str), (["_law_flat_here", "_law_tag", "_law_way_so", "_law_spot", "_law_news"] : List PySem.Str), (["_law_found"] : List PySem.Str), [], []⟩
def d21 : DF := ⟨"_law_no_cross", L2.defArgs (top 21), L2.defBody (top 21), L2.defScope (top 21), (["_law_flat_here", "_law_spots", "_law_own"] : List PySem.Str), (["_law_flat_here"] : List PySem.Str), ([] : List PySem.Str), [], []⟩
def d22 : DF := ⟨"_law_flat", L2.defArgs (top 22), L2.defBody (top 22), L2.defScope (top 22), (["_law_box_here", "_law_most", "_law_wide_so", "_law_tags", "_law_found", "_law_tag", "_law_w", "_law_lap", "_law_own", "_law_way_so", "_law_low_so", "_law_high_so", "_law_near", "_law_cell_so"] : List PySem.Str), (["_law_box_here", "_law_most", "_law_wide_so"] : List PySem.Str), ([] : List PySem.Str), [], []⟩
def d23 : DF := ⟨"_law_area", L2.defArgs (top 23), L2.defBody (top 23), L2.defScope (top 23), (["_law_own"] : List PySem.Str), (["_law_own"] : List PySem.Str), ([] : List PySem.Str), [], []⟩
def d24 : DF := ⟨"_law_heard", L2.defArgs (top 24), L2.defBody (top 24), L2.defScope (top 24), (["_law_flat_here", "_law_tag", "_law_caught", "_law_told", "error"] : List PySem.Str), (["_law_flat_here", "_law_tag"] : List PySem.Str), ([] : List PySem.Str), [], []⟩
def d25 : DF := ⟨"_law_hand_right", L2.defArgs (top 25), L2.defBody (top 25), L2.defScope (top 25), (["_law_one", "_law_got", "_law_due", "_law_spots", "_law_row", "_law_four", "_law_far", "_law_own", "_law_k", "_law_letter"] : List PySem.Str), ([] : List PySem.Str), (["_law_got", "_law_due"] : List PySem.Str), [], []⟩
def d26 : DF := ⟨"_law_right", L2.defArgs (top 26), L2.defBody (top 26), L2.defScope (top 26), (["_law_box_here", "_law_turn", "_law_flat_here", "_law_high_so", "_law_got", "_law_due", "_law_lap", "_law_soft", "_law_tags", "_law_one_so", "_law_two_so", "_law_own", "_law_tag"] : List PySem.Str), (["_law_box_here"] : List PySem.Str), (["_law_due", "_law_got"] : List PySem.Str), [], []⟩
def d27 : DF := ⟨"law", L2.defArgs (top 27), L2.defBody (top 27), L2.defScope (top 27), (["_law_script", "_law_cells_here", "_law_k"] : List PySem.Str), (["_law_script"] : List PySem.Str), ([] : List PySem.Str), [], []⟩
def D : List DF := [d3, d5, d6, d7, d8, d9, d10, d11, d13, d14, d15, d16, d17, d18, d19, d20, d21, d22, d23, d24, d25, d26, d27]
theorem b3 : BindOk d3 := by
  refine ⟨fun kV doc pm an cdv ct us hl => ?_, fun n hn => ?_, fun q hq => ?_⟩
  · match us, hl with
    | [_], _ => rfl
  · cases hn
  · cases hq
theorem b5 : BindOk d5 := by
  refine ⟨fun kV doc pm an cdv ct us hl => ?_, fun n hn => ?_, fun q hq => ?_⟩
  · match us, hl with
    | [_], _ => rfl
  · simp only [d5, List.mem_cons, List.not_mem_nil, or_false] at hn
    subst hn
    intro kV doc pm an cdv ct us ws h1 h2
    match us, ws, h1, h2 with
    | [], [_], _, _ => rfl
  · cases hq
theorem b6 : BindOk d6 := by
  refine ⟨fun kV doc pm an cdv ct us hl => ?_, fun n hn => ?_, fun q hq => ?_⟩
  · match us, hl with
    | [_], _ => rfl
  · cases hn
  · cases hq
theorem b7 : BindOk d7 := by
  refine ⟨fun kV doc pm an cdv ct us hl => ?_, fun n hn => ?_, fun q hq => ?_⟩
  · match us, hl with
    | [_], _ => rfl
  · simp only [d7, List.mem_cons, List.not_mem_nil, or_false] at hn
    subst hn
    intro kV doc pm an cdv ct us ws h1 h2
    match us, ws, h1, h2 with
    | [], [_], _, _ => rfl
  · cases hq
theorem b8 : BindOk d8 := by
  refine ⟨fun kV doc pm an cdv ct us hl => ?_, fun n hn => ?_, fun q hq => ?_⟩
  · match us, hl with
    | [_, _], _ => rfl
  · cases hn
  · cases hq
theorem b9 : BindOk d9 := by
  refine ⟨fun kV doc pm an cdv ct us hl => ?_, fun n hn => ?_, fun q hq => ?_⟩
  · match us, hl with
    | [_, _], _ => rfl
  · cases hn
  · simp only [d9, List.mem_cons, List.not_mem_nil, or_false] at hq
    · subst hq; intro kV doc pm an cdv ct us ws h1 h2
      match us, ws, h1, h2 with
      | [], [_, _], _, _ => exact ⟨_, rfl, rfl⟩
theorem b10 : BindOk d10 := by
  refine ⟨fun kV doc pm an cdv ct us hl => ?_, fun n hn => ?_, fun q hq => ?_⟩
  · match us, hl with
    | [_, _, _], _ => rfl
  · cases hn
  · simp only [d10, List.mem_cons, List.not_mem_nil, or_false] at hq
    · subst hq; intro kV doc pm an cdv ct us ws h1 h2
      match us, ws, h1, h2 with
      | [], [_, _, _], _, _ => exact ⟨_, rfl, rfl⟩
theorem b11 : BindOk d11 := by
  refine ⟨fun kV doc pm an cdv ct us hl => ?_, fun n hn => ?_, fun q hq => ?_⟩
  · match us, hl with
    | [_], _ => rfl
  · simp only [d11, List.mem_cons, List.not_mem_nil, or_false] at hn
    subst hn
    intro kV doc pm an cdv ct us ws h1 h2
    match us, ws, h1, h2 with
    | [], [_], _, _ => rfl
  · cases hq
theorem b13 : BindOk d13 := by
  refine ⟨fun kV doc pm an cdv ct us hl => ?_, fun n hn => ?_, fun q hq => ?_⟩
  · match us, hl with
    | [_, _], _ => rfl
  · cases hn
  · cases hq
theorem b14 : BindOk d14 := by
  refine ⟨fun kV doc pm an cdv ct us hl => ?_, fun n hn => ?_, fun q hq => ?_⟩
  · match us, hl with
    | [_, _], _ => rfl
  · cases hn
  · cases hq
theorem b15 : BindOk d15 := by
  refine ⟨fun kV doc pm an cdv ct us hl => ?_, fun n hn => ?_, fun q hq => ?_⟩
  · match us, hl with
    | [_, _], _ => rfl
  · cases hn
  · cases hq
theorem b16 : BindOk d16 := by
  refine ⟨fun kV doc pm an cdv ct us hl => ?_, fun n hn => ?_, fun q hq => ?_⟩
  · match us, hl with
    | [_, _], _ => rfl
  · cases hn
  · cases hq
theorem b17 : BindOk d17 := by
  refine ⟨fun kV doc pm an cdv ct us hl => ?_, fun n hn => ?_, fun q hq => ?_⟩
  · match us, hl with
    | [_, _, _], _ => rfl
  · cases hn
  · cases hq
theorem b18 : BindOk d18 := by
  refine ⟨fun kV doc pm an cdv ct us hl => ?_, fun n hn => ?_, fun q hq => ?_⟩
  · match us, hl with
    | [_], _ => rfl
  · cases hn
  · cases hq
theorem b19 : BindOk d19 := by
  refine ⟨fun kV doc pm an cdv ct us hl => ?_, fun n hn => ?_, fun q hq => ?_⟩
  · match us, hl with
    | [_, _], _ => rfl
  · cases hn
  · cases hq
theorem b20 : BindOk d20 := by
  refine ⟨fun kV doc pm an cdv ct us hl => ?_, fun n hn => ?_, fun q hq => ?_⟩
  · match us, hl with
    | [_, _, _, _, _], _ => rfl
  · cases hn
  · cases hq
theorem b21 : BindOk d21 := by
  refine ⟨fun kV doc pm an cdv ct us hl => ?_, fun n hn => ?_, fun q hq => ?_⟩
  · match us, hl with
    | [_], _ => rfl
  · cases hn
  · cases hq
theorem b22 : BindOk d22 := by
  refine ⟨fun kV doc pm an cdv ct us hl => ?_, fun n hn => ?_, fun q hq => ?_⟩
  · match us, hl with
    | [_, _, _], _ => rfl
  · cases hn
  · cases hq
theorem b23 : BindOk d23 := by
  refine ⟨fun kV doc pm an cdv ct us hl => ?_, fun n hn => ?_, fun q hq => ?_⟩
  · match us, hl with
    | [_], _ => rfl
  · cases hn
  · cases hq
theorem b24 : BindOk d24 := by
  refine ⟨fun kV doc pm an cdv ct us hl => ?_, fun n hn => ?_, fun q hq => ?_⟩
  · match us, hl with
    | [_, _], _ => rfl
  · cases hn
  · cases hq
theorem b25 : BindOk d25 := by
  refine ⟨fun kV doc pm an cdv ct us hl => ?_, fun n hn => ?_, fun q hq => ?_⟩
  · match us, hl with
    | [], _ => rfl
  · cases hn
  · cases hq
theorem b26 : BindOk d26 := by
  refine ⟨fun kV doc pm an cdv ct us hl => ?_, fun n hn => ?_, fun q hq => ?_⟩
  · match us, hl with
    | [_], _ => rfl
  · cases hn
  · cases hq
theorem b27 : BindOk d27 := by
  refine ⟨fun kV doc pm an cdv ct us hl => ?_, fun n hn => ?_, fun q hq => ?_⟩
  · match us, hl with
    | [_], _ => rfl
  · cases hn
  · cases hq
theorem xk1 : ∀ f, x1.fld = some f → XDok x1 f := by
  intro f h
  cases h
  exact ⟨⟨_, _, _, _, _, _, _, _, _, _, rfl, fun env => ⟨_, rfl⟩⟩, ⟨_, rfl, rfl⟩, by decide +kernel, by decide +kernel, by decide +kernel, by decide +kernel, by decide +kernel, rfl, rfl, rfl, fun _ _ _ _ _ _ _ _ _ => rfl, by decide +kernel, by decide +kernel⟩
theorem xsk : ∀ d ∈ xs, ∀ f, d.fld = some f → XDok d f := by
  intro d hd
  simp only [xs, List.mem_cons, List.not_mem_nil, or_false] at hd
  subst hd
  · exact xk1
def file : PySem.Str := P.main.file
theorem pf : PFile P file := ⟨by unfold file; simp, by decide +kernel⟩
theorem stat : Static Γ (mkT Γ D) D xs := by
  refine Static.mkS (by decide +kernel) (by decide +kernel) (by decide +kernel) (by decide +kernel) (fun d hd => ?_) (by rfl) xsk
  simp only [D, List.mem_cons, List.not_mem_nil, or_false] at hd
  rcases hd with rfl | rfl | rfl | rfl | rfl | rfl | rfl | rfl | rfl | rfl | rfl | rfl | rfl | rfl | rfl | rfl | rfl | rfl | rfl | rfl | rfl | rfl | rfl
  · exact b3
  · exact b5
  · exact b6
  · exact b7
  · exact b8
  · exact b9
  · exact b10
  · exact b11
  · exact b13
  · exact b14
  · exact b15
  · exact b16
  · exact b17
  · exact b18
  · exact b19
  · exact b20
  · exact b21
  · exact b22
  · exact b23
  · exact b24
  · exact b25
  · exact b26
  · exact b27
def names0 : List PySem.Str := ["NoName", "tupled", "frame", "size", "names", "check_names", "room_of", "rooms_at", "areas_of", "_law_box", "_law_take", "_law_cells", "_law_of", "_law_pick", "_law_lists", "_law_same", "_law_split", "_law_no_cross", "_law_flat", "_law_area", "_law_heard", "_law_hand_right", "_law_right"]
def names : List PySem.Str := names0
abbrev R : PySem.W.OpenRow := PySem.W.OpenLaw.row PySem.Challenge.rw_anyareas_k01_what_a_plan_tells
abbrev hk : PySem.W.Hook := hookT 4 (faOf Γ D) (fnOf D) file xs
def ob (s : PySem.W.SharedT) : AlT := obsT 4 (faOf Γ D) (fnOf D) file xs (HandSHeadRun.getT s)
theorem ob_eq (s : PySem.W.SharedT) : ob s = hk.obs s.abs := obsT_eq (HandSHeadRun.getT_eq s)
theorem run (w : World) : HandSHeadRun.RunEq R (PySem.W.view R.prog [27]) hk ob 9000 names w := by
  intro os
  kernel_rfl
theorem hasF : HasFlat (mkT Γ D) := ⟨by kernel_rfl, by kernel_rfl, by kernel_rfl, by kernel_rfl, by kernel_rfl, by kernel_rfl⟩
theorem has1 : Has01 (mkT Γ D) := ⟨by kernel_rfl, by kernel_rfl, by kernel_rfl, by kernel_rfl, by kernel_rfl, by kernel_rfl, by kernel_rfl, by kernel_rfl, by kernel_rfl, by kernel_rfl, by kernel_rfl, by kernel_rfl⟩
theorem hand : callV (callN (mkT Γ D) 59) IR.c__law_hand_right [] [] = .ok (.bl true) [] := by kernel_rfl
theorem sem (ns : List Int) (hl : ns.length ≤ 63) : ∃ h, callN (mkT Γ D) 60 (EV.code "law") [.scr (ns.map .int)] [] = .ok (.bl true) h :=
  law_frame (T := mkT Γ D) (q := 854) (N := 3) (hand := IR.c__law_hand_right) (M := 60) (by kernel_rfl) (by kernel_rfl) (by kernel_rfl) (by decide) (by decide) (by decide) hand
    (fun h n b => right01 hasF has1 (by kernel_rfl) (by decide) h n b) ns hl

end LK
open PySem PySem.W PySem.Calls PyProof.Rows
theorem PySem.Challenge.cw_anyareas_k01_what_a_plan_tells_holds : PySem.Challenge.rw_anyareas_k01_what_a_plan_tells.Holds := by
  w_on; o_law
  refine HandSHeadRun.head_any (r := OpenLaw.row PySem.Challenge.rw_anyareas_k01_what_a_plan_tells) (q := view (OpenLaw.row PySem.Challenge.rw_anyareas_k01_what_a_plan_tells).prog [27]) (H := LK.hk) (ob := LK.ob) (M := 9000) (loose := LK.names) (d := HandSHeadRun.topDef (OpenLaw.row PySem.Challenge.rw_anyareas_k01_what_a_plan_tells).prog 27) (kwd := []) LK.ob_eq
    (by kernel_rfl) (fun s => by kernel_rfl) LK.run (by kernel_rfl) (by kernel_rfl) (by kernel_rfl) (by rfl) (by first | assumption | decide +kernel) (by decide +kernel) ⟨rfl, rfl, rfl, rfl, rfl, by decide +kernel⟩ ?hw ?hc
  case hw => w_witness2
  case hc =>
    refine L2.walk_ofE (l := PySem.Challenge.rw_anyareas_k01_what_a_plan_tells) (n := 63) (k := 60) (x := "_law_script") (CX := EV.CXw (PySem.Challenge.rw_anyareas_k01_what_a_plan_tells).prog) rfl (by decide) (by kernel_rfl) ⟨rfl, by decide, by decide⟩ ?F (fun _ _ _ _ z => EV.CXw.no z)
    intro w mg fa h Y G hmg0
    obtain ⟨K, KX, c, cx⟩ := Y
    have hmg : mg ("law" : PySem.Str) = some (.ref fa) := by
      have e : (HandSHeadRun.topDef (OpenLaw.row PySem.Challenge.rw_anyareas_k01_what_a_plan_tells).prog 27).name = ("law" : PySem.Str) := by kernel_rfl
      rw [← e]; exact hmg0
    exact LK.stat.fin (d := LK.d27) KX G c cx LK.pf (by simp [LK.D]) rfl hmg 60 LK.sem

