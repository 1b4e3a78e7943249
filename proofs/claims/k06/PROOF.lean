import PyProof.Rows.All
import Wide.All
import OpenK.AllK
import Wide.FinOn
import HandS.ForMost
import HandS.Deep
import HandS.Gcd
import HandS.Flow
import HandS.IsInst
import HandS.TupAny
import HandS.Style
import HandS.Wide
import KE.SortData
import KE.DataMinMax
import HandS.SortKw
import HandS.Zip
import HandS.IterVal
import PySem.Challenge.RW_timelyproof_k06_sup_numbers
set_option Elab.async false
set_option linter.all false
set_option maxRecDepth 100000
/-! DmA: plain data, the store, how they lie in the abstract heap. -/
namespace Dm
open PySem L2

/-- plain data: what is never written any more stands as itself, what may be written is a place of the store -/
inductive D where
  | non | bl (b : Bool) | int (i : Int) | str (s : Str)
  | tup (l : List D) | lst (l : List D)
  | ref (n : Nat)
  | frz (l : List D)
  | itr (l : List D)
  deriving Inhabited

/-- what stands at a place of the store -/
inductive Cell where
  | dead
  | lst (l : List D)
  | dct (l : List (D × D))

abbrev Store := List Cell
abbrev Fr := List (Option D)

mutual
/-- no place from n on is named in it -/
def D.rb (n : Nat) : D → Bool
  | .ref m => decide (m < n)
  | .tup l => D.rbL n l
  | .lst l => D.rbL n l
  | .frz l => D.rbL n l
  | .itr l => D.rbL n l
  | _ => true
termination_by structural d => d
def D.rbL (n : Nat) : List D → Bool
  | [] => true
  | d :: ds => D.rb n d && D.rbL n ds
termination_by structural d => d
end
def rbP (n : Nat) (l : List (D × D)) : Bool := l.all fun p => D.rb n p.1 && D.rb n p.2
def Cell.rb (n : Nat) : Cell → Bool
  | .dead => true
  | .lst l => D.rbL n l
  | .dct l => rbP n l

/-! ### how data lies -/
section
variable (K : PySem.W.Frag)
/-- where things lie: the frozen part of the heap, the addresses of the store's places; pv: what stands apart (nobody's data names it, nobody changes it) -/
structure G where
  F : Hp
  ρ : List Addr
  pv : Hp

mutual
inductive Rep (g : G) : D → V → Prop
  | non : Rep g .non .non
  | bl (b : Bool) : Rep g (.bl b) (.bl b)
  | int (i : Int) : Rep g (.int i) (.int i)
  | str (x : Str) : Rep g (.str x) (.str x)
  | tup {a : Addr} {xs : List V} {ds : List D} : SqT K g.F a xs → RepL g ds xs → Rep g (.tup ds) (.ref a)
  | lst {a : Addr} {xs : List V} {ds : List D} : g.F a = some (.lst xs) → RepL g ds xs → Rep g (.lst ds) (.ref a)
  | frz {a : Addr} {xs : List V} {ds : List D} : SqL K g.F a xs → RepL g ds xs → Rep g (.frz ds) (.ref a)
  | ref {a : Addr} {n : Nat} : g.ρ[n]? = some a → Rep g (.ref n) (.ref a)
inductive RepL (g : G) : List D → List V → Prop
  | nil : RepL g [] []
  | cons {d : D} {v : V} {ds : List D} {vs : List V} : Rep g d v → RepL g ds vs → RepL g (d :: ds) (v :: vs)
end

/-- a dict's pairs: the keys ints or texts -/
def keyD : Key → D
  | .inl i => .int i
  | .inr x => .str x
inductive RepP (g : G) : List (D × D) → List (Key × V) → Prop
  | nil : RepP g [] []
  | cons {k : Key} {d : D} {v : V} {l : List (D × D)} {kvs : List (Key × V)} : Rep K g d v → RepP g l kvs → RepP g ((keyD k, d) :: l) ((k, v) :: kvs)

def CellOk (g : G) : Cell → Option HO → Prop
  | .dead, _ => True
  | .lst ds, o => ∃ xs, o = some (.lst xs) ∧ RepL K g ds xs
  | .dct l, o => ∃ kvs, o = some (.dK kvs) ∧ RepP K g l kvs

def Cell.live : Cell → Bool
  | .dead => false
  | _ => true

structure HpOk (g : G) (S : Store) (H : Hp) : Prop where
  same : Same g.F H
  len : S.length = g.ρ.length
  cell : ∀ (n : Nat) (c : Cell) (a : Addr), S[n]? = some c → g.ρ[n]? = some a → c.live = true → CellOk K g c (H a) ∧ g.F a = none
  inj : ∀ (n m : Nat) (c e : Cell) (a : Addr), S[n]? = some c → S[m]? = some e → c.live = true → e.live = true → g.ρ[n]? = some a → g.ρ[m]? = some a → n = m
  pv : Same g.pv H
  pvF : ∀ a o, g.pv a = some o → g.F a = none
  pvR : ∀ (n : Nat) (c : Cell) (a : Addr), S[n]? = some c → g.ρ[n]? = some a → c.live = true → g.pv a = none

structure Le (g g' : G) : Prop where
  F : Same g.F g'.F
  ρ : ∃ more, g'.ρ = g.ρ ++ more
  pv : g'.pv = g.pv

structure FrOk (g : G) (fr : Fr) (σ : St) : Prop where
  len : fr.length = σ.length
  at_ : ∀ (i : Nat) (d : D), fr[i]? = some (some d) → ∃ v, σ[i]? = some (some v) ∧ Rep K g d v
end

section
variable {K : PySem.W.Frag} {g g' g'' : G}
theorem Le.refl (g : G) : Le g g := ⟨Same.refl _, ⟨[], (List.append_nil _).symm⟩, rfl⟩
theorem Le.trans (h : Le g g') (h' : Le g' g'') : Le g g'' := by
  obtain ⟨f, ⟨m, e⟩, p⟩ := h
  obtain ⟨f', ⟨m', e'⟩, p'⟩ := h'
  exact ⟨f.trans f', ⟨m ++ m', by rw [e', e, List.append_assoc]⟩, p'.trans p⟩
theorem Le.at_ (h : Le g g') {n : Nat} {a : Addr} (e : g.ρ[n]? = some a) : g'.ρ[n]? = some a := by
  obtain ⟨_, ⟨m, e'⟩, _⟩ := h
  rw [e', List.getElem?_append_left (by exact (List.getElem?_eq_some_iff.mp e).1)]
  exact e
theorem sqT_mono {F F' : Hp} (h : Same F F') {a : Addr} {xs : List V} (q : SqT K F a xs) : SqT K F' a xs := by
  rcases q with (q | ⟨o, q⟩) | q
  · exact .inl (.inl (h _ _ q))
  · exact .inl (.inr ⟨o, h _ _ q⟩)
  · exact .inr q
mutual
theorem Rep.mono (h : Le g g') : ∀ {d : D} {v : V}, Rep K g d v → Rep K g' d v
  | _, _, .non => .non
  | _, _, .bl b => .bl b
  | _, _, .int i => .int i
  | _, _, .str x => .str x
  | _, _, .tup q r => .tup (sqT_mono h.F q) (RepL.mono h r)
  | _, _, .lst q r => .lst (h.F _ _ q) (RepL.mono h r)
  | _, _, .frz q r => .frz (h.F.seq q) (RepL.mono h r)
  | _, _, .ref e => .ref (h.at_ e)
theorem RepL.mono (h : Le g g') : ∀ {ds : List D} {vs : List V}, RepL K g ds vs → RepL K g' ds vs
  | _, _, .nil => .nil
  | _, _, .cons r q => .cons (Rep.mono h r) (RepL.mono h q)
end
theorem RepP.mono (h : Le g g') : ∀ {l : List (D × D)} {kvs : List (Key × V)}, RepP K g l kvs → RepP K g' l kvs
  | _, _, .nil => .nil
  | _, _, .cons r q => .cons (r.mono h) (RepP.mono h q)
theorem CellOk.mono (h : Le g g') {c : Cell} {o : Option HO} (q : CellOk K g c o) : CellOk K g' c o := by
  cases c with
  | dead => trivial
  | lst ds => obtain ⟨xs, e, r⟩ := q; exact ⟨xs, e, r.mono h⟩
  | dct l => obtain ⟨kvs, e, r⟩ := q; exact ⟨kvs, e, r.mono h⟩
theorem FrOk.mono (h : Le g g') {fr : Fr} {σ : St} (q : FrOk K g fr σ) : FrOk K g' fr σ :=
  ⟨q.len, fun i d e => let ⟨v, e', r⟩ := q.at_ i d e; ⟨v, e', r.mono h⟩⟩
theorem RepL.length : ∀ {ds : List D} {vs : List V}, RepL K g ds vs → ds.length = vs.length
  | _, _, .nil => rfl
  | _, _, .cons _ q => congrArg (· + 1) q.length
theorem RepL.get : ∀ {ds : List D} {vs : List V}, RepL K g ds vs → ∀ {i : Nat} {d : D}, ds[i]? = some d → ∃ v, vs[i]? = some v ∧ Rep K g d v
  | _, _, .nil, i, d, e => by simp at e
  | _, _, .cons r q, 0, d, e => by simp at e; subst e; exact ⟨_, rfl, r⟩
  | _, _, .cons r q, i + 1, d, e => by
    obtain ⟨v, e', r'⟩ := q.get (i := i) (d := d) (by simpa using e)
    exact ⟨v, by simpa using e', r'⟩
theorem RepL.append : ∀ {ds : List D} {vs : List V} {es : List D} {ws : List V}, RepL K g ds vs → RepL K g es ws → RepL K g (ds ++ es) (vs ++ ws)
  | _, _, _, _, .nil, q => q
  | _, _, _, _, .cons r p, q => .cons r (p.append q)
theorem RepL.take : ∀ {ds : List D} {vs : List V} (n : Nat), RepL K g ds vs → RepL K g (ds.take n) (vs.take n)
  | _, _, 0, _ => .nil
  | _, _, _ + 1, .nil => .nil
  | _, _, n + 1, .cons r q => .cons r (q.take n)
theorem RepL.drop : ∀ {ds : List D} {vs : List V} (n : Nat), RepL K g ds vs → RepL K g (ds.drop n) (vs.drop n)
  | _, _, 0, q => q
  | _, _, _ + 1, .nil => .nil
  | _, _, n + 1, .cons _ q => RepL.drop n q
theorem RepL.set {x : D} {u : V} (r : Rep K g x u) : ∀ {ds : List D} {vs : List V} (i : Nat), RepL K g ds vs → RepL K g (ds.set i x) (vs.set i u)
  | _, _, _, .nil => .nil
  | _, _, 0, .cons _ q => .cons r q
  | _, _, i + 1, .cons p q => .cons p (q.set r i)
theorem RepL.reverse : ∀ {ds : List D} {vs : List V}, RepL K g ds vs → RepL K g ds.reverse vs.reverse
  | _, _, .nil => .nil
  | _, _, .cons r q => by
    rw [List.reverse_cons, List.reverse_cons]
    exact q.reverse.append (.cons r .nil)

/-! slots -/
theorem FrOk.get {fr : Fr} {σ : St} (q : FrOk K g fr σ) {i : Nat} {d : D} (e : fr[i]? = some (some d)) : ∃ v, σ[i]? = some (some v) ∧ Rep K g d v := q.at_ i d e
theorem FrOk.set {fr : Fr} {σ : St} (q : FrOk K g fr σ) {i : Nat} {d : D} {v : V} (r : Rep K g d v) : FrOk K g (fr.set i (some d)) (σ.set i (some v)) := by
  refine ⟨by simp [q.len], fun j e h => ?_⟩
  by_cases hj : i = j
  · subst hj
    by_cases hl : i < fr.length
    · rw [List.getElem?_set_self hl] at h
      cases h
      exact ⟨v, List.getElem?_set_self (by rw [← q.len]; exact hl), r⟩
    · rw [List.getElem?_eq_none (by simpa using hl)] at h
      cases h
  · rw [List.getElem?_set_ne hj] at h ⊢
    exact q.at_ j e h
/-- a slot forgotten on both sides -/
theorem FrOk.clear {fr : Fr} {σ : St} (q : FrOk K g fr σ) (i : Nat) : FrOk K g (fr.set i none) (σ.set i none) := by
  refine ⟨by simp [q.len], fun j e h => ?_⟩
  by_cases hj : i = j
  · subst hj
    by_cases hl : i < fr.length
    · rw [List.getElem?_set_self hl] at h
      cases h
    · rw [List.getElem?_eq_none (by simpa using hl)] at h
      cases h
  · rw [List.getElem?_set_ne hj] at h ⊢
    exact q.at_ j e h

/-! the heap grows -/
/-- a new frozen object -/
def G.put (g : G) (p : Addr) (o : HO) : G := ⟨upd g.F p o, g.ρ, g.pv⟩
theorem HpOk.free {S : Store} {H : Hp} (h : HpOk K g S H) {p : Addr} (e : H p = none) : g.F p = none := h.same.free e
theorem same_upd2 {F H : Hp} {p : Addr} {o : HO} (h : Same F H) : Same (upd F p o) (upd H p o) := fun b u e => by
  by_cases hb : b = p
  · subst hb; rw [upd_same] at e ⊢; exact e
  · rw [upd_ne hb] at e ⊢; exact h b u e
theorem same_new {H : Hp} {p : Addr} {o : HO} (h : H p = none) : Same H (upd H p o) := fun b x e => by
  rw [upd_ne (ne_of_none e h)]; exact e
theorem Le.put {p : Addr} {o : HO} (h : g.F p = none) : Le g (g.put p o) := ⟨same_new h, ⟨[], (List.append_nil _).symm⟩, rfl⟩
theorem HpOk.put {S : Store} {H : Hp} (h : HpOk K g S H) {p : Addr} {o : HO} (e : H p = none) : HpOk K (g.put p o) S (upd H p o) := by
  have hF : g.F p = none := h.free e
  refine ⟨same_upd2 h.same, h.len, fun n c a hn ha hl => ?_, fun n m c e' a h1 h2 h3 h4 h5 h6 => h.inj n m c e' a h1 h2 h3 h4 h5 h6, h.pv.trans (same_new e), fun a u q => ?_, h.pvR⟩
  rotate_left
  · show upd g.F p o a = none
    rw [upd_ne (ne_of_none (h.pv a u q) e)]
    exact h.pvF a u q
  obtain ⟨q, f⟩ := h.cell n c a hn ha hl
  have hap : a ≠ p := by
    rintro rfl
    cases c with
    | dead => cases hl
    | lst ds => obtain ⟨xs, z, _⟩ := q; rw [e] at z; cases z
    | dct l => obtain ⟨kvs, z, _⟩ := q; rw [e] at z; cases z
  refine ⟨?_, ?_⟩
  · rw [upd_ne hap]
    exact q.mono (Le.put hF)
  · show upd g.F p o a = none
    rw [upd_ne hap]
    exact f
/-- a new place of the store -/
def G.add (g : G) (p : Addr) : G := ⟨g.F, g.ρ ++ [p], g.pv⟩
theorem Le.add (p : Addr) : Le g (g.add p) := ⟨Same.refl _, ⟨[p], rfl⟩, rfl⟩
theorem HpOk.add {S : Store} {H : Hp} (h : HpOk K g S H) {p : Addr} {o : HO} {c : Cell} (e : H p = none) (hc : CellOk K g c (some o)) : HpOk K (g.add p) (S ++ [c]) (upd H p o) := by
  have hF : g.F p = none := h.free e
  have key : ∀ {n : Nat} {c' : Cell}, (S ++ [c])[n]? = some c' → (n < S.length ∧ S[n]? = some c') ∨ (n = S.length ∧ c' = c) := fun {n c'} z => by
    by_cases hn : n < S.length
    · rw [List.getElem?_append_left hn] at z; exact .inl ⟨hn, z⟩
    · rw [List.getElem?_append_right (by omega)] at z
      have : n - S.length = 0 := by
        cases hk : n - S.length with
        | zero => rfl
        | succ k => rw [hk] at z; simp at z
      rw [this] at z
      simp at z
      exact .inr ⟨by omega, z.symm⟩
  have kρ : ∀ {n : Nat} {a : Addr}, (g.ρ ++ [p])[n]? = some a → (n < S.length → g.ρ[n]? = some a) ∧ (n = S.length → a = p) := fun {n a} z => by
    refine ⟨fun hn => ?_, fun hn => ?_⟩
    · rw [List.getElem?_append_left (by rw [← h.len]; exact hn)] at z; exact z
    · rw [hn, h.len, List.getElem?_append_right (Nat.le_refl _)] at z
      simpa using z.symm
  have old : ∀ {n : Nat} {c' : Cell} {a : Addr}, S[n]? = some c' → g.ρ[n]? = some a → c'.live = true → a ≠ p := fun {n c' a} h1 h2 hl => by
    obtain ⟨q, f⟩ := h.cell n c' a h1 h2 hl
    rintro rfl
    cases c' with
    | dead => cases hl
    | lst ds => obtain ⟨xs, z, _⟩ := q; rw [e] at z; cases z
    | dct l => obtain ⟨kvs, z, _⟩ := q; rw [e] at z; cases z
  refine ⟨h.same.trans (same_new e), by show (S ++ [c]).length = (g.ρ ++ [p]).length; simp [h.len], fun n c' a hn ha hl => ?_, fun n m c' e' a h1 h2 h3 h4 h5 h6 => ?_, h.pv.trans (same_new e), h.pvF, fun n c' a hn ha hl => ?_⟩
  rotate_left 2
  · obtain ⟨k1, k2⟩ := kρ (n := n) (a := a) ha
    rcases key hn with ⟨hlt, z⟩ | ⟨he, rfl⟩
    · exact h.pvR n c' a z (k1 hlt) hl
    · rw [k2 he]
      exact h.pv.free e
  · obtain ⟨k1, k2⟩ := kρ (n := n) (a := a) ha
    rcases key hn with ⟨hlt, z⟩ | ⟨he, rfl⟩
    · have ha' := k1 hlt
      have hap := old z ha' hl
      obtain ⟨q, f⟩ := h.cell n c' a z ha' hl
      exact ⟨by rw [upd_ne hap]; exact q.mono (Le.add p), f⟩
    · have := k2 he
      subst this
      exact ⟨by rw [upd_same]; exact hc.mono (Le.add _), hF⟩
  · obtain ⟨k1, k2⟩ := kρ (n := n) (a := a) h5
    obtain ⟨l1, l2⟩ := kρ (n := m) (a := a) h6
    rcases key h1 with ⟨hn, z⟩ | ⟨hn, rfl⟩
    · rcases key h2 with ⟨hm, z'⟩ | ⟨hm, rfl⟩
      · exact h.inj n m c' e' a z z' h3 h4 (k1 hn) (l1 hm)
      · exact absurd (l2 hm) (old z (k1 hn) h3)
    · rcases key h2 with ⟨hm, z'⟩ | ⟨hm, rfl⟩
      · exact absurd (k2 hn) (old z' (l1 hm) h4)
      · omega
/-- a place is written -/
theorem HpOk.write {S : Store} {H : Hp} (h : HpOk K g S H) {n : Nat} {a : Addr} {c c' : Cell} {o : HO} (hn : S[n]? = some c) (hl : c.live = true) (ha : g.ρ[n]? = some a) (hc : CellOk K g c' (some o)) : HpOk K g (S.set n c') (upd H a o) := by
  obtain ⟨_, f⟩ := h.cell n c a hn ha hl
  have hlt := (List.getElem?_eq_some_iff.mp hn).1
  refine ⟨fun b x e => ?_, by simp [h.len], fun m e b hm hb hle => ?_, fun m k e e' b h1 h2 h3 h4 h5 h6 => ?_, fun b x e => ?_, h.pvF, fun m e b hm hb hle => ?_⟩
  rotate_left 3
  · rw [upd_ne (by rintro rfl; rw [h.pvR n c b hn ha hl] at e; cases e)]
    exact h.pv b x e
  · by_cases hmn : n = m
    · subst hmn
      exact h.pvR n c b hn hb hl
    · rw [List.getElem?_set_ne hmn] at hm
      exact h.pvR m e b hm hb hle
  · rw [upd_ne (by rintro rfl; rw [f] at e; cases e)]
    exact h.same b x e
  · by_cases hmn : n = m
    · subst hmn
      rw [List.getElem?_set_self hlt] at hm
      cases hm
      rw [ha] at hb
      cases hb
      exact ⟨by rw [upd_same]; exact hc, f⟩
    · rw [List.getElem?_set_ne hmn] at hm
      obtain ⟨q, f'⟩ := h.cell m e b hm hb hle
      refine ⟨?_, f'⟩
      rw [upd_ne]
      · exact q
      · rintro rfl
        exact hmn (h.inj n m c e b hn hm hl hle ha hb)
  · have back : ∀ {j : Nat} {x : Cell}, (S.set n c')[j]? = some x → x.live = true → ∃ y, S[j]? = some y ∧ y.live = true := fun {j x} z hx => by
      by_cases hj : n = j
      · subst hj; exact ⟨c, hn, hl⟩
      · rw [List.getElem?_set_ne hj] at z; exact ⟨x, z, hx⟩
    obtain ⟨y1, z1, l1⟩ := back h1 h3
    obtain ⟨y2, z2, l2⟩ := back h2 h4
    exact h.inj m k y1 y2 b z1 z2 l1 l2 h5 h6
/-- a list of the store is frozen -/
theorem HpOk.freeze {S : Store} {H : Hp} (h : HpOk K g S H) {n : Nat} {a : Addr} {ds : List D} (hn : S[n]? = some (.lst ds)) (ha : g.ρ[n]? = some a) :
    ∃ xs, HpOk K (g.put a (.lst xs)) (S.set n .dead) H ∧ Le g (g.put a (.lst xs)) ∧ Rep K (g.put a (.lst xs)) (.lst ds) (.ref a) := by
  obtain ⟨⟨xs, ho, r⟩, f⟩ := h.cell n _ a hn ha rfl
  have hlt := (List.getElem?_eq_some_iff.mp hn).1
  have le : Le g (g.put a (.lst xs)) := Le.put f
  refine ⟨xs, ⟨fun b x e => ?_, by rw [List.length_set]; exact h.len, fun m e b hm hb hle => ?_, fun m k e e' b h1 h2 h3 h4 h5 h6 => ?_, h.pv, fun b u q => ?_, fun m e b hm hb hle => ?_⟩, le, .lst upd_same (r.mono le)⟩
  rotate_left 3
  · show upd g.F a (.lst xs) b = none
    rw [upd_ne (by rintro rfl; have z : g.pv b = some u := q; rw [h.pvR n _ b hn ha rfl] at z; cases z)]
    exact h.pvF b u q
  · by_cases hmn : n = m
    · subst hmn
      rw [List.getElem?_set_self hlt] at hm
      cases hm
      cases hle
    · rw [List.getElem?_set_ne hmn] at hm
      exact h.pvR m e b hm hb hle
  · by_cases hb : b = a
    · subst hb
      have : upd g.F b (.lst xs) b = some x := e
      rw [upd_same] at this
      rw [ho]; exact this
    · have : upd g.F a (.lst xs) b = some x := e
      rw [upd_ne hb] at this
      exact h.same b x this
  · by_cases hmn : n = m
    · subst hmn
      rw [List.getElem?_set_self hlt] at hm
      cases hm
      cases hle
    · rw [List.getElem?_set_ne hmn] at hm
      obtain ⟨q, f'⟩ := h.cell m e b hm hb hle
      refine ⟨q.mono le, ?_⟩
      show upd g.F a (.lst xs) b = none
      rw [upd_ne]
      · exact f'
      · rintro rfl
        exact hmn (h.inj n m _ e b hn hm rfl hle ha hb)
  · have back : ∀ {j : Nat} {x : Cell}, (S.set n .dead)[j]? = some x → x.live = true → S[j]? = some x := fun {j x} z hx => by
      by_cases hj : n = j
      · subst hj
        rw [List.getElem?_set_self hlt] at z
        cases z; cases hx
      · rw [List.getElem?_set_ne hj] at z; exact z
    exact h.inj m k e e' b (back h1 h3) (back h2 h4) h3 h4 h5 h6

/-! the store is cut back -/
def G.cut (g : G) (n : Nat) : G := ⟨g.F, g.ρ.take n, g.pv⟩
theorem take_get {α : Type} {l : List α} {n i : Nat} {x : α} (h : (l.take n)[i]? = some x) : l[i]? = some x ∧ i < n := by
  rw [List.getElem?_take] at h
  split at h
  · exact ⟨h, by assumption⟩
  · cases h
mutual
theorem Rep.cut {n : Nat} : ∀ {d : D} {v : V}, Rep K g d v → D.rb n d = true → Rep K (g.cut n) d v
  | _, _, .non, _ => .non
  | _, _, .bl b, _ => .bl b
  | _, _, .int i, _ => .int i
  | _, _, .str x, _ => .str x
  | _, _, .tup q r, h => .tup q (RepL.cut r h)
  | _, _, .lst q r, h => .lst q (RepL.cut r h)
  | _, _, .frz q r, h => .frz q (RepL.cut r h)
  | .ref m, _, .ref e, h => .ref (by
      have hm : m < n := of_decide_eq_true h
      show (g.ρ.take n)[m]? = _
      rw [List.getElem?_take_of_lt hm]
      exact e)
theorem RepL.cut {n : Nat} : ∀ {ds : List D} {vs : List V}, RepL K g ds vs → D.rbL n ds = true → RepL K (g.cut n) ds vs
  | _, _, .nil, _ => .nil
  | _, _, .cons r q, h => by
    have h' : (D.rb n _ && D.rbL n _) = true := h
    rw [Bool.and_eq_true] at h'
    exact .cons (Rep.cut r h'.1) (RepL.cut q h'.2)
end
theorem RepP.cut {n : Nat} : ∀ {l : List (D × D)} {kvs : List (Key × V)}, RepP K g l kvs → rbP n l = true → RepP K (g.cut n) l kvs
  | _, _, .nil, _ => .nil
  | _, _, .cons r q, h => by
    unfold rbP at h
    rw [List.all_cons, Bool.and_eq_true, Bool.and_eq_true] at h
    exact .cons (r.cut h.1.2) (q.cut h.2)
theorem CellOk.cut {n : Nat} {c : Cell} {o : Option HO} (q : CellOk K g c o) (h : c.rb n = true) : CellOk K (g.cut n) c o := by
  cases c with
  | dead => trivial
  | lst ds => obtain ⟨xs, e, r⟩ := q; exact ⟨xs, e, r.cut h⟩
  | dct l => obtain ⟨kvs, e, r⟩ := q; exact ⟨kvs, e, r.cut h⟩
theorem HpOk.cut {S : Store} {H : Hp} (h : HpOk K g S H) (n : Nat) (hb : (S.take n).all (Cell.rb n) = true) : HpOk K (g.cut n) (S.take n) H := by
  refine ⟨h.same, by show _ = (g.ρ.take n).length; rw [List.length_take, List.length_take, h.len], fun m c a hm ha hl => ?_, fun m k c e a h1 h2 h3 h4 h5 h6 => ?_, h.pv, h.pvF, fun m c a hm ha hl => h.pvR m c a (take_get hm).1 (take_get (l := g.ρ) ha).1 hl⟩
  · obtain ⟨hm', _⟩ := take_get hm
    obtain ⟨ha', _⟩ := take_get (l := g.ρ) ha
    obtain ⟨q, f⟩ := h.cell m c a hm' ha' hl
    exact ⟨q.cut (List.all_eq_true.mp hb c (List.mem_of_getElem? hm)), f⟩
  · exact h.inj m k c e a (take_get h1).1 (take_get h2).1 h3 h4 (take_get (l := g.ρ) h5).1 (take_get (l := g.ρ) h6).1
theorem Le.cut (h : Le g g') : Le g (g'.cut g.ρ.length) := by
  obtain ⟨f, ⟨m, e⟩, p⟩ := h
  refine ⟨f, ⟨[], ?_⟩, p⟩
  show g'.ρ.take g.ρ.length = g.ρ ++ []
  rw [e, List.take_left, List.append_nil]

/-! what stands apart -/
def G.set (g : G) (p : Addr) (o : HO) : G := ⟨g.F, g.ρ, upd g.pv p o⟩
def G.back (g : G) (q : Hp) : G := ⟨g.F, g.ρ, q⟩
mutual
theorem Rep.pv {q : Hp} : ∀ {d : D} {v : V}, Rep K g d v → Rep K (g.back q) d v
  | _, _, .non => .non
  | _, _, .bl b => .bl b
  | _, _, .int i => .int i
  | _, _, .str x => .str x
  | _, _, .tup q r => .tup q (RepL.pv r)
  | _, _, .lst q r => .lst q (RepL.pv r)
  | _, _, .frz q r => .frz q (RepL.pv r)
  | _, _, .ref e => .ref e
theorem RepL.pv {q : Hp} : ∀ {ds : List D} {vs : List V}, RepL K g ds vs → RepL K (g.back q) ds vs
  | _, _, .nil => .nil
  | _, _, .cons r q => .cons (Rep.pv r) (RepL.pv q)
end
theorem RepP.pv {q : Hp} : ∀ {l : List (D × D)} {kvs : List (Key × V)}, RepP K g l kvs → RepP K (g.back q) l kvs
  | _, _, .nil => .nil
  | _, _, .cons r q => .cons r.pv (RepP.pv q)
theorem CellOk.pv {q : Hp} {c : Cell} {o : Option HO} (h : CellOk K g c o) : CellOk K (g.back q) c o := by
  cases c with
  | dead => trivial
  | lst ds => obtain ⟨xs, e, r⟩ := h; exact ⟨xs, e, r.pv⟩
  | dct l => obtain ⟨kvs, e, r⟩ := h; exact ⟨kvs, e, r.pv⟩
theorem FrOk.pv {q : Hp} {fr : Fr} {σ : St} (h : FrOk K g fr σ) : FrOk K (g.back q) fr σ := ⟨h.len, fun i d e => let ⟨v, e', r⟩ := h.at_ i d e; ⟨v, e', r.pv⟩⟩
/-- a new object stands apart -/
theorem HpOk.apart {S : Store} {H : Hp} (h : HpOk K g S H) {p : Addr} {o : HO} (e : H p = none) : HpOk K (g.set p o) S (upd H p o) := by
  have old : ∀ {n : Nat} {c : Cell} {a : Addr}, S[n]? = some c → g.ρ[n]? = some a → c.live = true → a ≠ p := fun {n c a} hn ha hl => by
    obtain ⟨q, _⟩ := h.cell n c a hn ha hl
    rintro rfl
    cases c with
    | dead => cases hl
    | lst ds => obtain ⟨xs, z, _⟩ := q; rw [e] at z; cases z
    | dct l => obtain ⟨kvs, z, _⟩ := q; rw [e] at z; cases z
  refine ⟨h.same.trans (same_new e), h.len, fun n c a hn ha hl => ?_, h.inj, same_upd2 h.pv, fun a u q => ?_, fun n c a hn ha hl => ?_⟩
  · obtain ⟨q, f⟩ := h.cell n c a hn ha hl
    exact ⟨by rw [upd_ne (old hn ha hl)]; exact q.pv, f⟩
  · have q : upd g.pv p o a = some u := q
    by_cases ha : a = p
    · subst ha; exact h.free e
    · rw [upd_ne ha] at q; exact h.pvF a u q
  · show upd g.pv p o a = none
    rw [upd_ne (old hn ha hl)]
    exact h.pvR n c a hn ha hl
/-- it changes -/
theorem HpOk.turn {S : Store} {H : Hp} (h : HpOk K g S H) {p : Addr} {o o' : HO} (e : g.pv p = some o) : HpOk K (g.set p o') S (upd H p o') := by
  have old : ∀ {n : Nat} {c : Cell} {a : Addr}, S[n]? = some c → g.ρ[n]? = some a → c.live = true → a ≠ p := fun {n c a} hn ha hl => by
    rintro rfl
    rw [h.pvR n c a hn ha hl] at e
    cases e
  refine ⟨fun b x q => ?_, h.len, fun n c a hn ha hl => ?_, h.inj, same_upd2 h.pv, fun a u q => ?_, fun n c a hn ha hl => ?_⟩
  · rw [upd_ne (by rintro rfl; have := h.pvF b o e; have q' : g.F b = some x := q; rw [this] at q'; cases q')]
    exact h.same b x q
  · obtain ⟨q, f⟩ := h.cell n c a hn ha hl
    exact ⟨by rw [upd_ne (old hn ha hl)]; exact q.pv, f⟩
  · have q : upd g.pv p o' a = some u := q
    by_cases ha : a = p
    · subst ha; exact h.pvF a o e
    · rw [upd_ne ha] at q; exact h.pvF a u q
  · show upd g.pv p o' a = none
    rw [upd_ne (old hn ha hl)]
    exact h.pvR n c a hn ha hl
/-- what stood apart is frozen -/
theorem HpOk.join {S : Store} {H : Hp} (h : HpOk K g S H) {p : Addr} {o : HO} {q : Hp} (e : g.pv p = some o) (hq : ∀ a, a ≠ p → q a = g.pv a) (hp : q p = none) : HpOk K ((g.put p o).back q) S H := by
  have sub : ∀ a u, q a = some u → g.pv a = some u ∧ a ≠ p := fun a u z => by
    have hne : a ≠ p := by rintro rfl; rw [hp] at z; cases z
    rw [hq a hne] at z
    exact ⟨z, hne⟩
  have old : ∀ {n : Nat} {c : Cell} {a : Addr}, S[n]? = some c → g.ρ[n]? = some a → c.live = true → a ≠ p := fun {n c a} hn ha hl => by
    rintro rfl
    rw [h.pvR n c a hn ha hl] at e
    cases e
  refine ⟨fun b x z => ?_, h.len, fun n c a hn ha hl => ?_, h.inj, fun a u z => h.pv a u (sub a u z).1, fun a u z => ?_, fun n c a hn ha hl => ?_⟩
  · have z : upd g.F p o b = some x := z
    by_cases hb : b = p
    · subst hb
      rw [upd_same] at z
      cases z
      exact h.pv b o e
    · rw [upd_ne hb] at z
      exact h.same b x z
  · obtain ⟨w, f⟩ := h.cell n c a hn ha hl
    have hne := old hn ha hl
    refine ⟨(w.mono (Le.put (h.pvF p o e))).pv, ?_⟩
    show upd g.F p o a = none
    rw [upd_ne hne]
    exact f
  · show upd g.F p o a = none
    obtain ⟨z1, z2⟩ := sub a u z
    rw [upd_ne z2]
    exact h.pvF a u z1
  · show q a = none
    rw [hq a (old hn ha hl)]
    exact h.pvR n c a hn ha hl
/-- what stood apart becomes a place of the store -/
theorem HpOk.join2 {S : Store} {H : Hp} (h : HpOk K g S H) {p : Addr} {o : HO} {c : Cell} {q : Hp} (e : g.pv p = some o) (hc : CellOk K g c (some o)) (hq : ∀ a, a ≠ p → q a = g.pv a) (hp : q p = none) : HpOk K ((g.add p).back q) (S ++ [c]) H := by
  have hF : g.F p = none := h.pvF p o e
  have sub : ∀ a u, q a = some u → g.pv a = some u ∧ a ≠ p := fun a u z => by
    have hne : a ≠ p := by rintro rfl; rw [hp] at z; cases z
    rw [hq a hne] at z
    exact ⟨z, hne⟩
  have old : ∀ {n : Nat} {c' : Cell} {a : Addr}, S[n]? = some c' → g.ρ[n]? = some a → c'.live = true → a ≠ p := fun {n c' a} hn ha hl => by
    rintro rfl
    rw [h.pvR n c' a hn ha hl] at e
    cases e
  have key : ∀ {n : Nat} {c' : Cell}, (S ++ [c])[n]? = some c' → (n < S.length ∧ S[n]? = some c') ∨ (n = S.length ∧ c' = c) := fun {n c'} z => by
    by_cases hn : n < S.length
    · rw [List.getElem?_append_left hn] at z; exact .inl ⟨hn, z⟩
    · rw [List.getElem?_append_right (by omega)] at z
      have : n - S.length = 0 := by
        cases hk : n - S.length with
        | zero => rfl
        | succ k => rw [hk] at z; simp at z
      rw [this] at z
      simp at z
      exact .inr ⟨by omega, z.symm⟩
  have kρ : ∀ {n : Nat} {a : Addr}, (g.ρ ++ [p])[n]? = some a → (n < S.length → g.ρ[n]? = some a) ∧ (n = S.length → a = p) := fun {n a} z => by
    refine ⟨fun hn => ?_, fun hn => ?_⟩
    · rw [List.getElem?_append_left (by rw [← h.len]; exact hn)] at z; exact z
    · rw [hn, h.len, List.getElem?_append_right (Nat.le_refl _)] at z
      simpa using z.symm
  refine ⟨h.same, by show (S ++ [c]).length = (g.ρ ++ [p]).length; simp [h.len], fun n c' a hn ha hl => ?_, fun n m c' e' a h1 h2 h3 h4 h5 h6 => ?_, fun a u z => h.pv a u (sub a u z).1, fun a u z => h.pvF a u (sub a u z).1, fun n c' a hn ha hl => ?_⟩
  · obtain ⟨k1, k2⟩ := kρ (n := n) (a := a) ha
    rcases key hn with ⟨hlt, z⟩ | ⟨he, rfl⟩
    · obtain ⟨w, f⟩ := h.cell n c' a z (k1 hlt) hl
      exact ⟨(w.mono (Le.add p)).pv, f⟩
    · have := k2 he
      subst this
      rw [h.pv _ _ e]
      exact ⟨(hc.mono (Le.add _)).pv, hF⟩
  · obtain ⟨k1, k2⟩ := kρ (n := n) (a := a) h5
    obtain ⟨l1, l2⟩ := kρ (n := m) (a := a) h6
    rcases key h1 with ⟨hn, z⟩ | ⟨hn, rfl⟩
    · rcases key h2 with ⟨hm, z'⟩ | ⟨hm, rfl⟩
      · exact h.inj n m c' e' a z z' h3 h4 (k1 hn) (l1 hm)
      · exact absurd (l2 hm) (old z (k1 hn) h3)
    · rcases key h2 with ⟨hm, z'⟩ | ⟨hm, rfl⟩
      · exact absurd (k2 hn) (old z' (l1 hm) h4)
      · omega
  · obtain ⟨k1, k2⟩ := kρ (n := n) (a := a) ha
    rcases key hn with ⟨hlt, z⟩ | ⟨he, rfl⟩
    · show q a = none
      rw [hq a (old z (k1 hlt) hl)]
      exact h.pvR n c' a z (k1 hlt) hl
    · rw [k2 he]; exact hp
end
end Dm

/-! DmB: the core language and what it computes. -/
namespace Dm
open PySem L2

/-! ### results -/
inductive Res (α : Type) where
  | ok (a : α) (S : Store)
  | ex (c : Nat) (fs : List D) (S : Store)
  | no
def Res.bind {α β : Type} (r : Res α) (f : α → Store → Res β) : Res β :=
  match r with
  | .ok a S => f a S
  | .ex c fs S => .ex c fs S
  | .no => .no
def Res.of {α : Type} (o : Option α) (S : Store) : Res α :=
  match o with
  | some a => .ok a S
  | none => .no
@[simp] theorem Res.bind_ok {α β : Type} (a : α) (S : Store) (f : α → Store → Res β) : (Res.ok a S).bind f = f a S := rfl
@[simp] theorem Res.bind_no {α β : Type} (f : α → Store → Res β) : (Res.no : Res α).bind f = .no := rfl
@[simp] theorem Res.bind_ex {α β : Type} (c : Nat) (fs : List D) (S : Store) (f : α → Store → Res β) : (Res.ex c fs S : Res α).bind f = .ex c fs S := rfl
@[simp] theorem Res.of_some {α : Type} (a : α) (S : Store) : Res.of (some a) S = .ok a S := rfl
@[simp] theorem Res.of_none {α : Type} (S : Store) : Res.of (none : Option α) S = .no := rfl

/-! ### data as the model's plain data -/
mutual
def D.py : D → PyData
  | .bl b => .bool b
  | .int i => .int i
  | .str s => .str s
  | .tup l => .tuple (D.pyL l)
  | .lst l => .list (D.pyL l)
  | _ => .none
termination_by structural d => d
def D.pyL : List D → List PyData
  | [] => []
  | d :: ds => D.py d :: D.pyL ds
termination_by structural d => d
end
mutual
/-- nothing within that may be written -/
def D.pure : D → Bool
  | .ref _ => false
  | .itr _ => false
  | .frz _ => false
  | .tup l => D.pureL l
  | .lst l => D.pureL l
  | _ => true
termination_by structural d => d
def D.pureL : List D → Bool
  | [] => true
  | d :: ds => D.pure d && D.pureL ds
termination_by structural d => d
end
/-- it can be compared -/
def D.cmpOk (d : D) : Bool := d.pure && SeqAt.shaped d.py
/-- the list, the dict at a place -/
def cellL (S : Store) (n : Nat) : Option (List D) := match S[n]? with
  | some (.lst l) => some l
  | _ => none
def cellD (S : Store) (n : Nat) : Option (List (D × D)) := match S[n]? with
  | some (.dct l) => some l
  | _ => none
/-- a list of the store as it stands now -/
def peek (S : Store) : D → D
  | .ref n => match cellL S n with
    | some l => .lst l
    | none => .ref n
  | d => d
def eqD (S : Store) (x y : D) : Option Bool :=
  if (peek S x).cmpOk && (peek S y).cmpOk then some (PyData.eqv (peek S x).py (peek S y).py) else none

/-- what stands in a sequence -/
def seqD (S : Store) : D → Option (List D)
  | .tup l => some l
  | .lst l => some l
  | .frz l => some l
  | .ref n => cellL S n
  | _ => none
/-- a list that is tracked as such -/
def lstD (S : Store) : D → Option (List D)
  | .lst l => some l
  | .ref n => cellL S n
  | _ => none

def truth (S : Store) : D → Option Bool
  | .non => some false
  | .bl b => some b
  | .int i => some (i != 0)
  | .str s => if s.length ≤ sizeLine then some (s.length != 0) else none
  | .tup l => some !l.isEmpty
  | .lst l => some !l.isEmpty
  | .frz l => some !l.isEmpty
  | .ref n => match cellL S n, cellD S n with
    | some l, _ => some !l.isEmpty
    | none, some l => some !l.isEmpty
    | none, none => none
  | .itr _ => none

/-! ### operators -/
def CMulB (i j : Int) : Bool := (decide (-(2 ^ 64) < i) && decide (i < 2 ^ 64)) || (decide (-(2 ^ 64) < j) && decide (j < 2 ^ 64)) || decide (i.natAbs.log2 + j.natAbs.log2 < 1000000)
def num : D → Option Int
  | .int i => some i
  | .bl b => some (if b then 1 else 0)
  | _ => none
def binD (op : Operator) (S : Store) (x y : D) : Option D :=
  match op, x, y with
  | .Add, .int i, .int j => some (.int (i + j))
  | .Add, .str a, .str b => if a.length + b.length ≤ sizeLine then some (.str (a ++ b)) else none
  | .Add, .tup a, .tup b => if a.length + b.length ≤ sizeLine then some (.tup (a ++ b)) else none
  | .Add, x, y => match lstD S x, lstD S y with
    | some a, some b => if a.length + b.length ≤ sizeLine then some (.lst (a ++ b)) else none
    | _, _ => none
  | .Sub, .int i, .int j => some (.int (i - j))
  | .Mult, .int i, .int j => if CMulB i j then some (.int (i * j)) else none
  | .FloorDiv, .int i, .int j => if 0 < j ∧ (j < 1073741824 ∨ j.natAbs.log2 < 9000) then some (.int (i / j)) else none
  | .Mod, .int i, .int j => if 0 < j then some (.int (i % j)) else none
  | .Pow, .int i, .int j => if 0 ≤ j ∧ j ≤ 1000000 ∧ i.natAbs < 2 ^ 64 then some (.int (i ^ j.toNat)) else none
  | _, _, _ => none
def isNon : D → Bool
  | .non => true
  | _ => false
def isBl (b : Bool) : D → Bool
  | .bl a => a == b
  | _ => false
def isD (x : D) : D → Option Bool
  | .non => some (isNon x)
  | .bl b => some (isBl b x)
  | _ => none
/-- x in y -/
def inD (S : Store) (x y : D) : Option Bool :=
  match y with
  | .str z => match x with
    | .str y => match y.cps.toList with
      | [c] => some (decide (c ∈ z.cps.toList))
      | _ => none
    | _ => none
  | .tup l => if x.cmpOk && (D.tup l).cmpOk then some (l.any fun e => PyData.eqv e.py x.py) else none
  | .lst l => if x.cmpOk && (D.lst l).cmpOk then some (l.any fun e => PyData.eqv e.py x.py) else none
  | .ref n => match cellL S n with
    | some l => if x.cmpOk && (D.lst l).cmpOk then some (l.any fun e => PyData.eqv e.py x.py) else none
    | none => none
  | _ => none
def cmpD (op : CmpOp) (S : Store) (x y : D) : Option Bool :=
  match op with
  | .Eq => eqD S x y
  | .NotEq => (eqD S x y).map (!·)
  | .Is => isD x y
  | .IsNot => (isD x y).map (!·)
  | .In => inD S x y
  | .NotIn => (inD S x y).map (!·)
  | .Lt => match x, y with
    | .int i, .int j => some (decide (i < j))
    | _, _ => none
  | .LtE => match x, y with
    | .int i, .int j => some (decide (i ≤ j))
    | _, _ => none
  | .Gt => match x, y with
    | .int i, .int j => some (decide (j < i))
    | _, _ => none
  | .GtE => match x, y with
    | .int i, .int j => some (decide (j ≤ i))
    | _, _ => none
def subD (S : Store) (x y : D) : Option D :=
  match y with
  | .int i => match x with
    | .str z => if z.length ≤ sizeLine then (atI z.cps.toList i).map fun c => .str ⟨#[c]⟩ else none
    | .tup l => atI l i
    | .lst l => atI l i
    | .frz l => atI l i
    | .ref n => (cellL S n).bind fun l => atI l i
    | _ => none
  | _ => none
def cutD (l : List D) (lo hi : Option Int) : List D := (l.drop (HT.sIx l.length 0 lo)).take (HT.sIx l.length l.length hi - HT.sIx l.length 0 lo)
def slcD (S : Store) (x : D) (lo hi : Option Int) : Option D :=
  match x with
  | .tup l => some (.tup (cutD l lo hi))
  | .lst l => some (.lst (cutD l lo hi))
  | .ref n => (cellL S n).map fun l => .lst (cutD l lo hi)
  | _ => none
def asInt : D → Option Int
  | .int i => some i
  | _ => none
def intsD : List D → Option (List Int)
  | [] => some []
  | .int i :: ds => (intsD ds).map (i :: ·)
  | _ :: _ => none
def boolsD : List D → Option (List Bool)
  | [] => some []
  | .bl b :: ds => (boolsD ds).map (b :: ·)
  | _ :: _ => none
def strsD : List D → Option (List Str)
  | [] => some []
  | .str b :: ds => (strsD ds).map (b :: ·)
  | _ :: _ => none

inductive Ty where
  | int | bool | str | tuple | list
  deriving DecidableEq
def isiD (S : Store) (t : Ty) (x : D) : Option Bool :=
  match x with
  | .non => some false
  | .bl _ => some (t == .int || t == .bool)
  | .int _ => some (t == .int)
  | .str _ => some (t == .str)
  | .tup _ => some (t == .tuple)
  | .lst _ => some (t == .list)
  | _ => none

/-- what sorted(..) takes: data that are alike, place by place -/
def sortB (ds : List PyData) : Bool := (ds.all fun d => ds.all fun e => PySem.W.alike d e) && ((ds.all fun d => match d with | .tuple (_ :: _) => true | _ => false) || (ds.all fun d => match d with | .none => false | .tuple _ => false | _ => true)) && (ds.all fun d => decide (d.depth ≤ 60))
def sortD (l : List D) : List D := l.mergeSort (PySem.W.dataLe false D.py)
/-- built-in functions by values -/
inductive Bi where
  | len | sum | min1 | max1 | min2 | max2 | abs | all | any | tuple | list | int | sorted | gcd | str
  deriving DecidableEq
def maxL (ns : List Int) : Option Int := ns.max?
def minL (ns : List Int) : Option Int := ns.min?
def lenD (S : Store) : D → Option Int
  | .str z => if z.length ≤ sizeLine then some z.length else none
  | .ref n => match cellL S n, cellD S n with
    | some l, _ => some l.length
    | none, some l => some l.length
    | none, none => none
  | .tup l => some l.length
  | .lst l => some l.length
  | .frz l => some l.length
  | _ => none
def biD (f : Bi) (S : Store) (xs : List D) : Option D :=
  match f, xs with
  | .len, [x] => (lenD S x).map .int
  | .sum, [x] => (seqD S x).bind fun l => (intsD l).map fun ns => .int ns.sum
  | .min1, [x] => (lstD S x).bind fun l => (intsD l).bind fun ns => (minL ns).map .int
  | .max1, [x] => (lstD S x).bind fun l => (intsD l).bind fun ns => (maxL ns).map .int
  | .min2, [.int i, .int j] => some (.int (if j < i then j else i))
  | .max2, [.int i, .int j] => some (.int (if j > i then j else i))
  | .abs, [.int i] => some (.int (if i < 0 then -i else i))
  | .all, [x] => (lstD S x).bind fun l => (boolsD l).map fun bs => .bl (bs.all id)
  | .any, [x] => (lstD S x).bind fun l => (boolsD l).map fun bs => .bl (bs.any id)
  | .tuple, [x] => match x with
    | .tup l => some (.tup l)
    | x => (lstD S x).map .tup
  | .list, [x] => (seqD S x).map .lst
  | .int, [.int i] => some (.int i)
  | .int, [.bl b] => some (.int (if b then 1 else 0))
  | .sorted, [x] => (lstD S x).bind fun l => if D.pureL l && sortB (D.pyL l) then some (.lst (sortD l)) else none
  | .gcd, [.int i, .int j] => some (.int ((Nat.gcd i.natAbs j.natAbs : Nat) : Int))
  | _, _ => none

/-- max, min with default= -/
def mdD (mx : Bool) (S : Store) (x y : D) : Option D := ((lstD S x).bind intsD).map fun ns => match (if mx then maxL ns else minL ns) with
  | some m => .int m
  | none => y
/-- methods of built-in types by values -/
inductive Me where
  | index | join | count
  deriving DecidableEq
def idxOf (x : D) : List D → Option Nat
  | [] => none
  | e :: r => if PyData.eqv e.py x.py then some 0 else (idxOf x r).map (· + 1)
def meD (m : Me) (S : Store) (o : D) (xs : List D) : Option D :=
  match m, o, xs with
  | .index, o, [x] => match lstD S o with
    | some l => if x.cmpOk && (D.lst l).cmpOk then (idxOf x l).map fun (k : Nat) => .int k else none
    | none => none
  | .join, .str z, [x] => (lstD S x).bind fun l => (strsD l).bind fun ss => if (ss.map (·.length)).sum + ss.length * z.length ≤ 16777216 then some (.str (Txt.join z ss)) else none
  | _, _, _ => none

/-- the receiver is of the method's type -/
def meTy (m : Me) (S : Store) (o : D) : Bool :=
  match m with
  | .index => (lstD S o).isSome
  | .count => (lstD S o).isSome
  | .join => match o with
    | .str _ => true
    | _ => false

/-- what a for walks over a value -/
def iterD (S : Store) : D → Option (List D)
  | .itr l => some l
  | .tup l => some l
  | .lst l => some l
  | .str z => some (z.cps.toList.map fun c => .str ⟨#[c]⟩)
  | _ => none

/-! ### the language -/
inductive Pat where
  | v (i : Nat)
  | t (ps : List Pat)

inductive E where
  | int (i : Int) | bl (b : Bool) | non | str (s : Str)
  | var (i : Nat)
  | glob (k : Nat)
  | bin (op : Operator) (a b : E)
  | neg (a : E)
  | not (a : E)
  | cmp (op : CmpOp) (a b : E)
  | cmp2 (op op' : CmpOp) (a b c : E)
  | and (a b : E)
  | or (a b : E)
  | ite (c a b : E)
  | tup (es : List E)
  | lst (es : List E)
  | mkl (es : List E)
  | sub (a i : E)
  | slc (a : E) (lo hi : Option E)
  | rev (a : E)
  | call (f : Nat) (es : List E)
  | bi (f : Bi) (es : List E)
  | maxd (a d : E)
  | mind (a d : E)
  | me (m : Me) (o : E) (es : List E)
  | isi (t : Ty) (a : E)
  | app (o e : E)
  | range (es : List E)
  | enum (a : E)
  | zip (a b : E)
  | comp (fz : Bool) (own : List (Str × Nat)) (p : Pat) (it : E) (cs : List E) (e : E)

inductive S where
  | asg (p : Pat) (e : E)
  | setI (o i e : E)
  | aug (op : Operator) (i : Nat) (e : E)
  | expr (e : E)
  | iff (c : E) (a b : List S)
  | whl (c : E) (a : List S)
  | for_ (p : Pat) (it : E) (a : List S)
  | ret (e : E)
  | brk | cnt | pass
  | fz (i : Nat)
  /-- x = zip(a, b); return all([e for p in x]), of tuples -/
  | zall (i : Nat) (a b : E) (own : List (Str × Nat)) (p : Pat) (e : E)

/-! ### what it computes -/
structure Fns where
  call : Nat → List D → Store → Res D
  const : Nat → Option D
  fuel : Nat

mutual
def asgP : Pat → D → Fr → Option Fr
  | .v i, d, fr => some (fr.set i (some d))
  | .t ps, .tup ds, fr => asgPs ps ds fr
  | .t _, _, _ => none
termination_by structural p => p
def asgPs : List Pat → List D → Fr → Option Fr
  | [], [], fr => some fr
  | p :: ps, d :: ds, fr => (asgP p d fr).bind fun fr' => asgPs ps ds fr'
  | _, _, _ => none
termination_by structural ps => ps
end
/-- the slots of a block's own names forgotten -/
def wipeF (fr : Fr) : List Nat → Fr
  | [] => fr
  | v :: vs => (wipeF fr vs).set v none

/-- a comprehension's turns -/
def compF (p : Pat) (test : Fr → Store → Res Bool) (elt : Fr → Store → Res D) (fr : Fr) : List D → List D → Store → Res (List D)
  | [], acc, S => .ok acc S
  | d :: ds, acc, S => match asgP p d fr with
    | none => .no
    | some fr' => (test fr' S).bind fun b S1 =>
      if b then (elt fr' S1).bind fun x S2 => if acc.length < sizeLine then compF p test elt fr ds (acc ++ [x]) S2 else .no
      else compF p test elt fr ds acc S1

/-- an int that range(..) takes; kept shut, so that no step of a proof runs the test at an unknown int -/
@[irreducible] def inR (i : Int) : Bool := decide (-(2 ^ 62) ≤ i ∧ i < 2 ^ 62)
theorem inR_iff {i : Int} : inR i = true ↔ (-(2 ^ 62) ≤ i ∧ i < 2 ^ 62) := by
  unfold inR
  exact decide_eq_true_iff
/-- range(..)'s intsD -/
def rangeD : List D → Option (List D)
  | [.int j] => if inR j = true then some ((List.range j.toNat).map fun k => .int (k : Nat)) else none
  | [.int i, .int j] => if inR i = true ∧ inR j = true then some ((List.range (j - i).toNat).map fun k => .int (i + (k : Nat))) else none
  | _ => none
def enumD (l : List D) : List D := l.zipIdx.map fun p => .tup [.int (p.2 : Nat), p.1]
def zipD (l m : List D) : List D := (l.zip m).map fun p => .tup [p.1, p.2]

mutual
def evE (Φ : Fns) : E → Fr → Store → Res D
  | .int i, _, S => .ok (.int i) S
  | .bl b, _, S => .ok (.bl b) S
  | .non, _, S => .ok .non S
  | .str s, _, S => .ok (.str s) S
  | .var i, fr, S => match fr[i]? with
    | some (some d) => .ok d S
    | _ => .no
  | .glob k, _, S => Res.of (Φ.const k) S
  | .bin op a b, fr, S => (evE Φ a fr S).bind fun x S1 => (evE Φ b fr S1).bind fun y S2 => Res.of (binD op S2 x y) S2
  | .neg a, fr, S => (evE Φ a fr S).bind fun x S1 => match x with
    | .int i => .ok (.int (-i)) S1
    | _ => .no
  | .not a, fr, S => (evE Φ a fr S).bind fun x S1 => match truth S1 x with
    | some b => .ok (.bl !b) S1
    | none => .no
  | .cmp op a b, fr, S => (evE Φ a fr S).bind fun x S1 => (evE Φ b fr S1).bind fun y S2 => match cmpD op S2 x y with
    | some r => .ok (.bl r) S2
    | none => .no
  | .cmp2 op op' a b c, fr, S => (evE Φ a fr S).bind fun x S1 => (evE Φ b fr S1).bind fun y S2 => match cmpD op S2 x y with
    | some false => .ok (.bl false) S2
    | some true => (evE Φ c fr S2).bind fun z S3 => match cmpD op' S3 y z with
      | some r => .ok (.bl r) S3
      | none => .no
    | none => .no
  | .and a b, fr, S => (evE Φ a fr S).bind fun x S1 => match truth S1 x with
    | some true => evE Φ b fr S1
    | some false => .ok x S1
    | none => .no
  | .or a b, fr, S => (evE Φ a fr S).bind fun x S1 => match truth S1 x with
    | some true => .ok x S1
    | some false => evE Φ b fr S1
    | none => .no
  | .ite c a b, fr, S => (evE Φ c fr S).bind fun x S1 => match truth S1 x with
    | some true => evE Φ a fr S1
    | some false => evE Φ b fr S1
    | none => .no
  | .tup es, fr, S => (evEs Φ es fr S).bind fun xs S1 => if xs.length ≤ sizeLine then .ok (.tup xs) S1 else .no
  | .lst es, fr, S => (evEs Φ es fr S).bind fun xs S1 => if xs.length ≤ sizeLine then .ok (.lst xs) S1 else .no
  | .mkl es, fr, S => (evEs Φ es fr S).bind fun xs S1 => if xs.length ≤ sizeLine then .ok (.ref S1.length) (S1 ++ [.lst xs]) else .no
  | .sub a i, fr, S => (evE Φ a fr S).bind fun x S1 => (evE Φ i fr S1).bind fun y S2 => Res.of (subD S2 x y) S2
  | .slc a lo hi, fr, S => (evE Φ a fr S).bind fun x S1 => (evO Φ lo fr S1).bind fun l S2 => (evO Φ hi fr S2).bind fun h S3 => Res.of (slcD S3 x l h) S3
  | .rev a, fr, S => (evE Φ a fr S).bind fun x S1 => match lstD S1 x with
    | some l => .ok (.lst l.reverse) S1
    | none => .no
  | .call f es, fr, S => (evEs Φ es fr S).bind fun xs S1 => Φ.call f xs S1
  | .bi f es, fr, S => (evEs Φ es fr S).bind fun xs S1 => Res.of (biD f S1 xs) S1
  | .maxd a d, fr, S => (evE Φ a fr S).bind fun x S1 => (evE Φ d fr S1).bind fun y S2 => Res.of (mdD true S2 x y) S2
  | .mind a d, fr, S => (evE Φ a fr S).bind fun x S1 => (evE Φ d fr S1).bind fun y S2 => Res.of (mdD false S2 x y) S2
  | .me m o es, fr, S => (evE Φ o fr S).bind fun x S1 => match meTy m S1 x with
    | true => (evEs Φ es fr S1).bind fun xs S2 => Res.of (meD m S2 x xs) S2
    | false => .no
  | .isi t a, fr, S => (evE Φ a fr S).bind fun x S1 => match isiD S1 t x with
    | some b => .ok (.bl b) S1
    | none => .no
  | .app o e, fr, S => (evE Φ o fr S).bind fun x S1 => match x with
    | .ref n => match cellL S1 n with
      | some _ => (evE Φ e fr S1).bind fun y S2 => match cellL S2 n with
        | some l => if l.length < sizeLine then .ok .non (S2.set n (.lst (l ++ [y]))) else .no
        | none => .no
      | none => .no
    | _ => .no
  | .range es, fr, S => (evEs Φ es fr S).bind fun xs S1 => match rangeD xs with
    | some l => .ok (.itr l) S1
    | none => .no
  | .enum a, fr, S => (evE Φ a fr S).bind fun x S1 => match x with
    | .lst l => .ok (.itr (enumD l)) S1
    | .tup l => .ok (.itr (enumD l)) S1
    | _ => .no
  | .zip a b, fr, S => (evE Φ a fr S).bind fun x S1 => (evE Φ b fr S1).bind fun y S2 => match x, y with
    | .lst l, .lst m => .ok (.itr (zipD l m)) S2
    | .tup l, .tup m => .ok (.itr (zipD l m)) S2
    | .lst l, .tup m => .ok (.itr (zipD l m)) S2
    | .tup l, .lst m => .ok (.itr (zipD l m)) S2
    | _, _ => .no
  | .comp fz own p it cs e, fr, S => (evE Φ it fr S).bind fun x S1 => match iterD S1 x with
    | none => .no
    | some l =>
      match fz with
      | true => (compF p (evTs Φ cs) (evE Φ e) (wipeF fr (own.map (·.2))) l [] S1).bind fun r S2 => .ok (.lst r) S2
      | false => (compF p (evTs Φ cs) (evE Φ e) (wipeF fr (own.map (·.2))) l [] S1).bind fun r S2 => .ok (.ref S2.length) (S2 ++ [.lst r])
termination_by structural c => c
def evEs (Φ : Fns) : List E → Fr → Store → Res (List D)
  | [], _, S => .ok [] S
  | c :: cs, fr, S => (evE Φ c fr S).bind fun x S1 => (evEs Φ cs fr S1).bind fun xs S2 => .ok (x :: xs) S2
termination_by structural cs => cs
def evO (Φ : Fns) : Option E → Fr → Store → Res (Option Int)
  | none, _, S => .ok none S
  | some c, fr, S => (evE Φ c fr S).bind fun x S1 => match x with
    | .int i => .ok (some i) S1
    | _ => .no
termination_by structural o => o
def evTs (Φ : Fns) : List E → Fr → Store → Res Bool
  | [], _, S => .ok true S
  | c :: cs, fr, S => (evE Φ c fr S).bind fun x S1 => match truth S1 x with
    | some true => evTs Φ cs fr S1
    | some false => .ok false S1
    | none => .no
termination_by structural cs => cs
end
/-- a test -/
def evT (Φ : Fns) (c : E) (fr : Fr) (S : Store) : Res Bool := (evE Φ c fr S).bind fun x S1 => Res.of (truth S1 x) S1

inductive Out where
  | nx (fr : Fr) | ret (d : D) | bk (fr : Fr) | ct (fr : Fr)

def whileF (c : Fr → Store → Res Bool) (b : Fr → Store → Res Out) : Nat → Fr → Store → Res Out
  | 0, _, _ => .no
  | n + 1, fr, S => (c fr S).bind fun t S1 => match t with
    | false => .ok (.nx fr) S1
    | true => (b fr S1).bind fun o S2 => match o with
      | .nx fr' => whileF c b n fr' S2
      | .ct fr' => whileF c b n fr' S2
      | .bk fr' => .ok (.nx fr') S2
      | .ret d => .ok (.ret d) S2
def forF (p : Pat) (b : Fr → Store → Res Out) : List D → Fr → Store → Res Out
  | [], fr, S => .ok (.nx fr) S
  | d :: ds, fr, S => match asgP p d fr with
    | none => .no
    | some fr1 => (b fr1 S).bind fun o S2 => match o with
      | .nx fr' => forF p b ds fr' S2
      | .ct fr' => forF p b ds fr' S2
      | .bk fr' => .ok (.nx fr') S2
      | .ret d => .ok (.ret d) S2

mutual
def evS (Φ : Fns) : S → Fr → Store → Res Out
  | .asg p e, fr, S => (evE Φ e fr S).bind fun x S1 => match asgP p x fr with
    | some fr' => .ok (.nx fr') S1
    | none => .no
  | .setI o i e, fr, S => (evE Φ e fr S).bind fun x S1 => (evE Φ o fr S1).bind fun y S2 => (evE Φ i fr S2).bind fun z S3 => match y, z with
    | .ref n, .int k => match cellL S3 n with
      | some l => match ixN l.length k with
        | some j => .ok (.nx fr) (S3.set n (.lst (l.set j x)))
        | none => .no
      | none => .no
    | _, _ => .no
  | .aug op i e, fr, S => match fr[i]? with
    | some (some x) => (evE Φ e fr S).bind fun y S1 => match op, x, y with
      | .Add, .int a, .int b => .ok (.nx (fr.set i (some (.int (a + b))))) S1
      | _, _, _ => .no
    | _ => .no
  | .expr e, fr, S => (evE Φ e fr S).bind fun _ S1 => .ok (.nx fr) S1
  | .iff c a b, fr, S => (evT Φ c fr S).bind fun t S1 => match t with
    | true => evSs Φ a fr S1
    | false => evSs Φ b fr S1
  | .whl c a, fr, S => whileF (evT Φ c) (evSs Φ a) Φ.fuel fr S
  | .for_ p it a, fr, S => (evE Φ it fr S).bind fun x S1 => match iterD S1 x with
    | none => .no
    | some l => forF p (evSs Φ a) l fr S1
  | .ret e, fr, S => (evE Φ e fr S).bind fun x S1 => .ok (.ret x) S1
  | .brk, fr, S => .ok (.bk fr) S
  | .cnt, fr, S => .ok (.ct fr) S
  | .pass, fr, S => .ok (.nx fr) S
  | .zall i a b own p e, fr, S => (evE Φ a fr S).bind fun x S1 => (evE Φ b fr S1).bind fun y S2 => match x, y with
    | .tup l, .tup m => if i < fr.length then (compF p (evTs Φ []) (evE Φ e) (wipeF (fr.set i none) (own.map (·.2))) (zipD l m) [] S2).bind fun r S3 => match boolsD r with
      | some bs => .ok (.ret (.bl (bs.all id))) S3
      | none => .no
      else .no
    | _, _ => .no
  | .fz i, fr, S => match fr[i]? with
    | some (some (.ref n)) => match cellL S n with
      | some l => .ok (.nx (fr.set i (some (.lst l)))) (S.set n .dead)
      | none => .no
    | _ => .no
termination_by structural s => s
def evSs (Φ : Fns) : List S → Fr → Store → Res Out
  | [], fr, S => .ok (.nx fr) S
  | s :: r, fr, S => (evS Φ s fr S).bind fun o S1 => match o with
    | .nx fr' => evSs Φ r fr' S1
    | .ret d => .ok (.ret d) S1
    | .bk fr' => .ok (.bk fr') S1
    | .ct fr' => .ok (.ct fr') S1
termination_by structural r => r
end

/-- behind a call: what the callee made goes, if nothing names it -/
def cutR (n : Nat) (d : D) (S : Store) : Res D :=
  if n ≤ S.length ∧ d.rb n = true ∧ (S.take n).all (Cell.rb n) = true then .ok d (S.take n) else .ok d S

/-- a def: its parameters, its names (parameters first), its body -/
structure Fd where
  np : Nat
  N : List Str
  body : List Dm.S
def runFd (Φ : Fns) (f : Fd) (args : List D) (S : Store) : Res D :=
  if args.length = f.np then
    (evSs Φ f.body (args.map some ++ List.replicate (f.N.length - args.length) none) S).bind fun o S' => match o with
      | .ret d => cutR S.length d S'
      | .nx _ => cutR S.length .non S'
      | _ => .no
  else .no

structure Prog where
  fns : List Fd
  consts : List D
/-- what the defs are worth, so many calls deep -/
def fnsAt (P : Prog) (w : Nat) : Nat → Fns
  | 0 => ⟨fun _ _ _ => .no, fun k => P.consts[k]?, w⟩
  | n + 1 => ⟨fun f args S => match P.fns[f]? with
    | some fd => runFd (fnsAt P w n) fd args S
    | none => .no, fun k => P.consts[k]?, w⟩
end Dm

/-! DmC: the primitives are sound. -/
namespace Dm
open PySem L2

section
variable (K : PySem.W.Frag)
def Post (g : G) (d : D) (S : Store) (Q : VK) : Prop := ∀ v H' g', Le g g' → HpOk K g' S H' → Rep K g' d v → Q v H'
def LPost (g : G) (ds : List D) (S : Store) (Q : List V → Hp → Prop) : Prop := ∀ vs H' g', Le g g' → HpOk K g' S H' → RepL K g' ds vs → Q vs H'
def BPost (g : G) (b : Bool) (S : Store) (Q : Bool → Hp → Prop) : Prop := ∀ H' g', Le g g' → HpOk K g' S H' → Q b H'
def RPost {α : Type} (P : α → Store → Prop) : Res α → Prop
  | .ok a S => P a S
  | _ => False
end
section
variable {K : PySem.W.Frag} {g g' : G} {S : Store} {H : Hp} {Q : VK}
theorem Post.mono (h : Le g g') {d : D} (q : Post K g d S Q) : Post K g' d S Q := fun v H' g2 l hh r => q v H' g2 (h.trans l) hh r
theorem LPost.mono (h : Le g g') {ds : List D} {Q : List V → Hp → Prop} (q : LPost K g ds S Q) : LPost K g' ds S Q := fun v H' g2 l hh r => q v H' g2 (h.trans l) hh r
theorem BPost.mono (h : Le g g') {b : Bool} {Q : Bool → Hp → Prop} (q : BPost K g b S Q) : BPost K g' b S Q := fun H' g2 l hh => q H' g2 (h.trans l) hh
theorem Post.now {d : D} {v : V} (q : Post K g d S Q) (hh : HpOk K g S H) (r : Rep K g d v) : Q v H := q v H g (Le.refl g) hh r
theorem Post.tup {ds : List D} {xs : List V} (q : Post K g (.tup ds) S Q) (hh : HpOk K g S H) (r : RepL K g ds xs) : ∀ p, H p = none → Q (.ref p) (upd H p (.tup xs)) := fun p e =>
  q _ _ _ (Le.put (hh.free e)) (hh.put e) (.tup (.inl (.inl upd_same)) (r.mono (Le.put (hh.free e))))
theorem Post.lst {ds : List D} {xs : List V} (q : Post K g (.lst ds) S Q) (hh : HpOk K g S H) (r : RepL K g ds xs) : ∀ p, H p = none → Q (.ref p) (upd H p (.lst xs)) := fun p e =>
  q _ _ _ (Le.put (hh.free e)) (hh.put e) (.lst upd_same (r.mono (Le.put (hh.free e))))
theorem Post.add {c : Cell} {o : HO} (q : Post K g (.ref S.length) (S ++ [c]) Q) (hh : HpOk K g S H) (hc : CellOk K g c (some o)) : ∀ p, H p = none → Q (.ref p) (upd H p o) := fun p e =>
  q _ _ _ (Le.add p) (hh.add e hc) (.ref (by show (g.ρ ++ [p])[S.length]? = _; rw [hh.len, List.getElem?_append_right (Nat.le_refl _)]; simp))

theorem cellL_eq {n : Nat} {l : List D} (h : cellL S n = some l) : S[n]? = some (.lst l) := by
  unfold cellL at h
  split at h
  · cases h; assumption
  · cases h
theorem cellD_eq {n : Nat} {l : List (D × D)} (h : cellD S n = some l) : S[n]? = some (.dct l) := by
  unfold cellD at h
  split at h
  · cases h; assumption
  · cases h
theorem HpOk.lst {n : Nat} {a : Addr} {l : List D} (hh : HpOk K g S H) (h : cellL S n = some l) (e : g.ρ[n]? = some a) : ∃ xs, H a = some (.lst xs) ∧ RepL K g l xs :=
  (hh.cell n (.lst l) a (cellL_eq h) e rfl).1
theorem HpOk.dct {n : Nat} {a : Addr} {l : List (D × D)} (hh : HpOk K g S H) (h : cellD S n = some l) (e : g.ρ[n]? = some a) : ∃ kvs, H a = some (.dK kvs) ∧ RepP K g l kvs :=
  (hh.cell n (.dct l) a (cellD_eq h) e rfl).1
/-- what stands in a sequence, in the heap -/
theorem seq_of {d : D} {v : V} {l : List D} (hh : HpOk K g S H) (r : Rep K g d v) (h : seqD S d = some l) : ∃ p xs, v = .ref p ∧ (SqL K H p xs ∨ SqT K H p xs) ∧ RepL K g l xs := by
  cases r with
  | tup q rl => cases h; exact ⟨_, _, rfl, .inr (sqT_mono hh.same q), rl⟩
  | lst q rl => cases h; exact ⟨_, _, rfl, .inl (.inl (.inl (hh.same _ _ q))), rl⟩
  | frz q rl => cases h; exact ⟨_, _, rfl, .inl (hh.same.seq q), rl⟩
  | ref e =>
    obtain ⟨xs, ho, rl⟩ := hh.lst h e
    exact ⟨_, xs, rfl, .inl (.inl (.inl ho)), rl⟩
  | non => cases h
  | bl => cases h
  | int => cases h
  | str => cases h
theorem lst_of {d : D} {v : V} {l : List D} (hh : HpOk K g S H) (r : Rep K g d v) (h : lstD S d = some l) : ∃ p xs, v = .ref p ∧ H p = some (.lst xs) ∧ RepL K g l xs := by
  cases r with
  | lst q rl => cases h; exact ⟨_, _, rfl, hh.same _ _ q, rl⟩
  | ref e =>
    obtain ⟨xs, ho, rl⟩ := hh.lst h e
    exact ⟨_, xs, rfl, ho, rl⟩
  | tup => cases h
  | frz => cases h
  | non => cases h
  | bl => cases h
  | int => cases h
  | str => cases h

mutual
theorem rep_dp (hh : HpOk K g S H) : ∀ {d : D} {v : V}, Rep K g d v → d.pure = true → Dp K H v d.py
  | _, _, .non, _ => .non
  | _, _, .bl b, _ => .bl b
  | _, _, .int i, _ => .int i
  | _, _, .str x, _ => .str x
  | .tup l, _, .tup q r, h => .tup (sqT_mono hh.same q) (repL_dp hh r h)
  | .lst l, _, .lst q r, h => .lst (.inl (.inl (hh.same _ _ q))) (repL_dp hh r h)
  | _, _, .frz q r, h => by cases h
  | _, _, .ref e, h => by cases h
theorem repL_dp (hh : HpOk K g S H) : ∀ {ds : List D} {vs : List V}, RepL K g ds vs → D.pureL ds = true → DpAll K H vs (D.pyL ds)
  | _, _, .nil, _ => .nil
  | d :: ds, _, .cons r q, h => by
    have h' : (d.pure && D.pureL ds) = true := h
    rw [Bool.and_eq_true] at h'
    exact .cons (rep_dp hh r h'.1) (repL_dp hh q h'.2)
end
/-- a list of the store, or data -/
theorem peek_dp {d : D} {v : V} (hh : HpOk K g S H) (r : Rep K g d v) (h : (peek S d).cmpOk = true) : Dp K H v (peek S d).py ∧ SeqAt.shaped (peek S d).py = true := by
  unfold D.cmpOk at h
  rw [Bool.and_eq_true] at h
  refine ⟨?_, h.2⟩
  cases d with
  | ref n =>
    cases r with
    | ref e =>
      cases hn : cellL S n with
      | none =>
        have e1 : peek S (.ref n) = .ref n := by show (match cellL S n with | some l => D.lst l | none => D.ref n) = _; rw [hn]
        rw [e1] at h; cases h.1
      | some l =>
        have e1 : peek S (.ref n) = .lst l := by show (match cellL S n with | some l => D.lst l | none => D.ref n) = _; rw [hn]
        rw [e1] at h ⊢
        obtain ⟨xs, ho, rl⟩ := hh.lst hn e
        exact .lst (.inl (.inl ho)) (repL_dp hh rl h.1)
  | _ => exact rep_dp hh r h.1
theorem cmp_dp {d : D} {v : V} (hh : HpOk K g S H) (r : Rep K g d v) (h : d.cmpOk = true) : Dp K H v d.py ∧ SeqAt.shaped d.py = true := by
  unfold D.cmpOk at h
  rw [Bool.and_eq_true] at h
  exact ⟨rep_dp hh r h.1, h.2⟩

/-- truth -/
theorem truth_of {d : D} {v : V} {b : Bool} (hh : HpOk K g S H) (r : Rep K g d v) (h : truth S d = some b) : TruV K v H b := by
  have em : ∀ {ds : List D} {vs : List V}, RepL K g ds vs → ds.isEmpty = vs.isEmpty := fun {ds vs} q => by cases q <;> rfl
  cases r with
  | non => cases h; rfl
  | bl b => cases h; rfl
  | int i => cases h; rfl
  | str x =>
    have h : (if x.length ≤ sizeLine then some (x.length != 0) else none) = some b := h
    split at h
    · rename_i hl
      cases h
      refine ⟨hl, ?_⟩
      cases x.length <;> rfl
    · cases h
  | tup q rl =>
    cases h
    exact .inr (.inl ⟨_, sqT_mono hh.same q, by rw [em rl]⟩)
  | lst q rl =>
    cases h
    exact .inl ⟨_, .inl (.inl (hh.same _ _ q)), by rw [em rl]⟩
  | frz q rl =>
    cases h
    exact .inl ⟨_, hh.same.seq q, by rw [em rl]⟩
  | ref e =>
    rename_i a n
    have h : (match cellL S n, cellD S n with | some l, _ => some !l.isEmpty | none, some l => some !l.isEmpty | none, none => none) = some b := h
    split at h
    · rename_i hn
      cases h
      obtain ⟨xs, ho, rl⟩ := hh.lst hn e
      exact .inl ⟨xs, .inl (.inl ho), by rw [em rl]⟩
    · rename_i hn
      cases h
      obtain ⟨kvs, ho, rl⟩ := hh.dct hn e
      refine .inr (.inr ⟨kvs, ho, ?_⟩)
      cases rl <;> rfl
    · cases h
end

/-! ### operators -/
section
variable {X : Cx}
/-- what a two-place operation on data asks -/
def rD2 (K : PySem.W.Frag) (f : Store → D → D → Option D) : R2 := fun vx vy H Q => ∃ g S x y d, HpOk K g S H ∧ Rep K g x vx ∧ Rep K g y vy ∧ f S x y = some d ∧ Post K g d S Q
theorem op_bin (op : Operator) : OpR X (binaryOp op) (rD2 X.K (binD op)) := by
  intro pins s σ H vx vy v u Q I rx ry h
  obtain ⟨g, S, x, y, d, hh, r1, r2, e, q⟩ := h
  unfold binD at e
  split at e
  · cases r1; cases r2; cases e
    exact op_add pins s σ H _ _ v u Q I rx ry ⟨_, _, rfl, rfl, q.now hh (.int _)⟩
  · split at e
    · rename_i hl
      cases r1; cases r2; cases e
      exact op_add_str pins s σ H _ _ v u Q I rx ry ⟨_, _, rfl, rfl, hl, q.now hh (.str _)⟩
    · cases e
  · split at e
    · rename_i hl
      cases r1 with
      | tup q1 l1 =>
      cases r2 with
      | tup q2 l2 =>
      cases e
      have n1 := l1.length
      have n2 := l2.length
      refine op_catA pins s σ H _ _ v u Q I rx ry ⟨_, _, _, _, rfl, rfl, sqT_mono hh.same q1, sqT_mono hh.same q2, by omega, fun e1 => ?_, fun e1 e2 => ?_, fun e1 e2 => ?_⟩
      · subst e1
        cases l1
        exact q.now hh (.tup q2 l2)
      · subst e2
        cases l2
        rw [List.append_nil] at q
        exact q.now hh (.tup q1 l1)
      · exact q.tup hh (l1.append l2)
    · cases e
  · split at e
    · rename_i ea eb
      split at e
      · rename_i hl
        cases e
        obtain ⟨p, xs, rfl, h1, l1⟩ := lst_of hh r1 ea
        obtain ⟨p', ys, rfl, h2, l2⟩ := lst_of hh r2 eb
        have n1 := l1.length
        have n2 := l2.length
        exact op_cat pins s σ H _ _ v u Q I rx ry ⟨_, _, _, _, rfl, rfl, h1, h2, by omega, q.lst hh (l1.append l2)⟩
      · cases e
    · cases e
  · cases r1; cases r2; cases e
    exact op_sub pins s σ H _ _ v u Q I rx ry ⟨_, _, rfl, rfl, q.now hh (.int _)⟩
  · split at e
    · rename_i hc
      cases r1; cases r2; cases e
      unfold CMulB at hc
      rw [Bool.or_eq_true, Bool.or_eq_true, Bool.and_eq_true, Bool.and_eq_true] at hc
      simp only [decide_eq_true_eq] at hc
      rcases hc with hc | hc
      · exact op_mul pins s σ H _ _ v u Q I rx ry ⟨_, _, rfl, rfl, hc, q.now hh (.int _)⟩
      · exact op_mulW pins s σ H _ _ v u Q I rx ry ⟨_, _, rfl, rfl, hc, q.now hh (.int _)⟩
    · cases e
  · split at e
    · rename_i hc
      cases r1; cases r2; cases e
      obtain ⟨h0, hc | hc⟩ := hc
      · exact op_fdiv pins s σ H _ _ v u Q I rx ry ⟨_, _, rfl, rfl, ⟨h0, hc⟩, q.now hh (.int _)⟩
      · exact op_fdivW pins s σ H _ _ v u Q I rx ry ⟨_, _, rfl, rfl, ⟨h0, hc⟩, q.now hh (.int _)⟩
    · cases e
  · split at e
    · rename_i hc
      cases r1; cases r2; cases e
      exact op_mod pins s σ H _ _ v u Q I rx ry ⟨_, _, rfl, rfl, hc, q.now hh (.int _)⟩
    · cases e
  · split at e
    · rename_i hc
      cases r1; cases r2; cases e
      exact op_pow pins s σ H _ _ v u Q I rx ry ⟨_, _, rfl, rfl, hc, q.now hh (.int _)⟩
    · cases e
  · cases e

def isBlV (b : Bool) : V → Bool
  | .bl a => a == b
  | _ => false
theorem wp_is_bool {M : Model} {A : Around} {E : Value → Shared → Prop} {s : Shared} {Q : Value → Shared → Prop} {x : V} {v : Value} {b : Bool} (r : RelV x v) (h : Q (.bool (isBlV b x)) s) : wpAny M A (compareOp .Is v (.bool b)) Q E s := by
  cases x with
  | bl a =>
    cases r
    have e : (Value.bool a == Value.bool b) = (a == b) := by cases a <;> cases b <;> rfl
    exact PyProof.Rows.is_bool h
  | non => cases r; exact wpAny_pure h
  | int i => obtain ⟨t, rfl⟩ := r; exact wpAny_pure h
  | str i => obtain ⟨t, rfl⟩ := r; exact wpAny_pure h
  | byt i => obtain ⟨t, rfl⟩ := r; exact wpAny_pure h
  | flt i => obtain ⟨t, rfl⟩ := r; exact wpAny_pure h
  | ref a => cases r; exact wpAny_pure h
  | ty n => cases r; exact wpAny_pure h
theorem wp_isnot_bool {M : Model} {A : Around} {E : Value → Shared → Prop} {s : Shared} {Q : Value → Shared → Prop} {x : V} {v : Value} {b : Bool} (r : RelV x v) (h : Q (.bool (!(isBlV b x))) s) : wpAny M A (compareOp .IsNot v (.bool b)) Q E s := by
  cases x with
  | bl a =>
    cases r
    exact PyProof.Rows.isnot_bool h
  | non => cases r; exact wpAny_pure h
  | int i => obtain ⟨t, rfl⟩ := r; exact wpAny_pure h
  | str i => obtain ⟨t, rfl⟩ := r; exact wpAny_pure h
  | byt i => obtain ⟨t, rfl⟩ := r; exact wpAny_pure h
  | flt i => obtain ⟨t, rfl⟩ := r; exact wpAny_pure h
  | ref a => cases r; exact wpAny_pure h
  | ty n => cases r; exact wpAny_pure h
theorem pyL_any : ∀ (l : List D) (d : PyData), ((D.pyL l).any fun z => PyData.eqv z d) = l.any fun e => PyData.eqv e.py d
  | [], _ => rfl
  | e :: l, d => by
    show (PyData.eqv e.py d || (D.pyL l).any fun z => PyData.eqv z d) = _
    rw [pyL_any l d] <;> rfl
theorem in_tup (hu : X.A.units + 65 < cLine) (neg : Bool) : OpR X (compareOp (if neg then .NotIn else .In)) (fun x y H Q => ∃ d ds, Dp X.K H x d ∧ Dp X.K H y (.tuple ds) ∧ SeqAt.shaped d = true ∧ SeqAt.shaped (.tuple ds) = true ∧ Q (.bl (if neg then !(ds.any fun z => PyData.eqv z d) else ds.any fun z => PyData.eqv z d)) H) := by
  intro pins s σ H x y v u Q I rx ry h
  obtain ⟨d, ds, hd, he, sd, se, q⟩ := h
  obtain ⟨as, r1⟩ := Dp.reads I d x v hd rx
  obtain ⟨bs, r2⟩ := Dp.reads I (.tuple ds) y u he ry
  cases neg with
  | false => exact SeqAt.in_tuple_reads r2 r1 (SeqAt.canLay_of_shaped se) (SeqAt.canLay_of_shaped sd) (PyProof.Rows.room_in_shaped sd hu) ⟨.bl _, H, I, rfl, q⟩
  | true => exact SeqAt.notIn_tuple_reads r2 r1 (SeqAt.canLay_of_shaped se) (SeqAt.canLay_of_shaped sd) (PyProof.Rows.room_in_shaped sd hu) ⟨.bl _, H, I, rfl, q⟩
/-- in, not in -/
theorem op_in_gen (hu : X.A.units + 65 < cLine) (neg : Bool) {pins : List (Addr × Obj)} {s : Shared} {σ : St} {H : Hp} {vx vy : V} {v u : Value} {Q : VK} {g : G} {S : Store} {x y : D} {b : Bool} (I : Inv X pins σ H s) (rx : RelV vx v) (ry : RelV vy u)
    (hh : HpOk X.K g S H) (r1 : Rep X.K g x vx) (r2 : Rep X.K g y vy) (e : inD S x y = some b) (q : Q (.bl (if neg then !b else b)) H) : wpAny (model X.prog X.w) X.A (compareOp (if neg then .NotIn else .In) v u) (EP X pins σ Q) X.xe s := by
  cases r2 with
  | str z =>
    cases r1 with
    | str a =>
      have e : (match a.cps.toList with | [c] => some (decide (c ∈ z.cps.toList)) | _ => none) = some b := e
      split at e
      · rename_i c hc
        cases e
        have ha : a = ⟨#[c]⟩ := by
          cases a with
          | mk arr => congr 1; exact Array.toList_inj.mp (by simpa using hc)
        subst ha
        cases neg with
        | false => exact op_in_sign pins s σ H _ _ v u Q I rx ry ⟨c, z, rfl, rfl, q⟩
        | true => exact op_notIn_sign pins s σ H _ _ v u Q I rx ry ⟨c, z, rfl, rfl, q⟩
      · cases e
    | _ => cases e
  | tup hq rl =>
    rename_i l
    have e : (if (x.cmpOk && (D.tup l).cmpOk) = true then some (l.any fun e => PyData.eqv e.py x.py) else none) = some b := e
    split at e
    · rename_i hc
      rw [Bool.and_eq_true] at hc
      cases e
      obtain ⟨d1, s1⟩ := cmp_dp hh r1 hc.1
      obtain ⟨d2, s2⟩ := cmp_dp hh (.tup hq rl) hc.2
      refine in_tup hu neg pins s σ H _ _ v u Q I rx ry ⟨_, _, d1, d2, s1, s2, ?_⟩
      rw [pyL_any]
      exact q
    · cases e
  | lst hq rl =>
    rename_i l
    have e : (if (x.cmpOk && (D.lst l).cmpOk) = true then some (l.any fun e => PyData.eqv e.py x.py) else none) = some b := e
    split at e
    · rename_i hc
      rw [Bool.and_eq_true] at hc
      cases e
      obtain ⟨d1, s1⟩ := cmp_dp hh r1 hc.1
      obtain ⟨d2, s2⟩ := cmp_dp hh (.lst hq rl) hc.2
      cases neg with
      | false => exact op_inD hu pins s σ H _ _ v u Q I rx ry ⟨_, _, d1, d2, s1, s2, by rw [pyL_any]; exact q⟩
      | true => exact op_notInD hu pins s σ H _ _ v u Q I rx ry ⟨_, _, d1, d2, s1, s2, by rw [pyL_any]; exact q⟩
    · cases e
  | ref er =>
    rename_i n
    have e : (match cellL S n with | some l => if (x.cmpOk && (D.lst l).cmpOk) = true then some (l.any fun e => PyData.eqv e.py x.py) else none | none => none) = some b := e
    split at e
    · rename_i l hn
      split at e
      · rename_i hc
        rw [Bool.and_eq_true] at hc
        cases e
        obtain ⟨d1, s1⟩ := cmp_dp hh r1 hc.1
        obtain ⟨xs, ho, rl⟩ := hh.lst hn er
        have hc2 := hc.2
        unfold D.cmpOk at hc2
        rw [Bool.and_eq_true] at hc2
        have d2 := Dp.lst (K := X.K) (.inl (.inl ho)) (repL_dp hh rl hc2.1)
        cases neg with
        | false => exact op_inD hu pins s σ H _ _ v u Q I rx ry ⟨_, _, d1, d2, s1, hc2.2, by rw [pyL_any]; exact q⟩
        | true => exact op_notInD hu pins s σ H _ _ v u Q I rx ry ⟨_, _, d1, d2, s1, hc2.2, by rw [pyL_any]; exact q⟩
      · cases e
    · cases e
  | non => cases e
  | bl => cases e
  | int => cases e
  | frz => cases e
theorem rep_isN {K : PySem.W.Frag} {g : G} {x : D} {v : V} (r : Rep K g x v) : isNon x = decide (v = .non) := by
  cases r <;> rfl
theorem rep_isB {K : PySem.W.Frag} {g : G} {x : D} {v : V} (b : Bool) (r : Rep K g x v) : isBl b x = isBlV b v := by
  cases r <;> rfl

/-- a comparison -/
def rC2 (K : PySem.W.Frag) (op : CmpOp) : R2 := fun vx vy H Q => ∃ g S x y b, HpOk K g S H ∧ Rep K g x vx ∧ Rep K g y vy ∧ cmpD op S x y = some b ∧ Q (.bl b) H
theorem op_cmp (hu : X.A.units + 65 < cLine) (op : CmpOp) : OpR X (compareOp op) (rC2 X.K op) := by
  intro pins s σ H vx vy v u Q I rx ry h
  obtain ⟨g, S, x, y, b, hh, r1, r2, e, q⟩ := h
  have iint : ∀ {f : Int → Int → Bool} {x y : D} {vx vy : V}, Rep X.K g x vx → Rep X.K g y vy → (match x, y with | .int i, .int j => some (f i j) | _, _ => none) = some b → ∃ i j, vx = .int i ∧ vy = .int j ∧ b = f i j := fun {f x y vx vy} r1 r2 e => by
    cases r1 with
    | int i => cases r2 with
      | int j => cases e; exact ⟨i, j, rfl, rfl, rfl⟩
      | _ => cases e
    | _ => cases e
  cases op with
  | Eq =>
    have e : (if ((peek S x).cmpOk && (peek S y).cmpOk) = true then some (PyData.eqv (peek S x).py (peek S y).py) else none) = some b := e
    split at e
    · rename_i hc
      rw [Bool.and_eq_true] at hc
      cases e
      obtain ⟨d1, s1⟩ := peek_dp hh r1 hc.1
      obtain ⟨d2, s2⟩ := peek_dp hh r2 hc.2
      exact op_eqD (by omega) pins s σ H _ _ v u Q I rx ry ⟨_, _, d1, d2, s1, s2, q⟩
    · cases e
  | NotEq =>
    have e : (if ((peek S x).cmpOk && (peek S y).cmpOk) = true then some (PyData.eqv (peek S x).py (peek S y).py) else none).map (!·) = some b := e
    split at e
    · rename_i hc
      rw [Bool.and_eq_true] at hc
      cases e
      obtain ⟨d1, s1⟩ := peek_dp hh r1 hc.1
      obtain ⟨d2, s2⟩ := peek_dp hh r2 hc.2
      exact op_neD (by omega) pins s σ H _ _ v u Q I rx ry ⟨_, _, d1, d2, s1, s2, q⟩
    · cases e
  | Lt =>
    obtain ⟨i, j, rfl, rfl, rfl⟩ := iint r1 r2 e
    exact op_lt pins s σ H _ _ v u Q I rx ry ⟨i, j, rfl, rfl, q⟩
  | LtE =>
    obtain ⟨i, j, rfl, rfl, rfl⟩ := iint r1 r2 e
    exact op_le pins s σ H _ _ v u Q I rx ry ⟨i, j, rfl, rfl, q⟩
  | Gt =>
    obtain ⟨i, j, rfl, rfl, rfl⟩ := iint r1 r2 e
    exact op_gt pins s σ H _ _ v u Q I rx ry ⟨i, j, rfl, rfl, q⟩
  | GtE =>
    obtain ⟨i, j, rfl, rfl, rfl⟩ := iint r1 r2 e
    exact op_ge pins s σ H _ _ v u Q I rx ry ⟨i, j, rfl, rfl, q⟩
  | Is =>
    cases r2 with
    | non =>
      cases e
      simp only [rep_isN r1] at q
      exact op_isN pins s σ H _ _ v u Q I rx ry ⟨rfl, q⟩
    | bl c =>
      cases e
      simp only [rep_isB c r1] at q
      cases ry
      exact wp_is_bool rx ⟨.bl _, H, I, rfl, q⟩
    | _ => cases e
  | IsNot =>
    cases r2 with
    | non =>
      cases e
      simp only [rep_isN r1] at q
      exact op_notN pins s σ H _ _ v u Q I rx ry ⟨rfl, q⟩
    | bl c =>
      cases e
      simp only [rep_isB c r1] at q
      cases ry
      exact wp_isnot_bool rx ⟨.bl _, H, I, rfl, q⟩
    | _ => cases e
  | In => exact op_in_gen hu false I rx ry hh r1 r2 e q
  | NotIn =>
    have e : (inD S x y).map (!·) = some b := e
    cases e' : inD S x y with
    | none => rw [e'] at e; cases e
    | some c =>
      rw [e'] at e
      cases e
      exact op_in_gen hu true I rx ry hh r1 r2 e' q
end
end Dm

/-! DmD: subscripts, slices, built-in functions and methods are sound. -/
namespace Dm
open PySem L2 PyProof.Rows
section
variable {K : PySem.W.Frag} {g : G} {S : Store} {H : Hp} {Q : VK}
theorem RepL.at_ {ds : List D} {xs : List V} (r : RepL K g ds xs) {i : Int} {d : D} (h : atI ds i = some d) : ∃ v, atI xs i = some v ∧ Rep K g d v := by
  unfold atI at h ⊢
  rw [r.length] at h
  cases e : ixN xs.length i with
  | none => rw [e] at h; cases h
  | some j =>
    rw [e] at h
    exact r.get h
theorem RepL.cutL {ds : List D} {xs : List V} (r : RepL K g ds xs) (lo hi : Option Int) : RepL K g (cutD ds lo hi) (cutV xs lo hi) := by
  unfold cutD cutV
  rw [r.length]
  exact (r.drop _).take _
theorem intsD_map : ∀ {ds : List D} {ns : List Int}, intsD ds = some ns → ds = ns.map D.int
  | [], ns, h => by cases h; rfl
  | d :: ds, ns, h => by
    cases d with
    | int i =>
      have h : (intsD ds).map (i :: ·) = some ns := h
      cases e : intsD ds with
      | none => rw [e] at h; cases h
      | some ms => rw [e] at h; cases h; rw [intsD_map e]; rfl
    | _ => cases h
theorem boolsD_map : ∀ {ds : List D} {ns : List Bool}, boolsD ds = some ns → ds = ns.map D.bl
  | [], ns, h => by cases h; rfl
  | d :: ds, ns, h => by
    cases d with
    | bl i =>
      have h : (boolsD ds).map (i :: ·) = some ns := h
      cases e : boolsD ds with
      | none => rw [e] at h; cases h
      | some ms => rw [e] at h; cases h; rw [boolsD_map e]; rfl
    | _ => cases h
theorem strsD_map : ∀ {ds : List D} {ns : List Str}, strsD ds = some ns → ds = ns.map D.str
  | [], ns, h => by cases h; rfl
  | d :: ds, ns, h => by
    cases d with
    | str i =>
      have h : (strsD ds).map (i :: ·) = some ns := h
      cases e : strsD ds with
      | none => rw [e] at h; cases h
      | some ms => rw [e] at h; cases h; rw [strsD_map e]; rfl
    | _ => cases h
theorem rep_ints : ∀ {ns : List Int} {xs : List V}, RepL K g (ns.map D.int) xs → xs = ns.map V.int
  | [], _, .nil => rfl
  | _ :: _, _, .cons r q => by cases r; rw [rep_ints q]; rfl
theorem rep_bools : ∀ {ns : List Bool} {xs : List V}, RepL K g (ns.map D.bl) xs → xs = ns.map V.bl
  | [], _, .nil => rfl
  | _ :: _, _, .cons r q => by cases r; rw [rep_bools q]; rfl
theorem rep_strs : ∀ {ns : List Str} {xs : List V}, RepL K g (ns.map D.str) xs → xs = ns.map V.str
  | [], _, .nil => rfl
  | _ :: _, _, .cons r q => by cases r; rw [rep_strs q]; rfl
theorem RepP.length : ∀ {l : List (D × D)} {kvs : List (Key × V)}, RepP K g l kvs → l.length = kvs.length
  | _, _, .nil => rfl
  | _, _, .cons _ q => congrArg (· + 1) q.length
theorem RepL.one {d : D} {xs : List V} (r : RepL K g [d] xs) : ∃ v, xs = [v] ∧ Rep K g d v := by
  cases r with
  | cons r q => cases q; exact ⟨_, rfl, r⟩
theorem RepL.two {d e : D} {xs : List V} (r : RepL K g [d, e] xs) : ∃ v u, xs = [v, u] ∧ Rep K g d v ∧ Rep K g e u := by
  cases r with
  | cons r q => obtain ⟨u, rfl, r2⟩ := q.one; exact ⟨_, _, rfl, r, r2⟩
end

section
variable {X : Cx}
theorem ix_data : IxR X (rD2 X.K subD) := by
  intro value slice pins s σ H vx vy v u Q I rx ry h hs
  obtain ⟨g, S, x, y, d, hh, r1, r2, e, q⟩ := h
  cases r2 with
  | int i =>
    cases r1 with
    | str z =>
      have e : (if z.length ≤ sizeLine then (atI z.cps.toList i).map fun c => D.str ⟨#[c]⟩ else none) = some d := e
      split at e
      · rename_i hl
        cases ea : atI z.cps.toList i with
        | none => rw [ea] at e; cases e
        | some c =>
          rw [ea] at e
          cases e
          exact ix_str value slice pins s σ H _ _ v u Q I rx ry ⟨z, i, c, rfl, rfl, hl, ea, q.now hh (.str _)⟩ hs
      · cases e
    | tup hq rl =>
      obtain ⟨w, hw, rw'⟩ := rl.at_ (i := i) (d := d) e
      exact ix_tup value slice pins s σ H _ _ v u Q I rx ry ⟨_, _, i, w, rfl, rfl, sqT_mono hh.same hq, hw, q.now hh rw'⟩ hs
    | lst hq rl =>
      obtain ⟨w, hw, rw'⟩ := rl.at_ (i := i) (d := d) e
      exact ix_list value slice pins s σ H _ _ v u Q I rx ry ⟨_, _, i, w, rfl, rfl, .inl (.inl (hh.same _ _ hq)), hw, q.now hh rw'⟩ hs
    | frz hq rl =>
      obtain ⟨w, hw, rw'⟩ := rl.at_ (i := i) (d := d) e
      exact ix_list value slice pins s σ H _ _ v u Q I rx ry ⟨_, _, i, w, rfl, rfl, hh.same.seq hq, hw, q.now hh rw'⟩ hs
    | ref er =>
      rename_i a n
      have e : ((cellL S n).bind fun l => atI l i) = some d := e
      cases ec : cellL S n with
      | none => rw [ec] at e; cases e
      | some l =>
        rw [ec] at e
        obtain ⟨xs, ho, rl⟩ := hh.lst ec er
        obtain ⟨w, hw, rw'⟩ := rl.at_ (i := i) (d := d) e
        exact ix_list value slice pins s σ H _ _ v u Q I rx ry ⟨_, _, i, w, rfl, rfl, .inl (.inl ho), hw, q.now hh rw'⟩ hs
    | non => cases e
    | bl => cases e
    | int => cases e
  | _ => cases e
/-- slices by values -/
def rDsl (K : PySem.W.Frag) : V → Option Int → Option Int → Hp → VK → Prop := fun vx lo hi H Q => ∃ g S x d, HpOk K g S H ∧ Rep K g x vx ∧ slcD S x lo hi = some d ∧ Post K g d S Q
theorem sl_data : SlR X (rDsl X.K) := by
  intro pins s σ H vx v vl vu lo hi sl Q I rx hs pl pu h
  obtain ⟨g, S, x, d, hh, r1, e, q⟩ := h
  cases r1 with
  | tup hq rl =>
    cases e
    have rc := rl.cutL lo hi
    rename_i a xs ds
    refine sl_tupA pins s σ H _ v vl vu lo hi sl Q I rx hs pl pu ⟨_, _, rfl, sqT_mono hh.same hq, fun hw => ?_, fun _ => q.tup hh rc⟩
    have e2 : cutV xs lo hi = xs := by
      unfold cutV
      rw [hw.1, hw.2, Nat.sub_zero, List.drop_zero, List.take_length]
    rw [e2] at rc
    exact q.now hh (.tup hq rc)
  | lst hq rl =>
    cases e
    exact sl_list pins s σ H _ v vl vu lo hi sl Q I rx hs pl pu ⟨_, _, rfl, .inl (.inl (hh.same _ _ hq)), q.lst hh (rl.cutL lo hi)⟩
  | ref er =>
    rename_i a n
    have e : ((cellL S n).map fun l => D.lst (cutD l lo hi)) = some d := e
    cases ec : cellL S n with
    | none => rw [ec] at e; cases e
    | some l =>
      rw [ec] at e
      cases e
      obtain ⟨xs, ho, rl⟩ := hh.lst ec er
      exact sl_list pins s σ H _ v vl vu lo hi sl Q I rx hs pl pu ⟨_, _, rfl, .inl (.inl ho), q.lst hh (rl.cutL lo hi)⟩
  | _ => cases e

/-! ### built-in functions -/
def rBi (K : PySem.W.Frag) (f : Bi) : List V → Hp → VK → Prop := fun vs H Q => ∃ g S xs d, HpOk K g S H ∧ RepL K g xs vs ∧ biD f S xs = some d ∧ Post K g d S Q
def lstV (K : PySem.W.Frag) (g : G) (S : Store) (x : D) : Prop := ∃ l, lstD S x = some l
theorem cr_len : CallR X (.builtin "len") (rBi X.K .len) := by
  intro pins s σ H vs us Q I r h
  obtain ⟨g, S, xs, d, hh, rl, e, q⟩ := h
  match xs, e with
  | [x], e =>
    obtain ⟨v, rfl, rx⟩ := rl.one
    have e : (lenD S x).map D.int = some d := e
    cases el : lenD S x with
    | none => rw [el] at e; cases e
    | some n =>
      rw [el] at e
      cases e
      have q' : Q (.int n) H := q.now hh (.int n)
      cases rx with
      | str z =>
        have el : (if z.length ≤ sizeLine then some (z.length : Int) else none) = some n := el
        split at el
        · rename_i hl
          cases el
          exact call_len_str pins s σ H _ us Q I r ⟨z, rfl, hl, q'⟩
        · cases el
      | tup hq r2 =>
        cases el
        have hn := r2.length
        rw [hn] at q'
        exact call_len_seq pins s σ H _ us Q I r ⟨_, _, rfl, .inr (sqT_mono hh.same hq), q'⟩
      | lst hq r2 =>
        cases el
        have hn := r2.length
        rw [hn] at q'
        exact call_len_seq pins s σ H _ us Q I r ⟨_, _, rfl, .inl (.inl (.inl (hh.same _ _ hq))), q'⟩
      | frz hq r2 =>
        cases el
        have hn := r2.length
        rw [hn] at q'
        exact call_len_seq pins s σ H _ us Q I r ⟨_, _, rfl, .inl (hh.same.seq hq), q'⟩
      | ref er =>
        rename_i a m
        have el : (match cellL S m, cellD S m with | some l, _ => some (l.length : Int) | none, some l => some (l.length : Int) | none, none => none) = some n := el
        split at el
        · rename_i l hc
          cases el
          obtain ⟨xs, ho, r2⟩ := hh.lst hc er
          rw [r2.length] at q'
          exact call_len_seq pins s σ H _ us Q I r ⟨_, _, rfl, .inl (.inl (.inl ho)), q'⟩
        · rename_i l _ hc
          cases el
          obtain ⟨kvs, ho, r2⟩ := hh.dct hc er
          rw [r2.length] at q'
          exact call_lenD pins s σ H _ us Q I r ⟨_, _, rfl, ho, q'⟩
        · cases el
      | non => cases el
      | bl => cases el
      | int => cases el
  | [], e => cases e
  | _ :: _ :: _, e => cases e
/-- one item -/
theorem bi_one {f : Bi} {r : List V → Hp → VK → Prop} {b : Value} (hr : CallR X b r) (h : ∀ (g : G) (S : Store) (H : Hp) (x : D) (v : V) (d : D) (Q : VK), HpOk X.K g S H → Rep X.K g x v → biD f S [x] = some d → Post X.K g d S Q → r [v] H Q)
    (h0 : ∀ S, biD f S [] = none) (h2 : ∀ S x y r, biD f S (x :: y :: r) = none) : CallR X b (rBi X.K f) := by
  intro pins s σ H vs us Q I rv hq
  obtain ⟨g, S, xs, d, hh, rl, e, q⟩ := hq
  match xs, e with
  | [], e => rw [h0] at e; cases e
  | [x], e =>
    obtain ⟨v, rfl, rx⟩ := rl.one
    exact hr pins s σ H _ us Q I rv (h g S H x v d Q hh rx e q)
  | x :: y :: r, e => rw [h2] at e; cases e
/-- two items -/
theorem bi_two {f : Bi} {r : List V → Hp → VK → Prop} {b : Value} (hr : CallR X b r) (h : ∀ (g : G) (S : Store) (H : Hp) (x y : D) (v u : V) (d : D) (Q : VK), HpOk X.K g S H → Rep X.K g x v → Rep X.K g y u → biD f S [x, y] = some d → Post X.K g d S Q → r [v, u] H Q)
    (h0 : ∀ S, biD f S [] = none) (h1 : ∀ S x, biD f S [x] = none) (h2 : ∀ S x y z r, biD f S (x :: y :: z :: r) = none) : CallR X b (rBi X.K f) := by
  intro pins s σ H vs us Q I rv hq
  obtain ⟨g, S, xs, d, hh, rl, e, q⟩ := hq
  match xs, e with
  | [], e => rw [h0] at e; cases e
  | [x], e => rw [h1] at e; cases e
  | [x, y], e =>
    obtain ⟨v, u, rfl, rx, ry⟩ := rl.two
    exact hr pins s σ H _ us Q I rv (h g S H x y v u d Q hh rx ry e q)
  | x :: y :: z :: r, e => rw [h2] at e; cases e
theorem cr_dabs : CallR X (.builtin "abs") (rBi X.K .abs) :=
  bi_one call_abs (fun g S H x v d Q hh rx e q => by
    cases rx with
    | int i => cases e; exact ⟨i, rfl, q.now hh (.int _)⟩
    | _ => cases e) (fun _ => rfl) (fun _ x y _ => by cases x <;> rfl)
theorem cr_dmin2 (hc : X.calm = true) : CallR X (.builtin "min") (rBi X.K .min2) :=
  bi_two (call_min2 hc) (fun g S H x y v u d Q hh rx ry e q => by
    cases rx with
    | int i => cases ry with
      | int j => cases e; exact ⟨i, j, rfl, q.now hh (.int _)⟩
      | _ => cases e
    | _ => cases e) (fun _ => rfl) (fun _ x => by cases x <;> rfl) (fun _ x y _ _ => by cases x <;> cases y <;> rfl)
theorem cr_dmax2 (hc : X.calm = true) : CallR X (.builtin "max") (rBi X.K .max2) :=
  bi_two (call_max2 hc) (fun g S H x y v u d Q hh rx ry e q => by
    cases rx with
    | int i => cases ry with
      | int j => cases e; exact ⟨i, j, rfl, q.now hh (.int _)⟩
      | _ => cases e
    | _ => cases e) (fun _ => rfl) (fun _ x => by cases x <;> rfl) (fun _ x y _ _ => by cases x <;> cases y <;> rfl)
theorem cr_dgcd : CallR X (.builtin "math.gcd") (rBi X.K .gcd) :=
  bi_two cr_gcd (fun g S H x y v u d Q hh rx ry e q => by
    cases rx with
    | int i => cases ry with
      | int j => cases e; exact ⟨i, j, rfl, q.now hh (.int _)⟩
      | _ => cases e
    | _ => cases e) (fun _ => rfl) (fun _ x => by cases x <;> rfl) (fun _ x y _ _ => by cases x <;> cases y <;> rfl)
theorem cr_dint : CallR X (.type "int") (rBi X.K .int) :=
  bi_one call_int1 (fun g S H x v d Q hh rx e q => by
    cases rx with
    | int i => cases e; exact .inl ⟨i, rfl, q.now hh (.int _)⟩
    | bl b => cases e; exact .inr ⟨b, rfl, q.now hh (.int _)⟩
    | _ => cases e) (fun _ => rfl) (fun _ x y _ => by cases x <;> rfl)
theorem each_zip {K : PySem.W.Frag} {g : G} : ∀ {ds : List D} {vs : List V} {us : List Value}, RepL K g ds vs → Vals vs us → D.pureL ds = true → PySem.W.EachIs (fun (u : Value) (b : V × D) => RelV b.1 u ∧ Rep K g b.2 b.1 ∧ b.2.pure = true) us (vs.zip ds)
  | _, _, _, .nil, rv, _ => by cases rv; exact .nil
  | _, _, _, .cons r rl, rv, hp => by
    cases rv with
    | cons r1 rr =>
      have hp' : (_ && _) = true := hp
      rw [Bool.and_eq_true] at hp'
      exact .cons ⟨r1, r, hp'.1⟩ (each_zip rl rr hp'.2)
theorem each_out {K : PySem.W.Frag} {g : G} : ∀ {us : List Value} {bs : List (V × D)}, PySem.W.EachIs (fun (u : Value) (b : V × D) => RelV b.1 u ∧ Rep K g b.2 b.1 ∧ b.2.pure = true) us bs → Vals (bs.map (·.1)) us ∧ RepL K g (bs.map (·.2)) (bs.map (·.1))
  | _, _, .nil => ⟨.nil, .nil⟩
  | _, _, .cons h t => ⟨.cons h.1 (each_out t).1, .cons h.2.1 (each_out t).2⟩
theorem pyL_map : ∀ ds : List D, D.pyL ds = ds.map D.py
  | [] => rfl
  | d :: ds => congrArg (d.py :: ·) (pyL_map ds)
theorem sort_each {s : Shared} {g : G} {S : Store} {σ : L2.St} {pins : List (Addr × Obj)} {H : Hp} (I : Inv X pins σ H s) (hh : HpOk X.K g S H) {us : List Value} {bs : List (V × D)} (e : PySem.W.EachIs (fun (u : Value) (b : V × D) => RelV b.1 u ∧ Rep X.K g b.2 b.1 ∧ b.2.pure = true) us bs) :
    PySem.W.EachIs (fun v (b : V × D) => ∃ as, Reads s.heap v ((fun b : V × D => b.2.py) b) as) us bs :=
  e.mono fun u b ⟨r1, r2, r3⟩ => Dp.reads I _ _ u (rep_dp hh r2 r3) r1
theorem cr_dsorted (hu : X.A.units + 65 < cLine) : CallR X (.builtin "sorted") (rBi X.K .sorted) := by
  intro pins s σ H vs us Q I rv hq
  obtain ⟨g, S, xs, d, hh, rl, e, q⟩ := hq
  match xs, e with
  | [], e => cases e
  | x :: y :: r, e => cases x <;> cases e
  | [x], e =>
    obtain ⟨v, rfl, rx⟩ := rl.one
    have e : ((lstD S x).bind fun l => if (D.pureL l && sortB (D.pyL l)) = true then some (D.lst (sortD l)) else none) = some d := e
    cases es : lstD S x with
    | none => rw [es] at e; cases e
    | some l =>
      rw [es] at e
      have e : (if (D.pureL l && sortB (D.pyL l)) = true then some (D.lst (sortD l)) else none) = some d := e
      split at e
      · rename_i hc
        cases e
        rw [Bool.and_eq_true] at hc
        obtain ⟨p, ys, rfl, hs, rl⟩ := lst_of hh rx es
        obtain ⟨its, rvs, hl, hz⟩ := I.list (.inl (.inl hs))
        rw [Vals.ref1 rv]
        have ez := each_zip rl rvs hc.1
        have em : (ys.zip l).map (fun b : V × D => b.2.py) = D.pyL l := by
          rw [pyL_map]
          show (ys.zip l).map (D.py ∘ Prod.snd) = _
          rw [← List.map_map, List.map_snd_zip (by rw [rl.length]; exact Nat.le_refl _)]
        have hb := hc.2
        unfold sortB at hb
        simp only [Bool.and_eq_true, Bool.or_eq_true, List.all_eq_true, decide_eq_true_eq] at hb
        obtain ⟨⟨b1, b2⟩, b3⟩ := hb
        have hal : PySem.W.AllAlike ((ys.zip l).map (fun b : V × D => b.2.py)) := by
          rw [em]
          exact fun d hd d' hd' => b1 d hd d' hd'
        have hk : PySem.W.Sortable ((ys.zip l).map (fun b : V × D => b.2.py)) := by
          rw [em]
          rcases b2 with b2 | b2
          · refine .inl fun d hd => ?_
            have z := b2 d hd
            split at z
            · exact ⟨_, _, rfl⟩
            · cases z
          · refine .inr fun d hd => ?_
            have z := b2 d hd
            split at z
            · cases z
            · cases z
            · rename_i n1 n2
              exact ⟨n1, fun xs => n2 xs⟩
        refine PySem.W.sorted_data (enc := fun b : V × D => b.2.py) hl.isList ez (sort_each I hh ez) hal hk ?_ ?_ fun out h1 h2 => ?_
        · rw [List.length_zip, rl.length, Nat.min_self, rvs.length]
          rw [← rvs.length]
          exact hz
        · intro b hbm
          have hm : b.2.py ∈ D.pyL l := by rw [← em]; exact List.mem_map_of_mem (f := fun b : V × D => b.2.py) hbm
          have := b3 _ hm
          omega
        · obtain ⟨o1, o2⟩ := each_out h2
          obtain ⟨ep, he'⟩ := PyProof.Rows.sortedAll_at s.heap its out.toArray
          have hsd : ((ys.zip l).mergeSort (PySem.W.dataLe false fun b : V × D => b.2.py)).map (·.2) = sortD l := by
            unfold sortD
            refine (List.map_mergeSort (r := PySem.W.dataLe false fun b : V × D => b.2.py) (s := PySem.W.dataLe false D.py) (f := Prod.snd) (fun a _ b _ => rfl)).trans ?_
            rw [List.map_snd_zip (by rw [rl.length]; exact Nat.le_refl _)]
          rw [hsd] at o2
          have hlen : (((ys.zip l).mergeSort (PySem.W.dataLe false fun b : V × D => b.2.py)).map (·.1)).length ≤ sizeLine := by
            rw [List.length_map, List.length_mergeSort, List.length_zip, rl.length, Nat.min_self]
            exact hz
          exact ⟨.ref _, upd H (s.heap.objs.size + 1) (.lst (((ys.zip l).mergeSort (PySem.W.dataLe false fun b : V × D => b.2.py)).map (·.1))), I.laid (t' := s.toks) (fun _ _ => PyProof.Rows.sortedAll_old) (Nat.le_succ _) ⟨hlen, out, ep, o1, he'⟩, rfl,
            q.lst hh o2 _ (I.hok.fresh (Nat.le_succ _))⟩
      · cases e
theorem cr_dlist : CallR X (.type "list") (rBi X.K .list) :=
  bi_one call_list_of (fun g S H x v d Q hh rx e q => by
    have e : (seqD S x).map D.lst = some d := e
    cases es : seqD S x with
    | none => rw [es] at e; cases e
    | some l =>
      rw [es] at e
      cases e
      obtain ⟨p, xs, rfl, hs, rl⟩ := seq_of hh rx es
      exact ⟨p, xs, rfl, hs, q.lst hh rl⟩) (fun _ => rfl) (fun _ x y _ => by cases x <;> rfl)
theorem cr_dtuple : CallR X (.type "tuple") (rBi X.K .tuple) :=
  bi_one call_tuple_of (fun g S H x v d Q hh rx e q => by
    have gen : (lstD S x).map D.tup = some d → ∃ p ys, [v] = [V.ref p] ∧ ((SqL X.K H p ys ∧ ∀ l, H l = none → Q (.ref l) (upd H l (.tup ys))) ∨ (SqT X.K H p ys ∧ Q (.ref p) H)) := fun e => by
      cases es : lstD S x with
      | none => rw [es] at e; cases e
      | some l =>
        rw [es] at e
        cases e
        obtain ⟨p, xs, rfl, hs, rl⟩ := lst_of hh rx es
        exact ⟨p, xs, rfl, .inl ⟨.inl (.inl hs), q.tup hh rl⟩⟩
    cases rx with
    | tup hq rl => cases e; exact ⟨_, _, rfl, .inr ⟨sqT_mono hh.same hq, q.now hh (.tup hq rl)⟩⟩
    | lst hq rl => exact gen e
    | ref er => exact gen e
    | _ => cases e) (fun _ => rfl) (fun _ x y _ => by cases x <;> rfl)
theorem cr_dall (hc : X.calm = true) : CallR X (.builtin "all") (rBi X.K .all) :=
  bi_one (cr_all hc) (fun g S H x v d Q hh rx e q => by
    have e : ((lstD S x).bind fun l => (boolsD l).map fun bs => D.bl (bs.all id)) = some d := e
    cases es : lstD S x with
    | none => rw [es] at e; cases e
    | some l =>
      rw [es] at e
      have e : (boolsD l).map (fun bs => D.bl (bs.all id)) = some d := e
      cases eb : boolsD l with
      | none => rw [eb] at e; cases e
      | some bs =>
        rw [eb] at e
        cases e
        obtain ⟨p, xs, rfl, hs, rl⟩ := lst_of hh rx es
        rw [boolsD_map eb] at rl
        rw [rep_bools rl] at hs
        exact ⟨p, bs, rfl, .inl (.inl hs), q.now hh (.bl _)⟩) (fun _ => rfl) (fun _ x y _ => by cases x <;> rfl)
theorem cr_dany (hc : X.calm = true) : CallR X (.builtin "any") (rBi X.K .any) :=
  bi_one (cr_any hc) (fun g S H x v d Q hh rx e q => by
    have e : ((lstD S x).bind fun l => (boolsD l).map fun bs => D.bl (bs.any id)) = some d := e
    cases es : lstD S x with
    | none => rw [es] at e; cases e
    | some l =>
      rw [es] at e
      have e : (boolsD l).map (fun bs => D.bl (bs.any id)) = some d := e
      cases eb : boolsD l with
      | none => rw [eb] at e; cases e
      | some bs =>
        rw [eb] at e
        cases e
        obtain ⟨p, xs, rfl, hs, rl⟩ := lst_of hh rx es
        rw [boolsD_map eb] at rl
        rw [rep_bools rl] at hs
        exact ⟨p, bs, rfl, .inl (.inl hs), q.now hh (.bl _)⟩) (fun _ => rfl) (fun _ x y _ => by cases x <;> rfl)

/-! sums over lists and tuples -/
theorem sum_tup {prog : Program} {w : World} {A : Around} {E : Value → Shared → Prop} {s : Shared} {t : Addr} {its : List Value} {ns : List Int} {Q : Value → Shared → Prop} (hh : A.handled = none) (ht : IsTup s.heap t its.toArray) (hi : IntsAre its ns)
    (h : ∀ h' tk t', (∀ b o, s.heap.get? b = some o → h'.get? b = some o) → Q (.int ns.sum t') { s with heap := h', toks := tk }) : wpAny (model prog w) A (call (.builtin "sum") [.ref t]) Q E s := by
  obtain ⟨xs, e⟩ := hi.allInts.items
  have hn : numsOf (intItems xs).toList = ns := by rw [← e]; exact hi.numsOf
  rw [nums_intItems] at hn
  have ht' : s.heap.IsTuple t (intItems xs) := by rw [← e]; exact ht
  have hlt : t < s.heap.objs.size := ht.lt
  refine call_sum_walkG (wpAny_pyIter_tuple ht' ?_)
  refine ⟨_, _, _, _, _, _, numAt xs, rfl, Walks.tuple (A := A.in1) hh s.heap.objs.size t (Nat.ne_of_lt hlt) (intItems xs), ⟨⟨_, Heap.get?_push_size _ rfl, rfl, rfl⟩, ht'.push _⟩, fun b hb => ?_, fun _ _ => intItems_at, fun h' tk t' hk => ?_⟩
  · show b < (s.heap.push _).objs.size
    rw [Heap.size_push]
    simp only [List.mem_cons, List.not_mem_nil, or_false] at hb
    rcases hb with rfl | rfl
    · exact Nat.lt_succ_self _
    · exact Nat.lt_succ_of_lt hlt
  · have q := h h' tk t' fun b o eb => hk b o (fun hm => by
      have hbz : b = s.heap.objs.size := by simpa using hm
      exact absurd (hbz ▸ Heap.lt_size eb) (Nat.lt_irrefl _)) (Heap.get?_push_of_some _ eb)
    have hs : preSum (numAt xs) (intItems xs).size = ns.sum := by
      rw [preSum_eq, List.take_of_length_le (by simp [intItems]), hn]
    rw [hs]
    exact q
theorem cr_dsum (hc : X.calm = true) : CallR X (.builtin "sum") (rBi X.K .sum) := by
  intro pins s σ H vs us Q I r h
  obtain ⟨g, S, xs, d, hh, rl, e, q⟩ := h
  match xs, e with
  | [x], e =>
    obtain ⟨v, rfl, rx⟩ := rl.one
    have e : ((seqD S x).bind fun l => (intsD l).map fun ns => D.int ns.sum) = some d := e
    cases es : seqD S x with
    | none => rw [es] at e; cases e
    | some l =>
      rw [es] at e
      have e : (intsD l).map (fun ns => D.int ns.sum) = some d := e
      cases ei : intsD l with
      | none => rw [ei] at e; cases e
      | some ns =>
        rw [ei] at e
        cases e
        obtain ⟨p, xs, rfl, hs, rl⟩ := seq_of hh rx es
        rw [intsD_map ei] at rl
        rw [rep_ints rl] at hs
        have q' := q.now hh (.int _)
        rcases hs with hs | hs
        · exact cr_sum hc pins s σ H _ us Q I r ⟨p, ns, rfl, hs, q'⟩
        · obtain ⟨its, rv, ht, _⟩ := I.tuple hs
          rw [Vals.ref1 r]
          exact sum_tup (I.ok.hd hc) ht rv.ints fun h' tk t' hk => ⟨.int _, H, I.kept hk, ⟨_, rfl⟩, q'⟩
  | [], e => cases e
  | _ :: _ :: _, e => cases e
theorem cr_dmax1 (hc : X.calm = true) : CallR X (.builtin "max") (rBi X.K .max1) :=
  bi_one (CallR.or (cr_max hc) (cr_max hc)) (fun g S H x v d Q hh rx e q => by
    have e : ((lstD S x).bind fun l => (intsD l).bind fun ns => (maxL ns).map D.int) = some d := e
    cases es : lstD S x with
    | none => rw [es] at e; cases e
    | some l =>
      rw [es] at e
      have e : ((intsD l).bind fun ns => (maxL ns).map D.int) = some d := e
      cases ei : intsD l with
      | none => rw [ei] at e; cases e
      | some ns =>
        rw [ei] at e
        have e : (maxL ns).map D.int = some d := e
        cases em : maxL ns with
        | none => rw [em] at e; cases e
        | some m =>
          rw [em] at e
          cases e
          obtain ⟨p, xs, rfl, hs, rl⟩ := lst_of hh rx es
          rw [intsD_map ei] at rl
          rw [rep_ints rl] at hs
          obtain ⟨h1, h2⟩ := List.max?_eq_some_iff.mp em
          refine .inl ⟨p, ns, rfl, .inl (.inl hs), List.length_pos_of_mem h1, fun m' m1 m2 => ?_⟩
          have : m' = m := Int.le_antisymm (h2 _ m1) (m2 _ h1)
          rw [this]
          exact q.now hh (.int _)) (fun _ => rfl) (fun _ x y _ => by cases x <;> rfl)
theorem cr_dmin1 (hc : X.calm = true) : CallR X (.builtin "min") (rBi X.K .min1) :=
  bi_one (cr_min hc) (fun g S H x v d Q hh rx e q => by
    have e : ((lstD S x).bind fun l => (intsD l).bind fun ns => (minL ns).map D.int) = some d := e
    cases es : lstD S x with
    | none => rw [es] at e; cases e
    | some l =>
      rw [es] at e
      have e : ((intsD l).bind fun ns => (minL ns).map D.int) = some d := e
      cases ei : intsD l with
      | none => rw [ei] at e; cases e
      | some ns =>
        rw [ei] at e
        have e : (minL ns).map D.int = some d := e
        cases em : minL ns with
        | none => rw [em] at e; cases e
        | some m =>
          rw [em] at e
          cases e
          obtain ⟨p, xs, rfl, hs, rl⟩ := lst_of hh rx es
          rw [intsD_map ei] at rl
          rw [rep_ints rl] at hs
          obtain ⟨h1, h2⟩ := List.min?_eq_some_iff.mp em
          refine ⟨p, ns, rfl, .inl (.inl hs), List.length_pos_of_mem h1, fun m' m1 m2 => ?_⟩
          have : m' = m := Int.le_antisymm (m2 _ h1) (h2 _ m1)
          rw [this]
          exact q.now hh (.int _)) (fun _ => rfl) (fun _ x y _ => by cases x <;> rfl)

/-! isinstance -/
def tyN : Ty → String
  | .int => "int" | .bool => "bool" | .str => "str" | .tuple => "tuple" | .list => "list"
theorem kit_tt {K : PySem.W.Frag} (t c : Ty) : PySem.W.kitOne K (.type (tyN t)) (.type (tyN c)) = some (t == c || (t == .bool && c == .int)) := by
  cases t <;> cases c <;> with_unfolding_all rfl
theorem kit_non {K : PySem.W.Frag} (c : Ty) : PySem.W.kitOne K (.type "NoneType") (.type (tyN c)) = some false := by
  cases c <;> with_unfolding_all rfl
theorem rep_ty {K : PySem.W.Frag} {g : G} {S : Store} {H : Hp} {x : D} {v : V} {t : Ty} {b : Bool} (hh : HpOk K g S H) (r : Rep K g x v) (e : isiD S t x = some b) : ∃ u, TyX K H v u ∧ PySem.W.kitOne K u (.type (tyN t)) = some b := by
  cases r with
  | non => cases e; exact ⟨_, .base .non, kit_non t⟩
  | bl c => cases e; refine ⟨_, .base (.bl c), (kit_tt .bool t).trans ?_⟩; cases t <;> rfl
  | int i => cases e; refine ⟨_, .base (.int i), (kit_tt .int t).trans ?_⟩; cases t <;> rfl
  | str z => cases e; refine ⟨_, .base (.str z), (kit_tt .str t).trans ?_⟩; cases t <;> rfl
  | tup hq rl =>
    cases e
    refine ⟨.type (tyN .tuple), ?_, (kit_tt .tuple t).trans (by cases t <;> rfl)⟩
    rcases hq with (hq | ⟨o, hq⟩) | ⟨o, its, n, hk, hc, _⟩
    · exact .base (.tup (hh.same _ _ hq))
    · exact .fTuple (hh.same _ _ hq)
    · exact .kTuple hk hc
  | lst hq rl =>
    cases e
    exact ⟨.type (tyN .list), .base (.lst (hh.same _ _ hq)), (kit_tt .list t).trans (by cases t <;> rfl)⟩
  | frz => cases e
  | ref => cases e

/-! methods -/
def rMe (K : PySem.W.Frag) (m : Me) : V → List V → Hp → VK → Prop := fun v vs H Q => ∃ g S o xs d, HpOk K g S H ∧ Rep K g o v ∧ RepL K g xs vs ∧ meD m S o xs = some d ∧ Post K g d S Q
theorem idx_first {x : D} : ∀ {l : List D} {k : Nat}, idxOf x l = some k → (∃ z, (D.pyL l)[k]? = some z ∧ PyData.eqv z x.py = true) ∧ ∀ (m : Nat) (z' : PyData), m < k → (D.pyL l)[m]? = some z' → PyData.eqv z' x.py = false
  | [], _, h => by cases h
  | e :: r, k, h => by
    have h : (if PyData.eqv e.py x.py = true then some 0 else (idxOf x r).map (· + 1)) = some k := h
    by_cases he : PyData.eqv e.py x.py = true
    · rw [if_pos he] at h
      cases h
      exact ⟨⟨e.py, rfl, he⟩, fun m z' hm => absurd hm (Nat.not_lt_zero _)⟩
    · rw [if_neg he] at h
      cases hi : idxOf x r with
      | none => rw [hi] at h; cases h
      | some j =>
        rw [hi] at h
        cases h
        obtain ⟨⟨z, h1, h2⟩, h3⟩ := idx_first hi
        refine ⟨⟨z, h1, h2⟩, fun m z' hm hz => ?_⟩
        cases m with
        | zero => cases hz; exact Bool.eq_false_iff.mpr he
        | succ m => exact h3 m z' (Nat.lt_of_succ_lt_succ hm) hz
theorem mt_dindex (hu : X.A.units + 65 < cLine) : MtR X "list.index" (rMe X.K .index) := by
  intro pins s σ H v vs u us Q I rv rvs h
  obtain ⟨g, S, o, xs, d, hh, ro, rl, e, q⟩ := h
  match xs, e with
  | [x], e =>
    obtain ⟨w, rfl, rx⟩ := rl.one
    have e : (match lstD S o with | some l => if (x.cmpOk && (D.lst l).cmpOk) = true then (idxOf x l).map fun (k : Nat) => D.int k else none | none => none) = some d := e
    cases es : lstD S o with
    | none => rw [es] at e; cases e
    | some l =>
      rw [es] at e
      have e : (if (x.cmpOk && (D.lst l).cmpOk) = true then (idxOf x l).map fun (k : Nat) => D.int k else none) = some d := e
      split at e
      · rename_i hc
        rw [Bool.and_eq_true] at hc
        cases ei : idxOf x l with
        | none => rw [ei] at e; cases e
        | some k =>
          rw [ei] at e
          cases e
          obtain ⟨p, ys, rfl, ho, rl2⟩ := lst_of hh ro es
          have hc2 := hc.2
          unfold D.cmpOk at hc2
          rw [Bool.and_eq_true] at hc2
          obtain ⟨d1, s1⟩ := cmp_dp hh rx hc.1
          obtain ⟨⟨z, z1, z2⟩, z3⟩ := idx_first ei
          exact mt_indexD hu pins s σ H _ _ u us Q I rv rvs ⟨p, w, _, _, k, z, rfl, rfl, .lst (.inl (.inl ho)) (repL_dp hh rl2 hc2.1), d1, hc2.2, s1, z1, z2, z3, q.now hh (.int _)⟩
      · cases e
  | [], e => cases e
  | _ :: _ :: _, e => cases e
theorem mt_djoin : MtR X "str.join" (rMe X.K .join) := by
  intro pins s σ H v vs u us Q I rv rvs h
  obtain ⟨g, S, o, xs, d, hh, ro, rl, e, q⟩ := h
  match xs, e with
  | [x], e =>
    obtain ⟨w, rfl, rx⟩ := rl.one
    cases ro with
    | str z =>
      have e : ((lstD S x).bind fun l => (strsD l).bind fun ss => if (ss.map (·.length)).sum + ss.length * z.length ≤ 16777216 then some (D.str (Txt.join z ss)) else none) = some d := e
      cases es : lstD S x with
      | none => rw [es] at e; cases e
      | some l =>
        rw [es] at e
        have e : ((strsD l).bind fun ss => if (ss.map (·.length)).sum + ss.length * z.length ≤ 16777216 then some (D.str (Txt.join z ss)) else none) = some d := e
        cases ei : strsD l with
        | none => rw [ei] at e; cases e
        | some ss =>
          rw [ei] at e
          have e : (if (ss.map (·.length)).sum + ss.length * z.length ≤ 16777216 then some (D.str (Txt.join z ss)) else none) = some d := e
          split at e
          · rename_i hz
            cases e
            obtain ⟨p, ys, rfl, ho, rl2⟩ := lst_of hh rx es
            rw [strsD_map ei] at rl2
            rw [rep_strs rl2] at ho
            exact mt_join pins s σ H _ _ u us Q I rv rvs ⟨z, p, ss, rfl, rfl, .inl (.inl (.inl ho)), hz, q.now hh (.str _)⟩
          · cases e
    | _ => cases e
  | [], e => cases ro <;> cases e
  | _ :: _ :: _, e => cases ro <;> cases e
end
/-! max, min with default= -/
def rMd (K : PySem.W.Frag) (mx : Bool) : List V → List V → Hp → VK → Prop := fun vs zs H Q => ∃ g S x y d v u, vs = [v] ∧ zs = [u] ∧ HpOk K g S H ∧ Rep K g x v ∧ Rep K g y u ∧ mdD mx S x y = some d ∧ Post K g d S Q
section
variable {X : Cx}
theorem dp_ints {K : PySem.W.Frag} {H : Hp} : ∀ ns : List Int, DpAll K H (ns.map V.int) (ns.map PyData.int)
  | [] => .nil
  | n :: ns => .cons (.int n) (dp_ints ns)
theorem alike_all_ints (ns : List Int) : PySem.W.AlikeAll (ns.map PyData.int) := by
  refine ⟨fun x hx y hy => ?_, fun x hx => ?_⟩
  · obtain ⟨i, _, rfl⟩ := List.mem_map.mp hx
    obtain ⟨j, _, rfl⟩ := List.mem_map.mp hy
    rfl
  · obtain ⟨i, _, rfl⟩ := List.mem_map.mp hx
    intro h; cases h
theorem md_open {K : PySem.W.Frag} {g : G} {S : Store} {H : Hp} {mx : Bool} {x y d : D} {v : V} (hh : HpOk K g S H) (r1 : Rep K g x v) (e : mdD mx S x y = some d) :
    ∃ p ns, v = .ref p ∧ H p = some (.lst (ns.map V.int)) ∧ d = (match (if mx then maxL ns else minL ns) with | some m => D.int m | none => y) := by
  unfold mdD at e
  cases es : lstD S x with
  | none => rw [es] at e; cases e
  | some l =>
    rw [es] at e
    have e : (intsD l).map (fun ns => match (if mx then maxL ns else minL ns) with | some m => D.int m | none => y) = some d := e
    cases ei : intsD l with
    | none => rw [ei] at e; cases e
    | some ns =>
      rw [ei] at e
      obtain ⟨p, xs, rfl, hs, rl⟩ := lst_of hh r1 es
      rw [intsD_map ei] at rl
      rw [rep_ints rl] at hs
      exact ⟨p, ns, rfl, hs, (Option.some.inj e).symm⟩
theorem cr_maxd (hc : X.calm = true) (hu : X.A.units + 65 < cLine) : CallRK X (.builtin "max") [Str.ofString "default"] (rMd X.K true) := by
  intro pins s σ H xs zs us ws Q I rx rz hq
  obtain ⟨g, S, x, y, d, v, u, rfl, rfl, hh, r1, r2, e, q⟩ := hq
  obtain ⟨p, ns, rfl, hs, rfl⟩ := md_open hh r1 e
  obtain rfl := Vals.ref1 rx
  obtain ⟨w1, rfl, e1⟩ := vals1 rz
  obtain ⟨its, rv, hl, hz⟩ := I.list (.inl (.inl hs))
  obtain ⟨as, ra⟩ := Dp.readsAll I _ _ its (dp_ints ns) rv
  refine PySem.W.max_list_default (xs := ns.map PyData.int) (I.ok.hd hc) hl.isList (by simpa using ra) (alike_all_ints ns) (by rw [PySem.W.depth_ints]; omega) (fun hn h' tk hk => ?_) fun y0 ys i v h' tk bs he hv hr hk => ?_
  · have hn : ns = [] := List.map_eq_nil_iff.mp hn
    subst hn
    exact ⟨u, H, I.kept hk, e1, q.now hh r2⟩
  · cases ns with
    | nil => cases he
    | cons n r =>
      cases he
      rw [PySem.W.maxD_ints] at hr
      cases hr
      exact ⟨.int _, H, I.kept hk, ⟨_, rfl⟩, q.now hh (.int _)⟩
theorem cr_mind (hc : X.calm = true) (hu : X.A.units + 65 < cLine) : CallRK X (.builtin "min") [Str.ofString "default"] (rMd X.K false) := by
  intro pins s σ H xs zs us ws Q I rx rz hq
  obtain ⟨g, S, x, y, d, v, u, rfl, rfl, hh, r1, r2, e, q⟩ := hq
  obtain ⟨p, ns, rfl, hs, rfl⟩ := md_open hh r1 e
  obtain rfl := Vals.ref1 rx
  obtain ⟨w1, rfl, e1⟩ := vals1 rz
  obtain ⟨its, rv, hl, hz⟩ := I.list (.inl (.inl hs))
  obtain ⟨as, ra⟩ := Dp.readsAll I _ _ its (dp_ints ns) rv
  refine PySem.W.min_list_default (xs := ns.map PyData.int) (I.ok.hd hc) hl.isList (by simpa using ra) (alike_all_ints ns) (by rw [PySem.W.depth_ints]; omega) (fun hn h' tk hk => ?_) fun y0 ys i v h' tk bs he hv hr hk => ?_
  · have hn : ns = [] := List.map_eq_nil_iff.mp hn
    subst hn
    exact ⟨u, H, I.kept hk, e1, q.now hh r2⟩
  · cases ns with
    | nil => cases he
    | cons n r =>
      cases he
      rw [PySem.W.minD_ints] at hr
      cases hr
      exact ⟨.int _, H, I.kept hk, ⟨_, rfl⟩, q.now hh (.int _)⟩
end
end Dm

/-! DmE: the readings of expressions, targets and iterables; small rules. -/
namespace Dm
open PySem L2

/-! ### rules bent -/
theorem _root_.L2.PE.imp {X : Cx} {e : Expr} {t t' : TE} (h : PE X e t) (i : ∀ σ H Q, t' σ H Q → t σ H Q) : PE X e t' := ⟨fun pins s σ H Q I q => h.run pins s σ H Q I (i σ H Q q)⟩
theorem _root_.L2.PT.imp {X : Cx} {e : Expr} {t t' : TT} (h : PT X e t) (i : ∀ σ H Q, t' σ H Q → t σ H Q) : PT X e t' := ⟨fun pins s σ H Q I q => h.run pins s σ H Q I (i σ H Q q)⟩
theorem _root_.L2.PW.imp {X : Cx} {e : Expr} {t t' : TT} (h : PW X e t) (i : ∀ σ H Q, t' σ H Q → t σ H Q) : PW X e t' := ⟨fun wh pins s σ H Q I q => h.run wh pins s σ H Q I (i σ H Q q)⟩
theorem _root_.L2.PA.imp {X : Cx} {e : List Expr} {t t' : TA} (h : PA X e t) (i : ∀ σ H Q, t' σ H Q → t σ H Q) : PA X e t' := ⟨fun pos pins s σ H Q I q => h.run pos pins s σ H Q I (i σ H Q q)⟩
theorem _root_.L2.PO.imp {X : Cx} {e : Option Expr} {t t' : TO} (h : PO X e t) (i : ∀ σ H Q, t' σ H Q → t σ H Q) : PO X e t' := ⟨fun pins s σ H Q I q => h.run pins s σ H Q I (i σ H Q q)⟩
theorem _root_.L2.PTs.imp {X : Cx} {e : List Expr} {t t' : TT} (h : PTs X e t) (i : ∀ σ H Q, t' σ H Q → t σ H Q) : PTs X e t' := ⟨fun pins s σ H Q I q => h.run pins s σ H Q I (i σ H Q q)⟩
theorem _root_.L2.PI.imp {X : Cx} {tg e : Expr} {t t' : TI} (h : PI X tg e t) (i : ∀ σ H Q, t' σ H Q → t σ H Q) : PI X tg e t' := ⟨fun pins s σ H Q I q => h.run pins s σ H Q I (i σ H Q q)⟩
theorem _root_.L2.PI.or {X : Cx} {tg e : Expr} {t t' : TI} (h : PI X tg e t) (h' : PI X tg e t') : PI X tg e (fun σ H R => t σ H R ∨ t' σ H R) := ⟨fun pins s σ H Q I q => q.elim (h.run pins s σ H Q I) (h'.run pins s σ H Q I)⟩

/-! ### readings -/
section
variable (K : PySem.W.Frag) (Φ : Fns)
def tE (c : E) : TE := fun σ H Q => ∃ g fr S, FrOk K g fr σ ∧ HpOk K g S H ∧ RPost (fun d S' => Post K g d S' Q) (evE Φ c fr S)
def tEs (cs : List E) : TA := fun σ H Q => ∃ g fr S, FrOk K g fr σ ∧ HpOk K g S H ∧ RPost (fun ds S' => LPost K g ds S' Q) (evEs Φ cs fr S)
def tT (c : E) : TT := fun σ H Q => ∃ g fr S, FrOk K g fr σ ∧ HpOk K g S H ∧ RPost (fun b S' => BPost K g b S' Q) (evT Φ c fr S)
def tTs (cs : List E) : TT := fun σ H Q => ∃ g fr S, FrOk K g fr σ ∧ HpOk K g S H ∧ RPost (fun b S' => BPost K g b S' Q) (evTs Φ cs fr S)
def OPost (g : G) (o : Option Int) (S : Store) (Q : Option Int → Hp → Prop) : Prop := ∀ H' g', Le g g' → HpOk K g' S H' → Q o H'
def tO (c : Option E) : TO := fun σ H Q => ∃ g fr S, FrOk K g fr σ ∧ HpOk K g S H ∧ RPost (fun o S' => OPost K g o S' Q) (evO Φ c fr S)
/-- an iterator gives these data, one after another -/
def ItOk (g : G) (l : List D) (J : It) : Prop := ∀ (i : Nat) (H1 : Hp) (g1 : G) (S1 : Store), Le g (g1.back g.pv) → HpOk K g1 S1 H1 →
  (∀ d, l[i]? = some d → J.go i H1 ∧ ∀ x H', J.yld i H1 x H' → ∃ g2, Le g1 g2 ∧ HpOk K g2 S1 H' ∧ Rep K g2 d x) ∧ (l.length ≤ i → J.stop i H1)
def tI (c : E) : TI := fun σ H R => ∃ g fr S, FrOk K g fr σ ∧ HpOk K g S H ∧ RPost (fun d S' => ∃ l, iterD S' d = some l ∧ ∀ H' g' J, Le g g' → HpOk K g' S' H' → ItOk K g' l J → R J H') (evE Φ c fr S)
mutual
def Pat.slots : Pat → List Nat
  | .v i => [i]
  | .t ps => Pat.slotsL ps
termination_by structural p => p
def Pat.slotsL : List Pat → List Nat
  | [] => []
  | p :: ps => p.slots ++ Pat.slotsL ps
termination_by structural p => p
end
def Sets (is : List Nat) (σ σ' : St) : Prop := ∀ vs : List Nat, (∀ i ∈ is, i ∈ vs) → wipe σ' vs = wipe σ vs
def tP (p : Pat) : TG := fun v σ H Q => ∃ g fr S d fr', FrOk K g fr σ ∧ HpOk K g S H ∧ Rep K g d v ∧ asgP p d fr = some fr' ∧ ∀ σ', FrOk K g fr' σ' → Sets p.slots σ σ' → Q σ' H
def tPs (ps : List Pat) : TGs := fun vs σ H Q => ∃ g fr S ds fr', FrOk K g fr σ ∧ HpOk K g S H ∧ RepL K g ds vs ∧ asgPs ps ds fr = some fr' ∧ ∀ σ', FrOk K g fr' σ' → Sets (Pat.slotsL ps) σ σ' → Q σ' H
end

section
variable {K : PySem.W.Frag} {Φ : Fns} {g : G} {fr : Fr} {S : Store} {σ : St} {H : Hp}
theorem RPost.bind {α β : Type} {P : β → Store → Prop} {r : Res α} {f : α → Store → Res β} (h : RPost P (r.bind f)) : ∃ a S', r = .ok a S' ∧ RPost P (f a S') := by
  cases r with
  | ok a S' => exact ⟨a, S', rfl, h⟩
  | ex => exact h.elim
  | no => exact h.elim
theorem RPost.of {α : Type} {P : α → Store → Prop} {o : Option α} (h : RPost P (Res.of o S)) : ∃ a, o = some a ∧ P a S := by
  cases o with
  | none => exact h.elim
  | some a => exact ⟨a, rfl, h⟩
theorem RPost.imp {α : Type} {P P' : α → Store → Prop} {r : Res α} (h : RPost P r) (i : ∀ a S', r = .ok a S' → P a S' → P' a S') : RPost P' r := by
  cases r with
  | ok a S' => exact i a S' rfl h
  | ex => exact h.elim
  | no => exact h.elim
/-- go into an expression -/
theorem tE_in {c : E} {R : VK} (hf : FrOk K g fr σ) (hh : HpOk K g S H) {d : D} {S' : Store} (e : evE Φ c fr S = .ok d S') (k : ∀ v H' g', Le g g' → HpOk K g' S' H' → Rep K g' d v → R v H') : tE K Φ c σ H R :=
  ⟨g, fr, S, hf, hh, by rw [e]; exact k⟩
theorem tEs_in {c : List E} {R : List V → Hp → Prop} (hf : FrOk K g fr σ) (hh : HpOk K g S H) {d : List D} {S' : Store} (e : evEs Φ c fr S = .ok d S') (k : ∀ v H' g', Le g g' → HpOk K g' S' H' → RepL K g' d v → R v H') : tEs K Φ c σ H R :=
  ⟨g, fr, S, hf, hh, by rw [e]; exact k⟩
theorem tT_in {c : E} {R : Bool → Hp → Prop} (hf : FrOk K g fr σ) (hh : HpOk K g S H) {b : Bool} {S' : Store} (e : evT Φ c fr S = .ok b S') (k : ∀ H' g', Le g g' → HpOk K g' S' H' → R b H') : tT K Φ c σ H R :=
  ⟨g, fr, S, hf, hh, by rw [e]; exact k⟩
theorem tO_in {c : Option E} {R : Option Int → Hp → Prop} (hf : FrOk K g fr σ) (hh : HpOk K g S H) {b : Option Int} {S' : Store} (e : evO Φ c fr S = .ok b S') (k : ∀ H' g', Le g g' → HpOk K g' S' H' → R b H') : tO K Φ c σ H R :=
  ⟨g, fr, S, hf, hh, by rw [e]; exact k⟩
theorem evT_of {c : E} {d : D} {S' : Store} {b : Bool} (e : evE Φ c fr S = .ok d S') (h : truth S' d = some b) : evT Φ c fr S = .ok b S' := by
  unfold evT
  rw [e]
  show Res.of (truth S' d) S' = _
  rw [h]; rfl
end

/-! ### facts of syntax -/
def isStar : Expr → Bool
  | .Starred _ _ => true
  | _ => false
theorem star_cons {e : Expr} {es : List Expr} {env : Env} (h : isStar e = false) : starEach (e :: es) env = (false, eval e env) :: starEach es env := by
  cases e <;> first | rfl | cases h
theorem star_plain {pos : Pos} {env : Env} : ∀ {es : List Expr}, es.any isStar = false → (backTo pos (starEach es env)).any (·.1) = false
  | [], _ => rfl
  | e :: es, h => by
    rw [List.any_cons, Bool.or_eq_false_iff] at h
    rw [star_cons h.1]
    show (false || (backTo pos (starEach es env)).any (·.1)) = false
    rw [star_plain h.2]; rfl
theorem star_few {pos : Pos} {env : Env} : ∀ {es : List Expr}, es.any isStar = false → (backTo pos (starEach es env)).all (fun x => !x.1) = true
  | [], _ => rfl
  | e :: es, h => by
    rw [List.any_cons, Bool.or_eq_false_iff] at h
    rw [star_cons h.1]
    show (true && (backTo pos (starEach es env)).all (fun x => !x.1)) = true
    rw [star_few h.2]; rfl
def isSet : Expr → Bool
  | .Set _ _ _ => true
  | _ => false
theorem fold_ok {e : Expr} (h : isSet e = false) (env : Env) (x : Value) : foldedSetIterable e env x = pure x := by
  cases e <;> first | rfl | cases h
theorem mark_ok {op : CmpOp} {e : Expr} (h : isSet e = false) : behindInMarks op e = false := by
  cases e <;> first | rfl | cases h
def isSlc : Expr → Bool
  | .Slice _ _ _ _ => true
  | _ => false
theorem plainIx {e : Expr} (h : isSlc e = false) : PlainIx e := by
  intro o i
  cases e <;> first | rfl | cases h
def isCall0 : Expr → Bool
  | .Call _ [] [] _ => true
  | _ => false
theorem attrBase {e : Expr} (h : isCall0 e = false) (nm : Str) (env : Env) (w : Sem Value) : attributeBase e nm env w = w := by
  cases e with
  | Call f as ks p =>
    cases f with
    | Name => cases as with
      | nil => cases ks with
        | nil => cases h
        | cons => rfl
      | cons => rfl
    | _ => rfl
  | _ => rfl
/-- an expression whose test is its value's truth -/
def isPlainT : Expr → Bool
  | .UnaryOp .Not _ _ => false
  | .BoolOp _ _ _ => false
  | .IfExp _ _ _ _ => false
  | .Compare _ _ _ _ => false
  | _ => true
theorem plainT {e : Expr} (h : isPlainT e = true) (env : Env) (wh : Sem Value) : isTrue e env wh = (do let v ← wh; standAt e.pos; holding [v] (truthy v)) := by
  cases e with
  | UnaryOp op a p => cases op <;> first | rfl | cases h
  | BoolOp => cases h
  | IfExp => cases h
  | Compare => cases h
  | _ => rfl
def isComp : Expr → Bool
  | .ListComp _ _ _ _ => true
  | .SetComp _ _ _ _ => true
  | .DictComp _ _ _ _ _ => true
  | _ => false
theorem swaps_no {e : Expr} (h : isComp e = false) (t : Option Expr) (l : Nat) (env : Env) : swapsWith e t l env = pure false := by
  cases e <;> first | rfl | cases h
theorem asg_each {env : Env} : ∀ {es : List Expr}, es.any isStar = false → (assignEach es env).length = es.length ∧ (assignEach es env).findIdx? (·.1) = none
  | [], _ => ⟨rfl, rfl⟩
  | e :: es, h => by
    rw [List.any_cons, Bool.or_eq_false_iff] at h
    obtain ⟨h1, h2⟩ := asg_each (env := env) h.2
    have q : assignEach (e :: es) env = (false, assign e env) :: assignEach es env := by
      have h' := h.1
      cases e <;> first | rfl | cases h'
    rw [q]
    exact ⟨by rw [List.length_cons, List.length_cons, h1], by rw [List.findIdx?_cons]; simp [h2]⟩
theorem asg_cons {e : Expr} {es : List Expr} {env : Env} (h : isStar e = false) : (assignEach (e :: es) env).map (·.2) = assign e env :: (assignEach es env).map (·.2) := by
  cases e <;> first | rfl | cases h

/-! ### what is known of the names -/
structure Ctx where
  N : List Str
  sc : Scope
  own : Scope
structure CtxOk (c : Ctx) (X : Cx) : Prop where
  N : X.N = c.N
  nd : c.N.Nodup
  calm : X.calm = true
  sc : X.env.scope = c.sc
  loc : ∀ x, c.own.names.lookup x = some .local → c.sc.names.lookup x = some .local
  cell : ∀ x, c.own.names.lookup x = some .cell → Loc c.sc x ∧ X.fn x = true
def dbg : Str := "__debug__"
def cdc : Str := "__classdict__"
def dnm : Str := "__name__"
def Ctx.vis (c : Ctx) (x : Str) (i : Nat) : Bool :=
  decide (c.N[i]? = some x) && !(x == dbg) && !(x == cdc) && (match c.sc.names.lookup x with | some .local => true | some .cell => true | some .free => true | _ => false)
def Ctx.st (c : Ctx) (x : Str) (i : Nat) : Bool :=
  decide (c.N[i]? = some x) && (match c.own.names.lookup x with | some .local => true | some .cell => true | _ => false)
def Ctx.gl (c : Ctx) (x : Str) : Bool := decide (c.sc.names.lookup x = some .globalImplicit) && !(x == dbg)
section
variable {c : Ctx} {X : Cx}
theorem CtxOk.pe_var (C : CtxOk c X) {x : Str} {i : Nat} {pos : Pos} (h : c.vis x i = true) : PE X (.Name x pos) (tVar i) := by
  unfold Ctx.vis at h
  rw [Bool.and_eq_true, Bool.and_eq_true, Bool.and_eq_true] at h
  obtain ⟨⟨⟨h1, h2⟩, h3⟩, h4⟩ := h
  have h1 := of_decide_eq_true h1
  refine L2.pe_var (by rw [C.N]; exact h1) ?_ (by simpa [dbg] using h2) (by simpa [cdc] using h3)
  unfold Vis
  rw [C.sc]
  revert h4
  cases c.sc.names.lookup x with
  | none => intro h; cases h
  | some k => cases k <;> simp
theorem CtxOk.pg (C : CtxOk c X) {x : Str} {i : Nat} {pos : Pos} (h : c.st x i = true) : PG X (.Name x pos) (gName i) := by
  unfold Ctx.st at h
  rw [Bool.and_eq_true] at h
  obtain ⟨h1, h4⟩ := h
  have h1 := of_decide_eq_true h1
  have nd : X.N.Nodup := by rw [C.N]; exact C.nd
  have hx : X.N[i]? = some x := by rw [C.N]; exact h1
  cases ho : c.own.names.lookup x with
  | none => rw [ho] at h4; cases h4
  | some k =>
    rw [ho] at h4
    cases k with
    | «local» =>
      have hl := C.loc x ho
      have hl' : X.env.scope.names.lookup x = some .local := by rw [C.sc]; exact hl
      exact pg_name nd hx (.inl hl') (.inr hl')
    | cell =>
      obtain ⟨hl, hf⟩ := C.cell x ho
      have hl' : Loc X.env.scope x := by rw [C.sc]; exact hl
      exact pg_name nd hx hl' (.inl hf)
    | _ => cases h4
theorem CtxOk.gl (C : CtxOk c X) {x : Str} (h : c.gl x = true) : Gl X x ∧ (x == ("__debug__" : Str)) = false := by
  unfold Ctx.gl at h
  rw [Bool.and_eq_true] at h
  refine ⟨?_, by simpa [dbg] using h.2⟩
  show X.env.scope.names.lookup x = _
  rw [C.sc]
  exact of_decide_eq_true h.1
end

/-! ### the rules, for readings -/
section
variable {X : Cx} {Φ : Fns} {pos : Pos} {ea eb ec : Expr} {ca cb cc : E}
theorem e_int {i : Int} {k : Nat} : PE X (.Constant (.int i) k pos) (tE X.K Φ (.int i)) := pe_int.imp fun σ H Q ⟨g, fr, S, hf, hh, h⟩ => (show Post X.K g (.int i) S Q from h).now hh (.int i)
theorem e_bl {i : Bool} {k : Nat} : PE X (.Constant (.bool i) k pos) (tE X.K Φ (.bl i)) := pe_bl.imp fun σ H Q ⟨g, fr, S, hf, hh, h⟩ => (show Post X.K g (.bl i) S Q from h).now hh (.bl i)
theorem e_non {k : Nat} : PE X (.Constant .none k pos) (tE X.K Φ .non) := pe_non.imp fun σ H Q ⟨g, fr, S, hf, hh, h⟩ => (show Post X.K g .non S Q from h).now hh .non
theorem e_str {i : Str} {k : Nat} : PE X (.Constant (.str i) k pos) (tE X.K Φ (.str i)) := pe_str.imp fun σ H Q ⟨g, fr, S, hf, hh, h⟩ => (show Post X.K g (.str i) S Q from h).now hh (.str i)
theorem e_var {e : Expr} {i : Nat} (h : PE X e (tVar i)) : PE X e (tE X.K Φ (.var i)) := h.imp fun σ H Q ⟨g, fr, S, hf, hh, h⟩ => by
  have h : RPost (fun d S' => Post X.K g d S' Q) (match fr[i]? with | some (some d) => .ok d S | _ => .no) := h
  split at h
  · rename_i d e
    obtain ⟨v, hv, r⟩ := hf.at_ i d e
    exact ⟨v, hv, (show Post X.K g d S Q from h).now hh r⟩
  · exact h.elim
theorem e_bin {op : Operator} (ha : PE X ea (tE X.K Φ ca)) (hb : PE X eb (tE X.K Φ cb)) : PE X (.BinOp ea op eb pos) (tE X.K Φ (.bin op ca cb)) :=
  (pe_op (op_bin op) ha hb).imp fun σ H Q ⟨g, fr, S, hf, hh, h⟩ => by
    obtain ⟨x, S1, e1, h⟩ := RPost.bind h
    obtain ⟨y, S2, e2, h⟩ := RPost.bind h
    obtain ⟨d, e3, h⟩ := RPost.of h
    exact tE_in hf hh e1 fun v H1 g1 l1 hh1 r1 => tE_in (hf.mono l1) hh1 e2 fun u H2 g2 l2 hh2 r2 => ⟨g2, S2, x, y, d, hh2, r1.mono l2, r2, e3, h.mono (l1.trans l2)⟩
theorem e_neg (ha : PE X ea (tE X.K Φ ca)) : PE X (.UnaryOp .USub ea pos) (tE X.K Φ (.neg ca)) :=
  (pe_un un_neg ha).imp fun σ H Q ⟨g, fr, S, hf, hh, h⟩ => by
    obtain ⟨x, S1, e1, h⟩ := RPost.bind h
    refine tE_in hf hh e1 fun v H1 g1 l1 hh1 r1 => ?_
    cases r1 with
    | int i => exact ⟨i, rfl, (h.mono l1 : Post X.K g1 (.int (-i)) S1 Q).now hh1 (.int _)⟩
    | _ => exact h.elim
theorem t_plain {e : Expr} {c : E} (h : PE X e (tE X.K Φ c)) (hp : isPlainT e = true) : PT X e (tT X.K Φ c) :=
  (pt_truth h (plainT hp _)).imp fun σ H Q ⟨g, fr, S, hf, hh, h⟩ => by
    obtain ⟨x, S1, e1, h⟩ := RPost.bind h
    obtain ⟨b, e2, h⟩ := RPost.of h
    exact tE_in hf hh e1 fun v H1 g1 l1 hh1 r1 => ⟨b, truth_of hh1 r1 e2, h H1 g1 l1 hh1⟩
/-! tests, by their parts -/
theorem evT_not {c : E} {fr : Fr} {S : Store} : evT Φ (.not c) fr S = (evT Φ c fr S).bind fun b S1 => .ok (!b) S1 := by
  unfold evT
  show ((evE Φ c fr S).bind fun x S1 => match truth S1 x with | some b => Res.ok (D.bl !b) S1 | none => .no).bind _ = _
  cases evE Φ c fr S with
  | ok x S1 =>
    show (match truth S1 x with | some b => Res.ok (D.bl !b) S1 | none => .no).bind _ = (Res.of (truth S1 x) S1).bind _
    cases truth S1 x <;> rfl
  | ex => rfl
  | no => rfl
theorem evT_and {a b : E} {fr : Fr} {S : Store} : evT Φ (.and a b) fr S = (evT Φ a fr S).bind fun t S1 => if t then evT Φ b fr S1 else .ok false S1 := by
  unfold evT
  show ((evE Φ a fr S).bind fun x S1 => match truth S1 x with | some true => evE Φ b fr S1 | some false => .ok x S1 | none => .no).bind _ = _
  cases evE Φ a fr S with
  | ok x S1 =>
    show (match truth S1 x with | some true => evE Φ b fr S1 | some false => .ok x S1 | none => .no).bind _ = (Res.of (truth S1 x) S1).bind _
    cases ht : truth S1 x with
    | none => rfl
    | some t =>
      cases t with
      | true => rfl
      | false => show Res.of (truth S1 x) S1 = _; rw [ht]; rfl
  | ex => rfl
  | no => rfl
theorem evT_or {a b : E} {fr : Fr} {S : Store} : evT Φ (.or a b) fr S = (evT Φ a fr S).bind fun t S1 => if t then .ok true S1 else evT Φ b fr S1 := by
  unfold evT
  show ((evE Φ a fr S).bind fun x S1 => match truth S1 x with | some true => Res.ok x S1 | some false => evE Φ b fr S1 | none => .no).bind _ = _
  cases evE Φ a fr S with
  | ok x S1 =>
    show (match truth S1 x with | some true => Res.ok x S1 | some false => evE Φ b fr S1 | none => .no).bind _ = (Res.of (truth S1 x) S1).bind _
    cases ht : truth S1 x with
    | none => rfl
    | some t =>
      cases t with
      | false => rfl
      | true => show Res.of (truth S1 x) S1 = _; rw [ht]; rfl
  | ex => rfl
  | no => rfl
theorem evT_cmp {op : CmpOp} {a b : E} {fr : Fr} {S : Store} : evT Φ (.cmp op a b) fr S = (evE Φ a fr S).bind fun x S1 => (evE Φ b fr S1).bind fun y S2 => Res.of (cmpD op S2 x y) S2 := by
  unfold evT
  show ((evE Φ a fr S).bind fun x S1 => (evE Φ b fr S1).bind fun y S2 => match cmpD op S2 x y with | some r => Res.ok (D.bl r) S2 | none => .no).bind _ = _
  cases evE Φ a fr S with
  | ok x S1 =>
    show ((evE Φ b fr S1).bind fun y S2 => match cmpD op S2 x y with | some r => Res.ok (D.bl r) S2 | none => .no).bind _ = (evE Φ b fr S1).bind _
    cases evE Φ b fr S1 with
    | ok y S2 =>
      show (match cmpD op S2 x y with | some r => Res.ok (D.bl r) S2 | none => .no).bind _ = Res.of (cmpD op S2 x y) S2
      cases cmpD op S2 x y <;> rfl
    | ex => rfl
    | no => rfl
  | ex => rfl
  | no => rfl
theorem t_not (ha : PT X ea (tT X.K Φ ca)) : PT X (.UnaryOp .Not ea pos) (tT X.K Φ (.not ca)) :=
  (pt_not ha).imp fun σ H Q ⟨g, fr, S, hf, hh, h⟩ => by
    rw [evT_not] at h
    obtain ⟨b, S1, e1, h⟩ := RPost.bind h
    exact tT_in hf hh e1 fun H1 g1 l1 hh1 => h H1 g1 l1 hh1
/-- a value by its test -/
theorem e_not (ha : PE X ea (tE X.K Φ ca)) : PE X (.UnaryOp .Not ea pos) (tE X.K Φ (.not ca)) :=
  (pe_notT ha).imp fun σ H Q ⟨g, fr, S, hf, hh, h⟩ => by
    obtain ⟨x, S1, e1, h⟩ := RPost.bind h
    refine tE_in hf hh e1 fun v H1 g1 l1 hh1 r1 => ?_
    cases ht : truth S1 x with
    | none => rw [ht] at h; exact h.elim
    | some t =>
      rw [ht] at h
      exact ⟨t, truth_of hh1 r1 ht, (h.mono l1 : Post X.K g1 (.bl !t) S1 Q).now hh1 (.bl _)⟩
theorem e_cmp (hu : X.A.units + 65 < cLine) {op : CmpOp} (ha : PE X ea (tE X.K Φ ca)) (hb : PE X eb (tE X.K Φ cb)) (hs : isSet eb = false) : PE X (.Compare ea [op] [eb] pos) (tE X.K Φ (.cmp op ca cb)) :=
  (pe_cmpR (op_cmp hu op) ha hb (mark_ok hs)).imp fun σ H Q ⟨g, fr, S, hf, hh, h⟩ => by
    obtain ⟨x, S1, e1, h⟩ := RPost.bind h
    obtain ⟨y, S2, e2, h⟩ := RPost.bind h
    refine tE_in hf hh e1 fun v H1 g1 l1 hh1 r1 => tE_in (hf.mono l1) hh1 e2 fun u H2 g2 l2 hh2 r2 => ?_
    cases hc : cmpD op S2 x y with
    | none => rw [hc] at h; exact h.elim
    | some b =>
      rw [hc] at h
      exact ⟨g2, S2, x, y, b, hh2, r1.mono l2, r2, hc, (h.mono (l1.trans l2) : Post X.K g2 (.bl b) S2 Q).now hh2 (.bl _)⟩
theorem t_cmp (hu : X.A.units + 65 < cLine) {op : CmpOp} (ha : PE X ea (tE X.K Φ ca)) (hb : PE X eb (tE X.K Φ cb)) (hs : isSet eb = false) : PT X (.Compare ea [op] [eb] pos) (tT X.K Φ (.cmp op ca cb)) :=
  (pt_cmpR (op_cmp hu op) ha hb (mark_ok hs)).imp fun σ H Q ⟨g, fr, S, hf, hh, h⟩ => by
    rw [evT_cmp] at h
    obtain ⟨x, S1, e1, h⟩ := RPost.bind h
    obtain ⟨y, S2, e2, h⟩ := RPost.bind h
    obtain ⟨b, hc, h⟩ := RPost.of h
    exact tE_in hf hh e1 fun v H1 g1 l1 hh1 r1 => tE_in (hf.mono l1) hh1 e2 fun u H2 g2 l2 hh2 r2 =>
      ⟨g2, S2, x, y, b, hh2, r1.mono l2, r2, hc, b, rfl, h H2 g2 (l1.trans l2) hh2⟩
theorem e_and {rest : List Expr} (ha : PE X ea (tE X.K Φ ca)) (hb : PE X (.BoolOp .And (eb :: rest) pos) (tE X.K Φ cb)) : PE X (.BoolOp .And (ea :: eb :: rest) pos) (tE X.K Φ (.and ca cb)) :=
  (pe_andT ha hb).imp fun σ H Q ⟨g, fr, S, hf, hh, h⟩ => by
    obtain ⟨x, S1, e1, h⟩ := RPost.bind h
    refine tE_in hf hh e1 fun v H1 g1 l1 hh1 r1 => ?_
    cases ht : truth S1 x with
    | none => rw [ht] at h; exact h.elim
    | some t =>
      rw [ht] at h
      refine ⟨t, truth_of hh1 r1 ht, ?_⟩
      cases t with
      | true => exact ⟨g1, fr, S1, hf.mono l1, hh1, RPost.imp h fun d S' _ q => q.mono l1⟩
      | false => exact (h.mono l1 : Post X.K g1 x S1 Q).now hh1 r1
theorem e_or {rest : List Expr} (ha : PE X ea (tE X.K Φ ca)) (hb : PE X (.BoolOp .Or (eb :: rest) pos) (tE X.K Φ cb)) : PE X (.BoolOp .Or (ea :: eb :: rest) pos) (tE X.K Φ (.or ca cb)) :=
  (pe_orT ha hb).imp fun σ H Q ⟨g, fr, S, hf, hh, h⟩ => by
    obtain ⟨x, S1, e1, h⟩ := RPost.bind h
    refine tE_in hf hh e1 fun v H1 g1 l1 hh1 r1 => ?_
    cases ht : truth S1 x with
    | none => rw [ht] at h; exact h.elim
    | some t =>
      rw [ht] at h
      refine ⟨t, truth_of hh1 r1 ht, ?_⟩
      cases t with
      | false => exact ⟨g1, fr, S1, hf.mono l1, hh1, RPost.imp h fun d S' _ q => q.mono l1⟩
      | true => exact (h.mono l1 : Post X.K g1 x S1 Q).now hh1 r1
theorem w_and {rest : List Expr} (ha : PT X ea (tT X.K Φ ca)) (hb : PW X (.BoolOp .And (eb :: rest) pos) (tT X.K Φ cb)) : PW X (.BoolOp .And (ea :: eb :: rest) pos) (tT X.K Φ (.and ca cb)) :=
  (pw_and ha hb).imp fun σ H Q ⟨g, fr, S, hf, hh, h⟩ => by
    rw [evT_and] at h
    obtain ⟨t, S1, e1, h⟩ := RPost.bind h
    refine tT_in hf hh e1 fun H1 g1 l1 hh1 => ?_
    cases t with
    | true => exact ⟨g1, fr, S1, hf.mono l1, hh1, RPost.imp h fun d S' _ q => q.mono l1⟩
    | false => exact h H1 g1 l1 hh1
theorem w_or {rest : List Expr} (ha : PT X ea (tT X.K Φ ca)) (hb : PW X (.BoolOp .Or (eb :: rest) pos) (tT X.K Φ cb)) : PW X (.BoolOp .Or (ea :: eb :: rest) pos) (tT X.K Φ (.or ca cb)) :=
  (pw_or ha hb).imp fun σ H Q ⟨g, fr, S, hf, hh, h⟩ => by
    rw [evT_or] at h
    obtain ⟨t, S1, e1, h⟩ := RPost.bind h
    refine tT_in hf hh e1 fun H1 g1 l1 hh1 => ?_
    cases t with
    | false => exact ⟨g1, fr, S1, hf.mono l1, hh1, RPost.imp h fun d S' _ q => q.mono l1⟩
    | true => exact h H1 g1 l1 hh1
theorem e_ite (hc : PT X ec (tT X.K Φ cc)) (ha : PE X ea (tE X.K Φ ca)) (hb : PE X eb (tE X.K Φ cb)) : PE X (.IfExp ec ea eb pos) (tE X.K Φ (.ite cc ca cb)) :=
  (pe_ifExp hc ha hb).imp fun σ H Q ⟨g, fr, S, hf, hh, h⟩ => by
    obtain ⟨x, S1, e1, h⟩ := RPost.bind h
    cases ht : truth S1 x with
    | none => rw [ht] at h; exact h.elim
    | some t =>
      rw [ht] at h
      refine tT_in hf hh (evT_of e1 ht) fun H1 g1 l1 hh1 => ?_
      cases t with
      | true => exact ⟨g1, fr, S1, hf.mono l1, hh1, RPost.imp h fun d S' _ q => q.mono l1⟩
      | false => exact ⟨g1, fr, S1, hf.mono l1, hh1, RPost.imp h fun d S' _ q => q.mono l1⟩
/-- a op b op' c -/
theorem e_cmp2 (hu : X.A.units + 65 < cLine) {op op' : CmpOp} (ha : PE X ea (tE X.K Φ ca)) (hb : PE X eb (tE X.K Φ cb)) (hc : PE X ec (tE X.K Φ cc)) (hs : isSet ec = false) :
    PE X (.Compare ea [op, op'] [eb, ec] pos) (tE X.K Φ (.cmp2 op op' ca cb cc)) :=
  (pe_chain (op_cmp hu op) (op_cmp hu op') ha hb hc (mark_ok hs)).imp fun σ H Q ⟨g, fr, S, hf, hh, h⟩ => by
    obtain ⟨x, S1, e1, h⟩ := RPost.bind h
    obtain ⟨y, S2, e2, h⟩ := RPost.bind h
    refine tE_in hf hh e1 fun v H1 g1 l1 hh1 r1 => tE_in (hf.mono l1) hh1 e2 fun u H2 g2 l2 hh2 r2 => ?_
    cases hc : cmpD op S2 x y with
    | none => rw [hc] at h; exact h.elim
    | some b =>
      rw [hc] at h
      refine ⟨g2, S2, x, y, b, hh2, r1.mono l2, r2, hc, b, rfl, ?_⟩
      cases b with
      | false => exact (h.mono (l1.trans l2) : Post X.K g2 (.bl false) S2 Q).now hh2 (.bl _)
      | true =>
        obtain ⟨z, S3, e3, h⟩ := RPost.bind h
        refine tE_in (hf.mono (l1.trans l2)) hh2 e3 fun w H3 g3 l3 hh3 r3 => ?_
        cases hc' : cmpD op' S3 y z with
        | none => rw [hc'] at h; exact h.elim
        | some b' =>
          rw [hc'] at h
          exact ⟨g3, S3, y, z, b', hh3, r2.mono l3, r3, hc', (h.mono ((l1.trans l2).trans l3) : Post X.K g3 (.bl b') S3 Q).now hh3 (.bl _)⟩
theorem t_cmp2 (hu : X.A.units + 65 < cLine) {op op' : CmpOp} (ha : PE X ea (tE X.K Φ ca)) (hb : PE X eb (tE X.K Φ cb)) (hc : PE X ec (tE X.K Φ cc)) (hs : isSet ec = false) :
    PT X (.Compare ea [op, op'] [eb, ec] pos) (tT X.K Φ (.cmp2 op op' ca cb cc)) :=
  (pt_chain (op_cmp hu op) (op_cmp hu op') ha hb hc (mark_ok hs)).imp fun σ H Q ⟨g, fr, S, hf, hh, h⟩ => by
    obtain ⟨d, S9, e9, h⟩ := RPost.bind h
    obtain ⟨t, et, h⟩ := RPost.of h
    obtain ⟨x, S1, e1, k⟩ := RPost.bind (P := fun d' S' => d' = d ∧ S' = S9) (r := evE Φ ca fr S) (by
      show RPost _ (evE Φ (.cmp2 op op' ca cb cc) fr S)
      rw [e9]; exact ⟨rfl, rfl⟩)
    obtain ⟨y, S2, e2, k⟩ := RPost.bind k
    refine tE_in hf hh e1 fun v H1 g1 l1 hh1 r1 => tE_in (hf.mono l1) hh1 e2 fun u H2 g2 l2 hh2 r2 => ?_
    cases hc : cmpD op S2 x y with
    | none => rw [hc] at k; exact k.elim
    | some b =>
      rw [hc] at k
      refine ⟨g2, S2, x, y, b, hh2, r1.mono l2, r2, hc, b, rfl, ?_⟩
      cases b with
      | false =>
        obtain ⟨rfl, rfl⟩ := k
        cases et
        exact ⟨false, rfl, h H2 g2 (l1.trans l2) hh2⟩
      | true =>
        obtain ⟨z, S3, e3, k⟩ := RPost.bind k
        refine tE_in (hf.mono (l1.trans l2)) hh2 e3 fun w H3 g3 l3 hh3 r3 => ?_
        cases hc' : cmpD op' S3 y z with
        | none => rw [hc'] at k; exact k.elim
        | some b' =>
          rw [hc'] at k
          obtain ⟨rfl, rfl⟩ := k
          cases et
          exact ⟨g3, S3, y, z, _, hh3, r2.mono l3, r3, hc', _, rfl, h H3 g3 ((l1.trans l2).trans l3) hh3⟩

/-! several -/
variable {es : List Expr} {cs : List E}
theorem a_nil : PA X [] (tEs X.K Φ []) := pa_nil.imp fun σ H Q ⟨g, fr, S, hf, hh, h⟩ => (show LPost X.K g [] S Q from h) [] H g (Le.refl g) hh .nil
theorem a_cons (ha : PE X ea (tE X.K Φ ca)) (hr : PA X es (tEs X.K Φ cs)) (hs : isStar ea = false) : PA X (ea :: es) (tEs X.K Φ (ca :: cs)) :=
  (pa_cons ha hr (star_cons hs)).imp fun σ H Q ⟨g, fr, S, hf, hh, h⟩ => by
    obtain ⟨x, S1, e1, h⟩ := RPost.bind h
    obtain ⟨xs, S2, e2, h⟩ := RPost.bind h
    exact tE_in hf hh e1 fun v H1 g1 l1 hh1 r1 => tEs_in (hf.mono l1) hh1 e2 fun vs H2 g2 l2 hh2 r2 => h (v :: vs) H2 g2 (l1.trans l2) hh2 (.cons (r1.mono l2) r2)
theorem e_tup {k : Nat} (h : PA X es (tEs X.K Φ cs)) : PE X (.Tuple es k pos) (tE X.K Φ (.tup cs)) :=
  (pe_tup h).imp fun σ H Q ⟨g, fr, S, hf, hh, h⟩ => by
    obtain ⟨xs, S1, e1, h⟩ := RPost.bind h
    refine tEs_in hf hh e1 fun vs H1 g1 l1 hh1 r1 => ?_
    have h : RPost (fun d S' => Post X.K g d S' Q) (if xs.length ≤ sizeLine then .ok (.tup xs) S1 else .no) := h
    split at h
    · rename_i hl
      exact ⟨by rw [← r1.length]; exact hl, (h.mono l1 : Post X.K g1 (.tup xs) S1 Q).tup hh1 r1⟩
    · exact h.elim
theorem e_lst (h : PA X es (tEs X.K Φ cs)) : PE X (.List es pos) (tE X.K Φ (.lst cs)) :=
  (pe_lst h).imp fun σ H Q ⟨g, fr, S, hf, hh, h⟩ => by
    obtain ⟨xs, S1, e1, h⟩ := RPost.bind h
    refine tEs_in hf hh e1 fun vs H1 g1 l1 hh1 r1 => ?_
    have h : RPost (fun d S' => Post X.K g d S' Q) (if xs.length ≤ sizeLine then .ok (.lst xs) S1 else .no) := h
    split at h
    · rename_i hl
      exact ⟨by rw [← r1.length]; exact hl, (h.mono l1 : Post X.K g1 (.lst xs) S1 Q).lst hh1 r1⟩
    · exact h.elim
theorem e_mkl (h : PA X es (tEs X.K Φ cs)) : PE X (.List es pos) (tE X.K Φ (.mkl cs)) :=
  (pe_lst h).imp fun σ H Q ⟨g, fr, S, hf, hh, h⟩ => by
    obtain ⟨xs, S1, e1, h⟩ := RPost.bind h
    refine tEs_in hf hh e1 fun vs H1 g1 l1 hh1 r1 => ?_
    have h : RPost (fun d S' => Post X.K g d S' Q) (if xs.length ≤ sizeLine then .ok (.ref S1.length) (S1 ++ [.lst xs]) else .no) := h
    split at h
    · rename_i hl
      exact ⟨by rw [← r1.length]; exact hl, (h.mono l1 : Post X.K g1 (.ref S1.length) (S1 ++ [.lst xs]) Q).add hh1 ⟨_, rfl, r1⟩⟩
    · exact h.elim
theorem e_sub (ha : PE X ea (tE X.K Φ ca)) (hb : PE X eb (tE X.K Φ cb)) (hs : isSlc eb = false) : PE X (.Subscript ea eb pos) (tE X.K Φ (.sub ca cb)) :=
  (pe_ix ix_data ha hb (plainIx hs)).imp fun σ H Q ⟨g, fr, S, hf, hh, h⟩ => by
    obtain ⟨x, S1, e1, h⟩ := RPost.bind h
    obtain ⟨y, S2, e2, h⟩ := RPost.bind h
    obtain ⟨d, e3, h⟩ := RPost.of h
    exact tE_in hf hh e1 fun v H1 g1 l1 hh1 r1 => tE_in (hf.mono l1) hh1 e2 fun u H2 g2 l2 hh2 r2 => ⟨g2, S2, x, y, d, hh2, r1.mono l2, r2, e3, h.mono (l1.trans l2)⟩
theorem o_none : PO X none (tO X.K Φ none) := po_none.imp fun σ H Q ⟨g, fr, S, hf, hh, h⟩ => (show OPost X.K g none S Q from h) H g (Le.refl g) hh
theorem o_some (ha : PE X ea (tE X.K Φ ca)) : PO X (some ea) (tO X.K Φ (some ca)) :=
  (po_some ha).imp fun σ H Q ⟨g, fr, S, hf, hh, h⟩ => by
    obtain ⟨x, S1, e1, h⟩ := RPost.bind h
    refine tE_in hf hh e1 fun v H1 g1 l1 hh1 r1 => ?_
    cases r1 with
    | int i => exact ⟨i, rfl, (show OPost X.K g (some i) S1 Q from h) H1 g1 l1 hh1⟩
    | _ => exact h.elim
theorem e_slc {lo hi : Option Expr} {cl ch : Option E} {p2 : Pos} (ha : PE X ea (tE X.K Φ ca)) (hl : PO X lo (tO X.K Φ cl)) (hu : PO X hi (tO X.K Φ ch)) : PE X (.Subscript ea (.Slice lo hi none p2) pos) (tE X.K Φ (.slc ca cl ch)) :=
  (pe_slice sl_data ha hl hu).imp fun σ H Q ⟨g, fr, S, hf, hh, h⟩ => by
    obtain ⟨x, S1, e1, h⟩ := RPost.bind h
    obtain ⟨l, S2, e2, h⟩ := RPost.bind h
    obtain ⟨u, S3, e3, h⟩ := RPost.bind h
    obtain ⟨d, e4, h⟩ := RPost.of h
    exact tE_in hf hh e1 fun v H1 g1 l1 hh1 r1 => tO_in (hf.mono l1) hh1 e2 fun H2 g2 l2 hh2 => tO_in (hf.mono (l1.trans l2)) hh2 e3 fun H3 g3 l3 hh3 =>
      ⟨g3, S3, x, d, hh3, (r1.mono l2).mono l3, e4, h.mono ((l1.trans l2).trans l3)⟩
end
end Dm

/-! DmF: calls, built-in functions, methods, targets, iterables, comprehensions. -/
namespace Dm
open PySem L2

/-! ### what is known of the module -/
structure Tab where
  fns : List (Str × Nat)
  cns : List Str
  blt : List Str
  gcd : Str
def spF (K : PySem.W.Frag) (Φ : Fns) (f : Nat) : Sp := fun vs H Q _ => ∃ g S ds, HpOk K g S H ∧ RepL K g ds vs ∧ RPost (fun d S' => Post K g d S' Q) (Φ.call f ds S)
def g0 : G := ⟨fun _ => none, [], fun _ => none⟩
theorem rep_g0 {K : PySem.W.Frag} {g : G} {d : D} {v : V} (r : Rep K g0 d v) : Rep K g d v :=
  (r.mono (show Le g0 (g.back g0.pv) from ⟨fun _ _ e => (nomatch (show (none : Option HO) = some _ from e)), ⟨g.ρ, rfl⟩, rfl⟩)).pv (q := g.pv)
structure GOk (T : Tab) (Φ : Fns) (k : Nat) (P : Program) (w : World) (K : PySem.W.Frag) (mg : Str → Option Value) (base : Heap) (A : Around) : Prop where
  room : Room k A
  fn : ∀ (f : Nat) (x : Str) (np : Nat), T.fns[f]? = some (x, np) → ∃ a fd ps, mg x = some (.ref a) ∧ PySem.W.keepIn K (.ref a) = true ∧ Binds K fd ps [] ∧ ps.length = np ∧ FnOk P w K mg base CX0 k a fd ps (spF K Φ f)
  const : ∀ (i : Nat) (x : Str), T.cns[i]? = some x → ∃ u v d, mg x = some u ∧ RelV v u ∧ Φ.const i = some d ∧ Rep K g0 d v
  blt : ∀ x ∈ T.blt, mg x = none ∧ x ≠ "__name__"
  gcd : mg T.gcd = some (.builtin "math.gcd") ∨ T.gcd = ""

section
variable {X : Cx} {c : Ctx} {T : Tab} {Φ : Fns} {k : Nat} {pos p apos : Pos} {ea eb : Expr} {ca cb : E} {es : List Expr} {cs : List E}
abbrev GX (T : Tab) (Φ : Fns) (k : Nat) (X : Cx) : Prop := GOk T Φ k X.prog X.w X.K X.mg X.base X.A
theorem GX.hu (G : GX T Φ k X) : X.A.units + 65 < cLine := by have := G.room.un; omega
theorem e_glob (G : GX T Φ k X) (C : CtxOk c X) {i : Nat} {x : Str} (hT : T.cns[i]? = some x) (hg : c.gl x = true) : PE X (.Name x pos) (tE X.K Φ (.glob i)) := by
  obtain ⟨u, v, d, h1, h2, h3, h4⟩ := G.const i x hT
  refine (pe_glob (C.gl hg).1 h1 h2 (C.gl hg).2).imp fun σ H Q ⟨g, fr, S, hf, hh, h⟩ => ?_
  have h : RPost (fun d S' => Post X.K g d S' Q) (Res.of (Φ.const i) S) := h
  rw [h3] at h
  exact (show Post X.K g d S Q from h).now hh (rep_g0 h4)
theorem e_call (G : GX T Φ k X) (C : CtxOk c X) {f np : Nat} {x : Str} (hT : T.fns[f]? = some (x, np)) (hg : c.gl x = true) (ha : PA X (ea :: es) (tEs X.K Φ cs)) (hs : (ea :: es).any isStar = false) : PE X (.Call (.Name x p) (ea :: es) [] pos) (tE X.K Φ (.call f cs)) := by
  obtain ⟨a, fd, ps, h1, h2, h3, h4, F⟩ := G.fn f x np hT
  rw [List.any_cons, Bool.or_eq_false_iff] at hs
  refine (pe_call F G.room (C.gl hg).1 h1 h2 h3 .nil pass0 ha (C.gl hg).2 (star_cons hs.1) (star_plain hs.2)).imp fun σ H Q ⟨g, fr, S, hf, hh, h⟩ => ?_
  obtain ⟨xs, S1, e1, h⟩ := RPost.bind h
  refine tEs_in hf hh e1 fun vs H1 g1 l1 hh1 r1 => ?_
  rw [List.append_nil]
  exact ⟨g1, S1, xs, hh1, r1, RPost.imp h fun d S' _ q => q.mono l1⟩
theorem e_call0 (G : GX T Φ k X) (C : CtxOk c X) {f np : Nat} {x : Str} (hT : T.fns[f]? = some (x, np)) (hg : c.gl x = true) : PE X (.Call (.Name x p) [] [] pos) (tE X.K Φ (.call f [])) := by
  obtain ⟨a, fd, ps, h1, h2, h3, h4, F⟩ := G.fn f x np hT
  refine (pe_call0 F G.room (C.gl hg).1 h1 h2 h3 .nil pass0 (C.gl hg).2).imp fun σ H Q ⟨g, fr, S, hf, hh, h⟩ => ?_
  exact ⟨g, S, [], hh, .nil, h⟩

/-! built-in functions -/
inductive BK where
  | b (id : String) | t (ty : String) | g
def Bi.key : Bi → BK
  | .len => .b "len" | .sum => .b "sum" | .min1 => .b "min" | .max1 => .b "max" | .min2 => .b "min" | .max2 => .b "max" | .abs => .b "abs" | .all => .b "all" | .any => .b "any"
  | .tuple => .t "tuple" | .list => .t "list" | .int => .t "int" | .sorted => .b "sorted" | .gcd => .g | .str => .t "str"
def Bi.nm : Bi → Str
  | .len => "len" | .sum => "sum" | .min1 => "min" | .max1 => "max" | .min2 => "min" | .max2 => "max" | .abs => "abs" | .all => "all" | .any => "any"
  | .tuple => "tuple" | .list => "list" | .int => "int" | .sorted => "sorted" | .gcd => "gcd" | .str => "str"
def Bi.val : Bi → Value
  | .len => .builtin "len" | .sum => .builtin "sum" | .min1 => .builtin "min" | .max1 => .builtin "max" | .min2 => .builtin "min" | .max2 => .builtin "max" | .abs => .builtin "abs" | .all => .builtin "all" | .any => .builtin "any"
  | .tuple => .type "tuple" | .list => .type "list" | .int => .type "int" | .sorted => .builtin "sorted" | .gcd => .builtin "math.gcd" | .str => .type "str"
/-- the built-in functions that are covered so far -/
def Bi.ok : Bi → Bool
  | .str => false
  | _ => true
theorem bi_rule (G : GX T Φ k X) (hc : X.calm = true) (f : Bi) (h : f.ok = true) : CallR X f.val (rBi X.K f) := by
  cases f with
  | len => exact cr_len
  | sum => exact cr_dsum hc
  | min1 => exact cr_dmin1 hc
  | max1 => exact cr_dmax1 hc
  | min2 => exact cr_dmin2 hc
  | max2 => exact cr_dmax2 hc
  | abs => exact cr_dabs
  | all => exact cr_dall hc
  | any => exact cr_dany hc
  | tuple => exact cr_dtuple
  | list => exact cr_dlist
  | int => exact cr_dint
  | gcd => exact cr_dgcd
  | sorted => exact cr_dsorted G.hu
  | str => cases h
theorem bi_boot (f : Bi) (h : f ≠ .gcd) : bootBuiltins f.nm = some f.val := by
  cases f with
  | gcd => exact absurd rfl h
  | _ => decide +kernel
theorem e_bi (G : GX T Φ k X) (C : CtxOk c X) {f : Bi} {x : Str} (hk : f.ok = true) (hx : x = f.nm ∧ f ≠ .gcd ∧ x ∈ T.blt ∨ f = .gcd ∧ x = T.gcd ∧ x ≠ "") (hg : c.gl x = true) (ha : PA X (ea :: es) (tEs X.K Φ cs)) (hs : (ea :: es).any isStar = false) :
    PE X (.Call (.Name x p) (ea :: es) [] pos) (tE X.K Φ (.bi f cs)) := by
  rw [List.any_cons, Bool.or_eq_false_iff] at hs
  have go : ∀ σ H Q, tE X.K Φ (.bi f cs) σ H Q → tCB (rBi X.K f) (tEs X.K Φ cs) σ H Q := fun σ H Q ⟨g, fr, S, hf, hh, h⟩ => by
    obtain ⟨xs, S1, e1, h⟩ := RPost.bind h
    obtain ⟨d, e2, h⟩ := RPost.of h
    exact tEs_in hf hh e1 fun vs H1 g1 l1 hh1 r1 => ⟨g1, S1, xs, d, hh1, r1, e2, h.mono l1⟩
  have R := bi_rule G C.calm f hk
  rcases hx with ⟨rfl, hn, hb⟩ | ⟨rfl, rfl, hn⟩
  · obtain ⟨m0, m1⟩ := G.blt _ hb
    have bo := bi_boot f hn
    cases hv : f.val with
    | builtin id =>
      rw [hv] at R bo
      exact (pe_callB R (C.gl hg).1 m0 bo ha m1 (C.gl hg).2 (star_cons hs.1) (star_plain hs.2)).imp go
    | type ty =>
      rw [hv] at R bo
      exact (pe_callTy R (C.gl hg).1 m0 bo ha m1 (C.gl hg).2 (star_cons hs.1) (star_plain hs.2)).imp go
    | _ => cases f <;> cases hv
  · rcases G.gcd with gg | gg
    · exact (pe_callBfun R (C.gl hg).1 gg ha (C.gl hg).2 (star_cons hs.1) (star_plain hs.2)).imp go
    · exact absurd gg hn

/-! max, min with default= -/
def maxN : Str := "max"
def minN : Str := "min"
def dfN : Str := "default"
theorem e_md {mx : Bool} {ce : E} (hce : ce = (if mx then .maxd ca cb else .mind ca cb)) (G : GX T Φ k X) (C : CtxOk c X) {x : Str} {kp : Pos} (hx : x = (if mx then maxN else minN)) (hb : x ∈ T.blt) (hg : c.gl x = true) (ha : PE X ea (tE X.K Φ ca)) (hd : PE X eb (tE X.K Φ cb)) (hs : isStar ea = false) :
    PE X (.Call (.Name x p) [ea] [⟨some dfN, eb, kp⟩] pos) (tE X.K Φ ce) := by
  obtain ⟨m0, m1⟩ := G.blt _ hb
  have go : ∀ σ H Q, tE X.K Φ ce σ H Q → tCKw (rMd X.K mx) (tCons (tE X.K Φ ca) tNil) (tCons (tE X.K Φ cb) tNil) σ H Q := fun σ H Q h => by
    have h : ∃ g fr S, FrOk X.K g fr σ ∧ HpOk X.K g S H ∧ RPost (fun d S' => Post X.K g d S' Q) ((evE Φ ca fr S).bind fun x S1 => (evE Φ cb fr S1).bind fun y S2 => Res.of (mdD mx S2 x y) S2) := by
      subst hce
      cases mx <;> exact h
    obtain ⟨g, fr, S, hf, hh, h⟩ := h
    obtain ⟨x, S1, e1, h⟩ := RPost.bind h
    obtain ⟨y, S2, e2, h⟩ := RPost.bind h
    obtain ⟨d, e3, h⟩ := RPost.of h
    exact tE_in hf hh e1 fun v H1 g1 l1 hh1 r1 => tE_in (hf.mono l1) hh1 e2 fun u H2 g2 l2 hh2 r2 => ⟨g2, S2, x, y, d, v, u, rfl, rfl, hh2, r1.mono l2, r2, e3, h.mono (l1.trans l2)⟩
  cases mx with
  | true =>
    subst hx
    exact (pe_callBK (cr_maxd C.calm G.hu) (C.gl hg).1 m0 (bi_boot .max1 (by decide)) (pa_cons ha pa_nil (star_cons hs)) (pk_cons hd pk_nil) m1 (C.gl hg).2 (by rw [star_cons hs]; rfl) (by rw [star_cons hs]; rfl)).imp go
  | false =>
    subst hx
    exact (pe_callBK (cr_mind C.calm G.hu) (C.gl hg).1 m0 (bi_boot .min1 (by decide)) (pa_cons ha pa_nil (star_cons hs)) (pk_cons hd pk_nil) m1 (C.gl hg).2 (by rw [star_cons hs]; rfl) (by rw [star_cons hs]; rfl)).imp go

/-! isinstance -/
def Ty.nm : Ty → Str
  | .int => "int" | .bool => "bool" | .str => "str" | .tuple => "tuple" | .list => "list"
theorem ty_boot (t : Ty) : bootBuiltins t.nm = some (.type (tyN t)) := by cases t <;> decide +kernel
def isiN : Str := "isinstance"
theorem e_isi (G : GX T Φ k X) (C : CtxOk c X) {t : Ty} {p2 : Pos} (hb : isiN ∈ T.blt) (hg : c.gl isiN = true) (hb2 : t.nm ∈ T.blt) (hg2 : c.gl t.nm = true) (ha : PE X ea (tE X.K Φ ca)) (hs : isStar ea = false) :
    PE X (.Call (.Name isiN p) [ea, .Name t.nm p2] [] pos) (tE X.K Φ (.isi t ca)) := by
  obtain ⟨m0, m1⟩ := G.blt _ hb
  obtain ⟨n0, n1⟩ := G.blt _ hb2
  have pn : PE X (.Name t.nm p2) (tC (.ty (tyN t))) := pe_bltn (C.gl hg2).1 n0 (ty_boot t) rfl n1 (C.gl hg2).2
  refine (pe_callB call_isi (C.gl hg).1 m0 PyProof.Rows.boot_isinstance (pa_cons ha (pa_cons pn pa_nil) (star_cons hs)) m1 (C.gl hg).2 (star_cons hs)).imp fun σ H Q ⟨g, fr, S, hf, hh, h⟩ => ?_
  obtain ⟨x, S1, e1, h⟩ := RPost.bind h
  refine tE_in hf hh e1 fun v H1 g1 l1 hh1 r1 => ?_
  cases hi : isiD S1 t x with
  | none => rw [hi] at h; exact h.elim
  | some b =>
    rw [hi] at h
    obtain ⟨u, ht, hk⟩ := rep_ty hh1 r1 hi
    exact ⟨v, .ty (tyN t), u, .type (tyN t), b, rfl, .ty _, ht, hk, (h.mono l1 : Post X.K g1 (.bl b) S1 Q).now hh1 (.bl _)⟩

/-! methods -/
theorem few_ok {env : Env} {cpos : Pos} {es : List Expr} (hs : es.any isStar = false) (hl : es.length < 29) :
    ((backTo cpos (starEach es env)).all (fun x => !x.1) && (backToKw cpos (keywordEach [] env)).all (fun x => x.1.isSome) && decide (es.length + ([] : List Keyword).length + (if ([] : List Keyword).isEmpty then 0 else 1) < 30)) = true := by
  rw [star_few hs]
  show (true && true && decide (es.length + 0 + 0 < 30)) = true
  rw [decide_eq_true (by omega)] <;> rfl
def Me.ty : Me → String
  | .index => "list" | .count => "list" | .join => "str"
def Me.nm : Me → Str
  | .index => "index" | .count => "count" | .join => "join"
def Me.ok : Me → Bool
  | .count => false
  | _ => true
theorem ty_of {K : PySem.W.Frag} {g : G} {S : Store} {H : Hp} {m : Me} {x : D} {v : V} (hh : HpOk K g S H) (r : Rep K g x v) (h : meTy m S x = true) : tyV K m.ty v H := by
  have sq : (lstD S x).isSome = true → tyV K "list" v H := fun h => by
    cases e : lstD S x with
    | none => rw [e] at h; cases h
    | some l =>
      obtain ⟨p, xs, rfl, ho, _⟩ := lst_of hh r e
      exact .inl ⟨rfl, xs, .inl (.inl ho)⟩
  cases m with
  | index => exact sq h
  | count => exact sq h
  | join =>
    cases r with
    | str z => rfl
    | _ => cases h
theorem e_me (G : GX T Φ k X) {m : Me} (hk : m.ok = true) (ho : PE X ea (tE X.K Φ ca)) (ha : PA X (eb :: es) (tEs X.K Φ cs)) (hs : (eb :: es).any isStar = false) (hl : (eb :: es).length < 29) (h0 : isCall0 ea = false) (hline : (apos.endLine == pos.line) = true) :
    PE X (.Call (.Attribute ea m.nm apos) (eb :: es) [] pos) (tE X.K Φ (.me m ca cs)) := by
  have fw := few_ok (env := X.env) (cpos := pos) hs hl
  rw [List.any_cons, Bool.or_eq_false_iff] at hs
  have go : ∀ σ H Q, tE X.K Φ (.me m ca cs) σ H Q → tBM X.K m.ty (rMe X.K m) (tE X.K Φ ca) (tEs X.K Φ cs) σ H Q := fun σ H Q ⟨g, fr, S, hf, hh, h⟩ => by
    obtain ⟨x, S1, e1, h⟩ := RPost.bind h
    refine tE_in hf hh e1 fun v H1 g1 l1 hh1 r1 => ?_
    cases hm : meTy m S1 x with
    | false => rw [hm] at h; exact h.elim
    | true =>
      rw [hm] at h
      obtain ⟨xs, S2, e2, h⟩ := RPost.bind h
      obtain ⟨d, e3, h⟩ := RPost.of h
      exact ⟨ty_of hh1 r1 hm, tEs_in (hf.mono l1) hh1 e2 fun vs H2 g2 l2 hh2 r2 => ⟨g2, S2, x, xs, d, hh2, r1.mono l2, r2, e3, h.mono (l1.trans l2)⟩⟩
  cases m with
  | index => exact (pe_bm PySem.F.plainAttrs_list PySem.F.slot_list_index PySem.F.type_list_index (mt_dindex G.hu) ho ha (attrBase h0 _ _ _) fw hline (star_cons hs.1) (star_plain hs.2)).imp go
  | join => exact (pe_bm PySem.F.plainAttrs_str PySem.F.slot_str_join PySem.F.type_str_join mt_djoin ho ha (attrBase h0 _ _ _) fw hline (star_cons hs.1) (star_plain hs.2)).imp go
  | count => cases hk
def appN : Str := "append"
theorem e_app (ho : PE X ea (tE X.K Φ ca)) (ha : PE X eb (tE X.K Φ cb)) (hs : isStar eb = false) (h0 : isCall0 ea = false) (hline : (apos.endLine == pos.line) = true) :
    PE X (.Call (.Attribute ea appN apos) [eb] [] pos) (tE X.K Φ (.app ca cb)) := by
  have hs' : [eb].any isStar = false := by rw [List.any_cons, hs]; rfl
  have fw := few_ok (env := X.env) (cpos := pos) hs' (show 1 < 29 by decide)
  refine (pe_bm PySem.F.plainAttrs_list PySem.F.slot_list_append PySem.F.type_list_append mt_append ho (pa_cons ha pa_nil (star_cons hs)) (attrBase h0 _ _ _) fw hline (star_cons hs)).imp fun σ H Q ⟨g, fr, S, hf, hh, h⟩ => ?_
  obtain ⟨x, S1, e1, h⟩ := RPost.bind h
  refine tE_in hf hh e1 fun v H1 g1 l1 hh1 r1 => ?_
  cases r1 with
  | ref er =>
    rename_i a n
    have h : RPost (fun d S' => Post X.K g d S' Q) (match cellL S1 n with | some _ => ((evE Φ cb fr S1).bind fun y S2 => match cellL S2 n with | some l => if l.length < sizeLine then .ok .non (S2.set n (.lst (l ++ [y]))) else .no | none => .no) | none => .no) := h
    cases hc : cellL S1 n with
    | none => rw [hc] at h; exact h.elim
    | some l1' =>
      rw [hc] at h
      obtain ⟨xs1, ho1, _⟩ := hh1.lst hc er
      refine ⟨.inl ⟨rfl, xs1, .inl (.inl ho1)⟩, ?_⟩
      obtain ⟨y, S2, e2, h⟩ := RPost.bind h
      refine tE_in (hf.mono l1) hh1 e2 fun u H2 g2 l2 hh2 r2 => ?_
      cases hc2 : cellL S2 n with
      | none => rw [hc2] at h; exact h.elim
      | some l =>
        rw [hc2] at h
        have h : RPost (fun d S' => Post X.K g d S' Q) (if l.length < sizeLine then .ok .non (S2.set n (.lst (l ++ [y]))) else .no) := h
        split at h
        · rename_i hl
          have er2 := l2.at_ er
          obtain ⟨xs, ho2, rl⟩ := hh2.lst hc2 er2
          refine ⟨a, xs, u, rfl, rfl, ho2, by rw [← rl.length]; exact hl, ?_⟩
          exact (show Post X.K g .non _ Q from h) .non _ g2 (l1.trans l2) (hh2.write (cellL_eq hc2) rfl er2 ⟨_, rfl, rl.append (.cons r2 .nil)⟩) .non
        · exact h.elim
  | _ => exact h.elim
end
end Dm

/-! DmG: targets, iterables, comprehensions. -/
namespace Dm
open PySem L2

/-! ### slots wiped -/
theorem wipe_at (σ : L2.St) (j : Nat) : ∀ vs : List Nat, (wipe σ vs)[j]? = if j ∈ vs then (σ[j]?).map fun _ => none else σ[j]?
  | [] => by simp [wipe]
  | v :: vs => by
    unfold wipe
    by_cases hj : v = j
    · subst hj
      rw [List.getElem?_set]
      simp only [if_true, wipe_length, List.mem_cons, true_or]
      by_cases hl : v < σ.length
      · simp [hl]
      · simp [hl, List.getElem?_eq_none (Nat.not_lt.mp hl)]
    · rw [List.getElem?_set_ne hj, wipe_at σ j vs]
      simp [List.mem_cons, Ne.symm hj]
theorem wipe_set {σ : L2.St} {i : Nat} {x : Option V} {vs : List Nat} (h : i ∈ vs) : wipe (σ.set i x) vs = wipe σ vs := by
  refine List.ext_getElem? fun j => ?_
  rw [wipe_at, wipe_at]
  by_cases hj : j ∈ vs
  · rw [if_pos hj, if_pos hj]
    by_cases e : i = j
    · subst e
      by_cases hl : i < σ.length
      · rw [List.getElem?_set_self hl, List.getElem?_eq_getElem hl]; rfl
      · rw [List.getElem?_eq_none (by simpa using hl), List.getElem?_eq_none (by simpa using hl)]
    · rw [List.getElem?_set_ne e]
  · rw [if_neg hj, if_neg hj, List.getElem?_set_ne (by rintro rfl; exact hj h)]
theorem wipe_wipe (σ : L2.St) (vs : List Nat) : wipe (wipe σ vs) vs = wipe σ vs := by
  refine List.ext_getElem? fun j => ?_
  rw [wipe_at, wipe_at]
  by_cases hj : j ∈ vs
  · rw [if_pos hj, if_pos hj]
    cases σ[j]? <;> rfl
  · rw [if_neg hj, if_neg hj]
theorem Sets.trans {a b : List Nat} {σ σ1 σ2 : L2.St} (h : Sets a σ σ1) (h' : Sets b σ1 σ2) : Sets (a ++ b) σ σ2 := fun vs hv =>
  (h' vs fun i hi => hv i (List.mem_append_right _ hi)).trans (h vs fun i hi => hv i (List.mem_append_left _ hi))
section
variable {K : PySem.W.Frag} {g : G} {fr : Fr} {σ : L2.St}
theorem FrOk.wipe (h : FrOk K g fr σ) : ∀ vs : List Nat, FrOk K g (wipeF fr vs) (L2.wipe σ vs)
  | [] => h
  | v :: vs => (FrOk.wipe h vs).clear v
end

/-! ### targets -/
section
variable {X : Cx} {c : Ctx} {pos : Pos}
theorem g_name (C : CtxOk c X) {x : Str} {i : Nat} (h : c.st x i = true) : PG X (.Name x pos) (tP X.K (.v i)) := by
  refine ⟨fun pins s σ H v u Q I r h' => ?_⟩
  obtain ⟨g, fr, S, d, fr', hf, hh, rd, e, q⟩ := h'
  cases e
  exact (C.pg h).run pins s σ H v u Q I r (q _ (hf.set rd) fun vs hv => wipe_set (hv i (List.mem_singleton.mpr rfl)))
theorem gs_nil : PGs X [] (tPs X.K []) := by
  refine ⟨fun pins s σ H vs us Q I r h' => ?_⟩
  obtain ⟨g, fr, S, ds, fr', hf, hh, rd, e, q⟩ := h'
  cases ds with
  | nil =>
    cases rd
    cases e
    exact pgs_nil.run pins s σ H [] us Q I r ⟨rfl, q _ hf fun _ _ => rfl⟩
  | cons => cases e
theorem gs_cons {ea : Expr} {es : List Expr} {p : Pat} {ps : List Pat} (h1 : PG X ea (tP X.K p)) (h2 : PGs X es (tPs X.K ps)) (hs : isStar ea = false) : PGs X (ea :: es) (tPs X.K (p :: ps)) := by
  refine ⟨fun pins s σ H vs us Q I r h' => ?_⟩
  obtain ⟨g, fr, S, ds, fr', hf, hh, rd, e, q⟩ := h'
  cases ds with
  | nil => cases e
  | cons d ds =>
    cases rd with
    | cons r1 r2 =>
      have e : (asgP p d fr).bind (fun fr' => asgPs ps ds fr') = some fr' := e
      cases e1 : asgP p d fr with
      | none => rw [e1] at e; cases e
      | some fr1 =>
        rw [e1] at e
        exact (pgs_cons h1 h2 (asg_cons hs)).run pins s σ H _ us Q I r ⟨_, _, rfl, g, fr, S, d, fr1, hf, hh, r1, e1, fun σ1 hf1 s1 => ⟨g, fr1, S, ds, fr', hf1, hh, r2, e, fun σ2 hf2 s2 => q σ2 hf2 (s1.trans s2)⟩⟩
theorem asgPs_len : ∀ {ps : List Pat} {ds : List D} {fr fr' : Fr}, asgPs ps ds fr = some fr' → ds.length = ps.length
  | [], [], _, _, _ => rfl
  | [], _ :: _, _, _, h => nomatch h
  | _ :: _, [], _, _, h => nomatch h
  | p :: ps, d :: ds, fr, fr', h => by
    have h : (asgP p d fr).bind (fun fr' => asgPs ps ds fr') = some fr' := h
    cases e1 : asgP p d fr with
    | none => rw [e1] at h; cases h
    | some fr1 =>
      rw [e1] at h
      exact congrArg (· + 1) (asgPs_len h)
theorem g_tup (C : CtxOk c X) {es : List Expr} {k : Nat} {ps : List Pat} (h : PGs X es (tPs X.K ps)) (hs : es.any isStar = false) (hl : es.length = ps.length) : PG X (.Tuple es k pos) (tP X.K (.t ps)) := by
  refine ⟨fun pins s σ H v u Q I r h' => ?_⟩
  obtain ⟨g, fr, S, d, fr', hf, hh, rd, e, q⟩ := h'
  cases rd with
  | tup hq rl =>
    have e : asgPs ps _ fr = some fr' := e
    obtain ⟨h1, h2⟩ := asg_each (env := X.env) hs
    have hn := asgPs_len e
    exact (pg_tup C.calm h h1 h2).run pins s σ H _ u Q I r ⟨_, _, rfl, sqT_mono hh.same hq, by rw [← rl.length, hn, hl], g, fr, S, _, fr', hf, hh, rl, e, q⟩
  | _ => cases e
end

/-! ### iterables -/
section
theorem le_back {g g' : G} {q : Hp} (h : Le g g') : Le (g.back q) (g'.back q) := ⟨h.F, h.ρ, rfl⟩
theorem Rep.monoW {K : PySem.W.Frag} {g g1 : G} (h : Le g (g1.back g.pv)) {d : D} {v : V} (r : Rep K g d v) : Rep K g1 d v := (r.mono h).pv (q := g1.pv)
theorem RepL.monoW {K : PySem.W.Frag} {g g1 : G} (h : Le g (g1.back g.pv)) {d : List D} {v : List V} (r : RepL K g d v) : RepL K g1 d v := (r.mono h).pv (q := g1.pv)
theorem leW {g g1 : G} (h : Le g g1) : Le g (g1.back g.pv) := ⟨h.F, h.ρ, rfl⟩
variable {X : Cx} {c : Ctx} {T : Tab} {Φ : Fns} {k : Nat} {pos p : Pos} {tg ea : Expr} {ca : E} {es : List Expr} {cs : List E}
theorem tI_in {K : PySem.W.Frag} {σ : L2.St} {H : Hp} {ca : E} {R : It → Hp → Prop} (h : tI K Φ ca σ H R) : ∃ g fr S d S' l, FrOk K g fr σ ∧ HpOk K g S H ∧ evE Φ ca fr S = .ok d S' ∧ iterD S' d = some l ∧
    ∀ H' g' J, Le g g' → HpOk K g' S' H' → ItOk K g' l J → R J H' := by
  obtain ⟨g, fr, S, hf, hh, h⟩ := h
  cases e : evE Φ ca fr S with
  | ok d S' =>
    rw [e] at h
    obtain ⟨l, h1, h2⟩ := h
    exact ⟨g, fr, S, d, S', l, hf, hh, e, h1, h2⟩
  | ex => rw [e] at h; exact h.elim
  | no => rw [e] at h; exact h.elim
theorem it_list {K : PySem.W.Frag} {g : G} {a : Addr} {xs : List V} {ds : List D} (h : g.F a = some (.lst xs)) (r : RepL K g ds xs) : ItOk K g ds (Itl K a) := by
  intro i H1 g1 S1 l1 hh1
  have hs : SqL K H1 a xs := .inl (.inl (hh1.same _ _ (l1.F _ _ h)))
  refine ⟨fun d hd => ?_, fun hi => ⟨xs, hs, by rw [← r.length]; exact hi⟩⟩
  obtain ⟨v, hv, rv⟩ := r.get hd
  refine ⟨⟨xs, v, hs, hv⟩, fun x H' y => ?_⟩
  obtain ⟨rfl, y⟩ := y
  have e : x = v := Option.some.inj ((y xs hs).symm.trans hv)
  subst e
  exact ⟨g1, Le.refl _, hh1, rv.monoW l1⟩
theorem it_tup {K : PySem.W.Frag} {g : G} {a : Addr} {xs : List V} {ds : List D} (h : SqT K g.F a xs) (r : RepL K g ds xs) : ItOk K g ds (Itt K a) := by
  intro i H1 g1 S1 l1 hh1
  have hs : SqT K H1 a xs := sqT_mono hh1.same (sqT_mono l1.F h)
  refine ⟨fun d hd => ?_, fun hi => ⟨xs, hs, by rw [← r.length]; exact hi⟩⟩
  obtain ⟨v, hv, rv⟩ := r.get hd
  refine ⟨⟨xs, v, hs, hv⟩, fun x H' y => ?_⟩
  obtain ⟨rfl, y⟩ := y
  have e : x = v := Option.some.inj ((y xs hs).symm.trans hv)
  subst e
  exact ⟨g1, Le.refl _, hh1, rv.monoW l1⟩
theorem it_str {K : PySem.W.Frag} {g : G} (z : Str) : ItOk K g (z.cps.toList.map fun c => D.str ⟨#[c]⟩) (Its z) := by
  intro i H1 g1 S1 l1 hh1
  refine ⟨fun d hd => ?_, fun hi => (show z.cps.size ≤ i by simpa using hi)⟩
  rw [List.getElem?_map] at hd
  cases hc : z.cps.toList[i]? with
  | none => rw [hc] at hd; cases hd
  | some ch =>
    rw [hc] at hd
    cases hd
    have hc' : z.cps[i]? = some ch := by simpa using hc
    have hl : i < z.cps.size := by
      have := (List.getElem?_eq_some_iff.mp hc).1
      simpa using this
    refine ⟨hl, fun x H' y => ?_⟩
    obtain ⟨rfl, c', h1, rfl⟩ := y
    rw [hc'] at h1
    cases h1
    exact ⟨g1, Le.refl _, hh1, .str _⟩
theorem i_seq (h : PE X ea (tE X.K Φ ca)) : PI X tg ea (tI X.K Φ ca) := by
  refine (PI.or (PI.or (pi_list h) (pi_tup h)) (pi_str h)).imp fun σ H R q => ?_
  obtain ⟨g, fr, S, d, S', l, hf, hh, e, hl, q⟩ := tI_in q
  cases d with
  | lst ds =>
    cases hl
    refine .inl (.inl (tE_in hf hh e fun v H' g' le hh' r => ?_))
    cases r with
    | lst ha rl => exact ⟨_, rfl, ⟨_, .inl (.inl (hh'.same _ _ ha))⟩, q H' g' _ le hh' (it_list ha rl)⟩
  | tup ds =>
    cases hl
    refine .inl (.inr (tE_in hf hh e fun v H' g' le hh' r => ?_))
    cases r with
    | tup ha rl => exact ⟨_, rfl, ⟨_, sqT_mono hh'.same ha⟩, q H' g' _ le hh' (it_tup ha rl)⟩
  | str z =>
    cases hl
    refine .inr (tE_in hf hh e fun v H' g' le hh' r => ?_)
    cases r with
    | str => exact ⟨z, rfl, q H' g' _ le hh' (it_str z)⟩
  | itr ds =>
    cases hl
    refine .inl (.inl (tE_in hf hh e fun v H' g' le hh' r => ?_))
    cases r
  | _ => cases hl
theorem it_range {K : PySem.W.Frag} {g : G} (lo : Int) (n : Nat) : ItOk K g ((List.range n).map fun k => D.int (lo + (k : Nat))) (Itr lo n) := by
  intro i H1 g1 S1 l1 hh1
  refine ⟨fun d hd => ?_, fun hi => (show n ≤ i by simpa using hi)⟩
  rw [List.getElem?_map] at hd
  by_cases hi : i < n
  · rw [List.getElem?_range hi] at hd
    cases hd
    refine ⟨hi, fun x H' y => ?_⟩
    obtain ⟨rfl, rfl⟩ := y
    exact ⟨g1, Le.refl _, hh1, .int _⟩
  · rw [List.getElem?_eq_none (by simpa using hi)] at hd
    cases hd
def rangeN : Str := "range"
theorem i_range1 (G : GX T Φ k X) (C : CtxOk c X) (hb : rangeN ∈ T.blt) (hg : c.gl rangeN = true) (ha : PA X [ea] (tEs X.K Φ [ca])) (hs : isStar ea = false) : PI X tg (.Call (.Name rangeN p) [ea] [] pos) (tI X.K Φ (.range [ca])) := by
  refine (pi_range1 (C.gl hg).1 (G.blt _ hb).1 ha (star_cons hs)).imp fun σ H R q => ?_
  obtain ⟨g, fr, S, d, S', l, hf, hh, e, hl, q⟩ := tI_in q
  have e : (evEs Φ [ca] fr S).bind (fun xs S1 => match rangeD xs with | some l => Res.ok (D.itr l) S1 | none => .no) = .ok d S' := e
  cases e1 : evEs Φ [ca] fr S with
  | ok xs S1 =>
    rw [e1] at e
    have e : (match rangeD xs with | some l => Res.ok (D.itr l) S1 | none => .no) = .ok d S' := e
    cases er : rangeD xs with
    | none => rw [er] at e; cases e
    | some l' =>
      rw [er] at e
      cases e
      cases hl
      refine tEs_in hf hh e1 fun vs H' g' le hh' r => ?_
      unfold rangeD at er
      split at er
      · split at er
        · rename_i j hj
          have hj := inR_iff.1 hj
          cases er
          obtain ⟨v, rfl, rv⟩ := r.one
          cases rv
          refine ⟨j, rfl, hj.1, hj.2, q H' g' _ le hh' ?_⟩
          have z := it_range (K := X.K) (g := g') 0 j.toNat
          simpa using z
        · cases er
      · obtain ⟨x1, S2, z1, z2⟩ : ∃ x S2, evE Φ ca fr S = .ok x S2 ∧ True := by
          have e1 : (evE Φ ca fr S).bind (fun x S1 => (evEs Φ [] fr S1).bind fun xs S2 => Res.ok (x :: xs) S2) = _ := e1
          cases h : evE Φ ca fr S with
          | ok x S2 => exact ⟨x, S2, rfl, trivial⟩
          | ex => rw [h] at e1; cases e1
          | no => rw [h] at e1; cases e1
        have e1 : (evE Φ ca fr S).bind (fun x S1 => (evEs Φ [] fr S1).bind fun xs S2 => Res.ok (x :: xs) S2) = _ := e1
        rw [z1] at e1
        cases e1
      · cases er
  | ex => rw [e1] at e; cases e
  | no => rw [e1] at e; cases e
theorem i_range2 {eb : Expr} {cb : E} (G : GX T Φ k X) (C : CtxOk c X) (hb : rangeN ∈ T.blt) (hg : c.gl rangeN = true) (ha : PA X [ea, eb] (tEs X.K Φ [ca, cb])) (hs : isStar ea = false) (hs2 : isStar eb = false) : PI X tg (.Call (.Name rangeN p) [ea, eb] [] pos) (tI X.K Φ (.range [ca, cb])) := by
  refine (pi_range2 (C.gl hg).1 (G.blt _ hb).1 ha (by rw [star_cons hs, star_cons hs2]; rfl) (star_cons hs2)).imp fun σ H R q => ?_
  obtain ⟨g, fr, S, d, S', l, hf, hh, e, hl, q⟩ := tI_in q
  have e : (evEs Φ [ca, cb] fr S).bind (fun xs S1 => match rangeD xs with | some l => Res.ok (D.itr l) S1 | none => .no) = .ok d S' := e
  cases e1 : evEs Φ [ca, cb] fr S with
  | ok xs S1 =>
    rw [e1] at e
    have e : (match rangeD xs with | some l => Res.ok (D.itr l) S1 | none => .no) = .ok d S' := e
    have two : ∃ x y, xs = [x, y] := by
      have e1 : (evE Φ ca fr S).bind (fun x S1 => ((evE Φ cb fr S1).bind fun x S1 => (evEs Φ [] fr S1).bind fun xs S2 => Res.ok (x :: xs) S2).bind fun xs S2 => Res.ok (x :: xs) S2) = _ := e1
      cases h : evE Φ ca fr S with
      | ok x S2 =>
        rw [h] at e1
        have e1 : ((evE Φ cb fr S2).bind fun x S1 => (evEs Φ [] fr S1).bind fun xs S2 => Res.ok (x :: xs) S2).bind (fun xs S2 => Res.ok (x :: xs) S2) = _ := e1
        cases h2 : evE Φ cb fr S2 with
        | ok y S3 => rw [h2] at e1; cases e1; exact ⟨x, y, rfl⟩
        | ex => rw [h2] at e1; cases e1
        | no => rw [h2] at e1; cases e1
      | ex => rw [h] at e1; cases e1
      | no => rw [h] at e1; cases e1
    obtain ⟨x, y, rfl⟩ := two
    cases er : rangeD [x, y] with
    | none => rw [er] at e; cases e
    | some l' =>
      rw [er] at e
      cases e
      cases hl
      refine tEs_in hf hh e1 fun vs H' g' le hh' r => ?_
      obtain ⟨v, u, rfl, rv, ru⟩ := r.two
      cases rv with
      | int i => cases ru with
        | int j =>
          have er : (if inR i = true ∧ inR j = true then some ((List.range (j - i).toNat).map fun k => D.int (i + (k : Nat))) else none) = some l := er
          split at er
          · rename_i hj
            have hj : -(2 ^ 62) ≤ i ∧ i < 2 ^ 62 ∧ -(2 ^ 62) ≤ j ∧ j < 2 ^ 62 := ⟨(inR_iff.1 hj.1).1, (inR_iff.1 hj.1).2, (inR_iff.1 hj.2).1, (inR_iff.1 hj.2).2⟩
            cases er
            exact ⟨i, j, rfl, hj, q H' g' _ le hh' (it_range i _)⟩
          · cases er
        | _ => cases er
      | _ => cases er
  | ex => rw [e1] at e; cases e
  | no => rw [e1] at e; cases e
end

/-! ### comprehensions -/
section
variable {X : Cx} {c : Ctx} {T : Tab} {Φ : Fns} {k : Nat} {pos : Pos} {ec : Expr} {cc : E}
theorem ts_nil : PTs X [] (tTs X.K Φ []) := pts_nil.imp fun σ H Q ⟨g, fr, S, hf, hh, h⟩ => (show BPost X.K g true S Q from h) H g (Le.refl g) hh
theorem ts_one (h : PT X ec (tT X.K Φ cc)) : PTs X [ec] (tTs X.K Φ [cc]) := (pts_one h).imp fun σ H Q ⟨g, fr, S, hf, hh, h⟩ => by
  obtain ⟨x, S1, e1, h⟩ := RPost.bind h
  cases ht : truth S1 x with
  | none => rw [ht] at h; exact h.elim
  | some t =>
    rw [ht] at h
    refine tT_in hf hh (evT_of e1 ht) fun H1 g1 l1 hh1 => ?_
    cases t with
    | true => exact (show BPost X.K g true S1 Q from h) H1 g1 l1 hh1
    | false => exact (show BPost X.K g false S1 Q from h) H1 g1 l1 hh1
theorem back_self (g : G) : g.back g.pv = g := rfl
theorem back_set {g : G} {D : Addr} {o : HO} {q : Hp} : (g.set D o).back q = g.back q := rfl
theorem FrOk.monoW {K : PySem.W.Frag} {g g1 : G} {fr : Fr} {σ : L2.St} (h : Le g (g1.back g.pv)) (r : FrOk K g fr σ) : FrOk K g1 fr σ := (r.mono h).pv (q := g1.pv)
/-- the turns of a comprehension, the new list at A -/
theorem comp_turns {K : PySem.W.Frag} {g : G} {fr : Fr} {S : Store} {σ : L2.St} {H : Hp} {A : Addr} {l : List D} {J : It} {p : Pat} {cs : List E} {ce : E} {vs : List Nat} {Qd : Hp → Prop} (hf : FrOk K g fr σ) (hh : HpOk K g S H) (hJ : ItOk K g l J) (hA : H A = none) (hp : ∀ i ∈ p.slots, i ∈ vs)
    (hq : RPost (fun r S' => ∀ H' g' xs, Le g (g'.back g.pv) → HpOk K g' S' H' → g'.pv = upd g.pv A (.lst xs) → RepL K g' r xs → Qd H') (compF p (evTs Φ cs) (evE Φ ce) (wipeF fr vs) l [] S)) :
    ∃ W : Nat → Nat → Hp → Prop, (∃ m, W 0 m (upd H A (.lst []))) ∧ ∀ i m H, W i m H → (J.stop i H ∧ Qd H) ∨ (J.go i H ∧ ∃ Nx : Hp → Prop, (∀ H', Nx H' → ∃ m', m' < m ∧ W (i + 1) m' H') ∧ ∀ x H', J.yld i H x H' →
      tP K p x (L2.wipe σ vs) H' fun σ2 H2 => L2.wipe σ2 vs = L2.wipe σ vs ∧ tTs K Φ cs σ2 H2 fun b H3 =>
        if b = true then tE K Φ ce σ2 H3 fun y H4 => ∃ acc, H4 A = some (.lst acc) ∧ acc.length < sizeLine ∧ Nx (upd H4 A (.lst (acc ++ [y]))) else Nx H3) := by
  let Fin := fun (r : List D) (S' : Store) => ∀ (H' : Hp) (g' : G) (xs : List V), Le g (g'.back g.pv) → HpOk K g' S' H' → g'.pv = upd g.pv A (.lst xs) → RepL K g' r xs → Qd H'
  let At := fun (i : Nat) (H1 : Hp) => ∃ g1 S1 acc xs, Le g (g1.back g.pv) ∧ HpOk K g1 S1 H1 ∧ g1.pv = upd g.pv A (.lst xs) ∧ RepL K g1 acc xs ∧ RPost Fin (compF p (evTs Φ cs) (evE Φ ce) (wipeF fr vs) (l.drop i) acc S1)
  refine ⟨fun i m H1 => m = l.length - i ∧ i ≤ l.length ∧ At i H1,
    ⟨l.length, by simp, Nat.zero_le _, g.set A (.lst []), S, [], [], Le.refl g, hh.apart hA, rfl, .nil, hq⟩, ?_⟩
  rintro i m H1 ⟨rfl, hi, g1, S1, acc, xs, l1, hh1, hpv, ra, hr⟩
  by_cases hlt : i < l.length
  · have hd : l[i]? = some l[i] := List.getElem?_eq_getElem hlt
    have hdrop : l.drop i = l[i] :: l.drop (i + 1) := List.drop_eq_getElem_cons hlt
    rw [hdrop] at hr
    obtain ⟨k1, k2⟩ := (hJ i H1 g1 S1 l1 hh1).1 _ hd
    refine .inr ⟨k1, At (i + 1), fun H' n' => ⟨l.length - (i + 1), by omega, rfl, hlt, n'⟩, fun x H2 y => ?_⟩
    obtain ⟨g2, l2, hh2, r2⟩ := k2 x H2 y
    have l02 : Le g (g2.back g.pv) := l1.trans (le_back l2)
    have fr2 : FrOk K g2 (wipeF fr vs) (L2.wipe σ vs) := (hf.wipe vs).monoW l02
    have hr : RPost Fin (match asgP p l[i] (wipeF fr vs) with | none => .no | some fr' => (evTs Φ cs fr' S1).bind fun b S1 => if b = true then (evE Φ ce fr' S1).bind fun x S2 => if acc.length < sizeLine then compF p (evTs Φ cs) (evE Φ ce) (wipeF fr vs) (l.drop (i + 1)) (acc ++ [x]) S2 else .no else compF p (evTs Φ cs) (evE Φ ce) (wipeF fr vs) (l.drop (i + 1)) acc S1) := hr
    cases ea : asgP p l[i] (wipeF fr vs) with
    | none => rw [ea] at hr; exact hr.elim
    | some fr' =>
      rw [ea] at hr
      refine ⟨g2, wipeF fr vs, S1, l[i], fr', fr2, hh2, r2, ea, fun σ2 hf2 s2 => ⟨?_, ?_⟩⟩
      · rw [s2 vs hp, wipe_wipe]
      · obtain ⟨b, S3, eb, hr⟩ := RPost.bind hr
        refine ⟨g2, fr', S1, hf2, hh2, ?_⟩
        rw [eb]
        intro H3 g3 l3 hh3
        have l03 : Le g (g3.back g.pv) := l02.trans (le_back l3)
        cases b with
        | false =>
          rw [if_neg (by decide)]
          rw [if_neg (by decide)] at hr
          exact ⟨g3, S3, acc, xs, l03, hh3, (l3.pv.trans l2.pv).trans hpv, (ra.mono l2).mono l3, hr⟩
        | true =>
          rw [if_pos rfl]
          rw [if_pos rfl] at hr
          obtain ⟨d, S4, ee, hr⟩ := RPost.bind hr
          refine ⟨g3, fr', S3, hf2.mono l3, hh3, ?_⟩
          rw [ee]
          intro v H4 g4 l4 hh4 r4
          have hpv4 : g4.pv = upd g.pv A (.lst xs) := ((l4.pv.trans l3.pv).trans l2.pv).trans hpv
          have e4 : g4.pv A = some (.lst xs) := by rw [hpv4, upd_same]
          have ra4 : RepL K g4 acc xs := ((ra.mono l2).mono l3).mono l4
          split at hr
          · rename_i hz
            refine ⟨xs, hh4.pv _ _ e4, by rw [← ra4.length]; exact hz, g4.set A (.lst (xs ++ [v])), S4, acc ++ [d], xs ++ [v], ?_, hh4.turn e4, ?_, ?_, hr⟩
            · rw [back_set]; exact l03.trans (le_back l4)
            · show upd g4.pv A _ = _
              rw [hpv4, upd_upd]
            · exact (ra4.append (.cons r4 .nil)).pv
          · exact hr.elim
  · have e : i = l.length := by omega
    subst e
    refine .inl ⟨(hJ _ H1 g1 S1 l1 hh1).2 (Nat.le_refl _), ?_⟩
    rw [List.drop_length] at hr
    exact (show Fin acc S1 from hr) H1 g1 xs l1 hh1 hpv ra
/-- a comprehension's end -/
def compE (Φ : Fns) (fz : Bool) (own : List (Str × Nat)) (p : Pat) (cs : List E) (e : E) (fr : Fr) (l : List D) (S1 : Store) : Res D := match fz with
  | true => (compF p (evTs Φ cs) (evE Φ e) (wipeF fr (own.map (·.2))) l [] S1).bind fun r S2 => .ok (.lst r) S2
  | false => (compF p (evTs Φ cs) (evE Φ e) (wipeF fr (own.map (·.2))) l [] S1).bind fun r S2 => .ok (.ref S2.length) (S2 ++ [.lst r])
theorem comp_tail {own : List (Str × Nat)} {p : Pat} {ce : E} {cs : List E} {fz : Bool} {K : PySem.W.Frag} {g g1 : G} {fr : Fr} {S1 : Store} {σ : L2.St} {H1 : Hp} {l : List D} {J : It} {Q : VK} (hp : ∀ i ∈ p.slots, i ∈ own.map (·.2)) (hf : FrOk K g fr σ) (l1 : Le g g1) (hh1 : HpOk K g1 S1 H1) (hJ : ItOk K g1 l J)
    (h : RPost (fun d S' => Post K g d S' Q) (compE Φ fz own p cs ce fr l S1)) :
    ∀ A, H1 A = none → ∃ W : Nat → Nat → Hp → Prop, (∃ m, W 0 m (upd H1 A (.lst []))) ∧ ∀ i m H, W i m H → (J.stop i H ∧ Q (.ref A) H) ∨ (J.go i H ∧ ∃ Nx : Hp → Prop, (∀ H', Nx H' → ∃ m', m' < m ∧ W (i + 1) m' H') ∧ ∀ x H', J.yld i H x H' →
      tP K p x (L2.wipe σ (own.map (·.2))) H' fun σ2 H2 => L2.wipe σ2 (own.map (·.2)) = L2.wipe σ (own.map (·.2)) ∧ tTs K Φ cs σ2 H2 fun b H3 =>
        if b = true then tE K Φ ce σ2 H3 fun y H4 => ∃ acc, H4 A = some (.lst acc) ∧ acc.length < sizeLine ∧ Nx (upd H4 A (.lst (acc ++ [y]))) else Nx H3) := by
  intro A hA
  refine comp_turns (hf.mono l1) hh1 hJ hA hp ?_
  have apart : g1.pv A = none := hh1.pv.free hA
  cases fz with
  | true =>
    obtain ⟨r, S2, e2, h⟩ := RPost.bind h
    rw [e2]
    intro H' g' xs l2 hh' hpv rl
    have eA : g'.pv A = some (.lst xs) := by rw [hpv, upd_same]
    have j := hh'.join (q := g1.pv) eA (fun a ha => by rw [hpv, upd_ne ha]) apart
    have lj : Le g' (g'.put A (.lst xs)) := Le.put (hh'.pvF A _ eA)
    refine (show Post K g (.lst r) S2 Q from h) _ _ _ (l1.trans (l2.trans (le_back lj))) j (.lst upd_same ?_)
    exact (rl.mono lj).pv
  | false =>
    obtain ⟨r, S2, e2, h⟩ := RPost.bind h
    rw [e2]
    intro H' g' xs l2 hh' hpv rl
    have eA : g'.pv A = some (.lst xs) := by rw [hpv, upd_same]
    have j := hh'.join2 (q := g1.pv) (c := .lst r) eA ⟨xs, rfl, rl⟩ (fun a ha => by rw [hpv, upd_ne ha]) apart
    have lj : Le g' (g'.add A) := Le.add A
    refine (show Post K g (.ref S2.length) (S2 ++ [.lst r]) Q from h) _ _ _ (l1.trans (l2.trans (le_back lj))) j (.ref ?_)
    show (g'.ρ ++ [A])[S2.length]? = _
    rw [hh'.len, List.getElem?_append_right (Nat.le_refl _)]
    simp
/-- a comprehension's reading -/
theorem comp_reading {own : List (Str × Nat)} {p : Pat} {ci ce : E} {cs : List E} {fz : Bool} {K : PySem.W.Frag} (hp : ∀ i ∈ p.slots, i ∈ own.map (·.2)) (σ : L2.St) (H : Hp) (Q : VK) (h : tE K Φ (.comp fz own p ci cs ce) σ H Q) :
    tLc (tI K Φ ci) (tP K p) (tTs K Φ cs) (tE K Φ ce) (own.map (·.2)) σ H Q := by
  obtain ⟨g, fr, S, hf, hh, h⟩ := h
  obtain ⟨x, S1, e1, h⟩ := RPost.bind h
  cases hl : iterD S1 x with
  | none => rw [hl] at h; exact h.elim
  | some l =>
    rw [hl] at h
    refine ⟨g, fr, S, hf, hh, ?_⟩
    rw [e1]
    exact ⟨l, hl, fun H1 g1 J l1 hh1 hJ => comp_tail (fz := fz) (S1 := S1) hp hf l1 hh1 hJ h⟩
theorem e_comp {tg it elt : Expr} {ifs : List Expr} {scope : Scope} {own : List (Str × Nat)} {p : Pat} {ci ce : E} {cs : List E} {fz : Bool} (C : CtxOk c X) (hi : PI X tg it (tI X.K Φ ci)) (ok : BlkOk X.N X.env.scope scope own)
    (hg : ∀ (s : Shared) (H : Hp) (Q : Addr) (cl : List (Str × Addr)) (fp : List Addr), PG (X.blk s H scope (compEnvC scope cl Q X.env) fp) tg (tP X.K p)) (ht : ∀ (s : Shared) (H : Hp) (Q : Addr) (cl : List (Str × Addr)) (fp : List Addr), PTs (X.blk s H scope (compEnvC scope cl Q X.env) fp) ifs (tTs X.K Φ cs))
    (he : ∀ (s : Shared) (H : Hp) (Q : Addr) (cl : List (Str × Addr)) (fp : List Addr), PE (X.blk s H scope (compEnvC scope cl Q X.env) fp) elt (tE X.K Φ ce)) (hp : ∀ i ∈ p.slots, i ∈ own.map (·.2)) (hs : isSet it = false) :
    PE X (.ListComp elt [⟨tg, it, ifs, 0⟩] scope pos) (tE X.K Φ (.comp fz own p ci cs ce)) :=
  (pe_lc C.calm (by rw [C.N]; exact C.nd) hi ok hg ht he (fun x => fold_ok hs _ x)).imp fun σ H Q h => comp_reading hp σ H Q h
end
end Dm

/-! DmH: statements. -/
namespace Dm
open PySem L2

theorem _root_.L2.PS.imp {X : Cx} {st : Stmt} {t t' : TS} (h : PS X st t) (i : ∀ D σ H, t' D σ H → t D σ H) : PS X st t' := ⟨fun pins s σ H D I q => h.run pins s σ H D I (i D σ H q)⟩
theorem _root_.L2.PSs.imp {X : Cx} {st : List Stmt} {t t' : TS} (h : PSs X st t) (i : ∀ D σ H, t' D σ H → t D σ H) : PSs X st t' := ⟨fun pins s σ H D I q => h.run pins s σ H D I (i D σ H q)⟩

section
variable (K : PySem.W.Frag) (Φ : Fns)
def FPost (g : G) (fr : Fr) (S : Store) (Q : L2.St → Hp → Prop) : Prop := ∀ σ' H' g', Le g g' → FrOk K g' fr σ' → HpOk K g' S H' → Q σ' H'
def OutPost (g : G) (D : Ends) : Out → Store → Prop
  | .nx fr, S => FPost K g fr S D.nx
  | .ret d, S => Post K g d S D.rt
  | .bk fr, S => FPost K g fr S D.bk
  | .ct fr, S => FPost K g fr S D.ct
def tS1 (s : Dm.S) : TS := fun D σ H => ∃ g fr S, FrOk K g fr σ ∧ HpOk K g S H ∧ RPost (OutPost K g D) (evS Φ s fr S)
def tS (ss : List Dm.S) : TS := fun D σ H => ∃ g fr S, FrOk K g fr σ ∧ HpOk K g S H ∧ RPost (OutPost K g D) (evSs Φ ss fr S)
end
section
variable {K : PySem.W.Frag} {Φ : Fns} {g g' : G} {D : Ends} {S : Store}
theorem FPost.mono (h : Le g g') {fr : Fr} {Q : L2.St → Hp → Prop} (q : FPost K g fr S Q) : FPost K g' fr S Q := fun σ H g2 l f hh => q σ H g2 (h.trans l) f hh
theorem OutPost.mono (h : Le g g') {o : Out} (q : OutPost K g D o S) : OutPost K g' D o S := by
  cases o with
  | nx fr => exact FPost.mono h q
  | ret d => exact Post.mono h q
  | bk fr => exact FPost.mono h q
  | ct fr => exact FPost.mono h q
end

section
variable {X : Cx} {c : Ctx} {T : Tab} {Φ : Fns} {k : Nat} {pos p : Pos} {ea eb ec tg : Expr} {ca cb cc : E} {es : List Expr} {cs : List E} {st : Stmt} {sts : List Stmt} {s1 : Dm.S} {ss : List Dm.S}
theorem ss_nil : PSs X [] (tS X.K Φ []) := pss_nil.imp fun D σ H ⟨g, fr, S, hf, hh, h⟩ => (show FPost X.K g fr S D.nx from h) σ H g (Le.refl g) hf hh
theorem ss_cons (h1 : PS X st (tS1 X.K Φ s1)) (h2 : PSs X sts (tS X.K Φ ss)) : PSs X (st :: sts) (tS X.K Φ (s1 :: ss)) :=
  (pss_cons h1 h2).imp fun D σ H ⟨g, fr, S, hf, hh, h⟩ => by
    refine ⟨g, fr, S, hf, hh, ?_⟩
    obtain ⟨o, S1, e1, h⟩ := RPost.bind h
    rw [e1]
    cases o with
    | nx fr' => exact fun σ' H' g' l hf' hh' => ⟨g', fr', S1, hf', hh', RPost.imp h fun o S2 _ q => q.mono l⟩
    | ret d => exact (show Post X.K g d S1 D.rt from h)
    | bk fr' => exact (show FPost X.K g fr' S1 D.bk from h)
    | ct fr' => exact (show FPost X.K g fr' S1 D.ct from h)
theorem ss_fz {i : Nat} (h : PSs X sts (tS X.K Φ ss)) : PSs X sts (tS X.K Φ (.fz i :: ss)) := h.imp fun D σ H ⟨g, fr, S, hf, hh, h⟩ => by
  have h : RPost (OutPost X.K g D) ((match fr[i]? with | some (some (.ref n)) => (match cellL S n with | some l => Res.ok (Out.nx (fr.set i (some (.lst l)))) (S.set n .dead) | none => .no) | _ => .no).bind fun o S1 => match o with
    | .nx fr' => evSs Φ ss fr' S1
    | .ret d => .ok (.ret d) S1
    | .bk fr' => .ok (.bk fr') S1
    | .ct fr' => .ok (.ct fr') S1) := h
  split at h
  · rename_i n hi
    cases hc : cellL S n with
    | none => rw [hc] at h; exact h.elim
    | some l =>
      rw [hc] at h
      obtain ⟨v, hv, r⟩ := hf.at_ i _ hi
      cases r with
      | ref er =>
        rename_i a
        obtain ⟨xs, hh2, le, r2⟩ := hh.freeze (cellL_eq hc) er
        have hf2 := (hf.mono le).set (i := i) r2
        have eσ : σ.set i (some (V.ref a)) = σ := by
          refine List.ext_getElem? fun j => ?_
          by_cases hj : i = j
          · subst hj
            rw [List.getElem?_set_self (by exact (List.getElem?_eq_some_iff.mp hv).1), hv]
          · rw [List.getElem?_set_ne hj]
        rw [eσ] at hf2
        exact ⟨_, _, _, hf2, hh2, RPost.imp h fun o S2 _ q => q.mono le⟩
  · exact h.elim

/-! single statements -/
theorem s_pass : PS X (.Pass pos) (tS1 X.K Φ .pass) := ps_pass.imp fun D σ H ⟨g, fr, S, hf, hh, h⟩ => (show FPost X.K g fr S D.nx from h) σ H g (Le.refl g) hf hh
theorem s_brk : PS X (.Break pos) (tS1 X.K Φ .brk) := ps_break.imp fun D σ H ⟨g, fr, S, hf, hh, h⟩ => (show FPost X.K g fr S D.bk from h) σ H g (Le.refl g) hf hh
theorem s_cnt : PS X (.Continue pos) (tS1 X.K Φ .cnt) := ps_continue.imp fun D σ H ⟨g, fr, S, hf, hh, h⟩ => (show FPost X.K g fr S D.ct from h) σ H g (Le.refl g) hf hh
theorem s_ret (ha : PE X ea (tE X.K Φ ca)) : PS X (.Return (some ea) pos) (tS1 X.K Φ (.ret ca)) := (ps_ret ha).imp fun D σ H ⟨g, fr, S, hf, hh, h⟩ => by
  obtain ⟨x, S1, e1, h⟩ := RPost.bind h
  exact tE_in hf hh e1 (show Post X.K g x S1 D.rt from h)
theorem s_expr (ha : PE X ea (tE X.K Φ ca)) (hc : isComp ea = false) : PS X (.Expr ea pos) (tS1 X.K Φ (.expr ca)) := (ps_expr ha (swaps_no hc _ _ _)).imp fun D σ H ⟨g, fr, S, hf, hh, h⟩ => by
  obtain ⟨x, S1, e1, h⟩ := RPost.bind h
  exact tE_in hf hh e1 fun v H1 g1 l1 hh1 _ => (show FPost X.K g fr S1 D.nx from h) σ H1 g1 l1 (hf.mono l1) hh1
theorem asg_in {K : PySem.W.Frag} {g : G} {D : Ends} {fr : Fr} {S : Store} {σ : L2.St} {H : Hp} {p : Pat} {x : Dm.D} {v : V} (hf : FrOk K g fr σ) (hh : HpOk K g S H) (r : Rep K g x v) (h : RPost (OutPost K g D) (match asgP p x fr with | some fr' => Res.ok (Out.nx fr') S | none => .no)) : tP K p v σ H D.nx := by
  cases ea : asgP p x fr with
  | none => rw [ea] at h; exact h.elim
  | some fr' =>
    rw [ea] at h
    exact ⟨g, fr, S, x, fr', hf, hh, r, ea, fun σ' hf' _ => (show FPost K g fr' S D.nx from h) σ' H g (Le.refl g) hf' hh⟩
theorem s_asg {pt : Pat} (ha : PE X ea (tE X.K Φ ca)) (hg : PG X tg (tP X.K pt)) (hs : swapsWithSole [tg] ea pos.line X.env = pure false) (hw : swappedStores [tg] ea X.env = pure none) (h1 : (assignEach [tg] X.env).map (·.2) = [assign tg X.env]) :
    PS X (.Assign [tg] ea pos) (tS1 X.K Φ (.asg pt ca)) := (ps_asg ha hg hs hw h1).imp fun D σ H ⟨g, fr, S, hf, hh, h⟩ => by
  obtain ⟨x, S1, e1, h⟩ := RPost.bind h
  exact tE_in hf hh e1 fun v H1 g1 l1 hh1 r1 => asg_in (hf.mono l1) hh1 r1 (RPost.imp h fun o S2 _ q => q.mono l1)
/-- name = [..] on one line -/
theorem s_asgLc {i : Nat} {y : Str} {py : Pos} {it elt : Expr} {ifs : List Expr} {scope : Scope} {own : List (Str × Nat)} {cpos : Pos} {pt : Pat} {ci ce : E} {cs : List E} {fz : Bool} (C : CtxOk c X) (hy : c.N[i]? = some y) (hyl : c.sc.names.lookup y = some .local) (hk : c.sc.kind = .function)
    (hl : (py.line == cpos.line) = true) (han : (scope.names.any fun (n, k) => n == y && (k == .local || k == .cell)) = false) (hi : PI X tg it (tI X.K Φ ci)) (ok : BlkOk X.N X.env.scope scope own)
    (hg : ∀ (s : Shared) (H : Hp) (Q : Addr) (cl : List (Str × Addr)) (fp : List Addr), PG (X.blk s H scope (compEnvC scope cl Q X.env) fp) tg (tP X.K pt)) (ht : ∀ (s : Shared) (H : Hp) (Q : Addr) (cl : List (Str × Addr)) (fp : List Addr), PTs (X.blk s H scope (compEnvC scope cl Q X.env) fp) ifs (tTs X.K Φ cs))
    (he : ∀ (s : Shared) (H : Hp) (Q : Addr) (cl : List (Str × Addr)) (fp : List Addr), PE (X.blk s H scope (compEnvC scope cl Q X.env) fp) elt (tE X.K Φ ce)) (hp : ∀ i ∈ pt.slots, i ∈ own.map (·.2)) (hs : isSet it = false) :
    PS X (.Assign [.Name y py] (.ListComp elt [⟨tg, it, ifs, 0⟩] scope cpos) pos) (tS1 X.K Φ (.asg (.v i) (.comp fz own pt ci cs ce))) := by
  have hyl' : X.env.scope.names.lookup y = some .local := by rw [C.sc]; exact hyl
  refine (ps_setLc C.calm (by rw [C.N]; exact C.nd) (by rw [C.N]; exact hy) hyl' (sw_true (by rw [C.sc]; exact hk) hyl' hl han) hi ok hg ht he (fun x => fold_ok hs _ x)).imp fun D σ H ⟨g, fr, S, hf, hh, h⟩ => ?_
  obtain ⟨x, S1, e1, h⟩ := RPost.bind h
  refine comp_reading hp σ H (fun x H1 => gName i x σ H1 D.nx) (tE_in hf hh e1 fun v H1 g1 l1 hh1 r1 => ?_)
  exact (show FPost X.K g (fr.set i (some x)) S1 D.nx from h) _ H1 g1 l1 ((hf.mono l1).set r1) hh1
theorem tup_eq {cs : List E} {fr : Fr} {S : Store} : evE Φ (.tup cs) fr S = (evEs Φ cs fr S).bind fun xs S1 => if xs.length ≤ sizeLine then .ok (.tup xs) S1 else .no := rfl
/-- a, b = x, y by names -/
theorem s_par {i j : Nat} {x y : Str} {px py pt : Pos} {kt k2 pt2} {a b : Expr} (C : CtxOk c X) (hi : c.N[i]? = some x) (hj : c.N[j]? = some y) (hij : i ≠ j) (hx : c.sc.names.lookup x = some .local) (hy : c.sc.names.lookup y = some .local) (ha : PA X [a, b] (tEs X.K Φ [ca, cb]))
    (hw : swappedStores [.Tuple [.Name x px, .Name y py] kt pt] (.Tuple [a, b] k2 pt2) X.env = pure (some [x, y])) :
    PS X (.Assign [.Tuple [.Name x px, .Name y py] kt pt] (.Tuple [a, b] k2 pt2) pos) (tS1 X.K Φ (.asg (.t [.v i, .v j]) (.tup [ca, cb]))) := by
  refine (ps_par C.calm (by rw [C.N]; exact C.nd) (by rw [C.N]; exact hi) (by rw [C.N]; exact hj) hij (by rw [C.sc]; exact hx) (by rw [C.sc]; exact hy) ha hw).imp fun D σ H ⟨g, fr, S, hf, hh, h⟩ => ?_
  obtain ⟨z, S1, e1, h⟩ := RPost.bind h
  obtain ⟨xs, S2, e2, h2⟩ := RPost.bind (P := fun d' S' => d' = z ∧ S' = S1) (r := evEs Φ [ca, cb] fr S) (by rw [← tup_eq, e1]; exact ⟨rfl, rfl⟩)
  refine tEs_in hf hh e2 fun vs H1 g1 l1 hh1 r1 => ?_
  split at h2
  · obtain ⟨rfl, rfl⟩ := h2
    have hlen : ∃ x1 x2, xs = [x1, x2] := by
      match xs, h with
      | [], h => exact h.elim
      | [_], h => exact h.elim
      | [x1, x2], _ => exact ⟨x1, x2, rfl⟩
      | _ :: _ :: _ :: _, h => exact h.elim
    obtain ⟨x1, x2, rfl⟩ := hlen
    obtain ⟨v, u, rfl, rv, ru⟩ := r1.two
    refine ⟨v, u, rfl, ?_⟩
    exact (show FPost X.K g ((fr.set i (some x1)).set j (some x2)) S2 D.nx from h) _ H1 g1 l1 (((hf.mono l1).set rv).set ru) hh1
  · exact h2.elim
theorem s_par3 {i j l : Nat} {x y z : Str} {px py pz pt : Pos} {kt k2 pt2} {a b d : Expr} {cd : E} (C : CtxOk c X) (hi : c.N[i]? = some x) (hj : c.N[j]? = some y) (hl : c.N[l]? = some z) (hij : i ≠ j) (hil : i ≠ l) (hjl : j ≠ l) (hx : c.sc.names.lookup x = some .local) (hy : c.sc.names.lookup y = some .local) (hz : c.sc.names.lookup z = some .local) (ha : PA X [a, b, d] (tEs X.K Φ [ca, cb, cd]))
    (hw : swappedStores [.Tuple [.Name x px, .Name y py, .Name z pz] kt pt] (.Tuple [a, b, d] k2 pt2) X.env = pure (some [x, y, z])) :
    PS X (.Assign [.Tuple [.Name x px, .Name y py, .Name z pz] kt pt] (.Tuple [a, b, d] k2 pt2) pos) (tS1 X.K Φ (.asg (.t [.v i, .v j, .v l]) (.tup [ca, cb, cd]))) := by
  refine (ps_par3 C.calm (by rw [C.N]; exact C.nd) (by rw [C.N]; exact hi) (by rw [C.N]; exact hj) (by rw [C.N]; exact hl) hij hil hjl (by rw [C.sc]; exact hx) (by rw [C.sc]; exact hy) (by rw [C.sc]; exact hz) ha hw).imp fun D σ H ⟨g, fr, S, hf, hh, h⟩ => ?_
  obtain ⟨z, S1, e1, h⟩ := RPost.bind h
  obtain ⟨xs, S2, e2, h2⟩ := RPost.bind (P := fun d' S' => d' = z ∧ S' = S1) (r := evEs Φ [ca, cb, cd] fr S) (by rw [← tup_eq, e1]; exact ⟨rfl, rfl⟩)
  refine tEs_in hf hh e2 fun vs H1 g1 l1 hh1 r1 => ?_
  split at h2
  · obtain ⟨rfl, rfl⟩ := h2
    have hlen : ∃ x1 x2 x3, xs = [x1, x2, x3] := by
      match xs, h with
      | [], h => exact h.elim
      | [_], h => exact h.elim
      | [_, _], h => exact h.elim
      | [x1, x2, x3], _ => exact ⟨x1, x2, x3, rfl⟩
      | _ :: _ :: _ :: _ :: _, h => exact h.elim
    obtain ⟨x1, x2, x3, rfl⟩ := hlen
    cases r1 with
    | cons r1 rr =>
      obtain ⟨v, u, rfl, rv, ru⟩ := rr.two
      refine ⟨_, v, u, rfl, ?_⟩
      exact (show FPost X.K g (((fr.set i (some x1)).set j (some x2)).set l (some x3)) S2 D.nx from h) _ H1 g1 l1 ((((hf.mono l1).set r1).set rv).set ru) hh1
  · exact h2.elim
/-- o[i] = e -/
theorem s_setI (ha : PE X ea (tE X.K Φ ca)) (ho : PE X eb (tE X.K Φ cb)) (hi : PE X ec (tE X.K Φ cc)) (hs : swapsWithSole [.Subscript eb ec p] ea pos.line X.env = pure false) (hq : isSlc ec = false) : PS X (.Assign [.Subscript eb ec p] ea pos) (tS1 X.K Φ (.setI cb cc ca)) :=
  (ps_asg ha (pg_sub ho hi set_list (fun v => by cases ec <;> first | rfl | cases hq)) hs).imp fun D σ H ⟨g, fr, S, hf, hh, h⟩ => by
    obtain ⟨x, S1, e1, h⟩ := RPost.bind h
    obtain ⟨y, S2, e2, h⟩ := RPost.bind h
    obtain ⟨z, S3, e3, h⟩ := RPost.bind h
    refine tE_in hf hh e1 fun v H1 g1 l1 hh1 r1 => tE_in (hf.mono l1) hh1 e2 fun u H2 g2 l2 hh2 r2 => tE_in (hf.mono (l1.trans l2)) hh2 e3 fun w H3 g3 l3 hh3 r3 => ?_
    have r2' := r2.mono l3
    cases y with
    | ref n =>
      obtain ⟨a, rfl, er⟩ : ∃ a, u = V.ref a ∧ g3.ρ[n]? = some a := by
        cases r2' with
        | ref er => exact ⟨_, rfl, er⟩
      cases r3 with
      | int i =>
        have h : RPost (OutPost X.K g D) (match cellL S3 n with | some l => (match ixN l.length i with | some j => Res.ok (Out.nx fr) (S3.set n (.lst (l.set j x))) | none => .no) | none => .no) := h
        cases hc : cellL S3 n with
        | none => rw [hc] at h; exact h.elim
        | some l =>
          rw [hc] at h
          have h : RPost (OutPost X.K g D) (match ixN l.length i with | some j => Res.ok (Out.nx fr) (S3.set n (.lst (l.set j x))) | none => .no) := h
          cases hj : ixN l.length i with
          | none => rw [hj] at h; exact h.elim
          | some j =>
            rw [hj] at h
            obtain ⟨xs, ho, rl⟩ := hh3.lst hc er
            refine ⟨a, xs, i, j, rfl, rfl, ho, by rw [← rl.length]; exact hj, ?_⟩
            have lt := (l1.trans l2).trans l3
            exact (show FPost X.K g fr _ D.nx from h) σ _ g3 lt (hf.mono lt) (hh3.write (cellL_eq hc) rfl er ⟨_, rfl, rl.set ((r1.mono l2).mono l3) j⟩)
      | _ => exact h.elim
    | _ => exact h.elim
theorem s_aug {i : Nat} {x : Str} {px : Pos} (C : CtxOk c X) (hx : c.st x i = true) (ha : PE X ea (tE X.K Φ ca)) : PS X (.AugAssign (.Name x px) .Add ea pos) (tS1 X.K Φ (.aug .Add i ca)) := by
  have hx' := hx
  unfold Ctx.st at hx'
  rw [Bool.and_eq_true] at hx'
  obtain ⟨h1, h4⟩ := hx'
  have h1 := of_decide_eq_true h1
  have both : Loc X.env.scope x ∧ (X.fn x = true ∨ X.env.scope.names.lookup x = some .local) := by
    cases ho : c.own.names.lookup x with
    | none => rw [ho] at h4; cases h4
    | some k =>
      rw [ho] at h4
      cases k with
      | «local» =>
        have hl' : X.env.scope.names.lookup x = some .local := by rw [C.sc]; exact C.loc x ho
        exact ⟨.inl hl', .inr hl'⟩
      | cell =>
        obtain ⟨hl, hf⟩ := C.cell x ho
        exact ⟨by rw [C.sc]; exact hl, .inl hf⟩
      | _ => cases h4
  refine (ps_aug (by rw [C.N]; exact C.nd) (by rw [C.N]; exact h1) both.1 ha ip_add both.2).imp fun D σ H ⟨g, fr, S, hf, hh, h⟩ => ?_
  have h : RPost (OutPost X.K g D) (match fr[i]? with | some (some x) => ((evE Φ ca fr S).bind fun y S1 => match Operator.Add, x, y with | .Add, .int a, .int b => Res.ok (Out.nx (fr.set i (some (.int (a + b))))) S1 | _, _, _ => .no) | _ => .no) := h
  split at h
  · rename_i d hd
    obtain ⟨v, hv, rv⟩ := hf.at_ i d hd
    obtain ⟨y, S1, e1, h⟩ := RPost.bind h
    refine ⟨v, hv, tE_in hf hh e1 fun u H1 g1 l1 hh1 r1 => ?_⟩
    cases rv with
    | int a => cases r1 with
      | int b => exact ⟨a, b, rfl, rfl, (show FPost X.K g _ S1 D.nx from h) _ H1 g1 l1 ((hf.mono l1).set (.int _)) hh1⟩
      | _ => exact h.elim
    | _ => exact h.elim
  · exact h.elim
theorem s_iff {a b : List Stmt} {sa sb : List Dm.S} (hc : PT X ec (tT X.K Φ cc)) (ha : PSs X a (tS X.K Φ sa)) (hb : PSs X b (tS X.K Φ sb)) : PS X (.If ec a b pos) (tS1 X.K Φ (.iff cc sa sb)) :=
  (ps_if hc ha hb).imp fun D σ H ⟨g, fr, S, hf, hh, h⟩ => by
    obtain ⟨t, S1, e1, h⟩ := RPost.bind h
    refine tT_in hf hh e1 fun H1 g1 l1 hh1 => ?_
    cases t with
    | true => exact ⟨g1, fr, S1, hf.mono l1, hh1, RPost.imp h fun o S2 _ q => q.mono l1⟩
    | false => exact ⟨g1, fr, S1, hf.mono l1, hh1, RPost.imp h fun o S2 _ q => q.mono l1⟩
theorem s_whl {a : List Stmt} {sa : List Dm.S} (hp : PassesOwn (model X.prog X.w) X.A X.env X.xe) (hc : PT X ec (tT X.K Φ cc)) (ha : PSs X a (tS X.K Φ sa)) : PS X (.While ec a [] pos) (tS1 X.K Φ (.whl cc sa)) :=
  (ps_while hp hc ha).imp fun D σ H ⟨g, fr, S, hf, hh, h⟩ => by
    refine ⟨fun n σ1 H1 => ∃ g1 fr1 S1, FrOk X.K g1 fr1 σ1 ∧ HpOk X.K g1 S1 H1 ∧ RPost (OutPost X.K g1 D) (whileF (evT Φ cc) (evSs Φ sa) n fr1 S1), ⟨Φ.fuel, g, fr, S, hf, hh, h⟩, ?_⟩
    rintro n σ1 H1 ⟨g1, fr1, S1, hf1, hh1, h1⟩
    cases n with
    | zero => exact h1.elim
    | succ n =>
      obtain ⟨t, S2, e2, h2⟩ := RPost.bind h1
      refine tT_in hf1 hh1 e2 fun H2 g2 l2 hh2 => ?_
      cases t with
      | false =>
        rw [if_neg (by decide)]
        exact (show FPost X.K g1 fr1 S2 D.nx from h2) σ1 H2 g2 l2 (hf1.mono l2) hh2
      | true =>
        rw [if_pos rfl]
        refine ⟨_, fun σ' H' z => ⟨n, Nat.lt_succ_self n, z⟩, g2, fr1, S2, hf1.mono l2, hh2, ?_⟩
        obtain ⟨o, S3, e3, h3⟩ := RPost.bind h2
        rw [e3]
        cases o with
        | nx fr' => exact fun σ' H' g' l hf' hh' => ⟨g', fr', S3, hf', hh', RPost.imp h3 fun o S4 _ q => q.mono (l2.trans l)⟩
        | ct fr' => exact fun σ' H' g' l hf' hh' => ⟨g', fr', S3, hf', hh', RPost.imp h3 fun o S4 _ q => q.mono (l2.trans l)⟩
        | bk fr' => exact FPost.mono l2 (show FPost X.K g1 fr' S3 D.nx from h3)
        | ret d => exact Post.mono l2 (show Post X.K g1 d S3 D.rt from h3)
theorem s_for {it : Expr} {a : List Stmt} {sa : List Dm.S} {ci : E} {pt : Pat} (hp : PassesOwn (model X.prog X.w) X.A X.env X.xe) (C : CtxOk c X) (hi : PI X tg it (tI X.K Φ ci)) (hg : PG X tg (tP X.K pt)) (ha : PSs X a (tS X.K Φ sa)) (hs : isSet it = false) :
    PS X (.For tg it a [] pos) (tS1 X.K Φ (.for_ pt ci sa)) :=
  (ps_for hp C.calm hi hg ha (fun x => fold_ok hs _ x)).imp fun D σ H ⟨g, fr, S, hf, hh, h⟩ => by
    obtain ⟨x, S1, e1, h⟩ := RPost.bind h
    cases hl : iterD S1 x with
    | none => rw [hl] at h; exact h.elim
    | some l =>
      rw [hl] at h
      refine ⟨g, fr, S, hf, hh, ?_⟩
      rw [e1]
      refine ⟨l, hl, fun H1 g1 J l1 hh1 hJ => ?_⟩
      refine ⟨fun i m σ2 H2 => m = l.length - i ∧ i ≤ l.length ∧ ∃ g2 fr2 S2, Le g1 g2 ∧ FrOk X.K g2 fr2 σ2 ∧ HpOk X.K g2 S2 H2 ∧ RPost (OutPost X.K g2 D) (forF pt (evSs Φ sa) (l.drop i) fr2 S2),
        ⟨l.length, by simp, Nat.zero_le _, g1, fr, S1, Le.refl _, hf.mono l1, hh1, RPost.imp h fun o S4 _ q => q.mono l1⟩, ?_⟩
      rintro i m σ2 H2 ⟨rfl, hi, g2, fr2, S2, l2, hf2, hh2, h2⟩
      by_cases hlt : i < l.length
      · have hd : l[i]? = some l[i] := List.getElem?_eq_getElem hlt
        rw [List.drop_eq_getElem_cons hlt] at h2
        obtain ⟨k1, k2⟩ := (hJ i H2 g2 S2 (leW l2) hh2).1 _ hd
        refine .inr ⟨k1, fun σ' H' => ∃ g2 fr2 S2, Le g1 g2 ∧ FrOk X.K g2 fr2 σ' ∧ HpOk X.K g2 S2 H' ∧ RPost (OutPost X.K g2 D) (forF pt (evSs Φ sa) (l.drop (i + 1)) fr2 S2), fun σ' H' z => ⟨l.length - (i + 1), by omega, rfl, hlt, z⟩, fun x H3 y => ?_⟩
        obtain ⟨g3, l3, hh3, r3⟩ := k2 x H3 y
        have h2 : RPost (OutPost X.K g2 D) (match asgP pt l[i] fr2 with | none => .no | some fr1 => (evSs Φ sa fr1 S2).bind fun o S2 => match o with
          | .nx fr' => forF pt (evSs Φ sa) (l.drop (i + 1)) fr' S2
          | .ct fr' => forF pt (evSs Φ sa) (l.drop (i + 1)) fr' S2
          | .bk fr' => .ok (.nx fr') S2
          | .ret d => .ok (.ret d) S2) := h2
        cases ea : asgP pt l[i] fr2 with
        | none => rw [ea] at h2; exact h2.elim
        | some fr3 =>
          rw [ea] at h2
          refine ⟨g3, fr2, S2, l[i], fr3, hf2.mono l3, hh3, r3, ea, fun σ4 hf4 _ => ⟨g3, fr3, S2, hf4, hh3, ?_⟩⟩
          obtain ⟨o, S5, e5, h5⟩ := RPost.bind h2
          rw [e5]
          cases o with
          | nx fr' => exact fun σ' H' g' lq hf' hh' => ⟨g', fr', S5, (l2.trans l3).trans lq, hf', hh', RPost.imp h5 fun o S4 _ q => q.mono (l3.trans lq)⟩
          | ct fr' => exact fun σ' H' g' lq hf' hh' => ⟨g', fr', S5, (l2.trans l3).trans lq, hf', hh', RPost.imp h5 fun o S4 _ q => q.mono (l3.trans lq)⟩
          | bk fr' => exact FPost.mono l3 (show FPost X.K g2 fr' S5 D.nx from h5)
          | ret d => exact Post.mono l3 (show Post X.K g2 d S5 D.rt from h5)
      · have e : i = l.length := by omega
        subst e
        rw [List.drop_length] at h2
        exact .inl ⟨(hJ _ H2 g2 S2 (leW l2) hh2).2 (Nat.le_refl _), (show FPost X.K g2 fr2 S2 D.nx from h2) σ2 H2 g2 (Le.refl _) hf2 hh2⟩
end
end Dm

/-! DmL: a zip of two tuples in a name; enumerate and zip. -/
namespace Dm
open PySem L2

/-! ### several new objects at once -/
theorem un_news {P : Program} {w : World} {fs ex : List Addr} {H H' : Hp} {h h' : Heap} (x : HOk P w H h) (k : ∀ b u, h.get? b = some u → h'.get? b = some u) (hH : ∀ b, b < h.objs.size → H' b = H b) : Un fs ex H H' h h' where
  keep := fun b u q _ _ _ => k b u q
  slot := fun b u q _ _ _ => ⟨u.slots, k b u q⟩
  free := fun b u q n _ => by rw [hH b (Heap.lt_size q)]; exact n
  there := fun b u q _ => ⟨u, k b u q⟩
  tups := fun b xs q => by rw [hH b (x.lt q)]; exact q
  frzs := fun b u xs q => by rw [hH b (x.lt q)]; exact q
  tbls := fun b ps q => ⟨#[], by rw [hH b (x.lt q), q]; simp⟩
theorem hok_news {P : Program} {w : World} {H H' : Hp} {h h' : Heap} (x : HOk P w H h) (k : ∀ b u, h.get? b = some u → h'.get? b = some u) (hH : ∀ b, b < h.objs.size → H' b = H b) (new : ∀ a o, h.objs.size ≤ a → H' a = some o → ObjOk P w H' h' a o) : HOk P w H' h' := fun b u e => by
  by_cases hb : b < h.objs.size
  · rw [hH b hb] at e
    exact (x b u e).stay (fun c v _ q => k c v q) (fun c q => by rw [hH c (x.lt q)]; exact q) fun c xs q => by rw [hH c (x.lt q)]; exact q
  · exact new b u (Nat.not_lt.mp hb) e

/-! ### the five objects of zip(a, b) -/
def zO (z TI TO : Addr) : HO := .ext fun h => IsZip h z TI TO .none
def pO (T : Addr) (x y : Value) : HO := .ext fun h => IsPair h T x y
def tO5 (it a : Addr) : HO := .ext fun h => h.IsTupleIter it a 0
def HZ (H : Hp) (N : Nat) (a b : Addr) : Hp := fun c => if c = N then some (tO5 N a) else if c = N + 1 then some (tO5 (N + 1) b) else if c = N + 2 then some (pO (N + 2) (.ref N) (.ref (N + 1))) else if c = N + 3 then some (pO (N + 3) .none .none) else if c = N + 4 then some (zO (N + 4) (N + 2) (N + 3)) else H c
theorem hz_old {H : Hp} {a b : Addr} {N c : Nat} (h : c < N) : HZ H N a b c = H c := by
  have n0 : c ≠ N := by omega
  have n1 : c ≠ N + 1 := by omega
  have n2 : c ≠ N + 2 := by omega
  have n3 : c ≠ N + 3 := by omega
  have n4 : c ≠ N + 4 := by omega
  unfold HZ
  rw [if_neg n0, if_neg n1, if_neg n2, if_neg n3, if_neg n4]
def rZv (K : PySem.W.Frag) (n : Nat) : List V → Hp → VK → Prop := fun vs H Q => ∃ (a b : Addr) (xs ys : List V), vs = [.ref a, .ref b] ∧ SqT K H a xs ∧ SqT K H b ys ∧ ∀ N : Nat, (∀ c : Nat, N ≤ c → H c = none) → n ≤ N → a < N → b < N → Q (.ref (N + 4)) (HZ H N a b)
section
variable {X : Cx}
theorem cr_zipV : CallR X (.type "zip") (rZv X.K X.s_0.heap.objs.size) := by
  intro pins s σ H vs us Q I r hq
  obtain ⟨a, b, xs, ys, rfl, hx, hy, q⟩ := hq
  cases r with
  | cons r1 rr => cases rr with
    | cons r2 rr =>
      cases rr
      cases r1
      cases r2
      obtain ⟨its, rv, p1, _⟩ := I.tuple hx
      obtain ⟨its2, rv2, p2, _⟩ := I.tuple hy
      obtain ⟨o1, ho1, _⟩ := id p1
      obtain ⟨o2, ho2, _⟩ := id p2
      refine RZ.call_zipT (show s.heap.IsTuple a its.toArray from p1) (show s.heap.IsTuple b its2.toArray from p2) fun h' hz hTI hTO h1 h2 hsz hk => ?_
      have old : ∀ c : Addr, c < s.heap.objs.size → HZ H s.heap.objs.size a b c = H c := fun c hc => hz_old hc
      have fresh : ∀ c : Nat, s.heap.objs.size ≤ c → H c = none := fun c hc => I.hok.fresh hc
      refine ⟨.ref (s.heap.objs.size + 4), HZ H s.heap.objs.size a b, I.un (t' := s.toks) (un_news I.hok hk old) (hok_news I.hok hk old fun c o hc e => ?_), rfl, q _ fresh I.sz (Heap.lt_size ho1) (Heap.lt_size ho2)⟩
      unfold HZ at e
      split at e
      · rename_i ec; subst ec; cases e
        exact ⟨h1, (by obtain ⟨o, ho, _⟩ := h1; exact ⟨o, ho⟩), fun h1 h2 ⟨o, z, z2⟩ k => ⟨o, k _ z, z2⟩⟩
      · split at e
        · rename_i ec; subst ec; cases e
          exact ⟨h2, (by obtain ⟨o, ho, _⟩ := h2; exact ⟨o, ho⟩), fun h1 h2 ⟨o, z, z2⟩ k => ⟨o, k _ z, z2⟩⟩
        · split at e
          · rename_i ec; subst ec; cases e
            exact ⟨hTI, ⟨_, hTI⟩, fun h1 h2 z k => k _ z⟩
          · split at e
            · rename_i ec; subst ec; cases e
              exact ⟨hTO, ⟨_, hTO⟩, fun h1 h2 z k => k _ z⟩
            · split at e
              · rename_i ec; subst ec; cases e
                exact ⟨hz, ⟨_, hz⟩, fun h1 h2 z k => k _ z⟩
              · rw [fresh c hc] at e; cases e
/-- a name that holds such a zip: behind it the five are forgotten -/
def iZv (K : PySem.W.Frag) (n k : Nat) : TI := fun σ H R => ∃ (N : Nat) (a b : Addr) (H0 : Hp), σ[k]? = some (some (.ref (N + 4))) ∧ H = HZ H0 N a b ∧ n ≤ N ∧ a < N ∧ b < N ∧ (∀ c : Nat, N ≤ c → H0 c = none) ∧ R (RZ.ItzT K a b) H0
theorem hz_drop {H0 : Hp} {N : Nat} {a b : Addr} (h : ∀ c : Nat, N ≤ c → H0 c = none) : ItX.dropH (ItX.dropH (ItX.dropH (ItX.dropH (ItX.dropH (HZ H0 N a b) N) (N + 1)) (N + 2)) (N + 3)) (N + 4) = H0 := by
  funext c
  unfold ItX.dropH
  by_cases h4 : c = (N + 4 : Nat)
  · rw [if_pos h4, h4, h _ (by omega)]
  rw [if_neg h4]
  by_cases h3 : c = (N + 3 : Nat)
  · rw [if_pos h3, h3, h _ (by omega)]
  rw [if_neg h3]
  by_cases h2 : c = (N + 2 : Nat)
  · rw [if_pos h2, h2, h _ (by omega)]
  rw [if_neg h2]
  by_cases h1 : c = (N + 1 : Nat)
  · rw [if_pos h1, h1, h _ (by omega)]
  rw [if_neg h1]
  by_cases h0 : c = (N : Nat)
  · rw [if_pos h0, h0, h _ (by omega)]
  rw [if_neg h0]
  unfold HZ
  rw [if_neg h0, if_neg h1, if_neg h2, if_neg h3, if_neg h4]
theorem pi_zv {elts : List Expr} {kk : Nat} {tpos p : Pos} {k : Nat} {x : Str} {c : Ctx} (C : CtxOk c X) (hv : c.vis x k = true) : PI X (.Tuple elts kk tpos) (.Name x p) (iZv X.K X.s_0.heap.objs.size k) := by
  refine ⟨fun pins s σ H R I h => ?_⟩
  obtain ⟨N, a, b, H0, hs, rfl, hn, ha, hb, hN, q⟩ := h
  refine thn ((C.pe_var (pos := p) hv).run pins s σ _ (fun v H1 => v = .ref (N + 4) ∧ H1 = HZ H0 N a b) I ⟨.ref (N + 4), hs, rfl, rfl⟩) fun u s1 ⟨v, H1, I1, r1, ev, eH⟩ => ?_
  subst ev
  rw [eH] at I1
  cases r1
  have n01 : ((N + 1 : Nat)) ≠ N := by omega
  have n02 : ((N + 2 : Nat)) ≠ N := by omega
  have n03 : ((N + 3 : Nat)) ≠ N := by omega
  have n04 : ((N + 4 : Nat)) ≠ N := by omega
  have n12 : ((N + 2 : Nat)) ≠ N + 1 := by omega
  have n13 : ((N + 3 : Nat)) ≠ N + 1 := by omega
  have n14 : ((N + 4 : Nat)) ≠ N + 1 := by omega
  have n23 : ((N + 3 : Nat)) ≠ N + 2 := by omega
  have n24 : ((N + 4 : Nat)) ≠ N + 2 := by omega
  have n34 : ((N + 4 : Nat)) ≠ N + 3 := by omega
  have e0 : HZ H0 N a b N = some (tO5 N a) := by unfold HZ; rw [if_pos rfl]
  have e1 : HZ H0 N a b (N + 1 : Nat) = some (tO5 (N + 1) b) := by unfold HZ; rw [if_neg n01, if_pos rfl]
  have e2 : HZ H0 N a b (N + 2 : Nat) = some (pO (N + 2) (.ref N) (.ref (N + 1))) := by unfold HZ; rw [if_neg n02, if_neg n12, if_pos rfl]
  have e3 : HZ H0 N a b (N + 3 : Nat) = some (pO (N + 3) .none .none) := by unfold HZ; rw [if_neg n03, if_neg n13, if_neg n23, if_pos rfl]
  have e4 : HZ H0 N a b (N + 4 : Nat) = some (zO (N + 4) (N + 2) (N + 3)) := by unfold HZ; rw [if_neg n04, if_neg n14, if_neg n24, if_neg n34, if_pos rfl]
  have h0 : s1.heap.IsTupleIter N a 0 := (I1.hok _ _ e0).1
  have h1 : s1.heap.IsTupleIter (N + 1) b 0 := (I1.hok _ _ e1).1
  have h2 : IsPair s1.heap (N + 2) (.ref N) (.ref (N + 1)) := (I1.hok _ _ e2).1
  have h3 : IsPair s1.heap (N + 3) .none .none := (I1.hok _ _ e3).1
  have h4 : IsZip s1.heap (N + 4) (N + 2) (N + 3) .none := (I1.hok _ _ e4).1
  have fp : ∀ c : Nat, N ≤ c → ∀ u, HZ H0 N a b c = some u → FpOk X pins H0 c := fun c hc u hu => by
    obtain ⟨_, f1, f2, f3, f4, f5⟩ := ItX.inv_fp I1 hu (Nat.le_trans hn hc)
    exact ⟨hN c hc, f1, f2, f3, f4, f5⟩
  have dr := hz_drop (a := a) (b := b) hN
  have I2 := ItX.inv_drop I1 (a := N) e0
  have I3 := ItX.inv_drop I2 (a := (N + 1 : Nat)) (by rw [ItX.dropH_ne n01]; exact e1)
  have I4 := ItX.inv_drop I3 (a := (N + 2 : Nat)) (by rw [ItX.dropH_ne n12, ItX.dropH_ne n02]; exact e2)
  have I5 := ItX.inv_drop I4 (a := (N + 3 : Nat)) (by rw [ItX.dropH_ne n23, ItX.dropH_ne n13, ItX.dropH_ne n03]; exact e3)
  have I6 := ItX.inv_drop I5 (a := (N + 4 : Nat)) (by rw [ItX.dropH_ne n34, ItX.dropH_ne n24, ItX.dropH_ne n14, ItX.dropH_ne n04]; exact e4)
  rw [dr] at I6
  refine wpAny_pyIter_zip h4 ?_
  refine ⟨N + 4, [N + 4, N + 2, N + 3, N, N + 1], _, _, H0, rfl, I6, RZ.turn_zipT (PySem.W.ktu_apart N a b ha hb), ⟨h4, h2, ⟨_, _, h3⟩, h0, h1⟩, fun c hcm => ?_, q⟩
  have e' : c = (N + 4 : Nat) ∨ c = (N + 2 : Nat) ∨ c = (N + 3 : Nat) ∨ c = (N : Nat) ∨ c = (N + 1 : Nat) := by simpa using hcm
  rcases e' with rfl | rfl | rfl | rfl | rfl
  · exact fp _ (by omega) _ e4
  · exact fp _ (by omega) _ e2
  · exact fp _ (by omega) _ e3
  · exact fp _ (by omega) _ e0
  · exact fp _ (by omega) _ e1
theorem it_zipT {K : PySem.W.Frag} {g : G} {a b : Addr} {xs ys : List V} {l m : List D} (hx : SqT K g.F a xs) (hy : SqT K g.F b ys) (rx : RepL K g l xs) (ry : RepL K g m ys) : ItOk K g (zipD l m) (RZ.ItzT K a b) := by
  intro i H1 g1 S1 l1 hh1
  have sx : SqT K H1 a xs := sqT_mono hh1.same (sqT_mono l1.F hx)
  have sy : SqT K H1 b ys := sqT_mono hh1.same (sqT_mono l1.F hy)
  refine ⟨fun d hd => ?_, fun hi => ⟨xs, ys, sx, sy, ?_⟩⟩
  · unfold zipD at hd
    rw [List.getElem?_map] at hd
    cases hz : (l.zip m)[i]? with
    | none => rw [hz] at hd; cases hd
    | some q =>
      rw [hz] at hd
      cases hd
      obtain ⟨h1, h2⟩ := List.getElem?_zip_eq_some.mp hz
      obtain ⟨v, hv, rv⟩ := rx.get h1
      obtain ⟨u, hu, ru⟩ := ry.get h2
      refine ⟨⟨xs, ys, v, u, sx, sy, hv, hu⟩, fun x H' y => ?_⟩
      obtain ⟨T, x1, x2, rfl, nT, rfl, f1, f2⟩ := y
      have z1 : x1 = v := Option.some.inj ((f1 xs sx).symm.trans hv)
      have z2 : x2 = u := Option.some.inj ((f2 ys sy).symm.trans hu)
      subst z1
      subst z2
      have lp : Le g1 (g1.put T (.tup [x1, x2])) := Le.put (hh1.free nT)
      exact ⟨_, lp, hh1.put nT, .tup (.inl (.inl upd_same)) (.cons ((rv.monoW l1).mono lp) (.cons ((ru.monoW l1).mono lp) .nil))⟩
  · unfold zipD at hi
    rw [List.length_map, List.length_zip, rx.length, ry.length] at hi
    omega
end

/-! ### x = zip(a, b); return all([e for p in x]) -/
section
variable {K : PySem.W.Frag} {g : G}
theorem FrOk.hide {fr : Fr} {σ : L2.St} (h : FrOk K g fr σ) (i : Nat) (x : Option V) : FrOk K g (fr.set i none) (σ.set i x) := by
  refine ⟨by simpa using h.len, fun j d e => ?_⟩
  by_cases hj : i = j
  · subst hj
    rw [List.getElem?_set] at e
    split at e
    · split at e <;> cases e
    · exact absurd rfl ‹_›
  · rw [List.getElem?_set_ne hj] at e ⊢
    exact h.at_ j d e
end
def zipN : Str := "zip"
def allN : Str := "all"
section
variable {X : Cx} {c : Ctx} {T : Tab} {Φ : Fns} {k : Nat}
theorem ss_zall (G : GX T Φ k X) (C : CtxOk c X) {i : Nat} {x : Str} {px p1 p2 p3 p4 p5 tp cpos pos pos2 : Pos} {ea eb elt : Expr} {els : List Expr} {kk : Nat} {scope : Scope} {own : List (Str × Nat)} {p : Pat} {ca cb ce : E}
    (hz : zipN ∈ T.blt) (hgz : c.gl zipN = true) (ha : allN ∈ T.blt) (hga : c.gl allN = true) (hst : c.st x i = true) (hvis : c.vis x i = true)
    (pa : PA X [ea, eb] (tEs X.K Φ [ca, cb])) (hs1 : isStar ea = false) (hs2 : isStar eb = false) (ok : BlkOk X.N X.env.scope scope own)
    (hg : ∀ (s : Shared) (H : Hp) (Q : Addr) (cl : List (Str × Addr)) (fp : List Addr), PG (X.blk s H scope (compEnvC scope cl Q X.env) fp) (.Tuple els kk tp) (tP X.K p))
    (he : ∀ (s : Shared) (H : Hp) (Q : Addr) (cl : List (Str × Addr)) (fp : List Addr), PE (X.blk s H scope (compEnvC scope cl Q X.env) fp) elt (tE X.K Φ ce)) (hp : ∀ j ∈ p.slots, j ∈ own.map (·.2)) :
    PSs X [.Assign [.Name x px] (.Call (.Name zipN p1) [ea, eb] [] p2) pos, .Return (some (.Call (.Name allN p3) [.ListComp elt [⟨.Tuple els kk tp, .Name x p4, [], 0⟩] scope cpos] [] p5)) pos2] (tS X.K Φ [.zall i ca cb own p ce]) := by
  obtain ⟨z0, z1⟩ := G.blt _ hz
  obtain ⟨a0, a1⟩ := G.blt _ ha
  have h1 := ps_asg (pos := pos) (pe_callTy (pos := p2) (p := p1) cr_zipV (C.gl hgz).1 z0 PyProof.Rows.boot_zip pa z1 (C.gl hgz).2 (star_cons hs1) (star_plain (by rw [List.any_cons, hs2]; rfl))) (C.pg (pos := px) hst)
  have h2 := ps_ret (pos := pos2) (pe_callB (pos := p5) (p := p3) (cr_dall C.calm) (C.gl hga).1 a0 PyProof.Rows.boot_all (pa_cons (pe_lc (pos := cpos) (ifs := []) (tt := tTs X.K Φ []) (scope := scope) C.calm (by rw [C.N]; exact C.nd) (pi_zv (p := p4) C hvis) ok hg (fun s H Q cl fp => ts_nil (X := X.blk s H scope (compEnvC scope cl Q X.env) fp) (Φ := Φ)) he (fun _ => rfl)) pa_nil) a1 (C.gl hga).2)
  refine (pss_cons h1 (pss_cons h2 pss_nil)).imp fun D σ H ⟨g, fr, S, hf, hh, h⟩ => ?_
  obtain ⟨o, S9, e9, h⟩ := RPost.bind h
  have e9 : ((evE Φ ca fr S).bind fun x S1 => (evE Φ cb fr S1).bind fun y S2 => match x, y with
    | .tup l, .tup m => if i < fr.length then (compF p (evTs Φ []) (evE Φ ce) (wipeF (fr.set i none) (own.map (·.2))) (zipD l m) [] S2).bind fun r S3 => match boolsD r with
      | some bs => Res.ok (Out.ret (.bl (bs.all id))) S3
      | none => .no
      else .no
    | _, _ => .no) = .ok o S9 := e9
  cases e1 : evE Φ ca fr S with
  | ex => rw [e1] at e9; cases e9
  | no => rw [e1] at e9; cases e9
  | ok dx S1 =>
    rw [e1, Res.bind_ok] at e9
    cases e2 : evE Φ cb fr S1 with
    | ex => rw [e2] at e9; cases e9
    | no => rw [e2] at e9; cases e9
    | ok dy S2 =>
      rw [e2, Res.bind_ok] at e9
      have es : evEs Φ [ca, cb] fr S = .ok [dx, dy] S2 := by
        show (evE Φ ca fr S).bind (fun x S1 => ((evE Φ cb fr S1).bind fun x S1 => (evEs Φ [] fr S1).bind fun xs S2 => Res.ok (x :: xs) S2).bind fun xs S2 => Res.ok (x :: xs) S2) = _
        rw [e1, Res.bind_ok, e2]; rfl
      refine tEs_in hf hh es fun vs H1 g1 l1 hh1 r1 => ?_
      obtain ⟨v, u, rfl, rv, ru⟩ := r1.two
      cases rv with
      | tup hq rl =>
        rename_i a xs l
        cases ru with
        | tup hq2 rl2 =>
          rename_i b ys m
          have e9 : (if i < fr.length then (compF p (evTs Φ []) (evE Φ ce) (wipeF (fr.set i none) (own.map (·.2))) (zipD l m) [] S2).bind fun r S3 => match boolsD r with
            | some bs => Res.ok (Out.ret (.bl (bs.all id))) S3
            | none => .no
            else .no) = .ok o S9 := e9
          split at e9
          · rename_i hlt
            cases ec : compF p (evTs Φ []) (evE Φ ce) (wipeF (fr.set i none) (own.map (·.2))) (zipD l m) [] S2 with
            | ex => rw [ec] at e9; cases e9
            | no => rw [ec] at e9; cases e9
            | ok r S3 =>
              rw [ec, Res.bind_ok] at e9
              cases eb : boolsD r with
              | none => rw [eb] at e9; cases e9
              | some bs =>
                rw [eb] at e9
                cases e9
                refine ⟨a, b, xs, ys, rfl, sqT_mono hh1.same hq, sqT_mono hh1.same hq2, fun N hN hn ha' hb' => ?_⟩
                have hl : i < σ.length := by rw [← hf.len]; exact hlt
                refine ⟨N, a, b, H1, List.getElem?_set_self hl, rfl, hn, ha', hb', hN, ?_⟩
                refine comp_tail (fz := true) (Φ := Φ) (own := own) (cs := []) (ce := ce) (S1 := S2) (fr := fr.set i none) (σ := σ.set i (some (V.ref (N + 4)))) (Q := fun v H4 => rBi X.K .all [v] H4 D.rt) hp ((hf.mono l1).hide i _) (Le.refl _) hh1 (it_zipT hq hq2 rl rl2) ?_
                show RPost _ ((compF p (evTs Φ []) (evE Φ ce) (wipeF (fr.set i none) (own.map (·.2))) (zipD l m) [] S2).bind fun r S2 => Res.ok (Dm.D.lst r) S2)
                rw [ec]
                intro v' H' g' l' hh' r'
                refine ⟨g', S9, [.lst r], .bl (bs.all id), hh', .cons r' .nil, ?_, (Post.mono l' (Post.mono l1 (show Post X.K g (.bl (bs.all id)) S9 D.rt from h)))⟩
                show (boolsD r).map (fun bs => Dm.D.bl (bs.all id)) = _
                rw [eb]; rfl
          · cases e9
        | _ => cases e9
      | _ => cases e9
end
end Dm

/-! DmI: the checker, and that what it checks is sound. -/
namespace Dm
open PySem L2

/-! ### how plain parameters are bound -/
theorem missing_nil : ∀ (ps : List Str) (us : List Value), us.length = ps.length → (ps.filter fun n => ((ps.zip us).lookup n).isNone) = [] := by
  intro ps us h
  rw [List.filter_eq_nil_iff]
  intro n hn
  have : ∀ (ps : List Str) (us : List Value), us.length = ps.length → n ∈ ps → ((ps.zip us).lookup n).isSome = true := by
    intro ps
    induction ps with
    | nil => intro us _ h; cases h
    | cons p ps ih =>
      intro us hl hm
      cases us with
      | nil => cases hl
      | cons u us =>
        rw [List.zip_cons_cons, List.lookup_cons]
        by_cases e : n == p
        · rw [e]; rfl
        · have e' : (n == p) = false := by simpa using e
          rw [e']
          have hn : n ∈ ps := by
            rcases List.mem_cons.mp hm with h | h
            · subst h; simp at e
            · exact h
          exact ih us (by simpa using hl) hn
  have q := this ps us h hn
  rw [← Option.not_isSome, q]; decide
theorem filterMap_cg {α β : Type} {f g : α → Option β} : ∀ {l : List α}, (∀ n ∈ l, f n = g n) → l.filterMap f = l.filterMap g
  | [], _ => rfl
  | a :: l, h => by
    rw [List.filterMap_cons, List.filterMap_cons, h a List.mem_cons_self, filterMap_cg fun n hn => h n (List.mem_cons_of_mem _ hn)]
theorem zip_lookup : ∀ (ps : List Str) (us : List Value), us.length = ps.length → ps.Nodup → (ps.filterMap fun n => ((ps.zip us).lookup n).map (n, ·)) = ps.zip us
  | [], us, h, _ => by simp
  | p :: ps, [], h, _ => by cases h
  | p :: ps, u :: us, h, nd => by
    have ih := zip_lookup ps us (by simpa using h) (List.nodup_cons.mp nd).2
    rw [List.zip_cons_cons, List.filterMap_cons]
    simp only [List.lookup_cons, beq_self_eq_true, Option.map_some]
    congr 1
    refine Eq.trans ?_ ih
    refine filterMap_cg fun n hn => ?_
    have e : (n == p) = false := by
      rw [beq_eq_false_iff_ne]
      rintro rfl
      exact (List.nodup_cons.mp nd).1 hn
    simp [e]
theorem bind_plain {x qual : Str} {args : List PySem.Arg} {kd : List (Option Expr)} {df : List Expr} {body : List Stmt} {sc : Scope} {kV doc pm : Value} {an : Option Addr} {cdv ct : Value} {us : List Value} {ps : List Str} (hp : args.map (·.arg) = ps) (nd : ps.Nodup) (h : us.length = ps.length) :
    bindArgs (PySem.W.fnOf x qual { posonlyargs := [], args := args, vararg := none, kwonlyargs := [], kw_defaults := kd, kwarg := none, defaults := df } body sc .none kV doc pm an cdv ct) ⟨us, []⟩ = pure (ps.zip us) := by
  have m := missing_nil ps us h
  have z := zip_lookup ps us h nd
  unfold bindArgs PySem.W.fnOf
  simp only [List.map_nil, List.nil_append, List.forIn_nil, pure_bind, hp]
  have ns : notAStandIn Value.none = pure () := rfl
  have dr : ∀ k : Nat, (List.drop k ([] : List Value)) = [] := fun k => by cases k <;> rfl
  simp [seqItems?, h, m, ns, dr, z]

/-! ### the checker -/
def all2 {α β : Type} (f : α → β → Bool) : List α → List β → Bool
  | [], [] => true
  | a :: as, b :: bs => f a b && all2 f as bs
  | _, _ => false
mutual
def chkP (c : Ctx) : Pat → Expr → Bool
  | .v i, .Name x _ => c.st x i
  | .t ps, .Tuple es _ _ => !es.any isStar && decide (es.length = ps.length) && chkPs c ps es
  | _, _ => false
termination_by structural p => p
def chkPs (c : Ctx) : List Pat → List Expr → Bool
  | [], [] => true
  | p :: ps, e :: es => !isStar e && chkP c p e && chkPs c ps es
  | _, _ => false
termination_by structural ps => ps
end
def chkO (f : Expr → E → Bool) : Option Expr → Option E → Bool
  | none, none => true
  | some e, some c => f e c
  | _, _ => false
def Ctx.inner (c : Ctx) (scope : Scope) : Ctx := ⟨c.N, relS scope c.sc, scope⟩
/-- iterables: f checks expressions -/
def chkI (T : Tab) (f : Expr → E → Bool) (c : Ctx) (tg e : Expr) (ce : E) : Bool :=
  match ce with
  | .range [a] => match e with
    | .Call (.Name x _) [y] [] _ => decide (x = rangeN) && decide (rangeN ∈ T.blt) && c.gl rangeN && !isStar y && f y a
    | _ => false
  | .range [a, b] => match e with
    | .Call (.Name x _) [y, z] [] _ => decide (x = rangeN) && decide (rangeN ∈ T.blt) && c.gl rangeN && !isStar y && !isStar z && f y a && f z b
    | _ => false
  | ce => !isSet e && f e ce
/-- (x,) of and, or -/
def sing : Expr → Option Expr
  | .BoolOp _ [x] _ => some x
  | _ => none
def chkE (T : Tab) : Nat → Ctx → Expr → E → Bool
  | 0, _, _, _ => false
  | n + 1, c, e, ce => match sing e with
    | some x => chkE T n c x ce
    | none => match ce with
      | .int i => match e with
        | .Constant (.int j) _ _ => decide (i = j)
        | _ => false
      | .bl i => match e with
        | .Constant (.bool j) _ _ => decide (i = j)
        | _ => false
      | .non => match e with
        | .Constant .none _ _ => true
        | _ => false
      | .str i => match e with
        | .Constant (.str j) _ _ => decide (i = j)
        | _ => false
      | .var i => match e with
        | .Name x _ => c.vis x i
        | _ => false
      | .glob k => match e with
        | .Name x _ => decide (T.cns[k]? = some x) && c.gl x
        | _ => false
      | .bin op a b => match e with
        | .BinOp x op' y _ => decide (op = op') && chkE T n c x a && chkE T n c y b
        | _ => false
      | .neg a => match e with
        | .UnaryOp .USub x _ => chkE T n c x a
        | _ => false
      | .not a => match e with
        | .UnaryOp .Not x _ => chkE T n c x a
        | _ => false
      | .cmp op a b => match e with
        | .Compare x [op'] [y] _ => decide (op = op') && !isSet y && chkE T n c x a && chkE T n c y b
        | _ => false
      | .cmp2 op op2 a b d => match e with
        | .Compare x [op', op2'] [y, z] _ => decide (op = op') && decide (op2 = op2') && !isSet z && chkE T n c x a && chkE T n c y b && chkE T n c z d
        | _ => false
      | .and a b => match e with
        | .BoolOp .And (x :: y :: r) p => chkE T n c x a && chkE T n c (.BoolOp .And (y :: r) p) b
        | _ => false
      | .or a b => match e with
        | .BoolOp .Or (x :: y :: r) p => chkE T n c x a && chkE T n c (.BoolOp .Or (y :: r) p) b
        | _ => false
      | .ite a b d => match e with
        | .IfExp x y z _ => chkE T n c x a && chkE T n c y b && chkE T n c z d
        | _ => false
      | .tup cs => match e with
        | .Tuple es _ _ => !es.any isStar && all2 (chkE T n c) es cs
        | _ => false
      | .lst cs => match e with
        | .List es _ => !es.any isStar && all2 (chkE T n c) es cs
        | _ => false
      | .mkl cs => match e with
        | .List es _ => !es.any isStar && all2 (chkE T n c) es cs
        | _ => false
      | .sub a b => match e with
        | .Subscript x y _ => !isSlc y && chkE T n c x a && chkE T n c y b
        | _ => false
      | .slc a lo hi => match e with
        | .Subscript x (.Slice l h none _) _ => chkE T n c x a && chkO (chkE T n c) l lo && chkO (chkE T n c) h hi
        | _ => false
      | .call f cs => match e with
        | .Call (.Name x _) es [] _ => (match T.fns[f]? with | some y => decide (x = y.1) | none => false) && c.gl x && !es.any isStar && all2 (chkE T n c) es cs
        | _ => false
      | .bi f cs => match e with
        | .Call (.Name x _) (y :: es) [] _ => f.ok && (match f with | .gcd => decide (x = T.gcd) && !decide (x = "") | _ => decide (x = f.nm) && decide (x ∈ T.blt)) && c.gl x && !(y :: es).any isStar && all2 (chkE T n c) (y :: es) cs
        | _ => false
      | .maxd a d => match e with
        | .Call (.Name x _) [y] [⟨some nm, z, _⟩] _ => decide (x = maxN) && decide (nm = dfN) && decide (maxN ∈ T.blt) && c.gl maxN && !isStar y && chkE T n c y a && chkE T n c z d
        | _ => false
      | .mind a d => match e with
        | .Call (.Name x _) [y] [⟨some nm, z, _⟩] _ => decide (x = minN) && decide (nm = dfN) && decide (minN ∈ T.blt) && c.gl minN && !isStar y && chkE T n c y a && chkE T n c z d
        | _ => false
      | .isi t a => match e with
        | .Call (.Name x _) [y, .Name z _] [] _ => decide (x = isiN) && decide (z = t.nm) && decide (isiN ∈ T.blt) && c.gl isiN && decide (t.nm ∈ T.blt) && c.gl t.nm && !isStar y && chkE T n c y a
        | _ => false
      | .me m o cs => match e with
        | .Call (.Attribute x nm ap) (y :: es) [] p => m.ok && decide (nm = m.nm) && !(y :: es).any isStar && decide ((y :: es).length < 29) && !isCall0 x && (ap.endLine == p.line) && chkE T n c x o && all2 (chkE T n c) (y :: es) cs
        | _ => false
      | .app o d => match e with
        | .Call (.Attribute x nm ap) [y] [] p => decide (nm = appN) && !isStar y && !isCall0 x && (ap.endLine == p.line) && chkE T n c x o && chkE T n c y d
        | _ => false
      | .comp _ own p it cs d => match e with
        | .ListComp elt [⟨tg, iter, ifs, 0⟩] scope _ => blkC c.N c.sc scope own && decide (∀ i ∈ p.slots, i ∈ own.map (·.2)) && !isSet iter && chkI T (chkE T n c) c tg iter it && chkP (c.inner scope) p tg &&
            (match ifs, cs with
              | [], [] => true
              | [x], [a] => chkE T n (c.inner scope) x a
              | _, _ => false) && chkE T n (c.inner scope) elt d
        | _ => false
      | _ => false

/-! ### it is sound -/
section
variable {X : Cx} {c : Ctx} {T : Tab} {Φ : Fns} {k : Nat}
theorem CtxOk.inner (C : CtxOk c X) (s : Shared) (H : Hp) (Q : Addr) (cl : List (Str × Addr)) (fp : List Addr) (scope : Scope) : CtxOk (c.inner scope) (X.blk s H scope (compEnvC scope cl Q X.env) fp) where
  N := C.N
  nd := C.nd
  calm := C.calm
  sc := by
    show relS scope X.env.scope = relS scope c.sc
    rw [C.sc]
  loc := fun x h => lookup_relS_keep (by decide) h
  cell := fun x h => by
    refine ⟨.inr (lookup_relS_keep (by decide) h), ?_⟩
    show (scope.names.lookup x == some .cell) = true
    rw [show scope.names.lookup x = some .cell from h]
    rfl
theorem all2_pa {f : Expr → E → Bool} (hf : ∀ e ce, f e ce = true → PE X e (tE X.K Φ ce)) : ∀ {es : List Expr} {cs : List E}, all2 f es cs = true → es.any isStar = false → PA X es (tEs X.K Φ cs)
  | [], [], _, _ => a_nil
  | [], _ :: _, h, _ => by cases h
  | _ :: _, [], h, _ => by cases h
  | e :: es, ce :: cs, h, hs => by
    rw [List.any_cons, Bool.or_eq_false_iff] at hs
    unfold all2 at h
    rw [Bool.and_eq_true] at h
    exact a_cons (hf _ _ h.1) (all2_pa hf h.2 hs.2) hs.1
theorem set_of {e : Expr} (h : (!isSet e) = true) : isSet e = false := by simpa using h
theorem star_of {e : Expr} (h : (!isStar e) = true) : isStar e = false := by simpa using h
mutual
theorem chkP_ok (C : CtxOk c X) : ∀ (p : Pat) (e : Expr), chkP c p e = true → PG X e (tP X.K p)
  | .v i, e, h => by
    unfold chkP at h
    split at h
    · rename_i b; cases b; exact g_name C h
    · rename_i b; cases b
    · cases h
  | .t ps, e, h => by
    unfold chkP at h
    split at h
    · rename_i b; cases b
    · rename_i b
      cases b
      rw [Bool.and_eq_true, Bool.and_eq_true] at h
      exact g_tup C (chkPs_ok C ps _ h.2) (by simpa using h.1.1) (of_decide_eq_true h.1.2)
    · cases h
theorem chkPs_ok (C : CtxOk c X) : ∀ (ps : List Pat) (es : List Expr), chkPs c ps es = true → PGs X es (tPs X.K ps)
  | [], [], _ => gs_nil
  | [], _ :: _, h => by cases h
  | _ :: _, [], h => by cases h
  | p :: ps, e :: es, h => by
    unfold chkPs at h
    rw [Bool.and_eq_true, Bool.and_eq_true] at h
    exact gs_cons (chkP_ok C p e h.1.2) (chkPs_ok C ps es h.2) (star_of h.1.1)
end
theorem chkO_ok {f : Expr → E → Bool} (hf : ∀ e ce, f e ce = true → PE X e (tE X.K Φ ce)) : ∀ {o : Option Expr} {co : Option E}, chkO f o co = true → PO X o (tO X.K Φ co)
  | none, none, _ => o_none
  | none, some _, h => by cases h
  | some _, none, h => by cases h
  | some e, some ce, h => o_some (hf e ce h)
theorem chkI_ok (G : GX T Φ k X) (C : CtxOk c X) {f : Expr → E → Bool} (hf : ∀ e ce, f e ce = true → PE X e (tE X.K Φ ce)) {tg e : Expr} {ce : E} (h : chkI T f c tg e ce = true) : PI X tg e (tI X.K Φ ce) := by
  unfold chkI at h
  split at h
  · split at h
    · simp only [Bool.and_eq_true, decide_eq_true_eq] at h
      obtain ⟨⟨⟨⟨rfl, h2⟩, h3⟩, h4⟩, h5⟩ := h
      exact i_range1 G C h2 h3 (a_cons (hf _ _ h5) a_nil (star_of h4)) (star_of h4)
    · cases h
  · split at h
    · simp only [Bool.and_eq_true, decide_eq_true_eq] at h
      obtain ⟨⟨⟨⟨⟨⟨rfl, h2⟩, h3⟩, h4⟩, h5⟩, h6⟩, h7⟩ := h
      exact i_range2 G C h2 h3 (a_cons (hf _ _ h6) (a_cons (hf _ _ h7) a_nil (star_of h5)) (star_of h4)) (star_of h4) (star_of h5)
    · cases h
  · rw [Bool.and_eq_true] at h
    exact i_seq (hf _ _ h.2)
theorem t_ite {ec ea eb : Expr} {cc ca cb : E} {pos : Pos} (hc : PT X ec (tT X.K Φ cc)) (ha : PT X ea (tT X.K Φ ca)) (hb : PT X eb (tT X.K Φ cb)) : PT X (.IfExp ec ea eb pos) (tT X.K Φ (.ite cc ca cb)) := by
  refine ⟨fun pins s σ H Q I q => PyProof.Rows.isTrue_IfExp ?_⟩
  obtain ⟨g, fr, S, hf, hh, h⟩ := q
  unfold evT at h
  obtain ⟨z, S9, e9, h⟩ := RPost.bind h
  have e9' : ((evE Φ cc fr S).bind fun x S1 => match truth S1 x with | some true => evE Φ ca fr S1 | some false => evE Φ cb fr S1 | none => .no) = .ok z S9 := e9
  obtain ⟨x, S1, e1, h2⟩ := RPost.bind (P := fun d S' => d = z ∧ S' = S9) (r := evE Φ cc fr S) (f := fun x S1 => match truth S1 x with | some true => evE Φ ca fr S1 | some false => evE Φ cb fr S1 | none => .no) (by rw [e9']; exact ⟨rfl, rfl⟩)
  cases ht : truth S1 x with
  | none => rw [ht] at h2; exact h2.elim
  | some t =>
    rw [ht] at h2
    refine thn (hc.run pins s σ H (fun b H1 => b = t ∧ ∃ g1, Le g g1 ∧ HpOk X.K g1 S1 H1) I (tT_in hf hh (evT_of e1 ht) fun H1 g1 l1 hh1 => ⟨rfl, g1, l1, hh1⟩)) fun b s1 ⟨H1, I1, q1⟩ => ?_
    obtain ⟨rfl, g1, l1, hh1⟩ := q1
    have hfin : ∀ {cx : E}, evE Φ cx fr S1 = .ok z S9 → tT X.K Φ cx σ H1 Q := fun {cx} e => by
      refine ⟨g1, fr, S1, hf.mono l1, hh1, ?_⟩
      unfold evT
      rw [e]
      show RPost _ (Res.of (truth S9 z) S9)
      exact RPost.imp h fun b S' _ q H' g' l' => q H' g' (l1.trans l')
    cases b with
    | true =>
      have e : evE Φ ca fr S1 = .ok z S9 := by
        have h2 : RPost (fun d S' => d = z ∧ S' = S9) (evE Φ ca fr S1) := h2
        cases q : evE Φ ca fr S1 with
        | ok => rw [q] at h2; obtain ⟨rfl, rfl⟩ := h2; rfl
        | ex => rw [q] at h2; exact h2.elim
        | no => rw [q] at h2; exact h2.elim
      exact ha.run pins s1 σ H1 Q I1 (hfin e)
    | false =>
      have e : evE Φ cb fr S1 = .ok z S9 := by
        have h2 : RPost (fun d S' => d = z ∧ S' = S9) (evE Φ cb fr S1) := h2
        cases q : evE Φ cb fr S1 with
        | ok => rw [q] at h2; obtain ⟨rfl, rfl⟩ := h2; rfl
        | ex => rw [q] at h2; exact h2.elim
        | no => rw [q] at h2; exact h2.elim
      exact hb.run pins s1 σ H1 Q I1 (hfin e)
def isBo : Expr → Bool
  | .BoolOp _ _ _ => true
  | _ => false
/-- a value's reading, a test's, and a test's behind and, or -/
structure Snd (Φ : Fns) (X : Cx) (e : Expr) (ce : E) : Prop where
  v : PE X e (tE X.K Φ ce)
  t : PT X e (tT X.K Φ ce)
  w : isBo e = true → PW X e (tT X.K Φ ce)
theorem Snd.plain {e : Expr} {ce : E} (h : PE X e (tE X.K Φ ce)) (hp : isPlainT e = true) : Snd Φ X e ce := ⟨h, t_plain h hp, fun hb => by cases e <;> first | (cases hb; done) | (cases hp; done)⟩
theorem Snd.bo {e : Expr} {ce : E} (h : PE X e (tE X.K Φ ce)) (hp : PW X e (tT X.K Φ ce)) : Snd Φ X e ce := ⟨h, hp.pt, fun _ => hp⟩
theorem Snd.tst {e : Expr} {ce : E} (h : PE X e (tE X.K Φ ce)) (hp : PT X e (tT X.K Φ ce)) (hb : isBo e = false) : Snd Φ X e ce := ⟨h, hp, fun z => by rw [hb] at z; cases z⟩
theorem sing_eq {e x : Expr} (h : sing e = some x) : ∃ op p, e = .BoolOp op [x] p := by
  unfold sing at h
  split at h
  · cases h; exact ⟨_, _, rfl⟩
  · cases h
theorem chkE_ok : ∀ (n : Nat) (X : Cx) (c : Ctx), GX T Φ k X → CtxOk c X → ∀ (e : Expr) (ce : E), chkE T n c e ce = true → Snd Φ X e ce := by
  intro n
  induction n with
  | zero => intro X c G C e ce h; cases h
  | succ n ih =>
    intro X c G C e ce h
    have ihX := ih X c G C
    have iv : ∀ e ce, chkE T n c e ce = true → PE X e (tE X.K Φ ce) := fun e ce h => (ihX e ce h).v
    unfold chkE at h
    split at h
    · rename_i x hx
      obtain ⟨op, p, rfl⟩ := sing_eq hx
      have q := ihX x ce h
      refine .bo (pe_one q.v) ?_
      cases op with
      | And => exact pw_and1 q.t
      | Or => exact pw_or1 q.t
    · split at h
      case h_1 i => -- int
        split at h
        · have h := of_decide_eq_true h; subst h; exact .plain e_int rfl
        · cases h
      case h_2 i => -- bl
        split at h
        · have h := of_decide_eq_true h; subst h; exact .plain e_bl rfl
        · cases h
      case h_3 => -- non
        split at h
        · exact .plain e_non rfl
        · cases h
      case h_4 i => -- str
        split at h
        · have h := of_decide_eq_true h; subst h; exact .plain e_str rfl
        · cases h
      case h_5 i => -- var
        split at h
        · exact .plain (e_var (C.pe_var h)) rfl
        · cases h
      case h_6 kk => -- glob
        split at h
        · rw [Bool.and_eq_true] at h
          exact .plain (e_glob G C (of_decide_eq_true h.1) h.2) rfl
        · cases h
      case h_7 op a b => -- bin
        split at h
        · simp only [Bool.and_eq_true, decide_eq_true_eq] at h
          obtain ⟨⟨rfl, h1⟩, h2⟩ := h
          exact .plain (e_bin (iv _ _ h1) (iv _ _ h2)) rfl
        · cases h
      case h_8 a => -- neg
        split at h
        · exact .plain (e_neg (iv _ _ h)) rfl
        · cases h
      case h_9 a => -- not
        split at h
        · exact .tst (e_not (ihX _ _ h).v) (t_not (ihX _ _ h).t) rfl
        · cases h
      case h_10 op a b => -- cmp
        split at h
        · simp only [Bool.and_eq_true, decide_eq_true_eq] at h
          obtain ⟨⟨⟨rfl, h0⟩, h1⟩, h2⟩ := h
          have h0 := set_of h0
          exact .tst (e_cmp G.hu (iv _ _ h1) (iv _ _ h2) h0) (t_cmp G.hu (iv _ _ h1) (iv _ _ h2) h0) rfl
        · cases h
      case h_11 op op2 a b d => -- cmp2
        split at h
        · simp only [Bool.and_eq_true, decide_eq_true_eq] at h
          obtain ⟨⟨⟨⟨⟨rfl, rfl⟩, h0⟩, h1⟩, h2⟩, h3⟩ := h
          have h0 := set_of h0
          exact .tst (e_cmp2 G.hu (iv _ _ h1) (iv _ _ h2) (iv _ _ h3) h0) (t_cmp2 G.hu (iv _ _ h1) (iv _ _ h2) (iv _ _ h3) h0) rfl
        · cases h
      case h_12 a b => -- and
        split at h
        · rw [Bool.and_eq_true] at h
          exact .bo (e_and (iv _ _ h.1) (iv _ _ h.2)) (w_and (ihX _ _ h.1).t ((ihX _ _ h.2).w rfl))
        · cases h
      case h_13 a b => -- or
        split at h
        · rw [Bool.and_eq_true] at h
          exact .bo (e_or (iv _ _ h.1) (iv _ _ h.2)) (w_or (ihX _ _ h.1).t ((ihX _ _ h.2).w rfl))
        · cases h
      case h_14 a b d => -- ite
        split at h
        · simp only [Bool.and_eq_true] at h
          obtain ⟨⟨h1, h2⟩, h3⟩ := h
          exact .tst (e_ite (ihX _ _ h1).t (iv _ _ h2) (iv _ _ h3)) (t_ite (ihX _ _ h1).t (ihX _ _ h2).t (ihX _ _ h3).t) rfl
        · cases h
      case h_15 cs => -- tup
        split at h
        · rw [Bool.and_eq_true] at h
          exact .plain (e_tup (all2_pa iv h.2 (by simpa using h.1))) rfl
        · cases h
      case h_16 cs => -- lst
        split at h
        · rw [Bool.and_eq_true] at h
          exact .plain (e_lst (all2_pa iv h.2 (by simpa using h.1))) rfl
        · cases h
      case h_17 cs => -- mkl
        split at h
        · rw [Bool.and_eq_true] at h
          exact .plain (e_mkl (all2_pa iv h.2 (by simpa using h.1))) rfl
        · cases h
      case h_18 a b => -- sub
        split at h
        · simp only [Bool.and_eq_true] at h
          exact .plain (e_sub (iv _ _ h.1.2) (iv _ _ h.2) (by simpa using h.1.1)) rfl
        · cases h
      case h_19 a lo hi => -- slc
        split at h
        · simp only [Bool.and_eq_true] at h
          exact .plain (e_slc (iv _ _ h.1.1) (chkO_ok iv h.1.2) (chkO_ok iv h.2)) rfl
        · cases h
      case h_20 f cs => -- call
        split at h
        · rename_i x p es pos _
          simp only [Bool.and_eq_true] at h
          obtain ⟨⟨⟨h1, h2⟩, h3⟩, h4⟩ := h
          split at h1
          · rename_i y hy
            have h1 := of_decide_eq_true h1
            subst h1
            have h3 : es.any isStar = false := by simpa using h3
            obtain ⟨y1, y2⟩ := y
            cases es with
            | nil =>
              cases cs with
              | nil => exact .plain (e_call0 G C hy h2) rfl
              | cons => cases h4
            | cons e0 es => exact .plain (e_call G C hy h2 (all2_pa iv h4 h3) h3) rfl
          · cases h1
        · cases h
      case h_21 f cs => -- bi
        split at h
        · rename_i x p y es pos _
          simp only [Bool.and_eq_true] at h
          obtain ⟨⟨⟨⟨h1, h2⟩, h3⟩, h4⟩, h5⟩ := h
          have h4 : (y :: es).any isStar = false := by simpa using h4
          refine .plain (e_bi G C h1 ?_ h3 (all2_pa iv h5 h4) h4) rfl
          cases f
          case gcd => 
            simp only [Bool.and_eq_true, decide_eq_true_eq] at h2
            exact .inr ⟨rfl, h2.1, by simpa using h2.2⟩
          all_goals
            simp only [Bool.and_eq_true, decide_eq_true_eq] at h2
            exact .inl ⟨h2.1, (fun z => by cases z), h2.2⟩
        · cases h
      case h_22 a d => -- maxd
        split at h
        · simp only [Bool.and_eq_true, decide_eq_true_eq] at h
          obtain ⟨⟨⟨⟨⟨⟨rfl, rfl⟩, h1⟩, h2⟩, h3⟩, h4⟩, h5⟩ := h
          exact .plain (e_md (mx := true) rfl G C rfl h1 h2 (iv _ _ h4) (iv _ _ h5) (star_of h3)) rfl
        · cases h
      case h_23 a d => -- mind
        split at h
        · simp only [Bool.and_eq_true, decide_eq_true_eq] at h
          obtain ⟨⟨⟨⟨⟨⟨rfl, rfl⟩, h1⟩, h2⟩, h3⟩, h4⟩, h5⟩ := h
          exact .plain (e_md (mx := false) rfl G C rfl h1 h2 (iv _ _ h4) (iv _ _ h5) (star_of h3)) rfl
        · cases h
      case h_24 t a => -- isi
        split at h
        · simp only [Bool.and_eq_true, decide_eq_true_eq] at h
          obtain ⟨⟨⟨⟨⟨⟨⟨rfl, rfl⟩, h1⟩, h2⟩, h3⟩, h4⟩, h5⟩, h6⟩ := h
          exact .plain (e_isi G C h1 h2 h3 h4 (iv _ _ h6) (star_of h5)) rfl
        · cases h
      case h_25 m o cs => -- me
        split at h
        · rename_i x nm ap y es p _
          simp only [Bool.and_eq_true, decide_eq_true_eq] at h
          obtain ⟨⟨⟨⟨⟨⟨⟨h1, rfl⟩, h3⟩, h4⟩, h5⟩, h6⟩, h7⟩, h8⟩ := h
          have h3 : (y :: es).any isStar = false := by simpa using h3
          exact .plain (e_me G h1 (iv _ _ h7) (all2_pa iv h8 h3) h3 h4 (by simpa using h5) h6) rfl
        · cases h
      case h_26 o d => -- app
        split at h
        · simp only [Bool.and_eq_true, decide_eq_true_eq] at h
          obtain ⟨⟨⟨⟨⟨rfl, h1⟩, h2⟩, h3⟩, h4⟩, h5⟩ := h
          exact .plain (e_app (iv _ _ h4) (iv _ _ h5) (star_of h1) (by simpa using h2) h3) rfl
        · cases h
      case h_27 fz own p it cs d => -- comp
        split at h
        · rename_i elt tg iter ifs scope pos _
          simp only [Bool.and_eq_true] at h
          obtain ⟨⟨⟨⟨⟨⟨h1, h2⟩, h3⟩, h4⟩, h5⟩, h6⟩, h7⟩ := h
          refine .plain (e_comp C (chkI_ok G C iv h4) (by rw [C.N, C.sc]; exact blkOk_by h1) (fun s H Q cl fp => chkP_ok (C.inner s H Q cl fp scope) p tg h5) (fun s H Q cl fp => ?_) (fun s H Q cl fp => (ih (X.blk s H scope (compEnvC scope cl Q X.env) fp) (c.inner scope) G (C.inner s H Q cl fp scope) elt d h7).v) (of_decide_eq_true h2) (by simpa using h3)) rfl
          split at h6
          · exact ts_nil
          · exact ts_one (ih (X.blk s H scope (compEnvC scope cl Q X.env) fp) (c.inner scope) G (C.inner s H Q cl fp scope) _ _ h6).t
          · cases h6
        · cases h
      case h_28 => cases h
end
end Dm

/-! DmJ: the checker of statements and of defs, and that it is sound. -/
namespace Dm
open PySem L2

theorem not_of {b : Bool} (h : (!b) = true) : b = false := by simpa using h
/-! ### how a statement stores -/
def blkK (sc : Scope) : ScopeKind := if sc.kind.isAnnotationScope then .function else sc.kind
def swB (sc : Scope) (tg v : Expr) : Bool := match v, tg with
  | .ListComp _ _ s p, .Name t q => blkK sc == .function && sc.names.lookup t == some .local && q.line == p.line && !(s.names.any fun (n, k) => n == t && (k == .local || k == .cell))
  | .SetComp _ _ s p, .Name t q => blkK sc == .function && sc.names.lookup t == some .local && q.line == p.line && !(s.names.any fun (n, k) => n == t && (k == .local || k == .cell))
  | .DictComp _ _ _ s p, .Name t q => blkK sc == .function && sc.names.lookup t == some .local && q.line == p.line && !(s.names.any fun (n, k) => n == t && (k == .local || k == .cell))
  | _, _ => false
theorem sw_eq (tg v : Expr) (l : Nat) (env : Env) : swapsWithSole [tg] v l env = pure (swB env.scope tg v) := by
  show swapsWith v (some tg) l env = _
  cases v <;> first | rfl | (cases tg <;> rfl)
def noSw (tg v : Expr) : Bool := match tg, v with
  | .Tuple _ _ _, .Tuple _ _ _ => false
  | .List _ _, .Tuple _ _ _ => false
  | _, _ => true
theorem noSw_ok {tg v : Expr} {env : Env} (h : noSw tg v = true) : swappedStores [tg] v env = pure none := by
  cases tg <;> first | rfl | (cases v <;> first | rfl | cases h)
/-- a name that is stored last to first -/
def nmOf (sc : Scope) (l : Nat) : Expr → Option Str
  | .Name y q => if (sc.names.lookup y == some .local && q.line == l) = true then some y else none
  | _ => none
/-- a pair of tuples that is stored from the left -/
def ttPlain (sc : Scope) (ts vs : List Expr) : Bool := (!(ts.length == 2 || ts.length == 3) || vs.length != ts.length) || vs.all (foldedForSure 8) || !(ts.all fun e => (nmOf sc ((ts.head?.map (·.pos.line)).getD 0) e).isSome)
theorem names_lt {sc : Scope} {l : Nat} : ∀ {ts : List Expr}, (ts.all fun e => (nmOf sc l e).isSome) = false → (ts.filterMap (nmOf sc l)).length ≠ ts.length := by
  have le : ∀ (ts : List Expr), (ts.filterMap (nmOf sc l)).length ≤ ts.length := fun ts => List.length_filterMap_le _ _
  intro ts
  induction ts with
  | nil => intro h; cases h
  | cons e ts ih =>
    intro h
    rw [List.all_cons, Bool.and_eq_false_iff] at h
    have q2 := le ts
    rw [List.filterMap_cons]
    cases hn : nmOf sc l e with
    | none => simp only [List.length_cons]; omega
    | some y =>
      rcases h with h | h
      · rw [hn] at h; cases h
      · have q := ih h
        simp only [List.length_cons]; omega
theorem tt_plain {ts vs : List Expr} {k k2 : Nat} {p p2 : Pos} {env : Env} (h : ttPlain env.scope ts vs = true) : swappedStores [.Tuple ts k p] (.Tuple vs k2 p2) env = pure none := by
  unfold ttPlain at h
  rw [Bool.or_eq_true, Bool.or_eq_true] at h
  unfold swappedStores
  simp only []
  by_cases c1 : (!(ts.length == 2 || ts.length == 3) || vs.length != ts.length || env.blockKind != .function) = true
  · rw [if_pos c1]
  · rw [if_neg c1]
    split
    · rfl
    · split
      · rfl
      · rename_i n1
        rcases h with (h | h) | h
        · exfalso
          apply c1
          rw [h]; rfl
        · simp only [h]; rfl
        · exfalso
          have h : (ts.all fun e => (nmOf env.scope ((ts.head?.map (·.pos.line)).getD 0) e).isSome) = false := not_of h
          have q := names_lt h
          apply n1
          rw [Bool.or_eq_true]
          exact .inl (bne_iff_ne.mpr q)
theorem fn_kind {sc : Scope} (h : sc.kind = .function) : blkK sc = .function := by unfold blkK; rw [h]; rfl
/-- a, b = .. with names on one line -/
theorem sw2 {x y : Str} {px py pt p2 : Pos} {kt k2 : Nat} {a b : Expr} {env : Env} (hk : env.scope.kind = .function) (hx : env.scope.names.lookup x = some .local) (hy : env.scope.names.lookup y = some .local) (hl : (py.line == px.line) = true) (hxy : x ≠ y)
    (ha : isStar a = false) (hb : isStar b = false) (h1 : (foldedForSure 8 a && foldedForSure 8 b) = false) (h2 : (constantsAlone 8 a && constantsAlone 8 b) = false) :
    swappedStores [.Tuple [.Name x px, .Name y py] kt pt] (.Tuple [a, b] k2 p2) env = pure (some [x, y]) := by
  have kx : (env.scope.names.lookup x == some .local) = true := by rw [hx]; rfl
  have ky : (env.scope.names.lookup y == some .local) = true := by rw [hy]; rfl
  have hbk : (env.blockKind != .function) = false := by rw [show env.blockKind = .function from fn_kind hk]; rfl
  have hs : ([a, b].any fun e => match e with | .Starred _ _ => true | _ => false) = false := by
    show (([a, b] : List Expr).any isStar) = false
    rw [List.any_cons, ha, List.any_cons, hb]; rfl
  have n1 : (([.Name x px, .Name y py] : List Expr).filterMap (nmOf env.scope px.line)) = [x, y] := by
    rw [List.filterMap_cons, List.filterMap_cons, List.filterMap_nil]
    simp only [nmOf, kx, ky, hl, beq_self_eq_true, Bool.and_self, if_true]
  have n2 : ([x, y] : List Str).eraseDups = [x, y] := by
    have e : (y == x) = false := by simpa using Ne.symm hxy
    simp [List.eraseDups_cons, e]
  have f1 : (([a, b] : List Expr).all (foldedForSure 8)) = false := by
    rw [List.all_cons, List.all_cons, List.all_nil, Bool.and_true]; exact h1
  have f2 : (([a, b] : List Expr).all (constantsAlone 8)) = false := by
    rw [List.all_cons, List.all_cons, List.all_nil, Bool.and_true]; exact h2
  unfold swappedStores
  simp only []
  rw [if_neg (by rw [hbk]; exact Bool.false_ne_true)]
  refine Eq.trans (if_neg fun z => Bool.false_ne_true (hs.symm.trans z)) ?_
  refine (show ∀ ns : List Str, ns = [x, y] → (if (ns.length != 2 || ns.eraseDups.length != ns.length) = true then pure none else if [a, b].all (foldedForSure 8) = true then pure none else if [a, b].all (constantsAlone 8) = true then (do unsupported "assign.tuple-of-constant-expressions:order-of-the-stores"; pure (some ns)) else pure (some ns)) = (pure (some [x, y]) : Sem (Option (List Str))) from ?_) _ n1
  rintro _ rfl
  rw [n2]
  refine Eq.trans (if_neg fun z => Bool.false_ne_true z) ?_
  rw [f1, f2]
  rfl
theorem sw3 {x y z : Str} {px py pz pt p2 : Pos} {kt k2 : Nat} {a b d : Expr} {env : Env} (hk : env.scope.kind = .function) (hx : env.scope.names.lookup x = some .local) (hy : env.scope.names.lookup y = some .local) (hz : env.scope.names.lookup z = some .local) (hl : (py.line == px.line) = true) (hl2 : (pz.line == px.line) = true) (hxy : x ≠ y) (hxz : x ≠ z) (hyz : y ≠ z)
    (ha : isStar a = false) (hb : isStar b = false) (hd : isStar d = false) (h1 : (foldedForSure 8 a && (foldedForSure 8 b && foldedForSure 8 d)) = false) (h2 : (constantsAlone 8 a && (constantsAlone 8 b && constantsAlone 8 d)) = false) :
    swappedStores [.Tuple [.Name x px, .Name y py, .Name z pz] kt pt] (.Tuple [a, b, d] k2 p2) env = pure (some [x, y, z]) := by
  have kx : (env.scope.names.lookup x == some .local) = true := by rw [hx]; rfl
  have ky : (env.scope.names.lookup y == some .local) = true := by rw [hy]; rfl
  have kz : (env.scope.names.lookup z == some .local) = true := by rw [hz]; rfl
  have hbk : (env.blockKind != .function) = false := by rw [show env.blockKind = .function from fn_kind hk]; rfl
  have hs : ([a, b, d].any fun e => match e with | .Starred _ _ => true | _ => false) = false := by
    show (([a, b, d] : List Expr).any isStar) = false
    rw [List.any_cons, ha, List.any_cons, hb, List.any_cons, hd]; rfl
  have n1 : (([.Name x px, .Name y py, .Name z pz] : List Expr).filterMap (nmOf env.scope px.line)) = [x, y, z] := by
    rw [List.filterMap_cons, List.filterMap_cons, List.filterMap_cons, List.filterMap_nil]
    simp only [nmOf, kx, ky, kz, hl, hl2, beq_self_eq_true, Bool.and_self, if_true]
  have n2 : ([x, y, z] : List Str).eraseDups = [x, y, z] := by
    have e : (y == x) = false := by simpa using Ne.symm hxy
    have e2 : (z == x) = false := by simpa using Ne.symm hxz
    have e3 : (z == y) = false := by simpa using Ne.symm hyz
    simp [List.eraseDups_cons, e, e2, e3]
  have f1 : (([a, b, d] : List Expr).all (foldedForSure 8)) = false := by
    rw [List.all_cons, List.all_cons, List.all_cons, List.all_nil, Bool.and_true]; exact h1
  have f2 : (([a, b, d] : List Expr).all (constantsAlone 8)) = false := by
    rw [List.all_cons, List.all_cons, List.all_cons, List.all_nil, Bool.and_true]; exact h2
  unfold swappedStores
  simp only []
  rw [if_neg (by rw [hbk]; exact Bool.false_ne_true)]
  refine Eq.trans (if_neg fun z => Bool.false_ne_true (hs.symm.trans z)) ?_
  refine (show ∀ ns : List Str, ns = [x, y, z] → (if (ns.length != 3 || ns.eraseDups.length != ns.length) = true then pure none else if [a, b, d].all (foldedForSure 8) = true then pure none else if [a, b, d].all (constantsAlone 8) = true then (do unsupported "assign.tuple-of-constant-expressions:order-of-the-stores"; pure (some ns)) else pure (some ns)) = (pure (some [x, y, z]) : Sem (Option (List Str))) from ?_) _ n1
  rintro _ rfl
  rw [n2]
  refine Eq.trans (if_neg fun z => Bool.false_ne_true z) ?_
  rw [f1, f2]
  rfl

/-! ### the checker of statements -/
/-- which way a store goes -/
inductive Way where
  | plain | lc | par2 | par3
def wayOf (sc : Scope) (tg v : Expr) : Way :=
  if swB sc tg v then .lc else match tg, v with
    | .Tuple ts _ _, .Tuple vs _ _ => if ttPlain sc ts vs then .plain else if ts.length == 2 then .par2 else .par3
    | _, _ => .plain
def chkA (T : Tab) (n : Nat) (c : Ctx) (tg v : Expr) (p : Pat) (ce : E) : Bool :=
  match wayOf c.sc tg v with
  | .plain => !swB c.sc tg v && (noSw tg v || (match tg, v with | .Tuple ts _ _, .Tuple vs _ _ => ttPlain c.sc ts vs | _, _ => false)) && !isStar tg && chkE T n c v ce && chkP c p tg
  | .lc => match tg, v, p, ce with
    | .Name y py, .ListComp elt [⟨tg2, iter, ifs, 0⟩] scope cpos, .v i, .comp _ own pt it cs d =>
      decide (c.N[i]? = some y) && decide (c.sc.names.lookup y = some .local) && (py.line == cpos.line) && !(scope.names.any fun (n, k) => n == y && (k == .local || k == .cell)) &&
      blkC c.N c.sc scope own && decide (∀ i ∈ pt.slots, i ∈ own.map (·.2)) && !isSet iter && chkI T (chkE T n c) c tg2 iter it && chkP (c.inner scope) pt tg2 &&
          (match ifs, cs with
            | [], [] => true
            | [x], [a] => chkE T n (c.inner scope) x a
            | _, _ => false) && chkE T n (c.inner scope) elt d
    | _, _, _, _ => false
  | .par2 => match tg, v, p, ce with
    | .Tuple [.Name x px, .Name y py] _ _, .Tuple [a, b] _ _, .t [.v i, .v j], .tup [ca, cb] =>
      decide (c.N[i]? = some x) && decide (c.N[j]? = some y) && !decide (i = j) && decide (c.sc.names.lookup x = some .local) && decide (c.sc.names.lookup y = some .local) && (py.line == px.line) && !decide (x = y) &&
      !isStar a && !isStar b && !(foldedForSure 8 a && foldedForSure 8 b) && !(constantsAlone 8 a && constantsAlone 8 b) && chkE T n c a ca && chkE T n c b cb
    | _, _, _, _ => false
  | .par3 => match tg, v, p, ce with
    | .Tuple [.Name x px, .Name y py, .Name z pz] _ _, .Tuple [a, b, d] _ _, .t [.v i, .v j, .v l], .tup [ca, cb, cd] =>
      decide (c.N[i]? = some x) && decide (c.N[j]? = some y) && decide (c.N[l]? = some z) && !decide (i = j) && !decide (i = l) && !decide (j = l) && decide (c.sc.names.lookup x = some .local) && decide (c.sc.names.lookup y = some .local) && decide (c.sc.names.lookup z = some .local) &&
      (py.line == px.line) && (pz.line == px.line) && !decide (x = y) && !decide (x = z) && !decide (y = z) &&
      !isStar a && !isStar b && !isStar d && !(foldedForSure 8 a && (foldedForSure 8 b && foldedForSure 8 d)) && !(constantsAlone 8 a && (constantsAlone 8 b && constantsAlone 8 d)) && chkE T n c a ca && chkE T n c b cb && chkE T n c d cd
    | _, _, _, _ => false
def chkS (T : Tab) (n : Nat) (f : List Stmt → List Dm.S → Bool) (c : Ctx) (st : Stmt) (s : Dm.S) : Bool :=
  match s with
  | .asg p e => match st with
    | .Assign [tg] v _ => chkA T n c tg v p e
    | _ => false
  | .setI o i e => match st with
    | .Assign [.Subscript ob ix _] v _ => !isSlc ix && chkE T n c v e && chkE T n c ob o && chkE T n c ix i
    | _ => false
  | .aug op i e => match st with
    | .AugAssign (.Name x _) .Add v _ => decide (op = .Add) && c.st x i && chkE T n c v e
    | _ => false
  | .expr e => match st with
    | .Expr v _ => !isComp v && chkE T n c v e
    | _ => false
  | .iff d a b => match st with
    | .If t x y _ => chkE T n c t d && f x a && f y b
    | _ => false
  | .whl d a => match st with
    | .While t x [] _ => chkE T n c t d && f x a
    | _ => false
  | .for_ p it a => match st with
    | .For tg iter x [] _ => !isSet iter && chkI T (chkE T n c) c tg iter it && chkP c p tg && f x a
    | _ => false
  | .ret e => match st with
    | .Return (some v) _ => chkE T n c v e
    | .Return none _ => match e with
      | .non => true
      | _ => false
    | _ => false
  | .brk => match st with
    | .Break _ => true
    | _ => false
  | .cnt => match st with
    | .Continue _ => true
    | _ => false
  | .pass => match st with
    | .Pass _ => true
    | _ => false
  | .fz _ => false
  | .zall _ _ _ _ _ _ => false
/-- the two statements of zall -/
def chkZ (T : Tab) (n : Nat) (c : Ctx) (sts : List Stmt) (s : Dm.S) : Bool :=
  match s with
  | .zall i a b own p e => match sts with
    | [.Assign [.Name x _] (.Call (.Name f _) [y, z] [] _) _, .Return (some (.Call (.Name h _) [.ListComp elt [⟨.Tuple els kk tp, .Name x2 _, [], 0⟩] scope _] [] _)) _] =>
      decide (f = zipN) && decide (h = allN) && decide (x2 = x) && decide (zipN ∈ T.blt) && c.gl zipN && decide (allN ∈ T.blt) && c.gl allN && c.st x i && c.vis x i && !isStar y && !isStar z && chkE T n c y a && chkE T n c z b &&
      blkC c.N c.sc scope own && decide (∀ j ∈ p.slots, j ∈ own.map (·.2)) && chkP (c.inner scope) p (.Tuple els kk tp) && chkE T n (c.inner scope) elt e
    | _ => false
  | _ => false
def chkSs (T : Tab) (m : Nat) : Nat → Ctx → List Stmt → List Dm.S → Bool
  | 0, _, _, _ => false
  | n + 1, c, sts, ss => match ss with
    | [] => sts.isEmpty
    | s :: r => match (match s with | .fz i => some i | _ => none) with
      | some _ => chkSs T m n c sts r
      | none => match sts with
        | [] => false
        | st :: q => (chkS T m (chkSs T m n c) c st s && chkSs T m n c q r) || (r.isEmpty && chkZ T m c (st :: q) s)

/-! ### it is sound -/
section
variable {X : Cx} {c : Ctx} {T : Tab} {Φ : Fns} {k : Nat}
theorem one_store {tg : Expr} {env : Env} (h : isStar tg = false) : (assignEach [tg] env).map (·.2) = [assign tg env] := by
  rw [asg_cons h]; rfl
theorem way_lc {sc : Scope} {tg v : Expr} (h : wayOf sc tg v = .lc) : swB sc tg v = true := by
  unfold wayOf at h
  split at h
  · assumption
  · split at h
    · split at h
      · cases h
      · split at h <;> cases h
    · cases h
theorem chkA_ok (G : GX T Φ k X) (C : CtxOk c X) (hk : c.sc.kind = .function) {n : Nat} {tg v : Expr} {p : Pat} {ce : E} {pos : Pos} (h : chkA T n c tg v p ce = true) : PS X (.Assign [tg] v pos) (tS1 X.K Φ (.asg p ce)) := by
  have iv : ∀ e ce, chkE T n c e ce = true → PE X e (tE X.K Φ ce) := fun e ce h => (chkE_ok n X c G C e ce h).v
  have hk' : X.env.scope.kind = .function := by rw [C.sc]; exact hk
  unfold chkA at h
  split at h
  · simp only [Bool.and_eq_true] at h
    obtain ⟨⟨⟨⟨h1, h2⟩, h3⟩, h4⟩, h5⟩ := h
    have hst := not_of h3
    refine s_asg (iv _ _ h4) (chkP_ok C _ _ h5) (by rw [sw_eq, C.sc, not_of h1]) ?_ (one_store hst)
    rw [Bool.or_eq_true] at h2
    rcases h2 with h2 | h2
    · exact noSw_ok h2
    · split at h2
      · exact tt_plain (by rw [C.sc]; exact h2)
      · cases h2
  · split at h
    · simp only [Bool.and_eq_true, decide_eq_true_eq] at h
      obtain ⟨⟨⟨⟨⟨⟨⟨⟨⟨⟨h1, h2⟩, h3⟩, h4⟩, h5⟩, h6⟩, h7⟩, h8⟩, h9⟩, h10⟩, h11⟩ := h
      refine s_asgLc C h1 h2 hk h3 (not_of h4) (chkI_ok G C iv h8) (by rw [C.N, C.sc]; exact blkOk_by h5) (fun s H Q cl fp => chkP_ok (C.inner s H Q cl fp _) _ _ h9) (fun s H Q cl fp => ?_)
        (fun s H Q cl fp => (chkE_ok n (X.blk s H _ (compEnvC _ cl Q X.env) fp) _ G (C.inner s H Q cl fp _) _ _ h11).v) h6 (not_of h7)
      split at h10
      · exact ts_nil
      · exact ts_one (chkE_ok n (X.blk s H _ (compEnvC _ cl Q X.env) fp) _ G (C.inner s H Q cl fp _) _ _ h10).t
      · cases h10
    · cases h
  · split at h
    · simp only [Bool.and_eq_true, decide_eq_true_eq] at h
      obtain ⟨⟨⟨⟨⟨⟨⟨⟨⟨⟨⟨⟨h1, h2⟩, h3⟩, h4⟩, h5⟩, h6⟩, h7⟩, h8⟩, h9⟩, h10⟩, h11⟩, h12⟩, h13⟩ := h
      refine s_par C h1 h2 (of_decide_eq_false (not_of h3)) h4 h5 (a_cons (iv _ _ h12) (a_cons (iv _ _ h13) a_nil (not_of h9)) (not_of h8)) ?_
      exact sw2 hk' (by rw [C.sc]; exact h4) (by rw [C.sc]; exact h5) h6 (of_decide_eq_false (not_of h7)) (not_of h8) (not_of h9) (not_of h10) (not_of h11)
    · cases h
  · split at h
    · simp only [Bool.and_eq_true, decide_eq_true_eq] at h
      obtain ⟨⟨⟨⟨⟨⟨⟨⟨⟨⟨⟨⟨⟨⟨⟨⟨⟨⟨⟨⟨⟨h1, h2⟩, h3⟩, h4⟩, h5⟩, h6⟩, h7⟩, h8⟩, h9⟩, h10⟩, h11⟩, h12⟩, h13⟩, h14⟩, h15⟩, h16⟩, h17⟩, h18⟩, h19⟩, h20⟩, h21⟩, h22⟩ := h
      refine s_par3 C h1 h2 h3 (of_decide_eq_false (not_of h4)) (of_decide_eq_false (not_of h5)) (of_decide_eq_false (not_of h6)) h7 h8 h9 (a_cons (iv _ _ h20) (a_cons (iv _ _ h21) (a_cons (iv _ _ h22) a_nil (not_of h17)) (not_of h16)) (not_of h15)) ?_
      exact sw3 hk' (by rw [C.sc]; exact h7) (by rw [C.sc]; exact h8) (by rw [C.sc]; exact h9) h10 h11 (of_decide_eq_false (not_of h12)) (of_decide_eq_false (not_of h13)) (of_decide_eq_false (not_of h14)) (not_of h15) (not_of h16) (not_of h17) (not_of h18) (not_of h19)
    · cases h
theorem s_retN : PS X (.Return none pos) (tS1 X.K Φ (.ret .non)) := ps_retN.imp fun D σ H ⟨g, fr, S, hf, hh, h⟩ => (show Post X.K g .non S D.rt from h).now hh .non
theorem chkS_ok (G : GX T Φ k X) (C : CtxOk c X) (hk : c.sc.kind = .function) (hp : PassesOwn (model X.prog X.w) X.A X.env X.xe) {n : Nat} {f : List Stmt → List Dm.S → Bool} (hf : ∀ sts ss, f sts ss = true → PSs X sts (tS X.K Φ ss)) {st : Stmt} {s : Dm.S} (h : chkS T n f c st s = true) : PS X st (tS1 X.K Φ s) := by
  have iv : ∀ e ce, chkE T n c e ce = true → PE X e (tE X.K Φ ce) := fun e ce h => (chkE_ok n X c G C e ce h).v
  have it : ∀ e ce, chkE T n c e ce = true → PT X e (tT X.K Φ ce) := fun e ce h => (chkE_ok n X c G C e ce h).t
  unfold chkS at h
  cases s with
  | asg p e =>
    simp only at h
    split at h
    · exact chkA_ok G C hk h
    · cases h
  | setI o i e =>
    simp only at h
    split at h
    · simp only [Bool.and_eq_true] at h
      obtain ⟨⟨⟨h1, h2⟩, h3⟩, h4⟩ := h
      exact s_setI (iv _ _ h2) (iv _ _ h3) (iv _ _ h4) (by rw [sw_eq]; cases ‹Expr› <;> rfl) (not_of h1)
    · cases h
  | aug op i e =>
    simp only at h
    split at h
    · simp only [Bool.and_eq_true, decide_eq_true_eq] at h
      obtain ⟨⟨rfl, h2⟩, h3⟩ := h
      exact s_aug C h2 (iv _ _ h3)
    · cases h
  | expr e =>
    simp only at h
    split at h
    · rw [Bool.and_eq_true] at h
      exact s_expr (iv _ _ h.2) (not_of h.1)
    · cases h
  | iff d a b =>
    simp only at h
    split at h
    · simp only [Bool.and_eq_true] at h
      exact s_iff (it _ _ h.1.1) (hf _ _ h.1.2) (hf _ _ h.2)
    · cases h
  | whl d a =>
    simp only at h
    split at h
    · simp only [Bool.and_eq_true] at h
      exact s_whl hp (it _ _ h.1) (hf _ _ h.2)
    · cases h
  | for_ p it a =>
    simp only at h
    split at h
    · simp only [Bool.and_eq_true] at h
      exact s_for hp C (chkI_ok G C iv h.1.1.2) (chkP_ok C _ _ h.1.2) (hf _ _ h.2) (not_of h.1.1.1)
    · cases h
  | ret e =>
    simp only at h
    split at h
    · exact s_ret (iv _ _ h)
    · split at h
      · exact s_retN
      · cases h
    · cases h
  | brk =>
    simp only at h
    split at h
    · exact s_brk
    · cases h
  | cnt =>
    simp only at h
    split at h
    · exact s_cnt
    · cases h
  | pass =>
    simp only at h
    split at h
    · exact s_pass
    · cases h
  | fz i => cases h
  | zall => cases h
theorem chkZ_ok (G : GX T Φ k X) (C : CtxOk c X) {n : Nat} {sts : List Stmt} {s : Dm.S} (h : chkZ T n c sts s = true) : PSs X sts (tS X.K Φ [s]) := by
  have iv : ∀ e ce, chkE T n c e ce = true → PE X e (tE X.K Φ ce) := fun e ce h => (chkE_ok n X c G C e ce h).v
  unfold chkZ at h
  split at h
  · split at h
    · simp only [Bool.and_eq_true, decide_eq_true_eq] at h
      obtain ⟨⟨⟨⟨⟨⟨⟨⟨⟨⟨⟨⟨⟨⟨⟨⟨rfl, rfl⟩, rfl⟩, h1⟩, h2⟩, h3⟩, h4⟩, h5⟩, h6⟩, h7⟩, h8⟩, h9⟩, h10⟩, h11⟩, h12⟩, h13⟩, h14⟩ := h
      exact ss_zall G C h1 h2 h3 h4 h5 h6 (a_cons (iv _ _ h9) (a_cons (iv _ _ h10) a_nil (not_of h8)) (not_of h7)) (not_of h7) (not_of h8) (by rw [C.N, C.sc]; exact blkOk_by h11)
        (fun s H Q cl fp => chkP_ok (C.inner s H Q cl fp _) _ _ h13) (fun s H Q cl fp => (chkE_ok n (X.blk s H _ (compEnvC _ cl Q X.env) fp) _ G (C.inner s H Q cl fp _) _ _ h14).v) h12
    · cases h
  · cases h
theorem chkSs_ok (G : GX T Φ k X) (C : CtxOk c X) (hk : c.sc.kind = .function) (hp : PassesOwn (model X.prog X.w) X.A X.env X.xe) {m : Nat} : ∀ (n : Nat) (sts : List Stmt) (ss : List Dm.S), chkSs T m n c sts ss = true → PSs X sts (tS X.K Φ ss) := by
  intro n
  induction n with
  | zero => intro sts ss h; cases h
  | succ n ih =>
    intro sts ss h
    unfold chkSs at h
    cases ss with
    | nil =>
      cases sts with
      | nil => exact ss_nil
      | cons => cases h
    | cons s r =>
      simp only at h
      split at h
      · rename_i i hi
        cases s with
        | fz j => exact ss_fz (ih sts r h)
        | _ => cases hi
      · cases sts with
        | nil => cases h
        | cons st q =>
          rw [Bool.or_eq_true, Bool.and_eq_true, Bool.and_eq_true] at h
          rcases h with h | h
          · exact ss_cons (chkS_ok G C hk hp (fun a b => ih a b) h.1) (ih q r h.2)
          · cases r with
            | nil => exact chkZ_ok G C h.2
            | cons => cases h.1
end
end Dm

/-! DmK: defs, programs, laws. -/
namespace Dm
open PySem L2

/-! ### a def's entry and its end -/
section
variable {K : PySem.W.Frag} {g : G}
theorem RepL.frame {ds : List D} {vs : List V} (h : RepL K g ds vs) (n : Nat) : FrOk K g (ds.map some ++ List.replicate (n - ds.length) none) (vs.map some ++ List.replicate (n - vs.length) none) := by
  have hl := h.length
  refine ⟨by simp [hl], fun i d e => ?_⟩
  by_cases hi : i < ds.length
  · rw [List.getElem?_append_left (by simpa using hi)] at e
    rw [List.getElem?_map] at e
    cases hd : ds[i]? with
    | none => rw [hd] at e; cases e
    | some d' =>
      rw [hd] at e
      cases e
      obtain ⟨v, hv, r⟩ := h.get hd
      refine ⟨v, ?_, r⟩
      rw [List.getElem?_append_left (by simpa [← hl] using hi), List.getElem?_map, hv]
      rfl
  · rw [List.getElem?_append_right (by simpa using hi), List.getElem?_replicate] at e
    split at e <;> cases e
theorem post_cut {S S' : Store} {H : Hp} {d : D} {Q : VK} (hh : HpOk K g S H) (h : RPost (fun d S' => Post K g d S' Q) (cutR S.length d S')) : Post K g d S' Q := by
  unfold cutR at h
  split at h
  · rename_i c
    intro v H' g' l hh' r
    have hn : S.length = g.ρ.length := hh.len
    have q := hh'.cut S.length c.2.2
    have r' := r.cut c.2.1
    refine (show Post K g d (S'.take S.length) Q from h) v H' (g'.cut S.length) ?_ q r'
    rw [hn]
    exact l.cut
  · exact h
end

/-! ### the defs of a module -/
structure DefAt (K : PySem.W.Frag) (x : Str) (st : Stmt) : Prop where
  ex : ∃ (f : Addr) (oc : Value) (od an : Option Addr) (sl : Array (Option Value)) (kV dc pm cd ct : Value),
    PySem.W.nsIn K mainGlobals x = some (some (.ref f)) ∧ K.lookup f = some ⟨oc, od, .func (PySem.W.fnOf x x (defArgs st) (defBody st) (defScope st) .none kV dc pm an cd ct), sl⟩ ∧ PySem.W.codeIn K cd x = true ∧ PySem.W.keepIn K (.ref f) = true
structure ConstAt (K : PySem.W.Frag) (x : Str) (d : D) : Prop where
  ex : ∃ (u : Value) (v : V), PySem.W.nsIn K mainGlobals x = some (some u) ∧ RelV v u ∧ Rep K g0 d v
/-- what is known of the module but the promises -/
structure Mod (T : Tab) (Pg : Prog) (sts : List Stmt) (K : PySem.W.Frag) : Prop where
  fn : ∀ (i : Nat) (x : Str) (np : Nat), T.fns[i]? = some (x, np) → ∃ st, sts[i]? = some st ∧ DefAt K x st
  const : ∀ (i : Nat) (x : Str), T.cns[i]? = some x → ∃ d, Pg.consts[i]? = some d ∧ ConstAt K x d
  blt : ∀ x ∈ T.blt, PySem.W.nsIn K mainGlobals x = some none ∧ x ≠ "__name__"
  gcd : PySem.W.nsIn K mainGlobals T.gcd = some (some (.builtin "math.gcd")) ∨ T.gcd = ""
def scOk (N ps : List Str) (sc : Scope) : Bool :=
  decide (sc.kind = .function) && !sc.isCoroutine && !sc.isGenerator && decide N.Nodup && decide (N.take ps.length = ps) && ps.all (fun x => match sc.names.lookup x with | some .local => true | some .cell => true | _ => false) && sc.names.all (fun y => match y.2 with | .free => false | _ => true)
theorem scOk_ok {N ps : List Str} {sc : Scope} (h : scOk N ps sc = true) : FnScope N ps sc := by
  unfold scOk at h
  simp only [Bool.and_eq_true, decide_eq_true_eq, List.all_eq_true] at h
  obtain ⟨⟨⟨⟨⟨⟨h1, h2⟩, h3⟩, h4⟩, h5⟩, h6⟩, h7⟩ := h
  refine ⟨h1, not_of h2, not_of h3, h4, h5, fun x hx => ?_, fun y hy e => ?_⟩
  · have q := h6 x hx
    split at q
    · left; assumption
    · right; assumption
    · cases q
  · have q := h7 y hy
    rw [e] at q
    cases q
def chkFd (T : Tab) (np : Nat) (fd : Fd) (st : Stmt) : Bool :=
  (match defArgs st with
    | { posonlyargs := [], args := args, vararg := none, kwonlyargs := [], kw_defaults := _, kwarg := none, defaults := [] } => decide (args.map (·.arg) = fd.N.take fd.np)
    | _ => false) &&
  decide (fd.np = np) && decide (fd.np ≤ fd.N.length) && scOk fd.N (fd.N.take fd.np) (defScope st) && chkSs T 100 400 ⟨fd.N, defScope st, defScope st⟩ (defBody st) fd.body
def chkFds (T : Tab) : List (Str × Nat) → List Fd → List Stmt → Bool
  | [], [], [] => true
  | x :: xs, fd :: fds, st :: sts => chkFd T x.2 fd st && chkFds T xs fds sts
  | _, _, _ => false
theorem chkFds_at {T : Tab} : ∀ {xs : List (Str × Nat)} {fds : List Fd} {sts : List Stmt}, chkFds T xs fds sts = true → ∀ {i : Nat} {x : Str} {np : Nat} {st : Stmt}, xs[i]? = some (x, np) → sts[i]? = some st → ∃ fd, fds[i]? = some fd ∧ chkFd T np fd st = true
  | [], [], [], _, i, _, _, _, e, _ => by simp at e
  | x :: xs, fd :: fds, st :: sts, h, 0, _, _, _, e, e2 => by
    unfold chkFds at h
    rw [Bool.and_eq_true] at h
    cases e; cases e2
    exact ⟨fd, rfl, h.1⟩
  | x :: xs, fd :: fds, st :: sts, h, i + 1, _, _, _, e, e2 => by
    unfold chkFds at h
    rw [Bool.and_eq_true] at h
    exact chkFds_at (i := i) h.2 e e2
  | [], [], _ :: _, h, _, _, _, _, _, _ => by cases h
  | [], _ :: _, _, h, _, _, _, _, _, _ => by cases h
  | _ :: _, [], _, h, _, _, _, _, _, _ => by cases h
  | _ :: _, _ :: _, [], h, _, _, _, _, _, _ => by cases h
section
variable {P : Program} {w : World} {K : PySem.W.Frag} {mg : Str → Option Value} {base h : Heap}
/-- the promises at a depth of calls -/
def FnsOk (P : Program) (w : World) (K : PySem.W.Frag) (mg : Str → Option Value) (base : Heap) (T : Tab) (Φ : Fns) (k : Nat) : Prop :=
  ∀ (f : Nat) (x : Str) (np : Nat), T.fns[f]? = some (x, np) → ∃ a fd ps, mg x = some (.ref a) ∧ PySem.W.keepIn K (.ref a) = true ∧ Binds K fd ps [] ∧ ps.length = np ∧ FnOk P w K mg base CX0 k a fd ps (spF K Φ f)
theorem fnsAt_fuel (Pg : Prog) (wf : Nat) : ∀ n, (fnsAt Pg wf n).const = fun k => Pg.consts[k]?
  | 0 => rfl
  | _ + 1 => rfl
theorem Mod.gok {T : Tab} {Pg : Prog} {sts : List Stmt} (M : Mod T Pg sts K) (X : K.In h) (N : h.Ns mainGlobals mg) {wf n k : Nat} {A : Around} (hr : Room k A) (F : FnsOk P w K mg base T (fnsAt Pg wf n) k) : GOk T (fnsAt Pg wf n) k P w K mg base A where
  room := hr
  fn := F
  const := fun i x e => by
    obtain ⟨d, h1, u, v, h2, h3, h4⟩ := M.const i x e
    exact ⟨u, v, d, PySem.W.mg_of X N h2, h3, by rw [fnsAt_fuel]; exact h1, h4⟩
  blt := fun x hx => ⟨PySem.W.mg_none_of X N (M.blt x hx).1, (M.blt x hx).2⟩
  gcd := M.gcd.imp (fun e => PySem.W.mg_of X N e) id
theorem chk_binds {T : Tab} {np : Nat} {fd : Fd} {st : Stmt} (hck : chkFd T np fd st = true) (x : Str) (kV dc pm : Value) (an : Option Addr) (cd ct : Value) (us : List Value) (hl : us.length = (fd.N.take fd.np).length) :
    bindArgs (PySem.W.fnOf x x (defArgs st) (defBody st) (defScope st) .none kV dc pm an cd ct) ⟨us, []⟩ = pure ((fd.N.take fd.np).zip us) := by
  unfold chkFd at hck
  simp only [Bool.and_eq_true, decide_eq_true_eq] at hck
  obtain ⟨⟨⟨⟨b1, b2⟩, b3⟩, b4⟩, b5⟩ := hck
  have S := scOk_ok b4
  split at b1
  · rename_i q
    rw [q]
    have b1 := of_decide_eq_true b1
    refine bind_plain b1 ?_ hl
    exact S.nd.sublist (List.take_sublist _ _)
  · cases b1
theorem chk_len {T : Tab} {np : Nat} {fd : Fd} {st : Stmt} (hck : chkFd T np fd st = true) : (fd.N.take fd.np).length = np ∧ fd.np = np := by
  unfold chkFd at hck
  simp only [Bool.and_eq_true, decide_eq_true_eq] at hck
  obtain ⟨⟨⟨⟨b1, b2⟩, b3⟩, b4⟩, b5⟩ := hck
  rw [List.length_take]
  omega
theorem Mod.step {T : Tab} {Pg : Prog} {sts : List Stmt} (M : Mod T Pg sts K) (X : K.In h) (N : h.Ns mainGlobals mg) {wf n : Nat} (ih : FnsOk P w K mg base T (fnsAt Pg wf n) n) {f np : Nat} {x : Str} {st : Stmt} {fd : Fd} {a : Addr} {fdd : FuncData} (hfd : Pg.fns[f]? = some fd) (hck : chkFd T np fd st = true) (F1 : L2.Fun K x x st a fdd) :
    FnOk P w K mg base CX0 (n + 1) a fdd (fd.N.take fd.np) (spF K (fnsAt Pg wf (n + 1)) f) := by
  obtain ⟨hlen, hnp⟩ := chk_len hck
  unfold chkFd at hck
  simp only [Bool.and_eq_true, decide_eq_true_eq] at hck
  obtain ⟨⟨⟨⟨b1, b2⟩, b3⟩, b4⟩, b5⟩ := hck
  have S := scOk_ok b4
  have hcall : ∀ args S, (fnsAt Pg wf (n + 1)).call f args S = runFd (fnsAt Pg wf n) fd args S := fun args S => by
    show (match Pg.fns[f]? with | some fd => runFd (fnsAt Pg wf n) fd args S | none => .no) = _
    rw [hfd]
  refine F1.ok S (fun vs H Q E h => ?_) (fun cdv A outer s H vs Q E hr h => ?_)
  · obtain ⟨g, S0, ds, hh, rl, z⟩ := h
    rw [hcall] at z
    unfold runFd at z
    split at z
    · rename_i q
      rw [← rl.length, q, hlen, hnp]
    · exact z.elim
  · obtain ⟨g, S0, ds, hh, rl, z⟩ := h
    rw [hcall] at z
    unfold runFd at z
    split at z
    · rename_i q
      let X1 := (cxOf CX0 P w K mg base fd.N x (defScope st) a cdv A outer s H E).nox
      have G : GX T (fnsAt Pg wf n) n X1 := M.gok X N hr ih
      have C : CtxOk ⟨fd.N, defScope st, defScope st⟩ X1 := ⟨rfl, S.nd, rfl, rfl, fun _ h => h, fun y h => ⟨.inr h, rfl⟩⟩
      refine ⟨_, chkSs_ok G C S.kind PassesOwn.never 400 _ _ b5, g, _, S0, rl.frame fd.N.length, hh, ?_⟩
      obtain ⟨o, S1, e1, z⟩ := RPost.bind z
      rw [e1]
      cases o with
      | ret d => exact post_cut hh z
      | nx fr => exact fun σ' H' g' l hf' hh' => post_cut hh z .non H' g' l hh' .non
      | bk fr => exact z.elim
      | ct fr => exact z.elim
    · exact z.elim
theorem Mod.fns {T : Tab} {Pg : Prog} {sts : List Stmt} (M : Mod T Pg sts K) (X : K.In h) (N : h.Ns mainGlobals mg) (hc : chkFds T T.fns Pg.fns sts = true) (wf : Nat) : ∀ n, FnsOk P w K mg base T (fnsAt Pg wf n) n := by
  intro n
  induction n with
  | zero =>
    intro f x np e
    obtain ⟨st, hst, a, oc, od, an, sl, kV, dc, pm, cd, ct, a1, l1, c1, k1⟩ := M.fn f x np e
    obtain ⟨fd, hfd, hck⟩ := chkFds_at hc e hst
    have F1 := fun_mk (st := st) l1 c1 k1
    refine ⟨a, _, fd.N.take fd.np, PySem.W.mg_of X N a1, k1, F1.binds fun kV dc pm an cd ct us hl => chk_binds hck x kV dc pm an cd ct us hl, (chk_len hck).1, ⟨fun vs H Q E h => ?_, fun A outer s H args us vs Q E hr he hb hv h => ?_⟩⟩
    · obtain ⟨_, _, _, _, _, z⟩ := h
      exact z.elim
    · obtain ⟨_, _, _, _, _, z⟩ := h
      exact z.elim
  | succ n ih =>
    intro f x np e
    obtain ⟨st, hst, a, oc, od, an, sl, kV, dc, pm, cd, ct, a1, l1, c1, k1⟩ := M.fn f x np e
    obtain ⟨fd, hfd, hck⟩ := chkFds_at hc e hst
    have F1 := fun_mk (st := st) l1 c1 k1
    exact ⟨a, _, fd.N.take fd.np, PySem.W.mg_of X N a1, k1, F1.binds fun kV dc pm an cd ct us hl => chk_binds hck x kV dc pm an cd ct us hl, (chk_len hck).1, M.step X N ih hfd hck F1⟩
end

/-! ### the law -/
def spLaw (K : PySem.W.Frag) (m : Nat) : Sp := fun vs H Q _ => ∃ (a : Addr) (ns : List Int), vs = [.ref a] ∧ SqL K H a (ns.map V.int) ∧ ns.length ≤ m ∧ Only H ∧ ∀ H', Q (.bl true) H'
def Good (Pg : Prog) (m n i : Nat) : Prop := ∀ ns : List Int, ns.length ≤ m → ∃ wf S', (fnsAt Pg wf n).call i [.frz (ns.map .int)] [] = .ok (.bl true) S'
theorem _root_.L2.FnOk.any {P : Program} {w : World} {K : PySem.W.Frag} {mg : Str → Option Value} {base : Heap} {CX : CXT} {k : Nat} {f : Addr} {fd : FuncData} {ps : List Str} {ι : Type} {sp : ι → Sp} (F : ∀ i, FnOk P w K mg base CX k f fd ps (sp i)) : FnOk P w K mg base CX k f fd ps (fun vs H Q E => ∃ i, sp i vs H Q E) :=
  ⟨fun vs H Q E ⟨i, h⟩ => (F i).len vs H Q E h, fun A outer s H args us vs Q E hr he hb hv ⟨i, h⟩ => (F i).run A outer s H args us vs Q E hr he hb hv h⟩
theorem repL_ints {K : PySem.W.Frag} {g : G} : ∀ ns : List Int, RepL K g (ns.map .int) (ns.map V.int)
  | [] => .nil
  | i :: ns => .cons (.int i) (repL_ints ns)
theorem law_ok {P : Program} {w : World} {K : PySem.W.Frag} {mg : Str → Option Value} {h : Heap} {T : Tab} {Pg : Prog} {sts : List Stmt} (M : Mod T Pg sts K) (X : K.In h) (N : h.Ns mainGlobals mg) (hc : chkFds T T.fns Pg.fns sts = true) {m n i : Nat} {x p : Str} {fa : Addr} (hT : T.fns[i]? = some (x, 1)) (hfa : mg x = some (.ref fa))
    (hp : (defArgs (sts.getD i (.Pass ⟨0, 0, 0, 0⟩))).args.map (·.arg) = [p]) (good : Good Pg m (n + 1) i) :
    ∃ fd : FuncData, (∀ (s : Shared) (v : Value), BindsTo s fd ⟨[v], []⟩ [(p, v)]) ∧ ∀ base : Heap, K.In base → base.Ns mainGlobals mg → FnOk P w K mg base CX0 (n + 1) fa fd [p] (spLaw K m) := by
  obtain ⟨st, hst, a, oc, od, an, sl, kV, dc, pm, cd, ct, a1, l1, c1, k1⟩ := M.fn i x 1 hT
  have e := hfa.symm.trans (PySem.W.mg_of X N a1)
  cases e
  obtain ⟨fd, hfd, hck⟩ := chkFds_at hc hT hst
  have F1 := fun_mk (st := st) l1 c1 k1
  have hst' : sts.getD i (.Pass ⟨0, 0, 0, 0⟩) = st := by rw [List.getD_eq_getElem?_getD, hst]; rfl
  rw [hst'] at hp
  have hps : fd.N.take fd.np = [p] := by
    have q := hck
    unfold chkFd at q
    simp only [Bool.and_eq_true, decide_eq_true_eq] at q
    obtain ⟨⟨⟨⟨b1, b2⟩, b3⟩, b4⟩, b5⟩ := q
    split at b1
    · rename_i q
      rw [q] at hp
      exact (of_decide_eq_true b1).symm.trans hp
    · cases b1
  refine ⟨_, fun s v => .of_eq (by rw [chk_binds hck x kV dc pm an cd ct [v] (by rw [hps]; rfl), hps]; rfl), fun base _ _ => ?_⟩
  have F := fun wf => Mod.step (P := P) (w := w) (base := base) M X N (Mod.fns M X N hc wf n) hfd hck F1
  rw [hps] at F
  refine (FnOk.any F).imp fun vs H Q E q => ?_
  obtain ⟨a, ns, rfl, hS, hlen, hO, q⟩ := q
  obtain ⟨wf, S', hg⟩ := good ns hlen
  refine ⟨wf, ⟨H, [], fun _ => none⟩, [], [.frz (ns.map .int)], ?_, .cons (.frz hS (repL_ints ns)) .nil, ?_⟩
  · exact ⟨Same.refl _, rfl, fun n c a h => (by cases h), fun n m c e a h => (by cases h), fun _ _ e => (nomatch (show (none : Option HO) = some _ from e)), fun _ _ e => (nomatch (show (none : Option HO) = some _ from e)), fun n c a h => (by cases h)⟩
  · rw [hg]
    intro v H' g' l hh' r
    cases r
    exact q H'
end Dm

/-! DmW: reasoning about the core language, from the front. -/
namespace Dm
open PySem L2

/-! ### readings of single constructs -/
section
variable {Φ : Fns} {fr : Fr} {S : Store} {P : D → Store → Prop} {PB : Bool → Store → Prop} {PL : List D → Store → Prop} {PO : Out → Store → Prop}
abbrev WE (Φ : Fns) (c : E) (fr : Fr) (S : Store) (P : D → Store → Prop) : Prop := RPost P (evE Φ c fr S)
abbrev WEs (Φ : Fns) (c : List E) (fr : Fr) (S : Store) (P : List D → Store → Prop) : Prop := RPost P (evEs Φ c fr S)
abbrev WT (Φ : Fns) (c : E) (fr : Fr) (S : Store) (P : Bool → Store → Prop) : Prop := RPost P (evT Φ c fr S)
abbrev WO (Φ : Fns) (c : Option E) (fr : Fr) (S : Store) (P : Option Int → Store → Prop) : Prop := RPost P (evO Φ c fr S)
abbrev WS (Φ : Fns) (s : Dm.S) (fr : Fr) (S : Store) (P : Out → Store → Prop) : Prop := RPost P (evS Φ s fr S)
abbrev WSs (Φ : Fns) (s : List Dm.S) (fr : Fr) (S : Store) (P : Out → Store → Prop) : Prop := RPost P (evSs Φ s fr S)
theorem RPost.mk {α : Type} {P : α → Store → Prop} {r : Res α} {a : α} {S : Store} (e : r = .ok a S) (h : P a S) : RPost P r := by rw [e]; exact h
theorem RPost.ex {α : Type} {P : α → Store → Prop} {r : Res α} (h : RPost P r) : ∃ a S, r = .ok a S ∧ P a S := by
  cases r with
  | ok a S => exact ⟨a, S, rfl, h⟩
  | ex => exact h.elim
  | no => exact h.elim
theorem RPost.eq {α : Type} {r : Res α} {a : α} {S : Store} (h : RPost (fun b S' => b = a ∧ S' = S) r) : r = .ok a S := by
  obtain ⟨b, S', e, rfl, rfl⟩ := h.ex
  exact e
theorem wbind {α β : Type} {P : β → Store → Prop} {r : Res α} {f : α → Store → Res β} (h : RPost (fun a S => RPost P (f a S)) r) : RPost P (r.bind f) := by
  cases r with
  | ok a S => exact h
  | ex => exact h.elim
  | no => exact h.elim
theorem wof {α : Type} {P : α → Store → Prop} {o : Option α} {a : α} (e : o = some a) (h : P a S) : RPost P (Res.of o S) := by rw [e]; exact h
theorem w_int {i : Int} (h : P (.int i) S) : WE Φ (.int i) fr S P := h
theorem w_bl {i : Bool} (h : P (.bl i) S) : WE Φ (.bl i) fr S P := h
theorem w_non (h : P .non S) : WE Φ .non fr S P := h
theorem w_str {i : Str} (h : P (.str i) S) : WE Φ (.str i) fr S P := h
theorem w_var {i : Nat} {d : D} (e : fr[i]? = some (some d)) (h : P d S) : WE Φ (.var i) fr S P := by
  show RPost P (match fr[i]? with | some (some d) => .ok d S | _ => .no)
  rw [e]; exact h
theorem w_glob {k : Nat} {d : D} (e : Φ.const k = some d) (h : P d S) : WE Φ (.glob k) fr S P := wof e h
theorem w_bin {op : Operator} {a b : E} (h : WE Φ a fr S fun x S1 => WE Φ b fr S1 fun y S2 => ∃ d, binD op S2 x y = some d ∧ P d S2) : WE Φ (.bin op a b) fr S P :=
  wbind (h.imp fun x S1 _ h => wbind (h.imp fun y S2 _ ⟨d, e, h⟩ => wof e h))
theorem w_neg {a : E} (h : WE Φ a fr S fun x S1 => ∃ i, x = .int i ∧ P (.int (-i)) S1) : WE Φ (.neg a) fr S P := wbind (h.imp fun x S1 _ ⟨i, e, h⟩ => by subst e; exact h)
theorem w_not {a : E} (h : WT Φ a fr S fun t S1 => P (.bl !t) S1) : WE Φ (.not a) fr S P := by
  refine wbind ?_
  obtain ⟨x, S1, e1, h⟩ := RPost.bind h
  obtain ⟨t, e2, h⟩ := RPost.of h
  rw [e1]
  show RPost P (match truth S1 x with | some b => .ok (.bl !b) S1 | none => .no)
  rw [e2]; exact h
theorem w_cmp {op : CmpOp} {a b : E} (h : WE Φ a fr S fun x S1 => WE Φ b fr S1 fun y S2 => ∃ r, cmpD op S2 x y = some r ∧ P (.bl r) S2) : WE Φ (.cmp op a b) fr S P :=
  wbind (h.imp fun x S1 _ h => wbind (h.imp fun y S2 _ ⟨r, e, h⟩ => by
    show RPost P (match cmpD op S2 x y with | some r => .ok (.bl r) S2 | none => .no)
    rw [e]; exact h))
theorem w_cmp2 {op op' : CmpOp} {a b c : E} (h : WE Φ a fr S fun x S1 => WE Φ b fr S1 fun y S2 => ∃ r, cmpD op S2 x y = some r ∧ if r = true then WE Φ c fr S2 (fun z S3 => ∃ r, cmpD op' S3 y z = some r ∧ P (.bl r) S3) else P (.bl false) S2) : WE Φ (.cmp2 op op' a b c) fr S P :=
  wbind (h.imp fun x S1 _ h => wbind (h.imp fun y S2 _ ⟨r, e, h⟩ => by
    show RPost P (match cmpD op S2 x y with | some false => .ok (.bl false) S2 | some true => (evE Φ c fr S2).bind fun z S3 => (match cmpD op' S3 y z with | some r => .ok (.bl r) S3 | none => .no) | none => .no)
    rw [e]
    cases r with
    | false => exact h
    | true =>
      refine wbind (RPost.imp (show WE Φ c fr S2 (fun z S3 => ∃ r, cmpD op' S3 y z = some r ∧ P (.bl r) S3) from h) fun z S3 _ ⟨r, e, h⟩ => ?_)
      rw [e]; exact h))
theorem w_andW {a b : E} (h : WE Φ a fr S fun x S1 => ∃ t, truth S1 x = some t ∧ if t = true then WE Φ b fr S1 P else P x S1) : WE Φ (.and a b) fr S P :=
  wbind (h.imp fun x S1 _ ⟨t, e, h⟩ => by
    show RPost P (match truth S1 x with | some true => evE Φ b fr S1 | some false => .ok x S1 | none => .no)
    rw [e]; cases t <;> exact h)
theorem w_orW {a b : E} (h : WE Φ a fr S fun x S1 => ∃ t, truth S1 x = some t ∧ if t = true then P x S1 else WE Φ b fr S1 P) : WE Φ (.or a b) fr S P :=
  wbind (h.imp fun x S1 _ ⟨t, e, h⟩ => by
    show RPost P (match truth S1 x with | some true => .ok x S1 | some false => evE Φ b fr S1 | none => .no)
    rw [e]; cases t <;> exact h)
theorem w_ite {c a b : E} (h : WT Φ c fr S fun t S1 => if t = true then WE Φ a fr S1 P else WE Φ b fr S1 P) : WE Φ (.ite c a b) fr S P := by
  obtain ⟨x, S1, e1, h⟩ := RPost.bind h
  obtain ⟨t, e2, h⟩ := RPost.of h
  refine wbind (RPost.mk e1 ?_)
  show RPost P (match truth S1 x with | some true => evE Φ a fr S1 | some false => evE Φ b fr S1 | none => .no)
  rw [e2]; cases t <;> exact h
theorem w_nil (h : PL [] S) : WEs Φ [] fr S PL := h
theorem w_cons {c : E} {cs : List E} (h : WE Φ c fr S fun x S1 => WEs Φ cs fr S1 fun xs S2 => PL (x :: xs) S2) : WEs Φ (c :: cs) fr S PL := wbind (h.imp fun x S1 _ h => wbind h)
theorem small_ok {n : Nat} (h : n ≤ 1000) : n ≤ sizeLine := Nat.le_of_lt (small1000 h)
theorem w_tup {cs : List E} (h : WEs Φ cs fr S fun xs S1 => xs.length ≤ sizeLine ∧ P (.tup xs) S1) : WE Φ (.tup cs) fr S P := wbind (h.imp fun xs S1 _ ⟨hl, h⟩ => by
  show RPost P (if xs.length ≤ sizeLine then .ok (.tup xs) S1 else .no)
  rw [if_pos hl]; exact h)
theorem w_lst {cs : List E} (h : WEs Φ cs fr S fun xs S1 => xs.length ≤ sizeLine ∧ P (.lst xs) S1) : WE Φ (.lst cs) fr S P := wbind (h.imp fun xs S1 _ ⟨hl, h⟩ => by
  show RPost P (if xs.length ≤ sizeLine then .ok (.lst xs) S1 else .no)
  rw [if_pos hl]; exact h)
theorem w_mkl {cs : List E} (h : WEs Φ cs fr S fun xs S1 => xs.length ≤ sizeLine ∧ P (.ref S1.length) (S1 ++ [.lst xs])) : WE Φ (.mkl cs) fr S P := wbind (h.imp fun xs S1 _ ⟨hl, h⟩ => by
  show RPost P (if xs.length ≤ sizeLine then .ok (.ref S1.length) (S1 ++ [.lst xs]) else .no)
  rw [if_pos hl]; exact h)
theorem w_sub {a b : E} (h : WE Φ a fr S fun x S1 => WE Φ b fr S1 fun y S2 => ∃ d, subD S2 x y = some d ∧ P d S2) : WE Φ (.sub a b) fr S P :=
  wbind (h.imp fun x S1 _ h => wbind (h.imp fun y S2 _ ⟨d, e, h⟩ => wof e h))
theorem w_onone {Q : Option Int → Store → Prop} (h : Q none S) : WO Φ none fr S Q := h
theorem w_osome {Q : Option Int → Store → Prop} {a : E} (h : WE Φ a fr S fun x S1 => ∃ i, x = .int i ∧ Q (some i) S1) : WO Φ (some a) fr S Q := wbind (h.imp fun x S1 _ ⟨i, e, h⟩ => by subst e; exact h)
theorem w_slc {a : E} {lo hi : Option E} (h : WE Φ a fr S fun x S1 => WO Φ lo fr S1 fun l S2 => WO Φ hi fr S2 fun u S3 => ∃ d, slcD S3 x l u = some d ∧ P d S3) : WE Φ (.slc a lo hi) fr S P :=
  wbind (h.imp fun x S1 _ h => wbind (h.imp fun l S2 _ h => wbind (h.imp fun u S3 _ ⟨d, e, h⟩ => wof e h)))
theorem w_call {f : Nat} {cs : List E} (h : WEs Φ cs fr S fun xs S1 => RPost P (Φ.call f xs S1)) : WE Φ (.call f cs) fr S P := wbind h
theorem w_bi {f : Bi} {cs : List E} (h : WEs Φ cs fr S fun xs S1 => ∃ d, biD f S1 xs = some d ∧ P d S1) : WE Φ (.bi f cs) fr S P := wbind (h.imp fun xs S1 _ ⟨d, e, h⟩ => wof e h)
theorem w_maxd {a b : E} (h : WE Φ a fr S fun x S1 => WE Φ b fr S1 fun y S2 => ∃ d, mdD true S2 x y = some d ∧ P d S2) : WE Φ (.maxd a b) fr S P :=
  wbind (h.imp fun x S1 _ h => wbind (h.imp fun y S2 _ ⟨d, e, h⟩ => wof e h))
theorem w_mind {a b : E} (h : WE Φ a fr S fun x S1 => WE Φ b fr S1 fun y S2 => ∃ d, mdD false S2 x y = some d ∧ P d S2) : WE Φ (.mind a b) fr S P :=
  wbind (h.imp fun x S1 _ h => wbind (h.imp fun y S2 _ ⟨d, e, h⟩ => wof e h))
theorem w_me {m : Me} {o : E} {cs : List E} (h : WE Φ o fr S fun x S1 => meTy m S1 x = true ∧ WEs Φ cs fr S1 fun xs S2 => ∃ d, meD m S2 x xs = some d ∧ P d S2) : WE Φ (.me m o cs) fr S P :=
  wbind (h.imp fun x S1 _ ⟨e, h⟩ => by
    show RPost P (match meTy m S1 x with | true => (evEs Φ cs fr S1).bind fun xs S2 => Res.of (meD m S2 x xs) S2 | false => .no)
    rw [e]
    exact wbind (h.imp fun xs S2 _ ⟨d, e, h⟩ => wof e h))
theorem w_isi {t : Ty} {a : E} (h : WE Φ a fr S fun x S1 => ∃ b, isiD S1 t x = some b ∧ P (.bl b) S1) : WE Φ (.isi t a) fr S P := wbind (h.imp fun x S1 _ ⟨b, e, h⟩ => by
  show RPost P (match isiD S1 t x with | some b => .ok (.bl b) S1 | none => .no)
  rw [e]; exact h)
theorem w_app {o a : E} (h : WE Φ o fr S fun x S1 => ∃ n l0, x = .ref n ∧ cellL S1 n = some l0 ∧ WE Φ a fr S1 fun y S2 => ∃ l, cellL S2 n = some l ∧ l.length < sizeLine ∧ P .non (S2.set n (.lst (l ++ [y])))) : WE Φ (.app o a) fr S P :=
  wbind (h.imp fun x S1 _ ⟨n, l0, e, e0, h⟩ => by
    subst e
    show RPost P (match cellL S1 n with | some _ => (evE Φ a fr S1).bind fun y S2 => (match cellL S2 n with | some l => if l.length < sizeLine then .ok .non (S2.set n (.lst (l ++ [y]))) else .no | none => .no) | none => .no)
    rw [e0]
    refine wbind (h.imp fun y S2 _ ⟨l, e1, hl, h⟩ => ?_)
    rw [e1]
    show RPost P (if l.length < sizeLine then .ok .non (S2.set n (.lst (l ++ [y]))) else .no)
    rw [if_pos hl]; exact h)
theorem w_range {cs : List E} (h : WEs Φ cs fr S fun xs S1 => ∃ l, rangeD xs = some l ∧ P (.itr l) S1) : WE Φ (.range cs) fr S P := wbind (h.imp fun xs S1 _ ⟨l, e, h⟩ => by
  show RPost P (match rangeD xs with | some l => .ok (.itr l) S1 | none => .no)
  rw [e]; exact h)
/-- a list comprehension, the result a frozen list -/
theorem w_comp {own : List (Str × Nat)} {p : Pat} {it : E} {cs : List E} {e : E} (h : WE Φ it fr S fun x S1 => ∃ l, iterD S1 x = some l ∧ RPost (fun r S2 => P (.lst r) S2) (compF p (evTs Φ cs) (evE Φ e) (wipeF fr (own.map (·.2))) l [] S1)) : WE Φ (.comp true own p it cs e) fr S P :=
  wbind (h.imp fun x S1 _ ⟨l, e1, h⟩ => by
    show RPost P (match iterD S1 x with | none => .no | some l => (compF p (evTs Φ cs) (evE Φ e) (wipeF fr (own.map (·.2))) l [] S1).bind fun r S2 => .ok (.lst r) S2)
    rw [e1]
    exact wbind h)
theorem w_compS {own : List (Str × Nat)} {p : Pat} {it : E} {cs : List E} {e : E} (h : WE Φ it fr S fun x S1 => ∃ l, iterD S1 x = some l ∧ RPost (fun r S2 => P (.ref S2.length) (S2 ++ [.lst r])) (compF p (evTs Φ cs) (evE Φ e) (wipeF fr (own.map (·.2))) l [] S1)) : WE Φ (.comp false own p it cs e) fr S P :=
  wbind (h.imp fun x S1 _ ⟨l, e1, h⟩ => by
    show RPost P (match iterD S1 x with | none => .no | some l => (compF p (evTs Φ cs) (evE Φ e) (wipeF fr (own.map (·.2))) l [] S1).bind fun r S2 => .ok (.ref S2.length) (S2 ++ [.lst r]))
    rw [e1]
    exact wbind h)

/-! tests -/
theorem t_any {c : E} (h : WE Φ c fr S fun x S1 => ∃ t, truth S1 x = some t ∧ PB t S1) : WT Φ c fr S PB := wbind (h.imp fun x S1 _ ⟨t, e, h⟩ => wof e h)
theorem t_notW {c : E} (h : WT Φ c fr S fun t S1 => PB (!t) S1) : WT Φ (.not c) fr S PB := by rw [WT, evT_not]; exact wbind h
theorem t_andW {a b : E} (h : WT Φ a fr S fun t S1 => if t = true then WT Φ b fr S1 PB else PB false S1) : WT Φ (.and a b) fr S PB := by
  rw [WT, evT_and]; exact wbind (h.imp fun t S1 _ h => by cases t <;> exact h)
theorem t_orW {a b : E} (h : WT Φ a fr S fun t S1 => if t = true then PB true S1 else WT Φ b fr S1 PB) : WT Φ (.or a b) fr S PB := by
  rw [WT, evT_or]; exact wbind (h.imp fun t S1 _ h => by cases t <;> exact h)
theorem t_cmpW {op : CmpOp} {a b : E} (h : WE Φ a fr S fun x S1 => WE Φ b fr S1 fun y S2 => ∃ r, cmpD op S2 x y = some r ∧ PB r S2) : WT Φ (.cmp op a b) fr S PB := t_any (w_cmp (h.imp fun x S1 _ h => h.imp fun y S2 _ ⟨r, e, h⟩ => ⟨r, e, r, rfl, h⟩))
theorem t_isiW {t : Ty} {a : E} (h : WE Φ a fr S fun x S1 => ∃ b, isiD S1 t x = some b ∧ PB b S1) : WT Φ (.isi t a) fr S PB := t_any (w_isi (h.imp fun x S1 _ ⟨b, e, h⟩ => ⟨b, e, b, rfl, h⟩))
theorem t_cmp2W {op op' : CmpOp} {a b c : E} (h : WE Φ a fr S fun x S1 => WE Φ b fr S1 fun y S2 => ∃ r, cmpD op S2 x y = some r ∧ if r = true then WE Φ c fr S2 (fun z S3 => ∃ r, cmpD op' S3 y z = some r ∧ PB r S3) else PB false S2) : WT Φ (.cmp2 op op' a b c) fr S PB :=
  t_any (w_cmp2 (h.imp fun x S1 _ h => h.imp fun y S2 _ ⟨r, e, h⟩ => ⟨r, e, by
    cases r with
    | false => exact ⟨false, rfl, h⟩
    | true => exact RPost.imp (show WE Φ c fr S2 (fun z S3 => ∃ r, cmpD op' S3 y z = some r ∧ PB r S3) from h) fun z S3 _ ⟨r, e, h⟩ => ⟨r, e, r, rfl, h⟩⟩))
theorem ts_nilW (h : PB true S) : RPost PB (evTs Φ [] fr S) := h
theorem ts_oneW {c : E} (h : WT Φ c fr S PB) : RPost PB (evTs Φ [c] fr S) := by
  obtain ⟨x, S1, e1, h⟩ := RPost.bind h
  obtain ⟨t, e2, h⟩ := RPost.of h
  refine wbind (RPost.mk e1 ?_)
  show RPost PB (match truth S1 x with | some true => evTs Φ [] fr S1 | some false => .ok false S1 | none => .no)
  rw [e2]; cases t <;> exact h

/-! statements -/
theorem s_nilW (h : PO (.nx fr) S) : WSs Φ [] fr S PO := h
theorem s_consW {s : Dm.S} {r : List Dm.S} (h : WS Φ s fr S fun o S1 => match o with
    | .nx fr' => WSs Φ r fr' S1 PO
    | o => PO o S1) : WSs Φ (s :: r) fr S PO := wbind (h.imp fun o S1 _ h => by cases o <;> exact h)
theorem s_asgW {p : Pat} {e : E} (h : WE Φ e fr S fun x S1 => ∃ fr', asgP p x fr = some fr' ∧ PO (.nx fr') S1) : WS Φ (.asg p e) fr S PO := wbind (h.imp fun x S1 _ ⟨fr', e, h⟩ => by
  show RPost PO (match asgP p x fr with | some fr' => .ok (.nx fr') S1 | none => .no)
  rw [e]; exact h)
theorem s_setIW {o i e : E} (h : WE Φ e fr S fun x S1 => WE Φ o fr S1 fun y S2 => WE Φ i fr S2 fun z S3 => ∃ n k l j, y = .ref n ∧ z = .int k ∧ cellL S3 n = some l ∧ ixN l.length k = some j ∧ PO (.nx fr) (S3.set n (.lst (l.set j x)))) : WS Φ (.setI o i e) fr S PO :=
  wbind (h.imp fun x S1 _ h => wbind (h.imp fun y S2 _ h => wbind (h.imp fun z S3 _ ⟨n, k, l, j, e1, e2, e3, e4, h9⟩ => by
    subst e1; subst e2
    show RPost PO (match cellL S3 n with | some l => (match ixN l.length k with | some j => .ok (.nx fr) (S3.set n (.lst (l.set j x))) | none => .no) | none => .no)
    rw [e3]
    show RPost PO (match ixN l.length k with | some j => .ok (.nx fr) (S3.set n (.lst (l.set j x))) | none => .no)
    rw [e4]; exact h9)))
theorem s_augW {i : Nat} {e : E} {a : Int} (h0 : fr[i]? = some (some (.int a))) (h : WE Φ e fr S fun y S1 => ∃ b, y = .int b ∧ PO (.nx (fr.set i (some (.int (a + b))))) S1) : WS Φ (.aug .Add i e) fr S PO := by
  show RPost PO (match fr[i]? with | some (some x) => (evE Φ e fr S).bind (fun y S1 => match Operator.Add, x, y with | .Add, .int a, .int b => .ok (.nx (fr.set i (some (.int (a + b))))) S1 | _, _, _ => .no) | _ => .no)
  rw [h0]
  exact wbind (h.imp fun y S1 _ ⟨b, e, h⟩ => by subst e; exact h)
theorem s_exprW {e : E} (h : WE Φ e fr S fun _ S1 => PO (.nx fr) S1) : WS Φ (.expr e) fr S PO := wbind h
theorem s_iffW {c : E} {a b : List Dm.S} (h : WT Φ c fr S fun t S1 => if t = true then WSs Φ a fr S1 PO else WSs Φ b fr S1 PO) : WS Φ (.iff c a b) fr S PO := wbind (h.imp fun t S1 _ h => by cases t <;> exact h)
theorem s_retW {e : E} (h : WE Φ e fr S fun x S1 => PO (.ret x) S1) : WS Φ (.ret e) fr S PO := wbind h
theorem s_brkW (h : PO (.bk fr) S) : WS Φ .brk fr S PO := h
theorem s_cntW (h : PO (.ct fr) S) : WS Φ .cnt fr S PO := h
theorem s_passW (h : PO (.nx fr) S) : WS Φ .pass fr S PO := h
theorem s_fzW {i n : Nat} {l : List D} (h0 : fr[i]? = some (some (.ref n))) (h1 : cellL S n = some l) (h : PO (.nx (fr.set i (some (.lst l)))) (S.set n .dead)) : WS Φ (.fz i) fr S PO := by
  show RPost PO (match fr[i]? with | some (some (.ref n)) => (match cellL S n with | some l => .ok (.nx (fr.set i (some (.lst l)))) (S.set n .dead) | none => .no) | _ => .no)
  rw [h0]
  show RPost PO (match cellL S n with | some l => .ok (.nx (fr.set i (some (.lst l)))) (S.set n .dead) | none => .no)
  rw [h1]; exact h
theorem s_forW {p : Pat} {it : E} {a : List Dm.S} (h : WE Φ it fr S fun x S1 => ∃ l, iterD S1 x = some l ∧ RPost PO (forF p (evSs Φ a) l fr S1)) : WS Φ (.for_ p it a) fr S PO := wbind (h.imp fun x S1 _ ⟨l, e, h⟩ => by
  show RPost PO (match iterD S1 x with | none => .no | some l => forF p (evSs Φ a) l fr S1)
  rw [e]; exact h)
theorem s_whlW {c : E} {a : List Dm.S} (h : RPost PO (whileF (evT Φ c) (evSs Φ a) Φ.fuel fr S)) : WS Φ (.whl c a) fr S PO := h

/-! loops -/
theorem for_inv {p : Pat} {b : Fr → Store → Res Out} (Inv : List D → Fr → Store → Prop) (step : ∀ d ds fr S, Inv (d :: ds) fr S → ∃ fr1, asgP p d fr = some fr1 ∧ RPost (fun o S2 => match o with
    | .nx fr' => Inv ds fr' S2
    | .ct fr' => Inv ds fr' S2
    | .bk fr' => PO (.nx fr') S2
    | .ret d => PO (.ret d) S2) (b fr1 S)) (fin : ∀ fr S, Inv [] fr S → PO (.nx fr) S) : ∀ (l : List D) (fr : Fr) (S : Store), Inv l fr S → RPost PO (forF p b l fr S)
  | [], fr, S, h => fin fr S h
  | d :: ds, fr, S, h => by
    obtain ⟨fr1, e, h1⟩ := step d ds fr S h
    show RPost PO (match asgP p d fr with | none => .no | some fr1 => (b fr1 S).bind fun o S2 => match o with
      | .nx fr' => forF p b ds fr' S2
      | .ct fr' => forF p b ds fr' S2
      | .bk fr' => .ok (.nx fr') S2
      | .ret d => .ok (.ret d) S2)
    rw [e]
    refine wbind (h1.imp fun o S2 _ h => ?_)
    cases o with
    | nx fr' => exact for_inv Inv step fin ds fr' S2 h
    | ct fr' => exact for_inv Inv step fin ds fr' S2 h
    | bk fr' => exact h
    | ret d => exact h
/-- a comprehension, turn by turn; acc is what stands so far -/
theorem comp_inv {p : Pat} {t : Fr → Store → Res Bool} {e : Fr → Store → Res D} {fr : Fr} {PL : List D → Store → Prop} (Inv : List D → List D → Store → Prop) (step : ∀ d ds acc S, Inv (d :: ds) acc S → ∃ fr1, asgP p d fr = some fr1 ∧ RPost (fun b S1 => if b = true then RPost (fun x S2 => acc.length < sizeLine ∧ Inv ds (acc ++ [x]) S2) (e fr1 S1) else Inv ds acc S1) (t fr1 S))
    (fin : ∀ acc S, Inv [] acc S → PL acc S) : ∀ (l acc : List D) (S : Store), Inv l acc S → RPost PL (compF p t e fr l acc S)
  | [], acc, S, h => fin acc S h
  | d :: ds, acc, S, h => by
    obtain ⟨fr1, e1, h1⟩ := step d ds acc S h
    show RPost PL (match asgP p d fr with | none => .no | some fr' => (t fr' S).bind fun b S1 => if b = true then (e fr' S1).bind fun x S2 => if acc.length < sizeLine then compF p t e fr ds (acc ++ [x]) S2 else .no else compF p t e fr ds acc S1)
    rw [e1]
    refine wbind (h1.imp fun b S1 _ h => ?_)
    cases b with
    | false => exact comp_inv Inv step fin ds acc S1 h
    | true =>
      refine wbind (RPost.imp (show RPost (fun x S2 => acc.length < sizeLine ∧ Inv ds (acc ++ [x]) S2) (e fr1 S1) from h) fun x S2 _ ⟨hl, h⟩ => ?_)
      show RPost PL (if acc.length < sizeLine then compF p t e fr ds (acc ++ [x]) S2 else Res.no)
      rw [if_pos hl]
      exact comp_inv Inv step fin ds (acc ++ [x]) S2 h
/-- a comprehension without effect: what passes the test, each by f -/
theorem comp_pure {p : Pat} {t : Fr → Store → Res Bool} {e : Fr → Store → Res D} {fr : Fr} {S : Store} {α : Type} (d : α → D) (T : α → Bool) (f : α → D) (l : List α) (hl : l.length ≤ sizeLine)
    (step : ∀ a ∈ l, ∃ fr1, asgP p (d a) fr = some fr1 ∧ t fr1 S = .ok (T a) S ∧ (T a = true → e fr1 S = .ok (f a) S)) : compF p t e fr (l.map d) [] S = .ok ((l.filter T).map f) S := by
  have go : ∀ (l : List α) (acc : List D), acc.length + l.length ≤ sizeLine → (∀ a ∈ l, ∃ fr1, asgP p (d a) fr = some fr1 ∧ t fr1 S = .ok (T a) S ∧ (T a = true → e fr1 S = .ok (f a) S)) → compF p t e fr (l.map d) acc S = .ok (acc ++ (l.filter T).map f) S := by
    intro l
    induction l with
    | nil => intro acc _ _; show Res.ok acc S = _; rw [List.filter_nil, List.map_nil, List.append_nil]
    | cons a l ih =>
      intro acc hl h
      obtain ⟨fr1, e1, e2, e3⟩ := h a List.mem_cons_self
      show (match asgP p (d a) fr with | none => Res.no | some fr' => (t fr' S).bind fun b S1 => if b = true then (e fr' S1).bind fun x S2 => if acc.length < sizeLine then compF p t e fr (l.map d) (acc ++ [x]) S2 else Res.no else compF p t e fr (l.map d) acc S1) = _
      rw [List.length_cons] at hl
      rw [e1]
      show ((t fr1 S).bind fun b S1 => if b = true then (e fr1 S1).bind fun x S2 => if acc.length < sizeLine then compF p t e fr (l.map d) (acc ++ [x]) S2 else .no else compF p t e fr (l.map d) acc S1) = _
      rw [e2, Res.bind_ok]
      cases hT : T a with
      | false =>
        rw [if_neg (by decide), List.filter_cons_of_neg (by rw [hT]; decide)]
        exact ih acc (by omega) fun b hb => h b (List.mem_cons_of_mem _ hb)
      | true =>
        rw [if_pos rfl, e3 hT, Res.bind_ok, if_pos (by omega), List.filter_cons_of_pos hT, List.map_cons]
        rw [ih (acc ++ [f a]) (by rw [List.length_append, List.length_singleton]; omega) fun b hb => h b (List.mem_cons_of_mem _ hb)]
        rw [List.append_assoc]; rfl
  have := go l [] (by simpa using hl) step
  simpa using this
/-- a while by a measure -/
theorem while_inv {c : Fr → Store → Res Bool} {b : Fr → Store → Res Out} (Inv : Nat → Fr → Store → Prop) (step : ∀ n fr S, Inv n fr S → RPost (fun t S1 => if t = true then RPost (fun o S2 => match o with
    | .nx fr' => ∃ m, m < n ∧ Inv m fr' S2
    | .ct fr' => ∃ m, m < n ∧ Inv m fr' S2
    | .bk fr' => PO (.nx fr') S2
    | .ret d => PO (.ret d) S2) (b fr S1) else PO (.nx fr) S1) (c fr S)) : ∀ (w n : Nat) (fr : Fr) (S : Store), n < w → Inv n fr S → RPost PO (whileF c b w fr S)
  | 0, _, _, _, h, _ => absurd h (Nat.not_lt_zero _)
  | w + 1, n, fr, S, hw, h => by
    refine wbind ((step n fr S h).imp fun t S1 _ h => ?_)
    cases t with
    | false => exact h
    | true =>
      refine wbind (RPost.imp (show RPost (fun o S2 => match o with
    | .nx fr' => ∃ m, m < n ∧ Inv m fr' S2
    | .ct fr' => ∃ m, m < n ∧ Inv m fr' S2
    | .bk fr' => PO (.nx fr') S2
    | .ret d => PO (.ret d) S2) (b fr S1) from h) fun o S2 _ h => ?_)
      cases o with
      | nx fr' => obtain ⟨m, hm, h⟩ := h; exact while_inv Inv step w m fr' S2 (by omega) h
      | ct fr' => obtain ⟨m, hm, h⟩ := h; exact while_inv Inv step w m fr' S2 (by omega) h
      | bk fr' => exact h
      | ret d => exact h

/-! defs -/
theorem w_fd {f : Fd} {args : List D} (hl : args.length = f.np) (h : WSs Φ f.body (args.map some ++ List.replicate (f.N.length - args.length) none) S fun o S' => match o with
    | .ret d => RPost P (cutR S.length d S')
    | .nx _ => RPost P (cutR S.length .non S')
    | _ => False) : RPost P (runFd Φ f args S) := by
  unfold runFd
  rw [if_pos hl]
  exact wbind (h.imp fun o S' _ h => by cases o <;> exact h)
/-- nothing new behind the call -/
theorem w_cut0 {d : D} (h : P d S) (hn : n = S.length) : RPost P (cutR n d S) := by
  unfold cutR
  split
  · rw [hn, List.take_length]; exact h
  · exact h
theorem w_cut {n : Nat} {d : D} (h1 : n ≤ S.length) (h2 : d.rb n = true) (h3 : (S.take n).all (Cell.rb n) = true) (h : P d (S.take n)) : RPost P (cutR n d S) := by
  unfold cutR
  rw [if_pos ⟨h1, h2, h3⟩]
  exact h
end
theorem w_ift {A B : Prop} (h : A) : if true = true then A else B := by rw [if_pos rfl]; exact h
theorem w_iff' {A B : Prop} (h : B) : if false = true then A else B := by rw [if_neg (by decide)]; exact h
theorem w_dec {p : Prop} [Decidable p] {A B : Prop} (h1 : p → A) (h2 : ¬p → B) : if decide p = true then A else B := by
  by_cases h : p
  · rw [if_pos (decide_eq_true h)]; exact h1 h
  · rw [if_neg (by simpa using h)]; exact h2 h
theorem w_decn {p : Prop} [Decidable p] {A B : Prop} (h1 : ¬p → A) (h2 : p → B) : if (!decide p) = true then A else B := by
  by_cases h : p
  · rw [if_neg (by simpa using h)]; exact h2 h
  · rw [if_pos (by simpa using h)]; exact h1 h
section
variable {Φ : Fns} {fr : Fr} {S : Store} {PO : Out → Store → Prop}
theorem s_asgv {i : Nat} {e : E} (h : WE Φ e fr S fun x S1 => PO (.nx (fr.set i (some x))) S1) : WS Φ (.asg (.v i) e) fr S PO := s_asgW (h.imp fun x S1 _ h => ⟨_, rfl, h⟩)
end
theorem b_div {S : Store} {i j : Int} (h : 0 < j) (h2 : j < 1073741824) : binD .FloorDiv S (.int i) (.int j) = some (.int (i / j)) := by
  show (if 0 < j ∧ (j < 1073741824 ∨ j.natAbs.log2 < 9000) then some (D.int (i / j)) else none) = _
  rw [if_pos ⟨h, .inl h2⟩]
theorem b_mod {S : Store} {i j : Int} (h : 0 < j) : binD .Mod S (.int i) (.int j) = some (.int (i % j)) := by
  show (if 0 < j then some (D.int (i % j)) else none) = _
  rw [if_pos h]
theorem b_mulR {S : Store} {i j : Int} (h : -1000000000000 < j) (h2 : j < 1000000000000) : binD .Mult S (.int i) (.int j) = some (.int (i * j)) := by
  show (if CMulB i j = true then some (D.int (i * j)) else none) = _
  rw [if_pos]
  unfold CMulB
  have a : decide (-(2 ^ 64) < j) = true := decide_eq_true (by omega)
  have b : decide (j < 2 ^ 64) = true := decide_eq_true (by omega)
  rw [a, b]
  simp
theorem b_mulL {S : Store} {i j : Int} (h : -1000000000000 < i) (h2 : i < 1000000000000) : binD .Mult S (.int i) (.int j) = some (.int (i * j)) := by
  show (if CMulB i j = true then some (D.int (i * j)) else none) = _
  rw [if_pos]
  unfold CMulB
  have a : decide (-(2 ^ 64) < i) = true := decide_eq_true (by omega)
  have b : decide (i < 2 ^ 64) = true := decide_eq_true (by omega)
  rw [a, b]
  simp
theorem b_addT {S : Store} {a b : List D} (h : a.length + b.length ≤ 1000) : binD .Add S (.tup a) (.tup b) = some (.tup (a ++ b)) := by
  show (if a.length + b.length ≤ sizeLine then some (D.tup (a ++ b)) else none) = _
  rw [if_pos (small_ok h)]
theorem b_addL {S : Store} {a b : List D} (h : a.length + b.length ≤ 1000) : binD .Add S (.lst a) (.lst b) = some (.lst (a ++ b)) := by
  show (if a.length + b.length ≤ sizeLine then some (D.lst (a ++ b)) else none) = _
  rw [if_pos (small_ok h)]
theorem w_ret {P : D → Store → Prop} {k : Nat} {d : D} {S : Store} (h : P d S) (hn : k = S.length) : RPost P (cutR k d S) := w_cut0 h hn
theorem w_ok {α : Type} {P : α → Store → Prop} {a : α} {S : Store} (h : P a S) : RPost P (.ok a S) := h
theorem filter_all {α : Type} (l : List α) : l.filter (fun _ => true) = l := List.filter_eq_self.mpr fun _ _ => rfl
theorem ints_of : ∀ ns : List Int, intsD (ns.map .int) = some ns
  | [] => rfl
  | n :: ns => by
    show (intsD (ns.map .int)).map (n :: ·) = _
    rw [ints_of ns]; rfl
theorem bools_of : ∀ ns : List Bool, boolsD (ns.map .bl) = some ns
  | [] => rfl
  | n :: ns => by
    show (boolsD (ns.map .bl)).map (n :: ·) = _
    rw [bools_of ns]; rfl
theorem strs_of : ∀ ns : List Str, strsD (ns.map .str) = some ns
  | [] => rfl
  | n :: ns => by
    show (strsD (ns.map .str)).map (n :: ·) = _
    rw [strs_of ns]; rfl
theorem cut_nat (l : List D) (a b : Nat) : cutD l (some (a : Int)) (some (b : Int)) = (l.drop a).take (b - a) := by
  unfold cutD
  rw [HT.sIx_nat, HT.sIx_nat]
  by_cases ha : a ≤ l.length
  · rw [Nat.min_eq_left ha]
    by_cases hb : b ≤ l.length
    · rw [Nat.min_eq_left hb]
    · rw [Nat.min_eq_right (by omega), List.take_of_length_le (by rw [List.length_drop]; omega), List.take_of_length_le (by rw [List.length_drop]; omega)]
  · rw [show min a l.length = l.length from Nat.min_eq_right (by omega), List.drop_of_length_le (Nat.le_refl _), List.drop_of_length_le (by omega)]; simp
theorem cut_to (l : List D) (b : Nat) : cutD l none (some (b : Int)) = l.take b := by
  unfold cutD
  rw [HT.sIx_none, HT.sIx_nat, List.drop_zero, Nat.sub_zero]
  by_cases hb : b ≤ l.length
  · rw [Nat.min_eq_left hb]
  · rw [Nat.min_eq_right (by omega), List.take_of_length_le (Nat.le_refl _), List.take_of_length_le (by omega)]
theorem cut_from (l : List D) (a : Nat) : cutD l (some (a : Int)) none = l.drop a := by
  unfold cutD
  rw [HT.sIx_none, HT.sIx_nat]
  by_cases ha : a ≤ l.length
  · rw [Nat.min_eq_left ha, List.take_of_length_le (by rw [List.length_drop]; exact Nat.le_refl _)]
  · rw [Nat.min_eq_right (by omega), List.drop_of_length_le (Nat.le_refl _), List.drop_of_length_le (by omega)]; simp
theorem bi_sumL {S : Store} (ns : List Int) : biD .sum S [.lst (ns.map .int)] = some (.int ns.sum) := by
  show (intsD (ns.map .int)).map (fun ns => D.int ns.sum) = _
  rw [ints_of]; rfl
theorem bi_sumT {S : Store} (ns : List Int) : biD .sum S [.tup (ns.map .int)] = some (.int ns.sum) := by
  show (intsD (ns.map .int)).map (fun ns => D.int ns.sum) = _
  rw [ints_of]; rfl
def minZ (ns : List Int) : Int := ns.min?.getD 0
def maxZ (ns : List Int) : Int := ns.max?.getD 0
theorem bi_min {S : Store} {ns : List Int} (h : ns ≠ []) : biD .min1 S [.lst (ns.map .int)] = some (.int (minZ ns)) := by
  show ((intsD (ns.map .int)).bind fun ns => (minL ns).map D.int) = _
  rw [ints_of]
  show (ns.min?).map D.int = _
  cases ns with
  | nil => exact absurd rfl h
  | cons => rfl
theorem bi_max {S : Store} {ns : List Int} (h : ns ≠ []) : biD .max1 S [.lst (ns.map .int)] = some (.int (maxZ ns)) := by
  show ((intsD (ns.map .int)).bind fun ns => (maxL ns).map D.int) = _
  rw [ints_of]
  show (ns.max?).map D.int = _
  cases ns with
  | nil => exact absurd rfl h
  | cons => rfl
theorem range_nat (k : Nat) (h : k < 1000000) : rangeD [.int (k : Int)] = some ((List.range k).map fun j => D.int (j : Nat)) := by
  have e : rangeD [.int (k : Int)] = if inR (k : Int) = true then some ((List.range (k : Int).toNat).map fun k => D.int (k : Nat)) else none := by unfold rangeD; rfl
  rw [e, if_pos (inR_iff.2 (by omega)), Int.toNat_natCast]
theorem range_two (a b : Int) (ha : -1000000 < a) (hb : b < 1000000) (ha2 : a < 1000000) (hb2 : -1000000 < b) : rangeD [.int a, .int b] = some ((List.range (b - a).toNat).map fun j => D.int (a + (j : Nat))) := by
  show (if inR a = true ∧ inR b = true then some ((List.range (b - a).toNat).map fun k => D.int (a + (k : Nat))) else none) = _
  rw [if_pos ⟨inR_iff.2 (by omega), inR_iff.2 (by omega)⟩]
theorem w_comp_pure {p : Pat} {t : Fr → Store → Res Bool} {e : Fr → Store → Res D} {fr : Fr} {S : Store} {PL : List D → Store → Prop} {α : Type} (d : α → D) (T : α → Bool) (f : α → D) (l : List α) {L : List D} (hL : L = l.map d) (hl : l.length ≤ sizeLine)
    (step : ∀ a ∈ l, ∃ fr1, asgP p (d a) fr = some fr1 ∧ t fr1 S = .ok (T a) S ∧ (T a = true → e fr1 S = .ok (f a) S)) (h : PL ((l.filter T).map f) S) : RPost PL (compF p t e fr L [] S) := by
  subst hL
  rw [comp_pure d T f l hl step]
  exact h
mutual
/-- its texts are texts that a script may hold -/
def D.sok : D → Bool
  | .str x => PyData.strOk x
  | .tup l => D.sokL l
  | .lst l => D.sokL l
  | _ => true
termination_by structural d => d
def D.sokL : List D → Bool
  | [] => true
  | d :: l => D.sok d && D.sokL l
termination_by structural l => l
end
mutual
theorem lay_py : ∀ d : D, d.sok = true → d.py.canLay0 = true
  | .non, _ => by simp [D.py, PyData.canLay0]
  | .bl _, _ => by simp [D.py, PyData.canLay0]
  | .int _, _ => by simp [D.py, PyData.canLay0]
  | .str x, h => by
    have h : PyData.strOk x = true := h
    simp [D.py, PyData.canLay0, h]
  | .tup l, h => by simp [D.py, PyData.canLay0, lay_pyL l h]
  | .lst l, h => by simp [D.py, PyData.canLay0, lay_pyL l h]
  | .ref _, _ => by simp [D.py, PyData.canLay0]
  | .frz _, _ => by simp [D.py, PyData.canLay0]
  | .itr _, _ => by simp [D.py, PyData.canLay0]
theorem lay_pyL : ∀ l : List D, D.sokL l = true → PyData.canLayAll0 (D.pyL l) = true
  | [], _ => by simp [D.pyL, PyData.canLayAll0]
  | d :: l, h => by
    have h : (d.sok && D.sokL l) = true := h
    rw [Bool.and_eq_true] at h
    simp [D.pyL, PyData.canLayAll0, lay_py d h.1, lay_pyL l h.2]
end
theorem cmp_of {d : D} (hp : d.pure = true) (hs : d.sok = true) (hd : d.py.depth ≤ 64) : d.cmpOk = true := by
  unfold D.cmpOk SeqAt.shaped
  rw [hp, lay_py d hs, decide_eq_true hd]
  rfl
/-- data that can be compared, by depth -/
structure Cmp (k : Nat) (d : D) : Prop where
  p : d.pure = true
  s : d.sok = true
  d : d.py.depth ≤ k
theorem Cmp.ok {k : Nat} {d : D} (h : Cmp k d) (hk : k ≤ 64) : d.cmpOk = true := cmp_of h.p h.s (Nat.le_trans h.d hk)
theorem Cmp.le {k m : Nat} {d : D} (h : Cmp k d) (hm : k ≤ m) : Cmp m d := ⟨h.p, h.s, Nat.le_trans h.d hm⟩
theorem Cmp.non : Cmp 0 .non := ⟨rfl, rfl, by show PyData.none.depth ≤ 0; rw [PyData.depth]; exact Nat.le_refl _⟩
theorem Cmp.bl (b : Bool) : Cmp 0 (.bl b) := ⟨rfl, rfl, by show (PyData.bool b).depth ≤ 0; rw [PyData.depth]; exact Nat.le_refl _⟩
theorem Cmp.int (i : Int) : Cmp 0 (.int i) := ⟨rfl, rfl, by show (PyData.int i).depth ≤ 0; rw [PyData.depth]; exact Nat.le_refl _⟩
theorem Cmp.str {x : Str} (h : PyData.strOk x = true) : Cmp 0 (.str x) := ⟨rfl, h, by show (PyData.str x).depth ≤ 0; rw [PyData.depth]; exact Nat.le_refl _⟩
theorem cmp_all {k : Nat} : ∀ {l : List D}, (∀ x ∈ l, Cmp k x) → D.pureL l = true ∧ D.sokL l = true ∧ PyData.depthAll (D.pyL l) ≤ k
  | [], _ => ⟨rfl, rfl, by simp [D.pyL, PyData.depthAll]⟩
  | d :: l, h => by
    have h1 := h d List.mem_cons_self
    obtain ⟨a, b, c⟩ := cmp_all (l := l) fun x hx => h x (List.mem_cons_of_mem _ hx)
    refine ⟨?_, ?_, ?_⟩
    · show (d.pure && D.pureL l) = true
      rw [h1.p, a]; rfl
    · show (d.sok && D.sokL l) = true
      rw [h1.s, b]; rfl
    · show PyData.depthAll (d.py :: D.pyL l) ≤ k
      rw [PyData.depthAll]
      have := h1.d
      omega
theorem Cmp.tup {k : Nat} {l : List D} (h : ∀ x ∈ l, Cmp k x) : Cmp (k + 1) (.tup l) := by
  obtain ⟨a, b, c⟩ := cmp_all h
  refine ⟨a, b, ?_⟩
  show (PyData.tuple (D.pyL l)).depth ≤ k + 1
  rw [PyData.depth]; omega
theorem Cmp.lst {k : Nat} {l : List D} (h : ∀ x ∈ l, Cmp k x) : Cmp (k + 1) (.lst l) := by
  obtain ⟨a, b, c⟩ := cmp_all h
  refine ⟨a, b, ?_⟩
  show (PyData.list (D.pyL l)).depth ≤ k + 1
  rw [PyData.depth]; omega
theorem cmp_strs {l : List Str} (h : ∀ x ∈ l, PyData.strOk x = true) : Cmp 1 (.lst (l.map .str)) := .lst fun x hx => by
  obtain ⟨s, hs, rfl⟩ := List.mem_map.mp hx
  exact .str (h s hs)
theorem cmp_ints (l : List Int) : Cmp 1 (.lst (l.map .int)) := .lst fun x hx => by
  obtain ⟨s, _, rfl⟩ := List.mem_map.mp hx
  exact .int s
theorem eqv_str (x y : Str) : PyData.eqv (D.str x).py (D.str y).py = (x == y) := by
  show PyData.eqv (.str x) (.str y) = _
  simp [PyData.eqv]
theorem in_lst {S : Store} {x : D} {l : List D} {k m : Nat} (hx : Cmp k x) (hl : Cmp m (.lst l)) (hk : k ≤ 64) (hm : m ≤ 64) : cmpD .In S x (.lst l) = some (l.any fun e => PyData.eqv e.py x.py) := by
  show (if (x.cmpOk && (D.lst l).cmpOk) = true then some (l.any fun e => PyData.eqv e.py x.py) else none) = _
  rw [hx.ok hk, hl.ok hm]
  rfl
theorem in_strs {S : Store} {x : Str} {l : List Str} (hx : PyData.strOk x = true) (hl : ∀ y ∈ l, PyData.strOk y = true) : cmpD .In S (.str x) (.lst (l.map .str)) = some (l.any fun y => y == x) := by
  rw [in_lst (.str hx) (cmp_strs hl) (by decide) (by decide), List.any_map]
  refine congrArg some (congrArg l.any (funext fun y => eqv_str y x))
theorem idx_strs {x : Str} : ∀ {l : List Str} {k : Nat}, l[k]? = some x → (∀ j, j < k → l[j]? ≠ some x) → idxOf (.str x) (l.map .str) = some k
  | [], k, h, _ => by simp at h
  | y :: l, 0, h, _ => by
    cases h
    show (if PyData.eqv (D.str x).py (D.str x).py = true then some 0 else _) = _
    rw [eqv_str, if_pos (by simp)]
  | y :: l, k + 1, h, hn => by
    have hy : (y == x) = false := by
      rw [beq_eq_false_iff_ne]
      rintro rfl
      exact hn 0 (Nat.zero_lt_succ _) rfl
    show (if PyData.eqv (D.str y).py (D.str x).py = true then some 0 else (idxOf (.str x) (l.map .str)).map (· + 1)) = _
    rw [eqv_str, hy, if_neg (by decide), idx_strs (l := l) (k := k) h fun j hj => hn (j + 1) (Nat.succ_lt_succ hj)]
    rfl
theorem me_index {S : Store} {x : Str} {l : List Str} {k : Nat} (hx : PyData.strOk x = true) (hl : ∀ y ∈ l, PyData.strOk y = true) (h : l[k]? = some x) (hn : ∀ j, j < k → l[j]? ≠ some x) : meD .index S (.lst (l.map .str)) [.str x] = some (.int (k : Nat)) := by
  show (if ((D.str x).cmpOk && (D.lst (l.map .str)).cmpOk) = true then (idxOf (.str x) (l.map .str)).map fun (k : Nat) => D.int k else none) = _
  rw [(Cmp.str hx).ok (by decide), (cmp_strs hl).ok (by decide), idx_strs h hn]
  rfl
theorem md_ints {S : Store} (mx : Bool) (ns : List Int) (d : D) : mdD mx S (.lst (ns.map .int)) d = some (match (if mx then maxL ns else minL ns) with | some m => .int m | none => d) := by
  show (intsD (ns.map .int)).map _ = _
  rw [ints_of]
  rfl
theorem range_one {i : Int} (h0 : -1000000 < i) (h : i < 1000000) : rangeD [.int i] = some ((List.range i.toNat).map fun j => D.int (j : Nat)) := by
  have e : rangeD [.int i] = if inR i = true then some ((List.range i.toNat).map fun k => D.int (k : Nat)) else none := by unfold rangeD; rfl
  rw [e, if_pos (inR_iff.2 (by omega))]
theorem eqv_int (x y : Int) : PyData.eqv (D.int x).py (D.int y).py = decide (x = y) := by
  show PyData.eqv (.int x) (.int y) = _
  rw [PyData.eqv]
  by_cases h : x = y <;> simp [h]
theorem eq_of_cmp {S : Store} {x y : D} {k m : Nat} (hx : Cmp k x) (hy : Cmp m y) (hk : k ≤ 64) (hm : m ≤ 64) (px : peek S x = x) (py : peek S y = y) : cmpD .Eq S x y = some (PyData.eqv x.py y.py) := by
  show eqD S x y = _
  unfold eqD
  rw [px, py, hx.ok hk, hy.ok hm]
  rfl
theorem b_eqI {S : Store} {a b : Int} : cmpD .Eq S (.int a) (.int b) = some (decide (a = b)) := by
  rw [eq_of_cmp (.int a) (.int b) (by decide) (by decide) rfl rfl, eqv_int]
theorem b_neI {S : Store} {a b : Int} : cmpD .NotEq S (.int a) (.int b) = some (!decide (a = b)) := by
  show (eqD S (.int a) (.int b)).map (!·) = _
  rw [show eqD S (.int a) (.int b) = some (decide (a = b)) from b_eqI]
  rfl
theorem b_eqS {S : Store} {a b : Str} (ha : PyData.strOk a = true) (hb : PyData.strOk b = true) : cmpD .Eq S (.str a) (.str b) = some (a == b) := by
  rw [eq_of_cmp (.str ha) (.str hb) (by decide) (by decide) rfl rfl, eqv_str]
theorem b_neS {S : Store} {a b : Str} (ha : PyData.strOk a = true) (hb : PyData.strOk b = true) : cmpD .NotEq S (.str a) (.str b) = some (!(a == b)) := by
  show (eqD S (.str a) (.str b)).map (!·) = _
  rw [show eqD S (.str a) (.str b) = some (a == b) from b_eqS ha hb]
  rfl
/-- l == [], l != [] of lists that can be compared -/
theorem b_eqN {S : Store} {l : List D} {k : Nat} (h : Cmp k (.lst l)) (hk : k ≤ 64) : cmpD .Eq S (.lst l) (.lst []) = some l.isEmpty := by
  rw [eq_of_cmp h (Cmp.lst (k := 0) (l := []) fun _ h => by cases h) hk (by decide) rfl rfl]
  show some (PyData.eqv (.list (D.pyL l)) (.list [])) = _
  cases l with
  | nil => simp [D.pyL, PyData.eqv, PyData.eqvAll]
  | cons => simp [D.pyL, PyData.eqv, PyData.eqvAll]
theorem b_neN {S : Store} {l : List D} {k : Nat} (h : Cmp k (.lst l)) (hk : k ≤ 64) : cmpD .NotEq S (.lst l) (.lst []) = some (!l.isEmpty) := by
  show (eqD S (.lst l) (.lst [])).map (!·) = _
  rw [show eqD S (.lst l) (.lst []) = some l.isEmpty from b_eqN h hk]
  rfl
theorem w_bool {b : Bool} {A B : Prop} (h1 : b = true → A) (h2 : b = false → B) : if b = true then A else B := by
  cases b with
  | true => rw [if_pos rfl]; exact h1 rfl
  | false => rw [if_neg (by decide)]; exact h2 rfl
theorem s_zallW {Φ : Fns} {fr : Fr} {S : Store} {PO : Out → Store → Prop} {i : Nat} {a b e : E} {own : List (Str × Nat)} {p : Pat} (h : WE Φ a fr S fun x S1 => WE Φ b fr S1 fun y S2 => ∃ l m, x = .tup l ∧ y = .tup m ∧ i < fr.length ∧
    RPost (fun r S3 => ∃ bs, boolsD r = some bs ∧ PO (.ret (.bl (bs.all id))) S3) (compF p (evTs Φ []) (evE Φ e) (wipeF (fr.set i none) (own.map (·.2))) (zipD l m) [] S2)) : WS Φ (.zall i a b own p e) fr S PO :=
  wbind (h.imp fun x S1 _ h => wbind (h.imp fun y S2 _ ⟨l, m, e1, e2, hi, h9⟩ => by
    subst e1
    subst e2
    show RPost PO (if i < fr.length then (compF p (evTs Φ []) (evE Φ e) (wipeF (fr.set i none) (own.map (·.2))) (zipD l m) [] S2).bind fun r S3 => match boolsD r with
      | some bs => .ok (.ret (.bl (bs.all id))) S3
      | none => .no
      else .no)
    rw [if_pos hi]
    refine wbind (h9.imp fun r S3 _ ⟨bs, e, h8⟩ => ?_)
    rw [e]; exact h8))
theorem zipD_map {α : Type} (f g : α → D) : ∀ l : List α, zipD (l.map f) (l.map g) = l.map fun a => .tup [f a, g a]
  | [] => rfl
  | a :: l => by
    show D.tup [f a, g a] :: zipD (l.map f) (l.map g) = _
    rw [zipD_map f g l]; rfl
theorem fuel_at (P : Prog) (w : Nat) : ∀ n, (fnsAt P w n).fuel = w
  | 0 => rfl
  | _ + 1 => rfl
theorem w_nif {A B : Prop} (h : A) : if (!false) = true then A else B := by rw [if_pos (by decide)]; exact h
theorem w_nit {A B : Prop} (h : B) : if (!true) = true then A else B := by rw [if_neg (by decide)]; exact h
theorem txt_one (z x : Str) : Txt.join z [x] = x := rfl
theorem me_join1 {S : Store} {x : Str} (h : x.length ≤ 1000) : meD .join S (.str "") [.lst [.str x]] = some (.str x) := by
  show (if ([x].map (·.length)).sum + [x].length * ("" : Str).length ≤ 16777216 then some (D.str (Txt.join "" [x])) else none) = _
  rw [if_pos]
  · rfl
  · show x.length + 0 + 1 * 0 ≤ 16777216
    omega
theorem b_nilne {S : Store} : cmpD .NotEq S (.lst []) (.lst []) = some false := b_neN (k := 1) (Cmp.lst (k := 0) (l := []) fun _ h => by cases h) (by decide)
theorem b_nileq {S : Store} : cmpD .Eq S (.lst []) (.lst []) = some true := b_eqN (k := 1) (Cmp.lst (k := 0) (l := []) fun _ h => by cases h) (by decide)
end Dm

/-! DmZ: what is known of the module, as lists. -/
namespace Dm
open PySem L2
def AllDef (K : PySem.W.Frag) : List (Str × Nat) → List Stmt → Prop
  | [], _ => True
  | x :: xs, st :: sts => DefAt K x.1 st ∧ AllDef K xs sts
  | _ :: _, [] => False
def AllCon (K : PySem.W.Frag) : List Str → List D → Prop
  | [], _ => True
  | x :: xs, d :: ds => ConstAt K x d ∧ AllCon K xs ds
  | _ :: _, [] => False
def AllBlt (K : PySem.W.Frag) : List Str → Prop
  | [] => True
  | x :: xs => (PySem.W.nsIn K mainGlobals x = some none ∧ x ≠ "__name__") ∧ AllBlt K xs
theorem AllDef.at_ {K : PySem.W.Frag} : ∀ {xs : List (Str × Nat)} {sts : List Stmt}, AllDef K xs sts → ∀ (i : Nat) (x : Str) (np : Nat), xs[i]? = some (x, np) → ∃ st, sts[i]? = some st ∧ DefAt K x st
  | [], _, _, i, _, _, e => by simp at e
  | x :: xs, st :: sts, h, 0, _, _, e => by cases e; exact ⟨st, rfl, h.1⟩
  | x :: xs, st :: sts, h, i + 1, y, np, e => AllDef.at_ (xs := xs) h.2 i y np e
  | _ :: _, [], h, _, _, _, _ => h.elim
theorem AllCon.at_ {K : PySem.W.Frag} : ∀ {xs : List Str} {ds : List D}, AllCon K xs ds → ∀ (i : Nat) (x : Str), xs[i]? = some x → ∃ d, ds[i]? = some d ∧ ConstAt K x d
  | [], _, _, i, _, e => by simp at e
  | x :: xs, d :: ds, h, 0, _, e => by cases e; exact ⟨d, rfl, h.1⟩
  | x :: xs, d :: ds, h, i + 1, y, e => AllCon.at_ (xs := xs) h.2 i y e
  | _ :: _, [], h, _, _, _ => h.elim
theorem AllBlt.at_ {K : PySem.W.Frag} : ∀ {xs : List Str}, AllBlt K xs → ∀ x ∈ xs, PySem.W.nsIn K mainGlobals x = some none ∧ x ≠ "__name__"
  | _ :: xs, h, x, hx => by
    rcases List.mem_cons.mp hx with rfl | hx
    · exact h.1
    · exact AllBlt.at_ h.2 x hx
theorem Mod.of {T : Tab} {Pg : Prog} {sts : List Stmt} {K : PySem.W.Frag} (h1 : AllDef K T.fns sts) (h2 : AllCon K T.cns Pg.consts) (h3 : AllBlt K T.blt) (h4 : PySem.W.nsIn K mainGlobals T.gcd = some (some (.builtin "math.gcd")) ∨ T.gcd = "") : Mod T Pg sts K :=
  ⟨h1.at_, h2.at_, h3.at_, h4⟩
theorem con_int {K : PySem.W.Frag} {x : Str} {i : Int} {t : Tok} (h : PySem.W.nsIn K mainGlobals x = some (some (.int i t))) : ConstAt K x (.int i) := ⟨_, .int i, h, ⟨t, rfl⟩, .int i⟩
theorem con_tup2 {K : PySem.W.Frag} {x : Str} {i j : Int} {t u : Tok} {a : Addr} {dd : Option Addr} {sl : Array (Option Value)} {k : Nat} (h : PySem.W.nsIn K mainGlobals x = some (some (.ref a))) (hl : K.lookup a = some ⟨.type "tuple", dd, .seq #[.int i t, .int j u] k, sl⟩) : ConstAt K x (.tup [.int i, .int j]) :=
  ⟨_, .ref a, h, rfl, .tup (xs := [.int i, .int j]) (.inr ⟨_, _, _, hl, rfl, rfl, by show 2 ≤ sizeLine; decide, .cons ⟨t, rfl⟩ (.cons ⟨u, rfl⟩ .nil)⟩) (.cons (.int i) (.cons (.int j) .nil))⟩
theorem def_mk {K : PySem.W.Frag} {x : Str} {st : Stmt} {f : Addr} {oc : Value} {od an : Option Addr} {sl : Array (Option Value)} {kV dc pm cd ct : Value} (h1 : PySem.W.nsIn K mainGlobals x = some (some (.ref f))) (h2 : K.lookup f = some ⟨oc, od, .func (PySem.W.fnOf x x (defArgs st) (defBody st) (defScope st) .none kV dc pm an cd ct), sl⟩)
    (h3 : PySem.W.codeIn K cd x = true) (h4 : PySem.W.keepIn K (.ref f) = true) : DefAt K x st := ⟨⟨f, oc, od, an, sl, kV, dc, pm, cd, ct, h1, h2, h3, h4⟩⟩
end Dm

namespace Dm
namespace k06
open PySem L2
open PySem L2
def f_low : Fd := ⟨2, ["top", "bottom", "common"], [
 .asg (.v 2) (.ite (.cmp .Gt (.var 1) (.int 0)) (.bi .gcd [.var 0, .var 1]) (.bin .Sub (.int 0) (.bi .gcd [.var 0, .var 1]))),
 .ret (.tup [.bin .FloorDiv (.var 0) (.var 2), .bin .FloorDiv (.var 1) (.var 2)])]⟩
def f_plus : Fd := ⟨2, ["one", "other"], [
 .ret (.call 0 [.bin .Add (.bin .Mult (.sub (.var 0) (.int 0)) (.sub (.var 1) (.int 1))) (.bin .Mult (.sub (.var 1) (.int 0)) (.sub (.var 0) (.int 1))), .bin .Mult (.sub (.var 0) (.int 1)) (.sub (.var 1) (.int 1))])]⟩
def f_names_of : Fd := ⟨1, ["system", "task"], [
 .ret (.comp true [("task", 1)] (.v 1) (.sub (.var 0) (.int 5)) [] (.sub (.var 1) (.int 0)))]⟩
def f_tasks_of : Fd := ⟨1, ["system"], [
 .ret (.sub (.var 0) (.int 5))]⟩
def f_least_supply : Fd := ⟨2, ["supply", "n", "many", "rounds", "rest", "twice", "at"], [
 .asg (.v 2) (.bi .len [.var 0]),
 .asg (.t [(.v 3), (.v 4)]) (.tup [.bin .FloorDiv (.var 1) (.var 2), .bin .Mod (.var 1) (.var 2)]),
 .asg (.v 5) (.bin .Add (.var 0) (.var 0)),
 .ret (.bin .Add (.bin .Mult (.var 3) (.bi .sum [.var 0])) (.bi .min1 [.comp true [("at", 6)] (.v 6) (.range [.var 2]) [] (.bi .sum [.slc (.var 5) (some (.var 6)) (some (.bin .Add (.var 6) (.var 4)))])]))]⟩
def f_demand_of : Fd := ⟨2, ["system", "t", "found", "_", "gap", "due", "most"], [
 .asg (.v 2) (.int 0),
 .for_ (.t [(.v 3), (.v 3), (.v 3), (.v 4), (.v 5), (.v 3), (.v 6)]) (.call 3 [.var 0]) [
  .iff (.cmp .LtE (.var 5) (.var 1)) [
   .aug .Add 2 (.bin .Mult (.var 6) (.bin .Add (.int 1) (.bin .FloorDiv (.bin .Sub (.var 1) (.var 5)) (.var 4))))] []],
 .ret (.var 2)]⟩
def f_load_of : Fd := ⟨1, ["system", "found", "task"], [
 .asg (.v 1) (.glob 0),
 .for_ (.v 2) (.call 3 [.var 0]) [
  .asg (.v 1) (.call 1 [.var 1, .call 0 [.sub (.var 2) (.int 6), .sub (.var 2) (.int 3)]])],
 .ret (.var 1)]⟩
def f_densities : Fd := ⟨1, ["system", "task"], [
 .ret (.comp true [("task", 1)] (.v 1) (.call 3 [.var 0]) [] (.call 0 [.sub (.var 1) (.int 6), .sub (.var 1) (.int 4)]))]⟩
def f_density_of : Fd := ⟨1, ["system", "found", "one"], [
 .asg (.v 1) (.glob 0),
 .for_ (.v 2) (.call 7 [.var 0]) [
  .asg (.v 1) (.call 1 [.var 1, .var 2])],
 .ret (.var 1)]⟩
def f_rounds_of : Fd := ⟨1, ["system", "found", "task"], [
 .asg (.v 1) (.bi .len [.sub (.var 0) (.int 4)]),
 .for_ (.v 2) (.call 3 [.var 0]) [
  .asg (.v 1) (.bin .FloorDiv (.bin .Mult (.var 1) (.sub (.var 2) (.int 3))) (.bi .gcd [.var 1, .sub (.var 2) (.int 3)]))],
 .ret (.var 1)]⟩
def f_hold_of : Fd := ⟨2, ["system", "name", "names", "ahead", "behind", "locks", "row"], [
 .asg (.v 2) (.call 2 [.var 0]),
 .asg (.t [(.v 3), (.v 4)]) (.tup [.slc (.var 2) none (some (.bin .Add (.me .index (.var 2) [.var 1]) (.int 1))), .slc (.var 2) (some (.bin .Add (.me .index (.var 2) [.var 1]) (.int 1))) none]),
 .asg (.v 5) (.comp true [("row", 6)] (.v 6) (.sub (.var 0) (.int 6)) [.cmp .In (.sub (.var 6) (.int 0)) (.var 3)] (.sub (.var 6) (.int 1))),
 .ret (.maxd (.comp true [("row", 6)] (.v 6) (.sub (.var 0) (.int 6)) [.and (.cmp .In (.sub (.var 6) (.int 0)) (.var 4)) (.cmp .In (.sub (.var 6) (.int 1)) (.var 5))] (.bin .Sub (.bin .Sub (.sub (.var 6) (.int 3)) (.sub (.var 6) (.int 2))) (.int 1))) (.int 0))]⟩
def f_work_of : Fd := ⟨2, ["task", "n", "_", "gap", "due", "most", "whole"], [
 .asg (.t [(.v 2), (.v 2), (.v 2), (.v 3), (.v 4), (.v 2), (.v 5)]) (.var 0),
 .asg (.v 6) (.bin .FloorDiv (.bin .Sub (.bin .Add (.var 1) (.var 4)) (.var 5)) (.var 3)),
 .ret (.bin .Add (.bin .Mult (.var 6) (.var 5)) (.bi .min2 [.var 5, .bin .Sub (.bin .Sub (.bin .Add (.var 1) (.var 4)) (.var 5)) (.bin .Mult (.var 6) (.var 3))]))]⟩
def f_begun_at : Fd := ⟨2, ["system", "phase", "supply"], [
 .asg (.v 2) (.sub (.var 0) (.int 4)),
 .ret (.bin .Add (.bin .Add (.slc (.var 0) none (some (.int 4))) (.tup [.bin .Add (.slc (.var 2) (some (.var 1)) none) (.slc (.var 2) none (some (.var 1)))])) (.slc (.var 0) (some (.int 5)) none))]⟩
def f_supply_rows : Fd := ⟨2, ["supply", "ticks", "n"], [
 .ret (.bi .tuple [.comp true [("n", 2)] (.v 2) (.range [.bin .Add (.var 1) (.int 1)]) [] (.call 4 [.var 0, .var 2])])]⟩
def f_gives_more : Fd := ⟨2, ["one", "other", "long", "rows", "mine", "yours"], [
 .asg (.v 2) (.bin .Mult (.bi .len [.var 0]) (.bi .len [.var 1])),
 .iff (.cmp .Lt (.bin .Mult (.bi .sum [.var 0]) (.bi .len [.var 1])) (.bin .Mult (.bi .sum [.var 1]) (.bi .len [.var 0]))) [
  .ret (.bl false)] [],
 .zall 3 (.call 13 [.var 0, .bi .min2 [.var 2, .glob 1]]) (.call 13 [.var 1, .bi .min2 [.var 2, .glob 1]]) [("mine", 4), ("yours", 5)] (.t [(.v 4), (.v 5)]) (.cmp .GtE (.var 4) (.var 5))]⟩
def f_longest_gap : Fd := ⟨1, ["supply", "n"], [
 .ret (.bi .max1 [.comp true [("n", 1)] (.v 1) (.range [.bin .Add (.bi .len [.var 0]) (.int 1)]) [.cmp .Eq (.call 4 [.var 0, .var 1]) (.int 0)] (.var 1)])]⟩
def f_first_enough : Fd := ⟨2, ["supply", "amount", "n"], [
 .asg (.v 2) (.int 0),
 .whl (.cmp .Lt (.call 4 [.var 0, .var 2]) (.var 1)) [
  .aug .Add 2 (.int 1)],
 .ret (.var 2)]⟩
def f_evened : Fd := ⟨1, ["supply", "many", "ones", "at"], [
 .asg (.t [(.v 1), (.v 2)]) (.tup [.bi .len [.var 0], .bi .sum [.var 0]]),
 .ret (.bi .tuple [.comp true [("at", 3)] (.v 3) (.range [.var 1]) [] (.bin .Sub (.bin .FloorDiv (.bin .Mult (.bin .Add (.var 3) (.int 1)) (.var 2)) (.var 1)) (.bin .FloorDiv (.bin .Mult (.var 3) (.var 2)) (.var 1)))])]⟩
def f__law_whole : Fd := ⟨3, ["thing", "low_v", "high"], [
 .iff (.or (.not (.isi .int (.var 0))) (.isi .bool (.var 0))) [
  .ret (.bl false)] [],
 .ret (.and (.or (.cmp .Is (.var 1) .non) (.cmp .LtE (.var 1) (.var 0))) (.or (.cmp .Is (.var 2) .non) (.cmp .LtE (.var 0) (.var 2))))]⟩
def f__law_cell : Fd := ⟨2, ["script", "k"], [
 .iff (.cmp .Lt (.var 1) (.bi .len [.var 0])) [
  .ret (.sub (.var 0) (.var 1))] [],
 .ret (.int 0)]⟩
def f__law_digits : Fd := ⟨3, ["script", "first", "last", "digits", "k", "cell", "step", "seed"], [
 .asg (.v 3) (.mkl []),
 .for_ (.v 4) (.range [.var 1, .var 2]) [
  .asg (.v 5) (.call 19 [.var 0, .var 4]),
  .iff (.cmp .Lt (.var 5) (.int 0)) [
   .asg (.v 5) (.bin .Sub (.int 1) (.bin .Mult (.int 2) (.var 5)))] [],
  .iff (.cmp .Gt (.bi .len [.var 3]) (.int 1500)) [
   .brk] [],
  .iff (.cmp .GtE (.var 5) (.bin .Pow (.int 10) (.int 18))) [
   .for_ (.v 6) (.range [.int 60]) [
    .iff (.cmp .Gt (.var 5) (.int 0)) [
     .expr (.app (.var 3) (.bin .Mod (.bi .int [.var 5]) (.int 1000))),
     .asg (.v 5) (.bin .FloorDiv (.var 5) (.int 1000))] []]] [
   .asg (.v 7) (.bin .Mod (.bi .int [.bin .Add (.bin .Add (.bin .Mult (.var 5) (.int 48271)) (.bin .Mult (.var 4) (.int 69621))) (.int 11)]) (.int 2147483647)),
   .for_ (.v 6) (.range [.int 12]) [
    .asg (.v 7) (.bin .Mod (.bi .int [.bin .Add (.bin .Add (.bin .Mult (.var 7) (.int 16807)) (.bin .Mult (.int 7) (.var 6))) (.int 1)]) (.int 2147483647)),
    .expr (.app (.var 3) (.bin .Mod (.bi .int [.bin .FloorDiv (.var 7) (.int 997)]) (.int 1000)))]]],
 .fz 3,
 .ret (.var 3)]⟩
def f__law_draw : Fd := ⟨2, ["box", "many", "at"], [
 .asg (.v 2) (.sub (.var 0) (.int 1)),
 .setI (.var 0) (.int 1) (.bin .Add (.var 2) (.int 1)),
 .iff (.cmp .Lt (.var 2) (.bi .len [.sub (.var 0) (.int 0)])) [
  .ret (.bin .Mod (.bi .int [.sub (.sub (.var 0) (.int 0)) (.var 2)]) (.var 1))] [],
 .ret (.bin .Mod (.bi .int [.bin .Mult (.var 2) (.int 7)]) (.var 1))]⟩
def f__law_like : Fd := ⟨2, ["told", "due", "k"], [
 .iff (.isi .tuple (.var 1)) [
  .iff (.or (.not (.isi .tuple (.var 0))) (.cmp .NotEq (.bi .len [.var 0]) (.bi .len [.var 1]))) [
   .ret (.bl false)] [],
  .ret (.cmp .Eq (.comp true [("k", 2)] (.v 2) (.range [.bi .len [.var 1]]) [.not (.call 22 [.sub (.var 0) (.var 2), .sub (.var 1) (.var 2)])] (.int 1)) (.lst []))] [],
 .iff (.cmp .Is (.var 1) .non) [
  .ret (.cmp .Is (.var 0) .non)] [],
 .iff (.cmp .Is (.var 1) (.bl true)) [
  .ret (.cmp .Is (.var 0) (.bl true))] [],
 .iff (.cmp .Is (.var 1) (.bl false)) [
  .ret (.cmp .Is (.var 0) (.bl false))] [],
 .iff (.isi .str (.var 1)) [
  .ret (.and (.isi .str (.var 0)) (.cmp .Eq (.me .join (.str "") [.lst [.var 0]]) (.var 1)))] [],
 .ret (.and (.isi .int (.var 0)) (.and (.not (.isi .bool (.var 0))) (.cmp .Eq (.var 0) (.var 1))))]⟩
def f__law_low : Fd := ⟨2, ["number", "by", "one", "two"], [
 .asg (.t [(.v 2), (.v 3)]) (.tup [.bi .abs [.var 0], .var 1]),
 .whl (.cmp .Gt (.var 3) (.int 0)) [
  .asg (.t [(.v 2), (.v 3)]) (.tup [.var 3, .bin .Mod (.var 2) (.var 3)])],
 .ret (.tup [.bin .FloorDiv (.var 0) (.var 2), .bin .FloorDiv (.var 1) (.var 2)])]⟩
def f__law_add : Fd := ⟨2, ["one", "two"], [
 .ret (.call 23 [.bin .Add (.bin .Mult (.sub (.var 0) (.int 0)) (.sub (.var 1) (.int 1))) (.bin .Mult (.sub (.var 1) (.int 0)) (.sub (.var 0) (.int 1))), .bin .Mult (.sub (.var 0) (.int 1)) (.sub (.var 1) (.int 1))])]⟩
def f__law_sum : Fd := ⟨1, ["values", "found", "value"], [
 .asg (.v 1) (.tup [.int 0, .int 1]),
 .for_ (.v 2) (.var 0) [
  .asg (.v 1) (.call 24 [.var 1, .var 2])],
 .ret (.var 1)]⟩
def f__law_task : Fd := ⟨3, ["box", "name", "gaps", "kind", "gap", "due", "most"], [
 .asg (.t [(.v 3), (.v 4)]) (.tup [.sub (.lst [.str "any", .str "any", .str "each"]) (.call 21 [.var 0, .int 3]), .bin .Add (.int 1) (.call 21 [.var 0, .var 2])]),
 .asg (.v 5) (.bin .Add (.int 1) (.call 21 [.var 0, .var 4])),
 .asg (.v 6) (.bin .Add (.int 1) (.call 21 [.var 0, .bi .min2 [.var 5, .int 3]])),
 .ret (.tup [.var 1, .var 3, .ite (.cmp .Eq (.var 3) (.str "each")) (.call 21 [.var 0, .int 3]) (.int 0), .var 4, .var 5, .bin .Add (.int 1) (.call 21 [.var 0, .var 6]), .var 6])]⟩
def f__law_system : Fd := ⟨3, ["box", "many", "gaps", "names", "tasks", "name", "machines", "rule", "breaks", "supply", "locks", "task"], [
 .asg (.v 3) (.slc (.lst [.str "b", .str "a", .str "c"]) none (some (.bin .Add (.int 1) (.call 21 [.var 0, .var 1])))),
 .asg (.v 4) (.bi .tuple [.comp true [("name", 5)] (.v 5) (.var 3) [] (.call 26 [.var 0, .var 5, .var 2])]),
 .asg (.t [(.v 6), (.v 7)]) (.tup [.sub (.lst [.int 1, .int 1, .int 1, .int 2]) (.call 21 [.var 0, .int 4]), .sub (.lst [.str "fixed", .str "nearest", .str "fixed", .str "nearest", .str "oldest", .str "slack"]) (.call 21 [.var 0, .int 6])]),
 .asg (.t [(.v 8), (.v 9)]) (.tup [.cmp .Gt (.call 21 [.var 0, .int 4]) (.int 0), .sub (.lst [.tup [.int 1], .tup [.int 1], .tup [.int 1], .tup [.int 1, .int 0]]) (.call 21 [.var 0, .int 4])]),
 .asg (.v 10) (.mkl []),
 .iff (.and (.cmp .Eq (.var 6) (.int 1)) (.and (.cmp .Eq (.var 7) (.str "fixed")) (.and (.var 8) (.cmp .Eq (.call 21 [.var 0, .int 2]) (.int 0))))) [
  .for_ (.v 11) (.var 4) [
   .iff (.and (.cmp .Gt (.sub (.var 11) (.int 6)) (.int 1)) (.cmp .Gt (.call 21 [.var 0, .int 3]) (.int 0))) [
    .expr (.app (.var 10) (.tup [.sub (.var 11) (.int 0), .str "l", .int 0, .sub (.var 11) (.int 6)]))] []]] [],
 .fz 10,
 .ret (.tup [.str "system", .var 6, .var 7, .var 8, .var 9, .var 4, .bi .tuple [.bi .sorted [.var 10]]])]⟩
def f__law_names : Fd := ⟨1, ["system", "task"], [
 .ret (.comp true [("task", 1)] (.v 1) (.sub (.var 0) (.int 5)) [] (.sub (.var 1) (.int 0)))]⟩
def f__law_least_supply : Fd := ⟨2, ["supply", "n", "many", "k", "at"], [
 .asg (.v 2) (.bi .len [.var 0]),
 .ret (.bi .min1 [.comp true [("at", 4)] (.v 4) (.range [.var 2]) [] (.bi .sum [.comp true [("k", 3)] (.v 3) (.range [.var 1]) [] (.sub (.var 0) (.bin .Mod (.bi .int [.bin .Add (.var 4) (.var 3)]) (.var 2)))])])]⟩
def f__law_hold : Fd := ⟨2, ["system", "at", "names", "locks", "row"], [
 .asg (.v 2) (.call 28 [.var 0]),
 .asg (.v 3) (.comp true [("row", 4)] (.v 4) (.sub (.var 0) (.int 6)) [.cmp .In (.sub (.var 4) (.int 0)) (.slc (.var 2) none (some (.bin .Add (.var 1) (.int 1))))] (.sub (.var 4) (.int 1))),
 .ret (.bi .max1 [.bin .Add (.lst [.int 0]) (.comp true [("row", 4)] (.v 4) (.sub (.var 0) (.int 6)) [.and (.cmp .In (.sub (.var 4) (.int 0)) (.slc (.var 2) (some (.bin .Add (.var 1) (.int 1))) none)) (.cmp .In (.sub (.var 4) (.int 1)) (.var 3))] (.bin .Sub (.bin .Sub (.sub (.var 4) (.int 3)) (.sub (.var 4) (.int 2))) (.int 1)))])]⟩
def f__law_demand : Fd := ⟨2, ["system", "t", "task"], [
 .ret (.bi .sum [.comp true [("task", 2)] (.v 2) (.sub (.var 0) (.int 5)) [.cmp .LtE (.sub (.var 2) (.int 4)) (.var 1)] (.bin .Mult (.sub (.var 2) (.int 6)) (.bin .Add (.int 1) (.bin .FloorDiv (.bin .Sub (.var 1) (.sub (.var 2) (.int 4))) (.sub (.var 2) (.int 3)))))])]⟩
def f__law_supply : Fd := ⟨1, ["box", "rows", "k"], [
 .asg (.v 1) (.comp false [("k", 2)] (.v 2) (.range [.bin .Add (.int 1) (.call 21 [.var 0, .int 5])]) [] (.call 21 [.var 0, .int 2])),
 .setI (.var 1) (.call 21 [.var 0, .bi .len [.var 1]]) (.int 1),
 .fz 1,
 .ret (.bi .tuple [.var 1])]⟩
def f_law : Fd := ⟨1, ["script", "box", "system", "one", "other", "n", "t", "task", "parts", "part", "k", "at", "x", "long", "gap", "amount", "many", "ones", "p", "phase"], [
 .asg (.v 1) (.mkl [.call 20 [.var 0, .int 0, .int 63], .int 0]),
 .asg (.t [(.v 2), (.v 3), (.v 4)]) (.tup [.call 27 [.var 1, .int 3, .int 8], .call 32 [.var 1], .call 32 [.var 1]]),
 .for_ (.v 5) (.tup [.int 0, .int 1, .int 2, .int 3, .int 5, .int 7, .bin .Add (.int 4) (.call 21 [.var 1, .int 30])]) [
  .iff (.not (.call 22 [.call 4 [.var 3, .var 5], .call 29 [.var 3, .var 5]])) [
   .ret (.bl false)] []],
 .for_ (.v 6) (.range [.int 1, .int 12]) [
  .iff (.not (.call 22 [.call 5 [.var 2, .var 6], .call 31 [.var 2, .var 6]])) [
   .ret (.bl false)] []],
 .iff (.not (.call 22 [.call 6 [.var 2], .call 25 [.comp true [("task", 7)] (.v 7) (.sub (.var 2) (.int 5)) [] (.call 23 [.sub (.var 7) (.int 6), .sub (.var 7) (.int 3)])]])) [
  .ret (.bl false)] [],
 .iff (.not (.call 22 [.call 8 [.var 2], .call 25 [.comp true [("task", 7)] (.v 7) (.sub (.var 2) (.int 5)) [] (.call 23 [.sub (.var 7) (.int 6), .sub (.var 7) (.int 4)])]])) [
  .ret (.bl false)] [],
 .asg (.v 5) (.call 9 [.var 2]),
 .asg (.v 8) (.bin .Add (.lst [.bi .len [.sub (.var 2) (.int 4)]]) (.comp true [("task", 7)] (.v 7) (.sub (.var 2) (.int 5)) [] (.sub (.var 7) (.int 3)))),
 .iff (.or (.not (.call 18 [.var 5, .int 1, .non])) (.or (.cmp .NotEq (.comp true [("part", 9)] (.v 9) (.var 8) [.cmp .NotEq (.bin .Mod (.var 5) (.var 9)) (.int 0)] (.var 9)) (.lst [])) (.cmp .NotEq (.comp true [("k", 10)] (.v 10) (.range [.int 1, .var 5]) [.cmp .Eq (.comp true [("part", 9)] (.v 9) (.var 8) [.cmp .NotEq (.bin .Mod (.var 10) (.var 9)) (.int 0)] (.var 9)) (.lst [])] (.var 10)) (.lst [])))) [
  .ret (.bl false)] [],
 .for_ (.v 11) (.range [.bi .len [.sub (.var 2) (.int 5)]]) [
  .asg (.v 7) (.sub (.sub (.var 2) (.int 5)) (.var 11)),
  .iff (.not (.call 22 [.call 10 [.var 2, .sub (.var 7) (.int 0)], .call 30 [.var 2, .var 11]])) [
   .ret (.bl false)] [],
  .asg (.v 12) (.bin .Sub (.bin .Add (.int 5) (.sub (.var 7) (.int 4))) (.sub (.var 7) (.int 6))),
  .iff (.not (.call 22 [.call 11 [.var 7, .int 5], .bin .Add (.bin .Mult (.sub (.var 7) (.int 6)) (.bin .FloorDiv (.var 12) (.sub (.var 7) (.int 3)))) (.bi .min2 [.sub (.var 7) (.int 6), .bin .Mod (.bi .int [.var 12]) (.sub (.var 7) (.int 3))])])) [
   .ret (.bl false)] []],
 .asg (.v 13) (.bin .Mult (.bi .len [.var 3]) (.bi .len [.var 4])),
 .iff (.not (.call 22 [.call 14 [.var 3, .var 4], .cmp .Eq (.comp true [("n", 5)] (.v 5) (.range [.bin .Add (.bin .Mult (.int 2) (.var 13)) (.int 1)]) [.cmp .Lt (.call 29 [.var 3, .var 5]) (.call 29 [.var 4, .var 5])] (.var 5)) (.lst [])])) [
  .ret (.bl false)] [],
 .asg (.v 14) (.call 15 [.var 3]),
 .iff (.or (.cmp .NotEq (.call 29 [.var 3, .var 14]) (.int 0)) (.cmp .Eq (.call 29 [.var 3, .bin .Add (.var 14) (.int 1)]) (.int 0))) [
  .ret (.bl false)] [],
 .asg (.v 15) (.call 21 [.var 1, .int 9]),
 .asg (.v 5) (.call 16 [.var 3, .var 15]),
 .iff (.or (.cmp .Lt (.call 29 [.var 3, .var 5]) (.var 15)) (.and (.cmp .Gt (.var 5) (.int 0)) (.cmp .GtE (.call 29 [.var 3, .bin .Sub (.var 5) (.int 1)]) (.var 15)))) [
  .ret (.bl false)] [],
 .asg (.t [(.v 16), (.v 17)]) (.tup [.bi .len [.var 3], .bi .sum [.var 3]]),
 .iff (.not (.call 22 [.call 17 [.var 3], .bi .tuple [.comp true [("p", 18)] (.v 18) (.range [.var 16]) [] (.bi .int [.cmp .Gt (.bin .FloorDiv (.bin .Mult (.bin .Add (.var 18) (.int 1)) (.var 17)) (.var 16)) (.bin .FloorDiv (.bin .Mult (.var 18) (.var 17)) (.var 16))])]])) [
  .ret (.bl false)] [],
 .asg (.v 19) (.call 21 [.var 1, .bi .len [.sub (.var 2) (.int 4)]]),
 .fz 1,
 .ret (.call 22 [.call 12 [.var 2, .var 19], .bin .Add (.bin .Add (.slc (.var 2) none (some (.int 4))) (.tup [.bin .Add (.slc (.sub (.var 2) (.int 4)) (some (.var 19)) none) (.slc (.sub (.var 2) (.int 4)) none (some (.var 19)))])) (.slc (.var 2) (some (.int 5)) none)])]⟩
def pg : Prog := ⟨[f_low, f_plus, f_names_of, f_tasks_of, f_least_supply, f_demand_of, f_load_of, f_densities, f_density_of, f_rounds_of, f_hold_of, f_work_of, f_begun_at, f_supply_rows, f_gives_more, f_longest_gap, f_first_enough, f_evened, f__law_whole, f__law_cell, f__law_digits, f__law_draw, f__law_like, f__law_low, f__law_add, f__law_sum, f__law_task, f__law_system, f__law_names, f__law_least_supply, f__law_hold, f__law_demand, f__law_supply, f_law], [.tup [.int 0, .int 1], .int 144]⟩
def tab : Tab := ⟨[(("low" : Str), (2 : Nat)), (("plus" : Str), (2 : Nat)), (("names_of" : Str), (1 : Nat)), (("tasks_of" : Str), (1 : Nat)), (("least_supply" : Str), (2 : Nat)), (("demand_of" : Str), (2 : Nat)), (("load_of" : Str), (1 : Nat)), (("densities" : Str), (1 : Nat)), (("density_of" : Str), (1 : Nat)), (("rounds_of" : Str), (1 : Nat)), (("hold_of" : Str), (2 : Nat)), (("work_of" : Str), (2 : Nat)), (("begun_at" : Str), (2 : Nat)), (("supply_rows" : Str), (2 : Nat)), (("gives_more" : Str), (2 : Nat)), (("longest_gap" : Str), (1 : Nat)), (("first_enough" : Str), (2 : Nat)), (("evened" : Str), (1 : Nat)), (("_law_whole" : Str), (3 : Nat)), (("_law_cell" : Str), (2 : Nat)), (("_law_digits" : Str), (3 : Nat)), (("_law_draw" : Str), (2 : Nat)), (("_law_like" : Str), (2 : Nat)), (("_law_low" : Str), (2 : Nat)), (("_law_add" : Str), (2 : Nat)), (("_law_sum" : Str), (1 : Nat)), (("_law_task" : Str), (3 : Nat)), (("_law_system" : Str), (3 : Nat)), (("_law_names" : Str), (1 : Nat)), (("_law_least_supply" : Str), (2 : Nat)), (("_law_hold" : Str), (2 : Nat)), (("_law_demand" : Str), (2 : Nat)), (("_law_supply" : Str), (1 : Nat)), (("law" : Str), (1 : Nat))], ["NOTHING", "MOST_TICKS"], ["abs", "all", "bool", "int", "isinstance", "len", "max", "min", "range", "sorted", "str", "sum", "tuple", "zip"], "gcd"⟩

def sts : List Stmt := [3, 4, 6, 7, 9, 10, 11, 12, 13, 14, 15, 17, 20, 21, 22, 23, 24, 25, 27, 28, 29, 30, 31, 32, 33, 34, 35, 36, 37, 38, 39, 40, 41, 42].map fun i => PySem.Challenge.pw_timelyproof_k06_sup_numbers.main.body.getD i (.Pass ⟨0, 0, 0, 0⟩)
end k06
end Dm

namespace Dm
open PySem L2 Dm
local macro_rules | `(tactic| walk_at "fr") => `(tactic| simp only [List.map_cons, List.map_nil, List.length_cons, List.length_nil, Nat.reduceAdd, Nat.reduceSub, List.replicate_succ, List.replicate_zero, List.cons_append, List.nil_append])
local macro_rules | `(tactic| walk_at "w") => `(tactic| first
  | ((with_reducible refine w_var (d := ?d) ?h ?_); (case h => rfl))
  | with_reducible refine w_int ?_ | with_reducible refine w_bin ?_ | with_reducible refine w_cmp ?_ | with_reducible refine w_sub ?_ | with_reducible refine w_bi ?_
  | with_reducible refine w_tup ?_ | with_reducible refine w_lst ?_ | with_reducible refine w_cons ?_ | with_reducible refine w_nil ?_ | with_reducible refine w_call ?_ | with_reducible refine w_ite ?_ | with_reducible refine w_str ?_ | with_reducible refine w_bl ?_ | with_reducible refine w_non ?_
  | with_reducible refine t_cmpW ?_ | with_reducible refine t_notW ?_ | with_reducible refine t_andW ?_ | with_reducible refine t_orW ?_ | with_reducible refine t_isiW ?_ | with_reducible refine t_cmp2W ?_
  | with_reducible refine s_consW ?_ | with_reducible refine s_asgv ?_ | with_reducible refine s_asgW ?_ | with_reducible refine s_retW ?_ | with_reducible refine s_iffW ?_ | with_reducible refine s_setIW ?_ | with_reducible refine s_exprW ?_ | with_reducible refine s_forW ?_ | with_reducible refine s_nilW ?_ | with_reducible refine s_brkW ?_ | with_reducible refine s_cntW ?_ | with_reducible refine s_passW ?_
  | with_reducible refine w_not ?_ | with_reducible refine w_andW ?_ | with_reducible refine w_orW ?_ | with_reducible refine w_neg ?_ | with_reducible refine w_isi ?_ | with_reducible refine w_slc ?_ | with_reducible refine w_onone ?_ | with_reducible refine w_osome ?_ | with_reducible refine w_range ?_ | with_reducible refine w_comp ?_ | with_reducible refine w_cmp2 ?_ | with_reducible refine w_me ?_ | with_reducible refine w_maxd ?_ | with_reducible refine w_mkl ?_
  | ((with_reducible refine s_augW (a := ?a) ?h ?_); (case h => rfl))
  | ((with_reducible refine s_fzW (l := ?l) (n := ?n) ?h ?h2 ?_); (case h => rfl); (case h2 => rfl))
  | ((with_reducible refine w_glob (d := ?d) ?h ?_); (case h => rfl))
  | with_reducible refine w_ok ?_
  | with_reducible refine t_any ?_
  | with_reducible refine ts_oneW ?_ | with_reducible refine ts_nilW ?_
  | with_reducible refine w_ift ?_ | with_reducible refine w_iff' ?_ | with_reducible refine w_nif ?_ | with_reducible refine w_nit ?_
  | ((with_reducible refine Exists.intro _ (And.intro (b_div ?h1 ?h2) ?_)); (case h1 => omega); (case h2 => omega))
  | ((with_reducible refine Exists.intro _ (And.intro (b_mod ?h1) ?_)); (case h1 => omega))
  | ((with_reducible refine Exists.intro _ (And.intro (b_mulR ?h1 ?h2) ?_)); (case h1 => omega); (case h2 => omega))
  | ((with_reducible refine Exists.intro _ (And.intro (b_mulL ?h1 ?h2) ?_)); (case h1 => omega); (case h2 => omega))
  | ((with_reducible refine Exists.intro _ (And.intro (b_addT ?h1) ?_)); (case h1 => first | exact Nat.le_of_ble_eq_true rfl | (simp; omega)))
  | ((with_reducible refine Exists.intro _ (And.intro (b_addL ?h1) ?_)); (case h1 => first | exact Nat.le_of_ble_eq_true rfl | (simp; omega)))
  | ((with_reducible refine And.intro (small_ok ?h1) ?_); (case h1 => exact Nat.le_of_ble_eq_true rfl))
  | ((with_reducible refine w_ret ?_ ?h1); (case h1 => rfl))
  | with_reducible refine Exists.intro _ (And.intro (bi_sumL _) ?_)
  | with_reducible refine Exists.intro _ (And.intro (bi_sumT _) ?_)
  | ((with_reducible refine Exists.intro _ (And.intro (range_one ?h1 ?h2) ?_)); (case h1 => omega); (case h2 => omega))
  | ((with_reducible refine Exists.intro _ (And.intro (range_two _ _ ?h1 ?h2 ?h3 ?h4) ?_)); (case h1 => omega); (case h2 => omega); (case h3 => omega); (case h4 => omega))
  | with_reducible refine Exists.intro _ (And.intro b_nilne ?_)
  | with_reducible refine Exists.intro _ (And.intro b_nileq ?_)
  | with_reducible refine Exists.intro _ (And.intro b_eqI ?_)
  | with_reducible refine Exists.intro _ (And.intro b_neI ?_)
  | ((with_reducible refine Exists.intro true (And.intro (show isiD _ _ _ = some true from ?h) ?_)); (case h => rfl))
  | ((with_reducible refine Exists.intro false (And.intro (show isiD _ _ _ = some false from ?h) ?_)); (case h => rfl))
  | ((with_reducible refine Exists.intro true (And.intro (show cmpD .Is _ _ _ = some true from ?h) ?_)); (case h => rfl))
  | ((with_reducible refine Exists.intro false (And.intro (show cmpD .Is _ _ _ = some false from ?h) ?_)); (case h => rfl))
  | ((with_reducible refine Exists.intro ?x (And.intro (show binD _ _ _ _ = some ?x from ?h) ?_)); (case h => rfl))
  | ((with_reducible refine Exists.intro ?x (And.intro (show cmpD _ _ _ _ = some ?x from ?h) ?_)); (case h => rfl))
  | ((with_reducible refine Exists.intro ?x (And.intro (show subD _ _ _ = some ?x from ?h) ?_)); (case h => rfl))
  | ((with_reducible refine Exists.intro ?x (And.intro (show biD _ _ _ = some ?x from ?h) ?_)); (case h => rfl))
  | ((with_reducible refine Exists.intro ?x (And.intro (show truth _ _ = some ?x from ?h) ?_)); (case h => rfl))
  | ((with_reducible refine Exists.intro ?x (And.intro (show isiD _ _ _ = some ?x from ?h) ?_)); (case h => rfl))
  | ((with_reducible refine Exists.intro ?x (And.intro (show meD _ _ _ _ = some ?x from ?h) ?_)); (case h => rfl))
  | ((with_reducible refine Exists.intro ?x (And.intro (show slcD _ _ _ _ = some ?x from ?h) ?_)); (case h => rfl))
  | ((with_reducible refine Exists.intro ?x (And.intro (show iterD _ _ = some ?x from ?h) ?_)); (case h => rfl))
  | ((with_reducible refine Exists.intro ?x (And.intro (show asgP _ _ _ = some ?x from ?h) ?_)); (case h => rfl))
  | ((with_reducible refine Exists.intro ?x (And.intro (show mdD _ _ _ _ = some ?x from ?h) ?_)); (case h => rfl))
  | with_reducible refine Exists.intro _ (And.intro (Eq.refl (D.int _)) ?_))

namespace k06
variable {wf n : Nat} {S : Store}
/-! a call, by its def -/
theorem call_at {i : Nat} {fd : Fd} (h : pg.fns[i]? = some fd) (args : List D) (S : Store) : (fnsAt pg wf (n + 1)).call i args S = runFd (fnsAt pg wf n) fd args S := by
  show (match pg.fns[i]? with | some fd => runFd (fnsAt pg wf n) fd args S | none => .no) = _
  rw [h]
/-! ### rational numbers in lowest terms -/
def gc (t b : Int) : Int := (Nat.gcd t.natAbs b.natAbs : Nat)
theorem gc_pos {t b : Int} (hb : 0 < b) : 0 < gc t b := by
  have : 0 < Nat.gcd t.natAbs b.natAbs := Nat.gcd_pos_of_pos_right _ (by omega)
  unfold gc; omega
theorem gc_le {t b : Int} (hb : 0 < b) : gc t b ≤ b := by
  have := Nat.gcd_le_right t.natAbs (n := b.natAbs) (by omega)
  unfold gc; omega
theorem gc_dvd_right (t b : Int) : gc t b ∣ b := Int.gcd_dvd_right t b
theorem gc_dvd_left (t b : Int) : gc t b ∣ t := Int.gcd_dvd_left t b
def low (t b : Int) : Int × Int := (t / gc t b, b / gc t b)
def rD (q : Int × Int) : D := .tup [.int q.1, .int q.2]
theorem low_pos {t b : Int} (hb : 0 < b) : 0 < (low t b).2 := by
  have h1 := gc_pos (t := t) hb
  have h2 := gc_le (t := t) hb
  exact Int.ediv_pos_of_pos_of_dvd hb (Int.le_of_lt h1) (gc_dvd_right t b)
theorem low_le {t b : Int} (hb : 0 < b) : (low t b).2 ≤ b := Int.ediv_le_self _ (Int.le_of_lt hb)
theorem c_low (t b : Int) (hb : 0 < b) (hb2 : b < 1000000) : (fnsAt pg wf (n + 1)).call 0 [.int t, .int b] S = .ok (rD (low t b)) S := by
  rw [call_at rfl]
  refine RPost.eq ?_
  refine w_fd rfl ?_
  unfold f_low
  walk_at "fr"
  have h1 : 0 < ((t.natAbs.gcd b.natAbs : Nat) : Int) := gc_pos (t := t) hb
  have h2 : ((t.natAbs.gcd b.natAbs : Nat) : Int) ≤ b := gc_le (t := t) hb
  repeat walk_at "w"
  refine w_dec (fun h => ?_) (fun h => absurd hb h)
  repeat walk_at "w"
  exact ⟨rfl, rfl⟩
def plus (a b : Int × Int) : Int × Int := low (a.1 * b.2 + b.1 * a.2) (a.2 * b.2)
theorem c_plus (a b : Int × Int) (ha : 0 < a.2) (ha2 : a.2 < 1000) (hb : 0 < b.2) (hb2 : b.2 < 1000) : (fnsAt pg wf (n + 2)).call 1 [rD a, rD b] S = .ok (rD (plus a b)) S := by
  rw [call_at rfl]
  refine RPost.eq ?_
  refine w_fd rfl ?_
  unfold f_plus
  walk_at "fr"
  repeat walk_at "w"
  have h1 : 0 < a.2 * b.2 := Int.mul_pos ha hb
  have h2 : a.2 * b.2 < 1000000 := by
    have := Int.mul_lt_mul ha2 (Int.le_of_lt hb2) hb (by decide)
    omega
  rw [c_low _ _ h1 h2]
  repeat walk_at "w"
  exact ⟨rfl, rfl⟩

/-! ### the drawn system -/
structure Task where
  nm : Str
  kind : Str
  off : Int
  gap : Int
  due : Int
  least : Int
  most : Int
structure Sys where
  mach : Int
  rule : Str
  brk : Bool
  sup : List Int
  tasks : List Task
  locks : List (Str × Int)
def tD (t : Task) : D := .tup [.str t.nm, .str t.kind, .int t.off, .int t.gap, .int t.due, .int t.least, .int t.most]
def lkD (l : Str × Int) : D := .tup [.str l.1, .str "l", .int 0, .int l.2]
def sD (s : Sys) : D := .tup [.str "system", .int s.mach, .str s.rule, .bl s.brk, .tup (s.sup.map .int), .tup (s.tasks.map tD), .tup (s.locks.map lkD)]
structure Task.Ok (t : Task) : Prop where
  gap : 1 ≤ t.gap ∧ t.gap ≤ 8
  due : 1 ≤ t.due ∧ t.due ≤ t.gap
  most : 1 ≤ t.most ∧ t.most ≤ t.due ∧ t.most ≤ 3
def abc : List Str := ["b", "a", "c"]
theorem abc_ok {x : Str} (h : x ∈ abc) : PyData.strOk x = true := by
  have : ∀ x ∈ abc, PyData.strOk x = true := by decide +kernel
  exact this x h
def nms (s : Sys) : List Str := s.tasks.map (·.nm)
structure Sys.Ok (s : Sys) : Prop where
  task : ∀ t ∈ s.tasks, t.Ok
  few : s.tasks.length ≤ 3
  some : 0 < s.tasks.length
  names : (s.tasks.map (·.nm)).Nodup
  short : ∀ t ∈ s.tasks, t.nm ∈ abc
  lock : ∀ l ∈ s.locks, 2 ≤ l.2 ∧ l.2 ≤ 3 ∧ l.1 ∈ abc
  fewl : s.locks.length ≤ 3
  sup : s.sup = [1] ∨ s.sup = [1, 0]
section
variable {s : Sys}
theorem c_tasks_of : (fnsAt pg wf (n + 1)).call 3 [sD s] S = .ok (.tup (s.tasks.map tD)) S := by
  rw [call_at rfl]
  refine RPost.eq ?_
  refine w_fd rfl ?_
  unfold f_tasks_of
  walk_at "fr"
  repeat walk_at "w"
  exact ⟨rfl, rfl⟩
theorem few_tasks (h : s.Ok) : s.tasks.length ≤ sizeLine := small_ok (by have := h.few; omega)
theorem c_names_of (h : s.Ok) : (fnsAt pg wf (n + 1)).call 2 [sD s] S = .ok (.lst ((nms s).map .str)) S := by
  rw [call_at rfl]
  refine RPost.eq ?_
  refine w_fd rfl ?_
  unfold f_names_of
  walk_at "fr"
  repeat walk_at "w"
  rw [comp_pure tD (fun _ => true) (fun t => .str t.nm) s.tasks (few_tasks h) fun t ht => ⟨_, rfl, rfl, fun _ => rfl⟩]
  rw [filter_all]
  repeat walk_at "w"
  unfold nms
  rw [List.map_map]
  exact ⟨rfl, rfl⟩
theorem c_names (h : s.Ok) : (fnsAt pg wf (n + 1)).call 28 [sD s] S = .ok (.lst ((nms s).map .str)) S := by
  rw [call_at rfl]
  refine RPost.eq ?_
  refine w_fd rfl ?_
  unfold f__law_names
  walk_at "fr"
  repeat walk_at "w"
  rw [comp_pure tD (fun _ => true) (fun t => .str t.nm) s.tasks (few_tasks h) fun t ht => ⟨_, rfl, rfl, fun _ => rfl⟩]
  rw [filter_all]
  repeat walk_at "w"
  unfold nms
  rw [List.map_map]
  exact ⟨rfl, rfl⟩
end
end k06

namespace k06
variable {wf n : Nat} {S : Store}
/-! ### the least supply -/
def win (sup : List Int) (r at_ : Nat) : Int := (((sup ++ sup).drop at_).take r).sum
def lsr (sup : List Int) (r : Nat) : Int := minZ ((List.range sup.length).map (win sup r))
def ls (sup : List Int) (m : Int) : Int := (m / sup.length) * sup.sum + lsr sup (m % sup.length).toNat
def supD (sup : List Int) : D := .tup (sup.map .int)
structure SupOk (sup : List Int) : Prop where
  pos : 0 < sup.length
  le : sup.length ≤ 12
  bit : ∀ x ∈ sup, 0 ≤ x ∧ x ≤ 1
theorem sum_bits : ∀ {l : List Int}, (∀ x ∈ l, 0 ≤ x ∧ x ≤ 1) → 0 ≤ l.sum ∧ l.sum ≤ l.length
  | [], _ => by simp
  | x :: l, h => by
    have h1 := h x List.mem_cons_self
    have h2 := sum_bits (l := l) fun y hy => h y (List.mem_cons_of_mem _ hy)
    rw [List.sum_cons, List.length_cons]
    omega
theorem c_ls {sup : List Int} (h : SupOk sup) {m : Int} (h0 : 0 ≤ m) : (fnsAt pg wf (n + 1)).call 4 [supD sup, .int m] S = .ok (.int (ls sup m)) S := by
  have hp := h.pos
  have hl := h.le
  have e1 : ((sup.map D.int).length : Int) = sup.length := by rw [List.length_map]
  have e2 : 0 < ((sup.map D.int).length : Int) := by omega
  have e3 : ((sup.map D.int).length : Int) < 1000 := by omega
  rw [call_at rfl]
  refine RPost.eq ?_
  refine w_fd rfl ?_
  unfold f_least_supply supD
  walk_at "fr"
  have hs := sum_bits h.bit
  repeat walk_at "w"
  obtain ⟨r, hr⟩ : ∃ r : Nat, m % (sup.length : Int) = r := ⟨(m % (sup.length : Int)).toNat, (Int.toNat_of_nonneg (Int.emod_nonneg _ (by omega))).symm⟩
  rw [e1, hr]
  rw [Int.toNat_natCast]
  have hlen : (List.range sup.length).length ≤ sizeLine := by rw [List.length_range]; exact small_ok (by omega)
  refine w_comp_pure (fun j : Nat => D.int (j : Nat)) (fun _ => true) (fun j => D.int (win sup r j)) (List.range sup.length) rfl hlen (fun j hj => ⟨_, rfl, rfl, fun _ => ?_⟩) ?_
  · refine RPost.eq ?_
    repeat walk_at "w"
    rw [show ((j : Int) + (r : Int)) = ((j + r : Nat) : Int) from by omega, cut_nat, Nat.add_sub_cancel_left, ← List.map_append, ← List.map_drop, ← List.map_take]
    exact ⟨_, bi_sumT _, rfl, rfl⟩
  · have e : (List.range sup.length).map (fun j => D.int (win sup r j)) = ((List.range sup.length).map (win sup r)).map D.int := by rw [List.map_map]; rfl
    rw [filter_all, e]
    repeat walk_at "w"
    refine ⟨_, bi_min ?_, ?_⟩
    · intro z
      have := congrArg List.length z
      rw [List.length_map, List.length_range, List.length_nil] at this
      omega
    repeat walk_at "w"
    refine ⟨?_, rfl⟩
    unfold ls lsr
    rw [hr, Int.toNat_natCast]
/-! ### the demand -/
def dem1 (t : Task) (x : Int) : Int := t.most * (1 + (x - t.due) / t.gap)
def demand (s : Sys) (x : Int) : Int := (((s.tasks.filter fun t => decide (t.due ≤ x)).map fun t => dem1 t x)).sum
theorem c_demand {s : Sys} (h : s.Ok) {x : Int} : (fnsAt pg wf (n + 2)).call 5 [sD s, .int x] S = .ok (.int (demand s x)) S := by
  rw [call_at rfl]
  refine RPost.eq ?_
  refine w_fd rfl ?_
  unfold f_demand_of
  walk_at "fr"
  repeat walk_at "w"
  rw [c_tasks_of]
  repeat walk_at "w"
  refine for_inv (fun ds fr S' => ∃ (rest : List Task) (acc : Int) (a b c d : Option D), ds = rest.map tD ∧ (∀ t ∈ rest, t.Ok) ∧ S' = S ∧ fr = [some (sD s), some (.int x), some (.int acc), a, b, c, d] ∧ acc + ((rest.filter fun t => decide (t.due ≤ x)).map fun t => dem1 t x).sum = demand s x) ?_ ?_ _ _ _ ⟨s.tasks, 0, none, none, none, none, rfl, h.task, rfl, rfl, Int.zero_add _⟩
  · rintro d ds fr S' ⟨rest, acc, a, b, c, d', e, hr, rfl, rfl, ha⟩
    cases rest with
    | nil => cases e
    | cons t rest =>
      cases e
      have ht := hr t List.mem_cons_self
      have hg := ht.gap
      have hm := ht.most
      refine ⟨_, rfl, ?_⟩
      repeat walk_at "w"
      refine w_dec (fun hd => ?_) (fun hd => ?_)
      · repeat walk_at "w"
        rw [List.filter_cons_of_pos (by simpa using hd), List.map_cons, List.sum_cons] at ha
        exact ⟨rest, _, _, _, _, _, rfl, fun u hu => hr u (List.mem_cons_of_mem _ hu), rfl, rfl, by rw [show dem1 t x = t.most * (1 + (x - t.due) / t.gap) from rfl] at ha; omega⟩
      · repeat walk_at "w"
        rw [List.filter_cons_of_neg (by simpa using hd)] at ha
        exact ⟨rest, _, _, _, _, _, rfl, fun u hu => hr u (List.mem_cons_of_mem _ hu), rfl, rfl, ha⟩
  · rintro fr S' ⟨rest, acc, a, b, c, d', e, hr, rfl, rfl, ha⟩
    have e : rest = [] := List.map_eq_nil_iff.mp e.symm
    subst e
    repeat walk_at "w"
    refine ⟨?_, rfl⟩
    rw [← ha]
    simp
/-! ### sums of shares -/
theorem plus_pos {a b : Int × Int} (ha : 0 < a.2) (hb : 0 < b.2) : 0 < (plus a b).2 := low_pos (Int.mul_pos ha hb)
theorem plus_le {a b : Int × Int} (ha : 0 < a.2) (hb : 0 < b.2) : (plus a b).2 ≤ a.2 * b.2 := low_le (Int.mul_pos ha hb)
def sumQ (l : List (Int × Int)) : Int × Int := l.foldl plus (0, 1)
/-- denominators stay small -/
structure Small (rest : List (Int × Int)) (a : Int × Int) : Prop where
  pos : 0 < a.2
  all : ∀ q ∈ rest, 0 < q.2 ∧ q.2 ≤ 8
  le : a.2 * 8 ^ rest.length ≤ 512
theorem Small.lt {rest : List (Int × Int)} {a : Int × Int} (h : Small rest a) : a.2 < 1000 := by
  have h1 : (1 : Int) ≤ 8 ^ rest.length := Int.pow_pos (by decide)
  have h2 : a.2 * 1 ≤ a.2 * 8 ^ rest.length := Int.mul_le_mul_of_nonneg_left h1 (Int.le_of_lt h.pos)
  have := h.le
  omega
theorem Small.step {q : Int × Int} {rest : List (Int × Int)} {a : Int × Int} (h : Small (q :: rest) a) : Small rest (plus a q) := by
  have hq := h.all q List.mem_cons_self
  refine ⟨plus_pos h.pos hq.1, fun r hr => h.all r (List.mem_cons_of_mem _ hr), ?_⟩
  have h1 : (plus a q).2 ≤ a.2 * 8 := Int.le_trans (plus_le h.pos hq.1) (Int.mul_le_mul_of_nonneg_left hq.2 (Int.le_of_lt h.pos))
  have h2 : (0 : Int) ≤ 8 ^ rest.length := Int.le_of_lt (Int.pow_pos (by decide))
  have h3 := Int.mul_le_mul_of_nonneg_right h1 h2
  have h4 := h.le
  rw [List.length_cons, Int.pow_succ, Int.mul_comm (8 ^ rest.length) 8, ← Int.mul_assoc] at h4
  omega
theorem small0 {rest : List (Int × Int)} (hl : rest.length ≤ 3) (all : ∀ q ∈ rest, 0 < q.2 ∧ q.2 ≤ 8) : Small rest (0, 1) := by
  refine ⟨by decide, all, ?_⟩
  match rest, hl with
  | [], _ => decide
  | [_], _ => show (1 : Int) * 8 ^ 1 ≤ 512; decide
  | [_, _], _ => show (1 : Int) * 8 ^ 2 ≤ 512; decide
  | [_, _, _], _ => show (1 : Int) * 8 ^ 3 ≤ 512; decide
  | _ :: _ :: _ :: _ :: _, h => exact absurd h (by simp)
def ldQ (t : Task) : Int × Int := low t.most t.gap
def deQ (t : Task) : Int × Int := low t.most t.due
theorem ldQ_ok {t : Task} (h : t.Ok) : 0 < (ldQ t).2 ∧ (ldQ t).2 ≤ 8 := ⟨low_pos (by have := h.gap; omega), Int.le_trans (low_le (by have := h.gap; omega)) h.gap.2⟩
theorem deQ_ok {t : Task} (h : t.Ok) : 0 < (deQ t).2 ∧ (deQ t).2 ≤ 8 := ⟨low_pos (by have := h.due; omega), Int.le_trans (low_le (by have := h.due; omega)) (by have := h.gap; have := h.due; omega)⟩
theorem c_load {s : Sys} (h : s.Ok) : (fnsAt pg wf (n + 3)).call 6 [sD s] S = .ok (rD (sumQ (s.tasks.map ldQ))) S := by
  rw [call_at rfl]
  refine RPost.eq ?_
  refine w_fd rfl ?_
  unfold f_load_of
  walk_at "fr"
  repeat walk_at "w"
  rw [c_tasks_of]
  repeat walk_at "w"
  refine for_inv (fun ds fr S' => ∃ (rest : List Task) (acc : Int × Int) (a : Option D), ds = rest.map tD ∧ (∀ t ∈ rest, t.Ok) ∧ S' = S ∧ fr = [some (sD s), some (rD acc), a] ∧ (rest.map ldQ).foldl plus acc = sumQ (s.tasks.map ldQ) ∧ Small (rest.map ldQ) acc) ?_ ?_ _ _ _
    ⟨s.tasks, (0, 1), none, rfl, h.task, rfl, rfl, rfl, small0 (by rw [List.length_map]; exact h.few) fun q hq => by obtain ⟨t, ht, rfl⟩ := List.mem_map.mp hq; exact ldQ_ok (h.task t ht)⟩
  · rintro d ds fr S' ⟨rest, acc, a, e, hr, rfl, rfl, ha, hs⟩
    cases rest with
    | nil => cases e
    | cons t rest =>
      cases e
      have ht := hr t List.mem_cons_self
      have hg := ht.gap
      refine ⟨_, rfl, ?_⟩
      repeat walk_at "w"
      rw [c_low _ _ (by omega) (by omega)]
      repeat walk_at "w"
      have hq := ldQ_ok ht
      have hl := hs.lt
      rw [show rD (low t.most t.gap) = rD (ldQ t) from rfl, c_plus _ _ hs.pos hl hq.1 (by omega)]
      repeat walk_at "w"
      exact ⟨rest, _, _, rfl, fun u hu => hr u (List.mem_cons_of_mem _ hu), rfl, rfl, ha, hs.step⟩
  · rintro fr S' ⟨rest, acc, a, e, hr, rfl, rfl, ha, hs⟩
    have e : rest = [] := List.map_eq_nil_iff.mp e.symm
    subst e
    repeat walk_at "w"
    exact ⟨congrArg rD ha, rfl⟩
theorem c_dens {s : Sys} (h : s.Ok) : (fnsAt pg wf (n + 2)).call 7 [sD s] S = .ok (.lst ((s.tasks.map deQ).map rD)) S := by
  rw [call_at rfl]
  refine RPost.eq ?_
  refine w_fd rfl ?_
  unfold f_densities
  walk_at "fr"
  repeat walk_at "w"
  rw [c_tasks_of]
  repeat walk_at "w"
  refine w_comp_pure tD (fun _ => true) (fun t => rD (deQ t)) s.tasks rfl (few_tasks h) (fun t ht => ⟨_, rfl, rfl, fun _ => ?_⟩) ?_
  · refine RPost.eq ?_
    repeat walk_at "w"
    have ho := h.task t ht
    have h1 := ho.gap
    have h2 := ho.due
    rw [c_low _ _ (by omega) (by omega)]
    repeat walk_at "w"
    exact ⟨rfl, rfl⟩
  · rw [filter_all]
    repeat walk_at "w"
    rw [List.map_map]
    exact ⟨rfl, rfl⟩
theorem c_density {s : Sys} (h : s.Ok) : (fnsAt pg wf (n + 3)).call 8 [sD s] S = .ok (rD (sumQ (s.tasks.map deQ))) S := by
  rw [call_at rfl]
  refine RPost.eq ?_
  refine w_fd rfl ?_
  unfold f_density_of
  walk_at "fr"
  repeat walk_at "w"
  rw [c_dens h]
  repeat walk_at "w"
  refine for_inv (fun ds fr S' => ∃ (rest : List (Int × Int)) (acc : Int × Int) (a : Option D), ds = rest.map rD ∧ S' = S ∧ fr = [some (sD s), some (rD acc), a] ∧ rest.foldl plus acc = sumQ (s.tasks.map deQ) ∧ Small rest acc) ?_ ?_ _ _ _
    ⟨s.tasks.map deQ, (0, 1), none, rfl, rfl, rfl, rfl, small0 (by rw [List.length_map]; exact h.few) fun q hq => by obtain ⟨t, ht, rfl⟩ := List.mem_map.mp hq; exact deQ_ok (h.task t ht)⟩
  · rintro d ds fr S' ⟨rest, acc, a, e, rfl, rfl, ha, hs⟩
    cases rest with
    | nil => cases e
    | cons q rest =>
      cases e
      refine ⟨_, rfl, ?_⟩
      repeat walk_at "w"
      have hq := hs.all q List.mem_cons_self
      have hl := hs.lt
      rw [c_plus _ _ hs.pos hl hq.1 (by omega)]
      repeat walk_at "w"
      exact ⟨rest, _, _, rfl, rfl, rfl, ha, hs.step⟩
  · rintro fr S' ⟨rest, acc, a, e, rfl, rfl, ha, hs⟩
    have e : rest = [] := List.map_eq_nil_iff.mp e.symm
    subst e
    repeat walk_at "w"
    exact ⟨congrArg rD ha, rfl⟩
end k06

namespace k06
variable {wf n : Nat} {S : Store}
/-! ### the rounds -/
def gn (t : Task) : Nat := t.gap.toNat
def rnd (s : Sys) : Nat := (s.tasks.map gn).foldl Nat.lcm s.sup.length
theorem sup_ok {s : Sys} (h : s.Ok) : SupOk s.sup := by
  rcases h.sup with e | e <;> rw [e]
  · exact ⟨by decide, by decide, by decide⟩
  · exact ⟨by decide, by decide, by decide⟩
theorem sup_len {s : Sys} (h : s.Ok) : 0 < s.sup.length ∧ s.sup.length ≤ 2 := by rcases h.sup with e | e <;> rw [e] <;> decide
theorem lcm_le (a b : Nat) (ha : 0 < a) (hb : 0 < b) : Nat.lcm a b ≤ a * b := Nat.div_le_self _ _
theorem lcm_bound : ∀ (l : List Nat) (a : Nat), 0 < a → (∀ x ∈ l, 0 < x ∧ x ≤ 8) → 0 < l.foldl Nat.lcm a ∧ l.foldl Nat.lcm a ≤ a * 8 ^ l.length
  | [], a, ha, _ => by simpa using ha
  | x :: l, a, ha, h => by
    have hx := h x List.mem_cons_self
    have h0 : 0 < Nat.lcm a x := Nat.lcm_pos ha hx.1
    obtain ⟨h1, h2⟩ := lcm_bound l (Nat.lcm a x) h0 fun y hy => h y (List.mem_cons_of_mem _ hy)
    refine ⟨h1, Nat.le_trans h2 ?_⟩
    have h3 : Nat.lcm a x ≤ a * 8 := Nat.le_trans (lcm_le a x ha hx.1) (Nat.mul_le_mul_left _ hx.2)
    rw [List.length_cons, Nat.pow_succ, Nat.mul_comm (8 ^ l.length) 8, ← Nat.mul_assoc]
    exact Nat.mul_le_mul_right _ h3
theorem lcm_dvd_fold : ∀ (l : List Nat) (a : Nat), a ∣ l.foldl Nat.lcm a ∧ ∀ x ∈ l, x ∣ l.foldl Nat.lcm a
  | [], a => ⟨Nat.dvd_refl a, fun _ h => by cases h⟩
  | x :: l, a => by
    obtain ⟨h1, h2⟩ := lcm_dvd_fold l (Nat.lcm a x)
    refine ⟨Nat.dvd_trans (Nat.dvd_lcm_left a x) h1, fun y hy => ?_⟩
    rcases List.mem_cons.mp hy with rfl | hy
    · exact Nat.dvd_trans (Nat.dvd_lcm_right a y) h1
    · exact h2 y hy
theorem fold_lcm_dvd : ∀ (l : List Nat) (a k : Nat), a ∣ k → (∀ x ∈ l, x ∣ k) → l.foldl Nat.lcm a ∣ k
  | [], a, k, h, _ => h
  | x :: l, a, k, h, hl => fold_lcm_dvd l (Nat.lcm a x) k (Nat.lcm_dvd h (hl x List.mem_cons_self)) fun y hy => hl y (List.mem_cons_of_mem _ hy)
theorem gn_ok {t : Task} (h : t.Ok) : 0 < gn t ∧ gn t ≤ 8 ∧ (gn t : Int) = t.gap := by
  have := h.gap
  unfold gn
  omega
theorem c_rounds {s : Sys} (h : s.Ok) : (fnsAt pg wf (n + 2)).call 9 [sD s] S = .ok (.int (rnd s : Nat)) S := by
  rw [call_at rfl]
  refine RPost.eq ?_
  refine w_fd rfl ?_
  unfold f_rounds_of
  walk_at "fr"
  repeat walk_at "w"
  rw [c_tasks_of]
  repeat walk_at "w"
  have hsl := sup_len h
  refine for_inv (fun ds fr S' => ∃ (rest : List Task) (acc : Nat) (a : Option D), ds = rest.map tD ∧ (∀ t ∈ rest, t.Ok) ∧ S' = S ∧ fr = [some (sD s), some (.int acc), a] ∧ (rest.map gn).foldl Nat.lcm acc = rnd s ∧ 0 < acc ∧ acc * 8 ^ rest.length ≤ 1024) ?_ ?_ _ _ _
    ⟨s.tasks, s.sup.length, none, rfl, h.task, rfl, by rw [← List.length_map (f := D.int)]; rfl, rfl, hsl.1, by
      have hf := h.few
      have h8 : 8 ^ s.tasks.length ≤ 8 ^ 3 := Nat.pow_le_pow_right (by decide) hf
      have := Nat.mul_le_mul hsl.2 h8
      omega⟩
  · rintro d ds fr S' ⟨rest, acc, a, e, hr, rfl, rfl, ha, hp, hb⟩
    cases rest with
    | nil => cases e
    | cons t rest =>
      cases e
      have ht := hr t List.mem_cons_self
      have hg := ht.gap
      obtain ⟨g1, g2, g3⟩ := gn_ok ht
      have hpw : 0 < 8 ^ rest.length := Nat.pow_pos (by decide)
      rw [List.length_cons, Nat.pow_succ] at hb
      have hacc : acc * 8 ≤ 1024 := by
        have := Nat.mul_le_mul_left (acc * 8) (show 1 ≤ 8 ^ rest.length from hpw)
        rw [Nat.mul_comm (8 ^ rest.length) 8, ← Nat.mul_assoc] at hb
        omega
      have q1 : 0 < ((Nat.gcd (acc : Int).natAbs t.gap.natAbs : Nat) : Int) := gc_pos (t := acc) (b := t.gap) (by omega)
      have q2 : ((Nat.gcd (acc : Int).natAbs t.gap.natAbs : Nat) : Int) ≤ t.gap := gc_le (t := acc) (b := t.gap) (by omega)
      refine ⟨_, rfl, ?_⟩
      repeat walk_at "w"
      have e1 : ((acc : Int) * t.gap / ((Nat.gcd (acc : Int).natAbs t.gap.natAbs : Nat) : Int)) = ((Nat.lcm acc (gn t) : Nat) : Int) := by
        have e2 : t.gap.natAbs = gn t := by omega
        rw [e2, Int.natAbs_natCast, ← g3, ← Int.natCast_mul, ← Int.natCast_ediv]
        rfl
      refine ⟨rest, Nat.lcm acc (gn t), some (tD t), rfl, fun u hu => hr u (List.mem_cons_of_mem _ hu), rfl, ?_, ha, Nat.lcm_pos hp g1, ?_⟩
      · rw [← e1]; rfl
      · have h3 : Nat.lcm acc (gn t) ≤ acc * 8 := Nat.le_trans (lcm_le _ _ hp g1) (Nat.mul_le_mul_left _ g2)
        have := Nat.mul_le_mul_right (8 ^ rest.length) h3
        rw [Nat.mul_comm (8 ^ rest.length) 8, ← Nat.mul_assoc] at hb
        omega
  · rintro fr S' ⟨rest, acc, a, e, hr, rfl, rfl, ha, hp, hb⟩
    have e : rest = [] := List.map_eq_nil_iff.mp e.symm
    subst e
    repeat walk_at "w"
    exact ⟨congrArg (fun k : Nat => D.int k) ha, rfl⟩
/-! ### the work -/
def work (t : Task) (m : Int) : Int := (m + t.due - t.most) / t.gap * t.most + (if m + t.due - t.most - (m + t.due - t.most) / t.gap * t.gap < t.most then m + t.due - t.most - (m + t.due - t.most) / t.gap * t.gap else t.most)
theorem c_work {t : Task} (h : t.Ok) {m : Int} : (fnsAt pg wf (n + 1)).call 11 [tD t, .int m] S = .ok (.int (work t m)) S := by
  have hg := h.gap
  have hm := h.most
  rw [call_at rfl]
  refine RPost.eq ?_
  refine w_fd rfl ?_
  unfold f_work_of
  walk_at "fr"
  repeat walk_at "w"
  exact ⟨rfl, rfl⟩
/-! ### the system begun at a phase -/
theorem c_begun {s : Sys} (h : s.Ok) {k : Nat} (hk : k ≤ s.sup.length) : (fnsAt pg wf (n + 1)).call 12 [sD s, .int (k : Nat)] S = .ok (sD { s with sup := s.sup.drop k ++ s.sup.take k }) S := by
  have hsl := sup_len h
  rw [call_at rfl]
  refine RPost.eq ?_
  refine w_fd rfl ?_
  unfold f_begun_at
  walk_at "fr"
  repeat walk_at "w"
  rw [cut_from, cut_to, ← List.map_drop, ← List.map_take]
  refine ⟨_, b_addT (by rw [List.length_map, List.length_map, List.length_drop, List.length_take]; omega), ?_⟩
  rw [← List.map_append]
  repeat walk_at "w"
  exact ⟨rfl, rfl⟩
/-! ### rows of supply -/
theorem c_rows {sup : List Int} (h : SupOk sup) {k : Nat} (hk : k ≤ 200) : (fnsAt pg wf (n + 2)).call 13 [supD sup, .int (k : Nat)] S = .ok (.tup ((List.range (k + 1)).map fun (j : Nat) => .int (ls sup j))) S := by
  rw [call_at rfl]
  refine RPost.eq ?_
  refine w_fd rfl ?_
  unfold f_supply_rows
  walk_at "fr"
  repeat walk_at "w"
  rw [show ((k : Int) + 1).toNat = k + 1 from by omega]
  refine w_comp_pure (fun j : Nat => D.int (j : Nat)) (fun _ => true) (fun j => D.int (ls sup j)) (List.range (k + 1)) rfl (by rw [List.length_range]; exact small_ok (by omega)) (fun j hj => ⟨_, rfl, rfl, fun _ => ?_⟩) ?_
  · refine RPost.eq ?_
    repeat walk_at "w"
    rw [c_ls h (by omega)]
    repeat walk_at "w"
    exact ⟨rfl, rfl⟩
  · rw [filter_all]
    repeat walk_at "w"
    exact ⟨rfl, rfl⟩
/-! ### the longest gap -/
def gaps (sup : List Int) : List Int := ((List.range (sup.length + 1)).filter fun (j : Nat) => decide (ls sup j = 0)).map fun (j : Nat) => (j : Int)
theorem c_gap {sup : List Int} (h : SupOk sup) (hg : gaps sup ≠ []) : (fnsAt pg wf (n + 2)).call 15 [supD sup] S = .ok (.int (maxZ (gaps sup))) S := by
  have hl := h.le
  have e1 : ((sup.map D.int).length : Int) = sup.length := by rw [List.length_map]
  rw [call_at rfl]
  refine RPost.eq ?_
  refine w_fd rfl ?_
  unfold f_longest_gap
  walk_at "fr"
  repeat walk_at "w"
  refine w_comp_pure (fun j : Nat => D.int (j : Nat)) (fun (j : Nat) => decide (ls sup j = 0)) (fun j => D.int (j : Nat)) (List.range (sup.length + 1)) (by rw [List.length_map]; rfl) (by rw [List.length_range]; exact small_ok (by omega)) (fun j hj => ⟨_, rfl, ?_, fun _ => rfl⟩) ?_
  · refine RPost.eq ?_
    repeat walk_at "w"
    rw [c_ls h (by omega)]
    repeat walk_at "w"
    exact ⟨rfl, rfl⟩
  · repeat walk_at "w"
    have e : ((List.range (sup.length + 1)).filter fun (j : Nat) => decide (ls sup j = 0)).map (fun (j : Nat) => D.int (j : Nat)) = (gaps sup).map D.int := by unfold gaps; rw [List.map_map]; rfl
    rw [e]
    refine ⟨_, bi_max hg, ?_⟩
    repeat walk_at "w"
    exact ⟨rfl, rfl⟩
/-! ### the first that is enough -/
theorem c_first {sup : List Int} (h : SupOk sup) {am : Int} {k : Nat} (h1 : am ≤ ls sup k) (h2 : ∀ j : Nat, j < k → ls sup j < am) (hw : k < wf) : (fnsAt pg wf (n + 2)).call 16 [supD sup, .int am] S = .ok (.int (k : Nat)) S := by
  rw [call_at rfl]
  refine RPost.eq ?_
  refine w_fd rfl ?_
  unfold f_first_enough
  walk_at "fr"
  repeat walk_at "w"
  refine s_whlW ?_
  refine while_inv (fun m fr S' => ∃ j : Nat, m + j = k ∧ S' = S ∧ fr = [some (supD sup), some (.int am), some (.int (j : Nat))]) ?_ wf k _ _ hw ⟨0, rfl, rfl, rfl⟩
  rintro m fr S' ⟨j, hj, rfl, rfl⟩
  repeat walk_at "w"
  rw [c_ls h (by omega)]
  repeat walk_at "w"
  refine w_dec (fun hd => ?_) (fun hd => ?_)
  · have hjk : j < k := by
      by_cases hc : j < k
      · exact hc
      · have : j = k := by omega
        subst this
        omega
    repeat walk_at "w"
    exact ⟨m - 1, by omega, j + 1, by omega, rfl, rfl⟩
  · have hjk : j = k := by
      by_cases hc : j < k
      · exact absurd (h2 j hc) hd
      · omega
    subst hjk
    repeat walk_at "w"
    exact ⟨rfl, rfl⟩
/-! ### the supply evened out -/
theorem c_even {sup : List Int} (h : SupOk sup) : (fnsAt pg wf (n + 1)).call 17 [supD sup] S = .ok (.tup ((List.range sup.length).map fun (p : Nat) => .int (((p : Int) + 1) * sup.sum / sup.length - p * sup.sum / sup.length))) S := by
  have hp := h.pos
  have hl := h.le
  have hs := sum_bits h.bit
  have e1 : ((sup.map D.int).length : Int) = sup.length := by rw [List.length_map]
  rw [call_at rfl]
  refine RPost.eq ?_
  refine w_fd rfl ?_
  unfold f_evened supD
  walk_at "fr"
  repeat walk_at "w"
  rw [e1]
  refine w_comp_pure (fun j : Nat => D.int (j : Nat)) (fun _ => true) (fun p => .int (((p : Int) + 1) * sup.sum / sup.length - p * sup.sum / sup.length)) (List.range sup.length) (by rw [Int.toNat_natCast]) (by rw [List.length_range]; exact small_ok (by omega)) (fun j hj => ⟨_, rfl, rfl, fun _ => ?_⟩) ?_
  · refine RPost.eq ?_
    repeat walk_at "w"
    exact ⟨rfl, rfl⟩
  · rw [filter_all]
    repeat walk_at "w"
    exact ⟨rfl, rfl⟩
end k06

namespace k06
variable {wf n : Nat} {S : Store}
/-! ### the longest hold -/
def mem (l : List Str) (x : Str) : Bool := l.any fun y => y == x
def lks (s : Sys) (k : Nat) : List Str := (s.locks.filter fun l => mem ((nms s).take (k + 1)) l.1).map fun _ => "l"
def hT (s : Sys) (k : Nat) (l : Str × Int) : Bool := mem ((nms s).drop (k + 1)) l.1 && mem (lks s k) "l"
def hold (s : Sys) (k : Nat) : List Int := (s.locks.filter (hT s k)).map fun l => l.2 - 0 - 1
theorem nms_ok {s : Sys} (h : s.Ok) : ∀ x ∈ nms s, PyData.strOk x = true := fun x hx => by
  obtain ⟨t, ht, rfl⟩ := List.mem_map.mp hx
  exact abc_ok (h.short t ht)
theorem l_ok : PyData.strOk ("l" : Str) = true := by decide +kernel
theorem lks_ok {s : Sys} {k : Nat} : ∀ x ∈ lks s k, PyData.strOk x = true := fun x hx => by
  obtain ⟨t, ht, rfl⟩ := List.mem_map.mp hx
  exact l_ok
theorem few_locks {s : Sys} (h : s.Ok) : s.locks.length ≤ sizeLine := small_ok (by have := h.fewl; omega)
theorem nms_first {s : Sys} (h : s.Ok) {k : Nat} {t : Task} (ht : s.tasks[k]? = some t) : (nms s)[k]? = some t.nm ∧ ∀ j, j < k → (nms s)[j]? ≠ some t.nm := by
  have e : (nms s)[k]? = some t.nm := by unfold nms; rw [List.getElem?_map, ht]; rfl
  refine ⟨e, fun j hj hn => ?_⟩
  obtain ⟨h1, h2⟩ := List.getElem?_eq_some_iff.mp e
  obtain ⟨h3, h4⟩ := List.getElem?_eq_some_iff.mp hn
  have := (List.getElem_inj (h₀ := h3) (h₁ := h1) h.names).mp (h4.trans h2.symm)
  omega
theorem take_sub {l : List Str} (h : ∀ x ∈ l, PyData.strOk x = true) (k : Nat) : ∀ x ∈ l.take k, PyData.strOk x = true := fun x hx => h x (List.mem_of_mem_take hx)
theorem drop_sub {l : List Str} (h : ∀ x ∈ l, PyData.strOk x = true) (k : Nat) : ∀ x ∈ l.drop k, PyData.strOk x = true := fun x hx => h x (List.mem_of_mem_drop hx)
theorem c_hold {s : Sys} (h : s.Ok) {k : Nat} {t : Task} (ht : s.tasks[k]? = some t) : (fnsAt pg wf (n + 2)).call 10 [sD s, .str t.nm] S = .ok (.int ((hold s k).max?.getD 0)) S := by
  obtain ⟨i1, i2⟩ := nms_first h ht
  have hk := abc_ok (h.short t (List.mem_of_getElem? ht))
  rw [call_at rfl]
  refine RPost.eq ?_
  refine w_fd rfl ?_
  unfold f_hold_of
  walk_at "fr"
  repeat walk_at "w"
  rw [c_names_of h]
  repeat walk_at "w"
  refine ⟨rfl, ?_⟩
  repeat walk_at "w"
  refine ⟨_, me_index hk (nms_ok h) i1 i2, ?_⟩
  repeat walk_at "w"
  refine ⟨rfl, ?_⟩
  repeat walk_at "w"
  refine ⟨_, me_index hk (nms_ok h) i1 i2, ?_⟩
  repeat walk_at "w"
  rw [show ((k : Int) + 1) = ((k + 1 : Nat) : Int) from by omega, cut_to, cut_from, ← List.map_take, ← List.map_drop]
  refine w_comp_pure lkD (fun l => mem ((nms s).take (k + 1)) l.1) (fun _ => .str "l") s.locks rfl (few_locks h) (fun l hl => ⟨_, rfl, ?_, fun _ => rfl⟩) ?_
  · refine RPost.eq ?_
    repeat walk_at "w"
    refine ⟨_, in_strs (abc_ok (h.lock l hl).2.2) (take_sub (nms_ok h) _), ?_⟩
    exact ⟨rfl, rfl⟩
  repeat walk_at "w"
  refine w_comp_pure lkD (hT s k) (fun l => .int (l.2 - 0 - 1)) s.locks rfl (few_locks h) (fun l hl => ⟨_, rfl, ?_, fun _ => rfl⟩) ?_
  · refine RPost.eq ?_
    repeat walk_at "w"
    refine ⟨_, in_strs (abc_ok (h.lock l hl).2.2) (drop_sub (nms_ok h) _), ?_⟩
    have e : (s.locks.filter fun l => mem ((nms s).take (k + 1)) l.1).map (fun _ => D.str "l") = (lks s k).map .str := by unfold lks; rw [List.map_map]; rfl
    rw [e]
    refine w_bool (fun h1 => ?_) (fun h1 => ?_)
    · repeat walk_at "w"
      refine ⟨_, in_strs l_ok lks_ok, ?_⟩
      refine ⟨?_, rfl⟩
      unfold hT
      rw [show mem ((nms s).drop (k + 1)) l.1 = true from h1]
      rfl
    · refine ⟨?_, rfl⟩
      unfold hT
      rw [show mem ((nms s).drop (k + 1)) l.1 = false from h1]
      rfl
  repeat walk_at "w"
  have e : (s.locks.filter (hT s k)).map (fun l => D.int (l.2 - 0 - 1)) = (hold s k).map .int := by unfold hold; rw [List.map_map]; rfl
  rw [e]
  refine ⟨_, md_ints _ _ _, ?_⟩
  repeat walk_at "w"
  refine ⟨?_, rfl⟩
  show (match (hold s k).max? with | some m => D.int m | none => D.int 0) = _
  cases (hold s k).max? <;> rfl
end k06

namespace k06
variable {wf n : Nat} {S : Store}
/-! ### gives more -/
def gm (a b : List Int) : Bool := !decide (a.sum * b.length < b.sum * a.length) && (List.range (a.length * b.length + 1)).all fun (j : Nat) => decide (ls b j ≤ ls a j)
theorem len_mul {a b : List Int} (ha : SupOk a) (hb : SupOk b) : a.length * b.length ≤ 144 := by
  have := Nat.mul_le_mul ha.le hb.le
  omega
theorem c_more {a b : List Int} (ha : SupOk a) (hb : SupOk b) : (fnsAt pg wf (n + 3)).call 14 [supD a, supD b] S = .ok (.bl (gm a b)) S := by
  have a1 := ha.le
  have b1 := hb.le
  have a2 := sum_bits ha.bit
  have b2 := sum_bits hb.bit
  have ea : ((a.map D.int).length : Int) = a.length := by rw [List.length_map]
  have eb : ((b.map D.int).length : Int) = b.length := by rw [List.length_map]
  rw [call_at rfl]
  refine RPost.eq ?_
  have e0 : [supD a, supD b].length = f_gives_more.np := rfl
  with_reducible refine w_fd e0 ?_
  unfold f_gives_more supD
  walk_at "fr"
  repeat walk_at "w"
  rw [ea, eb]
  refine w_dec (fun hc => ?_) (fun hc => ?_)
  · repeat walk_at "w"
    refine ⟨?_, rfl⟩
    unfold gm
    rw [decide_eq_true hc]; rfl
  · repeat walk_at "w"
    refine s_zallW ?_
    have hm : ((a.length : Int) * b.length) = ((a.length * b.length : Nat) : Int) := by rw [Int.natCast_mul]
    have hlm := len_mul ha hb
    repeat walk_at "w"
    have e3 : (if (144 : Int) < (a.length : Int) * b.length then (144 : Int) else (a.length : Int) * b.length) = ((a.length * b.length : Nat) : Int) := by rw [hm, if_neg (by omega)]
    rw [e3, show D.tup (a.map D.int) = supD a from rfl, show D.tup (b.map D.int) = supD b from rfl, c_rows ha (by omega)]
    repeat walk_at "w"
    rw [e3, c_rows hb (by omega)]
    repeat walk_at "w"
    refine ⟨_, _, rfl, rfl, (by simp), ?_⟩
    rw [zipD_map]
    refine w_comp_pure (fun j : Nat => D.tup [.int (ls a j), .int (ls b j)]) (fun _ => true) (fun j => D.bl (decide (ls b j ≤ ls a j))) (List.range (a.length * b.length + 1)) rfl (by rw [List.length_range]; exact small_ok (by omega)) (fun j hj => ⟨_, rfl, rfl, fun _ => ?_⟩) ?_
    · refine RPost.eq ?_
      repeat walk_at "w"
      exact ⟨rfl, rfl⟩
    · rw [filter_all]
      refine ⟨(List.range (a.length * b.length + 1)).map fun (j : Nat) => decide (ls b j ≤ ls a j), ?_, ?_⟩
      · rw [show (fun (j : Nat) => D.bl (decide (ls b j ≤ ls a j))) = D.bl ∘ fun (j : Nat) => decide (ls b j ≤ ls a j) from rfl, ← List.map_map, bools_of]
      · repeat walk_at "w"
        refine ⟨?_, rfl⟩
        unfold gm
        rw [decide_eq_false hc, List.all_map]
        rfl
/-! ### the law's own functions -/
theorem nat_gcd_step (a b : Nat) : Nat.gcd a b = Nat.gcd b (a % b) := by rw [Nat.gcd_comm a b, Nat.gcd_rec b a, Nat.gcd_comm]
theorem c_lawlow (t b : Int) (hb : 0 < b) (hb2 : b < 1000000) (hw : 1000000 < wf) : (fnsAt pg wf (n + 1)).call 23 [.int t, .int b] S = .ok (rD (low t b)) S := by
  rw [call_at rfl]
  refine RPost.eq ?_
  refine w_fd rfl ?_
  unfold f__law_low
  walk_at "fr"
  repeat walk_at "w"
  refine s_whlW ?_
  rw [fuel_at, show (if t < 0 then -t else t) = ((t.natAbs : Nat) : Int) from by split <;> omega, show D.int b = D.int ((b.natAbs : Nat) : Int) from by rw [Int.natAbs_of_nonneg (Int.le_of_lt hb)]]
  refine while_inv (fun m fr S' => ∃ x y : Nat, m = y ∧ S' = S ∧ fr = [some (.int t), some (.int ((b.natAbs : Nat) : Int)), some (.int (x : Nat)), some (.int (y : Nat))] ∧ Nat.gcd x y = Nat.gcd t.natAbs b.natAbs) ?_ wf b.natAbs _ _ (by omega) ⟨t.natAbs, b.natAbs, rfl, rfl, rfl, rfl⟩
  rintro m fr S' ⟨x, y, rfl, rfl, rfl, hg⟩
  repeat walk_at "w"
  refine w_dec (fun hd => ?_) (fun hd => ?_)
  · repeat walk_at "w"
    exact ⟨x % m, Nat.mod_lt _ (by omega), m, x % m, rfl, rfl, by rw [Int.natCast_emod]; rfl, by rw [← hg, nat_gcd_step x m]⟩
  · have hy : m = 0 := by omega
    subst hy
    rw [Nat.gcd_zero_right] at hg
    have h1 := gc_pos (t := t) hb
    have h2 := gc_le (t := t) hb
    have h3 : gc t b = (x : Int) := by unfold gc; rw [hg]
    repeat walk_at "w"
    refine ⟨?_, rfl⟩
    unfold rD low
    rw [h3, Int.natAbs_of_nonneg (Int.le_of_lt hb)]
theorem c_lawadd (a b : Int × Int) (ha : 0 < a.2) (ha2 : a.2 < 1000) (hb : 0 < b.2) (hb2 : b.2 < 1000) (hw : 1000000 < wf) : (fnsAt pg wf (n + 2)).call 24 [rD a, rD b] S = .ok (rD (plus a b)) S := by
  rw [call_at rfl]
  refine RPost.eq ?_
  refine w_fd rfl ?_
  unfold f__law_add
  walk_at "fr"
  repeat walk_at "w"
  have h1 : 0 < a.2 * b.2 := Int.mul_pos ha hb
  have h2 : a.2 * b.2 < 1000000 := by
    have := Int.mul_lt_mul ha2 (Int.le_of_lt hb2) hb (by decide)
    omega
  rw [c_lawlow _ _ h1 h2 hw]
  repeat walk_at "w"
  exact ⟨rfl, rfl⟩
theorem c_lawsum {l : List (Int × Int)} (h : Small l (0, 1)) (hw : 1000000 < wf) : (fnsAt pg wf (n + 3)).call 25 [.lst (l.map rD)] S = .ok (rD (sumQ l)) S := by
  rw [call_at rfl]
  refine RPost.eq ?_
  refine w_fd rfl ?_
  unfold f__law_sum
  walk_at "fr"
  repeat walk_at "w"
  refine for_inv (fun ds fr S' => ∃ (rest : List (Int × Int)) (acc : Int × Int) (a : Option D), ds = rest.map rD ∧ S' = S ∧ fr = [some (.lst (l.map rD)), some (rD acc), a] ∧ rest.foldl plus acc = sumQ l ∧ Small rest acc) ?_ ?_ _ _ _ ⟨l, (0, 1), none, rfl, rfl, rfl, rfl, h⟩
  · rintro d ds fr S' ⟨rest, acc, a, e, rfl, rfl, ha, hs⟩
    cases rest with
    | nil => cases e
    | cons q rest =>
      cases e
      refine ⟨_, rfl, ?_⟩
      repeat walk_at "w"
      have hq := hs.all q List.mem_cons_self
      have hl := hs.lt
      rw [c_lawadd _ _ hs.pos hl hq.1 (by omega) hw]
      repeat walk_at "w"
      exact ⟨rest, _, _, rfl, rfl, rfl, ha, hs.step⟩
  · rintro fr S' ⟨rest, acc, a, e, rfl, rfl, ha, hs⟩
    have e : rest = [] := List.map_eq_nil_iff.mp e.symm
    subst e
    repeat walk_at "w"
    exact ⟨congrArg rD ha, rfl⟩
theorem c_lawdem {s : Sys} (h : s.Ok) {x : Int} : (fnsAt pg wf (n + 1)).call 31 [sD s, .int x] S = .ok (.int (demand s x)) S := by
  rw [call_at rfl]
  refine RPost.eq ?_
  refine w_fd rfl ?_
  unfold f__law_demand
  walk_at "fr"
  repeat walk_at "w"
  refine w_comp_pure tD (fun t => decide (t.due ≤ x)) (fun t => .int (dem1 t x)) s.tasks rfl (few_tasks h) (fun t ht => ⟨_, rfl, ?_, fun _ => ?_⟩) ?_
  · refine RPost.eq ?_
    repeat walk_at "w"
    exact ⟨rfl, rfl⟩
  · have ho := h.task t ht
    have hg := ho.gap
    have hm := ho.most
    refine RPost.eq ?_
    repeat walk_at "w"
    exact ⟨rfl, rfl⟩
  · repeat walk_at "w"
    have e : (s.tasks.filter fun t => decide (t.due ≤ x)).map (fun t => D.int (dem1 t x)) = ((s.tasks.filter fun t => decide (t.due ≤ x)).map fun t => dem1 t x).map .int := by rw [List.map_map]; rfl
    rw [e]
    repeat walk_at "w"
    exact ⟨rfl, rfl⟩
theorem c_lawhold {s : Sys} (h : s.Ok) {k : Nat} : (fnsAt pg wf (n + 2)).call 30 [sD s, .int (k : Nat)] S = .ok (.int (maxZ (0 :: hold s k))) S := by
  rw [call_at rfl]
  refine RPost.eq ?_
  refine w_fd rfl ?_
  unfold f__law_hold
  walk_at "fr"
  repeat walk_at "w"
  rw [c_names h]
  repeat walk_at "w"
  refine w_comp_pure lkD (fun l => mem ((nms s).take (k + 1)) l.1) (fun _ => .str "l") s.locks rfl (few_locks h) (fun l hl => ⟨_, rfl, ?_, fun _ => rfl⟩) ?_
  · refine RPost.eq ?_
    repeat walk_at "w"
    rw [show ((k : Int) + 1) = ((k + 1 : Nat) : Int) from by omega, cut_to, ← List.map_take]
    refine ⟨_, in_strs (abc_ok (h.lock l hl).2.2) (take_sub (nms_ok h) _), ?_⟩
    exact ⟨rfl, rfl⟩
  repeat walk_at "w"
  refine w_comp_pure lkD (hT s k) (fun l => .int (l.2 - 0 - 1)) s.locks rfl (few_locks h) (fun l hl => ⟨_, rfl, ?_, fun _ => rfl⟩) ?_
  · refine RPost.eq ?_
    repeat walk_at "w"
    rw [show ((k : Int) + 1) = ((k + 1 : Nat) : Int) from by omega, cut_from, ← List.map_drop]
    refine ⟨_, in_strs (abc_ok (h.lock l hl).2.2) (drop_sub (nms_ok h) _), ?_⟩
    have e : (s.locks.filter fun l => mem ((nms s).take (k + 1)) l.1).map (fun _ => D.str "l") = (lks s k).map .str := by unfold lks; rw [List.map_map]; rfl
    rw [e]
    refine w_bool (fun h1 => ?_) (fun h1 => ?_)
    · repeat walk_at "w"
      refine ⟨_, in_strs l_ok lks_ok, ?_⟩
      refine ⟨?_, rfl⟩
      unfold hT
      rw [show mem ((nms s).drop (k + 1)) l.1 = true from h1]
      rfl
    · refine ⟨?_, rfl⟩
      unfold hT
      rw [show mem ((nms s).drop (k + 1)) l.1 = false from h1]
      rfl
  have hf := h.fewl
  have hlen : ((s.locks.filter (hT s k)).map fun l => D.int (l.2 - 0 - 1)).length ≤ 3 := by
    rw [List.length_map]
    exact Nat.le_trans (List.length_filter_le _ _) hf
  refine ⟨_, b_addL (a := [D.int 0]) (by rw [List.length_singleton]; omega), ?_⟩
  have e : [D.int 0] ++ (s.locks.filter (hT s k)).map (fun l => D.int (l.2 - 0 - 1)) = (0 :: hold s k).map .int := by unfold hold; rw [List.map_cons, List.map_map]; rfl
  rw [e]
  repeat walk_at "w"
  refine ⟨_, bi_max (by simp), ?_⟩
  repeat walk_at "w"
  exact ⟨rfl, rfl⟩
end k06

namespace k06
variable {wf n : Nat} {S : Store}
/-! ### the supply, slot by slot -/
def cyc (sup : List Int) (a m : Nat) : Int := ((List.range m).map fun k => sup.getD ((a + k) % sup.length) 0).sum
theorem dbl_get {sup : List Int} {i : Nat} (h : i < 2 * sup.length) : (sup ++ sup)[i]? = some (sup.getD (i % sup.length) 0) := by
  by_cases hi : i < sup.length
  · rw [List.getElem?_append_left hi, Nat.mod_eq_of_lt hi, List.getD_eq_getElem?_getD, List.getElem?_eq_getElem hi]; rfl
  · have e : i % sup.length = i - sup.length := by rw [Nat.mod_eq_sub_mod (by omega), Nat.mod_eq_of_lt (by omega)]
    rw [List.getElem?_append_right (by omega), e, List.getD_eq_getElem?_getD, List.getElem?_eq_getElem (by omega)]; rfl
theorem win_cyc {sup : List Int} {a : Nat} (ha : a < sup.length) : ∀ r, r ≤ sup.length → cyc sup a r = win sup r a
  | 0, _ => by simp [cyc, win]
  | r + 1, h => by
    have ih := win_cyc ha r (by omega)
    unfold cyc win at *
    rw [List.range_succ, List.map_append, List.sum_append, ih, List.take_add_one, List.sum_append, List.getElem?_drop, dbl_get (by omega)]
    simp
theorem win_full {sup : List Int} {a : Nat} (ha : a ≤ sup.length) : win sup sup.length a = sup.sum := by
  unfold win
  rw [List.drop_append_of_le_length ha, List.take_append, List.length_drop, List.take_of_length_le (by rw [List.length_drop]; omega), show sup.length - (sup.length - a) = a from by omega, List.sum_append, Int.add_comm, ← List.sum_append, List.take_append_drop]
theorem cyc_add {sup : List Int} {a : Nat} (hp : 0 < sup.length) (ha : a < sup.length) (m : Nat) : cyc sup a (sup.length + m) = sup.sum + cyc sup a m := by
  have h1 := win_cyc ha sup.length (Nat.le_refl _)
  rw [win_full (Nat.le_of_lt ha)] at h1
  rw [← h1]
  unfold cyc
  rw [List.range_add, List.map_append, List.sum_append, List.map_map]
  congr 2
  refine List.map_congr_left fun k hk => ?_
  show sup.getD ((a + (sup.length + k)) % sup.length) 0 = _
  rw [show a + (sup.length + k) = a + k + sup.length from by omega, Nat.add_mod_right]
theorem cyc_eq {sup : List Int} {a : Nat} (hp : 0 < sup.length) (ha : a < sup.length) : ∀ q r : Nat, r < sup.length → cyc sup a (sup.length * q + r) = q * sup.sum + win sup r a
  | 0, r, hr => by
    rw [Nat.mul_zero, Nat.zero_add, win_cyc ha r (Nat.le_of_lt hr)]
    simp
  | q + 1, r, hr => by
    rw [show sup.length * (q + 1) + r = sup.length + (sup.length * q + r) from by rw [Nat.mul_succ]; omega, cyc_add hp ha, cyc_eq hp ha q r hr]
    rw [show ((q + 1 : Nat) : Int) = (q : Int) + 1 from by omega, Int.add_mul]
    omega
theorem minZ_iff {l : List Int} (hl : l ≠ []) {m : Int} : minZ l = m ↔ m ∈ l ∧ ∀ b ∈ l, m ≤ b := by
  have h := List.min?_eq_some_iff (a := m) (xs := l)
  unfold minZ
  cases e : l.min? with
  | none => exact absurd (List.min?_eq_none_iff.mp e) hl
  | some x =>
    rw [e] at h
    constructor
    · intro hm
      exact h.mp (congrArg some hm)
    · intro hm
      exact Option.some.inj (h.mpr hm)
theorem maxZ_iff {l : List Int} (hl : l ≠ []) {m : Int} : maxZ l = m ↔ m ∈ l ∧ ∀ b ∈ l, b ≤ m := by
  have h := List.max?_eq_some_iff (a := m) (xs := l)
  unfold maxZ
  cases e : l.max? with
  | none => exact absurd (List.max?_eq_none_iff.mp e) hl
  | some x =>
    rw [e] at h
    constructor
    · intro hm
      exact h.mp (congrArg some hm)
    · intro hm
      exact Option.some.inj (h.mpr hm)
theorem minZ_add {l : List Nat} (hl : l ≠ []) (c : Int) (f : Nat → Int) : minZ (l.map fun a => c + f a) = c + minZ (l.map f) := by
  have hne : l.map f ≠ [] := by simpa using hl
  obtain ⟨h1, h2⟩ := (minZ_iff hne).mp rfl
  refine (minZ_iff (by simpa using hl)).mpr ⟨?_, fun b hb => ?_⟩
  · obtain ⟨a, ha, e⟩ := List.mem_map.mp h1
    rw [← e]
    exact List.mem_map.mpr ⟨a, ha, rfl⟩
  · obtain ⟨a, ha, rfl⟩ := List.mem_map.mp hb
    have := h2 _ (List.mem_map_of_mem ha)
    omega
theorem ls_nat {sup : List Int} (hp : 0 < sup.length) (m : Nat) : ls sup m = minZ ((List.range sup.length).map fun a => cyc sup a m) := by
  have hr : m % sup.length < sup.length := Nat.mod_lt _ hp
  have hm : sup.length * (m / sup.length) + m % sup.length = m := Nat.div_add_mod m _
  have e : (List.range sup.length).map (fun a => cyc sup a m) = (List.range sup.length).map fun a => ((m / sup.length : Nat) : Int) * sup.sum + win sup (m % sup.length) a := by
    refine List.map_congr_left fun a ha => ?_
    have q := cyc_eq hp (List.mem_range.mp ha) (m / sup.length) (m % sup.length) hr
    rw [hm] at q
    exact q
  rw [e, minZ_add (by intro z; have := congrArg List.length z; rw [List.length_range, List.length_nil] at this; omega)]
  unfold ls lsr
  rw [← Int.natCast_ediv, ← Int.natCast_emod, Int.toNat_natCast]
theorem c_lawls {sup : List Int} (h : SupOk sup) {m : Nat} (hm : m ≤ 1000) : (fnsAt pg wf (n + 1)).call 29 [supD sup, .int (m : Nat)] S = .ok (.int (ls sup m)) S := by
  have hp := h.pos
  have hl := h.le
  have e1 : ((sup.map D.int).length : Int) = sup.length := by rw [List.length_map]
  rw [call_at rfl]
  refine RPost.eq ?_
  refine w_fd rfl ?_
  unfold f__law_least_supply supD
  walk_at "fr"
  repeat walk_at "w"
  rw [e1]
  refine w_comp_pure (fun j : Nat => D.int (j : Nat)) (fun _ => true) (fun j => D.int (cyc sup j m)) (List.range sup.length) (by rw [Int.toNat_natCast]) (by rw [List.length_range]; exact small_ok (by omega)) (fun j hj => ⟨_, rfl, rfl, fun _ => ?_⟩) ?_
  · refine RPost.eq ?_
    repeat walk_at "w"
    refine w_comp_pure (fun j : Nat => D.int (j : Nat)) (fun _ => true) (fun k => D.int (sup.getD ((j + k) % sup.length) 0)) (List.range m) (by rw [Int.toNat_natCast]) (by rw [List.length_range]; exact small_ok (by omega)) (fun k hk => ⟨_, rfl, rfl, fun _ => ?_⟩) ?_
    · refine RPost.eq ?_
      repeat walk_at "w"
      refine ⟨.int (sup.getD ((j + k) % sup.length) 0), ?_, rfl, rfl⟩
      show atI (sup.map D.int) ((((j : Int) + (k : Int)) % (sup.length : Int))) = _
      rw [← Int.natCast_add, ← Int.natCast_emod]
      refine atI_nat ?_
      have hr : (j + k) % sup.length < sup.length := Nat.mod_lt _ hp
      rw [List.getElem?_map, List.getD_eq_getElem?_getD, List.getElem?_eq_getElem hr]
      rfl
    · rw [filter_all]
      have e : (List.range m).map (fun k => D.int (sup.getD ((j + k) % sup.length) 0)) = ((List.range m).map fun k => sup.getD ((j + k) % sup.length) 0).map .int := by rw [List.map_map]; rfl
      rw [e]
      repeat walk_at "w"
      exact ⟨rfl, rfl⟩
  · rw [filter_all]
    have e : (List.range sup.length).map (fun j => D.int (cyc sup j m)) = ((List.range sup.length).map fun j => cyc sup j m).map .int := by rw [List.map_map]; rfl
    rw [e]
    repeat walk_at "w"
    refine ⟨_, bi_min (by intro z; have := congrArg List.length z; rw [List.length_map, List.length_range, List.length_nil] at this; omega), ?_⟩
    repeat walk_at "w"
    refine ⟨?_, rfl⟩
    rw [ls_nat hp]
end k06

namespace k06
variable {wf n : Nat} {S : Store}
/-! ### facts of the least supply -/
theorem rng_ne {k : Nat} (h : 0 < k) : List.range k ≠ [] := by
  intro z
  have := congrArg List.length z
  rw [List.length_range, List.length_nil] at this
  omega
theorem ls_zero {sup : List Int} (hp : 0 < sup.length) : ls sup (0 : Nat) = 0 := by
  rw [ls_nat hp]
  refine (minZ_iff (by simpa using rng_ne hp)).mpr ⟨?_, fun b hb => ?_⟩
  · exact List.mem_map.mpr ⟨0, List.mem_range.mpr hp, by simp [cyc]⟩
  · obtain ⟨a, ha, rfl⟩ := List.mem_map.mp hb
    simp [cyc]
theorem ls_add {sup : List Int} (hp : 0 < sup.length) (m : Nat) : ls sup ((sup.length + m : Nat)) = sup.sum + ls sup m := by
  rw [ls_nat hp, ls_nat hp, ← minZ_add (rng_ne hp)]
  congr 1
  exact List.map_congr_left fun a ha => cyc_add hp (List.mem_range.mp ha) m
theorem ls_mul {sup : List Int} (hp : 0 < sup.length) (m : Nat) : ∀ k : Nat, ls sup ((k * sup.length + m : Nat)) = k * sup.sum + ls sup m
  | 0 => by
    rw [Nat.zero_mul, Nat.zero_add]
    simp
  | k + 1 => by
    rw [show (k + 1) * sup.length + m = sup.length + (k * sup.length + m) from by rw [Nat.succ_mul]; omega, ls_add hp, ls_mul hp m k, show ((k + 1 : Nat) : Int) = (k : Int) + 1 from by omega, Int.add_mul]
    omega
theorem gm_eq {a b : List Int} (ha : 0 < a.length) (hb : 0 < b.length) : gm a b = ((List.range (2 * (a.length * b.length) + 1)).filter fun (m : Nat) => decide (ls a m < ls b m)).isEmpty := by
  have ea : ls a ((a.length * b.length : Nat)) = a.sum * b.length := by
    have := ls_mul ha 0 b.length
    rw [Nat.add_zero, ls_zero ha, Nat.mul_comm, Int.add_zero, Int.mul_comm] at this
    exact this
  have eb : ls b ((a.length * b.length : Nat)) = b.sum * a.length := by
    have := ls_mul hb 0 a.length
    rw [Nat.add_zero, ls_zero hb, Int.add_zero, Int.mul_comm] at this
    exact this
  have sa : ∀ m : Nat, ls a ((a.length * b.length + m : Nat)) = a.sum * b.length + ls a m := fun m => by
    have := ls_mul ha m b.length
    rw [Nat.mul_comm b.length, Int.mul_comm] at this
    exact this
  have sb : ∀ m : Nat, ls b ((a.length * b.length + m : Nat)) = b.sum * a.length + ls b m := fun m => by
    have := ls_mul hb m a.length
    rw [Int.mul_comm] at this
    exact this
  unfold gm
  rw [Bool.eq_iff_iff, Bool.and_eq_true, Bool.not_eq_true', decide_eq_false_iff_not, List.all_eq_true, List.isEmpty_iff, List.filter_eq_nil_iff]
  simp only [List.mem_range, decide_eq_true_eq]
  generalize a.length * b.length = L at *
  constructor
  · rintro ⟨h1, h2⟩ m hm
    by_cases hc : m < L + 1
    · have := h2 m hc
      omega
    · have q := h2 (m - L) (by omega)
      have e1 := sa (m - L)
      have e2 := sb (m - L)
      rw [show L + (m - L) = m from by omega] at e1 e2
      omega
  · intro h
    refine ⟨?_, fun m hm => ?_⟩
    · have := h L (by omega)
      omega
    · have := h m (by omega)
      omega
theorem gaps_ne {sup : List Int} (hp : 0 < sup.length) : gaps sup ≠ [] := by
  have : (0 : Int) ∈ gaps sup := List.mem_map.mpr ⟨0, List.mem_filter.mpr ⟨List.mem_range.mpr (Nat.zero_lt_succ _), by simpa using ls_zero hp⟩, rfl⟩
  intro z
  rw [z] at this
  cases this
theorem gap_ok {sup : List Int} (hp : 0 < sup.length) (hs : 0 < sup.sum) : ∃ g : Nat, maxZ (gaps sup) = g ∧ g < sup.length ∧ ls sup g = 0 ∧ ls sup ((g + 1 : Nat)) ≠ 0 := by
  obtain ⟨h1, h2⟩ := (maxZ_iff (gaps_ne hp)).mp rfl
  obtain ⟨g, hg, e⟩ := List.mem_map.mp h1
  obtain ⟨hr, h0⟩ := List.mem_filter.mp hg
  have hr := List.mem_range.mp hr
  have h0 := of_decide_eq_true h0
  have hl : g < sup.length := by
    by_cases hc : g < sup.length
    · exact hc
    · have : g = sup.length + 0 := by omega
      rw [this, ls_add hp, ls_zero hp] at h0
      omega
  refine ⟨g, e.symm, hl, h0, fun hz => ?_⟩
  have := h2 ((g + 1 : Nat)) (List.mem_map.mpr ⟨g + 1, List.mem_filter.mpr ⟨List.mem_range.mpr (by omega), by simpa using hz⟩, rfl⟩)
  omega
theorem first_ok {sup : List Int} (hp : 0 < sup.length) (hs : 0 < sup.sum) (am : Nat) : ∃ k : Nat, k ≤ am * sup.length ∧ (am : Int) ≤ ls sup k ∧ ∀ j : Nat, j < k → ls sup j < am := by
  have key : ∀ N : Nat, (am : Int) ≤ ls sup N → ∃ k : Nat, k ≤ N ∧ (am : Int) ≤ ls sup k ∧ ∀ j : Nat, j < k → ls sup j < am := by
    intro N
    induction N with
    | zero => intro h; exact ⟨0, Nat.le_refl _, h, fun j hj => by omega⟩
    | succ N ih =>
      intro h
      by_cases hc : ∃ k : Nat, k ≤ N ∧ (am : Int) ≤ ls sup k
      · obtain ⟨k, hk, hk2⟩ := hc
        have go : ∀ d : Nat, ∀ k, k ≤ d → (am : Int) ≤ ls sup k → ∃ q : Nat, q ≤ k ∧ (am : Int) ≤ ls sup q ∧ ∀ j : Nat, j < q → ls sup j < am := by
          intro d
          induction d with
          | zero => intro k hk hk2; exact ⟨k, Nat.le_refl _, hk2, fun j hj => by omega⟩
          | succ d ihd =>
            intro k hk hk2
            by_cases hx : ∃ j, j < k ∧ (am : Int) ≤ ls sup j
            · obtain ⟨j, hj, hj2⟩ := hx
              obtain ⟨q, q1, q2, q3⟩ := ihd j (by omega) hj2
              exact ⟨q, by omega, q2, q3⟩
            · exact ⟨k, Nat.le_refl _, hk2, fun j hj => by
                have : ¬ (am : Int) ≤ ls sup j := fun z => hx ⟨j, hj, z⟩
                omega⟩
        obtain ⟨q, q1, q2, q3⟩ := go k k (Nat.le_refl _) hk2
        exact ⟨q, by omega, q2, q3⟩
      · exact ⟨N + 1, Nat.le_refl _, h, fun j hj => by
          have : ¬ (am : Int) ≤ ls sup j := fun z => hc ⟨j, by omega, z⟩
          omega⟩
  refine key _ ?_
  have := ls_mul hp 0 am
  rw [Nat.add_zero, ls_zero hp, Int.add_zero] at this
  rw [this]
  have := Int.mul_le_mul_of_nonneg_left (show (1 : Int) ≤ sup.sum by omega) (show (0 : Int) ≤ am by omega)
  omega
theorem even_eq {s L : Int} (p : Int) (h0 : 0 ≤ s) (hL : s ≤ L) (hp : 0 < L) : (p + 1) * s / L - p * s / L = if (p + 1) * s / L > p * s / L then 1 else 0 := by
  have e : (p + 1) * s = p * s + s := by rw [Int.add_mul, Int.one_mul]
  rw [e]
  have h1 : p * s / L ≤ (p * s + s) / L := Int.ediv_le_ediv hp (by omega)
  have h2 : (p * s + s) / L ≤ (p * s + L) / L := Int.ediv_le_ediv hp (by omega)
  have h3 : (p * s + L) / L = p * s / L + 1 := Int.add_ediv_of_dvd_right (Int.dvd_refl L) |>.trans (by rw [Int.ediv_self (by omega)])
  split <;> omega
theorem work_eq {t : Task} (m : Int) : work t m = t.most * ((m + t.due - t.most) / t.gap) + (if (m + t.due - t.most) % t.gap < t.most then (m + t.due - t.most) % t.gap else t.most) := by
  unfold work
  have e : m + t.due - t.most - (m + t.due - t.most) / t.gap * t.gap = (m + t.due - t.most) % t.gap := by rw [Int.emod_def, Int.mul_comm]
  rw [e, Int.mul_comm]
theorem hold_eq {s : Sys} (h : s.Ok) (k : Nat) : (hold s k).max?.getD 0 = maxZ (0 :: hold s k) := by
  have hn : ∀ x ∈ hold s k, 0 ≤ x := fun x hx => by
    obtain ⟨l, hl, rfl⟩ := List.mem_map.mp hx
    have := (h.lock l (List.mem_filter.mp hl).1).1
    omega
  symm
  refine (maxZ_iff (by simp)).mpr ?_
  cases hl : hold s k with
  | nil => exact ⟨by simp, fun b hb => by
    have e : b = 0 := by simpa using hb
    subst e
    exact Int.le_refl 0⟩
  | cons x r =>
    have hne : x :: r ≠ [] := by simp
    obtain ⟨h1, h2⟩ := (maxZ_iff (l := x :: r) hne).mp rfl
    rw [hl] at hn
    refine ⟨List.mem_cons_of_mem _ h1, fun b hb => ?_⟩
    rcases List.mem_cons.mp hb with rfl | hb
    · exact hn _ h1
    · exact h2 b hb
end k06

namespace k06
variable {wf n : Nat} {S : Store}
/-! ### what the law holds alike -/
inductive Lk : Nat → D → Prop where
  | int {k : Nat} (i : Int) : Lk k (.int i)
  | bl {k : Nat} (b : Bool) : Lk k (.bl b)
  | non {k : Nat} : Lk k .non
  | str {k : Nat} {x : Str} (h : PyData.strOk x = true) (hl : x.length ≤ 1000) : Lk k (.str x)
  | tup {k : Nat} {l : List D} (h : ∀ x ∈ l, Lk k x) (hl : l.length ≤ 1000) : Lk (k + 1) (.tup l)
theorem like_atom {d : D} (h : Lk 0 d) : (fnsAt pg wf (n + 1)).call 22 [d, d] S = .ok (.bl true) S := by
  rw [call_at rfl]
  refine RPost.eq ?_
  refine w_fd rfl ?_
  unfold f__law_like
  walk_at "fr"
  cases h with
  | int i =>
    repeat walk_at "w"
    exact ⟨by simp, rfl⟩
  | bl b =>
    cases b with
    | true =>
      repeat walk_at "w"
      exact ⟨rfl, rfl⟩
    | false =>
      repeat walk_at "w"
      exact ⟨rfl, rfl⟩
  | non =>
    repeat walk_at "w"
    exact ⟨rfl, rfl⟩
  | str hx hl =>
    repeat walk_at "w"
    refine ⟨rfl, ?_⟩
    repeat walk_at "w"
    refine ⟨_, me_join1 hl, ?_⟩
    repeat walk_at "w"
    refine ⟨_, b_eqS hx hx, ?_⟩
    repeat walk_at "w"
    exact ⟨by simp, rfl⟩
theorem c_like : ∀ (k : Nat) (d : D), Lk k d → ∀ (m : Nat) (S : Store), (fnsAt pg wf (m + k + 1)).call 22 [d, d] S = .ok (.bl true) S := by
  intro k
  induction k with
  | zero => exact fun d h m S => like_atom h
  | succ k ih =>
    intro d h m S
    cases h with
    | int i => exact like_atom (.int i)
    | bl b => exact like_atom (.bl b)
    | non => exact like_atom .non
    | str hx hl => exact like_atom (.str hx hl)
    | tup h hl =>
      rename_i l
      rw [call_at rfl]
      refine RPost.eq ?_
      refine w_fd rfl ?_
      unfold f__law_like
      walk_at "fr"
      repeat walk_at "w"
      refine w_decn (fun hne => absurd rfl hne) (fun _ => ?_)
      repeat walk_at "w"
      refine w_comp_pure (fun j : Nat => D.int (j : Nat)) (fun _ => false) (fun _ => D.int 1) (List.range l.length) (by rw [Int.toNat_natCast]) (by rw [List.length_range]; exact small_ok hl) (fun j hj => ?_) ?_
      · have hj := List.mem_range.mp hj
        refine ⟨_, rfl, ?_, fun z => by cases z⟩
        refine RPost.eq ?_
        repeat walk_at "w"
        have hg : subD S (D.tup l) (D.int (j : Nat)) = some l[j] := atI_nat (List.getElem?_eq_getElem hj)
        refine ⟨_, hg, ?_⟩
        repeat walk_at "w"
        refine ⟨_, hg, ?_⟩
        repeat walk_at "w"
        rw [show m + (k + 1) = m + k + 1 from by omega, ih _ (h _ (List.getElem_mem hj)) m S]
        repeat walk_at "w"
        first | exact ⟨rfl, rfl⟩ | rfl
      · rw [show (List.range l.length).filter (fun _ => false) = [] from List.filter_eq_nil_iff.mpr fun _ _ => by decide]
        repeat walk_at "w"
        first | exact ⟨rfl, rfl⟩ | rfl
theorem c_whole {i : Int} (h : 1 ≤ i) : (fnsAt pg wf (n + 1)).call 18 [.int i, .int 1, .non] S = .ok (.bl true) S := by
  rw [call_at rfl]
  refine RPost.eq ?_
  refine w_fd rfl ?_
  unfold f__law_whole
  walk_at "fr"
  repeat walk_at "w"
  rw [decide_eq_true h]
  repeat walk_at "w"
  first | exact ⟨rfl, rfl⟩ | rfl
/-! ### the digits -/
theorem b_pow18 {S : Store} : binD .Pow S (.int 10) (.int 18) = some (.int 1000000000000000000) := rfl
theorem c_cell {ns : List Int} {k : Nat} : ∃ c : Int, (fnsAt pg wf (n + 1)).call 19 [.frz (ns.map .int), .int (k : Nat)] S = .ok (.int c) S := by
  by_cases hk : k < ns.length
  · refine ⟨ns[k], ?_⟩
    have hl : ((k : Nat) : Int) < ((ns.map D.int).length : Int) := by rw [List.length_map]; omega
    rw [call_at rfl]
    refine RPost.eq ?_
    refine w_fd rfl ?_
    unfold f__law_cell
    walk_at "fr"
    repeat walk_at "w"
    rw [decide_eq_true hl]
    repeat walk_at "w"
    refine ⟨.int ns[k], ?_, ?_⟩
    · refine atI_nat ?_
      rw [List.getElem?_map, List.getElem?_eq_getElem hk]
      rfl
    · repeat walk_at "w"
      exact ⟨rfl, rfl⟩
  · refine ⟨0, ?_⟩
    have hl : ¬ ((k : Nat) : Int) < ((ns.map D.int).length : Int) := by rw [List.length_map]; omega
    rw [call_at rfl]
    refine RPost.eq ?_
    refine w_fd rfl ?_
    unfold f__law_cell
    walk_at "fr"
    repeat walk_at "w"
    rw [decide_eq_false hl]
    repeat walk_at "w"
    exact ⟨rfl, rfl⟩
def dgC (ds : List Int) : Cell := .lst (ds.map .int)
theorem dg_app (ds : List Int) (v : Int) : Cell.lst (ds.map .int ++ [.int v]) = dgC (ds ++ [v]) := by unfold dgC; rw [List.map_append]; rfl
theorem dig_size {k : Nat} (h : k ≤ 2000) : k < sizeLine := Nat.lt_of_le_of_lt h (by decide +kernel)
theorem rb_ints (m : Nat) : ∀ ns : List Int, D.rbL m (ns.map .int) = true
  | [] => rfl
  | _ :: ns => by
    show (true && D.rbL m (ns.map .int)) = true
    rw [rb_ints m ns]; rfl
abbrev dgFr (ns : List Int) (a b c d : Option D) : Fr := [some (.frz (ns.map .int)), some (.int 0), some (.int 63), some (.ref 0), a, b, c, d]
abbrev DgP (d : D) (S' : Store) : Prop := S' = [] ∧ ∃ ds : List Int, d = .lst (ds.map .int)
theorem dg_fin {ns ds : List Int} {a b c d : Option D} {PO : Out → Store → Prop} (hPO : ∀ d S', RPost DgP (cutR 0 d S') → PO (.ret d) S') : WSs (fnsAt pg wf (n + 1)) [.fz 3, .ret (.var 3)] (dgFr ns a b c d) [dgC ds] PO := by
  refine s_consW (s_fzW (n := 0) (l := ds.map .int) rfl rfl ?_)
  refine s_consW (s_retW ?_)
  refine w_var (d := .lst (ds.map .int)) rfl ?_
  exact hPO _ _ (w_cut (Nat.zero_le _) (rb_ints 0 ds) rfl ⟨rfl, ds, rfl⟩)
/-- the many digits of a cell -/
theorem dg_big {ns ds : List Int} {a d : Option D} {c0 : Option D} {cl : Int} (hl : ds.length ≤ 1500) {PO : Out → Store → Prop} (h : ∀ (ds' : List Int) (b c : Option D), PO (.nx (dgFr ns a b c d)) [dgC ds']) :
    WS (fnsAt pg wf (n + 1)) (.for_ (.v 6) (.range [.int 60]) [.iff (.cmp .Gt (.var 5) (.int 0)) [.expr (.app (.var 3) (.bin .Mod (.bi .int [.var 5]) (.int 1000))), .asg (.v 5) (.bin .FloorDiv (.var 5) (.int 1000))] []]) (dgFr ns a (some (.int cl)) c0 d) [dgC ds] PO := by
  repeat walk_at "w"
  refine for_inv (fun l fr S' => ∃ (rest : List Nat) (ds' : List Int) (cl' : Int) (c : Option D), l = rest.map (fun j : Nat => D.int (j : Nat)) ∧ fr = dgFr ns a (some (.int cl')) c d ∧ S' = [dgC ds'] ∧ ds'.length + rest.length ≤ 1560) ?_ ?_ _ _ _ ⟨List.range 60, ds, cl, c0, rfl, rfl, rfl, by rw [List.length_range]; omega⟩
  · rintro x l fr S' ⟨rest, ds', cl', c, e, rfl, rfl, hb⟩
    cases rest with
    | nil => cases e
    | cons k rest =>
      cases e
      rw [List.length_cons] at hb
      refine ⟨dgFr ns a (some (.int cl')) (some (.int (k : Nat))) d, rfl, ?_⟩
      repeat walk_at "w"
      refine w_dec (fun hc => ?_) (fun hc => ?_)
      · repeat walk_at "w"
        refine w_app ?_
        repeat walk_at "w"
        refine ⟨0, ds'.map .int, rfl, rfl, ?_⟩
        repeat walk_at "w"
        refine ⟨ds'.map .int, rfl, by rw [List.length_map]; exact dig_size (by omega), ?_⟩
        show RPost _ _
        repeat walk_at "w"
        exact ⟨rest, ds' ++ [cl' % 1000], _, _, rfl, rfl, congrArg (fun q => [q]) (dg_app ds' _), by rw [List.length_append, List.length_singleton]; omega⟩
      · repeat walk_at "w"
        exact ⟨rest, ds', _, _, rfl, rfl, rfl, by omega⟩
  · rintro fr S' ⟨rest, ds', cl', c, e, rfl, rfl, hb⟩
    exact h ds' _ _
theorem dg_small {ns ds : List Int} {a b c0 : Option D} {sd : Int} (hl : ds.length ≤ 1500) {PO : Out → Store → Prop} (h : ∀ (ds' : List Int) (b c d : Option D), PO (.nx (dgFr ns a b c d)) [dgC ds']) :
    WS (fnsAt pg wf (n + 1)) (.for_ (.v 6) (.range [.int 12]) [.asg (.v 7) (.bin .Mod (.bi .int [.bin .Add (.bin .Add (.bin .Mult (.var 7) (.int 16807)) (.bin .Mult (.int 7) (.var 6))) (.int 1)]) (.int 2147483647)), .expr (.app (.var 3) (.bin .Mod (.bi .int [.bin .FloorDiv (.var 7) (.int 997)]) (.int 1000)))])
      (dgFr ns a b c0 (some (.int sd))) [dgC ds] PO := by
  repeat walk_at "w"
  refine for_inv (fun l fr S' => ∃ (rest : List Nat) (ds' : List Int) (sd' : Int) (c : Option D), l = rest.map (fun j : Nat => D.int (j : Nat)) ∧ fr = dgFr ns a b c (some (.int sd')) ∧ S' = [dgC ds'] ∧ ds'.length + rest.length ≤ 1560) ?_ ?_ _ _ _ ⟨List.range 12, ds, sd, c0, rfl, rfl, rfl, by rw [List.length_range]; omega⟩
  · rintro x l fr S' ⟨rest, ds', sd', c, e, rfl, rfl, hb⟩
    cases rest with
    | nil => cases e
    | cons k rest =>
      cases e
      rw [List.length_cons] at hb
      refine ⟨dgFr ns a b (some (.int (k : Nat))) (some (.int sd')), rfl, ?_⟩
      repeat walk_at "w"
      refine w_app ?_
      repeat walk_at "w"
      refine ⟨0, ds'.map .int, rfl, rfl, ?_⟩
      repeat walk_at "w"
      refine ⟨ds'.map .int, rfl, by rw [List.length_map]; exact dig_size (by omega), ?_⟩
      repeat walk_at "w"
      exact ⟨rest, ds' ++ [_], _, _, rfl, rfl, congrArg (fun q => [q]) (dg_app ds' _), by rw [List.length_append, List.length_singleton]; omega⟩
  · rintro fr S' ⟨rest, ds', sd', c, e, rfl, rfl, hb⟩
    exact h ds' _ _ _
theorem c_digits {ns : List Int} : ∃ ds : List Int, (fnsAt pg wf (n + 2)).call 20 [.frz (ns.map .int), .int 0, .int 63] [] = .ok (.lst (ds.map .int)) [] := by
  suffices h : RPost DgP ((fnsAt pg wf (n + 2)).call 20 [.frz (ns.map .int), .int 0, .int 63] []) by
    obtain ⟨d, S', e, rfl, ds, rfl⟩ := h.ex
    exact ⟨ds, e⟩
  rw [call_at rfl]
  refine w_fd rfl ?_
  unfold f__law_digits
  walk_at "fr"
  repeat walk_at "w"
  refine for_inv (fun l fr S' => ∃ (rest : List Nat) (ds : List Int) (a b c d : Option D), l = rest.map (fun j : Nat => D.int (j : Nat)) ∧ fr = dgFr ns a b c d ∧ S' = [dgC ds]) ?_ ?_ _ _ _
    ⟨List.range 63, [], none, none, none, none, List.map_congr_left fun j _ => congrArg D.int (Int.zero_add _), rfl, rfl⟩
  · rintro x l fr S' ⟨rest, ds, a, b, c, d, e, rfl, rfl⟩
    cases rest with
    | nil => cases e
    | cons k rest =>
      cases e
      refine ⟨dgFr ns (some (.int (k : Nat))) b c d, rfl, ?_⟩
      obtain ⟨cl, hcl⟩ := c_cell (wf := wf) (n := n) (S := [dgC ds]) (ns := ns) (k := k)
      refine s_consW (s_asgv ?_)
      repeat walk_at "w"
      rw [hcl]
      refine w_ok ?_
      refine s_consW ?_
      refine RPost.imp (P := fun o S' => ∃ cl' : Int, o = .nx (dgFr ns (some (.int (k : Nat))) (some (.int cl')) c d) ∧ S' = [dgC ds]) ?_ ?_
      · repeat walk_at "w"
        refine w_dec (fun hc => ?_) (fun hc => ?_)
        · repeat walk_at "w"
          exact ⟨_, rfl, rfl⟩
        · repeat walk_at "w"
          exact ⟨_, rfl, rfl⟩
      rintro o S' - ⟨cl', rfl, rfl⟩
      have hlen : ((ds.map D.int).length : Int) = ds.length := by rw [List.length_map]
      repeat walk_at "w"
      refine w_dec (fun hc => ?_) (fun hc => ?_)
      · repeat walk_at "w"
        show RPost DgP (cutR 0 (.lst (ds.map .int)) [.dead])
        exact w_cut (Nat.zero_le _) (rb_ints 0 ds) rfl ⟨rfl, ds, rfl⟩
      · have hd : ds.length ≤ 1500 := by
          have q : ¬ ((1500 : Int) < ((ds.map D.int).length : Int)) := hc
          omega
        repeat walk_at "w"
        refine w_dec (fun hc => ?_) (fun hc => ?_)
        · refine s_consW ?_
          refine dg_big hd fun ds' b c => ?_
          repeat walk_at "w"
          exact ⟨rest, ds', _, _, _, _, rfl, rfl, rfl⟩
        · refine s_consW (s_asgv ?_)
          refine RPost.imp (P := fun x S' => ∃ v : Int, x = .int v ∧ S' = [dgC ds]) ?_ ?_
          · repeat walk_at "w"
            rfl
          rintro x S' - ⟨v, rfl, rfl⟩
          refine s_consW ?_
          refine dg_small hd fun ds' b c d => ?_
          repeat walk_at "w"
          exact ⟨rest, ds', _, _, _, _, rfl, rfl, rfl⟩
  · rintro fr S' ⟨rest, ds, a, b, c, d, e, rfl, rfl⟩
    refine dg_fin ?_
    exact fun _ _ h => h
end k06

namespace k06
variable {wf n : Nat} {S : Store}
/-! ### draws -/
def bxc (ds : List Int) (a : Int) : Cell := .lst [.lst (ds.map .int), .int a]
theorem w_draw {ds : List Int} {a many : Int} {R : Store} (ha : 0 ≤ a) (hm : 0 < many) {P : D → Store → Prop} (h : ∀ v, 0 ≤ v → v < many → P (.int v) (bxc ds (a + 1) :: R)) : RPost P ((fnsAt pg wf (n + 1)).call 21 [.ref 0, .int many] (bxc ds a :: R)) := by
  rw [call_at rfl]
  refine w_fd rfl ?_
  unfold f__law_draw
  walk_at "fr"
  repeat walk_at "w"
  refine ⟨0, 1, [.lst (ds.map .int), .int a], 1, rfl, rfl, rfl, rfl, ?_⟩
  repeat walk_at "w"
  refine w_dec (fun hc => ?_) (fun hc => ?_)
  · obtain ⟨j, rfl⟩ : ∃ j : Nat, a = j := ⟨a.toNat, by omega⟩
    rw [List.length_map] at hc
    have hj : j < ds.length := by omega
    repeat walk_at "w"
    refine ⟨.int ds[j], atI_nat (by rw [List.getElem?_map, List.getElem?_eq_getElem hj]; rfl), ?_⟩
    repeat walk_at "w"
    exact h _ (Int.emod_nonneg _ (by omega)) (Int.emod_lt_of_pos _ hm)
  · repeat walk_at "w"
    exact h _ (Int.emod_nonneg _ (by omega)) (Int.emod_lt_of_pos _ hm)
theorem sub_in {l : List D} {v : Int} (h0 : 0 ≤ v) (h1 : v < l.length) : ∃ x ∈ l, subD S (.lst l) (.int v) = some x := by
  obtain ⟨j, rfl⟩ : ∃ j : Nat, v = j := ⟨v.toNat, by omega⟩
  have hj : j < l.length := by omega
  exact ⟨l[j], List.getElem_mem hj, atI_nat (List.getElem?_eq_getElem hj)⟩
theorem w_task {ds : List Int} {a : Int} {R : Store} {nm : Str} (ha : 0 ≤ a) {P : D → Store → Prop} (h : ∀ (t : Task) (a' : Int), t.Ok → t.nm = nm → PyData.strOk t.kind = true ∧ t.kind.length ≤ 10 → 0 ≤ a' → P (tD t) (bxc ds a' :: R)) : RPost P ((fnsAt pg wf (n + 2)).call 26 [.ref 0, .str nm, .int 8] (bxc ds a :: R)) := by
  have k1 : PyData.strOk ("any" : Str) = true ∧ ("any" : Str).length ≤ 10 := by decide +kernel
  have k2 : PyData.strOk ("each" : Str) = true ∧ ("each" : Str).length ≤ 10 := by decide +kernel
  rw [call_at rfl]
  refine w_fd rfl ?_
  unfold f__law_task
  walk_at "fr"
  repeat walk_at "w"
  refine w_draw ha (by decide) fun v0 p0 q0 => ?_
  obtain ⟨x, hx, e⟩ := sub_in (S := bxc ds (a + 1) :: R) (l := [.str "any", .str "any", .str "each"]) p0 (by simpa using q0)
  obtain ⟨kd, rfl, hk⟩ : ∃ kd : Str, x = .str kd ∧ (PyData.strOk kd = true ∧ kd.length ≤ 10) := by
    simp only [List.mem_cons, List.not_mem_nil, or_false] at hx
    rcases hx with rfl | rfl | rfl
    · exact ⟨_, rfl, k1⟩
    · exact ⟨_, rfl, k1⟩
    · exact ⟨_, rfl, k2⟩
  refine ⟨_, e, ?_⟩
  repeat walk_at "w"
  refine w_draw (by omega) (by decide) fun v1 p1 q1 => ?_
  repeat walk_at "w"
  refine w_draw (by omega) (by omega) fun v2 p2 q2 => ?_
  repeat walk_at "w"
  refine w_draw (by omega) (by split <;> omega) fun v3 p3 q3 => ?_
  have q3' : v3 < 3 ∧ v3 < 1 + v2 := by
    have q := q3
    split at q <;> omega
  repeat walk_at "w"
  refine ⟨_, b_eqS hk.1 k2.1, ?_⟩
  have ok : Task.Ok ⟨nm, kd, 0, 1 + v1, 1 + v2, 0, 1 + v3⟩ := ⟨by show 1 ≤ 1 + v1 ∧ 1 + v1 ≤ 8; omega, by show 1 ≤ 1 + v2 ∧ 1 + v2 ≤ 1 + v1; omega, by show 1 ≤ 1 + v3 ∧ 1 + v3 ≤ 1 + v2 ∧ 1 + v3 ≤ 3; omega⟩
  refine w_bool (fun hb => ?_) (fun hb => ?_)
  · repeat walk_at "w"
    refine w_draw (by omega) (by decide) fun v4 p4 q4 => ?_
    repeat walk_at "w"
    refine w_draw (by omega) (by omega) fun v5 p5 q5 => ?_
    repeat walk_at "w"
    exact h ⟨nm, kd, v4, 1 + v1, 1 + v2, 1 + v5, 1 + v3⟩ _ ⟨ok.gap, ok.due, ok.most⟩ rfl hk (by omega)
  · repeat walk_at "w"
    refine w_draw (by omega) (by omega) fun v5 p5 q5 => ?_
    repeat walk_at "w"
    exact h ⟨nm, kd, 0, 1 + v1, 1 + v2, 1 + v5, 1 + v3⟩ _ ⟨ok.gap, ok.due, ok.most⟩ rfl hk (by omega)
end k06

namespace k06
variable {wf n : Nat} {S : Store}
/-! ### a drawn supply -/
theorem ix_ok {k : Nat} {v : Int} (h0 : 0 ≤ v) (h1 : v < k) : ixN k v = some v.toNat := by
  unfold ixN
  rw [if_pos h0, if_pos h1]
theorem rb_bxc (ds : List Int) (a : Int) (m : Nat) : Cell.rb m (bxc ds a) = true := by
  show (D.rbL m (ds.map .int) && (true && true)) = true
  rw [rb_ints]; rfl
theorem bits_set {l : List Int} (h : ∀ x ∈ l, 0 ≤ x ∧ x ≤ 1) (j : Nat) : ∀ x ∈ l.set j 1, 0 ≤ x ∧ x ≤ 1 := fun x hx => by
  rcases List.mem_or_eq_of_mem_set hx with hx | rfl
  · exact h x hx
  · decide
theorem sum_pos {l : List Int} (h : ∀ x ∈ l, 0 ≤ x ∧ x ≤ 1) (h1 : (1 : Int) ∈ l) : 0 < l.sum := by
  induction l with
  | nil => cases h1
  | cons y l ih =>
    have hy := h y List.mem_cons_self
    have hs := sum_bits (l := l) fun x hx => h x (List.mem_cons_of_mem _ hx)
    rw [List.sum_cons]
    rcases List.mem_cons.mp h1 with e | h1
    · omega
    · have := ih (fun x hx => h x (List.mem_cons_of_mem _ hx)) h1
      omega
theorem w_supply {ds : List Int} {a : Int} (ha : 0 ≤ a) {P : D → Store → Prop} (h : ∀ (sup : List Int) (a' : Int), SupOk sup → 0 < sup.sum → sup.length ≤ 5 → 0 ≤ a' → P (supD sup) [bxc ds a']) : RPost P ((fnsAt pg wf (n + 2)).call 32 [.ref 0] [bxc ds a]) := by
  rw [call_at rfl]
  refine w_fd rfl ?_
  unfold f__law_supply
  walk_at "fr"
  refine s_consW (s_asgv ?_)
  refine w_compS ?_
  repeat walk_at "w"
  refine w_draw ha (by decide) fun v p q => ?_
  repeat walk_at "w"
  refine comp_inv (fun l acc S' => ∃ (rest : List Nat) (rs : List Int) (a' : Int), l = rest.map (fun j : Nat => D.int (j : Nat)) ∧ acc = rs.map .int ∧ S' = [bxc ds a'] ∧ 0 ≤ a' ∧ (∀ x ∈ rs, 0 ≤ x ∧ x ≤ 1) ∧ rs.length + rest.length = (1 + v).toNat) ?_ ?_ _ _ _ ⟨List.range (1 + v).toNat, [], a + 1, rfl, rfl, rfl, by omega, (fun x hx => by cases hx), by rw [List.length_range]; simp⟩
  · rintro x l acc S' ⟨rest, rs, a', e, rfl, rfl, ha', hb, hl⟩
    cases rest with
    | nil => cases e
    | cons k rest =>
      cases e
      rw [List.length_cons] at hl
      refine ⟨_, rfl, ?_⟩
      repeat walk_at "w"
      refine w_draw ha' (by decide) fun w p1 q1 => ?_
      refine ⟨by rw [List.length_map]; exact dig_size (by omega), rest, rs ++ [w], _, rfl, by rw [List.map_append]; rfl, rfl, by omega, fun x hx => ?_, by rw [List.length_append, List.length_singleton]; omega⟩
      rcases List.mem_append.mp hx with hx | hx
      · exact hb x hx
      · rw [List.mem_singleton] at hx
        omega
  · rintro acc S' ⟨rest, rs, a', e, rfl, rfl, ha', hb, hl⟩
    have e : rest = [] := List.map_eq_nil_iff.mp e.symm
    subst e
    have hl2 : 0 < rs.length ∧ rs.length ≤ 5 := by rw [List.length_nil] at hl; omega
    have e1 : ((rs.map D.int).length : Int) = rs.length := by rw [List.length_map]
    repeat walk_at "w"
    refine w_draw (R := [.lst (rs.map .int)]) ha' (by omega) fun w p1 q1 => ?_
    rw [e1] at q1
    refine ⟨1, w, rs.map .int, w.toNat, rfl, rfl, rfl, ix_ok p1 (by rw [e1]; exact q1), ?_⟩
    have hset : (rs.map D.int).set w.toNat (.int 1) = (rs.set w.toNat 1).map .int := by rw [List.map_set]
    rw [hset]
    repeat walk_at "w"
    show RPost P (cutR 1 (supD (rs.set w.toNat 1)) [bxc ds (a' + 1), .dead])
    have h1 : (1 : Int) ∈ rs.set w.toNat 1 := List.mem_set (l := rs) (by omega) 1
    refine w_cut (by simp) (rb_ints 1 _) (by show (Cell.rb 1 (bxc ds (a' + 1)) && true) = true; rw [rb_bxc]; rfl) ?_
    exact h _ _ ⟨by rw [List.length_set]; omega, by rw [List.length_set]; omega, bits_set hb _⟩ (sum_pos (bits_set hb _) h1) (by rw [List.length_set]; omega) (by omega)
end k06

namespace k06
variable {wf n : Nat} {S : Store}
/-! ### a drawn system -/
structure SysS (s : Sys) : Prop where
  kind : ∀ t ∈ s.tasks, PyData.strOk t.kind = true ∧ t.kind.length ≤ 10
  rule : PyData.strOk s.rule = true ∧ s.rule.length ≤ 10
theorem rb_lk (m : Nat) : ∀ l : List (Str × Int), D.rbL m (l.map lkD) = true
  | [] => rfl
  | _ :: l => by
    show (true && D.rbL m (l.map lkD)) = true
    rw [rb_lk m l]; rfl
theorem rb_td (m : Nat) : ∀ l : List Task, D.rbL m (l.map tD) = true
  | [] => rfl
  | _ :: l => by
    show (true && D.rbL m (l.map tD)) = true
    rw [rb_td m l]; rfl
theorem rb_sd (m : Nat) (s : Sys) : D.rb m (sD s) = true := by
  show (true && (true && (true && (true && (D.rbL m (s.sup.map .int) && (D.rbL m (s.tasks.map tD) && (D.rbL m (s.locks.map lkD) && true))))))) = true
  rw [rb_ints, rb_td, rb_lk]; rfl
theorem lk_sort {S : Store} (l : List (Str × Int)) : ∃ l' : List (Str × Int), biD .sorted S [.lst (l.map lkD)] = some (.lst (l'.map lkD)) ∧ (∀ x ∈ l', x ∈ l) ∧ l'.length = l.length := by
  have py : D.pyL (l.map lkD) = l.map fun x => PyData.tuple [.str x.1, .str "l", .int 0, .int x.2] := by rw [pyL_map, List.map_map]; rfl
  have hp : D.pureL (l.map lkD) = true := by
    induction l with
    | nil => rfl
    | cons x l ih =>
      show (true && D.pureL (l.map lkD)) = true
      rw [ih (by rw [pyL_map, List.map_map]; rfl)]; rfl
  have hs : sortB (D.pyL (l.map lkD)) = true := by
    rw [py]
    unfold sortB
    simp only [Bool.and_eq_true, Bool.or_eq_true, List.all_eq_true, decide_eq_true_eq]
    refine ⟨⟨fun d hd e he => ?_, .inl fun d hd => ?_⟩, fun d hd => ?_⟩
    · obtain ⟨x, _, rfl⟩ := List.mem_map.mp hd
      obtain ⟨y, _, rfl⟩ := List.mem_map.mp he
      rfl
    · obtain ⟨x, _, rfl⟩ := List.mem_map.mp hd
      rfl
    · obtain ⟨x, _, rfl⟩ := List.mem_map.mp hd
      simp [PyData.depth, PyData.depthAll]
  refine ⟨l.mergeSort (PySem.W.dataLe false (D.py ∘ lkD)), ?_, fun x hx => List.mem_mergeSort.mp hx, List.length_mergeSort _⟩
  show (if (D.pureL (l.map lkD) && sortB (D.pyL (l.map lkD))) = true then some (D.lst (sortD (l.map lkD))) else none) = _
  rw [hp, hs, if_pos (by decide)]
  unfold sortD
  rw [List.map_mergeSort (r := PySem.W.dataLe false (D.py ∘ lkD)) (s := PySem.W.dataLe false D.py) (f := lkD) (fun a _ b _ => rfl)]
theorem w_system {ds : List Int} {a : Int} (ha : 0 ≤ a) {P : D → Store → Prop} (h : ∀ (s : Sys) (a' : Int), s.Ok → SysS s → 0 ≤ a' → P (sD s) [bxc ds a']) : RPost P ((fnsAt pg wf (n + 3)).call 27 [.ref 0, .int 3, .int 8] [bxc ds a]) := by
  have kf : PyData.strOk ("fixed" : Str) = true := by decide +kernel
  rw [call_at rfl]
  refine w_fd rfl ?_
  unfold f__law_system
  walk_at "fr"
  repeat walk_at "w"
  refine w_draw ha (by decide) fun v0 p0 q0 => ?_
  obtain ⟨j, rfl⟩ : ∃ j : Nat, v0 = j := ⟨v0.toNat, by omega⟩
  repeat walk_at "w"
  rw [show ((1 : Int) + (j : Nat)) = ((j + 1 : Nat) : Int) from by omega, cut_to, show ([.str "b", .str "a", .str "c"] : List D) = abc.map .str from rfl, ← List.map_take]
  refine comp_inv (fun l acc S' => ∃ (rest : List Str) (ts : List Task) (a' : Int), l = rest.map .str ∧ acc = ts.map tD ∧ S' = [bxc ds a'] ∧ 0 ≤ a' ∧ (∀ t ∈ ts, t.Ok ∧ PyData.strOk t.kind = true ∧ t.kind.length ≤ 10) ∧ ts.map (·.nm) ++ rest = abc.take (j + 1)) ?_ ?_ _ _ _ ⟨abc.take (j + 1), [], a + 1, rfl, rfl, rfl, by omega, (fun x hx => by cases hx), rfl⟩
  · rintro x l acc S' ⟨rest, ts, a', e, rfl, rfl, ha', hb, hl⟩
    cases rest with
    | nil => cases e
    | cons nm rest =>
      cases e
      refine ⟨_, rfl, ?_⟩
      repeat walk_at "w"
      refine w_task ha' fun t a2 ht hn hk ha2 => ?_
      have hlen : ts.length ≤ 3 := by
        have q := congrArg List.length hl
        rw [List.length_append, List.length_map, List.length_take] at q
        have : abc.length = 3 := rfl
        omega
      refine ⟨by rw [List.length_map]; exact dig_size (by omega), rest, ts ++ [t], a2, rfl, by rw [List.map_append]; rfl, rfl, ha2, fun u hu => ?_, ?_⟩
      · rcases List.mem_append.mp hu with hu | hu
        · exact hb u hu
        · rw [List.mem_singleton] at hu
          subst hu
          exact ⟨ht, hk⟩
      · rw [List.map_append, List.append_assoc, ← hl, List.map_cons, hn]; rfl
  rintro acc S' ⟨rest, ts, a1, e, rfl, rfl, ha1, hts, hl⟩
  have e : rest = [] := List.map_eq_nil_iff.mp e.symm
  subst e
  rw [List.append_nil] at hl
  have hlen : ts.length = j + 1 := by
    have q := congrArg List.length hl
    rw [List.length_map, List.length_take] at q
    have : abc.length = 3 := rfl
    omega
  repeat walk_at "w"
  refine w_draw ha1 (by decide) fun v1 p1 q1 => ?_
  obtain ⟨x, hx, e⟩ := sub_in (S := [bxc ds (a1 + 1)]) (l := [.int 1, .int 1, .int 1, .int 2]) p1 (by simpa using q1)
  obtain ⟨mach, rfl⟩ : ∃ mach : Int, x = .int mach := by
    simp only [List.mem_cons, List.not_mem_nil, or_false] at hx
    rcases hx with rfl | rfl | rfl | rfl <;> exact ⟨_, rfl⟩
  refine ⟨_, e, ?_⟩
  clear e hx
  repeat walk_at "w"
  refine w_draw (by omega) (by decide) fun v2 p2 q2 => ?_
  obtain ⟨x, hx, e⟩ := sub_in (S := [bxc ds (a1 + 1 + 1)]) (l := [.str "fixed", .str "nearest", .str "fixed", .str "nearest", .str "oldest", .str "slack"]) p2 (by simpa using q2)
  obtain ⟨rl, rfl, hrl⟩ : ∃ rl : Str, x = .str rl ∧ (PyData.strOk rl = true ∧ rl.length ≤ 10) := by
    simp only [List.mem_cons, List.not_mem_nil, or_false] at hx
    rcases hx with rfl | rfl | rfl | rfl | rfl | rfl <;> exact ⟨_, rfl, by decide +kernel⟩
  refine ⟨_, e, ?_⟩
  clear e hx
  repeat walk_at "w"
  refine w_draw (by omega) (by decide) fun v3 p3 q3 => ?_
  repeat walk_at "w"
  refine w_draw (by omega) (by decide) fun v4 p4 q4 => ?_
  obtain ⟨x, hx, e⟩ := sub_in (S := [bxc ds (a1 + 1 + 1 + 1 + 1)]) (l := [.tup [.int 1], .tup [.int 1], .tup [.int 1], .tup [.int 1, .int 0]]) p4 (by simpa using q4)
  obtain ⟨sp, rfl, hsp⟩ : ∃ sp : List Int, x = .tup (sp.map .int) ∧ (sp = [1] ∨ sp = [1, 0]) := by
    simp only [List.mem_cons, List.not_mem_nil, or_false] at hx
    rcases hx with rfl | rfl | rfl | rfl
    · exact ⟨[1], rfl, .inl rfl⟩
    · exact ⟨[1], rfl, .inl rfl⟩
    · exact ⟨[1], rfl, .inl rfl⟩
    · exact ⟨[1, 0], rfl, .inr rfl⟩
  refine ⟨_, e, ?_⟩
  clear e hx
  generalize hA : a1 + 1 + 1 + 1 + 1 = A
  have hA0 : 0 ≤ A := by omega
  clear hA
  generalize hB : decide ((0 : Int) < v3) = B
  have nd : (ts.map (·.nm)).Nodup := by
    rw [hl]
    have q : abc.Nodup := by decide +kernel
    exact q.sublist (List.take_sublist _ _)
  have hin : ∀ t ∈ ts, t.nm ∈ abc := fun t ht => by
    have q : t.nm ∈ ts.map (·.nm) := List.mem_map_of_mem ht
    rw [hl] at q
    exact List.mem_of_mem_take q
  have mk : ∀ lk' : List (Str × Int), (∀ x ∈ lk', 2 ≤ x.2 ∧ x.2 ≤ 3 ∧ x.1 ∈ abc) → lk'.length ≤ 3 → Sys.Ok ⟨mach, rl, B, sp, ts, lk'⟩ := fun lk' h1 h2 =>
    ⟨fun t ht => (hts t ht).1, by show ts.length ≤ 3; omega, by show 0 < ts.length; omega, nd, hin, h1, h2, hsp⟩
  have mkS : ∀ lk' : List (Str × Int), SysS ⟨mach, rl, B, sp, ts, lk'⟩ := fun lk' => ⟨fun t ht => (hts t ht).2, hrl⟩
  repeat walk_at "w"
  refine w_dec (fun hm => ?_) (fun hm => ?_)
  · repeat walk_at "w"
    refine ⟨_, b_eqS hrl.1 kf, ?_⟩
    refine w_bool (fun hr => ?_) (fun hr => ?_)
    · repeat walk_at "w"
      refine w_bool (fun hb => ?_) (fun hb => ?_)
      · repeat walk_at "w"
        refine w_draw (R := [.lst []]) hA0 (by decide) fun v5 p5 q5 => ?_
        repeat walk_at "w"
        refine w_dec (fun hd => ?_) (fun hd => ?_)
        · repeat walk_at "w"
          refine for_inv (fun l fr S' => ∃ (rest : List Task) (lk : List (Str × Int)) (A' : Int) (x : Option D), l = rest.map tD ∧ fr = [some (.ref 0), some (.int 3), some (.int 8), some (.lst ((abc.take (j + 1)).map .str)), some (.tup (ts.map tD)), none, some (.int mach), some (.str rl), some (.bl B), some (.tup (sp.map .int)), some (.ref 1), x] ∧ S' = [bxc ds A', .lst (lk.map lkD)] ∧ 0 ≤ A' ∧
            (∀ y ∈ lk, 2 ≤ y.2 ∧ y.2 ≤ 3 ∧ y.1 ∈ abc) ∧ lk.length + rest.length ≤ 3 ∧ ∀ t ∈ rest, t ∈ ts) ?_ ?_ _ _ _ ⟨ts, [], A + 1, none, rfl, rfl, rfl, by omega, (fun x hx => by cases hx), by simp; omega, fun t ht => ht⟩
          · rintro x l fr S' ⟨rest, lk, A', y, e, rfl, rfl, hA', hlk, hn, hr⟩
            cases rest with
            | nil => cases e
            | cons t rest =>
              cases e
              rw [List.length_cons] at hn
              have ht := (hts t (hr t List.mem_cons_self)).1.most
              refine ⟨_, rfl, ?_⟩
              repeat walk_at "w"
              refine w_dec (fun h1 => ?_) (fun h1 => ?_)
              · repeat walk_at "w"
                refine w_draw (R := [.lst (lk.map lkD)]) hA' (by decide) fun v6 p6 q6 => ?_
                repeat walk_at "w"
                refine w_dec (fun h2 => ?_) (fun h2 => ?_)
                · repeat walk_at "w"
                  refine w_app ?_
                  repeat walk_at "w"
                  refine ⟨1, lk.map lkD, rfl, rfl, ?_⟩
                  repeat walk_at "w"
                  refine ⟨lk.map lkD, rfl, by rw [List.length_map]; exact dig_size (by omega), ?_⟩
                  repeat walk_at "w"
                  refine ⟨rest, lk ++ [(t.nm, t.most)], A' + 1, _, rfl, rfl, ?_, by omega, fun z hz => ?_, by rw [List.length_append, List.length_singleton]; omega, fun u hu => hr u (List.mem_cons_of_mem _ hu)⟩
                  · rw [List.map_append]; rfl
                  · rcases List.mem_append.mp hz with hz | hz
                    · exact hlk z hz
                    · rw [List.mem_singleton] at hz
                      subst hz
                      exact ⟨by show 2 ≤ t.most; omega, ht.2.2, hin t (hr t List.mem_cons_self)⟩
                · repeat walk_at "w"
                  exact ⟨rest, lk, A' + 1, _, rfl, rfl, rfl, by omega, hlk, by omega, fun u hu => hr u (List.mem_cons_of_mem _ hu)⟩
              · repeat walk_at "w"
                exact ⟨rest, lk, A', _, rfl, rfl, rfl, by omega, hlk, by omega, fun u hu => hr u (List.mem_cons_of_mem _ hu)⟩
          · rintro fr S' ⟨rest, lk, A', y, e, rfl, rfl, hA', hlk, hn, hr⟩
            repeat walk_at "w"
            obtain ⟨lk', e, hsub, hln⟩ := lk_sort (S := [bxc ds (A'), .dead]) (lk)
            refine ⟨_, e, ?_⟩
            repeat walk_at "w"
            show RPost P (cutR 1 (sD ⟨mach, rl, B, sp, ts, lk'⟩) [bxc ds (A'), .dead])
            refine w_cut (by simp) (rb_sd 1 _) (by show (Cell.rb 1 (bxc ds (A')) && true) = true; rw [rb_bxc]; rfl) ?_
            exact h _ _ (mk lk' (fun x hx => hlk x (hsub x hx)) (by rw [hln]; omega)) (mkS lk') (by omega)
        · repeat walk_at "w"
          rw [show sortD [] = [] from by simp [sortD]]
          show RPost P (cutR 1 (sD ⟨mach, rl, B, sp, ts, []⟩) [bxc ds (A + 1), .dead])
          refine w_cut (by simp) (rb_sd 1 _) (by show (Cell.rb 1 (bxc ds (A + 1)) && true) = true; rw [rb_bxc]; rfl) ?_
          exact h _ _ (mk [] (fun x hx => by cases hx) (by decide)) (mkS []) (by omega)
      · repeat walk_at "w"
        rw [show sortD [] = [] from by simp [sortD]]
        show RPost P (cutR 1 (sD ⟨mach, rl, B, sp, ts, []⟩) [bxc ds (A), .dead])
        refine w_cut (by simp) (rb_sd 1 _) (by show (Cell.rb 1 (bxc ds (A)) && true) = true; rw [rb_bxc]; rfl) ?_
        exact h _ _ (mk [] (fun x hx => by cases hx) (by decide)) (mkS []) (by omega)
    · repeat walk_at "w"
      rw [show sortD [] = [] from by simp [sortD]]
      show RPost P (cutR 1 (sD ⟨mach, rl, B, sp, ts, []⟩) [bxc ds (A), .dead])
      refine w_cut (by simp) (rb_sd 1 _) (by show (Cell.rb 1 (bxc ds (A)) && true) = true; rw [rb_bxc]; rfl) ?_
      exact h _ _ (mk [] (fun x hx => by cases hx) (by decide)) (mkS []) (by omega)
  · repeat walk_at "w"
    rw [show sortD [] = [] from by simp [sortD]]
    show RPost P (cutR 1 (sD ⟨mach, rl, B, sp, ts, []⟩) [bxc ds (A), .dead])
    refine w_cut (by simp) (rb_sd 1 _) (by show (Cell.rb 1 (bxc ds (A)) && true) = true; rw [rb_bxc]; rfl) ?_
    exact h _ _ (mk [] (fun x hx => by cases hx) (by decide)) (mkS []) (by omega)
end k06

namespace k06
variable {wf n : Nat} {S : Store}
/-! ### the law, statement by statement -/
def l0 : Dm.S := .asg (.v 1) (.mkl [.call 20 [.var 0, .int 0, .int 63], .int 0])
def l1 : Dm.S := .asg (.t [(.v 2), (.v 3), (.v 4)]) (.tup [.call 27 [.var 1, .int 3, .int 8], .call 32 [.var 1], .call 32 [.var 1]])
def l2 : Dm.S := .for_ (.v 5) (.tup [.int 0, .int 1, .int 2, .int 3, .int 5, .int 7, .bin .Add (.int 4) (.call 21 [.var 1, .int 30])]) [
  .iff (.not (.call 22 [.call 4 [.var 3, .var 5], .call 29 [.var 3, .var 5]])) [
   .ret (.bl false)] []]
def l3 : Dm.S := .for_ (.v 6) (.range [.int 1, .int 12]) [
  .iff (.not (.call 22 [.call 5 [.var 2, .var 6], .call 31 [.var 2, .var 6]])) [
   .ret (.bl false)] []]
def l4 : Dm.S := .iff (.not (.call 22 [.call 6 [.var 2], .call 25 [.comp true [("task", 7)] (.v 7) (.sub (.var 2) (.int 5)) [] (.call 23 [.sub (.var 7) (.int 6), .sub (.var 7) (.int 3)])]])) [
  .ret (.bl false)] []
def l5 : Dm.S := .iff (.not (.call 22 [.call 8 [.var 2], .call 25 [.comp true [("task", 7)] (.v 7) (.sub (.var 2) (.int 5)) [] (.call 23 [.sub (.var 7) (.int 6), .sub (.var 7) (.int 4)])]])) [
  .ret (.bl false)] []
def l6 : Dm.S := .asg (.v 5) (.call 9 [.var 2])
def l7 : Dm.S := .asg (.v 8) (.bin .Add (.lst [.bi .len [.sub (.var 2) (.int 4)]]) (.comp true [("task", 7)] (.v 7) (.sub (.var 2) (.int 5)) [] (.sub (.var 7) (.int 3))))
def l8 : Dm.S := .iff (.or (.not (.call 18 [.var 5, .int 1, .non])) (.or (.cmp .NotEq (.comp true [("part", 9)] (.v 9) (.var 8) [.cmp .NotEq (.bin .Mod (.var 5) (.var 9)) (.int 0)] (.var 9)) (.lst [])) (.cmp .NotEq (.comp true [("k", 10)] (.v 10) (.range [.int 1, .var 5]) [.cmp .Eq (.comp true [("part", 9)] (.v 9) (.var 8) [.cmp .NotEq (.bin .Mod (.var 10) (.var 9)) (.int 0)] (.var 9)) (.lst [])] (.var 10)) (.lst [])))) [
  .ret (.bl false)] []
def l9 : Dm.S := .for_ (.v 11) (.range [.bi .len [.sub (.var 2) (.int 5)]]) [
  .asg (.v 7) (.sub (.sub (.var 2) (.int 5)) (.var 11)),
  .iff (.not (.call 22 [.call 10 [.var 2, .sub (.var 7) (.int 0)], .call 30 [.var 2, .var 11]])) [
   .ret (.bl false)] [],
  .asg (.v 12) (.bin .Sub (.bin .Add (.int 5) (.sub (.var 7) (.int 4))) (.sub (.var 7) (.int 6))),
  .iff (.not (.call 22 [.call 11 [.var 7, .int 5], .bin .Add (.bin .Mult (.sub (.var 7) (.int 6)) (.bin .FloorDiv (.var 12) (.sub (.var 7) (.int 3)))) (.bi .min2 [.sub (.var 7) (.int 6), .bin .Mod (.bi .int [.var 12]) (.sub (.var 7) (.int 3))])])) [
   .ret (.bl false)] []]
def l10 : Dm.S := .asg (.v 13) (.bin .Mult (.bi .len [.var 3]) (.bi .len [.var 4]))
def l11 : Dm.S := .iff (.not (.call 22 [.call 14 [.var 3, .var 4], .cmp .Eq (.comp true [("n", 5)] (.v 5) (.range [.bin .Add (.bin .Mult (.int 2) (.var 13)) (.int 1)]) [.cmp .Lt (.call 29 [.var 3, .var 5]) (.call 29 [.var 4, .var 5])] (.var 5)) (.lst [])])) [
  .ret (.bl false)] []
def l12 : Dm.S := .asg (.v 14) (.call 15 [.var 3])
def l13 : Dm.S := .iff (.or (.cmp .NotEq (.call 29 [.var 3, .var 14]) (.int 0)) (.cmp .Eq (.call 29 [.var 3, .bin .Add (.var 14) (.int 1)]) (.int 0))) [
  .ret (.bl false)] []
def l14 : Dm.S := .asg (.v 15) (.call 21 [.var 1, .int 9])
def l15 : Dm.S := .asg (.v 5) (.call 16 [.var 3, .var 15])
def l16 : Dm.S := .iff (.or (.cmp .Lt (.call 29 [.var 3, .var 5]) (.var 15)) (.and (.cmp .Gt (.var 5) (.int 0)) (.cmp .GtE (.call 29 [.var 3, .bin .Sub (.var 5) (.int 1)]) (.var 15)))) [
  .ret (.bl false)] []
def l17 : Dm.S := .asg (.t [(.v 16), (.v 17)]) (.tup [.bi .len [.var 3], .bi .sum [.var 3]])
def l18 : Dm.S := .iff (.not (.call 22 [.call 17 [.var 3], .bi .tuple [.comp true [("p", 18)] (.v 18) (.range [.var 16]) [] (.bi .int [.cmp .Gt (.bin .FloorDiv (.bin .Mult (.bin .Add (.var 18) (.int 1)) (.var 17)) (.var 16)) (.bin .FloorDiv (.bin .Mult (.var 18) (.var 17)) (.var 16))])]])) [
  .ret (.bl false)] []
def l19 : Dm.S := .asg (.v 19) (.call 21 [.var 1, .bi .len [.sub (.var 2) (.int 4)]])
def l20 : Dm.S := .fz 1
def l21 : Dm.S := .ret (.call 22 [.call 12 [.var 2, .var 19], .bin .Add (.bin .Add (.slc (.var 2) none (some (.int 4))) (.tup [.bin .Add (.slc (.sub (.var 2) (.int 4)) (some (.var 19)) none) (.slc (.sub (.var 2) (.int 4)) none (some (.var 19)))])) (.slc (.var 2) (some (.int 5)) none)])
theorem law_body : f_law.body = [l0, l1, l2, l3, l4, l5, l6, l7, l8, l9, l10, l11, l12, l13, l14, l15, l16, l17, l18, l19, l20, l21] := rfl
abbrev lfr (s : Sys) (o p : List Int) (sc x5 x6 x7 x8 x11 x12 x13 x14 x15 x16 x17 x19 : Option D) : Fr := [sc, some (.ref 0), some (sD s), some (supD o), some (supD p), x5, x6, x7, x8, none, none, x11, x12, x13, x14, x15, x16, x17, none, x19]
section
variable {s : Sys} {o p : List Int} {ds : List Int} {a : Int} {sc x5 x6 x7 x8 x11 x12 x13 x14 x15 x16 x17 x19 : Option D} {PO : Out → Store → Prop}
theorem likeI (i : Int) : (fnsAt pg wf (n + 1)).call 22 [.int i, .int i] S = .ok (.bl true) S := like_atom (.int i)
theorem L2 (ha : 0 ≤ a) (ho : SupOk o) (h : ∀ a' x5, 0 ≤ a' → PO (.nx (lfr s o p sc x5 x6 x7 x8 x11 x12 x13 x14 x15 x16 x17 x19)) [bxc ds a']) :
    WS (fnsAt pg wf (n + 3)) l2 (lfr s o p sc x5 x6 x7 x8 x11 x12 x13 x14 x15 x16 x17 x19) [bxc ds a] PO := by
  unfold l2
  repeat walk_at "w"
  refine w_draw ha (by decide) fun v p0 q0 => ?_
  repeat walk_at "w"
  refine for_inv (fun l fr S' => ∃ (rest : List Nat) (y : Option D), l = rest.map (fun j : Nat => D.int (j : Nat)) ∧ fr = lfr s o p sc y x6 x7 x8 x11 x12 x13 x14 x15 x16 x17 x19 ∧ S' = [bxc ds (a + 1)] ∧ ∀ j ∈ rest, j ≤ 40) ?_ ?_ _ _ _ ⟨[0, 1, 2, 3, 5, 7, 4 + v.toNat], x5, ?_, rfl, rfl, ?_⟩
  · rintro x l fr S' ⟨rest, y, e, rfl, rfl, hr⟩
    cases rest with
    | nil => cases e
    | cons j rest =>
      cases e
      have hj := hr j List.mem_cons_self
      refine ⟨_, rfl, ?_⟩
      repeat walk_at "w"
      rw [c_ls ho (by omega)]
      repeat walk_at "w"
      rw [c_lawls ho (by omega)]
      repeat walk_at "w"
      rw [likeI]
      repeat walk_at "w"
      exact ⟨rest, _, rfl, rfl, rfl, fun i hi => hr i (List.mem_cons_of_mem _ hi)⟩
  · rintro fr S' ⟨rest, y, e, rfl, rfl, hr⟩
    exact h _ _ (by omega)
  · show _ = [D.int 0, D.int 1, D.int 2, D.int 3, D.int 5, D.int 7, D.int ((4 + v.toNat : Nat) : Int)]
    rw [show ((4 + v.toNat : Nat) : Int) = 4 + v from by omega]
  · intro j hj
    simp only [List.mem_cons, List.not_mem_nil, or_false] at hj
    omega
theorem L3 (hs : s.Ok) (h : ∀ x6, PO (.nx (lfr s o p sc x5 x6 x7 x8 x11 x12 x13 x14 x15 x16 x17 x19)) [bxc ds a]) :
    WS (fnsAt pg wf (n + 3)) l3 (lfr s o p sc x5 x6 x7 x8 x11 x12 x13 x14 x15 x16 x17 x19) [bxc ds a] PO := by
  unfold l3
  repeat walk_at "w"
  refine for_inv (fun l fr S' => ∃ (rest : List Nat) (y : Option D), l = rest.map (fun j : Nat => D.int (1 + (j : Nat))) ∧ fr = lfr s o p sc x5 y x7 x8 x11 x12 x13 x14 x15 x16 x17 x19 ∧ S' = [bxc ds a]) ?_ ?_ _ _ _ ⟨List.range 11, x6, rfl, rfl, rfl⟩
  · rintro x l fr S' ⟨rest, y, e, rfl, rfl⟩
    cases rest with
    | nil => cases e
    | cons j rest =>
      cases e
      refine ⟨_, rfl, ?_⟩
      repeat walk_at "w"
      rw [c_demand hs]
      repeat walk_at "w"
      rw [c_lawdem hs]
      repeat walk_at "w"
      rw [likeI]
      repeat walk_at "w"
      exact ⟨rest, _, rfl, rfl, rfl⟩
  · rintro fr S' ⟨rest, y, e, rfl, rfl⟩
    exact h _
theorem Lk.rD {k : Nat} (q : Int × Int) : Lk (k + 1) (rD q) := .tup (fun x hx => by
  simp only [List.mem_cons, List.not_mem_nil, or_false] at hx
  rcases hx with rfl | rfl <;> exact .int _) (by show 2 ≤ 1000; decide)
theorem likeR (q : Int × Int) : (fnsAt pg wf (n + 2)).call 22 [rD q, rD q] S = .ok (.bl true) S := c_like 1 _ (.rD q) n S
theorem small_ld (hs : s.Ok) : Small (s.tasks.map ldQ) (0, 1) := small0 (by rw [List.length_map]; exact hs.few) fun q hq => by obtain ⟨t, ht, rfl⟩ := List.mem_map.mp hq; exact ldQ_ok (hs.task t ht)
theorem small_de (hs : s.Ok) : Small (s.tasks.map deQ) (0, 1) := small0 (by rw [List.length_map]; exact hs.few) fun q hq => by obtain ⟨t, ht, rfl⟩ := List.mem_map.mp hq; exact deQ_ok (hs.task t ht)
theorem L4 (hw : 1000000 < wf) (hs : s.Ok) (h : PO (.nx (lfr s o p sc x5 x6 x7 x8 x11 x12 x13 x14 x15 x16 x17 x19)) [bxc ds a]) :
    WS (fnsAt pg wf (n + 3)) l4 (lfr s o p sc x5 x6 x7 x8 x11 x12 x13 x14 x15 x16 x17 x19) [bxc ds a] PO := by
  unfold l4
  repeat walk_at "w"
  rw [c_load hs]
  repeat walk_at "w"
  refine w_comp_pure tD (fun _ => true) (fun t => rD (ldQ t)) s.tasks rfl (few_tasks hs) (fun t ht => ⟨_, rfl, rfl, fun _ => ?_⟩) ?_
  · have hg := (hs.task t ht).gap
    refine RPost.eq ?_
    repeat walk_at "w"
    rw [c_lawlow _ _ (by omega) (by omega) hw]
    repeat walk_at "w"
    exact ⟨rfl, rfl⟩
  rw [filter_all, show s.tasks.map (fun t => rD (ldQ t)) = (s.tasks.map ldQ).map rD from by rw [List.map_map]; rfl]
  repeat walk_at "w"
  rw [c_lawsum (small_ld hs) hw]
  repeat walk_at "w"
  rw [likeR]
  repeat walk_at "w"
  exact h
theorem L5 (hw : 1000000 < wf) (hs : s.Ok) (h : PO (.nx (lfr s o p sc x5 x6 x7 x8 x11 x12 x13 x14 x15 x16 x17 x19)) [bxc ds a]) :
    WS (fnsAt pg wf (n + 3)) l5 (lfr s o p sc x5 x6 x7 x8 x11 x12 x13 x14 x15 x16 x17 x19) [bxc ds a] PO := by
  unfold l5
  repeat walk_at "w"
  rw [c_density hs]
  repeat walk_at "w"
  refine w_comp_pure tD (fun _ => true) (fun t => rD (deQ t)) s.tasks rfl (few_tasks hs) (fun t ht => ⟨_, rfl, rfl, fun _ => ?_⟩) ?_
  · have hg := (hs.task t ht).gap
    have hd := (hs.task t ht).due
    refine RPost.eq ?_
    repeat walk_at "w"
    rw [c_lawlow _ _ (by omega) (by omega) hw]
    repeat walk_at "w"
    exact ⟨rfl, rfl⟩
  rw [filter_all, show s.tasks.map (fun t => rD (deQ t)) = (s.tasks.map deQ).map rD from by rw [List.map_map]; rfl]
  repeat walk_at "w"
  rw [c_lawsum (small_de hs) hw]
  repeat walk_at "w"
  rw [likeR]
  repeat walk_at "w"
  exact h
end
end k06

namespace k06
variable {wf n : Nat} {S : Store}
def pt (s : Sys) : List Int := (s.sup.length : Int) :: s.tasks.map (·.gap)
theorem pt_pos {s : Sys} (h : s.Ok) : ∀ x ∈ pt s, 0 < x := fun x hx => by
  have hl := sup_len h
  rcases List.mem_cons.mp hx with rfl | hx
  · omega
  · obtain ⟨t, ht, rfl⟩ := List.mem_map.mp hx
    have := (h.task t ht).gap
    omega
theorem pt_len {s : Sys} (h : s.Ok) : (pt s).length ≤ 1000 := by
  have := h.few
  unfold pt
  rw [List.length_cons, List.length_map]
  omega
theorem pt_dvd {s : Sys} (h : s.Ok) : ∀ x ∈ pt s, ((rnd s : Nat) : Int) % x = 0 := fun x hx => by
  obtain ⟨h1, h2⟩ := lcm_dvd_fold (s.tasks.map gn) s.sup.length
  rcases List.mem_cons.mp hx with rfl | hx
  · exact Int.emod_eq_zero_of_dvd (Int.natCast_dvd_natCast.mpr h1)
  · obtain ⟨t, ht, rfl⟩ := List.mem_map.mp hx
    have g3 := (gn_ok (h.task t ht)).2.2
    show ((rnd s : Nat) : Int) % t.gap = 0
    rw [← g3]
    exact Int.emod_eq_zero_of_dvd (Int.natCast_dvd_natCast.mpr (h2 _ (List.mem_map_of_mem ht)))
theorem pt_least {s : Sys} (h : s.Ok) {k : Nat} (hk : 0 < k) (hd : ∀ x ∈ pt s, (k : Int) % x = 0) : rnd s ≤ k := by
  refine Nat.le_of_dvd hk (fold_lcm_dvd _ _ _ ?_ fun x hx => ?_)
  · exact Int.natCast_dvd_natCast.mp (Int.dvd_of_emod_eq_zero (hd _ List.mem_cons_self))
  · obtain ⟨t, ht, rfl⟩ := List.mem_map.mp hx
    have q := hd t.gap (List.mem_cons_of_mem _ (List.mem_map_of_mem ht))
    rw [← (gn_ok (h.task t ht)).2.2] at q
    exact Int.natCast_dvd_natCast.mp (Int.dvd_of_emod_eq_zero q)
theorem rnd_ok {s : Sys} (h : s.Ok) : 0 < rnd s ∧ rnd s ≤ 1024 := by
  have hl := sup_len h
  have hf := h.few
  obtain ⟨h1, h2⟩ := lcm_bound (s.tasks.map gn) s.sup.length hl.1 fun x hx => by
    obtain ⟨t, ht, rfl⟩ := List.mem_map.mp hx
    obtain ⟨g1, g2, _⟩ := gn_ok (h.task t ht)
    exact ⟨g1, g2⟩
  refine ⟨h1, Nat.le_trans h2 ?_⟩
  rw [List.length_map]
  have h8 : 8 ^ s.tasks.length ≤ 8 ^ 3 := Nat.pow_le_pow_right (by decide) hf
  have := Nat.mul_le_mul hl.2 h8
  omega
theorem nil_ne {S : Store} : cmpD .NotEq S (.lst []) (.lst []) = some false := b_neN (k := 1) (Cmp.lst (k := 0) (l := []) fun _ h => by cases h) (by decide)
section
variable {s : Sys} {o p : List Int} {ds : List Int} {a : Int} {sc x5 x6 x7 x8 x11 x12 x13 x14 x15 x16 x17 x19 : Option D} {PO : Out → Store → Prop}
theorem L6 (hs : s.Ok) (h : PO (.nx (lfr s o p sc (some (.int (rnd s : Nat))) x6 x7 x8 x11 x12 x13 x14 x15 x16 x17 x19)) [bxc ds a]) :
    WS (fnsAt pg wf (n + 3)) l6 (lfr s o p sc x5 x6 x7 x8 x11 x12 x13 x14 x15 x16 x17 x19) [bxc ds a] PO := by
  unfold l6
  repeat walk_at "w"
  rw [c_rounds hs]
  repeat walk_at "w"
  exact h
theorem L7 (hs : s.Ok) (h : PO (.nx (lfr s o p sc x5 x6 x7 (some (.lst ((pt s).map .int))) x11 x12 x13 x14 x15 x16 x17 x19)) [bxc ds a]) :
    WS (fnsAt pg wf (n + 3)) l7 (lfr s o p sc x5 x6 x7 x8 x11 x12 x13 x14 x15 x16 x17 x19) [bxc ds a] PO := by
  unfold l7
  repeat walk_at "w"
  refine w_comp_pure tD (fun _ => true) (fun t => .int t.gap) s.tasks rfl (few_tasks hs) (fun t ht => ⟨_, rfl, rfl, fun _ => rfl⟩) ?_
  rw [filter_all]
  have hf := hs.few
  refine ⟨_, b_addL (by rw [List.length_singleton, List.length_map]; omega), ?_⟩
  have e : [D.int ((s.sup.map D.int).length : Nat)] ++ s.tasks.map (fun t => D.int t.gap) = (pt s).map .int := by
    unfold pt
    rw [List.map_cons, List.map_map, List.length_map]; rfl
  rw [e]
  exact h
theorem L8 (hs : s.Ok) (h : PO (.nx (lfr s o p sc (some (.int (rnd s : Nat))) x6 x7 (some (.lst ((pt s).map .int))) x11 x12 x13 x14 x15 x16 x17 x19)) [bxc ds a]) :
    WS (fnsAt pg wf (n + 3)) l8 (lfr s o p sc (some (.int (rnd s : Nat))) x6 x7 (some (.lst ((pt s).map .int))) x11 x12 x13 x14 x15 x16 x17 x19) [bxc ds a] PO := by
  have hr := rnd_ok hs
  unfold l8
  repeat walk_at "w"
  rw [c_whole (by omega)]
  repeat walk_at "w"
  refine w_comp_pure (fun x : Int => D.int x) (fun x => !decide (((rnd s : Nat) : Int) % x = 0)) (fun x => D.int x) (pt s) rfl (small_ok (pt_len hs)) (fun x hx => ⟨_, rfl, ?_, fun _ => rfl⟩) ?_
  · have := pt_pos hs x hx
    refine RPost.eq ?_
    repeat walk_at "w"
    exact ⟨rfl, rfl⟩
  rw [show (pt s).filter (fun x => !decide (((rnd s : Nat) : Int) % x = 0)) = [] from List.filter_eq_nil_iff.mpr fun x hx => by simp [pt_dvd hs x hx], List.map_nil]
  repeat walk_at "w"
  refine w_comp_pure (fun j : Nat => D.int (1 + (j : Nat))) (fun _ => false) (fun j => D.int (1 + (j : Nat))) (List.range (((rnd s : Nat) : Int) - 1).toNat) rfl (by rw [List.length_range]; exact Nat.le_of_lt (dig_size (by omega))) (fun j hj => ⟨_, rfl, ?_, fun z => by cases z⟩) ?_
  · have hj := List.mem_range.mp hj
    refine RPost.eq ?_
    repeat walk_at "w"
    refine w_comp_pure (fun x : Int => D.int x) (fun x => !decide ((1 + (j : Nat) : Int) % x = 0)) (fun x => D.int x) (pt s) rfl (small_ok (pt_len hs)) (fun x hx => ⟨_, rfl, ?_, fun _ => rfl⟩) ?_
    · have := pt_pos hs x hx
      refine RPost.eq ?_
      repeat walk_at "w"
      exact ⟨rfl, rfl⟩
    repeat walk_at "w"
    refine ⟨_, b_eqN (k := 1) (cmp_ints _) (by decide), ?_⟩
    refine ⟨?_, rfl⟩
    rw [Bool.eq_false_iff]
    intro z
    rw [List.isEmpty_iff, List.map_eq_nil_iff, List.filter_eq_nil_iff] at z
    have := pt_least hs (k := 1 + j) (by omega) fun x hx => by
      have q := z x hx
      simp only [Bool.not_eq_true, Bool.not_eq_false', decide_eq_true_eq] at q
      rw [show ((1 + j : Nat) : Int) = 1 + (j : Nat) from by omega]
      exact q
    omega
  rw [show (List.range (((rnd s : Nat) : Int) - 1).toNat).filter (fun _ => false) = [] from List.filter_eq_nil_iff.mpr fun _ _ => by decide, List.map_nil]
  repeat walk_at "w"
  exact h
theorem L9 (hs : s.Ok) (h : ∀ x7 x11 x12, PO (.nx (lfr s o p sc x5 x6 x7 x8 x11 x12 x13 x14 x15 x16 x17 x19)) [bxc ds a]) :
    WS (fnsAt pg wf (n + 3)) l9 (lfr s o p sc x5 x6 x7 x8 x11 x12 x13 x14 x15 x16 x17 x19) [bxc ds a] PO := by
  have hf := hs.few
  have e1 : ((s.tasks.map tD).length : Int) = s.tasks.length := by rw [List.length_map]
  unfold l9
  repeat walk_at "w"
  rw [e1, Int.toNat_natCast]
  refine for_inv (fun l fr S' => ∃ (rest : List Nat) (y7 y11 y12 : Option D), l = rest.map (fun j : Nat => D.int (j : Nat)) ∧ fr = lfr s o p sc x5 x6 y7 x8 y11 y12 x13 x14 x15 x16 x17 x19 ∧ S' = [bxc ds a] ∧ ∀ j ∈ rest, j < s.tasks.length) ?_ ?_ _ _ _ ⟨List.range s.tasks.length, x7, x11, x12, rfl, rfl, rfl, fun j hj => List.mem_range.mp hj⟩
  · rintro x l fr S' ⟨rest, y7, y11, y12, e, rfl, rfl, hr⟩
    cases rest with
    | nil => cases e
    | cons j rest =>
      cases e
      have hj := hr j List.mem_cons_self
      have ht : s.tasks[j]? = some s.tasks[j] := List.getElem?_eq_getElem hj
      have hok := hs.task _ (List.mem_of_getElem? ht)
      have hg := hok.gap
      have hm := hok.most
      refine ⟨_, rfl, ?_⟩
      repeat walk_at "w"
      refine ⟨tD s.tasks[j], atI_nat (by rw [List.getElem?_map, ht]; rfl), ?_⟩
      repeat walk_at "w"
      rw [c_hold hs ht]
      repeat walk_at "w"
      rw [c_lawhold hs]
      repeat walk_at "w"
      rw [hold_eq hs, likeI]
      repeat walk_at "w"
      rw [c_work hok]
      repeat walk_at "w"
      rw [work_eq, likeI]
      repeat walk_at "w"
      exact ⟨rest, _, _, _, rfl, rfl, rfl, fun i hi => hr i (List.mem_cons_of_mem _ hi)⟩
  · rintro fr S' ⟨rest, y7, y11, y12, e, rfl, rfl, hr⟩
    exact h _ _ _
end
end k06

namespace k06
variable {wf n : Nat} {S : Store}
section
variable {s : Sys} {o p : List Int} {ds : List Int} {a : Int} {sc x5 x6 x7 x8 x11 x12 x13 x14 x15 x16 x17 x19 : Option D} {PO : Out → Store → Prop}
theorem L10 (ho : SupOk o) (hp : SupOk p) (h : PO (.nx (lfr s o p sc x5 x6 x7 x8 x11 x12 (some (.int ((o.length * p.length : Nat) : Int))) x14 x15 x16 x17 x19)) [bxc ds a]) :
    WS (fnsAt pg wf (n + 3)) l10 (lfr s o p sc x5 x6 x7 x8 x11 x12 x13 x14 x15 x16 x17 x19) [bxc ds a] PO := by
  have e1 : ((o.map D.int).length : Int) = o.length := by rw [List.length_map]
  have e2 : ((p.map D.int).length : Int) = p.length := by rw [List.length_map]
  have h1 := ho.le
  have h2 := hp.le
  unfold l10
  repeat walk_at "w"
  rw [e1, e2, ← Int.natCast_mul]
  exact h
theorem L11 (ho : SupOk o) (hp : SupOk p) (h : ∀ x5, PO (.nx (lfr s o p sc x5 x6 x7 x8 x11 x12 (some (.int ((o.length * p.length : Nat) : Int))) x14 x15 x16 x17 x19)) [bxc ds a]) :
    WS (fnsAt pg wf (n + 3)) l11 (lfr s o p sc x5 x6 x7 x8 x11 x12 (some (.int ((o.length * p.length : Nat) : Int))) x14 x15 x16 x17 x19) [bxc ds a] PO := by
  have hlm := len_mul ho hp
  unfold l11
  repeat walk_at "w"
  rw [c_more ho hp]
  repeat walk_at "w"
  rw [show (2 * ((o.length * p.length : Nat) : Int) + 1).toNat = 2 * (o.length * p.length) + 1 from by omega]
  refine w_comp_pure (fun j : Nat => D.int (j : Nat)) (fun (j : Nat) => decide (ls o j < ls p j)) (fun j => D.int (j : Nat)) (List.range (2 * (o.length * p.length) + 1)) rfl (by rw [List.length_range]; exact small_ok (by omega)) (fun j hj => ⟨_, rfl, ?_, fun _ => rfl⟩) ?_
  · have hj := List.mem_range.mp hj
    refine RPost.eq ?_
    repeat walk_at "w"
    rw [c_lawls ho (by omega)]
    repeat walk_at "w"
    rw [c_lawls hp (by omega)]
    repeat walk_at "w"
    exact ⟨rfl, rfl⟩
  have e : ∀ l : List Nat, l.map (fun j : Nat => D.int (j : Nat)) = (l.map fun j : Nat => (j : Int)).map .int := fun l => by rw [List.map_map]; rfl
  rw [e]
  repeat walk_at "w"
  refine ⟨_, b_eqN (k := 1) (cmp_ints _) (by decide), ?_⟩
  repeat walk_at "w"
  have e2 : List.isEmpty ((((List.range (2 * (o.length * p.length) + 1)).filter fun (j : Nat) => decide (ls o j < ls p j)).map (fun j : Nat => (j : Int))).map D.int) = gm o p := by
    rw [gm_eq ho.pos hp.pos]
    cases ((List.range (2 * (o.length * p.length) + 1)).filter fun (j : Nat) => decide (ls o j < ls p j)) <;> rfl
  rw [e2, like_atom (.bl _)]
  repeat walk_at "w"
  exact h _
theorem L1213 (ho : SupOk o) (hs : 0 < o.sum) {r : List Dm.S} (h : ∀ x14, WSs (fnsAt pg wf (n + 3)) r (lfr s o p sc x5 x6 x7 x8 x11 x12 x13 x14 x15 x16 x17 x19) [bxc ds a] PO) :
    WSs (fnsAt pg wf (n + 3)) (l12 :: l13 :: r) (lfr s o p sc x5 x6 x7 x8 x11 x12 x13 x14 x15 x16 x17 x19) [bxc ds a] PO := by
  obtain ⟨g, g1, g2, g3, g4⟩ := gap_ok ho.pos hs
  have hl := ho.le
  refine s_consW ?_
  unfold l12
  refine s_asgv ?_
  refine RPost.imp (P := fun x S' => x = .int (g : Nat) ∧ S' = [bxc ds a]) ?_ ?_
  · repeat walk_at "w"
    rw [c_gap ho (gaps_ne ho.pos), g1]
    repeat walk_at "w"
    exact ⟨rfl, rfl⟩
  rintro x S' - ⟨rfl, rfl⟩
  refine s_consW ?_
  unfold l13
  refine s_iffW ?_
  refine RPost.imp (P := fun t S' => t = false ∧ S' = [bxc ds a]) ?_ ?_
  · repeat walk_at "w"
    rw [c_lawls ho (by omega), g3]
    repeat walk_at "w"
    refine w_decn (fun hne => absurd rfl hne) (fun _ => ?_)
    repeat walk_at "w"
    rw [show ((g : Int) + 1) = ((g + 1 : Nat) : Int) from by omega, c_lawls ho (by omega)]
    repeat walk_at "w"
    exact ⟨decide_eq_false g4, rfl⟩
  rintro t S' - ⟨rfl, rfl⟩
  refine w_iff' ?_
  refine s_nilW ?_
  exact h (some (.int (g : Nat)))
theorem L141516 (ha : 0 ≤ a) (ho : SupOk o) (hs : 0 < o.sum) (hw : 1000000 < wf) {r : List Dm.S} (h : ∀ x5 x15 a', 0 ≤ a' → WSs (fnsAt pg wf (n + 3)) r (lfr s o p sc x5 x6 x7 x8 x11 x12 x13 x14 x15 x16 x17 x19) [bxc ds a'] PO) :
    WSs (fnsAt pg wf (n + 3)) (l14 :: l15 :: l16 :: r) (lfr s o p sc x5 x6 x7 x8 x11 x12 x13 x14 x15 x16 x17 x19) [bxc ds a] PO := by
  have hl := ho.le
  refine s_consW ?_
  unfold l14
  refine s_asgv ?_
  refine w_call ?_
  refine w_cons ?_
  refine w_var (d := .ref 0) rfl ?_
  refine w_cons ?_
  refine w_int ?_
  refine w_nil ?_
  refine w_draw ha (by decide) fun v p0 q0 => ?_
  obtain ⟨am, rfl⟩ : ∃ am : Nat, v = am := ⟨v.toNat, by omega⟩
  obtain ⟨k, k1, k2, k3⟩ := first_ok ho.pos hs am
  have hk : k ≤ 200 := by
    have := Nat.mul_le_mul (show am ≤ 9 by omega) hl
    omega
  refine s_consW ?_
  unfold l15
  refine s_asgv ?_
  refine RPost.imp (P := fun x S' => x = .int (k : Nat) ∧ S' = [bxc ds (a + 1)]) ?_ ?_
  · repeat walk_at "w"
    rw [c_first ho k2 k3 (by omega)]
    repeat walk_at "w"
    exact ⟨rfl, rfl⟩
  rintro x S' - ⟨rfl, rfl⟩
  refine s_consW ?_
  unfold l16
  refine s_iffW ?_
  refine RPost.imp (P := fun t S' => t = false ∧ S' = [bxc ds (a + 1)]) ?_ ?_
  · repeat walk_at "w"
    rw [c_lawls ho (by omega)]
    repeat walk_at "w"
    refine w_dec (fun hc => ?_) (fun hc => ?_)
    · exact absurd hc (by omega)
    repeat walk_at "w"
    refine w_dec (fun hc => ?_) (fun hc => ?_)
    · repeat walk_at "w"
      have h3 := k3 (k - 1) (by omega)
      rw [show ((k : Int) - 1) = ((k - 1 : Nat) : Int) from by omega, c_lawls ho (by omega)]
      repeat walk_at "w"
      exact ⟨decide_eq_false (by omega), rfl⟩
    · repeat walk_at "w"
      exact ⟨rfl, rfl⟩
  rintro t S' - ⟨rfl, rfl⟩
  refine w_iff' ?_
  refine s_nilW ?_
  exact h (some (.int (k : Nat))) (some (.int (am : Nat))) (a + 1) (by omega)
theorem Lk.ints {k : Nat} {l : List Int} (hl : l.length ≤ 1000) : Lk (k + 1) (.tup (l.map .int)) := .tup (fun x hx => by
  obtain ⟨i, _, rfl⟩ := List.mem_map.mp hx
  exact .int i) (by rw [List.length_map]; exact hl)
theorem L1718 (ho : SupOk o) {r : List Dm.S} (h : ∀ x16 x17, WSs (fnsAt pg wf (n + 3)) r (lfr s o p sc x5 x6 x7 x8 x11 x12 x13 x14 x15 x16 x17 x19) [bxc ds a] PO) :
    WSs (fnsAt pg wf (n + 3)) (l17 :: l18 :: r) (lfr s o p sc x5 x6 x7 x8 x11 x12 x13 x14 x15 x16 x17 x19) [bxc ds a] PO := by
  have e1 : ((o.map D.int).length : Int) = o.length := by rw [List.length_map]
  have hl := ho.le
  have hp := ho.pos
  have hs := sum_bits ho.bit
  refine s_consW ?_
  refine RPost.imp (P := fun q S' => q = .nx (lfr s o p sc x5 x6 x7 x8 x11 x12 x13 x14 x15 (some (.int (o.length : Nat))) (some (.int o.sum)) x19) ∧ S' = [bxc ds a]) ?_ ?_
  · unfold l17
    repeat walk_at "w"
    rw [e1]
    exact ⟨rfl, rfl⟩
  rintro q S' - ⟨rfl, rfl⟩
  refine s_consW ?_
  unfold l18
  refine s_iffW ?_
  refine RPost.imp (P := fun t S' => t = false ∧ S' = [bxc ds a]) ?_ ?_
  · repeat walk_at "w"
    rw [c_even ho]
    repeat walk_at "w"
    refine w_comp_pure (fun j : Nat => D.int (j : Nat)) (fun _ => true) (fun p => .int (((p : Int) + 1) * o.sum / o.length - p * o.sum / o.length)) (List.range o.length) (by rw [Int.toNat_natCast]) (by rw [List.length_range]; exact small_ok (by omega)) (fun j hj => ⟨_, rfl, rfl, fun _ => ?_⟩) ?_
    · refine RPost.eq ?_
      repeat walk_at "w"
      refine ⟨?_, rfl⟩
      rw [even_eq (L := o.length) (j : Nat) hs.1 hs.2 (by omega)]
      by_cases hc : ((j : Int) + 1) * o.sum / o.length > j * o.sum / o.length
      · rw [decide_eq_true hc, if_pos hc]; rfl
      · rw [decide_eq_false hc, if_neg hc]; rfl
    rw [filter_all]
    repeat walk_at "w"
    have e : (List.range o.length).map (fun (p : Nat) => D.int (((p : Int) + 1) * o.sum / o.length - p * o.sum / o.length)) = ((List.range o.length).map fun (p : Nat) => (((p : Int) + 1) * o.sum / o.length - p * o.sum / o.length)).map .int := by rw [List.map_map]; rfl
    rw [e, show n + 3 = (n + 1) + 1 + 1 from rfl, c_like 1 _ (Lk.ints (by rw [List.length_map, List.length_range]; omega)) (n + 1) _]
    repeat walk_at "w"
    exact ⟨rfl, rfl⟩
  rintro t S' - ⟨rfl, rfl⟩
  refine w_iff' ?_
  refine s_nilW ?_
  exact h _ _
end
end k06

namespace k06
theorem abc_short {x : Str} (h : x ∈ abc) : x.length ≤ 1000 := by
  have : ∀ x ∈ abc, x.length ≤ 1000 := by decide +kernel
  exact this x h
theorem lk_td {t : Task} (h : t.nm ∈ abc) (hk : PyData.strOk t.kind = true ∧ t.kind.length ≤ 10) : Lk 1 (tD t) := .tup (fun x hx => by
  simp only [List.mem_cons, List.not_mem_nil, or_false] at hx
  rcases hx with rfl | rfl | rfl | rfl | rfl | rfl | rfl
  · exact .str (abc_ok h) (abc_short h)
  · exact .str hk.1 (by omega)
  all_goals exact .int _) (by show 7 ≤ 1000; decide)
theorem lk_lk {l : Str × Int} (h : l.1 ∈ abc) : Lk 1 (lkD l) := .tup (fun x hx => by
  simp only [List.mem_cons, List.not_mem_nil, or_false] at hx
  rcases hx with rfl | rfl | rfl | rfl
  · exact .str (abc_ok h) (abc_short h)
  · exact .str l_ok (by decide)
  all_goals exact .int _) (by show 4 ≤ 1000; decide)
theorem lk_sd {s : Sys} (h1 : ∀ t ∈ s.tasks, t.nm ∈ abc) (h2 : ∀ l ∈ s.locks, l.1 ∈ abc) (hS : SysS s) (f1 : s.tasks.length ≤ 3) (f2 : s.locks.length ≤ 3) (f3 : s.sup.length ≤ 12) : Lk 3 (sD s) := .tup (fun x hx => by
  have ks : PyData.strOk ("system" : Str) = true ∧ ("system" : Str).length ≤ 1000 := by decide +kernel
  simp only [List.mem_cons, List.not_mem_nil, or_false] at hx
  rcases hx with rfl | rfl | rfl | rfl | rfl | rfl | rfl
  · exact .str ks.1 ks.2
  · exact .int _
  · exact .str hS.rule.1 (by have := hS.rule.2; omega)
  · exact .bl _
  · exact Lk.ints (by omega)
  · refine .tup (fun x hx => ?_) (by rw [List.length_map]; omega)
    obtain ⟨t, ht, rfl⟩ := List.mem_map.mp hx
    exact lk_td (h1 t ht) (hS.kind t ht)
  · refine .tup (fun x hx => ?_) (by rw [List.length_map]; omega)
    obtain ⟨l, hl, rfl⟩ := List.mem_map.mp hx
    exact lk_lk (h2 l hl)) (by show 7 ≤ 1000; decide)
theorem good : Good pg 63 21 33 := by
  intro ns hlen
  refine ⟨2000000, ?_⟩
  suffices h : RPost (fun d S' => d = .bl true) ((fnsAt pg 2000000 21).call 33 [.frz (ns.map .int)] []) by
    obtain ⟨d, S', e, rfl⟩ := h.ex
    exact ⟨S', e⟩
  have hw : 1000000 < 2000000 := by decide
  rw [call_at rfl]
  refine w_fd rfl ?_
  rw [law_body]
  obtain ⟨ds, hd⟩ := c_digits (wf := 2000000) (n := 18) (ns := ns)
  refine s_consW ?_
  unfold l0
  refine s_asgv ?_
  refine w_mkl ?_
  repeat walk_at "w"
  rw [show (20 : Nat) = 18 + 2 from rfl, hd]
  repeat walk_at "w"
  unfold l1
  repeat walk_at "w"
  refine w_system (n := 17) (ds := ds) (a := 0) (by decide) fun s a1 hs hS ha1 => ?_
  repeat walk_at "w"
  refine w_supply (n := 18) ha1 fun o a2 ho ho2 ho3 ha2 => ?_
  repeat walk_at "w"
  refine w_supply (n := 18) ha2 fun p a3 hp hp2 hp3 ha3 => ?_
  repeat walk_at "w"
  show WS (fnsAt pg 2000000 (17 + 3)) l2 (lfr s o p (some (.frz (ns.map .int))) none none none none none none none none none none none none) [bxc ds a3] _
  with_reducible refine L2 ha3 ho fun a4 y5 ha4 => ?_
  with_reducible refine s_consW (L3 hs fun y6 => ?_)
  with_reducible refine s_consW (L4 hw hs ?_)
  with_reducible refine s_consW (L5 hw hs ?_)
  with_reducible refine s_consW (L6 hs ?_)
  with_reducible refine s_consW (L7 hs ?_)
  with_reducible refine s_consW (L8 hs ?_)
  with_reducible refine s_consW (L9 hs fun y7 y11 y12 => ?_)
  with_reducible refine s_consW (L10 ho hp ?_)
  with_reducible refine s_consW (L11 ho hp fun z5 => ?_)
  with_reducible refine L1213 ho ho2 fun y14 => ?_
  with_reducible refine L141516 ha4 ho ho2 hw fun w5 y15 a5 ha5 => ?_
  with_reducible refine L1718 ho fun y16 y17 => ?_
  have hsl := sup_len hs
  have e1 : ((s.sup.map D.int).length : Int) = s.sup.length := by rw [List.length_map]
  refine s_consW ?_
  unfold l19
  refine s_asgv ?_
  repeat walk_at "w"
  rw [e1]
  refine w_draw (n := 19) ha5 (by omega) fun v p0 q0 => ?_
  obtain ⟨k, rfl⟩ : ∃ k : Nat, v = k := ⟨v.toNat, by omega⟩
  refine s_consW ?_
  unfold l20
  refine s_fzW (n := 0) (l := [.lst (ds.map .int), .int (a5 + 1)]) rfl rfl ?_
  refine s_consW ?_
  unfold l21
  repeat walk_at "w"
  rw [show (17 + 3 : Nat) = 19 + 1 from rfl, c_begun hs (by omega)]
  repeat walk_at "w"
  rw [cut_from, cut_to, ← List.map_drop, ← List.map_take]
  refine ⟨_, b_addT (by rw [List.length_map, List.length_map, List.length_drop, List.length_take]; omega), ?_⟩
  rw [← List.map_append]
  repeat walk_at "w"
  show RPost _ ((fnsAt pg 2000000 (16 + 3 + 1)).call 22 [sD { s with sup := s.sup.drop k ++ s.sup.take k }, sD { s with sup := s.sup.drop k ++ s.sup.take k }] [.dead])
  rw [c_like 3 _ (lk_sd (s := { s with sup := s.sup.drop k ++ s.sup.take k }) hs.short (fun l hl => (hs.lock l hl).2.2) ⟨hS.kind, hS.rule⟩ hs.few hs.fewl (by show (s.sup.drop k ++ s.sup.take k).length ≤ 12; rw [List.length_append, List.length_drop, List.length_take]; omega)) 16 _]
  refine w_ok ?_
  show RPost (fun d S' => d = .bl true) (cutR 0 (.bl true) [.dead])
  exact w_cut (Nat.zero_le _) rfl rfl rfl
end k06

end Dm

theorem Dm.k06.chk : Dm.chkFds Dm.k06.tab Dm.k06.tab.fns Dm.k06.pg.fns Dm.k06.sts = true := by decide +kernel
open PySem PySem.W PyProof.Rows
set_option maxHeartbeats 0 in
theorem PySem.Challenge.cw_timelyproof_k06_sup_numbers_holds : PySem.Challenge.rw_timelyproof_k06_sup_numbers.Holds := by
  w_on; o_law; k_head; (case hw => w_witness2)
  k_fill
  refine L2.walk_of (l := PySem.Challenge.rw_timelyproof_k06_sup_numbers) (n := 63) (k := 21) (x := "script") (CX := fun _ => L2.CX0) (sp := fun w => Dm.spLaw _ 63) rfl (by decide) rfl ⟨rfl, by decide, by decide⟩ (fun w h Y => PySem.W.kIn_of Y) ?F (fun w H a ns hl hO hS => ⟨a, ns, rfl, hS, hl, hO, fun _ => rfl⟩) (fun _ _ _ _ _ h => h)
  case F =>
    intro w mg fa h KX G hmg
    refine' Dm.law_ok (sts := Dm.k06.sts) (Pg := Dm.k06.pg) (T := Dm.k06.tab) (n := 20) (i := 33) ?M KX G Dm.k06.chk rfl hmg rfl Dm.k06.good
    case M =>
      refine' Dm.Mod.of ?d ?c ?b (.inl ?g)
      case g => k_is
      case b =>
        repeat (refine' And.intro (And.intro ?x1 ?x2) ?_; (case x1 => k_is); (case x2 => decide +kernel))
        exact True.intro
      case c =>
        refine' And.intro ?x1 (And.intro ?x2 True.intro)
        case x1 =>
          refine' Dm.con_tup2 ?y1 ?y2; (case y1 => k_is); (case y2 => k_is)
        case x2 =>
          refine' Dm.con_int ?y1; (case y1 => k_is)
      case d =>
        repeat (refine' And.intro (Dm.def_mk ?a ?l ?c ?k) ?_; (case a => k_is); (case l => k_is); (case c => k_is); (case k => k_is))
        exact True.intro

