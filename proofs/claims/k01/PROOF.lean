import PyProof.Rows.All
import Wide.All
import OpenK.AllK
import Wide.FinOn
import HandS.ForMost
import HandS.Deep
import HandS.Gcd
import HandS.Flow
import HandS.IsInst
import HandS.TupAny
import HandS.Style
import HandS.Wide
import KE.SortData
import KE.LtData
import KE.DataCmp
import PyProof.Rows.IntBool
import KE.DataMinMax
import HandS.SortKw
import HandS.NoneIn
import HandS.Zip
import HandS.IterVal
import KE.GoesEnum
import KE.KDictZip
import HandS.Strs
import PyProof.ListNew
import HandS.Dict
import HandS.DictComp
import PySem.Challenge.RW_timelyproof_k01_sys_systems
set_option Elab.async false
set_option linter.all false
set_option maxRecDepth 100000
/-! DmA: plain data, the store, how they lie in the abstract heap. -/
namespace Dm
open PySem L2

/-- plain data: what is never written any more stands as itself, what may be written is a place of the store -/
inductive D where
  | non | bl (b : Bool) | int (i : Int) | str (s : Str)
  | tup (l : List D) | lst (l : List D)
  | ref (n : Nat)
  | frz (l : List D)
  | itr (l : List D)
  deriving Inhabited

/-- what stands at a place of the store -/
inductive Cell where
  | dead
  | lst (l : List D)
  | dct (l : List (D × D))

abbrev Store := List Cell
abbrev Fr := List (Option D)

mutual
/-- no place from n on is named in it -/
def D.rb (n : Nat) : D → Bool
  | .ref m => decide (m < n)
  | .tup l => D.rbL n l
  | .lst l => D.rbL n l
  | .frz l => D.rbL n l
  | .itr l => D.rbL n l
  | _ => true
termination_by structural d => d
def D.rbL (n : Nat) : List D → Bool
  | [] => true
  | d :: ds => D.rb n d && D.rbL n ds
termination_by structural d => d
end
def rbP (n : Nat) (l : List (D × D)) : Bool := l.all fun p => D.rb n p.1 && D.rb n p.2
def Cell.rb (n : Nat) : Cell → Bool
  | .dead => true
  | .lst l => D.rbL n l
  | .dct l => rbP n l

/-! ### how data lies -/
section
variable (K : PySem.W.Frag)
/-- where things lie: the frozen part of the heap, the addresses of the store's places; pv: what stands apart (nobody's data names it, nobody changes it) -/
structure G where
  F : Hp
  ρ : List Addr
  pv : Hp

mutual
inductive Rep (g : G) : D → V → Prop
  | non : Rep g .non .non
  | bl (b : Bool) : Rep g (.bl b) (.bl b)
  | int (i : Int) : Rep g (.int i) (.int i)
  | str (x : Str) : Rep g (.str x) (.str x)
  | tup {a : Addr} {xs : List V} {ds : List D} : SqT K g.F a xs → RepL g ds xs → Rep g (.tup ds) (.ref a)
  | lst {a : Addr} {xs : List V} {ds : List D} : g.F a = some (.lst xs) → RepL g ds xs → Rep g (.lst ds) (.ref a)
  | frz {a : Addr} {xs : List V} {ds : List D} : SqL K g.F a xs → RepL g ds xs → Rep g (.frz ds) (.ref a)
  | ref {a : Addr} {n : Nat} : g.ρ[n]? = some a → Rep g (.ref n) (.ref a)
inductive RepL (g : G) : List D → List V → Prop
  | nil : RepL g [] []
  | cons {d : D} {v : V} {ds : List D} {vs : List V} : Rep g d v → RepL g ds vs → RepL g (d :: ds) (v :: vs)
end

/-- a dict's pairs: the keys ints or texts -/
def keyD : Key → D
  | .inl i => .int i
  | .inr x => .str x
inductive RepP (g : G) : List (D × D) → List (Key × V) → Prop
  | nil : RepP g [] []
  | cons {k : Key} {d : D} {v : V} {l : List (D × D)} {kvs : List (Key × V)} : Rep K g d v → RepP g l kvs → RepP g ((keyD k, d) :: l) ((k, v) :: kvs)

def CellOk (g : G) : Cell → Option HO → Prop
  | .dead, _ => True
  | .lst ds, o => ∃ xs, o = some (.lst xs) ∧ RepL K g ds xs
  | .dct l, o => ∃ kvs, o = some (.dK kvs) ∧ RepP K g l kvs

def Cell.live : Cell → Bool
  | .dead => false
  | _ => true

structure HpOk (g : G) (S : Store) (H : Hp) : Prop where
  same : Same g.F H
  len : S.length = g.ρ.length
  cell : ∀ (n : Nat) (c : Cell) (a : Addr), S[n]? = some c → g.ρ[n]? = some a → c.live = true → CellOk K g c (H a) ∧ g.F a = none
  inj : ∀ (n m : Nat) (c e : Cell) (a : Addr), S[n]? = some c → S[m]? = some e → c.live = true → e.live = true → g.ρ[n]? = some a → g.ρ[m]? = some a → n = m
  pv : Same g.pv H
  pvF : ∀ a o, g.pv a = some o → g.F a = none
  pvR : ∀ (n : Nat) (c : Cell) (a : Addr), S[n]? = some c → g.ρ[n]? = some a → c.live = true → g.pv a = none

structure Le (g g' : G) : Prop where
  F : Same g.F g'.F
  ρ : ∃ more, g'.ρ = g.ρ ++ more
  pv : g'.pv = g.pv

structure FrOk (g : G) (fr : Fr) (σ : St) : Prop where
  len : fr.length = σ.length
  at_ : ∀ (i : Nat) (d : D), fr[i]? = some (some d) → ∃ v, σ[i]? = some (some v) ∧ Rep K g d v
end

section
variable {K : PySem.W.Frag} {g g' g'' : G}
theorem Le.refl (g : G) : Le g g := ⟨Same.refl _, ⟨[], (List.append_nil _).symm⟩, rfl⟩
theorem Le.trans (h : Le g g') (h' : Le g' g'') : Le g g'' := by
  obtain ⟨f, ⟨m, e⟩, p⟩ := h
  obtain ⟨f', ⟨m', e'⟩, p'⟩ := h'
  exact ⟨f.trans f', ⟨m ++ m', by rw [e', e, List.append_assoc]⟩, p'.trans p⟩
theorem Le.at_ (h : Le g g') {n : Nat} {a : Addr} (e : g.ρ[n]? = some a) : g'.ρ[n]? = some a := by
  obtain ⟨_, ⟨m, e'⟩, _⟩ := h
  rw [e', List.getElem?_append_left (by exact (List.getElem?_eq_some_iff.mp e).1)]
  exact e
theorem sqT_mono {F F' : Hp} (h : Same F F') {a : Addr} {xs : List V} (q : SqT K F a xs) : SqT K F' a xs := by
  rcases q with (q | ⟨o, q⟩) | q
  · exact .inl (.inl (h _ _ q))
  · exact .inl (.inr ⟨o, h _ _ q⟩)
  · exact .inr q
mutual
theorem Rep.mono (h : Le g g') : ∀ {d : D} {v : V}, Rep K g d v → Rep K g' d v
  | _, _, .non => .non
  | _, _, .bl b => .bl b
  | _, _, .int i => .int i
  | _, _, .str x => .str x
  | _, _, .tup q r => .tup (sqT_mono h.F q) (RepL.mono h r)
  | _, _, .lst q r => .lst (h.F _ _ q) (RepL.mono h r)
  | _, _, .frz q r => .frz (h.F.seq q) (RepL.mono h r)
  | _, _, .ref e => .ref (h.at_ e)
theorem RepL.mono (h : Le g g') : ∀ {ds : List D} {vs : List V}, RepL K g ds vs → RepL K g' ds vs
  | _, _, .nil => .nil
  | _, _, .cons r q => .cons (Rep.mono h r) (RepL.mono h q)
end
theorem RepP.mono (h : Le g g') : ∀ {l : List (D × D)} {kvs : List (Key × V)}, RepP K g l kvs → RepP K g' l kvs
  | _, _, .nil => .nil
  | _, _, .cons r q => .cons (r.mono h) (RepP.mono h q)
theorem CellOk.mono (h : Le g g') {c : Cell} {o : Option HO} (q : CellOk K g c o) : CellOk K g' c o := by
  cases c with
  | dead => trivial
  | lst ds => obtain ⟨xs, e, r⟩ := q; exact ⟨xs, e, r.mono h⟩
  | dct l => obtain ⟨kvs, e, r⟩ := q; exact ⟨kvs, e, r.mono h⟩
theorem FrOk.mono (h : Le g g') {fr : Fr} {σ : St} (q : FrOk K g fr σ) : FrOk K g' fr σ :=
  ⟨q.len, fun i d e => let ⟨v, e', r⟩ := q.at_ i d e; ⟨v, e', r.mono h⟩⟩
theorem RepL.length : ∀ {ds : List D} {vs : List V}, RepL K g ds vs → ds.length = vs.length
  | _, _, .nil => rfl
  | _, _, .cons _ q => congrArg (· + 1) q.length
theorem RepL.get : ∀ {ds : List D} {vs : List V}, RepL K g ds vs → ∀ {i : Nat} {d : D}, ds[i]? = some d → ∃ v, vs[i]? = some v ∧ Rep K g d v
  | _, _, .nil, i, d, e => by simp at e
  | _, _, .cons r q, 0, d, e => by simp at e; subst e; exact ⟨_, rfl, r⟩
  | _, _, .cons r q, i + 1, d, e => by
    obtain ⟨v, e', r'⟩ := q.get (i := i) (d := d) (by simpa using e)
    exact ⟨v, by simpa using e', r'⟩
theorem RepL.append : ∀ {ds : List D} {vs : List V} {es : List D} {ws : List V}, RepL K g ds vs → RepL K g es ws → RepL K g (ds ++ es) (vs ++ ws)
  | _, _, _, _, .nil, q => q
  | _, _, _, _, .cons r p, q => .cons r (p.append q)
theorem RepL.take : ∀ {ds : List D} {vs : List V} (n : Nat), RepL K g ds vs → RepL K g (ds.take n) (vs.take n)
  | _, _, 0, _ => .nil
  | _, _, _ + 1, .nil => .nil
  | _, _, n + 1, .cons r q => .cons r (q.take n)
theorem RepL.drop : ∀ {ds : List D} {vs : List V} (n : Nat), RepL K g ds vs → RepL K g (ds.drop n) (vs.drop n)
  | _, _, 0, q => q
  | _, _, _ + 1, .nil => .nil
  | _, _, n + 1, .cons _ q => RepL.drop n q
theorem RepL.set {x : D} {u : V} (r : Rep K g x u) : ∀ {ds : List D} {vs : List V} (i : Nat), RepL K g ds vs → RepL K g (ds.set i x) (vs.set i u)
  | _, _, _, .nil => .nil
  | _, _, 0, .cons _ q => .cons r q
  | _, _, i + 1, .cons p q => .cons p (q.set r i)
theorem RepL.reverse : ∀ {ds : List D} {vs : List V}, RepL K g ds vs → RepL K g ds.reverse vs.reverse
  | _, _, .nil => .nil
  | _, _, .cons r q => by
    rw [List.reverse_cons, List.reverse_cons]
    exact q.reverse.append (.cons r .nil)

/-! slots -/
theorem FrOk.get {fr : Fr} {σ : St} (q : FrOk K g fr σ) {i : Nat} {d : D} (e : fr[i]? = some (some d)) : ∃ v, σ[i]? = some (some v) ∧ Rep K g d v := q.at_ i d e
theorem FrOk.set {fr : Fr} {σ : St} (q : FrOk K g fr σ) {i : Nat} {d : D} {v : V} (r : Rep K g d v) : FrOk K g (fr.set i (some d)) (σ.set i (some v)) := by
  refine ⟨by simp [q.len], fun j e h => ?_⟩
  by_cases hj : i = j
  · subst hj
    by_cases hl : i < fr.length
    · rw [List.getElem?_set_self hl] at h
      cases h
      exact ⟨v, List.getElem?_set_self (by rw [← q.len]; exact hl), r⟩
    · rw [List.getElem?_eq_none (by simpa using hl)] at h
      cases h
  · rw [List.getElem?_set_ne hj] at h ⊢
    exact q.at_ j e h
/-- a slot forgotten on both sides -/
theorem FrOk.clear {fr : Fr} {σ : St} (q : FrOk K g fr σ) (i : Nat) : FrOk K g (fr.set i none) (σ.set i none) := by
  refine ⟨by simp [q.len], fun j e h => ?_⟩
  by_cases hj : i = j
  · subst hj
    by_cases hl : i < fr.length
    · rw [List.getElem?_set_self hl] at h
      cases h
    · rw [List.getElem?_eq_none (by simpa using hl)] at h
      cases h
  · rw [List.getElem?_set_ne hj] at h ⊢
    exact q.at_ j e h

/-! the heap grows -/
/-- a new frozen object -/
def G.put (g : G) (p : Addr) (o : HO) : G := ⟨upd g.F p o, g.ρ, g.pv⟩
theorem HpOk.free {S : Store} {H : Hp} (h : HpOk K g S H) {p : Addr} (e : H p = none) : g.F p = none := h.same.free e
theorem same_upd2 {F H : Hp} {p : Addr} {o : HO} (h : Same F H) : Same (upd F p o) (upd H p o) := fun b u e => by
  by_cases hb : b = p
  · subst hb; rw [upd_same] at e ⊢; exact e
  · rw [upd_ne hb] at e ⊢; exact h b u e
theorem same_new {H : Hp} {p : Addr} {o : HO} (h : H p = none) : Same H (upd H p o) := fun b x e => by
  rw [upd_ne (ne_of_none e h)]; exact e
theorem Le.put {p : Addr} {o : HO} (h : g.F p = none) : Le g (g.put p o) := ⟨same_new h, ⟨[], (List.append_nil _).symm⟩, rfl⟩
theorem HpOk.put {S : Store} {H : Hp} (h : HpOk K g S H) {p : Addr} {o : HO} (e : H p = none) : HpOk K (g.put p o) S (upd H p o) := by
  have hF : g.F p = none := h.free e
  refine ⟨same_upd2 h.same, h.len, fun n c a hn ha hl => ?_, fun n m c e' a h1 h2 h3 h4 h5 h6 => h.inj n m c e' a h1 h2 h3 h4 h5 h6, h.pv.trans (same_new e), fun a u q => ?_, h.pvR⟩
  rotate_left
  · show upd g.F p o a = none
    rw [upd_ne (ne_of_none (h.pv a u q) e)]
    exact h.pvF a u q
  obtain ⟨q, f⟩ := h.cell n c a hn ha hl
  have hap : a ≠ p := by
    rintro rfl
    cases c with
    | dead => cases hl
    | lst ds => obtain ⟨xs, z, _⟩ := q; rw [e] at z; cases z
    | dct l => obtain ⟨kvs, z, _⟩ := q; rw [e] at z; cases z
  refine ⟨?_, ?_⟩
  · rw [upd_ne hap]
    exact q.mono (Le.put hF)
  · show upd g.F p o a = none
    rw [upd_ne hap]
    exact f
/-- a new place of the store -/
def G.add (g : G) (p : Addr) : G := ⟨g.F, g.ρ ++ [p], g.pv⟩
theorem Le.add (p : Addr) : Le g (g.add p) := ⟨Same.refl _, ⟨[p], rfl⟩, rfl⟩
theorem HpOk.add {S : Store} {H : Hp} (h : HpOk K g S H) {p : Addr} {o : HO} {c : Cell} (e : H p = none) (hc : CellOk K g c (some o)) : HpOk K (g.add p) (S ++ [c]) (upd H p o) := by
  have hF : g.F p = none := h.free e
  have key : ∀ {n : Nat} {c' : Cell}, (S ++ [c])[n]? = some c' → (n < S.length ∧ S[n]? = some c') ∨ (n = S.length ∧ c' = c) := fun {n c'} z => by
    by_cases hn : n < S.length
    · rw [List.getElem?_append_left hn] at z; exact .inl ⟨hn, z⟩
    · rw [List.getElem?_append_right (by omega)] at z
      have : n - S.length = 0 := by
        cases hk : n - S.length with
        | zero => rfl
        | succ k => rw [hk] at z; simp at z
      rw [this] at z
      simp at z
      exact .inr ⟨by omega, z.symm⟩
  have kρ : ∀ {n : Nat} {a : Addr}, (g.ρ ++ [p])[n]? = some a → (n < S.length → g.ρ[n]? = some a) ∧ (n = S.length → a = p) := fun {n a} z => by
    refine ⟨fun hn => ?_, fun hn => ?_⟩
    · rw [List.getElem?_append_left (by rw [← h.len]; exact hn)] at z; exact z
    · rw [hn, h.len, List.getElem?_append_right (Nat.le_refl _)] at z
      simpa using z.symm
  have old : ∀ {n : Nat} {c' : Cell} {a : Addr}, S[n]? = some c' → g.ρ[n]? = some a → c'.live = true → a ≠ p := fun {n c' a} h1 h2 hl => by
    obtain ⟨q, f⟩ := h.cell n c' a h1 h2 hl
    rintro rfl
    cases c' with
    | dead => cases hl
    | lst ds => obtain ⟨xs, z, _⟩ := q; rw [e] at z; cases z
    | dct l => obtain ⟨kvs, z, _⟩ := q; rw [e] at z; cases z
  refine ⟨h.same.trans (same_new e), by show (S ++ [c]).length = (g.ρ ++ [p]).length; simp [h.len], fun n c' a hn ha hl => ?_, fun n m c' e' a h1 h2 h3 h4 h5 h6 => ?_, h.pv.trans (same_new e), h.pvF, fun n c' a hn ha hl => ?_⟩
  rotate_left 2
  · obtain ⟨k1, k2⟩ := kρ (n := n) (a := a) ha
    rcases key hn with ⟨hlt, z⟩ | ⟨he, rfl⟩
    · exact h.pvR n c' a z (k1 hlt) hl
    · rw [k2 he]
      exact h.pv.free e
  · obtain ⟨k1, k2⟩ := kρ (n := n) (a := a) ha
    rcases key hn with ⟨hlt, z⟩ | ⟨he, rfl⟩
    · have ha' := k1 hlt
      have hap := old z ha' hl
      obtain ⟨q, f⟩ := h.cell n c' a z ha' hl
      exact ⟨by rw [upd_ne hap]; exact q.mono (Le.add p), f⟩
    · have := k2 he
      subst this
      exact ⟨by rw [upd_same]; exact hc.mono (Le.add _), hF⟩
  · obtain ⟨k1, k2⟩ := kρ (n := n) (a := a) h5
    obtain ⟨l1, l2⟩ := kρ (n := m) (a := a) h6
    rcases key h1 with ⟨hn, z⟩ | ⟨hn, rfl⟩
    · rcases key h2 with ⟨hm, z'⟩ | ⟨hm, rfl⟩
      · exact h.inj n m c' e' a z z' h3 h4 (k1 hn) (l1 hm)
      · exact absurd (l2 hm) (old z (k1 hn) h3)
    · rcases key h2 with ⟨hm, z'⟩ | ⟨hm, rfl⟩
      · exact absurd (k2 hn) (old z' (l1 hm) h4)
      · omega
/-- a place is written -/
theorem HpOk.write {S : Store} {H : Hp} (h : HpOk K g S H) {n : Nat} {a : Addr} {c c' : Cell} {o : HO} (hn : S[n]? = some c) (hl : c.live = true) (ha : g.ρ[n]? = some a) (hc : CellOk K g c' (some o)) : HpOk K g (S.set n c') (upd H a o) := by
  obtain ⟨_, f⟩ := h.cell n c a hn ha hl
  have hlt := (List.getElem?_eq_some_iff.mp hn).1
  refine ⟨fun b x e => ?_, by simp [h.len], fun m e b hm hb hle => ?_, fun m k e e' b h1 h2 h3 h4 h5 h6 => ?_, fun b x e => ?_, h.pvF, fun m e b hm hb hle => ?_⟩
  rotate_left 3
  · rw [upd_ne (by rintro rfl; rw [h.pvR n c b hn ha hl] at e; cases e)]
    exact h.pv b x e
  · by_cases hmn : n = m
    · subst hmn
      exact h.pvR n c b hn hb hl
    · rw [List.getElem?_set_ne hmn] at hm
      exact h.pvR m e b hm hb hle
  · rw [upd_ne (by rintro rfl; rw [f] at e; cases e)]
    exact h.same b x e
  · by_cases hmn : n = m
    · subst hmn
      rw [List.getElem?_set_self hlt] at hm
      cases hm
      rw [ha] at hb
      cases hb
      exact ⟨by rw [upd_same]; exact hc, f⟩
    · rw [List.getElem?_set_ne hmn] at hm
      obtain ⟨q, f'⟩ := h.cell m e b hm hb hle
      refine ⟨?_, f'⟩
      rw [upd_ne]
      · exact q
      · rintro rfl
        exact hmn (h.inj n m c e b hn hm hl hle ha hb)
  · have back : ∀ {j : Nat} {x : Cell}, (S.set n c')[j]? = some x → x.live = true → ∃ y, S[j]? = some y ∧ y.live = true := fun {j x} z hx => by
      by_cases hj : n = j
      · subst hj; exact ⟨c, hn, hl⟩
      · rw [List.getElem?_set_ne hj] at z; exact ⟨x, z, hx⟩
    obtain ⟨y1, z1, l1⟩ := back h1 h3
    obtain ⟨y2, z2, l2⟩ := back h2 h4
    exact h.inj m k y1 y2 b z1 z2 l1 l2 h5 h6
/-- a list of the store is frozen -/
theorem HpOk.freeze {S : Store} {H : Hp} (h : HpOk K g S H) {n : Nat} {a : Addr} {ds : List D} (hn : S[n]? = some (.lst ds)) (ha : g.ρ[n]? = some a) :
    ∃ xs, HpOk K (g.put a (.lst xs)) (S.set n .dead) H ∧ Le g (g.put a (.lst xs)) ∧ Rep K (g.put a (.lst xs)) (.lst ds) (.ref a) := by
  obtain ⟨⟨xs, ho, r⟩, f⟩ := h.cell n _ a hn ha rfl
  have hlt := (List.getElem?_eq_some_iff.mp hn).1
  have le : Le g (g.put a (.lst xs)) := Le.put f
  refine ⟨xs, ⟨fun b x e => ?_, by rw [List.length_set]; exact h.len, fun m e b hm hb hle => ?_, fun m k e e' b h1 h2 h3 h4 h5 h6 => ?_, h.pv, fun b u q => ?_, fun m e b hm hb hle => ?_⟩, le, .lst upd_same (r.mono le)⟩
  rotate_left 3
  · show upd g.F a (.lst xs) b = none
    rw [upd_ne (by rintro rfl; have z : g.pv b = some u := q; rw [h.pvR n _ b hn ha rfl] at z; cases z)]
    exact h.pvF b u q
  · by_cases hmn : n = m
    · subst hmn
      rw [List.getElem?_set_self hlt] at hm
      cases hm
      cases hle
    · rw [List.getElem?_set_ne hmn] at hm
      exact h.pvR m e b hm hb hle
  · by_cases hb : b = a
    · subst hb
      have : upd g.F b (.lst xs) b = some x := e
      rw [upd_same] at this
      rw [ho]; exact this
    · have : upd g.F a (.lst xs) b = some x := e
      rw [upd_ne hb] at this
      exact h.same b x this
  · by_cases hmn : n = m
    · subst hmn
      rw [List.getElem?_set_self hlt] at hm
      cases hm
      cases hle
    · rw [List.getElem?_set_ne hmn] at hm
      obtain ⟨q, f'⟩ := h.cell m e b hm hb hle
      refine ⟨q.mono le, ?_⟩
      show upd g.F a (.lst xs) b = none
      rw [upd_ne]
      · exact f'
      · rintro rfl
        exact hmn (h.inj n m _ e b hn hm rfl hle ha hb)
  · have back : ∀ {j : Nat} {x : Cell}, (S.set n .dead)[j]? = some x → x.live = true → S[j]? = some x := fun {j x} z hx => by
      by_cases hj : n = j
      · subst hj
        rw [List.getElem?_set_self hlt] at z
        cases z; cases hx
      · rw [List.getElem?_set_ne hj] at z; exact z
    exact h.inj m k e e' b (back h1 h3) (back h2 h4) h3 h4 h5 h6

/-! the store is cut back -/
def G.cut (g : G) (n : Nat) : G := ⟨g.F, g.ρ.take n, g.pv⟩
theorem take_get {α : Type} {l : List α} {n i : Nat} {x : α} (h : (l.take n)[i]? = some x) : l[i]? = some x ∧ i < n := by
  rw [List.getElem?_take] at h
  split at h
  · exact ⟨h, by assumption⟩
  · cases h
mutual
theorem Rep.cut {n : Nat} : ∀ {d : D} {v : V}, Rep K g d v → D.rb n d = true → Rep K (g.cut n) d v
  | _, _, .non, _ => .non
  | _, _, .bl b, _ => .bl b
  | _, _, .int i, _ => .int i
  | _, _, .str x, _ => .str x
  | _, _, .tup q r, h => .tup q (RepL.cut r h)
  | _, _, .lst q r, h => .lst q (RepL.cut r h)
  | _, _, .frz q r, h => .frz q (RepL.cut r h)
  | .ref m, _, .ref e, h => .ref (by
      have hm : m < n := of_decide_eq_true h
      show (g.ρ.take n)[m]? = _
      rw [List.getElem?_take_of_lt hm]
      exact e)
theorem RepL.cut {n : Nat} : ∀ {ds : List D} {vs : List V}, RepL K g ds vs → D.rbL n ds = true → RepL K (g.cut n) ds vs
  | _, _, .nil, _ => .nil
  | _, _, .cons r q, h => by
    have h' : (D.rb n _ && D.rbL n _) = true := h
    rw [Bool.and_eq_true] at h'
    exact .cons (Rep.cut r h'.1) (RepL.cut q h'.2)
end
theorem RepP.cut {n : Nat} : ∀ {l : List (D × D)} {kvs : List (Key × V)}, RepP K g l kvs → rbP n l = true → RepP K (g.cut n) l kvs
  | _, _, .nil, _ => .nil
  | _, _, .cons r q, h => by
    unfold rbP at h
    rw [List.all_cons, Bool.and_eq_true, Bool.and_eq_true] at h
    exact .cons (r.cut h.1.2) (q.cut h.2)
theorem CellOk.cut {n : Nat} {c : Cell} {o : Option HO} (q : CellOk K g c o) (h : c.rb n = true) : CellOk K (g.cut n) c o := by
  cases c with
  | dead => trivial
  | lst ds => obtain ⟨xs, e, r⟩ := q; exact ⟨xs, e, r.cut h⟩
  | dct l => obtain ⟨kvs, e, r⟩ := q; exact ⟨kvs, e, r.cut h⟩
theorem HpOk.cut {S : Store} {H : Hp} (h : HpOk K g S H) (n : Nat) (hb : (S.take n).all (Cell.rb n) = true) : HpOk K (g.cut n) (S.take n) H := by
  refine ⟨h.same, by show _ = (g.ρ.take n).length; rw [List.length_take, List.length_take, h.len], fun m c a hm ha hl => ?_, fun m k c e a h1 h2 h3 h4 h5 h6 => ?_, h.pv, h.pvF, fun m c a hm ha hl => h.pvR m c a (take_get hm).1 (take_get (l := g.ρ) ha).1 hl⟩
  · obtain ⟨hm', _⟩ := take_get hm
    obtain ⟨ha', _⟩ := take_get (l := g.ρ) ha
    obtain ⟨q, f⟩ := h.cell m c a hm' ha' hl
    exact ⟨q.cut (List.all_eq_true.mp hb c (List.mem_of_getElem? hm)), f⟩
  · exact h.inj m k c e a (take_get h1).1 (take_get h2).1 h3 h4 (take_get (l := g.ρ) h5).1 (take_get (l := g.ρ) h6).1
theorem Le.cut (h : Le g g') : Le g (g'.cut g.ρ.length) := by
  obtain ⟨f, ⟨m, e⟩, p⟩ := h
  refine ⟨f, ⟨[], ?_⟩, p⟩
  show g'.ρ.take g.ρ.length = g.ρ ++ []
  rw [e, List.take_left, List.append_nil]

/-! what stands apart -/
def G.set (g : G) (p : Addr) (o : HO) : G := ⟨g.F, g.ρ, upd g.pv p o⟩
def G.back (g : G) (q : Hp) : G := ⟨g.F, g.ρ, q⟩
mutual
theorem Rep.pv {q : Hp} : ∀ {d : D} {v : V}, Rep K g d v → Rep K (g.back q) d v
  | _, _, .non => .non
  | _, _, .bl b => .bl b
  | _, _, .int i => .int i
  | _, _, .str x => .str x
  | _, _, .tup q r => .tup q (RepL.pv r)
  | _, _, .lst q r => .lst q (RepL.pv r)
  | _, _, .frz q r => .frz q (RepL.pv r)
  | _, _, .ref e => .ref e
theorem RepL.pv {q : Hp} : ∀ {ds : List D} {vs : List V}, RepL K g ds vs → RepL K (g.back q) ds vs
  | _, _, .nil => .nil
  | _, _, .cons r q => .cons (Rep.pv r) (RepL.pv q)
end
theorem RepP.pv {q : Hp} : ∀ {l : List (D × D)} {kvs : List (Key × V)}, RepP K g l kvs → RepP K (g.back q) l kvs
  | _, _, .nil => .nil
  | _, _, .cons r q => .cons r.pv (RepP.pv q)
theorem CellOk.pv {q : Hp} {c : Cell} {o : Option HO} (h : CellOk K g c o) : CellOk K (g.back q) c o := by
  cases c with
  | dead => trivial
  | lst ds => obtain ⟨xs, e, r⟩ := h; exact ⟨xs, e, r.pv⟩
  | dct l => obtain ⟨kvs, e, r⟩ := h; exact ⟨kvs, e, r.pv⟩
theorem FrOk.pv {q : Hp} {fr : Fr} {σ : St} (h : FrOk K g fr σ) : FrOk K (g.back q) fr σ := ⟨h.len, fun i d e => let ⟨v, e', r⟩ := h.at_ i d e; ⟨v, e', r.pv⟩⟩
/-- a new object stands apart -/
theorem HpOk.apart {S : Store} {H : Hp} (h : HpOk K g S H) {p : Addr} {o : HO} (e : H p = none) : HpOk K (g.set p o) S (upd H p o) := by
  have old : ∀ {n : Nat} {c : Cell} {a : Addr}, S[n]? = some c → g.ρ[n]? = some a → c.live = true → a ≠ p := fun {n c a} hn ha hl => by
    obtain ⟨q, _⟩ := h.cell n c a hn ha hl
    rintro rfl
    cases c with
    | dead => cases hl
    | lst ds => obtain ⟨xs, z, _⟩ := q; rw [e] at z; cases z
    | dct l => obtain ⟨kvs, z, _⟩ := q; rw [e] at z; cases z
  refine ⟨h.same.trans (same_new e), h.len, fun n c a hn ha hl => ?_, h.inj, same_upd2 h.pv, fun a u q => ?_, fun n c a hn ha hl => ?_⟩
  · obtain ⟨q, f⟩ := h.cell n c a hn ha hl
    exact ⟨by rw [upd_ne (old hn ha hl)]; exact q.pv, f⟩
  · have q : upd g.pv p o a = some u := q
    by_cases ha : a = p
    · subst ha; exact h.free e
    · rw [upd_ne ha] at q; exact h.pvF a u q
  · show upd g.pv p o a = none
    rw [upd_ne (old hn ha hl)]
    exact h.pvR n c a hn ha hl
/-- it changes -/
theorem HpOk.turn {S : Store} {H : Hp} (h : HpOk K g S H) {p : Addr} {o o' : HO} (e : g.pv p = some o) : HpOk K (g.set p o') S (upd H p o') := by
  have old : ∀ {n : Nat} {c : Cell} {a : Addr}, S[n]? = some c → g.ρ[n]? = some a → c.live = true → a ≠ p := fun {n c a} hn ha hl => by
    rintro rfl
    rw [h.pvR n c a hn ha hl] at e
    cases e
  refine ⟨fun b x q => ?_, h.len, fun n c a hn ha hl => ?_, h.inj, same_upd2 h.pv, fun a u q => ?_, fun n c a hn ha hl => ?_⟩
  · rw [upd_ne (by rintro rfl; have := h.pvF b o e; have q' : g.F b = some x := q; rw [this] at q'; cases q')]
    exact h.same b x q
  · obtain ⟨q, f⟩ := h.cell n c a hn ha hl
    exact ⟨by rw [upd_ne (old hn ha hl)]; exact q.pv, f⟩
  · have q : upd g.pv p o' a = some u := q
    by_cases ha : a = p
    · subst ha; exact h.pvF a o e
    · rw [upd_ne ha] at q; exact h.pvF a u q
  · show upd g.pv p o' a = none
    rw [upd_ne (old hn ha hl)]
    exact h.pvR n c a hn ha hl
/-- what stood apart is frozen -/
theorem HpOk.join {S : Store} {H : Hp} (h : HpOk K g S H) {p : Addr} {o : HO} {q : Hp} (e : g.pv p = some o) (hq : ∀ a, a ≠ p → q a = g.pv a) (hp : q p = none) : HpOk K ((g.put p o).back q) S H := by
  have sub : ∀ a u, q a = some u → g.pv a = some u ∧ a ≠ p := fun a u z => by
    have hne : a ≠ p := by rintro rfl; rw [hp] at z; cases z
    rw [hq a hne] at z
    exact ⟨z, hne⟩
  have old : ∀ {n : Nat} {c : Cell} {a : Addr}, S[n]? = some c → g.ρ[n]? = some a → c.live = true → a ≠ p := fun {n c a} hn ha hl => by
    rintro rfl
    rw [h.pvR n c a hn ha hl] at e
    cases e
  refine ⟨fun b x z => ?_, h.len, fun n c a hn ha hl => ?_, h.inj, fun a u z => h.pv a u (sub a u z).1, fun a u z => ?_, fun n c a hn ha hl => ?_⟩
  · have z : upd g.F p o b = some x := z
    by_cases hb : b = p
    · subst hb
      rw [upd_same] at z
      cases z
      exact h.pv b o e
    · rw [upd_ne hb] at z
      exact h.same b x z
  · obtain ⟨w, f⟩ := h.cell n c a hn ha hl
    have hne := old hn ha hl
    refine ⟨(w.mono (Le.put (h.pvF p o e))).pv, ?_⟩
    show upd g.F p o a = none
    rw [upd_ne hne]
    exact f
  · show upd g.F p o a = none
    obtain ⟨z1, z2⟩ := sub a u z
    rw [upd_ne z2]
    exact h.pvF a u z1
  · show q a = none
    rw [hq a (old hn ha hl)]
    exact h.pvR n c a hn ha hl
/-- what stood apart becomes a place of the store -/
theorem HpOk.join2 {S : Store} {H : Hp} (h : HpOk K g S H) {p : Addr} {o : HO} {c : Cell} {q : Hp} (e : g.pv p = some o) (hc : CellOk K g c (some o)) (hq : ∀ a, a ≠ p → q a = g.pv a) (hp : q p = none) : HpOk K ((g.add p).back q) (S ++ [c]) H := by
  have hF : g.F p = none := h.pvF p o e
  have sub : ∀ a u, q a = some u → g.pv a = some u ∧ a ≠ p := fun a u z => by
    have hne : a ≠ p := by rintro rfl; rw [hp] at z; cases z
    rw [hq a hne] at z
    exact ⟨z, hne⟩
  have old : ∀ {n : Nat} {c' : Cell} {a : Addr}, S[n]? = some c' → g.ρ[n]? = some a → c'.live = true → a ≠ p := fun {n c' a} hn ha hl => by
    rintro rfl
    rw [h.pvR n c' a hn ha hl] at e
    cases e
  have key : ∀ {n : Nat} {c' : Cell}, (S ++ [c])[n]? = some c' → (n < S.length ∧ S[n]? = some c') ∨ (n = S.length ∧ c' = c) := fun {n c'} z => by
    by_cases hn : n < S.length
    · rw [List.getElem?_append_left hn] at z; exact .inl ⟨hn, z⟩
    · rw [List.getElem?_append_right (by omega)] at z
      have : n - S.length = 0 := by
        cases hk : n - S.length with
        | zero => rfl
        | succ k => rw [hk] at z; simp at z
      rw [this] at z
      simp at z
      exact .inr ⟨by omega, z.symm⟩
  have kρ : ∀ {n : Nat} {a : Addr}, (g.ρ ++ [p])[n]? = some a → (n < S.length → g.ρ[n]? = some a) ∧ (n = S.length → a = p) := fun {n a} z => by
    refine ⟨fun hn => ?_, fun hn => ?_⟩
    · rw [List.getElem?_append_left (by rw [← h.len]; exact hn)] at z; exact z
    · rw [hn, h.len, List.getElem?_append_right (Nat.le_refl _)] at z
      simpa using z.symm
  refine ⟨h.same, by show (S ++ [c]).length = (g.ρ ++ [p]).length; simp [h.len], fun n c' a hn ha hl => ?_, fun n m c' e' a h1 h2 h3 h4 h5 h6 => ?_, fun a u z => h.pv a u (sub a u z).1, fun a u z => h.pvF a u (sub a u z).1, fun n c' a hn ha hl => ?_⟩
  · obtain ⟨k1, k2⟩ := kρ (n := n) (a := a) ha
    rcases key hn with ⟨hlt, z⟩ | ⟨he, rfl⟩
    · obtain ⟨w, f⟩ := h.cell n c' a z (k1 hlt) hl
      exact ⟨(w.mono (Le.add p)).pv, f⟩
    · have := k2 he
      subst this
      rw [h.pv _ _ e]
      exact ⟨(hc.mono (Le.add _)).pv, hF⟩
  · obtain ⟨k1, k2⟩ := kρ (n := n) (a := a) h5
    obtain ⟨l1, l2⟩ := kρ (n := m) (a := a) h6
    rcases key h1 with ⟨hn, z⟩ | ⟨hn, rfl⟩
    · rcases key h2 with ⟨hm, z'⟩ | ⟨hm, rfl⟩
      · exact h.inj n m c' e' a z z' h3 h4 (k1 hn) (l1 hm)
      · exact absurd (l2 hm) (old z (k1 hn) h3)
    · rcases key h2 with ⟨hm, z'⟩ | ⟨hm, rfl⟩
      · exact absurd (k2 hn) (old z' (l1 hm) h4)
      · omega
  · obtain ⟨k1, k2⟩ := kρ (n := n) (a := a) ha
    rcases key hn with ⟨hlt, z⟩ | ⟨he, rfl⟩
    · show q a = none
      rw [hq a (old z (k1 hlt) hl)]
      exact h.pvR n c' a z (k1 hlt) hl
    · rw [k2 he]; exact hp
end
end Dm

/-! DmB: the core language and what it computes. -/
namespace Dm
open PySem L2

/-! ### results -/
inductive Res (α : Type) where
  | ok (a : α) (S : Store)
  | ex (c : Nat) (fs : List D) (S : Store)
  | no
def Res.bind {α β : Type} (r : Res α) (f : α → Store → Res β) : Res β :=
  match r with
  | .ok a S => f a S
  | .ex c fs S => .ex c fs S
  | .no => .no
def Res.of {α : Type} (o : Option α) (S : Store) : Res α :=
  match o with
  | some a => .ok a S
  | none => .no
@[simp] theorem Res.bind_ok {α β : Type} (a : α) (S : Store) (f : α → Store → Res β) : (Res.ok a S).bind f = f a S := rfl
@[simp] theorem Res.bind_no {α β : Type} (f : α → Store → Res β) : (Res.no : Res α).bind f = .no := rfl
@[simp] theorem Res.bind_ex {α β : Type} (c : Nat) (fs : List D) (S : Store) (f : α → Store → Res β) : (Res.ex c fs S : Res α).bind f = .ex c fs S := rfl
@[simp] theorem Res.of_some {α : Type} (a : α) (S : Store) : Res.of (some a) S = .ok a S := rfl
@[simp] theorem Res.of_none {α : Type} (S : Store) : Res.of (none : Option α) S = .no := rfl

/-! ### data as the model's plain data -/
mutual
def D.py : D → PyData
  | .bl b => .bool b
  | .int i => .int i
  | .str s => .str s
  | .tup l => .tuple (D.pyL l)
  | .lst l => .list (D.pyL l)
  | _ => .none
termination_by structural d => d
def D.pyL : List D → List PyData
  | [] => []
  | d :: ds => D.py d :: D.pyL ds
termination_by structural d => d
end
mutual
/-- nothing within that may be written -/
def D.pure : D → Bool
  | .ref _ => false
  | .itr _ => false
  | .frz _ => false
  | .tup l => D.pureL l
  | .lst l => D.pureL l
  | _ => true
termination_by structural d => d
def D.pureL : List D → Bool
  | [] => true
  | d :: ds => D.pure d && D.pureL ds
termination_by structural d => d
end
/-- it can be compared -/
def D.cmpOk (d : D) : Bool := d.pure && SeqAt.shaped d.py
/-- the list, the dict at a place -/
def cellL (S : Store) (n : Nat) : Option (List D) := match S[n]? with
  | some (.lst l) => some l
  | _ => none
def cellD (S : Store) (n : Nat) : Option (List (D × D)) := match S[n]? with
  | some (.dct l) => some l
  | _ => none
/-- a list of the store as it stands now -/
def peek (S : Store) : D → D
  | .ref n => match cellL S n with
    | some l => .lst l
    | none => .ref n
  | d => d
def eqD (S : Store) (x y : D) : Option Bool :=
  if (peek S x).cmpOk && (peek S y).cmpOk then some (PyData.eqv (peek S x).py (peek S y).py) else none

/-- what stands in a sequence -/
def seqD (S : Store) : D → Option (List D)
  | .tup l => some l
  | .lst l => some l
  | .frz l => some l
  | .ref n => cellL S n
  | _ => none
/-- a list that is tracked as such -/
def lstD (S : Store) : D → Option (List D)
  | .lst l => some l
  | .ref n => cellL S n
  | _ => none

def truth (S : Store) : D → Option Bool
  | .non => some false
  | .bl b => some b
  | .int i => some (i != 0)
  | .str s => if s.length ≤ sizeLine then some (s.length != 0) else none
  | .tup l => some !l.isEmpty
  | .lst l => some !l.isEmpty
  | .frz l => some !l.isEmpty
  | .ref n => match cellL S n, cellD S n with
    | some l, _ => some !l.isEmpty
    | none, some l => some !l.isEmpty
    | none, none => none
  | .itr _ => none

/-! ### operators -/
def CMulB (i j : Int) : Bool := (decide (-(2 ^ 64) < i) && decide (i < 2 ^ 64)) || (decide (-(2 ^ 64) < j) && decide (j < 2 ^ 64)) || decide (i.natAbs.log2 + j.natAbs.log2 < 1000000)
def num : D → Option Int
  | .int i => some i
  | .bl b => some (if b then 1 else 0)
  | _ => none
def b2 (b : Bool) : Int := if b = true then 1 else 0
def binD (op : Operator) (S : Store) (x y : D) : Option D :=
  match op, x, y with
  | .Add, .int i, .int j => some (.int (i + j))
  | .Add, .bl a, .int j => some (.int (b2 a + j))
  | .Add, .str a, .str b => if a.length + b.length ≤ sizeLine then some (.str (a ++ b)) else none
  | .Add, .tup a, .tup b => if a.length + b.length ≤ sizeLine then some (.tup (a ++ b)) else none
  | .Add, x, y => match lstD S x, lstD S y with
    | some a, some b => if a.length + b.length ≤ sizeLine then some (.lst (a ++ b)) else none
    | _, _ => none
  | .Sub, .int i, .int j => some (.int (i - j))
  | .Sub, .bl a, .int j => some (.int (b2 a - j))
  | .Sub, .int i, .bl b => some (.int (i - b2 b))
  | .Mult, .int i, .int j => if CMulB i j then some (.int (i * j)) else none
  | .FloorDiv, .int i, .int j => if 0 < j ∧ (j < 1073741824 ∨ j.natAbs.log2 < 9000) then some (.int (i / j)) else none
  | .Mod, .int i, .int j => if 0 < j then some (.int (i % j)) else none
  | .Pow, .int i, .int j => if 0 ≤ j ∧ j ≤ 1000000 ∧ i.natAbs < 2 ^ 64 then some (.int (i ^ j.toNat)) else none
  | _, _, _ => none
def isNon : D → Bool
  | .non => true
  | _ => false
def isBl (b : Bool) : D → Bool
  | .bl a => a == b
  | _ => false
def isD (x : D) : D → Option Bool
  | .non => some (isNon x)
  | .bl b => some (isBl b x)
  | _ => none
/-- x in y -/
def inD (S : Store) (x y : D) : Option Bool :=
  match y with
  | .str z => match x with
    | .str y => match y.cps.toList with
      | [c] => some (decide (c ∈ z.cps.toList))
      | _ => none
    | _ => none
  | .tup l => if x.cmpOk && (D.tup l).cmpOk then some (l.any fun e => PyData.eqv e.py x.py) else none
  | .lst l => if x.cmpOk && (D.lst l).cmpOk then some (l.any fun e => PyData.eqv e.py x.py) else none
  | .ref n => match cellL S n with
    | some l => if x.cmpOk && (D.lst l).cmpOk then some (l.any fun e => PyData.eqv e.py x.py) else none
    | none => none
  | _ => none
def ltT (x y : D) : Option Bool := if x.cmpOk && y.cmpOk && PySem.W.alike x.py y.py then some (PySem.W.dataLt x.py y.py) else none
def leT (x y : D) : Option Bool := if x.cmpOk && y.cmpOk && PySem.W.alike x.py y.py then some (!PySem.W.dataLt y.py x.py) else none
def cmpD (op : CmpOp) (S : Store) (x y : D) : Option Bool :=
  match op with
  | .Eq => eqD S x y
  | .NotEq => (eqD S x y).map (!·)
  | .Is => isD x y
  | .IsNot => (isD x y).map (!·)
  | .In => inD S x y
  | .NotIn => (inD S x y).map (!·)
  | .Lt => match x, y with
    | .int i, .int j => some (decide (i < j))
    | .tup l, .tup m => ltT (.tup l) (.tup m)
    | _, _ => none
  | .LtE => match x, y with
    | .int i, .int j => some (decide (i ≤ j))
    | .tup l, .tup m => leT (.tup l) (.tup m)
    | _, _ => none
  | .Gt => match x, y with
    | .int i, .int j => some (decide (j < i))
    | _, _ => none
  | .GtE => match x, y with
    | .int i, .int j => some (decide (j ≤ i))
    | _, _ => none
def subD (S : Store) (x y : D) : Option D :=
  match y with
  | .int i => match x with
    | .str z => if z.length ≤ sizeLine then (atI z.cps.toList i).map fun c => .str ⟨#[c]⟩ else none
    | .tup l => atI l i
    | .lst l => atI l i
    | .frz l => atI l i
    | .ref n => (cellL S n).bind fun l => atI l i
    | _ => none
  | _ => none
def cutD (l : List D) (lo hi : Option Int) : List D := (l.drop (HT.sIx l.length 0 lo)).take (HT.sIx l.length l.length hi - HT.sIx l.length 0 lo)
def slcD (S : Store) (x : D) (lo hi : Option Int) : Option D :=
  match x with
  | .tup l => some (.tup (cutD l lo hi))
  | .lst l => some (.lst (cutD l lo hi))
  | .ref n => (cellL S n).map fun l => .lst (cutD l lo hi)
  | _ => none
def asInt : D → Option Int
  | .int i => some i
  | _ => none
def intsD : List D → Option (List Int)
  | [] => some []
  | .int i :: ds => (intsD ds).map (i :: ·)
  | _ :: _ => none
def boolsD : List D → Option (List Bool)
  | [] => some []
  | .bl b :: ds => (boolsD ds).map (b :: ·)
  | _ :: _ => none
def strsD : List D → Option (List Str)
  | [] => some []
  | .str b :: ds => (strsD ds).map (b :: ·)
  | _ :: _ => none

inductive Ty where
  | int | bool | str | tuple | list
  deriving DecidableEq
def isiD (S : Store) (t : Ty) (x : D) : Option Bool :=
  match x with
  | .non => some false
  | .bl _ => some (t == .int || t == .bool)
  | .int _ => some (t == .int)
  | .str _ => some (t == .str)
  | .tup _ => some (t == .tuple)
  | .lst _ => some (t == .list)
  | _ => none

/-- what sorted(..) takes: data that are alike, place by place -/
def sortB (ds : List PyData) : Bool := (ds.all fun d => ds.all fun e => PySem.W.alike d e) && ((ds.all fun d => match d with | .tuple (_ :: _) => true | _ => false) || (ds.all fun d => match d with | .none => false | .tuple _ => false | _ => true)) && (ds.all fun d => decide (d.depth ≤ 60))
def sortD (l : List D) : List D := l.mergeSort (PySem.W.dataLe false D.py)
/-- built-in functions by values -/
inductive Bi where
  | len | sum | min1 | max1 | min2 | max2 | abs | all | any | tuple | list | int | sorted | gcd | str
  deriving DecidableEq
def maxL (ns : List Int) : Option Int := ns.max?
def minL (ns : List Int) : Option Int := ns.min?
def lenD (S : Store) : D → Option Int
  | .str z => if z.length ≤ sizeLine then some z.length else none
  | .ref n => match cellL S n, cellD S n with
    | some l, _ => some l.length
    | none, some l => some l.length
    | none, none => none
  | .tup l => some l.length
  | .lst l => some l.length
  | .frz l => some l.length
  | _ => none
def biD (f : Bi) (S : Store) (xs : List D) : Option D :=
  match f, xs with
  | .len, [x] => (lenD S x).map .int
  | .sum, [x] => (seqD S x).bind fun l => (intsD l).map fun ns => .int ns.sum
  | .min1, [x] => (lstD S x).bind fun l => (intsD l).bind fun ns => (minL ns).map .int
  | .max1, [x] => (lstD S x).bind fun l => (intsD l).bind fun ns => (maxL ns).map .int
  | .min2, [.int i, .int j] => some (.int (if j < i then j else i))
  | .max2, [.int i, .int j] => some (.int (if j > i then j else i))
  | .abs, [.int i] => some (.int (if i < 0 then -i else i))
  | .all, [x] => (lstD S x).bind fun l => (boolsD l).map fun bs => .bl (bs.all id)
  | .any, [x] => (lstD S x).bind fun l => (boolsD l).map fun bs => .bl (bs.any id)
  | .tuple, [x] => match x with
    | .tup l => some (.tup l)
    | x => (lstD S x).map .tup
  | .list, [x] => (seqD S x).map .lst
  | .int, [.int i] => some (.int i)
  | .int, [.bl b] => some (.int (if b then 1 else 0))
  | .sorted, [x] => (lstD S x).bind fun l => if D.pureL l && sortB (D.pyL l) then some (.lst (sortD l)) else none
  | .gcd, [.int i, .int j] => some (.int ((Nat.gcd i.natAbs j.natAbs : Nat) : Int))
  | _, _ => none

/-- max, min with default= -/
def mdD (mx : Bool) (S : Store) (x y : D) : Option D := ((lstD S x).bind intsD).map fun ns => match (if mx then maxL ns else minL ns) with
  | some m => .int m
  | none => y
/-- methods of built-in types by values -/
inductive Me where
  | index | join | count
  deriving DecidableEq
def idxOf (x : D) : List D → Option Nat
  | [] => none
  | e :: r => if PyData.eqv e.py x.py then some 0 else (idxOf x r).map (· + 1)
def meD (m : Me) (S : Store) (o : D) (xs : List D) : Option D :=
  match m, o, xs with
  | .index, o, [x] => match lstD S o with
    | some l => if x.cmpOk && (D.lst l).cmpOk then (idxOf x l).map fun (k : Nat) => .int k else none
    | none => none
  | .join, .str z, [x] => (lstD S x).bind fun l => (strsD l).bind fun ss => if (ss.map (·.length)).sum + ss.length * z.length ≤ 16777216 then some (.str (Txt.join z ss)) else none
  | _, _, _ => none

/-- the receiver is of the method's type -/
def meTy (m : Me) (S : Store) (o : D) : Bool :=
  match m with
  | .index => (lstD S o).isSome
  | .count => (lstD S o).isSome
  | .join => match o with
    | .str _ => true
    | _ => false

/-- what a for walks over a value -/
def iterD (S : Store) : D → Option (List D)
  | .itr l => some l
  | .tup l => some l
  | .lst l => some l
  | .str z => some (z.cps.toList.map fun c => .str ⟨#[c]⟩)
  | _ => none

/-! dicts: keys ints or texts -/
def keyOf : D → Option Key
  | .int i => some (.inl i)
  | .str x => some (.inr x)
  | _ => none
def keyB (k : Key) : D → Bool
  | .int j => match k with
    | .inl i => decide (j = i)
    | .inr _ => false
  | .str y => match k with
    | .inl _ => false
    | .inr x => decide (y = x)
  | _ => false
def lookD (l : List (D × D)) (k : Key) : Option D := (l.find? fun p => keyB k p.1).map (·.2)
def putD (l : List (D × D)) (k : Key) (d : D) : List (D × D) := if (l.any fun p => keyB k p.1) = true then l.map (fun p => if keyB k p.1 = true then (p.1, d) else p) else l ++ [(keyD k, d)]
def mergeD (l : List (D × D)) (more : List (Key × D)) : List (D × D) := more.foldl (fun acc p => putD acc p.1 p.2) l
def pairsD : List D → Option (List (Key × D))
  | [] => some []
  | .tup [k, v] :: r => (keyOf k).bind fun k => (pairsD r).map ((k, v) :: ·)
  | _ :: _ => none
/-- what a dict says of a key -/
def askD (S : Store) (x y : D) : Option (Option D) := match x with
  | .ref n => (cellD S n).bind fun l => (keyOf y).map fun k => lookD l k
  | _ => none
def hasB : Bool → Bool → Bool
  | true, b => !b
  | false, b => b
def isDc (S : Store) : D → Bool
  | .ref n => (cellD S n).isSome
  | _ => false

/-! ### the language -/
inductive Pat where
  | v (i : Nat)
  | t (ps : List Pat)

inductive E where
  | int (i : Int) | bl (b : Bool) | non | str (s : Str)
  | var (i : Nat)
  | glob (k : Nat)
  | bin (op : Operator) (a b : E)
  | neg (a : E)
  | not (a : E)
  | cmp (op : CmpOp) (a b : E)
  | cmp2 (op op' : CmpOp) (a b c : E)
  | and (a b : E)
  | or (a b : E)
  | ite (c a b : E)
  | tup (es : List E)
  | lst (es : List E)
  | mkl (es : List E)
  | sub (a i : E)
  | slc (a : E) (lo hi : Option E)
  | rev (a : E)
  | call (f : Nat) (es : List E)
  | bi (f : Bi) (es : List E)
  | maxd (a d : E)
  | mind (a d : E)
  | me (m : Me) (o : E) (es : List E)
  | isi (t : Ty) (a : E)
  | app (o e : E)
  | range (es : List E)
  | enum (a : E)
  | zip (a b : E)
  | comp (fz : Bool) (own : List (Str × Nat)) (p : Pat) (it : E) (cs : List E) (e : E)
  /-- o.extend(e) -/
  | ext (o e : E)
  /-- list(a), a list of the store -/
  | mkc (a : E)
  /-- len(set(a)) -/
  | lset (a : E)
  /-- list(zip(a, b)), never written -/
  | lzip (a b : E)
  /-- d[k], k in d (k not in d), d.get(k, z), dict(pairs), {k: v for ..} -/
  | dsub (d k : E)
  | dhas (neg : Bool) (k d : E)
  | dget (d k z : E)
  | ddic (a : E)
  | dcomp (own : List (Str × Nat)) (p : Pat) (it : E) (cs : List E) (k v : E)

inductive S where
  | asg (p : Pat) (e : E)
  | setI (o i e : E)
  | aug (op : Operator) (i : Nat) (e : E)
  | expr (e : E)
  | iff (c : E) (a b : List S)
  | whl (c : E) (a : List S)
  | for_ (p : Pat) (it : E) (a : List S)
  | ret (e : E)
  | brk | cnt | pass
  | fz (i : Nat)
  /-- x = zip(a, b); return all([e for p in x]), of tuples -/
  | zall (i : Nat) (a b : E) (own : List (Str × Nat)) (p : Pat) (e : E)

/-! ### what it computes -/
structure Fns where
  call : Nat → List D → Store → Res D
  const : Nat → Option D
  fuel : Nat

mutual
def asgP : Pat → D → Fr → Option Fr
  | .v i, d, fr => some (fr.set i (some d))
  | .t ps, .tup ds, fr => asgPs ps ds fr
  | .t ps, .lst ds, fr => asgPs ps ds fr
  | .t _, _, _ => none
termination_by structural p => p
def asgPs : List Pat → List D → Fr → Option Fr
  | [], [], fr => some fr
  | p :: ps, d :: ds, fr => (asgP p d fr).bind fun fr' => asgPs ps ds fr'
  | _, _, _ => none
termination_by structural ps => ps
end
/-- the slots of a block's own names forgotten -/
def wipeF (fr : Fr) : List Nat → Fr
  | [] => fr
  | v :: vs => (wipeF fr vs).set v none

/-- a comprehension's turns -/
def compF (p : Pat) (test : Fr → Store → Res Bool) (elt : Fr → Store → Res D) (fr : Fr) : List D → List D → Store → Res (List D)
  | [], acc, S => .ok acc S
  | d :: ds, acc, S => match asgP p d fr with
    | none => .no
    | some fr' => (test fr' S).bind fun b S1 =>
      if b then (elt fr' S1).bind fun x S2 => if acc.length < sizeLine then compF p test elt fr ds (acc ++ [x]) S2 else .no
      else compF p test elt fr ds acc S1

/-- a dict comprehension's turns -/
def dcompF (p : Pat) (test : Fr → Store → Res Bool) (key val : Fr → Store → Res D) (fr : Fr) : List D → List (D × D) → Store → Res (List (D × D))
  | [], acc, S => .ok acc S
  | d :: ds, acc, S => match asgP p d fr with
    | none => .no
    | some fr' => (test fr' S).bind fun b S1 =>
      if b then (key fr' S1).bind fun y S2 => (val fr' S2).bind fun z S3 => match keyOf y with
        | some k => if acc.length < sizeLine then dcompF p test key val fr ds (putD acc k z) S3 else .no
        | none => .no
      else dcompF p test key val fr ds acc S1

/-- an int that range(..) takes; kept shut, so that no step of a proof runs the test at an unknown int -/
@[irreducible] def inR (i : Int) : Bool := decide (-(2 ^ 62) ≤ i ∧ i < 2 ^ 62)
theorem inR_iff {i : Int} : inR i = true ↔ (-(2 ^ 62) ≤ i ∧ i < 2 ^ 62) := by
  unfold inR
  exact decide_eq_true_iff
/-- range(..)'s intsD -/
def rangeD : List D → Option (List D)
  | [.int j] => if inR j = true then some ((List.range j.toNat).map fun k => .int (k : Nat)) else none
  | [.int i, .int j] => if inR i = true ∧ inR j = true then some ((List.range (j - i).toNat).map fun k => .int (i + (k : Nat))) else none
  | _ => none
def enumD (l : List D) : List D := l.zipIdx.map fun p => .tup [.int (p.2 : Nat), p.1]
def zipD (l m : List D) : List D := (l.zip m).map fun p => .tup [p.1, p.2]

def ltD : D → Option (List D)
  | .lst l => some l
  | .tup l => some l
  | _ => none
/-- list(zip(..)) -/
def lzipD (x y : D) : Option D := (ltD x).bind fun l => (ltD y).bind fun m => if min l.length m.length ≤ sizeLine then some (.lst (zipD l m)) else none
/-- len(set(..)) of texts -/
def lsetD (S : Store) (x : D) : Option D := (lstD S x).bind fun l => (strsD l).bind fun ss => if ss.length ≤ 1000 then some (.int (ss.eraseDups.length : Nat)) else none
mutual
def evE (Φ : Fns) : E → Fr → Store → Res D
  | .int i, _, S => .ok (.int i) S
  | .bl b, _, S => .ok (.bl b) S
  | .non, _, S => .ok .non S
  | .str s, _, S => .ok (.str s) S
  | .var i, fr, S => match fr[i]? with
    | some (some d) => .ok d S
    | _ => .no
  | .glob k, _, S => Res.of (Φ.const k) S
  | .bin op a b, fr, S => (evE Φ a fr S).bind fun x S1 => (evE Φ b fr S1).bind fun y S2 => Res.of (binD op S2 x y) S2
  | .neg a, fr, S => (evE Φ a fr S).bind fun x S1 => match x with
    | .int i => .ok (.int (-i)) S1
    | _ => .no
  | .not a, fr, S => (evE Φ a fr S).bind fun x S1 => match truth S1 x with
    | some b => .ok (.bl !b) S1
    | none => .no
  | .cmp op a b, fr, S => (evE Φ a fr S).bind fun x S1 => (evE Φ b fr S1).bind fun y S2 => match cmpD op S2 x y with
    | some r => .ok (.bl r) S2
    | none => .no
  | .cmp2 op op' a b c, fr, S => (evE Φ a fr S).bind fun x S1 => (evE Φ b fr S1).bind fun y S2 => match cmpD op S2 x y with
    | some false => .ok (.bl false) S2
    | some true => (evE Φ c fr S2).bind fun z S3 => match cmpD op' S3 y z with
      | some r => .ok (.bl r) S3
      | none => .no
    | none => .no
  | .and a b, fr, S => (evE Φ a fr S).bind fun x S1 => match truth S1 x with
    | some true => evE Φ b fr S1
    | some false => .ok x S1
    | none => .no
  | .or a b, fr, S => (evE Φ a fr S).bind fun x S1 => match truth S1 x with
    | some true => .ok x S1
    | some false => evE Φ b fr S1
    | none => .no
  | .ite c a b, fr, S => (evE Φ c fr S).bind fun x S1 => match truth S1 x with
    | some true => evE Φ a fr S1
    | some false => evE Φ b fr S1
    | none => .no
  | .tup es, fr, S => (evEs Φ es fr S).bind fun xs S1 => if xs.length ≤ sizeLine then .ok (.tup xs) S1 else .no
  | .lst es, fr, S => (evEs Φ es fr S).bind fun xs S1 => if xs.length ≤ sizeLine then .ok (.lst xs) S1 else .no
  | .mkl es, fr, S => (evEs Φ es fr S).bind fun xs S1 => if xs.length ≤ sizeLine then .ok (.ref S1.length) (S1 ++ [.lst xs]) else .no
  | .sub a i, fr, S => (evE Φ a fr S).bind fun x S1 => (evE Φ i fr S1).bind fun y S2 => Res.of (subD S2 x y) S2
  | .slc a lo hi, fr, S => (evE Φ a fr S).bind fun x S1 => (evO Φ lo fr S1).bind fun l S2 => (evO Φ hi fr S2).bind fun h S3 => Res.of (slcD S3 x l h) S3
  | .rev a, fr, S => (evE Φ a fr S).bind fun x S1 => match lstD S1 x with
    | some l => .ok (.lst l.reverse) S1
    | none => .no
  | .call f es, fr, S => (evEs Φ es fr S).bind fun xs S1 => Φ.call f xs S1
  | .bi f es, fr, S => (evEs Φ es fr S).bind fun xs S1 => Res.of (biD f S1 xs) S1
  | .maxd a d, fr, S => (evE Φ a fr S).bind fun x S1 => (evE Φ d fr S1).bind fun y S2 => Res.of (mdD true S2 x y) S2
  | .mind a d, fr, S => (evE Φ a fr S).bind fun x S1 => (evE Φ d fr S1).bind fun y S2 => Res.of (mdD false S2 x y) S2
  | .me m o es, fr, S => (evE Φ o fr S).bind fun x S1 => match meTy m S1 x with
    | true => (evEs Φ es fr S1).bind fun xs S2 => Res.of (meD m S2 x xs) S2
    | false => .no
  | .isi t a, fr, S => (evE Φ a fr S).bind fun x S1 => match isiD S1 t x with
    | some b => .ok (.bl b) S1
    | none => .no
  | .app o e, fr, S => (evE Φ o fr S).bind fun x S1 => match x with
    | .ref n => match cellL S1 n with
      | some _ => (evE Φ e fr S1).bind fun y S2 => match cellL S2 n with
        | some l => if l.length < sizeLine then .ok .non (S2.set n (.lst (l ++ [y]))) else .no
        | none => .no
      | none => .no
    | _ => .no
  | .range es, fr, S => (evEs Φ es fr S).bind fun xs S1 => match rangeD xs with
    | some l => .ok (.itr l) S1
    | none => .no
  | .enum a, fr, S => (evE Φ a fr S).bind fun x S1 => match x with
    | .lst l => .ok (.itr (enumD l)) S1
    | .tup l => .ok (.itr (enumD l)) S1
    | .itr l => .ok (.itr (enumD l)) S1
    | _ => .no
  | .ext o e, fr, S => (evE Φ o fr S).bind fun x S1 => match x with
    | .ref n => match cellL S1 n with
      | some _ => (evE Φ e fr S1).bind fun y S2 => match cellL S2 n, lstD S2 y with
        | some l, some m => if l.length + m.length ≤ sizeLine then .ok .non (S2.set n (.lst (l ++ m))) else .no
        | _, _ => .no
      | none => .no
    | _ => .no
  | .mkc a, fr, S => (evE Φ a fr S).bind fun x S1 => match seqD S1 x with
    | some l => .ok (.ref S1.length) (S1 ++ [.lst l])
    | none => .no
  | .lset a, fr, S => (evE Φ a fr S).bind fun x S1 => Res.of (lsetD S1 x) S1
  | .lzip a b, fr, S => (evE Φ a fr S).bind fun x S1 => (evE Φ b fr S1).bind fun y S2 => Res.of (lzipD x y) S2
  | .zip a b, fr, S => (evE Φ a fr S).bind fun x S1 => (evE Φ b fr S1).bind fun y S2 => match x, y with
    | .lst l, .lst m => .ok (.itr (zipD l m)) S2
    | .tup l, .tup m => .ok (.itr (zipD l m)) S2
    | .lst l, .tup m => .ok (.itr (zipD l m)) S2
    | .tup l, .lst m => .ok (.itr (zipD l m)) S2
    | _, _ => .no
  | .dsub a k, fr, S => (evE Φ a fr S).bind fun x S1 => (evE Φ k fr S1).bind fun y S2 => Res.of ((askD S2 x y).bind id) S2
  | .dhas neg k a, fr, S => (evE Φ k fr S).bind fun y S1 => (evE Φ a fr S1).bind fun x S2 => Res.of ((askD S2 x y).map fun o => D.bl (hasB neg o.isSome)) S2
  | .dget a k z, fr, S => (evE Φ a fr S).bind fun x S1 => match isDc S1 x with
    | true => (evE Φ k fr S1).bind fun y S2 => (evE Φ z fr S2).bind fun w S3 => Res.of ((askD S3 x y).map (·.getD w)) S3
    | false => .no
  | .ddic a, fr, S => (evE Φ a fr S).bind fun x S1 => match (lstD S1 x).bind pairsD with
    | some ps => .ok (.ref S1.length) (S1 ++ [.dct (mergeD [] ps)])
    | none => .no
  | .dcomp own p it cs k v, fr, S => (evE Φ it fr S).bind fun x S1 => match iterD S1 x with
    | none => .no
    | some l => (dcompF p (evTs Φ cs) (evE Φ k) (evE Φ v) (wipeF fr (own.map (·.2))) l [] S1).bind fun r S2 => .ok (.ref S2.length) (S2 ++ [.dct r])
  | .comp fz own p it cs e, fr, S => (evE Φ it fr S).bind fun x S1 => match iterD S1 x with
    | none => .no
    | some l =>
      match fz with
      | true => (compF p (evTs Φ cs) (evE Φ e) (wipeF fr (own.map (·.2))) l [] S1).bind fun r S2 => .ok (.lst r) S2
      | false => (compF p (evTs Φ cs) (evE Φ e) (wipeF fr (own.map (·.2))) l [] S1).bind fun r S2 => .ok (.ref S2.length) (S2 ++ [.lst r])
termination_by structural c => c
def evEs (Φ : Fns) : List E → Fr → Store → Res (List D)
  | [], _, S => .ok [] S
  | c :: cs, fr, S => (evE Φ c fr S).bind fun x S1 => (evEs Φ cs fr S1).bind fun xs S2 => .ok (x :: xs) S2
termination_by structural cs => cs
def evO (Φ : Fns) : Option E → Fr → Store → Res (Option Int)
  | none, _, S => .ok none S
  | some c, fr, S => (evE Φ c fr S).bind fun x S1 => match x with
    | .int i => .ok (some i) S1
    | _ => .no
termination_by structural o => o
def evTs (Φ : Fns) : List E → Fr → Store → Res Bool
  | [], _, S => .ok true S
  | c :: cs, fr, S => (evE Φ c fr S).bind fun x S1 => match truth S1 x with
    | some true => evTs Φ cs fr S1
    | some false => .ok false S1
    | none => .no
termination_by structural cs => cs
end
/-- a test -/
def evT (Φ : Fns) (c : E) (fr : Fr) (S : Store) : Res Bool := (evE Φ c fr S).bind fun x S1 => Res.of (truth S1 x) S1

inductive Out where
  | nx (fr : Fr) | ret (d : D) | bk (fr : Fr) | ct (fr : Fr)

def whileF (c : Fr → Store → Res Bool) (b : Fr → Store → Res Out) : Nat → Fr → Store → Res Out
  | 0, _, _ => .no
  | n + 1, fr, S => (c fr S).bind fun t S1 => match t with
    | false => .ok (.nx fr) S1
    | true => (b fr S1).bind fun o S2 => match o with
      | .nx fr' => whileF c b n fr' S2
      | .ct fr' => whileF c b n fr' S2
      | .bk fr' => .ok (.nx fr') S2
      | .ret d => .ok (.ret d) S2
def forF (p : Pat) (b : Fr → Store → Res Out) : List D → Fr → Store → Res Out
  | [], fr, S => .ok (.nx fr) S
  | d :: ds, fr, S => match asgP p d fr with
    | none => .no
    | some fr1 => (b fr1 S).bind fun o S2 => match o with
      | .nx fr' => forF p b ds fr' S2
      | .ct fr' => forF p b ds fr' S2
      | .bk fr' => .ok (.nx fr') S2
      | .ret d => .ok (.ret d) S2

mutual
def evS (Φ : Fns) : S → Fr → Store → Res Out
  | .asg p e, fr, S => (evE Φ e fr S).bind fun x S1 => match asgP p x fr with
    | some fr' => .ok (.nx fr') S1
    | none => .no
  | .setI o i e, fr, S => (evE Φ e fr S).bind fun x S1 => (evE Φ o fr S1).bind fun y S2 => (evE Φ i fr S2).bind fun z S3 => match y, z with
    | .ref n, .int k => match cellL S3 n with
      | some l => match ixN l.length k with
        | some j => .ok (.nx fr) (S3.set n (.lst (l.set j x)))
        | none => .no
      | none => .no
    | _, _ => .no
  | .aug op i e, fr, S => match fr[i]? with
    | some (some x) => (evE Φ e fr S).bind fun y S1 => match op, x, y with
      | .Add, .int a, .int b => .ok (.nx (fr.set i (some (.int (a + b))))) S1
      | _, _, _ => .no
    | _ => .no
  | .expr e, fr, S => (evE Φ e fr S).bind fun _ S1 => .ok (.nx fr) S1
  | .iff c a b, fr, S => (evT Φ c fr S).bind fun t S1 => match t with
    | true => evSs Φ a fr S1
    | false => evSs Φ b fr S1
  | .whl c a, fr, S => whileF (evT Φ c) (evSs Φ a) Φ.fuel fr S
  | .for_ p it a, fr, S => (evE Φ it fr S).bind fun x S1 => match iterD S1 x with
    | none => .no
    | some l => forF p (evSs Φ a) l fr S1
  | .ret e, fr, S => (evE Φ e fr S).bind fun x S1 => .ok (.ret x) S1
  | .brk, fr, S => .ok (.bk fr) S
  | .cnt, fr, S => .ok (.ct fr) S
  | .pass, fr, S => .ok (.nx fr) S
  | .zall i a b own p e, fr, S => (evE Φ a fr S).bind fun x S1 => (evE Φ b fr S1).bind fun y S2 => match x, y with
    | .tup l, .tup m => if i < fr.length then (compF p (evTs Φ []) (evE Φ e) (wipeF (fr.set i none) (own.map (·.2))) (zipD l m) [] S2).bind fun r S3 => match boolsD r with
      | some bs => .ok (.ret (.bl (bs.all id))) S3
      | none => .no
      else .no
    | _, _ => .no
  | .fz i, fr, S => match fr[i]? with
    | some (some (.ref n)) => match cellL S n with
      | some l => .ok (.nx (fr.set i (some (.lst l)))) (S.set n .dead)
      | none => .no
    | _ => .no
termination_by structural s => s
def evSs (Φ : Fns) : List S → Fr → Store → Res Out
  | [], fr, S => .ok (.nx fr) S
  | s :: r, fr, S => (evS Φ s fr S).bind fun o S1 => match o with
    | .nx fr' => evSs Φ r fr' S1
    | .ret d => .ok (.ret d) S1
    | .bk fr' => .ok (.bk fr') S1
    | .ct fr' => .ok (.ct fr') S1
termination_by structural r => r
end

/-- behind a call: what the callee made goes, if nothing names it -/
def cutR (n : Nat) (d : D) (S : Store) : Res D :=
  if n ≤ S.length ∧ d.rb n = true ∧ (S.take n).all (Cell.rb n) = true then .ok d (S.take n) else .ok d S

/-- a def: its parameters, its names (parameters first), its body -/
structure Fd where
  np : Nat
  N : List Str
  body : List Dm.S
def runFd (Φ : Fns) (f : Fd) (args : List D) (S : Store) : Res D :=
  if args.length = f.np then
    (evSs Φ f.body (args.map some ++ List.replicate (f.N.length - args.length) none) S).bind fun o S' => match o with
      | .ret d => cutR S.length d S'
      | .nx _ => cutR S.length .non S'
      | _ => .no
  else .no

structure Prog where
  fns : List Fd
  consts : List D
/-- what the defs are worth, so many calls deep -/
def fnsAt (P : Prog) (w : Nat) : Nat → Fns
  | 0 => ⟨fun _ _ _ => .no, fun k => P.consts[k]?, w⟩
  | n + 1 => ⟨fun f args S => match P.fns[f]? with
    | some fd => runFd (fnsAt P w n) fd args S
    | none => .no, fun k => P.consts[k]?, w⟩
end Dm

/-! DmC: the primitives are sound. -/
namespace Dm
open PySem L2

section
variable (K : PySem.W.Frag)
def Post (g : G) (d : D) (S : Store) (Q : VK) : Prop := ∀ v H' g', Le g g' → HpOk K g' S H' → Rep K g' d v → Q v H'
def LPost (g : G) (ds : List D) (S : Store) (Q : List V → Hp → Prop) : Prop := ∀ vs H' g', Le g g' → HpOk K g' S H' → RepL K g' ds vs → Q vs H'
def BPost (g : G) (b : Bool) (S : Store) (Q : Bool → Hp → Prop) : Prop := ∀ H' g', Le g g' → HpOk K g' S H' → Q b H'
def RPost {α : Type} (P : α → Store → Prop) : Res α → Prop
  | .ok a S => P a S
  | _ => False
end
section
variable {K : PySem.W.Frag} {g g' : G} {S : Store} {H : Hp} {Q : VK}
theorem Post.mono (h : Le g g') {d : D} (q : Post K g d S Q) : Post K g' d S Q := fun v H' g2 l hh r => q v H' g2 (h.trans l) hh r
theorem LPost.mono (h : Le g g') {ds : List D} {Q : List V → Hp → Prop} (q : LPost K g ds S Q) : LPost K g' ds S Q := fun v H' g2 l hh r => q v H' g2 (h.trans l) hh r
theorem BPost.mono (h : Le g g') {b : Bool} {Q : Bool → Hp → Prop} (q : BPost K g b S Q) : BPost K g' b S Q := fun H' g2 l hh => q H' g2 (h.trans l) hh
theorem Post.now {d : D} {v : V} (q : Post K g d S Q) (hh : HpOk K g S H) (r : Rep K g d v) : Q v H := q v H g (Le.refl g) hh r
theorem Post.tup {ds : List D} {xs : List V} (q : Post K g (.tup ds) S Q) (hh : HpOk K g S H) (r : RepL K g ds xs) : ∀ p, H p = none → Q (.ref p) (upd H p (.tup xs)) := fun p e =>
  q _ _ _ (Le.put (hh.free e)) (hh.put e) (.tup (.inl (.inl upd_same)) (r.mono (Le.put (hh.free e))))
theorem Post.lst {ds : List D} {xs : List V} (q : Post K g (.lst ds) S Q) (hh : HpOk K g S H) (r : RepL K g ds xs) : ∀ p, H p = none → Q (.ref p) (upd H p (.lst xs)) := fun p e =>
  q _ _ _ (Le.put (hh.free e)) (hh.put e) (.lst upd_same (r.mono (Le.put (hh.free e))))
theorem Post.add {c : Cell} {o : HO} (q : Post K g (.ref S.length) (S ++ [c]) Q) (hh : HpOk K g S H) (hc : CellOk K g c (some o)) : ∀ p, H p = none → Q (.ref p) (upd H p o) := fun p e =>
  q _ _ _ (Le.add p) (hh.add e hc) (.ref (by show (g.ρ ++ [p])[S.length]? = _; rw [hh.len, List.getElem?_append_right (Nat.le_refl _)]; simp))

theorem cellL_eq {n : Nat} {l : List D} (h : cellL S n = some l) : S[n]? = some (.lst l) := by
  unfold cellL at h
  split at h
  · cases h; assumption
  · cases h
theorem cellD_eq {n : Nat} {l : List (D × D)} (h : cellD S n = some l) : S[n]? = some (.dct l) := by
  unfold cellD at h
  split at h
  · cases h; assumption
  · cases h
theorem HpOk.lst {n : Nat} {a : Addr} {l : List D} (hh : HpOk K g S H) (h : cellL S n = some l) (e : g.ρ[n]? = some a) : ∃ xs, H a = some (.lst xs) ∧ RepL K g l xs :=
  (hh.cell n (.lst l) a (cellL_eq h) e rfl).1
theorem HpOk.dct {n : Nat} {a : Addr} {l : List (D × D)} (hh : HpOk K g S H) (h : cellD S n = some l) (e : g.ρ[n]? = some a) : ∃ kvs, H a = some (.dK kvs) ∧ RepP K g l kvs :=
  (hh.cell n (.dct l) a (cellD_eq h) e rfl).1
/-- what stands in a sequence, in the heap -/
theorem seq_of {d : D} {v : V} {l : List D} (hh : HpOk K g S H) (r : Rep K g d v) (h : seqD S d = some l) : ∃ p xs, v = .ref p ∧ (SqL K H p xs ∨ SqT K H p xs) ∧ RepL K g l xs := by
  cases r with
  | tup q rl => cases h; exact ⟨_, _, rfl, .inr (sqT_mono hh.same q), rl⟩
  | lst q rl => cases h; exact ⟨_, _, rfl, .inl (.inl (.inl (hh.same _ _ q))), rl⟩
  | frz q rl => cases h; exact ⟨_, _, rfl, .inl (hh.same.seq q), rl⟩
  | ref e =>
    obtain ⟨xs, ho, rl⟩ := hh.lst h e
    exact ⟨_, xs, rfl, .inl (.inl (.inl ho)), rl⟩
  | non => cases h
  | bl => cases h
  | int => cases h
  | str => cases h
theorem lst_of {d : D} {v : V} {l : List D} (hh : HpOk K g S H) (r : Rep K g d v) (h : lstD S d = some l) : ∃ p xs, v = .ref p ∧ H p = some (.lst xs) ∧ RepL K g l xs := by
  cases r with
  | lst q rl => cases h; exact ⟨_, _, rfl, hh.same _ _ q, rl⟩
  | ref e =>
    obtain ⟨xs, ho, rl⟩ := hh.lst h e
    exact ⟨_, xs, rfl, ho, rl⟩
  | tup => cases h
  | frz => cases h
  | non => cases h
  | bl => cases h
  | int => cases h
  | str => cases h

mutual
theorem rep_dp (hh : HpOk K g S H) : ∀ {d : D} {v : V}, Rep K g d v → d.pure = true → Dp K H v d.py
  | _, _, .non, _ => .non
  | _, _, .bl b, _ => .bl b
  | _, _, .int i, _ => .int i
  | _, _, .str x, _ => .str x
  | .tup l, _, .tup q r, h => .tup (sqT_mono hh.same q) (repL_dp hh r h)
  | .lst l, _, .lst q r, h => .lst (.inl (.inl (hh.same _ _ q))) (repL_dp hh r h)
  | _, _, .frz q r, h => by cases h
  | _, _, .ref e, h => by cases h
theorem repL_dp (hh : HpOk K g S H) : ∀ {ds : List D} {vs : List V}, RepL K g ds vs → D.pureL ds = true → DpAll K H vs (D.pyL ds)
  | _, _, .nil, _ => .nil
  | d :: ds, _, .cons r q, h => by
    have h' : (d.pure && D.pureL ds) = true := h
    rw [Bool.and_eq_true] at h'
    exact .cons (rep_dp hh r h'.1) (repL_dp hh q h'.2)
end
/-- a list of the store, or data -/
theorem peek_dp {d : D} {v : V} (hh : HpOk K g S H) (r : Rep K g d v) (h : (peek S d).cmpOk = true) : Dp K H v (peek S d).py ∧ SeqAt.shaped (peek S d).py = true := by
  unfold D.cmpOk at h
  rw [Bool.and_eq_true] at h
  refine ⟨?_, h.2⟩
  cases d with
  | ref n =>
    cases r with
    | ref e =>
      cases hn : cellL S n with
      | none =>
        have e1 : peek S (.ref n) = .ref n := by show (match cellL S n with | some l => D.lst l | none => D.ref n) = _; rw [hn]
        rw [e1] at h; cases h.1
      | some l =>
        have e1 : peek S (.ref n) = .lst l := by show (match cellL S n with | some l => D.lst l | none => D.ref n) = _; rw [hn]
        rw [e1] at h ⊢
        obtain ⟨xs, ho, rl⟩ := hh.lst hn e
        exact .lst (.inl (.inl ho)) (repL_dp hh rl h.1)
  | _ => exact rep_dp hh r h.1
theorem cmp_dp {d : D} {v : V} (hh : HpOk K g S H) (r : Rep K g d v) (h : d.cmpOk = true) : Dp K H v d.py ∧ SeqAt.shaped d.py = true := by
  unfold D.cmpOk at h
  rw [Bool.and_eq_true] at h
  exact ⟨rep_dp hh r h.1, h.2⟩

/-- truth -/
theorem truth_of {d : D} {v : V} {b : Bool} (hh : HpOk K g S H) (r : Rep K g d v) (h : truth S d = some b) : TruV K v H b := by
  have em : ∀ {ds : List D} {vs : List V}, RepL K g ds vs → ds.isEmpty = vs.isEmpty := fun {ds vs} q => by cases q <;> rfl
  cases r with
  | non => cases h; rfl
  | bl b => cases h; rfl
  | int i => cases h; rfl
  | str x =>
    have h : (if x.length ≤ sizeLine then some (x.length != 0) else none) = some b := h
    split at h
    · rename_i hl
      cases h
      refine ⟨hl, ?_⟩
      cases x.length <;> rfl
    · cases h
  | tup q rl =>
    cases h
    exact .inr (.inl ⟨_, sqT_mono hh.same q, by rw [em rl]⟩)
  | lst q rl =>
    cases h
    exact .inl ⟨_, .inl (.inl (hh.same _ _ q)), by rw [em rl]⟩
  | frz q rl =>
    cases h
    exact .inl ⟨_, hh.same.seq q, by rw [em rl]⟩
  | ref e =>
    rename_i a n
    have h : (match cellL S n, cellD S n with | some l, _ => some !l.isEmpty | none, some l => some !l.isEmpty | none, none => none) = some b := h
    split at h
    · rename_i hn
      cases h
      obtain ⟨xs, ho, rl⟩ := hh.lst hn e
      exact .inl ⟨xs, .inl (.inl ho), by rw [em rl]⟩
    · rename_i hn
      cases h
      obtain ⟨kvs, ho, rl⟩ := hh.dct hn e
      refine .inr (.inr ⟨kvs, ho, ?_⟩)
      cases rl <;> rfl
    · cases h
end

/-! ### operators -/
section
variable {X : Cx}
/-- what a two-place operation on data asks -/
def rD2 (K : PySem.W.Frag) (f : Store → D → D → Option D) : R2 := fun vx vy H Q => ∃ g S x y d, HpOk K g S H ∧ Rep K g x vx ∧ Rep K g y vy ∧ f S x y = some d ∧ Post K g d S Q
theorem op_bin (op : Operator) : OpR X (binaryOp op) (rD2 X.K (binD op)) := by
  intro pins s σ H vx vy v u Q I rx ry h
  obtain ⟨g, S, x, y, d, hh, r1, r2, e, q⟩ := h
  unfold binD at e
  split at e
  · cases r1; cases r2; cases e
    exact op_add pins s σ H _ _ v u Q I rx ry ⟨_, _, rfl, rfl, q.now hh (.int _)⟩
  · cases r1; cases r2; cases e
    cases rx
    obtain ⟨t, rfl⟩ := ry
    exact PySem.IntBool.add_bool_int ⟨.int _, H, I.tok _, ⟨_, rfl⟩, q.now hh (.int _)⟩
  · split at e
    · rename_i hl
      cases r1; cases r2; cases e
      exact op_add_str pins s σ H _ _ v u Q I rx ry ⟨_, _, rfl, rfl, hl, q.now hh (.str _)⟩
    · cases e
  · split at e
    · rename_i hl
      cases r1 with
      | tup q1 l1 =>
      cases r2 with
      | tup q2 l2 =>
      cases e
      have n1 := l1.length
      have n2 := l2.length
      refine op_catA pins s σ H _ _ v u Q I rx ry ⟨_, _, _, _, rfl, rfl, sqT_mono hh.same q1, sqT_mono hh.same q2, by omega, fun e1 => ?_, fun e1 e2 => ?_, fun e1 e2 => ?_⟩
      · subst e1
        cases l1
        exact q.now hh (.tup q2 l2)
      · subst e2
        cases l2
        rw [List.append_nil] at q
        exact q.now hh (.tup q1 l1)
      · exact q.tup hh (l1.append l2)
    · cases e
  · split at e
    · rename_i ea eb
      split at e
      · rename_i hl
        cases e
        obtain ⟨p, xs, rfl, h1, l1⟩ := lst_of hh r1 ea
        obtain ⟨p', ys, rfl, h2, l2⟩ := lst_of hh r2 eb
        have n1 := l1.length
        have n2 := l2.length
        exact op_cat pins s σ H _ _ v u Q I rx ry ⟨_, _, _, _, rfl, rfl, h1, h2, by omega, q.lst hh (l1.append l2)⟩
      · cases e
    · cases e
  · cases r1; cases r2; cases e
    exact op_sub pins s σ H _ _ v u Q I rx ry ⟨_, _, rfl, rfl, q.now hh (.int _)⟩
  · cases r1; cases r2; cases e
    cases rx
    obtain ⟨t, rfl⟩ := ry
    exact PySem.IntBool.sub_bool_int ⟨.int _, H, I.tok _, ⟨_, rfl⟩, q.now hh (.int _)⟩
  · cases r1; cases r2; cases e
    obtain ⟨t, rfl⟩ := rx
    cases ry
    exact PySem.IntBool.sub_int_bool ⟨.int _, H, I.tok _, ⟨_, rfl⟩, q.now hh (.int _)⟩
  · split at e
    · rename_i hc
      cases r1; cases r2; cases e
      unfold CMulB at hc
      rw [Bool.or_eq_true, Bool.or_eq_true, Bool.and_eq_true, Bool.and_eq_true] at hc
      simp only [decide_eq_true_eq] at hc
      rcases hc with hc | hc
      · exact op_mul pins s σ H _ _ v u Q I rx ry ⟨_, _, rfl, rfl, hc, q.now hh (.int _)⟩
      · exact op_mulW pins s σ H _ _ v u Q I rx ry ⟨_, _, rfl, rfl, hc, q.now hh (.int _)⟩
    · cases e
  · split at e
    · rename_i hc
      cases r1; cases r2; cases e
      obtain ⟨h0, hc | hc⟩ := hc
      · exact op_fdiv pins s σ H _ _ v u Q I rx ry ⟨_, _, rfl, rfl, ⟨h0, hc⟩, q.now hh (.int _)⟩
      · exact op_fdivW pins s σ H _ _ v u Q I rx ry ⟨_, _, rfl, rfl, ⟨h0, hc⟩, q.now hh (.int _)⟩
    · cases e
  · split at e
    · rename_i hc
      cases r1; cases r2; cases e
      exact op_mod pins s σ H _ _ v u Q I rx ry ⟨_, _, rfl, rfl, hc, q.now hh (.int _)⟩
    · cases e
  · split at e
    · rename_i hc
      cases r1; cases r2; cases e
      exact op_pow pins s σ H _ _ v u Q I rx ry ⟨_, _, rfl, rfl, hc, q.now hh (.int _)⟩
    · cases e
  · cases e

def isBlV (b : Bool) : V → Bool
  | .bl a => a == b
  | _ => false
theorem wp_is_bool {M : Model} {A : Around} {E : Value → Shared → Prop} {s : Shared} {Q : Value → Shared → Prop} {x : V} {v : Value} {b : Bool} (r : RelV x v) (h : Q (.bool (isBlV b x)) s) : wpAny M A (compareOp .Is v (.bool b)) Q E s := by
  cases x with
  | bl a =>
    cases r
    have e : (Value.bool a == Value.bool b) = (a == b) := by cases a <;> cases b <;> rfl
    exact PyProof.Rows.is_bool h
  | non => cases r; exact wpAny_pure h
  | int i => obtain ⟨t, rfl⟩ := r; exact wpAny_pure h
  | str i => obtain ⟨t, rfl⟩ := r; exact wpAny_pure h
  | byt i => obtain ⟨t, rfl⟩ := r; exact wpAny_pure h
  | flt i => obtain ⟨t, rfl⟩ := r; exact wpAny_pure h
  | ref a => cases r; exact wpAny_pure h
  | ty n => cases r; exact wpAny_pure h
theorem wp_isnot_bool {M : Model} {A : Around} {E : Value → Shared → Prop} {s : Shared} {Q : Value → Shared → Prop} {x : V} {v : Value} {b : Bool} (r : RelV x v) (h : Q (.bool (!(isBlV b x))) s) : wpAny M A (compareOp .IsNot v (.bool b)) Q E s := by
  cases x with
  | bl a =>
    cases r
    exact PyProof.Rows.isnot_bool h
  | non => cases r; exact wpAny_pure h
  | int i => obtain ⟨t, rfl⟩ := r; exact wpAny_pure h
  | str i => obtain ⟨t, rfl⟩ := r; exact wpAny_pure h
  | byt i => obtain ⟨t, rfl⟩ := r; exact wpAny_pure h
  | flt i => obtain ⟨t, rfl⟩ := r; exact wpAny_pure h
  | ref a => cases r; exact wpAny_pure h
  | ty n => cases r; exact wpAny_pure h
theorem pyL_any : ∀ (l : List D) (d : PyData), ((D.pyL l).any fun z => PyData.eqv z d) = l.any fun e => PyData.eqv e.py d
  | [], _ => rfl
  | e :: l, d => by
    show (PyData.eqv e.py d || (D.pyL l).any fun z => PyData.eqv z d) = _
    rw [pyL_any l d] <;> rfl
theorem in_tup (hu : X.A.units + 65 < cLine) (neg : Bool) : OpR X (compareOp (if neg then .NotIn else .In)) (fun x y H Q => ∃ d ds, Dp X.K H x d ∧ Dp X.K H y (.tuple ds) ∧ SeqAt.shaped d = true ∧ SeqAt.shaped (.tuple ds) = true ∧ Q (.bl (if neg then !(ds.any fun z => PyData.eqv z d) else ds.any fun z => PyData.eqv z d)) H) := by
  intro pins s σ H x y v u Q I rx ry h
  obtain ⟨d, ds, hd, he, sd, se, q⟩ := h
  obtain ⟨as, r1⟩ := Dp.reads I d x v hd rx
  obtain ⟨bs, r2⟩ := Dp.reads I (.tuple ds) y u he ry
  cases neg with
  | false => exact SeqAt.in_tuple_reads r2 r1 (SeqAt.canLay_of_shaped se) (SeqAt.canLay_of_shaped sd) (PyProof.Rows.room_in_shaped sd hu) ⟨.bl _, H, I, rfl, q⟩
  | true => exact SeqAt.notIn_tuple_reads r2 r1 (SeqAt.canLay_of_shaped se) (SeqAt.canLay_of_shaped sd) (PyProof.Rows.room_in_shaped sd hu) ⟨.bl _, H, I, rfl, q⟩
/-- in, not in -/
theorem op_in_gen (hu : X.A.units + 65 < cLine) (neg : Bool) {pins : List (Addr × Obj)} {s : Shared} {σ : St} {H : Hp} {vx vy : V} {v u : Value} {Q : VK} {g : G} {S : Store} {x y : D} {b : Bool} (I : Inv X pins σ H s) (rx : RelV vx v) (ry : RelV vy u)
    (hh : HpOk X.K g S H) (r1 : Rep X.K g x vx) (r2 : Rep X.K g y vy) (e : inD S x y = some b) (q : Q (.bl (if neg then !b else b)) H) : wpAny (model X.prog X.w) X.A (compareOp (if neg then .NotIn else .In) v u) (EP X pins σ Q) X.xe s := by
  cases r2 with
  | str z =>
    cases r1 with
    | str a =>
      have e : (match a.cps.toList with | [c] => some (decide (c ∈ z.cps.toList)) | _ => none) = some b := e
      split at e
      · rename_i c hc
        cases e
        have ha : a = ⟨#[c]⟩ := by
          cases a with
          | mk arr => congr 1; exact Array.toList_inj.mp (by simpa using hc)
        subst ha
        cases neg with
        | false => exact op_in_sign pins s σ H _ _ v u Q I rx ry ⟨c, z, rfl, rfl, q⟩
        | true => exact op_notIn_sign pins s σ H _ _ v u Q I rx ry ⟨c, z, rfl, rfl, q⟩
      · cases e
    | _ => cases e
  | tup hq rl =>
    rename_i l
    have e : (if (x.cmpOk && (D.tup l).cmpOk) = true then some (l.any fun e => PyData.eqv e.py x.py) else none) = some b := e
    split at e
    · rename_i hc
      rw [Bool.and_eq_true] at hc
      cases e
      obtain ⟨d1, s1⟩ := cmp_dp hh r1 hc.1
      obtain ⟨d2, s2⟩ := cmp_dp hh (.tup hq rl) hc.2
      refine in_tup hu neg pins s σ H _ _ v u Q I rx ry ⟨_, _, d1, d2, s1, s2, ?_⟩
      rw [pyL_any]
      exact q
    · cases e
  | lst hq rl =>
    rename_i l
    have e : (if (x.cmpOk && (D.lst l).cmpOk) = true then some (l.any fun e => PyData.eqv e.py x.py) else none) = some b := e
    split at e
    · rename_i hc
      rw [Bool.and_eq_true] at hc
      cases e
      obtain ⟨d1, s1⟩ := cmp_dp hh r1 hc.1
      obtain ⟨d2, s2⟩ := cmp_dp hh (.lst hq rl) hc.2
      cases neg with
      | false => exact op_inD hu pins s σ H _ _ v u Q I rx ry ⟨_, _, d1, d2, s1, s2, by rw [pyL_any]; exact q⟩
      | true => exact op_notInD hu pins s σ H _ _ v u Q I rx ry ⟨_, _, d1, d2, s1, s2, by rw [pyL_any]; exact q⟩
    · cases e
  | ref er =>
    rename_i n
    have e : (match cellL S n with | some l => if (x.cmpOk && (D.lst l).cmpOk) = true then some (l.any fun e => PyData.eqv e.py x.py) else none | none => none) = some b := e
    split at e
    · rename_i l hn
      split at e
      · rename_i hc
        rw [Bool.and_eq_true] at hc
        cases e
        obtain ⟨d1, s1⟩ := cmp_dp hh r1 hc.1
        obtain ⟨xs, ho, rl⟩ := hh.lst hn er
        have hc2 := hc.2
        unfold D.cmpOk at hc2
        rw [Bool.and_eq_true] at hc2
        have d2 := Dp.lst (K := X.K) (.inl (.inl ho)) (repL_dp hh rl hc2.1)
        cases neg with
        | false => exact op_inD hu pins s σ H _ _ v u Q I rx ry ⟨_, _, d1, d2, s1, hc2.2, by rw [pyL_any]; exact q⟩
        | true => exact op_notInD hu pins s σ H _ _ v u Q I rx ry ⟨_, _, d1, d2, s1, hc2.2, by rw [pyL_any]; exact q⟩
      · cases e
    · cases e
  | non => cases e
  | bl => cases e
  | int => cases e
  | frz => cases e
theorem rep_isN {K : PySem.W.Frag} {g : G} {x : D} {v : V} (r : Rep K g x v) : isNon x = decide (v = .non) := by
  cases r <;> rfl
theorem rep_isB {K : PySem.W.Frag} {g : G} {x : D} {v : V} (b : Bool) (r : Rep K g x v) : isBl b x = isBlV b v := by
  cases r <;> rfl

/-- < of tuples -/
theorem op_ltD (hu : X.A.units + 65 < cLine) {pins : List (Addr × Obj)} {s : Shared} {σ : St} {H : Hp} {vx vy : V} {v u : Value} {Q : VK} {g : G} {S : Store} {l m : List D} {b : Bool} (I : Inv X pins σ H s) (rx : RelV vx v) (ry : RelV vy u) (hh : HpOk X.K g S H) (r1 : Rep X.K g (.tup l) vx) (r2 : Rep X.K g (.tup m) vy)
    (e : ltT (.tup l) (.tup m) = some b) (q : Q (.bl b) H) : wpAny (model X.prog X.w) X.A (compareOp .Lt v u) (EP X pins σ Q) X.xe s := by
  unfold ltT at e
  split at e
  · rename_i hc
    rw [Bool.and_eq_true, Bool.and_eq_true] at hc
    cases e
    obtain ⟨d1, s1⟩ := cmp_dp hh r1 hc.1.1
    obtain ⟨d2, s2⟩ := cmp_dp hh r2 hc.1.2
    obtain ⟨as, ra⟩ := Dp.reads I _ _ _ d1 rx
    obtain ⟨bs, rb⟩ := Dp.reads I _ _ _ d2 ry
    have room := SeqAt.room_of_shaped (A := X.A) s1 (db := (D.tup m).py) (by omega)
    exact PySem.W.rcLt_alike _ _ X.A s v u as bs ra rb hc.2 (fun z => by cases z) room X.prog X.w X.xe (EP X pins σ Q) ⟨.bl _, H, I, rfl, q⟩
  · cases e
/-- <= of tuples -/
theorem op_leD (hu : X.A.units + 65 < cLine) {pins : List (Addr × Obj)} {s : Shared} {σ : St} {H : Hp} {vx vy : V} {v u : Value} {Q : VK} {g : G} {S : Store} {l m : List D} {b : Bool} (I : Inv X pins σ H s) (rx : RelV vx v) (ry : RelV vy u) (hh : HpOk X.K g S H) (r1 : Rep X.K g (.tup l) vx) (r2 : Rep X.K g (.tup m) vy)
    (e : leT (.tup l) (.tup m) = some b) (q : Q (.bl b) H) : wpAny (model X.prog X.w) X.A (compareOp .LtE v u) (EP X pins σ Q) X.xe s := by
  unfold leT at e
  split at e
  · rename_i hc
    rw [Bool.and_eq_true, Bool.and_eq_true] at hc
    cases e
    obtain ⟨d1, s1⟩ := cmp_dp hh r1 hc.1.1
    obtain ⟨d2, s2⟩ := cmp_dp hh r2 hc.1.2
    obtain ⟨as, ra⟩ := Dp.reads I _ _ _ d1 rx
    obtain ⟨bs, rb⟩ := Dp.reads I _ _ _ d2 ry
    have room := SeqAt.room_of_shaped (A := X.A) s1 (db := (D.tup m).py) (by omega)
    exact PySem.W.rcLe_alike _ _ X.A s v u as bs ra rb hc.2 (fun z => by cases z) room X.prog X.w X.xe (EP X pins σ Q) ⟨.bl _, H, I, rfl, q⟩
  · cases e
/-- a comparison -/
def rC2 (K : PySem.W.Frag) (op : CmpOp) : R2 := fun vx vy H Q => ∃ g S x y b, HpOk K g S H ∧ Rep K g x vx ∧ Rep K g y vy ∧ cmpD op S x y = some b ∧ Q (.bl b) H
theorem op_cmp (hu : X.A.units + 65 < cLine) (op : CmpOp) : OpR X (compareOp op) (rC2 X.K op) := by
  intro pins s σ H vx vy v u Q I rx ry h
  obtain ⟨g, S, x, y, b, hh, r1, r2, e, q⟩ := h
  have iint : ∀ {f : Int → Int → Bool} {x y : D} {vx vy : V}, Rep X.K g x vx → Rep X.K g y vy → (match x, y with | .int i, .int j => some (f i j) | _, _ => none) = some b → ∃ i j, vx = .int i ∧ vy = .int j ∧ b = f i j := fun {f x y vx vy} r1 r2 e => by
    cases r1 with
    | int i => cases r2 with
      | int j => cases e; exact ⟨i, j, rfl, rfl, rfl⟩
      | _ => cases e
    | _ => cases e
  cases op with
  | Eq =>
    have e : (if ((peek S x).cmpOk && (peek S y).cmpOk) = true then some (PyData.eqv (peek S x).py (peek S y).py) else none) = some b := e
    split at e
    · rename_i hc
      rw [Bool.and_eq_true] at hc
      cases e
      obtain ⟨d1, s1⟩ := peek_dp hh r1 hc.1
      obtain ⟨d2, s2⟩ := peek_dp hh r2 hc.2
      exact op_eqD (by omega) pins s σ H _ _ v u Q I rx ry ⟨_, _, d1, d2, s1, s2, q⟩
    · cases e
  | NotEq =>
    have e : (if ((peek S x).cmpOk && (peek S y).cmpOk) = true then some (PyData.eqv (peek S x).py (peek S y).py) else none).map (!·) = some b := e
    split at e
    · rename_i hc
      rw [Bool.and_eq_true] at hc
      cases e
      obtain ⟨d1, s1⟩ := peek_dp hh r1 hc.1
      obtain ⟨d2, s2⟩ := peek_dp hh r2 hc.2
      exact op_neD (by omega) pins s σ H _ _ v u Q I rx ry ⟨_, _, d1, d2, s1, s2, q⟩
    · cases e
  | Lt =>
    cases r1 with
    | int i =>
      cases r2 with
      | int j => cases e; exact op_lt pins s σ H _ _ v u Q I rx ry ⟨i, j, rfl, rfl, q⟩
      | _ => cases e
    | tup h1 h2 =>
      rename_i l
      cases r2 with
      | tup h3 h4 => rename_i m; exact op_ltD hu I rx ry hh (.tup h1 h2) (.tup h3 h4) e q
      | _ => cases e
    | _ => cases e
  | LtE =>
    cases r1 with
    | int i =>
      cases r2 with
      | int j => cases e; exact op_le pins s σ H _ _ v u Q I rx ry ⟨i, j, rfl, rfl, q⟩
      | _ => cases e
    | tup h1 h2 =>
      cases r2 with
      | tup h3 h4 => exact op_leD hu I rx ry hh (.tup h1 h2) (.tup h3 h4) e q
      | _ => cases e
    | _ => cases e
  | Gt =>
    obtain ⟨i, j, rfl, rfl, rfl⟩ := iint r1 r2 e
    exact op_gt pins s σ H _ _ v u Q I rx ry ⟨i, j, rfl, rfl, q⟩
  | GtE =>
    obtain ⟨i, j, rfl, rfl, rfl⟩ := iint r1 r2 e
    exact op_ge pins s σ H _ _ v u Q I rx ry ⟨i, j, rfl, rfl, q⟩
  | Is =>
    cases r2 with
    | non =>
      cases e
      simp only [rep_isN r1] at q
      exact op_isN pins s σ H _ _ v u Q I rx ry ⟨rfl, q⟩
    | bl c =>
      cases e
      simp only [rep_isB c r1] at q
      cases ry
      exact wp_is_bool rx ⟨.bl _, H, I, rfl, q⟩
    | _ => cases e
  | IsNot =>
    cases r2 with
    | non =>
      cases e
      simp only [rep_isN r1] at q
      exact op_notN pins s σ H _ _ v u Q I rx ry ⟨rfl, q⟩
    | bl c =>
      cases e
      simp only [rep_isB c r1] at q
      cases ry
      exact wp_isnot_bool rx ⟨.bl _, H, I, rfl, q⟩
    | _ => cases e
  | In => exact op_in_gen hu false I rx ry hh r1 r2 e q
  | NotIn =>
    have e : (inD S x y).map (!·) = some b := e
    cases e' : inD S x y with
    | none => rw [e'] at e; cases e
    | some c =>
      rw [e'] at e
      cases e
      exact op_in_gen hu true I rx ry hh r1 r2 e' q
end
end Dm

/-! DmD: subscripts, slices, built-in functions and methods are sound. -/
namespace Dm
open PySem L2 PyProof.Rows
section
variable {K : PySem.W.Frag} {g : G} {S : Store} {H : Hp} {Q : VK}
theorem RepL.at_ {ds : List D} {xs : List V} (r : RepL K g ds xs) {i : Int} {d : D} (h : atI ds i = some d) : ∃ v, atI xs i = some v ∧ Rep K g d v := by
  unfold atI at h ⊢
  rw [r.length] at h
  cases e : ixN xs.length i with
  | none => rw [e] at h; cases h
  | some j =>
    rw [e] at h
    exact r.get h
theorem RepL.cutL {ds : List D} {xs : List V} (r : RepL K g ds xs) (lo hi : Option Int) : RepL K g (cutD ds lo hi) (cutV xs lo hi) := by
  unfold cutD cutV
  rw [r.length]
  exact (r.drop _).take _
theorem intsD_map : ∀ {ds : List D} {ns : List Int}, intsD ds = some ns → ds = ns.map D.int
  | [], ns, h => by cases h; rfl
  | d :: ds, ns, h => by
    cases d with
    | int i =>
      have h : (intsD ds).map (i :: ·) = some ns := h
      cases e : intsD ds with
      | none => rw [e] at h; cases h
      | some ms => rw [e] at h; cases h; rw [intsD_map e]; rfl
    | _ => cases h
theorem boolsD_map : ∀ {ds : List D} {ns : List Bool}, boolsD ds = some ns → ds = ns.map D.bl
  | [], ns, h => by cases h; rfl
  | d :: ds, ns, h => by
    cases d with
    | bl i =>
      have h : (boolsD ds).map (i :: ·) = some ns := h
      cases e : boolsD ds with
      | none => rw [e] at h; cases h
      | some ms => rw [e] at h; cases h; rw [boolsD_map e]; rfl
    | _ => cases h
theorem strsD_map : ∀ {ds : List D} {ns : List Str}, strsD ds = some ns → ds = ns.map D.str
  | [], ns, h => by cases h; rfl
  | d :: ds, ns, h => by
    cases d with
    | str i =>
      have h : (strsD ds).map (i :: ·) = some ns := h
      cases e : strsD ds with
      | none => rw [e] at h; cases h
      | some ms => rw [e] at h; cases h; rw [strsD_map e]; rfl
    | _ => cases h
theorem rep_ints : ∀ {ns : List Int} {xs : List V}, RepL K g (ns.map D.int) xs → xs = ns.map V.int
  | [], _, .nil => rfl
  | _ :: _, _, .cons r q => by cases r; rw [rep_ints q]; rfl
theorem rep_bools : ∀ {ns : List Bool} {xs : List V}, RepL K g (ns.map D.bl) xs → xs = ns.map V.bl
  | [], _, .nil => rfl
  | _ :: _, _, .cons r q => by cases r; rw [rep_bools q]; rfl
theorem rep_strs : ∀ {ns : List Str} {xs : List V}, RepL K g (ns.map D.str) xs → xs = ns.map V.str
  | [], _, .nil => rfl
  | _ :: _, _, .cons r q => by cases r; rw [rep_strs q]; rfl
theorem RepP.length : ∀ {l : List (D × D)} {kvs : List (Key × V)}, RepP K g l kvs → l.length = kvs.length
  | _, _, .nil => rfl
  | _, _, .cons _ q => congrArg (· + 1) q.length
theorem RepL.one {d : D} {xs : List V} (r : RepL K g [d] xs) : ∃ v, xs = [v] ∧ Rep K g d v := by
  cases r with
  | cons r q => cases q; exact ⟨_, rfl, r⟩
theorem RepL.two {d e : D} {xs : List V} (r : RepL K g [d, e] xs) : ∃ v u, xs = [v, u] ∧ Rep K g d v ∧ Rep K g e u := by
  cases r with
  | cons r q => obtain ⟨u, rfl, r2⟩ := q.one; exact ⟨_, _, rfl, r, r2⟩
end

section
variable {X : Cx}
theorem ix_data : IxR X (rD2 X.K subD) := by
  intro value slice pins s σ H vx vy v u Q I rx ry h hs
  obtain ⟨g, S, x, y, d, hh, r1, r2, e, q⟩ := h
  cases r2 with
  | int i =>
    cases r1 with
    | str z =>
      have e : (if z.length ≤ sizeLine then (atI z.cps.toList i).map fun c => D.str ⟨#[c]⟩ else none) = some d := e
      split at e
      · rename_i hl
        cases ea : atI z.cps.toList i with
        | none => rw [ea] at e; cases e
        | some c =>
          rw [ea] at e
          cases e
          exact ix_str value slice pins s σ H _ _ v u Q I rx ry ⟨z, i, c, rfl, rfl, hl, ea, q.now hh (.str _)⟩ hs
      · cases e
    | tup hq rl =>
      obtain ⟨w, hw, rw'⟩ := rl.at_ (i := i) (d := d) e
      exact ix_tup value slice pins s σ H _ _ v u Q I rx ry ⟨_, _, i, w, rfl, rfl, sqT_mono hh.same hq, hw, q.now hh rw'⟩ hs
    | lst hq rl =>
      obtain ⟨w, hw, rw'⟩ := rl.at_ (i := i) (d := d) e
      exact ix_list value slice pins s σ H _ _ v u Q I rx ry ⟨_, _, i, w, rfl, rfl, .inl (.inl (hh.same _ _ hq)), hw, q.now hh rw'⟩ hs
    | frz hq rl =>
      obtain ⟨w, hw, rw'⟩ := rl.at_ (i := i) (d := d) e
      exact ix_list value slice pins s σ H _ _ v u Q I rx ry ⟨_, _, i, w, rfl, rfl, hh.same.seq hq, hw, q.now hh rw'⟩ hs
    | ref er =>
      rename_i a n
      have e : ((cellL S n).bind fun l => atI l i) = some d := e
      cases ec : cellL S n with
      | none => rw [ec] at e; cases e
      | some l =>
        rw [ec] at e
        obtain ⟨xs, ho, rl⟩ := hh.lst ec er
        obtain ⟨w, hw, rw'⟩ := rl.at_ (i := i) (d := d) e
        exact ix_list value slice pins s σ H _ _ v u Q I rx ry ⟨_, _, i, w, rfl, rfl, .inl (.inl ho), hw, q.now hh rw'⟩ hs
    | non => cases e
    | bl => cases e
    | int => cases e
  | _ => cases e
/-- slices by values -/
def rDsl (K : PySem.W.Frag) : V → Option Int → Option Int → Hp → VK → Prop := fun vx lo hi H Q => ∃ g S x d, HpOk K g S H ∧ Rep K g x vx ∧ slcD S x lo hi = some d ∧ Post K g d S Q
theorem sl_data : SlR X (rDsl X.K) := by
  intro pins s σ H vx v vl vu lo hi sl Q I rx hs pl pu h
  obtain ⟨g, S, x, d, hh, r1, e, q⟩ := h
  cases r1 with
  | tup hq rl =>
    cases e
    have rc := rl.cutL lo hi
    rename_i a xs ds
    refine sl_tupA pins s σ H _ v vl vu lo hi sl Q I rx hs pl pu ⟨_, _, rfl, sqT_mono hh.same hq, fun hw => ?_, fun _ => q.tup hh rc⟩
    have e2 : cutV xs lo hi = xs := by
      unfold cutV
      rw [hw.1, hw.2, Nat.sub_zero, List.drop_zero, List.take_length]
    rw [e2] at rc
    exact q.now hh (.tup hq rc)
  | lst hq rl =>
    cases e
    exact sl_list pins s σ H _ v vl vu lo hi sl Q I rx hs pl pu ⟨_, _, rfl, .inl (.inl (hh.same _ _ hq)), q.lst hh (rl.cutL lo hi)⟩
  | ref er =>
    rename_i a n
    have e : ((cellL S n).map fun l => D.lst (cutD l lo hi)) = some d := e
    cases ec : cellL S n with
    | none => rw [ec] at e; cases e
    | some l =>
      rw [ec] at e
      cases e
      obtain ⟨xs, ho, rl⟩ := hh.lst ec er
      exact sl_list pins s σ H _ v vl vu lo hi sl Q I rx hs pl pu ⟨_, _, rfl, .inl (.inl ho), q.lst hh (rl.cutL lo hi)⟩
  | _ => cases e

/-! ### built-in functions -/
def rBi (K : PySem.W.Frag) (f : Bi) : List V → Hp → VK → Prop := fun vs H Q => ∃ g S xs d, HpOk K g S H ∧ RepL K g xs vs ∧ biD f S xs = some d ∧ Post K g d S Q
def lstV (K : PySem.W.Frag) (g : G) (S : Store) (x : D) : Prop := ∃ l, lstD S x = some l
theorem cr_len : CallR X (.builtin "len") (rBi X.K .len) := by
  intro pins s σ H vs us Q I r h
  obtain ⟨g, S, xs, d, hh, rl, e, q⟩ := h
  match xs, e with
  | [x], e =>
    obtain ⟨v, rfl, rx⟩ := rl.one
    have e : (lenD S x).map D.int = some d := e
    cases el : lenD S x with
    | none => rw [el] at e; cases e
    | some n =>
      rw [el] at e
      cases e
      have q' : Q (.int n) H := q.now hh (.int n)
      cases rx with
      | str z =>
        have el : (if z.length ≤ sizeLine then some (z.length : Int) else none) = some n := el
        split at el
        · rename_i hl
          cases el
          exact call_len_str pins s σ H _ us Q I r ⟨z, rfl, hl, q'⟩
        · cases el
      | tup hq r2 =>
        cases el
        have hn := r2.length
        rw [hn] at q'
        exact call_len_seq pins s σ H _ us Q I r ⟨_, _, rfl, .inr (sqT_mono hh.same hq), q'⟩
      | lst hq r2 =>
        cases el
        have hn := r2.length
        rw [hn] at q'
        exact call_len_seq pins s σ H _ us Q I r ⟨_, _, rfl, .inl (.inl (.inl (hh.same _ _ hq))), q'⟩
      | frz hq r2 =>
        cases el
        have hn := r2.length
        rw [hn] at q'
        exact call_len_seq pins s σ H _ us Q I r ⟨_, _, rfl, .inl (hh.same.seq hq), q'⟩
      | ref er =>
        rename_i a m
        have el : (match cellL S m, cellD S m with | some l, _ => some (l.length : Int) | none, some l => some (l.length : Int) | none, none => none) = some n := el
        split at el
        · rename_i l hc
          cases el
          obtain ⟨xs, ho, r2⟩ := hh.lst hc er
          rw [r2.length] at q'
          exact call_len_seq pins s σ H _ us Q I r ⟨_, _, rfl, .inl (.inl (.inl ho)), q'⟩
        · rename_i l _ hc
          cases el
          obtain ⟨kvs, ho, r2⟩ := hh.dct hc er
          rw [r2.length] at q'
          exact call_lenD pins s σ H _ us Q I r ⟨_, _, rfl, ho, q'⟩
        · cases el
      | non => cases el
      | bl => cases el
      | int => cases el
  | [], e => cases e
  | _ :: _ :: _, e => cases e
/-- one item -/
theorem bi_one {f : Bi} {r : List V → Hp → VK → Prop} {b : Value} (hr : CallR X b r) (h : ∀ (g : G) (S : Store) (H : Hp) (x : D) (v : V) (d : D) (Q : VK), HpOk X.K g S H → Rep X.K g x v → biD f S [x] = some d → Post X.K g d S Q → r [v] H Q)
    (h0 : ∀ S, biD f S [] = none) (h2 : ∀ S x y r, biD f S (x :: y :: r) = none) : CallR X b (rBi X.K f) := by
  intro pins s σ H vs us Q I rv hq
  obtain ⟨g, S, xs, d, hh, rl, e, q⟩ := hq
  match xs, e with
  | [], e => rw [h0] at e; cases e
  | [x], e =>
    obtain ⟨v, rfl, rx⟩ := rl.one
    exact hr pins s σ H _ us Q I rv (h g S H x v d Q hh rx e q)
  | x :: y :: r, e => rw [h2] at e; cases e
/-- two items -/
theorem bi_two {f : Bi} {r : List V → Hp → VK → Prop} {b : Value} (hr : CallR X b r) (h : ∀ (g : G) (S : Store) (H : Hp) (x y : D) (v u : V) (d : D) (Q : VK), HpOk X.K g S H → Rep X.K g x v → Rep X.K g y u → biD f S [x, y] = some d → Post X.K g d S Q → r [v, u] H Q)
    (h0 : ∀ S, biD f S [] = none) (h1 : ∀ S x, biD f S [x] = none) (h2 : ∀ S x y z r, biD f S (x :: y :: z :: r) = none) : CallR X b (rBi X.K f) := by
  intro pins s σ H vs us Q I rv hq
  obtain ⟨g, S, xs, d, hh, rl, e, q⟩ := hq
  match xs, e with
  | [], e => rw [h0] at e; cases e
  | [x], e => rw [h1] at e; cases e
  | [x, y], e =>
    obtain ⟨v, u, rfl, rx, ry⟩ := rl.two
    exact hr pins s σ H _ us Q I rv (h g S H x y v u d Q hh rx ry e q)
  | x :: y :: z :: r, e => rw [h2] at e; cases e
theorem cr_dabs : CallR X (.builtin "abs") (rBi X.K .abs) :=
  bi_one call_abs (fun g S H x v d Q hh rx e q => by
    cases rx with
    | int i => cases e; exact ⟨i, rfl, q.now hh (.int _)⟩
    | _ => cases e) (fun _ => rfl) (fun _ x y _ => by cases x <;> rfl)
theorem cr_dmin2 (hc : X.calm = true) : CallR X (.builtin "min") (rBi X.K .min2) :=
  bi_two (call_min2 hc) (fun g S H x y v u d Q hh rx ry e q => by
    cases rx with
    | int i => cases ry with
      | int j => cases e; exact ⟨i, j, rfl, q.now hh (.int _)⟩
      | _ => cases e
    | _ => cases e) (fun _ => rfl) (fun _ x => by cases x <;> rfl) (fun _ x y _ _ => by cases x <;> cases y <;> rfl)
theorem cr_dmax2 (hc : X.calm = true) : CallR X (.builtin "max") (rBi X.K .max2) :=
  bi_two (call_max2 hc) (fun g S H x y v u d Q hh rx ry e q => by
    cases rx with
    | int i => cases ry with
      | int j => cases e; exact ⟨i, j, rfl, q.now hh (.int _)⟩
      | _ => cases e
    | _ => cases e) (fun _ => rfl) (fun _ x => by cases x <;> rfl) (fun _ x y _ _ => by cases x <;> cases y <;> rfl)
theorem cr_dgcd : CallR X (.builtin "math.gcd") (rBi X.K .gcd) :=
  bi_two cr_gcd (fun g S H x y v u d Q hh rx ry e q => by
    cases rx with
    | int i => cases ry with
      | int j => cases e; exact ⟨i, j, rfl, q.now hh (.int _)⟩
      | _ => cases e
    | _ => cases e) (fun _ => rfl) (fun _ x => by cases x <;> rfl) (fun _ x y _ _ => by cases x <;> cases y <;> rfl)
theorem cr_dint : CallR X (.type "int") (rBi X.K .int) :=
  bi_one call_int1 (fun g S H x v d Q hh rx e q => by
    cases rx with
    | int i => cases e; exact .inl ⟨i, rfl, q.now hh (.int _)⟩
    | bl b => cases e; exact .inr ⟨b, rfl, q.now hh (.int _)⟩
    | _ => cases e) (fun _ => rfl) (fun _ x y _ => by cases x <;> rfl)
theorem each_zip {K : PySem.W.Frag} {g : G} : ∀ {ds : List D} {vs : List V} {us : List Value}, RepL K g ds vs → Vals vs us → D.pureL ds = true → PySem.W.EachIs (fun (u : Value) (b : V × D) => RelV b.1 u ∧ Rep K g b.2 b.1 ∧ b.2.pure = true) us (vs.zip ds)
  | _, _, _, .nil, rv, _ => by cases rv; exact .nil
  | _, _, _, .cons r rl, rv, hp => by
    cases rv with
    | cons r1 rr =>
      have hp' : (_ && _) = true := hp
      rw [Bool.and_eq_true] at hp'
      exact .cons ⟨r1, r, hp'.1⟩ (each_zip rl rr hp'.2)
theorem each_out {K : PySem.W.Frag} {g : G} : ∀ {us : List Value} {bs : List (V × D)}, PySem.W.EachIs (fun (u : Value) (b : V × D) => RelV b.1 u ∧ Rep K g b.2 b.1 ∧ b.2.pure = true) us bs → Vals (bs.map (·.1)) us ∧ RepL K g (bs.map (·.2)) (bs.map (·.1))
  | _, _, .nil => ⟨.nil, .nil⟩
  | _, _, .cons h t => ⟨.cons h.1 (each_out t).1, .cons h.2.1 (each_out t).2⟩
theorem pyL_map : ∀ ds : List D, D.pyL ds = ds.map D.py
  | [] => rfl
  | d :: ds => congrArg (d.py :: ·) (pyL_map ds)
theorem sort_each {s : Shared} {g : G} {S : Store} {σ : L2.St} {pins : List (Addr × Obj)} {H : Hp} (I : Inv X pins σ H s) (hh : HpOk X.K g S H) {us : List Value} {bs : List (V × D)} (e : PySem.W.EachIs (fun (u : Value) (b : V × D) => RelV b.1 u ∧ Rep X.K g b.2 b.1 ∧ b.2.pure = true) us bs) :
    PySem.W.EachIs (fun v (b : V × D) => ∃ as, Reads s.heap v ((fun b : V × D => b.2.py) b) as) us bs :=
  e.mono fun u b ⟨r1, r2, r3⟩ => Dp.reads I _ _ u (rep_dp hh r2 r3) r1
theorem cr_dsorted (hu : X.A.units + 65 < cLine) : CallR X (.builtin "sorted") (rBi X.K .sorted) := by
  intro pins s σ H vs us Q I rv hq
  obtain ⟨g, S, xs, d, hh, rl, e, q⟩ := hq
  match xs, e with
  | [], e => cases e
  | x :: y :: r, e => cases x <;> cases e
  | [x], e =>
    obtain ⟨v, rfl, rx⟩ := rl.one
    have e : ((lstD S x).bind fun l => if (D.pureL l && sortB (D.pyL l)) = true then some (D.lst (sortD l)) else none) = some d := e
    cases es : lstD S x with
    | none => rw [es] at e; cases e
    | some l =>
      rw [es] at e
      have e : (if (D.pureL l && sortB (D.pyL l)) = true then some (D.lst (sortD l)) else none) = some d := e
      split at e
      · rename_i hc
        cases e
        rw [Bool.and_eq_true] at hc
        obtain ⟨p, ys, rfl, hs, rl⟩ := lst_of hh rx es
        obtain ⟨its, rvs, hl, hz⟩ := I.list (.inl (.inl hs))
        rw [Vals.ref1 rv]
        have ez := each_zip rl rvs hc.1
        have em : (ys.zip l).map (fun b : V × D => b.2.py) = D.pyL l := by
          rw [pyL_map]
          show (ys.zip l).map (D.py ∘ Prod.snd) = _
          rw [← List.map_map, List.map_snd_zip (by rw [rl.length]; exact Nat.le_refl _)]
        have hb := hc.2
        unfold sortB at hb
        simp only [Bool.and_eq_true, Bool.or_eq_true, List.all_eq_true, decide_eq_true_eq] at hb
        obtain ⟨⟨b1, b2⟩, b3⟩ := hb
        have hal : PySem.W.AllAlike ((ys.zip l).map (fun b : V × D => b.2.py)) := by
          rw [em]
          exact fun d hd d' hd' => b1 d hd d' hd'
        have hk : PySem.W.Sortable ((ys.zip l).map (fun b : V × D => b.2.py)) := by
          rw [em]
          rcases b2 with b2 | b2
          · refine .inl fun d hd => ?_
            have z := b2 d hd
            split at z
            · exact ⟨_, _, rfl⟩
            · cases z
          · refine .inr fun d hd => ?_
            have z := b2 d hd
            split at z
            · cases z
            · cases z
            · rename_i n1 n2
              exact ⟨n1, fun xs => n2 xs⟩
        refine PySem.W.sorted_data (enc := fun b : V × D => b.2.py) hl.isList ez (sort_each I hh ez) hal hk ?_ ?_ fun out h1 h2 => ?_
        · rw [List.length_zip, rl.length, Nat.min_self, rvs.length]
          rw [← rvs.length]
          exact hz
        · intro b hbm
          have hm : b.2.py ∈ D.pyL l := by rw [← em]; exact List.mem_map_of_mem (f := fun b : V × D => b.2.py) hbm
          have := b3 _ hm
          omega
        · obtain ⟨o1, o2⟩ := each_out h2
          obtain ⟨ep, he'⟩ := PyProof.Rows.sortedAll_at s.heap its out.toArray
          have hsd : ((ys.zip l).mergeSort (PySem.W.dataLe false fun b : V × D => b.2.py)).map (·.2) = sortD l := by
            unfold sortD
            refine (List.map_mergeSort (r := PySem.W.dataLe false fun b : V × D => b.2.py) (s := PySem.W.dataLe false D.py) (f := Prod.snd) (fun a _ b _ => rfl)).trans ?_
            rw [List.map_snd_zip (by rw [rl.length]; exact Nat.le_refl _)]
          rw [hsd] at o2
          have hlen : (((ys.zip l).mergeSort (PySem.W.dataLe false fun b : V × D => b.2.py)).map (·.1)).length ≤ sizeLine := by
            rw [List.length_map, List.length_mergeSort, List.length_zip, rl.length, Nat.min_self]
            exact hz
          exact ⟨.ref _, upd H (s.heap.objs.size + 1) (.lst (((ys.zip l).mergeSort (PySem.W.dataLe false fun b : V × D => b.2.py)).map (·.1))), I.laid (t' := s.toks) (fun _ _ => PyProof.Rows.sortedAll_old) (Nat.le_succ _) ⟨hlen, out, ep, o1, he'⟩, rfl,
            q.lst hh o2 _ (I.hok.fresh (Nat.le_succ _))⟩
      · cases e
theorem cr_dlist : CallR X (.type "list") (rBi X.K .list) :=
  bi_one call_list_of (fun g S H x v d Q hh rx e q => by
    have e : (seqD S x).map D.lst = some d := e
    cases es : seqD S x with
    | none => rw [es] at e; cases e
    | some l =>
      rw [es] at e
      cases e
      obtain ⟨p, xs, rfl, hs, rl⟩ := seq_of hh rx es
      exact ⟨p, xs, rfl, hs, q.lst hh rl⟩) (fun _ => rfl) (fun _ x y _ => by cases x <;> rfl)
theorem cr_dtuple : CallR X (.type "tuple") (rBi X.K .tuple) :=
  bi_one call_tuple_of (fun g S H x v d Q hh rx e q => by
    have gen : (lstD S x).map D.tup = some d → ∃ p ys, [v] = [V.ref p] ∧ ((SqL X.K H p ys ∧ ∀ l, H l = none → Q (.ref l) (upd H l (.tup ys))) ∨ (SqT X.K H p ys ∧ Q (.ref p) H)) := fun e => by
      cases es : lstD S x with
      | none => rw [es] at e; cases e
      | some l =>
        rw [es] at e
        cases e
        obtain ⟨p, xs, rfl, hs, rl⟩ := lst_of hh rx es
        exact ⟨p, xs, rfl, .inl ⟨.inl (.inl hs), q.tup hh rl⟩⟩
    cases rx with
    | tup hq rl => cases e; exact ⟨_, _, rfl, .inr ⟨sqT_mono hh.same hq, q.now hh (.tup hq rl)⟩⟩
    | lst hq rl => exact gen e
    | ref er => exact gen e
    | _ => cases e) (fun _ => rfl) (fun _ x y _ => by cases x <;> rfl)
theorem cr_dall (hc : X.calm = true) : CallR X (.builtin "all") (rBi X.K .all) :=
  bi_one (cr_all hc) (fun g S H x v d Q hh rx e q => by
    have e : ((lstD S x).bind fun l => (boolsD l).map fun bs => D.bl (bs.all id)) = some d := e
    cases es : lstD S x with
    | none => rw [es] at e; cases e
    | some l =>
      rw [es] at e
      have e : (boolsD l).map (fun bs => D.bl (bs.all id)) = some d := e
      cases eb : boolsD l with
      | none => rw [eb] at e; cases e
      | some bs =>
        rw [eb] at e
        cases e
        obtain ⟨p, xs, rfl, hs, rl⟩ := lst_of hh rx es
        rw [boolsD_map eb] at rl
        rw [rep_bools rl] at hs
        exact ⟨p, bs, rfl, .inl (.inl hs), q.now hh (.bl _)⟩) (fun _ => rfl) (fun _ x y _ => by cases x <;> rfl)
theorem cr_dany (hc : X.calm = true) : CallR X (.builtin "any") (rBi X.K .any) :=
  bi_one (cr_any hc) (fun g S H x v d Q hh rx e q => by
    have e : ((lstD S x).bind fun l => (boolsD l).map fun bs => D.bl (bs.any id)) = some d := e
    cases es : lstD S x with
    | none => rw [es] at e; cases e
    | some l =>
      rw [es] at e
      have e : (boolsD l).map (fun bs => D.bl (bs.any id)) = some d := e
      cases eb : boolsD l with
      | none => rw [eb] at e; cases e
      | some bs =>
        rw [eb] at e
        cases e
        obtain ⟨p, xs, rfl, hs, rl⟩ := lst_of hh rx es
        rw [boolsD_map eb] at rl
        rw [rep_bools rl] at hs
        exact ⟨p, bs, rfl, .inl (.inl hs), q.now hh (.bl _)⟩) (fun _ => rfl) (fun _ x y _ => by cases x <;> rfl)

/-! sums over lists and tuples -/
theorem sum_tup {prog : Program} {w : World} {A : Around} {E : Value → Shared → Prop} {s : Shared} {t : Addr} {its : List Value} {ns : List Int} {Q : Value → Shared → Prop} (hh : A.handled = none) (ht : IsTup s.heap t its.toArray) (hi : IntsAre its ns)
    (h : ∀ h' tk t', (∀ b o, s.heap.get? b = some o → h'.get? b = some o) → Q (.int ns.sum t') { s with heap := h', toks := tk }) : wpAny (model prog w) A (call (.builtin "sum") [.ref t]) Q E s := by
  obtain ⟨xs, e⟩ := hi.allInts.items
  have hn : numsOf (intItems xs).toList = ns := by rw [← e]; exact hi.numsOf
  rw [nums_intItems] at hn
  have ht' : s.heap.IsTuple t (intItems xs) := by rw [← e]; exact ht
  have hlt : t < s.heap.objs.size := ht.lt
  refine call_sum_walkG (wpAny_pyIter_tuple ht' ?_)
  refine ⟨_, _, _, _, _, _, numAt xs, rfl, Walks.tuple (A := A.in1) hh s.heap.objs.size t (Nat.ne_of_lt hlt) (intItems xs), ⟨⟨_, Heap.get?_push_size _ rfl, rfl, rfl⟩, ht'.push _⟩, fun b hb => ?_, fun _ _ => intItems_at, fun h' tk t' hk => ?_⟩
  · show b < (s.heap.push _).objs.size
    rw [Heap.size_push]
    simp only [List.mem_cons, List.not_mem_nil, or_false] at hb
    rcases hb with rfl | rfl
    · exact Nat.lt_succ_self _
    · exact Nat.lt_succ_of_lt hlt
  · have q := h h' tk t' fun b o eb => hk b o (fun hm => by
      have hbz : b = s.heap.objs.size := by simpa using hm
      exact absurd (hbz ▸ Heap.lt_size eb) (Nat.lt_irrefl _)) (Heap.get?_push_of_some _ eb)
    have hs : preSum (numAt xs) (intItems xs).size = ns.sum := by
      rw [preSum_eq, List.take_of_length_le (by simp [intItems]), hn]
    rw [hs]
    exact q
theorem cr_dsum (hc : X.calm = true) : CallR X (.builtin "sum") (rBi X.K .sum) := by
  intro pins s σ H vs us Q I r h
  obtain ⟨g, S, xs, d, hh, rl, e, q⟩ := h
  match xs, e with
  | [x], e =>
    obtain ⟨v, rfl, rx⟩ := rl.one
    have e : ((seqD S x).bind fun l => (intsD l).map fun ns => D.int ns.sum) = some d := e
    cases es : seqD S x with
    | none => rw [es] at e; cases e
    | some l =>
      rw [es] at e
      have e : (intsD l).map (fun ns => D.int ns.sum) = some d := e
      cases ei : intsD l with
      | none => rw [ei] at e; cases e
      | some ns =>
        rw [ei] at e
        cases e
        obtain ⟨p, xs, rfl, hs, rl⟩ := seq_of hh rx es
        rw [intsD_map ei] at rl
        rw [rep_ints rl] at hs
        have q' := q.now hh (.int _)
        rcases hs with hs | hs
        · exact cr_sum hc pins s σ H _ us Q I r ⟨p, ns, rfl, hs, q'⟩
        · obtain ⟨its, rv, ht, _⟩ := I.tuple hs
          rw [Vals.ref1 r]
          exact sum_tup (I.ok.hd hc) ht rv.ints fun h' tk t' hk => ⟨.int _, H, I.kept hk, ⟨_, rfl⟩, q'⟩
  | [], e => cases e
  | _ :: _ :: _, e => cases e
theorem cr_dmax1 (hc : X.calm = true) : CallR X (.builtin "max") (rBi X.K .max1) :=
  bi_one (CallR.or (cr_max hc) (cr_max hc)) (fun g S H x v d Q hh rx e q => by
    have e : ((lstD S x).bind fun l => (intsD l).bind fun ns => (maxL ns).map D.int) = some d := e
    cases es : lstD S x with
    | none => rw [es] at e; cases e
    | some l =>
      rw [es] at e
      have e : ((intsD l).bind fun ns => (maxL ns).map D.int) = some d := e
      cases ei : intsD l with
      | none => rw [ei] at e; cases e
      | some ns =>
        rw [ei] at e
        have e : (maxL ns).map D.int = some d := e
        cases em : maxL ns with
        | none => rw [em] at e; cases e
        | some m =>
          rw [em] at e
          cases e
          obtain ⟨p, xs, rfl, hs, rl⟩ := lst_of hh rx es
          rw [intsD_map ei] at rl
          rw [rep_ints rl] at hs
          obtain ⟨h1, h2⟩ := List.max?_eq_some_iff.mp em
          refine .inl ⟨p, ns, rfl, .inl (.inl hs), List.length_pos_of_mem h1, fun m' m1 m2 => ?_⟩
          have : m' = m := Int.le_antisymm (h2 _ m1) (m2 _ h1)
          rw [this]
          exact q.now hh (.int _)) (fun _ => rfl) (fun _ x y _ => by cases x <;> rfl)
theorem cr_dmin1 (hc : X.calm = true) : CallR X (.builtin "min") (rBi X.K .min1) :=
  bi_one (cr_min hc) (fun g S H x v d Q hh rx e q => by
    have e : ((lstD S x).bind fun l => (intsD l).bind fun ns => (minL ns).map D.int) = some d := e
    cases es : lstD S x with
    | none => rw [es] at e; cases e
    | some l =>
      rw [es] at e
      have e : ((intsD l).bind fun ns => (minL ns).map D.int) = some d := e
      cases ei : intsD l with
      | none => rw [ei] at e; cases e
      | some ns =>
        rw [ei] at e
        have e : (minL ns).map D.int = some d := e
        cases em : minL ns with
        | none => rw [em] at e; cases e
        | some m =>
          rw [em] at e
          cases e
          obtain ⟨p, xs, rfl, hs, rl⟩ := lst_of hh rx es
          rw [intsD_map ei] at rl
          rw [rep_ints rl] at hs
          obtain ⟨h1, h2⟩ := List.min?_eq_some_iff.mp em
          refine ⟨p, ns, rfl, .inl (.inl hs), List.length_pos_of_mem h1, fun m' m1 m2 => ?_⟩
          have : m' = m := Int.le_antisymm (m2 _ h1) (h2 _ m1)
          rw [this]
          exact q.now hh (.int _)) (fun _ => rfl) (fun _ x y _ => by cases x <;> rfl)

/-! isinstance -/
def tyN : Ty → String
  | .int => "int" | .bool => "bool" | .str => "str" | .tuple => "tuple" | .list => "list"
theorem kit_tt {K : PySem.W.Frag} (t c : Ty) : PySem.W.kitOne K (.type (tyN t)) (.type (tyN c)) = some (t == c || (t == .bool && c == .int)) := by
  cases t <;> cases c <;> with_unfolding_all rfl
theorem kit_non {K : PySem.W.Frag} (c : Ty) : PySem.W.kitOne K (.type "NoneType") (.type (tyN c)) = some false := by
  cases c <;> with_unfolding_all rfl
theorem rep_ty {K : PySem.W.Frag} {g : G} {S : Store} {H : Hp} {x : D} {v : V} {t : Ty} {b : Bool} (hh : HpOk K g S H) (r : Rep K g x v) (e : isiD S t x = some b) : ∃ u, TyX K H v u ∧ PySem.W.kitOne K u (.type (tyN t)) = some b := by
  cases r with
  | non => cases e; exact ⟨_, .base .non, kit_non t⟩
  | bl c => cases e; refine ⟨_, .base (.bl c), (kit_tt .bool t).trans ?_⟩; cases t <;> rfl
  | int i => cases e; refine ⟨_, .base (.int i), (kit_tt .int t).trans ?_⟩; cases t <;> rfl
  | str z => cases e; refine ⟨_, .base (.str z), (kit_tt .str t).trans ?_⟩; cases t <;> rfl
  | tup hq rl =>
    cases e
    refine ⟨.type (tyN .tuple), ?_, (kit_tt .tuple t).trans (by cases t <;> rfl)⟩
    rcases hq with (hq | ⟨o, hq⟩) | ⟨o, its, n, hk, hc, _⟩
    · exact .base (.tup (hh.same _ _ hq))
    · exact .fTuple (hh.same _ _ hq)
    · exact .kTuple hk hc
  | lst hq rl =>
    cases e
    exact ⟨.type (tyN .list), .base (.lst (hh.same _ _ hq)), (kit_tt .list t).trans (by cases t <;> rfl)⟩
  | frz => cases e
  | ref => cases e

/-! methods -/
def rMe (K : PySem.W.Frag) (m : Me) : V → List V → Hp → VK → Prop := fun v vs H Q => ∃ g S o xs d, HpOk K g S H ∧ Rep K g o v ∧ RepL K g xs vs ∧ meD m S o xs = some d ∧ Post K g d S Q
theorem idx_first {x : D} : ∀ {l : List D} {k : Nat}, idxOf x l = some k → (∃ z, (D.pyL l)[k]? = some z ∧ PyData.eqv z x.py = true) ∧ ∀ (m : Nat) (z' : PyData), m < k → (D.pyL l)[m]? = some z' → PyData.eqv z' x.py = false
  | [], _, h => by cases h
  | e :: r, k, h => by
    have h : (if PyData.eqv e.py x.py = true then some 0 else (idxOf x r).map (· + 1)) = some k := h
    by_cases he : PyData.eqv e.py x.py = true
    · rw [if_pos he] at h
      cases h
      exact ⟨⟨e.py, rfl, he⟩, fun m z' hm => absurd hm (Nat.not_lt_zero _)⟩
    · rw [if_neg he] at h
      cases hi : idxOf x r with
      | none => rw [hi] at h; cases h
      | some j =>
        rw [hi] at h
        cases h
        obtain ⟨⟨z, h1, h2⟩, h3⟩ := idx_first hi
        refine ⟨⟨z, h1, h2⟩, fun m z' hm hz => ?_⟩
        cases m with
        | zero => cases hz; exact Bool.eq_false_iff.mpr he
        | succ m => exact h3 m z' (Nat.lt_of_succ_lt_succ hm) hz
theorem mt_dindex (hu : X.A.units + 65 < cLine) : MtR X "list.index" (rMe X.K .index) := by
  intro pins s σ H v vs u us Q I rv rvs h
  obtain ⟨g, S, o, xs, d, hh, ro, rl, e, q⟩ := h
  match xs, e with
  | [x], e =>
    obtain ⟨w, rfl, rx⟩ := rl.one
    have e : (match lstD S o with | some l => if (x.cmpOk && (D.lst l).cmpOk) = true then (idxOf x l).map fun (k : Nat) => D.int k else none | none => none) = some d := e
    cases es : lstD S o with
    | none => rw [es] at e; cases e
    | some l =>
      rw [es] at e
      have e : (if (x.cmpOk && (D.lst l).cmpOk) = true then (idxOf x l).map fun (k : Nat) => D.int k else none) = some d := e
      split at e
      · rename_i hc
        rw [Bool.and_eq_true] at hc
        cases ei : idxOf x l with
        | none => rw [ei] at e; cases e
        | some k =>
          rw [ei] at e
          cases e
          obtain ⟨p, ys, rfl, ho, rl2⟩ := lst_of hh ro es
          have hc2 := hc.2
          unfold D.cmpOk at hc2
          rw [Bool.and_eq_true] at hc2
          obtain ⟨d1, s1⟩ := cmp_dp hh rx hc.1
          obtain ⟨⟨z, z1, z2⟩, z3⟩ := idx_first ei
          exact mt_indexD hu pins s σ H _ _ u us Q I rv rvs ⟨p, w, _, _, k, z, rfl, rfl, .lst (.inl (.inl ho)) (repL_dp hh rl2 hc2.1), d1, hc2.2, s1, z1, z2, z3, q.now hh (.int _)⟩
      · cases e
  | [], e => cases e
  | _ :: _ :: _, e => cases e
theorem mt_djoin : MtR X "str.join" (rMe X.K .join) := by
  intro pins s σ H v vs u us Q I rv rvs h
  obtain ⟨g, S, o, xs, d, hh, ro, rl, e, q⟩ := h
  match xs, e with
  | [x], e =>
    obtain ⟨w, rfl, rx⟩ := rl.one
    cases ro with
    | str z =>
      have e : ((lstD S x).bind fun l => (strsD l).bind fun ss => if (ss.map (·.length)).sum + ss.length * z.length ≤ 16777216 then some (D.str (Txt.join z ss)) else none) = some d := e
      cases es : lstD S x with
      | none => rw [es] at e; cases e
      | some l =>
        rw [es] at e
        have e : ((strsD l).bind fun ss => if (ss.map (·.length)).sum + ss.length * z.length ≤ 16777216 then some (D.str (Txt.join z ss)) else none) = some d := e
        cases ei : strsD l with
        | none => rw [ei] at e; cases e
        | some ss =>
          rw [ei] at e
          have e : (if (ss.map (·.length)).sum + ss.length * z.length ≤ 16777216 then some (D.str (Txt.join z ss)) else none) = some d := e
          split at e
          · rename_i hz
            cases e
            obtain ⟨p, ys, rfl, ho, rl2⟩ := lst_of hh rx es
            rw [strsD_map ei] at rl2
            rw [rep_strs rl2] at ho
            exact mt_join pins s σ H _ _ u us Q I rv rvs ⟨z, p, ss, rfl, rfl, .inl (.inl (.inl ho)), hz, q.now hh (.str _)⟩
          · cases e
    | _ => cases e
  | [], e => cases ro <;> cases e
  | _ :: _ :: _, e => cases ro <;> cases e
end
/-! max, min with default= -/
def rMd (K : PySem.W.Frag) (mx : Bool) : List V → List V → Hp → VK → Prop := fun vs zs H Q => ∃ g S x y d v u, vs = [v] ∧ zs = [u] ∧ HpOk K g S H ∧ Rep K g x v ∧ Rep K g y u ∧ mdD mx S x y = some d ∧ Post K g d S Q
section
variable {X : Cx}
theorem dp_ints {K : PySem.W.Frag} {H : Hp} : ∀ ns : List Int, DpAll K H (ns.map V.int) (ns.map PyData.int)
  | [] => .nil
  | n :: ns => .cons (.int n) (dp_ints ns)
theorem alike_all_ints (ns : List Int) : PySem.W.AlikeAll (ns.map PyData.int) := by
  refine ⟨fun x hx y hy => ?_, fun x hx => ?_⟩
  · obtain ⟨i, _, rfl⟩ := List.mem_map.mp hx
    obtain ⟨j, _, rfl⟩ := List.mem_map.mp hy
    rfl
  · obtain ⟨i, _, rfl⟩ := List.mem_map.mp hx
    intro h; cases h
theorem md_open {K : PySem.W.Frag} {g : G} {S : Store} {H : Hp} {mx : Bool} {x y d : D} {v : V} (hh : HpOk K g S H) (r1 : Rep K g x v) (e : mdD mx S x y = some d) :
    ∃ p ns, v = .ref p ∧ H p = some (.lst (ns.map V.int)) ∧ d = (match (if mx then maxL ns else minL ns) with | some m => D.int m | none => y) := by
  unfold mdD at e
  cases es : lstD S x with
  | none => rw [es] at e; cases e
  | some l =>
    rw [es] at e
    have e : (intsD l).map (fun ns => match (if mx then maxL ns else minL ns) with | some m => D.int m | none => y) = some d := e
    cases ei : intsD l with
    | none => rw [ei] at e; cases e
    | some ns =>
      rw [ei] at e
      obtain ⟨p, xs, rfl, hs, rl⟩ := lst_of hh r1 es
      rw [intsD_map ei] at rl
      rw [rep_ints rl] at hs
      exact ⟨p, ns, rfl, hs, (Option.some.inj e).symm⟩
theorem cr_maxd (hc : X.calm = true) (hu : X.A.units + 65 < cLine) : CallRK X (.builtin "max") [Str.ofString "default"] (rMd X.K true) := by
  intro pins s σ H xs zs us ws Q I rx rz hq
  obtain ⟨g, S, x, y, d, v, u, rfl, rfl, hh, r1, r2, e, q⟩ := hq
  obtain ⟨p, ns, rfl, hs, rfl⟩ := md_open hh r1 e
  obtain rfl := Vals.ref1 rx
  obtain ⟨w1, rfl, e1⟩ := vals1 rz
  obtain ⟨its, rv, hl, hz⟩ := I.list (.inl (.inl hs))
  obtain ⟨as, ra⟩ := Dp.readsAll I _ _ its (dp_ints ns) rv
  refine PySem.W.max_list_default (xs := ns.map PyData.int) (I.ok.hd hc) hl.isList (by simpa using ra) (alike_all_ints ns) (by rw [PySem.W.depth_ints]; omega) (fun hn h' tk hk => ?_) fun y0 ys i v h' tk bs he hv hr hk => ?_
  · have hn : ns = [] := List.map_eq_nil_iff.mp hn
    subst hn
    exact ⟨u, H, I.kept hk, e1, q.now hh r2⟩
  · cases ns with
    | nil => cases he
    | cons n r =>
      cases he
      rw [PySem.W.maxD_ints] at hr
      cases hr
      exact ⟨.int _, H, I.kept hk, ⟨_, rfl⟩, q.now hh (.int _)⟩
theorem cr_mind (hc : X.calm = true) (hu : X.A.units + 65 < cLine) : CallRK X (.builtin "min") [Str.ofString "default"] (rMd X.K false) := by
  intro pins s σ H xs zs us ws Q I rx rz hq
  obtain ⟨g, S, x, y, d, v, u, rfl, rfl, hh, r1, r2, e, q⟩ := hq
  obtain ⟨p, ns, rfl, hs, rfl⟩ := md_open hh r1 e
  obtain rfl := Vals.ref1 rx
  obtain ⟨w1, rfl, e1⟩ := vals1 rz
  obtain ⟨its, rv, hl, hz⟩ := I.list (.inl (.inl hs))
  obtain ⟨as, ra⟩ := Dp.readsAll I _ _ its (dp_ints ns) rv
  refine PySem.W.min_list_default (xs := ns.map PyData.int) (I.ok.hd hc) hl.isList (by simpa using ra) (alike_all_ints ns) (by rw [PySem.W.depth_ints]; omega) (fun hn h' tk hk => ?_) fun y0 ys i v h' tk bs he hv hr hk => ?_
  · have hn : ns = [] := List.map_eq_nil_iff.mp hn
    subst hn
    exact ⟨u, H, I.kept hk, e1, q.now hh r2⟩
  · cases ns with
    | nil => cases he
    | cons n r =>
      cases he
      rw [PySem.W.minD_ints] at hr
      cases hr
      exact ⟨.int _, H, I.kept hk, ⟨_, rfl⟩, q.now hh (.int _)⟩
end
end Dm

/-! DmE: the readings of expressions, targets and iterables; small rules. -/
namespace Dm
open PySem L2

/-! ### rules bent -/
theorem _root_.L2.PE.imp {X : Cx} {e : Expr} {t t' : TE} (h : PE X e t) (i : ∀ σ H Q, t' σ H Q → t σ H Q) : PE X e t' := ⟨fun pins s σ H Q I q => h.run pins s σ H Q I (i σ H Q q)⟩
theorem _root_.L2.PT.imp {X : Cx} {e : Expr} {t t' : TT} (h : PT X e t) (i : ∀ σ H Q, t' σ H Q → t σ H Q) : PT X e t' := ⟨fun pins s σ H Q I q => h.run pins s σ H Q I (i σ H Q q)⟩
theorem _root_.L2.PW.imp {X : Cx} {e : Expr} {t t' : TT} (h : PW X e t) (i : ∀ σ H Q, t' σ H Q → t σ H Q) : PW X e t' := ⟨fun wh pins s σ H Q I q => h.run wh pins s σ H Q I (i σ H Q q)⟩
theorem _root_.L2.PA.imp {X : Cx} {e : List Expr} {t t' : TA} (h : PA X e t) (i : ∀ σ H Q, t' σ H Q → t σ H Q) : PA X e t' := ⟨fun pos pins s σ H Q I q => h.run pos pins s σ H Q I (i σ H Q q)⟩
theorem _root_.L2.PO.imp {X : Cx} {e : Option Expr} {t t' : TO} (h : PO X e t) (i : ∀ σ H Q, t' σ H Q → t σ H Q) : PO X e t' := ⟨fun pins s σ H Q I q => h.run pins s σ H Q I (i σ H Q q)⟩
theorem _root_.L2.PTs.imp {X : Cx} {e : List Expr} {t t' : TT} (h : PTs X e t) (i : ∀ σ H Q, t' σ H Q → t σ H Q) : PTs X e t' := ⟨fun pins s σ H Q I q => h.run pins s σ H Q I (i σ H Q q)⟩
theorem _root_.L2.PI.imp {X : Cx} {tg e : Expr} {t t' : TI} (h : PI X tg e t) (i : ∀ σ H Q, t' σ H Q → t σ H Q) : PI X tg e t' := ⟨fun pins s σ H Q I q => h.run pins s σ H Q I (i σ H Q q)⟩
theorem _root_.L2.PI.or {X : Cx} {tg e : Expr} {t t' : TI} (h : PI X tg e t) (h' : PI X tg e t') : PI X tg e (fun σ H R => t σ H R ∨ t' σ H R) := ⟨fun pins s σ H Q I q => q.elim (h.run pins s σ H Q I) (h'.run pins s σ H Q I)⟩

/-! ### readings -/
section
variable (K : PySem.W.Frag) (Φ : Fns)
def tE (c : E) : TE := fun σ H Q => ∃ g fr S, FrOk K g fr σ ∧ HpOk K g S H ∧ RPost (fun d S' => Post K g d S' Q) (evE Φ c fr S)
def tEs (cs : List E) : TA := fun σ H Q => ∃ g fr S, FrOk K g fr σ ∧ HpOk K g S H ∧ RPost (fun ds S' => LPost K g ds S' Q) (evEs Φ cs fr S)
def tT (c : E) : TT := fun σ H Q => ∃ g fr S, FrOk K g fr σ ∧ HpOk K g S H ∧ RPost (fun b S' => BPost K g b S' Q) (evT Φ c fr S)
def tTs (cs : List E) : TT := fun σ H Q => ∃ g fr S, FrOk K g fr σ ∧ HpOk K g S H ∧ RPost (fun b S' => BPost K g b S' Q) (evTs Φ cs fr S)
def OPost (g : G) (o : Option Int) (S : Store) (Q : Option Int → Hp → Prop) : Prop := ∀ H' g', Le g g' → HpOk K g' S H' → Q o H'
def tO (c : Option E) : TO := fun σ H Q => ∃ g fr S, FrOk K g fr σ ∧ HpOk K g S H ∧ RPost (fun o S' => OPost K g o S' Q) (evO Φ c fr S)
/-- an iterator gives these data, one after another -/
def ItOk (g : G) (l : List D) (J : It) : Prop := ∀ (i : Nat) (H1 : Hp) (g1 : G) (S1 : Store), Le g (g1.back g.pv) → HpOk K g1 S1 H1 →
  (∀ d, l[i]? = some d → J.go i H1 ∧ ∀ x H', J.yld i H1 x H' → ∃ g2, Le g1 g2 ∧ HpOk K g2 S1 H' ∧ Rep K g2 d x) ∧ (l.length ≤ i → J.stop i H1)
def tI (c : E) : TI := fun σ H R => ∃ g fr S, FrOk K g fr σ ∧ HpOk K g S H ∧ RPost (fun d S' => ∃ l, iterD S' d = some l ∧ ∀ H' g' J, Le g g' → HpOk K g' S' H' → ItOk K g' l J → R J H') (evE Φ c fr S)
mutual
def Pat.slots : Pat → List Nat
  | .v i => [i]
  | .t ps => Pat.slotsL ps
termination_by structural p => p
def Pat.slotsL : List Pat → List Nat
  | [] => []
  | p :: ps => p.slots ++ Pat.slotsL ps
termination_by structural p => p
end
def Sets (is : List Nat) (σ σ' : St) : Prop := ∀ vs : List Nat, (∀ i ∈ is, i ∈ vs) → wipe σ' vs = wipe σ vs
def tP (p : Pat) : TG := fun v σ H Q => ∃ g fr S d fr', FrOk K g fr σ ∧ HpOk K g S H ∧ Rep K g d v ∧ asgP p d fr = some fr' ∧ ∀ σ', FrOk K g fr' σ' → Sets p.slots σ σ' → Q σ' H
def tPs (ps : List Pat) : TGs := fun vs σ H Q => ∃ g fr S ds fr', FrOk K g fr σ ∧ HpOk K g S H ∧ RepL K g ds vs ∧ asgPs ps ds fr = some fr' ∧ ∀ σ', FrOk K g fr' σ' → Sets (Pat.slotsL ps) σ σ' → Q σ' H
end

section
variable {K : PySem.W.Frag} {Φ : Fns} {g : G} {fr : Fr} {S : Store} {σ : St} {H : Hp}
theorem RPost.bind {α β : Type} {P : β → Store → Prop} {r : Res α} {f : α → Store → Res β} (h : RPost P (r.bind f)) : ∃ a S', r = .ok a S' ∧ RPost P (f a S') := by
  cases r with
  | ok a S' => exact ⟨a, S', rfl, h⟩
  | ex => exact h.elim
  | no => exact h.elim
theorem RPost.of {α : Type} {P : α → Store → Prop} {o : Option α} (h : RPost P (Res.of o S)) : ∃ a, o = some a ∧ P a S := by
  cases o with
  | none => exact h.elim
  | some a => exact ⟨a, rfl, h⟩
theorem RPost.imp {α : Type} {P P' : α → Store → Prop} {r : Res α} (h : RPost P r) (i : ∀ a S', r = .ok a S' → P a S' → P' a S') : RPost P' r := by
  cases r with
  | ok a S' => exact i a S' rfl h
  | ex => exact h.elim
  | no => exact h.elim
/-- go into an expression -/
theorem tE_in {c : E} {R : VK} (hf : FrOk K g fr σ) (hh : HpOk K g S H) {d : D} {S' : Store} (e : evE Φ c fr S = .ok d S') (k : ∀ v H' g', Le g g' → HpOk K g' S' H' → Rep K g' d v → R v H') : tE K Φ c σ H R :=
  ⟨g, fr, S, hf, hh, by rw [e]; exact k⟩
theorem tEs_in {c : List E} {R : List V → Hp → Prop} (hf : FrOk K g fr σ) (hh : HpOk K g S H) {d : List D} {S' : Store} (e : evEs Φ c fr S = .ok d S') (k : ∀ v H' g', Le g g' → HpOk K g' S' H' → RepL K g' d v → R v H') : tEs K Φ c σ H R :=
  ⟨g, fr, S, hf, hh, by rw [e]; exact k⟩
theorem tT_in {c : E} {R : Bool → Hp → Prop} (hf : FrOk K g fr σ) (hh : HpOk K g S H) {b : Bool} {S' : Store} (e : evT Φ c fr S = .ok b S') (k : ∀ H' g', Le g g' → HpOk K g' S' H' → R b H') : tT K Φ c σ H R :=
  ⟨g, fr, S, hf, hh, by rw [e]; exact k⟩
theorem tO_in {c : Option E} {R : Option Int → Hp → Prop} (hf : FrOk K g fr σ) (hh : HpOk K g S H) {b : Option Int} {S' : Store} (e : evO Φ c fr S = .ok b S') (k : ∀ H' g', Le g g' → HpOk K g' S' H' → R b H') : tO K Φ c σ H R :=
  ⟨g, fr, S, hf, hh, by rw [e]; exact k⟩
theorem evT_of {c : E} {d : D} {S' : Store} {b : Bool} (e : evE Φ c fr S = .ok d S') (h : truth S' d = some b) : evT Φ c fr S = .ok b S' := by
  unfold evT
  rw [e]
  show Res.of (truth S' d) S' = _
  rw [h]; rfl
end

/-! ### facts of syntax -/
def isStar : Expr → Bool
  | .Starred _ _ => true
  | _ => false
theorem star_cons {e : Expr} {es : List Expr} {env : Env} (h : isStar e = false) : starEach (e :: es) env = (false, eval e env) :: starEach es env := by
  cases e <;> first | rfl | cases h
theorem star_plain {pos : Pos} {env : Env} : ∀ {es : List Expr}, es.any isStar = false → (backTo pos (starEach es env)).any (·.1) = false
  | [], _ => rfl
  | e :: es, h => by
    rw [List.any_cons, Bool.or_eq_false_iff] at h
    rw [star_cons h.1]
    show (false || (backTo pos (starEach es env)).any (·.1)) = false
    rw [star_plain h.2]; rfl
theorem star_few {pos : Pos} {env : Env} : ∀ {es : List Expr}, es.any isStar = false → (backTo pos (starEach es env)).all (fun x => !x.1) = true
  | [], _ => rfl
  | e :: es, h => by
    rw [List.any_cons, Bool.or_eq_false_iff] at h
    rw [star_cons h.1]
    show (true && (backTo pos (starEach es env)).all (fun x => !x.1)) = true
    rw [star_few h.2]; rfl
def isSet : Expr → Bool
  | .Set _ _ _ => true
  | _ => false
theorem fold_ok {e : Expr} (h : isSet e = false) (env : Env) (x : Value) : foldedSetIterable e env x = pure x := by
  cases e <;> first | rfl | cases h
theorem mark_ok {op : CmpOp} {e : Expr} (h : isSet e = false) : behindInMarks op e = false := by
  cases e <;> first | rfl | cases h
def isSlc : Expr → Bool
  | .Slice _ _ _ _ => true
  | _ => false
theorem plainIx {e : Expr} (h : isSlc e = false) : PlainIx e := by
  intro o i
  cases e <;> first | rfl | cases h
def isCall0 : Expr → Bool
  | .Call _ [] [] _ => true
  | _ => false
theorem attrBase {e : Expr} (h : isCall0 e = false) (nm : Str) (env : Env) (w : Sem Value) : attributeBase e nm env w = w := by
  cases e with
  | Call f as ks p =>
    cases f with
    | Name => cases as with
      | nil => cases ks with
        | nil => cases h
        | cons => rfl
      | cons => rfl
    | _ => rfl
  | _ => rfl
/-- an expression whose test is its value's truth -/
def isPlainT : Expr → Bool
  | .UnaryOp .Not _ _ => false
  | .BoolOp _ _ _ => false
  | .IfExp _ _ _ _ => false
  | .Compare _ _ _ _ => false
  | _ => true
theorem plainT {e : Expr} (h : isPlainT e = true) (env : Env) (wh : Sem Value) : isTrue e env wh = (do let v ← wh; standAt e.pos; holding [v] (truthy v)) := by
  cases e with
  | UnaryOp op a p => cases op <;> first | rfl | cases h
  | BoolOp => cases h
  | IfExp => cases h
  | Compare => cases h
  | _ => rfl
def isComp : Expr → Bool
  | .ListComp _ _ _ _ => true
  | .SetComp _ _ _ _ => true
  | .DictComp _ _ _ _ _ => true
  | _ => false
theorem swaps_no {e : Expr} (h : isComp e = false) (t : Option Expr) (l : Nat) (env : Env) : swapsWith e t l env = pure false := by
  cases e <;> first | rfl | cases h
theorem asg_each {env : Env} : ∀ {es : List Expr}, es.any isStar = false → (assignEach es env).length = es.length ∧ (assignEach es env).findIdx? (·.1) = none
  | [], _ => ⟨rfl, rfl⟩
  | e :: es, h => by
    rw [List.any_cons, Bool.or_eq_false_iff] at h
    obtain ⟨h1, h2⟩ := asg_each (env := env) h.2
    have q : assignEach (e :: es) env = (false, assign e env) :: assignEach es env := by
      have h' := h.1
      cases e <;> first | rfl | cases h'
    rw [q]
    exact ⟨by rw [List.length_cons, List.length_cons, h1], by rw [List.findIdx?_cons]; simp [h2]⟩
theorem asg_cons {e : Expr} {es : List Expr} {env : Env} (h : isStar e = false) : (assignEach (e :: es) env).map (·.2) = assign e env :: (assignEach es env).map (·.2) := by
  cases e <;> first | rfl | cases h

/-! ### what is known of the names -/
structure Ctx where
  N : List Str
  sc : Scope
  own : Scope
structure CtxOk (c : Ctx) (X : Cx) : Prop where
  N : X.N = c.N
  nd : c.N.Nodup
  calm : X.calm = true
  sc : X.env.scope = c.sc
  loc : ∀ x, c.own.names.lookup x = some .local → c.sc.names.lookup x = some .local
  cell : ∀ x, c.own.names.lookup x = some .cell → Loc c.sc x ∧ X.fn x = true
def dbg : Str := "__debug__"
def cdc : Str := "__classdict__"
def dnm : Str := "__name__"
def Ctx.vis (c : Ctx) (x : Str) (i : Nat) : Bool :=
  decide (c.N[i]? = some x) && !(x == dbg) && !(x == cdc) && (match c.sc.names.lookup x with | some .local => true | some .cell => true | some .free => true | _ => false)
def Ctx.st (c : Ctx) (x : Str) (i : Nat) : Bool :=
  decide (c.N[i]? = some x) && (match c.own.names.lookup x with | some .local => true | some .cell => true | _ => false)
def Ctx.gl (c : Ctx) (x : Str) : Bool := decide (c.sc.names.lookup x = some .globalImplicit) && !(x == dbg)
section
variable {c : Ctx} {X : Cx}
theorem CtxOk.pe_var (C : CtxOk c X) {x : Str} {i : Nat} {pos : Pos} (h : c.vis x i = true) : PE X (.Name x pos) (tVar i) := by
  unfold Ctx.vis at h
  rw [Bool.and_eq_true, Bool.and_eq_true, Bool.and_eq_true] at h
  obtain ⟨⟨⟨h1, h2⟩, h3⟩, h4⟩ := h
  have h1 := of_decide_eq_true h1
  refine L2.pe_var (by rw [C.N]; exact h1) ?_ (by simpa [dbg] using h2) (by simpa [cdc] using h3)
  unfold Vis
  rw [C.sc]
  revert h4
  cases c.sc.names.lookup x with
  | none => intro h; cases h
  | some k => cases k <;> simp
theorem CtxOk.pg (C : CtxOk c X) {x : Str} {i : Nat} {pos : Pos} (h : c.st x i = true) : PG X (.Name x pos) (gName i) := by
  unfold Ctx.st at h
  rw [Bool.and_eq_true] at h
  obtain ⟨h1, h4⟩ := h
  have h1 := of_decide_eq_true h1
  have nd : X.N.Nodup := by rw [C.N]; exact C.nd
  have hx : X.N[i]? = some x := by rw [C.N]; exact h1
  cases ho : c.own.names.lookup x with
  | none => rw [ho] at h4; cases h4
  | some k =>
    rw [ho] at h4
    cases k with
    | «local» =>
      have hl := C.loc x ho
      have hl' : X.env.scope.names.lookup x = some .local := by rw [C.sc]; exact hl
      exact pg_name nd hx (.inl hl') (.inr hl')
    | cell =>
      obtain ⟨hl, hf⟩ := C.cell x ho
      have hl' : Loc X.env.scope x := by rw [C.sc]; exact hl
      exact pg_name nd hx hl' (.inl hf)
    | _ => cases h4
theorem CtxOk.gl (C : CtxOk c X) {x : Str} (h : c.gl x = true) : Gl X x ∧ (x == ("__debug__" : Str)) = false := by
  unfold Ctx.gl at h
  rw [Bool.and_eq_true] at h
  refine ⟨?_, by simpa [dbg] using h.2⟩
  show X.env.scope.names.lookup x = _
  rw [C.sc]
  exact of_decide_eq_true h.1
end

/-! ### the rules, for readings -/
section
variable {X : Cx} {Φ : Fns} {pos : Pos} {ea eb ec : Expr} {ca cb cc : E}
theorem e_int {i : Int} {k : Nat} : PE X (.Constant (.int i) k pos) (tE X.K Φ (.int i)) := pe_int.imp fun σ H Q ⟨g, fr, S, hf, hh, h⟩ => (show Post X.K g (.int i) S Q from h).now hh (.int i)
theorem e_bl {i : Bool} {k : Nat} : PE X (.Constant (.bool i) k pos) (tE X.K Φ (.bl i)) := pe_bl.imp fun σ H Q ⟨g, fr, S, hf, hh, h⟩ => (show Post X.K g (.bl i) S Q from h).now hh (.bl i)
theorem e_non {k : Nat} : PE X (.Constant .none k pos) (tE X.K Φ .non) := pe_non.imp fun σ H Q ⟨g, fr, S, hf, hh, h⟩ => (show Post X.K g .non S Q from h).now hh .non
theorem e_str {i : Str} {k : Nat} : PE X (.Constant (.str i) k pos) (tE X.K Φ (.str i)) := pe_str.imp fun σ H Q ⟨g, fr, S, hf, hh, h⟩ => (show Post X.K g (.str i) S Q from h).now hh (.str i)
theorem e_var {e : Expr} {i : Nat} (h : PE X e (tVar i)) : PE X e (tE X.K Φ (.var i)) := h.imp fun σ H Q ⟨g, fr, S, hf, hh, h⟩ => by
  have h : RPost (fun d S' => Post X.K g d S' Q) (match fr[i]? with | some (some d) => .ok d S | _ => .no) := h
  split at h
  · rename_i d e
    obtain ⟨v, hv, r⟩ := hf.at_ i d e
    exact ⟨v, hv, (show Post X.K g d S Q from h).now hh r⟩
  · exact h.elim
theorem e_bin {op : Operator} (ha : PE X ea (tE X.K Φ ca)) (hb : PE X eb (tE X.K Φ cb)) : PE X (.BinOp ea op eb pos) (tE X.K Φ (.bin op ca cb)) :=
  (pe_op (op_bin op) ha hb).imp fun σ H Q ⟨g, fr, S, hf, hh, h⟩ => by
    obtain ⟨x, S1, e1, h⟩ := RPost.bind h
    obtain ⟨y, S2, e2, h⟩ := RPost.bind h
    obtain ⟨d, e3, h⟩ := RPost.of h
    exact tE_in hf hh e1 fun v H1 g1 l1 hh1 r1 => tE_in (hf.mono l1) hh1 e2 fun u H2 g2 l2 hh2 r2 => ⟨g2, S2, x, y, d, hh2, r1.mono l2, r2, e3, h.mono (l1.trans l2)⟩
theorem e_neg (ha : PE X ea (tE X.K Φ ca)) : PE X (.UnaryOp .USub ea pos) (tE X.K Φ (.neg ca)) :=
  (pe_un un_neg ha).imp fun σ H Q ⟨g, fr, S, hf, hh, h⟩ => by
    obtain ⟨x, S1, e1, h⟩ := RPost.bind h
    refine tE_in hf hh e1 fun v H1 g1 l1 hh1 r1 => ?_
    cases r1 with
    | int i => exact ⟨i, rfl, (h.mono l1 : Post X.K g1 (.int (-i)) S1 Q).now hh1 (.int _)⟩
    | _ => exact h.elim
theorem t_plain {e : Expr} {c : E} (h : PE X e (tE X.K Φ c)) (hp : isPlainT e = true) : PT X e (tT X.K Φ c) :=
  (pt_truth h (plainT hp _)).imp fun σ H Q ⟨g, fr, S, hf, hh, h⟩ => by
    obtain ⟨x, S1, e1, h⟩ := RPost.bind h
    obtain ⟨b, e2, h⟩ := RPost.of h
    exact tE_in hf hh e1 fun v H1 g1 l1 hh1 r1 => ⟨b, truth_of hh1 r1 e2, h H1 g1 l1 hh1⟩
/-! tests, by their parts -/
theorem evT_not {c : E} {fr : Fr} {S : Store} : evT Φ (.not c) fr S = (evT Φ c fr S).bind fun b S1 => .ok (!b) S1 := by
  unfold evT
  show ((evE Φ c fr S).bind fun x S1 => match truth S1 x with | some b => Res.ok (D.bl !b) S1 | none => .no).bind _ = _
  cases evE Φ c fr S with
  | ok x S1 =>
    show (match truth S1 x with | some b => Res.ok (D.bl !b) S1 | none => .no).bind _ = (Res.of (truth S1 x) S1).bind _
    cases truth S1 x <;> rfl
  | ex => rfl
  | no => rfl
theorem evT_and {a b : E} {fr : Fr} {S : Store} : evT Φ (.and a b) fr S = (evT Φ a fr S).bind fun t S1 => if t then evT Φ b fr S1 else .ok false S1 := by
  unfold evT
  show ((evE Φ a fr S).bind fun x S1 => match truth S1 x with | some true => evE Φ b fr S1 | some false => .ok x S1 | none => .no).bind _ = _
  cases evE Φ a fr S with
  | ok x S1 =>
    show (match truth S1 x with | some true => evE Φ b fr S1 | some false => .ok x S1 | none => .no).bind _ = (Res.of (truth S1 x) S1).bind _
    cases ht : truth S1 x with
    | none => rfl
    | some t =>
      cases t with
      | true => rfl
      | false => show Res.of (truth S1 x) S1 = _; rw [ht]; rfl
  | ex => rfl
  | no => rfl
theorem evT_or {a b : E} {fr : Fr} {S : Store} : evT Φ (.or a b) fr S = (evT Φ a fr S).bind fun t S1 => if t then .ok true S1 else evT Φ b fr S1 := by
  unfold evT
  show ((evE Φ a fr S).bind fun x S1 => match truth S1 x with | some true => Res.ok x S1 | some false => evE Φ b fr S1 | none => .no).bind _ = _
  cases evE Φ a fr S with
  | ok x S1 =>
    show (match truth S1 x with | some true => Res.ok x S1 | some false => evE Φ b fr S1 | none => .no).bind _ = (Res.of (truth S1 x) S1).bind _
    cases ht : truth S1 x with
    | none => rfl
    | some t =>
      cases t with
      | false => rfl
      | true => show Res.of (truth S1 x) S1 = _; rw [ht]; rfl
  | ex => rfl
  | no => rfl
theorem evT_cmp {op : CmpOp} {a b : E} {fr : Fr} {S : Store} : evT Φ (.cmp op a b) fr S = (evE Φ a fr S).bind fun x S1 => (evE Φ b fr S1).bind fun y S2 => Res.of (cmpD op S2 x y) S2 := by
  unfold evT
  show ((evE Φ a fr S).bind fun x S1 => (evE Φ b fr S1).bind fun y S2 => match cmpD op S2 x y with | some r => Res.ok (D.bl r) S2 | none => .no).bind _ = _
  cases evE Φ a fr S with
  | ok x S1 =>
    show ((evE Φ b fr S1).bind fun y S2 => match cmpD op S2 x y with | some r => Res.ok (D.bl r) S2 | none => .no).bind _ = (evE Φ b fr S1).bind _
    cases evE Φ b fr S1 with
    | ok y S2 =>
      show (match cmpD op S2 x y with | some r => Res.ok (D.bl r) S2 | none => .no).bind _ = Res.of (cmpD op S2 x y) S2
      cases cmpD op S2 x y <;> rfl
    | ex => rfl
    | no => rfl
  | ex => rfl
  | no => rfl
theorem t_not (ha : PT X ea (tT X.K Φ ca)) : PT X (.UnaryOp .Not ea pos) (tT X.K Φ (.not ca)) :=
  (pt_not ha).imp fun σ H Q ⟨g, fr, S, hf, hh, h⟩ => by
    rw [evT_not] at h
    obtain ⟨b, S1, e1, h⟩ := RPost.bind h
    exact tT_in hf hh e1 fun H1 g1 l1 hh1 => h H1 g1 l1 hh1
/-- a value by its test -/
theorem e_not (ha : PE X ea (tE X.K Φ ca)) : PE X (.UnaryOp .Not ea pos) (tE X.K Φ (.not ca)) :=
  (pe_notT ha).imp fun σ H Q ⟨g, fr, S, hf, hh, h⟩ => by
    obtain ⟨x, S1, e1, h⟩ := RPost.bind h
    refine tE_in hf hh e1 fun v H1 g1 l1 hh1 r1 => ?_
    cases ht : truth S1 x with
    | none => rw [ht] at h; exact h.elim
    | some t =>
      rw [ht] at h
      exact ⟨t, truth_of hh1 r1 ht, (h.mono l1 : Post X.K g1 (.bl !t) S1 Q).now hh1 (.bl _)⟩
theorem e_cmp (hu : X.A.units + 65 < cLine) {op : CmpOp} (ha : PE X ea (tE X.K Φ ca)) (hb : PE X eb (tE X.K Φ cb)) (hs : isSet eb = false) : PE X (.Compare ea [op] [eb] pos) (tE X.K Φ (.cmp op ca cb)) :=
  (pe_cmpR (op_cmp hu op) ha hb (mark_ok hs)).imp fun σ H Q ⟨g, fr, S, hf, hh, h⟩ => by
    obtain ⟨x, S1, e1, h⟩ := RPost.bind h
    obtain ⟨y, S2, e2, h⟩ := RPost.bind h
    refine tE_in hf hh e1 fun v H1 g1 l1 hh1 r1 => tE_in (hf.mono l1) hh1 e2 fun u H2 g2 l2 hh2 r2 => ?_
    cases hc : cmpD op S2 x y with
    | none => rw [hc] at h; exact h.elim
    | some b =>
      rw [hc] at h
      exact ⟨g2, S2, x, y, b, hh2, r1.mono l2, r2, hc, (h.mono (l1.trans l2) : Post X.K g2 (.bl b) S2 Q).now hh2 (.bl _)⟩
theorem t_cmp (hu : X.A.units + 65 < cLine) {op : CmpOp} (ha : PE X ea (tE X.K Φ ca)) (hb : PE X eb (tE X.K Φ cb)) (hs : isSet eb = false) : PT X (.Compare ea [op] [eb] pos) (tT X.K Φ (.cmp op ca cb)) :=
  (pt_cmpR (op_cmp hu op) ha hb (mark_ok hs)).imp fun σ H Q ⟨g, fr, S, hf, hh, h⟩ => by
    rw [evT_cmp] at h
    obtain ⟨x, S1, e1, h⟩ := RPost.bind h
    obtain ⟨y, S2, e2, h⟩ := RPost.bind h
    obtain ⟨b, hc, h⟩ := RPost.of h
    exact tE_in hf hh e1 fun v H1 g1 l1 hh1 r1 => tE_in (hf.mono l1) hh1 e2 fun u H2 g2 l2 hh2 r2 =>
      ⟨g2, S2, x, y, b, hh2, r1.mono l2, r2, hc, b, rfl, h H2 g2 (l1.trans l2) hh2⟩
theorem e_and {rest : List Expr} (ha : PE X ea (tE X.K Φ ca)) (hb : PE X (.BoolOp .And (eb :: rest) pos) (tE X.K Φ cb)) : PE X (.BoolOp .And (ea :: eb :: rest) pos) (tE X.K Φ (.and ca cb)) :=
  (pe_andT ha hb).imp fun σ H Q ⟨g, fr, S, hf, hh, h⟩ => by
    obtain ⟨x, S1, e1, h⟩ := RPost.bind h
    refine tE_in hf hh e1 fun v H1 g1 l1 hh1 r1 => ?_
    cases ht : truth S1 x with
    | none => rw [ht] at h; exact h.elim
    | some t =>
      rw [ht] at h
      refine ⟨t, truth_of hh1 r1 ht, ?_⟩
      cases t with
      | true => exact ⟨g1, fr, S1, hf.mono l1, hh1, RPost.imp h fun d S' _ q => q.mono l1⟩
      | false => exact (h.mono l1 : Post X.K g1 x S1 Q).now hh1 r1
theorem e_or {rest : List Expr} (ha : PE X ea (tE X.K Φ ca)) (hb : PE X (.BoolOp .Or (eb :: rest) pos) (tE X.K Φ cb)) : PE X (.BoolOp .Or (ea :: eb :: rest) pos) (tE X.K Φ (.or ca cb)) :=
  (pe_orT ha hb).imp fun σ H Q ⟨g, fr, S, hf, hh, h⟩ => by
    obtain ⟨x, S1, e1, h⟩ := RPost.bind h
    refine tE_in hf hh e1 fun v H1 g1 l1 hh1 r1 => ?_
    cases ht : truth S1 x with
    | none => rw [ht] at h; exact h.elim
    | some t =>
      rw [ht] at h
      refine ⟨t, truth_of hh1 r1 ht, ?_⟩
      cases t with
      | false => exact ⟨g1, fr, S1, hf.mono l1, hh1, RPost.imp h fun d S' _ q => q.mono l1⟩
      | true => exact (h.mono l1 : Post X.K g1 x S1 Q).now hh1 r1
theorem w_and {rest : List Expr} (ha : PT X ea (tT X.K Φ ca)) (hb : PW X (.BoolOp .And (eb :: rest) pos) (tT X.K Φ cb)) : PW X (.BoolOp .And (ea :: eb :: rest) pos) (tT X.K Φ (.and ca cb)) :=
  (pw_and ha hb).imp fun σ H Q ⟨g, fr, S, hf, hh, h⟩ => by
    rw [evT_and] at h
    obtain ⟨t, S1, e1, h⟩ := RPost.bind h
    refine tT_in hf hh e1 fun H1 g1 l1 hh1 => ?_
    cases t with
    | true => exact ⟨g1, fr, S1, hf.mono l1, hh1, RPost.imp h fun d S' _ q => q.mono l1⟩
    | false => exact h H1 g1 l1 hh1
theorem w_or {rest : List Expr} (ha : PT X ea (tT X.K Φ ca)) (hb : PW X (.BoolOp .Or (eb :: rest) pos) (tT X.K Φ cb)) : PW X (.BoolOp .Or (ea :: eb :: rest) pos) (tT X.K Φ (.or ca cb)) :=
  (pw_or ha hb).imp fun σ H Q ⟨g, fr, S, hf, hh, h⟩ => by
    rw [evT_or] at h
    obtain ⟨t, S1, e1, h⟩ := RPost.bind h
    refine tT_in hf hh e1 fun H1 g1 l1 hh1 => ?_
    cases t with
    | false => exact ⟨g1, fr, S1, hf.mono l1, hh1, RPost.imp h fun d S' _ q => q.mono l1⟩
    | true => exact h H1 g1 l1 hh1
theorem e_ite (hc : PT X ec (tT X.K Φ cc)) (ha : PE X ea (tE X.K Φ ca)) (hb : PE X eb (tE X.K Φ cb)) : PE X (.IfExp ec ea eb pos) (tE X.K Φ (.ite cc ca cb)) :=
  (pe_ifExp hc ha hb).imp fun σ H Q ⟨g, fr, S, hf, hh, h⟩ => by
    obtain ⟨x, S1, e1, h⟩ := RPost.bind h
    cases ht : truth S1 x with
    | none => rw [ht] at h; exact h.elim
    | some t =>
      rw [ht] at h
      refine tT_in hf hh (evT_of e1 ht) fun H1 g1 l1 hh1 => ?_
      cases t with
      | true => exact ⟨g1, fr, S1, hf.mono l1, hh1, RPost.imp h fun d S' _ q => q.mono l1⟩
      | false => exact ⟨g1, fr, S1, hf.mono l1, hh1, RPost.imp h fun d S' _ q => q.mono l1⟩
/-- a op b op' c -/
theorem e_cmp2 (hu : X.A.units + 65 < cLine) {op op' : CmpOp} (ha : PE X ea (tE X.K Φ ca)) (hb : PE X eb (tE X.K Φ cb)) (hc : PE X ec (tE X.K Φ cc)) (hs : isSet ec = false) :
    PE X (.Compare ea [op, op'] [eb, ec] pos) (tE X.K Φ (.cmp2 op op' ca cb cc)) :=
  (pe_chain (op_cmp hu op) (op_cmp hu op') ha hb hc (mark_ok hs)).imp fun σ H Q ⟨g, fr, S, hf, hh, h⟩ => by
    obtain ⟨x, S1, e1, h⟩ := RPost.bind h
    obtain ⟨y, S2, e2, h⟩ := RPost.bind h
    refine tE_in hf hh e1 fun v H1 g1 l1 hh1 r1 => tE_in (hf.mono l1) hh1 e2 fun u H2 g2 l2 hh2 r2 => ?_
    cases hc : cmpD op S2 x y with
    | none => rw [hc] at h; exact h.elim
    | some b =>
      rw [hc] at h
      refine ⟨g2, S2, x, y, b, hh2, r1.mono l2, r2, hc, b, rfl, ?_⟩
      cases b with
      | false => exact (h.mono (l1.trans l2) : Post X.K g2 (.bl false) S2 Q).now hh2 (.bl _)
      | true =>
        obtain ⟨z, S3, e3, h⟩ := RPost.bind h
        refine tE_in (hf.mono (l1.trans l2)) hh2 e3 fun w H3 g3 l3 hh3 r3 => ?_
        cases hc' : cmpD op' S3 y z with
        | none => rw [hc'] at h; exact h.elim
        | some b' =>
          rw [hc'] at h
          exact ⟨g3, S3, y, z, b', hh3, r2.mono l3, r3, hc', (h.mono ((l1.trans l2).trans l3) : Post X.K g3 (.bl b') S3 Q).now hh3 (.bl _)⟩
theorem t_cmp2 (hu : X.A.units + 65 < cLine) {op op' : CmpOp} (ha : PE X ea (tE X.K Φ ca)) (hb : PE X eb (tE X.K Φ cb)) (hc : PE X ec (tE X.K Φ cc)) (hs : isSet ec = false) :
    PT X (.Compare ea [op, op'] [eb, ec] pos) (tT X.K Φ (.cmp2 op op' ca cb cc)) :=
  (pt_chain (op_cmp hu op) (op_cmp hu op') ha hb hc (mark_ok hs)).imp fun σ H Q ⟨g, fr, S, hf, hh, h⟩ => by
    obtain ⟨d, S9, e9, h⟩ := RPost.bind h
    obtain ⟨t, et, h⟩ := RPost.of h
    obtain ⟨x, S1, e1, k⟩ := RPost.bind (P := fun d' S' => d' = d ∧ S' = S9) (r := evE Φ ca fr S) (by
      show RPost _ (evE Φ (.cmp2 op op' ca cb cc) fr S)
      rw [e9]; exact ⟨rfl, rfl⟩)
    obtain ⟨y, S2, e2, k⟩ := RPost.bind k
    refine tE_in hf hh e1 fun v H1 g1 l1 hh1 r1 => tE_in (hf.mono l1) hh1 e2 fun u H2 g2 l2 hh2 r2 => ?_
    cases hc : cmpD op S2 x y with
    | none => rw [hc] at k; exact k.elim
    | some b =>
      rw [hc] at k
      refine ⟨g2, S2, x, y, b, hh2, r1.mono l2, r2, hc, b, rfl, ?_⟩
      cases b with
      | false =>
        obtain ⟨rfl, rfl⟩ := k
        cases et
        exact ⟨false, rfl, h H2 g2 (l1.trans l2) hh2⟩
      | true =>
        obtain ⟨z, S3, e3, k⟩ := RPost.bind k
        refine tE_in (hf.mono (l1.trans l2)) hh2 e3 fun w H3 g3 l3 hh3 r3 => ?_
        cases hc' : cmpD op' S3 y z with
        | none => rw [hc'] at k; exact k.elim
        | some b' =>
          rw [hc'] at k
          obtain ⟨rfl, rfl⟩ := k
          cases et
          exact ⟨g3, S3, y, z, _, hh3, r2.mono l3, r3, hc', _, rfl, h H3 g3 ((l1.trans l2).trans l3) hh3⟩

/-! several -/
variable {es : List Expr} {cs : List E}
theorem a_nil : PA X [] (tEs X.K Φ []) := pa_nil.imp fun σ H Q ⟨g, fr, S, hf, hh, h⟩ => (show LPost X.K g [] S Q from h) [] H g (Le.refl g) hh .nil
theorem a_cons (ha : PE X ea (tE X.K Φ ca)) (hr : PA X es (tEs X.K Φ cs)) (hs : isStar ea = false) : PA X (ea :: es) (tEs X.K Φ (ca :: cs)) :=
  (pa_cons ha hr (star_cons hs)).imp fun σ H Q ⟨g, fr, S, hf, hh, h⟩ => by
    obtain ⟨x, S1, e1, h⟩ := RPost.bind h
    obtain ⟨xs, S2, e2, h⟩ := RPost.bind h
    exact tE_in hf hh e1 fun v H1 g1 l1 hh1 r1 => tEs_in (hf.mono l1) hh1 e2 fun vs H2 g2 l2 hh2 r2 => h (v :: vs) H2 g2 (l1.trans l2) hh2 (.cons (r1.mono l2) r2)
theorem e_tup {k : Nat} (h : PA X es (tEs X.K Φ cs)) : PE X (.Tuple es k pos) (tE X.K Φ (.tup cs)) :=
  (pe_tup h).imp fun σ H Q ⟨g, fr, S, hf, hh, h⟩ => by
    obtain ⟨xs, S1, e1, h⟩ := RPost.bind h
    refine tEs_in hf hh e1 fun vs H1 g1 l1 hh1 r1 => ?_
    have h : RPost (fun d S' => Post X.K g d S' Q) (if xs.length ≤ sizeLine then .ok (.tup xs) S1 else .no) := h
    split at h
    · rename_i hl
      exact ⟨by rw [← r1.length]; exact hl, (h.mono l1 : Post X.K g1 (.tup xs) S1 Q).tup hh1 r1⟩
    · exact h.elim
theorem e_lst (h : PA X es (tEs X.K Φ cs)) : PE X (.List es pos) (tE X.K Φ (.lst cs)) :=
  (pe_lst h).imp fun σ H Q ⟨g, fr, S, hf, hh, h⟩ => by
    obtain ⟨xs, S1, e1, h⟩ := RPost.bind h
    refine tEs_in hf hh e1 fun vs H1 g1 l1 hh1 r1 => ?_
    have h : RPost (fun d S' => Post X.K g d S' Q) (if xs.length ≤ sizeLine then .ok (.lst xs) S1 else .no) := h
    split at h
    · rename_i hl
      exact ⟨by rw [← r1.length]; exact hl, (h.mono l1 : Post X.K g1 (.lst xs) S1 Q).lst hh1 r1⟩
    · exact h.elim
theorem e_mkl (h : PA X es (tEs X.K Φ cs)) : PE X (.List es pos) (tE X.K Φ (.mkl cs)) :=
  (pe_lst h).imp fun σ H Q ⟨g, fr, S, hf, hh, h⟩ => by
    obtain ⟨xs, S1, e1, h⟩ := RPost.bind h
    refine tEs_in hf hh e1 fun vs H1 g1 l1 hh1 r1 => ?_
    have h : RPost (fun d S' => Post X.K g d S' Q) (if xs.length ≤ sizeLine then .ok (.ref S1.length) (S1 ++ [.lst xs]) else .no) := h
    split at h
    · rename_i hl
      exact ⟨by rw [← r1.length]; exact hl, (h.mono l1 : Post X.K g1 (.ref S1.length) (S1 ++ [.lst xs]) Q).add hh1 ⟨_, rfl, r1⟩⟩
    · exact h.elim
theorem e_sub (ha : PE X ea (tE X.K Φ ca)) (hb : PE X eb (tE X.K Φ cb)) (hs : isSlc eb = false) : PE X (.Subscript ea eb pos) (tE X.K Φ (.sub ca cb)) :=
  (pe_ix ix_data ha hb (plainIx hs)).imp fun σ H Q ⟨g, fr, S, hf, hh, h⟩ => by
    obtain ⟨x, S1, e1, h⟩ := RPost.bind h
    obtain ⟨y, S2, e2, h⟩ := RPost.bind h
    obtain ⟨d, e3, h⟩ := RPost.of h
    exact tE_in hf hh e1 fun v H1 g1 l1 hh1 r1 => tE_in (hf.mono l1) hh1 e2 fun u H2 g2 l2 hh2 r2 => ⟨g2, S2, x, y, d, hh2, r1.mono l2, r2, e3, h.mono (l1.trans l2)⟩
theorem o_none : PO X none (tO X.K Φ none) := po_none.imp fun σ H Q ⟨g, fr, S, hf, hh, h⟩ => (show OPost X.K g none S Q from h) H g (Le.refl g) hh
theorem o_some (ha : PE X ea (tE X.K Φ ca)) : PO X (some ea) (tO X.K Φ (some ca)) :=
  (po_some ha).imp fun σ H Q ⟨g, fr, S, hf, hh, h⟩ => by
    obtain ⟨x, S1, e1, h⟩ := RPost.bind h
    refine tE_in hf hh e1 fun v H1 g1 l1 hh1 r1 => ?_
    cases r1 with
    | int i => exact ⟨i, rfl, (show OPost X.K g (some i) S1 Q from h) H1 g1 l1 hh1⟩
    | _ => exact h.elim
theorem e_slc {lo hi : Option Expr} {cl ch : Option E} {p2 : Pos} (ha : PE X ea (tE X.K Φ ca)) (hl : PO X lo (tO X.K Φ cl)) (hu : PO X hi (tO X.K Φ ch)) : PE X (.Subscript ea (.Slice lo hi none p2) pos) (tE X.K Φ (.slc ca cl ch)) :=
  (pe_slice sl_data ha hl hu).imp fun σ H Q ⟨g, fr, S, hf, hh, h⟩ => by
    obtain ⟨x, S1, e1, h⟩ := RPost.bind h
    obtain ⟨l, S2, e2, h⟩ := RPost.bind h
    obtain ⟨u, S3, e3, h⟩ := RPost.bind h
    obtain ⟨d, e4, h⟩ := RPost.of h
    exact tE_in hf hh e1 fun v H1 g1 l1 hh1 r1 => tO_in (hf.mono l1) hh1 e2 fun H2 g2 l2 hh2 => tO_in (hf.mono (l1.trans l2)) hh2 e3 fun H3 g3 l3 hh3 =>
      ⟨g3, S3, x, d, hh3, (r1.mono l2).mono l3, e4, h.mono ((l1.trans l2).trans l3)⟩
end
end Dm

/-! DmF: calls, built-in functions, methods, targets, iterables, comprehensions. -/
namespace Dm
open PySem L2

/-! ### what is known of the module -/
structure Tab where
  fns : List (Str × Nat)
  cns : List Str
  blt : List Str
  gcd : Str
def spF (K : PySem.W.Frag) (Φ : Fns) (f : Nat) : Sp := fun vs H Q _ => ∃ g S ds, HpOk K g S H ∧ RepL K g ds vs ∧ RPost (fun d S' => Post K g d S' Q) (Φ.call f ds S)
def g0 : G := ⟨fun _ => none, [], fun _ => none⟩
theorem rep_g0 {K : PySem.W.Frag} {g : G} {d : D} {v : V} (r : Rep K g0 d v) : Rep K g d v :=
  (r.mono (show Le g0 (g.back g0.pv) from ⟨fun _ _ e => (nomatch (show (none : Option HO) = some _ from e)), ⟨g.ρ, rfl⟩, rfl⟩)).pv (q := g.pv)
structure GOk (T : Tab) (Φ : Fns) (k : Nat) (P : Program) (w : World) (K : PySem.W.Frag) (mg : Str → Option Value) (base : Heap) (A : Around) : Prop where
  room : Room k A
  fn : ∀ (f : Nat) (x : Str) (np : Nat), T.fns[f]? = some (x, np) → ∃ a fd ps, mg x = some (.ref a) ∧ PySem.W.keepIn K (.ref a) = true ∧ Binds K fd ps [] ∧ ps.length = np ∧ FnOk P w K mg base CX0 k a fd ps (spF K Φ f)
  const : ∀ (i : Nat) (x : Str), T.cns[i]? = some x → ∃ u v d, mg x = some u ∧ RelV v u ∧ Φ.const i = some d ∧ Rep K g0 d v
  blt : ∀ x ∈ T.blt, mg x = none ∧ x ≠ "__name__"
  gcd : mg T.gcd = some (.builtin "math.gcd") ∨ T.gcd = ""

section
variable {X : Cx} {c : Ctx} {T : Tab} {Φ : Fns} {k : Nat} {pos p apos : Pos} {ea eb : Expr} {ca cb : E} {es : List Expr} {cs : List E}
abbrev GX (T : Tab) (Φ : Fns) (k : Nat) (X : Cx) : Prop := GOk T Φ k X.prog X.w X.K X.mg X.base X.A
theorem GX.hu (G : GX T Φ k X) : X.A.units + 65 < cLine := by have := G.room.un; omega
theorem e_glob (G : GX T Φ k X) (C : CtxOk c X) {i : Nat} {x : Str} (hT : T.cns[i]? = some x) (hg : c.gl x = true) : PE X (.Name x pos) (tE X.K Φ (.glob i)) := by
  obtain ⟨u, v, d, h1, h2, h3, h4⟩ := G.const i x hT
  refine (pe_glob (C.gl hg).1 h1 h2 (C.gl hg).2).imp fun σ H Q ⟨g, fr, S, hf, hh, h⟩ => ?_
  have h : RPost (fun d S' => Post X.K g d S' Q) (Res.of (Φ.const i) S) := h
  rw [h3] at h
  exact (show Post X.K g d S Q from h).now hh (rep_g0 h4)
theorem e_call (G : GX T Φ k X) (C : CtxOk c X) {f np : Nat} {x : Str} (hT : T.fns[f]? = some (x, np)) (hg : c.gl x = true) (ha : PA X (ea :: es) (tEs X.K Φ cs)) (hs : (ea :: es).any isStar = false) : PE X (.Call (.Name x p) (ea :: es) [] pos) (tE X.K Φ (.call f cs)) := by
  obtain ⟨a, fd, ps, h1, h2, h3, h4, F⟩ := G.fn f x np hT
  rw [List.any_cons, Bool.or_eq_false_iff] at hs
  refine (pe_call F G.room (C.gl hg).1 h1 h2 h3 .nil pass0 ha (C.gl hg).2 (star_cons hs.1) (star_plain hs.2)).imp fun σ H Q ⟨g, fr, S, hf, hh, h⟩ => ?_
  obtain ⟨xs, S1, e1, h⟩ := RPost.bind h
  refine tEs_in hf hh e1 fun vs H1 g1 l1 hh1 r1 => ?_
  rw [List.append_nil]
  exact ⟨g1, S1, xs, hh1, r1, RPost.imp h fun d S' _ q => q.mono l1⟩
theorem e_call0 (G : GX T Φ k X) (C : CtxOk c X) {f np : Nat} {x : Str} (hT : T.fns[f]? = some (x, np)) (hg : c.gl x = true) : PE X (.Call (.Name x p) [] [] pos) (tE X.K Φ (.call f [])) := by
  obtain ⟨a, fd, ps, h1, h2, h3, h4, F⟩ := G.fn f x np hT
  refine (pe_call0 F G.room (C.gl hg).1 h1 h2 h3 .nil pass0 (C.gl hg).2).imp fun σ H Q ⟨g, fr, S, hf, hh, h⟩ => ?_
  exact ⟨g, S, [], hh, .nil, h⟩

/-! built-in functions -/
inductive BK where
  | b (id : String) | t (ty : String) | g
def Bi.key : Bi → BK
  | .len => .b "len" | .sum => .b "sum" | .min1 => .b "min" | .max1 => .b "max" | .min2 => .b "min" | .max2 => .b "max" | .abs => .b "abs" | .all => .b "all" | .any => .b "any"
  | .tuple => .t "tuple" | .list => .t "list" | .int => .t "int" | .sorted => .b "sorted" | .gcd => .g | .str => .t "str"
def Bi.nm : Bi → Str
  | .len => "len" | .sum => "sum" | .min1 => "min" | .max1 => "max" | .min2 => "min" | .max2 => "max" | .abs => "abs" | .all => "all" | .any => "any"
  | .tuple => "tuple" | .list => "list" | .int => "int" | .sorted => "sorted" | .gcd => "gcd" | .str => "str"
def Bi.val : Bi → Value
  | .len => .builtin "len" | .sum => .builtin "sum" | .min1 => .builtin "min" | .max1 => .builtin "max" | .min2 => .builtin "min" | .max2 => .builtin "max" | .abs => .builtin "abs" | .all => .builtin "all" | .any => .builtin "any"
  | .tuple => .type "tuple" | .list => .type "list" | .int => .type "int" | .sorted => .builtin "sorted" | .gcd => .builtin "math.gcd" | .str => .type "str"
/-- the built-in functions that are covered so far -/
def Bi.ok : Bi → Bool
  | .str => false
  | _ => true
theorem bi_rule (G : GX T Φ k X) (hc : X.calm = true) (f : Bi) (h : f.ok = true) : CallR X f.val (rBi X.K f) := by
  cases f with
  | len => exact cr_len
  | sum => exact cr_dsum hc
  | min1 => exact cr_dmin1 hc
  | max1 => exact cr_dmax1 hc
  | min2 => exact cr_dmin2 hc
  | max2 => exact cr_dmax2 hc
  | abs => exact cr_dabs
  | all => exact cr_dall hc
  | any => exact cr_dany hc
  | tuple => exact cr_dtuple
  | list => exact cr_dlist
  | int => exact cr_dint
  | gcd => exact cr_dgcd
  | sorted => exact cr_dsorted G.hu
  | str => cases h
theorem bi_boot (f : Bi) (h : f ≠ .gcd) : bootBuiltins f.nm = some f.val := by
  cases f with
  | gcd => exact absurd rfl h
  | _ => decide +kernel
theorem e_bi (G : GX T Φ k X) (C : CtxOk c X) {f : Bi} {x : Str} (hk : f.ok = true) (hx : x = f.nm ∧ f ≠ .gcd ∧ x ∈ T.blt ∨ f = .gcd ∧ x = T.gcd ∧ x ≠ "") (hg : c.gl x = true) (ha : PA X (ea :: es) (tEs X.K Φ cs)) (hs : (ea :: es).any isStar = false) :
    PE X (.Call (.Name x p) (ea :: es) [] pos) (tE X.K Φ (.bi f cs)) := by
  rw [List.any_cons, Bool.or_eq_false_iff] at hs
  have go : ∀ σ H Q, tE X.K Φ (.bi f cs) σ H Q → tCB (rBi X.K f) (tEs X.K Φ cs) σ H Q := fun σ H Q ⟨g, fr, S, hf, hh, h⟩ => by
    obtain ⟨xs, S1, e1, h⟩ := RPost.bind h
    obtain ⟨d, e2, h⟩ := RPost.of h
    exact tEs_in hf hh e1 fun vs H1 g1 l1 hh1 r1 => ⟨g1, S1, xs, d, hh1, r1, e2, h.mono l1⟩
  have R := bi_rule G C.calm f hk
  rcases hx with ⟨rfl, hn, hb⟩ | ⟨rfl, rfl, hn⟩
  · obtain ⟨m0, m1⟩ := G.blt _ hb
    have bo := bi_boot f hn
    cases hv : f.val with
    | builtin id =>
      rw [hv] at R bo
      exact (pe_callB R (C.gl hg).1 m0 bo ha m1 (C.gl hg).2 (star_cons hs.1) (star_plain hs.2)).imp go
    | type ty =>
      rw [hv] at R bo
      exact (pe_callTy R (C.gl hg).1 m0 bo ha m1 (C.gl hg).2 (star_cons hs.1) (star_plain hs.2)).imp go
    | _ => cases f <;> cases hv
  · rcases G.gcd with gg | gg
    · exact (pe_callBfun R (C.gl hg).1 gg ha (C.gl hg).2 (star_cons hs.1) (star_plain hs.2)).imp go
    · exact absurd gg hn

/-! max, min with default= -/
def maxN : Str := "max"
def minN : Str := "min"
def dfN : Str := "default"
theorem e_md {mx : Bool} {ce : E} (hce : ce = (if mx then .maxd ca cb else .mind ca cb)) (G : GX T Φ k X) (C : CtxOk c X) {x : Str} {kp : Pos} (hx : x = (if mx then maxN else minN)) (hb : x ∈ T.blt) (hg : c.gl x = true) (ha : PE X ea (tE X.K Φ ca)) (hd : PE X eb (tE X.K Φ cb)) (hs : isStar ea = false) :
    PE X (.Call (.Name x p) [ea] [⟨some dfN, eb, kp⟩] pos) (tE X.K Φ ce) := by
  obtain ⟨m0, m1⟩ := G.blt _ hb
  have go : ∀ σ H Q, tE X.K Φ ce σ H Q → tCKw (rMd X.K mx) (tCons (tE X.K Φ ca) tNil) (tCons (tE X.K Φ cb) tNil) σ H Q := fun σ H Q h => by
    have h : ∃ g fr S, FrOk X.K g fr σ ∧ HpOk X.K g S H ∧ RPost (fun d S' => Post X.K g d S' Q) ((evE Φ ca fr S).bind fun x S1 => (evE Φ cb fr S1).bind fun y S2 => Res.of (mdD mx S2 x y) S2) := by
      subst hce
      cases mx <;> exact h
    obtain ⟨g, fr, S, hf, hh, h⟩ := h
    obtain ⟨x, S1, e1, h⟩ := RPost.bind h
    obtain ⟨y, S2, e2, h⟩ := RPost.bind h
    obtain ⟨d, e3, h⟩ := RPost.of h
    exact tE_in hf hh e1 fun v H1 g1 l1 hh1 r1 => tE_in (hf.mono l1) hh1 e2 fun u H2 g2 l2 hh2 r2 => ⟨g2, S2, x, y, d, v, u, rfl, rfl, hh2, r1.mono l2, r2, e3, h.mono (l1.trans l2)⟩
  cases mx with
  | true =>
    subst hx
    exact (pe_callBK (cr_maxd C.calm G.hu) (C.gl hg).1 m0 (bi_boot .max1 (by decide)) (pa_cons ha pa_nil (star_cons hs)) (pk_cons hd pk_nil) m1 (C.gl hg).2 (by rw [star_cons hs]; rfl) (by rw [star_cons hs]; rfl)).imp go
  | false =>
    subst hx
    exact (pe_callBK (cr_mind C.calm G.hu) (C.gl hg).1 m0 (bi_boot .min1 (by decide)) (pa_cons ha pa_nil (star_cons hs)) (pk_cons hd pk_nil) m1 (C.gl hg).2 (by rw [star_cons hs]; rfl) (by rw [star_cons hs]; rfl)).imp go

/-! isinstance -/
def Ty.nm : Ty → Str
  | .int => "int" | .bool => "bool" | .str => "str" | .tuple => "tuple" | .list => "list"
theorem ty_boot (t : Ty) : bootBuiltins t.nm = some (.type (tyN t)) := by cases t <;> decide +kernel
def isiN : Str := "isinstance"
theorem e_isi (G : GX T Φ k X) (C : CtxOk c X) {t : Ty} {p2 : Pos} (hb : isiN ∈ T.blt) (hg : c.gl isiN = true) (hb2 : t.nm ∈ T.blt) (hg2 : c.gl t.nm = true) (ha : PE X ea (tE X.K Φ ca)) (hs : isStar ea = false) :
    PE X (.Call (.Name isiN p) [ea, .Name t.nm p2] [] pos) (tE X.K Φ (.isi t ca)) := by
  obtain ⟨m0, m1⟩ := G.blt _ hb
  obtain ⟨n0, n1⟩ := G.blt _ hb2
  have pn : PE X (.Name t.nm p2) (tC (.ty (tyN t))) := pe_bltn (C.gl hg2).1 n0 (ty_boot t) rfl n1 (C.gl hg2).2
  refine (pe_callB call_isi (C.gl hg).1 m0 PyProof.Rows.boot_isinstance (pa_cons ha (pa_cons pn pa_nil) (star_cons hs)) m1 (C.gl hg).2 (star_cons hs)).imp fun σ H Q ⟨g, fr, S, hf, hh, h⟩ => ?_
  obtain ⟨x, S1, e1, h⟩ := RPost.bind h
  refine tE_in hf hh e1 fun v H1 g1 l1 hh1 r1 => ?_
  cases hi : isiD S1 t x with
  | none => rw [hi] at h; exact h.elim
  | some b =>
    rw [hi] at h
    obtain ⟨u, ht, hk⟩ := rep_ty hh1 r1 hi
    exact ⟨v, .ty (tyN t), u, .type (tyN t), b, rfl, .ty _, ht, hk, (h.mono l1 : Post X.K g1 (.bl b) S1 Q).now hh1 (.bl _)⟩

/-! methods -/
theorem few_ok {env : Env} {cpos : Pos} {es : List Expr} (hs : es.any isStar = false) (hl : es.length < 29) :
    ((backTo cpos (starEach es env)).all (fun x => !x.1) && (backToKw cpos (keywordEach [] env)).all (fun x => x.1.isSome) && decide (es.length + ([] : List Keyword).length + (if ([] : List Keyword).isEmpty then 0 else 1) < 30)) = true := by
  rw [star_few hs]
  show (true && true && decide (es.length + 0 + 0 < 30)) = true
  rw [decide_eq_true (by omega)] <;> rfl
def Me.ty : Me → String
  | .index => "list" | .count => "list" | .join => "str"
def Me.nm : Me → Str
  | .index => "index" | .count => "count" | .join => "join"
def Me.ok : Me → Bool
  | .count => false
  | _ => true
theorem ty_of {K : PySem.W.Frag} {g : G} {S : Store} {H : Hp} {m : Me} {x : D} {v : V} (hh : HpOk K g S H) (r : Rep K g x v) (h : meTy m S x = true) : tyV K m.ty v H := by
  have sq : (lstD S x).isSome = true → tyV K "list" v H := fun h => by
    cases e : lstD S x with
    | none => rw [e] at h; cases h
    | some l =>
      obtain ⟨p, xs, rfl, ho, _⟩ := lst_of hh r e
      exact .inl ⟨rfl, xs, .inl (.inl ho)⟩
  cases m with
  | index => exact sq h
  | count => exact sq h
  | join =>
    cases r with
    | str z => rfl
    | _ => cases h
theorem e_me (G : GX T Φ k X) {m : Me} (hk : m.ok = true) (ho : PE X ea (tE X.K Φ ca)) (ha : PA X (eb :: es) (tEs X.K Φ cs)) (hs : (eb :: es).any isStar = false) (hl : (eb :: es).length < 29) (h0 : isCall0 ea = false) (hline : (apos.endLine == pos.line) = true) :
    PE X (.Call (.Attribute ea m.nm apos) (eb :: es) [] pos) (tE X.K Φ (.me m ca cs)) := by
  have fw := few_ok (env := X.env) (cpos := pos) hs hl
  rw [List.any_cons, Bool.or_eq_false_iff] at hs
  have go : ∀ σ H Q, tE X.K Φ (.me m ca cs) σ H Q → tBM X.K m.ty (rMe X.K m) (tE X.K Φ ca) (tEs X.K Φ cs) σ H Q := fun σ H Q ⟨g, fr, S, hf, hh, h⟩ => by
    obtain ⟨x, S1, e1, h⟩ := RPost.bind h
    refine tE_in hf hh e1 fun v H1 g1 l1 hh1 r1 => ?_
    cases hm : meTy m S1 x with
    | false => rw [hm] at h; exact h.elim
    | true =>
      rw [hm] at h
      obtain ⟨xs, S2, e2, h⟩ := RPost.bind h
      obtain ⟨d, e3, h⟩ := RPost.of h
      exact ⟨ty_of hh1 r1 hm, tEs_in (hf.mono l1) hh1 e2 fun vs H2 g2 l2 hh2 r2 => ⟨g2, S2, x, xs, d, hh2, r1.mono l2, r2, e3, h.mono (l1.trans l2)⟩⟩
  cases m with
  | index => exact (pe_bm PySem.F.plainAttrs_list PySem.F.slot_list_index PySem.F.type_list_index (mt_dindex G.hu) ho ha (attrBase h0 _ _ _) fw hline (star_cons hs.1) (star_plain hs.2)).imp go
  | join => exact (pe_bm PySem.F.plainAttrs_str PySem.F.slot_str_join PySem.F.type_str_join mt_djoin ho ha (attrBase h0 _ _ _) fw hline (star_cons hs.1) (star_plain hs.2)).imp go
  | count => cases hk
def appN : Str := "append"
theorem e_app (ho : PE X ea (tE X.K Φ ca)) (ha : PE X eb (tE X.K Φ cb)) (hs : isStar eb = false) (h0 : isCall0 ea = false) (hline : (apos.endLine == pos.line) = true) :
    PE X (.Call (.Attribute ea appN apos) [eb] [] pos) (tE X.K Φ (.app ca cb)) := by
  have hs' : [eb].any isStar = false := by rw [List.any_cons, hs]; rfl
  have fw := few_ok (env := X.env) (cpos := pos) hs' (show 1 < 29 by decide)
  refine (pe_bm PySem.F.plainAttrs_list PySem.F.slot_list_append PySem.F.type_list_append mt_append ho (pa_cons ha pa_nil (star_cons hs)) (attrBase h0 _ _ _) fw hline (star_cons hs)).imp fun σ H Q ⟨g, fr, S, hf, hh, h⟩ => ?_
  obtain ⟨x, S1, e1, h⟩ := RPost.bind h
  refine tE_in hf hh e1 fun v H1 g1 l1 hh1 r1 => ?_
  cases r1 with
  | ref er =>
    rename_i a n
    have h : RPost (fun d S' => Post X.K g d S' Q) (match cellL S1 n with | some _ => ((evE Φ cb fr S1).bind fun y S2 => match cellL S2 n with | some l => if l.length < sizeLine then .ok .non (S2.set n (.lst (l ++ [y]))) else .no | none => .no) | none => .no) := h
    cases hc : cellL S1 n with
    | none => rw [hc] at h; exact h.elim
    | some l1' =>
      rw [hc] at h
      obtain ⟨xs1, ho1, _⟩ := hh1.lst hc er
      refine ⟨.inl ⟨rfl, xs1, .inl (.inl ho1)⟩, ?_⟩
      obtain ⟨y, S2, e2, h⟩ := RPost.bind h
      refine tE_in (hf.mono l1) hh1 e2 fun u H2 g2 l2 hh2 r2 => ?_
      cases hc2 : cellL S2 n with
      | none => rw [hc2] at h; exact h.elim
      | some l =>
        rw [hc2] at h
        have h : RPost (fun d S' => Post X.K g d S' Q) (if l.length < sizeLine then .ok .non (S2.set n (.lst (l ++ [y]))) else .no) := h
        split at h
        · rename_i hl
          have er2 := l2.at_ er
          obtain ⟨xs, ho2, rl⟩ := hh2.lst hc2 er2
          refine ⟨a, xs, u, rfl, rfl, ho2, by rw [← rl.length]; exact hl, ?_⟩
          exact (show Post X.K g .non _ Q from h) .non _ g2 (l1.trans l2) (hh2.write (cellL_eq hc2) rfl er2 ⟨_, rfl, rl.append (.cons r2 .nil)⟩) .non
        · exact h.elim
  | _ => exact h.elim
end
end Dm

/-! DmG: targets, iterables, comprehensions. -/
namespace Dm
open PySem L2

/-! ### slots wiped -/
theorem wipe_at (σ : L2.St) (j : Nat) : ∀ vs : List Nat, (wipe σ vs)[j]? = if j ∈ vs then (σ[j]?).map fun _ => none else σ[j]?
  | [] => by simp [wipe]
  | v :: vs => by
    unfold wipe
    by_cases hj : v = j
    · subst hj
      rw [List.getElem?_set]
      simp only [if_true, wipe_length, List.mem_cons, true_or]
      by_cases hl : v < σ.length
      · simp [hl]
      · simp [hl, List.getElem?_eq_none (Nat.not_lt.mp hl)]
    · rw [List.getElem?_set_ne hj, wipe_at σ j vs]
      simp [List.mem_cons, Ne.symm hj]
theorem wipe_set {σ : L2.St} {i : Nat} {x : Option V} {vs : List Nat} (h : i ∈ vs) : wipe (σ.set i x) vs = wipe σ vs := by
  refine List.ext_getElem? fun j => ?_
  rw [wipe_at, wipe_at]
  by_cases hj : j ∈ vs
  · rw [if_pos hj, if_pos hj]
    by_cases e : i = j
    · subst e
      by_cases hl : i < σ.length
      · rw [List.getElem?_set_self hl, List.getElem?_eq_getElem hl]; rfl
      · rw [List.getElem?_eq_none (by simpa using hl), List.getElem?_eq_none (by simpa using hl)]
    · rw [List.getElem?_set_ne e]
  · rw [if_neg hj, if_neg hj, List.getElem?_set_ne (by rintro rfl; exact hj h)]
theorem wipe_wipe (σ : L2.St) (vs : List Nat) : wipe (wipe σ vs) vs = wipe σ vs := by
  refine List.ext_getElem? fun j => ?_
  rw [wipe_at, wipe_at]
  by_cases hj : j ∈ vs
  · rw [if_pos hj, if_pos hj]
    cases σ[j]? <;> rfl
  · rw [if_neg hj, if_neg hj]
theorem Sets.trans {a b : List Nat} {σ σ1 σ2 : L2.St} (h : Sets a σ σ1) (h' : Sets b σ1 σ2) : Sets (a ++ b) σ σ2 := fun vs hv =>
  (h' vs fun i hi => hv i (List.mem_append_right _ hi)).trans (h vs fun i hi => hv i (List.mem_append_left _ hi))
section
variable {K : PySem.W.Frag} {g : G} {fr : Fr} {σ : L2.St}
theorem FrOk.wipe (h : FrOk K g fr σ) : ∀ vs : List Nat, FrOk K g (wipeF fr vs) (L2.wipe σ vs)
  | [] => h
  | v :: vs => (FrOk.wipe h vs).clear v
end

/-! ### targets -/
section
variable {X : Cx} {c : Ctx} {pos : Pos}
theorem g_name (C : CtxOk c X) {x : Str} {i : Nat} (h : c.st x i = true) : PG X (.Name x pos) (tP X.K (.v i)) := by
  refine ⟨fun pins s σ H v u Q I r h' => ?_⟩
  obtain ⟨g, fr, S, d, fr', hf, hh, rd, e, q⟩ := h'
  cases e
  exact (C.pg h).run pins s σ H v u Q I r (q _ (hf.set rd) fun vs hv => wipe_set (hv i (List.mem_singleton.mpr rfl)))
theorem gs_nil : PGs X [] (tPs X.K []) := by
  refine ⟨fun pins s σ H vs us Q I r h' => ?_⟩
  obtain ⟨g, fr, S, ds, fr', hf, hh, rd, e, q⟩ := h'
  cases ds with
  | nil =>
    cases rd
    cases e
    exact pgs_nil.run pins s σ H [] us Q I r ⟨rfl, q _ hf fun _ _ => rfl⟩
  | cons => cases e
theorem gs_cons {ea : Expr} {es : List Expr} {p : Pat} {ps : List Pat} (h1 : PG X ea (tP X.K p)) (h2 : PGs X es (tPs X.K ps)) (hs : isStar ea = false) : PGs X (ea :: es) (tPs X.K (p :: ps)) := by
  refine ⟨fun pins s σ H vs us Q I r h' => ?_⟩
  obtain ⟨g, fr, S, ds, fr', hf, hh, rd, e, q⟩ := h'
  cases ds with
  | nil => cases e
  | cons d ds =>
    cases rd with
    | cons r1 r2 =>
      have e : (asgP p d fr).bind (fun fr' => asgPs ps ds fr') = some fr' := e
      cases e1 : asgP p d fr with
      | none => rw [e1] at e; cases e
      | some fr1 =>
        rw [e1] at e
        exact (pgs_cons h1 h2 (asg_cons hs)).run pins s σ H _ us Q I r ⟨_, _, rfl, g, fr, S, d, fr1, hf, hh, r1, e1, fun σ1 hf1 s1 => ⟨g, fr1, S, ds, fr', hf1, hh, r2, e, fun σ2 hf2 s2 => q σ2 hf2 (s1.trans s2)⟩⟩
theorem asgPs_len : ∀ {ps : List Pat} {ds : List D} {fr fr' : Fr}, asgPs ps ds fr = some fr' → ds.length = ps.length
  | [], [], _, _, _ => rfl
  | [], _ :: _, _, _, h => nomatch h
  | _ :: _, [], _, _, h => nomatch h
  | p :: ps, d :: ds, fr, fr', h => by
    have h : (asgP p d fr).bind (fun fr' => asgPs ps ds fr') = some fr' := h
    cases e1 : asgP p d fr with
    | none => rw [e1] at h; cases h
    | some fr1 =>
      rw [e1] at h
      exact congrArg (· + 1) (asgPs_len h)
theorem g_tup (C : CtxOk c X) {es : List Expr} {k : Nat} {ps : List Pat} (h : PGs X es (tPs X.K ps)) (hs : es.any isStar = false) (hl : es.length = ps.length) : PG X (.Tuple es k pos) (tP X.K (.t ps)) := by
  refine ⟨fun pins s σ H v u Q I r h' => ?_⟩
  obtain ⟨g, fr, S, d, fr', hf, hh, rd, e, q⟩ := h'
  cases rd with
  | tup hq rl =>
    have e : asgPs ps _ fr = some fr' := e
    obtain ⟨h1, h2⟩ := asg_each (env := X.env) hs
    have hn := asgPs_len e
    exact (pg_tup C.calm h h1 h2).run pins s σ H _ u Q I r ⟨_, _, rfl, sqT_mono hh.same hq, by rw [← rl.length, hn, hl], g, fr, S, _, fr', hf, hh, rl, e, q⟩
  | lst hq rl =>
    have e : asgPs ps _ fr = some fr' := e
    obtain ⟨h1, h2⟩ := asg_each (env := X.env) hs
    have hn := asgPs_len e
    exact (pg_unl C.calm h h1 h2).run pins s σ H _ u Q I r ⟨_, _, rfl, .inl (.inl (hh.same _ _ hq)), by rw [← rl.length, hn, hl], g, fr, S, _, fr', hf, hh, rl, e, q⟩
  | _ => cases e
end

/-! ### iterables -/
section
theorem le_back {g g' : G} {q : Hp} (h : Le g g') : Le (g.back q) (g'.back q) := ⟨h.F, h.ρ, rfl⟩
theorem Rep.monoW {K : PySem.W.Frag} {g g1 : G} (h : Le g (g1.back g.pv)) {d : D} {v : V} (r : Rep K g d v) : Rep K g1 d v := (r.mono h).pv (q := g1.pv)
theorem RepL.monoW {K : PySem.W.Frag} {g g1 : G} (h : Le g (g1.back g.pv)) {d : List D} {v : List V} (r : RepL K g d v) : RepL K g1 d v := (r.mono h).pv (q := g1.pv)
theorem leW {g g1 : G} (h : Le g g1) : Le g (g1.back g.pv) := ⟨h.F, h.ρ, rfl⟩
variable {X : Cx} {c : Ctx} {T : Tab} {Φ : Fns} {k : Nat} {pos p : Pos} {tg ea : Expr} {ca : E} {es : List Expr} {cs : List E}
theorem tI_in {K : PySem.W.Frag} {σ : L2.St} {H : Hp} {ca : E} {R : It → Hp → Prop} (h : tI K Φ ca σ H R) : ∃ g fr S d S' l, FrOk K g fr σ ∧ HpOk K g S H ∧ evE Φ ca fr S = .ok d S' ∧ iterD S' d = some l ∧
    ∀ H' g' J, Le g g' → HpOk K g' S' H' → ItOk K g' l J → R J H' := by
  obtain ⟨g, fr, S, hf, hh, h⟩ := h
  cases e : evE Φ ca fr S with
  | ok d S' =>
    rw [e] at h
    obtain ⟨l, h1, h2⟩ := h
    exact ⟨g, fr, S, d, S', l, hf, hh, e, h1, h2⟩
  | ex => rw [e] at h; exact h.elim
  | no => rw [e] at h; exact h.elim
theorem it_list {K : PySem.W.Frag} {g : G} {a : Addr} {xs : List V} {ds : List D} (h : g.F a = some (.lst xs)) (r : RepL K g ds xs) : ItOk K g ds (Itl K a) := by
  intro i H1 g1 S1 l1 hh1
  have hs : SqL K H1 a xs := .inl (.inl (hh1.same _ _ (l1.F _ _ h)))
  refine ⟨fun d hd => ?_, fun hi => ⟨xs, hs, by rw [← r.length]; exact hi⟩⟩
  obtain ⟨v, hv, rv⟩ := r.get hd
  refine ⟨⟨xs, v, hs, hv⟩, fun x H' y => ?_⟩
  obtain ⟨rfl, y⟩ := y
  have e : x = v := Option.some.inj ((y xs hs).symm.trans hv)
  subst e
  exact ⟨g1, Le.refl _, hh1, rv.monoW l1⟩
theorem it_tup {K : PySem.W.Frag} {g : G} {a : Addr} {xs : List V} {ds : List D} (h : SqT K g.F a xs) (r : RepL K g ds xs) : ItOk K g ds (Itt K a) := by
  intro i H1 g1 S1 l1 hh1
  have hs : SqT K H1 a xs := sqT_mono hh1.same (sqT_mono l1.F h)
  refine ⟨fun d hd => ?_, fun hi => ⟨xs, hs, by rw [← r.length]; exact hi⟩⟩
  obtain ⟨v, hv, rv⟩ := r.get hd
  refine ⟨⟨xs, v, hs, hv⟩, fun x H' y => ?_⟩
  obtain ⟨rfl, y⟩ := y
  have e : x = v := Option.some.inj ((y xs hs).symm.trans hv)
  subst e
  exact ⟨g1, Le.refl _, hh1, rv.monoW l1⟩
theorem it_str {K : PySem.W.Frag} {g : G} (z : Str) : ItOk K g (z.cps.toList.map fun c => D.str ⟨#[c]⟩) (Its z) := by
  intro i H1 g1 S1 l1 hh1
  refine ⟨fun d hd => ?_, fun hi => (show z.cps.size ≤ i by simpa using hi)⟩
  rw [List.getElem?_map] at hd
  cases hc : z.cps.toList[i]? with
  | none => rw [hc] at hd; cases hd
  | some ch =>
    rw [hc] at hd
    cases hd
    have hc' : z.cps[i]? = some ch := by simpa using hc
    have hl : i < z.cps.size := by
      have := (List.getElem?_eq_some_iff.mp hc).1
      simpa using this
    refine ⟨hl, fun x H' y => ?_⟩
    obtain ⟨rfl, c', h1, rfl⟩ := y
    rw [hc'] at h1
    cases h1
    exact ⟨g1, Le.refl _, hh1, .str _⟩
theorem i_seq (h : PE X ea (tE X.K Φ ca)) : PI X tg ea (tI X.K Φ ca) := by
  refine (PI.or (PI.or (pi_list h) (pi_tup h)) (pi_str h)).imp fun σ H R q => ?_
  obtain ⟨g, fr, S, d, S', l, hf, hh, e, hl, q⟩ := tI_in q
  cases d with
  | lst ds =>
    cases hl
    refine .inl (.inl (tE_in hf hh e fun v H' g' le hh' r => ?_))
    cases r with
    | lst ha rl => exact ⟨_, rfl, ⟨_, .inl (.inl (hh'.same _ _ ha))⟩, q H' g' _ le hh' (it_list ha rl)⟩
  | tup ds =>
    cases hl
    refine .inl (.inr (tE_in hf hh e fun v H' g' le hh' r => ?_))
    cases r with
    | tup ha rl => exact ⟨_, rfl, ⟨_, sqT_mono hh'.same ha⟩, q H' g' _ le hh' (it_tup ha rl)⟩
  | str z =>
    cases hl
    refine .inr (tE_in hf hh e fun v H' g' le hh' r => ?_)
    cases r with
    | str => exact ⟨z, rfl, q H' g' _ le hh' (it_str z)⟩
  | itr ds =>
    cases hl
    refine .inl (.inl (tE_in hf hh e fun v H' g' le hh' r => ?_))
    cases r
  | _ => cases hl
theorem it_range {K : PySem.W.Frag} {g : G} (lo : Int) (n : Nat) : ItOk K g ((List.range n).map fun k => D.int (lo + (k : Nat))) (Itr lo n) := by
  intro i H1 g1 S1 l1 hh1
  refine ⟨fun d hd => ?_, fun hi => (show n ≤ i by simpa using hi)⟩
  rw [List.getElem?_map] at hd
  by_cases hi : i < n
  · rw [List.getElem?_range hi] at hd
    cases hd
    refine ⟨hi, fun x H' y => ?_⟩
    obtain ⟨rfl, rfl⟩ := y
    exact ⟨g1, Le.refl _, hh1, .int _⟩
  · rw [List.getElem?_eq_none (by simpa using hi)] at hd
    cases hd
def rangeN : Str := "range"
theorem i_range1 (G : GX T Φ k X) (C : CtxOk c X) (hb : rangeN ∈ T.blt) (hg : c.gl rangeN = true) (ha : PA X [ea] (tEs X.K Φ [ca])) (hs : isStar ea = false) : PI X tg (.Call (.Name rangeN p) [ea] [] pos) (tI X.K Φ (.range [ca])) := by
  refine (pi_range1 (C.gl hg).1 (G.blt _ hb).1 ha (star_cons hs)).imp fun σ H R q => ?_
  obtain ⟨g, fr, S, d, S', l, hf, hh, e, hl, q⟩ := tI_in q
  have e : (evEs Φ [ca] fr S).bind (fun xs S1 => match rangeD xs with | some l => Res.ok (D.itr l) S1 | none => .no) = .ok d S' := e
  cases e1 : evEs Φ [ca] fr S with
  | ok xs S1 =>
    rw [e1] at e
    have e : (match rangeD xs with | some l => Res.ok (D.itr l) S1 | none => .no) = .ok d S' := e
    cases er : rangeD xs with
    | none => rw [er] at e; cases e
    | some l' =>
      rw [er] at e
      cases e
      cases hl
      refine tEs_in hf hh e1 fun vs H' g' le hh' r => ?_
      unfold rangeD at er
      split at er
      · split at er
        · rename_i j hj
          have hj := inR_iff.1 hj
          cases er
          obtain ⟨v, rfl, rv⟩ := r.one
          cases rv
          refine ⟨j, rfl, hj.1, hj.2, q H' g' _ le hh' ?_⟩
          have z := it_range (K := X.K) (g := g') 0 j.toNat
          simpa using z
        · cases er
      · obtain ⟨x1, S2, z1, z2⟩ : ∃ x S2, evE Φ ca fr S = .ok x S2 ∧ True := by
          have e1 : (evE Φ ca fr S).bind (fun x S1 => (evEs Φ [] fr S1).bind fun xs S2 => Res.ok (x :: xs) S2) = _ := e1
          cases h : evE Φ ca fr S with
          | ok x S2 => exact ⟨x, S2, rfl, trivial⟩
          | ex => rw [h] at e1; cases e1
          | no => rw [h] at e1; cases e1
        have e1 : (evE Φ ca fr S).bind (fun x S1 => (evEs Φ [] fr S1).bind fun xs S2 => Res.ok (x :: xs) S2) = _ := e1
        rw [z1] at e1
        cases e1
      · cases er
  | ex => rw [e1] at e; cases e
  | no => rw [e1] at e; cases e
theorem i_range2 {eb : Expr} {cb : E} (G : GX T Φ k X) (C : CtxOk c X) (hb : rangeN ∈ T.blt) (hg : c.gl rangeN = true) (ha : PA X [ea, eb] (tEs X.K Φ [ca, cb])) (hs : isStar ea = false) (hs2 : isStar eb = false) : PI X tg (.Call (.Name rangeN p) [ea, eb] [] pos) (tI X.K Φ (.range [ca, cb])) := by
  refine (pi_range2 (C.gl hg).1 (G.blt _ hb).1 ha (by rw [star_cons hs, star_cons hs2]; rfl) (star_cons hs2)).imp fun σ H R q => ?_
  obtain ⟨g, fr, S, d, S', l, hf, hh, e, hl, q⟩ := tI_in q
  have e : (evEs Φ [ca, cb] fr S).bind (fun xs S1 => match rangeD xs with | some l => Res.ok (D.itr l) S1 | none => .no) = .ok d S' := e
  cases e1 : evEs Φ [ca, cb] fr S with
  | ok xs S1 =>
    rw [e1] at e
    have e : (match rangeD xs with | some l => Res.ok (D.itr l) S1 | none => .no) = .ok d S' := e
    have two : ∃ x y, xs = [x, y] := by
      have e1 : (evE Φ ca fr S).bind (fun x S1 => ((evE Φ cb fr S1).bind fun x S1 => (evEs Φ [] fr S1).bind fun xs S2 => Res.ok (x :: xs) S2).bind fun xs S2 => Res.ok (x :: xs) S2) = _ := e1
      cases h : evE Φ ca fr S with
      | ok x S2 =>
        rw [h] at e1
        have e1 : ((evE Φ cb fr S2).bind fun x S1 => (evEs Φ [] fr S1).bind fun xs S2 => Res.ok (x :: xs) S2).bind (fun xs S2 => Res.ok (x :: xs) S2) = _ := e1
        cases h2 : evE Φ cb fr S2 with
        | ok y S3 => rw [h2] at e1; cases e1; exact ⟨x, y, rfl⟩
        | ex => rw [h2] at e1; cases e1
        | no => rw [h2] at e1; cases e1
      | ex => rw [h] at e1; cases e1
      | no => rw [h] at e1; cases e1
    obtain ⟨x, y, rfl⟩ := two
    cases er : rangeD [x, y] with
    | none => rw [er] at e; cases e
    | some l' =>
      rw [er] at e
      cases e
      cases hl
      refine tEs_in hf hh e1 fun vs H' g' le hh' r => ?_
      obtain ⟨v, u, rfl, rv, ru⟩ := r.two
      cases rv with
      | int i => cases ru with
        | int j =>
          have er : (if inR i = true ∧ inR j = true then some ((List.range (j - i).toNat).map fun k => D.int (i + (k : Nat))) else none) = some l := er
          split at er
          · rename_i hj
            have hj : -(2 ^ 62) ≤ i ∧ i < 2 ^ 62 ∧ -(2 ^ 62) ≤ j ∧ j < 2 ^ 62 := ⟨(inR_iff.1 hj.1).1, (inR_iff.1 hj.1).2, (inR_iff.1 hj.2).1, (inR_iff.1 hj.2).2⟩
            cases er
            exact ⟨i, j, rfl, hj, q H' g' _ le hh' (it_range i _)⟩
          · cases er
        | _ => cases er
      | _ => cases er
  | ex => rw [e1] at e; cases e
  | no => rw [e1] at e; cases e
end

/-! ### comprehensions -/
section
variable {X : Cx} {c : Ctx} {T : Tab} {Φ : Fns} {k : Nat} {pos : Pos} {ec : Expr} {cc : E}
theorem ts_nil : PTs X [] (tTs X.K Φ []) := pts_nil.imp fun σ H Q ⟨g, fr, S, hf, hh, h⟩ => (show BPost X.K g true S Q from h) H g (Le.refl g) hh
theorem ts_one (h : PT X ec (tT X.K Φ cc)) : PTs X [ec] (tTs X.K Φ [cc]) := (pts_one h).imp fun σ H Q ⟨g, fr, S, hf, hh, h⟩ => by
  obtain ⟨x, S1, e1, h⟩ := RPost.bind h
  cases ht : truth S1 x with
  | none => rw [ht] at h; exact h.elim
  | some t =>
    rw [ht] at h
    refine tT_in hf hh (evT_of e1 ht) fun H1 g1 l1 hh1 => ?_
    cases t with
    | true => exact (show BPost X.K g true S1 Q from h) H1 g1 l1 hh1
    | false => exact (show BPost X.K g false S1 Q from h) H1 g1 l1 hh1
theorem back_self (g : G) : g.back g.pv = g := rfl
theorem back_set {g : G} {D : Addr} {o : HO} {q : Hp} : (g.set D o).back q = g.back q := rfl
theorem FrOk.monoW {K : PySem.W.Frag} {g g1 : G} {fr : Fr} {σ : L2.St} (h : Le g (g1.back g.pv)) (r : FrOk K g fr σ) : FrOk K g1 fr σ := (r.mono h).pv (q := g1.pv)
/-- the turns of a comprehension, the new list at A -/
theorem comp_turns {K : PySem.W.Frag} {g : G} {fr : Fr} {S : Store} {σ : L2.St} {H : Hp} {A : Addr} {l : List D} {J : It} {p : Pat} {cs : List E} {ce : E} {vs : List Nat} {Qd : Hp → Prop} (hf : FrOk K g fr σ) (hh : HpOk K g S H) (hJ : ItOk K g l J) (hA : H A = none) (hp : ∀ i ∈ p.slots, i ∈ vs)
    (hq : RPost (fun r S' => ∀ H' g' xs, Le g (g'.back g.pv) → HpOk K g' S' H' → g'.pv = upd g.pv A (.lst xs) → RepL K g' r xs → Qd H') (compF p (evTs Φ cs) (evE Φ ce) (wipeF fr vs) l [] S)) :
    ∃ W : Nat → Nat → Hp → Prop, (∃ m, W 0 m (upd H A (.lst []))) ∧ ∀ i m H, W i m H → (J.stop i H ∧ Qd H) ∨ (J.go i H ∧ ∃ Nx : Hp → Prop, (∀ H', Nx H' → ∃ m', m' < m ∧ W (i + 1) m' H') ∧ ∀ x H', J.yld i H x H' →
      tP K p x (L2.wipe σ vs) H' fun σ2 H2 => L2.wipe σ2 vs = L2.wipe σ vs ∧ tTs K Φ cs σ2 H2 fun b H3 =>
        if b = true then tE K Φ ce σ2 H3 fun y H4 => ∃ acc, H4 A = some (.lst acc) ∧ acc.length < sizeLine ∧ Nx (upd H4 A (.lst (acc ++ [y]))) else Nx H3) := by
  let Fin := fun (r : List D) (S' : Store) => ∀ (H' : Hp) (g' : G) (xs : List V), Le g (g'.back g.pv) → HpOk K g' S' H' → g'.pv = upd g.pv A (.lst xs) → RepL K g' r xs → Qd H'
  let At := fun (i : Nat) (H1 : Hp) => ∃ g1 S1 acc xs, Le g (g1.back g.pv) ∧ HpOk K g1 S1 H1 ∧ g1.pv = upd g.pv A (.lst xs) ∧ RepL K g1 acc xs ∧ RPost Fin (compF p (evTs Φ cs) (evE Φ ce) (wipeF fr vs) (l.drop i) acc S1)
  refine ⟨fun i m H1 => m = l.length - i ∧ i ≤ l.length ∧ At i H1,
    ⟨l.length, by simp, Nat.zero_le _, g.set A (.lst []), S, [], [], Le.refl g, hh.apart hA, rfl, .nil, hq⟩, ?_⟩
  rintro i m H1 ⟨rfl, hi, g1, S1, acc, xs, l1, hh1, hpv, ra, hr⟩
  by_cases hlt : i < l.length
  · have hd : l[i]? = some l[i] := List.getElem?_eq_getElem hlt
    have hdrop : l.drop i = l[i] :: l.drop (i + 1) := List.drop_eq_getElem_cons hlt
    rw [hdrop] at hr
    obtain ⟨k1, k2⟩ := (hJ i H1 g1 S1 l1 hh1).1 _ hd
    refine .inr ⟨k1, At (i + 1), fun H' n' => ⟨l.length - (i + 1), by omega, rfl, hlt, n'⟩, fun x H2 y => ?_⟩
    obtain ⟨g2, l2, hh2, r2⟩ := k2 x H2 y
    have l02 : Le g (g2.back g.pv) := l1.trans (le_back l2)
    have fr2 : FrOk K g2 (wipeF fr vs) (L2.wipe σ vs) := (hf.wipe vs).monoW l02
    have hr : RPost Fin (match asgP p l[i] (wipeF fr vs) with | none => .no | some fr' => (evTs Φ cs fr' S1).bind fun b S1 => if b = true then (evE Φ ce fr' S1).bind fun x S2 => if acc.length < sizeLine then compF p (evTs Φ cs) (evE Φ ce) (wipeF fr vs) (l.drop (i + 1)) (acc ++ [x]) S2 else .no else compF p (evTs Φ cs) (evE Φ ce) (wipeF fr vs) (l.drop (i + 1)) acc S1) := hr
    cases ea : asgP p l[i] (wipeF fr vs) with
    | none => rw [ea] at hr; exact hr.elim
    | some fr' =>
      rw [ea] at hr
      refine ⟨g2, wipeF fr vs, S1, l[i], fr', fr2, hh2, r2, ea, fun σ2 hf2 s2 => ⟨?_, ?_⟩⟩
      · rw [s2 vs hp, wipe_wipe]
      · obtain ⟨b, S3, eb, hr⟩ := RPost.bind hr
        refine ⟨g2, fr', S1, hf2, hh2, ?_⟩
        rw [eb]
        intro H3 g3 l3 hh3
        have l03 : Le g (g3.back g.pv) := l02.trans (le_back l3)
        cases b with
        | false =>
          rw [if_neg (by decide)]
          rw [if_neg (by decide)] at hr
          exact ⟨g3, S3, acc, xs, l03, hh3, (l3.pv.trans l2.pv).trans hpv, (ra.mono l2).mono l3, hr⟩
        | true =>
          rw [if_pos rfl]
          rw [if_pos rfl] at hr
          obtain ⟨d, S4, ee, hr⟩ := RPost.bind hr
          refine ⟨g3, fr', S3, hf2.mono l3, hh3, ?_⟩
          rw [ee]
          intro v H4 g4 l4 hh4 r4
          have hpv4 : g4.pv = upd g.pv A (.lst xs) := ((l4.pv.trans l3.pv).trans l2.pv).trans hpv
          have e4 : g4.pv A = some (.lst xs) := by rw [hpv4, upd_same]
          have ra4 : RepL K g4 acc xs := ((ra.mono l2).mono l3).mono l4
          split at hr
          · rename_i hz
            refine ⟨xs, hh4.pv _ _ e4, by rw [← ra4.length]; exact hz, g4.set A (.lst (xs ++ [v])), S4, acc ++ [d], xs ++ [v], ?_, hh4.turn e4, ?_, ?_, hr⟩
            · rw [back_set]; exact l03.trans (le_back l4)
            · show upd g4.pv A _ = _
              rw [hpv4, upd_upd]
            · exact (ra4.append (.cons r4 .nil)).pv
          · exact hr.elim
  · have e : i = l.length := by omega
    subst e
    refine .inl ⟨(hJ _ H1 g1 S1 l1 hh1).2 (Nat.le_refl _), ?_⟩
    rw [List.drop_length] at hr
    exact (show Fin acc S1 from hr) H1 g1 xs l1 hh1 hpv ra
/-- a comprehension's end -/
def compE (Φ : Fns) (fz : Bool) (own : List (Str × Nat)) (p : Pat) (cs : List E) (e : E) (fr : Fr) (l : List D) (S1 : Store) : Res D := match fz with
  | true => (compF p (evTs Φ cs) (evE Φ e) (wipeF fr (own.map (·.2))) l [] S1).bind fun r S2 => .ok (.lst r) S2
  | false => (compF p (evTs Φ cs) (evE Φ e) (wipeF fr (own.map (·.2))) l [] S1).bind fun r S2 => .ok (.ref S2.length) (S2 ++ [.lst r])
theorem comp_tail {own : List (Str × Nat)} {p : Pat} {ce : E} {cs : List E} {fz : Bool} {K : PySem.W.Frag} {g g1 : G} {fr : Fr} {S1 : Store} {σ : L2.St} {H1 : Hp} {l : List D} {J : It} {Q : VK} (hp : ∀ i ∈ p.slots, i ∈ own.map (·.2)) (hf : FrOk K g fr σ) (l1 : Le g g1) (hh1 : HpOk K g1 S1 H1) (hJ : ItOk K g1 l J)
    (h : RPost (fun d S' => Post K g d S' Q) (compE Φ fz own p cs ce fr l S1)) :
    ∀ A, H1 A = none → ∃ W : Nat → Nat → Hp → Prop, (∃ m, W 0 m (upd H1 A (.lst []))) ∧ ∀ i m H, W i m H → (J.stop i H ∧ Q (.ref A) H) ∨ (J.go i H ∧ ∃ Nx : Hp → Prop, (∀ H', Nx H' → ∃ m', m' < m ∧ W (i + 1) m' H') ∧ ∀ x H', J.yld i H x H' →
      tP K p x (L2.wipe σ (own.map (·.2))) H' fun σ2 H2 => L2.wipe σ2 (own.map (·.2)) = L2.wipe σ (own.map (·.2)) ∧ tTs K Φ cs σ2 H2 fun b H3 =>
        if b = true then tE K Φ ce σ2 H3 fun y H4 => ∃ acc, H4 A = some (.lst acc) ∧ acc.length < sizeLine ∧ Nx (upd H4 A (.lst (acc ++ [y]))) else Nx H3) := by
  intro A hA
  refine comp_turns (hf.mono l1) hh1 hJ hA hp ?_
  have apart : g1.pv A = none := hh1.pv.free hA
  cases fz with
  | true =>
    obtain ⟨r, S2, e2, h⟩ := RPost.bind h
    rw [e2]
    intro H' g' xs l2 hh' hpv rl
    have eA : g'.pv A = some (.lst xs) := by rw [hpv, upd_same]
    have j := hh'.join (q := g1.pv) eA (fun a ha => by rw [hpv, upd_ne ha]) apart
    have lj : Le g' (g'.put A (.lst xs)) := Le.put (hh'.pvF A _ eA)
    refine (show Post K g (.lst r) S2 Q from h) _ _ _ (l1.trans (l2.trans (le_back lj))) j (.lst upd_same ?_)
    exact (rl.mono lj).pv
  | false =>
    obtain ⟨r, S2, e2, h⟩ := RPost.bind h
    rw [e2]
    intro H' g' xs l2 hh' hpv rl
    have eA : g'.pv A = some (.lst xs) := by rw [hpv, upd_same]
    have j := hh'.join2 (q := g1.pv) (c := .lst r) eA ⟨xs, rfl, rl⟩ (fun a ha => by rw [hpv, upd_ne ha]) apart
    have lj : Le g' (g'.add A) := Le.add A
    refine (show Post K g (.ref S2.length) (S2 ++ [.lst r]) Q from h) _ _ _ (l1.trans (l2.trans (le_back lj))) j (.ref ?_)
    show (g'.ρ ++ [A])[S2.length]? = _
    rw [hh'.len, List.getElem?_append_right (Nat.le_refl _)]
    simp
/-- a comprehension's reading -/
theorem comp_reading {own : List (Str × Nat)} {p : Pat} {ci ce : E} {cs : List E} {fz : Bool} {K : PySem.W.Frag} (hp : ∀ i ∈ p.slots, i ∈ own.map (·.2)) (σ : L2.St) (H : Hp) (Q : VK) (h : tE K Φ (.comp fz own p ci cs ce) σ H Q) :
    tLc (tI K Φ ci) (tP K p) (tTs K Φ cs) (tE K Φ ce) (own.map (·.2)) σ H Q := by
  obtain ⟨g, fr, S, hf, hh, h⟩ := h
  obtain ⟨x, S1, e1, h⟩ := RPost.bind h
  cases hl : iterD S1 x with
  | none => rw [hl] at h; exact h.elim
  | some l =>
    rw [hl] at h
    refine ⟨g, fr, S, hf, hh, ?_⟩
    rw [e1]
    exact ⟨l, hl, fun H1 g1 J l1 hh1 hJ => comp_tail (fz := fz) (S1 := S1) hp hf l1 hh1 hJ h⟩
theorem e_comp {tg it elt : Expr} {ifs : List Expr} {scope : Scope} {own : List (Str × Nat)} {p : Pat} {ci ce : E} {cs : List E} {fz : Bool} (C : CtxOk c X) (hi : PI X tg it (tI X.K Φ ci)) (ok : BlkOk X.N X.env.scope scope own)
    (hg : ∀ (s : Shared) (H : Hp) (Q : Addr) (cl : List (Str × Addr)) (fp : List Addr), PG (X.blk s H scope (compEnvC scope cl Q X.env) fp) tg (tP X.K p)) (ht : ∀ (s : Shared) (H : Hp) (Q : Addr) (cl : List (Str × Addr)) (fp : List Addr), PTs (X.blk s H scope (compEnvC scope cl Q X.env) fp) ifs (tTs X.K Φ cs))
    (he : ∀ (s : Shared) (H : Hp) (Q : Addr) (cl : List (Str × Addr)) (fp : List Addr), PE (X.blk s H scope (compEnvC scope cl Q X.env) fp) elt (tE X.K Φ ce)) (hp : ∀ i ∈ p.slots, i ∈ own.map (·.2)) (hs : isSet it = false) :
    PE X (.ListComp elt [⟨tg, it, ifs, 0⟩] scope pos) (tE X.K Φ (.comp fz own p ci cs ce)) :=
  (pe_lc C.calm (by rw [C.N]; exact C.nd) hi ok hg ht he (fun x => fold_ok hs _ x)).imp fun σ H Q h => comp_reading hp σ H Q h
end
end Dm

/-! DmH: statements. -/
namespace Dm
open PySem L2

theorem _root_.L2.PS.imp {X : Cx} {st : Stmt} {t t' : TS} (h : PS X st t) (i : ∀ D σ H, t' D σ H → t D σ H) : PS X st t' := ⟨fun pins s σ H D I q => h.run pins s σ H D I (i D σ H q)⟩
theorem _root_.L2.PSs.imp {X : Cx} {st : List Stmt} {t t' : TS} (h : PSs X st t) (i : ∀ D σ H, t' D σ H → t D σ H) : PSs X st t' := ⟨fun pins s σ H D I q => h.run pins s σ H D I (i D σ H q)⟩

section
variable (K : PySem.W.Frag) (Φ : Fns)
def FPost (g : G) (fr : Fr) (S : Store) (Q : L2.St → Hp → Prop) : Prop := ∀ σ' H' g', Le g g' → FrOk K g' fr σ' → HpOk K g' S H' → Q σ' H'
def OutPost (g : G) (D : Ends) : Out → Store → Prop
  | .nx fr, S => FPost K g fr S D.nx
  | .ret d, S => Post K g d S D.rt
  | .bk fr, S => FPost K g fr S D.bk
  | .ct fr, S => FPost K g fr S D.ct
def tS1 (s : Dm.S) : TS := fun D σ H => ∃ g fr S, FrOk K g fr σ ∧ HpOk K g S H ∧ RPost (OutPost K g D) (evS Φ s fr S)
def tS (ss : List Dm.S) : TS := fun D σ H => ∃ g fr S, FrOk K g fr σ ∧ HpOk K g S H ∧ RPost (OutPost K g D) (evSs Φ ss fr S)
end
section
variable {K : PySem.W.Frag} {Φ : Fns} {g g' : G} {D : Ends} {S : Store}
theorem FPost.mono (h : Le g g') {fr : Fr} {Q : L2.St → Hp → Prop} (q : FPost K g fr S Q) : FPost K g' fr S Q := fun σ H g2 l f hh => q σ H g2 (h.trans l) f hh
theorem OutPost.mono (h : Le g g') {o : Out} (q : OutPost K g D o S) : OutPost K g' D o S := by
  cases o with
  | nx fr => exact FPost.mono h q
  | ret d => exact Post.mono h q
  | bk fr => exact FPost.mono h q
  | ct fr => exact FPost.mono h q
end

section
variable {X : Cx} {c : Ctx} {T : Tab} {Φ : Fns} {k : Nat} {pos p : Pos} {ea eb ec tg : Expr} {ca cb cc : E} {es : List Expr} {cs : List E} {st : Stmt} {sts : List Stmt} {s1 : Dm.S} {ss : List Dm.S}
theorem ss_nil : PSs X [] (tS X.K Φ []) := pss_nil.imp fun D σ H ⟨g, fr, S, hf, hh, h⟩ => (show FPost X.K g fr S D.nx from h) σ H g (Le.refl g) hf hh
theorem ss_cons (h1 : PS X st (tS1 X.K Φ s1)) (h2 : PSs X sts (tS X.K Φ ss)) : PSs X (st :: sts) (tS X.K Φ (s1 :: ss)) :=
  (pss_cons h1 h2).imp fun D σ H ⟨g, fr, S, hf, hh, h⟩ => by
    refine ⟨g, fr, S, hf, hh, ?_⟩
    obtain ⟨o, S1, e1, h⟩ := RPost.bind h
    rw [e1]
    cases o with
    | nx fr' => exact fun σ' H' g' l hf' hh' => ⟨g', fr', S1, hf', hh', RPost.imp h fun o S2 _ q => q.mono l⟩
    | ret d => exact (show Post X.K g d S1 D.rt from h)
    | bk fr' => exact (show FPost X.K g fr' S1 D.bk from h)
    | ct fr' => exact (show FPost X.K g fr' S1 D.ct from h)
theorem ss_fz {i : Nat} (h : PSs X sts (tS X.K Φ ss)) : PSs X sts (tS X.K Φ (.fz i :: ss)) := h.imp fun D σ H ⟨g, fr, S, hf, hh, h⟩ => by
  have h : RPost (OutPost X.K g D) ((match fr[i]? with | some (some (.ref n)) => (match cellL S n with | some l => Res.ok (Out.nx (fr.set i (some (.lst l)))) (S.set n .dead) | none => .no) | _ => .no).bind fun o S1 => match o with
    | .nx fr' => evSs Φ ss fr' S1
    | .ret d => .ok (.ret d) S1
    | .bk fr' => .ok (.bk fr') S1
    | .ct fr' => .ok (.ct fr') S1) := h
  split at h
  · rename_i n hi
    cases hc : cellL S n with
    | none => rw [hc] at h; exact h.elim
    | some l =>
      rw [hc] at h
      obtain ⟨v, hv, r⟩ := hf.at_ i _ hi
      cases r with
      | ref er =>
        rename_i a
        obtain ⟨xs, hh2, le, r2⟩ := hh.freeze (cellL_eq hc) er
        have hf2 := (hf.mono le).set (i := i) r2
        have eσ : σ.set i (some (V.ref a)) = σ := by
          refine List.ext_getElem? fun j => ?_
          by_cases hj : i = j
          · subst hj
            rw [List.getElem?_set_self (by exact (List.getElem?_eq_some_iff.mp hv).1), hv]
          · rw [List.getElem?_set_ne hj]
        rw [eσ] at hf2
        exact ⟨_, _, _, hf2, hh2, RPost.imp h fun o S2 _ q => q.mono le⟩
  · exact h.elim

/-! single statements -/
theorem s_pass : PS X (.Pass pos) (tS1 X.K Φ .pass) := ps_pass.imp fun D σ H ⟨g, fr, S, hf, hh, h⟩ => (show FPost X.K g fr S D.nx from h) σ H g (Le.refl g) hf hh
theorem s_brk : PS X (.Break pos) (tS1 X.K Φ .brk) := ps_break.imp fun D σ H ⟨g, fr, S, hf, hh, h⟩ => (show FPost X.K g fr S D.bk from h) σ H g (Le.refl g) hf hh
theorem s_cnt : PS X (.Continue pos) (tS1 X.K Φ .cnt) := ps_continue.imp fun D σ H ⟨g, fr, S, hf, hh, h⟩ => (show FPost X.K g fr S D.ct from h) σ H g (Le.refl g) hf hh
theorem s_ret (ha : PE X ea (tE X.K Φ ca)) : PS X (.Return (some ea) pos) (tS1 X.K Φ (.ret ca)) := (ps_ret ha).imp fun D σ H ⟨g, fr, S, hf, hh, h⟩ => by
  obtain ⟨x, S1, e1, h⟩ := RPost.bind h
  exact tE_in hf hh e1 (show Post X.K g x S1 D.rt from h)
theorem s_expr (ha : PE X ea (tE X.K Φ ca)) (hc : isComp ea = false) : PS X (.Expr ea pos) (tS1 X.K Φ (.expr ca)) := (ps_expr ha (swaps_no hc _ _ _)).imp fun D σ H ⟨g, fr, S, hf, hh, h⟩ => by
  obtain ⟨x, S1, e1, h⟩ := RPost.bind h
  exact tE_in hf hh e1 fun v H1 g1 l1 hh1 _ => (show FPost X.K g fr S1 D.nx from h) σ H1 g1 l1 (hf.mono l1) hh1
theorem asg_in {K : PySem.W.Frag} {g : G} {D : Ends} {fr : Fr} {S : Store} {σ : L2.St} {H : Hp} {p : Pat} {x : Dm.D} {v : V} (hf : FrOk K g fr σ) (hh : HpOk K g S H) (r : Rep K g x v) (h : RPost (OutPost K g D) (match asgP p x fr with | some fr' => Res.ok (Out.nx fr') S | none => .no)) : tP K p v σ H D.nx := by
  cases ea : asgP p x fr with
  | none => rw [ea] at h; exact h.elim
  | some fr' =>
    rw [ea] at h
    exact ⟨g, fr, S, x, fr', hf, hh, r, ea, fun σ' hf' _ => (show FPost K g fr' S D.nx from h) σ' H g (Le.refl g) hf' hh⟩
theorem s_asg {pt : Pat} (ha : PE X ea (tE X.K Φ ca)) (hg : PG X tg (tP X.K pt)) (hs : swapsWithSole [tg] ea pos.line X.env = pure false) (hw : swappedStores [tg] ea X.env = pure none) (h1 : (assignEach [tg] X.env).map (·.2) = [assign tg X.env]) :
    PS X (.Assign [tg] ea pos) (tS1 X.K Φ (.asg pt ca)) := (ps_asg ha hg hs hw h1).imp fun D σ H ⟨g, fr, S, hf, hh, h⟩ => by
  obtain ⟨x, S1, e1, h⟩ := RPost.bind h
  exact tE_in hf hh e1 fun v H1 g1 l1 hh1 r1 => asg_in (hf.mono l1) hh1 r1 (RPost.imp h fun o S2 _ q => q.mono l1)
/-- name = [..] on one line -/
theorem s_asgLc {i : Nat} {y : Str} {py : Pos} {it elt : Expr} {ifs : List Expr} {scope : Scope} {own : List (Str × Nat)} {cpos : Pos} {pt : Pat} {ci ce : E} {cs : List E} {fz : Bool} (C : CtxOk c X) (hy : c.N[i]? = some y) (hyl : c.sc.names.lookup y = some .local) (hk : c.sc.kind = .function)
    (hl : (py.line == cpos.line) = true) (han : (scope.names.any fun (n, k) => n == y && (k == .local || k == .cell)) = false) (hi : PI X tg it (tI X.K Φ ci)) (ok : BlkOk X.N X.env.scope scope own)
    (hg : ∀ (s : Shared) (H : Hp) (Q : Addr) (cl : List (Str × Addr)) (fp : List Addr), PG (X.blk s H scope (compEnvC scope cl Q X.env) fp) tg (tP X.K pt)) (ht : ∀ (s : Shared) (H : Hp) (Q : Addr) (cl : List (Str × Addr)) (fp : List Addr), PTs (X.blk s H scope (compEnvC scope cl Q X.env) fp) ifs (tTs X.K Φ cs))
    (he : ∀ (s : Shared) (H : Hp) (Q : Addr) (cl : List (Str × Addr)) (fp : List Addr), PE (X.blk s H scope (compEnvC scope cl Q X.env) fp) elt (tE X.K Φ ce)) (hp : ∀ i ∈ pt.slots, i ∈ own.map (·.2)) (hs : isSet it = false) :
    PS X (.Assign [.Name y py] (.ListComp elt [⟨tg, it, ifs, 0⟩] scope cpos) pos) (tS1 X.K Φ (.asg (.v i) (.comp fz own pt ci cs ce))) := by
  have hyl' : X.env.scope.names.lookup y = some .local := by rw [C.sc]; exact hyl
  refine (ps_setLc C.calm (by rw [C.N]; exact C.nd) (by rw [C.N]; exact hy) hyl' (sw_true (by rw [C.sc]; exact hk) hyl' hl han) hi ok hg ht he (fun x => fold_ok hs _ x)).imp fun D σ H ⟨g, fr, S, hf, hh, h⟩ => ?_
  obtain ⟨x, S1, e1, h⟩ := RPost.bind h
  refine comp_reading hp σ H (fun x H1 => gName i x σ H1 D.nx) (tE_in hf hh e1 fun v H1 g1 l1 hh1 r1 => ?_)
  exact (show FPost X.K g (fr.set i (some x)) S1 D.nx from h) _ H1 g1 l1 ((hf.mono l1).set r1) hh1
theorem tup_eq {cs : List E} {fr : Fr} {S : Store} : evE Φ (.tup cs) fr S = (evEs Φ cs fr S).bind fun xs S1 => if xs.length ≤ sizeLine then .ok (.tup xs) S1 else .no := rfl
/-- a, b = x, y by names -/
theorem s_par {i j : Nat} {x y : Str} {px py pt : Pos} {kt k2 pt2} {a b : Expr} (C : CtxOk c X) (hi : c.N[i]? = some x) (hj : c.N[j]? = some y) (hij : i ≠ j) (hx : c.sc.names.lookup x = some .local) (hy : c.sc.names.lookup y = some .local) (ha : PA X [a, b] (tEs X.K Φ [ca, cb]))
    (hw : swappedStores [.Tuple [.Name x px, .Name y py] kt pt] (.Tuple [a, b] k2 pt2) X.env = pure (some [x, y])) :
    PS X (.Assign [.Tuple [.Name x px, .Name y py] kt pt] (.Tuple [a, b] k2 pt2) pos) (tS1 X.K Φ (.asg (.t [.v i, .v j]) (.tup [ca, cb]))) := by
  refine (ps_par C.calm (by rw [C.N]; exact C.nd) (by rw [C.N]; exact hi) (by rw [C.N]; exact hj) hij (by rw [C.sc]; exact hx) (by rw [C.sc]; exact hy) ha hw).imp fun D σ H ⟨g, fr, S, hf, hh, h⟩ => ?_
  obtain ⟨z, S1, e1, h⟩ := RPost.bind h
  obtain ⟨xs, S2, e2, h2⟩ := RPost.bind (P := fun d' S' => d' = z ∧ S' = S1) (r := evEs Φ [ca, cb] fr S) (by rw [← tup_eq, e1]; exact ⟨rfl, rfl⟩)
  refine tEs_in hf hh e2 fun vs H1 g1 l1 hh1 r1 => ?_
  split at h2
  · obtain ⟨rfl, rfl⟩ := h2
    have hlen : ∃ x1 x2, xs = [x1, x2] := by
      match xs, h with
      | [], h => exact h.elim
      | [_], h => exact h.elim
      | [x1, x2], _ => exact ⟨x1, x2, rfl⟩
      | _ :: _ :: _ :: _, h => exact h.elim
    obtain ⟨x1, x2, rfl⟩ := hlen
    obtain ⟨v, u, rfl, rv, ru⟩ := r1.two
    refine ⟨v, u, rfl, ?_⟩
    exact (show FPost X.K g ((fr.set i (some x1)).set j (some x2)) S2 D.nx from h) _ H1 g1 l1 (((hf.mono l1).set rv).set ru) hh1
  · exact h2.elim
theorem s_par3 {i j l : Nat} {x y z : Str} {px py pz pt : Pos} {kt k2 pt2} {a b d : Expr} {cd : E} (C : CtxOk c X) (hi : c.N[i]? = some x) (hj : c.N[j]? = some y) (hl : c.N[l]? = some z) (hij : i ≠ j) (hil : i ≠ l) (hjl : j ≠ l) (hx : c.sc.names.lookup x = some .local) (hy : c.sc.names.lookup y = some .local) (hz : c.sc.names.lookup z = some .local) (ha : PA X [a, b, d] (tEs X.K Φ [ca, cb, cd]))
    (hw : swappedStores [.Tuple [.Name x px, .Name y py, .Name z pz] kt pt] (.Tuple [a, b, d] k2 pt2) X.env = pure (some [x, y, z])) :
    PS X (.Assign [.Tuple [.Name x px, .Name y py, .Name z pz] kt pt] (.Tuple [a, b, d] k2 pt2) pos) (tS1 X.K Φ (.asg (.t [.v i, .v j, .v l]) (.tup [ca, cb, cd]))) := by
  refine (ps_par3 C.calm (by rw [C.N]; exact C.nd) (by rw [C.N]; exact hi) (by rw [C.N]; exact hj) (by rw [C.N]; exact hl) hij hil hjl (by rw [C.sc]; exact hx) (by rw [C.sc]; exact hy) (by rw [C.sc]; exact hz) ha hw).imp fun D σ H ⟨g, fr, S, hf, hh, h⟩ => ?_
  obtain ⟨z, S1, e1, h⟩ := RPost.bind h
  obtain ⟨xs, S2, e2, h2⟩ := RPost.bind (P := fun d' S' => d' = z ∧ S' = S1) (r := evEs Φ [ca, cb, cd] fr S) (by rw [← tup_eq, e1]; exact ⟨rfl, rfl⟩)
  refine tEs_in hf hh e2 fun vs H1 g1 l1 hh1 r1 => ?_
  split at h2
  · obtain ⟨rfl, rfl⟩ := h2
    have hlen : ∃ x1 x2 x3, xs = [x1, x2, x3] := by
      match xs, h with
      | [], h => exact h.elim
      | [_], h => exact h.elim
      | [_, _], h => exact h.elim
      | [x1, x2, x3], _ => exact ⟨x1, x2, x3, rfl⟩
      | _ :: _ :: _ :: _ :: _, h => exact h.elim
    obtain ⟨x1, x2, x3, rfl⟩ := hlen
    cases r1 with
    | cons r1 rr =>
      obtain ⟨v, u, rfl, rv, ru⟩ := rr.two
      refine ⟨_, v, u, rfl, ?_⟩
      exact (show FPost X.K g (((fr.set i (some x1)).set j (some x2)).set l (some x3)) S2 D.nx from h) _ H1 g1 l1 ((((hf.mono l1).set r1).set rv).set ru) hh1
  · exact h2.elim
/-- o[i] = e -/
theorem s_setI (ha : PE X ea (tE X.K Φ ca)) (ho : PE X eb (tE X.K Φ cb)) (hi : PE X ec (tE X.K Φ cc)) (hs : swapsWithSole [.Subscript eb ec p] ea pos.line X.env = pure false) (hq : isSlc ec = false) : PS X (.Assign [.Subscript eb ec p] ea pos) (tS1 X.K Φ (.setI cb cc ca)) :=
  (ps_asg ha (pg_sub ho hi set_list (fun v => by cases ec <;> first | rfl | cases hq)) hs).imp fun D σ H ⟨g, fr, S, hf, hh, h⟩ => by
    obtain ⟨x, S1, e1, h⟩ := RPost.bind h
    obtain ⟨y, S2, e2, h⟩ := RPost.bind h
    obtain ⟨z, S3, e3, h⟩ := RPost.bind h
    refine tE_in hf hh e1 fun v H1 g1 l1 hh1 r1 => tE_in (hf.mono l1) hh1 e2 fun u H2 g2 l2 hh2 r2 => tE_in (hf.mono (l1.trans l2)) hh2 e3 fun w H3 g3 l3 hh3 r3 => ?_
    have r2' := r2.mono l3
    cases y with
    | ref n =>
      obtain ⟨a, rfl, er⟩ : ∃ a, u = V.ref a ∧ g3.ρ[n]? = some a := by
        cases r2' with
        | ref er => exact ⟨_, rfl, er⟩
      cases r3 with
      | int i =>
        have h : RPost (OutPost X.K g D) (match cellL S3 n with | some l => (match ixN l.length i with | some j => Res.ok (Out.nx fr) (S3.set n (.lst (l.set j x))) | none => .no) | none => .no) := h
        cases hc : cellL S3 n with
        | none => rw [hc] at h; exact h.elim
        | some l =>
          rw [hc] at h
          have h : RPost (OutPost X.K g D) (match ixN l.length i with | some j => Res.ok (Out.nx fr) (S3.set n (.lst (l.set j x))) | none => .no) := h
          cases hj : ixN l.length i with
          | none => rw [hj] at h; exact h.elim
          | some j =>
            rw [hj] at h
            obtain ⟨xs, ho, rl⟩ := hh3.lst hc er
            refine ⟨a, xs, i, j, rfl, rfl, ho, by rw [← rl.length]; exact hj, ?_⟩
            have lt := (l1.trans l2).trans l3
            exact (show FPost X.K g fr _ D.nx from h) σ _ g3 lt (hf.mono lt) (hh3.write (cellL_eq hc) rfl er ⟨_, rfl, rl.set ((r1.mono l2).mono l3) j⟩)
      | _ => exact h.elim
    | _ => exact h.elim
theorem s_aug {i : Nat} {x : Str} {px : Pos} (C : CtxOk c X) (hx : c.st x i = true) (ha : PE X ea (tE X.K Φ ca)) : PS X (.AugAssign (.Name x px) .Add ea pos) (tS1 X.K Φ (.aug .Add i ca)) := by
  have hx' := hx
  unfold Ctx.st at hx'
  rw [Bool.and_eq_true] at hx'
  obtain ⟨h1, h4⟩ := hx'
  have h1 := of_decide_eq_true h1
  have both : Loc X.env.scope x ∧ (X.fn x = true ∨ X.env.scope.names.lookup x = some .local) := by
    cases ho : c.own.names.lookup x with
    | none => rw [ho] at h4; cases h4
    | some k =>
      rw [ho] at h4
      cases k with
      | «local» =>
        have hl' : X.env.scope.names.lookup x = some .local := by rw [C.sc]; exact C.loc x ho
        exact ⟨.inl hl', .inr hl'⟩
      | cell =>
        obtain ⟨hl, hf⟩ := C.cell x ho
        exact ⟨by rw [C.sc]; exact hl, .inl hf⟩
      | _ => cases h4
  refine (ps_aug (by rw [C.N]; exact C.nd) (by rw [C.N]; exact h1) both.1 ha ip_add both.2).imp fun D σ H ⟨g, fr, S, hf, hh, h⟩ => ?_
  have h : RPost (OutPost X.K g D) (match fr[i]? with | some (some x) => ((evE Φ ca fr S).bind fun y S1 => match Operator.Add, x, y with | .Add, .int a, .int b => Res.ok (Out.nx (fr.set i (some (.int (a + b))))) S1 | _, _, _ => .no) | _ => .no) := h
  split at h
  · rename_i d hd
    obtain ⟨v, hv, rv⟩ := hf.at_ i d hd
    obtain ⟨y, S1, e1, h⟩ := RPost.bind h
    refine ⟨v, hv, tE_in hf hh e1 fun u H1 g1 l1 hh1 r1 => ?_⟩
    cases rv with
    | int a => cases r1 with
      | int b => exact ⟨a, b, rfl, rfl, (show FPost X.K g _ S1 D.nx from h) _ H1 g1 l1 ((hf.mono l1).set (.int _)) hh1⟩
      | _ => exact h.elim
    | _ => exact h.elim
  · exact h.elim
theorem s_iff {a b : List Stmt} {sa sb : List Dm.S} (hc : PT X ec (tT X.K Φ cc)) (ha : PSs X a (tS X.K Φ sa)) (hb : PSs X b (tS X.K Φ sb)) : PS X (.If ec a b pos) (tS1 X.K Φ (.iff cc sa sb)) :=
  (ps_if hc ha hb).imp fun D σ H ⟨g, fr, S, hf, hh, h⟩ => by
    obtain ⟨t, S1, e1, h⟩ := RPost.bind h
    refine tT_in hf hh e1 fun H1 g1 l1 hh1 => ?_
    cases t with
    | true => exact ⟨g1, fr, S1, hf.mono l1, hh1, RPost.imp h fun o S2 _ q => q.mono l1⟩
    | false => exact ⟨g1, fr, S1, hf.mono l1, hh1, RPost.imp h fun o S2 _ q => q.mono l1⟩
theorem s_whl {a : List Stmt} {sa : List Dm.S} (hp : PassesOwn (model X.prog X.w) X.A X.env X.xe) (hc : PT X ec (tT X.K Φ cc)) (ha : PSs X a (tS X.K Φ sa)) : PS X (.While ec a [] pos) (tS1 X.K Φ (.whl cc sa)) :=
  (ps_while hp hc ha).imp fun D σ H ⟨g, fr, S, hf, hh, h⟩ => by
    refine ⟨fun n σ1 H1 => ∃ g1 fr1 S1, FrOk X.K g1 fr1 σ1 ∧ HpOk X.K g1 S1 H1 ∧ RPost (OutPost X.K g1 D) (whileF (evT Φ cc) (evSs Φ sa) n fr1 S1), ⟨Φ.fuel, g, fr, S, hf, hh, h⟩, ?_⟩
    rintro n σ1 H1 ⟨g1, fr1, S1, hf1, hh1, h1⟩
    cases n with
    | zero => exact h1.elim
    | succ n =>
      obtain ⟨t, S2, e2, h2⟩ := RPost.bind h1
      refine tT_in hf1 hh1 e2 fun H2 g2 l2 hh2 => ?_
      cases t with
      | false =>
        rw [if_neg (by decide)]
        exact (show FPost X.K g1 fr1 S2 D.nx from h2) σ1 H2 g2 l2 (hf1.mono l2) hh2
      | true =>
        rw [if_pos rfl]
        refine ⟨_, fun σ' H' z => ⟨n, Nat.lt_succ_self n, z⟩, g2, fr1, S2, hf1.mono l2, hh2, ?_⟩
        obtain ⟨o, S3, e3, h3⟩ := RPost.bind h2
        rw [e3]
        cases o with
        | nx fr' => exact fun σ' H' g' l hf' hh' => ⟨g', fr', S3, hf', hh', RPost.imp h3 fun o S4 _ q => q.mono (l2.trans l)⟩
        | ct fr' => exact fun σ' H' g' l hf' hh' => ⟨g', fr', S3, hf', hh', RPost.imp h3 fun o S4 _ q => q.mono (l2.trans l)⟩
        | bk fr' => exact FPost.mono l2 (show FPost X.K g1 fr' S3 D.nx from h3)
        | ret d => exact Post.mono l2 (show Post X.K g1 d S3 D.rt from h3)
theorem s_for {it : Expr} {a : List Stmt} {sa : List Dm.S} {ci : E} {pt : Pat} (hp : PassesOwn (model X.prog X.w) X.A X.env X.xe) (C : CtxOk c X) (hi : PI X tg it (tI X.K Φ ci)) (hg : PG X tg (tP X.K pt)) (ha : PSs X a (tS X.K Φ sa)) (hs : isSet it = false) :
    PS X (.For tg it a [] pos) (tS1 X.K Φ (.for_ pt ci sa)) :=
  (ps_for hp C.calm hi hg ha (fun x => fold_ok hs _ x)).imp fun D σ H ⟨g, fr, S, hf, hh, h⟩ => by
    obtain ⟨x, S1, e1, h⟩ := RPost.bind h
    cases hl : iterD S1 x with
    | none => rw [hl] at h; exact h.elim
    | some l =>
      rw [hl] at h
      refine ⟨g, fr, S, hf, hh, ?_⟩
      rw [e1]
      refine ⟨l, hl, fun H1 g1 J l1 hh1 hJ => ?_⟩
      refine ⟨fun i m σ2 H2 => m = l.length - i ∧ i ≤ l.length ∧ ∃ g2 fr2 S2, Le g1 g2 ∧ FrOk X.K g2 fr2 σ2 ∧ HpOk X.K g2 S2 H2 ∧ RPost (OutPost X.K g2 D) (forF pt (evSs Φ sa) (l.drop i) fr2 S2),
        ⟨l.length, by simp, Nat.zero_le _, g1, fr, S1, Le.refl _, hf.mono l1, hh1, RPost.imp h fun o S4 _ q => q.mono l1⟩, ?_⟩
      rintro i m σ2 H2 ⟨rfl, hi, g2, fr2, S2, l2, hf2, hh2, h2⟩
      by_cases hlt : i < l.length
      · have hd : l[i]? = some l[i] := List.getElem?_eq_getElem hlt
        rw [List.drop_eq_getElem_cons hlt] at h2
        obtain ⟨k1, k2⟩ := (hJ i H2 g2 S2 (leW l2) hh2).1 _ hd
        refine .inr ⟨k1, fun σ' H' => ∃ g2 fr2 S2, Le g1 g2 ∧ FrOk X.K g2 fr2 σ' ∧ HpOk X.K g2 S2 H' ∧ RPost (OutPost X.K g2 D) (forF pt (evSs Φ sa) (l.drop (i + 1)) fr2 S2), fun σ' H' z => ⟨l.length - (i + 1), by omega, rfl, hlt, z⟩, fun x H3 y => ?_⟩
        obtain ⟨g3, l3, hh3, r3⟩ := k2 x H3 y
        have h2 : RPost (OutPost X.K g2 D) (match asgP pt l[i] fr2 with | none => .no | some fr1 => (evSs Φ sa fr1 S2).bind fun o S2 => match o with
          | .nx fr' => forF pt (evSs Φ sa) (l.drop (i + 1)) fr' S2
          | .ct fr' => forF pt (evSs Φ sa) (l.drop (i + 1)) fr' S2
          | .bk fr' => .ok (.nx fr') S2
          | .ret d => .ok (.ret d) S2) := h2
        cases ea : asgP pt l[i] fr2 with
        | none => rw [ea] at h2; exact h2.elim
        | some fr3 =>
          rw [ea] at h2
          refine ⟨g3, fr2, S2, l[i], fr3, hf2.mono l3, hh3, r3, ea, fun σ4 hf4 _ => ⟨g3, fr3, S2, hf4, hh3, ?_⟩⟩
          obtain ⟨o, S5, e5, h5⟩ := RPost.bind h2
          rw [e5]
          cases o with
          | nx fr' => exact fun σ' H' g' lq hf' hh' => ⟨g', fr', S5, (l2.trans l3).trans lq, hf', hh', RPost.imp h5 fun o S4 _ q => q.mono (l3.trans lq)⟩
          | ct fr' => exact fun σ' H' g' lq hf' hh' => ⟨g', fr', S5, (l2.trans l3).trans lq, hf', hh', RPost.imp h5 fun o S4 _ q => q.mono (l3.trans lq)⟩
          | bk fr' => exact FPost.mono l3 (show FPost X.K g2 fr' S5 D.nx from h5)
          | ret d => exact Post.mono l3 (show Post X.K g2 d S5 D.rt from h5)
      · have e : i = l.length := by omega
        subst e
        rw [List.drop_length] at h2
        exact .inl ⟨(hJ _ H2 g2 S2 (leW l2) hh2).2 (Nat.le_refl _), (show FPost X.K g2 fr2 S2 D.nx from h2) σ2 H2 g2 (Le.refl _) hf2 hh2⟩
end
end Dm

/-! DmL: a zip of two tuples in a name; enumerate and zip. -/
namespace Dm
open PySem L2

/-! ### several new objects at once -/
theorem un_news {P : Program} {w : World} {fs ex : List Addr} {H H' : Hp} {h h' : Heap} (x : HOk P w H h) (k : ∀ b u, h.get? b = some u → h'.get? b = some u) (hH : ∀ b, b < h.objs.size → H' b = H b) : Un fs ex H H' h h' where
  keep := fun b u q _ _ _ => k b u q
  slot := fun b u q _ _ _ => ⟨u.slots, k b u q⟩
  free := fun b u q n _ => by rw [hH b (Heap.lt_size q)]; exact n
  there := fun b u q _ => ⟨u, k b u q⟩
  tups := fun b xs q => by rw [hH b (x.lt q)]; exact q
  frzs := fun b u xs q => by rw [hH b (x.lt q)]; exact q
  tbls := fun b ps q => ⟨#[], by rw [hH b (x.lt q), q]; simp⟩
theorem hok_news {P : Program} {w : World} {H H' : Hp} {h h' : Heap} (x : HOk P w H h) (k : ∀ b u, h.get? b = some u → h'.get? b = some u) (hH : ∀ b, b < h.objs.size → H' b = H b) (new : ∀ a o, h.objs.size ≤ a → H' a = some o → ObjOk P w H' h' a o) : HOk P w H' h' := fun b u e => by
  by_cases hb : b < h.objs.size
  · rw [hH b hb] at e
    exact (x b u e).stay (fun c v _ q => k c v q) (fun c q => by rw [hH c (x.lt q)]; exact q) fun c xs q => by rw [hH c (x.lt q)]; exact q
  · exact new b u (Nat.not_lt.mp hb) e

/-! ### the five objects of zip(a, b) -/
def zO (z TI TO : Addr) : HO := .ext fun h => IsZip h z TI TO .none
def pO (T : Addr) (x y : Value) : HO := .ext fun h => IsPair h T x y
def tO5 (it a : Addr) : HO := .ext fun h => h.IsTupleIter it a 0
def HZ (H : Hp) (N : Nat) (a b : Addr) : Hp := fun c => if c = N then some (tO5 N a) else if c = N + 1 then some (tO5 (N + 1) b) else if c = N + 2 then some (pO (N + 2) (.ref N) (.ref (N + 1))) else if c = N + 3 then some (pO (N + 3) .none .none) else if c = N + 4 then some (zO (N + 4) (N + 2) (N + 3)) else H c
theorem hz_old {H : Hp} {a b : Addr} {N c : Nat} (h : c < N) : HZ H N a b c = H c := by
  have n0 : c ≠ N := by omega
  have n1 : c ≠ N + 1 := by omega
  have n2 : c ≠ N + 2 := by omega
  have n3 : c ≠ N + 3 := by omega
  have n4 : c ≠ N + 4 := by omega
  unfold HZ
  rw [if_neg n0, if_neg n1, if_neg n2, if_neg n3, if_neg n4]
def rZv (K : PySem.W.Frag) (n : Nat) : List V → Hp → VK → Prop := fun vs H Q => ∃ (a b : Addr) (xs ys : List V), vs = [.ref a, .ref b] ∧ SqT K H a xs ∧ SqT K H b ys ∧ ∀ N : Nat, (∀ c : Nat, N ≤ c → H c = none) → n ≤ N → a < N → b < N → Q (.ref (N + 4)) (HZ H N a b)
section
variable {X : Cx}
theorem cr_zipV : CallR X (.type "zip") (rZv X.K X.s_0.heap.objs.size) := by
  intro pins s σ H vs us Q I r hq
  obtain ⟨a, b, xs, ys, rfl, hx, hy, q⟩ := hq
  cases r with
  | cons r1 rr => cases rr with
    | cons r2 rr =>
      cases rr
      cases r1
      cases r2
      obtain ⟨its, rv, p1, _⟩ := I.tuple hx
      obtain ⟨its2, rv2, p2, _⟩ := I.tuple hy
      obtain ⟨o1, ho1, _⟩ := id p1
      obtain ⟨o2, ho2, _⟩ := id p2
      refine RZ.call_zipT (show s.heap.IsTuple a its.toArray from p1) (show s.heap.IsTuple b its2.toArray from p2) fun h' hz hTI hTO h1 h2 hsz hk => ?_
      have old : ∀ c : Addr, c < s.heap.objs.size → HZ H s.heap.objs.size a b c = H c := fun c hc => hz_old hc
      have fresh : ∀ c : Nat, s.heap.objs.size ≤ c → H c = none := fun c hc => I.hok.fresh hc
      refine ⟨.ref (s.heap.objs.size + 4), HZ H s.heap.objs.size a b, I.un (t' := s.toks) (un_news I.hok hk old) (hok_news I.hok hk old fun c o hc e => ?_), rfl, q _ fresh I.sz (Heap.lt_size ho1) (Heap.lt_size ho2)⟩
      unfold HZ at e
      split at e
      · rename_i ec; subst ec; cases e
        exact ⟨h1, (by obtain ⟨o, ho, _⟩ := h1; exact ⟨o, ho⟩), fun h1 h2 ⟨o, z, z2⟩ k => ⟨o, k _ z, z2⟩⟩
      · split at e
        · rename_i ec; subst ec; cases e
          exact ⟨h2, (by obtain ⟨o, ho, _⟩ := h2; exact ⟨o, ho⟩), fun h1 h2 ⟨o, z, z2⟩ k => ⟨o, k _ z, z2⟩⟩
        · split at e
          · rename_i ec; subst ec; cases e
            exact ⟨hTI, ⟨_, hTI⟩, fun h1 h2 z k => k _ z⟩
          · split at e
            · rename_i ec; subst ec; cases e
              exact ⟨hTO, ⟨_, hTO⟩, fun h1 h2 z k => k _ z⟩
            · split at e
              · rename_i ec; subst ec; cases e
                exact ⟨hz, ⟨_, hz⟩, fun h1 h2 z k => k _ z⟩
              · rw [fresh c hc] at e; cases e
/-- a name that holds such a zip: behind it the five are forgotten -/
def iZv (K : PySem.W.Frag) (n k : Nat) : TI := fun σ H R => ∃ (N : Nat) (a b : Addr) (H0 : Hp), σ[k]? = some (some (.ref (N + 4))) ∧ H = HZ H0 N a b ∧ n ≤ N ∧ a < N ∧ b < N ∧ (∀ c : Nat, N ≤ c → H0 c = none) ∧ R (RZ.ItzT K a b) H0
theorem hz_drop {H0 : Hp} {N : Nat} {a b : Addr} (h : ∀ c : Nat, N ≤ c → H0 c = none) : ItX.dropH (ItX.dropH (ItX.dropH (ItX.dropH (ItX.dropH (HZ H0 N a b) N) (N + 1)) (N + 2)) (N + 3)) (N + 4) = H0 := by
  funext c
  unfold ItX.dropH
  by_cases h4 : c = (N + 4 : Nat)
  · rw [if_pos h4, h4, h _ (by omega)]
  rw [if_neg h4]
  by_cases h3 : c = (N + 3 : Nat)
  · rw [if_pos h3, h3, h _ (by omega)]
  rw [if_neg h3]
  by_cases h2 : c = (N + 2 : Nat)
  · rw [if_pos h2, h2, h _ (by omega)]
  rw [if_neg h2]
  by_cases h1 : c = (N + 1 : Nat)
  · rw [if_pos h1, h1, h _ (by omega)]
  rw [if_neg h1]
  by_cases h0 : c = (N : Nat)
  · rw [if_pos h0, h0, h _ (by omega)]
  rw [if_neg h0]
  unfold HZ
  rw [if_neg h0, if_neg h1, if_neg h2, if_neg h3, if_neg h4]
theorem pi_zv {elts : List Expr} {kk : Nat} {tpos p : Pos} {k : Nat} {x : Str} {c : Ctx} (C : CtxOk c X) (hv : c.vis x k = true) : PI X (.Tuple elts kk tpos) (.Name x p) (iZv X.K X.s_0.heap.objs.size k) := by
  refine ⟨fun pins s σ H R I h => ?_⟩
  obtain ⟨N, a, b, H0, hs, rfl, hn, ha, hb, hN, q⟩ := h
  refine thn ((C.pe_var (pos := p) hv).run pins s σ _ (fun v H1 => v = .ref (N + 4) ∧ H1 = HZ H0 N a b) I ⟨.ref (N + 4), hs, rfl, rfl⟩) fun u s1 ⟨v, H1, I1, r1, ev, eH⟩ => ?_
  subst ev
  rw [eH] at I1
  cases r1
  have n01 : ((N + 1 : Nat)) ≠ N := by omega
  have n02 : ((N + 2 : Nat)) ≠ N := by omega
  have n03 : ((N + 3 : Nat)) ≠ N := by omega
  have n04 : ((N + 4 : Nat)) ≠ N := by omega
  have n12 : ((N + 2 : Nat)) ≠ N + 1 := by omega
  have n13 : ((N + 3 : Nat)) ≠ N + 1 := by omega
  have n14 : ((N + 4 : Nat)) ≠ N + 1 := by omega
  have n23 : ((N + 3 : Nat)) ≠ N + 2 := by omega
  have n24 : ((N + 4 : Nat)) ≠ N + 2 := by omega
  have n34 : ((N + 4 : Nat)) ≠ N + 3 := by omega
  have e0 : HZ H0 N a b N = some (tO5 N a) := by unfold HZ; rw [if_pos rfl]
  have e1 : HZ H0 N a b (N + 1 : Nat) = some (tO5 (N + 1) b) := by unfold HZ; rw [if_neg n01, if_pos rfl]
  have e2 : HZ H0 N a b (N + 2 : Nat) = some (pO (N + 2) (.ref N) (.ref (N + 1))) := by unfold HZ; rw [if_neg n02, if_neg n12, if_pos rfl]
  have e3 : HZ H0 N a b (N + 3 : Nat) = some (pO (N + 3) .none .none) := by unfold HZ; rw [if_neg n03, if_neg n13, if_neg n23, if_pos rfl]
  have e4 : HZ H0 N a b (N + 4 : Nat) = some (zO (N + 4) (N + 2) (N + 3)) := by unfold HZ; rw [if_neg n04, if_neg n14, if_neg n24, if_neg n34, if_pos rfl]
  have h0 : s1.heap.IsTupleIter N a 0 := (I1.hok _ _ e0).1
  have h1 : s1.heap.IsTupleIter (N + 1) b 0 := (I1.hok _ _ e1).1
  have h2 : IsPair s1.heap (N + 2) (.ref N) (.ref (N + 1)) := (I1.hok _ _ e2).1
  have h3 : IsPair s1.heap (N + 3) .none .none := (I1.hok _ _ e3).1
  have h4 : IsZip s1.heap (N + 4) (N + 2) (N + 3) .none := (I1.hok _ _ e4).1
  have fp : ∀ c : Nat, N ≤ c → ∀ u, HZ H0 N a b c = some u → FpOk X pins H0 c := fun c hc u hu => by
    obtain ⟨_, f1, f2, f3, f4, f5⟩ := ItX.inv_fp I1 hu (Nat.le_trans hn hc)
    exact ⟨hN c hc, f1, f2, f3, f4, f5⟩
  have dr := hz_drop (a := a) (b := b) hN
  have I2 := ItX.inv_drop I1 (a := N) e0
  have I3 := ItX.inv_drop I2 (a := (N + 1 : Nat)) (by rw [ItX.dropH_ne n01]; exact e1)
  have I4 := ItX.inv_drop I3 (a := (N + 2 : Nat)) (by rw [ItX.dropH_ne n12, ItX.dropH_ne n02]; exact e2)
  have I5 := ItX.inv_drop I4 (a := (N + 3 : Nat)) (by rw [ItX.dropH_ne n23, ItX.dropH_ne n13, ItX.dropH_ne n03]; exact e3)
  have I6 := ItX.inv_drop I5 (a := (N + 4 : Nat)) (by rw [ItX.dropH_ne n34, ItX.dropH_ne n24, ItX.dropH_ne n14, ItX.dropH_ne n04]; exact e4)
  rw [dr] at I6
  refine wpAny_pyIter_zip h4 ?_
  refine ⟨N + 4, [N + 4, N + 2, N + 3, N, N + 1], _, _, H0, rfl, I6, RZ.turn_zipT (PySem.W.ktu_apart N a b ha hb), ⟨h4, h2, ⟨_, _, h3⟩, h0, h1⟩, fun c hcm => ?_, q⟩
  have e' : c = (N + 4 : Nat) ∨ c = (N + 2 : Nat) ∨ c = (N + 3 : Nat) ∨ c = (N : Nat) ∨ c = (N + 1 : Nat) := by simpa using hcm
  rcases e' with rfl | rfl | rfl | rfl | rfl
  · exact fp _ (by omega) _ e4
  · exact fp _ (by omega) _ e2
  · exact fp _ (by omega) _ e3
  · exact fp _ (by omega) _ e0
  · exact fp _ (by omega) _ e1
theorem it_zipT {K : PySem.W.Frag} {g : G} {a b : Addr} {xs ys : List V} {l m : List D} (hx : SqT K g.F a xs) (hy : SqT K g.F b ys) (rx : RepL K g l xs) (ry : RepL K g m ys) : ItOk K g (zipD l m) (RZ.ItzT K a b) := by
  intro i H1 g1 S1 l1 hh1
  have sx : SqT K H1 a xs := sqT_mono hh1.same (sqT_mono l1.F hx)
  have sy : SqT K H1 b ys := sqT_mono hh1.same (sqT_mono l1.F hy)
  refine ⟨fun d hd => ?_, fun hi => ⟨xs, ys, sx, sy, ?_⟩⟩
  · unfold zipD at hd
    rw [List.getElem?_map] at hd
    cases hz : (l.zip m)[i]? with
    | none => rw [hz] at hd; cases hd
    | some q =>
      rw [hz] at hd
      cases hd
      obtain ⟨h1, h2⟩ := List.getElem?_zip_eq_some.mp hz
      obtain ⟨v, hv, rv⟩ := rx.get h1
      obtain ⟨u, hu, ru⟩ := ry.get h2
      refine ⟨⟨xs, ys, v, u, sx, sy, hv, hu⟩, fun x H' y => ?_⟩
      obtain ⟨T, x1, x2, rfl, nT, rfl, f1, f2⟩ := y
      have z1 : x1 = v := Option.some.inj ((f1 xs sx).symm.trans hv)
      have z2 : x2 = u := Option.some.inj ((f2 ys sy).symm.trans hu)
      subst z1
      subst z2
      have lp : Le g1 (g1.put T (.tup [x1, x2])) := Le.put (hh1.free nT)
      exact ⟨_, lp, hh1.put nT, .tup (.inl (.inl upd_same)) (.cons ((rv.monoW l1).mono lp) (.cons ((ru.monoW l1).mono lp) .nil))⟩
  · unfold zipD at hi
    rw [List.length_map, List.length_zip, rx.length, ry.length] at hi
    omega
end

/-! ### x = zip(a, b); return all([e for p in x]) -/
section
variable {K : PySem.W.Frag} {g : G}
theorem FrOk.hide {fr : Fr} {σ : L2.St} (h : FrOk K g fr σ) (i : Nat) (x : Option V) : FrOk K g (fr.set i none) (σ.set i x) := by
  refine ⟨by simpa using h.len, fun j d e => ?_⟩
  by_cases hj : i = j
  · subst hj
    rw [List.getElem?_set] at e
    split at e
    · split at e <;> cases e
    · exact absurd rfl ‹_›
  · rw [List.getElem?_set_ne hj] at e ⊢
    exact h.at_ j d e
end
def zipN : Str := "zip"
def allN : Str := "all"
section
variable {X : Cx} {c : Ctx} {T : Tab} {Φ : Fns} {k : Nat}
theorem ss_zall (G : GX T Φ k X) (C : CtxOk c X) {i : Nat} {x : Str} {px p1 p2 p3 p4 p5 tp cpos pos pos2 : Pos} {ea eb elt : Expr} {els : List Expr} {kk : Nat} {scope : Scope} {own : List (Str × Nat)} {p : Pat} {ca cb ce : E}
    (hz : zipN ∈ T.blt) (hgz : c.gl zipN = true) (ha : allN ∈ T.blt) (hga : c.gl allN = true) (hst : c.st x i = true) (hvis : c.vis x i = true)
    (pa : PA X [ea, eb] (tEs X.K Φ [ca, cb])) (hs1 : isStar ea = false) (hs2 : isStar eb = false) (ok : BlkOk X.N X.env.scope scope own)
    (hg : ∀ (s : Shared) (H : Hp) (Q : Addr) (cl : List (Str × Addr)) (fp : List Addr), PG (X.blk s H scope (compEnvC scope cl Q X.env) fp) (.Tuple els kk tp) (tP X.K p))
    (he : ∀ (s : Shared) (H : Hp) (Q : Addr) (cl : List (Str × Addr)) (fp : List Addr), PE (X.blk s H scope (compEnvC scope cl Q X.env) fp) elt (tE X.K Φ ce)) (hp : ∀ j ∈ p.slots, j ∈ own.map (·.2)) :
    PSs X [.Assign [.Name x px] (.Call (.Name zipN p1) [ea, eb] [] p2) pos, .Return (some (.Call (.Name allN p3) [.ListComp elt [⟨.Tuple els kk tp, .Name x p4, [], 0⟩] scope cpos] [] p5)) pos2] (tS X.K Φ [.zall i ca cb own p ce]) := by
  obtain ⟨z0, z1⟩ := G.blt _ hz
  obtain ⟨a0, a1⟩ := G.blt _ ha
  have h1 := ps_asg (pos := pos) (pe_callTy (pos := p2) (p := p1) cr_zipV (C.gl hgz).1 z0 PyProof.Rows.boot_zip pa z1 (C.gl hgz).2 (star_cons hs1) (star_plain (by rw [List.any_cons, hs2]; rfl))) (C.pg (pos := px) hst)
  have h2 := ps_ret (pos := pos2) (pe_callB (pos := p5) (p := p3) (cr_dall C.calm) (C.gl hga).1 a0 PyProof.Rows.boot_all (pa_cons (pe_lc (pos := cpos) (ifs := []) (tt := tTs X.K Φ []) (scope := scope) C.calm (by rw [C.N]; exact C.nd) (pi_zv (p := p4) C hvis) ok hg (fun s H Q cl fp => ts_nil (X := X.blk s H scope (compEnvC scope cl Q X.env) fp) (Φ := Φ)) he (fun _ => rfl)) pa_nil) a1 (C.gl hga).2)
  refine (pss_cons h1 (pss_cons h2 pss_nil)).imp fun D σ H ⟨g, fr, S, hf, hh, h⟩ => ?_
  obtain ⟨o, S9, e9, h⟩ := RPost.bind h
  have e9 : ((evE Φ ca fr S).bind fun x S1 => (evE Φ cb fr S1).bind fun y S2 => match x, y with
    | .tup l, .tup m => if i < fr.length then (compF p (evTs Φ []) (evE Φ ce) (wipeF (fr.set i none) (own.map (·.2))) (zipD l m) [] S2).bind fun r S3 => match boolsD r with
      | some bs => Res.ok (Out.ret (.bl (bs.all id))) S3
      | none => .no
      else .no
    | _, _ => .no) = .ok o S9 := e9
  cases e1 : evE Φ ca fr S with
  | ex => rw [e1] at e9; cases e9
  | no => rw [e1] at e9; cases e9
  | ok dx S1 =>
    rw [e1, Res.bind_ok] at e9
    cases e2 : evE Φ cb fr S1 with
    | ex => rw [e2] at e9; cases e9
    | no => rw [e2] at e9; cases e9
    | ok dy S2 =>
      rw [e2, Res.bind_ok] at e9
      have es : evEs Φ [ca, cb] fr S = .ok [dx, dy] S2 := by
        show (evE Φ ca fr S).bind (fun x S1 => ((evE Φ cb fr S1).bind fun x S1 => (evEs Φ [] fr S1).bind fun xs S2 => Res.ok (x :: xs) S2).bind fun xs S2 => Res.ok (x :: xs) S2) = _
        rw [e1, Res.bind_ok, e2]; rfl
      refine tEs_in hf hh es fun vs H1 g1 l1 hh1 r1 => ?_
      obtain ⟨v, u, rfl, rv, ru⟩ := r1.two
      cases rv with
      | tup hq rl =>
        rename_i a xs l
        cases ru with
        | tup hq2 rl2 =>
          rename_i b ys m
          have e9 : (if i < fr.length then (compF p (evTs Φ []) (evE Φ ce) (wipeF (fr.set i none) (own.map (·.2))) (zipD l m) [] S2).bind fun r S3 => match boolsD r with
            | some bs => Res.ok (Out.ret (.bl (bs.all id))) S3
            | none => .no
            else .no) = .ok o S9 := e9
          split at e9
          · rename_i hlt
            cases ec : compF p (evTs Φ []) (evE Φ ce) (wipeF (fr.set i none) (own.map (·.2))) (zipD l m) [] S2 with
            | ex => rw [ec] at e9; cases e9
            | no => rw [ec] at e9; cases e9
            | ok r S3 =>
              rw [ec, Res.bind_ok] at e9
              cases eb : boolsD r with
              | none => rw [eb] at e9; cases e9
              | some bs =>
                rw [eb] at e9
                cases e9
                refine ⟨a, b, xs, ys, rfl, sqT_mono hh1.same hq, sqT_mono hh1.same hq2, fun N hN hn ha' hb' => ?_⟩
                have hl : i < σ.length := by rw [← hf.len]; exact hlt
                refine ⟨N, a, b, H1, List.getElem?_set_self hl, rfl, hn, ha', hb', hN, ?_⟩
                refine comp_tail (fz := true) (Φ := Φ) (own := own) (cs := []) (ce := ce) (S1 := S2) (fr := fr.set i none) (σ := σ.set i (some (V.ref (N + 4)))) (Q := fun v H4 => rBi X.K .all [v] H4 D.rt) hp ((hf.mono l1).hide i _) (Le.refl _) hh1 (it_zipT hq hq2 rl rl2) ?_
                show RPost _ ((compF p (evTs Φ []) (evE Φ ce) (wipeF (fr.set i none) (own.map (·.2))) (zipD l m) [] S2).bind fun r S2 => Res.ok (Dm.D.lst r) S2)
                rw [ec]
                intro v' H' g' l' hh' r'
                refine ⟨g', S9, [.lst r], .bl (bs.all id), hh', .cons r' .nil, ?_, (Post.mono l' (Post.mono l1 (show Post X.K g (.bl (bs.all id)) S9 D.rt from h)))⟩
                show (boolsD r).map (fun bs => Dm.D.bl (bs.all id)) = _
                rw [eb]; rfl
          · cases e9
        | _ => cases e9
      | _ => cases e9
end
end Dm

/-! DmM: enumerate(..), zip(..) of lists and tuples in any mix, enumerate(zip(..)). -/
namespace Dm
open PySem PySem.Spec PyProof.Rows L2

/-! ### enumerate: one more, whatever it draws from -/
section
variable {prog : Program} {w : World} {A : Around} {E : Value → Shared → Prop} {s : Shared}
theorem en_next {e it : Addr} {c : Int} {old : Value} {Q : Value → Shared → Prop} (he : IsEnum s.heap e it c old)
    (hn : wpAny (model prog w) A (Builtin.SmallTypes.nextOf (.ref it)) (fun x s1 => IsEnum s1.heap e it c old ∧ ∀ (h2 : Heap) (tk : Tok) (k2 : Nat), IsEnumOut h2 e it (c + 1) x s1.heap.objs.size → h2.get? s1.heap.objs.size = some { cls := .type "tuple", data := .seq #[.int c tk, x] } →
      (∀ b ob, b ≠ e → s1.heap.get? b = some ob → h2.get? b = some ob) → Q (.ref s1.heap.objs.size) { s1 with heap := h2, toks := k2 }) E s) :
    wpAny (model prog w) A (Builtin.«enumerate.__next__» ⟨[.ref e], []⟩) (fun r z => ∃ v, r = .done (.ret v) ∧ Q v z) E s := by
  show wpAny _ _ (field (Value.ref e) 2 >>= _) _ E s
  refine wpAny_bind (wpAny_field he rfl (x := Value.ref it) rfl ?_)
  refine wpAny_bind (wpAny_mono hn (fun x s1 hx => ?_) fun _ _ z => z)
  obtain ⟨m0, g, d, tk, os⟩ := s1
  obtain ⟨e1, q⟩ := hx
  show wpAny _ _ (field (Value.ref e) 3 >>= _) _ E ⟨m0, g, d, tk, os⟩
  refine wpAny_bind (wpAny_field e1 rfl (x := rawInt c) rfl ?_)
  show wpAny _ _ (field (Value.ref e) 4 >>= _) _ E ⟨m0, g, d, tk, os⟩
  refine wpAny_bind (wpAny_field e1 rfl (x := Value.none) rfl ?_)
  show wpAny _ _ (mkInt c >>= _) _ E ⟨m0, g, d, tk, os⟩
  refine wpAny_bind (wpAny_mkInt ?_)
  show wpAny _ _ (setField (Value.ref e) 3 (rawInt (c + 1)) >>= _) _ E ⟨m0, g, d, tk + 1, os⟩
  refine wpAny_bind (wpAny_setField_rec e1 (by simp) fun m1 e2 t1 => ?_)
  replace t1 : Heap.SameBut e m0 m1 := t1
  replace e2 : IsEnum m1 e it (c + 1) old := e2
  show wpAny _ _ (setField (Value.ref e) 4 .none >>= _) _ E ⟨m1, g, d, tk + 1, os⟩
  refine wpAny_bind (wpAny_setField_rec e2 (by simp) fun m2 e3 t2 => ?_)
  replace t2 : Heap.SameBut e m1 m2 := t2
  replace e3 : IsEnum m2 e it (c + 1) old := e3
  show wpAny _ _ (newTuple [.int c tk, x] >>= _) _ E ⟨m2, g, d, tk + 1, os⟩
  refine wpAny_bind (wpAny_newTuple ?_)
  have e4 : IsEnum (m2.push { cls := .type "tuple", data := .seq #[.int c tk, x] }) e it (c + 1) old := Heap.get?_push_of_some _ e3
  have z2 : m2.objs.size = m0.objs.size := by rw [t2.1, t1.1]
  have el : e < m0.objs.size := Heap.lt_size e1
  have t4 : (m2.push { cls := .type "tuple", data := .seq #[.int c tk, x] }).get? m0.objs.size = some { cls := .type "tuple", data := .seq #[.int c tk, x] } := by rw [← z2]; exact Heap.get?_push_size _ rfl
  have k4 : ∀ b ob, b ≠ e → m0.get? b = some ob → (m2.push { cls := .type "tuple", data := .seq #[.int c tk, x] }).get? b = some ob := fun b ob hb hz => Heap.get?_push_of_some _ (t2.extBut b ob hb (t1.extBut b ob hb hz))
  generalize m2.push { cls := .type "tuple", data := .seq #[.int c tk, x] } = m3 at e4 t4 k4 ⊢
  show wpAny _ _ (Builtin.SmallTypes.ownedTupleIsFree (Value.ref e) >>= _) _ E ⟨m3, g, d, tk + 1, os⟩
  rw [z2]
  refine wpAny_bind ?_
  unfold Builtin.SmallTypes.ownedTupleIsFree
  refine wpAny_bind (wpAny_field e4 rfl (x := Value.none) rfl (wpAny_pure ?_))
  simp only [if_true]
  refine wpAny_bind (wpAny_rule ?_)
  refine wpAny_bind (wpAny_field e4 rfl (x := old) rfl ?_)
  refine wpAny_bind (wpAny_setField_rec e4 (by simp) fun m4 e5 t3 => ?_)
  replace t3 : Heap.SameBut e m3 m4 := t3
  replace e5 : IsEnum m4 e it (c + 1) x := e5
  show wpAny _ _ (Builtin.SmallTypes.ownedTupleHandOut (Value.ref e) (.ref m0.objs.size) >>= _) _ E ⟨m4, g, d, tk + 1, os⟩
  refine wpAny_bind ?_
  unfold Builtin.SmallTypes.ownedTupleHandOut
  refine wpAny_bind (wpAny_setField_rec e5 (by simp) fun m5 e6 t5 => ?_)
  replace t5 : Heap.SameBut e m4 m5 := t5
  replace e6 : IsEnumOut m5 e it (c + 1) x m0.objs.size := e6
  refine wpAny_setField_rec e6 (by simp) fun m6 e7 t6 => ?_
  replace t6 : Heap.SameBut e m5 m6 := t6
  replace e7 : IsEnumOut m6 e it (c + 1) x m0.objs.size := e7
  refine wpAny_bind (wpAny_letGo (wpAny_pure ⟨_, rfl, q m6 tk (tk + 1) e7 ?_ fun b ob hb hz => ?_⟩))
  · exact t6.extBut _ _ (Nat.ne_of_gt el) (t5.extBut _ _ (Nat.ne_of_gt el) (t3.extBut _ _ (Nat.ne_of_gt el) t4))
  · exact t6.extBut b ob hb (t5.extBut b ob hb (t3.extBut b ob hb (k4 b ob hb hz)))
/-- next(enumerate), all of it -/
theorem en_pyNext {e it : Addr} {c : Int} {old : Value} {Q : Option Value → Shared → Prop} (he : IsEnum s.heap e it c old)
    (hn : wpAny (model prog w) A.in1 (Builtin.SmallTypes.nextOf (.ref it)) (fun x s1 => IsEnum s1.heap e it c old ∧ ∀ (h2 : Heap) (tk : Tok) (k2 : Nat), IsEnumOut h2 e it (c + 1) x s1.heap.objs.size → h2.get? s1.heap.objs.size = some { cls := .type "tuple", data := .seq #[.int c tk, x] } →
      (∀ b ob, b ≠ e → s1.heap.get? b = some ob → h2.get? b = some ob) → Q (some (.ref s1.heap.objs.size)) { s1 with heap := h2, toks := k2 })
      (fun x s1 => ∃ a, x = .ref a ∧ (∃ o, s1.heap.get? a = some o ∧ o.cls = .type "StopIteration") ∧ Q none s1) s) :
    wpAny (model prog w) A (pyNext (.ref e)) Q E s := by
  have hTy : s.TypeIs (.ref e) "enumerate" := ⟨_, he, rfl⟩
  unfold pyNext
  refine wpAny_bind (wpAny_attempt (wpAny_callSpecial?_slot (name := Str.ofString "__next__") hTy F.slot_enumerate_next
    (wpAny_call_entry F.slot_enumerate_next hTy F.entry_enumerate_next
      (wpAny_mono (en_next (Q := fun v z => Q (some v) z) he hn) (fun r z ⟨v, e1, q⟩ => ⟨v, e1, wpAny_pure q⟩) fun x z ⟨a, e1, ⟨o, ho, hc⟩, q⟩ => ?_) (F.args_enumerate_next_1 _))))
  subst e1
  refine wpAny_bind (wpAny_isInstance (T := "StopIteration") (b := true) ⟨o, ho, hc⟩ isSubtype_stop ?_)
  exact wpAny_pure q
end

/-! ### zip: one more, its last tuple free or not -/
/-- a zip, whatever it knows of the tuple that it gave -/
def ZpAt (h : Heap) (z TI TO : Addr) (f0 : Value) (fl : Bool) : Prop := h.get? z = some { cls := .type "zip", dict := none, data := .fields #[f0, .bool fl, .bool false, .ref TI, .ref TO], slots := #[] }
def ZpSt (h : Heap) (z TI TO : Addr) : Prop := ∃ f0 fl, ZpAt h z TI TO f0 fl ∧ (f0 = .none ∨ ∃ T : Nat, f0 = rawInt T)
theorem ZpSt.of_zip {h : Heap} {z TI TO : Addr} (k : IsZip h z TI TO .none) : ZpSt h z TI TO := ⟨.none, false, k, .inl rfl⟩
theorem ZpSt.mono {h h' : Heap} {z TI TO : Addr} (k : ZpSt h z TI TO) (e : ∀ o, h.get? z = some o → h'.get? z = some o) : ZpSt h' z TI TO := let ⟨f0, fl, a, b⟩ := k; ⟨f0, fl, e _ a, b⟩
section
variable {prog : Program} {w : World} {A : Around} {E : Value → Shared → Prop} {s : Shared} {z TI TO i1 i2 : Addr} {fp1 fp2 : List Addr} {n1 n2 i : Nat} {P1 P2 : Nat → Value → Prop} {St1 St2 : Nat → Heap → Prop} {a1 a2 : Value}
theorem ifAlive {a : Addr} {Q : Option Obj → Shared → Prop} (h : Q (s.heap.get? a) s) : wpAny (model prog w) A (loadIfAlive a) Q E s := fun _ _ _ => h
theorem zp_free {f0 : Value} {fl : Bool} {Q : Bool → Shared → Prop} (hz : ZpAt s.heap z TI TO f0 fl) (hf : f0 = .none ∨ ∃ T : Nat, f0 = rawInt T) (h1 : Q true s)
    (h2 : ∀ h', ZpAt h' z TI TO f0 true → Heap.SameBut z s.heap h' → Q false { s with heap := h' }) : wpAny (model prog w) A (Builtin.SmallTypes.ownedTupleIsFree (.ref z)) Q E s := by
  unfold Builtin.SmallTypes.ownedTupleIsFree
  rcases hf with rfl | ⟨T, rfl⟩
  · exact wpAny_bind (wpAny_field hz rfl (x := Value.none) rfl (wpAny_pure h1))
  · refine wpAny_bind (wpAny_field hz rfl (x := rawInt (T : Int)) rfl ?_)
    show wpAny _ _ (loadIfAlive ((T : Int).toNat) >>= _) _ E _
    rw [Int.toNat_natCast]
    refine wpAny_bind (ifAlive ?_)
    cases hT : s.heap.get? T with
    | none =>
      simp only [Option.isNone_none, if_true]
      exact wpAny_pure h1
    | some oT =>
      simp only [Option.isNone_some, Bool.false_eq_true, if_false]
      refine wpAny_bind (wpAny_field hz rfl (x := Value.bool fl) rfl ?_)
      cases fl with
      | true =>
        rw [if_neg (show ¬ ((Value.bool true != Value.bool true) = true) by decide)]
        exact wpAny_pure (h2 s.heap hz (Heap.SameBut.refl _ _))
      | false =>
        rw [if_pos (show (Value.bool false != Value.bool true) = true by decide)]
        exact wpAny_bind (wpAny_setField_rec hz (by simp) fun m1 y1 t1 => wpAny_pure (h2 m1 y1 t1))
theorem tup2_set {T : Addr} {x : Value} {k : Nat} {Q : Unit → Shared → Prop} (hT : IsTupOf2 s.heap T a1 a2)
    (h : ∀ h' b1 b2, IsTupOf2 h' T b1 b2 → (k = 0 → b1 = x ∧ b2 = a2) → (k = 1 → b1 = a1 ∧ b2 = x) → Heap.SameBut T s.heap h' → Q () { s with heap := h' }) : wpAny (model prog w) A (updateSeq T (·.setIfInBounds k x)) Q E s :=
  updateSeq_IsTupOf2 hT fun h' e sb => by
    by_cases k0 : k = 0
    · subst k0; exact h h' x a2 e (fun _ => ⟨rfl, rfl⟩) (fun z => by cases z) sb
    · by_cases k1 : k = 1
      · subst k1; exact h h' a1 x e (fun z => by cases z) (fun _ => ⟨rfl, rfl⟩) sb
      · refine h h' a1 a2 ?_ (fun z => absurd z k0) (fun z => absurd z k1) sb
        have : (#[a1, a2] : Array Value).setIfInBounds k x = #[a1, a2] := by
          rw [Array.setIfInBounds_eq_of_size_le (by simp; omega)]
        rw [this] at e; exact e
/-- one more -/
theorem zn_item {f0 : Value} {fl : Bool} {Q : Value → Shared → Prop} (S : ZipSep2 z TI TO i1 i2 fp1 fp2) (D1 : Draws prog w A i1 fp1 n1 P1 St1) (D2 : Draws prog w A i2 fp2 n2 P2 St2)
    (hz : ZpAt s.heap z TI TO f0 fl) (hf : f0 = .none ∨ ∃ T : Nat, f0 = rawInt T) (hTI : IsTupOf2 s.heap TI (.ref i1) (.ref i2)) (hTO : IsTupOf2 s.heap TO a1 a2) (st1 : St1 i s.heap) (st2 : St2 i s.heap) (b1 : i < n1) (b2 : i < n2)
    (hQ : ∀ x1 x2 h' tk, P1 i x1 → P2 i x2 → ZpSt h' z TI TO → (∃ c1 c2, IsTupOf2 h' TO c1 c2) → St1 (i + 1) h' → St2 (i + 1) h' → IsTupOf2 h' s.heap.objs.size x1 x2 → h'.objs.size = s.heap.objs.size + 1 →
      (∀ c o, c ≠ z → c ≠ TO → c ≠ i1 → c ≠ i2 → s.heap.get? c = some o → h'.get? c = some o) → Q (.ref s.heap.objs.size) { s with heap := h', toks := tk }) :
    wpAny (model prog w) A (Builtin.«zip.__next__» ⟨[.ref z], []⟩) (fun r y => ∃ v, r = .done (.ret v) ∧ Q v y) E s := by
  obtain ⟨m0, g, d, t0, os⟩ := s
  replace hz : ZpAt m0 z TI TO f0 fl := hz
  show wpAny _ _ (field (Value.ref z) 2 >>= _) _ E _
  refine wpAny_bind (wpAny_field hz rfl (x := Value.bool false) rfl ?_)
  show wpAny _ _ (field (Value.ref z) 3 >>= _) _ E _
  refine wpAny_bind (wpAny_field hz rfl (x := Value.ref TI) rfl ?_)
  refine wpAny_bind (wpAny_seqItems hTI rfl ?_)
  show wpAny _ _ (Builtin.SmallTypes.ownedTupleIsFree (Value.ref z) >>= _) _ E _
  refine wpAny_bind (zp_free hz hf ?_ fun m1 y1 u1 => ?_)
  · simp only [if_true]
    refine wpAny_bind (wpAny_rule ?_)
    refine wpAny_bind (wpAny_field hz rfl (x := Value.ref TO) rfl ?_)
    refine wpAny_bind (wpAny_setField_rec hz (by simp) fun m1 y1 u1 => ?_)
    replace y1 : ZpAt m1 z TI TO .ellipsis fl := y1
    replace u1 : Heap.SameBut z m0 m1 := u1
    refine wpAny_bind ?_
    simp only [List.zipIdx_cons, List.zipIdx_nil, List.forIn_cons, List.forIn_nil]
    refine wpAny_bind (wpAny_bind (wpAny_onRaise ?_))
    show wpAny _ _ (Builtin.SmallTypes.nextOf (Value.ref i1) >>= _) _ _ ⟨m1, g, d, t0, os⟩
    refine wpAny_bind (D1.item i _ _ _ b1 (D1.over st1 u1 S.zf1) fun x1 m2 tk1 p1 w1 u2 => wpAny_pure ?_)
    replace u2 : Heap.SameBut i1 m1 m2 := u2
    have o2 : IsTupOf2 m2 TO a1 a2 := u2.extBut _ _ S.Ti1 (u1.extBut _ _ S.TOz hTO)
    refine wpAny_bind (wpAny_seqItems (s := ⟨m2, g, d, tk1, os⟩) o2 rfl ?_)
    refine wpAny_bind (tup2_set (s := ⟨m2, g, d, tk1, os⟩) o2 fun m3 c1 c2 o3 q0 _ u3 => ?_)
    obtain ⟨rfl, rfl⟩ := q0 rfl
    replace o3 : IsTupOf2 m3 TO c1 c2 := o3
    replace u3 : Heap.SameBut TO m2 m3 := u3
    refine wpAny_bind (wpAny_letGo (wpAny_pure ?_))
    refine wpAny_bind (wpAny_bind (wpAny_onRaise ?_))
    show wpAny _ _ (Builtin.SmallTypes.nextOf (Value.ref i2) >>= _) _ _ ⟨m3, g, d, tk1, os⟩
    refine wpAny_bind (D2.item i _ _ _ b2 (D2.over (D2.over (D2.over st2 u1 S.zf2) u2 S.sep1_2) u3 S.Tf2) fun x2 m4 tk2 p2 w2 u4 => wpAny_pure ?_)
    replace u4 : Heap.SameBut i2 m3 m4 := u4
    have o4 : IsTupOf2 m4 TO c1 c2 := u4.extBut _ _ S.Ti2 o3
    refine wpAny_bind (wpAny_seqItems (s := ⟨m4, g, d, tk2, os⟩) o4 rfl ?_)
    refine wpAny_bind (tup2_set (s := ⟨m4, g, d, tk2, os⟩) o4 fun m5 e1 e2 o5 _ q1 u5 => ?_)
    obtain ⟨rfl, rfl⟩ := q1 rfl
    replace o5 : IsTupOf2 m5 TO e1 e2 := o5
    replace u5 : Heap.SameBut TO m4 m5 := u5
    refine wpAny_bind (wpAny_letGo (wpAny_pure (wpAny_pure ?_)))
    refine wpAny_bind (wpAny_seqItems (s := ⟨m5, g, d, tk2, os⟩) o5 rfl ?_)
    refine wpAny_bind (wpAny_newTuple ?_)
    have z5 : m5.objs.size = m0.objs.size := by rw [u5.1, u4.1, u3.1, u2.1, u1.1]
    have y5 : ZpAt m5 z TI TO .ellipsis fl := (u5.extBut _ _ S.TOz.symm (u4.extBut _ _ S.zi2 (u3.extBut _ _ S.TOz.symm (u2.extBut _ _ S.zi1 y1))))
    have k5 : ∀ c o, c ≠ z → c ≠ TO → c ≠ i1 → c ≠ i2 → m0.get? c = some o → m5.get? c = some o := fun c o q1 q2 q3 q4 e =>
      (u5.extBut _ _ q2 (u4.extBut _ _ q4 (u3.extBut _ _ q2 (u2.extBut _ _ q3 (u1.extBut _ _ q1 e)))))
    have w15 : St1 (i + 1) m5 := (D1.over (D1.over (D1.over w1 u3 S.Tf1) u4 S.sep2_1) u5 S.Tf1)
    have w25 : St2 (i + 1) m5 := (D2.over w2 u5 S.Tf2)
    have zl : z < m5.objs.size := Heap.lt_size y5
    show wpAny _ _ (Builtin.SmallTypes.ownedTupleHandOut (Value.ref z) (.ref m5.objs.size) >>= _) _ E ⟨m5.push { cls := .type "tuple", data := .seq #[e1, e2] }, g, d, tk2, os⟩
    refine wpAny_bind ?_
    unfold Builtin.SmallTypes.ownedTupleHandOut
    have y6 : ZpAt (m5.push { cls := .type "tuple", data := .seq #[e1, e2] }) z TI TO .ellipsis fl := Heap.get?_push_of_some _ y5
    have o6 : IsTupOf2 (m5.push { cls := .type "tuple", data := .seq #[e1, e2] }) m5.objs.size e1 e2 := Heap.get?_push_size _ rfl
    have z6 : (m5.push { cls := .type "tuple", data := .seq #[e1, e2] }).objs.size = m5.objs.size + 1 := Heap.size_push ..
    have k6 : ∀ c o, m5.get? c = some o → (m5.push { cls := .type "tuple", data := .seq #[e1, e2] }).get? c = some o := fun c o e => Heap.get?_push_of_some _ e
    generalize m5.push { cls := .type "tuple", data := .seq #[e1, e2] } = m6 at y6 o6 z6 k6 ⊢
    refine wpAny_bind (wpAny_setField_rec y6 (by simp) fun m7 y7 u7 => ?_)
    replace y7 : ZpAt m7 z TI TO (rawInt m5.objs.size) fl := y7
    replace u7 : Heap.SameBut z m6 m7 := u7
    refine wpAny_setField_rec y7 (by simp) fun m8 y8 u8 => ?_
    replace y8 : ZpAt m8 z TI TO (rawInt m5.objs.size) false := y8
    replace u8 : Heap.SameBut z m7 m8 := u8
    have up : ∀ c o, c ≠ z → m5.get? c = some o → m8.get? c = some o := fun c o q1 e => u8.extBut _ _ q1 (u7.extBut _ _ q1 (k6 c o e))
    have o8 : IsTupOf2 m8 m5.objs.size e1 e2 := u8.extBut _ _ (Nat.ne_of_gt zl) (u7.extBut _ _ (Nat.ne_of_gt zl) o6)
    have z8 : m8.objs.size = m5.objs.size + 1 := by rw [u8.1, u7.1, z6]
    refine wpAny_pure ⟨_, rfl, ?_⟩
    rw [z5] at o8 z8 y8 ⊢
    exact hQ e1 e2 m8 tk2 p1 p2 ⟨_, _, y8, .inr ⟨_, rfl⟩⟩ ⟨e1, e2, up _ _ S.TOz o5⟩ (D1.frame _ _ _ w15 fun b hb o e => up b o (fun q => S.zf1 (q ▸ hb)) e) (D2.frame _ _ _ w25 fun b hb o e => up b o (fun q => S.zf2 (q ▸ hb)) e) o8 z8
      fun c o q1 q2 q3 q4 e => up c o q1 (k5 c o q1 q2 q3 q4 e)
  · simp only [Bool.false_eq_true, if_false]
    replace u1 : Heap.SameBut z m0 m1 := u1
    refine wpAny_bind ?_
    rw [← Array.forIn_toList]
    simp only [List.forIn_cons, List.forIn_nil]
    refine wpAny_bind (wpAny_bind (wpAny_holding ?_))
    show wpAny _ _ (Builtin.SmallTypes.nextOf (Value.ref i1) >>= _) _ _ ⟨m1, g, d, t0, os⟩
    refine wpAny_bind (D1.item i _ _ _ b1 (D1.over st1 u1 S.zf1) fun x1 m2 tk1 p1 w1 u2 => wpAny_pure (wpAny_pure ?_))
    replace u2 : Heap.SameBut i1 m1 m2 := u2
    refine wpAny_bind (wpAny_bind (wpAny_holding ?_))
    show wpAny _ _ (Builtin.SmallTypes.nextOf (Value.ref i2) >>= _) _ _ ⟨m2, g, d, tk1, os⟩
    refine wpAny_bind (D2.item i _ _ _ b2 (D2.over (D2.over st2 u1 S.zf2) u2 S.sep1_2) fun x2 m3 tk2 p2 w2 u3 => wpAny_pure (wpAny_pure (wpAny_pure ?_)))
    replace u3 : Heap.SameBut i2 m2 m3 := u3
    show wpAny _ _ (newTuple [x1, x2] >>= _) _ E ⟨m3, g, d, tk2, os⟩
    refine wpAny_bind (wpAny_newTuple ?_)
    have z3 : m3.objs.size = m0.objs.size := by rw [u3.1, u2.1, u1.1]
    have y3 : ZpAt m3 z TI TO f0 true := u3.extBut _ _ S.zi2 (u2.extBut _ _ S.zi1 y1)
    have k3 : ∀ c o, c ≠ z → c ≠ i1 → c ≠ i2 → m0.get? c = some o → m3.get? c = some o := fun c o q1 q2 q3 e => u3.extBut _ _ q3 (u2.extBut _ _ q2 (u1.extBut _ _ q1 e))
    have w13 : St1 (i + 1) m3 := D1.over w1 u3 S.sep2_1
    have o3 : IsTupOf2 m3 TO a1 a2 := k3 _ _ S.TOz S.Ti1 S.Ti2 hTO
    refine wpAny_pure ⟨_, rfl, ?_⟩
    show Q (.ref m3.objs.size) ⟨m3.push _, g, d, tk2, os⟩
    have o4 : IsTupOf2 (m3.push { cls := .type "tuple", data := .seq #[x1, x2] }) m3.objs.size x1 x2 := Heap.get?_push_size _ rfl
    have z4 : (m3.push { cls := .type "tuple", data := .seq #[x1, x2] }).objs.size = m3.objs.size + 1 := Heap.size_push ..
    rw [z3] at o4 z4 ⊢
    have up : ∀ c o, m3.get? c = some o → (m3.push { cls := .type "tuple", data := .seq #[x1, x2] }).get? c = some o := fun c o e => Heap.get?_push_of_some _ e
    exact hQ x1 x2 _ tk2 p1 p2 ⟨f0, true, up _ _ y3, hf⟩ ⟨a1, a2, up _ _ o3⟩ (D1.frame _ _ _ w13 fun b _ o e => up b o e) (D2.frame _ _ _ w2 fun b _ o e => up b o e) o4 z4 fun c o q1 q2 q3 q4 e => up _ _ (k3 c o q1 q3 q4 e)
/-- what an iterator says when nothing is left -/
def Ends (prog : Program) (w : World) (A : Around) (it : Addr) (n : Nat) (St : Nat → Heap → Prop) : Prop := ∀ (i : Nat) (s : Shared) (Q : Value → Shared → Prop) (E : Value → Shared → Prop), n ≤ i → St i s.heap →
  (∀ h' e, Heap.ExtBut it s.heap h' → (∃ o, h'.get? e = some o ∧ o.cls = .type "StopIteration") → E (.ref e) { s with heap := h' }) → wpAny (model prog w) A (Builtin.SmallTypes.nextOf (.ref it)) Q E s
/-- none is left -/
theorem zn_end {f0 : Value} {fl : Bool} {Q : Fin → Shared → Prop} (S : ZipSep2 z TI TO i1 i2 fp1 fp2) (D1 : Draws prog w A i1 fp1 n1 P1 St1) (D2 : Draws prog w A i2 fp2 n2 P2 St2) (B1 : Dm.Ends prog w A i1 n1 St1) (B2 : Dm.Ends prog w A i2 n2 St2)
    (hz : ZpAt s.heap z TI TO f0 fl) (hf : f0 = .none ∨ ∃ T : Nat, f0 = rawInt T) (hTI : IsTupOf2 s.heap TI (.ref i1) (.ref i2)) (hTO : IsTupOf2 s.heap TO a1 a2) (st1 : St1 i s.heap) (st2 : St2 i s.heap) (b3 : n1 ≤ i ∨ n2 ≤ i)
    (hE : ∀ h' tk e, (∀ c o, c ≠ z → c ≠ TO → c ≠ i1 → c ≠ i2 → s.heap.get? c = some o → h'.get? c = some o) → (∃ o, h'.get? e = some o ∧ o.cls = .type "StopIteration") → E (.ref e) { s with heap := h', toks := tk }) :
    wpAny (model prog w) A (Builtin.«zip.__next__» ⟨[.ref z], []⟩) Q E s := by
  obtain ⟨m0, g, d, t0, os⟩ := s
  replace hz : ZpAt m0 z TI TO f0 fl := hz
  show wpAny _ _ (field (Value.ref z) 2 >>= _) _ E _
  refine wpAny_bind (wpAny_field hz rfl (x := Value.bool false) rfl ?_)
  show wpAny _ _ (field (Value.ref z) 3 >>= _) _ E _
  refine wpAny_bind (wpAny_field hz rfl (x := Value.ref TI) rfl ?_)
  refine wpAny_bind (wpAny_seqItems hTI rfl ?_)
  show wpAny _ _ (Builtin.SmallTypes.ownedTupleIsFree (Value.ref z) >>= _) _ E _
  refine wpAny_bind (zp_free hz hf ?_ fun m1 y1 u1 => ?_)
  · simp only [if_true]
    refine wpAny_bind (wpAny_rule ?_)
    refine wpAny_bind (wpAny_field hz rfl (x := Value.ref TO) rfl ?_)
    refine wpAny_bind (wpAny_setField_rec hz (by simp) fun m1 y1 u1 => ?_)
    replace y1 : ZpAt m1 z TI TO .ellipsis fl := y1
    replace u1 : Heap.SameBut z m0 m1 := u1
    refine wpAny_bind ?_
    simp only [List.zipIdx_cons, List.zipIdx_nil, List.forIn_cons, List.forIn_nil]
    refine wpAny_bind (wpAny_bind (wpAny_onRaise ?_))
    show wpAny _ _ (Builtin.SmallTypes.nextOf (Value.ref i1) >>= _) _ _ ⟨m1, g, d, t0, os⟩
    by_cases c1 : i < n1
    · refine wpAny_bind (D1.item i _ _ _ c1 (D1.over st1 u1 S.zf1) fun x1 m2 tk1 p1 w1 u2 => wpAny_pure ?_)
      replace u2 : Heap.SameBut i1 m1 m2 := u2
      have o2 : IsTupOf2 m2 TO a1 a2 := u2.extBut _ _ S.Ti1 (u1.extBut _ _ S.TOz hTO)
      refine wpAny_bind (wpAny_seqItems (s := ⟨m2, g, d, tk1, os⟩) o2 rfl ?_)
      refine wpAny_bind (tup2_set (s := ⟨m2, g, d, tk1, os⟩) o2 fun m3 c1 c2 o3 q0 _ u3 => ?_)
      replace u3 : Heap.SameBut TO m2 m3 := u3
      refine wpAny_bind (wpAny_letGo (wpAny_pure ?_))
      have e2 : n2 ≤ i := by omega
      refine wpAny_bind (wpAny_bind (wpAny_onRaise ?_))
      show wpAny _ _ (Builtin.SmallTypes.nextOf (Value.ref i2) >>= _) _ _ ⟨m3, g, d, tk1, os⟩
      refine wpAny_bind (B2 i ⟨m3, g, d, tk1, os⟩ _ _ e2 (D2.over (D2.over (D2.over st2 u1 S.zf2) u2 S.sep1_2) u3 S.Tf2) fun m4 e u4 he => ?_)
      replace u4 : Heap.ExtBut i2 m3 m4 := u4
      obtain ⟨oe, v1, v2⟩ := he
      replace v1 : m4.get? e = some oe := v1
      have y4 : ZpAt m4 z TI TO .ellipsis fl := u4 _ _ S.zi2 (u3.extBut _ _ S.TOz.symm (u2.extBut _ _ S.zi1 y1))
      have ne : e ≠ z := fun x => by subst x; unfold ZpAt at y4; rw [y4] at v1; cases v1; simp at v2
      refine wpAny_setField_rec (s := ⟨m4, g, d, tk1, os⟩) y4 (by simp) fun m5 _ u5 => ?_
      replace u5 : Heap.SameBut z m4 m5 := u5
      exact hE m5 tk1 e (fun c o q1 q2 q3 q4 x => u5.extBut _ _ q1 (u4 _ _ q4 (u3.extBut _ _ q2 (u2.extBut _ _ q3 (u1.extBut _ _ q1 x))))) ⟨oe, u5.extBut _ _ ne v1, v2⟩
    · have e1 : n1 ≤ i := by omega
      refine wpAny_bind (B1 i ⟨m1, g, d, t0, os⟩ _ _ e1 (D1.over st1 u1 S.zf1) fun m4 e u4 he => ?_)
      replace u4 : Heap.ExtBut i1 m1 m4 := u4
      obtain ⟨oe, v1, v2⟩ := he
      replace v1 : m4.get? e = some oe := v1
      have y4 : ZpAt m4 z TI TO .ellipsis fl := u4 _ _ S.zi1 y1
      have ne : e ≠ z := fun x => by subst x; unfold ZpAt at y4; rw [y4] at v1; cases v1; simp at v2
      refine wpAny_setField_rec (s := ⟨m4, g, d, t0, os⟩) y4 (by simp) fun m5 _ u5 => ?_
      replace u5 : Heap.SameBut z m4 m5 := u5
      exact hE m5 t0 e (fun c o q1 q2 q3 q4 x => u5.extBut _ _ q1 (u4 _ _ q3 (u1.extBut _ _ q1 x))) ⟨oe, u5.extBut _ _ ne v1, v2⟩
  · simp only [Bool.false_eq_true, if_false]
    replace u1 : Heap.SameBut z m0 m1 := u1
    refine wpAny_bind ?_
    rw [← Array.forIn_toList]
    simp only [List.forIn_cons, List.forIn_nil]
    refine wpAny_bind (wpAny_bind (wpAny_holding ?_))
    show wpAny _ _ (Builtin.SmallTypes.nextOf (Value.ref i1) >>= _) _ _ ⟨m1, g, d, t0, os⟩
    by_cases c1 : i < n1
    · refine wpAny_bind (D1.item i _ _ _ c1 (D1.over st1 u1 S.zf1) fun x1 m2 tk1 p1 w1 u2 => wpAny_pure (wpAny_pure ?_))
      replace u2 : Heap.SameBut i1 m1 m2 := u2
      have e2 : n2 ≤ i := by omega
      refine wpAny_bind (wpAny_bind (wpAny_holding ?_))
      show wpAny _ _ (Builtin.SmallTypes.nextOf (Value.ref i2) >>= _) _ _ ⟨m2, g, d, tk1, os⟩
      refine wpAny_bind (B2 i ⟨m2, g, d, tk1, os⟩ _ _ e2 (D2.over (D2.over st2 u1 S.zf2) u2 S.sep1_2) fun m4 e u4 he => ?_)
      replace u4 : Heap.ExtBut i2 m2 m4 := u4
      exact hE m4 tk1 e (fun c o q1 q2 q3 q4 x => u4 _ _ q4 (u2.extBut _ _ q3 (u1.extBut _ _ q1 x))) he
    · have e1 : n1 ≤ i := by omega
      refine wpAny_bind (B1 i ⟨m1, g, d, t0, os⟩ _ _ e1 (D1.over st1 u1 S.zf1) fun m4 e u4 he => ?_)
      replace u4 : Heap.ExtBut i1 m1 m4 := u4
      exact hE m4 t0 e (fun c o q1 q2 q3 q4 x => u4 _ _ q3 (u1.extBut _ _ q1 x)) he
end
end Dm

/-! DmN: what a loop walks: enumerate, zip over lists and tuples, enumerate(zip(..)). -/
namespace Dm
open PySem PySem.Spec PyProof.Rows L2

/-! ### a list or a tuple -/
inductive Kd where
  | L | T
def SqK (K : PySem.W.Frag) : Kd → Hp → Addr → List V → Prop
  | .L => SqL K
  | .T => SqT K
def ItrK : Kd → Heap → Addr → Addr → Nat → Prop
  | .L => Heap.IsListIter
  | .T => Heap.IsTupleIter
def DatK : Kd → Heap → Addr → Array Value → Prop
  | .L => Heap.IsList
  | .T => Heap.IsTuple
def objK : Kd → Addr → Obj
  | .L, a => { cls := .type "list_iterator", data := .fields #[.ref a, .int 0 0] }
  | .T, a => { cls := .type "tuple_iterator", data := .fields #[.ref a, .int 0 0] }
theorem begK (k : Kd) (a : Addr) (its : Array Value) : Begins (.ref a) (objK k a) fun h => DatK k h a its := by
  cases k
  · exact begins_list a its
  · exact begins_tuple a its
theorem itrK0 {k : Kd} {h : Heap} {it a : Addr} (e : h.get? it = some (objK k a)) : ItrK k h it a 0 := by
  cases k
  · exact ⟨_, e, rfl, rfl⟩
  · exact ⟨_, e, rfl, rfl⟩
theorem itrK_mono {k : Kd} {h h' : Heap} {it a : Addr} {i : Nat} (x : ItrK k h it a i) (e : ∀ o, h.get? it = some o → h'.get? it = some o) : ItrK k h' it a i := by
  cases k
  · exact Heap.IsListIter.at x e
  · exact Heap.IsTupleIter.at x e
theorem itrK_live {k : Kd} {h : Heap} {it a : Addr} {i : Nat} (x : ItrK k h it a i) : ∃ o, h.get? it = some o ∧ ∀ v, o.data ≠ .cell v := by
  cases k
  · obtain ⟨o, h1, h2, h3⟩ := x; exact ⟨o, h1, fun v q => by rw [h3] at q; cases q⟩
  · obtain ⟨o, h1, h2, h3⟩ := x; exact ⟨o, h1, fun v q => by rw [h3] at q; cases q⟩
theorem datK_mono {k : Kd} {h h' : Heap} {a : Addr} {its : Array Value} (x : DatK k h a its) (e : ∀ o, h.get? a = some o → h'.get? a = some o) : DatK k h' a its := by
  cases k
  · exact Heap.IsList.at x e
  · exact Heap.IsTuple.at x e
theorem datK_lt {k : Kd} {h : Heap} {a : Addr} {its : Array Value} (x : DatK k h a its) : a < h.objs.size := by
  cases k
  · obtain ⟨o, e, _⟩ := x; exact Heap.lt_size e
  · obtain ⟨o, e, _⟩ := x; exact Heap.lt_size e
theorem drawK {prog : Program} {w : World} {A : Around} (k : Kd) (hh : A.handled = none) (it a : Addr) (hne : a ≠ it) (its : Array Value) :
    Draws prog w A it [it, a] its.size (fun i v => its[i]? = some v) (fun i h => ItrK k h it a i ∧ DatK k h a its) := by
  cases k
  · exact Draws.list hh it a hne its
  · exact Draws.tuple hh it a hne its
theorem endK {prog : Program} {w : World} {A : Around} (k : Kd) (hh : A.handled = none) (it a : Addr) (its : Array Value) : Dm.Ends prog w A it its.size (fun i h => ItrK k h it a i ∧ DatK k h a its) := by
  intro i s Q E hn st hE
  have hx : its[i]? = none := by simpa using hn
  cases k
  · exact wpAny_nextOf_list_end hh st.1 st.2 hx hE
  · exact wpAny_nextOf_tuple_end hh st.1 st.2 hx hE
section
variable {X : Cx} {pins : List (Addr × Obj)} {σ : L2.St} {H : Hp} {s : Shared}
theorem seqK (I : Inv X pins σ H s) {k : Kd} {a : Addr} {xs : List V} (h : SqK X.K k H a xs) : ∃ its : List Value, Vals xs its ∧ DatK k s.heap a its.toArray := by
  cases k
  · obtain ⟨its, r, p, _⟩ := I.list h; exact ⟨its, r, p.isList⟩
  · obtain ⟨its, r, p, _⟩ := I.tuple h; exact ⟨its, r, p⟩
theorem injK (I : Inv X pins σ H s) {k : Kd} {a : Addr} {xs ys : List V} (h : SqK X.K k H a xs) (h' : SqK X.K k H a ys) : xs = ys := by
  cases k
  · exact I.list_inj h h'
  · exact I.tuple_inj h h'
end
theorem sqK_same {K : PySem.W.Frag} {H H' : Hp} (h : Same H H') {k : Kd} {a : Addr} {xs : List V} (q : SqK K k H a xs) : SqK K k H' a xs := by
  cases k
  · exact h.seq q
  · exact sqT_mono h q

/-! ### what is walked -/
def IteK (K : PySem.W.Frag) (k : Kd) (a : Addr) : It :=
  ⟨fun i H => ∃ (xs : List V) (x : V), SqK K k H a xs ∧ xs[i]? = some x, fun i H v H' => ∃ T x, v = .ref T ∧ H T = none ∧ H' = upd H T (.tup [.int (i : Nat), x]) ∧ ∀ xs, SqK K k H a xs → xs[i]? = some x, fun i H => ∃ xs : List V, SqK K k H a xs ∧ xs.length ≤ i⟩
def ItzK (K : PySem.W.Frag) (k1 k2 : Kd) (a b : Addr) : It :=
  ⟨fun i H => ∃ (xs ys : List V) (x y : V), SqK K k1 H a xs ∧ SqK K k2 H b ys ∧ xs[i]? = some x ∧ ys[i]? = some y,
    fun i H v H' => ∃ T x y, v = .ref T ∧ H T = none ∧ H' = upd H T (.tup [x, y]) ∧ (∀ xs, SqK K k1 H a xs → xs[i]? = some x) ∧ ∀ ys, SqK K k2 H b ys → ys[i]? = some y,
    fun i H => ∃ xs ys : List V, SqK K k1 H a xs ∧ SqK K k2 H b ys ∧ (xs.length ≤ i ∨ ys.length ≤ i)⟩
def ItezK (K : PySem.W.Frag) (k1 k2 : Kd) (a b : Addr) : It :=
  ⟨(ItzK K k1 k2 a b).go,
    fun i H v H' => ∃ T T2 x y, v = .ref T2 ∧ H T = none ∧ H T2 = none ∧ T ≠ T2 ∧ H' = upd (upd H T (.tup [x, y])) T2 (.tup [.int (i : Nat), .ref T]) ∧ (∀ xs, SqK K k1 H a xs → xs[i]? = some x) ∧ ∀ ys, SqK K k2 H b ys → ys[i]? = some y,
    (ItzK K k1 k2 a b).stop⟩

/-- the turns of enumerate over a list, a tuple -/
theorem turn_enumK {P : Program} {w : World} {K : PySem.W.Frag} {elts : List Expr} {kk : Nat} {tpos : Pos} (k : Kd) (a e it : Addr) (hae : a ≠ e) (hai : a ≠ it) :
    Turn P w K (.Tuple elts kk tpos) (IteK K k a) [e, it] e (fun i h => (∃ old, IsEnum h e it ((i : Nat) : Int) old) ∧ ItrK k h it a i ∧ e ≠ it) where
  mem := List.mem_cons_self
  obj := fun i h st b hb => by
    obtain ⟨⟨old, he⟩, hi, _⟩ := st
    rcases List.mem_cons.mp hb with z | z
    · subst z; exact ⟨_, he, fun v q => nomatch q⟩
    · rw [List.mem_singleton.mp z]; exact itrK_live hi
  keep := fun i h h' st k => by
    obtain ⟨⟨old, he⟩, hi, hne⟩ := st
    exact ⟨⟨old, k e List.mem_cons_self _ he⟩, itrK_mono hi fun o q => k it (by simp) o q, hne⟩
  item := by
    intro X hP hw hK hc i pins s σ H E I hf st hg
    subst hP hw hK
    obtain ⟨⟨old, he⟩, hit, hne⟩ := st
    obtain ⟨xs, x, hq, hx⟩ := hg
    obtain ⟨its, rv, p⟩ := seqK I hq
    obtain ⟨u, hu, ru⟩ := rv.get hx
    have hel : e < s.heap.objs.size := Heap.lt_size he
    have hil : it < s.heap.objs.size := by obtain ⟨_, q, _⟩ := itrK_live hit; exact Heap.lt_size q
    have hlen : i < its.toArray.size := by
      have := (List.getElem?_eq_some_iff.mp hu).1
      simpa using this
    have D := drawK (prog := X.prog) (w := X.w) (A := X.A.in1) k (I.ok.hd hc) it a hai its.toArray
    refine en_pyNext he (D.item i s _ _ hlen ⟨hit, p⟩ fun v h1 tk1 pv st1 sb1 => ⟨sb1.extBut _ _ hne he, fun h2 t2 tk2 eo tt kk => ?_⟩)
    have ev : v = u := by
      have q : its.toArray[i]? = some u := by simpa using hu
      rw [q] at pv; exact (Option.some.inj pv).symm
    subst ev
    have hz1 : h1.objs.size = s.heap.objs.size := sb1.1
    refine ⟨_, rfl, wpAny_letOwnedTupleGo_enum (s := { s with heap := h2, toks := tk2 }) eo fun h3 he3 sb3 => ?_⟩
    have hT2 : h3.get? s.heap.objs.size = some { cls := .type "tuple", data := .seq #[.int i t2, v] } := by
      refine (sb3.2 _ (Nat.ne_of_gt hel)).trans ?_
      rw [← hz1]; exact tt
    have new : ObjOk X.prog X.w (upd H s.heap.objs.size (.tup [.int (i : Nat), x])) h3 s.heap.objs.size (.tup [.int (i : Nat), x]) :=
      ⟨by show 2 ≤ sizeLine; decide, [.int i t2, v], .cons ⟨_, rfl⟩ (.cons ru .nil), ⟨_, hT2, rfl, _, rfl⟩⟩
    have I1 : Inv X pins σ (upd H s.heap.objs.size (.tup [.int (i : Nat), x])) { s with heap := h3, toks := tk2 } :=
      I.turnedNew (ch := [e, it]) (fun b ob hb q => (sb3.2 b (fun z => hb (by simp [z]))).trans (kk b ob (fun z => hb (by simp [z])) (sb1.extBut b ob (fun z => hb (by simp [z])) q))) hf (Nat.le_refl _) new
    rw [show (({ s with heap := h1, toks := tk1 } : Shared).heap).objs.size = s.heap.objs.size from hz1]
    refine ⟨.ref s.heap.objs.size, _, I1, rfl, ⟨_, x, rfl, I.hok.fresh (Nat.le_refl _), rfl, fun ys hy => by rw [injK I hy hq]; exact hx⟩, ⟨⟨v, ?_⟩, itrK_mono st1.1 fun o q => (sb3.2 it (Ne.symm hne)).trans (kk it o (Ne.symm hne) q), hne⟩, fun b hb => ?_⟩
    · have e1 : ((i + 1 : Nat) : Int) = (i : Int) + 1 := by omega
      rw [e1]; exact he3
    · have hb' : b < s.heap.objs.size := by
        rcases List.mem_cons.mp hb with z | z
        · rw [z]; exact hel
        · rw [List.mem_singleton.mp z]; exact hil
      rw [upd_ne (Nat.ne_of_lt hb')]
      exact (hf b hb).1
  done := by
    intro X hP hw hK hc i pins s σ H E I hf st hg
    subst hP hw hK
    obtain ⟨⟨old, he⟩, hit, hne⟩ := st
    obtain ⟨xs, hq, hx⟩ := hg
    obtain ⟨its, rv, p⟩ := seqK I hq
    have hl := rv.length
    obtain ⟨f0, f1, f2, f3, f4, f5⟩ := hf it (by simp)
    refine en_pyNext he (endK (prog := X.prog) (w := X.w) (A := X.A.in1) k (I.ok.hd hc) it a its.toArray i s _ _ (by simpa [← hl] using hx) ⟨hit, p⟩ fun h' e' sb ho => ⟨e', rfl, ho, rfl, I.turned (t' := s.toks) (fun b o hb q => sb b o hb q) f0 f1 f3 f4 f5⟩)
  self := fun A i s Q E st h => let ⟨⟨_, he⟩, _⟩ := st; wpAny_pyIter_enum he h

/-! ### zip -/
/-- the cells of a zip lie apart, from its lists and tuples too -/
structure Apart (z TI TO i1 i2 a b : Addr) : Prop where
  s : ZipSep2 z TI TO i1 i2 [i1, a] [i2, b]
  a1 : a ≠ i1
  b2 : b ≠ i2
theorem apart_new {N a b : Nat} (ha : a < N) (hb : b < N) : Apart (N + 4) (N + 2) (N + 3) N (N + 1) a b := by
  have m : ∀ {x y z : Nat}, x ≠ y → x ≠ z → x ∉ ([y, z] : List Nat) := fun h1 h2 q => by
    rcases List.mem_cons.mp q with q | q
    · exact h1 q
    · exact h2 (List.mem_singleton.mp q)
  refine ⟨⟨?_, ?_, ?_, ?_, List.mem_cons_self, m ?_ ?_, m ?_ ?_, ?_, List.mem_cons_self, m ?_ ?_, m ?_ ?_, m ?_ ?_, m ?_ ?_⟩, ?_, ?_⟩ <;> (show (_ : Nat) ≠ _; omega)
/-- a zip as it stands between two turns -/
def ZipTn (k1 k2 : Kd) (a b z TI TO i1 i2 : Addr) (i : Nat) (h : Heap) : Prop := IsTupOf2 h TI (.ref i1) (.ref i2) ∧ (∃ x y, IsTupOf2 h TO x y) ∧ ItrK k1 h i1 a i ∧ ItrK k2 h i2 b i
theorem ZipTn.keep {k1 k2 : Kd} {a b z TI TO i1 i2 : Addr} {i : Nat} {h h' : Heap} (t : ZipTn k1 k2 a b z TI TO i1 i2 i h) (k : ∀ c, c = TI ∨ c = TO ∨ c = i1 ∨ c = i2 → ∀ o, h.get? c = some o → h'.get? c = some o) : ZipTn k1 k2 a b z TI TO i1 i2 i h' := by
  obtain ⟨hTI, ⟨x, y, hTO⟩, h1, h2⟩ := t
  exact ⟨k TI (by simp) _ hTI, ⟨x, y, k TO (by simp) _ hTO⟩, itrK_mono h1 (k i1 (by simp)), itrK_mono h2 (k i2 (by simp))⟩
theorem ZipTn.live {k1 k2 : Kd} {a b z TI TO i1 i2 : Addr} {i : Nat} {h : Heap} (t : ZipTn k1 k2 a b z TI TO i1 i2 i h) : ∀ c, c = TI ∨ c = TO ∨ c = i1 ∨ c = i2 → ∃ o, h.get? c = some o ∧ ∀ v, o.data ≠ .cell v := by
  obtain ⟨hTI, ⟨x, y, hTO⟩, h1, h2⟩ := t
  rintro c (q | q | q | q)
  · rw [q]; exact ⟨_, hTI, fun v q => nomatch q⟩
  · rw [q]; exact ⟨_, hTO, fun v q => nomatch q⟩
  · rw [q]; exact itrK_live h1
  · rw [q]; exact itrK_live h2
theorem five {z TI TO i1 i2 c : Addr} : c ∈ [z, TI, TO, i1, i2] ↔ c = z ∨ c = TI ∨ c = TO ∨ c = i1 ∨ c = i2 := by simp
theorem turn_zipK {P : Program} {w : World} {K : PySem.W.Frag} {elts : List Expr} {kk : Nat} {tpos : Pos} (k1 k2 : Kd) {a b z TI TO i1 i2 : Addr} (D : Apart z TI TO i1 i2 a b) :
    Turn P w K (.Tuple elts kk tpos) (ItzK K k1 k2 a b) [z, TI, TO, i1, i2] z (fun i h => IsZip h z TI TO .none ∧ ZipTn k1 k2 a b z TI TO i1 i2 i h) where
  mem := List.mem_cons_self
  obj := fun i h st c hc => by
    rcases List.mem_cons.mp hc with q | q
    · rw [q]; exact ⟨_, st.1, fun v q => nomatch q⟩
    · exact st.2.live c (by simpa using q)
  keep := fun i h h' st k => ⟨k z List.mem_cons_self _ st.1, st.2.keep fun c q => k c (List.mem_cons_of_mem _ (by simpa using q))⟩
  item := by
    intro X hP hw hK hc i pins s σ H E I hf st hg
    subst hP hw hK
    obtain ⟨hz, hTI, ⟨x0, y0, hTO⟩, h1, h2⟩ := st
    obtain ⟨xs, ys, x, y, hqx, hqy, hx, hy⟩ := hg
    obtain ⟨its, rv, p⟩ := seqK I hqx
    obtain ⟨its2, rv2, p2⟩ := seqK I hqy
    obtain ⟨u, hu, ru⟩ := rv.get hx
    obtain ⟨u2, hu2, ru2⟩ := rv2.get hy
    have l1 : i < its.toArray.size := by simpa using (List.getElem?_eq_some_iff.mp hu).1
    have l2 : i < its2.toArray.size := by simpa using (List.getElem?_eq_some_iff.mp hu2).1
    have hzl : z < s.heap.objs.size := Heap.lt_size hz
    have D1 := drawK (prog := X.prog) (w := X.w) (A := X.A.in1) k1 (I.ok.hd hc) i1 a D.a1 its.toArray
    have D2 := drawK (prog := X.prog) (w := X.w) (A := X.A.in1) k2 (I.ok.hd hc) i2 b D.b2 its2.toArray
    refine wpAny_pyNext_zipD2_item D.s D1 D2 hz hTI hTO ⟨h1, p⟩ ⟨h2, p2⟩ l1 l2 fun v1 v2 h' tk q1 q2 z' TO' w1 w2 hT hsz hk => ?_
    have ev : v1 = u := by
      have q : its.toArray[i]? = some u := by simpa using hu
      rw [q] at q1; exact (Option.some.inj q1).symm
    have ev2 : v2 = u2 := by
      have q : its2.toArray[i]? = some u2 := by simpa using hu2
      rw [q] at q2; exact (Option.some.inj q2).symm
    subst ev
    subst ev2
    refine ⟨_, rfl, wpAny_letOwnedTupleGo_zip (s := { s with heap := h', toks := tk }) z' fun h'' z'' sb => ?_⟩
    have hT2 : h''.get? s.heap.objs.size = some { cls := .type "tuple", data := .seq #[v1, v2] } := (sb.2 _ (Nat.ne_of_gt hzl)).trans hT
    have new : ObjOk X.prog X.w (upd H s.heap.objs.size (.tup [x, y])) h'' s.heap.objs.size (.tup [x, y]) :=
      ⟨by show 2 ≤ sizeLine; decide, [v1, v2], .cons ru (.cons ru2 .nil), ⟨_, hT2, rfl, _, rfl⟩⟩
    have I1 : Inv X pins σ (upd H s.heap.objs.size (.tup [x, y])) { s with heap := h'', toks := tk } :=
      I.turnedNew (ch := [z, TI, TO, i1, i2]) (fun c o hb q => by
        rw [five] at hb
        exact (sb.2 c (fun e => hb (.inl e))).trans (hk c o (fun e => hb (.inl e)) (fun e => hb (.inr (.inr (.inl e)))) (fun e => hb (.inr (.inr (.inr (.inl e))))) (fun e => hb (.inr (.inr (.inr (.inr e))))) q)) hf (Nat.le_refl _) new
    refine ⟨.ref s.heap.objs.size, _, I1, rfl, ⟨_, x, y, rfl, I.hok.fresh (Nat.le_refl _), rfl, fun l hl => by rw [injK I hl hqx]; exact hx, fun l hl => by rw [injK I hl hqy]; exact hy⟩, ⟨z'', ?_, ⟨v1, v2, ?_⟩, ?_, ?_⟩, fun c hcm => ?_⟩
    · exact (sb.2 _ D.s.TIz).trans (hk _ _ D.s.TIz D.s.TITO D.s.TIi1 D.s.TIi2 hTI)
    · exact (sb.2 _ D.s.TOz).trans TO'
    · exact itrK_mono w1.1 fun o q => (sb.2 _ D.s.zi1.symm).trans q
    · exact itrK_mono w2.1 fun o q => (sb.2 _ D.s.zi2.symm).trans q
    · have hlt : c < s.heap.objs.size := by
        rcases five.mp hcm with q | q | q | q | q
        · rw [q]; exact hzl
        · rw [q]; exact Heap.lt_size hTI
        · rw [q]; exact Heap.lt_size hTO
        · rw [q]; obtain ⟨_, e1, _⟩ := itrK_live h1; exact Heap.lt_size e1
        · rw [q]; obtain ⟨_, e2, _⟩ := itrK_live h2; exact Heap.lt_size e2
      rw [upd_ne (Nat.ne_of_lt hlt)]
      exact (hf c hcm).1
  done := by
    intro X hP hw hK hc i pins s σ H E I hf st hg
    subst hP hw hK
    obtain ⟨hz, hTI, ⟨x0, y0, hTO⟩, h1, h2⟩ := st
    obtain ⟨xs, ys, hqx, hqy, hend⟩ := hg
    obtain ⟨its, rv, p⟩ := seqK I hqx
    obtain ⟨its2, rv2, p2⟩ := seqK I hqy
    have l1 := rv.length
    have l2 := rv2.length
    have hh : X.A.in1.handled = none := I.ok.hd hc
    have hT : s.TypeIs (.ref z) "zip" := ⟨_, hz, rfl⟩
    unfold pyNext
    refine wpAny_bind (wpAny_attempt (wpAny_callSpecial?_slot (name := Str.ofString "__next__") hT F.slot_zip_next
      (wpAny_call_entry F.slot_zip_next hT F.entry_zip_next (zn_end (f0 := .none) (fl := false) D.s (drawK k1 hh i1 a D.a1 its.toArray) (drawK k2 hh i2 b D.b2 its2.toArray) (endK k1 hh i1 a its.toArray) (endK k2 hh i2 b its2.toArray) hz (.inl rfl) hTI hTO ⟨h1, p⟩ ⟨h2, p2⟩ (by
        rcases hend with q | q
        · left; simpa [← l1] using q
        · right; simpa [← l2] using q) fun h' tk e hk he => ?_) (F.args_zip_next_1 _))))
    obtain ⟨o, ho, hcl⟩ := he
    refine wpAny_bind (wpAny_isInstance (T := "StopIteration") (b := true) ⟨o, ho, hcl⟩ isSubtype_stop ?_)
    exact wpAny_pure ⟨rfl, I.turnedL (ch := [z, TI, TO, i1, i2]) (fun c o hb q => by
      rw [five] at hb
      exact hk c o (fun e => hb (.inl e)) (fun e => hb (.inr (.inr (.inl e)))) (fun e => hb (.inr (.inr (.inr (.inl e))))) (fun e => hb (.inr (.inr (.inr (.inr e))))) q) hf⟩
  self := fun A i s Q E st h => wpAny_pyIter_zip st.1 h

/-! ### enumerate(zip(..)) -/
theorem six {e z TI TO i1 i2 c : Addr} : c ∈ [e, z, TI, TO, i1, i2] ↔ c = e ∨ c = z ∨ c = TI ∨ c = TO ∨ c = i1 ∨ c = i2 := by simp
theorem turn_ezK {P : Program} {w : World} {K : PySem.W.Frag} {elts : List Expr} {kk : Nat} {tpos : Pos} (k1 k2 : Kd) {e a b z TI TO i1 i2 : Addr} (D : Apart z TI TO i1 i2 a b) (n1 : e ≠ z) (n2 : e ≠ TI) (n3 : e ≠ TO) (n4 : e ≠ i1) (n5 : e ≠ i2) :
    Turn P w K (.Tuple elts kk tpos) (ItezK K k1 k2 a b) [e, z, TI, TO, i1, i2] e (fun i h => (∃ old, IsEnum h e z ((i : Nat) : Int) old) ∧ ZpSt h z TI TO ∧ ZipTn k1 k2 a b z TI TO i1 i2 i h) where
  mem := List.mem_cons_self
  obj := fun i h st c hc => by
    obtain ⟨⟨old, he⟩, ⟨f0, fl, hz, _⟩, t⟩ := st
    rcases six.mp hc with q | q | q
    · rw [q]; exact ⟨_, he, fun v q => nomatch q⟩
    · rw [q]; exact ⟨_, hz, fun v q => nomatch q⟩
    · exact t.live c q
  keep := fun i h h' st k => by
    obtain ⟨⟨old, he⟩, hz, t⟩ := st
    exact ⟨⟨old, k e List.mem_cons_self _ he⟩, hz.mono fun o q => k z (six.mpr (.inr (.inl rfl))) o q, t.keep fun c q => k c (six.mpr (.inr (.inr q)))⟩
  item := by
    intro X hP hw hK hc i pins s σ H E I hf st hg
    subst hP hw hK
    obtain ⟨⟨old, he⟩, ⟨f0, fl, hz, hf0⟩, hTI, ⟨x0, y0, hTO⟩, h1, h2⟩ := st
    obtain ⟨xs, ys, x, y, hqx, hqy, hx, hy⟩ := hg
    obtain ⟨its, rv, p⟩ := seqK I hqx
    obtain ⟨its2, rv2, p2⟩ := seqK I hqy
    obtain ⟨u, hu, ru⟩ := rv.get hx
    obtain ⟨u2, hu2, ru2⟩ := rv2.get hy
    have l1 : i < its.toArray.size := by simpa using (List.getElem?_eq_some_iff.mp hu).1
    have l2 : i < its2.toArray.size := by simpa using (List.getElem?_eq_some_iff.mp hu2).1
    have hel : e < s.heap.objs.size := Heap.lt_size he
    have hh : X.A.in1.in1.handled = none := I.ok.hd hc
    have hT : s.TypeIs (.ref z) "zip" := ⟨_, hz, rfl⟩
    refine en_pyNext he ?_
    unfold Builtin.SmallTypes.nextOf
    refine wpAny_bind (wpAny_callSpecial?_slot (name := Str.ofString "__next__") hT F.slot_zip_next (wpAny_call_entry F.slot_zip_next hT F.entry_zip_next
      (zn_item (prog := X.prog) (w := X.w) (A := X.A.in1.in1) D.s (drawK k1 hh i1 a D.a1 its.toArray) (drawK k2 hh i2 b D.b2 its2.toArray) hz hf0 hTI hTO ⟨h1, p⟩ ⟨h2, p2⟩ l1 l2 fun v1 v2 m1 tk1 q1 q2 zs to w1 w2 hT1 sz1 hk => wpAny_pure ?_) (F.args_zip_next_1 _)))
    refine ⟨hk e _ n1 n3 n4 n5 he, fun m2 t2 tk2 eo tt kk => ?_⟩
    have ev : v1 = u := by
      have q : its.toArray[i]? = some u := by simpa using hu
      rw [q] at q1; exact (Option.some.inj q1).symm
    have ev2 : v2 = u2 := by
      have q : its2.toArray[i]? = some u2 := by simpa using hu2
      rw [q] at q2; exact (Option.some.inj q2).symm
    subst ev
    subst ev2
    replace eo : IsEnumOut m2 e z ((i : Int) + 1) (.ref s.heap.objs.size) m1.objs.size := eo
    replace tt : m2.get? m1.objs.size = some { cls := .type "tuple", data := .seq #[.int i t2, .ref s.heap.objs.size] } := tt
    replace kk : ∀ c o, c ≠ e → m1.get? c = some o → m2.get? c = some o := kk
    refine ⟨_, rfl, wpAny_letOwnedTupleGo_enum (s := { s with heap := m2, toks := tk2 }) eo fun m3 e3 sb3 => ?_⟩
    have sz : s.heap.objs.size < m1.objs.size := by omega
    have hT3 : m3.get? m1.objs.size = some { cls := .type "tuple", data := .seq #[.int i t2, .ref s.heap.objs.size] } := (sb3.2 _ (Nat.ne_of_gt (Nat.lt_trans hel sz))).trans tt
    have hA1 : ∀ c, c ∉ [e, z, TI, TO, i1, i2] → ∀ o, s.heap.get? c = some o → m1.get? c = some o := fun c hb o q => by
      rw [six] at hb
      exact hk c o (fun e => hb (.inr (.inl e))) (fun e => hb (.inr (.inr (.inr (.inl e))))) (fun e => hb (.inr (.inr (.inr (.inr (.inl e)))))) (fun e => hb (.inr (.inr (.inr (.inr (.inr e)))))) q
    have new1 : ObjOk X.prog X.w (upd H s.heap.objs.size (.tup [x, y])) m1 s.heap.objs.size (.tup [x, y]) :=
      ⟨by show 2 ≤ sizeLine; decide, [v1, v2], .cons ru (.cons ru2 .nil), ⟨_, hT1, rfl, _, rfl⟩⟩
    have I1 : Inv X pins σ (upd H s.heap.objs.size (.tup [x, y])) { s with heap := m1, toks := tk2 } := I.turnedNew (ch := [e, z, TI, TO, i1, i2]) (fun c o hb q => hA1 c hb o q) hf (Nat.le_refl _) new1
    have hlt : ∀ c, c ∈ [e, z, TI, TO, i1, i2] → c < s.heap.objs.size := fun c hcm => by
      rcases six.mp hcm with q | q | q | q | q | q
      · rw [q]; exact hel
      · rw [q]; exact Heap.lt_size hz
      · rw [q]; exact Heap.lt_size hTI
      · rw [q]; exact Heap.lt_size hTO
      · rw [q]; obtain ⟨_, e1, _⟩ := itrK_live h1; exact Heap.lt_size e1
      · rw [q]; obtain ⟨_, e2, _⟩ := itrK_live h2; exact Heap.lt_size e2
    have hf1 : ∀ c ∈ [e], FpOk X pins (upd H s.heap.objs.size (.tup [x, y])) c := fun c hcm => by
      rw [List.mem_singleton.mp hcm]
      obtain ⟨g0, g1, g2, g3, g4, g5⟩ := hf e List.mem_cons_self
      exact ⟨by rw [upd_ne (Nat.ne_of_lt hel)]; exact g0, g1, g2, g3, g4, g5⟩
    have new2 : ObjOk X.prog X.w (upd (upd H s.heap.objs.size (.tup [x, y])) m1.objs.size (.tup [.int (i : Nat), .ref s.heap.objs.size])) m3 m1.objs.size (.tup [.int (i : Nat), .ref s.heap.objs.size]) :=
      ⟨by show 2 ≤ sizeLine; decide, [.int i t2, .ref s.heap.objs.size], .cons ⟨_, rfl⟩ (.cons rfl .nil), ⟨_, hT3, rfl, _, rfl⟩⟩
    have I2 : Inv X pins σ (upd (upd H s.heap.objs.size (.tup [x, y])) m1.objs.size (.tup [.int (i : Nat), .ref s.heap.objs.size])) { s with heap := m3, toks := tk2 } :=
      I1.turnedNew (t' := tk2) (ch := [e]) (fun c o hb q => (sb3.2 c (fun z => hb (List.mem_singleton.mpr z))).trans (kk c o (fun z => hb (List.mem_singleton.mpr z)) q)) hf1 (Nat.le_refl _) new2
    have up : ∀ c, c ≠ e → ∀ o, m1.get? c = some o → m3.get? c = some o := fun c hce o q => (sb3.2 c hce).trans (kk c o hce q)
    refine ⟨.ref m1.objs.size, _, I2, rfl, ⟨_, _, x, y, rfl, I.hok.fresh (Nat.le_refl _), I.hok.fresh (Nat.le_of_lt sz), Nat.ne_of_lt sz, rfl, fun l hl => by rw [injK I hl hqx]; exact hx, fun l hl => by rw [injK I hl hqy]; exact hy⟩, ⟨⟨.ref s.heap.objs.size, ?_⟩, zs.mono (up z n1.symm), ?_, ?_, itrK_mono w1.1 (up i1 n4.symm), itrK_mono w2.1 (up i2 n5.symm)⟩, fun c hcm => ?_⟩
    · have q : ((i + 1 : Nat) : Int) = (i : Int) + 1 := by omega
      rw [q]; exact e3
    · exact up TI n2.symm _ (hk _ _ D.s.TIz D.s.TITO D.s.TIi1 D.s.TIi2 hTI)
    · obtain ⟨c1, c2, q⟩ := to; exact ⟨c1, c2, up TO n3.symm _ q⟩
    · have q := hlt c hcm
      rw [upd_ne (Nat.ne_of_lt (Nat.lt_trans q sz)), upd_ne (Nat.ne_of_lt q)]
      exact (hf c hcm).1
  done := by
    intro X hP hw hK hc i pins s σ H E I hf st hg
    subst hP hw hK
    obtain ⟨⟨old, he⟩, ⟨f0, fl, hz, hf0⟩, hTI, ⟨x0, y0, hTO⟩, h1, h2⟩ := st
    obtain ⟨xs, ys, hqx, hqy, hend⟩ := hg
    obtain ⟨its, rv, p⟩ := seqK I hqx
    obtain ⟨its2, rv2, p2⟩ := seqK I hqy
    have l1 := rv.length
    have l2 := rv2.length
    have hh : X.A.in1.in1.handled = none := I.ok.hd hc
    have hT : s.TypeIs (.ref z) "zip" := ⟨_, hz, rfl⟩
    refine en_pyNext he ?_
    unfold Builtin.SmallTypes.nextOf
    refine wpAny_bind (wpAny_callSpecial?_slot (name := Str.ofString "__next__") hT F.slot_zip_next
      (wpAny_call_entry F.slot_zip_next hT F.entry_zip_next (zn_end (prog := X.prog) (w := X.w) (A := X.A.in1.in1) D.s (drawK k1 hh i1 a D.a1 its.toArray) (drawK k2 hh i2 b D.b2 its2.toArray) (endK k1 hh i1 a its.toArray) (endK k2 hh i2 b its2.toArray) hz hf0 hTI hTO ⟨h1, p⟩ ⟨h2, p2⟩ (by
        rcases hend with q | q
        · left; simpa [← l1] using q
        · right; simpa [← l2] using q) fun h' tk e' hk he' => ?_) (F.args_zip_next_1 _)))
    refine ⟨e', rfl, he', rfl, I.turnedL (ch := [e, z, TI, TO, i1, i2]) (fun c o hb q => by
      rw [six] at hb
      exact hk c o (fun e => hb (.inr (.inl e))) (fun e => hb (.inr (.inr (.inr (.inl e))))) (fun e => hb (.inr (.inr (.inr (.inr (.inl e)))))) (fun e => hb (.inr (.inr (.inr (.inr (.inr e)))))) q) hf⟩
  self := fun A i s Q E st h => let ⟨⟨_, he⟩, _⟩ := st; wpAny_pyIter_enum he h

/-! ### how they begin -/
set_option maxHeartbeats 1000000 in
theorem meets_en1 {v : Value} {H : Heap → Prop} {nx : Heap → Heap} {it : Heap → Addr} (B : ∀ (prog : Program) (w : World) (A : Around) (E : Value → Shared → Prop) (s : Shared) (Q : Value → Shared → Prop), H s.heap → Q (.ref (it s.heap)) { s with heap := nx s.heap } → wpAny (model prog w) A (pyIter v) Q E s) :
    Meets (Builtin.«enumerate.__new__» ⟨[.type "enumerate", v], []⟩) (fun _ R s => H s.heap ∧
      R (.ok (.ret (.ref (nx s.heap).objs.size))) { s with heap := (nx s.heap).push { cls := .type "enumerate", data := .fields #[.none, .bool false, .ref (it s.heap), rawInt 0, .none, .none] } }) :=
  .of_wp fun prog w A R s h => by
    obtain ⟨m, g, d, tk, os⟩ := s
    obtain ⟨h1, h⟩ := h
    have hsub := sub_enumerate
    have q1 : ∀ {A' : Around} {E : Value → Shared → Prop} {Q : Value → Shared → Prop}, Q (.ref (it m)) ⟨nx m, g, d, tk, os⟩ → wpAny (model prog w) A' (pyIter v) Q E ⟨m, g, d, tk, os⟩ := fun q => B prog w _ _ ⟨m, g, d, tk, os⟩ _ h1 q
    wp_walk using q1
    refine (wpAny_stack_any fun st => wpAny_pure ?_)
    split
    · rename_i c _ _ _ _ _
      cases (c == Value.type "enumerate") <;> (wp_walk using q1; exact ⟨_, rfl, h⟩)
    · wp_walk using q1
      exact ⟨_, rfl, h⟩
section
variable {prog : Program} {w : World} {A : Around} {E : Value → Shared → Prop} {s : Shared}
theorem call_en1 {v : Value} {H : Heap → Prop} {nx : Heap → Heap} {it : Heap → Addr} {Q : Value → Shared → Prop} (B : ∀ (prog : Program) (w : World) (A : Around) (E : Value → Shared → Prop) (s : Shared) (Q : Value → Shared → Prop), H s.heap → Q (.ref (it s.heap)) { s with heap := nx s.heap } → wpAny (model prog w) A (pyIter v) Q E s) (h1 : H s.heap)
    (h : ∀ h', IsEnum h' (nx s.heap).objs.size (it s.heap) 0 .none → (∀ b o, (nx s.heap).get? b = some o → h'.get? b = some o) → Q (.ref (nx s.heap).objs.size) { s with heap := h' }) :
    wpAny (model prog w) A (call (.type "enumerate") [v]) Q E s := by
  refine callType_new F.called_enumerate (by decide) (F.typeCall_enumerate_1 _) (F.newCall_enumerate_1 _) (fun obj => F.args_object_init_2 obj _) F.entry_enumerate_new (meets_en1 B) ⟨h1, ?_⟩
  have he : IsEnum ((nx s.heap).push { cls := .type "enumerate", data := .fields #[.none, .bool false, .ref (it s.heap), rawInt 0, .none, .none] }) (nx s.heap).objs.size (it s.heap) 0 .none := Heap.get?_push_size _ rfl
  exact ⟨⟨_, he, rfl⟩, h _ he fun b o x => Heap.get?_push_of_some _ x⟩
end
def iEnumK (K : PySem.W.Frag) (ta : TA) : TI := fun σ H R => ta σ H fun vs H1 => ∃ k a xs, vs = [.ref a] ∧ SqK K k H1 a xs ∧ R (IteK K k a) H1
def iZipK (K : PySem.W.Frag) (ta : TA) : TI := fun σ H R => ta σ H fun vs H1 => ∃ k1 k2 a b xs ys, vs = [.ref a, .ref b] ∧ SqK K k1 H1 a xs ∧ SqK K k2 H1 b ys ∧ R (ItzK K k1 k2 a b) H1
def iEzK (K : PySem.W.Frag) (ta : TA) : TI := fun σ H R => ta σ H fun vs H1 => ∃ k1 k2 a b xs ys, vs = [.ref a, .ref b] ∧ SqK K k1 H1 a xs ∧ SqK K k2 H1 b ys ∧ R (ItezK K k1 k2 a b) H1
section
variable {X : Cx} {e e2 : Expr} {ta : TA} {p p2 pos pos2 tpos : Pos} {elts : List Expr} {kk : Nat}
theorem pi_enumK (hg : Gl X "enumerate") (hm : X.mg "enumerate" = none) (ha : PA X [e] ta) (hs : starEach [e] X.env = (false, eval e X.env) :: starEach [] X.env := by rfl) :
    PI X (.Tuple elts kk tpos) (.Call (.Name "enumerate" p) [e] [] pos) (iEnumK X.K ta) := by
  refine ⟨fun pins s σ H R I h => ?_⟩
  refine Call_ (ld_blt I hg hm boot_enumerate (PyProof.Rows.callWith_type1 (thn (ha.run pos pins s σ H _ I h) fun us s1 ⟨vs, H1, I1, r1, q1⟩ => ?_) hs rfl))
  obtain ⟨k, a, xs, ex, hq, q⟩ := q1
  subst ex
  cases r1 with
  | cons r rr =>
    cases rr
    cases r
    obtain ⟨its, rv, p'⟩ := seqK I1 hq
    have al := datK_lt p'
    refine call_en1 (v := .ref a) (H := fun h => DatK k h a its.toArray) (nx := fun h => h.push (objK k a)) (it := fun h => h.objs.size) (fun prog w A E s Q h1 hQ => (begK k a its.toArray).iter prog w A E s Q h1 hQ) p' fun h' he hk => ?_
    have zz : (s1.heap.push (objK k a)).objs.size = s1.heap.objs.size + 1 := Heap.size_push ..
    have h0 : h'.get? s1.heap.objs.size = some (objK k a) := hk _ _ (Heap.get?_push_size _ (begK k a its.toArray).free)
    have old : ∀ b o, s1.heap.get? b = some o → h'.get? b = some o := fun b o x => hk b o (Heap.get?_push_of_some _ x)
    rw [zz] at he ⊢
    refine wpAny_pyIter_enum he ?_
    have I2 : Inv X pins σ H1 { s1 with heap := h' } := I1.kept (t' := s1.toks) old
    have ae : a ≠ s1.heap.objs.size + 1 := Nat.ne_of_lt (Nat.lt_succ_of_lt al)
    refine ⟨s1.heap.objs.size + 1, [s1.heap.objs.size + 1, s1.heap.objs.size], _, _, H1, rfl, I2, turn_enumK k a (s1.heap.objs.size + 1) s1.heap.objs.size ae (Nat.ne_of_lt al), ⟨⟨.none, he⟩, itrK0 h0, Nat.succ_ne_self _⟩, fun b hb => ?_, q⟩
    have hle : s1.heap.objs.size ≤ b := by
      rcases List.mem_cons.mp hb with z | z
      · rw [z]; exact Nat.le_succ _
      · rw [List.mem_singleton.mp z]; exact Nat.le_refl _
    exact I1.fpOk hle (I1.hok.fresh hle)
/-- the five cells of a new zip -/
theorem zip_cells {H1 : Hp} {pins : List (Addr × Obj)} {σ : L2.St} {s1 : Shared} (I1 : Inv X pins σ H1 s1) {k1 k2 : Kd} {a b : Addr} {xs ys : List V} (hx : SqK X.K k1 H1 a xs) (hy : SqK X.K k2 H1 b ys) {M : Model} {A : Around} {E : Value → Shared → Prop} {Q : Value → Shared → Prop}
    (h : ∀ h', IsZip h' (s1.heap.objs.size + 4) (s1.heap.objs.size + 2) (s1.heap.objs.size + 3) .none → ZipTn k1 k2 a b (s1.heap.objs.size + 4) (s1.heap.objs.size + 2) (s1.heap.objs.size + 3) s1.heap.objs.size (s1.heap.objs.size + 1) 0 h' → h'.objs.size = s1.heap.objs.size + 5 →
      Apart (s1.heap.objs.size + 4) (s1.heap.objs.size + 2) (s1.heap.objs.size + 3) s1.heap.objs.size (s1.heap.objs.size + 1) a b → (∀ c o, s1.heap.get? c = some o → h'.get? c = some o) → Q (.ref (s1.heap.objs.size + 4)) { s1 with heap := h' }) :
    wpAny (model X.prog X.w) A (call (.type "zip") [.ref a, .ref b]) Q E s1 := by
  obtain ⟨its, rv, p1⟩ := seqK I1 hx
  obtain ⟨its2, rv2, p2⟩ := seqK I1 hy
  exact zip_begins2 (begK k1 a its.toArray) (begK k2 b its2.toArray) p1 p2 fun h' hz hTI hTO h1 h2 hsz hk => h h' hz ⟨hTI, ⟨_, _, hTO⟩, itrK0 h1, itrK0 h2⟩ hsz (apart_new (datK_lt p1) (datK_lt p2)) hk
theorem pi_zipK (hg : Gl X "zip") (hm : X.mg "zip" = none) (ha : PA X [e, e2] ta) (hs : starEach [e, e2] X.env = (false, eval e X.env) :: starEach [e2] X.env := by rfl) (hpl : (backTo pos (starEach [e2] X.env)).any (·.1) = false := by rfl) :
    PI X (.Tuple elts kk tpos) (.Call (.Name "zip" p) [e, e2] [] pos) (iZipK X.K ta) := by
  refine ⟨fun pins s σ H R I h => ?_⟩
  refine Call_ (ld_blt I hg hm PyProof.Rows.boot_zip (PyProof.Rows.callWith_type1 (thn (ha.run pos pins s σ H _ I h) fun us s1 ⟨vs, H1, I1, r1, q1⟩ => ?_) hs hpl))
  obtain ⟨k1, k2, a, b, xs, ys, ex, hx, hy, q⟩ := q1
  subst ex
  cases r1 with
  | cons r rr =>
    cases rr with
    | cons r' rr =>
      cases rr
      cases r
      cases r'
      refine zip_cells (M := model X.prog X.w) I1 hx hy fun h' hz t hsz D hk => wpAny_pyIter_zip hz ?_
      have I2 : Inv X pins σ H1 { s1 with heap := h' } := I1.kept (t' := s1.toks) hk
      refine ⟨s1.heap.objs.size + 4, _, _, _, H1, rfl, I2, turn_zipK k1 k2 D, ⟨hz, t⟩, fun c hcm => ?_, q⟩
      have hle : s1.heap.objs.size ≤ c := by
        rcases five.mp hcm with z | z | z | z | z <;> rw [z] <;> first | exact Nat.le_add_right _ _ | exact Nat.le_refl _
      exact I1.fpOk hle (I1.hok.fresh hle)
theorem pi_ezK (hg : Gl X "zip") (hm : X.mg "zip" = none) (hg2 : Gl X "enumerate") (hm2 : X.mg "enumerate" = none) (ha : PA X [e, e2] ta) (hs : starEach [e, e2] X.env = (false, eval e X.env) :: starEach [e2] X.env := by rfl) (hpl : (backTo pos (starEach [e2] X.env)).any (·.1) = false := by rfl) :
    PI X (.Tuple elts kk tpos) (.Call (.Name "enumerate" p2) [.Call (.Name "zip" p) [e, e2] [] pos] [] pos2) (iEzK X.K ta) := by
  refine ⟨fun pins s σ H R I h => ?_⟩
  refine Call_ (ld_blt I hg2 hm2 boot_enumerate (PyProof.Rows.callWith_type1 (PyProof.Rows.args_cons ?_ rfl) rfl rfl))
  refine Call_ (ld_blt I hg hm PyProof.Rows.boot_zip (PyProof.Rows.callWith_type1 (thn (ha.run pos pins s σ H _ I h) fun us s1 ⟨vs, H1, I1, r1, q1⟩ => ?_) hs hpl))
  obtain ⟨k1, k2, a, b, xs, ys, ex, hx, hy, q⟩ := q1
  subst ex
  cases r1 with
  | cons r rr =>
    cases rr with
    | cons r' rr =>
      cases rr
      cases r
      cases r'
      refine zip_cells (M := model X.prog X.w) I1 hx hy fun h' hz t hsz D hk => PyProof.Rows.args_nil ?_
      refine call_en1 (v := .ref (s1.heap.objs.size + 4)) (H := fun h => IsZip h (s1.heap.objs.size + 4) (s1.heap.objs.size + 2) (s1.heap.objs.size + 3) .none) (nx := fun h => h) (it := fun _ => s1.heap.objs.size + 4) (fun prog w A E s Q h1 hQ => wpAny_pyIter_zip h1 hQ) hz fun h2 he hk2 => ?_
      have zz : ({ s1 with heap := h' } : Shared).heap.objs.size = s1.heap.objs.size + 5 := hsz
      rw [zz] at he ⊢
      refine wpAny_pyIter_enum he ?_
      have I2 : Inv X pins σ H1 { s1 with heap := h2 } := I1.kept (t' := s1.toks) fun b o x => hk2 b o (hk b o x)
      have ne5 : ∀ j, j < 5 → s1.heap.objs.size + 5 ≠ s1.heap.objs.size + j := fun j hj => by omega
      refine ⟨s1.heap.objs.size + 5, _, _, _, H1, rfl, I2, turn_ezK k1 k2 D (ne5 4 (by decide)) (ne5 2 (by decide)) (ne5 3 (by decide)) (ne5 0 (by decide)) (ne5 1 (by decide)), ⟨⟨.none, he⟩, (ZpSt.of_zip hz).mono fun o x => hk2 _ o x, t.keep fun c _ o x => hk2 c o x⟩, fun c hcm => ?_, q⟩
      have hle : s1.heap.objs.size ≤ c := by
        rcases six.mp hcm with z | z | z | z | z | z <;> rw [z] <;> first | exact Nat.le_add_right _ _ | exact Nat.le_refl _
      exact I1.fpOk hle (I1.hok.fresh hle)
end
end Dm

/-! DmO: the readings of enumerate, zip, enumerate(zip), extend, list(..) as a list of the store, len(set(..)). -/
namespace Dm
open PySem L2

/-! ### what is walked, as data -/
section
variable {K : PySem.W.Frag} {g : G}
theorem rep_k {x : D} {v : V} {l : List D} (r : Rep K g x v) (h : x = .tup l ∨ x = .lst l) : ∃ k a xs, v = .ref a ∧ SqK K k g.F a xs ∧ RepL K g l xs := by
  rcases h with rfl | rfl
  · cases r with
    | tup q rl => exact ⟨.T, _, _, rfl, q, rl⟩
  · cases r with
    | lst q rl => exact ⟨.L, _, _, rfl, .inl (.inl q), rl⟩
theorem it_enumK {k : Kd} {a : Addr} {xs : List V} {l : List D} (hx : SqK K k g.F a xs) (rx : RepL K g l xs) : ItOk K g (enumD l) (IteK K k a) := by
  intro i H1 g1 S1 l1 hh1
  have sx : SqK K k H1 a xs := sqK_same hh1.same (sqK_same l1.F hx)
  refine ⟨fun d hd => ?_, fun hi => ⟨xs, sx, ?_⟩⟩
  · unfold enumD at hd
    rw [List.getElem?_map, List.getElem?_zipIdx] at hd
    cases hz : l[i]? with
    | none => rw [hz] at hd; cases hd
    | some q =>
      rw [hz] at hd
      cases hd
      obtain ⟨v, hv, rv⟩ := rx.get hz
      refine ⟨⟨xs, v, sx, hv⟩, fun x H' y => ?_⟩
      obtain ⟨T, x1, rfl, nT, rfl, f1⟩ := y
      have z1 : x1 = v := Option.some.inj ((f1 xs sx).symm.trans hv)
      subst z1
      have lp : Le g1 (g1.put T (.tup [.int (i : Nat), x1])) := Le.put (hh1.free nT)
      refine ⟨_, lp, hh1.put nT, .tup (.inl (.inl upd_same)) (.cons ?_ (.cons ((rv.monoW l1).mono lp) .nil))⟩
      show Rep K _ (.int ((0 + i : Nat) : Int)) _
      rw [Nat.zero_add]
      exact .int _
  · unfold enumD at hi
    rw [List.length_map, List.length_zipIdx, rx.length] at hi
    exact hi
theorem it_zipK {k1 k2 : Kd} {a b : Addr} {xs ys : List V} {l m : List D} (hx : SqK K k1 g.F a xs) (hy : SqK K k2 g.F b ys) (rx : RepL K g l xs) (ry : RepL K g m ys) : ItOk K g (zipD l m) (ItzK K k1 k2 a b) := by
  intro i H1 g1 S1 l1 hh1
  have sx : SqK K k1 H1 a xs := sqK_same hh1.same (sqK_same l1.F hx)
  have sy : SqK K k2 H1 b ys := sqK_same hh1.same (sqK_same l1.F hy)
  refine ⟨fun d hd => ?_, fun hi => ⟨xs, ys, sx, sy, ?_⟩⟩
  · unfold zipD at hd
    rw [List.getElem?_map] at hd
    cases hz : (l.zip m)[i]? with
    | none => rw [hz] at hd; cases hd
    | some q =>
      rw [hz] at hd
      cases hd
      obtain ⟨h1, h2⟩ := List.getElem?_zip_eq_some.mp hz
      obtain ⟨v, hv, rv⟩ := rx.get h1
      obtain ⟨u, hu, ru⟩ := ry.get h2
      refine ⟨⟨xs, ys, v, u, sx, sy, hv, hu⟩, fun x H' y => ?_⟩
      obtain ⟨T, x1, x2, rfl, nT, rfl, f1, f2⟩ := y
      have z1 : x1 = v := Option.some.inj ((f1 xs sx).symm.trans hv)
      have z2 : x2 = u := Option.some.inj ((f2 ys sy).symm.trans hu)
      subst z1
      subst z2
      have lp : Le g1 (g1.put T (.tup [x1, x2])) := Le.put (hh1.free nT)
      exact ⟨_, lp, hh1.put nT, .tup (.inl (.inl upd_same)) (.cons ((rv.monoW l1).mono lp) (.cons ((ru.monoW l1).mono lp) .nil))⟩
  · unfold zipD at hi
    rw [List.length_map, List.length_zip, rx.length, ry.length] at hi
    omega
theorem it_ezK {k1 k2 : Kd} {a b : Addr} {xs ys : List V} {l m : List D} (hx : SqK K k1 g.F a xs) (hy : SqK K k2 g.F b ys) (rx : RepL K g l xs) (ry : RepL K g m ys) : ItOk K g (enumD (zipD l m)) (ItezK K k1 k2 a b) := by
  intro i H1 g1 S1 l1 hh1
  have sx : SqK K k1 H1 a xs := sqK_same hh1.same (sqK_same l1.F hx)
  have sy : SqK K k2 H1 b ys := sqK_same hh1.same (sqK_same l1.F hy)
  refine ⟨fun d hd => ?_, fun hi => ⟨xs, ys, sx, sy, ?_⟩⟩
  · unfold enumD at hd
    rw [List.getElem?_map, List.getElem?_zipIdx] at hd
    unfold zipD at hd
    rw [List.getElem?_map] at hd
    cases hz : (l.zip m)[i]? with
    | none => rw [hz] at hd; cases hd
    | some q =>
      rw [hz] at hd
      cases hd
      obtain ⟨h1, h2⟩ := List.getElem?_zip_eq_some.mp hz
      obtain ⟨v, hv, rv⟩ := rx.get h1
      obtain ⟨u, hu, ru⟩ := ry.get h2
      refine ⟨⟨xs, ys, v, u, sx, sy, hv, hu⟩, fun x H' y => ?_⟩
      obtain ⟨T, T2, x1, x2, rfl, nT, nT2, hne, rfl, f1, f2⟩ := y
      have z1 : x1 = v := Option.some.inj ((f1 xs sx).symm.trans hv)
      have z2 : x2 = u := Option.some.inj ((f2 ys sy).symm.trans hu)
      subst z1
      subst z2
      have lp : Le g1 (g1.put T (.tup [x1, x2])) := Le.put (hh1.free nT)
      have hh2 := hh1.put (o := .tup [x1, x2]) nT
      have nT3 : upd H1 T (.tup [x1, x2]) T2 = none := by rw [upd_ne hne.symm]; exact nT2
      have lp2 : Le (g1.put T (.tup [x1, x2])) ((g1.put T (.tup [x1, x2])).put T2 (.tup [.int (i : Nat), .ref T])) := Le.put (hh2.free nT3)
      refine ⟨_, lp.trans lp2, hh2.put nT3, .tup (.inl (.inl upd_same)) (.cons ?_ (.cons (Rep.mono lp2 (.tup (.inl (.inl upd_same)) (.cons ((rv.monoW l1).mono lp) (.cons ((ru.monoW l1).mono lp) .nil)))) .nil))⟩
      show Rep K _ (.int ((0 + i : Nat) : Int)) _
      rw [Nat.zero_add]
      exact .int _
  · unfold enumD at hi
    rw [List.length_map, List.length_zipIdx] at hi
    unfold zipD at hi
    rw [List.length_map, List.length_zip, rx.length, ry.length] at hi
    omega
end

/-! ### readings -/
def enumN : Str := "enumerate"
def extN : Str := "extend"
def listN : Str := "list"
def lenN : Str := "len"
def setN : Str := "set"
section
variable {X : Cx} {c : Ctx} {T : Tab} {Φ : Fns} {k : Nat} {pos p p2 pos2 apos : Pos} {ea eb : Expr} {ca cb : E}
theorem evE_zip {a b : E} {fr : Fr} {S : Store} {d : D} {S' : Store} (e : evE Φ (.zip a b) fr S = .ok d S') : ∃ x S1 y l m, evE Φ a fr S = .ok x S1 ∧ evE Φ b fr S1 = .ok y S' ∧ (x = .tup l ∨ x = .lst l) ∧ (y = .tup m ∨ y = .lst m) ∧ d = .itr (zipD l m) := by
  cases e1 : evE Φ a fr S with
  | ex => simp [evE, e1] at e
  | no => simp [evE, e1] at e
  | ok x S1 =>
    cases e2 : evE Φ b fr S1 with
    | ex => simp [evE, e1, e2] at e
    | no => simp [evE, e1, e2] at e
    | ok y S2 =>
      simp only [evE, e1, e2, Res.bind_ok] at e
      split at e <;> first | cases e | skip
      · exact ⟨_, _, _, _, _, rfl, e2, .inr rfl, .inr rfl, rfl⟩
      · exact ⟨_, _, _, _, _, rfl, e2, .inl rfl, .inl rfl, rfl⟩
      · exact ⟨_, _, _, _, _, rfl, e2, .inr rfl, .inl rfl, rfl⟩
      · exact ⟨_, _, _, _, _, rfl, e2, .inl rfl, .inr rfl, rfl⟩
theorem evEs_two {a b : E} {fr : Fr} {S S1 S2 : Store} {x y : D} (e1 : evE Φ a fr S = .ok x S1) (e2 : evE Φ b fr S1 = .ok y S2) : evEs Φ [a, b] fr S = .ok [x, y] S2 := by
  simp only [evEs, e1, e2, Res.bind_ok]
theorem i_enum {elts : List Expr} {kk : Nat} {tpos : Pos} (G : GX T Φ k X) (C : CtxOk c X) (hb : enumN ∈ T.blt) (hg : c.gl enumN = true) (ha : PA X [ea] (tEs X.K Φ [ca])) (hs : isStar ea = false) :
    PI X (.Tuple elts kk tpos) (.Call (.Name enumN p) [ea] [] pos) (tI X.K Φ (.enum ca)) := by
  refine (pi_enumK (C.gl hg).1 (G.blt _ hb).1 ha (star_cons hs)).imp fun σ H R q => ?_
  obtain ⟨g, fr, S, d, S', l, hf, hh, e, hl, q⟩ := tI_in q
  cases e1 : evE Φ ca fr S with
  | ex => simp [evE, e1] at e
  | no => simp [evE, e1] at e
  | ok x S1 =>
    have es : evEs Φ [ca] fr S = .ok [x] S1 := by simp only [evEs, e1, Res.bind_ok]
    have hx : ∃ l0, ((x = .tup l0 ∨ x = .lst l0) ∨ x = .itr l0) ∧ d = .itr (enumD l0) ∧ S' = S1 := by
      simp only [evE, e1, Res.bind_ok] at e
      split at e <;> first | cases e | skip
      · exact ⟨_, .inl (.inr rfl), rfl, rfl⟩
      · exact ⟨_, .inl (.inl rfl), rfl, rfl⟩
      · exact ⟨_, .inr rfl, rfl, rfl⟩
    obtain ⟨l0, hx, rfl, rfl⟩ := hx
    cases hl
    refine tEs_in hf hh es fun vs H' g' le hh' r => ?_
    obtain ⟨v, rfl, rv⟩ := r.one
    rcases hx with hx | rfl
    rotate_left
    · cases rv
    obtain ⟨kd, a, xs, rfl, hq, rl⟩ := rep_k rv hx
    exact ⟨kd, a, xs, rfl, sqK_same hh'.same hq, q H' g' _ le hh' (it_enumK hq rl)⟩
theorem i_zip {elts : List Expr} {kk : Nat} {tpos : Pos} (G : GX T Φ k X) (C : CtxOk c X) (hb : zipN ∈ T.blt) (hg : c.gl zipN = true) (ha : PA X [ea, eb] (tEs X.K Φ [ca, cb])) (hs : isStar ea = false) (hs2 : isStar eb = false) :
    PI X (.Tuple elts kk tpos) (.Call (.Name zipN p) [ea, eb] [] pos) (tI X.K Φ (.zip ca cb)) := by
  refine (pi_zipK (C.gl hg).1 (G.blt _ hb).1 ha (star_cons hs) (star_plain (by rw [List.any_cons, hs2]; rfl))).imp fun σ H R q => ?_
  obtain ⟨g, fr, S, d, S', l, hf, hh, e, hl, q⟩ := tI_in q
  obtain ⟨x, S1, y, l1, m1, e1, e2, hx, hy, rfl⟩ := evE_zip e
  cases hl
  refine tEs_in hf hh (evEs_two e1 e2) fun vs H' g' le hh' r => ?_
  obtain ⟨v, u, rfl, rv, ru⟩ := r.two
  obtain ⟨k1, a, xs, rfl, hq, rl⟩ := rep_k rv hx
  obtain ⟨k2, b, ys, rfl, hq2, rl2⟩ := rep_k ru hy
  exact ⟨k1, k2, a, b, xs, ys, rfl, sqK_same hh'.same hq, sqK_same hh'.same hq2, q H' g' _ le hh' (it_zipK hq hq2 rl rl2)⟩
theorem i_ez {elts : List Expr} {kk : Nat} {tpos : Pos} (G : GX T Φ k X) (C : CtxOk c X) (hb : zipN ∈ T.blt) (hg : c.gl zipN = true) (hb2 : enumN ∈ T.blt) (hg2 : c.gl enumN = true) (ha : PA X [ea, eb] (tEs X.K Φ [ca, cb])) (hs : isStar ea = false) (hs2 : isStar eb = false) :
    PI X (.Tuple elts kk tpos) (.Call (.Name enumN p2) [.Call (.Name zipN p) [ea, eb] [] pos] [] pos2) (tI X.K Φ (.enum (.zip ca cb))) := by
  refine (pi_ezK (C.gl hg).1 (G.blt _ hb).1 (C.gl hg2).1 (G.blt _ hb2).1 ha (star_cons hs) (star_plain (by rw [List.any_cons, hs2]; rfl))).imp fun σ H R q => ?_
  obtain ⟨g, fr, S, d, S', l, hf, hh, e, hl, q⟩ := tI_in q
  cases ez : evE Φ (.zip ca cb) fr S with
  | ex =>
    have e : (evE Φ (.zip ca cb) fr S).bind (fun x S1 => match x with | .lst l => Res.ok (D.itr (enumD l)) S1 | .tup l => .ok (.itr (enumD l)) S1 | .itr l => .ok (.itr (enumD l)) S1 | _ => .no) = .ok d S' := e
    rw [ez] at e; cases e
  | no =>
    have e : (evE Φ (.zip ca cb) fr S).bind (fun x S1 => match x with | .lst l => Res.ok (D.itr (enumD l)) S1 | .tup l => .ok (.itr (enumD l)) S1 | .itr l => .ok (.itr (enumD l)) S1 | _ => .no) = .ok d S' := e
    rw [ez] at e; cases e
  | ok dz Sz =>
    have e : (evE Φ (.zip ca cb) fr S).bind (fun x S1 => match x with | .lst l => Res.ok (D.itr (enumD l)) S1 | .tup l => .ok (.itr (enumD l)) S1 | .itr l => .ok (.itr (enumD l)) S1 | _ => .no) = .ok d S' := e
    rw [ez, Res.bind_ok] at e
    obtain ⟨x, S1, y, l1, m1, e1, e2, hx, hy, rfl⟩ := evE_zip ez
    cases e
    cases hl
    refine tEs_in hf hh (evEs_two e1 e2) fun vs H' g' le hh' r => ?_
    obtain ⟨v, u, rfl, rv, ru⟩ := r.two
    obtain ⟨k1, a, xs, rfl, hq, rl⟩ := rep_k rv hx
    obtain ⟨k2, b, ys, rfl, hq2, rl2⟩ := rep_k ru hy
    exact ⟨k1, k2, a, b, xs, ys, rfl, sqK_same hh'.same hq, sqK_same hh'.same hq2, q H' g' _ le hh' (it_ezK hq hq2 rl rl2)⟩
/-- o.extend(e) -/
theorem e_ext (ho : PE X ea (tE X.K Φ ca)) (ha : PE X eb (tE X.K Φ cb)) (hs : isStar eb = false) (h0 : isCall0 ea = false) (hline : (apos.endLine == pos.line) = true) :
    PE X (.Call (.Attribute ea extN apos) [eb] [] pos) (tE X.K Φ (.ext ca cb)) := by
  have hs' : [eb].any isStar = false := by rw [List.any_cons, hs]; rfl
  have fw := few_ok (env := X.env) (cpos := pos) hs' (show 1 < 29 by decide)
  refine (pe_bm PySem.F.plainAttrs_list PySem.F.slot_list_extend PySem.F.type_list_extend mt_extend ho (pa_cons ha pa_nil (star_cons hs)) (attrBase h0 _ _ _) fw hline (star_cons hs)).imp fun σ H Q ⟨g, fr, S, hf, hh, h⟩ => ?_
  obtain ⟨x, S1, e1, h⟩ := RPost.bind h
  refine tE_in hf hh e1 fun v H1 g1 l1 hh1 r1 => ?_
  cases r1 with
  | ref er =>
    rename_i a n
    have h : RPost (fun d S' => Post X.K g d S' Q) (match cellL S1 n with | some _ => ((evE Φ cb fr S1).bind fun y S2 => match cellL S2 n, lstD S2 y with | some l, some m => if l.length + m.length ≤ sizeLine then .ok .non (S2.set n (.lst (l ++ m))) else .no | _, _ => .no) | none => .no) := h
    cases hc : cellL S1 n with
    | none => rw [hc] at h; exact h.elim
    | some l1' =>
      rw [hc] at h
      obtain ⟨xs1, ho1, _⟩ := hh1.lst hc er
      refine ⟨.inl ⟨rfl, xs1, .inl (.inl ho1)⟩, ?_⟩
      obtain ⟨y, S2, e2, h⟩ := RPost.bind h
      refine tE_in (hf.mono l1) hh1 e2 fun u H2 g2 l2 hh2 r2 => ?_
      cases hc2 : cellL S2 n with
      | none => rw [hc2] at h; exact h.elim
      | some l =>
        rw [hc2] at h
        cases hm : lstD S2 y with
        | none => rw [hm] at h; exact h.elim
        | some m =>
          rw [hm] at h
          have h : RPost (fun d S' => Post X.K g d S' Q) (if l.length + m.length ≤ sizeLine then .ok .non (S2.set n (.lst (l ++ m))) else .no) := h
          split at h
          · rename_i hl
            have er2 := l2.at_ er
            obtain ⟨xs, ho2, rl⟩ := hh2.lst hc2 er2
            obtain ⟨b, zs, rfl, hb2, rm⟩ := lst_of hh2 r2 hm
            refine ⟨a, b, xs, zs, rfl, rfl, ho2, hb2, by rw [← rl.length, ← rm.length]; exact hl, ?_⟩
            exact (show Post X.K g .non _ Q from h) .non _ g2 (l1.trans l2) (hh2.write (cellL_eq hc2) rfl er2 ⟨_, rfl, rl.append rm⟩) .non
          · exact h.elim
  | _ => exact h.elim
/-- list(a), a list of the store -/
theorem e_mkc (G : GX T Φ k X) (C : CtxOk c X) (hb : listN ∈ T.blt) (hg : c.gl listN = true) (ha : PE X ea (tE X.K Φ ca)) (hs : isStar ea = false) :
    PE X (.Call (.Name listN p) [ea] [] pos) (tE X.K Φ (.mkc ca)) := by
  obtain ⟨m0, m1⟩ := G.blt _ hb
  refine (pe_callTy (T := "list") call_list_of (C.gl hg).1 m0 (bi_boot .list (by decide)) (pa_cons ha pa_nil (star_cons hs)) m1 (C.gl hg).2 (star_cons hs)).imp fun σ H Q ⟨g, fr, S, hf, hh, h⟩ => ?_
  obtain ⟨x, S1, e1, h⟩ := RPost.bind h
  refine tE_in hf hh e1 fun v H1 g1 l1 hh1 r1 => ?_
  cases es : seqD S1 x with
  | none => rw [es] at h; exact h.elim
  | some l =>
    rw [es] at h
    obtain ⟨q, xs, rfl, hq, rl⟩ := seq_of hh1 r1 es
    have h : Post X.K g (.ref S1.length) (S1 ++ [.lst l]) Q := h
    exact ⟨q, xs, rfl, hq, (h.mono l1).add hh1 ⟨xs, rfl, rl⟩⟩
end
end Dm

/-! DmP: list(zip(a, b)). -/
namespace Dm
open PySem PySem.Spec PyProof.Rows L2
theorem zip_no_len : typeLookup (.type "zip") "__len__" = pure none := am_miss_of_fast (by decide +kernel)
theorem zip_no_hint : typeLookup (.type "zip") "__length_hint__" = pure none := am_miss_of_fast (by decide +kernel)
section
variable {prog : Program} {w : World} {A : Around} {E : Value → Shared → Prop} {s : Shared} {z TI TO i1 i2 : Addr} {fp1 fp2 : List Addr} {n1 n2 i : Nat} {P1 P2 : Nat → Value → Prop} {St1 St2 : Nat → Heap → Prop}
def ZSt (St1 St2 : Nat → Heap → Prop) (z TI TO i1 i2 : Addr) (i : Nat) (h : Heap) : Prop := ZpSt h z TI TO ∧ IsTupOf2 h TI (.ref i1) (.ref i2) ∧ (∃ c1 c2, IsTupOf2 h TO c1 c2) ∧ St1 i h ∧ St2 i h
theorem zp_pyNext_item {Q : Option Value → Shared → Prop} (S : ZipSep2 z TI TO i1 i2 fp1 fp2) (D1 : Draws prog w A.in1 i1 fp1 n1 P1 St1) (D2 : Draws prog w A.in1 i2 fp2 n2 P2 St2)
    (st : ZSt St1 St2 z TI TO i1 i2 i s.heap) (b1 : i < n1) (b2 : i < n2)
    (hQ : ∀ x1 x2 h' tk, P1 i x1 → P2 i x2 → ZpSt h' z TI TO → (∃ c1 c2, IsTupOf2 h' TO c1 c2) → St1 (i + 1) h' → St2 (i + 1) h' → IsTupOf2 h' s.heap.objs.size x1 x2 → h'.objs.size = s.heap.objs.size + 1 →
      (∀ c o, c ≠ z → c ≠ TO → c ≠ i1 → c ≠ i2 → s.heap.get? c = some o → h'.get? c = some o) → Q (some (.ref s.heap.objs.size)) { s with heap := h', toks := tk }) :
    wpAny (model prog w) A (pyNext (.ref z)) Q E s := by
  obtain ⟨⟨f0, fl, hz, hf⟩, hTI, ⟨a1, a2, hTO⟩, st1, st2⟩ := st
  have hT : s.TypeIs (.ref z) "zip" := ⟨_, hz, rfl⟩
  unfold pyNext
  exact wpAny_bind (wpAny_attempt (wpAny_callSpecial?_slot (name := Str.ofString "__next__") hT F.slot_zip_next
    (wpAny_call_entry F.slot_zip_next hT F.entry_zip_next
      (wpAny_mono (zn_item (Q := fun v y => Q (some v) y) S D1 D2 hz hf hTI hTO st1 st2 b1 b2 hQ) (fun r y ⟨v, e, q⟩ => ⟨v, e, wpAny_pure q⟩) fun _ _ q => q) (F.args_zip_next_1 _))))
theorem zp_pyNext_end {Q : Option Value → Shared → Prop} (S : ZipSep2 z TI TO i1 i2 fp1 fp2) (D1 : Draws prog w A.in1 i1 fp1 n1 P1 St1) (D2 : Draws prog w A.in1 i2 fp2 n2 P2 St2) (B1 : Dm.Ends prog w A.in1 i1 n1 St1) (B2 : Dm.Ends prog w A.in1 i2 n2 St2)
    (st : ZSt St1 St2 z TI TO i1 i2 i s.heap) (b3 : n1 ≤ i ∨ n2 ≤ i)
    (hQ : ∀ h' tk, (∀ c o, c ≠ z → c ≠ TO → c ≠ i1 → c ≠ i2 → s.heap.get? c = some o → h'.get? c = some o) → Q none { s with heap := h', toks := tk }) :
    wpAny (model prog w) A (pyNext (.ref z)) Q E s := by
  obtain ⟨⟨f0, fl, hz, hf⟩, hTI, ⟨a1, a2, hTO⟩, st1, st2⟩ := st
  have hT : s.TypeIs (.ref z) "zip" := ⟨_, hz, rfl⟩
  unfold pyNext
  refine wpAny_bind (wpAny_attempt (wpAny_callSpecial?_slot (name := Str.ofString "__next__") hT F.slot_zip_next
    (wpAny_call_entry F.slot_zip_next hT F.entry_zip_next (zn_end S D1 D2 B1 B2 hz hf hTI hTO st1 st2 b3 fun h' tk e hk he => ?_) (F.args_zip_next_1 _))))
  obtain ⟨o, ho, hc⟩ := he
  refine wpAny_bind (wpAny_isInstance (T := "StopIteration") (b := true) ⟨o, ho, hc⟩ isSubtype_stop ?_)
  exact wpAny_pure (hQ _ _ hk)
/-- the tuples that were given -/
def TupsOf (P1 P2 : Nat → Value → Prop) (b0 : Nat) (h : Heap) (acc : Array Value) (i : Nat) : Prop := acc.size = i ∧ ∀ j v, acc[j]? = some v → ∃ T x1 x2, v = .ref T ∧ b0 ≤ T ∧ IsTupOf2 h T x1 x2 ∧ P1 j x1 ∧ P2 j x2
theorem TupsOf.mono {b0 : Nat} {h h' : Heap} {acc : Array Value} (t : TupsOf P1 P2 b0 h acc i) (hk : ∀ c o, b0 ≤ c → h.get? c = some o → h'.get? c = some o) : TupsOf P1 P2 b0 h' acc i :=
  ⟨t.1, fun j v hj => let ⟨T, x1, x2, e, hb, ht, p1, p2⟩ := t.2 j v hj; ⟨T, x1, x2, e, hb, hk _ _ hb ht, p1, p2⟩⟩
theorem TupsOf.push {b0 : Nat} {h : Heap} {acc : Array Value} (t : TupsOf P1 P2 b0 h acc i) {T : Addr} {x1 x2 : Value} (hb : b0 ≤ T) (ht : IsTupOf2 h T x1 x2) (p1 : P1 i x1) (p2 : P2 i x2) : TupsOf P1 P2 b0 h (acc.push (.ref T)) (i + 1) := by
  refine ⟨by rw [Array.size_push, t.1], fun j v hj => ?_⟩
  rw [Array.getElem?_push] at hj
  split at hj
  · rename_i e
    rw [t.1] at e
    cases hj
    rw [e]
    exact ⟨T, x1, x2, rfl, hb, ht, p1, p2⟩
  · exact t.2 j v hj
theorem ne_up {x c : Addr} {b0 : Nat} (h : x < b0) (h2 : b0 ≤ c) : c ≠ x := Nat.ne_of_gt (Nat.lt_of_lt_of_le h h2)
theorem code_ext_zip {R : Result → Shared → Prop} (S : ZipSep2 z TI TO i1 i2 fp1 fp2) (D1 : Draws prog w A.in1.in1 i1 fp1 n1 P1 St1) (D2 : Draws prog w A.in1.in1 i2 fp2 n2 P2 St2) (B1 : Dm.Ends prog w A.in1.in1 i1 n1 St1) (B2 : Dm.Ends prog w A.in1.in1 i2 n2 St2)
    (hn : min n1 n2 ≤ sizeLine) (L : Addr) (b0 : Nat) (hL : L < b0) (hz0 : z < b0) (hT0 : TO < b0) (h10 : i1 < b0) (h20 : i2 < b0) (nL : L ≠ z ∧ L ≠ TO ∧ L ≠ i1 ∧ L ≠ i2) (nTI : L ≠ TI) (nf : L ∉ fp1 ∧ L ∉ fp2) (nTI2 : TI ≠ z ∧ TI ≠ TO ∧ TI ≠ i1 ∧ TI ≠ i2) (res : Value) :
    ∀ (k i : Nat) (s : Shared) (acc : Array Value) (c : Nat), min n1 n2 - i = k → i ≤ min n1 n2 → ZSt St1 St2 z TI TO i1 i2 i s.heap → b0 ≤ s.heap.objs.size → s.heap.get? L = some { cls := .type "list", dict := none, data := .seq acc c, slots := #[] } → TupsOf P1 P2 b0 s.heap acc i →
    (∀ h' tk acc' c', (∀ b o, b ≠ L → b ≠ z → b ≠ TO → b ≠ i1 → b ≠ i2 → s.heap.get? b = some o → h'.get? b = some o) → h'.get? L = some { cls := .type "list", dict := none, data := .seq acc' c', slots := #[] } → TupsOf P1 P2 b0 h' acc' (min n1 n2) → R (.ok (.ret res)) { s with heap := h', toks := tk }) →
    codeAny (model prog w) A (.builtin "list.extend.loop" ⟨[.ref L, .ref z, res], []⟩) R s := by
  intro k
  induction k with
  | zero =>
    intro i s acc c hk hi st hb hL' hacc hR
    have hin : i = min n1 n2 := by omega
    refine codeAny_builtin F.entry_extend_loop ?_
    rw [Around.under_plainId F.plain_extend_loop _]
    show wpAny _ A.in1 (pyNext (.ref z) >>= _) _ _ s
    refine wpAny_bind (zp_pyNext_end S D1 D2 B1 B2 st (by omega) fun h' tk hk' => ?_)
    exact wpAny_pure (hR h' tk acc c (fun b o _ q1 q2 q3 q4 e => hk' b o q1 q2 q3 q4 e) (hk' L _ nL.1 nL.2.1 nL.2.2.1 nL.2.2.2 hL')
      (hin ▸ hacc.mono fun c o hc e => hk' c o (ne_up hz0 hc) (ne_up hT0 hc) (ne_up h10 hc) (ne_up h20 hc) e))
  | succ k ih =>
    intro i s acc c hk hi st hb hL' hacc hR
    have hlt : i < min n1 n2 := by omega
    refine codeAny_builtin F.entry_extend_loop ?_
    rw [Around.under_plainId F.plain_extend_loop _]
    show wpAny _ A.in1 (pyNext (.ref z) >>= _) _ _ s
    refine wpAny_bind (zp_pyNext_item S D1 D2 st (by omega) (by omega) fun x1 x2 h' tk p1 p2 zs hTO s1 s2 hT hsz hk' => ?_)
    have hL2 : h'.get? L = some { cls := .type "list", dict := none, data := .seq acc c, slots := #[] } := hk' L _ nL.1 nL.2.1 nL.2.2.1 nL.2.2.2 hL'
    show wpAny _ A.in1 (updateSeq L (·.push (.ref s.heap.objs.size)) >>= _) _ _ _
    refine wpAny_bind ?_
    have oth : ∀ b o, b ≠ L → h'.get? b = some o → (h'.update L (Obj.mapSeq (·.push (Value.ref s.heap.objs.size)))).get? b = some o := fun b o hb e => (Heap.get?_update_other _ _ (Ne.symm hb)).trans e
    refine wpAny_updateSeq (s := { s with heap := h', toks := tk }) hL2 rfl (wpAny_pure ⟨plainId_quiet F.plain_extend_loop _, ih (i + 1) _ (acc.push (.ref s.heap.objs.size)) _ (by omega) hlt ?_ ?_ (Heap.get?_update_self _ hL2 rfl) ?_ fun h2 tk2 acc' c' hk2 hL3 hacc' => ?_⟩)
      (by rw [hacc.1]; omega) (by show (acc.push _).size ≤ sizeLine + 1; rw [Array.size_push, hacc.1]; omega)
    · refine ⟨zs.mono fun o e => oth _ _ nL.1.symm e, ?_, ?_, ?_, ?_⟩
      · exact oth _ _ nTI.symm (hk' _ _ nTI2.1 nTI2.2.1 nTI2.2.2.1 nTI2.2.2.2 st.2.1)
      · obtain ⟨c1, c2, hc⟩ := hTO
        exact ⟨c1, c2, oth _ _ nL.2.1.symm hc⟩
      · exact D1.frame _ _ _ s1 fun b hb o e => oth b o (fun q => nf.1 (q ▸ hb)) e
      · exact D2.frame _ _ _ s2 fun b hb o e => oth b o (fun q => nf.2 (q ▸ hb)) e
    · show b0 ≤ (h'.update L _).objs.size
      rw [Heap.size_update]
      omega
    · refine TupsOf.push (hacc.mono fun c o hc e => oth c o (ne_up hL hc) (hk' c o (ne_up hz0 hc) (ne_up hT0 hc) (ne_up h10 hc) (ne_up h20 hc) e)) hb (oth _ _ (ne_up hL hb) hT) p1 p2
    · refine hR h2 tk2 acc' c' (fun b o q0 q1 q2 q3 q4 e => hk2 b o q0 q1 q2 q3 q4 (oth b o q0 (hk' b o q1 q2 q3 q4 e))) hL3 hacc'
theorem wpAny_pyIter_zipAt {f0 : Value} {fl : Bool} {Q : Value → Shared → Prop} (hz : ZpAt s.heap z TI TO f0 fl) (h : Q (.ref z) s) : wpAny (model prog w) A (pyIter (.ref z)) Q E s := by
  have hT : s.TypeIs (.ref z) "zip" := ⟨_, hz, rfl⟩
  refine wpAny_pyIter_slot hT F.slot_zip_iter (wpAny_call_entry F.slot_zip_iter hT F.entry_zip_iter ?_ (F.args_zip_iter_1 _))
  show wpAny _ _ (ret (.ref z)) _ _ s
  exact wpAny_pure ⟨_, rfl, "zip", _, hT, F.slot_zip_next.lookup, h⟩
theorem ext_zip {R : Result → Shared → Prop} (S : ZipSep2 z TI TO i1 i2 fp1 fp2) (D1 : Draws prog w A.in1.in1 i1 fp1 n1 P1 St1) (D2 : Draws prog w A.in1.in1 i2 fp2 n2 P2 St2) (B1 : Dm.Ends prog w A.in1.in1 i1 n1 St1) (B2 : Dm.Ends prog w A.in1.in1 i2 n2 St2)
    (hn : min n1 n2 ≤ sizeLine) (L : Addr) (b0 : Nat) (hL : L < b0) (hz0 : z < b0) (hT0 : TO < b0) (h10 : i1 < b0) (h20 : i2 < b0) (nL : L ≠ z ∧ L ≠ TO ∧ L ≠ i1 ∧ L ≠ i2) (nTI : L ≠ TI) (nf : L ∉ fp1 ∧ L ∉ fp2) (nTI2 : TI ≠ z ∧ TI ≠ TO ∧ TI ≠ i1 ∧ TI ≠ i2) (res : Value)
    (st : ZSt St1 St2 z TI TO i1 i2 0 s.heap) (hb : b0 ≤ s.heap.objs.size) (c₀ : Nat) (hS : s.heap.get? L = some { cls := .type "list", data := .seq #[] c₀ })
    (hR : ∀ h' tk acc' c', (∀ b o, b ≠ L → b ≠ z → b ≠ TO → b ≠ i1 → b ≠ i2 → s.heap.get? b = some o → h'.get? b = some o) → h'.get? L = some { cls := .type "list", dict := none, data := .seq acc' c', slots := #[] } → TupsOf P1 P2 b0 h' acc' (min n1 n2) → R (.ok (.ret res)) { s with heap := h', toks := tk }) :
    wpAny (model prog w) A.in1 (Builtin.List.listExtendWith (.ref L) (.ref z) res)
      (fun fin s' => match fin with | .done f => R (.ok f) s' | .again c' => c'.quiet = true ∧ codeAny (model prog w) A c' R s') (fun e s' => R (.error e) s') s := by
  obtain ⟨⟨f0, fl, hz, hf⟩, hTI, ⟨a1, a2, hTO⟩, st1, st2⟩ := id st
  have hT : s.TypeIs (.ref z) "zip" := ⟨_, hz, rfl⟩
  unfold Builtin.List.listExtendWith
  refine wpAny_bind (wpAny_typeOf hT ?_)
  have h1 : Builtin.List.listSameRef (.ref L) (.ref z) = false := by simp [Builtin.List.listSameRef, nL.1]
  have h2 : (Value.type "zip" == Value.type "list") = false := by decide
  have h3 : (Value.type "zip" == Value.type "tuple") = false := by decide
  simp only [h1, h2, h3, Bool.or_false, Bool.false_eq_true, if_false]
  refine wpAny_bind (wpAny_pyIter_zipAt hz ?_)
  refine wpAny_bind (wpAny_holding ?_)
  unfold Builtin.List.listLengthHint
  refine wpAny_bind (wpAny_specialOf hT zip_no_len ?_)
  show wpAny _ A.in1 (specialOf (Value.ref z) (Str.ofString "__length_hint__") >>= _) _ _ _
  refine wpAny_bind (wpAny_specialOf hT zip_no_hint ?_)
  refine wpAny_pure ?_
  show wpAny _ A.in1 (rule "list.extend.makes-room" >>= fun _ => Builtin.List.listTouch (.ref L) >>= fun _ =>
    again (.builtin "list.extend.loop" ⟨[.ref L, .ref z, res], []⟩)) _ _ _
  refine wpAny_bind (wpAny_rule ?_)
  refine wpAny_bind ?_
  show wpAny _ A.in1 (updateSeq L (·.push .none) >>= fun _ => updateSeq L (·.pop)) _ _ _
  refine wpAny_bind (wpAny_updateSeq hS rfl ?_)
  have hS₂ := Heap.get?_update_self (Obj.mapSeq (·.push Value.none)) hS rfl
  refine wpAny_updateSeq (hz := by seq_fits) hS₂ rfl ?_
  have hS₃ := Heap.get?_update_self (Obj.mapSeq (·.pop)) hS₂ rfl
  have oth : ∀ b o, b ≠ L → s.heap.get? b = some o → ((s.heap.update L (Obj.mapSeq (·.push Value.none))).update L (Obj.mapSeq (·.pop))).get? b = some o :=
    fun b o hb e => (Heap.get?_update_other _ _ (Ne.symm hb)).trans ((Heap.get?_update_other _ _ (Ne.symm hb)).trans e)
  refine wpAny_pure ⟨plainId_quiet F.plain_extend_loop _, code_ext_zip S D1 D2 B1 B2 hn L b0 hL hz0 hT0 h10 h20 nL nTI nf nTI2 res _ 0 _ _ _ rfl (Nat.zero_le _) ?_ ?_ hS₃ ⟨rfl, fun j v h => by simp at h⟩ fun h' tk acc' c' hk hL' hacc => ?_⟩
  · exact ⟨⟨f0, fl, oth _ _ nL.1.symm hz, hf⟩, oth _ _ nTI.symm hTI, ⟨a1, a2, oth _ _ nL.2.1.symm hTO⟩, D1.frame _ _ _ st1 fun b hb o e => oth b o (fun q => nf.1 (q ▸ hb)) e, D2.frame _ _ _ st2 fun b hb o e => oth b o (fun q => nf.2 (q ▸ hb)) e⟩
  · show b0 ≤ ((s.heap.update L _).update L _).objs.size
    rw [Heap.size_update, Heap.size_update]; exact hb
  · exact hR h' tk acc' c' (fun b o q0 q1 q2 q3 q4 e => hk b o q0 q1 q2 q3 q4 (oth b o q0 e)) hL' hacc
theorem init_zip {R : Result → Shared → Prop} (S : ZipSep2 z TI TO i1 i2 fp1 fp2) (D1 : Draws prog w A.in1.in1 i1 fp1 n1 P1 St1) (D2 : Draws prog w A.in1.in1 i2 fp2 n2 P2 St2) (B1 : Dm.Ends prog w A.in1.in1 i1 n1 St1) (B2 : Dm.Ends prog w A.in1.in1 i2 n2 St2)
    (hn : min n1 n2 ≤ sizeLine) (L : Addr) (b0 : Nat) (hL : L < b0) (hz0 : z < b0) (hT0 : TO < b0) (h10 : i1 < b0) (h20 : i2 < b0) (nL : L ≠ z ∧ L ≠ TO ∧ L ≠ i1 ∧ L ≠ i2) (nTI : L ≠ TI) (nf : L ∉ fp1 ∧ L ∉ fp2) (nTI2 : TI ≠ z ∧ TI ≠ TO ∧ TI ≠ i1 ∧ TI ≠ i2)
    (st : ZSt St1 St2 z TI TO i1 i2 0 s.heap) (hb : b0 ≤ s.heap.objs.size) (hS : s.heap.get? L = some { cls := .type "list", data := .seq #[] })
    (hR : ∀ h' tk acc' c', (∀ b o, b ≠ L → b ≠ z → b ≠ TO → b ≠ i1 → b ≠ i2 → s.heap.get? b = some o → h'.get? b = some o) → h'.get? L = some { cls := .type "list", dict := none, data := .seq acc' c', slots := #[] } → TupsOf P1 P2 b0 h' acc' (min n1 n2) → R (.ok (.ret .none)) { s with heap := h', toks := tk }) :
    wpAny (model prog w) A.in1 (Builtin.«list.__init__» ⟨[.ref L, .ref z], []⟩)
      (fun fin s' => match fin with | .done f => R (.ok f) s' | .again c' => c'.quiet = true ∧ codeAny (model prog w) A c' R s') (fun e s' => R (.error e) s') s := by
  show wpAny _ A.in1 (do let old ← Builtin.List.listItems (.ref L); Builtin.List.listUpdate (.ref L) (fun _ => #[]); letGo old.toList.reverse; Builtin.List.listExtendWith (.ref L) (.ref z) .none) _ _ s
  refine wpAny_bind ?_
  unfold Builtin.List.listItems
  refine wpAny_bind (wpAny_seqItems hS rfl (wpAny_pure ?_))
  show wpAny _ A.in1 (updateSeq L (fun _ => #[]) >>= fun _ => letGo (#[] : Array Value).toList.reverse >>= fun _ => Builtin.List.listExtendWith (.ref L) (.ref z) .none) _ _ s
  refine wpAny_bind (wpAny_updateSeq hS rfl ?_)
  have hS₂ := Heap.get?_update_self (Obj.mapSeq (fun _ => (#[] : Array Value))) hS rfl
  have oth : ∀ b o, b ≠ L → s.heap.get? b = some o → (s.heap.update L (Obj.mapSeq (fun _ => (#[] : Array Value)))).get? b = some o :=
    fun b o hb e => (Heap.get?_update_other _ _ (Ne.symm hb)).trans e
  refine wpAny_bind (wpAny_letGo ?_)
  obtain ⟨zs, hTI, ⟨a1, a2, hTO⟩, st1, st2⟩ := st
  refine ext_zip S D1 D2 B1 B2 hn L b0 hL hz0 hT0 h10 h20 nL nTI nf nTI2 .none ⟨zs.mono fun o e => oth _ _ nL.1.symm e, oth _ _ nTI.symm hTI, ⟨a1, a2, oth _ _ nL.2.1.symm hTO⟩, D1.frame _ _ _ st1 fun b hb o e => oth b o (fun q => nf.1 (q ▸ hb)) e, D2.frame _ _ _ st2 fun b hb o e => oth b o (fun q => nf.2 (q ▸ hb)) e⟩ ?_ _ hS₂ fun h' tk acc' c' hk hL' hacc => ?_
  · show b0 ≤ (s.heap.update L _).objs.size
    rw [Heap.size_update]; exact hb
  · exact hR h' tk acc' c' (fun b o q0 q1 q2 q3 q4 e => hk b o q0 q1 q2 q3 q4 (oth b o q0 e)) hL' hacc
theorem list_zip {Q : Value → Shared → Prop} (S : ZipSep2 z TI TO i1 i2 fp1 fp2) (D1 : Draws prog w A.in1.in1.in1 i1 fp1 n1 P1 St1) (D2 : Draws prog w A.in1.in1.in1 i2 fp2 n2 P2 St2) (B1 : Dm.Ends prog w A.in1.in1.in1 i1 n1 St1) (B2 : Dm.Ends prog w A.in1.in1.in1 i2 n2 St2)
    (hn : min n1 n2 ≤ sizeLine) (hz0 : z < s.heap.objs.size) (hT0 : TO < s.heap.objs.size) (hI0 : TI < s.heap.objs.size) (h10 : i1 < s.heap.objs.size) (h20 : i2 < s.heap.objs.size) (hf : (∀ b ∈ fp1, b < s.heap.objs.size) ∧ ∀ b ∈ fp2, b < s.heap.objs.size) (nTI2 : TI ≠ z ∧ TI ≠ TO ∧ TI ≠ i1 ∧ TI ≠ i2)
    (st : ZSt St1 St2 z TI TO i1 i2 0 s.heap)
    (hQ : ∀ h' tk acc' c', (∀ b o, b ≠ z → b ≠ TO → b ≠ i1 → b ≠ i2 → s.heap.get? b = some o → h'.get? b = some o) → h'.get? s.heap.objs.size = some { cls := .type "list", dict := none, data := .seq acc' c', slots := #[] } → TupsOf P1 P2 (s.heap.objs.size + 1) h' acc' (min n1 n2) → Q (.ref s.heap.objs.size) { s with heap := h', toks := tk }) :
    wpAny (model prog w) A (call (.type "list") [.ref z]) Q E s := by
  refine callType_codes (Q₁ := fun obj s₁ => obj = .ref s.heap.objs.size ∧ s₁ = { s with heap := s.heap.push { cls := .type "list", data := .seq #[] } }) F.called_list (F.typeCall_list_1 _) F.entry_list_init
    (code_list_new _ ⟨rfl, rfl⟩) fun obj s₁ h₁ => ?_
  obtain ⟨rfl, rfl⟩ := h₁
  have hS : (s.heap.push { cls := .type "list", data := .seq #[] }).get? s.heap.objs.size = some { cls := .type "list", data := .seq #[] } := Heap.get?_push_size _ rfl
  have up : ∀ b o, s.heap.get? b = some o → (s.heap.push { cls := .type "list", data := .seq #[] }).get? b = some o := fun b o e => Heap.get?_push_of_some _ e
  obtain ⟨zs, hTI, ⟨a1, a2, hTO⟩, st1, st2⟩ := st
  refine ⟨⟨_, hS, rfl⟩, F.args_list_init_2 _ _, init_zip S D1 D2 B1 B2 hn s.heap.objs.size (s.heap.objs.size + 1) (Nat.lt_succ_self _) (Nat.lt_succ_of_lt hz0) (Nat.lt_succ_of_lt hT0) (Nat.lt_succ_of_lt h10) (Nat.lt_succ_of_lt h20)
    ⟨Nat.ne_of_gt hz0, Nat.ne_of_gt hT0, Nat.ne_of_gt h10, Nat.ne_of_gt h20⟩ (Nat.ne_of_gt hI0) ⟨fun q => Nat.lt_irrefl _ (hf.1 _ q), fun q => Nat.lt_irrefl _ (hf.2 _ q)⟩ nTI2 ⟨zs.mono fun o e => up _ _ e, up _ _ hTI, ⟨a1, a2, up _ _ hTO⟩, D1.frame _ _ _ st1 fun b _ o e => up b o e, D2.frame _ _ _ st2 fun b _ o e => up b o e⟩ ?_ hS fun h' tk acc' c' hk hL' hacc => ?_⟩
  · show s.heap.objs.size + 1 ≤ (s.heap.push _).objs.size
    rw [Heap.size_push]; exact Nat.le_refl _
  · exact ⟨rfl, hQ h' tk acc' c' (fun b o q1 q2 q3 q4 e => hk b o (Nat.ne_of_lt (Heap.lt_size e)) q1 q2 q3 q4 (up b o e)) hL' hacc⟩
end
end Dm

/-! DmQ: list(zip(a, b)) as an expression. -/
namespace Dm
open PySem PySem.Spec PyProof.Rows L2
/-- what is new in the heap is frozen -/
noncomputable def G.grow (g : G) (H H' : Hp) : G := ⟨fun c => match H c with | none => H' c | some _ => g.F c, g.ρ, g.pv⟩
theorem grow_new {g : G} {H H' : Hp} {c : Addr} (h : H c = none) : (g.grow H H').F c = H' c := by
  show (match H c with | none => H' c | some _ => g.F c) = _
  rw [h]
theorem grow_old {g : G} {H H' : Hp} {c : Addr} {o : HO} (h : H c = some o) : (g.grow H H').F c = g.F c := by
  show (match H c with | none => H' c | some _ => g.F c) = _
  rw [h]
theorem Le.grow {K : PySem.W.Frag} {g : G} {S : Store} {H H' : Hp} (h : HpOk K g S H) : Le g (g.grow H H') :=
  ⟨fun b x e => by rw [grow_old (h.same b x e)]; exact e, ⟨[], (List.append_nil _).symm⟩, rfl⟩
theorem HpOk.grow {K : PySem.W.Frag} {g : G} {S : Store} {H H' : Hp} (h : HpOk K g S H) (hs : Same H H') : HpOk K (g.grow H H') S H' := by
  have hl : ∀ {n : Nat} {c : Cell} {a : Addr}, S[n]? = some c → g.ρ[n]? = some a → c.live = true → ∃ o, H a = some o := fun {n c a} hn ha hl => by
    obtain ⟨q, _⟩ := h.cell n c a hn ha hl
    cases c with
    | dead => cases hl
    | lst ds => obtain ⟨xs, z, _⟩ := q; exact ⟨_, z⟩
    | dct l => obtain ⟨kvs, z, _⟩ := q; exact ⟨_, z⟩
  refine ⟨fun b x e => ?_, h.len, fun n c a hn ha hlv => ?_, h.inj, h.pv.trans hs, fun a o e => ?_, h.pvR⟩
  · cases hb : H b with
    | none => rw [grow_new hb] at e; exact e
    | some o =>
      rw [grow_old hb] at e
      exact hs b x (h.same b x e)
  · obtain ⟨o, ho⟩ := hl hn ha hlv
    obtain ⟨q, f⟩ := h.cell n c a hn ha hlv
    refine ⟨?_, by rw [grow_old ho]; exact f⟩
    rw [hs a o ho]
    rw [ho] at q
    exact q.mono (Le.grow h)
  · rw [grow_old (h.pv a o e)]
    exact h.pvF a o e
section
variable {X : Cx} {e e2 : Expr} {p p2 pos pos2 : Pos} {ta : TA}
/-- the list of pairs -/
def tLz (K : PySem.W.Frag) (t : TA) : TE := fun σ H Q => t σ H fun vs H1 => ∃ (k1 k2 : Kd) (a b : Addr) (xs ys : List V), vs = [.ref a, .ref b] ∧ SqK K k1 H1 a xs ∧ SqK K k2 H1 b ys ∧ min xs.length ys.length ≤ sizeLine ∧
  ∀ (H' : Hp) (L : Addr) (ps : List V), Same H1 H' → H1 L = none → H' L = some (.lst ps) → ps.length = min xs.length ys.length →
    (∀ (j : Nat) (v : V), ps[j]? = some v → ∃ (T : Addr) (x y : V), v = V.ref T ∧ H1 T = none ∧ H' T = some (.tup [x, y]) ∧ xs[j]? = some x ∧ ys[j]? = some y) → Q (.ref L) H'
def refV : Value → V
  | .ref T => .ref T
  | _ => .non
open Classical in
theorem pe_lzip (hc : X.calm = true) (hg : Gl X "zip") (hm : X.mg "zip" = none) (hg2 : Gl X "list") (hm2 : X.mg "list" = none) (ha : PA X [e, e2] ta) (hs : starEach [e, e2] X.env = (false, eval e X.env) :: starEach [e2] X.env := by rfl) (hpl : (backTo pos (starEach [e2] X.env)).any (·.1) = false := by rfl) :
    PE X (.Call (.Name "list" p2) [.Call (.Name "zip" p) [e, e2] [] pos] [] pos2) (tLz X.K ta) := by
  refine ⟨fun pins s σ H Q I h => ?_⟩
  refine Call_ (ld_blt I hg2 hm2 PyProof.Rows.boot_list (PyProof.Rows.callWith_type1 (PyProof.Rows.args_cons ?_ rfl) rfl rfl))
  refine Call_ (ld_blt I hg hm PyProof.Rows.boot_zip (PyProof.Rows.callWith_type1 (thn (ha.run pos pins s σ H _ I h) fun us s1 ⟨vs, H1, I1, r1, q1⟩ => ?_) hs hpl))
  obtain ⟨k1, k2, a, b, xs, ys, ex, hx, hy, hmn, q⟩ := q1
  subst ex
  cases r1 with
  | cons r rr =>
    cases rr with
    | cons r' rr =>
      cases rr
      cases r
      cases r'
      obtain ⟨its, rv, p1⟩ := seqK I1 hx
      obtain ⟨its2, rv2, p2'⟩ := seqK I1 hy
      have l1 : its.toArray.size = xs.length := by rw [List.size_toArray]; exact rv.length.symm
      have l2 : its2.toArray.size = ys.length := by rw [List.size_toArray]; exact rv2.length.symm
      have hal := datK_lt p1
      have hbl := datK_lt p2'
      refine zip_cells (M := model X.prog X.w) I1 hx hy fun h' hz t hsz D hk => PyProof.Rows.args_nil ?_
      have D1 := drawK (prog := X.prog) (w := X.w) (A := X.A.in1.in1.in1) k1 (I1.ok.hd hc) s1.heap.objs.size a D.a1 its.toArray
      have D2 := drawK (prog := X.prog) (w := X.w) (A := X.A.in1.in1.in1) k2 (I1.ok.hd hc) (s1.heap.objs.size + 1) b D.b2 its2.toArray
      have B1 := endK (prog := X.prog) (w := X.w) (A := X.A.in1.in1.in1) k1 (I1.ok.hd hc) s1.heap.objs.size a its.toArray
      have B2 := endK (prog := X.prog) (w := X.w) (A := X.A.in1.in1.in1) k2 (I1.ok.hd hc) (s1.heap.objs.size + 1) b its2.toArray
      obtain ⟨hTI, hTO, ht1, ht2⟩ := t
      have fp : ∀ {x y : Nat}, x < s1.heap.objs.size + 5 → y < s1.heap.objs.size + 5 → ∀ c ∈ ([x, y] : List Addr), c < h'.objs.size := fun {x y} h1 h2 c hc => by
        rw [hsz]
        rcases List.mem_cons.mp hc with z | z
        · rw [z]; exact h1
        · rw [List.mem_singleton.mp z]; exact h2
      refine list_zip (s := { s1 with heap := h' }) (z := s1.heap.objs.size + 4) (TI := s1.heap.objs.size + 2) (TO := s1.heap.objs.size + 3) D.s D1 D2 B1 B2 (by rw [l1, l2]; exact hmn) (by show _ < h'.objs.size; rw [hsz]; exact Nat.lt_succ_self _) (by show _ < h'.objs.size; rw [hsz]; exact Nat.add_lt_add_left (by decide) _) (by show _ < h'.objs.size; rw [hsz]; exact Nat.add_lt_add_left (by decide) _)
        (by show _ < h'.objs.size; rw [hsz]; exact Nat.lt_add_of_pos_right (by decide)) (by show _ < h'.objs.size; rw [hsz]; exact Nat.add_lt_add_left (by decide) _)
        ⟨fp (Nat.lt_add_of_pos_right (by decide)) (Nat.lt_of_lt_of_le hal (Nat.le_add_right _ _)), fp (Nat.add_lt_add_left (by decide) _) (Nat.lt_of_lt_of_le hbl (Nat.le_add_right _ _))⟩
        (by refine ⟨?_, ?_, ?_, ?_⟩ <;> (show (_ : Nat) ≠ _; omega)) ⟨ZpSt.of_zip hz, hTI, hTO, ⟨ht1, datK_mono p1 (hk a)⟩, ⟨ht2, datK_mono p2' (hk b)⟩⟩ fun h2 tk acc cc hk2 hL hacc => ?_
      have hsz' : ({ s1 with heap := h' } : Shared).heap.objs.size = s1.heap.objs.size + 5 := hsz
      rw [hsz'] at hL hacc ⊢
      rw [l1, l2] at hacc
      have keep : ∀ c u, s1.heap.get? c = some u → h2.get? c = some u := fun c u q => by
        have hl := Heap.lt_size q
        have ne : ∀ j : Nat, c ≠ s1.heap.objs.size + j := fun j e => by
          rw [e] at hl
          exact Nat.not_lt.mpr (Nat.le_add_right _ j) hl
        exact hk2 c u (ne 4) (ne 3) (ne 0) (ne 1) (hk c u q)
      -- the pairs
      have pair : ∀ (j : Nat) (v : Value), acc[j]? = some v → ∃ (T : Addr) (x y : V) (x1 y1 : Value), v = Value.ref T ∧ s1.heap.objs.size + 6 ≤ T ∧ IsTupOf2 h2 T x1 y1 ∧ xs[j]? = some x ∧ ys[j]? = some y ∧ RelV x x1 ∧ RelV y y1 := fun j v hv => by
        obtain ⟨T, x1, y1, e1, hb, ht, q1, q2⟩ := hacc.2 j v hv
        have q1' : its[j]? = some x1 := by simpa using q1
        have q2' : its2[j]? = some y1 := by simpa using q2
        have hj1 : j < xs.length := by rw [← l1, List.size_toArray]; exact (List.getElem?_eq_some_iff.mp q1').1
        have hj2 : j < ys.length := by rw [← l2, List.size_toArray]; exact (List.getElem?_eq_some_iff.mp q2').1
        obtain ⟨u1, hu1, ru1⟩ := rv.get (List.getElem?_eq_getElem hj1)
        obtain ⟨u2, hu2, ru2⟩ := rv2.get (List.getElem?_eq_getElem hj2)
        rw [q1'] at hu1; cases hu1
        rw [q2'] at hu2; cases hu2
        exact ⟨T, _, _, x1, y1, e1, hb, ht, List.getElem?_eq_getElem hj1, List.getElem?_eq_getElem hj2, ru1, ru2⟩
      let Pc : Addr → V → V → Prop := fun c x y => ∃ j : Nat, acc[j]? = some (Value.ref c) ∧ xs[j]? = some x ∧ ys[j]? = some y
      have pcH : ∀ {c x y}, Pc c x y → s1.heap.objs.size + 6 ≤ c ∧ ∃ x1 y1, IsTupOf2 h2 c x1 y1 ∧ RelV x x1 ∧ RelV y y1 := fun {c x y} ⟨j, h1, h2, h3⟩ => by
        obtain ⟨T, x', y', x1, y1, e1, hb, ht, g1, g2, g3, g4⟩ := pair j _ h1
        cases e1
        rw [h2] at g1; cases g1
        rw [h3] at g2; cases g2
        exact ⟨hb, x1, y1, ht, g3, g4⟩
      have pcU : ∀ {c x y x' y'}, Pc c x y → Pc c x' y' → x = x' ∧ y = y' := fun {c x y x' y'} p q => by
        obtain ⟨_, x1, y1, t1, r1, r2⟩ := pcH p
        obtain ⟨_, x2, y2, t2, r3, r4⟩ := pcH q
        have e := t1.symm.trans t2
        injection e with e
        injection e with _ _ e
        injection e with e
        have e : (#[x1, y1] : Array Value).toList = (#[x2, y2] : Array Value).toList := by rw [e]
        have e : [x1, y1] = [x2, y2] := e
        cases e
        exact ⟨RelV.inj r1 r3, RelV.inj r2 r4⟩
      let H2 : Hp := fun c => if c = (s1.heap.objs.size + 5 : Nat) then some (.lst (acc.toList.map refV)) else if h : ∃ p : V × V, Pc c p.1 p.2 then some (.tup [h.choose.1, h.choose.2]) else H1 c
      have hH2 : ∀ {c x y}, Pc c x y → H2 c = some (.tup [x, y]) := fun {c x y} p => by
        have hne : c ≠ (s1.heap.objs.size + 5 : Nat) := by
          have := (pcH p).1
          intro e
          rw [e] at this
          exact Nat.not_succ_le_self _ this
        have hex : ∃ p : V × V, Pc c p.1 p.2 := ⟨(x, y), p⟩
        show (if c = (s1.heap.objs.size + 5 : Nat) then _ else _) = _
        rw [if_neg hne, dif_pos hex]
        obtain ⟨e1, e2⟩ := pcU hex.choose_spec p
        rw [e1, e2]
      have old : ∀ c : Addr, c < s1.heap.objs.size → H2 c = H1 c := fun c hcl => by
        show (if c = (s1.heap.objs.size + 5 : Nat) then _ else _) = _
        rw [if_neg (by intro e; rw [e] at hcl; exact Nat.not_lt.mpr (Nat.le_add_right _ 5) hcl), dif_neg]
        rintro ⟨p, hp⟩
        exact Nat.not_lt.mpr (Nat.le_trans (Nat.le_add_right _ 6) (pcH hp).1) hcl
      have fresh : ∀ c : Nat, s1.heap.objs.size ≤ c → H1 c = none := fun c hc => I1.hok.fresh hc
      have lenA : acc.toList.length = min xs.length ys.length := by rw [Array.length_toList]; exact hacc.1
      have valsA : Vals (acc.toList.map refV) acc.toList := by
        have : ∀ l : List Value, (∀ v ∈ l, ∃ T : Addr, v = Value.ref T) → Vals (l.map refV) l := by
          intro l
          induction l with
          | nil => exact fun _ => .nil
          | cons v l ih =>
            intro h
            obtain ⟨T, rfl⟩ := h v List.mem_cons_self
            exact .cons (show RelV (V.ref T) (.ref T) from rfl) (ih fun u hu => h u (List.mem_cons_of_mem _ hu))
        refine this _ fun v hv => ?_
        obtain ⟨j, hj⟩ := List.mem_iff_getElem?.mp hv
        rw [Array.getElem?_toList] at hj
        obtain ⟨T, _, _, _, _, e1, _⟩ := pair j v hj
        exact ⟨T, e1⟩
      have sm : Same H1 H2 := fun c o e => by
        have hl := I1.hok.lt e
        rw [old c hl]; exact e
      refine ⟨.ref (s1.heap.objs.size + 5), H2, I1.un (t' := tk) (un_news I1.hok keep old) (hok_news I1.hok keep old fun c o hc e => ?_), rfl, q H2 (s1.heap.objs.size + 5) (acc.toList.map refV) sm (fresh _ (Nat.le_add_right _ _)) (if_pos rfl) (by rw [List.length_map]; exact lenA) fun j v hv => ?_⟩
      · have e : (if c = (s1.heap.objs.size + 5 : Nat) then some (HO.lst (acc.toList.map refV)) else if h : ∃ p : V × V, Pc c p.1 p.2 then some (.tup [h.choose.1, h.choose.2]) else H1 c) = some o := e
        by_cases ec : c = (s1.heap.objs.size + 5 : Nat)
        · have e9 := (if_pos ec).symm.trans e
          injection e9 with e9
          rw [ec, ← e9]
          exact ⟨by rw [List.length_map, lenA]; exact hmn, acc.toList, cc, valsA, hL⟩
        · rw [if_neg ec] at e
          by_cases hex : ∃ p : V × V, Pc c p.1 p.2
          · rw [dif_pos hex] at e
            cases e
            obtain ⟨_, x1, y1, ht, rr1, rr2⟩ := pcH hex.choose_spec
            exact ⟨by show 2 ≤ sizeLine; decide, [x1, y1], .cons rr1 (.cons rr2 .nil), ⟨_, ht, rfl, _, rfl⟩⟩
          · rw [dif_neg hex, fresh c hc] at e; cases e
      · rw [List.getElem?_map, Array.getElem?_toList] at hv
        cases hv' : acc[j]? with
        | none => rw [hv'] at hv; cases hv
        | some u =>
          rw [hv'] at hv
          obtain ⟨T, x, y, x1, y1, e1, hb, ht, g1, g2, g3, g4⟩ := pair j u hv'
          subst e1
          have hv : some (V.ref T) = some v := hv
          cases hv
          exact ⟨T, x, y, rfl, fresh T (Nat.le_trans (Nat.le_add_right _ _) hb), hH2 ⟨j, hv', g1, g2⟩, g1, g2⟩
end
section
variable {X : Cx} {c : Ctx} {T : Tab} {Φ : Fns} {k : Nat} {pos p p2 pos2 : Pos} {ea eb : Expr} {ca cb : E}
theorem ltD_of {x : D} {l : List D} (h : ltD x = some l) : x = .tup l ∨ x = .lst l := by
  cases x <;> first | cases h <;> first | exact .inl rfl | exact .inr rfl
theorem e_lzip (G : GX T Φ k X) (C : CtxOk c X) (hb : zipN ∈ T.blt) (hg : c.gl zipN = true) (hb2 : listN ∈ T.blt) (hg2 : c.gl listN = true) (ha : PA X [ea, eb] (tEs X.K Φ [ca, cb])) (hs : isStar ea = false) (hs2 : isStar eb = false) :
    PE X (.Call (.Name listN p2) [.Call (.Name zipN p) [ea, eb] [] pos] [] pos2) (tE X.K Φ (.lzip ca cb)) := by
  refine (pe_lzip C.calm (C.gl hg).1 (G.blt _ hb).1 (C.gl hg2).1 (G.blt _ hb2).1 ha (star_cons hs) (star_plain (by rw [List.any_cons, hs2]; rfl))).imp fun σ H Q ⟨g, fr, S, hf, hh, h⟩ => ?_
  obtain ⟨x, S1, e1, h⟩ := RPost.bind h
  obtain ⟨y, S2, e2, h⟩ := RPost.bind h
  obtain ⟨d, ed, h⟩ := RPost.of h
  unfold lzipD at ed
  cases el : ltD x with
  | none => rw [el] at ed; cases ed
  | some l =>
    cases em : ltD y with
    | none => rw [el, em] at ed; cases ed
    | some m =>
      rw [el, em] at ed
      simp only [Option.bind_some] at ed
      split at ed
      · rename_i hmn
        cases ed
        refine tEs_in hf hh (evEs_two e1 e2) fun vs H1 g1 le hh1 r => ?_
        obtain ⟨v, u, rfl, rv, ru⟩ := r.two
        obtain ⟨k1, a, xs, rfl, hq, rl⟩ := rep_k rv (ltD_of el)
        obtain ⟨k2, b, ys, rfl, hq2, rl2⟩ := rep_k ru (ltD_of em)
        refine ⟨k1, k2, a, b, xs, ys, rfl, sqK_same hh1.same hq, sqK_same hh1.same hq2, by rw [← rl.length, ← rl2.length]; exact hmn, fun H' L ps hsm hL hL' hpl hps => ?_⟩
        have lg : Le g1 (g1.grow H1 H') := Le.grow hh1
        refine h _ H' (g1.grow H1 H') (le.trans lg) (hh1.grow hsm) (.lst (by rw [grow_new hL]; exact hL') ?_)
        have key : ∀ (ds : List D) (vs : List V), ds.length = vs.length → (∀ (j : Nat) (d : D) (v : V), ds[j]? = some d → vs[j]? = some v → Rep X.K (g1.grow H1 H') d v) → RepL X.K (g1.grow H1 H') ds vs := by
          intro ds
          induction ds with
          | nil => intro vs hl _; cases vs with | nil => exact .nil | cons => simp at hl
          | cons d ds ih =>
            intro vs hl hd
            cases vs with
            | nil => simp at hl
            | cons v vs =>
              exact .cons (hd 0 d v rfl rfl) (ih vs (by simpa using hl) fun j d' v' h1 h2 => hd (j + 1) d' v' (by simpa using h1) (by simpa using h2))
        refine key _ _ ?_ fun j d v hd hv => ?_
        · unfold zipD
          rw [List.length_map, List.length_zip, hpl, rl.length, rl2.length]
        · unfold zipD at hd
          rw [List.getElem?_map] at hd
          cases hz : (l.zip m)[j]? with
          | none => rw [hz] at hd; cases hd
          | some q =>
            rw [hz] at hd
            cases hd
            obtain ⟨h1, h2⟩ := List.getElem?_zip_eq_some.mp hz
            obtain ⟨T, x1, y1, rfl, nT, hT, g1', g2'⟩ := hps j v hv
            obtain ⟨u1, hu1, r1⟩ := rl.get h1
            obtain ⟨u2, hu2, r2⟩ := rl2.get h2
            rw [g1'] at hu1; cases hu1
            rw [g2'] at hu2; cases hu2
            exact .tup (.inl (.inl (by rw [grow_new nT]; exact hT))) (.cons (r1.mono lg) (.cons (r2.mono lg) .nil))
      · cases ed
end
end Dm

/-! DmR: dicts whose keys are ints or texts. -/
namespace Dm
open PySem L2
section
variable {K : PySem.W.Frag} {g : G}
theorem keyB_iff {k k2 : Key} : keyB k (keyD k2) = decide (k2 = k) := by
  cases k with
  | inl i =>
    cases k2 with
    | inl j =>
      show decide (j = i) = _
      by_cases h : j = i <;> simp [h]
    | inr y => rfl
  | inr x =>
    cases k2 with
    | inl j => rfl
    | inr y =>
      show decide (y = x) = _
      by_cases h : y = x <;> simp [h]
theorem keyOf_eq {d : D} {k : Key} (h : keyOf d = some k) : d = keyD k := by
  cases d <;> first | cases h <;> rfl | cases h
theorem rep_key {k : Key} {v : V} (r : Rep K g (keyD k) v) : v = kV k := by
  cases k with
  | inl i => cases r; rfl
  | inr x => cases r; rfl
theorem key_rep (k : Key) : Rep K g (keyD k) (kV k) := by
  cases k with
  | inl i => exact .int i
  | inr x => exact .str x
theorem look_rep : ∀ {l : List (D × D)} {kvs : List (Key × V)}, RepP K g l kvs → ∀ (k : Key), (lookD l k = none ∧ valV kvs k = none) ∨ ∃ d v, lookD l k = some d ∧ valV kvs k = some v ∧ Rep K g d v
  | _, _, .nil, k => .inl ⟨rfl, rfl⟩
  | _, _, .cons (k := k2) (d := d) (v := v) (l := l) (kvs := kvs) r q, k => by
    have e1 : lookD ((keyD k2, d) :: l) k = if decide (k2 = k) = true then some d else lookD l k := by
      unfold lookD
      rw [List.find?_cons, keyB_iff]
      by_cases h : k2 = k <;> simp [h]
    have e2 : valV ((k2, v) :: kvs) k = if decide (k2 = k) = true then some v else valV kvs k := by
      unfold valV
      rw [List.find?_cons]
      by_cases h : k2 = k <;> simp [h]
    rw [e1, e2]
    by_cases h : k2 = k
    · rw [if_pos (decide_eq_true h), if_pos (decide_eq_true h)]
      exact .inr ⟨d, v, rfl, rfl, r⟩
    · rw [if_neg (by simpa using h), if_neg (by simpa using h)]
      exact look_rep q k
theorem any_rep : ∀ {l : List (D × D)} {kvs : List (Key × V)}, RepP K g l kvs → ∀ (k : Key), (l.any fun p => keyB k p.1) = kvs.any fun kv => decide (kv.1 = k)
  | _, _, .nil, k => rfl
  | _, _, .cons r q, k => by rw [List.any_cons, List.any_cons, any_rep q k, keyB_iff]
theorem map_rep {d : D} {v : V} (r : Rep K g d v) (k : Key) : ∀ {l : List (D × D)} {kvs : List (Key × V)}, RepP K g l kvs → RepP K g (l.map fun p => if keyB k p.1 = true then (p.1, d) else p) (kvs.map fun kv => if kv.1 = k then (kv.1, v) else kv)
  | _, _, .nil => .nil
  | _, _, .cons (k := k2) r2 q => by
    rw [List.map_cons, List.map_cons, keyB_iff]
    by_cases h : k2 = k
    · rw [if_pos (decide_eq_true h), if_pos h]
      exact .cons r (map_rep r k q)
    · rw [if_neg (by simpa using h), if_neg h]
      exact .cons r2 (map_rep r k q)
theorem app_rep : ∀ {l : List (D × D)} {kvs : List (Key × V)} {l2 : List (D × D)} {kvs2 : List (Key × V)}, RepP K g l kvs → RepP K g l2 kvs2 → RepP K g (l ++ l2) (kvs ++ kvs2)
  | _, _, _, _, .nil, q => q
  | _, _, _, _, .cons r p, q => .cons r (app_rep p q)
theorem put_rep {d : D} {v : V} (r : Rep K g d v) (k : Key) {l : List (D × D)} {kvs : List (Key × V)} (q : RepP K g l kvs) : RepP K g (putD l k d) (putK kvs k v) := by
  unfold putD putK
  rw [any_rep q k]
  split
  · exact map_rep r k q
  · exact app_rep q (.cons r .nil)
theorem len_repP : ∀ {l : List (D × D)} {kvs : List (Key × V)}, RepP K g l kvs → l.length = kvs.length
  | _, _, .nil => rfl
  | _, _, .cons _ q => congrArg (· + 1) (len_repP q)
end
section
variable {X : Cx} {c : Ctx} {T : Tab} {Φ : Fns} {k : Nat} {pos p p2 pos2 apos : Pos} {ea eb ec : Expr} {ca cb cc : E}
theorem ask_of {S : Store} {x y : D} {o : Option D} (h : askD S x y = some o) : ∃ n l kk, x = .ref n ∧ cellD S n = some l ∧ y = keyD kk ∧ o = lookD l kk := by
  cases x with
  | ref n =>
    have h : ((cellD S n).bind fun l => (keyOf y).map fun k => lookD l k) = some o := h
    cases hc : cellD S n with
    | none => rw [hc] at h; cases h
    | some l =>
      rw [hc] at h
      cases hk : keyOf y with
      | none => simp [hk] at h
      | some kk =>
        simp only [hk, Option.bind_some, Option.map_some] at h
        cases h
        exact ⟨n, l, kk, rfl, hc, keyOf_eq hk, rfl⟩
  | _ => cases h
/-- the question of the heap -/
theorem ask_get {K : PySem.W.Frag} {g g2 : G} {S2 : Store} {H2 : Hp} {x y : D} {vx vy : V} {o : Option D} (r1 : Rep K g x vx) (le : Le g g2) (hh : HpOk K g2 S2 H2) (r2 : Rep K g2 y vy) (e : askD S2 x y = some o) :
    ∃ a ov, vx = .ref a ∧ DGet H2 a vy ov ∧ ((o = none ∧ ov = none) ∨ ∃ d v, o = some d ∧ ov = some v ∧ Rep K g2 d v) := by
  obtain ⟨n, l, kk, rfl, hc, rfl, rfl⟩ := ask_of e
  cases r1 with
  | ref er =>
    rename_i a
    obtain ⟨kvs, hk, rp⟩ := hh.dct hc (le.at_ er)
    have hv := rep_key r2
    subst hv
    exact ⟨a, valV kvs kk, rfl, DGet.k hk, look_rep rp kk⟩
theorem e_dsub (G : GX T Φ k X) (ha : PE X ea (tE X.K Φ ca)) (hb : PE X eb (tE X.K Φ cb)) (hs : isSlc eb = false) : PE X (.Subscript ea eb pos) (tE X.K Φ (.dsub ca cb)) :=
  (pe_dget (by have := G.hu; omega) ha hb (fun ov iv => by cases eb <;> first | rfl | cases hs)).imp fun σ H Q ⟨g, fr, S, hf, hh, h⟩ => by
    obtain ⟨x, S1, e1, h⟩ := RPost.bind h
    obtain ⟨y, S2, e2, h⟩ := RPost.bind h
    obtain ⟨d, ed, h⟩ := RPost.of h
    refine tE_in hf hh e1 fun v H1 g1 l1 hh1 r1 => tE_in (hf.mono l1) hh1 e2 fun u H2 g2 l2 hh2 r2 => ?_
    cases eo : askD S2 x y with
    | none => rw [eo] at ed; cases ed
    | some o =>
      rw [eo] at ed
      have ed : o = some d := ed
      subst ed
      obtain ⟨a, ov, rfl, hg, q⟩ := ask_get r1 l2 hh2 r2 eo
      rcases q with ⟨q, _⟩ | ⟨d', v', q1, rfl, q3⟩
      · cases q
      · cases q1
        exact ⟨a, v', rfl, hg, (h.mono (l1.trans l2) : Post X.K g2 d S2 Q).now hh2 q3⟩
theorem dhas_in {neg : Bool} {σ : L2.St} {H : Hp} {Q : VK} (h : tE X.K Φ (.dhas neg ca cb) σ H Q) : tE X.K Φ ca σ H fun y H1 => tE X.K Φ cb σ H1 fun x H2 => ∃ a o, x = .ref a ∧ DGet H2 a y o ∧ Q (.bl (hasB neg o.isSome)) H2 := by
  obtain ⟨g, fr, S, hf, hh, h⟩ := h
  obtain ⟨y, S1, e1, h⟩ := RPost.bind h
  obtain ⟨x, S2, e2, h⟩ := RPost.bind h
  obtain ⟨d, ed, h⟩ := RPost.of h
  refine tE_in hf hh e1 fun u H1 g1 l1 hh1 r1 => tE_in (hf.mono l1) hh1 e2 fun v H2 g2 l2 hh2 r2 => ?_
  cases eo : askD S2 x y with
  | none => rw [eo] at ed; cases ed
  | some o =>
    rw [eo] at ed
    cases ed
    obtain ⟨a, ov, rfl, hg, q⟩ := ask_get r2 (Le.refl g2) hh2 (r1.mono l2) eo
    have es : o.isSome = ov.isSome := by
      rcases q with ⟨rfl, rfl⟩ | ⟨_, _, rfl, rfl, _⟩ <;> rfl
    refine ⟨a, ov, rfl, hg, ?_⟩
    rw [← es]
    exact (h.mono (l1.trans l2) : Post X.K g2 _ S2 Q).now hh2 (.bl _)
theorem e_dhas (G : GX T Φ k X) {neg : Bool} {op : CmpOp} (hop : op = match neg with | true => .NotIn | false => .In) (ha : PE X ea (tE X.K Φ ca)) (hb : PE X eb (tE X.K Φ cb)) (hs : isSet eb = false) : PE X (.Compare ea [op] [eb] pos) (tE X.K Φ (.dhas neg ca cb)) := by
  subst hop
  cases neg with
  | false => exact (pe_cmp (pc_din (by have := G.hu; omega) ha hb) (mark_ok hs)).imp fun σ H Q h => dhas_in h
  | true => exact (pe_cmp (pc_dnotin (by have := G.hu; omega) ha hb) (mark_ok hs)).imp fun σ H Q h => dhas_in h
theorem evT_dhas {neg : Bool} {a b : E} {fr : Fr} {S : Store} : evT Φ (.dhas neg a b) fr S = (evE Φ a fr S).bind fun y S1 => (evE Φ b fr S1).bind fun x S2 => Res.of ((askD S2 x y).map fun o => hasB neg o.isSome) S2 := by
  unfold evT
  show ((evE Φ a fr S).bind fun y S1 => (evE Φ b fr S1).bind fun x S2 => Res.of ((askD S2 x y).map fun o => D.bl (hasB neg o.isSome)) S2).bind _ = _
  cases evE Φ a fr S with
  | ok x S1 =>
    show ((evE Φ b fr S1).bind fun y S2 => Res.of ((askD S2 y x).map fun o => D.bl (hasB neg o.isSome)) S2).bind _ = (evE Φ b fr S1).bind _
    cases evE Φ b fr S1 with
    | ok y S2 =>
      show (Res.of ((askD S2 y x).map fun o => D.bl (hasB neg o.isSome)) S2).bind _ = Res.of ((askD S2 y x).map fun o => hasB neg o.isSome) S2
      cases askD S2 y x with
      | none => rfl
      | some o => rfl
    | ex => rfl
    | no => rfl
  | ex => rfl
  | no => rfl
theorem t_dhas (G : GX T Φ k X) {neg : Bool} {op : CmpOp} (hop : op = match neg with | true => .NotIn | false => .In) (ha : PE X ea (tE X.K Φ ca)) (hb : PE X eb (tE X.K Φ cb)) (hs : isSet eb = false) : PT X (.Compare ea [op] [eb] pos) (tT X.K Φ (.dhas neg ca cb)) := by
  have go : ∀ σ H Q, tT X.K Φ (.dhas neg ca cb) σ H Q → tE X.K Φ ca σ H fun y H1 => tE X.K Φ cb σ H1 fun x H2 => ∃ a o, x = .ref a ∧ DGet H2 a y o ∧ ∃ c, V.bl (hasB neg o.isSome) = .bl c ∧ Q c H2 := fun σ H Q ⟨g, fr, S, hf, hh, h⟩ => by
    rw [evT_dhas] at h
    obtain ⟨y, S1, e1, h⟩ := RPost.bind h
    obtain ⟨x, S2, e2, h⟩ := RPost.bind h
    obtain ⟨b, ed, h⟩ := RPost.of h
    refine tE_in hf hh e1 fun u H1 g1 l1 hh1 r1 => tE_in (hf.mono l1) hh1 e2 fun v H2 g2 l2 hh2 r2 => ?_
    cases eo : askD S2 x y with
    | none => rw [eo] at ed; cases ed
    | some o =>
      rw [eo] at ed
      cases ed
      obtain ⟨a, ov, rfl, hg, q⟩ := ask_get r2 (Le.refl g2) hh2 (r1.mono l2) eo
      have es : o.isSome = ov.isSome := by
        rcases q with ⟨rfl, rfl⟩ | ⟨_, _, rfl, rfl, _⟩ <;> rfl
      refine ⟨a, ov, rfl, hg, _, rfl, ?_⟩
      rw [← es]
      exact h H2 g2 (l1.trans l2) hh2
  subst hop
  cases neg with
  | false => exact (pt_cmp (pc_din (by have := G.hu; omega) ha hb) (mark_ok hs)).imp go
  | true => exact (pt_cmp (pc_dnotin (by have := G.hu; omega) ha hb) (mark_ok hs)).imp go
def getN : Str := "get"
def dictN : Str := "dict"
theorem isDc_of {S : Store} {x : D} (h : isDc S x = true) : ∃ n l, x = .ref n ∧ cellD S n = some l := by
  cases x with
  | ref n =>
    have h : (cellD S n).isSome = true := h
    obtain ⟨l, e⟩ := Option.isSome_iff_exists.mp h
    exact ⟨n, l, rfl, e⟩
  | _ => cases h
theorem e_dget (G : GX T Φ k X) (ho : PE X ea (tE X.K Φ ca)) (ha : PE X eb (tE X.K Φ cb)) (hb : PE X ec (tE X.K Φ cc)) (hs : isStar eb = false) (hs2 : isStar ec = false) (h0 : isCall0 ea = false) (hline : (apos.endLine == pos.line) = true) :
    PE X (.Call (.Attribute ea getN apos) [eb, ec] [] pos) (tE X.K Φ (.dget ca cb cc)) := by
  have hs' : [eb, ec].any isStar = false := by rw [List.any_cons, List.any_cons, hs, hs2]; rfl
  have fw := few_ok (env := X.env) (cpos := pos) hs' (show 2 < 29 by decide)
  refine (pe_dget2 (by have := G.hu; omega) ho ha hb ⟨attrBase h0 _ _ _, fw, hline, by rw [star_cons hs, star_cons hs2]; rfl⟩).imp fun σ H Q ⟨g, fr, S, hf, hh, h⟩ => ?_
  obtain ⟨x, S1, e1, h⟩ := RPost.bind h
  refine tE_in hf hh e1 fun v H1 g1 l1 hh1 r1 => ?_
  have h : RPost (fun d S' => Post X.K g d S' Q) (match isDc S1 x with | true => ((evE Φ cb fr S1).bind fun y S2 => (evE Φ cc fr S2).bind fun w S3 => Res.of ((askD S3 x y).map (·.getD w)) S3) | false => .no) := h
  cases hd : isDc S1 x with
  | false => rw [hd] at h; exact h.elim
  | true =>
    rw [hd] at h
    obtain ⟨n, l, rfl, hc⟩ := isDc_of hd
    cases r1 with
    | ref er =>
      rename_i a
      obtain ⟨kvs, hk, _⟩ := hh1.dct hc er
      refine ⟨a, rfl, .inl ⟨kvs, .of hk⟩, ?_⟩
      obtain ⟨y, S2, e2, h⟩ := RPost.bind h
      obtain ⟨w, S3, e3, h⟩ := RPost.bind h
      obtain ⟨d, ed, h⟩ := RPost.of h
      refine tE_in (hf.mono l1) hh1 e2 fun u H2 g2 l2 hh2 r2 => tE_in ((hf.mono l1).mono l2) hh2 e3 fun z H3 g3 l3 hh3 r3 => ?_
      cases eo : askD S3 (.ref n) y with
      | none => rw [eo] at ed; cases ed
      | some o =>
        rw [eo] at ed
        cases ed
        obtain ⟨a', ov, e9, hg, q⟩ := ask_get (.ref er) (l2.trans l3) hh3 (r2.mono l3) eo
        cases e9
        refine ⟨ov, hg, ?_⟩
        have hP : Post X.K g3 (o.getD w) S3 Q := h.mono (l1.trans (l2.trans l3))
        rcases q with ⟨rfl, rfl⟩ | ⟨d', v', rfl, rfl, q3⟩
        · exact hP.now hh3 r3
        · exact hP.now hh3 q3
/-! dict(pairs) -/
theorem pairs_rep {K : PySem.W.Frag} {g : G} {H : Hp} (hF : Same g.F H) : ∀ {l : List D} {ps : List (Key × D)} {vs : List V}, pairsD l = some ps → RepL K g l vs → ∃ (as : List Addr) (kvs : List (Key × V)), vs = as.map V.ref ∧ Paired (fun p kv => SqT K H p [kV kv.1, kv.2]) as kvs ∧ kvs.map (·.1) = ps.map (·.1) ∧ RepL K g (ps.map (·.2)) (kvs.map (·.2))
  | [], ps, vs, h, r => by
    cases h
    cases r
    exact ⟨[], [], rfl, .nil, rfl, .nil⟩
  | d :: l, ps, vs, h, r => by
    cases d with
    | tup m =>
      match m, h with
      | [kd, vd], h =>
        have h : ((keyOf kd).bind fun k => (pairsD l).map ((k, vd) :: ·)) = some ps := h
        cases hk : keyOf kd with
        | none => simp [hk] at h
        | some kk =>
          cases hp : pairsD l with
          | none => simp [hk, hp] at h
          | some ps2 =>
            simp only [hk, hp, Option.bind_some, Option.map_some] at h
            cases h
            cases r with
            | cons r1 r2 =>
              obtain ⟨as, kvs, rfl, q1, q2, q3⟩ := pairs_rep hF hp r2
              cases r1 with
              | tup hq rl =>
                rename_i a xs
                obtain ⟨v1, v2, rfl, rk, rv⟩ := rl.two
                rw [keyOf_eq hk] at rk
                have e := rep_key rk
                subst e
                exact ⟨a :: as, (kk, v2) :: kvs, rfl, .cons (sqT_mono hF hq) q1, by rw [List.map_cons, List.map_cons, q2], .cons rv q3⟩
    | _ => cases h
theorem merge_rep {K : PySem.W.Frag} {g : G} : ∀ {ps : List (Key × D)} {kvs : List (Key × V)} {l : List (D × D)} {acc : List (Key × V)}, kvs.map (·.1) = ps.map (·.1) → RepL K g (ps.map (·.2)) (kvs.map (·.2)) → RepP K g l acc → RepP K g (mergeD l ps) (mergeK acc kvs)
  | [], [], l, acc, _, _, q => q
  | [], _ :: _, _, _, h, _, _ => by cases h
  | _ :: _, [], _, _, h, _, _ => by cases h
  | (k1, d) :: ps, (k2, v) :: kvs, l, acc, h, r, q => by
    rw [List.map_cons, List.map_cons] at h
    injection h with h1 h2
    have h1 : k2 = k1 := h1
    subst h1
    cases r with
    | cons r1 r2 => exact merge_rep (ps := ps) (kvs := kvs) h2 r2 (put_rep r1 _ q)
theorem e_ddic (G : GX T Φ k X) (C : CtxOk c X) (hb : dictN ∈ T.blt) (hg : c.gl dictN = true) (ha : PE X ea (tE X.K Φ ca)) (hs : isStar ea = false) :
    PE X (.Call (.Name dictN p) [ea] [] pos) (tE X.K Φ (.ddic ca)) := by
  obtain ⟨m0, m1⟩ := G.blt _ hb
  refine (pe_callTy (T := "dict") (call_dictP C.calm) (C.gl hg).1 m0 (by decide +kernel) (pa_cons ha pa_nil (star_cons hs)) m1 (C.gl hg).2 (star_cons hs)).imp fun σ H Q ⟨g, fr, S, hf, hh, h⟩ => ?_
  obtain ⟨x, S1, e1, h⟩ := RPost.bind h
  refine tE_in hf hh e1 fun v H1 g1 l1 hh1 r1 => ?_
  have h : RPost (fun d S' => Post X.K g d S' Q) (match (lstD S1 x).bind pairsD with | some ps => .ok (.ref S1.length) (S1 ++ [.dct (mergeD [] ps)]) | none => .no) := h
  cases el : lstD S1 x with
  | none => rw [el] at h; exact h.elim
  | some l =>
    cases ep : pairsD l with
    | none => simp only [el, ep, Option.bind_some] at h; exact h.elim
    | some ps =>
      simp only [el, ep, Option.bind_some] at h
      obtain ⟨q, xs, rfl, hq, rl⟩ := lst_of hh1 r1 el
      obtain ⟨as, kvs, rfl, q1, q2, q3⟩ := pairs_rep hh1.same ep rl
      have h : Post X.K g (.ref S1.length) (S1 ++ [.dct (mergeD [] ps)]) Q := h
      exact ⟨q, as, kvs, rfl, .inl (.inl hq), q1, (h.mono l1).add hh1 ⟨_, rfl, merge_rep q2 q3 .nil⟩⟩
/-! {k: v for ..} -/
theorem dcomp_turns {K : PySem.W.Frag} {g : G} {fr : Fr} {S : Store} {σ : L2.St} {H : Hp} {A : Addr} {l : List D} {J : It} {p : Pat} {cs : List E} {ck cv : E} {vs : List Nat} {Qd : Hp → Prop} (hf : FrOk K g fr σ) (hh : HpOk K g S H) (hJ : ItOk K g l J) (hA : H A = none) (hp : ∀ i ∈ p.slots, i ∈ vs)
    (hq : RPost (fun r S' => ∀ H' g' xs, Le g (g'.back g.pv) → HpOk K g' S' H' → g'.pv = upd g.pv A (.dK xs) → RepP K g' r xs → Qd H') (dcompF p (evTs Φ cs) (evE Φ ck) (evE Φ cv) (wipeF fr vs) l [] S)) :
    ∃ W : Nat → Nat → Hp → Prop, (∃ m, W 0 m (upd H A (.dK []))) ∧ ∀ i m H, W i m H → (J.stop i H ∧ Qd H) ∨ (J.go i H ∧ ∃ Nx : Hp → Prop, (∀ H', Nx H' → ∃ m', m' < m ∧ W (i + 1) m' H') ∧ ∀ x H', J.yld i H x H' →
      tP K p x (L2.wipe σ vs) H' fun σ2 H2 => L2.wipe σ2 vs = L2.wipe σ vs ∧ tTs K Φ cs σ2 H2 fun b H3 =>
        if b = true then tE K Φ ck σ2 H3 fun y H4 => tE K Φ cv σ2 H4 fun z H5 => ∃ kvs k, y = kV k ∧ H5 A = some (.dK kvs) ∧ kvs.length < sizeLine ∧ Nx (upd H5 A (.dK (putK kvs k z))) else Nx H3) := by
  let Fin := fun (r : List (D × D)) (S' : Store) => ∀ (H' : Hp) (g' : G) (xs : List (Key × V)), Le g (g'.back g.pv) → HpOk K g' S' H' → g'.pv = upd g.pv A (.dK xs) → RepP K g' r xs → Qd H'
  let At := fun (i : Nat) (H1 : Hp) => ∃ g1 S1 acc xs, Le g (g1.back g.pv) ∧ HpOk K g1 S1 H1 ∧ g1.pv = upd g.pv A (.dK xs) ∧ RepP K g1 acc xs ∧ RPost Fin (dcompF p (evTs Φ cs) (evE Φ ck) (evE Φ cv) (wipeF fr vs) (l.drop i) acc S1)
  refine ⟨fun i m H1 => m = l.length - i ∧ i ≤ l.length ∧ At i H1,
    ⟨l.length, by simp, Nat.zero_le _, g.set A (.dK []), S, [], [], Le.refl g, hh.apart hA, rfl, .nil, hq⟩, ?_⟩
  rintro i m H1 ⟨rfl, hi, g1, S1, acc, xs, l1, hh1, hpv, ra, hr⟩
  by_cases hlt : i < l.length
  · have hd : l[i]? = some l[i] := List.getElem?_eq_getElem hlt
    have hdrop : l.drop i = l[i] :: l.drop (i + 1) := List.drop_eq_getElem_cons hlt
    rw [hdrop] at hr
    obtain ⟨k1, k2⟩ := (hJ i H1 g1 S1 l1 hh1).1 _ hd
    refine .inr ⟨k1, At (i + 1), fun H' n' => ⟨l.length - (i + 1), by omega, rfl, hlt, n'⟩, fun x H2 y => ?_⟩
    obtain ⟨g2, l2, hh2, r2⟩ := k2 x H2 y
    have l02 : Le g (g2.back g.pv) := l1.trans (le_back l2)
    have fr2 : FrOk K g2 (wipeF fr vs) (L2.wipe σ vs) := (hf.wipe vs).monoW l02
    have hr : RPost Fin (match asgP p l[i] (wipeF fr vs) with | none => .no | some fr' => (evTs Φ cs fr' S1).bind fun b S1 => if b = true then (evE Φ ck fr' S1).bind fun y S2 => (evE Φ cv fr' S2).bind fun z S3 => (match keyOf y with | some k => if acc.length < sizeLine then dcompF p (evTs Φ cs) (evE Φ ck) (evE Φ cv) (wipeF fr vs) (l.drop (i + 1)) (putD acc k z) S3 else .no | none => .no) else dcompF p (evTs Φ cs) (evE Φ ck) (evE Φ cv) (wipeF fr vs) (l.drop (i + 1)) acc S1) := hr
    cases ea : asgP p l[i] (wipeF fr vs) with
    | none => rw [ea] at hr; exact hr.elim
    | some fr' =>
      rw [ea] at hr
      refine ⟨g2, wipeF fr vs, S1, l[i], fr', fr2, hh2, r2, ea, fun σ2 hf2 s2 => ⟨?_, ?_⟩⟩
      · rw [s2 vs hp, wipe_wipe]
      · obtain ⟨b, S3, eb, hr⟩ := RPost.bind hr
        refine ⟨g2, fr', S1, hf2, hh2, ?_⟩
        rw [eb]
        intro H3 g3 l3 hh3
        have l03 : Le g (g3.back g.pv) := l02.trans (le_back l3)
        cases b with
        | false =>
          rw [if_neg (by decide)]
          rw [if_neg (by decide)] at hr
          exact ⟨g3, S3, acc, xs, l03, hh3, (l3.pv.trans l2.pv).trans hpv, (ra.mono l2).mono l3, hr⟩
        | true =>
          rw [if_pos rfl]
          rw [if_pos rfl] at hr
          obtain ⟨d, S4, ee, hr⟩ := RPost.bind hr
          refine ⟨g3, fr', S3, hf2.mono l3, hh3, ?_⟩
          rw [ee]
          intro v H4 g4 l4 hh4 r4
          obtain ⟨z, S5, ez, hr⟩ := RPost.bind hr
          refine ⟨g4, fr', S4, (hf2.mono l3).mono l4, hh4, ?_⟩
          rw [ez]
          intro v5 H5 g5 l5 hh5 r5
          have hpv5 : g5.pv = upd g.pv A (.dK xs) := (((l5.pv.trans l4.pv).trans l3.pv).trans l2.pv).trans hpv
          have e5 : g5.pv A = some (.dK xs) := by rw [hpv5, upd_same]
          have ra5 : RepP K g5 acc xs := (((ra.mono l2).mono l3).mono l4).mono l5
          cases hk : keyOf d with
          | none => rw [hk] at hr; exact hr.elim
          | some kk =>
            rw [hk] at hr
            have hr : RPost Fin (if acc.length < sizeLine then dcompF p (evTs Φ cs) (evE Φ ck) (evE Φ cv) (wipeF fr vs) (l.drop (i + 1)) (putD acc kk z) S5 else .no) := hr
            split at hr
            · rename_i hz
              rw [keyOf_eq hk] at r4
              have ev := rep_key r4
              refine ⟨xs, kk, ev, hh5.pv _ _ e5, by rw [← len_repP ra5]; exact hz, g5.set A (.dK (putK xs kk v5)), S5, putD acc kk z, putK xs kk v5, ?_, hh5.turn e5, ?_, ?_, hr⟩
              · rw [back_set]; exact (l03.trans (le_back l4)).trans (le_back l5)
              · show upd g5.pv A _ = _
                rw [hpv5, upd_upd]
              · exact (put_rep r5 kk ra5).pv
            · exact hr.elim
  · have e : i = l.length := by omega
    subst e
    refine .inl ⟨(hJ _ H1 g1 S1 l1 hh1).2 (Nat.le_refl _), ?_⟩
    rw [List.drop_length] at hr
    exact (show Fin acc S1 from hr) H1 g1 xs l1 hh1 hpv ra
theorem dcomp_reading {own : List (Str × Nat)} {p : Pat} {ci ck cv : E} {cs : List E} {K : PySem.W.Frag} (hp : ∀ i ∈ p.slots, i ∈ own.map (·.2)) (σ : L2.St) (H : Hp) (Q : VK) (h : tE K Φ (.dcomp own p ci cs ck cv) σ H Q) :
    tDc (tI K Φ ci) (tP K p) (tTs K Φ cs) (tE K Φ ck) (tE K Φ cv) (own.map (·.2)) σ H Q := by
  obtain ⟨g, fr, S, hf, hh, h⟩ := h
  obtain ⟨x, S1, e1, h⟩ := RPost.bind h
  cases hl : iterD S1 x with
  | none => rw [hl] at h; exact h.elim
  | some l =>
    rw [hl] at h
    have h : RPost (fun d S' => Post K g d S' Q) ((dcompF p (evTs Φ cs) (evE Φ ck) (evE Φ cv) (wipeF fr (own.map (·.2))) l [] S1).bind fun r S2 => .ok (.ref S2.length) (S2 ++ [.dct r])) := h
    refine ⟨g, fr, S, hf, hh, ?_⟩
    rw [e1]
    refine ⟨l, hl, fun H1 g1 J l1 hh1 hJ A hA => dcomp_turns (hf.mono l1) hh1 hJ hA hp ?_⟩
    have apart : g1.pv A = none := hh1.pv.free hA
    obtain ⟨r, S2, e2, h⟩ := RPost.bind h
    rw [e2]
    intro H' g' xs l2 hh' hpv rl
    have eA : g'.pv A = some (.dK xs) := by rw [hpv, upd_same]
    have j := hh'.join2 (q := g1.pv) (c := .dct r) eA ⟨xs, rfl, rl⟩ (fun a ha => by rw [hpv, upd_ne ha]) apart
    have lj : Le g' (g'.add A) := Le.add A
    refine (show Post K g (.ref S2.length) (S2 ++ [.dct r]) Q from h) _ _ _ (l1.trans (l2.trans (le_back lj))) j (.ref ?_)
    show (g'.ρ ++ [A])[S2.length]? = _
    rw [hh'.len, List.getElem?_append_right (Nat.le_refl _)]
    simp
theorem e_dcomp {tg it kx vx : Expr} {ifs : List Expr} {scope : Scope} {own : List (Str × Nat)} {p : Pat} {ci ck cv : E} {cs : List E} (C : CtxOk c X) (hi : PI X tg it (tI X.K Φ ci)) (ok : BlkOk X.N X.env.scope scope own)
    (hg : ∀ (s : Shared) (H : Hp) (Q : Addr) (cl : List (Str × Addr)) (fp : List Addr), PG (X.blk s H scope (compEnvC scope cl Q X.env) fp) tg (tP X.K p)) (ht : ∀ (s : Shared) (H : Hp) (Q : Addr) (cl : List (Str × Addr)) (fp : List Addr), PTs (X.blk s H scope (compEnvC scope cl Q X.env) fp) ifs (tTs X.K Φ cs))
    (hk : ∀ (s : Shared) (H : Hp) (Q : Addr) (cl : List (Str × Addr)) (fp : List Addr), PE (X.blk s H scope (compEnvC scope cl Q X.env) fp) kx (tE X.K Φ ck)) (he : ∀ (s : Shared) (H : Hp) (Q : Addr) (cl : List (Str × Addr)) (fp : List Addr), PE (X.blk s H scope (compEnvC scope cl Q X.env) fp) vx (tE X.K Φ cv)) (hp : ∀ i ∈ p.slots, i ∈ own.map (·.2)) (hs : isSet it = false) :
    PE X (.DictComp kx vx [⟨tg, it, ifs, 0⟩] scope pos) (tE X.K Φ (.dcomp own p ci cs ck cv)) :=
  (pe_dc C.calm (by rw [C.N]; exact C.nd) hi ok hg ht hk he (fun x => fold_ok hs _ x)).imp fun σ H Q h => dcomp_reading hp σ H Q h
/-- l[::-1] -/
theorem e_rev {p1 p2 p3 : Pos} {kk : Nat} (ha : PE X ea (tE X.K Φ ca)) : PE X (.Subscript ea (.Slice none none (some (.UnaryOp .USub (.Constant (.int 1) kk p1) p2)) p3) pos) (tE X.K Φ (.rev ca)) :=
  (pe_revL ha).imp fun σ H Q ⟨g, fr, S, hf, hh, h⟩ => by
    obtain ⟨x, S1, e1, h⟩ := RPost.bind h
    refine tE_in hf hh e1 fun v H1 g1 l1 hh1 r1 => ?_
    have h : RPost (fun d S' => Post X.K g d S' Q) (match lstD S1 x with | some l => .ok (.lst l.reverse) S1 | none => .no) := h
    cases el : lstD S1 x with
    | none => rw [el] at h; exact h.elim
    | some l =>
      rw [el] at h
      obtain ⟨q, xs, rfl, hq, rl⟩ := lst_of hh1 r1 el
      exact ⟨q, xs, rfl, .inl (.inl hq), (Post.mono l1 (show Post X.K g (.lst l.reverse) S1 Q from h)).lst hh1 rl.reverse⟩
end
end Dm

/-! DmS: len(set(..)) of a list of texts. -/
namespace Dm
open PySem PySem.Spec PyProof.Rows L2
/-- how many unlike texts -/
def nDup (xs : List Str) : Nat := xs.eraseDups.length
theorem nDup_snoc (xs : List Str) (x : Str) : nDup (xs ++ [x]) = if xs.any (· == x) = true then nDup xs else nDup xs + 1 := by
  unfold nDup
  rw [List.eraseDups_append, List.length_append]
  by_cases h : xs.any (· == x) = true
  · rw [if_pos h]
    have hm : x ∈ xs := by
      obtain ⟨y, hy, e⟩ := List.any_eq_true.mp h
      rw [beq_iff_eq] at e
      exact e ▸ hy
    have : [x].removeAll xs = [] := by
      unfold List.removeAll
      simp [hm]
    rw [this]; rfl
  · rw [if_neg h]
    have hm : x ∉ xs := fun hx => h (List.any_eq_true.mpr ⟨x, hx, by simp⟩)
    have : [x].removeAll xs = [x] := by
      unfold List.removeAll
      simp [hm]
    rw [this]
    rfl
theorem nDup_le (xs : List Str) : nDup xs ≤ xs.length := by
  have key : ∀ (n : Nat) (xs : List Str), xs.length = n → nDup xs ≤ n := by
    intro n
    induction n with
    | zero => intro xs h; rw [List.length_eq_zero_iff.mp h]; exact Nat.le_refl _
    | succ n ih =>
      intro xs h
      have hne : xs ≠ [] := by rintro rfl; simp at h
      rw [← List.dropLast_concat_getLast hne]
      rw [nDup_snoc]
      have := ih xs.dropLast (by rw [List.length_dropLast]; omega)
      split <;> omega
  exact key _ xs rfl
def metB (xs : List Str) (i : Nat) (z : Str) : Bool := (xs.take i).any (· == z)
section
variable {prog : Program} {w : World} {A : Around} {R : Result → Shared → Prop} {it : Addr} {fp wr : List Addr} {GG : Array GenState → Array GenState → Prop} {m : Nat} {P : Nat → Value → Prop} {At : Nat → Shared → Prop}
theorem texts_in (W : WalksS prog w A.in1 it fp wr GG m P At) (B : Addr) (nB : B ∉ fp) (xs : List Str) (lx : xs.length = m) (small : m + 1 < scanBound) (val : ∀ i v, P i v → ∃ t, v = .str (xs.getD i Str.empty) t) :
    ∀ (left i : Nat) (c : Shared), m - i = left → i ≤ m → At i c → c.heap.SetOf (PySem.strKind prog w) B (metB xs i) (nDup (xs.take i)) →
      (∀ c', Moved (B :: wr) GG c c' → c'.heap.SetOf (PySem.strKind prog w) B (metB xs m) (nDup (xs.take m)) → R (.ok (.ret .none)) c') →
      codeAny (model prog w) A (.builtin "set.update.loop" ⟨[.ref B, .ref it], []⟩) R c := by
  have nW : B ∉ wr := fun h => nB (W.sub _ h)
  have wide : ∀ b ∈ wr, b ∈ B :: wr := fun b hb => List.mem_cons_of_mem _ hb
  have stay : ∀ {c c' : Shared} {p : Str → Bool} {q : Nat}, Moved wr GG c c' → c.heap.SetOf (PySem.strKind prog w) B p q → c'.heap.SetOf (PySem.strKind prog w) B p q := fun mv ⟨o, es, ep, t, ho, more⟩ => ⟨o, es, ep, t, mv.heap B _ nW ho, more⟩
  intro left
  induction left with
  | zero =>
    intro i c el le st so fin
    obtain rfl : i = m := by omega
    refine codeAny_builtin PyProof.Rows.F.entry_set_update_loop ?_
    rw [Around.under_plainId PyProof.Rows.F.plain_set_update_loop _]
    show wpAny _ A.in1 (pyNext (.ref it) >>= _) _ _ c
    refine wpAny_bind (W.done c _ _ st fun c' mv => ?_)
    exact wpAny_pure (fin c' (mv.mono wide) (stay mv so))
  | succ left ih =>
    intro i c el le st so fin
    have lt : i < m := by omega
    refine codeAny_builtin PyProof.Rows.F.entry_set_update_loop ?_
    rw [Around.under_plainId PyProof.Rows.F.plain_set_update_loop _]
    show wpAny _ A.in1 (pyNext (.ref it) >>= _) _ _ c
    refine wpAny_bind (W.item i c _ _ lt st fun v c' pv st' mv => ?_)
    obtain ⟨t, rfl⟩ := val i v pv
    have so' := stay mv so
    have ex : xs.take (i + 1) = xs.take i ++ [xs.getD i Str.empty] := by
      rw [List.take_add_one, List.getElem?_eq_getElem (show i < xs.length by omega)]
      simp [List.getD, show i < xs.length by omega]
    have room : nDup (xs.take i) + 1 < scanBound := by
      have q1 := nDup_le (xs.take i)
      rw [List.length_take] at q1
      omega
    show wpAny _ A.in1 (holding [Value.str (xs.getD i Str.empty) t] (setAdd B (.str (xs.getD i Str.empty) t)) >>= _) _ _ c'
    refine wpAny_bind (wpAny_holding ?_)
    unfold setAdd
    refine wpAny_holding (wpAny_bind ((PySem.strKind prog w).pyHash (k := xs.getD i Str.empty) (strKind_is _ _ _ _) ?_))
    refine wpAny_setAddHashed_of (knd := PySem.strKind prog w) (s := { c' with toks := c'.toks + 1 }) (strKind_is _ _ _ _) rfl so' room fun h' but so2 => ?_
    have so3 : h'.SetOf (PySem.strKind prog w) B (metB xs (i + 1)) (nDup (xs.take (i + 1))) := by
      refine SetOf_congr so2 (fun z => ?_) (by rw [ex, nDup_snoc]; rfl)
      unfold metB
      rw [ex, List.any_append, List.any_cons, List.any_nil, Bool.or_false]
      congr 1
      by_cases q : z = xs.getD i Str.empty
      · rw [q]; simp
      · rw [decide_eq_false q]
        exact (beq_eq_false_iff_ne.mpr (fun q2 => q q2.symm)).symm
    refine wpAny_pure ⟨plainId_quiet PyProof.Rows.F.plain_set_update_loop _, ih (i + 1) _ (by omega) lt (W.frame _ c' _ _ st' (Nat.le_succ _) fun b hb o e => ?_) so3 fun c2 mv2 so4 => ?_⟩
    · exact (but.2 b (fun q => nB (q ▸ hb))).trans e
    · refine fin c2 (Moved.trans W.gtrans ((mv.mono wide).then_heap (Nat.le_succ _) fun b o hb e => ?_) mv2) so4
      exact (but.2 b (fun q => hb (by rw [q]; exact List.mem_cons_self))).trans e
end
section
variable {prog : Program} {w : World} {A : Around} {E : Value → Shared → Prop} {c : Shared}
def freshSet (led : Bool) : Obj := { cls := .type "set", dict := none, data := .set #[] 0 (.fresh 0 0 led) }
set_option maxHeartbeats 4000000 in
/-- set(xs), xs a list of texts -/
theorem set_texts {L : Addr} {items : Array Value} {xs : List Str} {Q : Value → Shared → Prop} (hh : A.handled = none) (hL : c.heap.IsList L items) (hi : PyProof.Rows.StrsAre items.toList xs) (small : items.size + 1 < scanBound)
    (fin : ∀ (h' : Heap) (tk : Nat), h'.SetOf (PySem.strKind prog w) c.heap.objs.size (metB xs items.size) (nDup (xs.take items.size)) → (∀ b o, b < c.heap.objs.size → c.heap.get? b = some o → h'.get? b = some o) → Q (.ref c.heap.objs.size) { c with heap := h', toks := tk }) :
    wpAny (model prog w) A (call (.type "set") [.ref L]) Q E c := by
  obtain ⟨k0, tl, hmro⟩ := PySem.F.called_set.mro
  have g1 := PySem.F.called_set.made
  have g2 := PySem.F.called_set.sub
  refine wpAny_call (codeAny_of_tree ?_)
  show wpAny _ _ (callAny (.type "set") _) _ _ _
  refine wpAny_pure ⟨Code.quiet_builtin _ (by decide +kernel), codeAny_builtin PySem.F.entry_type_call ?_⟩
  rw [Around.under_plain (weight_type_call_type "set" [.ref L] []) rfl]
  have g3 := PySem.F.called_set.notType
  have g4 := PySem.F.called_set.canCreate
  have g5 := PySem.F.typeCall_set_1 (.ref L)
  repeat (any_goals (first | assumption | wp_step))
  refine codeAny_mono (code_set_new_1 (.ref L) (E := E) (Q₁ := fun ob c1 => ∃ led : Bool, ob = .ref c.heap.objs.size ∧ c1 = { c with heap := c.heap.push (freshSet led) }) fun led => ⟨led, rfl, rfl⟩) fun r c1 hr => ?_
  cases r with
  | error e => exact hr
  | ok fl =>
    cases fl with
    | ret ob =>
      obtain ⟨led, rfl, rfl⟩ := hr
      have hB : (c.heap.push (freshSet led)).get? c.heap.objs.size = some (freshSet led) := Heap.get?_push_size _ rfl
      have tB : Shared.TypeIs { c with heap := c.heap.push (freshSet led) } (.ref c.heap.objs.size) "set" := ⟨_, hB, rfl⟩
      have g6 := PySem.F.called_set.init.lookup
      have g7 := PySem.F.called_set.init.bind (.ref c.heap.objs.size)
      repeat (any_goals (first | assumption | wp_step))
      refine codeAny_mono (codeAny_call_builtin (R := wants (fun r c2 => r = .none ∧ ∃ h' tk, c2 = { c with heap := h', toks := tk } ∧ h'.SetOf (PySem.strKind prog w) c.heap.objs.size (metB xs items.size) (nDup (xs.take items.size)) ∧
          ∀ b o, b < c.heap.objs.size → c.heap.get? b = some o → h'.get? b = some o) E) PySem.F.called_set.init.plain PySem.F.entry_set_init (check_set_init_1 tB ?_)) fun r2 c2 hr2 => ?_
      · obtain ⟨oL, eL, cL, nL, dL⟩ := hL
        obtain ⟨x1, x2, x3, x4⟩ := oL
        simp only at cL dL
        subst cL dL
        have eL2 : (c.heap.push (freshSet led)).get? L = some { cls := .type "list", dict := x2, data := .seq items nL, slots := x4 } := Heap.get?_push_of_some _ eL
        have i1 := PySem.F.sub_list_set
        have i2 := PySem.F.sub_list_frozenset
        have i3 : (Value.type "list" == Value.type "dict") = false := by decide
        have iL : (c.heap.push (freshSet led)).IsList L items := ⟨_, eL2, rfl, nL, rfl⟩
        unfold Builtin.«set.__init__» noKeywords Builtin.Frozenset.updateFrom
        generalize hPI : pyIter = PI
        wp_walk
        subst hPI
        refine wpAny_pyIter_list iL ?_
        refine wpAny_bind (wpAny_runValue ?_)
        have ltL : L < c.heap.objs.size := Heap.lt_size eL
        have hh3 : A.in1.in1.in1.handled = none := by simp [hh]
        have szp : (c.heap.push (freshSet led)).objs.size = c.heap.objs.size + 1 := Heap.size_push _ _
        have neL : L ≠ (c.heap.push (freshSet led)).objs.size := by rw [szp]; exact Nat.ne_of_lt (Nat.lt_succ_of_lt ltL)
        have outB : c.heap.objs.size ∉ [(c.heap.push (freshSet led)).objs.size, L] := by
          rw [szp]
          intro q
          rcases List.mem_cons.mp q with q | q
          · exact absurd q (Nat.ne_of_lt (Nat.lt_succ_self _))
          · exact absurd (List.mem_singleton.mp q) (Nat.ne_of_gt ltL)
        have lx : xs.length = items.size := by rw [← StrsAre.len_eq hi, Array.length_toList]
        refine texts_in ((Walks.list hh3 _ L neL items).toS) c.heap.objs.size outB xs lx small (fun i v hv => SS.strs_at hi i v (by rw [Array.getElem?_toList]; exact hv)) (items.size - 0) 0 _ (by omega) (Nat.zero_le _) ⟨⟨_, Heap.get?_push_size _ rfl, rfl, rfl⟩, iL.push _⟩ ?so ?fin
        case so =>
          refine SetOf_congr ((PyProof.Rows.setObjOf_fresh (knd := PySem.strKind prog w) led).setOf (Heap.get?_push_of_some _ hB) (by unfold scanBound; omega)) (fun _ => rfl) rfl
        case fin =>
          intro c3 mv so
          obtain ⟨h3, g3', d3, t3, o3⟩ := c3
          obtain rfl : g3' = c.gens := mv.gens
          obtain rfl : d3 = c.drawn := mv.drawn
          obtain rfl : o3 = c.os := mv.os
          refine wpAny_pure (wpAny_pure ⟨rfl, h3, t3, rfl, so, fun b o hb e => ?_⟩)
          refine mv.heap b o (fun q => ?_) (Heap.get?_push_of_some _ (Heap.get?_push_of_some _ e))
          rcases List.mem_cons.mp q with q | q
          · exact Nat.ne_of_lt hb q
          · rw [szp] at q
            exact Nat.ne_of_lt (Nat.lt_succ_of_lt hb) (List.mem_singleton.mp q)
      · cases r2 with
        | error e => exact hr2
        | ok fl2 =>
          cases fl2 with
          | ret r =>
            obtain ⟨rfl, h', tk, rfl, so, kp⟩ := hr2
            repeat (any_goals (first | assumption | wp_step))
            exact fin _ _ so kp
          | _ => exact hr2.elim
    | _ => exact hr.elim
end
section
variable {X : Cx} {c : Ctx} {T : Tab} {Φ : Fns} {k : Nat} {pos p p2 pos2 : Pos} {ea : Expr} {ca : E} {ta : TE}
def tLsS (K : PySem.W.Frag) (ta : TE) : TE := fun σ H Q => ta σ H fun x H1 => ∃ (l : Addr) (xs : List Str), x = .ref l ∧ SqL K H1 l (xs.map V.str) ∧ xs.length ≤ 1000 ∧ Q (.int (nDup xs : Nat)) H1
theorem pe_lsetS (hc : X.calm = true) (b1 : Gl X "len") (m1 : X.mg "len" = none) (b2 : Gl X "set") (m2 : X.mg "set" = none) (ha : PE X ea ta) (na : starEach [ea] X.env = (false, eval ea X.env) :: starEach [] X.env) :
    PE X (.Call (.Name "len" p) [.Call (.Name "set" p2) [ea] [] pos2] [] pos) (tLsS X.K ta) := by
  refine ⟨fun pins s σ H Q I h => Call_ (ld_blt I b1 m1 boot_len (PyProof.Rows.callWith_builtin1 (PyProof.Rows.args_cons (Call_ (ld_blt I b2 m2 boot_set (PyProof.Rows.callWith_type1 (PyProof.Rows.args_cons (thn (ha.run pins s σ H _ I h) fun v s1 ⟨x, H1, I1, r1, q1⟩ => PyProof.Rows.args_nil ?_) na) na rfl))) rfl) rfl rfl))⟩
  obtain ⟨l, xs, rfl, hq, few, q1⟩ := q1
  cases r1
  obtain ⟨its, r, pl, hz⟩ := I1.list hq
  have si : PyProof.Rows.StrsAre its.toArray.toList xs := by simpa using L2.strsAre_of r
  have hl : its.toArray.size = xs.length := by rw [List.size_toArray, ← r.length, List.length_map]
  have sb : (1002 : Nat) < scanBound := by unfold scanBound; omega
  refine set_texts (I1.ok.hd hc) pl.isList si (by omega) fun h' tk so kp => PyProof.Rows.args_nil ?_
  rw [hl, List.take_length] at so
  obtain ⟨o, es, ep, t, ho, hex, hd, _, _, _, hf, hn⟩ := so
  have I2 : Inv X pins σ H1 { s1 with heap := h', toks := tk } := I1.kept fun b o e => kp b o (Heap.lt_size e) e
  have nd := nDup_le xs
  exact call_len_set ho hex hd hf (by rw [hn] <;> omega) ⟨.int (nDup xs : Nat), H1, I2.tok _, ⟨_, by rw [hn]⟩, q1⟩
/-- len(set(a)) -/
theorem e_lset (G : GX T Φ k X) (C : CtxOk c X) (hb : lenN ∈ T.blt) (hg : c.gl lenN = true) (hb2 : setN ∈ T.blt) (hg2 : c.gl setN = true) (ha : PE X ea (tE X.K Φ ca)) (hs : isStar ea = false) :
    PE X (.Call (.Name lenN p) [.Call (.Name setN p2) [ea] [] pos2] [] pos) (tE X.K Φ (.lset ca)) := by
  obtain ⟨m0, m1⟩ := G.blt _ hb
  obtain ⟨m2, m3⟩ := G.blt _ hb2
  refine (pe_lsetS C.calm (C.gl hg).1 m0 (C.gl hg2).1 m2 ha (star_cons hs)).imp fun σ H Q ⟨g, fr, S, hf, hh, h⟩ => ?_
  obtain ⟨x, S1, e1, h⟩ := RPost.bind h
  refine tE_in hf hh e1 fun v H1 g1 l1 hh1 r1 => ?_
  obtain ⟨d, ed, h⟩ := RPost.of h
  unfold lsetD at ed
  cases el : lstD S1 x with
  | none => rw [el] at ed; cases ed
  | some l =>
    rw [el] at ed
    cases es : strsD l with
    | none => simp [es] at ed
    | some ss =>
      simp only [es, Option.bind_some] at ed
      split at ed
      · rename_i hl
        cases ed
        obtain ⟨q, xs, rfl, hq, rl⟩ := lst_of hh1 r1 el
        rw [strsD_map es] at rl
        have ex := rep_strs rl
        rw [ex] at hq
        exact ⟨q, ss, rfl, .inl (.inl hq), hl, (Post.mono l1 h).now hh1 (.int _)⟩
      · cases ed
end
end Dm

/-! DmI: the checker, and that what it checks is sound. -/
namespace Dm
open PySem L2

/-! ### how plain parameters are bound -/
theorem missing_nil : ∀ (ps : List Str) (us : List Value), us.length = ps.length → (ps.filter fun n => ((ps.zip us).lookup n).isNone) = [] := by
  intro ps us h
  rw [List.filter_eq_nil_iff]
  intro n hn
  have : ∀ (ps : List Str) (us : List Value), us.length = ps.length → n ∈ ps → ((ps.zip us).lookup n).isSome = true := by
    intro ps
    induction ps with
    | nil => intro us _ h; cases h
    | cons p ps ih =>
      intro us hl hm
      cases us with
      | nil => cases hl
      | cons u us =>
        rw [List.zip_cons_cons, List.lookup_cons]
        by_cases e : n == p
        · rw [e]; rfl
        · have e' : (n == p) = false := by simpa using e
          rw [e']
          have hn : n ∈ ps := by
            rcases List.mem_cons.mp hm with h | h
            · subst h; simp at e
            · exact h
          exact ih us (by simpa using hl) hn
  have q := this ps us h hn
  rw [← Option.not_isSome, q]; decide
theorem filterMap_cg {α β : Type} {f g : α → Option β} : ∀ {l : List α}, (∀ n ∈ l, f n = g n) → l.filterMap f = l.filterMap g
  | [], _ => rfl
  | a :: l, h => by
    rw [List.filterMap_cons, List.filterMap_cons, h a List.mem_cons_self, filterMap_cg fun n hn => h n (List.mem_cons_of_mem _ hn)]
theorem zip_lookup : ∀ (ps : List Str) (us : List Value), us.length = ps.length → ps.Nodup → (ps.filterMap fun n => ((ps.zip us).lookup n).map (n, ·)) = ps.zip us
  | [], us, h, _ => by simp
  | p :: ps, [], h, _ => by cases h
  | p :: ps, u :: us, h, nd => by
    have ih := zip_lookup ps us (by simpa using h) (List.nodup_cons.mp nd).2
    rw [List.zip_cons_cons, List.filterMap_cons]
    simp only [List.lookup_cons, beq_self_eq_true, Option.map_some]
    congr 1
    refine Eq.trans ?_ ih
    refine filterMap_cg fun n hn => ?_
    have e : (n == p) = false := by
      rw [beq_eq_false_iff_ne]
      rintro rfl
      exact (List.nodup_cons.mp nd).1 hn
    simp [e]
theorem bind_plain {x qual : Str} {args : List PySem.Arg} {kd : List (Option Expr)} {df : List Expr} {body : List Stmt} {sc : Scope} {kV doc pm : Value} {an : Option Addr} {cdv ct : Value} {us : List Value} {ps : List Str} (hp : args.map (·.arg) = ps) (nd : ps.Nodup) (h : us.length = ps.length) :
    bindArgs (PySem.W.fnOf x qual { posonlyargs := [], args := args, vararg := none, kwonlyargs := [], kw_defaults := kd, kwarg := none, defaults := df } body sc .none kV doc pm an cdv ct) ⟨us, []⟩ = pure (ps.zip us) := by
  have m := missing_nil ps us h
  have z := zip_lookup ps us h nd
  unfold bindArgs PySem.W.fnOf
  simp only [List.map_nil, List.nil_append, List.forIn_nil, pure_bind, hp]
  have ns : notAStandIn Value.none = pure () := rfl
  have dr : ∀ k : Nat, (List.drop k ([] : List Value)) = [] := fun k => by cases k <;> rfl
  simp [seqItems?, h, m, ns, dr, z]

/-! ### the checker -/
def all2 {α β : Type} (f : α → β → Bool) : List α → List β → Bool
  | [], [] => true
  | a :: as, b :: bs => f a b && all2 f as bs
  | _, _ => false
mutual
def chkP (c : Ctx) : Pat → Expr → Bool
  | .v i, .Name x _ => c.st x i
  | .t ps, .Tuple es _ _ => !es.any isStar && decide (es.length = ps.length) && chkPs c ps es
  | _, _ => false
termination_by structural p => p
def chkPs (c : Ctx) : List Pat → List Expr → Bool
  | [], [] => true
  | p :: ps, e :: es => !isStar e && chkP c p e && chkPs c ps es
  | _, _ => false
termination_by structural ps => ps
end
def chkO (f : Expr → E → Bool) : Option Expr → Option E → Bool
  | none, none => true
  | some e, some c => f e c
  | _, _ => false
def Ctx.inner (c : Ctx) (scope : Scope) : Ctx := ⟨c.N, relS scope c.sc, scope⟩
/-- iterables: f checks expressions -/
def chkI (T : Tab) (f : Expr → E → Bool) (c : Ctx) (tg e : Expr) (ce : E) : Bool :=
  match ce with
  | .range [a] => match e with
    | .Call (.Name x _) [y] [] _ => decide (x = rangeN) && decide (rangeN ∈ T.blt) && c.gl rangeN && !isStar y && f y a
    | _ => false
  | .range [a, b] => match e with
    | .Call (.Name x _) [y, z] [] _ => decide (x = rangeN) && decide (rangeN ∈ T.blt) && c.gl rangeN && !isStar y && !isStar z && f y a && f z b
    | _ => false
  | .enum (.zip a b) => match tg with
    | .Tuple _ _ _ => match e with
      | .Call (.Name x _) [.Call (.Name u _) [y, z] [] _] [] _ => decide (x = enumN) && decide (enumN ∈ T.blt) && c.gl enumN && decide (u = zipN) && decide (zipN ∈ T.blt) && c.gl zipN && !isStar y && !isStar z && f y a && f z b
      | _ => false
    | _ => false
  | .enum a => match tg with
    | .Tuple _ _ _ => match e with
      | .Call (.Name x _) [y] [] _ => decide (x = enumN) && decide (enumN ∈ T.blt) && c.gl enumN && !isStar y && f y a
      | _ => false
    | _ => false
  | .zip a b => match tg with
    | .Tuple _ _ _ => match e with
      | .Call (.Name x _) [y, z] [] _ => decide (x = zipN) && decide (zipN ∈ T.blt) && c.gl zipN && !isStar y && !isStar z && f y a && f z b
      | _ => false
    | _ => false
  | ce => !isSet e && f e ce
/-- (x,) of and, or -/
def sing : Expr → Option Expr
  | .BoolOp _ [x] _ => some x
  | _ => none
def chkE (T : Tab) : Nat → Ctx → Expr → E → Bool
  | 0, _, _, _ => false
  | n + 1, c, e, ce => match sing e with
    | some x => chkE T n c x ce
    | none => match ce with
      | .int i => match e with
        | .Constant (.int j) _ _ => decide (i = j)
        | _ => false
      | .bl i => match e with
        | .Constant (.bool j) _ _ => decide (i = j)
        | _ => false
      | .non => match e with
        | .Constant .none _ _ => true
        | _ => false
      | .str i => match e with
        | .Constant (.str j) _ _ => decide (i = j)
        | _ => false
      | .var i => match e with
        | .Name x _ => c.vis x i
        | _ => false
      | .glob k => match e with
        | .Name x _ => decide (T.cns[k]? = some x) && c.gl x
        | _ => false
      | .bin op a b => match e with
        | .BinOp x op' y _ => decide (op = op') && chkE T n c x a && chkE T n c y b
        | _ => false
      | .neg a => match e with
        | .UnaryOp .USub x _ => chkE T n c x a
        | _ => false
      | .not a => match e with
        | .UnaryOp .Not x _ => chkE T n c x a
        | _ => false
      | .cmp op a b => match e with
        | .Compare x [op'] [y] _ => decide (op = op') && !isSet y && chkE T n c x a && chkE T n c y b
        | _ => false
      | .cmp2 op op2 a b d => match e with
        | .Compare x [op', op2'] [y, z] _ => decide (op = op') && decide (op2 = op2') && !isSet z && chkE T n c x a && chkE T n c y b && chkE T n c z d
        | _ => false
      | .and a b => match e with
        | .BoolOp .And (x :: y :: r) p => chkE T n c x a && chkE T n c (.BoolOp .And (y :: r) p) b
        | _ => false
      | .or a b => match e with
        | .BoolOp .Or (x :: y :: r) p => chkE T n c x a && chkE T n c (.BoolOp .Or (y :: r) p) b
        | _ => false
      | .ite a b d => match e with
        | .IfExp x y z _ => chkE T n c x a && chkE T n c y b && chkE T n c z d
        | _ => false
      | .tup cs => match e with
        | .Tuple es _ _ => !es.any isStar && all2 (chkE T n c) es cs
        | _ => false
      | .lst cs => match e with
        | .List es _ => !es.any isStar && all2 (chkE T n c) es cs
        | _ => false
      | .mkl cs => match e with
        | .List es _ => !es.any isStar && all2 (chkE T n c) es cs
        | _ => false
      | .sub a b => match e with
        | .Subscript x y _ => !isSlc y && chkE T n c x a && chkE T n c y b
        | _ => false
      | .slc a lo hi => match e with
        | .Subscript x (.Slice l h none _) _ => chkE T n c x a && chkO (chkE T n c) l lo && chkO (chkE T n c) h hi
        | _ => false
      | .call f cs => match e with
        | .Call (.Name x _) es [] _ => (match T.fns[f]? with | some y => decide (x = y.1) | none => false) && c.gl x && !es.any isStar && all2 (chkE T n c) es cs
        | _ => false
      | .bi f cs => match e with
        | .Call (.Name x _) (y :: es) [] _ => f.ok && (match f with | .gcd => decide (x = T.gcd) && !decide (x = "") | _ => decide (x = f.nm) && decide (x ∈ T.blt)) && c.gl x && !(y :: es).any isStar && all2 (chkE T n c) (y :: es) cs
        | _ => false
      | .maxd a d => match e with
        | .Call (.Name x _) [y] [⟨some nm, z, _⟩] _ => decide (x = maxN) && decide (nm = dfN) && decide (maxN ∈ T.blt) && c.gl maxN && !isStar y && chkE T n c y a && chkE T n c z d
        | _ => false
      | .mind a d => match e with
        | .Call (.Name x _) [y] [⟨some nm, z, _⟩] _ => decide (x = minN) && decide (nm = dfN) && decide (minN ∈ T.blt) && c.gl minN && !isStar y && chkE T n c y a && chkE T n c z d
        | _ => false
      | .isi t a => match e with
        | .Call (.Name x _) [y, .Name z _] [] _ => decide (x = isiN) && decide (z = t.nm) && decide (isiN ∈ T.blt) && c.gl isiN && decide (t.nm ∈ T.blt) && c.gl t.nm && !isStar y && chkE T n c y a
        | _ => false
      | .me m o cs => match e with
        | .Call (.Attribute x nm ap) (y :: es) [] p => m.ok && decide (nm = m.nm) && !(y :: es).any isStar && decide ((y :: es).length < 29) && !isCall0 x && (ap.endLine == p.line) && chkE T n c x o && all2 (chkE T n c) (y :: es) cs
        | _ => false
      | .app o d => match e with
        | .Call (.Attribute x nm ap) [y] [] p => decide (nm = appN) && !isStar y && !isCall0 x && (ap.endLine == p.line) && chkE T n c x o && chkE T n c y d
        | _ => false
      | .ext o d => match e with
        | .Call (.Attribute x nm ap) [y] [] p => decide (nm = extN) && !isStar y && !isCall0 x && (ap.endLine == p.line) && chkE T n c x o && chkE T n c y d
        | _ => false
      | .mkc a => match e with
        | .Call (.Name x _) [y] [] _ => decide (x = listN) && decide (listN ∈ T.blt) && c.gl listN && !isStar y && chkE T n c y a
        | _ => false
      | .lset a => match e with
        | .Call (.Name x _) [.Call (.Name z _) [y] [] _] [] _ => decide (x = lenN) && decide (lenN ∈ T.blt) && c.gl lenN && decide (z = setN) && decide (setN ∈ T.blt) && c.gl setN && !isStar y && chkE T n c y a
        | _ => false
      | .lzip a b => match e with
        | .Call (.Name x _) [.Call (.Name u _) [y, z] [] _] [] _ => decide (x = listN) && decide (listN ∈ T.blt) && c.gl listN && decide (u = zipN) && decide (zipN ∈ T.blt) && c.gl zipN && !isStar y && !isStar z && chkE T n c y a && chkE T n c z b
        | _ => false
      | .rev a => match e with
        | .Subscript x (.Slice none none (some (.UnaryOp .USub (.Constant (.int 1) _ _) _)) _) _ => chkE T n c x a
        | _ => false
      | .dsub a b => match e with
        | .Subscript x y _ => !isSlc y && chkE T n c x a && chkE T n c y b
        | _ => false
      | .dhas neg a b => match e with
        | .Compare x [op] [y] _ => decide (op = match neg with | true => .NotIn | false => .In) && !isSet y && chkE T n c x a && chkE T n c y b
        | _ => false
      | .dget o k z => match e with
        | .Call (.Attribute x nm ap) [y, w] [] p => decide (nm = getN) && !isStar y && !isStar w && !isCall0 x && (ap.endLine == p.line) && chkE T n c x o && chkE T n c y k && chkE T n c w z
        | _ => false
      | .ddic a => match e with
        | .Call (.Name x _) [y] [] _ => decide (x = dictN) && decide (dictN ∈ T.blt) && c.gl dictN && !isStar y && chkE T n c y a
        | _ => false
      | .dcomp own p it cs k v => match e with
        | .DictComp kx vx [⟨tg, iter, ifs, 0⟩] scope _ => blkC c.N c.sc scope own && decide (∀ i ∈ p.slots, i ∈ own.map (·.2)) && !isSet iter && chkI T (chkE T n c) c tg iter it && chkP (c.inner scope) p tg &&
            (match ifs, cs with
              | [], [] => true
              | [x], [a] => chkE T n (c.inner scope) x a
              | _, _ => false) && chkE T n (c.inner scope) kx k && chkE T n (c.inner scope) vx v
        | _ => false
      | .comp _ own p it cs d => match e with
        | .ListComp elt [⟨tg, iter, ifs, 0⟩] scope _ => blkC c.N c.sc scope own && decide (∀ i ∈ p.slots, i ∈ own.map (·.2)) && !isSet iter && chkI T (chkE T n c) c tg iter it && chkP (c.inner scope) p tg &&
            (match ifs, cs with
              | [], [] => true
              | [x], [a] => chkE T n (c.inner scope) x a
              | _, _ => false) && chkE T n (c.inner scope) elt d
        | _ => false
      | _ => false

/-! ### it is sound -/
section
variable {X : Cx} {c : Ctx} {T : Tab} {Φ : Fns} {k : Nat}
theorem CtxOk.inner (C : CtxOk c X) (s : Shared) (H : Hp) (Q : Addr) (cl : List (Str × Addr)) (fp : List Addr) (scope : Scope) : CtxOk (c.inner scope) (X.blk s H scope (compEnvC scope cl Q X.env) fp) where
  N := C.N
  nd := C.nd
  calm := C.calm
  sc := by
    show relS scope X.env.scope = relS scope c.sc
    rw [C.sc]
  loc := fun x h => lookup_relS_keep (by decide) h
  cell := fun x h => by
    refine ⟨.inr (lookup_relS_keep (by decide) h), ?_⟩
    show (scope.names.lookup x == some .cell) = true
    rw [show scope.names.lookup x = some .cell from h]
    rfl
theorem all2_pa {f : Expr → E → Bool} (hf : ∀ e ce, f e ce = true → PE X e (tE X.K Φ ce)) : ∀ {es : List Expr} {cs : List E}, all2 f es cs = true → es.any isStar = false → PA X es (tEs X.K Φ cs)
  | [], [], _, _ => a_nil
  | [], _ :: _, h, _ => by cases h
  | _ :: _, [], h, _ => by cases h
  | e :: es, ce :: cs, h, hs => by
    rw [List.any_cons, Bool.or_eq_false_iff] at hs
    unfold all2 at h
    rw [Bool.and_eq_true] at h
    exact a_cons (hf _ _ h.1) (all2_pa hf h.2 hs.2) hs.1
theorem set_of {e : Expr} (h : (!isSet e) = true) : isSet e = false := by simpa using h
theorem star_of {e : Expr} (h : (!isStar e) = true) : isStar e = false := by simpa using h
mutual
theorem chkP_ok (C : CtxOk c X) : ∀ (p : Pat) (e : Expr), chkP c p e = true → PG X e (tP X.K p)
  | .v i, e, h => by
    unfold chkP at h
    split at h
    · rename_i b; cases b; exact g_name C h
    · rename_i b; cases b
    · cases h
  | .t ps, e, h => by
    unfold chkP at h
    split at h
    · rename_i b; cases b
    · rename_i b
      cases b
      rw [Bool.and_eq_true, Bool.and_eq_true] at h
      exact g_tup C (chkPs_ok C ps _ h.2) (by simpa using h.1.1) (of_decide_eq_true h.1.2)
    · cases h
theorem chkPs_ok (C : CtxOk c X) : ∀ (ps : List Pat) (es : List Expr), chkPs c ps es = true → PGs X es (tPs X.K ps)
  | [], [], _ => gs_nil
  | [], _ :: _, h => by cases h
  | _ :: _, [], h => by cases h
  | p :: ps, e :: es, h => by
    unfold chkPs at h
    rw [Bool.and_eq_true, Bool.and_eq_true] at h
    exact gs_cons (chkP_ok C p e h.1.2) (chkPs_ok C ps es h.2) (star_of h.1.1)
end
theorem chkO_ok {f : Expr → E → Bool} (hf : ∀ e ce, f e ce = true → PE X e (tE X.K Φ ce)) : ∀ {o : Option Expr} {co : Option E}, chkO f o co = true → PO X o (tO X.K Φ co)
  | none, none, _ => o_none
  | none, some _, h => by cases h
  | some _, none, h => by cases h
  | some e, some ce, h => o_some (hf e ce h)
theorem chkI_ok (G : GX T Φ k X) (C : CtxOk c X) {f : Expr → E → Bool} (hf : ∀ e ce, f e ce = true → PE X e (tE X.K Φ ce)) {tg e : Expr} {ce : E} (h : chkI T f c tg e ce = true) : PI X tg e (tI X.K Φ ce) := by
  unfold chkI at h
  split at h
  · split at h
    · simp only [Bool.and_eq_true, decide_eq_true_eq] at h
      obtain ⟨⟨⟨⟨rfl, h2⟩, h3⟩, h4⟩, h5⟩ := h
      exact i_range1 G C h2 h3 (a_cons (hf _ _ h5) a_nil (star_of h4)) (star_of h4)
    · cases h
  · split at h
    · simp only [Bool.and_eq_true, decide_eq_true_eq] at h
      obtain ⟨⟨⟨⟨⟨⟨rfl, h2⟩, h3⟩, h4⟩, h5⟩, h6⟩, h7⟩ := h
      exact i_range2 G C h2 h3 (a_cons (hf _ _ h6) (a_cons (hf _ _ h7) a_nil (star_of h5)) (star_of h4)) (star_of h4) (star_of h5)
    · cases h
  · split at h
    · split at h
      · simp only [Bool.and_eq_true, decide_eq_true_eq] at h
        obtain ⟨⟨⟨⟨⟨⟨⟨⟨⟨rfl, h1⟩, h2⟩, rfl⟩, h3⟩, h4⟩, h5⟩, h6⟩, h7⟩, h8⟩ := h
        exact i_ez G C h3 h4 h1 h2 (a_cons (hf _ _ h7) (a_cons (hf _ _ h8) a_nil (star_of h6)) (star_of h5)) (star_of h5) (star_of h6)
      · cases h
    · cases h
  · split at h
    · split at h
      · simp only [Bool.and_eq_true, decide_eq_true_eq] at h
        obtain ⟨⟨⟨⟨rfl, h2⟩, h3⟩, h4⟩, h5⟩ := h
        exact i_enum G C h2 h3 (a_cons (hf _ _ h5) a_nil (star_of h4)) (star_of h4)
      · cases h
    · cases h
  · split at h
    · split at h
      · simp only [Bool.and_eq_true, decide_eq_true_eq] at h
        obtain ⟨⟨⟨⟨⟨⟨rfl, h2⟩, h3⟩, h4⟩, h5⟩, h6⟩, h7⟩ := h
        exact i_zip G C h2 h3 (a_cons (hf _ _ h6) (a_cons (hf _ _ h7) a_nil (star_of h5)) (star_of h4)) (star_of h4) (star_of h5)
      · cases h
    · cases h
  · rw [Bool.and_eq_true] at h
    exact i_seq (hf _ _ h.2)
theorem t_ite {ec ea eb : Expr} {cc ca cb : E} {pos : Pos} (hc : PT X ec (tT X.K Φ cc)) (ha : PT X ea (tT X.K Φ ca)) (hb : PT X eb (tT X.K Φ cb)) : PT X (.IfExp ec ea eb pos) (tT X.K Φ (.ite cc ca cb)) := by
  refine ⟨fun pins s σ H Q I q => PyProof.Rows.isTrue_IfExp ?_⟩
  obtain ⟨g, fr, S, hf, hh, h⟩ := q
  unfold evT at h
  obtain ⟨z, S9, e9, h⟩ := RPost.bind h
  have e9' : ((evE Φ cc fr S).bind fun x S1 => match truth S1 x with | some true => evE Φ ca fr S1 | some false => evE Φ cb fr S1 | none => .no) = .ok z S9 := e9
  obtain ⟨x, S1, e1, h2⟩ := RPost.bind (P := fun d S' => d = z ∧ S' = S9) (r := evE Φ cc fr S) (f := fun x S1 => match truth S1 x with | some true => evE Φ ca fr S1 | some false => evE Φ cb fr S1 | none => .no) (by rw [e9']; exact ⟨rfl, rfl⟩)
  cases ht : truth S1 x with
  | none => rw [ht] at h2; exact h2.elim
  | some t =>
    rw [ht] at h2
    refine thn (hc.run pins s σ H (fun b H1 => b = t ∧ ∃ g1, Le g g1 ∧ HpOk X.K g1 S1 H1) I (tT_in hf hh (evT_of e1 ht) fun H1 g1 l1 hh1 => ⟨rfl, g1, l1, hh1⟩)) fun b s1 ⟨H1, I1, q1⟩ => ?_
    obtain ⟨rfl, g1, l1, hh1⟩ := q1
    have hfin : ∀ {cx : E}, evE Φ cx fr S1 = .ok z S9 → tT X.K Φ cx σ H1 Q := fun {cx} e => by
      refine ⟨g1, fr, S1, hf.mono l1, hh1, ?_⟩
      unfold evT
      rw [e]
      show RPost _ (Res.of (truth S9 z) S9)
      exact RPost.imp h fun b S' _ q H' g' l' => q H' g' (l1.trans l')
    cases b with
    | true =>
      have e : evE Φ ca fr S1 = .ok z S9 := by
        have h2 : RPost (fun d S' => d = z ∧ S' = S9) (evE Φ ca fr S1) := h2
        cases q : evE Φ ca fr S1 with
        | ok => rw [q] at h2; obtain ⟨rfl, rfl⟩ := h2; rfl
        | ex => rw [q] at h2; exact h2.elim
        | no => rw [q] at h2; exact h2.elim
      exact ha.run pins s1 σ H1 Q I1 (hfin e)
    | false =>
      have e : evE Φ cb fr S1 = .ok z S9 := by
        have h2 : RPost (fun d S' => d = z ∧ S' = S9) (evE Φ cb fr S1) := h2
        cases q : evE Φ cb fr S1 with
        | ok => rw [q] at h2; obtain ⟨rfl, rfl⟩ := h2; rfl
        | ex => rw [q] at h2; exact h2.elim
        | no => rw [q] at h2; exact h2.elim
      exact hb.run pins s1 σ H1 Q I1 (hfin e)
def isBo : Expr → Bool
  | .BoolOp _ _ _ => true
  | _ => false
/-- a value's reading, a test's, and a test's behind and, or -/
structure Snd (Φ : Fns) (X : Cx) (e : Expr) (ce : E) : Prop where
  v : PE X e (tE X.K Φ ce)
  t : PT X e (tT X.K Φ ce)
  w : isBo e = true → PW X e (tT X.K Φ ce)
theorem Snd.plain {e : Expr} {ce : E} (h : PE X e (tE X.K Φ ce)) (hp : isPlainT e = true) : Snd Φ X e ce := ⟨h, t_plain h hp, fun hb => by cases e <;> first | (cases hb; done) | (cases hp; done)⟩
theorem Snd.bo {e : Expr} {ce : E} (h : PE X e (tE X.K Φ ce)) (hp : PW X e (tT X.K Φ ce)) : Snd Φ X e ce := ⟨h, hp.pt, fun _ => hp⟩
theorem Snd.tst {e : Expr} {ce : E} (h : PE X e (tE X.K Φ ce)) (hp : PT X e (tT X.K Φ ce)) (hb : isBo e = false) : Snd Φ X e ce := ⟨h, hp, fun z => by rw [hb] at z; cases z⟩
theorem sing_eq {e x : Expr} (h : sing e = some x) : ∃ op p, e = .BoolOp op [x] p := by
  unfold sing at h
  split at h
  · cases h; exact ⟨_, _, rfl⟩
  · cases h
theorem chkE_ok : ∀ (n : Nat) (X : Cx) (c : Ctx), GX T Φ k X → CtxOk c X → ∀ (e : Expr) (ce : E), chkE T n c e ce = true → Snd Φ X e ce := by
  intro n
  induction n with
  | zero => intro X c G C e ce h; cases h
  | succ n ih =>
    intro X c G C e ce h
    have ihX := ih X c G C
    have iv : ∀ e ce, chkE T n c e ce = true → PE X e (tE X.K Φ ce) := fun e ce h => (ihX e ce h).v
    unfold chkE at h
    split at h
    · rename_i x hx
      obtain ⟨op, p, rfl⟩ := sing_eq hx
      have q := ihX x ce h
      refine .bo (pe_one q.v) ?_
      cases op with
      | And => exact pw_and1 q.t
      | Or => exact pw_or1 q.t
    · split at h
      case h_1 i => -- int
        split at h
        · have h := of_decide_eq_true h; subst h; exact .plain e_int rfl
        · cases h
      case h_2 i => -- bl
        split at h
        · have h := of_decide_eq_true h; subst h; exact .plain e_bl rfl
        · cases h
      case h_3 => -- non
        split at h
        · exact .plain e_non rfl
        · cases h
      case h_4 i => -- str
        split at h
        · have h := of_decide_eq_true h; subst h; exact .plain e_str rfl
        · cases h
      case h_5 i => -- var
        split at h
        · exact .plain (e_var (C.pe_var h)) rfl
        · cases h
      case h_6 kk => -- glob
        split at h
        · rw [Bool.and_eq_true] at h
          exact .plain (e_glob G C (of_decide_eq_true h.1) h.2) rfl
        · cases h
      case h_7 op a b => -- bin
        split at h
        · simp only [Bool.and_eq_true, decide_eq_true_eq] at h
          obtain ⟨⟨rfl, h1⟩, h2⟩ := h
          exact .plain (e_bin (iv _ _ h1) (iv _ _ h2)) rfl
        · cases h
      case h_8 a => -- neg
        split at h
        · exact .plain (e_neg (iv _ _ h)) rfl
        · cases h
      case h_9 a => -- not
        split at h
        · exact .tst (e_not (ihX _ _ h).v) (t_not (ihX _ _ h).t) rfl
        · cases h
      case h_10 op a b => -- cmp
        split at h
        · simp only [Bool.and_eq_true, decide_eq_true_eq] at h
          obtain ⟨⟨⟨rfl, h0⟩, h1⟩, h2⟩ := h
          have h0 := set_of h0
          exact .tst (e_cmp G.hu (iv _ _ h1) (iv _ _ h2) h0) (t_cmp G.hu (iv _ _ h1) (iv _ _ h2) h0) rfl
        · cases h
      case h_11 op op2 a b d => -- cmp2
        split at h
        · simp only [Bool.and_eq_true, decide_eq_true_eq] at h
          obtain ⟨⟨⟨⟨⟨rfl, rfl⟩, h0⟩, h1⟩, h2⟩, h3⟩ := h
          have h0 := set_of h0
          exact .tst (e_cmp2 G.hu (iv _ _ h1) (iv _ _ h2) (iv _ _ h3) h0) (t_cmp2 G.hu (iv _ _ h1) (iv _ _ h2) (iv _ _ h3) h0) rfl
        · cases h
      case h_12 a b => -- and
        split at h
        · rw [Bool.and_eq_true] at h
          exact .bo (e_and (iv _ _ h.1) (iv _ _ h.2)) (w_and (ihX _ _ h.1).t ((ihX _ _ h.2).w rfl))
        · cases h
      case h_13 a b => -- or
        split at h
        · rw [Bool.and_eq_true] at h
          exact .bo (e_or (iv _ _ h.1) (iv _ _ h.2)) (w_or (ihX _ _ h.1).t ((ihX _ _ h.2).w rfl))
        · cases h
      case h_14 a b d => -- ite
        split at h
        · simp only [Bool.and_eq_true] at h
          obtain ⟨⟨h1, h2⟩, h3⟩ := h
          exact .tst (e_ite (ihX _ _ h1).t (iv _ _ h2) (iv _ _ h3)) (t_ite (ihX _ _ h1).t (ihX _ _ h2).t (ihX _ _ h3).t) rfl
        · cases h
      case h_15 cs => -- tup
        split at h
        · rw [Bool.and_eq_true] at h
          exact .plain (e_tup (all2_pa iv h.2 (by simpa using h.1))) rfl
        · cases h
      case h_16 cs => -- lst
        split at h
        · rw [Bool.and_eq_true] at h
          exact .plain (e_lst (all2_pa iv h.2 (by simpa using h.1))) rfl
        · cases h
      case h_17 cs => -- mkl
        split at h
        · rw [Bool.and_eq_true] at h
          exact .plain (e_mkl (all2_pa iv h.2 (by simpa using h.1))) rfl
        · cases h
      case h_18 a b => -- sub
        split at h
        · simp only [Bool.and_eq_true] at h
          exact .plain (e_sub (iv _ _ h.1.2) (iv _ _ h.2) (by simpa using h.1.1)) rfl
        · cases h
      case h_19 a lo hi => -- slc
        split at h
        · simp only [Bool.and_eq_true] at h
          exact .plain (e_slc (iv _ _ h.1.1) (chkO_ok iv h.1.2) (chkO_ok iv h.2)) rfl
        · cases h
      case h_20 f cs => -- call
        split at h
        · rename_i x p es pos _
          simp only [Bool.and_eq_true] at h
          obtain ⟨⟨⟨h1, h2⟩, h3⟩, h4⟩ := h
          split at h1
          · rename_i y hy
            have h1 := of_decide_eq_true h1
            subst h1
            have h3 : es.any isStar = false := by simpa using h3
            obtain ⟨y1, y2⟩ := y
            cases es with
            | nil =>
              cases cs with
              | nil => exact .plain (e_call0 G C hy h2) rfl
              | cons => cases h4
            | cons e0 es => exact .plain (e_call G C hy h2 (all2_pa iv h4 h3) h3) rfl
          · cases h1
        · cases h
      case h_21 f cs => -- bi
        split at h
        · rename_i x p y es pos _
          simp only [Bool.and_eq_true] at h
          obtain ⟨⟨⟨⟨h1, h2⟩, h3⟩, h4⟩, h5⟩ := h
          have h4 : (y :: es).any isStar = false := by simpa using h4
          refine .plain (e_bi G C h1 ?_ h3 (all2_pa iv h5 h4) h4) rfl
          cases f
          case gcd => 
            simp only [Bool.and_eq_true, decide_eq_true_eq] at h2
            exact .inr ⟨rfl, h2.1, by simpa using h2.2⟩
          all_goals
            simp only [Bool.and_eq_true, decide_eq_true_eq] at h2
            exact .inl ⟨h2.1, (fun z => by cases z), h2.2⟩
        · cases h
      case h_22 a d => -- maxd
        split at h
        · simp only [Bool.and_eq_true, decide_eq_true_eq] at h
          obtain ⟨⟨⟨⟨⟨⟨rfl, rfl⟩, h1⟩, h2⟩, h3⟩, h4⟩, h5⟩ := h
          exact .plain (e_md (mx := true) rfl G C rfl h1 h2 (iv _ _ h4) (iv _ _ h5) (star_of h3)) rfl
        · cases h
      case h_23 a d => -- mind
        split at h
        · simp only [Bool.and_eq_true, decide_eq_true_eq] at h
          obtain ⟨⟨⟨⟨⟨⟨rfl, rfl⟩, h1⟩, h2⟩, h3⟩, h4⟩, h5⟩ := h
          exact .plain (e_md (mx := false) rfl G C rfl h1 h2 (iv _ _ h4) (iv _ _ h5) (star_of h3)) rfl
        · cases h
      case h_24 t a => -- isi
        split at h
        · simp only [Bool.and_eq_true, decide_eq_true_eq] at h
          obtain ⟨⟨⟨⟨⟨⟨⟨rfl, rfl⟩, h1⟩, h2⟩, h3⟩, h4⟩, h5⟩, h6⟩ := h
          exact .plain (e_isi G C h1 h2 h3 h4 (iv _ _ h6) (star_of h5)) rfl
        · cases h
      case h_25 m o cs => -- me
        split at h
        · rename_i x nm ap y es p _
          simp only [Bool.and_eq_true, decide_eq_true_eq] at h
          obtain ⟨⟨⟨⟨⟨⟨⟨h1, rfl⟩, h3⟩, h4⟩, h5⟩, h6⟩, h7⟩, h8⟩ := h
          have h3 : (y :: es).any isStar = false := by simpa using h3
          exact .plain (e_me G h1 (iv _ _ h7) (all2_pa iv h8 h3) h3 h4 (by simpa using h5) h6) rfl
        · cases h
      case h_26 o d => -- app
        split at h
        · simp only [Bool.and_eq_true, decide_eq_true_eq] at h
          obtain ⟨⟨⟨⟨⟨rfl, h1⟩, h2⟩, h3⟩, h4⟩, h5⟩ := h
          exact .plain (e_app (iv _ _ h4) (iv _ _ h5) (star_of h1) (by simpa using h2) h3) rfl
        · cases h
      case h_27 o d => -- ext
        split at h
        · simp only [Bool.and_eq_true, decide_eq_true_eq] at h
          obtain ⟨⟨⟨⟨⟨rfl, h1⟩, h2⟩, h3⟩, h4⟩, h5⟩ := h
          exact .plain (e_ext (iv _ _ h4) (iv _ _ h5) (star_of h1) (by simpa using h2) h3) rfl
        · cases h
      case h_28 a => -- mkc
        split at h
        · simp only [Bool.and_eq_true, decide_eq_true_eq] at h
          obtain ⟨⟨⟨⟨rfl, h2⟩, h3⟩, h4⟩, h5⟩ := h
          exact .plain (e_mkc G C h2 h3 (iv _ _ h5) (star_of h4)) rfl
        · cases h
      case h_29 a => -- lset
        split at h
        · simp only [Bool.and_eq_true, decide_eq_true_eq] at h
          obtain ⟨⟨⟨⟨⟨⟨⟨rfl, h1⟩, h2⟩, rfl⟩, h3⟩, h4⟩, h5⟩, h6⟩ := h
          exact .plain (e_lset G C h1 h2 h3 h4 (iv _ _ h6) (star_of h5)) rfl
        · cases h
      case h_30 a b => -- lzip
        split at h
        · simp only [Bool.and_eq_true, decide_eq_true_eq] at h
          obtain ⟨⟨⟨⟨⟨⟨⟨⟨⟨rfl, h1⟩, h2⟩, rfl⟩, h3⟩, h4⟩, h5⟩, h6⟩, h7⟩, h8⟩ := h
          exact .plain (e_lzip G C h3 h4 h1 h2 (a_cons (iv _ _ h7) (a_cons (iv _ _ h8) a_nil (star_of h6)) (star_of h5)) (star_of h5) (star_of h6)) rfl
        · cases h
      case h_31 a => -- rev
        split at h
        · exact .plain (e_rev (iv _ _ h)) rfl
        · cases h
      case h_32 a b => -- dsub
        split at h
        · rw [Bool.and_eq_true, Bool.and_eq_true] at h
          exact .plain (e_dsub G (iv _ _ h.1.2) (iv _ _ h.2) (by simpa using h.1.1)) rfl
        · cases h
      case h_33 neg a b => -- dhas
        split at h
        · simp only [Bool.and_eq_true, decide_eq_true_eq] at h
          obtain ⟨⟨⟨h1, h2⟩, h3⟩, h4⟩ := h
          exact .tst (e_dhas G h1 (iv _ _ h3) (iv _ _ h4) (set_of h2)) (t_dhas G h1 (iv _ _ h3) (iv _ _ h4) (set_of h2)) rfl
        · cases h
      case h_34 o kk z => -- dget
        split at h
        · simp only [Bool.and_eq_true, decide_eq_true_eq] at h
          obtain ⟨⟨⟨⟨⟨⟨⟨rfl, h1⟩, h2⟩, h3⟩, h4⟩, h5⟩, h6⟩, h7⟩ := h
          exact .plain (e_dget G (iv _ _ h5) (iv _ _ h6) (iv _ _ h7) (star_of h1) (star_of h2) (by simpa using h3) h4) rfl
        · cases h
      case h_35 a => -- ddic
        split at h
        · simp only [Bool.and_eq_true, decide_eq_true_eq] at h
          obtain ⟨⟨⟨⟨rfl, h2⟩, h3⟩, h4⟩, h5⟩ := h
          exact .plain (e_ddic G C h2 h3 (iv _ _ h5) (star_of h4)) rfl
        · cases h
      case h_36 own p it cs dk dv => -- dcomp
        split at h
        · rename_i kx vx tg iter ifs scope pos _
          simp only [Bool.and_eq_true] at h
          obtain ⟨⟨⟨⟨⟨⟨⟨h1, h2⟩, h3⟩, h4⟩, h5⟩, h6⟩, h7⟩, h8⟩ := h
          refine .plain (e_dcomp C (chkI_ok G C iv h4) (by rw [C.N, C.sc]; exact blkOk_by h1) (fun s H Q cl fp => chkP_ok (C.inner s H Q cl fp scope) p tg h5) (fun s H Q cl fp => ?_) (fun s H Q cl fp => (ih (X.blk s H scope (compEnvC scope cl Q X.env) fp) (c.inner scope) G (C.inner s H Q cl fp scope) kx dk h7).v) (fun s H Q cl fp => (ih (X.blk s H scope (compEnvC scope cl Q X.env) fp) (c.inner scope) G (C.inner s H Q cl fp scope) vx dv h8).v) (of_decide_eq_true h2) (by simpa using h3)) rfl
          split at h6
          · exact ts_nil
          · exact ts_one (ih (X.blk s H scope (compEnvC scope cl Q X.env) fp) (c.inner scope) G (C.inner s H Q cl fp scope) _ _ h6).t
          · cases h6
        · cases h
      case h_37 fz own p it cs d => -- comp
        split at h
        · rename_i elt tg iter ifs scope pos _
          simp only [Bool.and_eq_true] at h
          obtain ⟨⟨⟨⟨⟨⟨h1, h2⟩, h3⟩, h4⟩, h5⟩, h6⟩, h7⟩ := h
          refine .plain (e_comp C (chkI_ok G C iv h4) (by rw [C.N, C.sc]; exact blkOk_by h1) (fun s H Q cl fp => chkP_ok (C.inner s H Q cl fp scope) p tg h5) (fun s H Q cl fp => ?_) (fun s H Q cl fp => (ih (X.blk s H scope (compEnvC scope cl Q X.env) fp) (c.inner scope) G (C.inner s H Q cl fp scope) elt d h7).v) (of_decide_eq_true h2) (by simpa using h3)) rfl
          split at h6
          · exact ts_nil
          · exact ts_one (ih (X.blk s H scope (compEnvC scope cl Q X.env) fp) (c.inner scope) G (C.inner s H Q cl fp scope) _ _ h6).t
          · cases h6
        · cases h
      case h_38 => cases h
end
end Dm

/-! DmJ: the checker of statements and of defs, and that it is sound. -/
namespace Dm
open PySem L2

theorem not_of {b : Bool} (h : (!b) = true) : b = false := by simpa using h
/-! ### how a statement stores -/
def blkK (sc : Scope) : ScopeKind := if sc.kind.isAnnotationScope then .function else sc.kind
def swB (sc : Scope) (tg v : Expr) : Bool := match v, tg with
  | .ListComp _ _ s p, .Name t q => blkK sc == .function && sc.names.lookup t == some .local && q.line == p.line && !(s.names.any fun (n, k) => n == t && (k == .local || k == .cell))
  | .SetComp _ _ s p, .Name t q => blkK sc == .function && sc.names.lookup t == some .local && q.line == p.line && !(s.names.any fun (n, k) => n == t && (k == .local || k == .cell))
  | .DictComp _ _ _ s p, .Name t q => blkK sc == .function && sc.names.lookup t == some .local && q.line == p.line && !(s.names.any fun (n, k) => n == t && (k == .local || k == .cell))
  | _, _ => false
theorem sw_eq (tg v : Expr) (l : Nat) (env : Env) : swapsWithSole [tg] v l env = pure (swB env.scope tg v) := by
  show swapsWith v (some tg) l env = _
  cases v <;> first | rfl | (cases tg <;> rfl)
def noSw (tg v : Expr) : Bool := match tg, v with
  | .Tuple _ _ _, .Tuple _ _ _ => false
  | .List _ _, .Tuple _ _ _ => false
  | _, _ => true
theorem noSw_ok {tg v : Expr} {env : Env} (h : noSw tg v = true) : swappedStores [tg] v env = pure none := by
  cases tg <;> first | rfl | (cases v <;> first | rfl | cases h)
/-- a name that is stored last to first -/
def nmOf (sc : Scope) (l : Nat) : Expr → Option Str
  | .Name y q => if (sc.names.lookup y == some .local && q.line == l) = true then some y else none
  | _ => none
/-- a pair of tuples that is stored from the left -/
def ttPlain (sc : Scope) (ts vs : List Expr) : Bool := (!(ts.length == 2 || ts.length == 3) || vs.length != ts.length) || vs.all (foldedForSure 8) || !(ts.all fun e => (nmOf sc ((ts.head?.map (·.pos.line)).getD 0) e).isSome)
theorem names_lt {sc : Scope} {l : Nat} : ∀ {ts : List Expr}, (ts.all fun e => (nmOf sc l e).isSome) = false → (ts.filterMap (nmOf sc l)).length ≠ ts.length := by
  have le : ∀ (ts : List Expr), (ts.filterMap (nmOf sc l)).length ≤ ts.length := fun ts => List.length_filterMap_le _ _
  intro ts
  induction ts with
  | nil => intro h; cases h
  | cons e ts ih =>
    intro h
    rw [List.all_cons, Bool.and_eq_false_iff] at h
    have q2 := le ts
    rw [List.filterMap_cons]
    cases hn : nmOf sc l e with
    | none => simp only [List.length_cons]; omega
    | some y =>
      rcases h with h | h
      · rw [hn] at h; cases h
      · have q := ih h
        simp only [List.length_cons]; omega
theorem tt_plain {ts vs : List Expr} {k k2 : Nat} {p p2 : Pos} {env : Env} (h : ttPlain env.scope ts vs = true) : swappedStores [.Tuple ts k p] (.Tuple vs k2 p2) env = pure none := by
  unfold ttPlain at h
  rw [Bool.or_eq_true, Bool.or_eq_true] at h
  unfold swappedStores
  simp only []
  by_cases c1 : (!(ts.length == 2 || ts.length == 3) || vs.length != ts.length || env.blockKind != .function) = true
  · rw [if_pos c1]
  · rw [if_neg c1]
    split
    · rfl
    · split
      · rfl
      · rename_i n1
        rcases h with (h | h) | h
        · exfalso
          apply c1
          rw [h]; rfl
        · simp only [h]; rfl
        · exfalso
          have h : (ts.all fun e => (nmOf env.scope ((ts.head?.map (·.pos.line)).getD 0) e).isSome) = false := not_of h
          have q := names_lt h
          apply n1
          rw [Bool.or_eq_true]
          exact .inl (bne_iff_ne.mpr q)
theorem fn_kind {sc : Scope} (h : sc.kind = .function) : blkK sc = .function := by unfold blkK; rw [h]; rfl
/-- a, b = .. with names on one line -/
theorem sw2 {x y : Str} {px py pt p2 : Pos} {kt k2 : Nat} {a b : Expr} {env : Env} (hk : env.scope.kind = .function) (hx : env.scope.names.lookup x = some .local) (hy : env.scope.names.lookup y = some .local) (hl : (py.line == px.line) = true) (hxy : x ≠ y)
    (ha : isStar a = false) (hb : isStar b = false) (h1 : (foldedForSure 8 a && foldedForSure 8 b) = false) (h2 : (constantsAlone 8 a && constantsAlone 8 b) = false) :
    swappedStores [.Tuple [.Name x px, .Name y py] kt pt] (.Tuple [a, b] k2 p2) env = pure (some [x, y]) := by
  have kx : (env.scope.names.lookup x == some .local) = true := by rw [hx]; rfl
  have ky : (env.scope.names.lookup y == some .local) = true := by rw [hy]; rfl
  have hbk : (env.blockKind != .function) = false := by rw [show env.blockKind = .function from fn_kind hk]; rfl
  have hs : ([a, b].any fun e => match e with | .Starred _ _ => true | _ => false) = false := by
    show (([a, b] : List Expr).any isStar) = false
    rw [List.any_cons, ha, List.any_cons, hb]; rfl
  have n1 : (([.Name x px, .Name y py] : List Expr).filterMap (nmOf env.scope px.line)) = [x, y] := by
    rw [List.filterMap_cons, List.filterMap_cons, List.filterMap_nil]
    simp only [nmOf, kx, ky, hl, beq_self_eq_true, Bool.and_self, if_true]
  have n2 : ([x, y] : List Str).eraseDups = [x, y] := by
    have e : (y == x) = false := by simpa using Ne.symm hxy
    simp [List.eraseDups_cons, e]
  have f1 : (([a, b] : List Expr).all (foldedForSure 8)) = false := by
    rw [List.all_cons, List.all_cons, List.all_nil, Bool.and_true]; exact h1
  have f2 : (([a, b] : List Expr).all (constantsAlone 8)) = false := by
    rw [List.all_cons, List.all_cons, List.all_nil, Bool.and_true]; exact h2
  unfold swappedStores
  simp only []
  rw [if_neg (by rw [hbk]; exact Bool.false_ne_true)]
  refine Eq.trans (if_neg fun z => Bool.false_ne_true (hs.symm.trans z)) ?_
  refine (show ∀ ns : List Str, ns = [x, y] → (if (ns.length != 2 || ns.eraseDups.length != ns.length) = true then pure none else if [a, b].all (foldedForSure 8) = true then pure none else if [a, b].all (constantsAlone 8) = true then (do unsupported "assign.tuple-of-constant-expressions:order-of-the-stores"; pure (some ns)) else pure (some ns)) = (pure (some [x, y]) : Sem (Option (List Str))) from ?_) _ n1
  rintro _ rfl
  rw [n2]
  refine Eq.trans (if_neg fun z => Bool.false_ne_true z) ?_
  rw [f1, f2]
  rfl
theorem sw3 {x y z : Str} {px py pz pt p2 : Pos} {kt k2 : Nat} {a b d : Expr} {env : Env} (hk : env.scope.kind = .function) (hx : env.scope.names.lookup x = some .local) (hy : env.scope.names.lookup y = some .local) (hz : env.scope.names.lookup z = some .local) (hl : (py.line == px.line) = true) (hl2 : (pz.line == px.line) = true) (hxy : x ≠ y) (hxz : x ≠ z) (hyz : y ≠ z)
    (ha : isStar a = false) (hb : isStar b = false) (hd : isStar d = false) (h1 : (foldedForSure 8 a && (foldedForSure 8 b && foldedForSure 8 d)) = false) (h2 : (constantsAlone 8 a && (constantsAlone 8 b && constantsAlone 8 d)) = false) :
    swappedStores [.Tuple [.Name x px, .Name y py, .Name z pz] kt pt] (.Tuple [a, b, d] k2 p2) env = pure (some [x, y, z]) := by
  have kx : (env.scope.names.lookup x == some .local) = true := by rw [hx]; rfl
  have ky : (env.scope.names.lookup y == some .local) = true := by rw [hy]; rfl
  have kz : (env.scope.names.lookup z == some .local) = true := by rw [hz]; rfl
  have hbk : (env.blockKind != .function) = false := by rw [show env.blockKind = .function from fn_kind hk]; rfl
  have hs : ([a, b, d].any fun e => match e with | .Starred _ _ => true | _ => false) = false := by
    show (([a, b, d] : List Expr).any isStar) = false
    rw [List.any_cons, ha, List.any_cons, hb, List.any_cons, hd]; rfl
  have n1 : (([.Name x px, .Name y py, .Name z pz] : List Expr).filterMap (nmOf env.scope px.line)) = [x, y, z] := by
    rw [List.filterMap_cons, List.filterMap_cons, List.filterMap_cons, List.filterMap_nil]
    simp only [nmOf, kx, ky, kz, hl, hl2, beq_self_eq_true, Bool.and_self, if_true]
  have n2 : ([x, y, z] : List Str).eraseDups = [x, y, z] := by
    have e : (y == x) = false := by simpa using Ne.symm hxy
    have e2 : (z == x) = false := by simpa using Ne.symm hxz
    have e3 : (z == y) = false := by simpa using Ne.symm hyz
    simp [List.eraseDups_cons, e, e2, e3]
  have f1 : (([a, b, d] : List Expr).all (foldedForSure 8)) = false := by
    rw [List.all_cons, List.all_cons, List.all_cons, List.all_nil, Bool.and_true]; exact h1
  have f2 : (([a, b, d] : List Expr).all (constantsAlone 8)) = false := by
    rw [List.all_cons, List.all_cons, List.all_cons, List.all_nil, Bool.and_true]; exact h2
  unfold swappedStores
  simp only []
  rw [if_neg (by rw [hbk]; exact Bool.false_ne_true)]
  refine Eq.trans (if_neg fun z => Bool.false_ne_true (hs.symm.trans z)) ?_
  refine (show ∀ ns : List Str, ns = [x, y, z] → (if (ns.length != 3 || ns.eraseDups.length != ns.length) = true then pure none else if [a, b, d].all (foldedForSure 8) = true then pure none else if [a, b, d].all (constantsAlone 8) = true then (do unsupported "assign.tuple-of-constant-expressions:order-of-the-stores"; pure (some ns)) else pure (some ns)) = (pure (some [x, y, z]) : Sem (Option (List Str))) from ?_) _ n1
  rintro _ rfl
  rw [n2]
  refine Eq.trans (if_neg fun z => Bool.false_ne_true z) ?_
  rw [f1, f2]
  rfl

/-! ### the checker of statements -/
/-- which way a store goes -/
inductive Way where
  | plain | lc | par2 | par3
def wayOf (sc : Scope) (tg v : Expr) : Way :=
  if swB sc tg v then .lc else match tg, v with
    | .Tuple ts _ _, .Tuple vs _ _ => if ttPlain sc ts vs then .plain else if ts.length == 2 then .par2 else .par3
    | _, _ => .plain
def chkA (T : Tab) (n : Nat) (c : Ctx) (tg v : Expr) (p : Pat) (ce : E) : Bool :=
  match wayOf c.sc tg v with
  | .plain => !swB c.sc tg v && (noSw tg v || (match tg, v with | .Tuple ts _ _, .Tuple vs _ _ => ttPlain c.sc ts vs | _, _ => false)) && !isStar tg && chkE T n c v ce && chkP c p tg
  | .lc => match tg, v, p, ce with
    | .Name y py, .ListComp elt [⟨tg2, iter, ifs, 0⟩] scope cpos, .v i, .comp _ own pt it cs d =>
      decide (c.N[i]? = some y) && decide (c.sc.names.lookup y = some .local) && (py.line == cpos.line) && !(scope.names.any fun (n, k) => n == y && (k == .local || k == .cell)) &&
      blkC c.N c.sc scope own && decide (∀ i ∈ pt.slots, i ∈ own.map (·.2)) && !isSet iter && chkI T (chkE T n c) c tg2 iter it && chkP (c.inner scope) pt tg2 &&
          (match ifs, cs with
            | [], [] => true
            | [x], [a] => chkE T n (c.inner scope) x a
            | _, _ => false) && chkE T n (c.inner scope) elt d
    | _, _, _, _ => false
  | .par2 => match tg, v, p, ce with
    | .Tuple [.Name x px, .Name y py] _ _, .Tuple [a, b] _ _, .t [.v i, .v j], .tup [ca, cb] =>
      decide (c.N[i]? = some x) && decide (c.N[j]? = some y) && !decide (i = j) && decide (c.sc.names.lookup x = some .local) && decide (c.sc.names.lookup y = some .local) && (py.line == px.line) && !decide (x = y) &&
      !isStar a && !isStar b && !(foldedForSure 8 a && foldedForSure 8 b) && !(constantsAlone 8 a && constantsAlone 8 b) && chkE T n c a ca && chkE T n c b cb
    | _, _, _, _ => false
  | .par3 => match tg, v, p, ce with
    | .Tuple [.Name x px, .Name y py, .Name z pz] _ _, .Tuple [a, b, d] _ _, .t [.v i, .v j, .v l], .tup [ca, cb, cd] =>
      decide (c.N[i]? = some x) && decide (c.N[j]? = some y) && decide (c.N[l]? = some z) && !decide (i = j) && !decide (i = l) && !decide (j = l) && decide (c.sc.names.lookup x = some .local) && decide (c.sc.names.lookup y = some .local) && decide (c.sc.names.lookup z = some .local) &&
      (py.line == px.line) && (pz.line == px.line) && !decide (x = y) && !decide (x = z) && !decide (y = z) &&
      !isStar a && !isStar b && !isStar d && !(foldedForSure 8 a && (foldedForSure 8 b && foldedForSure 8 d)) && !(constantsAlone 8 a && (constantsAlone 8 b && constantsAlone 8 d)) && chkE T n c a ca && chkE T n c b cb && chkE T n c d cd
    | _, _, _, _ => false
def chkS (T : Tab) (n : Nat) (f : List Stmt → List Dm.S → Bool) (c : Ctx) (st : Stmt) (s : Dm.S) : Bool :=
  match s with
  | .asg p e => match st with
    | .Assign [tg] v _ => chkA T n c tg v p e
    | _ => false
  | .setI o i e => match st with
    | .Assign [.Subscript ob ix _] v _ => !isSlc ix && chkE T n c v e && chkE T n c ob o && chkE T n c ix i
    | _ => false
  | .aug op i e => match st with
    | .AugAssign (.Name x _) .Add v _ => decide (op = .Add) && c.st x i && chkE T n c v e
    | _ => false
  | .expr e => match st with
    | .Expr v _ => !isComp v && chkE T n c v e
    | _ => false
  | .iff d a b => match st with
    | .If t x y _ => chkE T n c t d && f x a && f y b
    | _ => false
  | .whl d a => match st with
    | .While t x [] _ => chkE T n c t d && f x a
    | _ => false
  | .for_ p it a => match st with
    | .For tg iter x [] _ => !isSet iter && chkI T (chkE T n c) c tg iter it && chkP c p tg && f x a
    | _ => false
  | .ret e => match st with
    | .Return (some v) _ => chkE T n c v e
    | .Return none _ => match e with
      | .non => true
      | _ => false
    | _ => false
  | .brk => match st with
    | .Break _ => true
    | _ => false
  | .cnt => match st with
    | .Continue _ => true
    | _ => false
  | .pass => match st with
    | .Pass _ => true
    | _ => false
  | .fz _ => false
  | .zall _ _ _ _ _ _ => false
/-- the two statements of zall -/
def chkZ (T : Tab) (n : Nat) (c : Ctx) (sts : List Stmt) (s : Dm.S) : Bool :=
  match s with
  | .zall i a b own p e => match sts with
    | [.Assign [.Name x _] (.Call (.Name f _) [y, z] [] _) _, .Return (some (.Call (.Name h _) [.ListComp elt [⟨.Tuple els kk tp, .Name x2 _, [], 0⟩] scope _] [] _)) _] =>
      decide (f = zipN) && decide (h = allN) && decide (x2 = x) && decide (zipN ∈ T.blt) && c.gl zipN && decide (allN ∈ T.blt) && c.gl allN && c.st x i && c.vis x i && !isStar y && !isStar z && chkE T n c y a && chkE T n c z b &&
      blkC c.N c.sc scope own && decide (∀ j ∈ p.slots, j ∈ own.map (·.2)) && chkP (c.inner scope) p (.Tuple els kk tp) && chkE T n (c.inner scope) elt e
    | _ => false
  | _ => false
def chkSs (T : Tab) (m : Nat) : Nat → Ctx → List Stmt → List Dm.S → Bool
  | 0, _, _, _ => false
  | n + 1, c, sts, ss => match ss with
    | [] => sts.isEmpty
    | s :: r => match (match s with | .fz i => some i | _ => none) with
      | some _ => chkSs T m n c sts r
      | none => match sts with
        | [] => false
        | st :: q => (chkS T m (chkSs T m n c) c st s && chkSs T m n c q r) || (r.isEmpty && chkZ T m c (st :: q) s)

/-! ### it is sound -/
section
variable {X : Cx} {c : Ctx} {T : Tab} {Φ : Fns} {k : Nat}
theorem one_store {tg : Expr} {env : Env} (h : isStar tg = false) : (assignEach [tg] env).map (·.2) = [assign tg env] := by
  rw [asg_cons h]; rfl
theorem way_lc {sc : Scope} {tg v : Expr} (h : wayOf sc tg v = .lc) : swB sc tg v = true := by
  unfold wayOf at h
  split at h
  · assumption
  · split at h
    · split at h
      · cases h
      · split at h <;> cases h
    · cases h
theorem chkA_ok (G : GX T Φ k X) (C : CtxOk c X) (hk : c.sc.kind = .function) {n : Nat} {tg v : Expr} {p : Pat} {ce : E} {pos : Pos} (h : chkA T n c tg v p ce = true) : PS X (.Assign [tg] v pos) (tS1 X.K Φ (.asg p ce)) := by
  have iv : ∀ e ce, chkE T n c e ce = true → PE X e (tE X.K Φ ce) := fun e ce h => (chkE_ok n X c G C e ce h).v
  have hk' : X.env.scope.kind = .function := by rw [C.sc]; exact hk
  unfold chkA at h
  split at h
  · simp only [Bool.and_eq_true] at h
    obtain ⟨⟨⟨⟨h1, h2⟩, h3⟩, h4⟩, h5⟩ := h
    have hst := not_of h3
    refine s_asg (iv _ _ h4) (chkP_ok C _ _ h5) (by rw [sw_eq, C.sc, not_of h1]) ?_ (one_store hst)
    rw [Bool.or_eq_true] at h2
    rcases h2 with h2 | h2
    · exact noSw_ok h2
    · split at h2
      · exact tt_plain (by rw [C.sc]; exact h2)
      · cases h2
  · split at h
    · simp only [Bool.and_eq_true, decide_eq_true_eq] at h
      obtain ⟨⟨⟨⟨⟨⟨⟨⟨⟨⟨h1, h2⟩, h3⟩, h4⟩, h5⟩, h6⟩, h7⟩, h8⟩, h9⟩, h10⟩, h11⟩ := h
      refine s_asgLc C h1 h2 hk h3 (not_of h4) (chkI_ok G C iv h8) (by rw [C.N, C.sc]; exact blkOk_by h5) (fun s H Q cl fp => chkP_ok (C.inner s H Q cl fp _) _ _ h9) (fun s H Q cl fp => ?_)
        (fun s H Q cl fp => (chkE_ok n (X.blk s H _ (compEnvC _ cl Q X.env) fp) _ G (C.inner s H Q cl fp _) _ _ h11).v) h6 (not_of h7)
      split at h10
      · exact ts_nil
      · exact ts_one (chkE_ok n (X.blk s H _ (compEnvC _ cl Q X.env) fp) _ G (C.inner s H Q cl fp _) _ _ h10).t
      · cases h10
    · cases h
  · split at h
    · simp only [Bool.and_eq_true, decide_eq_true_eq] at h
      obtain ⟨⟨⟨⟨⟨⟨⟨⟨⟨⟨⟨⟨h1, h2⟩, h3⟩, h4⟩, h5⟩, h6⟩, h7⟩, h8⟩, h9⟩, h10⟩, h11⟩, h12⟩, h13⟩ := h
      refine s_par C h1 h2 (of_decide_eq_false (not_of h3)) h4 h5 (a_cons (iv _ _ h12) (a_cons (iv _ _ h13) a_nil (not_of h9)) (not_of h8)) ?_
      exact sw2 hk' (by rw [C.sc]; exact h4) (by rw [C.sc]; exact h5) h6 (of_decide_eq_false (not_of h7)) (not_of h8) (not_of h9) (not_of h10) (not_of h11)
    · cases h
  · split at h
    · simp only [Bool.and_eq_true, decide_eq_true_eq] at h
      obtain ⟨⟨⟨⟨⟨⟨⟨⟨⟨⟨⟨⟨⟨⟨⟨⟨⟨⟨⟨⟨⟨h1, h2⟩, h3⟩, h4⟩, h5⟩, h6⟩, h7⟩, h8⟩, h9⟩, h10⟩, h11⟩, h12⟩, h13⟩, h14⟩, h15⟩, h16⟩, h17⟩, h18⟩, h19⟩, h20⟩, h21⟩, h22⟩ := h
      refine s_par3 C h1 h2 h3 (of_decide_eq_false (not_of h4)) (of_decide_eq_false (not_of h5)) (of_decide_eq_false (not_of h6)) h7 h8 h9 (a_cons (iv _ _ h20) (a_cons (iv _ _ h21) (a_cons (iv _ _ h22) a_nil (not_of h17)) (not_of h16)) (not_of h15)) ?_
      exact sw3 hk' (by rw [C.sc]; exact h7) (by rw [C.sc]; exact h8) (by rw [C.sc]; exact h9) h10 h11 (of_decide_eq_false (not_of h12)) (of_decide_eq_false (not_of h13)) (of_decide_eq_false (not_of h14)) (not_of h15) (not_of h16) (not_of h17) (not_of h18) (not_of h19)
    · cases h
theorem s_retN : PS X (.Return none pos) (tS1 X.K Φ (.ret .non)) := ps_retN.imp fun D σ H ⟨g, fr, S, hf, hh, h⟩ => (show Post X.K g .non S D.rt from h).now hh .non
theorem chkS_ok (G : GX T Φ k X) (C : CtxOk c X) (hk : c.sc.kind = .function) (hp : PassesOwn (model X.prog X.w) X.A X.env X.xe) {n : Nat} {f : List Stmt → List Dm.S → Bool} (hf : ∀ sts ss, f sts ss = true → PSs X sts (tS X.K Φ ss)) {st : Stmt} {s : Dm.S} (h : chkS T n f c st s = true) : PS X st (tS1 X.K Φ s) := by
  have iv : ∀ e ce, chkE T n c e ce = true → PE X e (tE X.K Φ ce) := fun e ce h => (chkE_ok n X c G C e ce h).v
  have it : ∀ e ce, chkE T n c e ce = true → PT X e (tT X.K Φ ce) := fun e ce h => (chkE_ok n X c G C e ce h).t
  unfold chkS at h
  cases s with
  | asg p e =>
    simp only at h
    split at h
    · exact chkA_ok G C hk h
    · cases h
  | setI o i e =>
    simp only at h
    split at h
    · simp only [Bool.and_eq_true] at h
      obtain ⟨⟨⟨h1, h2⟩, h3⟩, h4⟩ := h
      exact s_setI (iv _ _ h2) (iv _ _ h3) (iv _ _ h4) (by rw [sw_eq]; cases ‹Expr› <;> rfl) (not_of h1)
    · cases h
  | aug op i e =>
    simp only at h
    split at h
    · simp only [Bool.and_eq_true, decide_eq_true_eq] at h
      obtain ⟨⟨rfl, h2⟩, h3⟩ := h
      exact s_aug C h2 (iv _ _ h3)
    · cases h
  | expr e =>
    simp only at h
    split at h
    · rw [Bool.and_eq_true] at h
      exact s_expr (iv _ _ h.2) (not_of h.1)
    · cases h
  | iff d a b =>
    simp only at h
    split at h
    · simp only [Bool.and_eq_true] at h
      exact s_iff (it _ _ h.1.1) (hf _ _ h.1.2) (hf _ _ h.2)
    · cases h
  | whl d a =>
    simp only at h
    split at h
    · simp only [Bool.and_eq_true] at h
      exact s_whl hp (it _ _ h.1) (hf _ _ h.2)
    · cases h
  | for_ p it a =>
    simp only at h
    split at h
    · simp only [Bool.and_eq_true] at h
      exact s_for hp C (chkI_ok G C iv h.1.1.2) (chkP_ok C _ _ h.1.2) (hf _ _ h.2) (not_of h.1.1.1)
    · cases h
  | ret e =>
    simp only at h
    split at h
    · exact s_ret (iv _ _ h)
    · split at h
      · exact s_retN
      · cases h
    · cases h
  | brk =>
    simp only at h
    split at h
    · exact s_brk
    · cases h
  | cnt =>
    simp only at h
    split at h
    · exact s_cnt
    · cases h
  | pass =>
    simp only at h
    split at h
    · exact s_pass
    · cases h
  | fz i => cases h
  | zall => cases h
theorem chkZ_ok (G : GX T Φ k X) (C : CtxOk c X) {n : Nat} {sts : List Stmt} {s : Dm.S} (h : chkZ T n c sts s = true) : PSs X sts (tS X.K Φ [s]) := by
  have iv : ∀ e ce, chkE T n c e ce = true → PE X e (tE X.K Φ ce) := fun e ce h => (chkE_ok n X c G C e ce h).v
  unfold chkZ at h
  split at h
  · split at h
    · simp only [Bool.and_eq_true, decide_eq_true_eq] at h
      obtain ⟨⟨⟨⟨⟨⟨⟨⟨⟨⟨⟨⟨⟨⟨⟨⟨rfl, rfl⟩, rfl⟩, h1⟩, h2⟩, h3⟩, h4⟩, h5⟩, h6⟩, h7⟩, h8⟩, h9⟩, h10⟩, h11⟩, h12⟩, h13⟩, h14⟩ := h
      exact ss_zall G C h1 h2 h3 h4 h5 h6 (a_cons (iv _ _ h9) (a_cons (iv _ _ h10) a_nil (not_of h8)) (not_of h7)) (not_of h7) (not_of h8) (by rw [C.N, C.sc]; exact blkOk_by h11)
        (fun s H Q cl fp => chkP_ok (C.inner s H Q cl fp _) _ _ h13) (fun s H Q cl fp => (chkE_ok n (X.blk s H _ (compEnvC _ cl Q X.env) fp) _ G (C.inner s H Q cl fp _) _ _ h14).v) h12
    · cases h
  · cases h
theorem chkSs_ok (G : GX T Φ k X) (C : CtxOk c X) (hk : c.sc.kind = .function) (hp : PassesOwn (model X.prog X.w) X.A X.env X.xe) {m : Nat} : ∀ (n : Nat) (sts : List Stmt) (ss : List Dm.S), chkSs T m n c sts ss = true → PSs X sts (tS X.K Φ ss) := by
  intro n
  induction n with
  | zero => intro sts ss h; cases h
  | succ n ih =>
    intro sts ss h
    unfold chkSs at h
    cases ss with
    | nil =>
      cases sts with
      | nil => exact ss_nil
      | cons => cases h
    | cons s r =>
      simp only at h
      split at h
      · rename_i i hi
        cases s with
        | fz j => exact ss_fz (ih sts r h)
        | _ => cases hi
      · cases sts with
        | nil => cases h
        | cons st q =>
          rw [Bool.or_eq_true, Bool.and_eq_true, Bool.and_eq_true] at h
          rcases h with h | h
          · exact ss_cons (chkS_ok G C hk hp (fun a b => ih a b) h.1) (ih q r h.2)
          · cases r with
            | nil => exact chkZ_ok G C h.2
            | cons => cases h.1
end
end Dm

/-! DmK: defs, programs, laws. -/
namespace Dm
open PySem L2

/-! ### a def's entry and its end -/
section
variable {K : PySem.W.Frag} {g : G}
theorem RepL.frame {ds : List D} {vs : List V} (h : RepL K g ds vs) (n : Nat) : FrOk K g (ds.map some ++ List.replicate (n - ds.length) none) (vs.map some ++ List.replicate (n - vs.length) none) := by
  have hl := h.length
  refine ⟨by simp [hl], fun i d e => ?_⟩
  by_cases hi : i < ds.length
  · rw [List.getElem?_append_left (by simpa using hi)] at e
    rw [List.getElem?_map] at e
    cases hd : ds[i]? with
    | none => rw [hd] at e; cases e
    | some d' =>
      rw [hd] at e
      cases e
      obtain ⟨v, hv, r⟩ := h.get hd
      refine ⟨v, ?_, r⟩
      rw [List.getElem?_append_left (by simpa [← hl] using hi), List.getElem?_map, hv]
      rfl
  · rw [List.getElem?_append_right (by simpa using hi), List.getElem?_replicate] at e
    split at e <;> cases e
theorem post_cut {S S' : Store} {H : Hp} {d : D} {Q : VK} (hh : HpOk K g S H) (h : RPost (fun d S' => Post K g d S' Q) (cutR S.length d S')) : Post K g d S' Q := by
  unfold cutR at h
  split at h
  · rename_i c
    intro v H' g' l hh' r
    have hn : S.length = g.ρ.length := hh.len
    have q := hh'.cut S.length c.2.2
    have r' := r.cut c.2.1
    refine (show Post K g d (S'.take S.length) Q from h) v H' (g'.cut S.length) ?_ q r'
    rw [hn]
    exact l.cut
  · exact h
end

/-! ### the defs of a module -/
structure DefAt (K : PySem.W.Frag) (x : Str) (st : Stmt) : Prop where
  ex : ∃ (f : Addr) (oc : Value) (od an : Option Addr) (sl : Array (Option Value)) (kV dc pm cd ct : Value),
    PySem.W.nsIn K mainGlobals x = some (some (.ref f)) ∧ K.lookup f = some ⟨oc, od, .func (PySem.W.fnOf x x (defArgs st) (defBody st) (defScope st) .none kV dc pm an cd ct), sl⟩ ∧ PySem.W.codeIn K cd x = true ∧ PySem.W.keepIn K (.ref f) = true
structure ConstAt (K : PySem.W.Frag) (x : Str) (d : D) : Prop where
  ex : ∃ (u : Value) (v : V), PySem.W.nsIn K mainGlobals x = some (some u) ∧ RelV v u ∧ Rep K g0 d v
/-- what is known of the module but the promises -/
structure Mod (T : Tab) (Pg : Prog) (sts : List Stmt) (K : PySem.W.Frag) : Prop where
  fn : ∀ (i : Nat) (x : Str) (np : Nat), T.fns[i]? = some (x, np) → ∃ st, sts[i]? = some st ∧ DefAt K x st
  const : ∀ (i : Nat) (x : Str), T.cns[i]? = some x → ∃ d, Pg.consts[i]? = some d ∧ ConstAt K x d
  blt : ∀ x ∈ T.blt, PySem.W.nsIn K mainGlobals x = some none ∧ x ≠ "__name__"
  gcd : PySem.W.nsIn K mainGlobals T.gcd = some (some (.builtin "math.gcd")) ∨ T.gcd = ""
def scOk (N ps : List Str) (sc : Scope) : Bool :=
  decide (sc.kind = .function) && !sc.isCoroutine && !sc.isGenerator && decide N.Nodup && decide (N.take ps.length = ps) && ps.all (fun x => match sc.names.lookup x with | some .local => true | some .cell => true | _ => false) && sc.names.all (fun y => match y.2 with | .free => false | _ => true)
theorem scOk_ok {N ps : List Str} {sc : Scope} (h : scOk N ps sc = true) : FnScope N ps sc := by
  unfold scOk at h
  simp only [Bool.and_eq_true, decide_eq_true_eq, List.all_eq_true] at h
  obtain ⟨⟨⟨⟨⟨⟨h1, h2⟩, h3⟩, h4⟩, h5⟩, h6⟩, h7⟩ := h
  refine ⟨h1, not_of h2, not_of h3, h4, h5, fun x hx => ?_, fun y hy e => ?_⟩
  · have q := h6 x hx
    split at q
    · left; assumption
    · right; assumption
    · cases q
  · have q := h7 y hy
    rw [e] at q
    cases q
def chkFd (T : Tab) (np : Nat) (fd : Fd) (st : Stmt) : Bool :=
  (match defArgs st with
    | { posonlyargs := [], args := args, vararg := none, kwonlyargs := [], kw_defaults := _, kwarg := none, defaults := [] } => decide (args.map (·.arg) = fd.N.take fd.np)
    | _ => false) &&
  decide (fd.np = np) && decide (fd.np ≤ fd.N.length) && scOk fd.N (fd.N.take fd.np) (defScope st) && chkSs T 100 400 ⟨fd.N, defScope st, defScope st⟩ (defBody st) fd.body
def chkFds (T : Tab) : List (Str × Nat) → List Fd → List Stmt → Bool
  | [], [], [] => true
  | x :: xs, fd :: fds, st :: sts => chkFd T x.2 fd st && chkFds T xs fds sts
  | _, _, _ => false
theorem chkFds_at {T : Tab} : ∀ {xs : List (Str × Nat)} {fds : List Fd} {sts : List Stmt}, chkFds T xs fds sts = true → ∀ {i : Nat} {x : Str} {np : Nat} {st : Stmt}, xs[i]? = some (x, np) → sts[i]? = some st → ∃ fd, fds[i]? = some fd ∧ chkFd T np fd st = true
  | [], [], [], _, i, _, _, _, e, _ => by simp at e
  | x :: xs, fd :: fds, st :: sts, h, 0, _, _, _, e, e2 => by
    unfold chkFds at h
    rw [Bool.and_eq_true] at h
    cases e; cases e2
    exact ⟨fd, rfl, h.1⟩
  | x :: xs, fd :: fds, st :: sts, h, i + 1, _, _, _, e, e2 => by
    unfold chkFds at h
    rw [Bool.and_eq_true] at h
    exact chkFds_at (i := i) h.2 e e2
  | [], [], _ :: _, h, _, _, _, _, _, _ => by cases h
  | [], _ :: _, _, h, _, _, _, _, _, _ => by cases h
  | _ :: _, [], _, h, _, _, _, _, _, _ => by cases h
  | _ :: _, _ :: _, [], h, _, _, _, _, _, _ => by cases h
section
variable {P : Program} {w : World} {K : PySem.W.Frag} {mg : Str → Option Value} {base h : Heap}
/-- the promises at a depth of calls -/
def FnsOk (P : Program) (w : World) (K : PySem.W.Frag) (mg : Str → Option Value) (base : Heap) (T : Tab) (Φ : Fns) (k : Nat) : Prop :=
  ∀ (f : Nat) (x : Str) (np : Nat), T.fns[f]? = some (x, np) → ∃ a fd ps, mg x = some (.ref a) ∧ PySem.W.keepIn K (.ref a) = true ∧ Binds K fd ps [] ∧ ps.length = np ∧ FnOk P w K mg base CX0 k a fd ps (spF K Φ f)
theorem fnsAt_fuel (Pg : Prog) (wf : Nat) : ∀ n, (fnsAt Pg wf n).const = fun k => Pg.consts[k]?
  | 0 => rfl
  | _ + 1 => rfl
theorem Mod.gok {T : Tab} {Pg : Prog} {sts : List Stmt} (M : Mod T Pg sts K) (X : K.In h) (N : h.Ns mainGlobals mg) {wf n k : Nat} {A : Around} (hr : Room k A) (F : FnsOk P w K mg base T (fnsAt Pg wf n) k) : GOk T (fnsAt Pg wf n) k P w K mg base A where
  room := hr
  fn := F
  const := fun i x e => by
    obtain ⟨d, h1, u, v, h2, h3, h4⟩ := M.const i x e
    exact ⟨u, v, d, PySem.W.mg_of X N h2, h3, by rw [fnsAt_fuel]; exact h1, h4⟩
  blt := fun x hx => ⟨PySem.W.mg_none_of X N (M.blt x hx).1, (M.blt x hx).2⟩
  gcd := M.gcd.imp (fun e => PySem.W.mg_of X N e) id
theorem chk_binds {T : Tab} {np : Nat} {fd : Fd} {st : Stmt} (hck : chkFd T np fd st = true) (x : Str) (kV dc pm : Value) (an : Option Addr) (cd ct : Value) (us : List Value) (hl : us.length = (fd.N.take fd.np).length) :
    bindArgs (PySem.W.fnOf x x (defArgs st) (defBody st) (defScope st) .none kV dc pm an cd ct) ⟨us, []⟩ = pure ((fd.N.take fd.np).zip us) := by
  unfold chkFd at hck
  simp only [Bool.and_eq_true, decide_eq_true_eq] at hck
  obtain ⟨⟨⟨⟨b1, b2⟩, b3⟩, b4⟩, b5⟩ := hck
  have S := scOk_ok b4
  split at b1
  · rename_i q
    rw [q]
    have b1 := of_decide_eq_true b1
    refine bind_plain b1 ?_ hl
    exact S.nd.sublist (List.take_sublist _ _)
  · cases b1
theorem chk_len {T : Tab} {np : Nat} {fd : Fd} {st : Stmt} (hck : chkFd T np fd st = true) : (fd.N.take fd.np).length = np ∧ fd.np = np := by
  unfold chkFd at hck
  simp only [Bool.and_eq_true, decide_eq_true_eq] at hck
  obtain ⟨⟨⟨⟨b1, b2⟩, b3⟩, b4⟩, b5⟩ := hck
  rw [List.length_take]
  omega
theorem Mod.step {T : Tab} {Pg : Prog} {sts : List Stmt} (M : Mod T Pg sts K) (X : K.In h) (N : h.Ns mainGlobals mg) {wf n : Nat} (ih : FnsOk P w K mg base T (fnsAt Pg wf n) n) {f np : Nat} {x : Str} {st : Stmt} {fd : Fd} {a : Addr} {fdd : FuncData} (hfd : Pg.fns[f]? = some fd) (hck : chkFd T np fd st = true) (F1 : L2.Fun K x x st a fdd) :
    FnOk P w K mg base CX0 (n + 1) a fdd (fd.N.take fd.np) (spF K (fnsAt Pg wf (n + 1)) f) := by
  obtain ⟨hlen, hnp⟩ := chk_len hck
  unfold chkFd at hck
  simp only [Bool.and_eq_true, decide_eq_true_eq] at hck
  obtain ⟨⟨⟨⟨b1, b2⟩, b3⟩, b4⟩, b5⟩ := hck
  have S := scOk_ok b4
  have hcall : ∀ args S, (fnsAt Pg wf (n + 1)).call f args S = runFd (fnsAt Pg wf n) fd args S := fun args S => by
    show (match Pg.fns[f]? with | some fd => runFd (fnsAt Pg wf n) fd args S | none => .no) = _
    rw [hfd]
  refine F1.ok S (fun vs H Q E h => ?_) (fun cdv A outer s H vs Q E hr h => ?_)
  · obtain ⟨g, S0, ds, hh, rl, z⟩ := h
    rw [hcall] at z
    unfold runFd at z
    split at z
    · rename_i q
      rw [← rl.length, q, hlen, hnp]
    · exact z.elim
  · obtain ⟨g, S0, ds, hh, rl, z⟩ := h
    rw [hcall] at z
    unfold runFd at z
    split at z
    · rename_i q
      let X1 := (cxOf CX0 P w K mg base fd.N x (defScope st) a cdv A outer s H E).nox
      have G : GX T (fnsAt Pg wf n) n X1 := M.gok X N hr ih
      have C : CtxOk ⟨fd.N, defScope st, defScope st⟩ X1 := ⟨rfl, S.nd, rfl, rfl, fun _ h => h, fun y h => ⟨.inr h, rfl⟩⟩
      refine ⟨_, chkSs_ok G C S.kind PassesOwn.never 400 _ _ b5, g, _, S0, rl.frame fd.N.length, hh, ?_⟩
      obtain ⟨o, S1, e1, z⟩ := RPost.bind z
      rw [e1]
      cases o with
      | ret d => exact post_cut hh z
      | nx fr => exact fun σ' H' g' l hf' hh' => post_cut hh z .non H' g' l hh' .non
      | bk fr => exact z.elim
      | ct fr => exact z.elim
    · exact z.elim
theorem Mod.fns {T : Tab} {Pg : Prog} {sts : List Stmt} (M : Mod T Pg sts K) (X : K.In h) (N : h.Ns mainGlobals mg) (hc : chkFds T T.fns Pg.fns sts = true) (wf : Nat) : ∀ n, FnsOk P w K mg base T (fnsAt Pg wf n) n := by
  intro n
  induction n with
  | zero =>
    intro f x np e
    obtain ⟨st, hst, a, oc, od, an, sl, kV, dc, pm, cd, ct, a1, l1, c1, k1⟩ := M.fn f x np e
    obtain ⟨fd, hfd, hck⟩ := chkFds_at hc e hst
    have F1 := fun_mk (st := st) l1 c1 k1
    refine ⟨a, _, fd.N.take fd.np, PySem.W.mg_of X N a1, k1, F1.binds fun kV dc pm an cd ct us hl => chk_binds hck x kV dc pm an cd ct us hl, (chk_len hck).1, ⟨fun vs H Q E h => ?_, fun A outer s H args us vs Q E hr he hb hv h => ?_⟩⟩
    · obtain ⟨_, _, _, _, _, z⟩ := h
      exact z.elim
    · obtain ⟨_, _, _, _, _, z⟩ := h
      exact z.elim
  | succ n ih =>
    intro f x np e
    obtain ⟨st, hst, a, oc, od, an, sl, kV, dc, pm, cd, ct, a1, l1, c1, k1⟩ := M.fn f x np e
    obtain ⟨fd, hfd, hck⟩ := chkFds_at hc e hst
    have F1 := fun_mk (st := st) l1 c1 k1
    exact ⟨a, _, fd.N.take fd.np, PySem.W.mg_of X N a1, k1, F1.binds fun kV dc pm an cd ct us hl => chk_binds hck x kV dc pm an cd ct us hl, (chk_len hck).1, M.step X N ih hfd hck F1⟩
end

/-! ### the law -/
def spLaw (K : PySem.W.Frag) (m : Nat) : Sp := fun vs H Q _ => ∃ (a : Addr) (ns : List Int), vs = [.ref a] ∧ SqL K H a (ns.map V.int) ∧ ns.length ≤ m ∧ Only H ∧ ∀ H', Q (.bl true) H'
def Good (Pg : Prog) (m n i : Nat) : Prop := ∀ ns : List Int, ns.length ≤ m → ∃ wf S', (fnsAt Pg wf n).call i [.frz (ns.map .int)] [] = .ok (.bl true) S'
theorem _root_.L2.FnOk.any {P : Program} {w : World} {K : PySem.W.Frag} {mg : Str → Option Value} {base : Heap} {CX : CXT} {k : Nat} {f : Addr} {fd : FuncData} {ps : List Str} {ι : Type} {sp : ι → Sp} (F : ∀ i, FnOk P w K mg base CX k f fd ps (sp i)) : FnOk P w K mg base CX k f fd ps (fun vs H Q E => ∃ i, sp i vs H Q E) :=
  ⟨fun vs H Q E ⟨i, h⟩ => (F i).len vs H Q E h, fun A outer s H args us vs Q E hr he hb hv ⟨i, h⟩ => (F i).run A outer s H args us vs Q E hr he hb hv h⟩
theorem repL_ints {K : PySem.W.Frag} {g : G} : ∀ ns : List Int, RepL K g (ns.map .int) (ns.map V.int)
  | [] => .nil
  | i :: ns => .cons (.int i) (repL_ints ns)
theorem law_ok {P : Program} {w : World} {K : PySem.W.Frag} {mg : Str → Option Value} {h : Heap} {T : Tab} {Pg : Prog} {sts : List Stmt} (M : Mod T Pg sts K) (X : K.In h) (N : h.Ns mainGlobals mg) (hc : chkFds T T.fns Pg.fns sts = true) {m n i : Nat} {x p : Str} {fa : Addr} (hT : T.fns[i]? = some (x, 1)) (hfa : mg x = some (.ref fa))
    (hp : (defArgs (sts.getD i (.Pass ⟨0, 0, 0, 0⟩))).args.map (·.arg) = [p]) (good : Good Pg m (n + 1) i) :
    ∃ fd : FuncData, (∀ (s : Shared) (v : Value), BindsTo s fd ⟨[v], []⟩ [(p, v)]) ∧ ∀ base : Heap, K.In base → base.Ns mainGlobals mg → FnOk P w K mg base CX0 (n + 1) fa fd [p] (spLaw K m) := by
  obtain ⟨st, hst, a, oc, od, an, sl, kV, dc, pm, cd, ct, a1, l1, c1, k1⟩ := M.fn i x 1 hT
  have e := hfa.symm.trans (PySem.W.mg_of X N a1)
  cases e
  obtain ⟨fd, hfd, hck⟩ := chkFds_at hc hT hst
  have F1 := fun_mk (st := st) l1 c1 k1
  have hst' : sts.getD i (.Pass ⟨0, 0, 0, 0⟩) = st := by rw [List.getD_eq_getElem?_getD, hst]; rfl
  rw [hst'] at hp
  have hps : fd.N.take fd.np = [p] := by
    have q := hck
    unfold chkFd at q
    simp only [Bool.and_eq_true, decide_eq_true_eq] at q
    obtain ⟨⟨⟨⟨b1, b2⟩, b3⟩, b4⟩, b5⟩ := q
    split at b1
    · rename_i q
      rw [q] at hp
      exact (of_decide_eq_true b1).symm.trans hp
    · cases b1
  refine ⟨_, fun s v => .of_eq (by rw [chk_binds hck x kV dc pm an cd ct [v] (by rw [hps]; rfl), hps]; rfl), fun base _ _ => ?_⟩
  have F := fun wf => Mod.step (P := P) (w := w) (base := base) M X N (Mod.fns M X N hc wf n) hfd hck F1
  rw [hps] at F
  refine (FnOk.any F).imp fun vs H Q E q => ?_
  obtain ⟨a, ns, rfl, hS, hlen, hO, q⟩ := q
  obtain ⟨wf, S', hg⟩ := good ns hlen
  refine ⟨wf, ⟨H, [], fun _ => none⟩, [], [.frz (ns.map .int)], ?_, .cons (.frz hS (repL_ints ns)) .nil, ?_⟩
  · exact ⟨Same.refl _, rfl, fun n c a h => (by cases h), fun n m c e a h => (by cases h), fun _ _ e => (nomatch (show (none : Option HO) = some _ from e)), fun _ _ e => (nomatch (show (none : Option HO) = some _ from e)), fun n c a h => (by cases h)⟩
  · rw [hg]
    intro v H' g' l hh' r
    cases r
    exact q H'
end Dm

/-! DmW: reasoning about the core language, from the front. -/
namespace Dm
open PySem L2

/-! ### readings of single constructs -/
section
variable {Φ : Fns} {fr : Fr} {S : Store} {P : D → Store → Prop} {PB : Bool → Store → Prop} {PL : List D → Store → Prop} {PO : Out → Store → Prop}
abbrev WE (Φ : Fns) (c : E) (fr : Fr) (S : Store) (P : D → Store → Prop) : Prop := RPost P (evE Φ c fr S)
abbrev WEs (Φ : Fns) (c : List E) (fr : Fr) (S : Store) (P : List D → Store → Prop) : Prop := RPost P (evEs Φ c fr S)
abbrev WT (Φ : Fns) (c : E) (fr : Fr) (S : Store) (P : Bool → Store → Prop) : Prop := RPost P (evT Φ c fr S)
abbrev WO (Φ : Fns) (c : Option E) (fr : Fr) (S : Store) (P : Option Int → Store → Prop) : Prop := RPost P (evO Φ c fr S)
abbrev WS (Φ : Fns) (s : Dm.S) (fr : Fr) (S : Store) (P : Out → Store → Prop) : Prop := RPost P (evS Φ s fr S)
abbrev WSs (Φ : Fns) (s : List Dm.S) (fr : Fr) (S : Store) (P : Out → Store → Prop) : Prop := RPost P (evSs Φ s fr S)
theorem RPost.mk {α : Type} {P : α → Store → Prop} {r : Res α} {a : α} {S : Store} (e : r = .ok a S) (h : P a S) : RPost P r := by rw [e]; exact h
theorem RPost.ex {α : Type} {P : α → Store → Prop} {r : Res α} (h : RPost P r) : ∃ a S, r = .ok a S ∧ P a S := by
  cases r with
  | ok a S => exact ⟨a, S, rfl, h⟩
  | ex => exact h.elim
  | no => exact h.elim
theorem RPost.eq {α : Type} {r : Res α} {a : α} {S : Store} (h : RPost (fun b S' => b = a ∧ S' = S) r) : r = .ok a S := by
  obtain ⟨b, S', e, rfl, rfl⟩ := h.ex
  exact e
theorem wbind {α β : Type} {P : β → Store → Prop} {r : Res α} {f : α → Store → Res β} (h : RPost (fun a S => RPost P (f a S)) r) : RPost P (r.bind f) := by
  cases r with
  | ok a S => exact h
  | ex => exact h.elim
  | no => exact h.elim
theorem wof {α : Type} {P : α → Store → Prop} {o : Option α} {a : α} (e : o = some a) (h : P a S) : RPost P (Res.of o S) := by rw [e]; exact h
theorem w_int {i : Int} (h : P (.int i) S) : WE Φ (.int i) fr S P := h
theorem w_bl {i : Bool} (h : P (.bl i) S) : WE Φ (.bl i) fr S P := h
theorem w_non (h : P .non S) : WE Φ .non fr S P := h
theorem w_str {i : Str} (h : P (.str i) S) : WE Φ (.str i) fr S P := h
theorem w_var {i : Nat} {d : D} (e : fr[i]? = some (some d)) (h : P d S) : WE Φ (.var i) fr S P := by
  show RPost P (match fr[i]? with | some (some d) => .ok d S | _ => .no)
  rw [e]; exact h
theorem w_glob {k : Nat} {d : D} (e : Φ.const k = some d) (h : P d S) : WE Φ (.glob k) fr S P := wof e h
theorem w_bin {op : Operator} {a b : E} (h : WE Φ a fr S fun x S1 => WE Φ b fr S1 fun y S2 => ∃ d, binD op S2 x y = some d ∧ P d S2) : WE Φ (.bin op a b) fr S P :=
  wbind (h.imp fun x S1 _ h => wbind (h.imp fun y S2 _ ⟨d, e, h⟩ => wof e h))
theorem w_neg {a : E} (h : WE Φ a fr S fun x S1 => ∃ i, x = .int i ∧ P (.int (-i)) S1) : WE Φ (.neg a) fr S P := wbind (h.imp fun x S1 _ ⟨i, e, h⟩ => by subst e; exact h)
theorem w_not {a : E} (h : WT Φ a fr S fun t S1 => P (.bl !t) S1) : WE Φ (.not a) fr S P := by
  refine wbind ?_
  obtain ⟨x, S1, e1, h⟩ := RPost.bind h
  obtain ⟨t, e2, h⟩ := RPost.of h
  rw [e1]
  show RPost P (match truth S1 x with | some b => .ok (.bl !b) S1 | none => .no)
  rw [e2]; exact h
theorem w_cmp {op : CmpOp} {a b : E} (h : WE Φ a fr S fun x S1 => WE Φ b fr S1 fun y S2 => ∃ r, cmpD op S2 x y = some r ∧ P (.bl r) S2) : WE Φ (.cmp op a b) fr S P :=
  wbind (h.imp fun x S1 _ h => wbind (h.imp fun y S2 _ ⟨r, e, h⟩ => by
    show RPost P (match cmpD op S2 x y with | some r => .ok (.bl r) S2 | none => .no)
    rw [e]; exact h))
theorem w_cmp2 {op op' : CmpOp} {a b c : E} (h : WE Φ a fr S fun x S1 => WE Φ b fr S1 fun y S2 => ∃ r, cmpD op S2 x y = some r ∧ if r = true then WE Φ c fr S2 (fun z S3 => ∃ r, cmpD op' S3 y z = some r ∧ P (.bl r) S3) else P (.bl false) S2) : WE Φ (.cmp2 op op' a b c) fr S P :=
  wbind (h.imp fun x S1 _ h => wbind (h.imp fun y S2 _ ⟨r, e, h⟩ => by
    show RPost P (match cmpD op S2 x y with | some false => .ok (.bl false) S2 | some true => (evE Φ c fr S2).bind fun z S3 => (match cmpD op' S3 y z with | some r => .ok (.bl r) S3 | none => .no) | none => .no)
    rw [e]
    cases r with
    | false => exact h
    | true =>
      refine wbind (RPost.imp (show WE Φ c fr S2 (fun z S3 => ∃ r, cmpD op' S3 y z = some r ∧ P (.bl r) S3) from h) fun z S3 _ ⟨r, e, h⟩ => ?_)
      rw [e]; exact h))
theorem w_andW {a b : E} (h : WE Φ a fr S fun x S1 => ∃ t, truth S1 x = some t ∧ if t = true then WE Φ b fr S1 P else P x S1) : WE Φ (.and a b) fr S P :=
  wbind (h.imp fun x S1 _ ⟨t, e, h⟩ => by
    show RPost P (match truth S1 x with | some true => evE Φ b fr S1 | some false => .ok x S1 | none => .no)
    rw [e]; cases t <;> exact h)
theorem w_orW {a b : E} (h : WE Φ a fr S fun x S1 => ∃ t, truth S1 x = some t ∧ if t = true then P x S1 else WE Φ b fr S1 P) : WE Φ (.or a b) fr S P :=
  wbind (h.imp fun x S1 _ ⟨t, e, h⟩ => by
    show RPost P (match truth S1 x with | some true => .ok x S1 | some false => evE Φ b fr S1 | none => .no)
    rw [e]; cases t <;> exact h)
theorem w_ite {c a b : E} (h : WT Φ c fr S fun t S1 => if t = true then WE Φ a fr S1 P else WE Φ b fr S1 P) : WE Φ (.ite c a b) fr S P := by
  obtain ⟨x, S1, e1, h⟩ := RPost.bind h
  obtain ⟨t, e2, h⟩ := RPost.of h
  refine wbind (RPost.mk e1 ?_)
  show RPost P (match truth S1 x with | some true => evE Φ a fr S1 | some false => evE Φ b fr S1 | none => .no)
  rw [e2]; cases t <;> exact h
theorem w_nil (h : PL [] S) : WEs Φ [] fr S PL := h
theorem w_cons {c : E} {cs : List E} (h : WE Φ c fr S fun x S1 => WEs Φ cs fr S1 fun xs S2 => PL (x :: xs) S2) : WEs Φ (c :: cs) fr S PL := wbind (h.imp fun x S1 _ h => wbind h)
theorem small_ok {n : Nat} (h : n ≤ 1000) : n ≤ sizeLine := Nat.le_of_lt (small1000 h)
theorem w_tup {cs : List E} (h : WEs Φ cs fr S fun xs S1 => xs.length ≤ sizeLine ∧ P (.tup xs) S1) : WE Φ (.tup cs) fr S P := wbind (h.imp fun xs S1 _ ⟨hl, h⟩ => by
  show RPost P (if xs.length ≤ sizeLine then .ok (.tup xs) S1 else .no)
  rw [if_pos hl]; exact h)
theorem w_lst {cs : List E} (h : WEs Φ cs fr S fun xs S1 => xs.length ≤ sizeLine ∧ P (.lst xs) S1) : WE Φ (.lst cs) fr S P := wbind (h.imp fun xs S1 _ ⟨hl, h⟩ => by
  show RPost P (if xs.length ≤ sizeLine then .ok (.lst xs) S1 else .no)
  rw [if_pos hl]; exact h)
theorem w_mkl {cs : List E} (h : WEs Φ cs fr S fun xs S1 => xs.length ≤ sizeLine ∧ P (.ref S1.length) (S1 ++ [.lst xs])) : WE Φ (.mkl cs) fr S P := wbind (h.imp fun xs S1 _ ⟨hl, h⟩ => by
  show RPost P (if xs.length ≤ sizeLine then .ok (.ref S1.length) (S1 ++ [.lst xs]) else .no)
  rw [if_pos hl]; exact h)
theorem w_sub {a b : E} (h : WE Φ a fr S fun x S1 => WE Φ b fr S1 fun y S2 => ∃ d, subD S2 x y = some d ∧ P d S2) : WE Φ (.sub a b) fr S P :=
  wbind (h.imp fun x S1 _ h => wbind (h.imp fun y S2 _ ⟨d, e, h⟩ => wof e h))
theorem w_onone {Q : Option Int → Store → Prop} (h : Q none S) : WO Φ none fr S Q := h
theorem w_osome {Q : Option Int → Store → Prop} {a : E} (h : WE Φ a fr S fun x S1 => ∃ i, x = .int i ∧ Q (some i) S1) : WO Φ (some a) fr S Q := wbind (h.imp fun x S1 _ ⟨i, e, h⟩ => by subst e; exact h)
theorem w_slc {a : E} {lo hi : Option E} (h : WE Φ a fr S fun x S1 => WO Φ lo fr S1 fun l S2 => WO Φ hi fr S2 fun u S3 => ∃ d, slcD S3 x l u = some d ∧ P d S3) : WE Φ (.slc a lo hi) fr S P :=
  wbind (h.imp fun x S1 _ h => wbind (h.imp fun l S2 _ h => wbind (h.imp fun u S3 _ ⟨d, e, h⟩ => wof e h)))
theorem w_call {f : Nat} {cs : List E} (h : WEs Φ cs fr S fun xs S1 => RPost P (Φ.call f xs S1)) : WE Φ (.call f cs) fr S P := wbind h
theorem w_bi {f : Bi} {cs : List E} (h : WEs Φ cs fr S fun xs S1 => ∃ d, biD f S1 xs = some d ∧ P d S1) : WE Φ (.bi f cs) fr S P := wbind (h.imp fun xs S1 _ ⟨d, e, h⟩ => wof e h)
theorem w_maxd {a b : E} (h : WE Φ a fr S fun x S1 => WE Φ b fr S1 fun y S2 => ∃ d, mdD true S2 x y = some d ∧ P d S2) : WE Φ (.maxd a b) fr S P :=
  wbind (h.imp fun x S1 _ h => wbind (h.imp fun y S2 _ ⟨d, e, h⟩ => wof e h))
theorem w_mind {a b : E} (h : WE Φ a fr S fun x S1 => WE Φ b fr S1 fun y S2 => ∃ d, mdD false S2 x y = some d ∧ P d S2) : WE Φ (.mind a b) fr S P :=
  wbind (h.imp fun x S1 _ h => wbind (h.imp fun y S2 _ ⟨d, e, h⟩ => wof e h))
theorem w_me {m : Me} {o : E} {cs : List E} (h : WE Φ o fr S fun x S1 => meTy m S1 x = true ∧ WEs Φ cs fr S1 fun xs S2 => ∃ d, meD m S2 x xs = some d ∧ P d S2) : WE Φ (.me m o cs) fr S P :=
  wbind (h.imp fun x S1 _ ⟨e, h⟩ => by
    show RPost P (match meTy m S1 x with | true => (evEs Φ cs fr S1).bind fun xs S2 => Res.of (meD m S2 x xs) S2 | false => .no)
    rw [e]
    exact wbind (h.imp fun xs S2 _ ⟨d, e, h⟩ => wof e h))
theorem w_isi {t : Ty} {a : E} (h : WE Φ a fr S fun x S1 => ∃ b, isiD S1 t x = some b ∧ P (.bl b) S1) : WE Φ (.isi t a) fr S P := wbind (h.imp fun x S1 _ ⟨b, e, h⟩ => by
  show RPost P (match isiD S1 t x with | some b => .ok (.bl b) S1 | none => .no)
  rw [e]; exact h)
theorem w_app {o a : E} (h : WE Φ o fr S fun x S1 => ∃ n l0, x = .ref n ∧ cellL S1 n = some l0 ∧ WE Φ a fr S1 fun y S2 => ∃ l, cellL S2 n = some l ∧ l.length < sizeLine ∧ P .non (S2.set n (.lst (l ++ [y])))) : WE Φ (.app o a) fr S P :=
  wbind (h.imp fun x S1 _ ⟨n, l0, e, e0, h⟩ => by
    subst e
    show RPost P (match cellL S1 n with | some _ => (evE Φ a fr S1).bind fun y S2 => (match cellL S2 n with | some l => if l.length < sizeLine then .ok .non (S2.set n (.lst (l ++ [y]))) else .no | none => .no) | none => .no)
    rw [e0]
    refine wbind (h.imp fun y S2 _ ⟨l, e1, hl, h⟩ => ?_)
    rw [e1]
    show RPost P (if l.length < sizeLine then .ok .non (S2.set n (.lst (l ++ [y]))) else .no)
    rw [if_pos hl]; exact h)
theorem w_ext {o a : E} (h : WE Φ o fr S fun x S1 => ∃ n l0, x = .ref n ∧ cellL S1 n = some l0 ∧ WE Φ a fr S1 fun y S2 => ∃ l m, cellL S2 n = some l ∧ lstD S2 y = some m ∧ l.length + m.length ≤ sizeLine ∧ P .non (S2.set n (.lst (l ++ m)))) : WE Φ (.ext o a) fr S P :=
  wbind (h.imp fun x S1 _ ⟨n, l0, e, e0, h⟩ => by
    subst e
    show RPost P (match cellL S1 n with | some _ => (evE Φ a fr S1).bind fun y S2 => (match cellL S2 n, lstD S2 y with | some l, some m => if l.length + m.length ≤ sizeLine then .ok .non (S2.set n (.lst (l ++ m))) else .no | _, _ => .no) | none => .no)
    rw [e0]
    refine wbind (h.imp fun y S2 _ ⟨l, m, e1, e2, hl, h⟩ => ?_)
    rw [e1, e2]
    show RPost P (if l.length + m.length ≤ sizeLine then .ok .non (S2.set n (.lst (l ++ m))) else .no)
    rw [if_pos hl]; exact h)
theorem w_mkc {a : E} (h : WE Φ a fr S fun x S1 => ∃ l, seqD S1 x = some l ∧ P (.ref S1.length) (S1 ++ [.lst l])) : WE Φ (.mkc a) fr S P :=
  wbind (h.imp fun x S1 _ ⟨l, e, h⟩ => by
    show RPost P (match seqD S1 x with | some l => .ok (.ref S1.length) (S1 ++ [.lst l]) | none => .no)
    rw [e]; exact h)
theorem w_lset {a : E} (h : WE Φ a fr S fun x S1 => ∃ d, lsetD S1 x = some d ∧ P d S1) : WE Φ (.lset a) fr S P := wbind (h.imp fun x S1 _ ⟨d, e, h⟩ => wof e h)
theorem w_lzip {a b : E} (h : WE Φ a fr S fun x S1 => WE Φ b fr S1 fun y S2 => ∃ d, lzipD x y = some d ∧ P d S2) : WE Φ (.lzip a b) fr S P :=
  wbind (h.imp fun x S1 _ h => wbind (h.imp fun y S2 _ ⟨d, e, h⟩ => wof e h))
theorem w_rev {a : E} (h : WE Φ a fr S fun x S1 => ∃ l, lstD S1 x = some l ∧ P (.lst l.reverse) S1) : WE Φ (.rev a) fr S P :=
  wbind (h.imp fun x S1 _ ⟨l, e, h⟩ => by
    show RPost P (match lstD S1 x with | some l => .ok (.lst l.reverse) S1 | none => .no)
    rw [e]; exact h)
theorem w_dsub {a b : E} (h : WE Φ a fr S fun x S1 => WE Φ b fr S1 fun y S2 => ∃ d, askD S2 x y = some (some d) ∧ P d S2) : WE Φ (.dsub a b) fr S P :=
  wbind (h.imp fun x S1 _ h => wbind (h.imp fun y S2 _ ⟨d, e, h⟩ => wof (by rw [e]; rfl) h))
theorem w_dhas {neg : Bool} {a b : E} (h : WE Φ a fr S fun y S1 => WE Φ b fr S1 fun x S2 => ∃ o, askD S2 x y = some o ∧ P (.bl (hasB neg o.isSome)) S2) : WE Φ (.dhas neg a b) fr S P :=
  wbind (h.imp fun x S1 _ h => wbind (h.imp fun y S2 _ ⟨d, e, h⟩ => wof (by rw [e]; rfl) h))
theorem w_dget {a b z : E} (h : WE Φ a fr S fun x S1 => isDc S1 x = true ∧ WE Φ b fr S1 fun y S2 => WE Φ z fr S2 fun w S3 => ∃ o, askD S3 x y = some o ∧ P (o.getD w) S3) : WE Φ (.dget a b z) fr S P :=
  wbind (h.imp fun x S1 _ ⟨e, h⟩ => by
    show RPost P (match isDc S1 x with | true => ((evE Φ b fr S1).bind fun y S2 => (evE Φ z fr S2).bind fun w S3 => Res.of ((askD S3 x y).map (·.getD w)) S3) | false => .no)
    rw [e]
    exact wbind (h.imp fun y S2 _ h => wbind (h.imp fun w S3 _ ⟨o, e, h⟩ => wof (by rw [e]; rfl) h)))
theorem w_ddic {a : E} (h : WE Φ a fr S fun x S1 => ∃ ps, (lstD S1 x).bind pairsD = some ps ∧ P (.ref S1.length) (S1 ++ [.dct (mergeD [] ps)])) : WE Φ (.ddic a) fr S P :=
  wbind (h.imp fun x S1 _ ⟨ps, e, h⟩ => by
    show RPost P (match (lstD S1 x).bind pairsD with | some ps => .ok (.ref S1.length) (S1 ++ [.dct (mergeD [] ps)]) | none => .no)
    rw [e]; exact h)
theorem w_dcomp {own : List (Str × Nat)} {p : Pat} {it : E} {cs : List E} {k v : E} (h : WE Φ it fr S fun x S1 => ∃ l, iterD S1 x = some l ∧ RPost (fun r S2 => P (.ref S2.length) (S2 ++ [.dct r])) (dcompF p (evTs Φ cs) (evE Φ k) (evE Φ v) (wipeF fr (own.map (·.2))) l [] S1)) : WE Φ (.dcomp own p it cs k v) fr S P :=
  wbind (h.imp fun x S1 _ ⟨l, e1, h⟩ => by
    show RPost P (match iterD S1 x with | none => .no | some l => (dcompF p (evTs Φ cs) (evE Φ k) (evE Φ v) (wipeF fr (own.map (·.2))) l [] S1).bind fun r S2 => .ok (.ref S2.length) (S2 ++ [.dct r]))
    rw [e1]
    exact wbind h)
theorem w_enum {a : E} (h : WE Φ a fr S fun x S1 => ∃ l, (x = .lst l ∨ x = .tup l ∨ x = .itr l) ∧ P (.itr (enumD l)) S1) : WE Φ (.enum a) fr S P :=
  wbind (h.imp fun x S1 _ ⟨l, e, h⟩ => by rcases e with rfl | rfl | rfl <;> exact h)
theorem w_zip {a b : E} (h : WE Φ a fr S fun x S1 => WE Φ b fr S1 fun y S2 => ∃ l m, (x = .lst l ∨ x = .tup l) ∧ (y = .lst m ∨ y = .tup m) ∧ P (.itr (zipD l m)) S2) : WE Φ (.zip a b) fr S P :=
  wbind (h.imp fun x S1 _ h => wbind (h.imp fun y S2 _ ⟨l, m, e1, e2, h9⟩ => by rcases e1 with rfl | rfl <;> rcases e2 with rfl | rfl <;> exact h9))
theorem w_range {cs : List E} (h : WEs Φ cs fr S fun xs S1 => ∃ l, rangeD xs = some l ∧ P (.itr l) S1) : WE Φ (.range cs) fr S P := wbind (h.imp fun xs S1 _ ⟨l, e, h⟩ => by
  show RPost P (match rangeD xs with | some l => .ok (.itr l) S1 | none => .no)
  rw [e]; exact h)
/-- a list comprehension, the result a frozen list -/
theorem w_comp {own : List (Str × Nat)} {p : Pat} {it : E} {cs : List E} {e : E} (h : WE Φ it fr S fun x S1 => ∃ l, iterD S1 x = some l ∧ RPost (fun r S2 => P (.lst r) S2) (compF p (evTs Φ cs) (evE Φ e) (wipeF fr (own.map (·.2))) l [] S1)) : WE Φ (.comp true own p it cs e) fr S P :=
  wbind (h.imp fun x S1 _ ⟨l, e1, h⟩ => by
    show RPost P (match iterD S1 x with | none => .no | some l => (compF p (evTs Φ cs) (evE Φ e) (wipeF fr (own.map (·.2))) l [] S1).bind fun r S2 => .ok (.lst r) S2)
    rw [e1]
    exact wbind h)
theorem w_compS {own : List (Str × Nat)} {p : Pat} {it : E} {cs : List E} {e : E} (h : WE Φ it fr S fun x S1 => ∃ l, iterD S1 x = some l ∧ RPost (fun r S2 => P (.ref S2.length) (S2 ++ [.lst r])) (compF p (evTs Φ cs) (evE Φ e) (wipeF fr (own.map (·.2))) l [] S1)) : WE Φ (.comp false own p it cs e) fr S P :=
  wbind (h.imp fun x S1 _ ⟨l, e1, h⟩ => by
    show RPost P (match iterD S1 x with | none => .no | some l => (compF p (evTs Φ cs) (evE Φ e) (wipeF fr (own.map (·.2))) l [] S1).bind fun r S2 => .ok (.ref S2.length) (S2 ++ [.lst r]))
    rw [e1]
    exact wbind h)

/-! tests -/
theorem t_any {c : E} (h : WE Φ c fr S fun x S1 => ∃ t, truth S1 x = some t ∧ PB t S1) : WT Φ c fr S PB := wbind (h.imp fun x S1 _ ⟨t, e, h⟩ => wof e h)
theorem t_notW {c : E} (h : WT Φ c fr S fun t S1 => PB (!t) S1) : WT Φ (.not c) fr S PB := by rw [WT, evT_not]; exact wbind h
theorem t_andW {a b : E} (h : WT Φ a fr S fun t S1 => if t = true then WT Φ b fr S1 PB else PB false S1) : WT Φ (.and a b) fr S PB := by
  rw [WT, evT_and]; exact wbind (h.imp fun t S1 _ h => by cases t <;> exact h)
theorem t_orW {a b : E} (h : WT Φ a fr S fun t S1 => if t = true then PB true S1 else WT Φ b fr S1 PB) : WT Φ (.or a b) fr S PB := by
  rw [WT, evT_or]; exact wbind (h.imp fun t S1 _ h => by cases t <;> exact h)
theorem t_cmpW {op : CmpOp} {a b : E} (h : WE Φ a fr S fun x S1 => WE Φ b fr S1 fun y S2 => ∃ r, cmpD op S2 x y = some r ∧ PB r S2) : WT Φ (.cmp op a b) fr S PB := t_any (w_cmp (h.imp fun x S1 _ h => h.imp fun y S2 _ ⟨r, e, h⟩ => ⟨r, e, r, rfl, h⟩))
theorem t_isiW {t : Ty} {a : E} (h : WE Φ a fr S fun x S1 => ∃ b, isiD S1 t x = some b ∧ PB b S1) : WT Φ (.isi t a) fr S PB := t_any (w_isi (h.imp fun x S1 _ ⟨b, e, h⟩ => ⟨b, e, b, rfl, h⟩))
theorem t_cmp2W {op op' : CmpOp} {a b c : E} (h : WE Φ a fr S fun x S1 => WE Φ b fr S1 fun y S2 => ∃ r, cmpD op S2 x y = some r ∧ if r = true then WE Φ c fr S2 (fun z S3 => ∃ r, cmpD op' S3 y z = some r ∧ PB r S3) else PB false S2) : WT Φ (.cmp2 op op' a b c) fr S PB :=
  t_any (w_cmp2 (h.imp fun x S1 _ h => h.imp fun y S2 _ ⟨r, e, h⟩ => ⟨r, e, by
    cases r with
    | false => exact ⟨false, rfl, h⟩
    | true => exact RPost.imp (show WE Φ c fr S2 (fun z S3 => ∃ r, cmpD op' S3 y z = some r ∧ PB r S3) from h) fun z S3 _ ⟨r, e, h⟩ => ⟨r, e, r, rfl, h⟩⟩))
theorem ts_nilW (h : PB true S) : RPost PB (evTs Φ [] fr S) := h
theorem ts_oneW {c : E} (h : WT Φ c fr S PB) : RPost PB (evTs Φ [c] fr S) := by
  obtain ⟨x, S1, e1, h⟩ := RPost.bind h
  obtain ⟨t, e2, h⟩ := RPost.of h
  refine wbind (RPost.mk e1 ?_)
  show RPost PB (match truth S1 x with | some true => evTs Φ [] fr S1 | some false => .ok false S1 | none => .no)
  rw [e2]; cases t <;> exact h

/-! statements -/
theorem s_nilW (h : PO (.nx fr) S) : WSs Φ [] fr S PO := h
theorem s_consW {s : Dm.S} {r : List Dm.S} (h : WS Φ s fr S fun o S1 => match o with
    | .nx fr' => WSs Φ r fr' S1 PO
    | o => PO o S1) : WSs Φ (s :: r) fr S PO := wbind (h.imp fun o S1 _ h => by cases o <;> exact h)
theorem s_asgW {p : Pat} {e : E} (h : WE Φ e fr S fun x S1 => ∃ fr', asgP p x fr = some fr' ∧ PO (.nx fr') S1) : WS Φ (.asg p e) fr S PO := wbind (h.imp fun x S1 _ ⟨fr', e, h⟩ => by
  show RPost PO (match asgP p x fr with | some fr' => .ok (.nx fr') S1 | none => .no)
  rw [e]; exact h)
theorem s_setIW {o i e : E} (h : WE Φ e fr S fun x S1 => WE Φ o fr S1 fun y S2 => WE Φ i fr S2 fun z S3 => ∃ n k l j, y = .ref n ∧ z = .int k ∧ cellL S3 n = some l ∧ ixN l.length k = some j ∧ PO (.nx fr) (S3.set n (.lst (l.set j x)))) : WS Φ (.setI o i e) fr S PO :=
  wbind (h.imp fun x S1 _ h => wbind (h.imp fun y S2 _ h => wbind (h.imp fun z S3 _ ⟨n, k, l, j, e1, e2, e3, e4, h9⟩ => by
    subst e1; subst e2
    show RPost PO (match cellL S3 n with | some l => (match ixN l.length k with | some j => .ok (.nx fr) (S3.set n (.lst (l.set j x))) | none => .no) | none => .no)
    rw [e3]
    show RPost PO (match ixN l.length k with | some j => .ok (.nx fr) (S3.set n (.lst (l.set j x))) | none => .no)
    rw [e4]; exact h9)))
theorem s_augW {i : Nat} {e : E} {a : Int} (h0 : fr[i]? = some (some (.int a))) (h : WE Φ e fr S fun y S1 => ∃ b, y = .int b ∧ PO (.nx (fr.set i (some (.int (a + b))))) S1) : WS Φ (.aug .Add i e) fr S PO := by
  show RPost PO (match fr[i]? with | some (some x) => (evE Φ e fr S).bind (fun y S1 => match Operator.Add, x, y with | .Add, .int a, .int b => .ok (.nx (fr.set i (some (.int (a + b))))) S1 | _, _, _ => .no) | _ => .no)
  rw [h0]
  exact wbind (h.imp fun y S1 _ ⟨b, e, h⟩ => by subst e; exact h)
theorem s_exprW {e : E} (h : WE Φ e fr S fun _ S1 => PO (.nx fr) S1) : WS Φ (.expr e) fr S PO := wbind h
theorem s_iffW {c : E} {a b : List Dm.S} (h : WT Φ c fr S fun t S1 => if t = true then WSs Φ a fr S1 PO else WSs Φ b fr S1 PO) : WS Φ (.iff c a b) fr S PO := wbind (h.imp fun t S1 _ h => by cases t <;> exact h)
theorem s_retW {e : E} (h : WE Φ e fr S fun x S1 => PO (.ret x) S1) : WS Φ (.ret e) fr S PO := wbind h
theorem s_brkW (h : PO (.bk fr) S) : WS Φ .brk fr S PO := h
theorem s_cntW (h : PO (.ct fr) S) : WS Φ .cnt fr S PO := h
theorem s_passW (h : PO (.nx fr) S) : WS Φ .pass fr S PO := h
theorem s_fzW {i n : Nat} {l : List D} (h0 : fr[i]? = some (some (.ref n))) (h1 : cellL S n = some l) (h : PO (.nx (fr.set i (some (.lst l)))) (S.set n .dead)) : WS Φ (.fz i) fr S PO := by
  show RPost PO (match fr[i]? with | some (some (.ref n)) => (match cellL S n with | some l => .ok (.nx (fr.set i (some (.lst l)))) (S.set n .dead) | none => .no) | _ => .no)
  rw [h0]
  show RPost PO (match cellL S n with | some l => .ok (.nx (fr.set i (some (.lst l)))) (S.set n .dead) | none => .no)
  rw [h1]; exact h
theorem s_forW {p : Pat} {it : E} {a : List Dm.S} (h : WE Φ it fr S fun x S1 => ∃ l, iterD S1 x = some l ∧ RPost PO (forF p (evSs Φ a) l fr S1)) : WS Φ (.for_ p it a) fr S PO := wbind (h.imp fun x S1 _ ⟨l, e, h⟩ => by
  show RPost PO (match iterD S1 x with | none => .no | some l => forF p (evSs Φ a) l fr S1)
  rw [e]; exact h)
theorem s_whlW {c : E} {a : List Dm.S} (h : RPost PO (whileF (evT Φ c) (evSs Φ a) Φ.fuel fr S)) : WS Φ (.whl c a) fr S PO := h

/-! loops -/
theorem for_inv {p : Pat} {b : Fr → Store → Res Out} (Inv : List D → Fr → Store → Prop) (step : ∀ d ds fr S, Inv (d :: ds) fr S → ∃ fr1, asgP p d fr = some fr1 ∧ RPost (fun o S2 => match o with
    | .nx fr' => Inv ds fr' S2
    | .ct fr' => Inv ds fr' S2
    | .bk fr' => PO (.nx fr') S2
    | .ret d => PO (.ret d) S2) (b fr1 S)) (fin : ∀ fr S, Inv [] fr S → PO (.nx fr) S) : ∀ (l : List D) (fr : Fr) (S : Store), Inv l fr S → RPost PO (forF p b l fr S)
  | [], fr, S, h => fin fr S h
  | d :: ds, fr, S, h => by
    obtain ⟨fr1, e, h1⟩ := step d ds fr S h
    show RPost PO (match asgP p d fr with | none => .no | some fr1 => (b fr1 S).bind fun o S2 => match o with
      | .nx fr' => forF p b ds fr' S2
      | .ct fr' => forF p b ds fr' S2
      | .bk fr' => .ok (.nx fr') S2
      | .ret d => .ok (.ret d) S2)
    rw [e]
    refine wbind (h1.imp fun o S2 _ h => ?_)
    cases o with
    | nx fr' => exact for_inv Inv step fin ds fr' S2 h
    | ct fr' => exact for_inv Inv step fin ds fr' S2 h
    | bk fr' => exact h
    | ret d => exact h
/-- a comprehension, turn by turn; acc is what stands so far -/
theorem comp_inv {p : Pat} {t : Fr → Store → Res Bool} {e : Fr → Store → Res D} {fr : Fr} {PL : List D → Store → Prop} (Inv : List D → List D → Store → Prop) (step : ∀ d ds acc S, Inv (d :: ds) acc S → ∃ fr1, asgP p d fr = some fr1 ∧ RPost (fun b S1 => if b = true then RPost (fun x S2 => acc.length < sizeLine ∧ Inv ds (acc ++ [x]) S2) (e fr1 S1) else Inv ds acc S1) (t fr1 S))
    (fin : ∀ acc S, Inv [] acc S → PL acc S) : ∀ (l acc : List D) (S : Store), Inv l acc S → RPost PL (compF p t e fr l acc S)
  | [], acc, S, h => fin acc S h
  | d :: ds, acc, S, h => by
    obtain ⟨fr1, e1, h1⟩ := step d ds acc S h
    show RPost PL (match asgP p d fr with | none => .no | some fr' => (t fr' S).bind fun b S1 => if b = true then (e fr' S1).bind fun x S2 => if acc.length < sizeLine then compF p t e fr ds (acc ++ [x]) S2 else .no else compF p t e fr ds acc S1)
    rw [e1]
    refine wbind (h1.imp fun b S1 _ h => ?_)
    cases b with
    | false => exact comp_inv Inv step fin ds acc S1 h
    | true =>
      refine wbind (RPost.imp (show RPost (fun x S2 => acc.length < sizeLine ∧ Inv ds (acc ++ [x]) S2) (e fr1 S1) from h) fun x S2 _ ⟨hl, h⟩ => ?_)
      show RPost PL (if acc.length < sizeLine then compF p t e fr ds (acc ++ [x]) S2 else Res.no)
      rw [if_pos hl]
      exact comp_inv Inv step fin ds (acc ++ [x]) S2 h
/-- a comprehension without effect: what passes the test, each by f -/
theorem comp_pure {p : Pat} {t : Fr → Store → Res Bool} {e : Fr → Store → Res D} {fr : Fr} {S : Store} {α : Type} (d : α → D) (T : α → Bool) (f : α → D) (l : List α) (hl : l.length ≤ sizeLine)
    (step : ∀ a ∈ l, ∃ fr1, asgP p (d a) fr = some fr1 ∧ t fr1 S = .ok (T a) S ∧ (T a = true → e fr1 S = .ok (f a) S)) : compF p t e fr (l.map d) [] S = .ok ((l.filter T).map f) S := by
  have go : ∀ (l : List α) (acc : List D), acc.length + l.length ≤ sizeLine → (∀ a ∈ l, ∃ fr1, asgP p (d a) fr = some fr1 ∧ t fr1 S = .ok (T a) S ∧ (T a = true → e fr1 S = .ok (f a) S)) → compF p t e fr (l.map d) acc S = .ok (acc ++ (l.filter T).map f) S := by
    intro l
    induction l with
    | nil => intro acc _ _; show Res.ok acc S = _; rw [List.filter_nil, List.map_nil, List.append_nil]
    | cons a l ih =>
      intro acc hl h
      obtain ⟨fr1, e1, e2, e3⟩ := h a List.mem_cons_self
      show (match asgP p (d a) fr with | none => Res.no | some fr' => (t fr' S).bind fun b S1 => if b = true then (e fr' S1).bind fun x S2 => if acc.length < sizeLine then compF p t e fr (l.map d) (acc ++ [x]) S2 else Res.no else compF p t e fr (l.map d) acc S1) = _
      rw [List.length_cons] at hl
      rw [e1]
      show ((t fr1 S).bind fun b S1 => if b = true then (e fr1 S1).bind fun x S2 => if acc.length < sizeLine then compF p t e fr (l.map d) (acc ++ [x]) S2 else .no else compF p t e fr (l.map d) acc S1) = _
      rw [e2, Res.bind_ok]
      cases hT : T a with
      | false =>
        rw [if_neg (by decide), List.filter_cons_of_neg (by rw [hT]; decide)]
        exact ih acc (by omega) fun b hb => h b (List.mem_cons_of_mem _ hb)
      | true =>
        rw [if_pos rfl, e3 hT, Res.bind_ok, if_pos (by omega), List.filter_cons_of_pos hT, List.map_cons]
        rw [ih (acc ++ [f a]) (by rw [List.length_append, List.length_singleton]; omega) fun b hb => h b (List.mem_cons_of_mem _ hb)]
        rw [List.append_assoc]; rfl
  have := go l [] (by simpa using hl) step
  simpa using this
/-- a while by a measure -/
theorem while_inv {c : Fr → Store → Res Bool} {b : Fr → Store → Res Out} (Inv : Nat → Fr → Store → Prop) (step : ∀ n fr S, Inv n fr S → RPost (fun t S1 => if t = true then RPost (fun o S2 => match o with
    | .nx fr' => ∃ m, m < n ∧ Inv m fr' S2
    | .ct fr' => ∃ m, m < n ∧ Inv m fr' S2
    | .bk fr' => PO (.nx fr') S2
    | .ret d => PO (.ret d) S2) (b fr S1) else PO (.nx fr) S1) (c fr S)) : ∀ (w n : Nat) (fr : Fr) (S : Store), n < w → Inv n fr S → RPost PO (whileF c b w fr S)
  | 0, _, _, _, h, _ => absurd h (Nat.not_lt_zero _)
  | w + 1, n, fr, S, hw, h => by
    refine wbind ((step n fr S h).imp fun t S1 _ h => ?_)
    cases t with
    | false => exact h
    | true =>
      refine wbind (RPost.imp (show RPost (fun o S2 => match o with
    | .nx fr' => ∃ m, m < n ∧ Inv m fr' S2
    | .ct fr' => ∃ m, m < n ∧ Inv m fr' S2
    | .bk fr' => PO (.nx fr') S2
    | .ret d => PO (.ret d) S2) (b fr S1) from h) fun o S2 _ h => ?_)
      cases o with
      | nx fr' => obtain ⟨m, hm, h⟩ := h; exact while_inv Inv step w m fr' S2 (by omega) h
      | ct fr' => obtain ⟨m, hm, h⟩ := h; exact while_inv Inv step w m fr' S2 (by omega) h
      | bk fr' => exact h
      | ret d => exact h

/-! defs -/
theorem w_fd {f : Fd} {args : List D} (hl : args.length = f.np) (h : WSs Φ f.body (args.map some ++ List.replicate (f.N.length - args.length) none) S fun o S' => match o with
    | .ret d => RPost P (cutR S.length d S')
    | .nx _ => RPost P (cutR S.length .non S')
    | _ => False) : RPost P (runFd Φ f args S) := by
  unfold runFd
  rw [if_pos hl]
  exact wbind (h.imp fun o S' _ h => by cases o <;> exact h)
/-- nothing new behind the call -/
theorem w_cut0 {d : D} (h : P d S) (hn : n = S.length) : RPost P (cutR n d S) := by
  unfold cutR
  split
  · rw [hn, List.take_length]; exact h
  · exact h
theorem w_cut {n : Nat} {d : D} (h1 : n ≤ S.length) (h2 : d.rb n = true) (h3 : (S.take n).all (Cell.rb n) = true) (h : P d (S.take n)) : RPost P (cutR n d S) := by
  unfold cutR
  rw [if_pos ⟨h1, h2, h3⟩]
  exact h
end
theorem w_ift {A B : Prop} (h : A) : if true = true then A else B := by rw [if_pos rfl]; exact h
theorem w_iff' {A B : Prop} (h : B) : if false = true then A else B := by rw [if_neg (by decide)]; exact h
theorem w_dec {p : Prop} [Decidable p] {A B : Prop} (h1 : p → A) (h2 : ¬p → B) : if decide p = true then A else B := by
  by_cases h : p
  · rw [if_pos (decide_eq_true h)]; exact h1 h
  · rw [if_neg (by simpa using h)]; exact h2 h
theorem w_decn {p : Prop} [Decidable p] {A B : Prop} (h1 : ¬p → A) (h2 : p → B) : if (!decide p) = true then A else B := by
  by_cases h : p
  · rw [if_neg (by simpa using h)]; exact h2 h
  · rw [if_pos (by simpa using h)]; exact h1 h
section
variable {Φ : Fns} {fr : Fr} {S : Store} {PO : Out → Store → Prop}
theorem s_asgv {i : Nat} {e : E} (h : WE Φ e fr S fun x S1 => PO (.nx (fr.set i (some x))) S1) : WS Φ (.asg (.v i) e) fr S PO := s_asgW (h.imp fun x S1 _ h => ⟨_, rfl, h⟩)
end
theorem b_div {S : Store} {i j : Int} (h : 0 < j) (h2 : j < 1073741824) : binD .FloorDiv S (.int i) (.int j) = some (.int (i / j)) := by
  show (if 0 < j ∧ (j < 1073741824 ∨ j.natAbs.log2 < 9000) then some (D.int (i / j)) else none) = _
  rw [if_pos ⟨h, .inl h2⟩]
theorem b_mod {S : Store} {i j : Int} (h : 0 < j) : binD .Mod S (.int i) (.int j) = some (.int (i % j)) := by
  show (if 0 < j then some (D.int (i % j)) else none) = _
  rw [if_pos h]
theorem b_mulR {S : Store} {i j : Int} (h : -1000000000000 < j) (h2 : j < 1000000000000) : binD .Mult S (.int i) (.int j) = some (.int (i * j)) := by
  show (if CMulB i j = true then some (D.int (i * j)) else none) = _
  rw [if_pos]
  unfold CMulB
  have a : decide (-(2 ^ 64) < j) = true := decide_eq_true (by omega)
  have b : decide (j < 2 ^ 64) = true := decide_eq_true (by omega)
  rw [a, b]
  simp
theorem b_mulL {S : Store} {i j : Int} (h : -1000000000000 < i) (h2 : i < 1000000000000) : binD .Mult S (.int i) (.int j) = some (.int (i * j)) := by
  show (if CMulB i j = true then some (D.int (i * j)) else none) = _
  rw [if_pos]
  unfold CMulB
  have a : decide (-(2 ^ 64) < i) = true := decide_eq_true (by omega)
  have b : decide (i < 2 ^ 64) = true := decide_eq_true (by omega)
  rw [a, b]
  simp
theorem b_addT {S : Store} {a b : List D} (h : a.length + b.length ≤ 1000) : binD .Add S (.tup a) (.tup b) = some (.tup (a ++ b)) := by
  show (if a.length + b.length ≤ sizeLine then some (D.tup (a ++ b)) else none) = _
  rw [if_pos (small_ok h)]
theorem b_addL {S : Store} {a b : List D} (h : a.length + b.length ≤ 1000) : binD .Add S (.lst a) (.lst b) = some (.lst (a ++ b)) := by
  show (if a.length + b.length ≤ sizeLine then some (D.lst (a ++ b)) else none) = _
  rw [if_pos (small_ok h)]
theorem w_ret {P : D → Store → Prop} {k : Nat} {d : D} {S : Store} (h : P d S) (hn : k = S.length) : RPost P (cutR k d S) := w_cut0 h hn
theorem w_ok {α : Type} {P : α → Store → Prop} {a : α} {S : Store} (h : P a S) : RPost P (.ok a S) := h
theorem filter_all {α : Type} (l : List α) : l.filter (fun _ => true) = l := List.filter_eq_self.mpr fun _ _ => rfl
theorem ints_of : ∀ ns : List Int, intsD (ns.map .int) = some ns
  | [] => rfl
  | n :: ns => by
    show (intsD (ns.map .int)).map (n :: ·) = _
    rw [ints_of ns]; rfl
theorem bools_of : ∀ ns : List Bool, boolsD (ns.map .bl) = some ns
  | [] => rfl
  | n :: ns => by
    show (boolsD (ns.map .bl)).map (n :: ·) = _
    rw [bools_of ns]; rfl
theorem strs_of : ∀ ns : List Str, strsD (ns.map .str) = some ns
  | [] => rfl
  | n :: ns => by
    show (strsD (ns.map .str)).map (n :: ·) = _
    rw [strs_of ns]; rfl
theorem cut_nat (l : List D) (a b : Nat) : cutD l (some (a : Int)) (some (b : Int)) = (l.drop a).take (b - a) := by
  unfold cutD
  rw [HT.sIx_nat, HT.sIx_nat]
  by_cases ha : a ≤ l.length
  · rw [Nat.min_eq_left ha]
    by_cases hb : b ≤ l.length
    · rw [Nat.min_eq_left hb]
    · rw [Nat.min_eq_right (by omega), List.take_of_length_le (by rw [List.length_drop]; omega), List.take_of_length_le (by rw [List.length_drop]; omega)]
  · rw [show min a l.length = l.length from Nat.min_eq_right (by omega), List.drop_of_length_le (Nat.le_refl _), List.drop_of_length_le (by omega)]; simp
theorem cut_to (l : List D) (b : Nat) : cutD l none (some (b : Int)) = l.take b := by
  unfold cutD
  rw [HT.sIx_none, HT.sIx_nat, List.drop_zero, Nat.sub_zero]
  by_cases hb : b ≤ l.length
  · rw [Nat.min_eq_left hb]
  · rw [Nat.min_eq_right (by omega), List.take_of_length_le (Nat.le_refl _), List.take_of_length_le (by omega)]
theorem cut_from (l : List D) (a : Nat) : cutD l (some (a : Int)) none = l.drop a := by
  unfold cutD
  rw [HT.sIx_none, HT.sIx_nat]
  by_cases ha : a ≤ l.length
  · rw [Nat.min_eq_left ha, List.take_of_length_le (by rw [List.length_drop]; exact Nat.le_refl _)]
  · rw [Nat.min_eq_right (by omega), List.drop_of_length_le (Nat.le_refl _), List.drop_of_length_le (by omega)]; simp
theorem bi_sumL {S : Store} (ns : List Int) : biD .sum S [.lst (ns.map .int)] = some (.int ns.sum) := by
  show (intsD (ns.map .int)).map (fun ns => D.int ns.sum) = _
  rw [ints_of]; rfl
theorem bi_sumT {S : Store} (ns : List Int) : biD .sum S [.tup (ns.map .int)] = some (.int ns.sum) := by
  show (intsD (ns.map .int)).map (fun ns => D.int ns.sum) = _
  rw [ints_of]; rfl
def minZ (ns : List Int) : Int := ns.min?.getD 0
def maxZ (ns : List Int) : Int := ns.max?.getD 0
theorem bi_min {S : Store} {ns : List Int} (h : ns ≠ []) : biD .min1 S [.lst (ns.map .int)] = some (.int (minZ ns)) := by
  show ((intsD (ns.map .int)).bind fun ns => (minL ns).map D.int) = _
  rw [ints_of]
  show (ns.min?).map D.int = _
  cases ns with
  | nil => exact absurd rfl h
  | cons => rfl
theorem bi_max {S : Store} {ns : List Int} (h : ns ≠ []) : biD .max1 S [.lst (ns.map .int)] = some (.int (maxZ ns)) := by
  show ((intsD (ns.map .int)).bind fun ns => (maxL ns).map D.int) = _
  rw [ints_of]
  show (ns.max?).map D.int = _
  cases ns with
  | nil => exact absurd rfl h
  | cons => rfl
theorem range_nat (k : Nat) (h : k < 1000000) : rangeD [.int (k : Int)] = some ((List.range k).map fun j => D.int (j : Nat)) := by
  have e : rangeD [.int (k : Int)] = if inR (k : Int) = true then some ((List.range (k : Int).toNat).map fun k => D.int (k : Nat)) else none := by unfold rangeD; rfl
  rw [e, if_pos (inR_iff.2 (by omega)), Int.toNat_natCast]
theorem range_two (a b : Int) (ha : -1000000 < a) (hb : b < 1000000) (ha2 : a < 1000000) (hb2 : -1000000 < b) : rangeD [.int a, .int b] = some ((List.range (b - a).toNat).map fun j => D.int (a + (j : Nat))) := by
  show (if inR a = true ∧ inR b = true then some ((List.range (b - a).toNat).map fun k => D.int (a + (k : Nat))) else none) = _
  rw [if_pos ⟨inR_iff.2 (by omega), inR_iff.2 (by omega)⟩]
theorem w_comp_pure {p : Pat} {t : Fr → Store → Res Bool} {e : Fr → Store → Res D} {fr : Fr} {S : Store} {PL : List D → Store → Prop} {α : Type} (d : α → D) (T : α → Bool) (f : α → D) (l : List α) {L : List D} (hL : L = l.map d) (hl : l.length ≤ sizeLine)
    (step : ∀ a ∈ l, ∃ fr1, asgP p (d a) fr = some fr1 ∧ t fr1 S = .ok (T a) S ∧ (T a = true → e fr1 S = .ok (f a) S)) (h : PL ((l.filter T).map f) S) : RPost PL (compF p t e fr L [] S) := by
  subst hL
  rw [comp_pure d T f l hl step]
  exact h
mutual
/-- its texts are texts that a script may hold -/
def D.sok : D → Bool
  | .str x => PyData.strOk x
  | .tup l => D.sokL l
  | .lst l => D.sokL l
  | _ => true
termination_by structural d => d
def D.sokL : List D → Bool
  | [] => true
  | d :: l => D.sok d && D.sokL l
termination_by structural l => l
end
mutual
theorem lay_py : ∀ d : D, d.sok = true → d.py.canLay0 = true
  | .non, _ => by simp [D.py, PyData.canLay0]
  | .bl _, _ => by simp [D.py, PyData.canLay0]
  | .int _, _ => by simp [D.py, PyData.canLay0]
  | .str x, h => by
    have h : PyData.strOk x = true := h
    simp [D.py, PyData.canLay0, h]
  | .tup l, h => by simp [D.py, PyData.canLay0, lay_pyL l h]
  | .lst l, h => by simp [D.py, PyData.canLay0, lay_pyL l h]
  | .ref _, _ => by simp [D.py, PyData.canLay0]
  | .frz _, _ => by simp [D.py, PyData.canLay0]
  | .itr _, _ => by simp [D.py, PyData.canLay0]
theorem lay_pyL : ∀ l : List D, D.sokL l = true → PyData.canLayAll0 (D.pyL l) = true
  | [], _ => by simp [D.pyL, PyData.canLayAll0]
  | d :: l, h => by
    have h : (d.sok && D.sokL l) = true := h
    rw [Bool.and_eq_true] at h
    simp [D.pyL, PyData.canLayAll0, lay_py d h.1, lay_pyL l h.2]
end
theorem cmp_of {d : D} (hp : d.pure = true) (hs : d.sok = true) (hd : d.py.depth ≤ 64) : d.cmpOk = true := by
  unfold D.cmpOk SeqAt.shaped
  rw [hp, lay_py d hs, decide_eq_true hd]
  rfl
/-- data that can be compared, by depth -/
structure Cmp (k : Nat) (d : D) : Prop where
  p : d.pure = true
  s : d.sok = true
  d : d.py.depth ≤ k
theorem Cmp.ok {k : Nat} {d : D} (h : Cmp k d) (hk : k ≤ 64) : d.cmpOk = true := cmp_of h.p h.s (Nat.le_trans h.d hk)
theorem Cmp.le {k m : Nat} {d : D} (h : Cmp k d) (hm : k ≤ m) : Cmp m d := ⟨h.p, h.s, Nat.le_trans h.d hm⟩
theorem Cmp.non : Cmp 0 .non := ⟨rfl, rfl, by show PyData.none.depth ≤ 0; rw [PyData.depth]; exact Nat.le_refl _⟩
theorem Cmp.bl (b : Bool) : Cmp 0 (.bl b) := ⟨rfl, rfl, by show (PyData.bool b).depth ≤ 0; rw [PyData.depth]; exact Nat.le_refl _⟩
theorem Cmp.int (i : Int) : Cmp 0 (.int i) := ⟨rfl, rfl, by show (PyData.int i).depth ≤ 0; rw [PyData.depth]; exact Nat.le_refl _⟩
theorem Cmp.str {x : Str} (h : PyData.strOk x = true) : Cmp 0 (.str x) := ⟨rfl, h, by show (PyData.str x).depth ≤ 0; rw [PyData.depth]; exact Nat.le_refl _⟩
theorem cmp_all {k : Nat} : ∀ {l : List D}, (∀ x ∈ l, Cmp k x) → D.pureL l = true ∧ D.sokL l = true ∧ PyData.depthAll (D.pyL l) ≤ k
  | [], _ => ⟨rfl, rfl, by simp [D.pyL, PyData.depthAll]⟩
  | d :: l, h => by
    have h1 := h d List.mem_cons_self
    obtain ⟨a, b, c⟩ := cmp_all (l := l) fun x hx => h x (List.mem_cons_of_mem _ hx)
    refine ⟨?_, ?_, ?_⟩
    · show (d.pure && D.pureL l) = true
      rw [h1.p, a]; rfl
    · show (d.sok && D.sokL l) = true
      rw [h1.s, b]; rfl
    · show PyData.depthAll (d.py :: D.pyL l) ≤ k
      rw [PyData.depthAll]
      have := h1.d
      omega
theorem Cmp.tup {k : Nat} {l : List D} (h : ∀ x ∈ l, Cmp k x) : Cmp (k + 1) (.tup l) := by
  obtain ⟨a, b, c⟩ := cmp_all h
  refine ⟨a, b, ?_⟩
  show (PyData.tuple (D.pyL l)).depth ≤ k + 1
  rw [PyData.depth]; omega
theorem Cmp.lst {k : Nat} {l : List D} (h : ∀ x ∈ l, Cmp k x) : Cmp (k + 1) (.lst l) := by
  obtain ⟨a, b, c⟩ := cmp_all h
  refine ⟨a, b, ?_⟩
  show (PyData.list (D.pyL l)).depth ≤ k + 1
  rw [PyData.depth]; omega
theorem cmp_strs {l : List Str} (h : ∀ x ∈ l, PyData.strOk x = true) : Cmp 1 (.lst (l.map .str)) := .lst fun x hx => by
  obtain ⟨s, hs, rfl⟩ := List.mem_map.mp hx
  exact .str (h s hs)
theorem cmp_ints (l : List Int) : Cmp 1 (.lst (l.map .int)) := .lst fun x hx => by
  obtain ⟨s, _, rfl⟩ := List.mem_map.mp hx
  exact .int s
theorem eqv_str (x y : Str) : PyData.eqv (D.str x).py (D.str y).py = (x == y) := by
  show PyData.eqv (.str x) (.str y) = _
  simp [PyData.eqv]
theorem in_lst {S : Store} {x : D} {l : List D} {k m : Nat} (hx : Cmp k x) (hl : Cmp m (.lst l)) (hk : k ≤ 64) (hm : m ≤ 64) : cmpD .In S x (.lst l) = some (l.any fun e => PyData.eqv e.py x.py) := by
  show (if (x.cmpOk && (D.lst l).cmpOk) = true then some (l.any fun e => PyData.eqv e.py x.py) else none) = _
  rw [hx.ok hk, hl.ok hm]
  rfl
theorem in_strs {S : Store} {x : Str} {l : List Str} (hx : PyData.strOk x = true) (hl : ∀ y ∈ l, PyData.strOk y = true) : cmpD .In S (.str x) (.lst (l.map .str)) = some (l.any fun y => y == x) := by
  rw [in_lst (.str hx) (cmp_strs hl) (by decide) (by decide), List.any_map]
  refine congrArg some (congrArg l.any (funext fun y => eqv_str y x))
theorem idx_strs {x : Str} : ∀ {l : List Str} {k : Nat}, l[k]? = some x → (∀ j, j < k → l[j]? ≠ some x) → idxOf (.str x) (l.map .str) = some k
  | [], k, h, _ => by simp at h
  | y :: l, 0, h, _ => by
    cases h
    show (if PyData.eqv (D.str x).py (D.str x).py = true then some 0 else _) = _
    rw [eqv_str, if_pos (by simp)]
  | y :: l, k + 1, h, hn => by
    have hy : (y == x) = false := by
      rw [beq_eq_false_iff_ne]
      rintro rfl
      exact hn 0 (Nat.zero_lt_succ _) rfl
    show (if PyData.eqv (D.str y).py (D.str x).py = true then some 0 else (idxOf (.str x) (l.map .str)).map (· + 1)) = _
    rw [eqv_str, hy, if_neg (by decide), idx_strs (l := l) (k := k) h fun j hj => hn (j + 1) (Nat.succ_lt_succ hj)]
    rfl
theorem me_index {S : Store} {x : Str} {l : List Str} {k : Nat} (hx : PyData.strOk x = true) (hl : ∀ y ∈ l, PyData.strOk y = true) (h : l[k]? = some x) (hn : ∀ j, j < k → l[j]? ≠ some x) : meD .index S (.lst (l.map .str)) [.str x] = some (.int (k : Nat)) := by
  show (if ((D.str x).cmpOk && (D.lst (l.map .str)).cmpOk) = true then (idxOf (.str x) (l.map .str)).map fun (k : Nat) => D.int k else none) = _
  rw [(Cmp.str hx).ok (by decide), (cmp_strs hl).ok (by decide), idx_strs h hn]
  rfl
theorem md_ints {S : Store} (mx : Bool) (ns : List Int) (d : D) : mdD mx S (.lst (ns.map .int)) d = some (match (if mx then maxL ns else minL ns) with | some m => .int m | none => d) := by
  show (intsD (ns.map .int)).map _ = _
  rw [ints_of]
  rfl
theorem range_one {i : Int} (h0 : -1000000 < i) (h : i < 1000000) : rangeD [.int i] = some ((List.range i.toNat).map fun j => D.int (j : Nat)) := by
  have e : rangeD [.int i] = if inR i = true then some ((List.range i.toNat).map fun k => D.int (k : Nat)) else none := by unfold rangeD; rfl
  rw [e, if_pos (inR_iff.2 (by omega))]
theorem eqv_int (x y : Int) : PyData.eqv (D.int x).py (D.int y).py = decide (x = y) := by
  show PyData.eqv (.int x) (.int y) = _
  rw [PyData.eqv]
  by_cases h : x = y <;> simp [h]
theorem eq_of_cmp {S : Store} {x y : D} {k m : Nat} (hx : Cmp k x) (hy : Cmp m y) (hk : k ≤ 64) (hm : m ≤ 64) (px : peek S x = x) (py : peek S y = y) : cmpD .Eq S x y = some (PyData.eqv x.py y.py) := by
  show eqD S x y = _
  unfold eqD
  rw [px, py, hx.ok hk, hy.ok hm]
  rfl
theorem b_eqI {S : Store} {a b : Int} : cmpD .Eq S (.int a) (.int b) = some (decide (a = b)) := by
  rw [eq_of_cmp (.int a) (.int b) (by decide) (by decide) rfl rfl, eqv_int]
theorem b_neI {S : Store} {a b : Int} : cmpD .NotEq S (.int a) (.int b) = some (!decide (a = b)) := by
  show (eqD S (.int a) (.int b)).map (!·) = _
  rw [show eqD S (.int a) (.int b) = some (decide (a = b)) from b_eqI]
  rfl
theorem b_eqS {S : Store} {a b : Str} (ha : PyData.strOk a = true) (hb : PyData.strOk b = true) : cmpD .Eq S (.str a) (.str b) = some (a == b) := by
  rw [eq_of_cmp (.str ha) (.str hb) (by decide) (by decide) rfl rfl, eqv_str]
theorem b_neS {S : Store} {a b : Str} (ha : PyData.strOk a = true) (hb : PyData.strOk b = true) : cmpD .NotEq S (.str a) (.str b) = some (!(a == b)) := by
  show (eqD S (.str a) (.str b)).map (!·) = _
  rw [show eqD S (.str a) (.str b) = some (a == b) from b_eqS ha hb]
  rfl
/-- l == [], l != [] of lists that can be compared -/
theorem b_eqN {S : Store} {l : List D} {k : Nat} (h : Cmp k (.lst l)) (hk : k ≤ 64) : cmpD .Eq S (.lst l) (.lst []) = some l.isEmpty := by
  rw [eq_of_cmp h (Cmp.lst (k := 0) (l := []) fun _ h => by cases h) hk (by decide) rfl rfl]
  show some (PyData.eqv (.list (D.pyL l)) (.list [])) = _
  cases l with
  | nil => simp [D.pyL, PyData.eqv, PyData.eqvAll]
  | cons => simp [D.pyL, PyData.eqv, PyData.eqvAll]
theorem b_neN {S : Store} {l : List D} {k : Nat} (h : Cmp k (.lst l)) (hk : k ≤ 64) : cmpD .NotEq S (.lst l) (.lst []) = some (!l.isEmpty) := by
  show (eqD S (.lst l) (.lst [])).map (!·) = _
  rw [show eqD S (.lst l) (.lst []) = some l.isEmpty from b_eqN h hk]
  rfl
theorem w_bool {b : Bool} {A B : Prop} (h1 : b = true → A) (h2 : b = false → B) : if b = true then A else B := by
  cases b with
  | true => rw [if_pos rfl]; exact h1 rfl
  | false => rw [if_neg (by decide)]; exact h2 rfl
theorem s_zallW {Φ : Fns} {fr : Fr} {S : Store} {PO : Out → Store → Prop} {i : Nat} {a b e : E} {own : List (Str × Nat)} {p : Pat} (h : WE Φ a fr S fun x S1 => WE Φ b fr S1 fun y S2 => ∃ l m, x = .tup l ∧ y = .tup m ∧ i < fr.length ∧
    RPost (fun r S3 => ∃ bs, boolsD r = some bs ∧ PO (.ret (.bl (bs.all id))) S3) (compF p (evTs Φ []) (evE Φ e) (wipeF (fr.set i none) (own.map (·.2))) (zipD l m) [] S2)) : WS Φ (.zall i a b own p e) fr S PO :=
  wbind (h.imp fun x S1 _ h => wbind (h.imp fun y S2 _ ⟨l, m, e1, e2, hi, h9⟩ => by
    subst e1
    subst e2
    show RPost PO (if i < fr.length then (compF p (evTs Φ []) (evE Φ e) (wipeF (fr.set i none) (own.map (·.2))) (zipD l m) [] S2).bind fun r S3 => match boolsD r with
      | some bs => .ok (.ret (.bl (bs.all id))) S3
      | none => .no
      else .no)
    rw [if_pos hi]
    refine wbind (h9.imp fun r S3 _ ⟨bs, e, h8⟩ => ?_)
    rw [e]; exact h8))
theorem zipD_map {α : Type} (f g : α → D) : ∀ l : List α, zipD (l.map f) (l.map g) = l.map fun a => .tup [f a, g a]
  | [] => rfl
  | a :: l => by
    show D.tup [f a, g a] :: zipD (l.map f) (l.map g) = _
    rw [zipD_map f g l]; rfl
theorem fuel_at (P : Prog) (w : Nat) : ∀ n, (fnsAt P w n).fuel = w
  | 0 => rfl
  | _ + 1 => rfl
theorem w_nif {A B : Prop} (h : A) : if (!false) = true then A else B := by rw [if_pos (by decide)]; exact h
theorem w_nit {A B : Prop} (h : B) : if (!true) = true then A else B := by rw [if_neg (by decide)]; exact h
theorem txt_one (z x : Str) : Txt.join z [x] = x := rfl
theorem me_join1 {S : Store} {x : Str} (h : x.length ≤ 1000) : meD .join S (.str "") [.lst [.str x]] = some (.str x) := by
  show (if ([x].map (·.length)).sum + [x].length * ("" : Str).length ≤ 16777216 then some (D.str (Txt.join "" [x])) else none) = _
  rw [if_pos]
  · rfl
  · show x.length + 0 + 1 * 0 ≤ 16777216
    omega
theorem b_nilne {S : Store} : cmpD .NotEq S (.lst []) (.lst []) = some false := b_neN (k := 1) (Cmp.lst (k := 0) (l := []) fun _ h => by cases h) (by decide)
theorem b_nileq {S : Store} : cmpD .Eq S (.lst []) (.lst []) = some true := b_eqN (k := 1) (Cmp.lst (k := 0) (l := []) fun _ h => by cases h) (by decide)
/-- a dict comprehension whose parts make nothing -/
theorem dcomp_pure {p : Pat} {t : Fr → Store → Res Bool} {key val : Fr → Store → Res D} {fr : Fr} {S : Store} {α : Type} (d : α → D) (ks : α → Key) (f : α → D) : ∀ (l : List α) (acc : List (D × D)), acc.length + l.length ≤ sizeLine →
    (∀ a ∈ l, ∃ fr1, asgP p (d a) fr = some fr1 ∧ t fr1 S = .ok true S ∧ key fr1 S = .ok (keyD (ks a)) S ∧ val fr1 S = .ok (f a) S) → dcompF p t key val fr (l.map d) acc S = .ok (mergeD acc (l.map fun a => (ks a, f a))) S
  | [], acc, _, _ => rfl
  | a :: l, acc, hl, h => by
    obtain ⟨fr1, e1, e2, e3, e4⟩ := h a List.mem_cons_self
    rw [List.length_cons] at hl
    have hk : keyOf (keyD (ks a)) = some (ks a) := by cases ks a <;> rfl
    show (match asgP p (d a) fr with | none => Res.no | some fr' => (t fr' S).bind fun b S1 => if b = true then (key fr' S1).bind fun y S2 => (val fr' S2).bind fun z S3 => (match keyOf y with | some k => if acc.length < sizeLine then dcompF p t key val fr (l.map d) (putD acc k z) S3 else .no | none => .no) else dcompF p t key val fr (l.map d) acc S1) = _
    rw [e1]
    show (t fr1 S).bind _ = _
    rw [e2, Res.bind_ok, if_pos rfl, e3, Res.bind_ok, e4, Res.bind_ok]
    show (match keyOf (keyD (ks a)) with | some k => if acc.length < sizeLine then dcompF p t key val fr (l.map d) (putD acc k (f a)) S else .no | none => .no) = _
    rw [hk]
    show (if acc.length < sizeLine then _ else _) = _
    rw [if_pos (by omega)]
    refine dcomp_pure d ks f l _ ?_ fun b hb => h b (List.mem_cons_of_mem _ hb)
    have : (putD acc (ks a) (f a)).length ≤ acc.length + 1 := by
      unfold putD
      split
      · rw [List.length_map]; exact Nat.le_succ _
      · rw [List.length_append]; exact Nat.le_refl _
    omega
/-! what a dict says -/
theorem merge_nodup : ∀ (ps : List (Key × D)) (acc : List (D × D)), (∀ p ∈ ps, (acc.any fun q => keyB p.1 q.1) = false) → (ps.map (·.1)).Nodup → mergeD acc ps = acc ++ ps.map fun p => (keyD p.1, p.2)
  | [], acc, _, _ => (List.append_nil acc).symm
  | p :: ps, acc, h, hd => by
    rw [List.map_cons, List.nodup_cons] at hd
    have h0 := h p List.mem_cons_self
    have e : putD acc p.1 p.2 = acc ++ [(keyD p.1, p.2)] := by
      unfold putD
      rw [h0]; rfl
    show mergeD (putD acc p.1 p.2) ps = _
    rw [e, merge_nodup ps _ (fun q hq => ?_) hd.2, List.append_assoc]
    · rfl
    · rw [List.any_append, h q (List.mem_cons_of_mem _ hq), Bool.false_or, List.any_cons, List.any_nil, Bool.or_false]
      show keyB q.1 (keyD p.1) = false
      rw [keyB_iff]
      exact decide_eq_false fun e => hd.1 (List.mem_map.mpr ⟨q, hq, e.symm⟩)
theorem merge_nd (ps : List (Key × D)) (hd : (ps.map (·.1)).Nodup) : mergeD [] ps = ps.map fun p => (keyD p.1, p.2) := merge_nodup ps [] (fun _ _ => rfl) hd
theorem look_map (k : Key) : ∀ ps : List (Key × D), lookD (ps.map fun p => (keyD p.1, p.2)) k = (ps.find? fun p => decide (p.1 = k)).map (·.2)
  | [] => rfl
  | p :: ps => by
    have ih := look_map k ps
    unfold lookD at ih ⊢
    rw [List.map_cons, List.find?_cons, List.find?_cons]
    show Option.map _ (match keyB k (keyD p.1) with | true => some (keyD p.1, p.2) | false => _) = _
    rw [keyB_iff]
    cases decide (p.1 = k) with
    | true => rfl
    | false => exact ih
end Dm

/-! DmZ: what is known of the module, as lists. -/
namespace Dm
open PySem L2
def AllDef (K : PySem.W.Frag) : List (Str × Nat) → List Stmt → Prop
  | [], _ => True
  | x :: xs, st :: sts => DefAt K x.1 st ∧ AllDef K xs sts
  | _ :: _, [] => False
def AllCon (K : PySem.W.Frag) : List Str → List D → Prop
  | [], _ => True
  | x :: xs, d :: ds => ConstAt K x d ∧ AllCon K xs ds
  | _ :: _, [] => False
def AllBlt (K : PySem.W.Frag) : List Str → Prop
  | [] => True
  | x :: xs => (PySem.W.nsIn K mainGlobals x = some none ∧ x ≠ "__name__") ∧ AllBlt K xs
theorem AllDef.at_ {K : PySem.W.Frag} : ∀ {xs : List (Str × Nat)} {sts : List Stmt}, AllDef K xs sts → ∀ (i : Nat) (x : Str) (np : Nat), xs[i]? = some (x, np) → ∃ st, sts[i]? = some st ∧ DefAt K x st
  | [], _, _, i, _, _, e => by simp at e
  | x :: xs, st :: sts, h, 0, _, _, e => by cases e; exact ⟨st, rfl, h.1⟩
  | x :: xs, st :: sts, h, i + 1, y, np, e => AllDef.at_ (xs := xs) h.2 i y np e
  | _ :: _, [], h, _, _, _, _ => h.elim
theorem AllCon.at_ {K : PySem.W.Frag} : ∀ {xs : List Str} {ds : List D}, AllCon K xs ds → ∀ (i : Nat) (x : Str), xs[i]? = some x → ∃ d, ds[i]? = some d ∧ ConstAt K x d
  | [], _, _, i, _, e => by simp at e
  | x :: xs, d :: ds, h, 0, _, e => by cases e; exact ⟨d, rfl, h.1⟩
  | x :: xs, d :: ds, h, i + 1, y, e => AllCon.at_ (xs := xs) h.2 i y e
  | _ :: _, [], h, _, _, _ => h.elim
theorem AllBlt.at_ {K : PySem.W.Frag} : ∀ {xs : List Str}, AllBlt K xs → ∀ x ∈ xs, PySem.W.nsIn K mainGlobals x = some none ∧ x ≠ "__name__"
  | _ :: xs, h, x, hx => by
    rcases List.mem_cons.mp hx with rfl | hx
    · exact h.1
    · exact AllBlt.at_ h.2 x hx
theorem Mod.of {T : Tab} {Pg : Prog} {sts : List Stmt} {K : PySem.W.Frag} (h1 : AllDef K T.fns sts) (h2 : AllCon K T.cns Pg.consts) (h3 : AllBlt K T.blt) (h4 : PySem.W.nsIn K mainGlobals T.gcd = some (some (.builtin "math.gcd")) ∨ T.gcd = "") : Mod T Pg sts K :=
  ⟨h1.at_, h2.at_, h3.at_, h4⟩
theorem con_int {K : PySem.W.Frag} {x : Str} {i : Int} {t : Tok} (h : PySem.W.nsIn K mainGlobals x = some (some (.int i t))) : ConstAt K x (.int i) := ⟨_, .int i, h, ⟨t, rfl⟩, .int i⟩
theorem con_tup2 {K : PySem.W.Frag} {x : Str} {i j : Int} {t u : Tok} {a : Addr} {dd : Option Addr} {sl : Array (Option Value)} {k : Nat} (h : PySem.W.nsIn K mainGlobals x = some (some (.ref a))) (hl : K.lookup a = some ⟨.type "tuple", dd, .seq #[.int i t, .int j u] k, sl⟩) : ConstAt K x (.tup [.int i, .int j]) :=
  ⟨_, .ref a, h, rfl, .tup (xs := [.int i, .int j]) (.inr ⟨_, _, _, hl, rfl, rfl, by show 2 ≤ sizeLine; decide, .cons ⟨t, rfl⟩ (.cons ⟨u, rfl⟩ .nil)⟩) (.cons (.int i) (.cons (.int j) .nil))⟩
theorem def_mk {K : PySem.W.Frag} {x : Str} {st : Stmt} {f : Addr} {oc : Value} {od an : Option Addr} {sl : Array (Option Value)} {kV dc pm cd ct : Value} (h1 : PySem.W.nsIn K mainGlobals x = some (some (.ref f))) (h2 : K.lookup f = some ⟨oc, od, .func (PySem.W.fnOf x x (defArgs st) (defBody st) (defScope st) .none kV dc pm an cd ct), sl⟩)
    (h3 : PySem.W.codeIn K cd x = true) (h4 : PySem.W.keepIn K (.ref f) = true) : DefAt K x st := ⟨⟨f, oc, od, an, sl, kV, dc, pm, cd, ct, h1, h2, h3, h4⟩⟩
theorem con_str {K : PySem.W.Frag} {x : Str} {z : Str} {t : Tok} (h : PySem.W.nsIn K mainGlobals x = some (some (.str z t))) : ConstAt K x (.str z) := ⟨_, .str z, h, ⟨t, rfl⟩, .str z⟩
def StrsV : List Value → List Str → Prop
  | [], [] => True
  | v :: vs, x :: xs => (∃ t, v = .str x t) ∧ StrsV vs xs
  | _, _ => False
theorem StrsV.vals : ∀ {vs : List Value} {xs : List Str}, StrsV vs xs → Vals (xs.map V.str) vs
  | [], [], _ => .nil
  | _ :: _, _ :: _, h => .cons h.1 (StrsV.vals h.2)
  | [], _ :: _, h => h.elim
  | _ :: _, [], h => h.elim
theorem rep_strsC (K : PySem.W.Frag) (g : G) : ∀ xs : List Str, RepL K g (xs.map .str) (xs.map V.str)
  | [] => .nil
  | x :: xs => .cons (.str x) (rep_strsC K g xs)
theorem con_strs {K : PySem.W.Frag} {x : Str} {xs : List Str} {vs : Array Value} {a : Addr} {dd : Option Addr} {sl : Array (Option Value)} {k : Nat} (h : PySem.W.nsIn K mainGlobals x = some (some (.ref a))) (hl : K.lookup a = some ⟨.type "tuple", dd, .seq vs k, sl⟩) (hn : vs.size ≤ sizeLine) (hv : StrsV vs.toList xs) : ConstAt K x (.tup (xs.map .str)) :=
  ⟨_, .ref a, h, rfl, .tup (xs := xs.map V.str) (.inr ⟨_, _, _, hl, rfl, rfl, hn, hv.vals⟩) (rep_strsC K g0 xs)⟩
end Dm

/-! SyA: systems, states, ticks in plain Lean. -/
namespace Dm
open PySem L2
namespace Sy
structure Task where
  nm : Str
  kind : Str
  off : Int
  gap : Int
  due : Int
  least : Int
  most : Int
structure Lock where
  nm : Str
  lk : Str
  lo : Int
  hi : Int
structure Sys where
  mach : Nat
  rule : Str
  brk : Bool
  sup : List Int
  tasks : List Task
  locks : List Lock
structure Row where
  wait : Int
  done : Option Int
  age : Int
structure StT where
  ph : Nat
  rows : List Row
def tD (t : Task) : D := .tup [.str t.nm, .str t.kind, .int t.off, .int t.gap, .int t.due, .int t.least, .int t.most]
def lkD (l : Lock) : D := .tup [.str l.nm, .str l.lk, .int l.lo, .int l.hi]
def sD (s : Sys) : D := .tup [.str "system", .int s.mach, .str s.rule, .bl s.brk, .tup (s.sup.map .int), .tup (s.tasks.map tD), .tup (s.locks.map lkD)]
def oD : Option Int → D
  | none => .non
  | some i => .int i
theorem oD_none : oD none = .non := rfl
theorem oD_some (i : Int) : oD (some i) = .int i := rfl
def rowD (r : Row) : D := .tup [.int r.wait, oD r.done, .int r.age]
def stD (st : StT) : D := .tup [.str "state", .int st.ph, .tup (st.rows.map rowD)]
def each : Str := "each"
def anyK : Str := "any"
def isEach (t : Task) : Bool := t.kind == each
structure Task.Ok (t : Task) : Prop where
  kind : t.kind = each ∨ t.kind = anyK
  gap : 1 ≤ t.gap ∧ t.gap ≤ 20
  due : 1 ≤ t.due ∧ t.due ≤ t.gap
  most : 1 ≤ t.least ∧ t.least ≤ t.most ∧ t.most ≤ t.due
  off : 0 ≤ t.off ∧ t.off ≤ 20
def nms (s : Sys) : List Str := s.tasks.map (·.nm)
structure Sys.Ok (s : Sys) : Prop where
  mach : 1 ≤ s.mach ∧ s.mach ≤ 3
  rule : s.rule = "fixed" ∨ s.rule = "nearest" ∨ s.rule = "oldest" ∨ s.rule = "slack"
  sup : 1 ≤ s.sup.length ∧ s.sup.length ≤ 12
  bits : ∀ b ∈ s.sup, b = 0 ∨ b = 1
  task : ∀ t ∈ s.tasks, t.Ok
  few : s.tasks.length ≤ 6
  nd : (nms s).Nodup
  nmOk : ∀ t ∈ s.tasks, PyData.strOk t.nm = true ∧ t.nm.length ≤ 10
  lkOk : ∀ l ∈ s.locks, PyData.strOk l.nm = true ∧ l.nm.length ≤ 10 ∧ PyData.strOk l.lk = true ∧ l.lk.length ≤ 10
  lock : ∀ l ∈ s.locks, ∃ t ∈ s.tasks, t.nm = l.nm ∧ 0 ≤ l.lo ∧ l.lo < l.hi ∧ l.hi ≤ t.most
  fewl : s.locks.length ≤ 6
  free : s.locks ≠ [] → s.mach = 1 ∧ s.rule = "fixed" ∧ s.brk = true
def RowOk (t : Task) (r : Row) : Prop := (0 ≤ r.wait ∧ (r.wait ≤ t.off ∨ r.wait ≤ t.gap)) ∧ match r.done with
  | none => r.age = 0
  | some d => (0 ≤ d ∧ d < t.most) ∧ (0 ≤ r.age ∧ r.age < t.due) ∧ r.age = t.gap - r.wait
/-- the locks that a task holds at this much of its job -/
def heldL (s : Sys) (nm : Str) (d : Int) : List Str := (s.locks.filter fun l => l.nm == nm && (decide (l.lo < d) && decide (d < l.hi))).map (·.lk)
def heldO (s : Sys) (nm : Str) : Option Int → List Str
  | none => []
  | some d => heldL s nm d
/-- there is a row of this task for one of these locks -/
def rowOf (s : Sys) (held : List Str) (t : Task) : Bool := s.locks.any fun l => l.nm == t.nm && decide (l.lk ∈ held)
def rowAtB (s : Sys) (held : List Str) (k : Nat) : Bool := match s.tasks[k]? with
  | some t => rowOf s held t
  | none => false
def placeL (s : Sys) (held : List Str) (at_ : Nat) : Nat := ((List.range s.tasks.length).filter (rowAtB s held)).foldl min at_
def begB (s : Sys) (d : Int) : Int := if s.brk = false ∧ 0 < d then 0 else 1
def onum (l : List Str) : Int := if l = [] then 1 else 0
/-- numbers by which jobs are taken -/
def keyL (s : Sys) (at_ : Nat) (t : Task) (d age : Int) : List Int :=
  if s.rule = "nearest" then [begB s d, t.due - age, at_]
  else if s.rule = "oldest" then [begB s d, 0 - age, at_]
  else if s.rule = "slack" then [begB s d, t.due - age - (t.most - d), at_]
  else [begB s d, placeL s (heldL s t.nm d) at_, onum (heldL s t.nm d), at_]
theorem key_near {s : Sys} {k : Nat} {t : Task} {d age : Int} (e : s.rule = "nearest") : keyL s k t d age = [begB s d, t.due - age, k] := by unfold keyL; rw [if_pos e]
theorem key_old {s : Sys} {k : Nat} {t : Task} {d age : Int} (e : s.rule = "oldest") : keyL s k t d age = [begB s d, 0 - age, k] := by
  unfold keyL; rw [if_neg (by rw [e]; decide), if_pos e]
theorem key_slack {s : Sys} {k : Nat} {t : Task} {d age : Int} (e : s.rule = "slack") : keyL s k t d age = [begB s d, t.due - age - (t.most - d), k] := by
  unfold keyL; rw [if_neg (by rw [e]; decide), if_neg (by rw [e]; decide), if_pos e]
theorem key_fix {s : Sys} {k : Nat} {t : Task} {d age : Int} (e1 : s.rule ≠ "nearest") (e2 : s.rule ≠ "oldest") (e3 : s.rule ≠ "slack") : keyL s k t d age = [begB s d, placeL s (heldL s t.nm d) k, onum (heldL s t.nm d), k] := by
  unfold keyL; rw [if_neg e1, if_neg e2, if_neg e3]
/-- the jobs there are -/
def hasJob (rows : List Row) (k : Nat) : Bool := match rows[k]? with
  | some r => r.done.isSome
  | none => false
def jobsL (rows : List Row) : List Nat := (List.range rows.length).filter (hasJob rows)
def jkey (s : Sys) (rows : List Row) (k : Nat) : List Int := match s.tasks[k]?, rows[k]? with
  | some t, some r => match r.done with
    | some d => keyL s k t d r.age
    | none => []
  | _, _ => []
def jobD (k : List Int) (at_ : Nat) : D := .tup [.tup (k.map .int), .int at_]
def leK (key : Nat → List Int) (i j : Nat) : Bool := PySem.W.dataLe false D.py (jobD (key i) i) (jobD (key j) j)
def leN (a b : Nat) : Bool := decide (a ≤ b)
def runsBy (key : Nat → List Int) (s : Sys) (ph : Nat) (rows : List Row) : List Nat :=
  if s.sup[ph]? = some 0 then [] else (((jobsL rows).mergeSort (leK key)).take s.mach).mergeSort leN
def runsL (s : Sys) (ph : Nat) (rows : List Row) : List Nat := runsBy (jkey s rows) s ph rows
def comes (names : List Str) (t : Task) (r : Row) : Bool := decide (r.wait = 0) && (isEach t || decide (t.nm ∈ names))
def comeL (s : Sys) (rows : List Row) (names : List Str) : List Row := (s.tasks.zip rows).map fun p => if comes names p.1 p.2 then ⟨p.1.gap, some 0, 0⟩ else p.2
def mayCome (t : Task) (r : Row) : Bool := (t.kind == anyK) && decide (r.wait = 0)
def mayL (s : Sys) (rows : List Row) : List Str := ((s.tasks.zip rows).filter fun p => mayCome p.1 p.2).map (·.1.nm)
def mayEnd (t : Task) (r : Row) : Bool := match r.done with
  | some d => decide (t.least ≤ d + 1) && decide (d + 1 < t.most)
  | none => false
def endsL (s : Sys) (rows : List Row) (runs : List Nat) : List Nat := runs.filter fun k => match s.tasks[k]?, rows[k]? with
  | some t, some r => mayEnd t r
  | _, _ => false
def nmAt (s : Sys) (k : Nat) : Str := ((s.tasks[k]?).map (·.nm)).getD ""
def setsL {α : Type} (l : List α) : List (List α) := l.foldl (fun sets x => sets ++ sets.map (· ++ [x])) [[]]
abbrev Ch := List Str × List Str
def chD (c : Ch) : D := .tup [.tup (c.1.map .str), .tup (c.2.map .str)]
/-- all choices as they come -/
def chooseL (s : Sys) (st : StT) : List Ch := (setsL (mayL s st.rows)).flatMap fun some =>
  let rows := comeL s st.rows some
  (setsL ((endsL s rows (runsL s st.ph rows)).map (nmAt s))).map fun e => (some, e)
def leC (a b : Ch) : Bool := PySem.W.dataLe false D.py (chD a) (chD b)
def choicesL (s : Sys) (st : StT) : List Ch := (chooseL s st).mergeSort leC
/-- one row in one tick -/
def ranD (r : Row) (ran : Bool) : Option Int := if ran then r.done.map (· + 1) else r.done
def overB (t : Task) (r : Row) (ran : Bool) (ends : List Str) : Bool := ran && (decide (ranD r ran = some t.most) || decide (t.nm ∈ ends))
def afterR (t : Task) (r : Row) (ran : Bool) (ends : List Str) : Row :=
  if overB t r ran ends then ⟨max 0 (r.wait - 1), none, 0⟩ else match ranD r ran with
    | none => ⟨max 0 (r.wait - 1), none, 0⟩
    | some d => ⟨max 0 (r.wait - 1), some d, r.age + 1⟩
def lateB (t : Task) (r : Row) (ran : Bool) (ends : List Str) : Bool := !overB t r ran ends && (r.done.isSome && decide (r.age + 1 = t.due))
structure LRow where
  come : List Str
  run : List Str
  over : List Str
  late : List Str
def strsT (l : List Str) : D := .tup (l.map .str)
def lrD (r : LRow) : D := .tup [strsT r.come, strsT r.run, strsT r.over, strsT r.late]
def tick (s : Sys) (st : StT) (c : Ch) : LRow × StT :=
  let rows := comeL s st.rows c.1
  let runs := runsL s st.ph rows
  let z := (s.tasks.zip rows).zipIdx
  (⟨((s.tasks.zip st.rows).filter fun p => comes c.1 p.1 p.2).map (·.1.nm), runs.map (nmAt s),
    (z.filter fun p => overB p.1.1 p.1.2 (decide (p.2 ∈ runs)) c.2).map (·.1.1.nm), (z.filter fun p => lateB p.1.1 p.1.2 (decide (p.2 ∈ runs)) c.2).map (·.1.1.nm)⟩,
   ⟨(st.ph + 1) % s.sup.length, z.map fun p => afterR p.1.1 p.1.2 (decide (p.2 ∈ runs)) c.2⟩)
def tkD (x : LRow × StT) : D := .tup [lrD x.1, stD x.2]
def firstL (s : Sys) : StT := ⟨0, s.tasks.map fun t => ⟨t.off, none, 0⟩⟩
end Sy
end Dm

/-! SyB: small helps for the walk. -/
namespace Dm
open PySem L2
theorem x3_l {P : List D → Prop} {l : List D} (h : P l) : ∃ l', (D.lst l = .lst l' ∨ D.lst l = .tup l' ∨ D.lst l = .itr l') ∧ P l' := ⟨l, .inl rfl, h⟩
theorem x3_t {P : List D → Prop} {l : List D} (h : P l) : ∃ l', (D.tup l = .lst l' ∨ D.tup l = .tup l' ∨ D.tup l = .itr l') ∧ P l' := ⟨l, .inr (.inl rfl), h⟩
theorem x3_i {P : List D → Prop} {l : List D} (h : P l) : ∃ l', (D.itr l = .lst l' ∨ D.itr l = .tup l' ∨ D.itr l = .itr l') ∧ P l' := ⟨l, .inr (.inr rfl), h⟩
theorem x2_ll {P : List D → List D → Prop} {l m : List D} (h : P l m) : ∃ l' m', (D.lst l = .lst l' ∨ D.lst l = .tup l') ∧ (D.lst m = .lst m' ∨ D.lst m = .tup m') ∧ P l' m' := ⟨l, m, .inl rfl, .inl rfl, h⟩
theorem x2_lt {P : List D → List D → Prop} {l m : List D} (h : P l m) : ∃ l' m', (D.lst l = .lst l' ∨ D.lst l = .tup l') ∧ (D.tup m = .lst m' ∨ D.tup m = .tup m') ∧ P l' m' := ⟨l, m, .inl rfl, .inr rfl, h⟩
theorem x2_tl {P : List D → List D → Prop} {l m : List D} (h : P l m) : ∃ l' m', (D.tup l = .lst l' ∨ D.tup l = .tup l') ∧ (D.lst m = .lst m' ∨ D.lst m = .tup m') ∧ P l' m' := ⟨l, m, .inr rfl, .inl rfl, h⟩
theorem x2_tt {P : List D → List D → Prop} {l m : List D} (h : P l m) : ∃ l' m', (D.tup l = .lst l' ∨ D.tup l = .tup l') ∧ (D.tup m = .lst m' ∨ D.tup m = .tup m') ∧ P l' m' := ⟨l, m, .inr rfl, .inr rfl, h⟩
theorem enum_map {α : Type} (f : α → D) (l : List α) : enumD (l.map f) = l.zipIdx.map fun p => .tup [.int p.2, f p.1] := by
  unfold enumD
  rw [List.zipIdx_map, List.map_map]; rfl
theorem zip_map {α β : Type} (f : α → D) (g : β → D) (a : List α) (b : List β) : zipD (a.map f) (b.map g) = (a.zip b).map fun p => .tup [f p.1, g p.2] := by
  unfold zipD
  rw [List.zip_map, List.map_map]; rfl
/-- what is evaluated from the front is what it is worth -/
theorem of_w {α : Type} {r : Res α} {a : α} {S : Store} (h : RPost (fun b S' => b = a ∧ S' = S) r) : r = .ok a S := h.eq
theorem w_of {α : Type} {P : α → Store → Prop} {r : Res α} {a : α} {S : Store} (e : r = .ok a S) (h : P a S) : RPost P r := by rw [e]; exact h
/-- sorted(..) of typed things -/
theorem sort_map {α : Type} (d : α → D) (l : List α) : sortD (l.map d) = (l.mergeSort fun a b => PySem.W.dataLe false D.py (d a) (d b)).map d := by
  unfold sortD
  exact (List.map_mergeSort (r := fun a b => PySem.W.dataLe false D.py (d a) (d b)) (s := PySem.W.dataLe false D.py) (f := d) fun a _ b _ => rfl).symm
theorem zi_aux {α β : Type} (P : α × Nat → Bool) (G : α × Nat → β) (P' : Nat → Bool) (G' : Nat → β) : ∀ (l : List α) (k : Nat), (∀ i a, l[i]? = some a → P (a, k + i) = P' (k + i) ∧ (P' (k + i) = true → G (a, k + i) = G' (k + i))) → ((l.zipIdx k).filter P).map G = ((List.range' k l.length).filter P').map G'
  | [], k, _ => rfl
  | a :: l, k, h => by
    have h0 := h 0 a rfl
    rw [Nat.add_zero] at h0
    have ih := zi_aux P G P' G' l (k + 1) fun i b hb => by
      have := h (i + 1) b (by simpa using hb)
      rw [show k + (i + 1) = k + 1 + i by omega] at this
      exact this
    rw [List.zipIdx_cons, List.length_cons, List.range'_succ]
    cases hp : P' k with
    | true =>
      rw [List.filter_cons_of_pos (by rw [h0.1, hp]), List.filter_cons_of_pos hp, List.map_cons, List.map_cons, ih, h0.2 hp]
    | false =>
      rw [List.filter_cons_of_neg (by rw [h0.1, hp]; decide), List.filter_cons_of_neg (by rw [hp]; decide), ih]
/-- places and things, by places alone -/
theorem zi_fm {α β : Type} {P : α × Nat → Bool} {G : α × Nat → β} (P' : Nat → Bool) (G' : Nat → β) (l : List α) (h : ∀ i a, l[i]? = some a → P (a, i) = P' i ∧ (P' i = true → G (a, i) = G' i)) : (l.zipIdx.filter P).map G = ((List.range l.length).filter P').map G' := by
  rw [List.range_eq_range']
  exact zi_aux P G P' G' l 0 fun i a ha => by rw [Nat.zero_add]; exact h i a ha
theorem zi_m {α β : Type} {G : α × Nat → β} (G' : Nat → β) (l : List α) (h : ∀ i a, l[i]? = some a → G (a, i) = G' i) : l.zipIdx.map G = (List.range l.length).map G' := by
  have := zi_fm (P := fun _ => true) (G := G) (fun _ => true) G' l fun i a ha => ⟨rfl, fun _ => h i a ha⟩
  rw [filter_all, filter_all] at this
  exact this
theorem sort_ints (l : List Nat) : sortD (l.map fun n => .int (n : Nat)) = (l.mergeSort fun a b => decide (a ≤ b)).map fun n => .int (n : Nat) := by
  rw [sort_map]
  congr 1
  have : (fun a b : Nat => PySem.W.dataLe false D.py (.int (a : Nat)) (.int (b : Nat))) = fun a b => decide (a ≤ b) := by
    funext a b
    show (!PySem.W.dataLt (.int (b : Nat)) (.int (a : Nat))) = _
    rw [PySem.W.dataLt_int]
    by_cases h : a ≤ b
    · have h1 : ¬ ((b : Int) < a) := by omega
      simp [h, h1]
    · have h1 : ((b : Int) < a) := by omega
      simp [h, h1]
  rw [this]
theorem bi_sorted {S : Store} {l : List D} (h1 : D.pureL l = true) (h2 : sortB (D.pyL l) = true) : biD .sorted S [.lst l] = some (.lst (sortD l)) := by
  show (if (D.pureL l && sortB (D.pyL l)) = true then some (D.lst (sortD l)) else none) = _
  rw [h1, h2]; rfl
theorem pureL_all {l : List D} (h : ∀ d ∈ l, d.pure = true) : D.pureL l = true := by
  induction l with
  | nil => rfl
  | cons d l ih =>
    show (d.pure && D.pureL l) = true
    rw [h d List.mem_cons_self, ih fun x hx => h x (List.mem_cons_of_mem _ hx)]; rfl
theorem sortB_of {l : List D} (h1 : ∀ a ∈ l, ∀ b ∈ l, PySem.W.alike a.py b.py = true) (h2 : (∀ a ∈ l, ∃ x r, a.py = .tuple (x :: r)) ∨ (∀ a ∈ l, (match a.py with | .none => false | .tuple _ => false | _ => true) = true)) (h3 : ∀ a ∈ l, a.py.depth ≤ 60) : sortB (D.pyL l) = true := by
  unfold sortB
  rw [pyL_map, Bool.and_eq_true, Bool.and_eq_true, Bool.or_eq_true]
  simp only [List.all_eq_true, List.mem_map, forall_exists_index, and_imp, forall_apply_eq_imp_iff₂, decide_eq_true_eq]
  refine ⟨⟨fun a ha b hb => h1 a ha b hb, ?_⟩, h3⟩
  rcases h2 with h2 | h2
  · left
    intro a ha
    obtain ⟨x, r, e⟩ := h2 a ha
    rw [e]
  · exact .inr h2
theorem sorted_ints {S : Store} (l : List Nat) : biD .sorted S [.lst (l.map fun n => .int (n : Nat))] = some (.lst ((l.mergeSort fun a b => decide (a ≤ b)).map fun n => .int (n : Nat))) := by
  rw [bi_sorted, sort_ints]
  · exact pureL_all fun d hd => by obtain ⟨n, _, rfl⟩ := List.mem_map.mp hd; rfl
  · refine sortB_of (fun a ha b hb => ?_) (.inr fun a ha => ?_) fun a ha => ?_
    · obtain ⟨n, _, rfl⟩ := List.mem_map.mp ha
      obtain ⟨m, _, rfl⟩ := List.mem_map.mp hb
      show PySem.W.alike (.int _) (.int _) = true
      rw [PySem.W.alike]
    · obtain ⟨n, _, rfl⟩ := List.mem_map.mp ha; rfl
    · obtain ⟨n, _, rfl⟩ := List.mem_map.mp ha
      show (PyData.int _).depth ≤ 60
      rw [PyData.depth]; decide
theorem b_inN {S : Store} (a : Nat) (l : List Nat) : cmpD .In S (.int (a : Nat)) (.lst (l.map fun n => .int (n : Nat))) = some (decide (a ∈ l)) := by
  have hc : Cmp 1 (.lst (l.map fun n => D.int (n : Nat))) := .lst fun x hx => by
    obtain ⟨s, _, rfl⟩ := List.mem_map.mp hx
    exact .int _
  rw [in_lst (.int _) hc (by decide) (by decide), List.any_map]
  congr 1
  have : ((fun e => PyData.eqv e.py (D.int (a : Nat)).py) ∘ fun n : Nat => D.int (n : Nat)) = fun n => decide (n = a) := by
    funext n
    show PyData.eqv (D.int (n : Nat)).py (D.int (a : Nat)).py = _
    rw [eqv_int]
    by_cases h : n = a
    · simp [h]
    · have : ¬ ((n : Int) = a) := by omega
      simp [h, this]
  rw [this]
  by_cases h : a ∈ l
  · simp [h]
  · simp [h]
    exact fun x hx e => h (e ▸ hx)
theorem cmp_strsT {l : List Str} (h : ∀ x ∈ l, PyData.strOk x = true) : Cmp 1 (.tup (l.map .str)) := .tup fun x hx => by
  obtain ⟨s, hs, rfl⟩ := List.mem_map.mp hx
  exact .str (h s hs)
theorem in_tupD {S : Store} {x : D} {l : List D} {k m : Nat} (hx : Cmp k x) (hl : Cmp m (.tup l)) (hk : k ≤ 64) (hm : m ≤ 64) : cmpD .In S x (.tup l) = some (l.any fun e => PyData.eqv e.py x.py) := by
  show (if (x.cmpOk && (D.tup l).cmpOk) = true then some (l.any fun e => PyData.eqv e.py x.py) else none) = _
  rw [hx.ok hk, hl.ok hm]
  rfl
theorem any_mem (x : Str) (l : List Str) : (l.any fun y => y == x) = decide (x ∈ l) := by
  by_cases h : x ∈ l
  · simp [h]
  · simp [h]
    exact fun y hy e => h (e ▸ hy)
theorem b_inS {S : Store} {x : Str} {l : List Str} (hx : PyData.strOk x = true) (hl : ∀ y ∈ l, PyData.strOk y = true) : cmpD .In S (.str x) (.lst (l.map .str)) = some (decide (x ∈ l)) := by
  rw [in_strs hx hl, any_mem]
theorem b_inST {S : Store} {x : Str} {l : List Str} (hx : PyData.strOk x = true) (hl : ∀ y ∈ l, PyData.strOk y = true) : cmpD .In S (.str x) (.tup (l.map .str)) = some (decide (x ∈ l)) := by
  rw [in_tupD (.str hx) (cmp_strsT hl) (by decide) (by decide), List.any_map, ← any_mem]
  refine congrArg some (congrArg l.any (funext fun y => eqv_str y x))
theorem sub_at {S : Store} {l : List D} {i : Nat} {d : D} (h : l[i]? = some d) : subD S (.tup l) (.int (i : Nat)) = some d := by
  show atI l (i : Int) = some d
  rw [atI_nat h]
theorem sub_atL {S : Store} {l : List D} {i : Nat} {d : D} (h : l[i]? = some d) : subD S (.lst l) (.int (i : Nat)) = some d := by
  show atI l (i : Int) = some d
  rw [atI_nat h]
end Dm
namespace Dm
open PySem L2
/-! stores with one, two new lists -/
theorem set_same {α : Type} {l : List α} {j : Nat} {x : α} (h : l[j]? = some x) : l.set j x = l := by
  refine List.ext_getElem? fun i => ?_
  by_cases hi : j = i
  · subst hi
    rw [List.getElem?_set_self (List.getElem?_eq_some_iff.mp h).1, h]
  · rw [List.getElem?_set_ne hi]
theorem cell1 (S : Store) (a : List D) : cellL (S ++ [.lst a]) S.length = some a := by
  unfold cellL; rw [List.getElem?_append_right (Nat.le_refl _), Nat.sub_self]; rfl
theorem cell20 (S : Store) (a : List D) (y : Cell) : cellL (S ++ [.lst a, y]) S.length = some a := by
  unfold cellL; rw [List.getElem?_append_right (Nat.le_refl _), Nat.sub_self]; rfl
theorem cell21 (S : Store) (a : List D) (x : Cell) : cellL (S ++ [x, .lst a]) (S.length + 1) = some a := by
  unfold cellL; rw [List.getElem?_append_right (by omega), show S.length + 1 - S.length = 1 by omega]; rfl
theorem set1 (S : Store) (x z : Cell) : (S ++ [x]).set S.length z = S ++ [z] := by
  rw [List.set_append_right _ _ (Nat.le_refl _), Nat.sub_self]; rfl
theorem set20 (S : Store) (x y z : Cell) : (S ++ [x, y]).set S.length z = S ++ [z, y] := by
  rw [List.set_append_right _ _ (Nat.le_refl _), Nat.sub_self]; rfl
theorem set21 (S : Store) (x y z : Cell) : (S ++ [x, y]).set (S.length + 1) z = S ++ [x, z] := by
  rw [List.set_append_right _ _ (by omega), show S.length + 1 - S.length = 1 by omega]; rfl
theorem app1 (S : Store) (x y : Cell) : (S ++ [x]) ++ [y] = S ++ [x, y] := by rw [List.append_assoc]; rfl
theorem len1 (S : Store) (x : Cell) : (S ++ [x]).length = S.length + 1 := by rw [List.length_append]; rfl
/-- no list of the store is named in it -/
theorem rb_pure {n : Nat} : ∀ {d : D}, d.pure = true → d.rb n = true := by
  intro d
  have : ∀ d : D, (d.pure = true → d.rb n = true) := D.rec (motive_1 := fun d => d.pure = true → d.rb n = true) (motive_2 := fun l => D.pureL l = true → D.rbL n l = true)
    (fun _ => rfl) (fun _ _ => rfl) (fun _ _ => rfl) (fun _ _ => rfl) (fun l ih h => ih h) (fun l ih h => ih h) (fun _ h => by cases h) (fun l _ h => by cases h) (fun l _ h => by cases h)
    (fun _ => rfl) (fun d l h1 h2 h => by
      have h : (d.pure && D.pureL l) = true := h
      rw [Bool.and_eq_true] at h
      show (d.rb n && D.rbL n l) = true
      rw [h1 h.1, h2 h.2]; rfl)
  exact this d
/-- behind a call that made lists of the store: they go -/
theorem w_cutP {P : D → Store → Prop} {S : Store} {l : List Cell} {d : D} (hS : S.all (Cell.rb S.length) = true) (hd : d.pure = true) (h : P d S) : RPost P (cutR S.length d (S ++ l)) := by
  refine w_cut (by rw [List.length_append]; omega) (rb_pure hd) (by rw [List.take_left]; exact hS) ?_
  rw [List.take_left]; exact h
end Dm

/-! SyC: places by locks, ranks, runs: plain laws. -/
namespace Dm
open PySem L2
namespace Sy
/-- the index of a name -/
theorem nd_idx {s : Sys} (h : s.Ok) {k : Nat} {t : Task} (ht : s.tasks[k]? = some t) : idxOf (.str t.nm) ((nms s).map .str) = some k := by
  refine idx_strs (by unfold nms; rw [List.getElem?_map, ht]; rfl) fun j hj e => ?_
  have hk := (List.getElem?_eq_some_iff.mp ht)
  obtain ⟨hl, hk⟩ := hk
  have hl' : k < (nms s).length := by unfold nms; rw [List.length_map]; exact hl
  have e1 : (nms s)[k]? = some t.nm := by unfold nms; rw [List.getElem?_map, ht]; rfl
  obtain ⟨hj', ej⟩ := List.getElem?_eq_some_iff.mp e
  obtain ⟨_, ek⟩ := List.getElem?_eq_some_iff.mp e1
  exact absurd (ej.trans ek.symm) (List.pairwise_iff_getElem.mp h.nd j k hj' hl' hj)
theorem nm_uniq {s : Sys} (h : s.Ok) {j k : Nat} {t u : Task} (ht : s.tasks[j]? = some t) (hu : s.tasks[k]? = some u) (e : t.nm = u.nm) : j = k := by
  have a := nd_idx h ht
  have b := nd_idx h hu
  rw [e] at a
  exact Option.some.inj (a.symm.trans b)
/-- places with a row for one of these locks -/
def rowsAt (s : Sys) (held : List Str) : List Nat := (List.range s.tasks.length).filter (rowAtB s held)
theorem placeL_eq (s : Sys) (held : List Str) (at_ : Nat) : placeL s held at_ = (rowsAt s held).foldl min at_ := rfl
theorem foldl_min_le : ∀ (l : List Nat) (a : Nat), l.foldl min a ≤ a ∧ (∀ x ∈ l, l.foldl min a ≤ x) ∧ (l.foldl min a = a ∨ l.foldl min a ∈ l)
  | [], a => ⟨Nat.le_refl _, fun _ h => (nomatch h), .inl rfl⟩
  | x :: l, a => by
    obtain ⟨h1, h2, h3⟩ := foldl_min_le l (min a x)
    refine ⟨Nat.le_trans h1 (Nat.min_le_left _ _), fun y hy => ?_, ?_⟩
    · rcases List.mem_cons.mp hy with rfl | hy
      · exact Nat.le_trans h1 (Nat.min_le_right _ _)
      · exact h2 y hy
    · rcases h3 with h3 | h3
      · by_cases hx : a ≤ x
        · left; show l.foldl min (min a x) = a; rw [h3, Nat.min_eq_left hx]
        · right
          show l.foldl min (min a x) ∈ x :: l
          rw [h3, Nat.min_eq_right (by omega)]; exact List.mem_cons_self
      · right; exact List.mem_cons_of_mem _ h3
theorem mem_rowsAt {s : Sys} {held : List Str} {k : Nat} : k ∈ rowsAt s held ↔ ∃ t, s.tasks[k]? = some t ∧ ∃ l ∈ s.locks, l.nm = t.nm ∧ l.lk ∈ held := by
  unfold rowsAt
  rw [List.mem_filter, List.mem_range]
  constructor
  · rintro ⟨hk, h⟩
    unfold rowAtB at h
    rw [List.getElem?_eq_getElem hk] at h
    refine ⟨_, List.getElem?_eq_getElem hk, ?_⟩
    unfold rowOf at h
    obtain ⟨l, hl, e⟩ := List.any_eq_true.mp h
    rw [Bool.and_eq_true, beq_iff_eq, decide_eq_true_eq] at e
    exact ⟨l, hl, e.1, e.2⟩
  · rintro ⟨t, ht, l, hl, e1, e2⟩
    refine ⟨(List.getElem?_eq_some_iff.mp ht).1, ?_⟩
    unfold rowAtB
    rw [ht]
    show rowOf s held t = true
    unfold rowOf
    exact List.any_eq_true.mpr ⟨l, hl, by rw [Bool.and_eq_true, beq_iff_eq, decide_eq_true_eq]; exact ⟨e1, e2⟩⟩
theorem mem_heldL {s : Sys} {nm : Str} {d : Int} {x : Str} : x ∈ heldL s nm d ↔ ∃ l ∈ s.locks, l.nm = nm ∧ l.lo < d ∧ d < l.hi ∧ l.lk = x := by
  unfold heldL
  rw [List.mem_map]
  constructor
  · rintro ⟨l, hl, rfl⟩
    rw [List.mem_filter, Bool.and_eq_true, Bool.and_eq_true, beq_iff_eq, decide_eq_true_eq, decide_eq_true_eq] at hl
    exact ⟨l, hl.1, hl.2.1, hl.2.2.1, hl.2.2.2, rfl⟩
  · rintro ⟨l, hl, e1, e2, e3, rfl⟩
    refine ⟨l, ?_, rfl⟩
    rw [List.mem_filter, Bool.and_eq_true, Bool.and_eq_true, beq_iff_eq, decide_eq_true_eq, decide_eq_true_eq]
    exact ⟨hl, e1, e2, e3⟩
/-- a holder is among those with a row -/
theorem self_row {s : Sys} {k : Nat} {t : Task} {d : Int} (ht : s.tasks[k]? = some t) (hh : heldL s t.nm d ≠ []) : k ∈ rowsAt s (heldL s t.nm d) := by
  obtain ⟨x, hx⟩ := List.exists_mem_of_ne_nil _ hh
  obtain ⟨l, hl, e1, e2, e3, e4⟩ := mem_heldL.mp hx
  exact mem_rowsAt.mpr ⟨t, ht, l, hl, e1, by rw [e4]; exact hx⟩
/-- the least place of the rows, as the program finds it -/
theorem place_min {s : Sys} {k : Nat} {t : Task} {d : Int} (ht : s.tasks[k]? = some t) (hh : heldL s t.nm d ≠ []) (is : List Nat) (hi : ∀ j, j ∈ is ↔ j ∈ rowsAt s (heldL s t.nm d)) : minZ (is.map fun (j : Nat) => (j : Int)) = placeL s (heldL s t.nm d) k := by
  have hk := (hi k).mpr (self_row ht hh)
  obtain ⟨h1, h2, h3⟩ := foldl_min_le (rowsAt s (heldL s t.nm d)) k
  rw [← placeL_eq] at h1 h2 h3
  have hp : placeL s (heldL s t.nm d) k ∈ is := by
    rcases h3 with e | e
    · rw [e]; exact hk
    · exact (hi _).mpr e
  unfold minZ
  have e : (is.map fun (j : Nat) => (j : Int)).min? = some (placeL s (heldL s t.nm d) k : Int) := by
    rw [List.min?_eq_some_iff]
    refine ⟨List.mem_map.mpr ⟨_, hp, rfl⟩, fun b hb => ?_⟩
    obtain ⟨j, hj, rfl⟩ := List.mem_map.mp hb
    have := h2 j ((hi j).mp hj)
    omega
  rw [e]; rfl
end Sy
end Dm
namespace Dm
open PySem L2
namespace Sy
theorem placeL_nil (s : Sys) (k : Nat) : placeL s [] k = k := by
  have : rowsAt s [] = [] := by
    cases h : rowsAt s [] with
    | nil => rfl
    | cons x l =>
      have hx : x ∈ rowsAt s [] := by rw [h]; exact List.mem_cons_self
      obtain ⟨t, _, l, _, _, h2⟩ := mem_rowsAt.mp hx
      cases h2
  rw [placeL_eq, this]; rfl
/-- the indices of the tasks of the rows for some locks -/
def idxRows (s : Sys) (held : List Str) : List Nat := (s.locks.filter fun l => decide (l.lk ∈ held)).map fun l => ((nms s).idxOf l.nm)
theorem lock_at {s : Sys} (h : s.Ok) {l : Lock} (hl : l ∈ s.locks) : ∃ (k : Nat) (t : Task), s.tasks[k]? = some t ∧ t.nm = l.nm ∧ (nms s).idxOf l.nm = k := by
  obtain ⟨t, ht, e, _⟩ := h.lock l hl
  obtain ⟨k, hk⟩ := List.mem_iff_getElem?.mp ht
  refine ⟨k, t, hk, e, ?_⟩
  have e1 : (nms s)[k]? = some l.nm := by unfold nms; rw [List.getElem?_map, hk, ← e]; rfl
  obtain ⟨h1, h2⟩ := List.getElem?_eq_some_iff.mp e1
  rw [← h2]
  exact h.nd.idxOf_getElem k h1
theorem idxRows_mem {s : Sys} (h : s.Ok) (held : List Str) (j : Nat) : j ∈ idxRows s held ↔ j ∈ rowsAt s held := by
  unfold idxRows
  rw [List.mem_map, mem_rowsAt]
  constructor
  · rintro ⟨l, hl, rfl⟩
    rw [List.mem_filter, decide_eq_true_eq] at hl
    obtain ⟨k, t, h1, h2, h3⟩ := lock_at h hl.1
    rw [h3]
    exact ⟨t, h1, l, hl.1, h2.symm, hl.2⟩
  · rintro ⟨t, ht, l, hl, e1, e2⟩
    refine ⟨l, by rw [List.mem_filter, decide_eq_true_eq]; exact ⟨hl, e2⟩, ?_⟩
    obtain ⟨k, u, h1, h2, h3⟩ := lock_at h hl
    rw [h3]
    exact nm_uniq h h1 ht (h2.trans e1)
theorem lock_idx {s : Sys} (h : s.Ok) {l : Lock} (hl : l ∈ s.locks) : idxOf (.str l.nm) ((nms s).map .str) = some ((nms s).idxOf l.nm) := by
  obtain ⟨k, t, h1, h2, h3⟩ := lock_at h hl
  rw [h3, ← h2]
  exact nd_idx h h1
theorem nms_ok {s : Sys} (h : s.Ok) : ∀ x ∈ nms s, PyData.strOk x = true := by
  intro x hx
  unfold nms at hx
  obtain ⟨t, ht, rfl⟩ := List.mem_map.mp hx
  exact (h.nmOk t ht).1
theorem rules_ok {s : Sys} (h : s.Ok) : PyData.strOk s.rule = true := by
  rcases h.rule with e | e | e | e <;> rw [e] <;> decide +kernel
end Sy
end Dm
namespace Dm
open PySem L2
namespace Sy
def lkeyL (s : Sys) (k : Nat) (t : Task) (d age : Int) : List Int := if s.rule = "fixed" then keyL s k t d age else keyL s k t d age ++ [0]
theorem cmp_lk {s : Sys} (h : s.Ok) {l : Lock} (hl : l ∈ s.locks) : Cmp 1 (lkD l) := .tup fun x hx => by
  simp only [List.mem_cons, List.not_mem_nil, or_false] at hx
  rcases hx with rfl | rfl | rfl | rfl
  · exact .str (h.lkOk l hl).1
  · exact .str (h.lkOk l hl).2.2.1
  · exact .int _
  · exact .int _
end Sy
end Dm

/-! SyD: who comes, who runs: plain laws. -/
namespace Dm
open PySem L2
namespace Sy
/-- a store whose lists name nothing beyond it -/
def Wf (S : Store) : Prop := S.all (Cell.rb S.length) = true
def mustB (t : Task) (r : Row) : Bool := decide (r.wait = 0) && isEach t
def mayB (t : Task) (r : Row) : Bool := decide (r.wait = 0) && !isEach t
def mustP (s : Sys) (rows : List Row) : List Nat := ((s.tasks.zip rows).zipIdx.filter fun p => mustB p.1.1 p.1.2).map (·.2)
def mayP (s : Sys) (rows : List Row) : List Nat := ((s.tasks.zip rows).zipIdx.filter fun p => mayB p.1.1 p.1.2).map (·.2)
def gapAt (s : Sys) (k : Nat) : Int := ((s.tasks[k]?).map (·.gap)).getD 0
def comeP (s : Sys) (rows : List Row) (ps : List Nat) : List Row := rows.zipIdx.map fun p => if p.2 ∈ ps then ⟨gapAt s p.2, some 0, 0⟩ else p.1
/-! orders of ints -/
theorem lt_tup (a b : List Int) : PySem.W.dataLt (D.py (.tup (a.map .int))) (D.py (.tup (b.map .int))) = decide (a < b) := by
  have e : ∀ l : List Int, D.py (.tup (l.map .int)) = .tuple (l.map .int) := fun l => by
    show PyData.tuple (D.pyL (l.map .int)) = _
    rw [pyL_map, List.map_map]; rfl
  rw [e, e, PySem.W.dataLt_tuple]
  exact PySem.W.dataLt_ints a b
theorem alike_ints : ∀ (a b : List Int), PySem.W.alikeAll (a.map .int) (b.map .int) = true
  | [], _ => by rw [List.map_nil]; simp [PySem.W.alikeAll]
  | _ :: _, [] => by rw [List.map_nil, List.map_cons]; simp [PySem.W.alikeAll]
  | x :: a, y :: b => by rw [List.map_cons, List.map_cons, PySem.W.alikeAll, alike_ints a b]; simp [PySem.W.alike]
theorem alike_tup (a b : List Int) : PySem.W.alike (D.py (.tup (a.map .int))) (D.py (.tup (b.map .int))) = true := by
  have e : ∀ l : List Int, D.py (.tup (l.map .int)) = .tuple (l.map .int) := fun l => by
    show PyData.tuple (D.pyL (l.map .int)) = _
    rw [pyL_map, List.map_map]; rfl
  rw [e, e, PySem.W.alike]
  exact alike_ints a b
theorem eqv_ints : ∀ (a b : List Int), PyData.eqvAll (a.map .int) (b.map .int) = decide (a = b)
  | [], [] => by simp [PyData.eqvAll]
  | [], _ :: _ => by simp [PyData.eqvAll]
  | _ :: _, [] => by simp [PyData.eqvAll]
  | x :: a, y :: b => by
    rw [List.map_cons, List.map_cons, PyData.eqvAll, eqv_ints a b]
    have e : (x == y) = decide (x = y) := by by_cases h : x = y <;> simp [h]
    simp [PyData.eqv, Bool.decide_and, e]
theorem eqv_tup (a b : List Int) : PyData.eqv (D.py (.tup (a.map .int))) (D.py (.tup (b.map .int))) = decide (a = b) := by
  have e : ∀ l : List Int, D.py (.tup (l.map .int)) = .tuple (l.map .int) := fun l => by
    show PyData.tuple (D.pyL (l.map .int)) = _
    rw [pyL_map, List.map_map]; rfl
  rw [e, e, PyData.eqv]
  exact eqv_ints a b
theorem jobD_py (k : List Int) (at_ : Nat) : (jobD k at_).py = .tuple [D.py (.tup (k.map .int)), .int at_] := rfl
theorem lt_job (a b : List Int) (i j : Nat) : PySem.W.dataLt (jobD a i).py (jobD b j).py = if a = b then decide (i < j) else decide (a < b) := by
  rw [jobD_py, jobD_py, PySem.W.dataLt_pair (alike_tup a b) (by simp [PySem.W.alike]), eqv_tup, lt_tup, PySem.W.dataLt_int]
  by_cases h : a = b
  · subst h
    simp only [decide_true, if_true]
    by_cases hij : i = j
    · subst hij; simp [PyData.eqv]
    · have : ¬ ((i : Int) = j) := by omega
      simp [PyData.eqv, this]
  · simp [h]
theorem leK_eq (key : Nat → List Int) (i j : Nat) : leK key i j = !(if key j = key i then decide (j < i) else decide (key j < key i)) := by
  show (!PySem.W.dataLt (jobD (key j) j).py (jobD (key i) i).py) = _
  rw [lt_job]
theorem lex_app : ∀ (a b : List Int), a.length = b.length → (decide (a ++ [0] < b ++ [0]) = decide (a < b))
  | [], [], _ => by simp
  | x :: a, y :: b, h => by
    have ih := lex_app a b (by simpa using h)
    rw [decide_eq_decide] at ih ⊢
    rw [List.cons_append, List.cons_append, List.cons_lt_cons_iff, List.cons_lt_cons_iff, ih]
  | [], _ :: _, h => by simp at h
  | _ :: _, [], h => by simp at h
/-- the law's numbers take jobs in the same order -/
theorem leK_app {k1 k2 : Nat → List Int} {i j : Nat} (hl : (k1 i).length = (k1 j).length) (hi : k2 i = k1 i ++ [0]) (hj : k2 j = k1 j ++ [0]) : leK k2 i j = leK k1 i j := by
  rw [leK_eq, leK_eq, hi, hj]
  by_cases h : k1 j = k1 i
  · rw [if_pos h, if_pos (by rw [h])]
  · rw [if_neg h, if_neg (fun z => h (List.append_cancel_right z)), lex_app _ _ hl.symm]
theorem ms_congr {α : Type} {r q : α → α → Bool} {l : List α} (h : ∀ a ∈ l, ∀ b ∈ l, r a b = q a b) : l.mergeSort r = l.mergeSort q := by
  have := List.map_mergeSort (r := r) (s := q) (f := id) (l := l) h
  simpa using this
theorem runsBy_congr {k1 k2 : Nat → List Int} {s : Sys} {ph : Nat} {rows : List Row} (h : ∀ i ∈ jobsL rows, ∀ j ∈ jobsL rows, leK k1 i j = leK k2 i j) : runsBy k1 s ph rows = runsBy k2 s ph rows := by
  unfold runsBy
  rw [ms_congr h]
theorem mem_jobs {rows : List Row} {k : Nat} : k ∈ jobsL rows ↔ ∃ r d, rows[k]? = some r ∧ r.done = some d := by
  unfold jobsL
  rw [List.mem_filter, List.mem_range]
  unfold hasJob
  constructor
  · rintro ⟨h1, h2⟩
    rw [List.getElem?_eq_getElem h1] at h2
    obtain ⟨d, hd⟩ := Option.isSome_iff_exists.mp h2
    exact ⟨_, d, List.getElem?_eq_getElem h1, hd⟩
  · rintro ⟨r, d, h1, h2⟩
    refine ⟨(List.getElem?_eq_some_iff.mp h1).1, ?_⟩
    rw [h1]; show r.done.isSome = true; rw [h2]; rfl
theorem mem_runs {key : Nat → List Int} {s : Sys} {ph : Nat} {rows : List Row} {k : Nat} (h : k ∈ runsBy key s ph rows) : k ∈ jobsL rows := by
  unfold runsBy at h
  split at h
  · cases h
  · exact List.mem_mergeSort.mp (List.mem_of_mem_take (List.mem_mergeSort.mp h))
/-- the law's numbers -/
def ljkey (s : Sys) (rows : List Row) (k : Nat) : List Int := match s.tasks[k]?, rows[k]? with
  | some t, some r => match r.done with
    | some d => lkeyL s k t d r.age
    | none => []
  | _, _ => []
theorem jkey_at {s : Sys} {rows : List Row} {k : Nat} {t : Task} {r : Row} {d : Int} (ht : s.tasks[k]? = some t) (hr : rows[k]? = some r) (hd : r.done = some d) : jkey s rows k = keyL s k t d r.age := by
  unfold jkey; rw [ht, hr]; show (match r.done with | some d => _ | none => _) = _; rw [hd]
theorem ljkey_at {s : Sys} {rows : List Row} {k : Nat} {t : Task} {r : Row} {d : Int} (ht : s.tasks[k]? = some t) (hr : rows[k]? = some r) (hd : r.done = some d) : ljkey s rows k = lkeyL s k t d r.age := by
  unfold ljkey; rw [ht, hr]; show (match r.done with | some d => _ | none => _) = _; rw [hd]
theorem lkey_len {s : Sys} (h : s.Ok) (hf : s.rule ≠ "fixed") {k : Nat} {t : Task} {d age : Int} : (keyL s k t d age).length = 3 := by
  rcases h.rule with e | e | e | e
  · exact absurd e hf
  · rw [key_near e]; rfl
  · rw [key_old e]; rfl
  · rw [key_slack e]; rfl
theorem runs_law {s : Sys} (h : s.Ok) {ph : Nat} {rows : List Row} (hl : rows.length = s.tasks.length) : runsBy (ljkey s rows) s ph rows = runsL s ph rows := by
  refine runsBy_congr fun i hi j hj => ?_
  obtain ⟨ri, di, hri, hdi⟩ := mem_jobs.mp hi
  obtain ⟨rj, dj, hrj, hdj⟩ := mem_jobs.mp hj
  have gi : i < s.tasks.length := by rw [← hl]; exact (List.getElem?_eq_some_iff.mp hri).1
  have gj : j < s.tasks.length := by rw [← hl]; exact (List.getElem?_eq_some_iff.mp hrj).1
  have ti := List.getElem?_eq_getElem gi
  have tj := List.getElem?_eq_getElem gj
  by_cases hf : s.rule = "fixed"
  · have e : ∀ k, ljkey s rows k = jkey s rows k := fun k => by
      unfold ljkey jkey lkeyL
      simp only [if_pos hf]
      all_goals (
        cases s.tasks[k]? with
        | none => rfl
        | some t =>
          cases rows[k]? with
          | none => rfl
          | some r => rfl)
    unfold leK
    rw [e, e]
  · refine leK_app ?_ ?_ ?_
    · rw [jkey_at ti hri hdi, jkey_at tj hrj hdj, lkey_len h hf, lkey_len h hf]
    · rw [ljkey_at ti hri hdi, jkey_at ti hri hdi]; unfold lkeyL; rw [if_neg hf]
    · rw [ljkey_at tj hrj hdj, jkey_at tj hrj hdj]; unfold lkeyL; rw [if_neg hf]
/-! subsets -/
theorem sets_map {α β : Type} (f : α → β) (l : List α) : setsL (l.map f) = (setsL l).map (List.map f) := by
  unfold setsL
  have gen : ∀ (l : List α) (acc : List (List α)), (l.map f).foldl (fun sets x => sets ++ sets.map (· ++ [x])) (acc.map (List.map f)) = (l.foldl (fun sets x => sets ++ sets.map (· ++ [x])) acc).map (List.map f) := by
    intro l
    induction l with
    | nil => intro acc; rfl
    | cons a l ih =>
      intro acc
      rw [List.map_cons, List.foldl_cons, List.foldl_cons, ← ih]
      congr 1
      rw [List.map_append, List.map_map, List.map_map]
      congr 2
      funext x
      simp
  exact gen l [[]]
theorem sets_sub {α : Type} {l x : List α} (h : x ∈ setsL l) : x.Sublist l := by
  have gen : ∀ (l pre : List α) (acc : List (List α)), (∀ y ∈ acc, y.Sublist pre) → ∀ y ∈ l.foldl (fun sets x => sets ++ sets.map (· ++ [x])) acc, y.Sublist (pre ++ l) := by
    intro l
    induction l with
    | nil => intro pre acc ha y hy; rw [List.append_nil]; exact ha y hy
    | cons a l ih =>
      intro pre acc ha y hy
      rw [List.foldl_cons] at hy
      have := ih (pre ++ [a]) _ (fun z hz => ?_) y hy
      · simpa using this
      · rcases List.mem_append.mp hz with hz | hz
        · exact (ha z hz).trans (List.sublist_append_left _ _)
        · obtain ⟨u, hu, rfl⟩ := List.mem_map.mp hz
          exact (ha u hu).append (List.Sublist.refl _)
  have := gen l [] [[]] (fun y hy => by rw [List.mem_singleton.mp hy]; exact List.Sublist.refl _) x h
  simpa using this
theorem sets_len {α : Type} (l : List α) : (setsL l).length = 2 ^ l.length := by
  have gen : ∀ (l : List α) (acc : List (List α)), (l.foldl (fun sets x => sets ++ sets.map (· ++ [x])) acc).length = acc.length * 2 ^ l.length := by
    intro l
    induction l with
    | nil => intro acc; simp
    | cons a l ih =>
      intro acc
      rw [List.foldl_cons, ih, List.length_append, List.length_map, List.length_cons, Nat.pow_succ]
      rw [Nat.mul_comm (2 ^ l.length) 2, ← Nat.mul_assoc]
      congr 1; omega
  have := gen l [[]]
  simpa [setsL] using this
theorem zip_few {s : Sys} (h : s.Ok) (rows : List Row) : (s.tasks.zip rows).length ≤ 6 := by
  rw [List.length_zip]; have := h.few; omega
theorem must_few {s : Sys} (h : s.Ok) (rows : List Row) : (mustP s rows).length ≤ 6 := by
  unfold mustP
  rw [List.length_map]
  refine Nat.le_trans (List.length_filter_le _ _) ?_
  rw [List.length_zipIdx]; exact zip_few h rows
theorem may_few {s : Sys} (h : s.Ok) (rows : List Row) : (mayP s rows).length ≤ 6 := by
  unfold mayP
  rw [List.length_map]
  refine Nat.le_trans (List.length_filter_le _ _) ?_
  rw [List.length_zipIdx]; exact zip_few h rows
end Sy
end Dm

/-! SyE: choices: plain laws. -/
namespace Dm
open PySem L2
namespace Sy
theorem nmAt_eq {s : Sys} {k : Nat} {t : Task} (ht : s.tasks[k]? = some t) : nmAt s k = t.nm := by unfold nmAt; rw [ht]; rfl
theorem zip_at {s : Sys} {rows : List Row} {k : Nat} {t : Task} {r : Row} (ht : s.tasks[k]? = some t) (hr : rows[k]? = some r) : (s.tasks.zip rows)[k]? = some (t, r) := by rw [List.getElem?_zip_eq_some]; exact ⟨ht, hr⟩
theorem mem_placesP {s : Sys} {rows : List Row} {P : Task → Row → Bool} {k : Nat} : k ∈ ((s.tasks.zip rows).zipIdx.filter fun p => P p.1.1 p.1.2).map (·.2) ↔ ∃ t r, s.tasks[k]? = some t ∧ rows[k]? = some r ∧ P t r = true := by
  rw [List.mem_map]
  constructor
  · rintro ⟨⟨⟨t, r⟩, j⟩, hp, rfl⟩
    obtain ⟨h1, h2⟩ := List.mem_filter.mp hp
    obtain ⟨h3, h4⟩ := List.getElem?_zip_eq_some.mp (List.mem_zipIdx_iff_getElem?.mp h1)
    exact ⟨t, r, h3, h4, h2⟩
  · rintro ⟨t, r, ht, hr, h⟩
    exact ⟨((t, r), k), List.mem_filter.mpr ⟨List.mem_zipIdx_iff_getElem?.mpr (zip_at ht hr), h⟩, rfl⟩
theorem mem_mustP {s : Sys} {rows : List Row} {k : Nat} : k ∈ mustP s rows ↔ ∃ t r, s.tasks[k]? = some t ∧ rows[k]? = some r ∧ mustB t r = true := mem_placesP
theorem mem_mayP {s : Sys} {rows : List Row} {k : Nat} : k ∈ mayP s rows ↔ ∃ t r, s.tasks[k]? = some t ∧ rows[k]? = some r ∧ mayB t r = true := mem_placesP
theorem kind_any {t : Task} (h : t.Ok) : (!isEach t) = (t.kind == anyK) := by
  unfold isEach
  rcases h.kind with e | e <;> rw [e] <;> decide
theorem mayB_eq {t : Task} (h : t.Ok) (r : Row) : mayB t r = mayCome t r := by
  unfold mayB mayCome
  rw [kind_any h, Bool.and_comm]
def mayAt (s : Sys) (rows : List Row) (k : Nat) : Bool := match s.tasks[k]?, rows[k]? with
  | some t, some r => mayCome t r
  | _, _ => false
theorem mayAt_eq {s : Sys} {rows : List Row} {k : Nat} {t : Task} {r : Row} (ht : s.tasks[k]? = some t) (hr : rows[k]? = some r) : mayAt s rows k = mayCome t r := by unfold mayAt; rw [ht, hr]
/-- names and places of those that may come -/
theorem may_names {s : Sys} (h : s.Ok) (rows : List Row) : mayL s rows = (mayP s rows).map (nmAt s) := by
  unfold mayL mayP
  rw [List.map_map]
  have e1 : ((s.tasks.zip rows).filter fun p => mayCome p.1 p.2).map (·.1.nm) = ((s.tasks.zip rows).zipIdx.filter fun p => mayB p.1.1 p.1.2).map (fun p => p.1.1.nm) := by
    have e2 : ((s.tasks.zip rows).zipIdx.filter fun p => mayCome p.1.1 p.1.2).map (·.1) = (s.tasks.zip rows).filter fun p => mayCome p.1 p.2 := by
      have := List.filter_map (f := (·.1)) (p := fun p : Task × Row => mayCome p.1 p.2) (l := (s.tasks.zip rows).zipIdx)
      rw [List.zipIdx_map_fst] at this
      exact this.symm
    rw [← e2, List.map_map]
    have e3 : ((s.tasks.zip rows).zipIdx.filter fun p => mayCome p.1.1 p.1.2) = ((s.tasks.zip rows).zipIdx.filter fun p => mayB p.1.1 p.1.2) := by
      refine List.filter_congr fun p hp => ?_
      exact (mayB_eq (h.task _ (List.of_mem_zip (List.fst_mem_of_mem_zipIdx hp)).1) _).symm
    rw [e3]; rfl
  rw [e1]
  refine List.map_congr_left fun p hp => ?_
  obtain ⟨h3, h4⟩ := List.getElem?_zip_eq_some.mp (List.mem_zipIdx_iff_getElem?.mp (List.mem_filter.mp hp).1)
  exact (nmAt_eq h3).symm
/-- coming by places is coming by names -/
theorem come_eq {s : Sys} (h : s.Ok) {rows : List Row} (hl : rows.length = s.tasks.length) {ps : List Nat} (hs : ∀ k ∈ ps, k ∈ mayP s rows) {qs : List Nat} (hq : ∀ k, k ∈ qs ↔ k ∈ mustP s rows ∨ k ∈ ps) : comeP s rows qs = comeL s rows (ps.map (nmAt s)) := by
  unfold comeP comeL
  refine List.ext_getElem? fun k => ?_
  rw [List.getElem?_map, List.getElem?_map, List.getElem?_zipIdx]
  by_cases hk : k < rows.length
  · have hr := List.getElem?_eq_getElem hk
    have ht := List.getElem?_eq_getElem (show k < s.tasks.length by omega)
    rw [hr, zip_at ht hr]
    generalize rows[k] = r at hr
    generalize s.tasks[k]'(by omega) = t at ht
    show some (if (0 + k) ∈ qs then (⟨gapAt s (0 + k), some 0, 0⟩ : Row) else r) = some (if comes (ps.map (nmAt s)) t r = true then ⟨t.gap, some 0, 0⟩ else r)
    rw [Nat.zero_add]
    have hg : gapAt s k = t.gap := by unfold gapAt; rw [ht]; rfl
    rw [hg]
    have hiff : k ∈ qs ↔ comes (ps.map (nmAt s)) t r = true := by
      rw [hq]
      unfold comes
      rw [Bool.and_eq_true, Bool.or_eq_true, decide_eq_true_eq, decide_eq_true_eq]
      constructor
      · rintro (hm | hm)
        · obtain ⟨t', r', h1, h2, h3⟩ := mem_mustP.mp hm
          rw [ht] at h1; cases h1
          rw [hr] at h2; cases h2
          unfold mustB at h3
          rw [Bool.and_eq_true, decide_eq_true_eq] at h3
          exact ⟨h3.1, .inl h3.2⟩
        · obtain ⟨t', r', h1, h2, h3⟩ := mem_mayP.mp (hs k hm)
          rw [ht] at h1; cases h1
          rw [hr] at h2; cases h2
          unfold mayB at h3
          rw [Bool.and_eq_true, decide_eq_true_eq] at h3
          exact ⟨h3.1, .inr (List.mem_map.mpr ⟨k, hm, nmAt_eq ht⟩)⟩
      · rintro ⟨hw, he | hn⟩
        · refine .inl (mem_mustP.mpr ⟨t, r, ht, hr, ?_⟩)
          unfold mustB
          rw [decide_eq_true hw, he]; rfl
        · obtain ⟨j, hj, e⟩ := List.mem_map.mp hn
          obtain ⟨t', r', h1, h2, h3⟩ := mem_mayP.mp (hs j hj)
          rw [nmAt_eq h1] at e
          have := nm_uniq h h1 ht e
          subst this
          exact .inr hj
    by_cases hm : k ∈ qs
    · rw [if_pos hm, if_pos (hiff.mp hm)]
    · rw [if_neg hm, if_neg (fun z => hm (hiff.mpr z))]
  · rw [List.getElem?_eq_none (by omega), List.getElem?_eq_none (by rw [List.length_zip]; omega)]; rfl
theorem comeL_len {s : Sys} {rows : List Row} (hl : rows.length = s.tasks.length) (names : List Str) : (comeL s rows names).length = s.tasks.length := by
  unfold comeL; rw [List.length_map, List.length_zip]; omega
theorem comeP_len {s : Sys} {rows : List Row} (ps : List Nat) : (comeP s rows ps).length = rows.length := by
  unfold comeP; rw [List.length_map, List.length_zipIdx]
/-- the choices as the program makes them -/
def chooseP (s : Sys) (st : StT) : List Ch := (setsL (mayP s st.rows)).flatMap fun sm =>
  let rows := comeP s st.rows (mustP s st.rows ++ sm)
  (setsL (endsL s rows (runsL s st.ph rows))).map fun e => (sm.map (nmAt s), e.map (nmAt s))
theorem choose_eq {s : Sys} (h : s.Ok) {st : StT} (hl : st.rows.length = s.tasks.length) : chooseP s st = chooseL s st := by
  unfold chooseP chooseL
  rw [may_names h, sets_map, List.flatMap_map]
  have : ∀ (l : List (List Nat)), (∀ x ∈ l, x.Sublist (mayP s st.rows)) → (l.flatMap fun sm => (setsL (endsL s (comeP s st.rows (mustP s st.rows ++ sm)) (runsL s st.ph (comeP s st.rows (mustP s st.rows ++ sm))))).map fun e => (sm.map (nmAt s), e.map (nmAt s))) =
      (l.flatMap fun sm => (setsL ((endsL s (comeL s st.rows (sm.map (nmAt s))) (runsL s st.ph (comeL s st.rows (sm.map (nmAt s))))).map (nmAt s))).map fun e => (sm.map (nmAt s), e)) := by
    intro l
    induction l with
    | nil => intro _; rfl
    | cons x l ih =>
      intro hx
      rw [List.flatMap_cons, List.flatMap_cons, ih fun y hy => hx y (List.mem_cons_of_mem _ hy)]
      congr 1
      rw [come_eq h hl (ps := x) (fun k hk => (hx x List.mem_cons_self).subset hk) fun k => List.mem_append, sets_map, List.map_map]
      rfl
  exact this _ fun x hx => sets_sub hx
theorem runs_len {key : Nat → List Int} {s : Sys} {ph : Nat} {rows : List Row} : (runsBy key s ph rows).length ≤ rows.length := by
  unfold runsBy
  split
  · exact Nat.zero_le _
  · rw [List.length_mergeSort, List.length_take, List.length_mergeSort]
    have e1 : (jobsL rows).length ≤ rows.length := by
      unfold jobsL
      refine Nat.le_trans (List.length_filter_le _ _) ?_
      rw [List.length_range]; exact Nat.le_refl _
    omega
theorem ends_len {s : Sys} {rows : List Row} {runs : List Nat} : (endsL s rows runs).length ≤ runs.length := List.length_filter_le _ _
theorem pow64 {k : Nat} (h : k ≤ 6) : 2 ^ k ≤ 64 := by
  have := Nat.pow_le_pow_right (show 0 < 2 by decide) h
  omega
theorem choose_len {s : Sys} (h : s.Ok) {st : StT} (hl : st.rows.length = s.tasks.length) : (chooseL s st).length ≤ 4096 := by
  unfold chooseL
  have hf := h.few
  have gen : ∀ (l : List (List Str)), (l.flatMap fun some => (setsL ((endsL s (comeL s st.rows some) (runsL s st.ph (comeL s st.rows some))).map (nmAt s))).map fun e => (some, e)).length ≤ l.length * 64 := by
    intro l
    induction l with
    | nil => exact Nat.le_refl _
    | cons x l ih =>
      rw [List.flatMap_cons, List.length_append, List.length_cons, List.length_map, sets_len, List.length_map]
      have e1 := ends_len (s := s) (rows := comeL s st.rows x) (runs := runsL s st.ph (comeL s st.rows x))
      have e2 : (runsL s st.ph (comeL s st.rows x)).length ≤ _ := runs_len
      rw [comeL_len hl] at e2
      have := pow64 (k := (endsL s (comeL s st.rows x) (runsL s st.ph (comeL s st.rows x))).length) (by omega)
      omega
  refine Nat.le_trans (gen _) ?_
  rw [sets_len, may_names h, List.length_map]
  have := pow64 (may_few h st.rows)
  omega
theorem sets_nil {α : Type} (l : List α) : [] ∈ setsL l := by
  have gen : ∀ (l : List α) (acc : List (List α)), [] ∈ acc → [] ∈ l.foldl (fun sets x => sets ++ sets.map (· ++ [x])) acc := by
    intro l
    induction l with
    | nil => intro acc h; exact h
    | cons a l ih => intro acc h; exact ih _ (List.mem_append_left _ h)
  exact gen l [[]] List.mem_cons_self
theorem choose_ne {s : Sys} {st : StT} : chooseL s st ≠ [] := by
  intro e
  have : (([], []) : Ch) ∈ chooseL s st := by
    unfold chooseL
    rw [List.mem_flatMap]
    exact ⟨[], sets_nil _, List.mem_map.mpr ⟨[], sets_nil _, rfl⟩⟩
  rw [e] at this; cases this
end Sy
end Dm
namespace Dm
open PySem L2
theorem rb_mono {n m : Nat} (hm : n ≤ m) : ∀ d : D, d.rb n = true → d.rb m = true :=
  D.rec (motive_1 := fun d => d.rb n = true → d.rb m = true) (motive_2 := fun l => D.rbL n l = true → D.rbL m l = true)
    (fun _ => rfl) (fun _ _ => rfl) (fun _ _ => rfl) (fun _ _ => rfl) (fun l ih h => ih h) (fun l ih h => ih h)
    (fun k h => by
      have h : decide (k < n) = true := h
      show decide (k < m) = true
      rw [decide_eq_true_eq] at h ⊢; omega)
    (fun l ih h => ih h) (fun l ih h => ih h)
    (fun _ => rfl) (fun d l h1 h2 h => by
      have h : (d.rb n && D.rbL n l) = true := h
      rw [Bool.and_eq_true] at h
      show (d.rb m && D.rbL m l) = true
      rw [h1 h.1, h2 h.2]; rfl)
theorem rbL_mono {n m : Nat} (hm : n ≤ m) : ∀ l : List D, D.rbL n l = true → D.rbL m l = true
  | [], _ => rfl
  | d :: l, h => by
    have h : (d.rb n && D.rbL n l) = true := h
    rw [Bool.and_eq_true] at h
    show (d.rb m && D.rbL m l) = true
    rw [rb_mono hm d h.1, rbL_mono hm l h.2]; rfl
theorem rbL_pure {n : Nat} {l : List D} (h : D.pureL l = true) : D.rbL n l = true := by
  have := rb_pure (n := n) (d := .lst l) h
  exact this
theorem cell_mono {n m : Nat} (hm : n ≤ m) {c : Cell} (h : c.rb n = true) : c.rb m = true := by
  cases c with
  | dead => rfl
  | lst l => exact rbL_mono hm l h
  | dct l =>
    have h : (l.all fun p => D.rb n p.1 && D.rb n p.2) = true := h
    show (l.all fun p => D.rb m p.1 && D.rb m p.2) = true
    rw [List.all_eq_true] at h ⊢
    intro p hp
    have := h p hp
    rw [Bool.and_eq_true] at this ⊢
    exact ⟨rb_mono hm _ this.1, rb_mono hm _ this.2⟩
namespace Sy
theorem Wf.add {S : Store} (h : Wf S) {l : List D} (hl : D.pureL l = true) : Wf (S ++ [.lst l]) := by
  unfold Wf at h ⊢
  rw [List.all_append, Bool.and_eq_true, List.length_append]
  constructor
  · rw [List.all_eq_true] at h ⊢
    exact fun c hc => cell_mono (by omega) (h c hc)
  · show (Cell.rb _ (.lst l) && true) = true
    rw [show Cell.rb (S.length + [Cell.lst l].length) (.lst l) = D.rbL (S.length + [Cell.lst l].length) l from rfl, rbL_pure hl]; rfl
theorem ch_pure (c : Ch) : (chD c).pure = true := by
  show (D.pureL (c.1.map .str) && (D.pureL (c.2.map .str) && true)) = true
  have e : ∀ l : List Str, D.pureL (l.map .str) = true := fun l => pureL_all fun d hd => by obtain ⟨n, _, rfl⟩ := List.mem_map.mp hd; rfl
  rw [e, e]; rfl
theorem chs_pure (l : List Ch) : D.pureL (l.map chD) = true := pureL_all fun d hd => by obtain ⟨c, _, rfl⟩ := List.mem_map.mp hd; exact ch_pure c
theorem alike_strs : ∀ (a b : List Str), PySem.W.alikeAll (a.map .str) (b.map .str) = true
  | [], _ => by rw [List.map_nil]; simp [PySem.W.alikeAll]
  | _ :: _, [] => by rw [List.map_nil, List.map_cons]; simp [PySem.W.alikeAll]
  | x :: a, y :: b => by rw [List.map_cons, List.map_cons, PySem.W.alikeAll, alike_strs a b]; simp [PySem.W.alike]
theorem chD_py (c : Ch) : (chD c).py = .tuple [.tuple (c.1.map .str), .tuple (c.2.map .str)] := by
  show PyData.tuple [.tuple (D.pyL (c.1.map .str)), .tuple (D.pyL (c.2.map .str))] = _
  rw [pyL_map, pyL_map, List.map_map, List.map_map]; rfl
theorem chs_sort {S : Store} (l : List Ch) : biD .sorted S [.lst (l.map chD)] = some (.lst ((l.mergeSort leC).map chD)) := by
  have hs : sortB (D.pyL (l.map chD)) = true := by
    refine sortB_of (fun a ha b hb => ?_) (.inl fun a ha => ?_) fun a ha => ?_
    · obtain ⟨i, _, rfl⟩ := List.mem_map.mp ha
      obtain ⟨j, _, rfl⟩ := List.mem_map.mp hb
      rw [chD_py, chD_py]
      simp [PySem.W.alike, PySem.W.alikeAll, alike_strs]
    · obtain ⟨i, _, rfl⟩ := List.mem_map.mp ha
      exact ⟨_, _, chD_py i⟩
    · obtain ⟨i, _, rfl⟩ := List.mem_map.mp ha
      rw [chD_py]
      have e : ∀ l : List Str, PyData.depthAll (l.map .str) ≤ 0 := fun l => by
        induction l with
        | nil => simp [PyData.depthAll]
        | cons x l ih => rw [List.map_cons, PyData.depthAll, PyData.depth]; omega
      simp only [PyData.depth, PyData.depthAll]
      have e1 := e i.1
      have e2 := e i.2
      omega
  rw [bi_sorted (chs_pure l) hs, sort_map]
  rfl
end Sy
end Dm

/-! SyF: ticks: plain laws. -/
namespace Dm
open PySem L2
namespace Sy
theorem leN_trans (a b c : Nat) : leN a b = true → leN b c = true → leN a c = true := by
  unfold leN; rw [decide_eq_true_eq, decide_eq_true_eq, decide_eq_true_eq]; omega
theorem leN_total (a b : Nat) : (leN a b || leN b a) = true := by
  unfold leN; rw [Bool.or_eq_true, decide_eq_true_eq, decide_eq_true_eq]; omega
theorem sorted_filter {n : Nat} {P : Nat → Bool} {l : List Nat} (hd : l.Nodup) (h : ∀ k, k ∈ l ↔ k < n ∧ P k = true) : l.mergeSort leN = (List.range n).filter P := by
  refine List.Perm.eq_of_pairwise (le := fun a b => leN a b = true) (fun a b _ _ h1 h2 => ?_) (List.pairwise_mergeSort leN_trans leN_total l) ?_ ?_
  · unfold leN at h1 h2; rw [decide_eq_true_eq] at h1 h2; omega
  · refine List.Pairwise.imp (fun h => ?_) (List.Pairwise.filter P List.pairwise_lt_range)
    unfold leN; rw [decide_eq_true_eq]; omega
  · refine (List.mergeSort_perm l leN).trans ?_
    rw [List.perm_ext_iff_of_nodup hd (List.nodup_range.filter P)]
    intro k
    rw [h, List.mem_filter, List.mem_range]
theorem jobs_nd (rows : List Row) : (jobsL rows).Nodup := List.nodup_range.filter _
theorem runs_nd {key : Nat → List Int} {s : Sys} {ph : Nat} {rows : List Row} : (runsBy key s ph rows).Nodup := by
  unfold runsBy
  split
  · exact List.nodup_nil
  · refine (List.mergeSort_perm _ leN).nodup_iff.mpr ?_
    exact ((List.mergeSort_perm _ (leK key)).nodup_iff.mpr (jobs_nd rows)).sublist (List.take_sublist _ _)
theorem runs_lt {key : Nat → List Int} {s : Sys} {ph : Nat} {rows : List Row} {k : Nat} (h : k ∈ runsBy key s ph rows) : k < rows.length := by
  obtain ⟨r, d, hr, _⟩ := mem_jobs.mp (mem_runs h)
  exact (List.getElem?_eq_some_iff.mp hr).1
theorem runs_self {key : Nat → List Int} {s : Sys} {ph : Nat} {rows : List Row} : (List.range rows.length).filter (fun k => decide (k ∈ runsBy key s ph rows)) = runsBy key s ph rows := by
  rw [← sorted_filter (l := runsBy key s ph rows) runs_nd fun k => ⟨fun h => ⟨runs_lt h, decide_eq_true h⟩, fun h => of_decide_eq_true h.2⟩]
  unfold runsBy
  split
  · exact List.mergeSort_nil
  · have := List.pairwise_mergeSort leN_trans leN_total (((jobsL rows).mergeSort (leK key)).take s.mach)
    exact List.mergeSort_of_pairwise this
/-- the places of those that come -/
def comeAt (s : Sys) (rows : List Row) (names : List Str) (k : Nat) : Bool := match s.tasks[k]?, rows[k]? with
  | some t, some r => comes names t r
  | _, _ => false
theorem comeAt_eq {s : Sys} {rows : List Row} {names : List Str} {k : Nat} {t : Task} {r : Row} (ht : s.tasks[k]? = some t) (hr : rows[k]? = some r) : comeAt s rows names k = comes names t r := by unfold comeAt; rw [ht, hr]
/-- the places of names -/
theorem sub_places {s : Sys} {rows : List Row} (h : s.Ok) {names : List Str} (hn : names.Sublist (mayL s rows)) : ∃ ps : List Nat, names = ps.map (nmAt s) ∧ ps.Sublist (mayP s rows) := by
  rw [may_names h] at hn
  obtain ⟨ps, h1, h2⟩ := List.sublist_map_iff.mp hn
  exact ⟨ps, h2, h1⟩
theorem mayP_nd {s : Sys} {rows : List Row} : (mayP s rows).Nodup := by
  unfold mayP
  refine List.Nodup.sublist ((List.filter_sublist (p := fun p : (Task × Row) × Nat => mayB p.1.1 p.1.2)).map (·.2)) ?_
  rw [List.zipIdx_map_snd]
  exact List.nodup_range' 
theorem mustP_nd {s : Sys} {rows : List Row} : (mustP s rows).Nodup := by
  unfold mustP
  refine List.Nodup.sublist ((List.filter_sublist (p := fun p : (Task × Row) × Nat => mustB p.1.1 p.1.2)).map (·.2)) ?_
  rw [List.zipIdx_map_snd]
  exact List.nodup_range' 
theorem come_mem {s : Sys} (h : s.Ok) {rows : List Row} (hl : rows.length = s.tasks.length) {ps : List Nat} (hp : ∀ k ∈ ps, k ∈ mayP s rows) (k : Nat) : (k ∈ mustP s rows ∨ k ∈ ps) ↔ k < s.tasks.length ∧ comeAt s rows (ps.map (nmAt s)) k = true := by
  constructor
  · rintro (hm | hm)
    · obtain ⟨t, r, ht, hr, hb⟩ := mem_mustP.mp hm
      refine ⟨(List.getElem?_eq_some_iff.mp ht).1, ?_⟩
      rw [comeAt_eq ht hr]
      unfold mustB at hb
      rw [Bool.and_eq_true, decide_eq_true_eq] at hb
      unfold comes
      rw [decide_eq_true hb.1, hb.2]; rfl
    · obtain ⟨t, r, ht, hr, hb⟩ := mem_mayP.mp (hp k hm)
      refine ⟨(List.getElem?_eq_some_iff.mp ht).1, ?_⟩
      rw [comeAt_eq ht hr]
      unfold mayB at hb
      rw [Bool.and_eq_true, decide_eq_true_eq] at hb
      unfold comes
      rw [decide_eq_true hb.1, decide_eq_true (List.mem_map.mpr ⟨k, hm, nmAt_eq ht⟩), Bool.or_true]; rfl
  · rintro ⟨hk, hc⟩
    have ht := List.getElem?_eq_getElem hk
    have hr : rows[k]? = some (rows[k]'(by omega)) := List.getElem?_eq_getElem _
    rw [comeAt_eq ht hr] at hc
    unfold comes at hc
    rw [Bool.and_eq_true, Bool.or_eq_true, decide_eq_true_eq, decide_eq_true_eq] at hc
    obtain ⟨hw, he | hn⟩ := hc
    · refine .inl (mem_mustP.mpr ⟨_, _, ht, hr, ?_⟩)
      unfold mustB
      rw [decide_eq_true hw, he]; rfl
    · obtain ⟨j, hj, e⟩ := List.mem_map.mp hn
      obtain ⟨t', r', h1, h2, h3⟩ := mem_mayP.mp (hp j hj)
      rw [nmAt_eq h1] at e
      have := nm_uniq h h1 ht e
      subst this
      exact .inr hj
/-- those that come, in order -/
theorem comes_sorted {s : Sys} (h : s.Ok) {rows : List Row} (hl : rows.length = s.tasks.length) {ps : List Nat} (hp : ps.Sublist (mayP s rows)) : (mustP s rows ++ ps).mergeSort leN = (List.range s.tasks.length).filter (comeAt s rows (ps.map (nmAt s))) := by
  refine sorted_filter ?_ fun k => ?_
  · rw [List.nodup_append]
    refine ⟨mustP_nd, mayP_nd.sublist hp, fun a ha b hb e => ?_⟩
    subst e
    obtain ⟨t, r, ht, hr, h1⟩ := mem_mustP.mp ha
    obtain ⟨t', r', ht', hr', h2⟩ := mem_mayP.mp (hp.subset hb)
    rw [ht] at ht'; cases ht'
    rw [hr] at hr'; cases hr'
    unfold mustB at h1
    unfold mayB at h2
    rw [Bool.and_eq_true] at h1 h2
    rw [h1.2] at h2
    cases h2.2
  · rw [List.mem_append]
    exact come_mem h hl (fun k hk => hp.subset hk) k
/-- what a tick is made of, by places -/
def overAt (s : Sys) (rows : List Row) (runs : List Nat) (ends : List Str) (k : Nat) : Bool := match s.tasks[k]?, rows[k]? with
  | some t, some r => overB t r (decide (k ∈ runs)) ends
  | _, _ => false
def lateAt (s : Sys) (rows : List Row) (runs : List Nat) (ends : List Str) (k : Nat) : Bool := match s.tasks[k]?, rows[k]? with
  | some t, some r => lateB t r (decide (k ∈ runs)) ends
  | _, _ => false
theorem overAt_eq {s : Sys} {rows : List Row} {runs : List Nat} {ends : List Str} {k : Nat} {t : Task} {r : Row} (ht : s.tasks[k]? = some t) (hr : rows[k]? = some r) : overAt s rows runs ends k = overB t r (decide (k ∈ runs)) ends := by unfold overAt; rw [ht, hr]
theorem lateAt_eq {s : Sys} {rows : List Row} {runs : List Nat} {ends : List Str} {k : Nat} {t : Task} {r : Row} (ht : s.tasks[k]? = some t) (hr : rows[k]? = some r) : lateAt s rows runs ends k = lateB t r (decide (k ∈ runs)) ends := by unfold lateAt; rw [ht, hr]
def ranR (r : Row) (ran : Bool) : Row := ⟨r.wait, ranD r ran, r.age⟩
def ranRows (rows : List Row) (runs : List Nat) : List Row := rows.zipIdx.map fun p => ranR p.1 (decide (p.2 ∈ runs))
theorem z_names {s : Sys} {rows : List Row} (hl : rows.length = s.tasks.length) {Q : (Task × Row) × Nat → Bool} (P : Nat → Bool) (h : ∀ k t r, s.tasks[k]? = some t → rows[k]? = some r → Q ((t, r), k) = P k) : ((s.tasks.zip rows).zipIdx.filter Q).map (·.1.1.nm) = ((List.range s.tasks.length).filter P).map (nmAt s) := by
  have hz : (s.tasks.zip rows).length = s.tasks.length := by rw [List.length_zip]; omega
  rw [← hz]
  refine zi_fm P (nmAt s) (s.tasks.zip rows) fun i a ha => ?_
  obtain ⟨h1, h2⟩ := List.getElem?_zip_eq_some.mp ha
  exact ⟨h i a.1 a.2 h1 h2, fun _ => (nmAt_eq h1).symm⟩
theorem come_names {s : Sys} {rows : List Row} (hl : rows.length = s.tasks.length) (names : List Str) : ((s.tasks.zip rows).filter fun p => comes names p.1 p.2).map (·.1.nm) = ((List.range s.tasks.length).filter (comeAt s rows names)).map (nmAt s) := by
  have e1 : ((s.tasks.zip rows).zipIdx.filter fun p => comes names p.1.1 p.1.2).map (·.1) = (s.tasks.zip rows).filter fun p => comes names p.1 p.2 := by
    have := List.filter_map (f := (·.1)) (p := fun p : Task × Row => comes names p.1 p.2) (l := (s.tasks.zip rows).zipIdx)
    rw [List.zipIdx_map_fst] at this
    exact this.symm
  rw [← e1, List.map_map]
  exact z_names hl (comeAt s rows names) fun k t r ht hr => (comeAt_eq ht hr).symm
end Sy
end Dm
namespace Dm
open PySem L2
namespace Sy
def afterAt (s : Sys) (rows : List Row) (runs : List Nat) (ends : List Str) (k : Nat) : Row := match s.tasks[k]?, rows[k]? with
  | some t, some r => afterR t r (decide (k ∈ runs)) ends
  | _, _ => ⟨0, none, 0⟩
theorem afterAt_eq {s : Sys} {rows : List Row} {runs : List Nat} {ends : List Str} {k : Nat} {t : Task} {r : Row} (ht : s.tasks[k]? = some t) (hr : rows[k]? = some r) : afterAt s rows runs ends k = afterR t r (decide (k ∈ runs)) ends := by unfold afterAt; rw [ht, hr]
theorem filter_sub {runs : List Nat} {n : Nat} {P : Nat → Bool} (e : (List.range n).filter (fun k => decide (k ∈ runs)) = runs) (hp : ∀ k, P k = true → k ∈ runs) : runs.filter P = (List.range n).filter P := by
  have : runs.filter P = ((List.range n).filter fun k => decide (k ∈ runs)).filter P := by rw [e]
  rw [this, List.filter_filter]
  refine List.filter_congr fun k _ => ?_
  cases h : P k with
  | true => rw [decide_eq_true (hp k h)]; rfl
  | false => rfl
theorem over_runs {key : Nat → List Int} {s : Sys} {ph : Nat} {rows : List Row} {ends : List Str} : (runsBy key s ph rows).filter (overAt s rows (runsBy key s ph rows) ends) = (List.range rows.length).filter (overAt s rows (runsBy key s ph rows) ends) := by
  refine filter_sub runs_self fun k h => ?_
  unfold overAt overB at h
  split at h
  · rw [Bool.and_eq_true, decide_eq_true_eq] at h
    exact h.1
  · cases h
/-- a tick, by places -/
theorem tick_eq {s : Sys} {st : StT} (hl : st.rows.length = s.tasks.length) (c : Ch) : tkD (tick s st c) =
    .tup [.tup [.tup (((List.range s.tasks.length).filter (comeAt s st.rows c.1)).map fun k => .str (nmAt s k)), .tup ((runsL s st.ph (comeL s st.rows c.1)).map fun k => .str (nmAt s k)),
        .tup (((List.range s.tasks.length).filter (overAt s (comeL s st.rows c.1) (runsL s st.ph (comeL s st.rows c.1)) c.2)).map fun k => .str (nmAt s k)),
        .tup (((List.range s.tasks.length).filter (lateAt s (comeL s st.rows c.1) (runsL s st.ph (comeL s st.rows c.1)) c.2)).map fun k => .str (nmAt s k))],
      .tup [.str "state", .int (((st.ph + 1) % s.sup.length : Nat)), .tup ((List.range s.tasks.length).map fun k => rowD (afterAt s (comeL s st.rows c.1) (runsL s st.ph (comeL s st.rows c.1)) c.2 k))]] := by
  have hcl := comeL_len (s := s) hl c.1
  unfold tick tkD lrD stD
  simp only
  rw [come_names hl, z_names hcl (overAt s (comeL s st.rows c.1) (runsL s st.ph (comeL s st.rows c.1)) c.2) fun k t r ht hr => (overAt_eq ht hr).symm,
    z_names hcl (lateAt s (comeL s st.rows c.1) (runsL s st.ph (comeL s st.rows c.1)) c.2) fun k t r ht hr => (lateAt_eq ht hr).symm]
  have hz : (s.tasks.zip (comeL s st.rows c.1)).length = s.tasks.length := by rw [List.length_zip]; omega
  rw [zi_m (afterAt s (comeL s st.rows c.1) (runsL s st.ph (comeL s st.rows c.1)) c.2) (s.tasks.zip (comeL s st.rows c.1)) fun i a ha => ?_, hz]
  · unfold strsT
    simp only [List.map_map]
    rfl
  · obtain ⟨h1, h2⟩ := List.getElem?_zip_eq_some.mp ha
    exact (afterAt_eq h1 h2).symm
end Sy
end Dm
namespace Dm
open PySem L2
namespace Sy
theorem cmp_row (r : Row) : Cmp 1 (rowD r) := .tup fun x hx => by
  simp only [List.mem_cons, List.not_mem_nil, or_false] at hx
  rcases hx with rfl | rfl | rfl
  · exact .int _
  · cases r.done
    · exact Cmp.non
    · exact .int _
  · exact .int _
theorem eqv_row_ne {a b : Row} (h : a.wait ≠ b.wait) : PyData.eqv (rowD a).py (rowD b).py = false := by
  show PyData.eqv (.tuple [.int a.wait, (oD a.done).py, .int a.age]) (.tuple [.int b.wait, (oD b.done).py, .int b.age]) = false
  simp [PyData.eqv, PyData.eqvAll, h]
theorem eqv_row_self (a : Row) : PyData.eqv (rowD a).py (rowD a).py = true := by
  show PyData.eqv (.tuple [.int a.wait, (oD a.done).py, .int a.age]) (.tuple [.int a.wait, (oD a.done).py, .int a.age]) = true
  have e : PyData.eqv (oD a.done).py (oD a.done).py = true := by
    cases a.done with
    | none => show PyData.eqv .none .none = true; simp [PyData.eqv]
    | some d => show PyData.eqv (.int d) (.int d) = true; simp [PyData.eqv]
  simp [PyData.eqv, PyData.eqvAll, e]
theorem range_snoc (j : Nat) (P : Nat → Bool) : (List.range (j + 1)).filter P = (List.range j).filter P ++ (if P j then [j] else []) := by
  rw [List.range_succ, List.filter_append]
  cases h : P j <;> simp [h]
end Sy
end Dm
namespace Dm
open PySem L2
namespace Sy
theorem tick_ph {s : Sys} (h : s.Ok) (st : StT) (c : Ch) : (tick s st c).2.ph < s.sup.length := Nat.mod_lt _ h.sup.1
theorem tick_len {s : Sys} {st : StT} (hl : st.rows.length = s.tasks.length) (c : Ch) : (tick s st c).2.rows.length = s.tasks.length := by
  show (List.map _ ((s.tasks.zip (comeL s st.rows c.1)).zipIdx)).length = _
  rw [List.length_map, List.length_zipIdx, List.length_zip, comeL_len hl]
  exact Nat.min_self _
theorem lr_pure (r : LRow) : (lrD r).pure = true := by
  have e : ∀ l : List Str, (strsT l).pure = true := fun l => pureL_all fun d hd => by obtain ⟨n, _, rfl⟩ := List.mem_map.mp hd; rfl
  show ((strsT r.come).pure && ((strsT r.run).pure && ((strsT r.over).pure && ((strsT r.late).pure && true)))) = true
  rw [e, e, e, e]; rfl
/-- a choice that can be -/
structure ChOk (s : Sys) (st : StT) (c : Ch) : Prop where
  come : c.1.Sublist (mayL s st.rows)
  ends : ∀ x ∈ c.2, PyData.strOk x = true
def playL (s : Sys) (st : StT) : List Ch → List LRow × StT
  | [] => ([], st)
  | c :: cs => ((tick s st c).1 :: (playL s (tick s st c).2 cs).1, (playL s (tick s st c).2 cs).2)
def PathOk (s : Sys) (st : StT) : List Ch → Prop
  | [] => True
  | c :: cs => ChOk s st c ∧ PathOk s (tick s st c).2 cs
end Sy
end Dm

/-! SyG: things that may be states. -/
namespace Dm
open PySem L2
namespace Sy
/-- data made of texts, ints, truth values, None, tuples, lists -/
inductive Th : Nat → D → Prop where
  | int {k : Nat} (i : Int) : Th k (.int i)
  | bl {k : Nat} (b : Bool) : Th k (.bl b)
  | non {k : Nat} : Th k .non
  | str {k : Nat} {x : Str} (h : PyData.strOk x = true) (hl : x.length ≤ 1000) : Th k (.str x)
  | tup {k : Nat} {l : List D} (h : ∀ x ∈ l, Th k x) (hl : l.length ≤ 1000) : Th (k + 1) (.tup l)
  | lst {k : Nat} {l : List D} (h : ∀ x ∈ l, Th k x) (hl : l.length ≤ 1000) : Th (k + 1) (.lst l)
theorem Th.cmp : ∀ {k : Nat} {d : D}, Th k d → Cmp k d
  | _, _, .int i => (Cmp.int i).le (Nat.zero_le _)
  | _, _, .bl b => (Cmp.bl b).le (Nat.zero_le _)
  | _, _, .non => Cmp.non.le (Nat.zero_le _)
  | _, _, .str h _ => (Cmp.str h).le (Nat.zero_le _)
  | _, _, .tup h _ => .tup fun x hx => (h x hx).cmp
  | _, _, .lst h _ => .lst fun x hx => (h x hx).cmp
theorem Th.le : ∀ {k m : Nat} {d : D}, Th k d → k ≤ m → Th m d
  | _, _, _, .int i, _ => .int i
  | _, _, _, .bl b, _ => .bl b
  | _, _, _, .non, _ => .non
  | _, _, _, .str h hl, _ => .str h hl
  | k + 1, m, _, .tup h hl, hm => by
    obtain ⟨m', rfl⟩ : ∃ m', m = m' + 1 := ⟨m - 1, by omega⟩
    exact .tup (fun x hx => (h x hx).le (by omega)) hl
  | k + 1, m, _, .lst h hl, hm => by
    obtain ⟨m', rfl⟩ : ∃ m', m = m' + 1 := ⟨m - 1, by omega⟩
    exact .lst (fun x hx => (h x hx).le (by omega)) hl
def strEq (d : D) (z : Str) : Bool := match d with
  | .str y => y == z
  | _ => false
def isI : D → Bool
  | .int _ => true
  | _ => false
def betw (d : D) (lo hi : Int) : Bool := match d with
  | .int i => decide (lo ≤ i) && decide (i ≤ hi)
  | _ => false
def isTup3 : D → Bool
  | .tup [_, _, _] => true
  | _ => false
def isNonD : D → Bool
  | .non => true
  | _ => false
def eqI (d : D) (i : Int) : Bool := match d with
  | .int j => decide (j = i)
  | _ => false
def rowB (t : Task) (d : D) : Bool := match d with
  | .tup [w, dn, ag] => betw w 0 (max t.off t.gap) && (if isNonD dn then betw ag 0 0 else betw dn 0 (t.most - 1) && (betw ag 0 (t.due - 1) && (match w with | .int w => eqI ag (t.gap - w) | _ => false)))
  | _ => false
def rowsB : List Task → List D → Bool
  | [], [] => true
  | t :: ts, d :: ds => rowB t d && rowsB ts ds
  | _, _ => false
def isStD (s : Sys) (d : D) : Bool := match d with
  | .tup [a, ph, .tup rows] => strEq a "state" && (betw ph 0 ((s.sup.length : Int) - 1) && rowsB s.tasks rows)
  | _ => false
theorem three_of {l : List D} (h : (l.length : Int) = 3) : ∃ a b c, l = [a, b, c] := by
  have h : l.length = 3 := by omega
  match l, h with
  | [a, b, c], _ => exact ⟨a, b, c, rfl⟩
theorem eqv_strD {k : Nat} {d : D} (h : Th k d) (z : Str) : PyData.eqv d.py (D.str z).py = strEq d z := by
  show PyData.eqv d.py (.str z) = _
  cases h with
  | int i => show PyData.eqv (.int i) (.str z) = false; simp [PyData.eqv]
  | bl b => show PyData.eqv (.bool b) (.str z) = false; simp [PyData.eqv]
  | non => show PyData.eqv .none (.str z) = false; simp [PyData.eqv]
  | str h hl => exact eqv_str _ _
  | tup h hl => rename_i l; show PyData.eqv (.tuple (D.pyL l)) (.str z) = false; simp [PyData.eqv]
  | lst h hl => rename_i l; show PyData.eqv (.list (D.pyL l)) (.str z) = false; simp [PyData.eqv]
end Sy
end Dm
namespace Dm
open PySem L2
namespace Sy
theorem rowsB_zip : ∀ {ts : List Task} {ds : List D}, ts.length = ds.length → rowsB ts ds = ((ts.zip ds).map fun p => rowB p.1 p.2).all id
  | [], [], _ => rfl
  | t :: ts, d :: ds, h => by
    show (rowB t d && rowsB ts ds) = (rowB t d && ((ts.zip ds).map fun p => rowB p.1 p.2).all id)
    rw [rowsB_zip (by simpa using h)]
  | [], _ :: _, h => by simp at h
  | _ :: _, [], h => by simp at h
theorem rowsB_len : ∀ {ts : List Task} {ds : List D}, ts.length ≠ ds.length → rowsB ts ds = false
  | [], [], h => absurd rfl h
  | t :: ts, d :: ds, h => by
    show (rowB t d && rowsB ts ds) = false
    rw [rowsB_len (fun z => h (by simp [z])), Bool.and_false]
  | [], _ :: _, _ => rfl
  | _ :: _, [], _ => rfl
theorem rowB_tup3 {t : Task} {d : D} (h : isTup3 d = false) : rowB t d = false := by
  unfold rowB
  split
  · cases h
  · rfl
theorem rowsB_tup3 : ∀ {ts : List Task} {ds : List D}, ts.length = ds.length → (∃ d ∈ ds, isTup3 d = false) → rowsB ts ds = false
  | [], [], _, ⟨d, h, _⟩ => by cases h
  | t :: ts, d :: ds, hl, ⟨e, he, h⟩ => by
    show (rowB t d && rowsB ts ds) = false
    rcases List.mem_cons.mp he with rfl | he
    · rw [rowB_tup3 h]; rfl
    · rw [rowsB_tup3 (by simpa using hl) ⟨e, he, h⟩, Bool.and_false]
  | [], _ :: _, h, _ => by simp at h
  | _ :: _, [], h, _ => by simp at h
theorem b_neTh {S : Store} {k : Nat} {d : D} (h : Th k d) (hk : k ≤ 60) {z : Str} (hz : PyData.strOk z = true) : cmpD .NotEq S d (.str z) = some (!strEq d z) := by
  show (eqD S d (.str z)).map (!·) = _
  have pk : peek S d = d := by cases h <;> rfl
  unfold eqD
  rw [pk, show peek S (.str z) = .str z from rfl, h.cmp.ok (by omega), (Cmp.str hz).ok (by decide), eqv_strD h]; rfl
theorem eqI_ne {S : Store} {k : Nat} {d : D} (h : Th k d) (hk : k ≤ 60) (i : Int) : cmpD .NotEq S d (.int i) = some (!PyData.eqv d.py (.int i)) := by
  show (eqD S d (.int i)).map (!·) = _
  have pk : peek S d = d := by cases h <;> rfl
  unfold eqD
  rw [pk, show peek S (.int i) = .int i from rfl, h.cmp.ok (by omega), (Cmp.int i).ok (by decide)]; rfl
theorem isStD_no3 {s : Sys} {l : List D} (h : ¬ ((l.length : Int) = 3)) : isStD s (.tup l) = false := by
  unfold isStD
  split
  · rename_i q
    cases q
    exact absurd rfl h
  · rfl
theorem isi_tup {S : Store} {k : Nat} {d : D} (h : Th k d) : isiD S .tuple d = some (match d with | .tup _ => true | _ => false) := by cases h <;> rfl
end Sy
end Dm

/-! SyH: what invariants states keep; what is drawn anew. -/
namespace Dm
open PySem L2
theorem cutD_mem {l : List D} {a b : Option Int} {x : D} (h : x ∈ cutD l a b) : x ∈ l := by
  unfold cutD at h
  exact List.mem_of_mem_drop (List.mem_of_mem_take h)
theorem cutD_len (l : List D) (a b : Option Int) : (cutD l a b).length ≤ l.length := by
  unfold cutD
  rw [List.length_take, List.length_drop]
  omega
namespace Sy
/-- things without truth values and lists -/
inductive Nb : Nat → D → Prop where
  | int {k : Nat} (i : Int) : Nb k (.int i)
  | non {k : Nat} : Nb k .non
  | str {k : Nat} {x : Str} (h : PyData.strOk x = true) (hl : x.length ≤ 1000) : Nb k (.str x)
  | tup {k : Nat} {l : List D} (h : ∀ x ∈ l, Nb k x) (hl : l.length ≤ 100) : Nb (k + 1) (.tup l)
theorem Nb.th : ∀ {k : Nat} {d : D}, Nb k d → Th k d
  | _, _, .int i => .int i
  | _, _, .non => .non
  | _, _, .str h hl => .str h hl
  | _, _, .tup h hl => .tup (fun x hx => (h x hx).th) (by omega)
theorem Nb.le : ∀ {k m : Nat} {d : D}, Nb k d → k ≤ m → Nb m d
  | _, _, _, .int i, _ => .int i
  | _, _, _, .non, _ => .non
  | _, _, _, .str h hl, _ => .str h hl
  | k + 1, m, _, .tup h hl, hm => by
    obtain ⟨m', rfl⟩ : ∃ m', m = m' + 1 := ⟨m - 1, by omega⟩
    exact .tup (fun x hx => (h x hx).le (by omega)) hl
theorem nb_row (r : Row) : Nb 1 (rowD r) := .tup (fun x hx => by
  simp only [List.mem_cons, List.not_mem_nil, or_false] at hx
  rcases hx with rfl | rfl | rfl
  · exact .int _
  · cases r.done with
    | none => exact .non
    | some d => exact .int _
  · exact .int _) (by simp)
theorem nb_st {s : Sys} (h : s.Ok) {st : StT} (hl : st.rows.length = s.tasks.length) : Nb 3 (stD st) := .tup (fun x hx => by
  simp only [List.mem_cons, List.not_mem_nil, or_false] at hx
  rcases hx with rfl | rfl | rfl
  · exact .str (by decide +kernel) (by decide)
  · exact .int _
  · exact .tup (fun x hx => by
      obtain ⟨r, _, rfl⟩ := List.mem_map.mp hx
      exact nb_row r) (by rw [List.length_map]; have := h.few; omega)) (by simp)
/-! rows stay right -/
def StOk (s : Sys) (st : StT) : Prop := st.ph < s.sup.length ∧ st.rows.length = s.tasks.length ∧ ∀ p ∈ s.tasks.zip st.rows, RowOk p.1 p.2
theorem rowB_ok {t : Task} (ht : t.Ok) {r : Row} (h : RowOk t r) : rowB t (rowD r) = true := by
  obtain ⟨w, dn, ag⟩ := r
  obtain ⟨⟨h1, h2⟩, h3⟩ := h
  have hmx : betw (.int w) 0 (max t.off t.gap) = true := by
    show (decide (0 ≤ w) && decide (w ≤ max t.off t.gap)) = true
    rw [Bool.and_eq_true, decide_eq_true_eq, decide_eq_true_eq]
    refine ⟨h1, ?_⟩
    have h2 : w ≤ t.off ∨ w ≤ t.gap := h2
    omega
  cases dn with
  | none =>
    have h3 : ag = 0 := h3
    show (betw (.int w) 0 (max t.off t.gap) && (decide (0 ≤ ag) && decide (ag ≤ 0))) = true
    rw [hmx, h3]; rfl
  | some d =>
    have h3 : (0 ≤ d ∧ d < t.most) ∧ (0 ≤ ag ∧ ag < t.due) ∧ ag = t.gap - w := h3
    show (betw (.int w) 0 (max t.off t.gap) && ((decide (0 ≤ d) && decide (d ≤ t.most - 1)) && ((decide (0 ≤ ag) && decide (ag ≤ t.due - 1)) && decide (ag = t.gap - w)))) = true
    rw [hmx]
    simp only [Bool.true_and, Bool.and_eq_true, decide_eq_true_eq]
    omega
theorem rowsB_ok {ts : List Task} {rows : List Row} (h : ∀ t ∈ ts, t.Ok) (hl : rows.length = ts.length) (hr : ∀ p ∈ ts.zip rows, RowOk p.1 p.2) : rowsB ts (rows.map rowD) = true := by
  induction ts generalizing rows with
  | nil =>
    cases rows with
    | nil => rfl
    | cons => cases hl
  | cons t ts ih =>
    cases rows with
    | nil => cases hl
    | cons r rows =>
      show (rowB t (rowD r) && rowsB ts (rows.map rowD)) = true
      rw [rowB_ok (h t List.mem_cons_self) (hr (t, r) List.mem_cons_self), ih (fun u hu => h u (List.mem_cons_of_mem _ hu)) (by simpa using hl) (fun p hp => hr p (List.mem_cons_of_mem _ hp))]; rfl
theorem isStD_ok {s : Sys} (h : s.Ok) {st : StT} (hs : StOk s st) : isStD s (stD st) = true := by
  show (strEq (.str "state") "state" && ((decide ((0 : Int) ≤ st.ph) && decide ((st.ph : Int) ≤ s.sup.length - 1)) && rowsB s.tasks (st.rows.map rowD))) = true
  obtain ⟨h1, h2, h3⟩ := hs
  rw [rowsB_ok h.task h2 h3, decide_eq_true (show (0 : Int) ≤ st.ph by omega), decide_eq_true (show (st.ph : Int) ≤ s.sup.length - 1 by omega)]
  show (("state" : Str) == ("state" : Str) && _) = true
  simp
theorem zipL {α β : Type} {a : List α} {b : List β} {p : α × β} (h : p ∈ a.zip b) : ∃ k : Nat, a[k]? = some p.1 ∧ b[k]? = some p.2 := by
  obtain ⟨k, hk⟩ := List.mem_iff_getElem?.mp h
  exact ⟨k, (List.getElem?_zip_eq_some.mp hk).1, (List.getElem?_zip_eq_some.mp hk).2⟩
theorem first_ok {s : Sys} (h : s.Ok) : StOk s (firstL s) := by
  refine ⟨by have := h.sup; show 0 < s.sup.length; omega, by show (s.tasks.map _).length = _; rw [List.length_map], fun p hp => ?_⟩
  obtain ⟨k, h1, h2⟩ := zipL hp
  have h2 : (s.tasks.map fun t => (⟨t.off, none, 0⟩ : Row))[k]? = some p.2 := h2
  rw [List.getElem?_map, h1] at h2
  have e : p.2 = ⟨p.1.off, none, 0⟩ := (Option.some.inj h2).symm
  have ho := (h.task _ (List.mem_of_getElem? h1)).off
  rw [e]
  exact ⟨⟨ho.1, .inl (Int.le_refl _)⟩, rfl⟩
theorem come_ok {s : Sys} (h : s.Ok) {st : StT} (hs : StOk s st) (names : List Str) : ∀ p ∈ s.tasks.zip (comeL s st.rows names), RowOk p.1 p.2 ∧ (p.2.done.isSome → 0 < p.2.wait) := by
  intro p hp
  obtain ⟨k, h1, h2⟩ := zipL hp
  have h2 : ((s.tasks.zip st.rows).map fun p => if comes names p.1 p.2 then (⟨p.1.gap, some 0, 0⟩ : Row) else p.2)[k]? = some p.2 := h2
  have hk : k < st.rows.length := by rw [hs.2.1]; exact (List.getElem?_eq_some_iff.mp h1).1
  have hr := List.getElem?_eq_getElem hk
  have hz : (s.tasks.zip st.rows)[k]? = some (p.1, st.rows[k]) := List.getElem?_zip_eq_some.mpr ⟨h1, hr⟩
  rw [List.getElem?_map, hz] at h2
  have e := (Option.some.inj h2).symm
  have ht := h.task _ (List.mem_of_getElem? h1)
  have ho := hs.2.2 _ (List.mem_of_getElem? hz)
  have hg := ht.gap
  have hd := ht.due
  have hm := ht.most
  generalize st.rows[k] = r at e ho
  change p.2 = if comes names p.1 r then (⟨p.1.gap, some 0, 0⟩ : Row) else r at e
  change RowOk p.1 r at ho
  by_cases hc : comes names p.1 r = true
  · rw [if_pos hc] at e
    rw [e]
    refine ⟨⟨⟨?_, .inr (Int.le_refl _)⟩, ⟨?_, ?_⟩, ⟨?_, ?_⟩, ?_⟩, fun _ => ?_⟩ <;> first | (show (0 : Int) ≤ _; simp; done) | skip
    all_goals first | (show (0:Int) ≤ p.1.gap; omega) | (show (0:Int) < p.1.most; omega) | (show (0:Int) < p.1.due; omega) | (show (0:Int) = p.1.gap - p.1.gap; omega) | (show (0:Int) < p.1.gap; omega)
  · rw [if_neg hc] at e
    rw [e]
    refine ⟨ho, fun hsome => ?_⟩
    obtain ⟨w, dn, ag⟩ := r
    cases dn with
    | none => cases hsome
    | some d =>
      obtain ⟨_, h3⟩ := ho
      have h3 : (0 ≤ d ∧ d < p.1.most) ∧ (0 ≤ ag ∧ ag < p.1.due) ∧ ag = p.1.gap - w := h3
      show 0 < w
      omega
/-- one tick in which nothing is late -/
theorem after_ok {t : Task} (ht : t.Ok) {r : Row} (h : RowOk t r) (h0 : r.done.isSome → 0 < r.wait) {ran : Bool} {es : List Str} (hl : lateB t r ran es = false) : RowOk t (afterR t r ran es) := by
  obtain ⟨w, dn, ag⟩ := r
  obtain ⟨⟨h1, h2⟩, h3⟩ := h
  have h1 : 0 ≤ w := h1
  have h2 : w ≤ t.off ∨ w ≤ t.gap := h2
  have hw : 0 ≤ max 0 (w - 1) ∧ (max 0 (w - 1) ≤ t.off ∨ max 0 (w - 1) ≤ t.gap) := by omega
  unfold afterR
  unfold lateB at hl
  cases ho : overB t ⟨w, dn, ag⟩ ran es with
  | true => rw [if_pos rfl]; exact ⟨hw, rfl⟩
  | false =>
    rw [if_neg (by decide)]
    rw [ho] at hl
    cases dn with
    | none => cases ran <;> exact ⟨hw, rfl⟩
    | some d =>
      have h3 : (0 ≤ d ∧ d < t.most) ∧ (0 ≤ ag ∧ ag < t.due) ∧ ag = t.gap - w := h3
      have hl : (true && (true && decide (ag + 1 = t.due))) = false := hl
      have h0 : 0 < w := h0 rfl
      have hne : ¬ (ag + 1 = t.due) := by simpa using hl
      cases ran with
      | false =>
        refine ⟨hw, ?_, ?_, ?_⟩
        · exact h3.1
        · show 0 ≤ ag + 1 ∧ ag + 1 < t.due; omega
        · show ag + 1 = t.gap - max 0 (w - 1); omega
      | true =>
        have hov : (true && (decide (some (d + 1) = some t.most) || decide (t.nm ∈ es))) = false := ho
        have hne2 : ¬ (d + 1 = t.most) := by
          intro e
          rw [e] at hov
          simp at hov
        refine ⟨hw, ?_, ?_, ?_⟩
        · show 0 ≤ d + 1 ∧ d + 1 < t.most; omega
        · show 0 ≤ ag + 1 ∧ ag + 1 < t.due; omega
        · show ag + 1 = t.gap - max 0 (w - 1); omega
theorem tick_ok {s : Sys} (h : s.Ok) {st : StT} (hs : StOk s st) {c : Ch} (hl : (tick s st c).1.late = []) : StOk s (tick s st c).2 := by
  refine ⟨tick_ph h st c, tick_len hs.2.1 c, fun p hp => ?_⟩
  obtain ⟨k, h1, h2⟩ := zipL hp
  have h2 : (((s.tasks.zip (comeL s st.rows c.1)).zipIdx).map fun p => afterR p.1.1 p.1.2 (decide (p.2 ∈ runsL s st.ph (comeL s st.rows c.1))) c.2)[k]? = some p.2 := h2
  have hl : (((s.tasks.zip (comeL s st.rows c.1)).zipIdx.filter fun p => lateB p.1.1 p.1.2 (decide (p.2 ∈ runsL s st.ph (comeL s st.rows c.1))) c.2).map (·.1.1.nm)) = [] := hl
  have hcl : (comeL s st.rows c.1).length = s.tasks.length := comeL_len hs.2.1 c.1
  have hco := come_ok h hs c.1
  generalize comeL s st.rows c.1 = rows at h2 hl hcl hco
  generalize runsL s st.ph rows = runs at h2 hl
  have hk : k < rows.length := by rw [hcl]; exact (List.getElem?_eq_some_iff.mp h1).1
  have hr := List.getElem?_eq_getElem hk
  generalize rows[k] = r at hr
  have hz : (s.tasks.zip rows)[k]? = some (p.1, r) := List.getElem?_zip_eq_some.mpr ⟨h1, hr⟩
  have hzi : (s.tasks.zip rows).zipIdx[k]? = some ((p.1, r), k) := by
    rw [List.getElem?_zipIdx, hz]
    simp
  rw [List.getElem?_map, hzi] at h2
  have e := (Option.some.inj h2).symm
  have hl := List.filter_eq_nil_iff.mp (List.map_eq_nil_iff.mp hl) _ (List.mem_of_getElem? hzi)
  rw [e]
  have hc := hco _ (List.mem_of_getElem? hz)
  refine after_ok (h.task _ (List.mem_of_getElem? h1)) hc.1 hc.2 ?_
  exact Bool.eq_false_iff.mpr hl
end Sy
end Dm

/-! SyI: no two jobs hold a lock. -/
namespace Dm
open PySem L2
namespace Sy
theorem lt_tri : ∀ a b : List Int, a < b ∨ a = b ∨ b < a
  | [], [] => .inr (.inl rfl)
  | [], y :: b => .inl (by simp)
  | x :: a, [] => .inr (.inr (by simp))
  | x :: a, y :: b => by
    rw [List.cons_lt_cons_iff, List.cons_lt_cons_iff]
    rcases lt_tri a b with h | h | h
    · by_cases e : x = y
      · exact .inl (.inr ⟨e, h⟩)
      · by_cases l : x < y
        · exact .inl (.inl l)
        · exact .inr (.inr (.inl (by omega)))
    · by_cases e : x = y
      · exact .inr (.inl (by rw [e, h]))
      · by_cases l : x < y
        · exact .inl (.inl l)
        · exact .inr (.inr (.inl (by omega)))
    · by_cases e : x = y
      · exact .inr (.inr (.inr ⟨e.symm, h⟩))
      · by_cases l : x < y
        · exact .inl (.inl l)
        · exact .inr (.inr (.inl (by omega)))
theorem lt_irr : ∀ a : List Int, ¬ a < a
  | [] => by simp
  | x :: a => by
    rw [List.cons_lt_cons_iff]
    rintro (h | ⟨_, h⟩)
    · omega
    · exact lt_irr a h
theorem lt_tr : ∀ a b c : List Int, a < b → b < c → a < c
  | _, _, [], _, h => absurd h (by simp)
  | [], _, z :: c, _, _ => by simp
  | x :: a, [], z :: c, h, _ => absurd h (by simp)
  | x :: a, y :: b, z :: c, h1, h2 => by
    rw [List.cons_lt_cons_iff] at h1 h2 ⊢
    rcases h1 with h1 | ⟨e1, h1⟩
    · rcases h2 with h2 | ⟨e2, h2⟩
      · exact .inl (by omega)
      · exact .inl (by omega)
    · rcases h2 with h2 | ⟨e2, h2⟩
      · exact .inl (by omega)
      · exact .inr ⟨by omega, lt_tr a b c h1 h2⟩
theorem leK_iff (key : Nat → List Int) (i j : Nat) : leK key i j = true ↔ (key i < key j ∨ (key i = key j ∧ i ≤ j)) := by
  rw [leK_eq]
  by_cases e : key j = key i
  · rw [if_pos e, Bool.not_eq_true', decide_eq_false_iff_not]
    constructor
    · intro h; exact .inr ⟨e.symm, by omega⟩
    · rintro (h | ⟨_, h⟩)
      · rw [e] at h; exact absurd h (lt_irr _)
      · omega
  · rw [if_neg e, Bool.not_eq_true', decide_eq_false_iff_not]
    constructor
    · intro h
      rcases lt_tri (key i) (key j) with h1 | h1 | h1
      · exact .inl h1
      · exact absurd h1.symm e
      · exact absurd h1 h
    · rintro (h | ⟨h, _⟩)
      · intro h2; exact lt_irr _ (lt_tr _ _ _ h h2)
      · exact absurd h.symm e
theorem leK_trans (key : Nat → List Int) (a b c : Nat) (h1 : leK key a b = true) (h2 : leK key b c = true) : leK key a c = true := by
  rw [leK_iff] at h1 h2 ⊢
  rcases h1 with h1 | ⟨e1, h1⟩
  · rcases h2 with h2 | ⟨e2, h2⟩
    · exact .inl (lt_tr _ _ _ h1 h2)
    · exact .inl (e2 ▸ h1)
  · rcases h2 with h2 | ⟨e2, h2⟩
    · exact .inl (e1 ▸ h2)
    · exact .inr ⟨e1.trans e2, by omega⟩
theorem leK_total (key : Nat → List Int) (a b : Nat) : (leK key a b || leK key b a) = true := by
  rw [Bool.or_eq_true, leK_iff, leK_iff]
  rcases lt_tri (key a) (key b) with h | h | h
  · exact .inl (.inl h)
  · by_cases l : a ≤ b
    · exact .inl (.inr ⟨h, l⟩)
    · exact .inr (.inr ⟨h.symm, by omega⟩)
  · exact .inr (.inl h)
theorem runs_one_mem {s : Sys} (hm : s.mach = 1) {ph : Nat} {rows : List Row} {j : Nat} (h : j ∈ runsL s ph rows) : ∃ rest, (jobsL rows).mergeSort (leK (jkey s rows)) = j :: rest := by
  unfold runsL runsBy at h
  split at h
  · cases h
  · rw [List.mem_mergeSort, hm] at h
    generalize (jobsL rows).mergeSort (leK (jkey s rows)) = l at h
    cases l with
    | nil => cases h
    | cons x l =>
      have h : j ∈ [x] := h
      rw [List.mem_singleton] at h
      exact ⟨l, by rw [h]⟩
theorem runs_one {s : Sys} (hm : s.mach = 1) {ph : Nat} {rows : List Row} {j k : Nat} (hj : j ∈ runsL s ph rows) (hk : k ∈ runsL s ph rows) : j = k := by
  obtain ⟨r1, e1⟩ := runs_one_mem hm hj
  obtain ⟨r2, e2⟩ := runs_one_mem hm hk
  rw [e1] at e2
  exact (List.cons.inj e2).1
theorem runs_least {s : Sys} (hm : s.mach = 1) {ph : Nat} {rows : List Row} {j k : Nat} (hj : j ∈ runsL s ph rows) (hk : k ∈ jobsL rows) : leK (jkey s rows) j k = true := by
  obtain ⟨rest, e⟩ := runs_one_mem hm hj
  have hp := List.pairwise_mergeSort (le := leK (jkey s rows)) (leK_trans _) (leK_total _) (jobsL rows)
  rw [e] at hp
  have hk2 : k ∈ j :: rest := by rw [← e]; exact List.mem_mergeSort.mpr hk
  rcases List.mem_cons.mp hk2 with rfl | h
  · have := leK_total (jkey s rows) k k
    rw [Bool.or_self] at this
    exact this
  · exact (List.pairwise_cons.mp hp).1 k h
/-- what locks there are in drawn systems -/
structure LkOk (s : Sys) : Prop where
  l : ∀ l ∈ s.locks, l.lk = "l" ∧ l.lo = 0
  hi : ∀ l ∈ s.locks, ∃ t ∈ s.tasks, t.nm = l.nm ∧ l.hi = t.most
  one : (s.locks.map (·.nm)).Nodup
def hasLk (s : Sys) (t : Task) : Prop := ∃ l ∈ s.locks, l.nm = t.nm
/-- no two jobs of tasks with locks are begun -/
def Excl (s : Sys) (rows : List Row) : Prop := ∀ (j k : Nat) (tj tk : Task) (rj rk : Row) (dj dk : Int), s.tasks[j]? = some tj → s.tasks[k]? = some tk → rows[j]? = some rj → rows[k]? = some rk → hasLk s tj → hasLk s tk → rj.done = some dj → rk.done = some dk → 0 < dj → 0 < dk → j = k
theorem held_begun {s : Sys} (h : s.Ok) (q : LkOk s) {k : Nat} {t : Task} (ht : s.tasks[k]? = some t) {d : Int} (h0 : 0 < d) (h1 : d < t.most) (hl : hasLk s t) : ("l" : Str) ∈ heldL s t.nm d := by
  obtain ⟨l, hm, e⟩ := hl
  obtain ⟨u, hu, e1, e2⟩ := q.hi l hm
  obtain ⟨j, hj⟩ := List.mem_iff_getElem?.mp hu
  have : j = k := nm_uniq h hj ht (e1.trans e)
  subst this
  have : u = t := Option.some.inj (hj.symm.trans ht)
  subst this
  exact mem_heldL.mpr ⟨l, hm, e, by rw [(q.l l hm).2]; exact h0, by rw [e2]; exact h1, (q.l l hm).1⟩
theorem held_zero {s : Sys} (q : LkOk s) (nm : Str) : heldL s nm 0 = [] := by
  cases h : heldL s nm 0 with
  | nil => rfl
  | cons x xs =>
    have hx : x ∈ heldL s nm 0 := by rw [h]; exact List.mem_cons_self
    obtain ⟨l, hl, _, h1, _⟩ := mem_heldL.mp hx
    rw [(q.l l hl).2] at h1
    omega
theorem jkey_of {s : Sys} {rows : List Row} {k : Nat} {t : Task} {r : Row} {d : Int} (ht : s.tasks[k]? = some t) (hr : rows[k]? = some r) (hd : r.done = some d) : jkey s rows k = keyL s k t d r.age := by
  unfold jkey
  rw [ht, hr]
  show (match r.done with | some d => keyL s k t d r.age | none => []) = _
  rw [hd]
theorem job_mem {rows : List Row} {k : Nat} {r : Row} {d : Int} (hr : rows[k]? = some r) (hd : r.done = some d) : k ∈ jobsL rows := by
  unfold jobsL
  rw [List.mem_filter, List.mem_range]
  refine ⟨(List.getElem?_eq_some_iff.mp hr).1, ?_⟩
  unfold hasJob
  rw [hr]
  show r.done.isSome = true
  rw [hd]; rfl
/-- a task with locks begins no job while another's is begun -/
theorem no_begin {s : Sys} (h : s.Ok) (q : LkOk s) (hne : s.locks ≠ []) {ph : Nat} {rows : List Row} {j k : Nat} {tj tk : Task} {rj rk : Row} {dk : Int} (hj : s.tasks[j]? = some tj) (hk : s.tasks[k]? = some tk) (gj : rows[j]? = some rj) (gk : rows[k]? = some rk)
    (lj : hasLk s tj) (lk : hasLk s tk) (ej : rj.done = some 0) (ek : rk.done = some dk) (h0 : 0 < dk) (h1 : dk < tk.most) : j ∉ runsL s ph rows := by
  intro hr
  obtain ⟨hm, hf, hb⟩ := h.free hne
  have le := runs_least hm hr (job_mem gk ek)
  rw [leK_iff, jkey_of hj gj ej, jkey_of hk gk ek, key_fix (by rw [hf]; decide +kernel) (by rw [hf]; decide +kernel) (by rw [hf]; decide +kernel), key_fix (by rw [hf]; decide +kernel) (by rw [hf]; decide +kernel) (by rw [hf]; decide +kernel), held_zero q, placeL_nil] at le
  have hh := held_begun h q hk h0 h1 lk
  have b0 : begB s 0 = 1 := by unfold begB; rw [if_neg (by rintro ⟨z, _⟩; rw [hb] at z; cases z)]
  have b1 : begB s dk = 1 := by unfold begB; rw [if_neg (by rintro ⟨z, _⟩; rw [hb] at z; cases z)]
  have o0 : onum [] = 1 := rfl
  have o1 : onum (heldL s tk.nm dk) = 0 := by unfold onum; rw [if_neg (by intro z; rw [z] at hh; cases hh)]
  have hpl : placeL s (heldL s tk.nm dk) k ≤ j := by
    rw [placeL_eq]
    obtain ⟨l, hl, e⟩ := lj
    exact (foldl_min_le _ _).2.1 j (mem_rowsAt.mpr ⟨tj, hj, l, hl, e, by rw [(q.l l hl).1]; exact hh⟩)
  rw [b0, b1, o0, o1] at le
  generalize placeL s (heldL s tk.nm dk) k = p at le hpl
  rcases le with le | ⟨le, _⟩
  · rw [List.cons_lt_cons_iff, List.cons_lt_cons_iff, List.cons_lt_cons_iff, List.cons_lt_cons_iff] at le
    rcases le with le | ⟨_, le | ⟨_, le | ⟨le, _⟩⟩⟩ <;> omega
  · injection le with _ le
    injection le with e1 le
    injection le with e2 le
    omega
theorem come_at {s : Sys} {st : StT} (hl : st.rows.length = s.tasks.length) {names : List Str} {k : Nat} {t : Task} {r : Row} (ht : s.tasks[k]? = some t) (hr : (comeL s st.rows names)[k]? = some r) : st.rows[k]? = some r ∨ r = ⟨t.gap, some 0, 0⟩ := by
  have hk : k < st.rows.length := by rw [hl]; exact (List.getElem?_eq_some_iff.mp ht).1
  have hg := List.getElem?_eq_getElem hk
  have hz : (s.tasks.zip st.rows)[k]? = some (t, st.rows[k]) := List.getElem?_zip_eq_some.mpr ⟨ht, hg⟩
  have hr : ((s.tasks.zip st.rows).map fun p => if comes names p.1 p.2 then (⟨p.1.gap, some 0, 0⟩ : Row) else p.2)[k]? = some r := hr
  rw [List.getElem?_map, hz] at hr
  have e := (Option.some.inj hr).symm
  by_cases hc : comes names t st.rows[k] = true
  · right; rw [e]; exact if_pos hc
  · left; rw [hg, e]; exact congrArg some (if_neg hc).symm
theorem come_excl {s : Sys} {st : StT} (hl : st.rows.length = s.tasks.length) (hx : Excl s st.rows) (names : List Str) : Excl s (comeL s st.rows names) := by
  intro j k tj tk rj rk dj dk h1 h2 h3 h4 h5 h6 h7 h8 h9 h10
  rcases come_at hl h1 h3 with g1 | e
  · rcases come_at hl h2 h4 with g2 | e
    · exact hx j k tj tk rj rk dj dk h1 h2 g1 g2 h5 h6 h7 h8 h9 h10
    · rw [e] at h8
      injection h8 with h8
      omega
  · rw [e] at h7
    injection h7 with h7
    omega
theorem after_done {t : Task} {r : Row} {ran : Bool} {es : List Str} {d : Int} (h : (afterR t r ran es).done = some d) : ranD r ran = some d := by
  unfold afterR at h
  split at h
  · cases h
  · split at h
    · cases h
    · rename_i e; rw [e]; exact h
theorem tick_excl {s : Sys} (h : s.Ok) (q : LkOk s) {st : StT} (hs : StOk s st) (hx : Excl s st.rows) (c : Ch) : Excl s (tick s st c).2.rows := by
  have hcl : (comeL s st.rows c.1).length = s.tasks.length := comeL_len hs.2.1 c.1
  have hce := come_excl hs.2.1 hx c.1
  have hco := come_ok h hs c.1
  intro j k tj tk rj rk dj dk h1 h2 h3 h4 h5 h6 h7 h8 h9 h10
  have hne : s.locks ≠ [] := by
    obtain ⟨l, hl, _⟩ := h5
    intro z
    rw [z] at hl; cases hl
  have hm := (h.free hne).1
  have at_ : ∀ (i : Nat) (t : Task) (r : Row), s.tasks[i]? = some t → (tick s st c).2.rows[i]? = some r → ∃ r0, (comeL s st.rows c.1)[i]? = some r0 ∧ r = afterR t r0 (decide (i ∈ runsL s st.ph (comeL s st.rows c.1))) c.2 := fun i t r g1 g2 => by
    have g2 : (((s.tasks.zip (comeL s st.rows c.1)).zipIdx).map fun p => afterR p.1.1 p.1.2 (decide (p.2 ∈ runsL s st.ph (comeL s st.rows c.1))) c.2)[i]? = some r := g2
    have hi : i < (comeL s st.rows c.1).length := by rw [hcl]; exact (List.getElem?_eq_some_iff.mp g1).1
    have hr := List.getElem?_eq_getElem hi
    have hz : (s.tasks.zip (comeL s st.rows c.1))[i]? = some (t, (comeL s st.rows c.1)[i]) := List.getElem?_zip_eq_some.mpr ⟨g1, hr⟩
    have hzi : (s.tasks.zip (comeL s st.rows c.1)).zipIdx[i]? = some ((t, (comeL s st.rows c.1)[i]), i) := by
      rw [List.getElem?_zipIdx, hz]
      simp
    rw [List.getElem?_map, hzi] at g2
    exact ⟨_, hr, (Option.some.inj g2).symm⟩
  obtain ⟨r1, a1, e1⟩ := at_ j tj rj h1 h3
  obtain ⟨r2, a2, e2⟩ := at_ k tk rk h2 h4
  rw [e1] at h7
  rw [e2] at h8
  have h7 := after_done h7
  have h8 := after_done h8
  have o1 := (hco _ (List.mem_of_getElem? (List.getElem?_zip_eq_some.mpr ⟨h1, a1⟩ : (s.tasks.zip (comeL s st.rows c.1))[j]? = some (tj, r1)))).1
  have o2 := (hco _ (List.mem_of_getElem? (List.getElem?_zip_eq_some.mpr ⟨h2, a2⟩ : (s.tasks.zip (comeL s st.rows c.1))[k]? = some (tk, r2)))).1
  clear at_ hco hcl
  generalize hR : comeL s st.rows c.1 = rows at *
  have bd : ∀ {t : Task} {r : Row} {d : Int}, RowOk t r → r.done = some d → 0 ≤ d ∧ d < t.most := fun {t r d} g e => by
    have g := g.2
    rw [e] at g
    exact g.1
  have dn : ∀ {r : Row} {ran : Bool} {d : Int}, ranD r ran = some d → (ran = true ∧ r.done = some (d - 1)) ∨ (ran = false ∧ r.done = some d) := fun {r ran d} e => by
    cases ran with
    | false => exact .inr ⟨rfl, e⟩
    | true =>
      left
      have e : r.done.map (· + 1) = some d := e
      cases hd : r.done with
      | none => rw [hd] at e; cases e
      | some x =>
        rw [hd] at e
        have e : x + 1 = d := Option.some.inj e
        exact ⟨rfl, by rw [← e]; exact congrArg some (by omega)⟩
  rcases dn h7 with ⟨u1, v1⟩ | ⟨u1, v1⟩
  · rcases dn h8 with ⟨u2, v2⟩ | ⟨u2, v2⟩
    · exact runs_one hm (of_decide_eq_true u1) (of_decide_eq_true u2)
    · by_cases z : 0 < dj - 1
      · exact hce j k tj tk r1 r2 _ _ h1 h2 a1 a2 h5 h6 v1 v2 z h10
      · have z0 : dj - 1 = 0 := by have := (bd o1 v1).1; omega
        rw [z0] at v1
        exact absurd (of_decide_eq_true u1) (no_begin h q hne h1 h2 a1 a2 h5 h6 v1 v2 h10 (bd o2 v2).2)
  · rcases dn h8 with ⟨u2, v2⟩ | ⟨u2, v2⟩
    · by_cases z : 0 < dk - 1
      · exact hce j k tj tk r1 r2 _ _ h1 h2 a1 a2 h5 h6 v1 v2 h9 z
      · have z0 : dk - 1 = 0 := by have := (bd o2 v2).1; omega
        rw [z0] at v2
        exact absurd (of_decide_eq_true u2) (no_begin h q hne h2 h1 a2 a1 h6 h5 v2 v1 h9 (bd o1 v1).2)
    · exact hce j k tj tk r1 r2 _ _ h1 h2 a1 a2 h5 h6 v1 v2 h9 h10
theorem first_excl (s : Sys) : Excl s (firstL s).rows := by
  intro j k tj tk rj rk dj dk h1 h2 h3 h4 h5 h6 h7 h8 h9 h10
  have h3 : (s.tasks.map fun t => (⟨t.off, none, 0⟩ : Row))[j]? = some rj := h3
  rw [List.getElem?_map, h1] at h3
  rw [← Option.some.inj h3] at h7
  cases h7
/-! so there is at most one holder -/
theorem flat_le1 {α β : Type} (f : α → List β) : ∀ (L : List α), (∀ p ∈ L, (f p).length ≤ 1) → L.Pairwise (fun p q => f p = [] ∨ f q = []) → (L.flatMap f).length ≤ 1
  | [], _, _ => Nat.zero_le _
  | p :: L, h1, h2 => by
    rw [List.flatMap_cons, List.length_append]
    have hp := List.pairwise_cons.mp h2
    have ih := flat_le1 f L (fun x hx => h1 x (List.mem_cons_of_mem _ hx)) hp.2
    by_cases e : f p = []
    · rw [e]; show 0 + _ ≤ 1; omega
    · have e2 : L.flatMap f = [] := List.flatMap_eq_nil_iff.mpr fun x hx => (hp.1 x hx).resolve_left e
      rw [e2]
      have := h1 p List.mem_cons_self
      show _ + 0 ≤ 1
      omega
theorem held_le1 {s : Sys} (q : LkOk s) (nm : Str) (d : Option Int) : (heldO s nm d).length ≤ 1 := by
  cases d with
  | none => exact Nat.zero_le _
  | some d =>
    show (heldL s nm d).length ≤ 1
    unfold heldL
    rw [List.length_map]
    have hn := q.one
    generalize s.locks = ls at hn
    have hnd : ((ls.filter fun l => l.nm == nm && (decide (l.lo < d) && decide (d < l.hi))).map (·.nm)).Nodup := hn.sublist (List.filter_sublist.map _)
    have hal : ∀ l ∈ ls.filter (fun l => l.nm == nm && (decide (l.lo < d) && decide (d < l.hi))), l.nm = nm := fun l hl => by
      have := (List.mem_filter.mp hl).2
      rw [Bool.and_eq_true, beq_iff_eq] at this
      exact this.1
    generalize ls.filter (fun l => l.nm == nm && (decide (l.lo < d) && decide (d < l.hi))) = fl at hnd hal
    match fl, hnd, hal with
    | [], _, _ => exact Nat.zero_le _
    | [_], _, _ => exact Nat.le_refl _
    | a :: b :: l, hnd, hal =>
      have e : a.nm = b.nm := (hal a (by simp)).trans (hal b (by simp)).symm
      rw [List.map_cons, List.map_cons, List.nodup_cons] at hnd
      exact absurd (by rw [e]; exact List.mem_cons_self) hnd.1
theorem all_le1 {s : Sys} (h : s.Ok) (q : LkOk s) {st : StT} (hs : StOk s st) (hx : Excl s st.rows) : ((s.tasks.zip st.rows).flatMap fun p => (heldO s p.1.nm p.2.done).map fun l => (p.1.nm, l)).length ≤ 1 := by
  refine flat_le1 _ _ (fun p _ => by rw [List.length_map]; exact held_le1 q _ _) ?_
  rw [List.pairwise_iff_getElem]
  intro i j hi hj hij
  have g1 := List.getElem?_eq_getElem hi
  have g2 := List.getElem?_eq_getElem hj
  generalize (s.tasks.zip st.rows)[i] = p1 at g1 ⊢
  generalize (s.tasks.zip st.rows)[j] = p2 at g2 ⊢
  obtain ⟨t1, r1⟩ := p1
  obtain ⟨t2, r2⟩ := p2
  obtain ⟨a1, b1⟩ := List.getElem?_zip_eq_some.mp g1
  obtain ⟨a2, b2⟩ := List.getElem?_zip_eq_some.mp g2
  have key : ∀ (t : Task) (r : Row), ((heldO s t.nm r.done).map fun l => (t.nm, l)) = [] ∨ (hasLk s t ∧ ∃ d, r.done = some d ∧ 0 < d) := fun t r => by
    cases hd : r.done with
    | none => exact .inl rfl
    | some d =>
      by_cases e : heldL s t.nm d = []
      · left; show (heldL s t.nm d).map _ = []; rw [e]; rfl
      · right
        obtain ⟨x, hx⟩ := List.exists_mem_of_ne_nil _ e
        obtain ⟨l, hl, e1, e2, e3, e4⟩ := mem_heldL.mp hx
        exact ⟨⟨l, hl, e1⟩, d, rfl, by rw [(q.l l hl).2] at e2; exact e2⟩
  rcases key t1 r1 with e | ⟨l1, d1, e1, z1⟩
  · exact .inl e
  · rcases key t2 r2 with e | ⟨l2, d2, e2, z2⟩
    · exact .inr e
    · have := hx i j t1 t2 r1 r2 d1 d2 a1 a2 b1 b2 l1 l2 e1 e2 z1 z2
      omega
end Sy
end Dm

/-! SyJ: choices read off rows, logs read back: plain laws. -/
namespace Dm
open PySem L2
namespace Sy
/-! ### parts of lists -/
theorem sets_of_sub {α : Type} {l x : List α} (h : x.Sublist l) : x ∈ setsL l := by
  unfold setsL
  suffices H : ∀ (l x : List α), x.Sublist l → ∀ (p : List α) (sets : List (List α)), p ∈ sets → p ++ x ∈ l.foldl (fun sets y => sets ++ sets.map (· ++ [y])) sets by
    have := H l x h [] [[]] List.mem_cons_self
    rwa [List.nil_append] at this
  intro l
  induction l with
  | nil =>
    intro x hx p sets hp
    rw [List.sublist_nil.mp hx, List.append_nil]; exact hp
  | cons y l ih =>
    intro x hx p sets hp
    rw [List.foldl_cons]
    cases hx with
    | cons _ hx => exact ih x hx p _ (List.mem_append_left _ hp)
    | cons_cons _ hx =>
      rename_i z
      have := ih z hx (p ++ [y]) (sets ++ sets.map (· ++ [y])) (List.mem_append_right _ (List.mem_map.mpr ⟨p, hp, rfl⟩))
      rwa [List.append_assoc] at this
theorem sub_filter {x l : List Str} (hd : l.Nodup) (h : x.Sublist l) : l.filter (fun y => decide (y ∈ x)) = x := by
  induction h with
  | slnil => rfl
  | cons a hx ih =>
    rename_i l1 l2
    rw [List.nodup_cons] at hd
    rw [List.filter_cons_of_neg, ih hd.2]
    rw [decide_eq_true_eq]
    exact fun hm => hd.1 (hx.subset hm)
  | cons_cons a hx ih =>
    rename_i l1 l2
    rw [List.nodup_cons] at hd
    rw [List.filter_cons_of_pos (by rw [decide_eq_true_eq]; exact List.mem_cons_self)]
    congr 1
    rw [← ih hd.2]
    refine List.filter_congr fun y hy => ?_
    have hne : y ≠ a := by rintro rfl; exact hd.1 hy
    rw [ih hd.2]
    simp [hne]
theorem filter_sub_of {x l : List Str} (h : x = l.filter fun y => decide (y ∈ x)) : x.Sublist l := by
  rw [h]; exact List.filter_sublist
/-! ### names of places -/
theorem nms_at (s : Sys) : nms s = (List.range s.tasks.length).map (nmAt s) := by
  refine List.ext_getElem? fun k => ?_
  unfold nms
  rw [List.getElem?_map, List.getElem?_map]
  by_cases hk : k < s.tasks.length
  · rw [List.getElem?_eq_getElem hk, List.getElem?_range hk]
    show some _ = some (nmAt s k)
    rw [nmAt_eq (List.getElem?_eq_getElem hk)]
  · rw [List.getElem?_eq_none (by omega), List.getElem?_eq_none (by rw [List.length_range]; omega)]; rfl
theorem range_sub {n : Nat} {P : Nat → Bool} (s : Sys) (hn : n = s.tasks.length) : (((List.range n).filter P).map (nmAt s)).Sublist (nms s) := by
  rw [nms_at, hn]
  exact List.filter_sublist.map _
theorem zip_fst_sub {α β : Type} : ∀ (a : List α) (b : List β), ((a.zip b).map Prod.fst).Sublist a
  | [], _ => List.Sublist.slnil
  | _ :: a, [] => List.nil_sublist _
  | _ :: a, _ :: b => (zip_fst_sub a b).cons_cons _
theorem mayL_sub (s : Sys) (rows : List Row) : (mayL s rows).Sublist (nms s) := by
  unfold mayL nms
  have h1 : ((s.tasks.zip rows).map Prod.fst).Sublist s.tasks := by
    exact zip_fst_sub _ _
  have h2 : (((s.tasks.zip rows).filter fun p => mayCome p.1 p.2).map (·.1.nm)).Sublist ((s.tasks.zip rows).map (·.1.nm)) := List.filter_sublist.map _
  refine h2.trans ?_
  have := h1.map (·.nm)
  rw [List.map_map] at this
  exact this
/-- the names of those that may end -/
def endNm (s : Sys) (ph : Nat) (rows : List Row) : List Str := (endsL s rows (runsL s ph rows)).map (nmAt s)
theorem endNm_sub {s : Sys} {ph : Nat} {rows : List Row} (hl : rows.length = s.tasks.length) : (endNm s ph rows).Sublist (nms s) := by
  unfold endNm endsL runsL
  rw [nms_at, ← hl]
  refine List.Sublist.map _ (List.filter_sublist.trans ?_)
  have e := runs_self (key := jkey s rows) (s := s) (ph := ph) (rows := rows)
  rw [← e]
  exact List.filter_sublist
theorem endNm_mem {s : Sys} (h : s.Ok) {ph : Nat} {rows : List Row} (hl : rows.length = s.tasks.length) {k : Nat} {t : Task} {r : Row} (ht : s.tasks[k]? = some t) (hr : rows[k]? = some r) : t.nm ∈ endNm s ph rows ↔ k ∈ runsL s ph rows ∧ mayEnd t r = true := by
  unfold endNm
  rw [List.mem_map]
  constructor
  · rintro ⟨j, hj, e⟩
    unfold endsL at hj
    rw [List.mem_filter] at hj
    obtain ⟨h1, h2⟩ := hj
    cases hj : s.tasks[j]? with
    | none => rw [hj] at h2; cases h2
    | some t2 =>
      rw [nmAt_eq hj] at e
      have := nm_uniq h hj ht e
      subst this
      rw [ht, hr] at h2
      exact ⟨h1, h2⟩
  · rintro ⟨h1, h2⟩
    refine ⟨k, ?_, nmAt_eq ht⟩
    unfold endsL
    rw [List.mem_filter, ht, hr]
    exact ⟨h1, h2⟩
/-! ### a row's choice -/
def choiceOf (s : Sys) (st : StT) (r : LRow) : Ch :=
  (r.come.filter fun x => decide (x ∈ mayL s st.rows), r.over.filter fun x => decide (x ∈ endNm s st.ph (comeL s st.rows (r.come.filter fun x => decide (x ∈ mayL s st.rows)))))
/-- what is a choice -/
def isCh (s : Sys) (st : StT) (c : Ch) : Bool :=
  decide (c.1 = (mayL s st.rows).filter fun x => decide (x ∈ c.1)) && decide (c.2 = (endNm s st.ph (comeL s st.rows c.1)).filter fun x => decide (x ∈ c.2))
theorem mem_choices {s : Sys} {st : StT} {c : Ch} : c ∈ choicesL s st ↔ c.1.Sublist (mayL s st.rows) ∧ c.2.Sublist (endNm s st.ph (comeL s st.rows c.1)) := by
  unfold choicesL
  rw [List.mem_mergeSort]
  unfold chooseL
  rw [List.mem_flatMap]
  constructor
  · rintro ⟨sm, h1, h2⟩
    obtain ⟨e, he, rfl⟩ := List.mem_map.mp h2
    exact ⟨sets_sub h1, sets_sub he⟩
  · rintro ⟨h1, h2⟩
    exact ⟨c.1, sets_of_sub h1, List.mem_map.mpr ⟨c.2, sets_of_sub h2, rfl⟩⟩
theorem isCh_iff {s : Sys} (h : s.Ok) {st : StT} (hl : st.rows.length = s.tasks.length) {c : Ch} : isCh s st c = true ↔ c ∈ choicesL s st := by
  rw [mem_choices]
  unfold isCh
  rw [Bool.and_eq_true, decide_eq_true_eq, decide_eq_true_eq]
  constructor
  · rintro ⟨h1, h2⟩
    exact ⟨filter_sub_of h1, filter_sub_of h2⟩
  · rintro ⟨h1, h2⟩
    exact ⟨(sub_filter (h.nd.sublist (mayL_sub s st.rows)) h1).symm, (sub_filter (h.nd.sublist (endNm_sub (comeL_len hl c.1))) h2).symm⟩
theorem mem_filter_names {l m x : List Str} (hd : l.Nodup) (hx : x.Sublist m) (hm : m.Sublist l) : l.filter (fun y => decide (y ∈ x)) = x := sub_filter hd (hx.trans hm)
theorem names_filter {s : Sys} {rows : List Row} (hl : rows.length = s.tasks.length) (Q : (Task × Row) × Nat → Bool) (P : Str → Bool) (x : List Str) (hx : ∀ (k : Nat) (t : Task) (r : Row), s.tasks[k]? = some t → rows[k]? = some r → (Q ((t, r), k) && P t.nm) = decide (t.nm ∈ x)) :
    (((s.tasks.zip rows).zipIdx.filter Q).map (·.1.1.nm)).filter P = (nms s).filter fun y => decide (y ∈ x) := by
  rw [List.filter_map, List.filter_filter]
  have e := z_names (s := s) (rows := rows) hl (Q := fun p => (P ∘ fun p : (Task × Row) × Nat => p.1.1.nm) p && Q p) (fun k => decide (nmAt s k ∈ x)) fun k t r ht hr => by
    rw [nmAt_eq ht, ← hx k t r ht hr]
    show (P t.nm && Q ((t, r), k)) = _
    rw [Bool.and_comm]
  rw [e, nms_at, List.filter_map]; rfl
theorem choiceOf_tick {s : Sys} (h : s.Ok) {st : StT} (hl : st.rows.length = s.tasks.length) {c : Ch} (hc : c ∈ choicesL s st) : choiceOf s st (tick s st c).1 = c := by
  obtain ⟨h1, h2⟩ := mem_choices.mp hc
  have e1 : (tick s st c).1.come.filter (fun x => decide (x ∈ mayL s st.rows)) = c.1 := by
    show (((s.tasks.zip st.rows).filter fun p => comes c.1 p.1 p.2).map (·.1.nm)).filter _ = _
    have t1 : c.1 = ((List.range s.tasks.length).filter fun k => decide (nmAt s k ∈ c.1)).map (nmAt s) := by
      have q := mem_filter_names h.nd h1 (mayL_sub s st.rows)
      rw [nms_at, List.filter_map] at q
      exact q.symm
    rw [come_names hl, List.filter_map, List.filter_filter]
    refine Eq.trans ?_ t1.symm
    congr 1
    refine List.filter_congr fun k hk => ?_
    have hk := List.mem_range.mp hk
    have ht := List.getElem?_eq_getElem hk
    have hr := List.getElem?_eq_getElem (show k < st.rows.length by omega)
    show (decide (nmAt s k ∈ mayL s st.rows) && comeAt s st.rows c.1 k) = decide (nmAt s k ∈ c.1)
    rw [comeAt_eq ht hr, nmAt_eq ht]
    generalize s.tasks[k] = t at ht
    generalize st.rows[k]'(by omega) = r at hr
    have hm : t.nm ∈ mayL s st.rows ↔ mayCome t r = true := by
      rw [may_names h, List.mem_map]
      constructor
      · rintro ⟨j, hj, e⟩
        obtain ⟨t2, r2, g1, g2, g3⟩ := mem_mayP.mp hj
        rw [nmAt_eq g1] at e
        have := nm_uniq h g1 ht e
        subst this
        rw [ht] at g1; cases g1
        rw [hr] at g2; cases g2
        rw [← mayB_eq (h.task _ (List.mem_of_getElem? ht))]; exact g3
      · intro q
        refine ⟨k, mem_mayP.mpr ⟨t, r, ht, hr, ?_⟩, nmAt_eq ht⟩
        rw [mayB_eq (h.task _ (List.mem_of_getElem? ht))]; exact q
    by_cases hq : t.nm ∈ c.1
    · have := h1.subset hq
      have hmc := hm.mp this
      unfold mayCome at hmc
      rw [Bool.and_eq_true] at hmc
      unfold comes
      rw [decide_eq_true this, hmc.2, decide_eq_true hq, Bool.or_true]; rfl
    · rw [decide_eq_false hq]
      by_cases hm2 : t.nm ∈ mayL s st.rows
      · have hmc := hm.mp hm2
        have hk := kind_any (h.task _ (List.mem_of_getElem? ht))
        unfold mayCome at hmc
        rw [Bool.and_eq_true] at hmc
        rw [hmc.1] at hk
        unfold comes
        rw [show isEach t = false by simpa using hk, decide_eq_false hq]
        simp
      · rw [decide_eq_false hm2]; rfl
  unfold choiceOf
  rw [e1]
  have hcl := comeL_len (s := s) hl c.1
  have e2 : (tick s st c).1.over.filter (fun x => decide (x ∈ endNm s st.ph (comeL s st.rows c.1))) = c.2 := by
    refine (names_filter hcl _ _ c.2 fun k t r ht hr => ?_).trans (mem_filter_names h.nd h2 (endNm_sub hcl))
    show (overB t r (decide (k ∈ runsL s st.ph (comeL s st.rows c.1))) c.2 && decide (t.nm ∈ endNm s st.ph (comeL s st.rows c.1))) = _
    have hm := endNm_mem h (ph := st.ph) hcl ht hr
    by_cases hq : t.nm ∈ c.2
    · have hn := h2.subset hq
      obtain ⟨g1, g2⟩ := hm.mp hn
      unfold overB
      rw [decide_eq_true hn, decide_eq_true g1, decide_eq_true hq]; simp
    · rw [decide_eq_false hq]
      by_cases hn : t.nm ∈ endNm s st.ph (comeL s st.rows c.1)
      · obtain ⟨g1, g2⟩ := hm.mp hn
        unfold mayEnd at g2
        cases hd : r.done with
        | none => rw [hd] at g2; cases g2
        | some d =>
          rw [hd] at g2
          have g2 : (decide (t.least ≤ d + 1) && decide (d + 1 < t.most)) = true := g2
          rw [Bool.and_eq_true, decide_eq_true_eq, decide_eq_true_eq] at g2
          unfold overB ranD
          rw [decide_eq_false hq, decide_eq_true g1, hd]
          have : ¬ ((some d : Option Int).map (· + 1) = some t.most) := by
            show ¬ (some (d + 1) = some t.most)
            intro e
            have := Option.some.inj e
            omega
          rw [if_pos rfl, decide_eq_false this]; rfl
      · rw [decide_eq_false hn, Bool.and_false]
  rw [e2]
/-! ### reading back -/
def lrEq (a b : LRow) : Bool := decide (a.come = b.come) && (decide (a.run = b.run) && (decide (a.over = b.over) && decide (a.late = b.late)))
theorem lrEq_iff {a b : LRow} : lrEq a b = true ↔ a = b := by
  obtain ⟨a1, a2, a3, a4⟩ := a
  obtain ⟨b1, b2, b3, b4⟩ := b
  unfold lrEq
  simp only [Bool.and_eq_true, decide_eq_true_eq, LRow.mk.injEq]
/-- a row that can be -/
def canB (s : Sys) (st : StT) (r : LRow) : Bool := isCh s st (choiceOf s st r) && lrEq (tick s st (choiceOf s st r)).1 r
def lateE (r : LRow) : Bool := !r.late.isEmpty
def rbGo (s : Sys) : List LRow → Nat → StT → Bool → List Ch → Nat ⊕ List Ch
  | [], _, _, _, acc => .inr acc
  | r :: rs, at_, st, over, acc => if (!over && canB s st r) = true then rbGo s rs (at_ + 1) (tick s st (choiceOf s st r)).2 (lateE r) (acc ++ [choiceOf s st r]) else .inl at_
def rbD : Nat ⊕ List Ch → D
  | .inl k => .tup [.str "odd", .int (k : Nat)]
  | .inr cs => .tup [.str "choices", .tup (cs.map chD)]
/-- the choices that make a row -/
theorem good_none {s : Sys} (h : s.Ok) {st : StT} (hl : st.rows.length = s.tasks.length) {r : LRow} (hc : canB s st r = false) : (choicesL s st).filter (fun c => lrEq r (tick s st c).1) = [] := by
  rw [List.filter_eq_nil_iff]
  intro c hm e
  rw [lrEq_iff] at e
  subst e
  unfold canB at hc
  rw [choiceOf_tick h hl hm, (isCh_iff h hl).mpr hm, show lrEq (tick s st c).1 (tick s st c).1 = true from lrEq_iff.mpr rfl] at hc
  cases hc
theorem good_some {s : Sys} (h : s.Ok) {st : StT} (hl : st.rows.length = s.tasks.length) {r : LRow} (hc : canB s st r = true) : ∃ rest, (choicesL s st).filter (fun c => lrEq r (tick s st c).1) = choiceOf s st r :: rest := by
  unfold canB at hc
  rw [Bool.and_eq_true, lrEq_iff] at hc
  have hm := (isCh_iff h hl).mp hc.1
  have hf : choiceOf s st r ∈ (choicesL s st).filter (fun c => lrEq r (tick s st c).1) := List.mem_filter.mpr ⟨hm, lrEq_iff.mpr hc.2.symm⟩
  have hall : ∀ c ∈ (choicesL s st).filter (fun c => lrEq r (tick s st c).1), c = choiceOf s st r := by
    intro c hcm
    obtain ⟨g1, g2⟩ := List.mem_filter.mp hcm
    rw [lrEq_iff] at g2
    subst g2
    exact (choiceOf_tick h hl g1).symm
  cases e : (choicesL s st).filter (fun c => lrEq r (tick s st c).1) with
  | nil => rw [e] at hf; cases hf
  | cons c rest => exact ⟨rest, by rw [hall c (by rw [e]; exact List.mem_cons_self)]⟩
theorem can_tick {s : Sys} (h : s.Ok) {st : StT} (hl : st.rows.length = s.tasks.length) {c : Ch} (hc : c ∈ choicesL s st) : canB s st (tick s st c).1 = true := by
  unfold canB
  rw [choiceOf_tick h hl hc, (isCh_iff h hl).mpr hc, show lrEq (tick s st c).1 (tick s st c).1 = true from lrEq_iff.mpr rfl]; rfl
/-- runs that can be, none late ahead of its end -/
def RunOk (s : Sys) : StT → Bool → List Ch → Prop
  | _, _, [] => True
  | st, over, c :: cs => over = false ∧ c ∈ choicesL s st ∧ RunOk s (tick s st c).2 (lateE (tick s st c).1) cs
theorem rb_play {s : Sys} (h : s.Ok) : ∀ (cs : List Ch) (at_ : Nat) (st : StT) (over : Bool) (acc : List Ch), st.rows.length = s.tasks.length → RunOk s st over cs → rbGo s (playL s st cs).1 at_ st over acc = .inr (acc ++ cs)
  | [], _, _, _, acc, _, _ => by rw [List.append_nil]; rfl
  | c :: cs, at_, st, over, acc, hl, ⟨ho, hc, hr⟩ => by
    show rbGo s ((tick s st c).1 :: (playL s (tick s st c).2 cs).1) at_ st over acc = _
    unfold rbGo
    rw [ho, can_tick h hl hc, choiceOf_tick h hl hc]
    have := rb_play h cs (at_ + 1) (tick s st c).2 (lateE (tick s st c).1) (acc ++ [c]) (tick_len hl c) hr
    rw [List.append_assoc] at this
    rw [show (!false && true) = true from rfl, if_pos rfl, this]; rfl
end Sy
end Dm

/-! SyK: what logs show: plain laws. -/
namespace Dm
open PySem L2
namespace Sy
def timesL (ls : List LRow) (f : LRow → List Str) (nm : Str) : List Nat := (ls.zipIdx.filter fun p => decide (nm ∈ f p.1)).map (·.2)
def inAt (ls : List LRow) (f : LRow → List Str) (nm : Str) (k : Nat) : Bool := match ls[k]? with
  | some r => decide (nm ∈ f r)
  | none => false
theorem timesL_range (ls : List LRow) (f : LRow → List Str) (nm : Str) : timesL ls f nm = (List.range ls.length).filter (inAt ls f nm) := by
  unfold timesL
  rw [zi_fm (inAt ls f nm) (fun k => k) ls fun i a ha => ⟨by unfold inAt; rw [ha], fun _ => rfl⟩, List.map_id']
theorem timesL_lt {ls : List LRow} {f : LRow → List Str} {nm : Str} {k : Nat} (h : k ∈ timesL ls f nm) : k < ls.length := by
  rw [timesL_range] at h
  exact List.mem_range.mp (List.mem_filter.mp h).1
theorem timesL_len (ls : List LRow) (f : LRow → List Str) (nm : Str) : (timesL ls f nm).length ≤ ls.length := by
  rw [timesL_range]
  exact Nat.le_trans (List.length_filter_le _ _) (by rw [List.length_range]; exact Nat.le_refl _)
def gapsL (c : List Nat) : List Int := (c.zip (c.drop 1)).map fun p => (p.2 : Int) - p.1
def mostsL (c r e : List Nat) : List Int := (c.zip e).map fun p => ((r.filter fun k => decide (p.1 ≤ k) && decide (k ≤ p.2)).length : Int)
def respL (c e : List Nat) : List Int := (c.zip e).map fun p => (p.2 : Int) - p.1 + 1
def optD (o : Option Int) : D := match o with
  | some m => .int m
  | none => .non
def seenRow (nm : Str) (c r e : List Nat) : D := .tup [.str nm, .int c.length, optD (minL (gapsL c)), optD (maxL (mostsL c r e)), optD (maxL (respL c e))]
def seenD (s : Sys) (ls : List LRow) : D := .tup ((nms s).map fun nm => seenRow nm (timesL ls (·.come) nm) (timesL ls (·.run) nm) (timesL ls (·.over) nm))
/-! by places -/
theorem gaps_at (c : List Nat) : (List.range (c.length - 1)).map (fun k => ((c[k + 1]?.getD 0 : Nat) : Int) - (c[k]?.getD 0 : Nat)) = gapsL c := by
  unfold gapsL
  refine List.ext_getElem? fun i => ?_
  rw [List.getElem?_map, List.getElem?_map]
  by_cases hi : i < c.length - 1
  · rw [List.getElem?_range hi]
    have h1 := List.getElem?_eq_getElem (show i < c.length by omega)
    have h2 := List.getElem?_eq_getElem (show i + 1 < c.length by omega)
    have h3 : (c.zip (c.drop 1))[i]? = some (c[i]'(by omega), c[i + 1]'(by omega)) := by
      rw [List.getElem?_zip_eq_some]
      refine ⟨h1, ?_⟩
      rw [List.getElem?_drop, Nat.add_comm 1 i]
      exact h2
    rw [h3]
    show some (((c[i + 1]?.getD 0 : Nat) : Int) - (c[i]?.getD 0 : Nat)) = some _
    rw [h1, h2]; rfl
  · rw [List.getElem?_eq_none (by rw [List.length_range]; omega), List.getElem?_eq_none (by rw [List.length_zip, List.length_drop]; omega)]; rfl
theorem zip_at2 {β : Type} (F : Nat → Nat → β) {c e : List Nat} (h : e.length ≤ c.length) : (List.range e.length).map (fun i => F (c[i]?.getD 0) (e[i]?.getD 0)) = (c.zip e).map fun p => F p.1 p.2 := by
  refine List.ext_getElem? fun i => ?_
  rw [List.getElem?_map, List.getElem?_map]
  by_cases hi : i < e.length
  · rw [List.getElem?_range hi]
    have h1 := List.getElem?_eq_getElem (show i < c.length by omega)
    have h2 := List.getElem?_eq_getElem hi
    have h3 : (c.zip e)[i]? = some (c[i]'(by omega), e[i]) := by
      rw [List.getElem?_zip_eq_some]; exact ⟨h1, h2⟩
    rw [h3]
    show some (F (c[i]?.getD 0) (e[i]?.getD 0)) = some (F _ _)
    rw [h1, h2]; rfl
  · rw [List.getElem?_eq_none (by rw [List.length_range]; omega), List.getElem?_eq_none (by rw [List.length_zip]; omega)]; rfl
theorem mosts_at (ls : List LRow) (nm : Str) (a b : Nat) : ((List.range ls.length).filter fun k => inAt ls (·.run) nm k && (decide (a ≤ k) && decide (k ≤ b))) = (timesL ls (·.run) nm).filter fun k => decide (a ≤ k) && decide (k ≤ b) := by
  rw [timesL_range, List.filter_filter]
  refine List.filter_congr fun k _ => ?_
  rw [Bool.and_comm]
/-! no more ends than comings -/
def cnt (ls : List LRow) (f : LRow → List Str) (nm : Str) : Nat := (timesL ls f nm).length
theorem cnt_snoc (ls : List LRow) (r : LRow) (f : LRow → List Str) (nm : Str) : cnt (ls ++ [r]) f nm = cnt ls f nm + (if nm ∈ f r then 1 else 0) := by
  unfold cnt timesL
  rw [List.zipIdx_append, List.filter_append, List.map_append, List.length_append]
  congr 1
  by_cases h : nm ∈ f r <;> simp [h]
def jobB (rows : List Row) (k : Nat) : Nat := if hasJob rows k then 1 else 0
theorem over_mem {s : Sys} (h : s.Ok) {st : StT} (hl : st.rows.length = s.tasks.length) {c : Ch} {k : Nat} {t : Task} {r : Row} (ht : s.tasks[k]? = some t) (hr : (comeL s st.rows c.1)[k]? = some r) : t.nm ∈ (tick s st c).1.over ↔ overB t r (decide (k ∈ runsL s st.ph (comeL s st.rows c.1))) c.2 = true := by
  have hcl := comeL_len (s := s) hl c.1
  show t.nm ∈ ((s.tasks.zip (comeL s st.rows c.1)).zipIdx.filter fun p => overB p.1.1 p.1.2 (decide (p.2 ∈ runsL s st.ph (comeL s st.rows c.1))) c.2).map (·.1.1.nm) ↔ _
  rw [z_names hcl (overAt s (comeL s st.rows c.1) (runsL s st.ph (comeL s st.rows c.1)) c.2) fun k t r ht hr => (overAt_eq ht hr).symm, List.mem_map]
  constructor
  · rintro ⟨j, hj, e⟩
    obtain ⟨h1, h2⟩ := List.mem_filter.mp hj
    have h1 := List.mem_range.mp h1
    rw [nmAt_eq (List.getElem?_eq_getElem h1)] at e
    have := nm_uniq h (List.getElem?_eq_getElem h1) ht e
    subst this
    rw [overAt_eq ht hr] at h2
    exact h2
  · intro q
    refine ⟨k, List.mem_filter.mpr ⟨List.mem_range.mpr (List.getElem?_eq_some_iff.mp ht).1, by rw [overAt_eq ht hr]; exact q⟩, nmAt_eq ht⟩
theorem come_mem2 {s : Sys} (h : s.Ok) {st : StT} (hl : st.rows.length = s.tasks.length) {c : Ch} {k : Nat} {t : Task} {r : Row} (ht : s.tasks[k]? = some t) (hr : st.rows[k]? = some r) : t.nm ∈ (tick s st c).1.come ↔ comes c.1 t r = true := by
  show t.nm ∈ ((s.tasks.zip st.rows).filter fun p => comes c.1 p.1 p.2).map (·.1.nm) ↔ _
  rw [come_names hl, List.mem_map]
  constructor
  · rintro ⟨j, hj, e⟩
    obtain ⟨h1, h2⟩ := List.mem_filter.mp hj
    have h1 := List.mem_range.mp h1
    rw [nmAt_eq (List.getElem?_eq_getElem h1)] at e
    have := nm_uniq h (List.getElem?_eq_getElem h1) ht e
    subst this
    rw [comeAt_eq ht hr] at h2
    exact h2
  · intro q
    refine ⟨k, List.mem_filter.mpr ⟨List.mem_range.mpr (List.getElem?_eq_some_iff.mp ht).1, by rw [comeAt_eq ht hr]; exact q⟩, nmAt_eq ht⟩
theorem tick_jobs {s : Sys} (h : s.Ok) {st : StT} (hl : st.rows.length = s.tasks.length) (c : Ch) {k : Nat} {t : Task} (ht : s.tasks[k]? = some t) :
    (if t.nm ∈ (tick s st c).1.over then 1 else 0) + jobB (tick s st c).2.rows k ≤ (if t.nm ∈ (tick s st c).1.come then 1 else 0) + jobB st.rows k := by
  have hk := (List.getElem?_eq_some_iff.mp ht).1
  have hcl := comeL_len (s := s) hl c.1
  have hr := List.getElem?_eq_getElem (show k < st.rows.length by omega)
  generalize st.rows[k]'(by omega) = r at hr
  have hr2 : (comeL s st.rows c.1)[k]? = some (if comes c.1 t r then ⟨t.gap, some 0, 0⟩ else r) := by
    unfold comeL
    rw [List.getElem?_map, zip_at ht hr]; rfl
  have hov := over_mem h hl (c := c) ht hr2
  have hcm := come_mem2 h hl (c := c) ht hr
  generalize hrr : (if comes c.1 t r then (⟨t.gap, some 0, 0⟩ : Row) else r) = r2 at hr2 hov
  have haf : (tick s st c).2.rows[k]? = some (afterR t r2 (decide (k ∈ runsL s st.ph (comeL s st.rows c.1))) c.2) := by
    show (((s.tasks.zip (comeL s st.rows c.1)).zipIdx).map fun p => afterR p.1.1 p.1.2 (decide (p.2 ∈ runsL s st.ph (comeL s st.rows c.1))) c.2)[k]? = _
    rw [List.getElem?_map, List.getElem?_zipIdx, zip_at ht hr2]
    show some (afterR t r2 (decide (0 + k ∈ runsL s st.ph (comeL s st.rows c.1))) c.2) = _
    rw [Nat.zero_add]
  have hjb : jobB (comeL s st.rows c.1) k ≤ (if t.nm ∈ (tick s st c).1.come then 1 else 0) + jobB st.rows k := by
    unfold jobB hasJob
    rw [hr2, hr]
    by_cases q : comes c.1 t r = true
    · rw [if_pos (hcm.mpr q)]
      by_cases z : r2.done.isSome = true <;> by_cases z2 : r.done.isSome = true <;> simp [z, z2]
    · rw [if_neg (fun z => q (hcm.mp z))]
      rw [if_neg q] at hrr
      rw [hrr]
      omega
  refine Nat.le_trans ?_ hjb
  unfold jobB hasJob
  rw [haf, hr2]
  by_cases q : overB t r2 (decide (k ∈ runsL s st.ph (comeL s st.rows c.1))) c.2 = true
  · rw [if_pos (hov.mpr q)]
    have hd : (afterR t r2 (decide (k ∈ runsL s st.ph (comeL s st.rows c.1))) c.2).done.isSome = false := by
      unfold afterR
      rw [if_pos q]; rfl
    simp only [hd]
    have hrun : k ∈ runsL s st.ph (comeL s st.rows c.1) := by
      unfold overB at q
      rw [Bool.and_eq_true, decide_eq_true_eq] at q
      exact q.1
    obtain ⟨r3, d, g1, g2⟩ := mem_jobs.mp (mem_runs hrun)
    rw [hr2] at g1
    cases g1
    simp [g2]
  · rw [if_neg (fun z => q (hov.mp z))]
    have : (afterR t r2 (decide (k ∈ runsL s st.ph (comeL s st.rows c.1))) c.2).done.isSome = true → r2.done.isSome = true := by
      unfold afterR
      rw [if_neg q]
      unfold ranD
      cases hd : r2.done with
      | none => by_cases z : k ∈ runsL s st.ph (comeL s st.rows c.1) <;> simp [z, hd]
      | some d => exact fun _ => rfl
    by_cases z : (afterR t r2 (decide (k ∈ runsL s st.ph (comeL s st.rows c.1))) c.2).done.isSome = true
    · simp [z, this z]
    · simp [z]
def FewEnds (s : Sys) (ls : List LRow) (rows : List Row) : Prop := ∀ (k : Nat) (t : Task), s.tasks[k]? = some t → cnt ls (·.over) t.nm + jobB rows k ≤ cnt ls (·.come) t.nm
theorem few_first (s : Sys) : FewEnds s [] (firstL s).rows := fun k t ht => by
  show 0 + jobB (firstL s).rows k ≤ 0
  have : hasJob (firstL s).rows k = false := by
    unfold hasJob firstL
    rw [List.getElem?_map, ht]; rfl
  unfold jobB
  rw [this]; decide
theorem few_tick {s : Sys} (h : s.Ok) {st : StT} (hl : st.rows.length = s.tasks.length) {ls : List LRow} (hf : FewEnds s ls st.rows) (c : Ch) : FewEnds s (ls ++ [(tick s st c).1]) (tick s st c).2.rows := fun k t ht => by
  rw [cnt_snoc, cnt_snoc]
  have := tick_jobs h hl c ht
  have := hf k t ht
  omega
end Sy
end Dm

/-! SyL: what may be a name, a task, a system: plain laws. -/
namespace Dm
open PySem L2
namespace Sy
def letS : Str := "abcdefghijklmnopqrstuvwxyz"
def digS : Str := "0123456789"
def closedL : List Str := ["let", "machines", "rule", "fixed", "nearest", "oldest", "slack", "breaks", "yes", "no", "supply", "task", "each", "any", "copies", "lock", "come", "run", "end", "late", "idle"]
def headB (x : Str) : Bool := match x.cps.toList with
  | c :: _ => decide (c ∈ letS.cps.toList)
  | [] => false
def signsB (x : Str) : Bool := x.cps.toList.all fun c => decide (c ∈ letS.cps.toList) || decide (c ∈ digS.cps.toList)
def formB (x : Str) : Bool := (decide (1 ≤ (x.length : Int)) && decide ((x.length : Int) ≤ 10)) && (headB x && signsB x)
def wordOk (x : Str) : Bool := formB x && !decide (x ∈ closedL)
def nameB : D → Bool
  | .str x => wordOk x
  | _ => false
def strIn (d : D) (l : List Str) : Bool := match d with
  | .str x => decide (x ∈ l)
  | _ => false
def intD : D → Int
  | .int i => i
  | _ => 0
def isBlD : D → Bool
  | .bl _ => true
  | _ => false
def isTrueD : D → Bool
  | .bl b => b
  | _ => false
def taskB : D → Bool
  | .tup [nm, kind, off, gap, due, least, most] => (nameB nm && strIn kind ["each", "any"]) && ((betw off 0 (if strEq kind "each" then 20 else 0) && betw gap 1 20) && (betw due 1 (intD gap) && (betw most 1 (intD due) && betw least 1 (intD most))))
  | _ => false
theorem taskB_len {l : List D} (h : ¬ (l.length : Int) = 7) : taskB (.tup l) = false := by
  unfold taskB
  split
  · rename_i q
    cases q
    exact absurd rfl h
  · rfl
def oneB (d : D) : Bool := PyData.eqv d.py (.int 1)
def supplyB : D → Bool
  | .tup l => (decide (1 ≤ (l.length : Int)) && decide ((l.length : Int) ≤ 12)) && ((l.all fun d => betw d 0 1) && l.any oneB)
  | _ => false
theorem in_strsD {S : Store} {k : Nat} {d : D} (h : Th k d) (hk : k ≤ 60) {l : List Str} (hl : ∀ x ∈ l, PyData.strOk x = true) : cmpD .In S d (.tup (l.map .str)) = some (strIn d l) := by
  rw [in_tupD h.cmp (cmp_strsT hl) (by omega) (by decide), List.any_map]
  congr 1
  have e : ((fun e => PyData.eqv e.py d.py) ∘ D.str) = fun z => strEq d z := by
    funext z
    show PyData.eqv (D.str z).py d.py = _
    rw [← eqv_strD h z]
    exact PySem.W.eqv_comm _ _
  rw [e]
  unfold strEq strIn
  cases d with
  | str y =>
    show (l.any fun z => y == z) = decide (y ∈ l)
    rw [← any_mem]
    congr 1
    funext z
    rw [Bool.eq_iff_iff, beq_iff_eq, beq_iff_eq]
    exact eq_comm
  | _ => simp
theorem notin_strsD {S : Store} {k : Nat} {d : D} (h : Th k d) (hk : k ≤ 60) {l : List Str} (hl : ∀ x ∈ l, PyData.strOk x = true) : cmpD .NotIn S d (.tup (l.map .str)) = some (!strIn d l) := by
  have := in_strsD (S := S) h hk hl
  have this : inD S d (.tup (l.map .str)) = some (strIn d l) := this
  show (inD S d (.tup (l.map .str))).map (!·) = _
  rw [this]; rfl
/-- a task as told by the law -/
structure TaskR (t : Task) : Prop where
  nm : wordOk t.nm = true
  most : 1 ≤ t.most
theorem betw_int {d : D} {lo hi : Int} (h : betw d lo hi = true) : ∃ i, d = .int i ∧ lo ≤ i ∧ i ≤ hi := by
  cases d with
  | int i =>
    have h : (decide (lo ≤ i) && decide (i ≤ hi)) = true := h
    rw [Bool.and_eq_true, decide_eq_true_eq, decide_eq_true_eq] at h
    exact ⟨i, rfl, h.1, h.2⟩
  | _ => cases h
theorem nameB_str {d : D} (h : nameB d = true) : ∃ x, d = .str x ∧ wordOk x = true := by
  cases d with
  | str x => exact ⟨x, rfl, h⟩
  | _ => cases h
theorem strIn_str {d : D} {l : List Str} (h : strIn d l = true) : ∃ x, d = .str x ∧ x ∈ l := by
  cases d with
  | str x => exact ⟨x, rfl, of_decide_eq_true h⟩
  | _ => cases h
theorem taskB_of {d : D} (h : taskB d = true) : ∃ t : Task, d = tD t ∧ TaskR t := by
  unfold taskB at h
  split at h
  · simp only [Bool.and_eq_true] at h
    obtain ⟨⟨h1, h2⟩, ⟨h3, h4⟩, h5, h6, h7⟩ := h
    obtain ⟨nm, rfl, w⟩ := nameB_str h1
    obtain ⟨kind, rfl, _⟩ := strIn_str h2
    obtain ⟨off, rfl, _⟩ := betw_int h3
    obtain ⟨gap, rfl, _⟩ := betw_int h4
    obtain ⟨due, rfl, _⟩ := betw_int h5
    obtain ⟨most, rfl, m1, _⟩ := betw_int h6
    obtain ⟨least, rfl, _⟩ := betw_int h7
    exact ⟨⟨nm, kind, off, gap, due, least, most⟩, rfl, ⟨w, m1⟩⟩
  · cases h
theorem tasks_of : ∀ {l : List D}, (l.all taskB) = true → ∃ ts : List Task, l = ts.map tD ∧ ∀ t ∈ ts, TaskR t
  | [], _ => ⟨[], rfl, fun _ h => by cases h⟩
  | d :: l, h => by
    rw [List.all_cons, Bool.and_eq_true] at h
    obtain ⟨t, rfl, ht⟩ := taskB_of h.1
    obtain ⟨ts, rfl, hts⟩ := tasks_of h.2
    exact ⟨t :: ts, rfl, fun u hu => by
      rcases List.mem_cons.mp hu with rfl | hu
      · exact ht
      · exact hts u hu⟩
/-! locks -/
def mostOf (ts : List Task) (nm : Str) : Option Int := (ts.find? fun t => decide (t.nm = nm)).map (·.most)
def lockO (o : Option Int) (lo hi : D) : Bool := match o with
  | some m => betw hi 1 m && betw lo 0 (intD hi - 1)
  | none => false
def lockV (ts : List Task) (a lo hi : D) : Bool := match a with
  | .str x => lockO (mostOf ts x) lo hi
  | _ => false
def lockB (ts : List Task) : D → Bool
  | .tup [a, b, lo, hi] => (nameB a && nameB b) && lockV ts a lo hi
  | _ => false
theorem lockB_len {ts : List Task} {l : List D} (h : ¬ (l.length : Int) = 4) : lockB ts (.tup l) = false := by
  unfold lockB
  split
  · rename_i q
    cases q
    exact absurd rfl h
  · rfl
theorem lockB_of {ts : List Task} {d : D} (h : lockB ts d = true) : ∃ l : Lock, d = lkD l ∧ wordOk l.nm = true ∧ wordOk l.lk = true := by
  unfold lockB at h
  split at h
  · rw [Bool.and_eq_true, Bool.and_eq_true] at h
    obtain ⟨⟨h1, h2⟩, h3⟩ := h
    obtain ⟨a, rfl, w1⟩ := nameB_str h1
    obtain ⟨b, rfl, w2⟩ := nameB_str h2
    have h3 : lockO (mostOf ts a) _ _ = true := h3
    unfold lockO at h3
    split at h3
    · rw [Bool.and_eq_true] at h3
      obtain ⟨hi, rfl, _⟩ := betw_int h3.1
      obtain ⟨lo, rfl, _⟩ := betw_int h3.2
      exact ⟨⟨a, b, lo, hi⟩, rfl, w1, w2⟩
    · cases h3
  · cases h
theorem locks_of {ts : List Task} : ∀ {l : List D}, (l.all (lockB ts)) = true → ∃ ls : List Lock, l = ls.map lkD ∧ ∀ x ∈ ls, wordOk x.nm = true ∧ wordOk x.lk = true
  | [], _ => ⟨[], rfl, fun _ h => by cases h⟩
  | d :: l, h => by
    rw [List.all_cons, Bool.and_eq_true] at h
    obtain ⟨t, rfl, ht⟩ := lockB_of h.1
    obtain ⟨ts, rfl, hts⟩ := locks_of h.2
    exact ⟨t :: ts, rfl, fun u hu => by
      rcases List.mem_cons.mp hu with rfl | hu
      · exact ht
      · exact hts u hu⟩
/-- each above the one before -/
def ltL (a b : Lock) : Bool := PySem.W.dataLt (lkD a).py (lkD b).py
def ascAt (ls : List Lock) (k : Nat) : Bool := match ls[k]?, ls[k + 1]? with
  | some a, some b => ltL a b
  | _, _ => false
theorem ascAt_eq {ls : List Lock} {k : Nat} {a b : Lock} (h1 : ls[k]? = some a) (h2 : ls[k + 1]? = some b) : ascAt ls k = ltL a b := by unfold ascAt; rw [h1, h2]
def ascB (ls : List Lock) : Bool := (List.range (ls.length - 1)).all (ascAt ls)
def overlap (a b : Lock) : Bool := (a.nm == b.nm) && (decide (a.lo < b.hi) && decide (b.lo < a.hi))
def apartB : List Lock → Bool
  | [] => true
  | a :: l => (l.all fun b => !overlap a b) && apartB l
theorem overlap_comm (a b : Lock) : overlap a b = overlap b a := by
  unfold overlap
  rw [Bool.and_comm (decide (a.lo < b.hi))]
  congr 1
  rw [Bool.eq_iff_iff, beq_iff_eq, beq_iff_eq]
  exact eq_comm
/-- the law's way -/
def apart2 (ls : List Lock) : Bool := (List.range ls.length).all fun k => match ls[k]? with
  | some b => (ls.take k).all fun a => !overlap a b
  | none => true
theorem pair_all {l : List Lock} : apartB l = true ↔ l.Pairwise fun a b => overlap a b = false := by
  induction l with
  | nil => exact ⟨fun _ => .nil, fun _ => rfl⟩
  | cons a l ih =>
    show ((l.all fun b => !overlap a b) && apartB l) = true ↔ _
    rw [Bool.and_eq_true, List.pairwise_cons, ih, List.all_eq_true]
    constructor
    · rintro ⟨h1, h2⟩
      exact ⟨fun b hb => by have := h1 b hb; simpa using this, h2⟩
    · rintro ⟨h1, h2⟩
      exact ⟨fun b hb => by rw [h1 b hb]; rfl, h2⟩
theorem apart_eq (l : List Lock) : apart2 l = apartB l := by
  rw [Bool.eq_iff_iff, pair_all]
  unfold apart2
  rw [List.all_eq_true, List.pairwise_iff_getElem]
  constructor
  · intro h i j hi hj hij
    have := h j (List.mem_range.mpr hj)
    rw [List.getElem?_eq_getElem hj] at this
    have this : ((l.take j).all fun a => !overlap a l[j]) = true := this
    rw [List.all_eq_true] at this
    have := this l[i] (by
      rw [List.mem_take_iff_getElem]
      exact ⟨i, by omega, rfl⟩)
    simpa using this
  · intro h k hk
    have hk := List.mem_range.mp hk
    rw [List.getElem?_eq_getElem hk]
    show ((l.take k).all fun a => !overlap a l[k]) = true
    rw [List.all_eq_true]
    intro a ha
    rw [List.mem_take_iff_getElem] at ha
    obtain ⟨i, hi, rfl⟩ := ha
    rw [h i k (by omega) hk (by omega)]; rfl
def unL : D → Lock
  | .tup [.str a, .str b, .int lo, .int hi] => ⟨a, b, lo, hi⟩
  | _ => ⟨"", "", 0, 0⟩
theorem unL_lk (l : Lock) : unL (lkD l) = l := rfl
theorem unL_map (ls : List Lock) : (ls.map lkD).map unL = ls := by rw [List.map_map]; exact List.map_id' ls
def unT : D → Task
  | .tup [.str nm, .str kind, .int off, .int gap, .int due, .int least, .int most] => ⟨nm, kind, off, gap, due, least, most⟩
  | _ => ⟨"", "", 0, 0, 0, 0, 0⟩
theorem unT_map (ts : List Task) : (ts.map tD).map unT = ts := by rw [List.map_map]; exact List.map_id' ts
def locksB (ts : List Task) : D → Bool
  | .tup l => decide ((l.length : Int) ≤ 6) && ((l.all (lockB ts)) && (ascB (l.map unL) && apartB (l.map unL)))
  | _ => false
def tasksB : D → Bool
  | .tup l => decide ((l.length : Int) ≤ 6) && ((l.all taskB) && decide (((nDup ((l.map unT).map (·.nm)) : Nat) : Int) = l.length))
  | _ => false
def tasksD : D → List Task
  | .tup l => l.map unT
  | _ => []
def nilD : D → Bool
  | .tup l => l.isEmpty
  | _ => false
def rulesL : List Str := ["fixed", "nearest", "oldest", "slack"]
def sysB : D → Bool
  | .tup [w, mach, rule, brk, sup, tasks, locks] => strEq w "system" && (betw mach 1 3 && (strIn rule rulesL && (isBlD brk && (supplyB sup && (tasksB tasks && (locksB (tasksD tasks) locks && (nilD locks || (eqI mach 1 && (strEq rule "fixed" && isTrueD brk)))))))))
  | _ => false
theorem sysB_len {l : List D} (h : ¬ (l.length : Int) = 7) : sysB (.tup l) = false := by
  unfold sysB
  split
  · rename_i q
    cases q
    exact absurd rfl h
  · rfl
/-- unlike names -/
theorem nodup_of {l : List Str} (h : nDup l = l.length) : l.Nodup := by
  have key : ∀ (n : Nat) (l : List Str), l.length = n → nDup l = n → l.Nodup := by
    intro n
    induction n with
    | zero => intro l h _; rw [List.length_eq_zero_iff.mp h]; exact .nil
    | succ n ih =>
      intro l hl hn
      have hne : l ≠ [] := by rintro rfl; simp at hl
      rw [← List.dropLast_concat_getLast hne] at hn ⊢
      rw [nDup_snoc] at hn
      have hle := nDup_le l.dropLast
      rw [List.length_dropLast] at hle
      split at hn
      · omega
      · rename_i hx
        have h1 := ih l.dropLast (by rw [List.length_dropLast]; omega) (by omega)
        rw [List.nodup_append]
        refine ⟨h1, List.nodup_cons.mpr ⟨List.not_mem_nil, List.nodup_nil⟩, fun a ha b hb e => ?_⟩
        rw [List.mem_singleton] at hb
        refine hx (List.any_eq_true.mpr ⟨a, ha, ?_⟩)
        rw [e, hb]; simp
  exact key _ l rfl h
end Sy
end Dm

namespace Dm
namespace k01
open PySem L2
def i_is_whole : Nat := 0
def i_is_between : Nat := 1
def i_is_ascending : Nat := 2
def i_has_word_form : Nat := 3
def i_is_name : Nat := 4
def i_is_supply : Nat := 5
def i_is_task : Nat := 6
def i_tasks_of : Nat := 7
def i__is_lock : Nat := 8
def i__are_apart : Nat := 9
def i_are_locks : Nat := 10
def i_lets_locks : Nat := 11
def i_is_system : Nat := 12
def i_task_of : Nat := 13
def i_with_tasks : Nat := 14
def i_without : Nat := 15
def i_only : Nat := 16
def i_with_task : Nat := 17
def i_with_order : Nat := 18
def i__law_cell : Nat := 19
def i__law_digits : Nat := 20
def i__law_draw : Nat := 21
def i__law_pick : Nat := 22
def i__law_like : Nat := 23
def i__law_whole : Nat := 24
def i__law_is_word : Nat := 25
def i__law_task : Nat := 26
def i__law_system : Nat := 27
def i__law_names : Nat := 28
def i__law_part : Nat := 29
def i__law_other : Nat := 30
def i__law_changed : Nat := 31
def i__law_is_task : Nat := 32
def i__law_right : Nat := 33
def i_law : Nat := 34
def g_LETTERS : Nat := 0
def g_DIGITS : Nat := 1
def g_MOST_SIGNS : Nat := 2
def g_CLOSED : Nat := 3
def g_MOST_MACHINES : Nat := 4
def g_MOST_SUPPLY : Nat := 5
def g_MOST_TASKS : Nat := 6
def g_MOST_LOCKS : Nat := 7
def g_MOST_OFFSET : Nat := 8
def g_MOST_GAP : Nat := 9
def g_RULES : Nat := 10
def g_KINDS : Nat := 11
def f_is_whole : Fd := ⟨1, ["thing"], [
 .ret (.and (.isi .int (.var 0)) (.not (.isi .bool (.var 0))))]⟩
def f_is_between : Fd := ⟨3, ["thing", "least", "most"], [
 .ret (.and (.call i_is_whole [.var 0]) (.cmp2 .LtE .LtE (.var 1) (.var 0) (.var 2)))]⟩
def f_is_ascending : Fd := ⟨1, ["things", "at"], [
 .ret (.bi .all [.comp true [("at", 1)] (.v 1) (.range [.bin .Sub (.bi .len [.var 0]) (.int 1)]) [] (.cmp .Lt (.sub (.var 0) (.var 1)) (.sub (.var 0) (.bin .Add (.var 1) (.int 1))))])]⟩
def f_has_word_form : Fd := ⟨1, ["thing", "sign"], [
 .iff (.or (.not (.isi .str (.var 0))) (.or (.not (.cmp2 .LtE .LtE (.int 1) (.bi .len [.var 0]) (.glob g_MOST_SIGNS))) (.cmp .NotIn (.sub (.var 0) (.int 0)) (.glob g_LETTERS)))) [
  .ret (.bl false)] [],
 .ret (.bi .all [.comp true [("sign", 1)] (.v 1) (.var 0) [] (.or (.cmp .In (.var 1) (.glob g_LETTERS)) (.cmp .In (.var 1) (.glob g_DIGITS)))])]⟩
def f_is_name : Fd := ⟨1, ["thing"], [
 .ret (.and (.call i_has_word_form [.var 0]) (.cmp .NotIn (.var 0) (.glob g_CLOSED)))]⟩
def f_is_supply : Fd := ⟨1, ["thing", "one"], [
 .iff (.or (.not (.isi .tuple (.var 0))) (.not (.cmp2 .LtE .LtE (.int 1) (.bi .len [.var 0]) (.glob g_MOST_SUPPLY)))) [
  .ret (.bl false)] [],
 .ret (.and (.bi .all [.comp true [("one", 1)] (.v 1) (.var 0) [] (.call i_is_between [.var 1, .int 0, .int 1])]) (.cmp .In (.int 1) (.var 0)))]⟩
def f_is_task : Fd := ⟨1, ["thing", "_", "kind", "offset", "gap", "due", "least", "most"], [
 .iff (.or (.not (.isi .tuple (.var 0))) (.or (.cmp .NotEq (.bi .len [.var 0]) (.int 7)) (.or (.not (.call i_is_name [.sub (.var 0) (.int 0)])) (.cmp .NotIn (.sub (.var 0) (.int 1)) (.glob g_KINDS))))) [
  .ret (.bl false)] [],
 .asg (.t [(.v 1), (.v 2), (.v 3), (.v 4), (.v 5), (.v 6), (.v 7)]) (.var 0),
 .iff (.or (.not (.call i_is_between [.var 3, .int 0, .ite (.cmp .Eq (.var 2) (.str "each")) (.glob g_MOST_OFFSET) (.int 0)])) (.not (.call i_is_between [.var 4, .int 1, .glob g_MOST_GAP]))) [
  .ret (.bl false)] [],
 .ret (.and (.call i_is_between [.var 5, .int 1, .var 4]) (.and (.call i_is_between [.var 7, .int 1, .var 5]) (.call i_is_between [.var 6, .int 1, .var 7])))]⟩
def f_tasks_of : Fd := ⟨1, ["system"], [
 .ret (.sub (.var 0) (.int 5))]⟩
def f__is_lock : Fd := ⟨2, ["mosts", "thing"], [
 .iff (.or (.not (.isi .tuple (.var 1))) (.or (.cmp .NotEq (.bi .len [.var 1]) (.int 4)) (.or (.not (.call i_is_name [.sub (.var 1) (.int 0)])) (.not (.call i_is_name [.sub (.var 1) (.int 1)]))))) [
  .ret (.bl false)] [],
 .iff (.or (.dhas true (.sub (.var 1) (.int 0)) (.var 0)) (.not (.call i_is_between [.sub (.var 1) (.int 3), .int 1, .dsub (.var 0) (.sub (.var 1) (.int 0))]))) [
  .ret (.bl false)] [],
 .ret (.call i_is_between [.sub (.var 1) (.int 2), .int 0, .bin .Sub (.sub (.var 1) (.int 3)) (.int 1)])]⟩
def f__are_apart : Fd := ⟨1, ["locks", "at", "one", "other"], [
 .for_ (.t [(.v 1), (.v 2)]) (.enum (.var 0)) [
  .for_ (.v 3) (.slc (.var 0) (some (.bin .Add (.var 1) (.int 1))) none) [
   .iff (.and (.cmp .Eq (.sub (.var 2) (.int 0)) (.sub (.var 3) (.int 0))) (.and (.cmp .Lt (.sub (.var 2) (.int 2)) (.sub (.var 3) (.int 3))) (.cmp .Lt (.sub (.var 3) (.int 2)) (.sub (.var 2) (.int 3))))) [
    .ret (.bl false)] []]],
 .ret (.bl true)]⟩
def f_are_locks : Fd := ⟨2, ["thing", "tasks", "mosts", "task", "row"], [
 .asg (.v 2) (.dcomp [("task", 3)] (.v 3) (.var 1) [] (.sub (.var 3) (.int 0)) (.sub (.var 3) (.int 6))),
 .iff (.or (.not (.isi .tuple (.var 0))) (.or (.cmp .Gt (.bi .len [.var 0]) (.glob g_MOST_LOCKS)) (.not (.bi .all [.comp true [("row", 4)] (.v 4) (.var 0) [] (.call i__is_lock [.var 2, .var 4])])))) [
  .ret (.bl false)] [],
 .ret (.and (.call i_is_ascending [.var 0]) (.call i__are_apart [.var 0]))]⟩
def f_lets_locks : Fd := ⟨3, ["machines", "rule", "breaks"], [
 .ret (.and (.cmp .Eq (.var 0) (.int 1)) (.and (.cmp .Eq (.var 1) (.str "fixed")) (.var 2)))]⟩
def f_is_system : Fd := ⟨1, ["thing", "_", "machines", "rule", "breaks", "supply", "tasks", "locks", "task"], [
 .iff (.or (.not (.isi .tuple (.var 0))) (.or (.cmp .NotEq (.bi .len [.var 0]) (.int 7)) (.cmp .NotEq (.sub (.var 0) (.int 0)) (.str "system")))) [
  .ret (.bl false)] [],
 .asg (.t [(.v 1), (.v 2), (.v 3), (.v 4), (.v 5), (.v 6), (.v 7)]) (.var 0),
 .iff (.or (.not (.call i_is_between [.var 2, .int 1, .glob g_MOST_MACHINES])) (.or (.cmp .NotIn (.var 3) (.glob g_RULES)) (.not (.isi .bool (.var 4))))) [
  .ret (.bl false)] [],
 .iff (.or (.not (.call i_is_supply [.var 5])) (.or (.not (.isi .tuple (.var 6))) (.cmp .Gt (.bi .len [.var 6]) (.glob g_MOST_TASKS)))) [
  .ret (.bl false)] [],
 .iff (.or (.not (.bi .all [.comp true [("task", 8)] (.v 8) (.var 6) [] (.call i_is_task [.var 8])])) (.cmp .NotEq (.lset (.comp true [("task", 8)] (.v 8) (.var 6) [] (.sub (.var 8) (.int 0)))) (.bi .len [.var 6]))) [
  .ret (.bl false)] [],
 .ret (.and (.call i_are_locks [.var 7, .var 6]) (.or (.cmp .Eq (.var 7) (.tup [])) (.call i_lets_locks [.var 2, .var 3, .var 4])))]⟩
def f_task_of : Fd := ⟨2, ["system", "name", "rows", "task"], [
 .asg (.v 2) (.comp true [("task", 3)] (.v 3) (.call i_tasks_of [.var 0]) [.cmp .Eq (.sub (.var 3) (.int 0)) (.var 1)] (.var 3)),
 .ret (.ite (.var 2) (.sub (.var 2) (.int 0)) .non)]⟩
def f_with_tasks : Fd := ⟨2, ["system", "tasks", "mosts", "task", "locks", "row"], [
 .asg (.v 2) (.dcomp [("task", 3)] (.v 3) (.var 1) [] (.sub (.var 3) (.int 0)) (.sub (.var 3) (.int 6))),
 .asg (.v 4) (.bi .tuple [.comp true [("row", 5)] (.v 5) (.sub (.var 0) (.int 6)) [.cmp .LtE (.sub (.var 5) (.int 3)) (.dget (.var 2) (.sub (.var 5) (.int 0)) (.int 0))] (.var 5)]),
 .ret (.bin .Add (.slc (.var 0) none (some (.int 5))) (.tup [.bi .tuple [.var 1], .var 4]))]⟩
def f_without : Fd := ⟨2, ["system", "names", "task"], [
 .ret (.call i_with_tasks [.var 0, .comp true [("task", 2)] (.v 2) (.call i_tasks_of [.var 0]) [.cmp .NotIn (.sub (.var 2) (.int 0)) (.var 1)] (.var 2)])]⟩
def f_only : Fd := ⟨2, ["system", "names", "task"], [
 .ret (.call i_with_tasks [.var 0, .comp true [("task", 2)] (.v 2) (.call i_tasks_of [.var 0]) [.cmp .In (.sub (.var 2) (.int 0)) (.var 1)] (.var 2)])]⟩
def f_with_task : Fd := ⟨2, ["system", "row", "task"], [
 .iff (.cmp .Is (.call i_task_of [.var 0, .sub (.var 1) (.int 0)]) .non) [
  .ret (.call i_with_tasks [.var 0, .bin .Add (.call i_tasks_of [.var 0]) (.tup [.var 1])])] [],
 .ret (.call i_with_tasks [.var 0, .comp true [("task", 2)] (.v 2) (.call i_tasks_of [.var 0]) [] (.ite (.cmp .Eq (.sub (.var 2) (.int 0)) (.sub (.var 1) (.int 0))) (.var 1) (.var 2))])]⟩
def f_with_order : Fd := ⟨2, ["system", "names", "name"], [
 .ret (.call i_with_tasks [.var 0, .comp true [("name", 2)] (.v 2) (.var 1) [] (.call i_task_of [.var 0, .var 2])])]⟩
def f__law_cell : Fd := ⟨2, ["script", "k"], [
 .iff (.cmp .Lt (.var 1) (.bi .len [.var 0])) [
  .ret (.sub (.var 0) (.var 1))] [],
 .ret (.int 0)]⟩
def f__law_digits : Fd := ⟨3, ["script", "first", "last", "digits", "k", "cell", "step", "seed"], [
 .asg (.v 3) (.mkl []),
 .for_ (.v 4) (.range [.var 1, .var 2]) [
  .asg (.v 5) (.call i__law_cell [.var 0, .var 4]),
  .iff (.cmp .Lt (.var 5) (.int 0)) [
   .asg (.v 5) (.bin .Sub (.int 1) (.bin .Mult (.int 2) (.var 5)))] [],
  .iff (.cmp .Gt (.bi .len [.var 3]) (.int 1500)) [
   .brk] [],
  .iff (.cmp .GtE (.var 5) (.bin .Pow (.int 10) (.int 18))) [
   .for_ (.v 6) (.range [.int 60]) [
    .iff (.cmp .Gt (.var 5) (.int 0)) [
     .expr (.app (.var 3) (.bin .Mod (.bi .int [.var 5]) (.int 1000))),
     .asg (.v 5) (.bin .FloorDiv (.var 5) (.int 1000))] []]] [
   .asg (.v 7) (.bin .Mod (.bi .int [.bin .Add (.bin .Add (.bin .Mult (.var 5) (.int 48271)) (.bin .Mult (.var 4) (.int 69621))) (.int 11)]) (.int 2147483647)),
   .for_ (.v 6) (.range [.int 12]) [
    .asg (.v 7) (.bin .Mod (.bi .int [.bin .Add (.bin .Add (.bin .Mult (.var 7) (.int 16807)) (.bin .Mult (.int 7) (.var 6))) (.int 1)]) (.int 2147483647)),
    .expr (.app (.var 3) (.bin .Mod (.bi .int [.bin .FloorDiv (.var 7) (.int 997)]) (.int 1000)))]]],
 .fz 3,
 .ret (.var 3)]⟩
def f__law_draw : Fd := ⟨2, ["box", "many", "at"], [
 .asg (.v 2) (.sub (.var 0) (.int 1)),
 .setI (.var 0) (.int 1) (.bin .Add (.var 2) (.int 1)),
 .iff (.cmp .Lt (.var 2) (.bi .len [.sub (.var 0) (.int 0)])) [
  .ret (.bin .Mod (.bi .int [.sub (.sub (.var 0) (.int 0)) (.var 2)]) (.var 1))] [],
 .ret (.bin .Mod (.bi .int [.bin .Mult (.var 2) (.int 7)]) (.var 1))]⟩
def f__law_pick : Fd := ⟨2, ["box", "things"], [
 .ret (.sub (.var 1) (.bin .Mod (.bi .int [.call i__law_draw [.var 0, .int 900]]) (.bi .len [.var 1])))]⟩
def f__law_like : Fd := ⟨2, ["told", "due", "k"], [
 .iff (.isi .tuple (.var 1)) [
  .iff (.or (.not (.isi .tuple (.var 0))) (.cmp .NotEq (.bi .len [.var 0]) (.bi .len [.var 1]))) [
   .ret (.bl false)] [],
  .ret (.cmp .Eq (.comp true [("k", 2)] (.v 2) (.range [.bi .len [.var 1]]) [.not (.call i__law_like [.sub (.var 0) (.var 2), .sub (.var 1) (.var 2)])] (.int 1)) (.lst []))] [],
 .iff (.cmp .Is (.var 1) .non) [
  .ret (.cmp .Is (.var 0) .non)] [],
 .iff (.cmp .Is (.var 1) (.bl true)) [
  .ret (.cmp .Is (.var 0) (.bl true))] [],
 .iff (.cmp .Is (.var 1) (.bl false)) [
  .ret (.cmp .Is (.var 0) (.bl false))] [],
 .iff (.isi .str (.var 1)) [
  .ret (.and (.isi .str (.var 0)) (.cmp .Eq (.me .join (.str "") [.lst [.var 0]]) (.var 1)))] [],
 .ret (.and (.isi .int (.var 0)) (.and (.not (.isi .bool (.var 0))) (.cmp .Eq (.var 0) (.var 1))))]⟩
def f__law_whole : Fd := ⟨3, ["thing", "low", "high"], [
 .iff (.or (.not (.isi .int (.var 0))) (.isi .bool (.var 0))) [
  .ret (.bl false)] [],
 .ret (.and (.or (.cmp .Is (.var 1) .non) (.cmp .LtE (.var 1) (.var 0))) (.or (.cmp .Is (.var 2) .non) (.cmp .LtE (.var 0) (.var 2))))]⟩
def f__law_is_word : Fd := ⟨1, ["thing", "closed", "sign"], [
 .asg (.v 1) (.lst [.str "let", .str "machines", .str "rule", .str "fixed", .str "nearest", .str "oldest", .str "slack", .str "breaks", .str "yes", .str "no", .str "supply", .str "task", .str "each", .str "any", .str "copies", .str "lock", .str "come", .str "run", .str "end", .str "late", .str "idle"]),
 .iff (.or (.not (.isi .str (.var 0))) (.or (.not (.cmp2 .LtE .LtE (.int 1) (.bi .len [.var 0]) (.int 10))) (.or (.cmp .In (.var 0) (.var 1)) (.cmp .NotIn (.sub (.var 0) (.int 0)) (.str "abcdefghijklmnopqrstuvwxyz"))))) [
  .ret (.bl false)] [],
 .ret (.cmp .Eq (.comp true [("sign", 2)] (.v 2) (.var 0) [.cmp .NotIn (.var 2) (.str "abcdefghijklmnopqrstuvwxyz0123456789")] (.var 2)) (.lst []))]⟩
def f__law_task : Fd := ⟨3, ["box", "name", "gaps", "kind", "gap", "due", "most"], [
 .asg (.t [(.v 3), (.v 4)]) (.tup [.sub (.lst [.str "any", .str "any", .str "each"]) (.call i__law_draw [.var 0, .int 3]), .bin .Add (.int 1) (.call i__law_draw [.var 0, .var 2])]),
 .asg (.v 5) (.bin .Add (.int 1) (.call i__law_draw [.var 0, .var 4])),
 .asg (.v 6) (.bin .Add (.int 1) (.call i__law_draw [.var 0, .bi .min2 [.var 5, .int 3]])),
 .ret (.tup [.var 1, .var 3, .ite (.cmp .Eq (.var 3) (.str "each")) (.call i__law_draw [.var 0, .int 3]) (.int 0), .var 4, .var 5, .bin .Add (.int 1) (.call i__law_draw [.var 0, .var 6]), .var 6])]⟩
def f__law_system : Fd := ⟨3, ["box", "many", "gaps", "names", "tasks", "name", "machines", "rule", "breaks", "supply", "locks", "task"], [
 .asg (.v 3) (.slc (.lst [.str "b", .str "a", .str "c"]) none (some (.bin .Add (.int 1) (.call i__law_draw [.var 0, .var 1])))),
 .asg (.v 4) (.bi .tuple [.comp true [("name", 5)] (.v 5) (.var 3) [] (.call i__law_task [.var 0, .var 5, .var 2])]),
 .asg (.t [(.v 6), (.v 7)]) (.tup [.sub (.lst [.int 1, .int 1, .int 1, .int 2]) (.call i__law_draw [.var 0, .int 4]), .sub (.lst [.str "fixed", .str "nearest", .str "fixed", .str "nearest", .str "oldest", .str "slack"]) (.call i__law_draw [.var 0, .int 6])]),
 .asg (.t [(.v 8), (.v 9)]) (.tup [.cmp .Gt (.call i__law_draw [.var 0, .int 4]) (.int 0), .sub (.lst [.tup [.int 1], .tup [.int 1], .tup [.int 1], .tup [.int 1, .int 0]]) (.call i__law_draw [.var 0, .int 4])]),
 .asg (.v 10) (.mkl []),
 .iff (.and (.cmp .Eq (.var 6) (.int 1)) (.and (.cmp .Eq (.var 7) (.str "fixed")) (.and (.var 8) (.cmp .Eq (.call i__law_draw [.var 0, .int 2]) (.int 0))))) [
  .for_ (.v 11) (.var 4) [
   .iff (.and (.cmp .Gt (.sub (.var 11) (.int 6)) (.int 1)) (.cmp .Gt (.call i__law_draw [.var 0, .int 3]) (.int 0))) [
    .expr (.app (.var 10) (.tup [.sub (.var 11) (.int 0), .str "l", .int 0, .sub (.var 11) (.int 6)]))] []]] [],
 .fz 10,
 .ret (.tup [.str "system", .var 6, .var 7, .var 8, .var 9, .var 4, .bi .tuple [.bi .sorted [.var 10]]])]⟩
def f__law_names : Fd := ⟨1, ["system", "task"], [
 .ret (.comp true [("task", 1)] (.v 1) (.sub (.var 0) (.int 5)) [] (.sub (.var 1) (.int 0)))]⟩
def f__law_part : Fd := ⟨2, ["system", "names", "rows", "task", "name", "row"], [
 .asg (.v 2) (.ddic (.comp true [("task", 3)] (.v 3) (.sub (.var 0) (.int 5)) [] (.tup [.sub (.var 3) (.int 0), .var 3]))),
 .ret (.bin .Add (.slc (.var 0) none (some (.int 5))) (.tup [.bi .tuple [.comp true [("name", 4)] (.v 4) (.var 1) [] (.dsub (.var 2) (.var 4))], .bi .tuple [.comp true [("row", 5)] (.v 5) (.sub (.var 0) (.int 6)) [.cmp .In (.sub (.var 5) (.int 0)) (.var 1)] (.var 5)]]))]⟩
def f__law_other : Fd := ⟨2, ["box", "thing", "behind", "k"], [
 .iff (.isi .tuple (.var 1)) [
  .asg (.v 2) (.bi .tuple [.comp true [("k", 3)] (.v 3) (.range [.bi .len [.var 1]]) [] (.sub (.var 1) (.bin .Sub (.bin .Sub (.bi .len [.var 1]) (.int 1)) (.var 3)))]),
  .ret (.sub (.lst [.bi .list [.var 1], .bin .Add (.var 1) (.slc (.var 1) none (some (.int 1))), .slc (.var 1) (some (.int 1)) none, .non, .tup [], .var 2]) (.call i__law_draw [.var 0, .int 6]))] [],
 .iff (.isi .str (.var 1)) [
  .ret (.sub (.lst [.str "a", .str "b", .str "c", .str "end", .str "any", .str "each", .str "fixed", .str "nearest", .str "A", .str "", .str "x y", .non, .str "states", .str "late", .str "l"]) (.call i__law_draw [.var 0, .int 15]))] [],
 .iff (.cmp .Is (.var 1) .non) [
  .ret (.sub (.lst [.int 0, .str "", .tup []]) (.call i__law_draw [.var 0, .int 3]))] [],
 .ret (.sub (.lst [.bin .Add (.var 1) (.int 1), .bin .Sub (.var 1) (.int 1), .bin .Sub (.int 0) (.var 1), .bl true, .non, .int 0, .int 100]) (.call i__law_draw [.var 0, .int 7]))]⟩
def f__law_changed : Fd := ⟨2, ["box", "thing", "at"], [
 .iff (.or (.not (.isi .tuple (.var 1))) (.or (.cmp .Eq (.var 1) (.tup [])) (.cmp .Eq (.call i__law_draw [.var 0, .int 9]) (.int 0)))) [
  .ret (.call i__law_other [.var 0, .var 1])] [],
 .asg (.v 2) (.bin .Mod (.call i__law_draw [.var 0, .int 900]) (.bi .len [.var 1])),
 .ret (.bin .Add (.bin .Add (.slc (.var 1) none (some (.var 2))) (.tup [.call i__law_changed [.var 0, .sub (.var 1) (.var 2)]])) (.slc (.var 1) (some (.bin .Add (.var 2) (.int 1))) none))]⟩
def f__law_is_task : Fd := ⟨1, ["thing"], [
 .iff (.or (.not (.isi .tuple (.var 0))) (.or (.cmp .NotEq (.bi .len [.var 0]) (.int 7)) (.or (.not (.call i__law_is_word [.sub (.var 0) (.int 0)])) (.or (.not (.isi .str (.sub (.var 0) (.int 1)))) (.cmp .NotIn (.sub (.var 0) (.int 1)) (.tup [.str "each", .str "any"])))))) [
  .ret (.bl false)] [],
 .iff (.or (.not (.call i__law_whole [.sub (.var 0) (.int 2), .int 0, .ite (.cmp .Eq (.sub (.var 0) (.int 1)) (.str "each")) (.int 20) (.int 0)])) (.or (.not (.call i__law_whole [.sub (.var 0) (.int 3), .int 1, .int 20])) (.not (.call i__law_whole [.sub (.var 0) (.int 4), .int 1, .sub (.var 0) (.int 3)])))) [
  .ret (.bl false)] [],
 .ret (.and (.call i__law_whole [.sub (.var 0) (.int 6), .int 1, .sub (.var 0) (.int 4)]) (.call i__law_whole [.sub (.var 0) (.int 5), .int 1, .sub (.var 0) (.int 6)]))]⟩
def f__law_right : Fd := ⟨1, ["thing", "one", "task", "mosts", "locks", "row", "k"], [
 .iff (.or (.not (.isi .tuple (.var 0))) (.or (.cmp .NotEq (.bi .len [.var 0]) (.int 7)) (.or (.not (.call i__law_like [.sub (.var 0) (.int 0), .str "system"])) (.or (.not (.call i__law_whole [.sub (.var 0) (.int 1), .int 1, .int 3])) (.not (.isi .str (.sub (.var 0) (.int 2)))))))) [
  .ret (.bl false)] [],
 .iff (.or (.cmp .NotIn (.sub (.var 0) (.int 2)) (.tup [.str "fixed", .str "nearest", .str "oldest", .str "slack"])) (.or (.not (.isi .bool (.sub (.var 0) (.int 3)))) (.or (.not (.isi .tuple (.sub (.var 0) (.int 4)))) (.not (.cmp2 .LtE .LtE (.int 1) (.bi .len [.sub (.var 0) (.int 4)]) (.int 12)))))) [
  .ret (.bl false)] [],
 .iff (.or (.cmp .NotEq (.comp true [("one", 1)] (.v 1) (.sub (.var 0) (.int 4)) [.not (.call i__law_whole [.var 1, .int 0, .int 1])] (.int 1)) (.lst [])) (.or (.cmp .NotIn (.int 1) (.sub (.var 0) (.int 4))) (.or (.not (.isi .tuple (.sub (.var 0) (.int 5)))) (.cmp .Gt (.bi .len [.sub (.var 0) (.int 5)]) (.int 6))))) [
  .ret (.bl false)] [],
 .iff (.or (.cmp .NotEq (.comp true [("task", 2)] (.v 2) (.sub (.var 0) (.int 5)) [.not (.call i__law_is_task [.var 2])] (.int 1)) (.lst [])) (.cmp .NotEq (.lset (.comp true [("task", 2)] (.v 2) (.sub (.var 0) (.int 5)) [] (.sub (.var 2) (.int 0)))) (.bi .len [.sub (.var 0) (.int 5)]))) [
  .ret (.bl false)] [],
 .asg (.t [(.v 3), (.v 4)]) (.tup [.ddic (.comp true [("task", 2)] (.v 2) (.sub (.var 0) (.int 5)) [] (.tup [.sub (.var 2) (.int 0), .sub (.var 2) (.int 6)])), .sub (.var 0) (.int 6)]),
 .iff (.or (.not (.isi .tuple (.var 4))) (.or (.cmp .Gt (.bi .len [.var 4]) (.int 6)) (.cmp .NotEq (.comp true [("row", 5)] (.v 5) (.var 4) [.or (.not (.isi .tuple (.var 5))) (.or (.cmp .NotEq (.bi .len [.var 5]) (.int 4)) (.or (.not (.call i__law_is_word [.sub (.var 5) (.int 0)])) (.not (.call i__law_is_word [.sub (.var 5) (.int 1)]))))] (.int 1)) (.lst [])))) [
  .ret (.bl false)] [],
 .iff (.cmp .NotEq (.comp true [("row", 5)] (.v 5) (.var 4) [.or (.dhas true (.sub (.var 5) (.int 0)) (.var 3)) (.or (.not (.call i__law_whole [.sub (.var 5) (.int 3), .int 1, .dsub (.var 3) (.sub (.var 5) (.int 0))])) (.not (.call i__law_whole [.sub (.var 5) (.int 2), .int 0, .bin .Sub (.sub (.var 5) (.int 3)) (.int 1)])))] (.int 1)) (.lst [])) [
  .ret (.bl false)] [],
 .iff (.cmp .NotEq (.comp true [("k", 6)] (.v 6) (.range [.int 1, .bi .len [.var 4]]) [.cmp .LtE (.sub (.var 4) (.var 6)) (.sub (.var 4) (.bin .Sub (.var 6) (.int 1)))] (.var 6)) (.lst [])) [
  .ret (.bl false)] [],
 .for_ (.v 6) (.range [.bi .len [.var 4]]) [
  .iff (.cmp .NotEq (.comp true [("row", 5)] (.v 5) (.slc (.var 4) none (some (.var 6))) [.and (.cmp .Eq (.sub (.var 5) (.int 0)) (.sub (.sub (.var 4) (.var 6)) (.int 0))) (.and (.cmp .Lt (.sub (.var 5) (.int 2)) (.sub (.sub (.var 4) (.var 6)) (.int 3))) (.cmp .Lt (.sub (.sub (.var 4) (.var 6)) (.int 2)) (.sub (.var 5) (.int 3))))] (.var 5)) (.lst [])) [
   .ret (.bl false)] []],
 .ret (.or (.cmp .Eq (.var 4) (.tup [])) (.and (.cmp .Eq (.sub (.var 0) (.int 1)) (.int 1)) (.and (.cmp .Eq (.sub (.var 0) (.int 2)) (.str "fixed")) (.cmp .Is (.sub (.var 0) (.int 3)) (.bl true)))))]⟩
def f_law : Fd := ⟨1, ["script", "box", "turn", "system", "names", "step", "thing", "text", "k", "some", "name", "rest", "order", "row", "tasks", "task", "locks", "lock"], [
 .asg (.v 1) (.mkl [.call i__law_digits [.var 0, .int 0, .int 63], .int 0]),
 .for_ (.v 2) (.range [.int 3]) [
  .asg (.v 3) (.call i__law_system [.var 1, .int 3, .int 6]),
  .asg (.v 4) (.call i__law_names [.var 3]),
  .iff (.or (.not (.call i__law_right [.var 3])) (.cmp .IsNot (.call i_is_system [.var 3]) (.bl true))) [
   .ret (.bl false)] [],
  .for_ (.v 5) (.range [.int 6]) [
   .asg (.v 6) (.call i__law_changed [.var 1, .var 3]),
   .iff (.not (.call i__law_like [.call i_is_system [.var 6], .call i__law_right [.var 6]])) [
    .ret (.bl false)] []],
  .asg (.v 7) (.me .join (.str "") [.comp true [("k", 8)] (.v 8) (.range [.call i__law_draw [.var 1, .int 4]]) [] (.sub (.lst [.str "a", .str "x", .str "1", .str "A", .str "end", .str "l", .str "_", .str "abcdefghi"]) (.call i__law_draw [.var 1, .int 8]))]),
  .for_ (.v 6) (.tup [.var 7, .str "come", .str "y", .non, .int 3, .tup [.str "a"]]) [
   .iff (.not (.call i__law_like [.call i_is_name [.var 6], .call i__law_is_word [.var 6]])) [
    .ret (.bl false)] []],
  .asg (.v 9) (.bi .tuple [.comp true [("name", 10)] (.v 10) (.var 4) [.cmp .Eq (.call i__law_draw [.var 1, .int 2]) (.int 0)] (.var 10)]),
  .asg (.v 11) (.comp true [("name", 10)] (.v 10) (.var 4) [.cmp .NotIn (.var 10) (.var 9)] (.var 10)),
  .iff (.or (.not (.call i__law_like [.call i_only [.var 3, .var 9], .call i__law_part [.var 3, .var 9]])) (.not (.call i__law_like [.call i_without [.var 3, .var 9], .call i__law_part [.var 3, .var 11]]))) [
   .ret (.bl false)] [],
  .asg (.v 12) (.bi .tuple [.rev (.var 4)]),
  .iff (.not (.call i__law_like [.call i_with_order [.var 3, .var 12], .call i__law_part [.var 3, .var 12]])) [
   .ret (.bl false)] [],
  .asg (.v 13) (.tup [.call i__law_pick [.var 1, .bin .Add (.var 4) (.lst [.str "q"])], .str "any", .int 0, .int 5, .int 4, .int 1, .int 1]),
  .asg (.v 14) (.bin .Add (.bi .tuple [.comp true [("task", 15)] (.v 15) (.sub (.var 3) (.int 5)) [] (.ite (.cmp .Eq (.sub (.var 15) (.int 0)) (.sub (.var 13) (.int 0))) (.var 13) (.var 15))]) (.ite (.cmp .In (.sub (.var 13) (.int 0)) (.var 4)) (.tup []) (.tup [.var 13]))),
  .asg (.v 16) (.bi .tuple [.comp true [("lock", 17)] (.v 17) (.sub (.var 3) (.int 6)) [.or (.cmp .NotEq (.sub (.var 17) (.int 0)) (.sub (.var 13) (.int 0))) (.cmp .LtE (.sub (.var 17) (.int 3)) (.int 1))] (.var 17)]),
  .iff (.not (.call i__law_like [.call i_with_task [.var 3, .var 13], .bin .Add (.slc (.var 3) none (some (.int 5))) (.tup [.var 14, .var 16])])) [
   .ret (.bl false)] []],
 .fz 1,
 .ret (.bl true)]⟩
def pg : Prog := ⟨[f_is_whole, f_is_between, f_is_ascending, f_has_word_form, f_is_name, f_is_supply, f_is_task, f_tasks_of, f__is_lock, f__are_apart, f_are_locks, f_lets_locks, f_is_system, f_task_of, f_with_tasks, f_without, f_only, f_with_task, f_with_order, f__law_cell, f__law_digits, f__law_draw, f__law_pick, f__law_like, f__law_whole, f__law_is_word, f__law_task, f__law_system, f__law_names, f__law_part, f__law_other, f__law_changed, f__law_is_task, f__law_right, f_law], [.str "abcdefghijklmnopqrstuvwxyz", .str "0123456789", .int 10, .tup [.str "let", .str "machines", .str "rule", .str "fixed", .str "nearest", .str "oldest", .str "slack", .str "breaks", .str "yes", .str "no", .str "supply", .str "task", .str "each", .str "any", .str "copies", .str "lock", .str "come", .str "run", .str "end", .str "late", .str "idle"], .int 3, .int 12, .int 6, .int 6, .int 20, .int 20, .tup [.str "fixed", .str "nearest", .str "oldest", .str "slack"], .tup [.str "each", .str "any"]]⟩
def tab : Tab := ⟨[(("is_whole" : Str), (1 : Nat)), (("is_between" : Str), (3 : Nat)), (("is_ascending" : Str), (1 : Nat)), (("has_word_form" : Str), (1 : Nat)), (("is_name" : Str), (1 : Nat)), (("is_supply" : Str), (1 : Nat)), (("is_task" : Str), (1 : Nat)), (("tasks_of" : Str), (1 : Nat)), (("_is_lock" : Str), (2 : Nat)), (("_are_apart" : Str), (1 : Nat)), (("are_locks" : Str), (2 : Nat)), (("lets_locks" : Str), (3 : Nat)), (("is_system" : Str), (1 : Nat)), (("task_of" : Str), (2 : Nat)), (("with_tasks" : Str), (2 : Nat)), (("without" : Str), (2 : Nat)), (("only" : Str), (2 : Nat)), (("with_task" : Str), (2 : Nat)), (("with_order" : Str), (2 : Nat)), (("_law_cell" : Str), (2 : Nat)), (("_law_digits" : Str), (3 : Nat)), (("_law_draw" : Str), (2 : Nat)), (("_law_pick" : Str), (2 : Nat)), (("_law_like" : Str), (2 : Nat)), (("_law_whole" : Str), (3 : Nat)), (("_law_is_word" : Str), (1 : Nat)), (("_law_task" : Str), (3 : Nat)), (("_law_system" : Str), (3 : Nat)), (("_law_names" : Str), (1 : Nat)), (("_law_part" : Str), (2 : Nat)), (("_law_other" : Str), (2 : Nat)), (("_law_changed" : Str), (2 : Nat)), (("_law_is_task" : Str), (1 : Nat)), (("_law_right" : Str), (1 : Nat)), (("law" : Str), (1 : Nat))], ["LETTERS", "DIGITS", "MOST_SIGNS", "CLOSED", "MOST_MACHINES", "MOST_SUPPLY", "MOST_TASKS", "MOST_LOCKS", "MOST_OFFSET", "MOST_GAP", "RULES", "KINDS"], ["all", "bool", "dict", "enumerate", "int", "isinstance", "len", "list", "min", "range", "set", "sorted", "str", "tuple"], ""⟩

def sts : List Stmt := [5, 6, 7, 8, 9, 19, 20, 21, 22, 23, 24, 25, 26, 27, 28, 29, 30, 31, 32, 34, 35, 36, 37, 38, 39, 40, 41, 42, 43, 44, 45, 46, 47, 48, 49].map fun i => PySem.Challenge.pw_timelyproof_k01_sys_systems.main.body.getD i (.Pass ⟨0, 0, 0, 0⟩)
end k01
end Dm

namespace Dm
open PySem L2 Dm Dm.Sy
set_option maxHeartbeats 0
local macro_rules | `(tactic| walk_at "fr") => `(tactic| simp only [List.map_cons, List.map_nil, List.length_cons, List.length_nil, Nat.reduceAdd, Nat.reduceSub, List.replicate_succ, List.replicate_zero, List.cons_append, List.nil_append])
local macro_rules | `(tactic| walk_at "w") => `(tactic| first
  | ((with_reducible refine w_var (d := ?d) ?h ?_); (case h => rfl))
  | with_reducible refine w_int ?_ | with_reducible refine w_bin ?_ | with_reducible refine w_cmp ?_ | with_reducible refine w_sub ?_ | with_reducible refine w_bi ?_
  | with_reducible refine w_tup ?_ | with_reducible refine w_lst ?_ | with_reducible refine w_cons ?_ | with_reducible refine w_nil ?_ | with_reducible refine w_call ?_ | with_reducible refine w_ite ?_ | with_reducible refine w_str ?_ | with_reducible refine w_bl ?_ | with_reducible refine w_non ?_
  | with_reducible refine t_cmpW ?_ | with_reducible refine t_notW ?_ | with_reducible refine t_andW ?_ | with_reducible refine t_orW ?_ | with_reducible refine t_isiW ?_ | with_reducible refine t_cmp2W ?_
  | with_reducible refine s_consW ?_ | with_reducible refine s_asgv ?_ | with_reducible refine s_asgW ?_ | with_reducible refine s_retW ?_ | with_reducible refine s_iffW ?_ | with_reducible refine s_setIW ?_ | with_reducible refine s_exprW ?_ | with_reducible refine s_forW ?_ | with_reducible refine s_nilW ?_ | with_reducible refine s_brkW ?_ | with_reducible refine s_cntW ?_ | with_reducible refine s_passW ?_
  | with_reducible refine w_not ?_ | with_reducible refine w_andW ?_ | with_reducible refine w_orW ?_ | with_reducible refine w_neg ?_ | with_reducible refine w_isi ?_ | with_reducible refine w_slc ?_ | with_reducible refine w_onone ?_ | with_reducible refine w_osome ?_ | with_reducible refine w_range ?_ | with_reducible refine w_comp ?_ | with_reducible refine w_cmp2 ?_ | with_reducible refine w_me ?_ | with_reducible refine w_maxd ?_ | with_reducible refine w_mkl ?_ | with_reducible refine w_enum ?_ | with_reducible refine w_zip ?_ | with_reducible refine w_ext ?_ | with_reducible refine w_mkc ?_ | with_reducible refine w_lset ?_ | with_reducible refine w_lzip ?_ | with_reducible refine w_dsub ?_ | with_reducible refine w_dhas ?_ | with_reducible refine w_dget ?_ | with_reducible refine w_ddic ?_ | with_reducible refine w_dcomp ?_ | with_reducible refine w_rev ?_
  | with_reducible refine x3_l ?_ | with_reducible refine x3_t ?_ | with_reducible refine x3_i ?_ | with_reducible refine x2_ll ?_ | with_reducible refine x2_lt ?_ | with_reducible refine x2_tl ?_ | with_reducible refine x2_tt ?_
  | ((with_reducible refine s_augW (a := ?a) ?h ?_); (case h => rfl))
  | ((with_reducible refine s_fzW (l := ?l) (n := ?n) ?h ?h2 ?_); (case h => rfl); (case h2 => rfl))
  | ((with_reducible refine w_glob (d := ?d) ?h ?_); (case h => rfl))
  | with_reducible refine w_ok ?_
  | with_reducible refine t_any ?_
  | with_reducible refine ts_oneW ?_ | with_reducible refine ts_nilW ?_
  | with_reducible refine w_ift ?_ | with_reducible refine w_iff' ?_ | with_reducible refine w_nif ?_ | with_reducible refine w_nit ?_
  | ((with_reducible refine Exists.intro _ (And.intro (b_div ?h1 ?h2) ?_)); (case h1 => omega); (case h2 => omega))
  | ((with_reducible refine Exists.intro _ (And.intro (b_mod ?h1) ?_)); (case h1 => omega))
  | ((with_reducible refine Exists.intro _ (And.intro (b_mulR ?h1 ?h2) ?_)); (case h1 => omega); (case h2 => omega))
  | ((with_reducible refine Exists.intro _ (And.intro (b_mulL ?h1 ?h2) ?_)); (case h1 => omega); (case h2 => omega))
  | ((with_reducible refine Exists.intro _ (And.intro (b_addT ?h1) ?_)); (case h1 => first | exact Nat.le_of_ble_eq_true rfl | (simp; omega)))
  | ((with_reducible refine Exists.intro _ (And.intro (b_addL ?h1) ?_)); (case h1 => first | exact Nat.le_of_ble_eq_true rfl | (simp; omega)))
  | ((with_reducible refine And.intro (small_ok ?h1) ?_); (case h1 => exact Nat.le_of_ble_eq_true rfl))
  | ((with_reducible refine w_ret ?_ ?h1); (case h1 => rfl))
  | with_reducible refine Exists.intro _ (And.intro (bi_sumL _) ?_)
  | with_reducible refine Exists.intro _ (And.intro (bi_sumT _) ?_)
  | ((with_reducible refine Exists.intro _ (And.intro (range_one ?h1 ?h2) ?_)); (case h1 => omega); (case h2 => omega))
  | ((with_reducible refine Exists.intro _ (And.intro (range_two _ _ ?h1 ?h2 ?h3 ?h4) ?_)); (case h1 => omega); (case h2 => omega); (case h3 => omega); (case h4 => omega))
  | with_reducible refine Exists.intro _ (And.intro b_nilne ?_)
  | with_reducible refine Exists.intro _ (And.intro b_nileq ?_)
  | with_reducible refine Exists.intro _ (And.intro b_eqI ?_)
  | with_reducible refine Exists.intro _ (And.intro b_neI ?_)
  | ((with_reducible refine Exists.intro true (And.intro (show isiD _ _ _ = some true from ?h) ?_)); (case h => rfl))
  | ((with_reducible refine Exists.intro false (And.intro (show isiD _ _ _ = some false from ?h) ?_)); (case h => rfl))
  | ((with_reducible refine And.intro (show meTy _ _ _ = true from ?h) ?_); (case h => rfl))
  | ((with_reducible refine Exists.intro true (And.intro (show cmpD .IsNot _ _ _ = some true from ?h) ?_)); (case h => rfl))
  | ((with_reducible refine Exists.intro false (And.intro (show cmpD .IsNot _ _ _ = some false from ?h) ?_)); (case h => rfl))
  | ((with_reducible refine Exists.intro true (And.intro (show cmpD .Is _ _ _ = some true from ?h) ?_)); (case h => rfl))
  | ((with_reducible refine Exists.intro false (And.intro (show cmpD .Is _ _ _ = some false from ?h) ?_)); (case h => rfl))
  | ((with_reducible refine Exists.intro ?x (And.intro (show binD _ _ _ _ = some ?x from ?h) ?_)); (case h => rfl))
  | ((with_reducible refine Exists.intro ?x (And.intro (show cmpD _ _ _ _ = some ?x from ?h) ?_)); (case h => rfl))
  | ((with_reducible refine Exists.intro ?x (And.intro (show subD _ _ _ = some ?x from ?h) ?_)); (case h => rfl))
  | ((with_reducible refine Exists.intro ?x (And.intro (show biD _ _ _ = some ?x from ?h) ?_)); (case h => rfl))
  | ((with_reducible refine Exists.intro ?x (And.intro (show truth _ _ = some ?x from ?h) ?_)); (case h => rfl))
  | ((with_reducible refine Exists.intro ?x (And.intro (show isiD _ _ _ = some ?x from ?h) ?_)); (case h => rfl))
  | ((with_reducible refine Exists.intro ?x (And.intro (show meD _ _ _ _ = some ?x from ?h) ?_)); (case h => rfl))
  | ((with_reducible refine Exists.intro ?x (And.intro (show slcD _ _ _ _ = some ?x from ?h) ?_)); (case h => rfl))
  | ((with_reducible refine Exists.intro ?x (And.intro (show iterD _ _ = some ?x from ?h) ?_)); (case h => rfl))
  | ((with_reducible refine Exists.intro ?x (And.intro (show asgP _ _ _ = some ?x from ?h) ?_)); (case h => rfl))
  | ((with_reducible refine Exists.intro ?x (And.intro (show mdD _ _ _ _ = some ?x from ?h) ?_)); (case h => rfl))
  | with_reducible refine Exists.intro _ (And.intro (Eq.refl (D.int _)) ?_))

namespace k01
variable {wf n : Nat} {S : Store}
theorem call_at {i : Nat} {fd : Fd} (h : pg.fns[i]? = some fd) (args : List D) (S : Store) : (fnsAt pg wf (n + 1)).call i args S = runFd (fnsAt pg wf n) fd args S := by
  show (match pg.fns[i]? with | some fd => runFd (fnsAt pg wf n) fd args S | none => .no) = _
  rw [h]
section
variable {s : Sys}
theorem c_tasks_of : (fnsAt pg wf (n + 1)).call i_tasks_of [sD s] S = .ok (.tup (s.tasks.map tD)) S := by
  rw [call_at rfl]
  refine RPost.eq ?_
  refine w_fd rfl ?_
  unfold f_tasks_of
  walk_at "fr"
  repeat walk_at "w"
  exact ⟨rfl, rfl⟩
theorem few_tasks (h : s.Ok) : s.tasks.length ≤ sizeLine := small_ok (by have := h.few; omega)
theorem c_lnames (h : s.Ok) : (fnsAt pg wf (n + 1)).call i__law_names [sD s] S = .ok (.lst ((nms s).map .str)) S := by
  rw [call_at rfl]
  refine RPost.eq ?_
  refine w_fd rfl ?_
  unfold f__law_names
  walk_at "fr"
  repeat walk_at "w"
  rw [comp_pure tD (fun _ => true) (fun t => .str t.nm) s.tasks (few_tasks h) fun t ht => ⟨_, rfl, rfl, fun _ => rfl⟩]
  rw [filter_all]
  repeat walk_at "w"
  unfold nms
  rw [List.map_map]
  exact ⟨rfl, rfl⟩
end
variable {s : Sys}
abbrev nD (n : Nat) : D := .int (n : Nat)
theorem b_kind (h : s.Ok) {t : Task} (ht : t ∈ s.tasks) {x : Str} (hx : PyData.strOk x = true) : cmpD .Eq S (.str t.kind) (.str x) = some (t.kind == x) := by
  refine b_eqS ?_ hx
  rcases (h.task t ht).kind with e | e <;> rw [e] <;> decide +kernel
theorem each_ok : PyData.strOk ("each" : Str) = true := by decide +kernel
theorem any_ok : PyData.strOk ("any" : Str) = true := by decide +kernel
theorem nat_pure (l : List Nat) : (D.lst (l.map nD)).pure = true := pureL_all fun d hd => by obtain ⟨n, _, rfl⟩ := List.mem_map.mp hd; rfl

end k01

namespace k01

variable {wf n : Nat} {S : Store}
/-! ### what the law holds alike -/
inductive Lk : Nat → D → Prop where
  | int {k : Nat} (i : Int) : Lk k (.int i)
  | bl {k : Nat} (b : Bool) : Lk k (.bl b)
  | non {k : Nat} : Lk k .non
  | str {k : Nat} {x : Str} (h : PyData.strOk x = true) (hl : x.length ≤ 1000) : Lk k (.str x)
  | tup {k : Nat} {l : List D} (h : ∀ x ∈ l, Lk k x) (hl : l.length ≤ 5000) : Lk (k + 1) (.tup l)
theorem like_atom {d : D} (h : Lk 0 d) : (fnsAt pg wf (n + 1)).call i__law_like [d, d] S = .ok (.bl true) S := by
  rw [call_at rfl]
  refine RPost.eq ?_
  refine w_fd rfl ?_
  unfold f__law_like
  walk_at "fr"
  cases h with
  | int i =>
    repeat walk_at "w"
    exact ⟨by simp, rfl⟩
  | bl b =>
    cases b with
    | true =>
      repeat walk_at "w"
      exact ⟨rfl, rfl⟩
    | false =>
      repeat walk_at "w"
      exact ⟨rfl, rfl⟩
  | non =>
    repeat walk_at "w"
    exact ⟨rfl, rfl⟩
  | str hx hl =>
    repeat walk_at "w"
    refine ⟨_, me_join1 hl, ?_⟩
    repeat walk_at "w"
    refine ⟨_, b_eqS hx hx, ?_⟩
    repeat walk_at "w"
    exact ⟨by simp, rfl⟩
theorem c_like : ∀ (k : Nat) (d : D), Lk k d → ∀ (m : Nat) (S : Store), (fnsAt pg wf (m + k + 1)).call i__law_like [d, d] S = .ok (.bl true) S := by
  intro k
  induction k with
  | zero => exact fun d h m S => like_atom h
  | succ k ih =>
    intro d h m S
    cases h with
    | int i => exact like_atom (.int i)
    | bl b => exact like_atom (.bl b)
    | non => exact like_atom .non
    | str hx hl => exact like_atom (.str hx hl)
    | tup h hl =>
      rename_i l
      rw [call_at rfl]
      refine RPost.eq ?_
      refine w_fd rfl ?_
      unfold f__law_like
      walk_at "fr"
      repeat walk_at "w"
      refine w_decn (fun hne => absurd rfl hne) (fun _ => ?_)
      repeat walk_at "w"
      refine w_comp_pure (fun j : Nat => D.int (j : Nat)) (fun _ => false) (fun _ => D.int 1) (List.range l.length) (by rw [Int.toNat_natCast]) (by rw [List.length_range]; exact Nat.le_trans hl (by decide +kernel)) (fun j hj => ?_) ?_
      · have hj := List.mem_range.mp hj
        refine ⟨_, rfl, ?_, fun z => by cases z⟩
        refine RPost.eq ?_
        repeat walk_at "w"
        have hg : subD S (D.tup l) (D.int (j : Nat)) = some l[j] := atI_nat (List.getElem?_eq_getElem hj)
        refine ⟨_, hg, ?_⟩
        repeat walk_at "w"
        refine ⟨_, hg, ?_⟩
        repeat walk_at "w"
        rw [show m + (k + 1) = m + k + 1 from by omega, ih _ (h _ (List.getElem_mem hj)) m S]
        repeat walk_at "w"
        first | exact ⟨rfl, rfl⟩ | rfl
      · rw [show (List.range l.length).filter (fun _ => false) = [] from List.filter_eq_nil_iff.mpr fun _ _ => by decide]
        repeat walk_at "w"
        first | exact ⟨rfl, rfl⟩ | rfl
/-! ### the digits -/
theorem b_pow18 {S : Store} : binD .Pow S (.int 10) (.int 18) = some (.int 1000000000000000000) := rfl
theorem c_cell {ns : List Int} {k : Nat} : ∃ c : Int, (fnsAt pg wf (n + 1)).call i__law_cell [.frz (ns.map .int), .int (k : Nat)] S = .ok (.int c) S := by
  by_cases hk : k < ns.length
  · refine ⟨ns[k], ?_⟩
    have hl : ((k : Nat) : Int) < ((ns.map D.int).length : Int) := by rw [List.length_map]; omega
    rw [call_at rfl]
    refine RPost.eq ?_
    refine w_fd rfl ?_
    unfold f__law_cell
    walk_at "fr"
    repeat walk_at "w"
    rw [decide_eq_true hl]
    repeat walk_at "w"
    refine ⟨.int ns[k], ?_, ?_⟩
    · refine atI_nat ?_
      rw [List.getElem?_map, List.getElem?_eq_getElem hk]
      rfl
    · repeat walk_at "w"
      exact ⟨rfl, rfl⟩
  · refine ⟨0, ?_⟩
    have hl : ¬ ((k : Nat) : Int) < ((ns.map D.int).length : Int) := by rw [List.length_map]; omega
    rw [call_at rfl]
    refine RPost.eq ?_
    refine w_fd rfl ?_
    unfold f__law_cell
    walk_at "fr"
    repeat walk_at "w"
    rw [decide_eq_false hl]
    repeat walk_at "w"
    exact ⟨rfl, rfl⟩
def dgC (ds : List Int) : Cell := .lst (ds.map .int)
theorem dg_app (ds : List Int) (v : Int) : Cell.lst (ds.map .int ++ [.int v]) = dgC (ds ++ [v]) := by unfold dgC; rw [List.map_append]; rfl
theorem dig_size {k : Nat} (h : k ≤ 2000) : k < sizeLine := Nat.lt_of_le_of_lt h (by decide +kernel)
theorem rb_ints (m : Nat) : ∀ ns : List Int, D.rbL m (ns.map .int) = true
  | [] => rfl
  | _ :: ns => by
    show (true && D.rbL m (ns.map .int)) = true
    rw [rb_ints m ns]; rfl
abbrev dgFr (ns : List Int) (a b c d : Option D) : Fr := [some (.frz (ns.map .int)), some (.int 0), some (.int 63), some (.ref 0), a, b, c, d]
abbrev DgP (d : D) (S' : Store) : Prop := S' = [] ∧ ∃ ds : List Int, d = .lst (ds.map .int)
theorem dg_fin {ns ds : List Int} {a b c d : Option D} {PO : Out → Store → Prop} (hPO : ∀ d S', RPost DgP (cutR 0 d S') → PO (.ret d) S') : WSs (fnsAt pg wf (n + 1)) [.fz 3, .ret (.var 3)] (dgFr ns a b c d) [dgC ds] PO := by
  refine s_consW (s_fzW (n := 0) (l := ds.map .int) rfl rfl ?_)
  refine s_consW (s_retW ?_)
  refine w_var (d := .lst (ds.map .int)) rfl ?_
  exact hPO _ _ (w_cut (Nat.zero_le _) (rb_ints 0 ds) rfl ⟨rfl, ds, rfl⟩)
/-- the many digits of a cell -/
theorem dg_big {ns ds : List Int} {a d : Option D} {c0 : Option D} {cl : Int} (hl : ds.length ≤ 1500) {PO : Out → Store → Prop} (h : ∀ (ds' : List Int) (b c : Option D), PO (.nx (dgFr ns a b c d)) [dgC ds']) :
    WS (fnsAt pg wf (n + 1)) (.for_ (.v 6) (.range [.int 60]) [.iff (.cmp .Gt (.var 5) (.int 0)) [.expr (.app (.var 3) (.bin .Mod (.bi .int [.var 5]) (.int 1000))), .asg (.v 5) (.bin .FloorDiv (.var 5) (.int 1000))] []]) (dgFr ns a (some (.int cl)) c0 d) [dgC ds] PO := by
  repeat walk_at "w"
  refine for_inv (fun l fr S' => ∃ (rest : List Nat) (ds' : List Int) (cl' : Int) (c : Option D), l = rest.map (fun j : Nat => D.int (j : Nat)) ∧ fr = dgFr ns a (some (.int cl')) c d ∧ S' = [dgC ds'] ∧ ds'.length + rest.length ≤ 1560) ?_ ?_ _ _ _ ⟨List.range 60, ds, cl, c0, rfl, rfl, rfl, by rw [List.length_range]; omega⟩
  · rintro x l fr S' ⟨rest, ds', cl', c, e, rfl, rfl, hb⟩
    cases rest with
    | nil => cases e
    | cons k rest =>
      cases e
      rw [List.length_cons] at hb
      refine ⟨dgFr ns a (some (.int cl')) (some (.int (k : Nat))) d, rfl, ?_⟩
      repeat walk_at "w"
      refine w_dec (fun hc => ?_) (fun hc => ?_)
      · repeat walk_at "w"
        refine w_app ?_
        repeat walk_at "w"
        refine ⟨0, ds'.map .int, rfl, rfl, ?_⟩
        repeat walk_at "w"
        refine ⟨ds'.map .int, rfl, by rw [List.length_map]; exact dig_size (by omega), ?_⟩
        show RPost _ _
        repeat walk_at "w"
        exact ⟨rest, ds' ++ [cl' % 1000], _, _, rfl, rfl, congrArg (fun q => [q]) (dg_app ds' _), by rw [List.length_append, List.length_singleton]; omega⟩
      · repeat walk_at "w"
        exact ⟨rest, ds', _, _, rfl, rfl, rfl, by omega⟩
  · rintro fr S' ⟨rest, ds', cl', c, e, rfl, rfl, hb⟩
    exact h ds' _ _
theorem dg_small {ns ds : List Int} {a b c0 : Option D} {sd : Int} (hl : ds.length ≤ 1500) {PO : Out → Store → Prop} (h : ∀ (ds' : List Int) (b c d : Option D), PO (.nx (dgFr ns a b c d)) [dgC ds']) :
    WS (fnsAt pg wf (n + 1)) (.for_ (.v 6) (.range [.int 12]) [.asg (.v 7) (.bin .Mod (.bi .int [.bin .Add (.bin .Add (.bin .Mult (.var 7) (.int 16807)) (.bin .Mult (.int 7) (.var 6))) (.int 1)]) (.int 2147483647)), .expr (.app (.var 3) (.bin .Mod (.bi .int [.bin .FloorDiv (.var 7) (.int 997)]) (.int 1000)))])
      (dgFr ns a b c0 (some (.int sd))) [dgC ds] PO := by
  repeat walk_at "w"
  refine for_inv (fun l fr S' => ∃ (rest : List Nat) (ds' : List Int) (sd' : Int) (c : Option D), l = rest.map (fun j : Nat => D.int (j : Nat)) ∧ fr = dgFr ns a b c (some (.int sd')) ∧ S' = [dgC ds'] ∧ ds'.length + rest.length ≤ 1560) ?_ ?_ _ _ _ ⟨List.range 12, ds, sd, c0, rfl, rfl, rfl, by rw [List.length_range]; omega⟩
  · rintro x l fr S' ⟨rest, ds', sd', c, e, rfl, rfl, hb⟩
    cases rest with
    | nil => cases e
    | cons k rest =>
      cases e
      rw [List.length_cons] at hb
      refine ⟨dgFr ns a b (some (.int (k : Nat))) (some (.int sd')), rfl, ?_⟩
      repeat walk_at "w"
      refine w_app ?_
      repeat walk_at "w"
      refine ⟨0, ds'.map .int, rfl, rfl, ?_⟩
      repeat walk_at "w"
      refine ⟨ds'.map .int, rfl, by rw [List.length_map]; exact dig_size (by omega), ?_⟩
      repeat walk_at "w"
      exact ⟨rest, ds' ++ [_], _, _, rfl, rfl, congrArg (fun q => [q]) (dg_app ds' _), by rw [List.length_append, List.length_singleton]; omega⟩
  · rintro fr S' ⟨rest, ds', sd', c, e, rfl, rfl, hb⟩
    exact h ds' _ _ _
theorem c_digits {ns : List Int} : ∃ ds : List Int, (fnsAt pg wf (n + 2)).call i__law_digits [.frz (ns.map .int), .int 0, .int 63] [] = .ok (.lst (ds.map .int)) [] := by
  suffices h : RPost DgP ((fnsAt pg wf (n + 2)).call i__law_digits [.frz (ns.map .int), .int 0, .int 63] []) by
    obtain ⟨d, S', e, rfl, ds, rfl⟩ := h.ex
    exact ⟨ds, e⟩
  rw [call_at rfl]
  refine w_fd rfl ?_
  unfold f__law_digits
  walk_at "fr"
  repeat walk_at "w"
  refine for_inv (fun l fr S' => ∃ (rest : List Nat) (ds : List Int) (a b c d : Option D), l = rest.map (fun j : Nat => D.int (j : Nat)) ∧ fr = dgFr ns a b c d ∧ S' = [dgC ds]) ?_ ?_ _ _ _
    ⟨List.range 63, [], none, none, none, none, List.map_congr_left fun j _ => congrArg D.int (Int.zero_add _), rfl, rfl⟩
  · rintro x l fr S' ⟨rest, ds, a, b, c, d, e, rfl, rfl⟩
    cases rest with
    | nil => cases e
    | cons k rest =>
      cases e
      refine ⟨dgFr ns (some (.int (k : Nat))) b c d, rfl, ?_⟩
      obtain ⟨cl, hcl⟩ := c_cell (wf := wf) (n := n) (S := [dgC ds]) (ns := ns) (k := k)
      refine s_consW (s_asgv ?_)
      repeat walk_at "w"
      rw [hcl]
      refine w_ok ?_
      refine s_consW ?_
      refine RPost.imp (P := fun o S' => ∃ cl' : Int, o = .nx (dgFr ns (some (.int (k : Nat))) (some (.int cl')) c d) ∧ S' = [dgC ds]) ?_ ?_
      · repeat walk_at "w"
        refine w_dec (fun hc => ?_) (fun hc => ?_)
        · repeat walk_at "w"
          exact ⟨_, rfl, rfl⟩
        · repeat walk_at "w"
          exact ⟨_, rfl, rfl⟩
      rintro o S' - ⟨cl', rfl, rfl⟩
      have hlen : ((ds.map D.int).length : Int) = ds.length := by rw [List.length_map]
      repeat walk_at "w"
      refine w_dec (fun hc => ?_) (fun hc => ?_)
      · repeat walk_at "w"
        show RPost DgP (cutR 0 (.lst (ds.map .int)) [.dead])
        exact w_cut (Nat.zero_le _) (rb_ints 0 ds) rfl ⟨rfl, ds, rfl⟩
      · have hd : ds.length ≤ 1500 := by
          have q : ¬ ((1500 : Int) < ((ds.map D.int).length : Int)) := hc
          omega
        repeat walk_at "w"
        refine w_dec (fun hc => ?_) (fun hc => ?_)
        · refine s_consW ?_
          refine dg_big hd fun ds' b c => ?_
          repeat walk_at "w"
          exact ⟨rest, ds', _, _, _, _, rfl, rfl, rfl⟩
        · refine s_consW (s_asgv ?_)
          refine RPost.imp (P := fun x S' => ∃ v : Int, x = .int v ∧ S' = [dgC ds]) ?_ ?_
          · repeat walk_at "w"
            rfl
          rintro x S' - ⟨v, rfl, rfl⟩
          refine s_consW ?_
          refine dg_small hd fun ds' b c d => ?_
          repeat walk_at "w"
          exact ⟨rest, ds', _, _, _, _, rfl, rfl, rfl⟩
  · rintro fr S' ⟨rest, ds, a, b, c, d, e, rfl, rfl⟩
    refine dg_fin ?_
    exact fun _ _ h => h

/-! ### draws -/
def bxc (ds : List Int) (a : Int) : Cell := .lst [.lst (ds.map .int), .int a]
theorem w_draw {ds : List Int} {a many : Int} {R : Store} (ha : 0 ≤ a) (hm : 0 < many) {P : D → Store → Prop} (h : ∀ v, 0 ≤ v → v < many → P (.int v) (bxc ds (a + 1) :: R)) : RPost P ((fnsAt pg wf (n + 1)).call i__law_draw [.ref 0, .int many] (bxc ds a :: R)) := by
  rw [call_at rfl]
  refine w_fd rfl ?_
  unfold f__law_draw
  walk_at "fr"
  repeat walk_at "w"
  refine ⟨0, 1, [.lst (ds.map .int), .int a], 1, rfl, rfl, rfl, rfl, ?_⟩
  repeat walk_at "w"
  refine w_dec (fun hc => ?_) (fun hc => ?_)
  · obtain ⟨j, rfl⟩ : ∃ j : Nat, a = j := ⟨a.toNat, by omega⟩
    rw [List.length_map] at hc
    have hj : j < ds.length := by omega
    repeat walk_at "w"
    refine ⟨.int ds[j], atI_nat (by rw [List.getElem?_map, List.getElem?_eq_getElem hj]; rfl), ?_⟩
    repeat walk_at "w"
    exact h _ (Int.emod_nonneg _ (by omega)) (Int.emod_lt_of_pos _ hm)
  · repeat walk_at "w"
    exact h _ (Int.emod_nonneg _ (by omega)) (Int.emod_lt_of_pos _ hm)
theorem sub_in {l : List D} {v : Int} (h0 : 0 ≤ v) (h1 : v < l.length) : ∃ x ∈ l, subD S (.lst l) (.int v) = some x := by
  obtain ⟨j, rfl⟩ : ∃ j : Nat, v = j := ⟨v.toNat, by omega⟩
  have hj : j < l.length := by omega
  exact ⟨l[j], List.getElem_mem hj, atI_nat (List.getElem?_eq_getElem hj)⟩
theorem w_task {ds : List Int} {a : Int} {R : Store} {nm : Str} {gaps : Int} (hg1 : 1 ≤ gaps) (hg2 : gaps ≤ 20) (ha : 0 ≤ a) {P : D → Store → Prop} (h : ∀ (t : Task) (a' : Int), t.Ok → t.nm = nm → (t.most ≤ 3 ∧ ((t.kind == each) = true ∧ t.off ≤ 20 ∨ (t.kind == each) = false ∧ t.off = 0)) → 0 ≤ a' → P (tD t) (bxc ds a' :: R)) : RPost P ((fnsAt pg wf (n + 2)).call i__law_task [.ref 0, .str nm, .int gaps] (bxc ds a :: R)) := by
  rw [call_at rfl]
  refine w_fd rfl ?_
  unfold f__law_task
  walk_at "fr"
  repeat walk_at "w"
  refine w_draw ha (by decide) fun v0 p0 q0 => ?_
  obtain ⟨x, hx, e⟩ := sub_in (S := bxc ds (a + 1) :: R) (l := [.str "any", .str "any", .str "each"]) p0 (by simpa using q0)
  obtain ⟨kd, rfl, hk⟩ : ∃ kd : Str, x = .str kd ∧ (kd = each ∨ kd = anyK) := by
    simp only [List.mem_cons, List.not_mem_nil, or_false] at hx
    rcases hx with rfl | rfl | rfl
    · exact ⟨_, rfl, .inr rfl⟩
    · exact ⟨_, rfl, .inr rfl⟩
    · exact ⟨_, rfl, .inl rfl⟩
  refine ⟨_, e, ?_⟩
  have hkok : PyData.strOk kd = true := by rcases hk with e | e <;> rw [e] <;> decide +kernel
  repeat walk_at "w"
  refine w_draw (by omega) (by omega) fun v1 p1 q1 => ?_
  repeat walk_at "w"
  refine w_draw (by omega) (by omega) fun v2 p2 q2 => ?_
  repeat walk_at "w"
  refine w_draw (by omega) (by split <;> omega) fun v3 p3 q3 => ?_
  have q3' : v3 < 3 ∧ v3 < 1 + v2 := by
    have q := q3
    split at q <;> omega
  repeat walk_at "w"
  refine ⟨_, b_eqS hkok each_ok, ?_⟩
  refine w_bool (fun hb => ?_) (fun hb => ?_)
  · repeat walk_at "w"
    refine w_draw (by omega) (by decide) fun v4 p4 q4 => ?_
    repeat walk_at "w"
    refine w_draw (by omega) (by omega) fun v5 p5 q5 => ?_
    repeat walk_at "w"
    exact h ⟨nm, kd, v4, 1 + v1, 1 + v2, 1 + v5, 1 + v3⟩ _ ⟨hk, ⟨by show 1 ≤ 1 + v1; omega, by show 1 + v1 ≤ 20; omega⟩, ⟨by show 1 ≤ 1 + v2; omega, by show 1 + v2 ≤ 1 + v1; omega⟩, ⟨by show 1 ≤ 1 + v5; omega, by show 1 + v5 ≤ 1 + v3; omega, by show 1 + v3 ≤ 1 + v2; omega⟩, ⟨p4, by show v4 ≤ 20; omega⟩⟩ rfl ⟨by show 1 + v3 ≤ 3; omega, .inl ⟨hb, by show v4 ≤ 20; omega⟩⟩ (by omega)
  · repeat walk_at "w"
    refine w_draw (by omega) (by omega) fun v5 p5 q5 => ?_
    repeat walk_at "w"
    exact h ⟨nm, kd, 0, 1 + v1, 1 + v2, 1 + v5, 1 + v3⟩ _ ⟨hk, ⟨by show 1 ≤ 1 + v1; omega, by show 1 + v1 ≤ 20; omega⟩, ⟨by show 1 ≤ 1 + v2; omega, by show 1 + v2 ≤ 1 + v1; omega⟩, ⟨by show 1 ≤ 1 + v5; omega, by show 1 + v5 ≤ 1 + v3; omega, by show 1 + v3 ≤ 1 + v2; omega⟩, ⟨by show (0 : Int) ≤ 0; decide, by show (0 : Int) ≤ 20; decide⟩⟩ rfl ⟨by show 1 + v3 ≤ 3; omega, .inr ⟨hb, rfl⟩⟩ (by omega)
theorem w_pick {ds : List Int} {a : Int} {R : Store} {l : List D} (hl : l ≠ []) (ha : 0 ≤ a) {P : D → Store → Prop} (h : ∀ x ∈ l, P x (bxc ds (a + 1) :: R)) : RPost P ((fnsAt pg wf (n + 2)).call i__law_pick [.ref 0, .lst l] (bxc ds a :: R)) := by
  rw [call_at rfl]
  refine w_fd rfl ?_
  unfold f__law_pick
  walk_at "fr"
  have hp : 0 < (l.length : Int) := by
    cases l with
    | nil => exact absurd rfl hl
    | cons => simp
  refine s_consW (s_retW (w_sub (w_var rfl (w_bin (w_bi (w_cons (w_call (w_cons (w_var rfl (w_cons (w_int (w_nil ?_))))))))))))
  refine w_draw ha (by decide) fun v p q => ?_
  refine w_nil ⟨_, rfl, w_bi (w_cons (w_var rfl (w_nil ⟨.int (l.length : Nat), rfl, ⟨_, b_mod hp, ?_⟩⟩)))⟩
  obtain ⟨x, hx, e⟩ := sub_in (S := bxc ds (a + 1) :: R) (l := l) (v := v % (l.length : Int)) (Int.emod_nonneg _ (by omega)) (Int.emod_lt_of_pos _ hp)
  exact ⟨_, e, w_ret (h x hx) rfl⟩

end k01

namespace k01
variable {wf n : Nat} {S : Store}
def abc : List Str := ["b", "a", "c"]
theorem abc_ok {x : Str} (h : x ∈ abc) : PyData.strOk x = true ∧ x.length ≤ 10 := by
  have : ∀ x ∈ abc, PyData.strOk x = true ∧ x.length ≤ 10 := by decide +kernel
  exact this x h
theorem l_ok : PyData.strOk ("l" : Str) = true ∧ ("l" : Str).length ≤ 10 := by decide +kernel
theorem rb_bxc (ds : List Int) (a : Int) (m : Nat) : Cell.rb m (bxc ds a) = true := by
  show (D.rbL m (ds.map .int) && (true && true)) = true
  rw [rb_ints]; rfl
theorem wf_box {ds : List Int} {a : Int} {R : Store} (hR : R.all (Cell.rb (R.length + 1)) = true) : Wf (bxc ds a :: R) := by
  show (Cell.rb _ (bxc ds a) && R.all (Cell.rb (R.length + 1))) = true
  rw [rb_bxc, hR]; rfl
/-- a system as the law draws it -/
structure Drawn (many : Nat) (gaps : Int) (s : Sys) : Prop where
  few : s.tasks.length ≤ many
  some : 0 < s.tasks.length
  abc : ∀ t ∈ s.tasks, t.nm ∈ abc
  most : ∀ t ∈ s.tasks, t.most ≤ 3
  lks : ∀ l ∈ s.locks, l.lk = "l" ∧ l.lo = 0
  sup : s.sup = [1] ∨ s.sup = [1, 0]
  hi : ∀ l ∈ s.locks, ∃ t ∈ s.tasks, t.nm = l.nm ∧ l.hi = t.most
  one : (s.locks.map (·.nm)).Nodup
  off0 : ∀ t ∈ s.tasks, (t.kind == each) = true ∧ t.off ≤ 20 ∨ (t.kind == each) = false ∧ t.off = 0
  srt : s.locks.Pairwise fun a b => PySem.W.dataLe false D.py (lkD a) (lkD b) = true
theorem lk_pure (l : Lock) : (lkD l).pure = true := rfl
theorem lk_sort {S : Store} (l : List Lock) : ∃ l' : List Lock, biD .sorted S [.lst (l.map lkD)] = some (.lst (l'.map lkD)) ∧ (∀ x ∈ l', x ∈ l) ∧ l'.length = l.length ∧ l'.Perm l ∧ l'.Pairwise fun a b => PySem.W.dataLe false D.py (lkD a) (lkD b) = true := by
  have hp : D.pureL (l.map lkD) = true := pureL_all fun d hd => by obtain ⟨x, _, rfl⟩ := List.mem_map.mp hd; rfl
  have hs : sortB (D.pyL (l.map lkD)) = true := by
    refine sortB_of (fun a ha b hb => ?_) (.inl fun a ha => ?_) fun a ha => ?_
    · obtain ⟨i, _, rfl⟩ := List.mem_map.mp ha
      obtain ⟨j, _, rfl⟩ := List.mem_map.mp hb
      show PySem.W.alike (.tuple [.str _, .str _, .int _, .int _]) (.tuple [.str _, .str _, .int _, .int _]) = true
      simp [PySem.W.alike, PySem.W.alikeAll]
    · obtain ⟨i, _, rfl⟩ := List.mem_map.mp ha
      exact ⟨_, _, rfl⟩
    · obtain ⟨i, _, rfl⟩ := List.mem_map.mp ha
      show (PyData.tuple [.str _, .str _, .int _, .int _]).depth ≤ 60
      simp [PyData.depth, PyData.depthAll]
  exact ⟨_, by rw [bi_sorted hp hs, sort_map], fun x hx => List.mem_mergeSort.mp hx, List.length_mergeSort _, List.mergeSort_perm _ _, List.pairwise_mergeSort (le := fun a b => PySem.W.dataLe false D.py (lkD a) (lkD b)) (fun a b c => (PySem.W.sortLe_total (PyProof.Rows.listOrd PyProof.Rows.itemOrd) false fun b : Lock => PySem.W.keyToks (lkD b).py).trans a b c) (fun a b => by rw [Bool.or_eq_true]; exact (PySem.W.sortLe_total (PyProof.Rows.listOrd PyProof.Rows.itemOrd) false fun b : Lock => PySem.W.keyToks (lkD b).py).total a b) l⟩
theorem cell1c (b : Cell) (R : Store) (l : List D) : cellL (b :: (R ++ [.lst l])) (R.length + 1) = some l := cell1 (b :: R) l
theorem set1c (b : Cell) (R : Store) (x z : Cell) : (b :: (R ++ [x])).set (R.length + 1) z = b :: (R ++ [z]) := set1 (b :: R) x z
theorem consA (b : Cell) (R l : Store) : (b :: R) ++ l = b :: (R ++ l) := rfl
theorem sd_pure (s : Sys) : (sD s).pure = true := by
  show (true && (true && (true && (true && (D.pureL (s.sup.map .int) && (D.pureL (s.tasks.map tD) && (D.pureL (s.locks.map lkD) && true))))))) = true
  rw [pureL_all fun d hd => by obtain ⟨x, _, rfl⟩ := List.mem_map.mp hd; rfl, pureL_all fun d hd => by obtain ⟨x, _, rfl⟩ := List.mem_map.mp hd; rfl, pureL_all fun d hd => by obtain ⟨x, _, rfl⟩ := List.mem_map.mp hd; rfl]; rfl
theorem w_system {ds : List Int} {a : Int} {R : Store} {many : Nat} {gaps : Int} (hm1 : 1 ≤ many) (hm2 : many ≤ 3) (hg1 : 1 ≤ gaps) (hg2 : gaps ≤ 20) (hR : R.all (Cell.rb (R.length + 1)) = true) (ha : 0 ≤ a) {P : D → Store → Prop} (h : ∀ (s : Sys) (a' : Int), s.Ok → Drawn many gaps s → 0 ≤ a' → P (sD s) (bxc ds a' :: R)) : RPost P ((fnsAt pg wf (n + 3)).call i__law_system [.ref 0, .int many, .int gaps] (bxc ds a :: R)) := by
  have kf : PyData.strOk ("fixed" : Str) = true := by decide +kernel
  rw [call_at rfl]
  refine w_fd rfl ?_
  unfold f__law_system
  walk_at "fr"
  repeat walk_at "w"
  refine w_draw ha (by omega) fun v0 p0 q0 => ?_
  obtain ⟨j, rfl⟩ : ∃ j : Nat, v0 = j := ⟨v0.toNat, by omega⟩
  repeat walk_at "w"
  rw [show ((1 : Int) + (j : Nat)) = ((j + 1 : Nat) : Int) from by omega, cut_to, show ([.str "b", .str "a", .str "c"] : List D) = abc.map .str from rfl, ← List.map_take]
  refine comp_inv (fun l acc S' => ∃ (rest : List Str) (ts : List Task) (a' : Int), l = rest.map .str ∧ acc = ts.map tD ∧ S' = bxc ds a' :: R ∧ 0 ≤ a' ∧ (∀ t ∈ ts, t.Ok ∧ (t.most ≤ 3 ∧ ((t.kind == each) = true ∧ t.off ≤ 20 ∨ (t.kind == each) = false ∧ t.off = 0))) ∧ ts.map (·.nm) ++ rest = abc.take (j + 1)) ?_ ?_ _ _ _ ⟨abc.take (j + 1), [], a + 1, rfl, rfl, rfl, by omega, (fun x hx => by cases hx), rfl⟩
  · rintro x l acc S' ⟨rest, ts, a', e, rfl, rfl, ha', hb, hl⟩
    cases rest with
    | nil => cases e
    | cons nm rest =>
      cases e
      refine ⟨_, rfl, ?_⟩
      repeat walk_at "w"
      refine w_task hg1 hg2 ha' fun t a2 ht hn hk ha2 => ?_
      have hlen : ts.length ≤ 3 := by
        have q := congrArg List.length hl
        rw [List.length_append, List.length_map, List.length_take] at q
        have : abc.length = 3 := rfl
        omega
      refine ⟨by rw [List.length_map]; exact dig_size (by omega), rest, ts ++ [t], a2, rfl, by rw [List.map_append]; rfl, rfl, ha2, fun u hu => ?_, ?_⟩
      · rcases List.mem_append.mp hu with hu | hu
        · exact hb u hu
        · rw [List.mem_singleton] at hu
          subst hu
          exact ⟨ht, hk⟩
      · rw [List.map_append, List.append_assoc, ← hl, List.map_cons, hn]; rfl
  rintro acc S' ⟨rest, ts, a1, e, rfl, rfl, ha1, hts, hl⟩
  have e : rest = [] := List.map_eq_nil_iff.mp e.symm
  subst e
  rw [List.append_nil] at hl
  have hlen : ts.length = j + 1 := by
    have q := congrArg List.length hl
    rw [List.length_map, List.length_take] at q
    have : abc.length = 3 := rfl
    omega
  repeat walk_at "w"
  refine w_draw ha1 (by decide) fun v1 p1 q1 => ?_
  obtain ⟨x, hx, e⟩ := sub_in (S := bxc ds (a1 + 1) :: R) (l := [.int 1, .int 1, .int 1, .int 2]) p1 (by simpa using q1)
  obtain ⟨mach, rfl, hmach⟩ : ∃ mach : Nat, x = .int mach ∧ (mach = 1 ∨ mach = 2) := by
    simp only [List.mem_cons, List.not_mem_nil, or_false] at hx
    rcases hx with rfl | rfl | rfl | rfl
    · exact ⟨1, rfl, .inl rfl⟩
    · exact ⟨1, rfl, .inl rfl⟩
    · exact ⟨1, rfl, .inl rfl⟩
    · exact ⟨2, rfl, .inr rfl⟩
  refine ⟨_, e, ?_⟩
  clear e hx
  repeat walk_at "w"
  refine w_draw (by omega) (by decide) fun v2 p2 q2 => ?_
  obtain ⟨x, hx, e⟩ := sub_in (S := bxc ds (a1 + 1 + 1) :: R) (l := [.str "fixed", .str "nearest", .str "fixed", .str "nearest", .str "oldest", .str "slack"]) p2 (by simpa using q2)
  obtain ⟨rl, rfl, hrr⟩ : ∃ rl : Str, x = .str rl ∧ (rl = "fixed" ∨ rl = "nearest" ∨ rl = "oldest" ∨ rl = "slack") := by
    simp only [List.mem_cons, List.not_mem_nil, or_false] at hx
    rcases hx with rfl | rfl | rfl | rfl | rfl | rfl
    · exact ⟨_, rfl, .inl rfl⟩
    · exact ⟨_, rfl, .inr (.inl rfl)⟩
    · exact ⟨_, rfl, .inl rfl⟩
    · exact ⟨_, rfl, .inr (.inl rfl)⟩
    · exact ⟨_, rfl, .inr (.inr (.inl rfl))⟩
    · exact ⟨_, rfl, .inr (.inr (.inr rfl))⟩
  have hrl : PyData.strOk rl = true ∧ True := by
    refine ⟨?_, trivial⟩
    rcases hrr with e | e | e | e <;> rw [e] <;> decide +kernel
  refine ⟨_, e, ?_⟩
  clear e hx
  repeat walk_at "w"
  refine w_draw (by omega) (by decide) fun v3 p3 q3 => ?_
  repeat walk_at "w"
  refine w_draw (by omega) (by decide) fun v4 p4 q4 => ?_
  obtain ⟨x, hx, e⟩ := sub_in (S := bxc ds (a1 + 1 + 1 + 1 + 1) :: R) (l := [.tup [.int 1], .tup [.int 1], .tup [.int 1], .tup [.int 1, .int 0]]) p4 (by simpa using q4)
  obtain ⟨sp, rfl, hsp⟩ : ∃ sp : List Int, x = .tup (sp.map .int) ∧ (sp = [1] ∨ sp = [1, 0]) := by
    simp only [List.mem_cons, List.not_mem_nil, or_false] at hx
    rcases hx with rfl | rfl | rfl | rfl
    · exact ⟨[1], rfl, .inl rfl⟩
    · exact ⟨[1], rfl, .inl rfl⟩
    · exact ⟨[1], rfl, .inl rfl⟩
    · exact ⟨[1, 0], rfl, .inr rfl⟩
  refine ⟨_, e, ?_⟩
  clear e hx
  generalize hA : a1 + 1 + 1 + 1 + 1 = A
  have hA0 : 0 ≤ A := by omega
  clear hA
  generalize hB : decide ((0 : Int) < v3) = B
  have nd : (ts.map (·.nm)).Nodup := by
    rw [hl]
    have q : abc.Nodup := by decide +kernel
    exact q.sublist (List.take_sublist _ _)
  have hin : ∀ t ∈ ts, t.nm ∈ abc := fun t ht => by
    have q : t.nm ∈ ts.map (·.nm) := List.mem_map_of_mem ht
    rw [hl] at q
    exact List.mem_of_mem_take q
  have nmok : ∀ t ∈ ts, PyData.strOk t.nm = true ∧ t.nm.length ≤ 10 := fun t ht => abc_ok (hin t ht)
  have mk : ∀ lk' : List Lock, (∀ x ∈ lk', x.lk = "l" ∧ x.lo = 0 ∧ ∃ t ∈ ts, t.nm = x.nm ∧ x.hi = t.most ∧ 1 < t.most) → lk'.length ≤ 3 → (lk' ≠ [] → mach = 1 ∧ rl = "fixed" ∧ B = true) → Sys.Ok ⟨mach, rl, B, sp, ts, lk'⟩ := fun lk' h1 h2 h3 =>
    { mach := (by show 1 ≤ mach ∧ mach ≤ 3; omega), rule := hrr, sup := (by show 1 ≤ sp.length ∧ sp.length ≤ 12; rcases hsp with e | e <;> rw [e] <;> decide), bits := (by show ∀ b ∈ sp, b = 0 ∨ b = 1; rcases hsp with e | e <;> rw [e] <;> decide),
      task := fun t ht => (hts t ht).1, few := (by show ts.length ≤ 6; omega), nd := nd, nmOk := nmok,
      lkOk := fun l hl => by
        obtain ⟨e1, e2, t, ht, e3, _⟩ := h1 l hl
        rw [e1, ← e3]
        exact ⟨(nmok t ht).1, (nmok t ht).2, l_ok.1, l_ok.2⟩,
      lock := fun l hl => by
        obtain ⟨e1, e2, t, ht, e3, e4, e5⟩ := h1 l hl
        exact ⟨t, ht, e3, by omega, by omega, by omega⟩,
      fewl := (by show lk'.length ≤ 6; omega), free := h3 }
  have mkS : ∀ lk' : List Lock, (∀ x ∈ lk', x.lk = "l" ∧ x.lo = 0 ∧ ∃ t ∈ ts, t.nm = x.nm ∧ x.hi = t.most ∧ 1 < t.most) → (lk'.map (·.nm)).Nodup → (lk'.Pairwise fun a b => PySem.W.dataLe false D.py (lkD a) (lkD b) = true) → Drawn many gaps ⟨mach, rl, B, sp, ts, lk'⟩ := fun lk' h1 h2 h3 =>
    ⟨by show ts.length ≤ many; omega, by show 0 < ts.length; omega, hin, fun t ht => (hts t ht).2.1, fun l hl => ⟨(h1 l hl).1, (h1 l hl).2.1⟩, hsp, fun l hl => (by obtain ⟨_, _, t, ht, e1, e2, _⟩ := h1 l hl; exact ⟨t, ht, e1, e2⟩), h2, fun t ht => (hts t ht).2.2, h3⟩
  have nilc : ∀ A' : Int, 0 ≤ A' → RPost P (cutR (R.length + 1) (sD ⟨mach, rl, B, sp, ts, []⟩) (bxc ds A' :: (R ++ [.dead]))) := fun A' hA' =>
    w_cutP (S := bxc ds A' :: R) (l := [.dead]) (wf_box hR) (sd_pure _) (h _ _ (mk [] (fun x hx => by cases hx) (by decide) (fun z => absurd rfl z)) (mkS [] (fun x hx => by cases hx) List.nodup_nil .nil) hA')
  repeat walk_at "w"
  refine w_dec (fun hm => ?_) (fun hm => ?_)
  · repeat walk_at "w"
    refine ⟨_, b_eqS hrl.1 kf, ?_⟩
    refine w_bool (fun hr0 => ?_) (fun hr0 => ?_)
    · repeat walk_at "w"
      refine w_bool (fun hb0 => ?_) (fun hb0 => ?_)
      · repeat walk_at "w"
        rw [consA]
        have hz2 : (0 : Int) < 2 := by decide
        with_reducible refine w_draw (n := n + 1) (ds := ds) (a := A) (many := 2) (R := R ++ [.lst []]) hA0 hz2 fun v5 p5 q5 => ?_
        repeat walk_at "w"
        refine w_dec (fun hd => ?_) (fun hd => ?_)
        · repeat walk_at "w"
          refine for_inv (fun l fr S' => ∃ (rest : List Task) (lk : List Lock) (A' : Int) (x : Option D), l = rest.map tD ∧ fr = [some (.ref 0), some (.int many), some (.int gaps), some (.lst ((abc.take (j + 1)).map .str)), some (.tup (ts.map tD)), none, some (.int mach), some (.str rl), some (.bl B), some (.tup (sp.map .int)), some (.ref (R.length + 1)), x] ∧ S' = bxc ds A' :: (R ++ [.lst (lk.map lkD)]) ∧ 0 ≤ A' ∧
            (∀ x ∈ lk, x.lk = "l" ∧ x.lo = 0 ∧ ∃ t ∈ ts, t.nm = x.nm ∧ x.hi = t.most ∧ 1 < t.most) ∧ lk.length + rest.length ≤ 3 ∧ (lk.map (·.nm) ++ rest.map (·.nm)).Nodup ∧ ∀ t ∈ rest, t ∈ ts) ?_ ?_ _ _ _ ⟨ts, [], A + 1, none, rfl, rfl, rfl, by omega, (fun x hx => by cases hx), by simp; omega, nd, fun t ht => ht⟩
          · rintro x l fr S' ⟨rest, lk, A', y, e, rfl, rfl, hA', hlk, hn, hnd, hr⟩
            cases rest with
            | nil => cases e
            | cons t rest =>
              cases e
              rw [List.length_cons] at hn
              have hnd2 : (lk.map (·.nm) ++ rest.map (·.nm)).Nodup := hnd.sublist (List.Sublist.append_left (List.sublist_cons_self _ _) _)
              refine ⟨_, rfl, ?_⟩
              repeat walk_at "w"
              refine w_dec (fun h1 => ?_) (fun h1 => ?_)
              · repeat walk_at "w"
                have hz3 : (0 : Int) < 3 := by decide
                with_reducible refine w_draw (n := n + 1) (ds := ds) (a := A') (many := 3) (R := R ++ [.lst (lk.map lkD)]) hA' hz3 fun v6 p6 q6 => ?_
                repeat walk_at "w"
                refine w_dec (fun h2 => ?_) (fun h2 => ?_)
                · repeat walk_at "w"
                  refine w_app (w_var rfl ⟨R.length + 1, lk.map lkD, rfl, cell1c _ _ _, ?_⟩)
                  repeat walk_at "w"
                  refine ⟨lk.map lkD, cell1c _ _ _, by rw [List.length_map]; exact dig_size (by omega), ?_⟩
                  rw [set1c]
                  repeat walk_at "w"
                  refine ⟨rest, lk ++ [⟨t.nm, "l", 0, t.most⟩], A' + 1, _, rfl, rfl, ?_, by omega, fun z hz => ?_, by rw [List.length_append, List.length_singleton]; omega, by rw [List.map_append, List.append_assoc]; exact hnd, fun u hu => hr u (List.mem_cons_of_mem _ hu)⟩
                  · rw [List.map_append]; rfl
                  · rcases List.mem_append.mp hz with hz | hz
                    · exact hlk z hz
                    · rw [List.mem_singleton] at hz
                      subst hz
                      exact ⟨rfl, rfl, t, hr t List.mem_cons_self, rfl, rfl, h1⟩
                · repeat walk_at "w"
                  exact ⟨rest, lk, A' + 1, _, rfl, rfl, rfl, by omega, hlk, by omega, hnd2, fun u hu => hr u (List.mem_cons_of_mem _ hu)⟩
              · repeat walk_at "w"
                exact ⟨rest, lk, A', _, rfl, rfl, rfl, by omega, hlk, by omega, hnd2, fun u hu => hr u (List.mem_cons_of_mem _ hu)⟩
          · rintro fr S' ⟨rest, lk, A', y, e, rfl, rfl, hA', hlk, hn, hnd, hr⟩
            refine s_nilW ?_
            refine s_consW (s_fzW (n := R.length + 1) rfl (cell1c _ _ _) ?_)
            rw [set1c]
            repeat walk_at "w"
            obtain ⟨lk', e2, hsub, hln, hperm, hsrt⟩ := lk_sort (S := bxc ds A' :: (R ++ [.dead])) lk
            refine ⟨_, e2, ?_⟩
            repeat walk_at "w"
            have hl' : ∀ x ∈ lk', x.lk = "l" ∧ x.lo = 0 ∧ ∃ t ∈ ts, t.nm = x.nm ∧ x.hi = t.most ∧ 1 < t.most := fun x hx => hlk x (hsub x hx)
            refine w_cutP (S := bxc ds A' :: R) (l := [.dead]) (wf_box hR) (sd_pure ⟨mach, rl, B, sp, ts, lk'⟩) (h _ _ (mk lk' hl' (by rw [hln]; omega) fun _ => ⟨?_, by simpa using hr0, hb0⟩) (mkS lk' hl' ((hperm.map _).nodup_iff.mpr ((List.nodup_append.mp hnd).1)) hsrt) (by omega))
            omega
        · refine s_nilW ?_
          refine s_consW (s_fzW (n := R.length + 1) rfl (cell1c _ _ _) ?_)
          rw [set1c]
          repeat walk_at "w"
          rw [show sortD [] = [] from by simp [sortD]]
          exact nilc (A + 1) (by omega)
      · repeat walk_at "w"
        rw [consA]
        refine s_fzW (n := R.length + 1) rfl (cell1c _ _ _) ?_
        rw [set1c]
        repeat walk_at "w"
        rw [show sortD [] = [] from by simp [sortD]]
        exact nilc A hA0
    · repeat walk_at "w"
      rw [consA]
      refine s_fzW (n := R.length + 1) rfl (cell1c _ _ _) ?_
      rw [set1c]
      repeat walk_at "w"
      rw [show sortD [] = [] from by simp [sortD]]
      exact nilc A hA0
  · repeat walk_at "w"
    rw [consA]
    refine s_fzW (n := R.length + 1) rfl (cell1c _ _ _) ?_
    rw [set1c]
    repeat walk_at "w"
    rw [show sortD [] = [] from by simp [sortD]]
    exact nilc A hA0

end k01

namespace k01
variable {wf n : Nat} {S : Store} {s : Sys}
theorem c_is_whole {k : Nat} {d : D} (h : Th k d) : (fnsAt pg wf (n + 1)).call i_is_whole [d] S = .ok (.bl (isI d)) S := by
  rw [call_at rfl]
  refine RPost.eq ?_
  refine w_fd rfl ?_
  unfold f_is_whole
  walk_at "fr"
  cases h with
  | int i => (repeat walk_at "w"); exact ⟨rfl, rfl⟩
  | bl b => (repeat walk_at "w"); exact ⟨rfl, rfl⟩
  | non => (repeat walk_at "w"); exact ⟨rfl, rfl⟩
  | str h hl => (repeat walk_at "w"); exact ⟨rfl, rfl⟩
  | tup h hl => (repeat walk_at "w"); exact ⟨rfl, rfl⟩
  | lst h hl => (repeat walk_at "w"); exact ⟨rfl, rfl⟩
theorem c_betw {k : Nat} {d : D} (h : Th k d) (lo hi : Int) : (fnsAt pg wf (n + 2)).call i_is_between [d, .int lo, .int hi] S = .ok (.bl (betw d lo hi)) S := by
  rw [call_at rfl]
  refine RPost.eq ?_
  refine w_fd rfl ?_
  unfold f_is_between
  walk_at "fr"
  refine s_consW (s_retW (w_andW (w_call (w_cons (w_var rfl (w_nil (w_of (c_is_whole h) ⟨_, rfl, ?_⟩)))))))
  cases h with
  | int i =>
    refine w_ift ?_
    repeat walk_at "w"
    refine w_dec (fun h => ?_) (fun h => ?_)
    · repeat walk_at "w"
      exact ⟨by show D.bl _ = .bl (decide (lo ≤ i) && decide (i ≤ hi)); rw [decide_eq_true h]; rfl, rfl⟩
    · repeat walk_at "w"
      exact ⟨by show D.bl _ = .bl (decide (lo ≤ i) && decide (i ≤ hi)); rw [decide_eq_false h]; rfl, rfl⟩
  | bl b => exact w_iff' (w_ret ⟨rfl, rfl⟩ rfl)
  | non => exact w_iff' (w_ret ⟨rfl, rfl⟩ rfl)
  | str h hl => exact w_iff' (w_ret ⟨rfl, rfl⟩ rfl)
  | tup h hl => exact w_iff' (w_ret ⟨rfl, rfl⟩ rfl)
  | lst h hl => exact w_iff' (w_ret ⟨rfl, rfl⟩ rfl)
theorem c_lwhole {k : Nat} {d : D} (h : Th k d) (lo hi : Int) : (fnsAt pg wf (n + 1)).call i__law_whole [d, .int lo, .int hi] S = .ok (.bl (betw d lo hi)) S := by
  rw [call_at rfl]
  refine RPost.eq ?_
  refine w_fd rfl ?_
  unfold f__law_whole
  walk_at "fr"
  cases h with
  | int i =>
    repeat walk_at "w"
    refine w_bool (fun h => ?_) (fun h => ?_)
    · repeat walk_at "w"
      have h := of_decide_eq_true h
      exact ⟨by show D.bl _ = .bl (decide (lo ≤ i) && decide (i ≤ hi)); rw [decide_eq_true h]; rfl, rfl⟩
    · repeat walk_at "w"
      have h := of_decide_eq_false h
      exact ⟨by show D.bl _ = .bl (decide (lo ≤ i) && decide (i ≤ hi)); rw [decide_eq_false h]; rfl, rfl⟩
  | bl b => (repeat walk_at "w"); exact ⟨rfl, rfl⟩
  | non => (repeat walk_at "w"); exact ⟨rfl, rfl⟩
  | str h hl => (repeat walk_at "w"); exact ⟨rfl, rfl⟩
  | tup h hl => (repeat walk_at "w"); exact ⟨rfl, rfl⟩
  | lst h hl => (repeat walk_at "w"); exact ⟨rfl, rfl⟩
theorem c_lstr {k : Nat} {d : D} (h : Th k d) {z : Str} (hz : PyData.strOk z = true) : (fnsAt pg wf (n + 1)).call i__law_like [d, .str z] S = .ok (.bl (strEq d z)) S := by
  rw [call_at rfl]
  refine RPost.eq ?_
  refine w_fd rfl ?_
  unfold f__law_like
  walk_at "fr"
  repeat walk_at "w"
  cases h with
  | int i => (repeat walk_at "w"); exact ⟨rfl, rfl⟩
  | bl b => (repeat walk_at "w"); exact ⟨rfl, rfl⟩
  | non => (repeat walk_at "w"); exact ⟨rfl, rfl⟩
  | str h hl =>
    repeat walk_at "w"
    refine ⟨_, me_join1 hl, ?_⟩
    repeat walk_at "w"
    refine ⟨_, b_eqS h hz, ?_⟩
    repeat walk_at "w"
    exact ⟨rfl, rfl⟩
  | tup h hl => (repeat walk_at "w"); exact ⟨rfl, rfl⟩
  | lst h hl => (repeat walk_at "w"); exact ⟨rfl, rfl⟩

end k01

namespace k01
variable {wf n : Nat} {S : Store} {s : Sys}
theorem strOk_one {x : Str} (h : PyData.strOk x = true) {c : Nat} (hc : c ∈ x.cps.toList) : PyData.strOk ⟨#[c]⟩ = true := by
  unfold PyData.strOk at h ⊢
  rw [← Array.all_toList, List.all_eq_true] at h ⊢
  intro y hy
  have hy : y ∈ [c] := hy
  rw [List.mem_singleton] at hy
  subst hy
  exact h y hc
theorem in_text {c : Nat} {z : Str} : cmpD .In S (.str ⟨#[c]⟩) (.str z) = some (decide (c ∈ z.cps.toList)) := rfl
theorem notin_text {c : Nat} {z : Str} : cmpD .NotIn S (.str ⟨#[c]⟩) (.str z) = some (!decide (c ∈ z.cps.toList)) := rfl
theorem len_text {x : Str} (h : x.length ≤ 1000) : biD .len S [.str x] = some (.int (x.length : Int)) := by
  show (if x.length ≤ sizeLine then some (x.length : Int) else none).map D.int = _
  rw [if_pos (small_ok h)]; rfl
theorem sub_text {x : Str} (h : x.length ≤ 1000) {c0 : Nat} {rest : List Nat} (ec : x.cps.toList = c0 :: rest) : subD S (.str x) (.int 0) = some (.str ⟨#[c0]⟩) := by
  show (if x.length ≤ sizeLine then (atI x.cps.toList 0).map (fun c => D.str ⟨#[c]⟩) else none) = _
  rw [if_pos (small_ok h), ec, show atI (c0 :: rest) (0 : Int) = some c0 from atI_nat (j := 0) rfl]; rfl
theorem text_cons {x : Str} (h : 1 ≤ (x.length : Int)) : ∃ c0 rest, x.cps.toList = c0 :: rest := by
  cases e : x.cps.toList with
  | nil =>
    have := congrArg List.length e
    rw [Array.length_toList] at this
    have this : x.length = 0 := this
    omega
  | cons c r => exact ⟨c, r, rfl⟩
theorem all_bools {l : List Bool} : biD .all S [.lst (l.map .bl)] = some (.bl (l.all id)) := by
  show (boolsD (l.map .bl)).map (fun bs => D.bl (bs.all id)) = _
  rw [bools_of]; rfl
theorem all_map {α : Type} {l : List α} {f : α → Bool} : biD .all S [.lst (l.map fun a => .bl (f a))] = some (.bl (l.all f)) := by
  have := all_bools (S := S) (l := l.map f)
  rw [List.map_map, List.all_map] at this
  exact this
theorem c_form {x : Str} (h1 : PyData.strOk x = true) (h2 : x.length ≤ 1000) : (fnsAt pg wf (n + 2)).call i_has_word_form [.str x] S = .ok (.bl (formB x)) S := by
  rw [call_at rfl]
  refine RPost.eq ?_
  refine w_fd rfl ?_
  unfold f_has_word_form
  walk_at "fr"
  repeat walk_at "w"
  refine ⟨_, len_text h2, ?_⟩
  refine ⟨decide (1 ≤ (x.length : Int)), rfl, ?_⟩
  unfold formB
  refine w_dec (fun hp => ?_) (fun hp => ?_)
  rotate_left
  · rw [decide_eq_false hp]
    refine w_nif ?_
    repeat walk_at "w"
    exact ⟨rfl, rfl⟩
  rw [decide_eq_true hp]
  refine w_glob (d := .int 10) rfl ⟨decide ((x.length : Int) ≤ 10), rfl, ?_⟩
  refine w_decn (fun e => ?_) (fun e => ?_)
  · rw [decide_eq_false e]
    refine w_ift ?_
    repeat walk_at "w"
    exact ⟨rfl, rfl⟩
  rw [decide_eq_true e]
  obtain ⟨c0, rest, ec⟩ := text_cons hp
  have hh : headB x = decide (c0 ∈ letS.cps.toList) := by unfold headB; rw [ec]
  refine t_cmpW (w_sub (w_var rfl (w_int ⟨_, sub_text h2 ec, w_glob (d := .str letS) rfl ⟨_, notin_text, ?_⟩⟩)))
  rw [hh]
  refine w_decn (fun e => ?_) (fun e => ?_)
  · rw [decide_eq_false e]
    repeat walk_at "w"
    exact ⟨rfl, rfl⟩
  · have e : c0 ∈ letS.cps.toList := e
    rw [decide_eq_true e]
    refine s_nilW (s_consW (s_retW (w_bi (w_cons (w_comp (w_var rfl ⟨_, rfl, ?_⟩))))))
    refine w_comp_pure (fun c : Nat => D.str ⟨#[c]⟩) (fun _ => true) (fun c => .bl (decide (c ∈ letS.cps.toList) || decide (c ∈ digS.cps.toList))) x.cps.toList rfl (small_ok (by rw [Array.length_toList]; exact h2)) (fun c hc => ⟨_, rfl, rfl, fun _ => of_w ?_⟩) ?_
    · refine w_orW (w_cmp (w_var rfl (w_glob (d := .str letS) rfl ⟨_, in_text, ⟨_, rfl, ?_⟩⟩)))
      refine w_dec (fun q => ?_) (fun q => ?_)
      · have q : c ∈ letS.cps.toList := q
        rw [decide_eq_true q]
        exact ⟨rfl, rfl⟩
      · have q : ¬ c ∈ letS.cps.toList := q
        rw [decide_eq_false q]
        exact w_cmp (w_var rfl (w_glob (d := .str digS) rfl ⟨_, in_text, rfl, rfl⟩))
    · rw [filter_all]
      refine w_nil ⟨_, all_map, ?_⟩
      exact w_ret ⟨rfl, rfl⟩ rfl
theorem closed_ok : ∀ y ∈ closedL, PyData.strOk y = true := by decide +kernel
theorem c_is_name {k : Nat} {d : D} (h : Th k d) : (fnsAt pg wf (n + 3)).call i_is_name [d] S = .ok (.bl (nameB d)) S := by
  have no : (∀ x, d ≠ .str x) → (fnsAt pg wf (n + 3)).call i_is_name [d] S = .ok (.bl false) S := fun hne => by
    have hf : (fnsAt pg wf (n + 2)).call i_has_word_form [d] S = .ok (.bl false) S := by
      rw [call_at rfl]
      refine RPost.eq ?_
      refine w_fd rfl ?_
      unfold f_has_word_form
      walk_at "fr"
      cases h with
      | str => exact absurd rfl (hne _)
      | _ =>
        repeat walk_at "w"
        exact ⟨rfl, rfl⟩
    rw [call_at rfl]
    refine RPost.eq ?_
    refine w_fd rfl ?_
    unfold f_is_name
    walk_at "fr"
    refine s_consW (s_retW (w_andW (w_call (w_cons (w_var rfl (w_nil (w_of hf ⟨false, rfl, w_iff' ?_⟩)))))))
    exact w_ret ⟨rfl, rfl⟩ rfl
  cases h with
  | str h1 h2 =>
    rename_i x
    rw [call_at rfl]
    refine RPost.eq ?_
    refine w_fd rfl ?_
    unfold f_is_name
    walk_at "fr"
    refine s_consW (s_retW (w_andW (w_call (w_cons (w_var rfl (w_nil (w_of (c_form h1 h2) ⟨_, rfl, ?_⟩)))))))
    show if formB x = true then _ else _
    refine w_bool (fun e => ?_) (fun e => ?_)
    · refine w_cmp (w_var rfl (w_glob (d := .tup (closedL.map .str)) rfl ⟨_, notin_strsD (k := 0) (l := closedL) (.str h1 h2) (by decide) closed_ok, ?_⟩))
      refine w_ret ⟨congrArg D.bl ?_, rfl⟩ rfl
      show (!decide (x ∈ closedL)) = (formB x && !decide (x ∈ closedL))
      rw [e, Bool.true_and]
    · refine w_ret ⟨congrArg D.bl ?_, rfl⟩ rfl
      show formB x = (formB x && !decide (x ∈ closedL))
      rw [e]; rfl
  | int i => exact no (fun _ e => by cases e)
  | bl i => exact no (fun _ e => by cases e)
  | non => exact no (fun _ e => by cases e)
  | tup _ _ => exact no (fun _ e => by cases e)
  | lst _ _ => exact no (fun _ e => by cases e)
theorem signs_app (c : Nat) : decide (c ∈ ("abcdefghijklmnopqrstuvwxyz0123456789" : Str).cps.toList) = (decide (c ∈ letS.cps.toList) || decide (c ∈ digS.cps.toList)) := by
  have e : ("abcdefghijklmnopqrstuvwxyz0123456789" : Str).cps.toList = letS.cps.toList ++ digS.cps.toList := by decide +kernel
  rw [e, ← Bool.decide_or]
  exact decide_eq_decide.mpr List.mem_append
theorem c_law_word {k : Nat} {d : D} (h : Th k d) : (fnsAt pg wf (n + 1)).call i__law_is_word [d] S = .ok (.bl (nameB d)) S := by
  rw [call_at rfl]
  refine RPost.eq ?_
  refine w_fd rfl ?_
  unfold f__law_is_word
  walk_at "fr"
  refine s_consW (s_asgv ?_)
  repeat walk_at "w"
  cases h with
  | str h1 h2 =>
    rename_i x
    repeat walk_at "w"
    refine ⟨_, len_text h2, ?_⟩
    refine ⟨decide (1 ≤ (x.length : Int)), rfl, ?_⟩
    show if decide (1 ≤ (x.length : Int)) = true then _ else _
    have hw : nameB (.str x) = (((decide (1 ≤ (x.length : Int)) && decide ((x.length : Int) ≤ 10)) && (headB x && signsB x)) && !decide (x ∈ closedL)) := rfl
    rw [hw]
    refine w_dec (fun hp => ?_) (fun hp => ?_)
    rotate_left
    · rw [decide_eq_false hp]
      refine w_nif ?_
      repeat walk_at "w"
      exact ⟨rfl, rfl⟩
    rw [decide_eq_true hp]
    refine w_int ⟨decide ((x.length : Int) ≤ 10), rfl, ?_⟩
    refine w_decn (fun e => ?_) (fun e => ?_)
    · rw [decide_eq_false e]
      refine w_ift ?_
      repeat walk_at "w"
      exact ⟨rfl, rfl⟩
    rw [decide_eq_true e]
    refine t_orW (t_cmpW (w_var rfl (w_var rfl ⟨_, b_inS (l := closedL) h1 closed_ok, ?_⟩)))
    refine w_dec (fun e => ?_) (fun e => ?_)
    · rw [decide_eq_true e]
      refine w_ift ?_
      repeat walk_at "w"
      exact ⟨by simp, rfl⟩
    rw [decide_eq_false e]
    obtain ⟨c0, rest, ec⟩ := text_cons hp
    have hh : headB x = decide (c0 ∈ letS.cps.toList) := by unfold headB; rw [ec]
    refine t_cmpW (w_sub (w_var rfl (w_int ⟨_, sub_text h2 ec, w_str ⟨_, notin_text, ?_⟩⟩)))
    rw [hh]
    refine w_decn (fun e => ?_) (fun e => ?_)
    · have e : ¬ c0 ∈ letS.cps.toList := e
      rw [decide_eq_false e]
      repeat walk_at "w"
      exact ⟨rfl, rfl⟩
    · have e : c0 ∈ letS.cps.toList := e
      rw [decide_eq_true e]
      refine s_nilW (s_consW (s_retW (w_cmp (w_comp (w_var rfl ⟨_, rfl, ?_⟩)))))
      refine w_comp_pure (fun c : Nat => D.str ⟨#[c]⟩) (fun c => !(decide (c ∈ letS.cps.toList) || decide (c ∈ digS.cps.toList))) (fun c => D.str ⟨#[c]⟩) x.cps.toList rfl (small_ok (by rw [Array.length_toList]; exact h2)) (fun c hc => ⟨_, rfl, of_w ?_, fun _ => rfl⟩) ?_
      · exact ts_oneW (t_cmpW (w_var rfl (w_str ⟨_, notin_text, by rw [signs_app], rfl⟩)))
      · have hcm : Cmp 1 (.lst ((x.cps.toList.filter fun c => !(decide (c ∈ letS.cps.toList) || decide (c ∈ digS.cps.toList))).map fun c => D.str ⟨#[c]⟩)) := .lst fun y hy => by
          obtain ⟨c, hc, rfl⟩ := List.mem_map.mp hy
          exact .str (strOk_one h1 (List.mem_filter.mp hc).1)
        refine w_lst (w_nil ⟨small_ok (by show 0 ≤ 1000; decide), ⟨_, b_eqN hcm (by decide), ?_⟩⟩)
        refine w_ret ⟨congrArg D.bl ?_, rfl⟩ rfl
        rw [List.isEmpty_map]
        have : ∀ l : List Nat, (l.filter fun c => !(decide (c ∈ letS.cps.toList) || decide (c ∈ digS.cps.toList))).isEmpty = l.all fun c => decide (c ∈ letS.cps.toList) || decide (c ∈ digS.cps.toList) := by
          intro l
          induction l with
          | nil => rfl
          | cons z l ih =>
            cases hb : decide (z ∈ letS.cps.toList) || decide (z ∈ digS.cps.toList) with
            | true => rw [List.filter_cons_of_neg (by rw [hb]; decide), ih, List.all_cons, hb]; rfl
            | false => rw [List.filter_cons_of_pos (by rw [hb]; decide), List.all_cons, hb]; rfl
        rw [this]
        show signsB x = _
        simp
  | _ =>
    repeat walk_at "w"
    exact ⟨rfl, rfl⟩

end k01

namespace k01
variable {wf n : Nat} {S : Store} {s : Sys}
theorem each_any : ∀ x ∈ (["each", "any"] : List Str), PyData.strOk x = true := by decide +kernel
theorem rules_okL : ∀ x ∈ rulesL, PyData.strOk x = true := by decide +kernel
theorem b_eqTh {k : Nat} {d : D} (h : Th k d) (hk : k ≤ 60) {z : Str} (hz : PyData.strOk z = true) : cmpD .Eq S d (.str z) = some (strEq d z) := by
  have pk : peek S d = d := by cases h <;> rfl
  rw [eq_of_cmp h.cmp (Cmp.str hz) (by omega) (by decide) pk rfl]
  show some (PyData.eqv d.py (D.str z).py) = _
  rw [eqv_strD h]
theorem seven {l : List D} (h : (l.length : Int) = 7) : ∃ a b c d e f g, l = [a, b, c, d, e, f, g] := by
  have h : l.length = 7 := by omega
  match l, h with
  | [a, b, c, d, e, f, g], _ => exact ⟨a, b, c, d, e, f, g, rfl⟩
theorem intD_of {d : D} {lo hi : Int} (h : betw d lo hi = true) : d = .int (intD d) := by
  obtain ⟨i, rfl, _⟩ := betw_int h
  rfl
theorem c_is_task {k : Nat} {d : D} (h : Th k d) (hk : k ≤ 20) : (fnsAt pg wf (n + 4)).call i_is_task [d] S = .ok (.bl (taskB d)) S := by
  rw [call_at rfl]
  refine RPost.eq ?_
  refine w_fd rfl ?_
  unfold f_is_task
  walk_at "fr"
  cases h with
  | tup hx hl =>
    rename_i k l
    repeat walk_at "w"
    refine w_decn (fun hne => ?_) (fun h7 => ?_)
    · refine w_ift ?_
      repeat walk_at "w"
      exact ⟨congrArg D.bl (taskB_len hne).symm, rfl⟩
    obtain ⟨nm, kind, off, gap, due, least, most, rfl⟩ := seven h7
    have t1 := hx nm (by simp)
    have t2 := hx kind (by simp)
    have t3 := hx off (by simp)
    have t4 := hx gap (by simp)
    have t5 := hx due (by simp)
    have t6 := hx least (by simp)
    have t7 := hx most (by simp)
    have et : taskB (.tup [nm, kind, off, gap, due, least, most]) = ((nameB nm && strIn kind ["each", "any"]) && ((betw off 0 (if strEq kind "each" then 20 else 0) && betw gap 1 20) && (betw due 1 (intD gap) && (betw most 1 (intD due) && betw least 1 (intD most))))) := rfl
    rw [et]
    repeat walk_at "w"
    refine w_of (c_is_name (n := n) t1) ?_
    refine ⟨_, rfl, ?_⟩
    cases e1 : nameB nm with
    | false =>
      repeat walk_at "w"
      exact ⟨rfl, rfl⟩
    | true =>
    repeat walk_at "w"
    refine ⟨_, notin_strsD t2 (by omega) each_any, ?_⟩
    cases e2 : strIn kind ["each", "any"] with
    | false =>
      repeat walk_at "w"
      exact ⟨rfl, rfl⟩
    | true =>
    repeat walk_at "w"
    refine ⟨_, b_eqTh t2 (by omega) each_ok, ?_⟩
    refine w_bool (fun e3 => ?_) (fun e3 => ?_)
    · rw [e3, if_pos rfl]
      repeat walk_at "w"
      refine w_of (c_betw (n := n + 1) t3 0 20) ⟨_, rfl, ?_⟩
      cases e4 : betw off 0 20 with
      | false =>
        repeat walk_at "w"
        exact ⟨rfl, rfl⟩
      | true =>
      repeat walk_at "w"
      refine w_of (c_betw (n := n + 1) t4 1 20) ⟨_, rfl, ?_⟩
      cases e5 : betw gap 1 20 with
      | false =>
        repeat walk_at "w"
        exact ⟨rfl, rfl⟩
      | true =>
      have g4 := intD_of e5
      generalize intD gap = gi at g4 ⊢
      subst g4
      repeat walk_at "w"
      refine w_of (c_betw (n := n + 1) t5 1 gi) ⟨_, rfl, ?_⟩
      cases e6 : betw due 1 gi with
      | false =>
        repeat walk_at "w"
        exact ⟨rfl, rfl⟩
      | true =>
      have g5 := intD_of e6
      generalize intD due = di at g5 ⊢
      subst g5
      repeat walk_at "w"
      refine w_of (c_betw (n := n + 1) t7 1 di) ⟨_, rfl, ?_⟩
      cases e7 : betw most 1 di with
      | false =>
        repeat walk_at "w"
        exact ⟨rfl, rfl⟩
      | true =>
      have g7 := intD_of e7
      generalize intD most = mi at g7 ⊢
      subst g7
      repeat walk_at "w"
      refine w_of (c_betw (n := n + 1) t6 1 mi) ?_
      repeat walk_at "w"
      exact ⟨rfl, rfl⟩
    · rw [e3, if_neg (by decide)]
      repeat walk_at "w"
      refine w_of (c_betw (n := n + 1) t3 0 0) ⟨_, rfl, ?_⟩
      cases e4 : betw off 0 0 with
      | false =>
        repeat walk_at "w"
        exact ⟨rfl, rfl⟩
      | true =>
      repeat walk_at "w"
      refine w_of (c_betw (n := n + 1) t4 1 20) ⟨_, rfl, ?_⟩
      cases e5 : betw gap 1 20 with
      | false =>
        repeat walk_at "w"
        exact ⟨rfl, rfl⟩
      | true =>
      have g4 := intD_of e5
      generalize intD gap = gi at g4 ⊢
      subst g4
      repeat walk_at "w"
      refine w_of (c_betw (n := n + 1) t5 1 gi) ⟨_, rfl, ?_⟩
      cases e6 : betw due 1 gi with
      | false =>
        repeat walk_at "w"
        exact ⟨rfl, rfl⟩
      | true =>
      have g5 := intD_of e6
      generalize intD due = di at g5 ⊢
      subst g5
      repeat walk_at "w"
      refine w_of (c_betw (n := n + 1) t7 1 di) ⟨_, rfl, ?_⟩
      cases e7 : betw most 1 di with
      | false =>
        repeat walk_at "w"
        exact ⟨rfl, rfl⟩
      | true =>
      have g7 := intD_of e7
      generalize intD most = mi at g7 ⊢
      subst g7
      repeat walk_at "w"
      refine w_of (c_betw (n := n + 1) t6 1 mi) ?_
      repeat walk_at "w"
      exact ⟨rfl, rfl⟩
  | _ =>
    repeat walk_at "w"
    exact ⟨rfl, rfl⟩

end k01

namespace k01
variable {wf n : Nat} {S : Store} {s : Sys}
def strQ : D → Bool
  | .str _ => true
  | _ => false
def tupQ : D → Bool
  | .tup _ => true
  | _ => false
theorem isi_str {k : Nat} {d : D} (h : Th k d) : isiD S .str d = some (strQ d) := by cases h <;> rfl
theorem isi_bl {k : Nat} {d : D} (h : Th k d) : isiD S .bool d = some (isBlD d) := by cases h <;> rfl
theorem isi_tupQ {k : Nat} {d : D} (h : Th k d) : isiD S .tuple d = some (tupQ d) := by cases h <;> rfl
theorem strIn_strQ {d : D} {l : List Str} (h : strQ d = false) : strIn d l = false := by
  cases d with
  | str x => cases h
  | _ => rfl
theorem c_law_task {k : Nat} {d : D} (h : Th k d) (hk : k ≤ 20) : (fnsAt pg wf (n + 4)).call i__law_is_task [d] S = .ok (.bl (taskB d)) S := by
  rw [call_at rfl]
  refine RPost.eq ?_
  refine w_fd rfl ?_
  unfold f__law_is_task
  walk_at "fr"
  cases h with
  | tup hx hl =>
    rename_i k l
    repeat walk_at "w"
    refine w_decn (fun hne => ?_) (fun h7 => ?_)
    · refine w_ift ?_
      repeat walk_at "w"
      exact ⟨congrArg D.bl (taskB_len hne).symm, rfl⟩
    obtain ⟨nm, kind, off, gap, due, least, most, rfl⟩ := seven h7
    have t1 := hx nm (by simp)
    have t2 := hx kind (by simp)
    have t3 := hx off (by simp)
    have t4 := hx gap (by simp)
    have t5 := hx due (by simp)
    have t6 := hx least (by simp)
    have t7 := hx most (by simp)
    have et : taskB (.tup [nm, kind, off, gap, due, least, most]) = ((nameB nm && strIn kind ["each", "any"]) && ((betw off 0 (if strEq kind "each" then 20 else 0) && betw gap 1 20) && (betw due 1 (intD gap) && (betw most 1 (intD due) && betw least 1 (intD most))))) := rfl
    rw [et]
    repeat walk_at "w"
    refine w_of (c_law_word (n := n + 2) t1) ⟨_, rfl, ?_⟩
    cases e1 : nameB nm with
    | false =>
      repeat walk_at "w"
      exact ⟨rfl, rfl⟩
    | true =>
    repeat walk_at "w"
    refine ⟨_, isi_str t2, ?_⟩
    cases e0 : strQ kind with
    | false =>
      rw [strIn_strQ e0]
      repeat walk_at "w"
      exact ⟨rfl, rfl⟩
    | true =>
    repeat walk_at "w"
    refine ⟨_, notin_strsD (l := ["each", "any"]) t2 (by omega) each_any, ?_⟩
    cases e2 : strIn kind ["each", "any"] with
    | false =>
      repeat walk_at "w"
      exact ⟨rfl, rfl⟩
    | true =>
    repeat walk_at "w"
    refine ⟨_, b_eqTh t2 (by omega) each_ok, ?_⟩
    refine w_bool (fun e3 => ?_) (fun e3 => ?_)
    · rw [e3, if_pos rfl]
      repeat walk_at "w"
      refine w_of (c_lwhole (n := n + 2) t3 0 20) ⟨_, rfl, ?_⟩
      cases e4 : betw off 0 20 with
      | false =>
        repeat walk_at "w"
        exact ⟨rfl, rfl⟩
      | true =>
      repeat walk_at "w"
      refine w_of (c_lwhole (n := n + 2) t4 1 20) ⟨_, rfl, ?_⟩
      cases e5 : betw gap 1 20 with
      | false =>
        repeat walk_at "w"
        exact ⟨rfl, rfl⟩
      | true =>
      have g4 := intD_of e5
      generalize intD gap = gi at g4 ⊢
      subst g4
      repeat walk_at "w"
      refine w_of (c_lwhole (n := n + 2) t5 1 gi) ⟨_, rfl, ?_⟩
      cases e6 : betw due 1 gi with
      | false =>
        repeat walk_at "w"
        exact ⟨rfl, rfl⟩
      | true =>
      have g5 := intD_of e6
      generalize intD due = di at g5 ⊢
      subst g5
      repeat walk_at "w"
      refine w_of (c_lwhole (n := n + 2) t7 1 di) ⟨_, rfl, ?_⟩
      cases e7 : betw most 1 di with
      | false =>
        repeat walk_at "w"
        exact ⟨rfl, rfl⟩
      | true =>
      have g7 := intD_of e7
      generalize intD most = mi at g7 ⊢
      subst g7
      repeat walk_at "w"
      refine w_of (c_lwhole (n := n + 2) t6 1 mi) ?_
      repeat walk_at "w"
      exact ⟨rfl, rfl⟩
    · rw [e3, if_neg (by decide)]
      repeat walk_at "w"
      refine w_of (c_lwhole (n := n + 2) t3 0 0) ⟨_, rfl, ?_⟩
      cases e4 : betw off 0 0 with
      | false =>
        repeat walk_at "w"
        exact ⟨rfl, rfl⟩
      | true =>
      repeat walk_at "w"
      refine w_of (c_lwhole (n := n + 2) t4 1 20) ⟨_, rfl, ?_⟩
      cases e5 : betw gap 1 20 with
      | false =>
        repeat walk_at "w"
        exact ⟨rfl, rfl⟩
      | true =>
      have g4 := intD_of e5
      generalize intD gap = gi at g4 ⊢
      subst g4
      repeat walk_at "w"
      refine w_of (c_lwhole (n := n + 2) t5 1 gi) ⟨_, rfl, ?_⟩
      cases e6 : betw due 1 gi with
      | false =>
        repeat walk_at "w"
        exact ⟨rfl, rfl⟩
      | true =>
      have g5 := intD_of e6
      generalize intD due = di at g5 ⊢
      subst g5
      repeat walk_at "w"
      refine w_of (c_lwhole (n := n + 2) t7 1 di) ⟨_, rfl, ?_⟩
      cases e7 : betw most 1 di with
      | false =>
        repeat walk_at "w"
        exact ⟨rfl, rfl⟩
      | true =>
      have g7 := intD_of e7
      generalize intD most = mi at g7 ⊢
      subst g7
      repeat walk_at "w"
      refine w_of (c_lwhole (n := n + 2) t6 1 mi) ?_
      repeat walk_at "w"
      exact ⟨rfl, rfl⟩
  | _ =>
    repeat walk_at "w"
    exact ⟨rfl, rfl⟩
/-! the supply -/
theorem one_in {k : Nat} {l : List D} (h : ∀ x ∈ l, Th k x) (hk : k ≤ 20) : cmpD .In S (.int 1) (.tup l) = some (l.any oneB) := by
  rw [in_tupD (Cmp.int 1) (Cmp.tup fun x hx => (h x hx).cmp) (by decide) (by omega)]
  rfl
theorem one_notin {k : Nat} {l : List D} (h : ∀ x ∈ l, Th k x) (hk : k ≤ 20) : cmpD .NotIn S (.int 1) (.tup l) = some (!l.any oneB) := by
  have := one_in (S := S) h hk
  have this : inD S (.int 1) (.tup l) = some (l.any oneB) := this
  show (inD S (.int 1) (.tup l)).map (!·) = _
  rw [this]; rfl
theorem c_is_supply {k : Nat} {d : D} (h : Th k d) (hk : k ≤ 20) : (fnsAt pg wf (n + 3)).call i_is_supply [d] S = .ok (.bl (supplyB d)) S := by
  rw [call_at rfl]
  refine RPost.eq ?_
  refine w_fd rfl ?_
  unfold f_is_supply
  walk_at "fr"
  cases h with
  | tup hx hl =>
    rename_i k l
    have es : supplyB (.tup l) = ((decide (1 ≤ (l.length : Int)) && decide ((l.length : Int) ≤ 12)) && ((l.all fun d => betw d 0 1) && l.any oneB)) := rfl
    rw [es]
    repeat walk_at "w"
    refine w_dec (fun hp => ?_) (fun hp => ?_)
    rotate_left
    · rw [decide_eq_false hp]
      repeat walk_at "w"
      exact ⟨rfl, rfl⟩
    rw [decide_eq_true hp]
    repeat walk_at "w"
    refine w_decn (fun e => ?_) (fun e => ?_)
    · rw [decide_eq_false e]
      repeat walk_at "w"
      exact ⟨rfl, rfl⟩
    rw [decide_eq_true e]
    repeat walk_at "w"
    refine w_comp_pure (fun d => d) (fun _ => true) (fun d => .bl (betw d 0 1)) l (by rw [List.map_id']) (small_ok hl) (fun x hx2 => ⟨_, rfl, rfl, fun _ => of_w ?_⟩) ?_
    · refine w_call (w_cons (w_var rfl (w_cons (w_int (w_cons (w_int (w_nil (w_of (c_betw (n := n) (hx x hx2) 0 1) ⟨rfl, rfl⟩))))))))
    · rw [filter_all]
      refine w_nil ⟨_, all_map, ⟨_, rfl, ?_⟩⟩
      refine w_bool (fun e => ?_) (fun e => ?_)
      · rw [e]
        repeat walk_at "w"
        refine ⟨_, one_in hx (by omega), ?_⟩
        repeat walk_at "w"
        exact ⟨rfl, rfl⟩
      · rw [e]
        repeat walk_at "w"
        exact ⟨rfl, rfl⟩
  | _ =>
    repeat walk_at "w"
    exact ⟨rfl, rfl⟩

end k01

namespace k01
variable {wf n : Nat} {S : Store} {s : Sys}
def mostsC (ts : List Task) : List (D × D) := ts.map fun t => (.str t.nm, .int t.most)
theorem look_most (x : Str) : ∀ ts : List Task, lookD (mostsC ts) (.inr x) = (mostOf ts x).map D.int
  | [] => rfl
  | t :: ts => by
    have ih := look_most x ts
    unfold lookD mostsC mostOf at ih ⊢
    rw [List.map_cons, List.find?_cons, List.find?_cons]
    show Option.map _ (match decide (t.nm = x) with | true => some (D.str t.nm, D.int t.most) | false => _) = _
    cases decide (t.nm = x) with
    | true => rfl
    | false => exact ih
theorem ask_most {T : Store} {m : Nat} {ts : List Task} (hc : cellD T m = some (mostsC ts)) (x : Str) : askD T (.ref m) (.str x) = some ((mostOf ts x).map D.int) := by
  show ((cellD T m).bind fun l => (keyOf (.str x)).map fun k => lookD l k) = _
  rw [hc]
  show some (lookD (mostsC ts) (.inr x)) = _
  rw [look_most]
theorem cell1d (S : Store) (a : List (D × D)) : cellD (S ++ [.dct a]) S.length = some a := by
  unfold cellD; rw [List.getElem?_append_right (Nat.le_refl _), Nat.sub_self]; rfl
/-- {task[0]: task[6] for task in tasks} -/
theorem most_comp {ts : List Task} (hnd : (ts.map (·.nm)).Nodup) (hn : ts.length ≤ 1000) {v : Nat} {it : E} {fr : Fr} {T : Store} {PD : D → Store → Prop} {nm : Str} (hv : ∀ d : D, ((wipeF fr [v]).set v (some d))[v]? = some (some d))
    (hit : WE (fnsAt pg wf n) it fr T fun x S1 => (x = .tup (ts.map tD) ∨ x = .lst (ts.map tD)) ∧ S1 = T) (hP : PD (.ref T.length) (T ++ [.dct (mostsC ts)])) :
    WE (fnsAt pg wf n) (.dcomp [(nm, v)] (.v v) it [] (.sub (.var v) (.int 0)) (.sub (.var v) (.int 6))) fr T PD := by
  refine w_dcomp (hit.imp fun x S1 _ ⟨ex, eS⟩ => ?_)
  subst eS
  refine ⟨ts.map tD, by rcases ex with rfl | rfl <;> rfl, ?_⟩
  rw [dcomp_pure tD (fun t => .inr t.nm) (fun t => .int t.most) ts [] (by show 0 + ts.length ≤ _; rw [Nat.zero_add]; exact small_ok hn) fun t ht => ⟨_, rfl, rfl, of_w (w_sub (w_var (hv _) (w_int ⟨_, rfl, rfl, rfl⟩))), of_w (w_sub (w_var (hv _) (w_int ⟨_, rfl, rfl, rfl⟩)))⟩]
  have e : mergeD [] (ts.map fun t => ((.inr t.nm : Key), D.int t.most)) = mostsC ts := by
    rw [merge_nd]
    · unfold mostsC
      rw [List.map_map]; rfl
    · rw [List.map_map]
      have : ((fun p : Key × D => p.1) ∘ fun t : Task => ((.inr t.nm : Key), D.int t.most)) = fun t => (.inr t.nm : Key) := rfl
      rw [this]
      have h2 : (ts.map fun t : Task => (.inr t.nm : Key)) = (ts.map (·.nm)).map fun x => (.inr x : Key) := by rw [List.map_map]; rfl
      rw [h2]
      exact List.pairwise_map.mpr (List.Pairwise.imp (fun h e => h (by injection e)) hnd)
  rw [e]
  exact hP
theorem four {l : List D} (h : (l.length : Int) = 4) : ∃ a b c d, l = [a, b, c, d] := by
  have h : l.length = 4 := by omega
  match l, h with
  | [a, b, c, d], _ => exact ⟨a, b, c, d, rfl⟩
theorem c_is_lock {T : Store} {m : Nat} {ts : List Task} (hc : cellD T m = some (mostsC ts)) {k : Nat} {d : D} (h : Th k d) : (fnsAt pg wf (n + 4)).call i__is_lock [.ref m, d] T = .ok (.bl (lockB ts d)) T := by
  rw [call_at rfl]
  refine RPost.eq ?_
  refine w_fd rfl ?_
  unfold f__is_lock
  walk_at "fr"
  cases h with
  | tup hx hl =>
    rename_i k l
    repeat walk_at "w"
    refine w_decn (fun hne => ?_) (fun h4 => ?_)
    · refine w_ift ?_
      repeat walk_at "w"
      exact ⟨congrArg D.bl (lockB_len hne).symm, rfl⟩
    obtain ⟨a, b, lo, hi, rfl⟩ := four h4
    have t1 := hx a (by simp)
    have t2 := hx b (by simp)
    have t3 := hx lo (by simp)
    have t4 := hx hi (by simp)
    have et : lockB ts (.tup [a, b, lo, hi]) = ((nameB a && nameB b) && lockV ts a lo hi) := rfl
    rw [et]
    repeat walk_at "w"
    refine w_of (c_is_name (n := n) t1) ⟨_, rfl, ?_⟩
    cases e1 : nameB a with
    | false =>
      repeat walk_at "w"
      exact ⟨rfl, rfl⟩
    | true =>
    repeat walk_at "w"
    refine w_of (c_is_name (n := n) t2) ⟨_, rfl, ?_⟩
    cases e2 : nameB b with
    | false =>
      repeat walk_at "w"
      exact ⟨rfl, rfl⟩
    | true =>
    obtain ⟨x, rfl, _⟩ := nameB_str e1
    have ev : lockV ts (.str x) lo hi = lockO (mostOf ts x) lo hi := rfl
    rw [ev]
    repeat walk_at "w"
    refine ⟨_, ask_most hc x, ?_⟩
    cases em : mostOf ts x with
    | none =>
      refine ⟨true, rfl, ?_⟩
      repeat walk_at "w"
      exact ⟨rfl, rfl⟩
    | some mm =>
      have ev2 : lockO (some mm) lo hi = (betw hi 1 mm && betw lo 0 (intD hi - 1)) := rfl
      rw [ev2]
      refine ⟨false, rfl, ?_⟩
      repeat walk_at "w"
      refine ⟨.int mm, by rw [ask_most hc x, em]; rfl, ?_⟩
      repeat walk_at "w"
      refine w_of (c_betw (n := n + 1) t4 1 mm) ⟨_, rfl, ?_⟩
      cases e3 : betw hi 1 mm with
      | false =>
        repeat walk_at "w"
        exact ⟨rfl, rfl⟩
      | true =>
      have g3 := intD_of e3
      generalize intD hi = hv at g3 ⊢
      subst g3
      repeat walk_at "w"
      refine w_of (c_betw (n := n + 1) t3 0 (hv - 1)) ?_
      repeat walk_at "w"
      exact ⟨rfl, rfl⟩
  | _ =>
    repeat walk_at "w"
    exact ⟨rfl, rfl⟩
structure LkS (l : Lock) : Prop where
  nm : PyData.strOk l.nm = true
  lk : PyData.strOk l.lk = true
theorem lks_cmp {l : Lock} (h : LkS l) : Cmp 1 (lkD l) := .tup fun x hx => by
  simp only [List.mem_cons, List.not_mem_nil, or_false] at hx
  rcases hx with rfl | rfl | rfl | rfl
  · exact .str h.nm
  · exact .str h.lk
  · exact .int _
  · exact .int _
theorem lks_alike (a b : Lock) : PySem.W.alike (lkD a).py (lkD b).py = true := by
  show PySem.W.alike (.tuple [.str a.nm, .str a.lk, .int a.lo, .int a.hi]) (.tuple [.str b.nm, .str b.lk, .int b.lo, .int b.hi]) = true
  simp [PySem.W.alike, PySem.W.alikeAll]
theorem lt_lks {a b : Lock} (ha : LkS a) (hb : LkS b) : cmpD .Lt S (lkD a) (lkD b) = some (ltL a b) := by
  show (if ((lkD a).cmpOk && (lkD b).cmpOk && PySem.W.alike (lkD a).py (lkD b).py) = true then some (PySem.W.dataLt (lkD a).py (lkD b).py) else none) = _
  rw [(lks_cmp ha).ok (by decide), (lks_cmp hb).ok (by decide), lks_alike]
  rfl
theorem le_lks {a b : Lock} (ha : LkS a) (hb : LkS b) : cmpD .LtE S (lkD a) (lkD b) = some (!ltL b a) := by
  show (if ((lkD a).cmpOk && (lkD b).cmpOk && PySem.W.alike (lkD a).py (lkD b).py) = true then some (!PySem.W.dataLt (lkD b).py (lkD a).py) else none) = _
  rw [(lks_cmp ha).ok (by decide), (lks_cmp hb).ok (by decide), lks_alike]
  rfl
theorem at_lk {ls : List Lock} {k : Nat} {l : Lock} (h : ls[k]? = some l) : (ls.map lkD)[k]? = some (lkD l) := by rw [List.getElem?_map, h]; rfl
theorem c_asc {ls : List Lock} (h : ∀ l ∈ ls, LkS l) (hn : ls.length ≤ 1000) : (fnsAt pg wf (n + 1)).call i_is_ascending [.tup (ls.map lkD)] S = .ok (.bl (ascB ls)) S := by
  rw [call_at rfl]
  refine RPost.eq ?_
  refine w_fd rfl ?_
  unfold f_is_ascending
  walk_at "fr"
  refine s_consW (s_retW (w_bi (w_cons (w_comp (w_range (w_cons (w_bin (w_bi (w_cons (w_var rfl (w_nil ⟨_, rfl, w_int ⟨_, rfl, w_nil ⟨_, range_one (by omega) (by rw [List.length_map]; omega), ⟨_, rfl, ?_⟩⟩⟩⟩)))))))))))
  refine w_comp_pure (fun j : Nat => D.int (j : Nat)) (fun _ => true) (fun k => .bl (ascAt ls k)) (List.range (ls.length - 1)) (by rw [List.length_map, show ((ls.length : Int) - 1).toNat = ls.length - 1 by omega]) (by rw [List.length_range]; exact small_ok (by omega)) (fun k hk => ⟨_, rfl, rfl, fun _ => of_w ?_⟩) ?_
  · have hk := List.mem_range.mp hk
    have h1 := List.getElem?_eq_getElem (show k < ls.length by omega)
    have h2 := List.getElem?_eq_getElem (show k + 1 < ls.length by omega)
    have e2 : subD S (.tup (ls.map lkD)) (.int ((k : Int) + 1)) = some (lkD (ls[k + 1]'(by omega))) := by
      rw [show ((k : Int) + 1) = ((k + 1 : Nat) : Int) by omega]
      exact sub_at (at_lk h2)
    refine w_cmp (w_sub (w_var rfl (w_var rfl ⟨_, sub_at (at_lk h1), w_sub (w_var rfl (w_bin (w_var rfl (w_int ⟨_, rfl, ⟨_, e2, ⟨_, lt_lks (h _ (List.getElem_mem _)) (h _ (List.getElem_mem _)), ?_⟩⟩⟩))))⟩)))
    rw [ascAt_eq h1 h2]
    exact ⟨rfl, rfl⟩
  · rw [filter_all]
    refine w_nil ⟨_, all_map, ?_⟩
    exact w_ret ⟨rfl, rfl⟩ rfl
theorem apart_cons (a : Lock) (l : List Lock) : apartB (a :: l) = ((l.all fun b => !overlap a b) && apartB l) := rfl
theorem c_apart {ls : List Lock} (h : ∀ l ∈ ls, LkS l) (hn : ls.length ≤ 1000) : (fnsAt pg wf (n + 1)).call i__are_apart [.tup (ls.map lkD)] S = .ok (.bl (apartB ls)) S := by
  rw [call_at rfl]
  refine RPost.eq ?_
  refine w_fd rfl ?_
  unfold f__are_apart
  walk_at "fr"
  repeat walk_at "w"
  rw [enum_map]
  refine for_inv (fun ds fr S' => ∃ (rest : List Lock) (k : Nat) (a b c : Option D), ds = (rest.zipIdx k).map (fun p => .tup [.int p.2, lkD p.1]) ∧ ls.drop k = rest ∧ S' = S ∧ fr = [some (.tup (ls.map lkD)), a, b, c] ∧ apartB rest = apartB ls) ?_ ?_ _ _ _
    ⟨ls, 0, none, none, none, rfl, rfl, rfl, rfl, rfl⟩
  · rintro d ds fr S' ⟨rest, k, a, b, c, e, hdr, rfl, rfl, hap⟩
    cases rest with
    | nil => cases e
    | cons l rest =>
      cases e
      have hl1 : l ∈ ls := by
        have : l ∈ ls.drop k := by rw [hdr]; exact List.mem_cons_self
        exact List.mem_of_mem_drop this
      have hdr2 : ls.drop (k + 1) = rest := by
        have := congrArg (List.drop 1) hdr
        rw [List.drop_drop] at this
        exact this
      have hrest : ∀ x ∈ rest, x ∈ ls := fun x hx => by
        have : x ∈ ls.drop (k + 1) := by rw [hdr2]; exact hx
        exact List.mem_of_mem_drop this
      refine ⟨[some (.tup (ls.map lkD)), some (.int (k : Nat)), some (lkD l), c], rfl, ?_⟩
      have hsl : slcD S' (.tup (ls.map lkD)) (some ((k : Int) + 1)) none = some (.tup (rest.map lkD)) := by
        show some (D.tup (cutD (ls.map lkD) (some ((k : Int) + 1)) none)) = _
        rw [show ((k : Int) + 1) = ((k + 1 : Nat) : Int) by omega, cut_from, ← List.map_drop, hdr2]
      refine s_consW (s_forW (w_slc (w_var rfl (w_osome (w_bin (w_var rfl (w_int ⟨_, rfl, ⟨_, rfl, w_onone ⟨_, hsl, ⟨_, rfl, ?_⟩⟩⟩⟩)))))))
      refine for_inv (fun ds fr S2 => ∃ (r2 : List Lock) (c : Option D), ds = r2.map lkD ∧ (∀ x ∈ r2, x ∈ ls) ∧ S2 = S' ∧ fr = [some (.tup (ls.map lkD)), some (.int (k : Nat)), some (lkD l), c] ∧ (r2.all fun b => !overlap l b) = (rest.all fun b => !overlap l b)) ?_ ?_ _ _ _
        ⟨rest, c, rfl, hrest, rfl, rfl, rfl⟩
      · rintro d ds fr S2 ⟨r2, c, e, hr2, rfl, rfl, hall⟩
        cases r2 with
        | nil => cases e
        | cons x r2 =>
          cases e
          have hx := hr2 x List.mem_cons_self
          refine ⟨[some (.tup (ls.map lkD)), some (.int (k : Nat)), some (lkD l), some (lkD x)], rfl, ?_⟩
          have hov : overlap l x = true → apartB ls = false := fun q => by
            rw [← hap, apart_cons, ← hall, List.all_cons, q]; rfl
          have hgo : overlap l x = false → ∃ (r2' : List Lock) (c : Option D), List.map lkD r2 = r2'.map lkD ∧ (∀ x ∈ r2', x ∈ ls) ∧ S2 = S2 ∧ ([some (.tup (ls.map lkD)), some (.int (k : Nat)), some (lkD l), some (lkD x)] : Fr) = [some (.tup (ls.map lkD)), some (.int (k : Nat)), some (lkD l), c] ∧ (r2'.all fun b => !overlap l b) = (rest.all fun b => !overlap l b) := fun q =>
            ⟨r2, some (lkD x), rfl, fun y hy => hr2 y (List.mem_cons_of_mem _ hy), rfl, rfl, by rw [← hall, List.all_cons, q]; rfl⟩
          have eo : overlap l x = ((l.nm == x.nm) && (decide (l.lo < x.hi) && decide (x.lo < l.hi))) := rfl
          refine s_consW (s_iffW (t_andW (t_cmpW (w_sub (w_var rfl (w_int ⟨.str l.nm, rfl, w_sub (w_var rfl (w_int ⟨.str x.nm, rfl, ⟨_, b_eqS (h l hl1).nm (h x hx).nm, ?_⟩⟩))⟩))))))
          refine w_bool (fun e1 => ?_) (fun e1 => ?_)
          rotate_left
          · refine w_iff' (s_nilW (s_nilW ?_))
            exact hgo (by rw [eo, e1]; rfl)
          refine t_andW (t_cmpW (w_sub (w_var rfl (w_int ⟨.int l.lo, rfl, w_sub (w_var rfl (w_int ⟨.int x.hi, rfl, ⟨decide (l.lo < x.hi), rfl, ?_⟩⟩))⟩))))
          refine w_dec (fun e2 => ?_) (fun e2 => ?_)
          rotate_left
          · refine w_iff' (s_nilW (s_nilW ?_))
            exact hgo (by rw [eo, decide_eq_false e2, Bool.false_and, Bool.and_false])
          refine t_cmpW (w_sub (w_var rfl (w_int ⟨.int x.lo, rfl, w_sub (w_var rfl (w_int ⟨.int l.hi, rfl, ⟨decide (x.lo < l.hi), rfl, ?_⟩⟩))⟩)))
          refine w_dec (fun e3 => ?_) (fun e3 => ?_)
          rotate_left
          · refine s_nilW (s_nilW ?_)
            exact hgo (by rw [eo, decide_eq_false e3, Bool.and_false, Bool.and_false])
          refine s_consW (s_retW (w_bl ?_))
          refine w_ret ⟨congrArg D.bl ?_, rfl⟩ rfl
          exact (hov (by rw [eo, e1, decide_eq_true e2, decide_eq_true e3]; rfl)).symm
      · rintro fr S2 ⟨r2, c, e, hr2, rfl, rfl, hall⟩
        have e2 : r2 = [] := List.map_eq_nil_iff.mp e.symm
        subst e2
        refine s_nilW ?_
        refine ⟨rest, k + 1, _, _, _, rfl, hdr2, rfl, rfl, ?_⟩
        rw [← hap, apart_cons, ← hall]; rfl
  · rintro fr S' ⟨rest, k, a, b, c, e, hdr, rfl, rfl, hap⟩
    have e2 : rest = [] := by
      have := congrArg List.length e
      rw [List.length_map, List.length_zipIdx] at this
      exact List.length_eq_zero_iff.mp this.symm
    subst e2
    rw [← hap]
    repeat walk_at "w"
    exact ⟨rfl, rfl⟩

end k01

namespace k01
variable {wf n : Nat} {S : Store} {s : Sys}
theorem th_locks {k : Nat} {ls : List Lock} (h : ∀ x ∈ ls.map lkD, Th k x) : ∀ l ∈ ls, LkS l := fun l hl => by
  have := h (lkD l) (List.mem_map.mpr ⟨l, hl, rfl⟩)
  cases this with
  | tup hx _ =>
    have h1 := hx (.str l.nm) (by simp)
    have h2 := hx (.str l.lk) (by simp)
    cases h1 with
    | str q1 _ =>
      cases h2 with
      | str q2 _ => exact ⟨q1, q2⟩
theorem c_are_locks {ts : List Task} (hnd : (ts.map (·.nm)).Nodup) (hn : ts.length ≤ 1000) {k : Nat} {d : D} (h : Th k d) (hk : k ≤ 20) (hS : Wf S) : (fnsAt pg wf (n + 5)).call i_are_locks [d, .tup (ts.map tD)] S = .ok (.bl (locksB ts d)) S := by
  rw [call_at rfl]
  refine RPost.eq ?_
  refine w_fd rfl ?_
  unfold f_are_locks
  walk_at "fr"
  refine s_consW (s_asgv (most_comp (ts := ts) hnd hn (fun d => rfl) (w_var rfl ⟨.inl rfl, rfl⟩) ?_))
  show WSs _ _ [some d, some (.tup (ts.map tD)), some (.ref S.length), none, none] (S ++ [.dct (mostsC ts)]) _
  have ret : ∀ {b : Bool}, b = locksB ts d → RPost (fun x S' => x = .bl (locksB ts d) ∧ S' = S) (cutR S.length (.bl b) (S ++ [.dct (mostsC ts)])) := fun e => by
    subst e
    exact w_cutP hS rfl ⟨rfl, rfl⟩
  refine s_consW (s_iffW (t_orW (t_notW (t_isiW (w_var rfl ⟨_, isi_tupQ h, ?_⟩)))))
  cases h with
  | tup hx hl =>
    rename_i k l
    have es : locksB ts (.tup l) = (decide ((l.length : Int) ≤ 6) && ((l.all (lockB ts)) && (ascB (l.map unL) && apartB (l.map unL)))) := rfl
    rw [es] at ret ⊢
    refine w_nit ?_
    refine t_orW (t_cmpW (w_bi (w_cons (w_var rfl (w_nil ⟨.int (l.length : Int), rfl, w_glob (d := .int 6) rfl ⟨decide ((6 : Int) < l.length), rfl, ?_⟩⟩)))))
    refine w_dec (fun q => ?_) (fun q => ?_)
    · refine w_ift ?_
      refine s_consW (s_retW (w_bl (ret ?_)))
      rw [decide_eq_false (show ¬ (l.length : Int) ≤ 6 by omega)]; rfl
    rw [decide_eq_true (show (l.length : Int) ≤ 6 by omega)] at ret ⊢
    refine t_notW (t_any (w_bi (w_cons (w_comp (w_var rfl ⟨_, rfl, ?_⟩)))))
    refine w_comp_pure (fun d => d) (fun _ => true) (fun d => .bl (lockB ts d)) l (by rw [List.map_id']) (small_ok hl) (fun x hx2 => ⟨_, rfl, rfl, fun _ => of_w ?_⟩) ?_
    · exact w_call (w_cons (w_var rfl (w_cons (w_var rfl (w_nil (w_of (c_is_lock (n := n) (cell1d _ _) (hx x hx2)) ⟨rfl, rfl⟩))))))
    rw [filter_all]
    refine w_nil ⟨_, all_map, ⟨_, rfl, ?_⟩⟩
    cases e1 : l.all (lockB ts) with
    | false =>
      rw [e1] at ret
      refine w_nif ?_
      exact s_consW (s_retW (w_bl (ret rfl)))
    | true =>
      rw [e1] at ret
      refine w_nit (s_nilW ?_)
      obtain ⟨ls, rfl, _⟩ := locks_of e1
      rw [unL_map] at ret ⊢
      have hls := th_locks hx
      rw [List.length_map] at hl
      refine s_consW (s_retW (w_andW (w_call (w_cons (w_var rfl (w_nil (w_of (c_asc (n := n + 3) hls hl) ⟨_, rfl, ?_⟩)))))))
      cases e2 : ascB ls with
      | false =>
        rw [e2] at ret
        exact w_iff' (ret rfl)
      | true =>
        rw [e2] at ret
        refine w_ift (w_call (w_cons (w_var rfl (w_nil (w_of (c_apart (n := n + 3) hls hl) ?_)))))
        exact ret rfl
  | _ =>
    refine w_ift (w_ift ?_)
    exact s_consW (s_retW (w_bl (ret rfl)))
theorem b_eqT0' {k : Nat} {l : List D} (h : ∀ x ∈ l, Th k x) (hk : k ≤ 20) : cmpD .Eq S (.tup l) (.tup []) = some l.isEmpty := by
  rw [eq_of_cmp (Cmp.tup fun x hx => (h x hx).cmp) (Cmp.tup (k := 0) (l := []) fun _ h => by cases h) (by omega) (by decide) rfl rfl]
  show some (PyData.eqv (.tuple (D.pyL l)) (.tuple [])) = _
  cases l with
  | nil => simp [D.pyL, PyData.eqv, PyData.eqvAll]
  | cons => simp [D.pyL, PyData.eqv, PyData.eqvAll]
theorem c_lets {mi : Int} {k : Nat} {rule : D} (hr : Th k rule) (hk : k ≤ 20) (b : Bool) : (fnsAt pg wf (n + 1)).call i_lets_locks [.int mi, rule, .bl b] S = .ok (.bl (eqI (.int mi) 1 && (strEq rule "fixed" && b))) S := by
  rw [call_at rfl]
  refine RPost.eq ?_
  refine w_fd rfl ?_
  unfold f_lets_locks
  walk_at "fr"
  have e0 : eqI (.int mi) 1 = decide (mi = 1) := rfl
  rw [e0]
  refine s_consW (s_retW (w_andW (w_cmp (w_var rfl (w_int ⟨_, b_eqI, ⟨_, rfl, ?_⟩⟩)))))
  refine w_dec (fun q => ?_) (fun q => ?_)
  rotate_left
  · rw [decide_eq_false q]
    exact w_ret ⟨rfl, rfl⟩ rfl
  rw [decide_eq_true q]
  refine w_andW (w_cmp (w_var rfl (w_str ⟨_, b_eqTh hr (by omega) (by decide +kernel), ⟨_, rfl, ?_⟩⟩)))
  cases e1 : strEq rule "fixed" with
  | false => exact w_iff' (w_ret ⟨rfl, rfl⟩ rfl)
  | true => exact w_ift (w_var rfl (w_ret ⟨rfl, rfl⟩ rfl))
theorem th_tasks {k : Nat} {ts : List Task} (h : ∀ x ∈ ts.map tD, Th k x) : ∀ t ∈ ts, PyData.strOk t.nm = true := fun t ht => by
  have := h (tD t) (List.mem_map.mpr ⟨t, ht, rfl⟩)
  cases this with
  | tup hx _ =>
    have h1 := hx (.str t.nm) (by simp)
    cases h1 with
    | str q1 _ => exact q1
/-- len(set(names)) -/
theorem set_names {ts : List Task} (hn : ts.length ≤ 1000) {v : Nat} {it : E} {fr : Fr} {T : Store} {PD : D → Store → Prop} {nm : Str} (hv : ∀ d : D, ((wipeF fr [v]).set v (some d))[v]? = some (some d))
    (hit : WE (fnsAt pg wf n) it fr T fun x S1 => x = .tup (ts.map tD) ∧ S1 = T) (hP : PD (.int (nDup (ts.map (·.nm)) : Nat)) T) :
    WE (fnsAt pg wf n) (.lset (.comp true [(nm, v)] (.v v) it [] (.sub (.var v) (.int 0)))) fr T PD := by
  refine w_lset (w_comp (hit.imp fun x S1 _ ⟨ex, eS⟩ => ?_))
  subst ex; subst eS
  refine ⟨_, rfl, ?_⟩
  refine w_comp_pure tD (fun _ => true) (fun t => .str t.nm) ts rfl (small_ok hn) (fun t ht => ⟨_, rfl, rfl, fun _ => of_w (w_sub (w_var (hv _) (w_int ⟨_, rfl, rfl, rfl⟩)))⟩) ?_
  rw [filter_all]
  refine ⟨_, ?_, hP⟩
  show ((strsD (ts.map fun t => D.str t.nm)).bind fun ss => if ss.length ≤ 1000 then some (D.int (ss.eraseDups.length : Nat)) else none) = _
  rw [show (ts.map fun t => D.str t.nm) = (ts.map (·.nm)).map .str by rw [List.map_map]; rfl, strs_of]
  show (if (ts.map (·.nm)).length ≤ 1000 then _ else _) = _
  rw [if_pos (by rw [List.length_map]; exact hn)]; rfl

end k01

namespace k01
variable {wf n : Nat} {S : Store} {s : Sys}
theorem sys_ok : PyData.strOk ("system" : Str) = true := by decide +kernel
theorem c_is_system {k : Nat} {d : D} (h : Th k d) (hk : k ≤ 20) (hS : Wf S) : (fnsAt pg wf (n + 6)).call i_is_system [d] S = .ok (.bl (sysB d)) S := by
  rw [call_at rfl]
  refine RPost.eq ?_
  refine w_fd rfl ?_
  unfold f_is_system
  walk_at "fr"
  cases h with
  | tup hx hl =>
    rename_i k l
    repeat walk_at "w"
    refine w_decn (fun hne => ?_) (fun h7 => ?_)
    · refine w_ift ?_
      repeat walk_at "w"
      exact ⟨congrArg D.bl (sysB_len hne).symm, rfl⟩
    obtain ⟨w, mach, rule, brk, sup, tasks, locks, rfl⟩ := seven h7
    have t1 := hx w (by simp)
    have t2 := hx mach (by simp)
    have t3 := hx rule (by simp)
    have t4 := hx brk (by simp)
    have t5 := hx sup (by simp)
    have t6 := hx tasks (by simp)
    have t7 := hx locks (by simp)
    have et : sysB (.tup [w, mach, rule, brk, sup, tasks, locks]) = (strEq w "system" && (betw mach 1 3 && (strIn rule rulesL && (isBlD brk && (supplyB sup && (tasksB tasks && (locksB (tasksD tasks) locks && (nilD locks || (eqI mach 1 && (strEq rule "fixed" && isTrueD brk)))))))))) := rfl
    rw [et]
    repeat walk_at "w"
    refine ⟨_, b_neTh t1 (by omega) sys_ok, ?_⟩
    cases e1 : strEq w "system" with
    | false =>
      repeat walk_at "w"
      exact ⟨rfl, rfl⟩
    | true =>
    refine w_nit (s_nilW (s_consW (s_asgW (w_var rfl ⟨_, rfl, ?_⟩))))
    show WSs _ _ [some (.tup [w, mach, rule, brk, sup, tasks, locks]), some w, some mach, some rule, some brk, some sup, some tasks, some locks, none] S _
    refine s_consW (s_iffW (t_orW (t_notW (t_any (w_call (w_cons (w_var rfl (w_cons (w_int (w_cons (w_glob (d := .int 3) rfl (w_nil (w_of (c_betw (n := n + 3) t2 1 3) ⟨_, rfl, ?_⟩)))))))))))))
    cases e2 : betw mach 1 3 with
    | false =>
      repeat walk_at "w"
      exact ⟨rfl, rfl⟩
    | true =>
    refine w_nit ?_
    refine t_orW (t_cmpW (w_var rfl (w_glob (d := .tup (rulesL.map .str)) rfl ⟨_, notin_strsD t3 (by omega) rules_okL, ?_⟩)))
    cases e3 : strIn rule rulesL with
    | false =>
      repeat walk_at "w"
      exact ⟨rfl, rfl⟩
    | true =>
    refine w_nit ?_
    refine t_notW (t_isiW (w_var rfl ⟨_, isi_bl t4, ?_⟩))
    cases e4 : isBlD brk with
    | false =>
      repeat walk_at "w"
      exact ⟨rfl, rfl⟩
    | true =>
    refine w_nit (s_nilW ?_)
    refine s_consW (s_iffW (t_orW (t_notW (t_any (w_call (w_cons (w_var rfl (w_nil (w_of (c_is_supply (n := n + 2) t5 (by omega)) ⟨_, rfl, ?_⟩)))))))))
    cases e5 : supplyB sup with
    | false =>
      repeat walk_at "w"
      exact ⟨rfl, rfl⟩
    | true =>
    refine w_nit ?_
    refine t_orW (t_notW (t_isiW (w_var rfl ⟨_, isi_tupQ t6, ?_⟩)))
    cases t6 with
    | tup hx6 hl6 =>
      rename_i k6 lt
      have e6 : tasksB (.tup lt) = (decide ((lt.length : Int) ≤ 6) && ((lt.all taskB) && decide (((nDup ((lt.map unT).map (·.nm)) : Nat) : Int) = lt.length))) := rfl
      have e6d : tasksD (.tup lt) = lt.map unT := rfl
      rw [e6, e6d]
      refine w_nit ?_
      refine t_cmpW (w_bi (w_cons (w_var rfl (w_nil ⟨.int (lt.length : Int), rfl, w_glob (d := .int 6) rfl ⟨decide ((6 : Int) < lt.length), rfl, ?_⟩⟩))))
      refine w_dec (fun q => ?_) (fun q => ?_)
      · rw [decide_eq_false (show ¬ (lt.length : Int) ≤ 6 by omega)]
        repeat walk_at "w"
        exact ⟨rfl, rfl⟩
      rw [decide_eq_true (show (lt.length : Int) ≤ 6 by omega)]
      refine s_nilW ?_
      refine s_consW (s_iffW (t_orW (t_notW (t_any (w_bi (w_cons (w_comp (w_var rfl ⟨_, rfl, ?_⟩))))))))
      refine w_comp_pure (fun d => d) (fun _ => true) (fun d => .bl (taskB d)) lt (by rw [List.map_id']) (small_ok hl6) (fun x hx2 => ⟨_, rfl, rfl, fun _ => of_w ?_⟩) ?_
      · exact w_call (w_cons (w_var rfl (w_nil (w_of (c_is_task (n := n + 1) (hx6 x hx2) (by omega)) ⟨rfl, rfl⟩))))
      rw [filter_all]
      refine w_nil ⟨_, all_map, ⟨_, rfl, ?_⟩⟩
      cases e7 : lt.all taskB with
      | false =>
        repeat walk_at "w"
        exact ⟨rfl, rfl⟩
      | true =>
      obtain ⟨ts, rfl, _⟩ := tasks_of e7
      rw [unT_map]
      rw [List.length_map] at hl6
      refine w_nit (t_cmpW (set_names (n := n + 5) hl6 (fun d => rfl) (w_var rfl ⟨rfl, rfl⟩) ?_))
      refine w_bi (w_cons (w_var rfl (w_nil ⟨.int ((ts.map tD).length : Int), rfl, ⟨_, b_neI, ?_⟩⟩)))
      refine w_decn (fun q => ?_) (fun q => ?_)
      · rw [decide_eq_false q]
        repeat walk_at "w"
        exact ⟨rfl, rfl⟩
      rw [decide_eq_true q]
      have hnd : (ts.map (·.nm)).Nodup := nodup_of (by rw [List.length_map] at q ⊢; omega)
      refine s_nilW ?_
      refine s_consW (s_retW (w_andW (w_call (w_cons (w_var rfl (w_cons (w_var rfl (w_nil (w_of (c_are_locks (n := n) hnd hl6 t7 (by omega) hS) ⟨_, rfl, ?_⟩)))))))))
      cases e8 : locksB ts locks with
      | false =>
        exact w_iff' (w_ret ⟨rfl, rfl⟩ rfl)
      | true =>
      have htl : ∃ m ll, locks = .tup ll ∧ m ≤ 20 ∧ ∀ x ∈ ll, Th m x := by
        cases t7 with
        | tup q1 q2 => exact ⟨_, _, rfl, by omega, q1⟩
        | _ => cases e8
      obtain ⟨m, ll, rfl, hm20, hll⟩ := htl
      refine w_ift ?_
      refine w_orW (w_cmp (w_var rfl (w_tup (w_nil ⟨small_ok (by show 0 ≤ 1000; decide), ⟨_, b_eqT0' hll hm20, ⟨_, rfl, ?_⟩⟩⟩))))
      have e9 : nilD (.tup ll) = ll.isEmpty := rfl
      rw [e9]
      cases e10 : ll.isEmpty with
      | true => exact w_ift (w_ret ⟨rfl, rfl⟩ rfl)
      | false =>
        refine w_iff' ?_
        obtain ⟨mi, rfl, _⟩ := betw_int e2
        have hb : ∃ b, brk = .bl b := by
          cases brk with
          | bl b => exact ⟨b, rfl⟩
          | _ => cases e4
        obtain ⟨b, rfl⟩ := hb
        refine w_call (w_cons (w_var rfl (w_cons (w_var rfl (w_cons (w_var rfl (w_nil (w_of (c_lets (n := n + 4) t3 (by omega) b) ?_))))))))
        exact w_ret ⟨rfl, rfl⟩ rfl
    | _ =>
      refine w_ift (w_ift ?_)
      repeat walk_at "w"
      exact ⟨rfl, rfl⟩
  | _ =>
    repeat walk_at "w"
    exact ⟨rfl, rfl⟩

end k01

namespace k01
variable {wf n : Nat} {S : Store} {s : Sys}
theorem flt_all {α : Type} (f : α → Bool) : ∀ l : List α, (l.filter fun x => !f x).isEmpty = l.all f
  | [] => rfl
  | x :: l => by
    cases hb : f x with
    | true => rw [List.filter_cons_of_neg (by rw [hb]; decide), flt_all f l, List.all_cons, hb]; rfl
    | false => rw [List.filter_cons_of_pos (by rw [hb]; decide), List.all_cons, hb]; rfl
theorem ones {α : Type} (l : List α) : Cmp 1 (.lst (l.map fun _ => D.int 1)) := .lst fun x hx => by
  obtain ⟨_, _, rfl⟩ := List.mem_map.mp hx
  exact .int 1
/-- [1 for x in l if not f(x)] != [] -/
theorem t_bad {own : List (Str × Nat)} {p : Pat} {it c : E} {fr : Fr} {T : Store} {PB : Bool → Store → Prop} {α : Type} (d : α → D) (f : α → Bool) (l : List α) (hn : l.length ≤ 1000) (hit : WE (fnsAt pg wf n) it fr T fun x S1 => (x = .tup (l.map d) ∨ x = .lst (l.map d)) ∧ S1 = T)
    (step : ∀ a ∈ l, ∃ fr1, asgP p (d a) (wipeF fr (own.map (·.2))) = some fr1 ∧ WT (fnsAt pg wf n) c fr1 T fun b S1 => b = (!f a) ∧ S1 = T) (hP : PB (!(l.all f)) T) :
    WT (fnsAt pg wf n) (.cmp .NotEq (.comp true own p it [c] (.int 1)) (.lst [])) fr T PB := by
  refine t_cmpW (w_comp (hit.imp fun x S1 _ ⟨ex, eS⟩ => ?_))
  subst eS
  refine ⟨l.map d, by rcases ex with rfl | rfl <;> rfl, ?_⟩
  refine w_comp_pure d (fun a => !f a) (fun _ => D.int 1) l rfl (small_ok hn) (fun a ha => ?_) ?_
  · obtain ⟨fr1, e1, e2⟩ := step a ha
    exact ⟨fr1, e1, of_w (ts_oneW e2), fun _ => rfl⟩
  · refine w_lst (w_nil ⟨small_ok (by show 0 ≤ 1000; decide), ⟨_, b_neN (ones _) (by decide), ?_⟩⟩)
    rw [List.isEmpty_map, flt_all]
    exact hP
def formL : D → Bool
  | .tup [a, b, _, _] => nameB a && nameB b
  | _ => false
def valL (ts : List Task) : D → Bool
  | .tup [a, _, lo, hi] => lockV ts a lo hi
  | _ => false
theorem lockB_two (ts : List Task) (d : D) : lockB ts d = (formL d && valL ts d) := by
  unfold lockB formL valL
  split <;> first | rfl | simp_all
theorem formL_len {l : List D} (h : ¬ (l.length : Int) = 4) : formL (.tup l) = false := by
  unfold formL
  split
  · rename_i q
    cases q
    exact absurd rfl h
  · rfl
theorem all_two (ts : List Task) : ∀ l : List D, l.all (lockB ts) = (l.all formL && l.all (valL ts))
  | [] => rfl
  | d :: l => by
    rw [List.all_cons, List.all_cons, List.all_cons, all_two ts l, lockB_two]
    cases formL d <;> cases l.all formL <;> cases valL ts d <;> rfl
theorem w_formL {k : Nat} {d : D} (h : Th k d) {fr : Fr} {v : Nat} (hv : fr[v]? = some (some d)) : WT (fnsAt pg wf (n + 1)) (.or (.not (.isi .tuple (.var v))) (.or (.cmp .NotEq (.bi .len [.var v]) (.int 4)) (.or (.not (.call i__law_is_word [.sub (.var v) (.int 0)])) (.not (.call i__law_is_word [.sub (.var v) (.int 1)]))))) fr S fun b S1 => b = (!formL d) ∧ S1 = S := by
  refine t_orW (t_notW (t_isiW (w_var hv ⟨_, isi_tupQ h, ?_⟩)))
  cases h with
  | tup hx hl =>
    rename_i k l
    refine w_nit ?_
    refine t_orW (t_cmpW (w_bi (w_cons (w_var hv (w_nil ⟨.int (l.length : Int), rfl, w_int ⟨_, b_neI, ?_⟩⟩)))))
    refine w_decn (fun hne => ⟨by rw [formL_len hne]; rfl, rfl⟩) (fun h4 => ?_)
    obtain ⟨a, b, lo, hi, rfl⟩ := four h4
    have t1 := hx a (by simp)
    have t2 := hx b (by simp)
    have e : formL (.tup [a, b, lo, hi]) = (nameB a && nameB b) := rfl
    rw [e]
    refine t_orW (t_notW (t_any (w_call (w_cons (w_sub (w_var hv (w_int ⟨a, rfl, w_nil (w_of (c_law_word (n := n) t1) ⟨_, rfl, ?_⟩)⟩)))))))
    cases e1 : nameB a with
    | false => exact w_nif ⟨rfl, rfl⟩
    | true =>
      refine w_nit ?_
      refine t_notW (t_any (w_call (w_cons (w_sub (w_var hv (w_int ⟨b, rfl, w_nil (w_of (c_law_word (n := n) t2) ⟨_, rfl, ?_⟩)⟩))))))
      exact ⟨rfl, rfl⟩
  | _ => exact w_ift ⟨rfl, rfl⟩
theorem w_valL {ts : List Task} {T : Store} {m : Nat} (hc : cellD T m = some (mostsC ts)) {k : Nat} {d : D} (h : Th k d) (hf : formL d = true) {fr : Fr} (h5 : fr[5]? = some (some d)) (h3 : fr[3]? = some (some (.ref m))) :
    WT (fnsAt pg wf (n + 1)) (.or (.dhas true (.sub (.var 5) (.int 0)) (.var 3)) (.or (.not (.call i__law_whole [.sub (.var 5) (.int 3), .int 1, .dsub (.var 3) (.sub (.var 5) (.int 0))])) (.not (.call i__law_whole [.sub (.var 5) (.int 2), .int 0, .bin .Sub (.sub (.var 5) (.int 3)) (.int 1)])))) fr T fun b S1 => b = (!valL ts d) ∧ S1 = T := by
  unfold formL at hf
  split at hf
  · rename_i a b lo hi
    rw [Bool.and_eq_true] at hf
    obtain ⟨x, rfl, _⟩ := nameB_str hf.1
    cases h with
    | tup hx hl =>
      have t3 := hx lo (by simp)
      have t4 := hx hi (by simp)
      have e : valL ts (.tup [.str x, b, lo, hi]) = lockO (mostOf ts x) lo hi := rfl
      rw [e]
      refine t_orW (t_any (w_dhas (w_sub (w_var h5 (w_int ⟨.str x, rfl, w_var h3 ⟨_, ask_most hc x, ?_⟩⟩)))))
      cases em : mostOf ts x with
      | none => exact ⟨true, rfl, w_ift ⟨rfl, rfl⟩⟩
      | some mm =>
        have ev2 : lockO (some mm) lo hi = (betw hi 1 mm && betw lo 0 (intD hi - 1)) := rfl
        rw [ev2]
        refine ⟨false, rfl, w_iff' ?_⟩
        refine t_orW (t_notW (t_any (w_call (w_cons (w_sub (w_var h5 (w_int ⟨hi, rfl, w_cons (w_int (w_cons (w_dsub (w_var h3 (w_sub (w_var h5 (w_int ⟨.str x, rfl, ⟨.int mm, by rw [ask_most hc x, em]; rfl, w_nil (w_of (c_lwhole (n := n) t4 1 mm) ⟨_, rfl, ?_⟩)⟩⟩)))))))⟩)))))))
        cases e3 : betw hi 1 mm with
        | false => exact w_nif ⟨rfl, rfl⟩
        | true =>
          have g3 := intD_of e3
          generalize intD hi = hv at g3 ⊢
          subst g3
          refine w_nit ?_
          refine t_notW (t_any (w_call (w_cons (w_sub (w_var h5 (w_int ⟨lo, rfl, w_cons (w_int (w_cons (w_bin (w_sub (w_var h5 (w_int ⟨.int hv, rfl, w_int ⟨_, rfl, w_nil (w_of (c_lwhole (n := n) t3 0 (hv - 1)) ⟨_, rfl, ?_⟩)⟩⟩))))))⟩))))))
          exact ⟨rfl, rfl⟩
  · cases hf
/-- dict([(task[0], task[6]) for task in tasks]) -/
theorem pairs_most : ∀ ts : List Task, pairsD (ts.map fun t => .tup [.str t.nm, .int t.most]) = some (ts.map fun t => ((.inr t.nm : Key), D.int t.most))
  | [] => rfl
  | t :: ts => by
    show ((keyOf (.str t.nm)).bind fun k => (pairsD (ts.map fun t => .tup [.str t.nm, .int t.most])).map ((k, D.int t.most) :: ·)) = _
    rw [pairs_most ts]; rfl
theorem merge_most {ts : List Task} (hnd : (ts.map (·.nm)).Nodup) : mergeD [] (ts.map fun t => ((.inr t.nm : Key), D.int t.most)) = mostsC ts := by
  rw [merge_nd]
  · unfold mostsC
    rw [List.map_map]; rfl
  · rw [List.map_map]
    have h2 : (ts.map ((fun p : Key × D => p.1) ∘ fun t : Task => ((.inr t.nm : Key), D.int t.most))) = (ts.map (·.nm)).map fun x => (.inr x : Key) := by rw [List.map_map]; rfl
    rw [h2]
    exact List.pairwise_map.mpr (List.Pairwise.imp (fun h e => h (by injection e)) hnd)
theorem ss_app {Φ : Fns} {b : List Dm.S} {PO : Out → Store → Prop} : ∀ {a : List Dm.S} {fr : Fr} {T : Store}, WSs Φ a fr T (fun o S1 => match o with | .nx fr' => WSs Φ b fr' S1 PO | .ret d => PO (.ret d) S1 | .bk fr' => PO (.bk fr') S1 | .ct fr' => PO (.ct fr') S1) → WSs Φ (a ++ b) fr T PO
  | [], fr, T, h => h
  | s :: a, fr, T, h => by
    obtain ⟨o, S1, e, h⟩ := RPost.bind h
    show RPost PO ((evS Φ s fr T).bind fun o S1 => match o with | .nx fr' => evSs Φ (a ++ b) fr' S1 | .ret d => .ok (.ret d) S1 | .bk fr' => .ok (.bk fr') S1 | .ct fr' => .ok (.ct fr') S1)
    rw [e]
    cases o with
    | nx fr' => exact ss_app (a := a) h
    | ret d => exact h
    | bk fr' => exact h
    | ct fr' => exact h
theorem cutS {Φ : Fns} {a : Dm.S} {b : List Dm.S} {PO : Out → Store → Prop} {fr : Fr} {T : Store} (h : WSs Φ [a] fr T (fun o S1 => match o with | .nx fr' => WSs Φ b fr' S1 PO | .ret d => PO (.ret d) S1 | .bk fr' => PO (.bk fr') S1 | .ct fr' => PO (.ct fr') S1)) : WSs Φ (a :: b) fr T PO := ss_app (a := [a]) h
/-- the law's loop over pairs of locks -/
theorem apart_loop {ls : List Lock} (h : ∀ l ∈ ls, LkS l) (hn : ls.length ≤ 1000) {z0 z1 z2 z3 z5 z6 : Option D} {T : Store} {PO : Out → Store → Prop} (hF : apartB ls = false → PO (.ret (.bl false)) T)
    (hN : apartB ls = true → ∀ z5 z6 : Option D, PO (.nx [z0, z1, z2, z3, some (.tup (ls.map lkD)), z5, z6]) T) :
    WSs (fnsAt pg wf n) [.for_ (.v 6) (.range [.bi .len [.var 4]]) [
  .iff (.cmp .NotEq (.comp true [("row", 5)] (.v 5) (.slc (.var 4) none (some (.var 6))) [.and (.cmp .Eq (.sub (.var 5) (.int 0)) (.sub (.sub (.var 4) (.var 6)) (.int 0))) (.and (.cmp .Lt (.sub (.var 5) (.int 2)) (.sub (.sub (.var 4) (.var 6)) (.int 3))) (.cmp .Lt (.sub (.sub (.var 4) (.var 6)) (.int 2)) (.sub (.var 5) (.int 3))))] (.var 5)) (.lst [])) [
   .ret (.bl false)] []]] [z0, z1, z2, z3, some (.tup (ls.map lkD)), z5, z6] T PO := by
  rw [← apart_eq] at hF hN
  refine s_consW (s_forW (w_range (w_cons (w_bi (w_cons (w_var rfl (w_nil ⟨_, rfl, w_nil ⟨_, range_one (by omega) (by rw [List.length_map]; omega), ⟨_, rfl, ?_⟩⟩⟩)))))))
  rw [List.length_map]
  refine for_inv (fun ds fr S' => ∃ (rest : List Nat) (z5 z6 : Option D), ds = rest.map (fun j : Nat => D.int (j : Nat)) ∧ (∀ j ∈ rest, j < ls.length) ∧ S' = T ∧ fr = [z0, z1, z2, z3, some (.tup (ls.map lkD)), z5, z6] ∧
    (rest.all fun k => match ls[k]? with | some b => (ls.take k).all fun a => !overlap a b | none => true) = apart2 ls) ?_ ?_ _ _ _
    ⟨List.range ls.length, z5, z6, rfl, fun j hj => List.mem_range.mp hj, rfl, rfl, rfl⟩
  · rintro d ds fr S' ⟨rest, z5, z6, e, hr, rfl, rfl, hall⟩
    cases rest with
    | nil => cases e
    | cons k rest =>
      cases e
      have hk := hr k List.mem_cons_self
      have hat := List.getElem?_eq_getElem hk
      rw [List.all_cons, hat] at hall
      refine ⟨[z0, z1, z2, z3, some (.tup (ls.map lkD)), z5, some (.int (k : Nat))], rfl, ?_⟩
      have hsl : slcD S' (.tup (ls.map lkD)) none (some (k : Int)) = some (.tup ((ls.take k).map lkD)) := by
        show some (D.tup (cutD (ls.map lkD) none (some ((k : Nat) : Int)))) = _
        rw [cut_to, ← List.map_take]
      have hb := h _ (List.getElem_mem hk)
      generalize ls[k] = b at hat hall hb
      refine s_consW (s_iffW (t_cmpW (w_comp (w_slc (w_var rfl (w_onone (w_osome (w_var rfl ⟨_, rfl, ⟨_, hsl, ⟨_, rfl, ?_⟩⟩⟩))))))))
      refine w_comp_pure lkD (fun a => overlap a b) lkD (ls.take k) rfl (small_ok (by rw [List.length_take]; omega)) (fun a ha => ⟨_, rfl, of_w ?_, fun _ => rfl⟩) ?_
      · have hal := h a (List.mem_of_mem_take ha)
        have eo : overlap a b = ((a.nm == b.nm) && (decide (a.lo < b.hi) && decide (b.lo < a.hi))) := rfl
        rw [eo]
        have hbt := at_lk hat
        refine ts_oneW ?_
        refine t_andW (t_cmpW (w_sub (w_var rfl (w_int ⟨.str a.nm, rfl, w_sub (w_sub (w_var rfl (w_var rfl ⟨_, sub_at hbt, w_int ⟨.str b.nm, rfl, ⟨_, b_eqS hal.nm hb.nm, ?_⟩⟩⟩)))⟩))))
        refine w_bool (fun e1 => ?_) (fun e1 => ?_)
        rotate_left
        · rw [e1]; exact ⟨rfl, rfl⟩
        rw [e1]
        refine t_andW (t_cmpW (w_sub (w_var rfl (w_int ⟨.int a.lo, rfl, w_sub (w_sub (w_var rfl (w_var rfl ⟨_, sub_at hbt, w_int ⟨.int b.hi, rfl, ⟨decide (a.lo < b.hi), rfl, ?_⟩⟩⟩)))⟩))))
        refine w_dec (fun e2 => ?_) (fun e2 => ?_)
        rotate_left
        · rw [decide_eq_false e2]; exact ⟨rfl, rfl⟩
        rw [decide_eq_true e2]
        refine t_cmpW (w_sub (w_sub (w_var rfl (w_var rfl ⟨_, sub_at hbt, w_int ⟨.int b.lo, rfl, w_sub (w_var rfl (w_int ⟨.int a.hi, rfl, ⟨decide (b.lo < a.hi), rfl, rfl, rfl⟩⟩))⟩⟩))))
      · have hcm : Cmp 2 (.lst (((ls.take k).filter fun a => overlap a b).map lkD)) := .lst fun x hx => by
          obtain ⟨a, ha, rfl⟩ := List.mem_map.mp hx
          exact lks_cmp (h a (List.mem_of_mem_take (List.mem_filter.mp ha).1))
        refine w_lst (w_nil ⟨small_ok (by show 0 ≤ 1000; decide), ⟨_, b_neN hcm (by decide), ?_⟩⟩)
        rw [List.isEmpty_map]
        have ef : ((ls.take k).filter fun a => overlap a b).isEmpty = (ls.take k).all fun a => !overlap a b := by
          have := flt_all (fun a => !overlap a b) (ls.take k)
          simpa using this
        rw [ef]
        have hall : (((ls.take k).all fun a => !overlap a b) && (rest.all fun k => match ls[k]? with | some b => (ls.take k).all fun a => !overlap a b | none => true)) = apart2 ls := hall
        cases ea : (ls.take k).all fun a => !overlap a b with
        | false =>
          rw [ea] at hall
          refine w_nif (s_consW (s_retW (w_bl ?_)))
          exact hF hall.symm
        | true =>
          rw [ea, Bool.true_and] at hall
          refine w_nit (s_nilW (s_nilW ?_))
          exact ⟨rest, _, _, rfl, fun j hj => hr j (List.mem_cons_of_mem _ hj), rfl, rfl, hall⟩
  · rintro fr S' ⟨rest, z5, z6, e, hr, rfl, rfl, hall⟩
    have e2 : rest = [] := List.map_eq_nil_iff.mp e.symm
    subst e2
    exact s_nilW (hN hall.symm z5 z6)

end k01

namespace k01
variable {wf n : Nat} {S : Store} {s : Sys}
theorem rules_in {k : Nat} {d : D} (h : Th k d) (hk : k ≤ 20) : cmpD .NotIn S d (.tup [.str "fixed", .str "nearest", .str "oldest", .str "slack"]) = some (!strIn d rulesL) := notin_strsD h (by omega) rules_okL
/-- the locks' part -/
theorem right_locks {w mach rule brk sup locks : D} {ts : List Task} (hnd : (ts.map (·.nm)).Nodup) (hn : ts.length ≤ 1000) {k : Nat} (hk : k ≤ 20) (t3 : Th k rule) (t7 : Th k locks) {mi : Int} (hm : mach = .int mi) {b : Bool} (hb : brk = .bl b) (hS : Wf S) {z1 z2 z3 z4 z5 z6 : Option D} :
    WSs (fnsAt pg wf (n + 4)) [
 .asg (.t [(.v 3), (.v 4)]) (.tup [.ddic (.comp true [("task", 2)] (.v 2) (.sub (.var 0) (.int 5)) [] (.tup [.sub (.var 2) (.int 0), .sub (.var 2) (.int 6)])), .sub (.var 0) (.int 6)]),
 .iff (.or (.not (.isi .tuple (.var 4))) (.or (.cmp .Gt (.bi .len [.var 4]) (.int 6)) (.cmp .NotEq (.comp true [("row", 5)] (.v 5) (.var 4) [.or (.not (.isi .tuple (.var 5))) (.or (.cmp .NotEq (.bi .len [.var 5]) (.int 4)) (.or (.not (.call i__law_is_word [.sub (.var 5) (.int 0)])) (.not (.call i__law_is_word [.sub (.var 5) (.int 1)]))))] (.int 1)) (.lst [])))) [
  .ret (.bl false)] [],
 .iff (.cmp .NotEq (.comp true [("row", 5)] (.v 5) (.var 4) [.or (.dhas true (.sub (.var 5) (.int 0)) (.var 3)) (.or (.not (.call i__law_whole [.sub (.var 5) (.int 3), .int 1, .dsub (.var 3) (.sub (.var 5) (.int 0))])) (.not (.call i__law_whole [.sub (.var 5) (.int 2), .int 0, .bin .Sub (.sub (.var 5) (.int 3)) (.int 1)])))] (.int 1)) (.lst [])) [
  .ret (.bl false)] [],
 .iff (.cmp .NotEq (.comp true [("k", 6)] (.v 6) (.range [.int 1, .bi .len [.var 4]]) [.cmp .LtE (.sub (.var 4) (.var 6)) (.sub (.var 4) (.bin .Sub (.var 6) (.int 1)))] (.var 6)) (.lst [])) [
  .ret (.bl false)] [],
 .for_ (.v 6) (.range [.bi .len [.var 4]]) [
  .iff (.cmp .NotEq (.comp true [("row", 5)] (.v 5) (.slc (.var 4) none (some (.var 6))) [.and (.cmp .Eq (.sub (.var 5) (.int 0)) (.sub (.sub (.var 4) (.var 6)) (.int 0))) (.and (.cmp .Lt (.sub (.var 5) (.int 2)) (.sub (.sub (.var 4) (.var 6)) (.int 3))) (.cmp .Lt (.sub (.sub (.var 4) (.var 6)) (.int 2)) (.sub (.var 5) (.int 3))))] (.var 5)) (.lst [])) [
   .ret (.bl false)] []],
 .ret (.or (.cmp .Eq (.var 4) (.tup [])) (.and (.cmp .Eq (.sub (.var 0) (.int 1)) (.int 1)) (.and (.cmp .Eq (.sub (.var 0) (.int 2)) (.str "fixed")) (.cmp .Is (.sub (.var 0) (.int 3)) (.bl true)))))]
  [some (.tup [w, mach, rule, brk, sup, .tup (ts.map tD), locks]), z1, z2, z3, z4, z5, z6] S (fun o S' => match o with | .ret d => RPost (fun x S' => x = .bl (locksB ts locks && (nilD locks || (eqI mach 1 && (strEq rule "fixed" && isTrueD brk)))) ∧ S' = S) (cutR S.length d S') | _ => False) := by
  have hdic : (lstD S (.lst (ts.map fun t => .tup [.str t.nm, .int t.most]))).bind pairsD = some (ts.map fun t => ((.inr t.nm : Key), D.int t.most)) := pairs_most ts
  refine s_consW (s_asgW (w_tup (w_cons (w_ddic (w_comp (w_sub (w_var rfl (w_int ⟨.tup (ts.map tD), rfl, ⟨_, rfl, ?_⟩⟩))))))))
  refine w_comp_pure tD (fun _ => true) (fun t => .tup [.str t.nm, .int t.most]) ts rfl (small_ok hn) (fun t ht => ⟨_, rfl, rfl, fun _ => of_w ?_⟩) ?_
  · exact w_tup (w_cons (w_sub (w_var rfl (w_int ⟨.str t.nm, rfl, w_cons (w_sub (w_var rfl (w_int ⟨.int t.most, rfl, w_nil ⟨small_ok (by show 2 ≤ 1000; decide), rfl, rfl⟩⟩)))⟩))))
  rw [filter_all]
  refine ⟨_, hdic, ?_⟩
  rw [merge_most hnd]
  refine w_cons (w_sub (w_var rfl (w_int ⟨locks, rfl, w_nil ⟨small_ok (by show 2 ≤ 1000; decide), ⟨_, rfl, ?_⟩⟩⟩)))
  show WSs _ _ [some (.tup [w, mach, rule, brk, sup, .tup (ts.map tD), locks]), z1, z2, some (.ref S.length), some locks, z5, z6] (S ++ [.dct (mostsC ts)]) _
  have ret : ∀ {q : Bool}, q = (locksB ts locks && (nilD locks || (eqI mach 1 && (strEq rule "fixed" && isTrueD brk)))) → RPost (fun x S' => x = .bl (locksB ts locks && (nilD locks || (eqI mach 1 && (strEq rule "fixed" && isTrueD brk)))) ∧ S' = S) (cutR S.length (.bl q) (S ++ [.dct (mostsC ts)])) := fun e => by
    subst e
    exact w_cutP hS rfl ⟨rfl, rfl⟩
  refine s_consW (s_iffW (t_orW (t_notW (t_isiW (w_var rfl ⟨_, isi_tupQ t7, ?_⟩)))))
  cases t7 with
  | tup hx hl =>
    rename_i k l
    have es : locksB ts (.tup l) = (decide ((l.length : Int) ≤ 6) && ((l.all (lockB ts)) && (ascB (l.map unL) && apartB (l.map unL)))) := rfl
    rw [es, all_two] at ret ⊢
    refine w_nit ?_
    refine t_orW (t_cmpW (w_bi (w_cons (w_var rfl (w_nil ⟨.int (l.length : Int), rfl, w_int ⟨decide ((6 : Int) < l.length), rfl, ?_⟩⟩)))))
    refine w_dec (fun q => ?_) (fun q => ?_)
    · refine w_ift (s_consW (s_retW (w_bl (ret ?_))))
      rw [decide_eq_false (show ¬ (l.length : Int) ≤ 6 by omega)]; rfl
    rw [decide_eq_true (show (l.length : Int) ≤ 6 by omega)] at ret ⊢
    refine t_bad (fun d => d) formL l hl (w_var rfl ⟨.inl (by rw [List.map_id']), rfl⟩) (fun a ha => ⟨_, rfl, w_formL (n := n + 3) (hx a ha) rfl⟩) ?_
    cases e1 : l.all formL with
    | false =>
      rw [e1] at ret
      exact w_nif (s_consW (s_retW (w_bl (ret rfl))))
    | true =>
    rw [e1] at ret
    refine w_nit (s_nilW ?_)
    refine s_consW (s_iffW (t_bad (fun d => d) (valL ts) l hl (w_var rfl ⟨.inl (by rw [List.map_id']), rfl⟩) (fun a ha => ⟨_, rfl, w_valL (n := n + 3) (cell1d _ _) (hx a ha) (List.all_eq_true.mp e1 a ha) rfl rfl⟩) ?_))
    cases e2 : l.all (valL ts) with
    | false =>
      rw [e2] at ret
      exact w_nif (s_consW (s_retW (w_bl (ret rfl))))
    | true =>
    rw [e2] at ret
    refine w_nit (s_nilW ?_)
    obtain ⟨ls, rfl, _⟩ := locks_of (ts := ts) (l := l) (by rw [all_two, e1, e2]; rfl)
    rw [unL_map] at ret ⊢
    have hls := th_locks hx
    rw [List.length_map] at hl
    -- ascending
    have hasc : ∀ {fr : Fr} {PB : Bool → Store → Prop}, fr = [some (.tup [w, mach, rule, brk, sup, .tup (ts.map tD), .tup (ls.map lkD)]), z1, z2, some (.ref S.length), some (.tup (ls.map lkD)), z5, z6] → PB (!ascB ls) (S ++ [.dct (mostsC ts)]) → WT (fnsAt pg wf (n + 4)) (.cmp .NotEq (.comp true [("k", 6)] (.v 6) (.range [.int 1, .bi .len [.var 4]]) [.cmp .LtE (.sub (.var 4) (.var 6)) (.sub (.var 4) (.bin .Sub (.var 6) (.int 1)))] (.var 6)) (.lst [])) fr (S ++ [.dct (mostsC ts)]) PB := fun {fr PB} hfr hP => by
      subst hfr
      refine t_cmpW (w_comp (w_range (w_cons (w_int (w_cons (w_bi (w_cons (w_var rfl (w_nil ⟨_, rfl, w_nil ⟨_, range_two _ _ (by omega) (by rw [List.length_map]; omega) (by omega) (by omega), ⟨_, rfl, ?_⟩⟩⟩)))))))))
      refine w_comp_pure (fun k : Nat => D.int (1 + (k : Nat))) (fun k => !ascAt ls k) (fun k => D.int (1 + (k : Nat))) (List.range (ls.length - 1)) (by rw [List.length_map, show ((ls.length : Int) - 1).toNat = ls.length - 1 by omega]) (by rw [List.length_range]; exact small_ok (by omega)) (fun k hk => ⟨_, rfl, of_w ?_, fun _ => rfl⟩) ?_
      · have hk := List.mem_range.mp hk
        have h1 := List.getElem?_eq_getElem (show k < ls.length by omega)
        have h2 := List.getElem?_eq_getElem (show k + 1 < ls.length by omega)
        have e1 : ∀ {T : Store}, subD T (.tup (ls.map lkD)) (.int (1 + (k : Int) - 1)) = some (lkD (ls[k]'(by omega))) := fun {T} => by
          rw [show (1 + (k : Int) - 1) = ((k : Nat) : Int) by omega]
          exact sub_at (at_lk h1)
        have e2 : ∀ {T : Store}, subD T (.tup (ls.map lkD)) (.int (1 + (k : Int))) = some (lkD (ls[k + 1]'(by omega))) := fun {T} => by
          rw [show (1 + (k : Int)) = ((k + 1 : Nat) : Int) by omega]
          exact sub_at (at_lk h2)
        refine ts_oneW (t_cmpW (w_sub (w_var rfl (w_var rfl ⟨_, e2, w_sub (w_var rfl (w_bin (w_var rfl (w_int ⟨_, rfl, ⟨_, e1, ⟨_, le_lks (hls _ (List.getElem_mem _)) (hls _ (List.getElem_mem _)), ?_⟩⟩⟩))))⟩))))
        rw [ascAt_eq h1 h2]
        exact ⟨rfl, rfl⟩
      · have hcm : Cmp 1 (.lst (((List.range (ls.length - 1)).filter fun k => !ascAt ls k).map fun k => D.int (1 + (k : Nat)))) := .lst fun x hx => by
          obtain ⟨_, _, rfl⟩ := List.mem_map.mp hx
          exact .int _
        refine w_lst (w_nil ⟨small_ok (by show 0 ≤ 1000; decide), ⟨_, b_neN hcm (by decide), ?_⟩⟩)
        rw [List.isEmpty_map, flt_all]
        exact hP
    refine s_consW (s_iffW (hasc rfl ?_))
    cases e3 : ascB ls with
    | false =>
      rw [e3] at ret
      exact w_nif (s_consW (s_retW (w_bl (ret rfl))))
    | true =>
    rw [e3] at ret
    refine w_nit (s_nilW ?_)
    refine cutS ?_
    refine apart_loop (n := n + 4) hls hl (fun q => ?_) (fun q z5 z6 => ?_)
    · rw [q] at ret ⊢
      exact ret rfl
    rw [q] at ret ⊢
    have hnil : nilD (.tup (ls.map lkD)) = (ls.map lkD).isEmpty := rfl
    rw [hnil] at ret ⊢
    subst hm
    subst hb
    refine s_consW (s_retW (w_orW (w_cmp (w_var rfl (w_tup (w_nil ⟨small_ok (by show 0 ≤ 1000; decide), ⟨_, b_eqT0' hx (by omega), ⟨_, rfl, ?_⟩⟩⟩))))))
    cases e10 : (ls.map lkD).isEmpty with
    | true =>
      rw [e10] at ret
      exact w_ift (ret rfl)
    | false =>
      rw [e10] at ret
      have e0 : eqI (.int mi) 1 = decide (mi = 1) := rfl
      rw [e0] at ret ⊢
      refine w_iff' ?_
      refine w_andW (w_cmp (w_sub (w_var rfl (w_int ⟨.int mi, rfl, w_int ⟨_, b_eqI, ⟨_, rfl, ?_⟩⟩⟩))))
      refine w_dec (fun q => ?_) (fun q => ?_)
      rotate_left
      · rw [decide_eq_false q] at ret ⊢
        exact ret rfl
      rw [decide_eq_true q] at ret ⊢
      refine w_andW (w_cmp (w_sub (w_var rfl (w_int ⟨rule, rfl, w_str ⟨_, b_eqTh t3 (by omega) (by decide +kernel), ⟨_, rfl, ?_⟩⟩⟩))))
      cases e1 : strEq rule "fixed" with
      | false =>
        rw [e1] at ret
        exact w_iff' (ret rfl)
      | true =>
        rw [e1] at ret
        refine w_ift ?_
        refine w_cmp (w_sub (w_var rfl (w_int ⟨.bl b, rfl, w_bl ⟨_, rfl, ?_⟩⟩)))
        refine ret ?_
        cases b <;> rfl
  | _ =>
    refine w_ift (w_ift ?_)
    exact s_consW (s_retW (w_bl (ret rfl)))

end k01

namespace k01
variable {wf n : Nat} {S : Store} {s : Sys}
theorem sup_no {l : List D} (h : ¬ (1 ≤ (l.length : Int) ∧ (l.length : Int) ≤ 12)) : supplyB (.tup l) = false := by
  have es : supplyB (.tup l) = ((decide (1 ≤ (l.length : Int)) && decide ((l.length : Int) ≤ 12)) && ((l.all fun d => betw d 0 1) && l.any oneB)) := rfl
  rw [es]
  rcases Classical.em (1 ≤ (l.length : Int)) with q | q
  · rw [decide_eq_false (fun q2 => h ⟨q, q2⟩), Bool.and_false]; rfl
  · rw [decide_eq_false q]; rfl
theorem sup_yes {l : List D} (h1 : 1 ≤ (l.length : Int)) (h2 : (l.length : Int) ≤ 12) : supplyB (.tup l) = ((l.all fun d => betw d 0 1) && l.any oneB) := by
  have es : supplyB (.tup l) = ((decide (1 ≤ (l.length : Int)) && decide ((l.length : Int) ≤ 12)) && ((l.all fun d => betw d 0 1) && l.any oneB)) := rfl
  rw [es, decide_eq_true h1, decide_eq_true h2]; rfl
theorem c_law_right {k : Nat} {d : D} (h : Th k d) (hk : k ≤ 20) (hS : Wf S) : (fnsAt pg wf (n + 5)).call i__law_right [d] S = .ok (.bl (sysB d)) S := by
  rw [call_at rfl]
  refine RPost.eq ?_
  refine w_fd rfl ?_
  unfold f__law_right
  walk_at "fr"
  cases h with
  | tup hx hl =>
    rename_i k l
    refine s_consW (s_iffW (t_orW (t_notW (t_isiW (w_var rfl ⟨true, rfl, ?_⟩)))))
    refine w_nit ?_
    refine t_orW (t_cmpW (w_bi (w_cons (w_var rfl (w_nil ⟨.int (l.length : Int), rfl, w_int ⟨_, b_neI, ?_⟩⟩)))))
    refine w_decn (fun hne => ?_) (fun h7 => ?_)
    · refine w_ift ?_
      repeat walk_at "w"
      exact ⟨congrArg D.bl (sysB_len hne).symm, rfl⟩
    obtain ⟨w, mach, rule, brk, sup, tasks, locks, rfl⟩ := seven h7
    have t1 := hx w (by simp)
    have t2 := hx mach (by simp)
    have t3 := hx rule (by simp)
    have t4 := hx brk (by simp)
    have t5 := hx sup (by simp)
    have t6 := hx tasks (by simp)
    have t7 := hx locks (by simp)
    have et : sysB (.tup [w, mach, rule, brk, sup, tasks, locks]) = (strEq w "system" && (betw mach 1 3 && (strIn rule rulesL && (isBlD brk && (supplyB sup && (tasksB tasks && (locksB (tasksD tasks) locks && (nilD locks || (eqI mach 1 && (strEq rule "fixed" && isTrueD brk)))))))))) := rfl
    rw [et]
    have no : ∀ {b : Bool}, b = false → RPost (fun x S' => x = .bl b ∧ S' = S) (cutR S.length (.bl false) S) := fun e => by
      subst e
      exact w_ret ⟨rfl, rfl⟩ rfl
    refine t_orW (t_notW (t_any (w_call (w_cons (w_sub (w_var rfl (w_int ⟨w, rfl, w_cons (w_str (w_nil (w_of (c_lstr (n := n + 3) t1 sys_ok) ⟨_, rfl, ?_⟩)))⟩)))))))
    cases e1 : strEq w "system" with
    | false => first | exact w_nif (w_ift (s_consW (s_retW (w_bl (no rfl))))) | exact w_nif (s_consW (s_retW (w_bl (no rfl))))
    | true =>
    refine w_nit ?_
    refine t_orW (t_notW (t_any (w_call (w_cons (w_sub (w_var rfl (w_int ⟨mach, rfl, w_cons (w_int (w_cons (w_int (w_nil (w_of (c_lwhole (n := n + 3) t2 1 3) ⟨_, rfl, ?_⟩)))))⟩)))))))
    cases e2 : betw mach 1 3 with
    | false => first | exact w_nif (w_ift (s_consW (s_retW (w_bl (no rfl))))) | exact w_nif (s_consW (s_retW (w_bl (no rfl))))
    | true =>
    refine w_nit ?_
    refine t_notW (t_isiW (w_sub (w_var rfl (w_int ⟨rule, rfl, ⟨_, isi_str t3, ?_⟩⟩))))
    cases e0 : strQ rule with
    | false =>
      rw [strIn_strQ e0]
      first | exact w_nif (w_ift (s_consW (s_retW (w_bl (no rfl))))) | exact w_nif (s_consW (s_retW (w_bl (no rfl))))
    | true =>
    refine w_nit (s_nilW ?_)
    refine s_consW (s_iffW (t_orW (t_cmpW (w_sub (w_var rfl (w_int ⟨rule, rfl, w_tup (w_cons (w_str (w_cons (w_str (w_cons (w_str (w_cons (w_str (w_nil ⟨small_ok (by show 4 ≤ 1000; decide), ⟨_, rules_in t3 (by omega), ?_⟩⟩)))))))))⟩))))))
    cases e3 : strIn rule rulesL with
    | false => first | exact w_ift (w_ift (s_consW (s_retW (w_bl (no rfl))))) | exact w_ift (s_consW (s_retW (w_bl (no rfl))))
    | true =>
    refine w_iff' ?_
    refine t_orW (t_notW (t_isiW (w_sub (w_var rfl (w_int ⟨brk, rfl, ⟨_, isi_bl t4, ?_⟩⟩)))))
    cases e4 : isBlD brk with
    | false => first | exact w_nif (w_ift (s_consW (s_retW (w_bl (no rfl))))) | exact w_nif (s_consW (s_retW (w_bl (no rfl))))
    | true =>
    refine w_nit ?_
    refine t_orW (t_notW (t_isiW (w_sub (w_var rfl (w_int ⟨sup, rfl, ⟨_, isi_tupQ t5, ?_⟩⟩)))))
    cases t5 with
    | tup hx5 hl5 =>
      rename_i k5 ls
      refine w_nit ?_
      refine t_notW (t_cmp2W (w_int (w_bi (w_cons (w_sub (w_var rfl (w_int ⟨.tup ls, rfl, w_nil ⟨.int (ls.length : Int), rfl, ⟨decide (1 ≤ (ls.length : Int)), rfl, ?_⟩⟩⟩)))))))
      refine w_dec (fun q1 => ?_) (fun q1 => ?_)
      rotate_left
      · refine w_nif (s_consW (s_retW (w_bl (no ?_))))
        rw [sup_no fun q => q1 q.1]; rfl
      refine w_int ⟨decide ((ls.length : Int) ≤ 12), rfl, ?_⟩
      refine w_decn (fun q2 => ?_) (fun q2 => ?_)
      · refine s_consW (s_retW (w_bl (no ?_)))
        rw [sup_no fun q => q2 q.2]; rfl
      rw [sup_yes q1 q2]
      refine s_nilW ?_
      refine s_consW (s_iffW (t_orW (t_bad (fun d => d) (fun d => betw d 0 1) ls hl5 (w_sub (w_var rfl (w_int ⟨_, rfl, .inl (by rw [List.map_id']), rfl⟩))) (fun a ha => ⟨_, rfl, ?_⟩) ?_)))
      · exact t_notW (t_any (w_call (w_cons (w_var rfl (w_cons (w_int (w_cons (w_int (w_nil (w_of (c_lwhole (n := n + 3) (hx5 a ha) 0 1) ⟨_, rfl, rfl, rfl⟩))))))))))
      cases e5 : ls.all fun d => betw d 0 1 with
      | false =>
        first | exact w_ift (w_ift (s_consW (s_retW (w_bl (no rfl))))) | exact w_ift (s_consW (s_retW (w_bl (no rfl))))
      | true =>
      refine w_iff' ?_
      refine t_orW (t_cmpW (w_int (w_sub (w_var rfl (w_int ⟨.tup ls, rfl, ⟨_, one_notin hx5 (by omega), ?_⟩⟩)))))
      cases e6 : ls.any oneB with
      | false =>
        first | exact w_ift (w_ift (s_consW (s_retW (w_bl (no rfl))))) | exact w_ift (s_consW (s_retW (w_bl (no rfl))))
      | true =>
      refine w_iff' ?_
      refine t_orW (t_notW (t_isiW (w_sub (w_var rfl (w_int ⟨tasks, rfl, ⟨_, isi_tupQ t6, ?_⟩⟩)))))
      cases t6 with
      | tup hx6 hl6 =>
        rename_i lt
        have e6 : tasksB (.tup lt) = (decide ((lt.length : Int) ≤ 6) && ((lt.all taskB) && decide (((nDup ((lt.map unT).map (·.nm)) : Nat) : Int) = lt.length))) := rfl
        have e6d : tasksD (.tup lt) = lt.map unT := rfl
        rw [e6, e6d]
        refine w_nit ?_
        refine t_cmpW (w_bi (w_cons (w_sub (w_var rfl (w_int ⟨.tup lt, rfl, w_nil ⟨.int (lt.length : Int), rfl, w_int ⟨decide ((6 : Int) < lt.length), rfl, ?_⟩⟩⟩)))))
        refine w_dec (fun q => ?_) (fun q => ?_)
        · rw [decide_eq_false (show ¬ (lt.length : Int) ≤ 6 by omega)]
          exact s_consW (s_retW (w_bl (no rfl)))
        rw [decide_eq_true (show (lt.length : Int) ≤ 6 by omega)]
        refine s_nilW ?_
        refine s_consW (s_iffW (t_orW (t_bad (fun d => d) taskB lt hl6 (w_sub (w_var rfl (w_int ⟨_, rfl, .inl (by rw [List.map_id']), rfl⟩))) (fun a ha => ⟨_, rfl, ?_⟩) ?_)))
        · exact t_notW (t_any (w_call (w_cons (w_var rfl (w_nil (w_of (c_law_task (n := n) (hx6 a ha) (by omega)) ⟨_, rfl, rfl, rfl⟩))))))
        cases e7 : lt.all taskB with
        | false =>
          first | exact w_ift (w_ift (s_consW (s_retW (w_bl (no rfl))))) | exact w_ift (s_consW (s_retW (w_bl (no rfl))))
        | true =>
        obtain ⟨ts, rfl, _⟩ := tasks_of e7
        rw [unT_map]
        rw [List.length_map] at hl6
        refine w_iff' (t_cmpW (set_names (n := n + 4) hl6 (fun d => rfl) (w_sub (w_var rfl (w_int ⟨_, rfl, rfl, rfl⟩))) ?_))
        refine w_bi (w_cons (w_sub (w_var rfl (w_int ⟨.tup (ts.map tD), rfl, w_nil ⟨.int ((ts.map tD).length : Int), rfl, ⟨_, b_neI, ?_⟩⟩⟩))))
        refine w_decn (fun q => ?_) (fun q => ?_)
        · rw [decide_eq_false q]
          exact s_consW (s_retW (w_bl (no rfl)))
        rw [decide_eq_true q]
        have hnd : (ts.map (·.nm)).Nodup := nodup_of (by rw [List.length_map] at q ⊢; omega)
        refine s_nilW ?_
        obtain ⟨mi, rfl, _⟩ := betw_int e2
        have hb : ∃ b, brk = .bl b := by
          cases brk with
          | bl b => exact ⟨b, rfl⟩
          | _ => cases e4
        obtain ⟨b, rfl⟩ := hb
        have q := right_locks (wf := wf) (S := S) (n := n) (w := w) (sup := .tup ls) (mi := mi) (b := b) hnd hl6 (show k5 + 1 ≤ 20 by omega) t3 t7 rfl rfl hS (z1 := none) (z2 := none) (z3 := none) (z4 := none) (z5 := none) (z6 := none)
        exact q.imp fun o S' _ h => by
          cases o with
          | ret d => exact h
          | _ => exact h.elim
      | _ =>
        exact w_nif (w_ift (s_consW (s_retW (w_bl (no rfl)))))
    | _ =>
      refine w_ift (w_ift ?_)
      exact s_consW (s_retW (w_bl (no rfl)))
  | _ =>
    repeat walk_at "w"
    exact ⟨rfl, rfl⟩

end k01

namespace k01
variable {wf n : Nat} {S : Store} {s : Sys}
def taskO (s : Sys) (x : Str) : D := match s.tasks.filter (fun t => t.nm == x) with
  | t :: _ => tD t
  | [] => .non
theorem c_task_of (h : s.Ok) {x : Str} (hx : PyData.strOk x = true) : (fnsAt pg wf (n + 2)).call i_task_of [sD s, .str x] S = .ok (taskO s x) S := by
  rw [call_at rfl]
  refine RPost.eq ?_
  refine w_fd rfl ?_
  unfold f_task_of
  walk_at "fr"
  refine s_consW (s_asgv (w_comp (w_call (w_cons (w_var rfl (w_nil (w_of (c_tasks_of (n := n)) ⟨_, rfl, ?_⟩)))))))
  refine w_comp_pure tD (fun t => t.nm == x) tD s.tasks rfl (few_tasks h) (fun t ht => ⟨_, rfl, of_w ?_, fun _ => rfl⟩) ?_
  · refine ts_oneW (t_cmpW (w_sub (w_var rfl (w_int ⟨.str t.nm, rfl, w_var rfl ⟨_, b_eqS (h.nmOk t ht).1 hx, rfl, rfl⟩⟩))))
  refine s_consW (s_retW (w_ite (t_any (w_var rfl ?_))))
  unfold taskO
  cases s.tasks.filter (fun t => t.nm == x) with
  | nil => exact ⟨false, rfl, w_iff' (w_non (w_ret ⟨rfl, rfl⟩ rfl))⟩
  | cons t l => exact ⟨true, rfl, w_ift (w_sub (w_var rfl (w_int ⟨tD t, atI_nat (j := 0) rfl, w_ret ⟨rfl, rfl⟩ rfl⟩)))⟩
def keepL (s : Sys) (ts : List Task) : List Lock := s.locks.filter fun l => decide (l.hi ≤ (mostOf ts l.nm).getD 0)
def wtD (s : Sys) (ts : List Task) (ls : List Lock) : D := .tup [.str "system", .int s.mach, .str s.rule, .bl s.brk, .tup (s.sup.map .int), .tup (ts.map tD), .tup (ls.map lkD)]
theorem wt_pure (s : Sys) (ts : List Task) (ls : List Lock) : (wtD s ts ls).pure = true := sd_pure ⟨s.mach, s.rule, s.brk, s.sup, ts, ls⟩
theorem sl5 {T : Store} : slcD T (sD s) none (some 5) = some (.tup [.str "system", .int s.mach, .str s.rule, .bl s.brk, .tup (s.sup.map .int)]) := rfl
theorem isDc1 (S : Store) (a : List (D × D)) : isDc (S ++ [.dct a]) (.ref S.length) = true := by
  show (cellD _ _).isSome = true
  rw [cell1d]; rfl
theorem few_locks (h : s.Ok) : s.locks.length ≤ sizeLine := small_ok (by have := h.fewl; omega)
theorem c_with_tasks (h : s.Ok) {ts : List Task} (hnd : (ts.map (·.nm)).Nodup) (hn : ts.length ≤ 1000) {it : D} (hit : it = .tup (ts.map tD) ∨ it = .lst (ts.map tD)) (hS : Wf S) : (fnsAt pg wf (n + 1)).call i_with_tasks [sD s, it] S = .ok (wtD s ts (keepL s ts)) S := by
  rw [call_at rfl]
  refine RPost.eq ?_
  refine w_fd rfl ?_
  unfold f_with_tasks
  walk_at "fr"
  refine s_consW (s_asgv (most_comp (ts := ts) hnd hn (fun d => rfl) (w_var rfl ⟨hit, rfl⟩) ?_))
  show WSs _ _ [some (sD s), some it, some (.ref S.length), none, none, none] (S ++ [.dct (mostsC ts)]) _
  refine s_consW (s_asgv (w_bi (w_cons (w_comp (w_sub (w_var rfl (w_int ⟨.tup (s.locks.map lkD), rfl, ⟨_, rfl, ?_⟩⟩)))))))
  refine w_comp_pure lkD (fun l => decide (l.hi ≤ (mostOf ts l.nm).getD 0)) lkD s.locks rfl (few_locks h) (fun l hl => ⟨_, rfl, of_w ?_, fun _ => rfl⟩) ?_
  · refine ts_oneW (t_cmpW (w_sub (w_var rfl (w_int ⟨.int l.hi, rfl, w_dget (w_var rfl ⟨isDc1 _ _, w_sub (w_var rfl (w_int ⟨.str l.nm, rfl, w_int ⟨_, ask_most (cell1d _ _) l.nm, ?_⟩⟩))⟩)⟩))))
    cases mostOf ts l.nm with
    | none => exact ⟨_, rfl, rfl, rfl⟩
    | some m => exact ⟨_, rfl, rfl, rfl⟩
  refine w_nil ⟨_, rfl, ?_⟩
  show WSs _ _ [some (sD s), some it, some (.ref S.length), none, some (.tup ((keepL s ts).map lkD)), none] (S ++ [.dct (mostsC ts)]) _
  refine s_consW (s_retW (w_bin (w_slc (w_var rfl (w_onone (w_osome (w_int ⟨_, rfl, ⟨_, sl5, ?_⟩⟩)))))))
  refine w_tup (w_cons (w_bi (w_cons (w_var rfl (w_nil ⟨.tup (ts.map tD), ?_, w_cons (w_var rfl (w_nil ⟨small_ok (by show 2 ≤ 1000; decide), ⟨_, b_addT (by show 5 + 2 ≤ 1000; decide), ?_⟩⟩))⟩)))))
  · rcases hit with rfl | rfl <;> rfl
  · exact w_cutP hS (wt_pure s ts (keepL s ts)) ⟨rfl, rfl⟩
theorem nm_th (h : s.Ok) {t : Task} (ht : t ∈ s.tasks) : Th 0 (.str t.nm) := .str (h.nmOk t ht).1 (by have := (h.nmOk t ht).2; omega)
theorem nd_sub {P : Task → Bool} (h : s.Ok) : ((s.tasks.filter P).map (·.nm)).Nodup := h.nd.sublist ((List.filter_sublist (p := P)).map _)
theorem len_sub {P : Task → Bool} (h : s.Ok) : (s.tasks.filter P).length ≤ 1000 := by
  have := h.few
  have := List.length_filter_le P s.tasks
  omega
theorem c_only (h : s.Ok) {ns : List Str} (hns : ∀ x ∈ ns, PyData.strOk x = true) (hS : Wf S) : (fnsAt pg wf (n + 2)).call i_only [sD s, .tup (ns.map .str)] S = .ok (wtD s (s.tasks.filter fun t => decide (t.nm ∈ ns)) (keepL s (s.tasks.filter fun t => decide (t.nm ∈ ns)))) S := by
  rw [call_at rfl]
  refine RPost.eq ?_
  refine w_fd rfl ?_
  unfold f_only
  walk_at "fr"
  refine s_consW (s_retW (w_call (w_cons (w_var rfl (w_cons (w_comp (w_call (w_cons (w_var rfl (w_nil (w_of (c_tasks_of (n := n)) ⟨_, rfl, ?_⟩)))))))))))
  refine w_comp_pure tD (fun t => decide (t.nm ∈ ns)) tD s.tasks rfl (few_tasks h) (fun t ht => ⟨_, rfl, of_w ?_, fun _ => rfl⟩) ?_
  · refine ts_oneW (t_cmpW (w_sub (w_var rfl (w_int ⟨.str t.nm, rfl, w_var rfl ⟨_, in_strsD (nm_th h ht) (by decide) hns, rfl, rfl⟩⟩))))
  · exact w_nil (w_of (c_with_tasks (n := n) h (nd_sub h) (len_sub h) (.inr rfl) hS) (w_ret ⟨rfl, rfl⟩ rfl))
theorem c_without (h : s.Ok) {ns : List Str} (hns : ∀ x ∈ ns, PyData.strOk x = true) (hS : Wf S) : (fnsAt pg wf (n + 2)).call i_without [sD s, .tup (ns.map .str)] S = .ok (wtD s (s.tasks.filter fun t => !decide (t.nm ∈ ns)) (keepL s (s.tasks.filter fun t => !decide (t.nm ∈ ns)))) S := by
  rw [call_at rfl]
  refine RPost.eq ?_
  refine w_fd rfl ?_
  unfold f_without
  walk_at "fr"
  refine s_consW (s_retW (w_call (w_cons (w_var rfl (w_cons (w_comp (w_call (w_cons (w_var rfl (w_nil (w_of (c_tasks_of (n := n)) ⟨_, rfl, ?_⟩)))))))))))
  refine w_comp_pure tD (fun t => !decide (t.nm ∈ ns)) tD s.tasks rfl (few_tasks h) (fun t ht => ⟨_, rfl, of_w ?_, fun _ => rfl⟩) ?_
  · refine ts_oneW (t_cmpW (w_sub (w_var rfl (w_int ⟨.str t.nm, rfl, w_var rfl ⟨_, notin_strsD (nm_th h ht) (by decide) hns, rfl, rfl⟩⟩))))
  · exact w_nil (w_of (c_with_tasks (n := n) h (nd_sub h) (len_sub h) (.inr rfl) hS) (w_ret ⟨rfl, rfl⟩ rfl))
theorem filter_one {ts : List Task} (hnd : (ts.map (·.nm)).Nodup) {t : Task} (ht : t ∈ ts) : ts.filter (fun u => u.nm == t.nm) = [t] := by
  induction ts with
  | nil => cases ht
  | cons u ts ih =>
    rw [List.map_cons, List.nodup_cons] at hnd
    rcases List.mem_cons.mp ht with rfl | ht
    · rw [List.filter_cons_of_pos (by simp)]
      have : ts.filter (fun u => u.nm == t.nm) = [] := List.filter_eq_nil_iff.mpr fun u hu e => hnd.1 (by rw [← eq_of_beq e]; exact List.mem_map_of_mem hu)
      rw [this]
    · rw [List.filter_cons_of_neg (fun e => hnd.1 (by rw [eq_of_beq e]; exact List.mem_map_of_mem ht))]
      exact ih hnd.2 ht
theorem taskO_in (h : s.Ok) {t : Task} (ht : t ∈ s.tasks) : taskO s t.nm = tD t := by
  unfold taskO
  rw [filter_one h.nd ht]
theorem c_with_order (h : s.Ok) {ts : List Task} (hts : ∀ t ∈ ts, t ∈ s.tasks) (hnd : (ts.map (·.nm)).Nodup) (hn : ts.length ≤ 1000) (hS : Wf S) : (fnsAt pg wf (n + 3)).call i_with_order [sD s, .tup ((ts.map (·.nm)).map .str)] S = .ok (wtD s ts (keepL s ts)) S := by
  rw [call_at rfl]
  refine RPost.eq ?_
  refine w_fd rfl ?_
  unfold f_with_order
  walk_at "fr"
  refine s_consW (s_retW (w_call (w_cons (w_var rfl (w_cons (w_comp (w_var rfl ⟨_, rfl, ?_⟩)))))))
  refine w_comp_pure (fun t : Task => D.str t.nm) (fun _ => true) tD ts (by rw [List.map_map]; rfl) (small_ok hn) (fun t ht => ⟨_, rfl, rfl, fun _ => of_w ?_⟩) ?_
  · refine w_call (w_cons (w_var rfl (w_cons (w_var rfl (w_nil (w_of (c_task_of (n := n) h (h.nmOk t (hts t ht)).1) ⟨taskO_in h (hts t ht), rfl⟩))))))
  · rw [filter_all]
    exact w_nil (w_of (c_with_tasks (n := n + 1) h hnd hn (.inr rfl) hS) (w_ret ⟨rfl, rfl⟩ rfl))

end k01

namespace k01
variable {wf n : Nat} {S : Store} {s : Sys}
def rowsC (ts : List Task) : List (D × D) := ts.map fun t => (.str t.nm, tD t)
theorem look_row (x : Str) : ∀ ts : List Task, lookD (rowsC ts) (.inr x) = (ts.find? fun t => decide (t.nm = x)).map tD
  | [] => rfl
  | t :: ts => by
    have ih := look_row x ts
    unfold lookD rowsC at ih ⊢
    rw [List.map_cons, List.find?_cons, List.find?_cons]
    show Option.map _ (match decide (t.nm = x) with | true => some (D.str t.nm, tD t) | false => _) = _
    cases decide (t.nm = x) with
    | true => rfl
    | false => exact ih
theorem find_in {ts : List Task} (hnd : (ts.map (·.nm)).Nodup) {t : Task} (ht : t ∈ ts) : (ts.find? fun u => decide (u.nm = t.nm)) = some t := by
  induction ts with
  | nil => cases ht
  | cons u ts ih =>
    rw [List.map_cons, List.nodup_cons] at hnd
    rcases List.mem_cons.mp ht with rfl | ht
    · rw [List.find?_cons_of_pos (by simp)]
    · rw [List.find?_cons_of_neg (fun e => hnd.1 (by rw [of_decide_eq_true e]; exact List.mem_map_of_mem ht))]
      exact ih hnd.2 ht
theorem ask_row {T : Store} {m : Nat} {ts : List Task} (hc : cellD T m = some (rowsC ts)) (hnd : (ts.map (·.nm)).Nodup) {t : Task} (ht : t ∈ ts) : askD T (.ref m) (.str t.nm) = some (some (tD t)) := by
  show ((cellD T m).bind fun l => (keyOf (.str t.nm)).map fun k => lookD l k) = _
  rw [hc]
  show some (lookD (rowsC ts) (.inr t.nm)) = _
  rw [look_row, find_in hnd ht]; rfl
theorem pairs_row : ∀ ts : List Task, pairsD (ts.map fun t => .tup [.str t.nm, tD t]) = some (ts.map fun t => ((.inr t.nm : Key), tD t))
  | [] => rfl
  | t :: ts => by
    show ((keyOf (.str t.nm)).bind fun k => (pairsD (ts.map fun t => .tup [.str t.nm, tD t])).map ((k, tD t) :: ·)) = _
    rw [pairs_row ts]; rfl
theorem merge_row {ts : List Task} (hnd : (ts.map (·.nm)).Nodup) : mergeD [] (ts.map fun t => ((.inr t.nm : Key), tD t)) = rowsC ts := by
  rw [merge_nd]
  · unfold rowsC
    rw [List.map_map]; rfl
  · rw [List.map_map]
    have h2 : (ts.map ((fun p : Key × D => p.1) ∘ fun t : Task => ((.inr t.nm : Key), tD t))) = (ts.map (·.nm)).map fun x => (.inr x : Key) := by rw [List.map_map]; rfl
    rw [h2]
    exact List.pairwise_map.mpr (List.Pairwise.imp (fun h e => h (by injection e)) hnd)
theorem lk_th (h : s.Ok) {l : Lock} (hl : l ∈ s.locks) : Th 0 (.str l.nm) := .str (h.lkOk l hl).1 (by have := (h.lkOk l hl).2.1; omega)
theorem in_tl {ns : List Str} (hns : ∀ x ∈ ns, PyData.strOk x = true) {d : D} (hd : d = .tup (ns.map .str) ∨ d = .lst (ns.map .str)) {x : Str} (h : Th 0 (.str x)) {T : Store} : cmpD .In T (.str x) d = some (decide (x ∈ ns)) := by
  rcases hd with rfl | rfl
  · exact in_strsD h (by decide) hns
  · cases h with
    | str h1 h2 => rw [in_strs h1 hns, any_mem]
theorem c_law_part (h : s.Ok) {ts : List Task} (hts : ∀ t ∈ ts, t ∈ s.tasks) (hn : ts.length ≤ 1000) {d : D} (hd : d = .tup ((ts.map (·.nm)).map .str) ∨ d = .lst ((ts.map (·.nm)).map .str)) (hS : Wf S) : (fnsAt pg wf (n + 1)).call i__law_part [sD s, d] S = .ok (wtD s ts (s.locks.filter fun l => decide (l.nm ∈ ts.map (·.nm)))) S := by
  have hns : ∀ x ∈ ts.map (·.nm), PyData.strOk x = true := fun x hx => by
    obtain ⟨t, ht, rfl⟩ := List.mem_map.mp hx
    exact (h.nmOk t (hts t ht)).1
  rw [call_at rfl]
  refine RPost.eq ?_
  refine w_fd rfl ?_
  unfold f__law_part
  walk_at "fr"
  refine s_consW (s_asgv (w_ddic (w_comp (w_sub (w_var rfl (w_int ⟨.tup (s.tasks.map tD), rfl, ⟨_, rfl, ?_⟩⟩))))))
  refine w_comp_pure tD (fun _ => true) (fun t => .tup [.str t.nm, tD t]) s.tasks rfl (few_tasks h) (fun t ht => ⟨_, rfl, rfl, fun _ => of_w ?_⟩) ?_
  · exact w_tup (w_cons (w_sub (w_var rfl (w_int ⟨.str t.nm, rfl, w_cons (w_var rfl (w_nil ⟨small_ok (by show 2 ≤ 1000; decide), rfl, rfl⟩))⟩))))
  rw [filter_all]
  refine ⟨_, (show (lstD S (.lst (s.tasks.map fun t => .tup [.str t.nm, tD t]))).bind pairsD = _ from pairs_row s.tasks), ?_⟩
  rw [merge_row h.nd]
  show WSs _ _ [some (sD s), some d, some (.ref S.length), none, none, none] (S ++ [.dct (rowsC s.tasks)]) _
  refine s_consW (s_retW (w_bin (w_slc (w_var rfl (w_onone (w_osome (w_int ⟨_, rfl, ⟨_, sl5, ?_⟩⟩)))))))
  refine w_tup (w_cons (w_bi (w_cons (w_comp (w_var rfl ⟨(ts.map (·.nm)).map .str, by rcases hd with rfl | rfl <;> rfl, ?_⟩)))))
  refine w_comp_pure (fun t : Task => D.str t.nm) (fun _ => true) tD ts (by rw [List.map_map]; rfl) (small_ok hn) (fun t ht => ⟨_, rfl, rfl, fun _ => of_w ?_⟩) ?_
  · exact w_dsub (w_var rfl (w_var rfl ⟨_, ask_row (cell1d _ _) h.nd (hts t ht), rfl, rfl⟩))
  rw [filter_all]
  refine w_nil ⟨.tup (ts.map tD), rfl, ?_⟩
  refine w_cons (w_bi (w_cons (w_comp (w_sub (w_var rfl (w_int ⟨.tup (s.locks.map lkD), rfl, ⟨_, rfl, ?_⟩⟩))))))
  refine w_comp_pure lkD (fun l => decide (l.nm ∈ ts.map (·.nm))) lkD s.locks rfl (few_locks h) (fun l hl => ⟨_, rfl, of_w ?_, fun _ => rfl⟩) ?_
  · refine ts_oneW (t_cmpW (w_sub (w_var rfl (w_int ⟨.str l.nm, rfl, w_var rfl ⟨_, in_tl hns hd (lk_th h hl), rfl, rfl⟩⟩))))
  refine w_nil ⟨_, rfl, w_nil ⟨small_ok (by show 2 ≤ 1000; decide), ⟨_, b_addT (by show 5 + 2 ≤ 1000; decide), ?_⟩⟩⟩
  exact w_cutP hS (wt_pure s ts _) ⟨rfl, rfl⟩
/-- a task put in its place, or behind -/
def putT (s : Sys) (r : Task) : List Task := if r.nm ∈ nms s then s.tasks.map (fun t => if t.nm == r.nm then r else t) else s.tasks ++ [r]
theorem put_nms (r : Task) : (putT s r).map (·.nm) = if r.nm ∈ nms s then nms s else nms s ++ [r.nm] := by
  unfold putT
  split
  · unfold nms
    rw [List.map_map]
    refine List.map_congr_left fun t _ => ?_
    show (if (t.nm == r.nm) = true then r else t).nm = t.nm
    split
    · rename_i q; exact (eq_of_beq q).symm
    · rfl
  · rw [List.map_append]; rfl
theorem put_nd (h : s.Ok) (r : Task) : ((putT s r).map (·.nm)).Nodup := by
  rw [put_nms]
  split
  · exact h.nd
  · rename_i q
    rw [List.nodup_append]
    refine ⟨h.nd, List.nodup_cons.mpr ⟨List.not_mem_nil, List.nodup_nil⟩, fun a ha b hb e => ?_⟩
    rw [List.mem_singleton] at hb
    exact q (by rw [← hb, ← e]; exact ha)
theorem put_len (h : s.Ok) (r : Task) : (putT s r).length ≤ 1000 := by
  have := h.few
  unfold putT
  split
  · rw [List.length_map]; omega
  · rw [List.length_append]; show s.tasks.length + 1 ≤ 1000; omega
theorem c_with_task (h : s.Ok) {r : Task} (hr : PyData.strOk r.nm = true) (hS : Wf S) : (fnsAt pg wf (n + 3)).call i_with_task [sD s, tD r] S = .ok (wtD s (putT s r) (keepL s (putT s r))) S := by
  rw [call_at rfl]
  refine RPost.eq ?_
  refine w_fd rfl ?_
  unfold f_with_task
  walk_at "fr"
  refine s_consW (s_iffW (t_cmpW (w_call (w_cons (w_var rfl (w_cons (w_sub (w_var rfl (w_int ⟨.str r.nm, rfl, w_nil (w_of (c_task_of (n := n) h hr) (w_non ?_))⟩)))))))))
  rcases Classical.em (r.nm ∈ nms s) with q | q
  · obtain ⟨t, ht, e⟩ := List.mem_map.mp q
    have e2 : taskO s r.nm = tD t := by rw [← e]; exact taskO_in h ht
    rw [e2]
    refine ⟨false, rfl, w_iff' (s_nilW ?_)⟩
    refine s_consW (s_retW (w_call (w_cons (w_var rfl (w_cons (w_comp (w_call (w_cons (w_var rfl (w_nil (w_of (c_tasks_of (n := n + 1)) ⟨_, rfl, ?_⟩)))))))))))
    refine w_comp_pure tD (fun _ => true) (fun t => tD (if t.nm == r.nm then r else t)) s.tasks rfl (few_tasks h) (fun t ht => ⟨_, rfl, rfl, fun _ => of_w ?_⟩) ?_
    · refine w_ite (t_cmpW (w_sub (w_var rfl (w_int ⟨.str t.nm, rfl, w_sub (w_var rfl (w_int ⟨.str r.nm, rfl, ⟨_, b_eqS (h.nmOk t ht).1 hr, ?_⟩⟩))⟩))))
      refine w_bool (fun e => ?_) (fun e => ?_)
      · rw [e]; exact w_var rfl ⟨rfl, rfl⟩
      · rw [e]; exact w_var rfl ⟨rfl, rfl⟩
    · rw [filter_all]
      have ep : putT s r = s.tasks.map (fun t => if t.nm == r.nm then r else t) := if_pos q
      exact w_nil (w_of (c_with_tasks (n := n + 1) h (put_nd h r) (put_len h r) (.inr (by rw [ep, List.map_map]; rfl)) hS) (w_ret ⟨rfl, rfl⟩ rfl))
  · have e2 : taskO s r.nm = .non := by
      unfold taskO
      have : s.tasks.filter (fun t => t.nm == r.nm) = [] := List.filter_eq_nil_iff.mpr fun u hu e => q (by rw [← eq_of_beq e]; exact List.mem_map_of_mem hu)
      rw [this]
    rw [e2]
    refine ⟨true, rfl, w_ift ?_⟩
    have hf := h.few
    refine s_consW (s_retW (w_call (w_cons (w_var rfl (w_cons (w_bin (w_call (w_cons (w_var rfl (w_nil (w_of (c_tasks_of (n := n + 1)) ?_)))))))))))
    refine w_tup (w_cons (w_var rfl (w_nil ⟨small_ok (by show 1 ≤ 1000; decide), ⟨_, b_addT (by rw [List.length_map]; show s.tasks.length + 1 ≤ 1000; omega), ?_⟩⟩)))
    have ep : putT s r = s.tasks ++ [r] := if_neg q
    exact w_nil (w_of (c_with_tasks (n := n + 1) h (put_nd h r) (put_len h r) (.inl (by rw [ep, List.map_append]; rfl)) hS) (w_ret ⟨rfl, rfl⟩ rfl))

end k01

namespace k01
variable {wf n : Nat} {S : Store} {s : Sys}
theorem most_in {ts : List Task} (hnd : (ts.map (·.nm)).Nodup) {t : Task} (ht : t ∈ ts) : mostOf ts t.nm = some t.most := by
  unfold mostOf
  rw [find_in hnd ht]; rfl
theorem most_out {ts : List Task} {x : Str} (h : ¬ x ∈ ts.map (·.nm)) : mostOf ts x = none := by
  unfold mostOf
  have : (ts.find? fun t => decide (t.nm = x)) = none := List.find?_eq_none.mpr fun t ht e => h (by rw [← of_decide_eq_true e]; exact List.mem_map_of_mem ht)
  rw [this]; rfl
theorem same_nm (h : s.Ok) {t u : Task} (ht : t ∈ s.tasks) (hu : u ∈ s.tasks) (e : t.nm = u.nm) : t = u := by
  have a := find_in h.nd ht
  have b := find_in h.nd hu
  rw [e] at a
  exact Option.some.inj (a.symm.trans b)
theorem keep_part (h : s.Ok) {ts : List Task} (hts : ∀ t ∈ ts, t ∈ s.tasks) (hnd : (ts.map (·.nm)).Nodup) : keepL s ts = s.locks.filter fun l => decide (l.nm ∈ ts.map (·.nm)) := by
  unfold keepL
  refine List.filter_congr fun l hl => ?_
  obtain ⟨t, ht, e, p1, p2, p3⟩ := h.lock l hl
  rcases Classical.em (l.nm ∈ ts.map (·.nm)) with q | q
  · rw [decide_eq_true q]
    obtain ⟨u, hu, e2⟩ := List.mem_map.mp q
    have : u = t := same_nm h (hts u hu) ht (by rw [e2, e])
    subst this
    rw [← e2, most_in hnd hu]
    exact decide_eq_true p3
  · rw [decide_eq_false q, most_out q]
    exact decide_eq_false (by show ¬ l.hi ≤ 0; omega)
theorem most_put (h : s.Ok) {r : Task} {x : Str} (hx : ¬ x = r.nm) : mostOf (putT s r) x = mostOf s.tasks x := by
  unfold mostOf putT
  congr 1
  split
  · have key : ∀ ts : List Task, ((ts.map fun t => if (t.nm == r.nm) = true then r else t).find? fun t => decide (t.nm = x)) = ts.find? fun t => decide (t.nm = x) := by
      intro ts
      induction ts with
      | nil => rfl
      | cons t ts ih =>
        rw [List.map_cons, List.find?_cons, List.find?_cons, ih]
        cases e : t.nm == r.nm with
        | true =>
          rw [if_pos rfl, decide_eq_false (fun q => hx q.symm), decide_eq_false (fun q => hx (by rw [← q]; exact eq_of_beq e))]
        | false => rw [if_neg (by decide)]
    exact key s.tasks
  · rw [List.find?_append, List.find?_cons, decide_eq_false (fun q => hx q.symm)]
    show (s.tasks.find? _).or none = _
    rw [Option.or_none]
theorem put_mem {r : Task} : r ∈ putT s r := by
  unfold putT
  split
  · rename_i q
    obtain ⟨t, ht, e⟩ := List.mem_map.mp q
    exact List.mem_map.mpr ⟨t, ht, by rw [if_pos (by rw [e]; simp)]⟩
  · exact List.mem_append.mpr (.inr (List.mem_singleton.mpr rfl))
theorem keep_put (h : s.Ok) {r : Task} (hm : r.most = 1) : keepL s (putT s r) = s.locks.filter fun l => (!(l.nm == r.nm)) || decide (l.hi ≤ 1) := by
  unfold keepL
  refine List.filter_congr fun l hl => ?_
  rcases Classical.em (l.nm = r.nm) with q | q
  · rw [q, most_in (put_nd h r) put_mem, hm, beq_self_eq_true]; rfl
  · rw [most_put h q, (beq_eq_false_iff_ne (a := l.nm) (b := r.nm)).mpr q]
    obtain ⟨t, ht, e, p1, p2, p3⟩ := h.lock l hl
    rw [← e, most_in h.nd ht]
    exact decide_eq_true p3
theorem sub_filter {l ts : List Task} (h : ts.Sublist l) : (l.map (·.nm)).Nodup → l.filter (fun t => decide (t.nm ∈ ts.map (·.nm))) = ts := by
  induction h with
  | slnil => exact fun _ => rfl
  | cons t h ih =>
    intro hnd
    rw [List.map_cons, List.nodup_cons] at hnd
    refine Eq.trans (List.filter_cons_of_neg ?_) (ih hnd.2)
    exact fun e => hnd.1 ((h.map _).subset (of_decide_eq_true e))
  | cons_cons t h ih =>
    intro hnd
    rw [List.map_cons, List.nodup_cons] at hnd
    refine Eq.trans (List.filter_cons_of_pos ?_) (congrArg (t :: ·) ?_)
    · exact decide_eq_true (by rw [List.map_cons]; exact List.mem_cons_self)
    refine Eq.trans (List.filter_congr fun u hu => ?_) (ih hnd.2)
    rw [List.map_cons]
    refine decide_eq_decide.mpr ⟨fun q => ?_, fun q => List.mem_cons_of_mem _ q⟩
    rcases List.mem_cons.mp q with q | q
    · exact absurd (by rw [← q]; exact List.mem_map_of_mem hu) hnd.1
    · exact q
theorem lk_task {t : Task} (h1 : PyData.strOk t.nm = true ∧ t.nm.length ≤ 1000) (h2 : PyData.strOk t.kind = true ∧ t.kind.length ≤ 1000) : Lk 1 (tD t) := .tup (fun x hx => by
  simp only [List.mem_cons, List.not_mem_nil, or_false] at hx
  rcases hx with rfl | rfl | rfl | rfl | rfl | rfl | rfl
  · exact .str h1.1 h1.2
  · exact .str h2.1 h2.2
  · exact .int _
  · exact .int _
  · exact .int _
  · exact .int _
  · exact .int _) (by show 7 ≤ 5000; decide)
theorem kind_ok (h : s.Ok) {t : Task} (ht : t ∈ s.tasks) : PyData.strOk t.kind = true ∧ t.kind.length ≤ 1000 := by
  rcases (h.task t ht).kind with e | e <;> rw [e] <;> exact ⟨by decide +kernel, by decide⟩
theorem lk_task_in (h : s.Ok) {t : Task} (ht : t ∈ s.tasks) : Lk 1 (tD t) := lk_task ⟨(h.nmOk t ht).1, by have := (h.nmOk t ht).2; omega⟩ (kind_ok h ht)
theorem lk_lock (h : s.Ok) {l : Lock} (hl : l ∈ s.locks) : Lk 1 (lkD l) := .tup (fun x hx => by
  have p := h.lkOk l hl
  simp only [List.mem_cons, List.not_mem_nil, or_false] at hx
  rcases hx with rfl | rfl | rfl | rfl
  · exact .str p.1 (by have := p.2.1; omega)
  · exact .str p.2.2.1 (by have := p.2.2.2; omega)
  · exact .int _
  · exact .int _) (by show 4 ≤ 5000; decide)
theorem lk_wt (h : s.Ok) {ts : List Task} (hts : ∀ t ∈ ts, Lk 1 (tD t)) (hn : ts.length ≤ 1000) (P : Lock → Bool) : Lk 3 (wtD s ts (s.locks.filter P)) := .tup (fun x hx => by
  simp only [List.mem_cons, List.not_mem_nil, or_false] at hx
  rcases hx with rfl | rfl | rfl | rfl | rfl | rfl | rfl
  · exact .str sys_ok (by decide)
  · exact .int _
  · exact .str (by rcases h.rule with e | e | e | e <;> rw [e] <;> decide +kernel) (by rcases h.rule with e | e | e | e <;> rw [e] <;> decide)
  · exact .bl _
  · exact .tup (fun x hx => by
      obtain ⟨i, _, rfl⟩ := List.mem_map.mp hx
      exact .int _) (by rw [List.length_map]; have := h.sup; omega)
  · exact .tup (fun x hx => by
      obtain ⟨t, ht, rfl⟩ := List.mem_map.mp hx
      exact hts t ht) (by rw [List.length_map]; omega)
  · exact .tup (fun x hx => by
      obtain ⟨l, hl, rfl⟩ := List.mem_map.mp hx
      exact lk_lock h (List.mem_filter.mp hl).1) (by
        rw [List.length_map]
        have := List.length_filter_le P s.locks
        have := h.fewl
        omega)) (by show 7 ≤ 5000; decide)

end k01

namespace k01
variable {wf n : Nat} {S : Store} {s : Sys}
/-- what is changed, with truth values -/
inductive Nc : Nat → D → Prop where
  | int {k : Nat} (i : Int) : Nc k (.int i)
  | bl {k : Nat} (b : Bool) : Nc k (.bl b)
  | non {k : Nat} : Nc k .non
  | str {k : Nat} {x : Str} (h : PyData.strOk x = true) (hl : x.length ≤ 1000) : Nc k (.str x)
  | tup {k : Nat} {l : List D} (h : ∀ x ∈ l, Nc k x) (hl : l.length ≤ 100) : Nc (k + 1) (.tup l)
theorem Nc.th : ∀ {k : Nat} {d : D}, Nc k d → Th k d
  | _, _, .int i => .int i
  | _, _, .bl b => .bl b
  | _, _, .non => .non
  | _, _, .str h hl => .str h hl
  | _, _, .tup h hl => .tup (fun x hx => (h x hx).th) (by omega)
theorem w_other {ds : List Int} {a : Int} {R : Store} {k : Nat} {d : D} (hd : Nc k d) (ha : 0 ≤ a) {P : D → Store → Prop} (h : ∀ d' a', Th (k + 1) d' → 0 ≤ a' → P d' (bxc ds a' :: R)) : RPost P ((fnsAt pg wf (n + 2)).call i__law_other [.ref 0, d] (bxc ds a :: R)) := by
  rw [call_at rfl]
  refine w_fd rfl ?_
  unfold f__law_other
  walk_at "fr"
  have sE : ∀ z ∈ (["a", "b", "c", "end", "any", "each", "fixed", "nearest", "A", "", "x y", "states", "late", "l"] : List Str), PyData.strOk z = true ∧ z.length ≤ 1000 := by decide +kernel
  cases hd with
  | int i =>
    repeat walk_at "w"
    refine w_draw ha (by decide) fun v p q => ?_
    obtain ⟨x, hx, e⟩ := sub_in (S := bxc ds (a + 1) :: R) (l := [.int (i + 1), .int (i - 1), .int (0 - i), .bl true, .non, .int 0, .int 100]) p (by simpa using q)
    refine ⟨_, e, ?_⟩
    refine w_ret (h _ _ ?_ (by omega)) rfl
    simp only [List.mem_cons, List.not_mem_nil, or_false] at hx
    rcases hx with rfl | rfl | rfl | rfl | rfl | rfl | rfl <;> first | exact .int _ | exact .bl _ | exact .non
  | bl b =>
    cases b with
    | true =>
      repeat walk_at "w"
      refine w_draw ha (by decide) fun v p q => ?_
      obtain ⟨x, hx, e⟩ := sub_in (S := bxc ds (a + 1) :: R) (l := [.int 2, .int 0, .int (-1), .bl true, .non, .int 0, .int 100]) p (by simpa using q)
      refine ⟨_, e, ?_⟩
      refine w_ret (h _ _ ?_ (by omega)) rfl
      simp only [List.mem_cons, List.not_mem_nil, or_false] at hx
      rcases hx with rfl | rfl | rfl | rfl | rfl | rfl | rfl <;> first | exact .int _ | exact .bl _ | exact .non
    | false =>
      repeat walk_at "w"
      refine w_draw ha (by decide) fun v p q => ?_
      obtain ⟨x, hx, e⟩ := sub_in (S := bxc ds (a + 1) :: R) (l := [.int 1, .int (-1), .int 0, .bl true, .non, .int 0, .int 100]) p (by simpa using q)
      refine ⟨_, e, ?_⟩
      refine w_ret (h _ _ ?_ (by omega)) rfl
      simp only [List.mem_cons, List.not_mem_nil, or_false] at hx
      rcases hx with rfl | rfl | rfl | rfl | rfl | rfl | rfl <;> first | exact .int _ | exact .bl _ | exact .non
  | non =>
    repeat walk_at "w"
    refine w_draw ha (by decide) fun v p q => ?_
    obtain ⟨x, hx, e⟩ := sub_in (S := bxc ds (a + 1) :: R) (l := [.int 0, .str "", .tup []]) p (by simpa using q)
    refine ⟨_, e, ?_⟩
    refine w_ret (h _ _ ?_ (by omega)) rfl
    simp only [List.mem_cons, List.not_mem_nil, or_false] at hx
    rcases hx with rfl | rfl | rfl
    · exact .int _
    · exact .str (sE _ (by simp)).1 (sE _ (by simp)).2
    · exact .tup (fun x hx => by cases hx) (by simp)
  | str hs hl =>
    repeat walk_at "w"
    refine w_draw ha (by decide) fun v p q => ?_
    obtain ⟨x, hx, e⟩ := sub_in (S := bxc ds (a + 1) :: R) (l := [.str "a", .str "b", .str "c", .str "end", .str "any", .str "each", .str "fixed", .str "nearest", .str "A", .str "", .str "x y", .non, .str "states", .str "late", .str "l"]) p (by simpa using q)
    refine ⟨_, e, ?_⟩
    refine w_ret (h _ _ ?_ (by omega)) rfl
    simp only [List.mem_cons, List.not_mem_nil, or_false] at hx
    rcases hx with rfl | rfl | rfl | rfl | rfl | rfl | rfl | rfl | rfl | rfl | rfl | rfl | rfl | rfl | rfl <;> first | exact .non | exact .str (sE _ (by simp)).1 (sE _ (by simp)).2
  | tup hx hl =>
    rename_i k l
    have hth : ∀ x ∈ l, Th k x := fun x hm => (hx x hm).th
    repeat walk_at "w"
    refine w_comp_pure (fun j : Nat => D.int (j : Nat)) (fun _ => true) (fun j => (l[l.length - 1 - j]?).getD .non) (List.range l.length) (by rw [Int.toNat_natCast]) (by rw [List.length_range]; exact small_ok (by omega)) (fun j hj => ⟨_, rfl, rfl, fun _ => of_w ?_⟩) ?_
    · have hj := List.mem_range.mp hj
      repeat walk_at "w"
      rw [show ((l.length : Int) - 1 - (j : Nat)) = ((l.length - 1 - j : Nat) : Int) by omega]
      have hg := List.getElem?_eq_getElem (show l.length - 1 - j < l.length by omega)
      refine ⟨_, sub_at hg, ?_⟩
      rw [hg]
      exact ⟨rfl, rfl⟩
    · rw [filter_all]
      have hbh : ∀ x ∈ (List.range l.length).map (fun j => (l[l.length - 1 - j]?).getD .non), Th k x := fun x hm => by
        obtain ⟨j, hj, rfl⟩ := List.mem_map.mp hm
        have hj := List.mem_range.mp hj
        rw [List.getElem?_eq_getElem (show l.length - 1 - j < l.length by omega)]
        exact hth _ (List.getElem_mem _)
      have hbl : ((List.range l.length).map (fun j => (l[l.length - 1 - j]?).getD D.non)).length ≤ 1000 := by rw [List.length_map, List.length_range]; omega
      generalize (List.range l.length).map (fun j => (l[l.length - 1 - j]?).getD D.non) = bh at hbh hbl
      have hc1 := cutD_len l none (some 1)
      repeat walk_at "w"
      refine ⟨_, b_addT (by omega), ?_⟩
      repeat walk_at "w"
      refine w_draw ha (by decide) fun v p q => ?_
      obtain ⟨x, hx2, e⟩ := sub_in (S := bxc ds (a + 1) :: R) (l := [.lst l, .tup (l ++ cutD l none (some 1)), .tup (cutD l (some 1) none), .non, .tup [], .tup bh]) p (by simpa using q)
      refine ⟨_, e, ?_⟩
      refine w_ret (h _ _ ?_ (by omega)) rfl
      simp only [List.mem_cons, List.not_mem_nil, or_false] at hx2
      rcases hx2 with rfl | rfl | rfl | rfl | rfl | rfl
      · exact .le (.lst hth (by omega)) (by omega)
      · refine .le (.tup (fun x hm => ?_) (by rw [List.length_append]; omega)) (Nat.le_succ _)
        rcases List.mem_append.mp hm with hm | hm
        · exact hth x hm
        · exact hth x (cutD_mem hm)
      · refine .le (.tup (fun x hm => hth x (cutD_mem hm)) ?_) (Nat.le_succ _)
        have := cutD_len l (some 1) none
        omega
      · exact .non
      · exact .tup (fun x hx => by cases hx) (by simp)
      · exact .le (.tup hbh hbl) (Nat.le_succ _)
theorem b_eqT0 {S : Store} {l : List D} {k : Nat} (h : Cmp k (.tup l)) (hk : k ≤ 64) : cmpD .Eq S (.tup l) (.tup []) = some l.isEmpty := by
  rw [eq_of_cmp h (Cmp.tup (k := 0) (l := []) fun _ h => by cases h) hk (by decide) rfl rfl]
  show some (PyData.eqv (.tuple (D.pyL l)) (.tuple [])) = _
  cases l with
  | nil => simp [D.pyL, PyData.eqv, PyData.eqvAll]
  | cons => simp [D.pyL, PyData.eqv, PyData.eqvAll]
theorem w_changed {ds : List Int} {R : Store} : ∀ (k : Nat) {a : Int} {d : D}, k ≤ 20 → Nc k d → 0 ≤ a → ∀ (m : Nat) {P : D → Store → Prop}, (∀ d' a', Th (k + 1) d' → 0 ≤ a' → P d' (bxc ds a' :: R)) → RPost P ((fnsAt pg wf (m + k + 3)).call i__law_changed [.ref 0, d] (bxc ds a :: R)) := by
  intro k
  induction k with
  | zero =>
    intro a d hk hd ha m P h
    rw [call_at rfl]
    refine w_fd rfl ?_
    unfold f__law_changed
    walk_at "fr"
    cases hd with
    | int i => (repeat walk_at "w"); exact w_other (n := m) (.int i) ha fun d' a' h1 h2 => w_ret (h _ _ h1 h2) rfl
    | bl b => (repeat walk_at "w"); exact w_other (n := m) (.bl b) ha fun d' a' h1 h2 => w_ret (h _ _ h1 h2) rfl
    | non => (repeat walk_at "w"); exact w_other (n := m) .non ha fun d' a' h1 h2 => w_ret (h _ _ h1 h2) rfl
    | str hs hl => (repeat walk_at "w"); exact w_other (n := m) (.str hs hl) ha fun d' a' h1 h2 => w_ret (h _ _ h1 h2) rfl
  | succ k ih =>
    intro a d hk hd ha m P h
    rw [call_at rfl]
    refine w_fd rfl ?_
    unfold f__law_changed
    walk_at "fr"
    cases hd with
    | int i => (repeat walk_at "w"); exact w_other (n := m + (k + 1)) (k := k + 1) (.int i) ha fun d' a' h1 h2 => w_ret (h _ _ h1 h2) rfl
    | bl b => (repeat walk_at "w"); exact w_other (n := m + (k + 1)) (k := k + 1) (.bl b) ha fun d' a' h1 h2 => w_ret (h _ _ h1 h2) rfl
    | non => (repeat walk_at "w"); exact w_other (n := m + (k + 1)) (k := k + 1) .non ha fun d' a' h1 h2 => w_ret (h _ _ h1 h2) rfl
    | str hs hl => (repeat walk_at "w"); exact w_other (n := m + (k + 1)) (k := k + 1) (.str hs hl) ha fun d' a' h1 h2 => w_ret (h _ _ h1 h2) rfl
    | tup hx hl =>
      rename_i l
      have hN : Nc (k + 1) (.tup l) := .tup hx hl
      repeat walk_at "w"
      refine ⟨_, b_eqT0 hN.th.cmp (by omega), ?_⟩
      cases l with
      | nil =>
        refine w_ift (w_ift ?_)
        repeat walk_at "w"
        exact w_other (n := m + (k + 1)) hN ha fun d' a' h1 h2 => w_ret (h _ _ h1 h2) rfl
      | cons x0 xs =>
        refine w_iff' ?_
        repeat walk_at "w"
        refine w_draw ha (by decide) fun v p q => ?_
        repeat walk_at "w"
        refine w_dec (fun hz => ?_) (fun hz => ?_)
        · repeat walk_at "w"
          exact w_other (n := m + (k + 1)) hN (by omega) fun d' a' h1 h2 => w_ret (h _ _ h1 h2) rfl
        · generalize hL : x0 :: xs = l at hx hl hN ⊢
          have hl0 : 0 < l.length := by rw [← hL]; simp
          clear hL
          repeat walk_at "w"
          refine w_draw (by omega) (by decide) fun v2 p2 q2 => ?_
          repeat walk_at "w"
          have hm0 := Int.emod_nonneg v2 (show (l.length : Int) ≠ 0 by omega)
          have hm1 := Int.emod_lt_of_pos v2 (show (0 : Int) < l.length by omega)
          generalize v2 % (l.length : Int) = at_ at hm0 hm1
          obtain ⟨j, rfl⟩ : ∃ j : Nat, at_ = j := ⟨at_.toNat, by omega⟩
          have hj : j < l.length := by omega
          refine ⟨_, sub_at (List.getElem?_eq_getElem hj), ?_⟩
          repeat walk_at "w"
          rw [show m + (k + 1) + 2 = m + k + 3 from by omega]
          refine ih (by omega) (hx _ (List.getElem_mem hj)) (by omega) m fun d' a' h1 h2 => ?_
          have hc1 := cutD_len l none (some (j : Nat))
          have hc2 := cutD_len l (some ((j : Nat) + 1)) none
          repeat walk_at "w"
          refine h _ _ (.tup (fun y hy => ?_) (by rw [List.length_append, List.length_append]; show (cutD l none (some (j : Nat))).length + 1 + (cutD l (some ((j : Nat) + 1)) none).length ≤ 1000; omega)) h2
          rcases List.mem_append.mp hy with hy | hy
          · rcases List.mem_append.mp hy with hy | hy
            · exact (hx y (cutD_mem hy)).th.le (by omega)
            · rw [List.mem_singleton] at hy
              subst hy
              exact h1
          · exact (hx y (cutD_mem hy)).th.le (by omega)

end k01

namespace k01
variable {wf n : Nat} {S : Store} {s : Sys}
theorem nDup_nd : ∀ (k : Nat) (l : List Str), l.length = k → l.Nodup → nDup l = k := by
  intro k
  induction k with
  | zero => intro l h _; rw [List.length_eq_zero_iff.mp h]; rfl
  | succ k ih =>
    intro l hl hd
    have hne : l ≠ [] := by rintro rfl; simp at hl
    rw [← List.dropLast_concat_getLast hne] at hd ⊢
    rw [nDup_snoc]
    obtain ⟨h1, h2, h3⟩ := List.nodup_append.mp hd
    rw [ih l.dropLast (by rw [List.length_dropLast]; omega) h1]
    rw [if_neg]
    intro e
    obtain ⟨y, hy, e⟩ := List.any_eq_true.mp e
    exact h3 y hy _ (List.mem_singleton.mpr rfl) (by simpa using e)
theorem betw_ok {i lo hi : Int} (h1 : lo ≤ i) (h2 : i ≤ hi) : betw (.int i) lo hi = true := by
  show (decide (lo ≤ i) && decide (i ≤ hi)) = true
  rw [decide_eq_true h1, decide_eq_true h2]; rfl
theorem abc_word {x : Str} (h : x ∈ abc) : wordOk x = true := by
  have : ∀ x ∈ abc, wordOk x = true := by decide +kernel
  exact this x h
theorem l_word : wordOk "l" = true := by decide +kernel
theorem task_drawn (h : s.Ok) (q : Drawn 3 6 s) {t : Task} (ht : t ∈ s.tasks) : taskB (tD t) = true := by
  have hk := h.task t ht
  have e : taskB (tD t) = ((wordOk t.nm && decide (t.kind ∈ (["each", "any"] : List Str))) && ((betw (.int t.off) 0 (if (t.kind == each) = true then 20 else 0) && betw (.int t.gap) 1 20) && (betw (.int t.due) 1 t.gap && (betw (.int t.most) 1 t.due && betw (.int t.least) 1 t.most)))) := rfl
  have h1 := hk.gap
  have h2 := hk.due
  have h3 := hk.most
  have h4 := hk.off
  rw [e, abc_word (q.abc t ht), decide_eq_true (by rcases hk.kind with e | e <;> rw [e] <;> decide), betw_ok h1.1 h1.2, betw_ok h2.1 h2.2, betw_ok (show 1 ≤ t.most by omega) h3.2.2, betw_ok h3.1 h3.2.1]
  rcases q.off0 t ht with ⟨q1, q2⟩ | ⟨q1, q2⟩
  · rw [q1, if_pos rfl, betw_ok h4.1 q2]; rfl
  · rw [q1, if_neg (by decide), betw_ok h4.1 (show t.off ≤ 0 by omega)]; rfl
theorem lt_names {a b : Lock} (h : ¬ a.nm = b.nm) : ltL a b = decide (a.nm.cps.toList < b.nm.cps.toList) := by
  unfold ltL
  show PySem.W.dataLt (.tuple [.str a.nm, .str a.lk, .int a.lo, .int a.hi]) (.tuple [.str b.nm, .str b.lk, .int b.lo, .int b.hi]) = _
  have e0 : PyData.eqv (.str a.nm) (.str b.nm) = false := (eqv_str a.nm b.nm).trans (beq_eq_false_iff_ne.mpr h)
  rw [PySem.W.dataLt_tuple, PySem.W.dataLt_all_no (by simp [PySem.W.alike]) e0, PySem.W.dataLt_str]
theorem lt_of_le {a b : Lock} (h : ¬ a.nm = b.nm) (hl : PySem.W.dataLe false D.py (lkD a) (lkD b) = true) : ltL a b = true := by
  have e : PySem.W.dataLe false D.py (lkD a) (lkD b) = !ltL b a := rfl
  rw [e, lt_names (fun q => h q.symm)] at hl
  rw [lt_names h]
  have h1 : ¬ b.nm.cps.toList < a.nm.cps.toList := by simpa using hl
  refine decide_eq_true (Classical.byContradiction fun h2 => h ?_)
  exact PySem.W.str_of_cps (List.le_antisymm h1 h2)
theorem lock_drawn (h : s.Ok) (q : Drawn 3 6 s) {l : Lock} (hl : l ∈ s.locks) : lockB s.tasks (lkD l) = true := by
  obtain ⟨t, ht, e, p1, p2, p3⟩ := h.lock l hl
  have e1 : lockB s.tasks (lkD l) = ((wordOk l.nm && wordOk l.lk) && lockO (mostOf s.tasks l.nm) (.int l.lo) (.int l.hi)) := rfl
  rw [e1, (q.lks l hl).1, l_word, ← e, abc_word (q.abc t ht), most_in h.nd ht]
  show (betw (.int l.hi) 1 t.most && betw (.int l.lo) 0 (l.hi - 1)) = true
  rw [betw_ok (by omega) p3, betw_ok p1 (by omega)]; rfl
theorem locks_drawn (h : s.Ok) (q : Drawn 3 6 s) : locksB s.tasks (.tup (s.locks.map lkD)) = true := by
  have e : locksB s.tasks (.tup (s.locks.map lkD)) = (decide (((s.locks.map lkD).length : Int) ≤ 6) && (((s.locks.map lkD).all (lockB s.tasks)) && (ascB ((s.locks.map lkD).map unL) && apartB ((s.locks.map lkD).map unL)))) := rfl
  have hf := h.fewl
  rw [e, unL_map, decide_eq_true (by rw [List.length_map]; omega)]
  have e1 : (s.locks.map lkD).all (lockB s.tasks) = true := List.all_eq_true.mpr fun x hx => by
    obtain ⟨l, hl, rfl⟩ := List.mem_map.mp hx
    exact lock_drawn h q hl
  have e2 : apartB s.locks = true := pair_all.mpr ((List.pairwise_map.mp q.one).imp fun {a b} hab => by
    unfold overlap
    rw [beq_eq_false_iff_ne.mpr hab]; rfl)
  have e3 : ascB s.locks = true := by
    unfold ascB
    refine List.all_eq_true.mpr fun k hk => ?_
    have hk := List.mem_range.mp hk
    have h1 := List.getElem?_eq_getElem (show k < s.locks.length by omega)
    have h2 := List.getElem?_eq_getElem (show k + 1 < s.locks.length by omega)
    rw [ascAt_eq h1 h2]
    have p1 := List.pairwise_iff_getElem.mp (List.pairwise_map.mp q.one) k (k + 1) (by omega) (by omega) (by omega)
    have p2 := List.pairwise_iff_getElem.mp q.srt k (k + 1) (by omega) (by omega) (by omega)
    exact lt_of_le p1 p2
  rw [e1, e2, e3]; rfl
theorem sys_drawn (h : s.Ok) (q : Drawn 3 6 s) : sysB (sD s) = true := by
  have e : sysB (sD s) = (strEq (.str "system") "system" && (betw (.int (s.mach : Int)) 1 3 && (strIn (.str s.rule) rulesL && (true && (supplyB (.tup (s.sup.map .int)) && (tasksB (.tup (s.tasks.map tD)) && (locksB ((s.tasks.map tD).map unT) (.tup (s.locks.map lkD)) && ((s.locks.map lkD).isEmpty || (decide ((s.mach : Int) = 1) && ((s.rule == "fixed") && s.brk))))))))) ) := rfl
  have hm := h.mach
  have hf := h.few
  rw [e, unT_map, locks_drawn h q, betw_ok (by omega) (by omega)]
  have e1 : strEq (.str "system") "system" = true := by decide +kernel
  have e2 : strIn (.str s.rule) rulesL = true := by rcases h.rule with e | e | e | e <;> rw [e] <;> decide +kernel
  have e3 : supplyB (.tup (s.sup.map .int)) = true := by rcases q.sup with e | e <;> rw [e] <;> decide +kernel
  have e4 : tasksB (.tup (s.tasks.map tD)) = true := by
    have e6 : tasksB (.tup (s.tasks.map tD)) = (decide (((s.tasks.map tD).length : Int) ≤ 6) && (((s.tasks.map tD).all taskB) && decide (((nDup (((s.tasks.map tD).map unT).map (·.nm)) : Nat) : Int) = (s.tasks.map tD).length))) := rfl
    rw [e6, unT_map, nDup_nd _ (s.tasks.map fun t : Task => t.nm) rfl h.nd, List.length_map, List.length_map, decide_eq_true (show ((s.tasks.length : Nat) : Int) ≤ 6 by omega), decide_eq_true rfl]
    have : (s.tasks.map tD).all taskB = true := List.all_eq_true.mpr fun x hx => by
      obtain ⟨t, ht, rfl⟩ := List.mem_map.mp hx
      exact task_drawn h q ht
    rw [this]; rfl
  rw [e1, e2, e3, e4]
  cases hl : s.locks with
  | nil => rfl
  | cons l ls =>
    obtain ⟨f1, f2, f3⟩ := h.free (by rw [hl]; exact List.cons_ne_nil _ _)
    rw [f1, f2, f3]; rfl
theorem nc_sys (h : s.Ok) : Nc 3 (sD s) := .tup (fun x hx => by
  simp only [List.mem_cons, List.not_mem_nil, or_false] at hx
  rcases hx with rfl | rfl | rfl | rfl | rfl | rfl | rfl
  · exact .str sys_ok (by decide)
  · exact .int _
  · exact .str (by rcases h.rule with e | e | e | e <;> rw [e] <;> decide +kernel) (by rcases h.rule with e | e | e | e <;> rw [e] <;> decide)
  · exact .bl _
  · exact .tup (fun x hx => by
      obtain ⟨i, _, rfl⟩ := List.mem_map.mp hx
      exact .int _) (by rw [List.length_map]; have := h.sup; omega)
  · exact .tup (fun x hx => by
      obtain ⟨t, ht, rfl⟩ := List.mem_map.mp hx
      exact .tup (fun x hx => by
        have h1 := h.nmOk t ht
        have h2 := kind_ok h ht
        simp only [List.mem_cons, List.not_mem_nil, or_false] at hx
        rcases hx with rfl | rfl | rfl | rfl | rfl | rfl | rfl
        · exact .str h1.1 (by omega)
        · exact .str h2.1 h2.2
        · exact .int _
        · exact .int _
        · exact .int _
        · exact .int _
        · exact .int _) (by show 7 ≤ 100; decide)) (by rw [List.length_map]; have := h.few; omega)
  · exact .tup (fun x hx => by
      obtain ⟨l, hl, rfl⟩ := List.mem_map.mp hx
      exact .tup (fun x hx => by
        have p := h.lkOk l hl
        simp only [List.mem_cons, List.not_mem_nil, or_false] at hx
        rcases hx with rfl | rfl | rfl | rfl
        · exact .str p.1 (by have := p.2.1; omega)
        · exact .str p.2.2.1 (by have := p.2.2.2; omega)
        · exact .int _
        · exact .int _) (by show 4 ≤ 100; decide)) (by rw [List.length_map]; have := h.fewl; omega)) (by show 7 ≤ 100; decide)

end k01

namespace k01
variable {wf n : Nat} {S : Store} {s : Sys}
def eightL : List Str := ["a", "x", "1", "A", "end", "l", "_", "abcdefghi"]
def okT (x : Str) : Bool := PyData.strOk x && decide (x.length ≤ 1000)
theorem join_ok {xs : List Str} (h : ∀ x ∈ xs, x ∈ eightL) (hl : xs.length ≤ 3) : (PyData.strOk (Txt.join "" xs) = true ∧ (Txt.join "" xs).length ≤ 1000) ∧ (xs.map (·.length)).sum + xs.length * ("" : Str).length ≤ 16777216 := by
  have e0 : (PyData.strOk (Txt.join "" []) = true ∧ (Txt.join "" []).length ≤ 1000) := by decide +kernel
  have e1 : ∀ a ∈ eightL, PyData.strOk (Txt.join "" [a]) = true ∧ (Txt.join "" [a]).length ≤ 1000 := by decide +kernel
  have e2 : ∀ a ∈ eightL, ∀ b ∈ eightL, PyData.strOk (Txt.join "" [a, b]) = true ∧ (Txt.join "" [a, b]).length ≤ 1000 := by decide +kernel
  have e3 : ∀ a ∈ eightL, ∀ b ∈ eightL, ∀ c ∈ eightL, PyData.strOk (Txt.join "" [a, b, c]) = true ∧ (Txt.join "" [a, b, c]).length ≤ 1000 := by decide +kernel
  have el : ∀ a ∈ eightL, a.length ≤ 9 := by decide +kernel
  have ez : ("" : Str).length = 0 := by decide +kernel
  rw [ez, Nat.mul_zero, Nat.add_zero]
  match xs, hl with
  | [], _ => exact ⟨e0, by decide⟩
  | [a], _ =>
    have ha := h a (by simp)
    have := el a ha
    exact ⟨e1 a ha, by show a.length + 0 ≤ _; omega⟩
  | [a, b], _ =>
    have ha := h a (by simp)
    have hb := h b (by simp)
    have := el a ha
    have := el b hb
    exact ⟨e2 a ha b hb, by show a.length + (b.length + 0) ≤ _; omega⟩
  | [a, b, c], _ =>
    have ha := h a (by simp)
    have hb := h b (by simp)
    have hc := h c (by simp)
    have := el a ha
    have := el b hb
    have := el c hc
    exact ⟨e3 a ha b hb c hc, by show a.length + (b.length + (c.length + 0)) ≤ _; omega⟩
theorem me_joins {T : Store} {xs : List Str} (h : (xs.map (·.length)).sum + xs.length * ("" : Str).length ≤ 16777216) : meD .join T (.str "") [.lst (xs.map .str)] = some (.str (Txt.join "" xs)) := by
  show ((strsD (xs.map .str)).bind fun ss => if (ss.map (·.length)).sum + ss.length * ("" : Str).length ≤ 16777216 then some (D.str (Txt.join "" ss)) else none) = _
  rw [strs_of]
  exact if_pos h
theorem eight_in {v : Int} (h0 : 0 ≤ v) (h1 : v < 8) {T : Store} : ∃ x ∈ eightL, subD T (.lst (eightL.map .str)) (.int v) = some (.str x) := by
  obtain ⟨y, hy, e⟩ := sub_in (S := T) (l := eightL.map .str) h0 (by
    have : (eightL.map D.str).length = 8 := rfl
    omega)
  obtain ⟨x, hx, rfl⟩ := List.mem_map.mp hy
  exact ⟨x, hx, e⟩
theorem text_ok {ds : List Int} {a : Int} {R : Store} (ha : 0 ≤ a) {z0 z2 z3 z4 z5 z6 z7 z8 z9 z10 z11 z12 z13 z14 z15 z16 z17 : Option D} {PO : Out → Store → Prop}
    (hPO : ∀ (a' : Int) (x : Str), 0 ≤ a' → Th 0 (.str x) → PO (.nx [z0, some (.ref 0), z2, z3, z4, z5, z6, some (.str x), z8, z9, z10, z11, z12, z13, z14, z15, z16, z17]) (bxc ds a' :: R)) :
    WSs (fnsAt pg wf (n + 2)) [
  .asg (.v 7) (.me .join (.str "") [.comp true [("k", 8)] (.v 8) (.range [.call i__law_draw [.var 1, .int 4]]) [] (.sub (.lst [.str "a", .str "x", .str "1", .str "A", .str "end", .str "l", .str "_", .str "abcdefghi"]) (.call i__law_draw [.var 1, .int 8]))])] [z0, some (.ref 0), z2, z3, z4, z5, z6, z7, z8, z9, z10, z11, z12, z13, z14, z15, z16, z17] (bxc ds a :: R) PO := by
  refine s_consW (s_asgv (w_me (w_str ⟨rfl, w_cons (w_comp (w_range (w_cons (w_call (w_cons (w_var rfl (w_cons (w_int (w_nil ?_)))))))))⟩)))
  refine w_draw (n := n + 1) ha (by decide) fun v p q => ?_
  refine w_nil ⟨_, range_one (by omega) (by omega), ⟨_, rfl, ?_⟩⟩
  refine comp_inv (fun l acc S' => ∃ (rest : List Nat) (xs : List Str) (a' : Int), l = rest.map (fun j : Nat => D.int (j : Nat)) ∧ acc = xs.map .str ∧ S' = bxc ds a' :: R ∧ 0 ≤ a' ∧ (∀ x ∈ xs, x ∈ eightL) ∧ xs.length + rest.length ≤ 3) ?_ ?_ _ _ _ ⟨List.range v.toNat, [], a + 1, rfl, rfl, rfl, by omega, (fun x hx => by cases hx), by rw [List.length_range]; show 0 + v.toNat ≤ 3; omega⟩
  · rintro x l acc S' ⟨rest, xs, a', e, rfl, rfl, ha', hb, hl⟩
    cases rest with
    | nil => cases e
    | cons k rest =>
      cases e
      rw [List.length_cons] at hl
      refine ⟨_, rfl, ?_⟩
      refine ts_nilW (w_ift ?_)
      refine w_sub (w_lst (w_cons (w_str (w_cons (w_str (w_cons (w_str (w_cons (w_str (w_cons (w_str (w_cons (w_str (w_cons (w_str (w_cons (w_str (w_nil ⟨small_ok (by show 8 ≤ 1000; decide), w_call (w_cons (w_var rfl (w_cons (w_int (w_nil ?_)))))⟩))))))))))))))))))
      refine w_draw (n := n + 1) ha' (by decide) fun v2 p2 q2 => ?_
      obtain ⟨x, hx, e⟩ := eight_in (T := bxc ds (a' + 1) :: R) p2 q2
      refine ⟨_, e, by rw [List.length_map]; exact dig_size (by omega), rest, xs ++ [x], a' + 1, rfl, by rw [List.map_append]; rfl, rfl, by omega, fun y hy => ?_, by rw [List.length_append]; show xs.length + 1 + rest.length ≤ 3; omega⟩
      rcases List.mem_append.mp hy with hy | hy
      · exact hb y hy
      · rw [List.mem_singleton] at hy
        rw [hy]; exact hx
  · rintro acc S' ⟨rest, xs, a', e, rfl, rfl, ha', hb, hl⟩
    obtain ⟨q1, q2⟩ := join_ok hb (by omega)
    exact w_nil ⟨_, me_joins q2, s_nilW (hPO a' _ ha' (.str q1.1 q1.2))⟩
theorem six_ok (h : s.Ok) {ds : List Int} {a : Int} {R : Store} (hR : R.all (Cell.rb (R.length + 1)) = true) (ha : 0 ≤ a) {z0 z2 z4 z5 z6 z7 z8 z9 z10 z11 z12 z13 z14 z15 z16 z17 : Option D} {PO : Out → Store → Prop}
    (hPO : ∀ (a' : Int) (z5 z6 : Option D), 0 ≤ a' → PO (.nx [z0, some (.ref 0), z2, some (sD s), z4, z5, z6, z7, z8, z9, z10, z11, z12, z13, z14, z15, z16, z17]) (bxc ds a' :: R)) :
    WSs (fnsAt pg wf (n + 6)) [
  .for_ (.v 5) (.range [.int 6]) [
   .asg (.v 6) (.call i__law_changed [.var 1, .var 3]),
   .iff (.not (.call i__law_like [.call i_is_system [.var 6], .call i__law_right [.var 6]])) [
    .ret (.bl false)] []]] [z0, some (.ref 0), z2, some (sD s), z4, z5, z6, z7, z8, z9, z10, z11, z12, z13, z14, z15, z16, z17] (bxc ds a :: R) PO := by
  refine s_consW (s_forW (w_range (w_cons (w_int (w_nil ⟨_, range_one (by decide) (by decide), ⟨_, rfl, ?_⟩⟩)))))
  refine for_inv (fun l fr S' => ∃ (rest : List Nat) (a' : Int) (z5 z6 : Option D), l = rest.map (fun j : Nat => D.int (j : Nat)) ∧ fr = [z0, some (.ref 0), z2, some (sD s), z4, z5, z6, z7, z8, z9, z10, z11, z12, z13, z14, z15, z16, z17] ∧ S' = bxc ds a' :: R ∧ 0 ≤ a') ?_ ?_ _ _ _
    ⟨List.range 6, a, z5, z6, rfl, rfl, rfl, ha⟩
  · rintro x l fr S' ⟨rest, a', z5, z6, e, rfl, rfl, ha'⟩
    cases rest with
    | nil => cases e
    | cons k rest =>
      cases e
      refine ⟨[z0, some (.ref 0), z2, some (sD s), z4, some (.int (k : Nat)), z6, z7, z8, z9, z10, z11, z12, z13, z14, z15, z16, z17], rfl, ?_⟩
      refine s_consW (s_asgv (w_call (w_cons (w_var rfl (w_cons (w_var rfl (w_nil ?_)))))))
      refine w_changed (wf := wf) (ds := ds) (R := R) 3 (by decide) (nc_sys h) ha' n fun d a2 hd ha2 => ?_
      have hW : Wf (bxc ds a2 :: R) := wf_box hR
      refine s_consW (s_iffW (t_notW (t_any (w_call (w_cons (w_call (w_cons (w_var rfl (w_nil (w_of (c_is_system (n := n) hd (by decide) hW) (w_cons (w_call (w_cons (w_var rfl (w_nil (w_of (c_law_right (n := n + 1) hd (by decide) hW) (w_nil (w_of (like_atom (n := n + 5) (.bl _)) ⟨true, rfl, ?_⟩))))))))))))))))))
      refine w_nit (s_nilW (s_nilW ?_))
      exact ⟨rest, a2, _, _, rfl, rfl, rfl, ha2⟩
  · rintro fr S' ⟨rest, a', z5, z6, e, rfl, rfl, ha'⟩
    exact s_nilW (hPO a' z5 z6 ha')
theorem come_ok' : PyData.strOk ("come" : Str) = true ∧ ("come" : Str).length ≤ 1000 := by decide +kernel
theorem y_ok' : PyData.strOk ("y" : Str) = true ∧ ("y" : Str).length ≤ 1000 := by decide +kernel
theorem a_ok' : PyData.strOk ("a" : Str) = true ∧ ("a" : Str).length ≤ 1000 := by decide +kernel
theorem words_ok {x : Str} (hx : Th 0 (.str x)) {T : Store} {z0 z1 z2 z3 z4 z5 z6 z8 z9 z10 z11 z12 z13 z14 z15 z16 z17 : Option D} {PO : Out → Store → Prop}
    (hPO : ∀ (z6 : Option D), PO (.nx [z0, z1, z2, z3, z4, z5, z6, some (.str x), z8, z9, z10, z11, z12, z13, z14, z15, z16, z17]) T) :
    WSs (fnsAt pg wf (n + 3)) [
  .for_ (.v 6) (.tup [.var 7, .str "come", .str "y", .non, .int 3, .tup [.str "a"]]) [
   .iff (.not (.call i__law_like [.call i_is_name [.var 6], .call i__law_is_word [.var 6]])) [
    .ret (.bl false)] []]] [z0, z1, z2, z3, z4, z5, z6, some (.str x), z8, z9, z10, z11, z12, z13, z14, z15, z16, z17] T PO := by
  refine s_consW (s_forW (w_tup (w_cons (w_var rfl (w_cons (w_str (w_cons (w_str (w_cons (w_non (w_cons (w_int (w_cons (w_tup (w_cons (w_str (w_nil ⟨small_ok (by show 1 ≤ 1000; decide), w_nil ⟨small_ok (by show 6 ≤ 1000; decide), ⟨_, rfl, ?_⟩⟩⟩)))))))))))))))))
  refine for_inv (fun l fr S' => ∃ (z6 : Option D), fr = [z0, z1, z2, z3, z4, z5, z6, some (.str x), z8, z9, z10, z11, z12, z13, z14, z15, z16, z17] ∧ S' = T ∧ ∀ d ∈ l, Th 1 d) ?_ ?_ _ _ _ ⟨z6, rfl, rfl, ?_⟩
  · rintro d l fr S' ⟨z6, rfl, rfl, hl⟩
    refine ⟨[z0, z1, z2, z3, z4, z5, some d, some (.str x), z8, z9, z10, z11, z12, z13, z14, z15, z16, z17], rfl, ?_⟩
    have hd := hl d List.mem_cons_self
    refine s_consW (s_iffW (t_notW (t_any (w_call (w_cons (w_call (w_cons (w_var rfl (w_nil (w_of (c_is_name (n := n) hd) (w_cons (w_call (w_cons (w_var rfl (w_nil (w_of (c_law_word (n := n + 2) hd) (w_nil (w_of (like_atom (n := n + 2) (.bl _)) ⟨true, rfl, ?_⟩))))))))))))))))))
    refine w_nit (s_nilW (s_nilW ?_))
    exact ⟨_, rfl, rfl, fun y hy => hl y (List.mem_cons_of_mem _ hy)⟩
  · rintro fr S' ⟨z6, rfl, rfl, _⟩
    exact s_nilW (hPO z6)
  · intro d hd
    simp only [List.mem_cons, List.not_mem_nil, or_false] at hd
    rcases hd with rfl | rfl | rfl | rfl | rfl | rfl
    · exact hx.le (by decide)
    · exact .str come_ok'.1 come_ok'.2
    · exact .str y_ok'.1 y_ok'.2
    · exact .non
    · exact .int _
    · exact .tup (fun x hx => by
        rw [List.mem_singleton] at hx
        subst hx
        exact .str a_ok'.1 a_ok'.2) (by show 1 ≤ 1000; decide)

end k01

namespace k01
variable {wf n : Nat} {S : Store} {s : Sys}
theorem some_ok (h : s.Ok) {ds : List Int} {a : Int} {R : Store} (ha : 0 ≤ a) {z0 z2 z5 z6 z7 z8 z9 z10 z11 z12 z13 z14 z15 z16 z17 : Option D} {PO : Out → Store → Prop}
    (hPO : ∀ (a' : Int) (ts : List Task), 0 ≤ a' → ts.Sublist s.tasks → PO (.nx [z0, some (.ref 0), z2, some (sD s), some (.lst ((nms s).map .str)), z5, z6, z7, z8, some (.tup ((ts.map (·.nm)).map .str)), z10, z11, z12, z13, z14, z15, z16, z17]) (bxc ds a' :: R)) :
    WSs (fnsAt pg wf (n + 1)) [
  .asg (.v 9) (.bi .tuple [.comp true [("name", 10)] (.v 10) (.var 4) [.cmp .Eq (.call i__law_draw [.var 1, .int 2]) (.int 0)] (.var 10)])] [z0, some (.ref 0), z2, some (sD s), some (.lst ((nms s).map .str)), z5, z6, z7, z8, z9, z10, z11, z12, z13, z14, z15, z16, z17] (bxc ds a :: R) PO := by
  refine s_consW (s_asgv (w_bi (w_cons (w_comp (w_var rfl ⟨_, rfl, ?_⟩)))))
  have hf := h.few
  refine comp_inv (fun l acc S' => ∃ (pre rest ts : List Task) (a' : Int), l = rest.map (fun t : Task => D.str t.nm) ∧ acc = ts.map (fun t : Task => D.str t.nm) ∧ S' = bxc ds a' :: R ∧ 0 ≤ a' ∧ pre ++ rest = s.tasks ∧ ts.Sublist pre) ?_ ?_ _ _ _ ⟨[], s.tasks, [], a, by unfold nms; rw [List.map_map]; rfl, rfl, rfl, ha, rfl, .slnil⟩
  · rintro x l acc S' ⟨pre, rest, ts, a', e, rfl, rfl, ha', he, hs⟩
    cases rest with
    | nil => cases e
    | cons t rest =>
      cases e
      have hln : ts.length ≤ 6 := by
        have h1 := hs.length_le
        have h2 := congrArg List.length he
        rw [List.length_append] at h2
        omega
      have he2 : (pre ++ [t]) ++ rest = s.tasks := by rw [List.append_assoc]; exact he
      refine ⟨_, rfl, ?_⟩
      refine ts_oneW (t_cmpW (w_call (w_cons (w_var rfl (w_cons (w_int (w_nil ?_)))))))
      refine w_draw (n := n) ha' (by decide) fun v p q => ?_
      refine w_int ⟨_, b_eqI, ?_⟩
      refine w_dec (fun hz => ?_) (fun hz => ?_)
      · refine w_var rfl ⟨by rw [List.length_map]; exact dig_size (by omega), pre ++ [t], rest, ts ++ [t], a' + 1, rfl, by rw [List.map_append]; rfl, rfl, by omega, he2, hs.append (.refl _)⟩
      · exact ⟨pre ++ [t], rest, ts, a' + 1, rfl, rfl, rfl, by omega, he2, hs.trans (List.sublist_append_left _ _)⟩
  · rintro acc S' ⟨pre, rest, ts, a', e, rfl, rfl, ha', he, hs⟩
    have e2 : rest = [] := List.map_eq_nil_iff.mp e.symm
    subst e2
    rw [List.append_nil] at he
    subst he
    refine w_nil ⟨.tup ((ts.map fun t : Task => t.nm).map .str), by rw [List.map_map]; rfl, s_nilW (hPO a' ts ha' hs)⟩
theorem like_wt (h : s.Ok) {ts : List Task} (hts : ∀ t ∈ ts, t ∈ s.tasks) (hn : ts.length ≤ 1000) (P : Lock → Bool) {T : Store} : (fnsAt pg wf (n + 4)).call i__law_like [wtD s ts (s.locks.filter P), wtD s ts (s.locks.filter P)] T = .ok (.bl true) T :=
  c_like 3 _ (lk_wt h (fun t ht => lk_task_in h (hts t ht)) hn P) n T
theorem strs_sub (h : s.Ok) {ts : List Task} (hts : ∀ t ∈ ts, t ∈ s.tasks) : ∀ x ∈ ts.map (·.nm), PyData.strOk x = true := fun x hx => by
  obtain ⟨t, ht, rfl⟩ := List.mem_map.mp hx
  exact (h.nmOk t (hts t ht)).1
theorem rest_eq (h : s.Ok) (ns : List Str) : ((nms s).filter fun x => !decide (x ∈ ns)) = (s.tasks.filter fun t => !decide (t.nm ∈ ns)).map (·.nm) := by
  unfold nms
  rw [List.filter_map]; rfl
theorem parts_ok (h : s.Ok) {ts : List Task} (hs : ts.Sublist s.tasks) {T : Store} (hT : Wf T) {z0 z1 z2 z5 z6 z7 z8 z10 z11 z12 z13 z14 z15 z16 z17 : Option D} {PO : Out → Store → Prop}
    (hPO : ∀ z11 : Option D, PO (.nx [z0, z1, z2, some (sD s), some (.lst ((nms s).map .str)), z5, z6, z7, z8, some (.tup ((ts.map (·.nm)).map .str)), z10, z11, z12, z13, z14, z15, z16, z17]) T) :
    WSs (fnsAt pg wf (n + 5)) [
  .asg (.v 11) (.comp true [("name", 10)] (.v 10) (.var 4) [.cmp .NotIn (.var 10) (.var 9)] (.var 10)),
  .iff (.or (.not (.call i__law_like [.call i_only [.var 3, .var 9], .call i__law_part [.var 3, .var 9]])) (.not (.call i__law_like [.call i_without [.var 3, .var 9], .call i__law_part [.var 3, .var 11]]))) [
   .ret (.bl false)] []] [z0, z1, z2, some (sD s), some (.lst ((nms s).map .str)), z5, z6, z7, z8, some (.tup ((ts.map (·.nm)).map .str)), z10, z11, z12, z13, z14, z15, z16, z17] T PO := by
  have hf := h.few
  have hts : ∀ t ∈ ts, t ∈ s.tasks := fun t ht => hs.subset ht
  have hn : ts.length ≤ 1000 := by have := hs.length_le; omega
  have hnd : (ts.map (·.nm)).Nodup := h.nd.sublist (hs.map _)
  have hns := strs_sub h hts
  refine s_consW (s_asgv (w_comp (w_var rfl ⟨_, rfl, ?_⟩)))
  refine w_comp_pure (fun x : Str => D.str x) (fun x => !decide (x ∈ ts.map (·.nm))) (fun x => D.str x) (nms s) rfl (by unfold nms; rw [List.length_map]; exact few_tasks h) (fun x hx => ⟨_, rfl, of_w ?_, fun _ => rfl⟩) ?_
  · obtain ⟨t, ht, rfl⟩ := List.mem_map.mp hx
    exact ts_oneW (t_cmpW (w_var rfl (w_var rfl ⟨_, notin_strsD (nm_th h ht) (by decide) hns, rfl, rfl⟩)))
  rw [rest_eq h]
  have e1 := sub_filter hs h.nd
  have o := c_only (wf := wf) (n := n + 3) (S := T) h hns hT
  rw [e1, keep_part h hts hnd] at o
  have p1 := c_law_part (wf := wf) (n := n + 4) (S := T) h hts hn (.inl rfl) hT
  refine s_consW (s_iffW (t_orW (t_notW (t_any (w_call (w_cons (w_call (w_cons (w_var rfl (w_cons (w_var rfl (w_nil (w_of o (w_cons (w_call (w_cons (w_var rfl (w_cons (w_var rfl (w_nil (w_of p1 (w_nil (w_of (like_wt (n := n + 1) h hts hn _) ⟨true, rfl, ?_⟩)))))))))))))))))))))))
  refine w_nit ?_
  have hts2 : ∀ t ∈ s.tasks.filter (fun t => !decide (t.nm ∈ ts.map (·.nm))), t ∈ s.tasks := fun t ht => (List.mem_filter.mp ht).1
  have o2 := c_without (wf := wf) (n := n + 3) (S := T) h hns hT
  rw [keep_part h hts2 (nd_sub h)] at o2
  have p2 := c_law_part (wf := wf) (n := n + 4) (S := T) h hts2 (len_sub h) (.inr rfl) hT
  refine t_notW (t_any (w_call (w_cons (w_call (w_cons (w_var rfl (w_cons (w_var rfl (w_nil (w_of o2 (w_cons (w_call (w_cons (w_var rfl (w_cons (w_var rfl (w_nil (w_of p2 (w_nil (w_of (like_wt (n := n + 1) h hts2 (len_sub h) _) ⟨true, rfl, ?_⟩))))))))))))))))))))
  exact w_nit (s_nilW (s_nilW (hPO _)))
theorem order_ok (h : s.Ok) {T : Store} (hT : Wf T) {z0 z1 z2 z5 z6 z7 z8 z9 z10 z11 z12 z13 z14 z15 z16 z17 : Option D} {PO : Out → Store → Prop}
    (hPO : ∀ z12 : Option D, PO (.nx [z0, z1, z2, some (sD s), some (.lst ((nms s).map .str)), z5, z6, z7, z8, z9, z10, z11, z12, z13, z14, z15, z16, z17]) T) :
    WSs (fnsAt pg wf (n + 5)) [
  .asg (.v 12) (.bi .tuple [.rev (.var 4)]),
  .iff (.not (.call i__law_like [.call i_with_order [.var 3, .var 12], .call i__law_part [.var 3, .var 12]])) [
   .ret (.bl false)] []] [z0, z1, z2, some (sD s), some (.lst ((nms s).map .str)), z5, z6, z7, z8, z9, z10, z11, z12, z13, z14, z15, z16, z17] T PO := by
  have hf := h.few
  have hts : ∀ t ∈ s.tasks.reverse, t ∈ s.tasks := fun t ht => List.mem_reverse.mp ht
  have hn : s.tasks.reverse.length ≤ 1000 := by rw [List.length_reverse]; omega
  have hnd : (s.tasks.reverse.map (·.nm)).Nodup := by
    rw [List.map_reverse]
    exact (List.reverse_perm _).nodup_iff.mpr h.nd
  refine s_consW (s_asgv (w_bi (w_cons (w_rev (w_var rfl ⟨_, rfl, w_nil ⟨.tup ((s.tasks.reverse.map (·.nm)).map .str), ?_, ?_⟩⟩)))))
  · rw [List.map_reverse, List.map_reverse]; rfl
  have o := c_with_order (wf := wf) (n := n + 2) (S := T) h hts hnd hn hT
  rw [keep_part h hts hnd] at o
  have p1 := c_law_part (wf := wf) (n := n + 4) (S := T) h hts hn (.inl rfl) hT
  refine s_consW (s_iffW (t_notW (t_any (w_call (w_cons (w_call (w_cons (w_var rfl (w_cons (w_var rfl (w_nil (w_of o (w_cons (w_call (w_cons (w_var rfl (w_cons (w_var rfl (w_nil (w_of p1 (w_nil (w_of (like_wt (n := n + 1) h hts hn _) ⟨true, rfl, ?_⟩))))))))))))))))))))))
  exact w_nit (s_nilW (s_nilW (hPO _)))

end k01

namespace k01
variable {wf n : Nat} {S : Store} {s : Sys}
def rowT (y : Str) : Task := ⟨y, "any", 0, 5, 4, 1, 1⟩
theorem put_same {r : Task} (q : ¬ r.nm ∈ nms s) : s.tasks.map (fun t => if (t.nm == r.nm) = true then r else t) = s.tasks := by
  have : ∀ t ∈ s.tasks, (if (t.nm == r.nm) = true then r else t) = t := fun t ht => if_neg fun e => q (by rw [← eq_of_beq e]; exact List.mem_map_of_mem ht)
  rw [List.map_congr_left this]
  exact List.map_id' _
theorem put_lk (h : s.Ok) {r : Task} (hr : Lk 1 (tD r)) : ∀ t ∈ putT s r, Lk 1 (tD t) := fun t ht => by
  unfold putT at ht
  split at ht
  · obtain ⟨u, hu, e⟩ := List.mem_map.mp ht
    rw [← e]
    split
    · exact hr
    · exact lk_task_in h hu
  · rcases List.mem_append.mp ht with ht | ht
    · exact lk_task_in h ht
    · rw [List.mem_singleton] at ht
      rw [ht]; exact hr
theorem q_ok' : PyData.strOk ("q" : Str) = true ∧ ("q" : Str).length ≤ 1000 := by decide +kernel
theorem any_ok' : PyData.strOk ("any" : Str) = true ∧ ("any" : Str).length ≤ 1000 := by decide +kernel
theorem row_ok (h : s.Ok) {ds : List Int} {a : Int} {R : Store} (hR : R.all (Cell.rb (R.length + 1)) = true) (ha : 0 ≤ a) {z0 z2 z5 z6 z7 z8 z9 z10 z11 z12 z13 z14 z15 z16 z17 : Option D} {PO : Out → Store → Prop}
    (hPO : ∀ (a' : Int) (z13 z14 z15 z16 z17 : Option D), 0 ≤ a' → PO (.nx [z0, some (.ref 0), z2, some (sD s), some (.lst ((nms s).map .str)), z5, z6, z7, z8, z9, z10, z11, z12, z13, z14, z15, z16, z17]) (bxc ds a' :: R)) :
    WSs (fnsAt pg wf (n + 5)) [
  .asg (.v 13) (.tup [.call i__law_pick [.var 1, .bin .Add (.var 4) (.lst [.str "q"])], .str "any", .int 0, .int 5, .int 4, .int 1, .int 1]),
  .asg (.v 14) (.bin .Add (.bi .tuple [.comp true [("task", 15)] (.v 15) (.sub (.var 3) (.int 5)) [] (.ite (.cmp .Eq (.sub (.var 15) (.int 0)) (.sub (.var 13) (.int 0))) (.var 13) (.var 15))]) (.ite (.cmp .In (.sub (.var 13) (.int 0)) (.var 4)) (.tup []) (.tup [.var 13]))),
  .asg (.v 16) (.bi .tuple [.comp true [("lock", 17)] (.v 17) (.sub (.var 3) (.int 6)) [.or (.cmp .NotEq (.sub (.var 17) (.int 0)) (.sub (.var 13) (.int 0))) (.cmp .LtE (.sub (.var 17) (.int 3)) (.int 1))] (.var 17)]),
  .iff (.not (.call i__law_like [.call i_with_task [.var 3, .var 13], .bin .Add (.slc (.var 3) none (some (.int 5))) (.tup [.var 14, .var 16])])) [
   .ret (.bl false)] []] [z0, some (.ref 0), z2, some (sD s), some (.lst ((nms s).map .str)), z5, z6, z7, z8, z9, z10, z11, z12, z13, z14, z15, z16, z17] (bxc ds a :: R) PO := by
  have hf := h.few
  have hnl : ((nms s).map D.str).length = s.tasks.length := by unfold nms; rw [List.length_map, List.length_map]
  refine s_consW (s_asgv (w_tup (w_cons (w_call (w_cons (w_var rfl (w_cons (w_bin (w_var rfl (w_lst (w_cons (w_str (w_nil ⟨small_ok (by show 1 ≤ 1000; decide), ⟨_, b_addL (by rw [hnl]; show s.tasks.length + 1 ≤ 1000; omega), w_nil ?_⟩⟩)))))))))))))
  refine w_pick (n := n + 3) (by simp) ha fun x hx => ?_
  have hx : ∃ y : Str, x = .str y ∧ PyData.strOk y = true ∧ y.length ≤ 1000 := by
    rcases List.mem_append.mp hx with hx | hx
    · obtain ⟨y, hy, rfl⟩ := List.mem_map.mp hx
      obtain ⟨t, ht, rfl⟩ := List.mem_map.mp hy
      exact ⟨_, rfl, (h.nmOk t ht).1, by have := (h.nmOk t ht).2; omega⟩
    · rw [List.mem_singleton] at hx
      exact ⟨_, hx, q_ok'⟩
  obtain ⟨y, rfl, hy1, hy2⟩ := hx
  have hT : Wf (bxc ds (a + 1) :: R) := wf_box hR
  generalize hTT : bxc ds (a + 1) :: R = T at hT
  have hns : ∀ x ∈ nms s, PyData.strOk x = true := fun x hx => by
    obtain ⟨t, ht, rfl⟩ := List.mem_map.mp hx
    exact (h.nmOk t ht).1
  refine w_cons (w_str (w_cons (w_int (w_cons (w_int (w_cons (w_int (w_cons (w_int (w_cons (w_int (w_nil ⟨small_ok (by show 7 ≤ 1000; decide), ?_⟩))))))))))))
  show WSs _ _ [z0, some (.ref 0), z2, some (sD s), some (.lst ((nms s).map .str)), z5, z6, z7, z8, z9, z10, z11, z12, some (tD (rowT y)), z14, z15, z16, z17] T _
  have hr : PyData.strOk (rowT y).nm = true := hy1
  have hlk : Lk 1 (tD (rowT y)) := lk_task ⟨hy1, hy2⟩ any_ok'
  have hmo : (rowT y).most = 1 := rfl
  generalize rowT y = r at hr hlk hmo
  -- tasks
  refine s_consW (s_asgv (w_bin (w_bi (w_cons (w_comp (w_sub (w_var rfl (w_int ⟨.tup (s.tasks.map tD), rfl, ⟨_, rfl, ?_⟩⟩))))))))
  refine w_comp_pure tD (fun _ => true) (fun t => tD (if (t.nm == r.nm) = true then r else t)) s.tasks rfl (few_tasks h) (fun t ht => ⟨_, rfl, rfl, fun _ => of_w ?_⟩) ?_
  · refine w_ite (t_cmpW (w_sub (w_var rfl (w_int ⟨.str t.nm, rfl, w_sub (w_var rfl (w_int ⟨.str r.nm, rfl, ⟨_, b_eqS (h.nmOk t ht).1 hr, ?_⟩⟩))⟩))))
    refine w_bool (fun e => ?_) (fun e => ?_)
    · rw [e]; exact w_var rfl ⟨rfl, rfl⟩
    · rw [e]; exact w_var rfl ⟨rfl, rfl⟩
  rw [filter_all]
  refine w_nil ⟨.tup (s.tasks.map fun t => tD (if (t.nm == r.nm) = true then r else t)), rfl, ?_⟩
  refine w_ite (t_cmpW (w_sub (w_var rfl (w_int ⟨.str r.nm, rfl, w_var rfl ⟨decide (r.nm ∈ nms s), by rw [in_strs hr hns, any_mem], ?_⟩⟩))))
  have fin : ∀ {z15 : Option D}, WSs (fnsAt pg wf (n + 5)) [
  .asg (.v 16) (.bi .tuple [.comp true [("lock", 17)] (.v 17) (.sub (.var 3) (.int 6)) [.or (.cmp .NotEq (.sub (.var 17) (.int 0)) (.sub (.var 13) (.int 0))) (.cmp .LtE (.sub (.var 17) (.int 3)) (.int 1))] (.var 17)]),
  .iff (.not (.call i__law_like [.call i_with_task [.var 3, .var 13], .bin .Add (.slc (.var 3) none (some (.int 5))) (.tup [.var 14, .var 16])])) [
   .ret (.bl false)] []] [z0, some (.ref 0), z2, some (sD s), some (.lst ((nms s).map .str)), z5, z6, z7, z8, z9, z10, z11, z12, some (tD r), some (.tup ((putT s r).map tD)), z15, z16, z17] T PO := fun {z15} => by
    refine s_consW (s_asgv (w_bi (w_cons (w_comp (w_sub (w_var rfl (w_int ⟨.tup (s.locks.map lkD), rfl, ⟨_, rfl, ?_⟩⟩)))))))
    refine w_comp_pure lkD (fun l => (!(l.nm == r.nm)) || decide (l.hi ≤ 1)) lkD s.locks rfl (few_locks h) (fun l hl => ⟨_, rfl, of_w ?_, fun _ => rfl⟩) ?_
    · refine ts_oneW (t_orW (t_cmpW (w_sub (w_var rfl (w_int ⟨.str l.nm, rfl, w_sub (w_var rfl (w_int ⟨.str r.nm, rfl, ⟨_, b_neS (h.lkOk l hl).1 hr, ?_⟩⟩))⟩)))))
      refine w_bool (fun e => ?_) (fun e => ?_)
      · rw [e]; exact ⟨rfl, rfl⟩
      · rw [e]
        exact t_cmpW (w_sub (w_var rfl (w_int ⟨.int l.hi, rfl, w_int ⟨decide (l.hi ≤ 1), rfl, rfl, rfl⟩⟩)))
    have o := c_with_task (wf := wf) (n := n + 2) (S := T) h hr hT
    rw [keep_put h hmo] at o
    refine w_nil ⟨_, rfl, ?_⟩
    refine s_consW (s_iffW (t_notW (t_any (w_call (w_cons (w_call (w_cons (w_var rfl (w_cons (w_var rfl (w_nil (w_of o (w_cons (w_bin (w_slc (w_var rfl (w_onone (w_osome (w_int ⟨_, rfl, ⟨_, sl5, w_tup (w_cons (w_var rfl (w_cons (w_var rfl (w_nil ⟨small_ok (by show 2 ≤ 1000; decide), ⟨_, b_addT (by show 5 + 2 ≤ 1000; decide), w_nil (w_of (c_like 3 _ (lk_wt h (put_lk h hlk) (put_len h r) _) (n + 1) T) ⟨true, rfl, ?_⟩)⟩⟩)))))⟩⟩)))))))))))))))))))
    subst hTT
    exact w_nit (s_nilW (s_nilW (hPO _ _ _ _ _ _ (by omega))))
  refine w_dec (fun q => ?_) (fun q => ?_)
  · refine w_tup (w_nil ⟨small_ok (by show 0 ≤ 1000; decide), ⟨.tup ((putT s r).map tD), ?_, fin⟩⟩)
    rw [b_addT (by rw [List.length_map]; show s.tasks.length + 0 ≤ 1000; omega), List.append_nil]
    have ep : putT s r = s.tasks.map (fun t => if t.nm == r.nm then r else t) := if_pos q
    rw [ep, List.map_map]; rfl
  · refine w_tup (w_cons (w_var rfl (w_nil ⟨small_ok (by show 1 ≤ 1000; decide), ⟨.tup ((putT s r).map tD), ?_, fin⟩⟩)))
    rw [b_addT (by rw [List.length_map]; show s.tasks.length + 1 ≤ 1000; omega)]
    have ep : putT s r = s.tasks ++ [r] := if_neg q
    have e3 : (s.tasks.map fun t => tD (if (t.nm == r.nm) = true then r else t)) = (s.tasks.map (fun t => if (t.nm == r.nm) = true then r else t)).map tD := by rw [List.map_map]; rfl
    rw [ep, e3, put_same q, List.map_append]; rfl

end k01

namespace k01
variable {wf n : Nat} {S : Store} {s : Sys}
theorem w_systemE {m : Nat} (hm : m = n + 3) {x y : D} (hx : x = .int (3 : Nat)) (hy : y = .int 6) {ds : List Int} {a : Int} {R : Store} (hR : R.all (Cell.rb (R.length + 1)) = true) (ha : 0 ≤ a) {P : D → Store → Prop} (h : ∀ (s : Sys) (a' : Int), s.Ok → Drawn 3 6 s → 0 ≤ a' → P (sD s) (bxc ds a' :: R)) : RPost P ((fnsAt pg wf m).call i__law_system [.ref 0, x, y] (bxc ds a :: R)) := by
  subst hm; subst hx; subst hy
  exact w_system (by decide) (by decide) (by decide) (by decide) hR ha h
theorem turn_ok {ds : List Int} {a : Int} {R : Store} (hR : R.all (Cell.rb (R.length + 1)) = true) (ha : 0 ≤ a) {z0 z2 z3 z4 z5 z6 z7 z8 z9 z10 z11 z12 z13 z14 z15 z16 z17 : Option D} {PO : Out → Store → Prop}
    (hPO : ∀ (a' : Int) (w3 w4 w5 w6 w7 w8 w9 w10 w11 w12 w13 w14 w15 w16 w17 : Option D), 0 ≤ a' → PO (.nx [z0, some (.ref 0), z2, w3, w4, w5, w6, w7, w8, w9, w10, w11, w12, w13, w14, w15, w16, w17]) (bxc ds a' :: R)) :
    WSs (fnsAt pg wf (n + 6)) [
  .asg (.v 3) (.call i__law_system [.var 1, .int 3, .int 6]),
  .asg (.v 4) (.call i__law_names [.var 3]),
  .iff (.or (.not (.call i__law_right [.var 3])) (.cmp .IsNot (.call i_is_system [.var 3]) (.bl true))) [
   .ret (.bl false)] [],
  .for_ (.v 5) (.range [.int 6]) [
   .asg (.v 6) (.call i__law_changed [.var 1, .var 3]),
   .iff (.not (.call i__law_like [.call i_is_system [.var 6], .call i__law_right [.var 6]])) [
    .ret (.bl false)] []],
  .asg (.v 7) (.me .join (.str "") [.comp true [("k", 8)] (.v 8) (.range [.call i__law_draw [.var 1, .int 4]]) [] (.sub (.lst [.str "a", .str "x", .str "1", .str "A", .str "end", .str "l", .str "_", .str "abcdefghi"]) (.call i__law_draw [.var 1, .int 8]))]),
  .for_ (.v 6) (.tup [.var 7, .str "come", .str "y", .non, .int 3, .tup [.str "a"]]) [
   .iff (.not (.call i__law_like [.call i_is_name [.var 6], .call i__law_is_word [.var 6]])) [
    .ret (.bl false)] []],
  .asg (.v 9) (.bi .tuple [.comp true [("name", 10)] (.v 10) (.var 4) [.cmp .Eq (.call i__law_draw [.var 1, .int 2]) (.int 0)] (.var 10)]),
  .asg (.v 11) (.comp true [("name", 10)] (.v 10) (.var 4) [.cmp .NotIn (.var 10) (.var 9)] (.var 10)),
  .iff (.or (.not (.call i__law_like [.call i_only [.var 3, .var 9], .call i__law_part [.var 3, .var 9]])) (.not (.call i__law_like [.call i_without [.var 3, .var 9], .call i__law_part [.var 3, .var 11]]))) [
   .ret (.bl false)] [],
  .asg (.v 12) (.bi .tuple [.rev (.var 4)]),
  .iff (.not (.call i__law_like [.call i_with_order [.var 3, .var 12], .call i__law_part [.var 3, .var 12]])) [
   .ret (.bl false)] [],
  .asg (.v 13) (.tup [.call i__law_pick [.var 1, .bin .Add (.var 4) (.lst [.str "q"])], .str "any", .int 0, .int 5, .int 4, .int 1, .int 1]),
  .asg (.v 14) (.bin .Add (.bi .tuple [.comp true [("task", 15)] (.v 15) (.sub (.var 3) (.int 5)) [] (.ite (.cmp .Eq (.sub (.var 15) (.int 0)) (.sub (.var 13) (.int 0))) (.var 13) (.var 15))]) (.ite (.cmp .In (.sub (.var 13) (.int 0)) (.var 4)) (.tup []) (.tup [.var 13]))),
  .asg (.v 16) (.bi .tuple [.comp true [("lock", 17)] (.v 17) (.sub (.var 3) (.int 6)) [.or (.cmp .NotEq (.sub (.var 17) (.int 0)) (.sub (.var 13) (.int 0))) (.cmp .LtE (.sub (.var 17) (.int 3)) (.int 1))] (.var 17)]),
  .iff (.not (.call i__law_like [.call i_with_task [.var 3, .var 13], .bin .Add (.slc (.var 3) none (some (.int 5))) (.tup [.var 14, .var 16])])) [
   .ret (.bl false)] []] [z0, some (.ref 0), z2, z3, z4, z5, z6, z7, z8, z9, z10, z11, z12, z13, z14, z15, z16, z17] (bxc ds a :: R) PO := by
  refine s_consW (s_asgv (w_call (w_cons (w_var rfl (w_cons (w_int (w_cons (w_int (w_nil ?_)))))))))
  refine w_systemE (n := n + 3) (ds := ds) (a := a) (R := R) ?hm ?hx ?hy hR ha fun s a1 h hD ha1 => ?_
  case hm => rfl
  case hx => rfl
  case hy => rfl
  show WSs _ _ [z0, some (.ref 0), z2, some (sD s), z4, z5, z6, z7, z8, z9, z10, z11, z12, z13, z14, z15, z16, z17] (bxc ds a1 :: R) _
  refine s_consW (s_asgv (w_call (w_cons (w_var rfl (w_nil (w_of (c_lnames (n := n + 5) h) ?_))))))
  show WSs _ _ [z0, some (.ref 0), z2, some (sD s), some (.lst ((nms s).map .str)), z5, z6, z7, z8, z9, z10, z11, z12, z13, z14, z15, z16, z17] (bxc ds a1 :: R) _
  have hW : Wf (bxc ds a1 :: R) := wf_box hR
  have e1 := c_law_right (wf := wf) (n := n + 1) (S := bxc ds a1 :: R) (nc_sys h).th (by decide) hW
  have e2 := c_is_system (wf := wf) (n := n) (S := bxc ds a1 :: R) (nc_sys h).th (by decide) hW
  rw [sys_drawn h hD] at e1 e2
  refine s_consW (s_iffW (t_orW (t_notW (t_any (w_call (w_cons (w_var rfl (w_nil (w_of e1 ⟨true, rfl, ?_⟩)))))))))
  refine w_nit ?_
  refine t_cmpW (w_call (w_cons (w_var rfl (w_nil (w_of e2 (w_bl ⟨false, rfl, ?_⟩))))))
  refine w_iff' (s_nilW ?_)
  refine cutS ?_
  refine six_ok (n := n) h hR ha1 fun a2 z5 z6 ha2 => ?_
  refine cutS ?_
  refine text_ok (n := n + 4) ha2 fun a3 x ha3 hx => ?_
  refine cutS ?_
  refine words_ok (n := n + 3) hx fun z6 => ?_
  refine cutS ?_
  refine some_ok (n := n + 5) h ha3 fun a4 ts ha4 hs => ?_
  have hW4 : Wf (bxc ds a4 :: R) := wf_box hR
  refine ss_app (a := [_, _]) ?_
  refine parts_ok (n := n + 1) h hs hW4 fun z11 => ?_
  refine ss_app (a := [_, _]) ?_
  refine order_ok (n := n + 1) h hW4 fun z12 => ?_
  refine row_ok (n := n + 1) h hR ha4 fun a5 z13 z14 z15 z16 z17 ha5 => ?_
  exact hPO a5 _ _ _ _ _ _ _ _ _ _ _ _ _ _ _ ha5
theorem good_at {ns : List Int} : RPost (fun d S' => d = .bl true) ((fnsAt pg wf (n + 7)).call i_law [.frz (ns.map .int)] []) := by
  rw [call_at rfl]
  refine w_fd rfl ?_
  unfold f_law
  walk_at "fr"
  obtain ⟨ds, hd⟩ := c_digits (wf := wf) (n := n + 4) (ns := ns)
  refine s_consW (s_asgv (w_mkl (w_cons (w_call (w_cons (w_var rfl (w_cons (w_int (w_cons (w_int (w_nil (w_of hd (w_cons (w_int (w_nil ⟨small_ok (by show 2 ≤ 1000; decide), ?_⟩)))))))))))))))
  show WSs _ _ [some (.frz (ns.map .int)), some (.ref 0), none, none, none, none, none, none, none, none, none, none, none, none, none, none, none, none] [bxc ds 0] _
  refine s_consW (s_forW ?_)
  repeat walk_at "w"
  refine for_inv (fun l fr S' => ∃ (rest : List Nat) (a : Int) (z2 z3 z4 z5 z6 z7 z8 z9 z10 z11 z12 z13 z14 z15 z16 z17 : Option D), l = rest.map (fun j : Nat => D.int (j : Nat)) ∧ fr = [some (.frz (ns.map .int)), some (.ref 0), z2, z3, z4, z5, z6, z7, z8, z9, z10, z11, z12, z13, z14, z15, z16, z17] ∧ S' = [bxc ds a] ∧ 0 ≤ a) ?_ ?_ _ _ _
    ⟨List.range 3, 0, _, _, _, _, _, _, _, _, _, _, _, _, _, _, _, _, rfl, rfl, rfl, (by decide)⟩
  · rintro x l fr S' ⟨rest, a, z2, z3, z4, z5, z6, z7, z8, z9, z10, z11, z12, z13, z14, z15, z16, z17, e, rfl, rfl, ha⟩
    cases rest with
    | nil => cases e
    | cons k rest =>
      cases e
      refine ⟨[some (.frz (ns.map .int)), some (.ref 0), some (.int (k : Nat)), z3, z4, z5, z6, z7, z8, z9, z10, z11, z12, z13, z14, z15, z16, z17], rfl, ?_⟩
      refine turn_ok (n := n) (R := []) rfl ha fun a' w3 w4 w5 w6 w7 w8 w9 w10 w11 w12 w13 w14 w15 w16 w17 ha' => ?_
      exact ⟨rest, a', _, _, _, _, _, _, _, _, _, _, _, _, _, _, _, _, rfl, rfl, rfl, ha'⟩
  · rintro fr S' ⟨rest, a, z2, z3, z4, z5, z6, z7, z8, z9, z10, z11, z12, z13, z14, z15, z16, z17, e, rfl, rfl, ha⟩
    refine s_consW (s_fzW (n := 0) (l := [.lst (ds.map .int), .int a]) rfl rfl ?_)
    refine s_consW (s_retW (w_bl ?_))
    exact w_cut (Nat.zero_le _) rfl rfl rfl
theorem good : Good pg 63 21 i_law := by
  intro ns hlen
  refine ⟨2000000, ?_⟩
  have h := good_at (wf := 2000000) (n := 14) (ns := ns)
  rw [show 14 + 7 = 21 from rfl] at h
  obtain ⟨d, S', e, rfl⟩ := h.ex
  exact ⟨S', e⟩

end k01

end Dm

theorem Dm.k01.chk : Dm.chkFds Dm.k01.tab Dm.k01.tab.fns Dm.k01.pg.fns Dm.k01.sts = true := by decide +kernel
open PySem PySem.W PyProof.Rows
set_option maxHeartbeats 0 in
theorem PySem.Challenge.cw_timelyproof_k01_sys_systems_holds : PySem.Challenge.rw_timelyproof_k01_sys_systems.Holds := by
  w_on; o_law; k_head; (case hw => w_witness2)
  k_fill
  refine L2.walk_of (l := PySem.Challenge.rw_timelyproof_k01_sys_systems) (n := 63) (k := 21) (x := "script") (CX := fun _ => L2.CX0) (sp := fun w => Dm.spLaw _ 63) rfl (by decide) rfl ⟨rfl, by decide, by decide⟩ (fun w h Y => PySem.W.kIn_of Y) ?F (fun w H a ns hl hO hS => ⟨a, ns, rfl, hS, hl, hO, fun _ => rfl⟩) (fun _ _ _ _ _ h => h)
  case F =>
    intro w mg fa h KX G hmg
    refine' Dm.law_ok (sts := Dm.k01.sts) (Pg := Dm.k01.pg) (T := Dm.k01.tab) (n := 20) (i := Dm.k01.i_law) ?Mo KX G Dm.k01.chk rfl hmg rfl Dm.k01.good
    case Mo =>
      refine' Dm.Mod.of ?d ?c ?b (.inr rfl)
      case b =>
        repeat (refine' And.intro (And.intro ?x1 ?x2) ?_; (case x1 => k_is); (case x2 => decide +kernel))
        exact True.intro
      case c =>
        refine' And.intro ?c0 (And.intro ?c1 (And.intro ?c2 (And.intro ?c3 (And.intro ?c4 (And.intro ?c5 (And.intro ?c6 (And.intro ?c7 (And.intro ?c8 (And.intro ?c9 (And.intro ?c10 (And.intro ?c11 True.intro)))))))))))
        case c0 => refine' Dm.con_str ?y0_1; (case y0_1 => k_is)
        case c1 => refine' Dm.con_str ?y1_1; (case y1_1 => k_is)
        case c2 => refine' Dm.con_int ?y2_1; (case y2_1 => k_is)
        case c3 =>
          refine' Dm.con_strs (xs := Dm.Sy.closedL) ?y3_1 ?y3_2 ?y3_3 ?y3_4; (case y3_1 => k_is); (case y3_2 => k_is); (case y3_3 => decide +kernel)
          repeat (refine' And.intro ⟨_, rfl⟩ ?_)
          exact True.intro
        case c4 => refine' Dm.con_int ?y4_1; (case y4_1 => k_is)
        case c5 => refine' Dm.con_int ?y5_1; (case y5_1 => k_is)
        case c6 => refine' Dm.con_int ?y6_1; (case y6_1 => k_is)
        case c7 => refine' Dm.con_int ?y7_1; (case y7_1 => k_is)
        case c8 => refine' Dm.con_int ?y8_1; (case y8_1 => k_is)
        case c9 => refine' Dm.con_int ?y9_1; (case y9_1 => k_is)
        case c10 =>
          refine' Dm.con_strs (xs := Dm.Sy.rulesL) ?y10_1 ?y10_2 ?y10_3 ?y10_4; (case y10_1 => k_is); (case y10_2 => k_is); (case y10_3 => decide +kernel)
          repeat (refine' And.intro ⟨_, rfl⟩ ?_)
          exact True.intro
        case c11 =>
          refine' Dm.con_strs (xs := ["each", "any"]) ?y11_1 ?y11_2 ?y11_3 ?y11_4; (case y11_1 => k_is); (case y11_2 => k_is); (case y11_3 => decide +kernel)
          repeat (refine' And.intro ⟨_, rfl⟩ ?_)
          exact True.intro
      case d =>
        repeat (refine' And.intro (Dm.def_mk ?a ?l ?c ?k) ?_; (case a => k_is); (case l => k_is); (case c => k_is); (case k => k_is))
        exact True.intro

